/- What functions and loops compute: trees of nodes, found by a driver. -/
import Derived.Test.YthgifdbaegpbpaaGreatDoorAbsJ
import Derived.Test.YthgifdbaegpbpaaGreatDoorAbsPl
import Derived.Test.YthgifdbaegpbpaaGreatDoorAbsTold
import Derived.Test.YthgifdbaegpbpaaGreatDoorAbsTold2
import Derived.Test.YthgifdbaegpbpaaGreatDoorAbsTold3
import Derived.Test.YthgifdbaegpbpaaGreatDoorAbsFields
namespace Go.Proofs.YthgifdbaegpbpaaGreatDoor
open Go Go.aK
set_option maxRecDepth 100000
set_option linter.unusedVariables false
set_option linter.unusedSimpArgs false
namespace V
noncomputable section
abbrev sB (o:BinOp) (a b:Nat) (t:Tree):Tree:=.step (.bin o a b) t
abbrev sC (f:Nat) (l:List Nat) (j:Nat) (t:Tree):Tree:=.step (.call f l j) t
abbrev sL (o a:Nat) (t:Tree):Tree:=.step (.cell o a) t
abbrev sI (n:Int) (t:Tree):Tree:=.step (.ci .i64 n) t
abbrev sA (s a i:Nat) (t:Tree):Tree:=.step (.at s a i) t
abbrev sS (a j:Nat) (t:Tree):Tree:=.step (.yJ a j) t
abbrev sT (l:List UInt8) (t:Tree):Tree:=.step (.cs l) t
abbrev oI (f:Nat) (l:List Nat) (t:Tree):Tree:=sC f l 0<|sC f l 1<|sC f l 2<|sC f l 3<|sC f l 4<|t
abbrev OU (f:Nat) (l:List Nat) (t:Tree):Tree:=sC f l 0<|sC f l 1<|sC f l 2<|sC f l 3<|sC f l 4<|sC f l 5<|t
abbrev an7 (f:Nat) (l:List Nat) (t:Tree):Tree:=sC f l 0<|sC f l 1<|sC f l 2<|sC f l 3<|sC f l 4<|sC f l 5<|sC f l 6<|sC f l 7<|sC f l 8<|sC f l 9<|t
abbrev an8 (f:Nat) (l:List Nat) (t:Tree):Tree:=sC f l 0<|sC f l 1<|sC f l 2<|sC f l 3<|sC f l 4<|sC f l 5<|sC f l 6<|sC f l 7<|sC f l 8<|sC f l 9<|sC f l 10<|sC f l 11<|sC f l 12<|sC f l 13<|sC f l 14<|sC f l 15<|sC f l 16<|sC f l 17<|sC f l 18<|sC f l 19<|sC f l 20<|sC f l 21<|sC f l 22<|sC f l 23<|t
abbrev acD (f:Nat) (l:List Nat) (t:Tree):Tree:=sC f l 1<|sC f l 2<|sC f l 3<|sC f l 4<|t
abbrev an9 (f:Nat) (l:List Nat) (t:Tree):Tree:=sC f l 1<|sC f l 2<|sC f l 3<|sC f l 4<|sC f l 5<|sC f l 6<|sC f l 7<|sC f l 8<|sC f l 9<|sC f l 10<|sC f l 11<|sC f l 12<|sC f l 13<|sC f l 14<|sC f l 15<|sC f l 16<|sC f l 17<|sC f l 18<|sC f l 19<|sC f l 20<|sC f l 21<|sC f l 22<|t
abbrev G8 (f:Nat) (l:List Nat) (t:Tree):Tree:=sC f l 1<|sC f l 2<|sC f l 3<|sC f l 4<|sC f l 5<|sC f l 6<|sC f l 7<|sC f l 8<|sC f l 9<|sC f l 10<|sC f l 11<|sC f l 12<|sC f l 13<|sC f l 14<|sC f l 15<|sC f l 16<|sC f l 17<|sC f l 18<|sC f l 19<|sC f l 20<|sC f l 21<|sC f l 22<|sC f l 23<|sC f l 24<|t
abbrev aoa (f:Nat) (l:List Nat) (t:Tree):Tree:=sC f l 1<|sC f l 2<|sC f l 3<|sC f l 4<|sC f l 5<|sC f l 6<|sC f l 7<|sC f l 8<|sC f l 9<|sC f l 10<|sC f l 11<|sC f l 12<|sC f l 13<|sC f l 14<|sC f l 15<|sC f l 16<|sC f l 17<|sC f l 18<|sC f l 19<|sC f l 20<|sC f l 21<|sC f l 22<|sC f l 23<|sC f l 24<|sC f l 25<|t
abbrev lM (v3:Nat):Tree:=.tail 57 [0,1,2,v3,4,5,6,7,8,9,10,11,12,13,14,15,16,17,18,19,20,21,22,23,24,25,26,27,28]
abbrev l9 (v2:Nat):Tree:=.tail 58 [0,1,v2,3,4,5,6,7,8,9,10,11,12,13,14,15,16,17,18,19,20,21,22,23,24,25,26]
abbrev J3 (v2:Nat):Tree:=.tail 162 [0,1,v2,3,4,5,6,7,8,9,10,11,12,13,14,15,16,17,18,19,20,21,22,23,24,25,26]
def d41:aF:=.fn [.sc] [.sc,.sc]<|sI 0<|oI 42 [0,1]<|
 sB .neq 4 1<|.ite 7
 (.step (.ml [])<|.ret [8,4])
 (.step (.slen 5)<|sB .sub 8 6<|sB .gtr 9 1<|.ite 10
 (.step (.ml [])<|sI 10<|.ret [11,12])
 (.ret [3,1]))
def afi:aF:=.fn [.ag 2] [.sc]<|sL 0 0<|sL 1 0<|sI 1<|sI 64<|sC 116 [1,3,4] 0<|sI 0<|sB .neq 5 6<|
 .ite 7
 (.ret [5])
 (sI 256<|sC 116 [2,6,8] 0<|.ret [9])
def d51:aF:=.fn [.sc,.sc] [.sc]<|sI 0<|sC 52 [0,1,2] 0<|sC 52 [0,1,2] 1<|.ret [4]
def afJ:aF:=.fn [.sc] [.sc]<|.step (.len 0)<|sI 256<|sB .gtr 1 2<|.ite 3
 (sI 13<|.ret [4])
 (sI 0<|sC 155 [0,1,4] 0<|sB .eql 5 4<|.ite 6
 (sC 155 [0,1,4] 1<|.ret [7])
 (.ret [4]))
def afk:aF:=.fn [.ag 2,.ag 2] [.sc]<|sL 0 0<|sL 1 0<|sL 0 1<|sL 1 1<|sC 129 [2,4] 0<|.ite 6
 (sI (-1)<|.ret [7])
 (sB .eql 2 4<|.ite 7
 (sC 129 [3,5] 0<|.ite 8
 (sI (-1)<|.ret [9])
 (.step (.mk [2,3])<|.step (.mk [4,5])<|.step (.wF .eql [1,1] 9 10)<|.ite 11
 (sI 0<|.ret [12])
 (sI 1<|.ret [12])))
 (.step (.mk [2,3])<|.step (.mk [4,5])<|.step (.wF .eql [1,1] 8 9)<|.ite 10
 (sI 0<|.ret [11])
 (sI 1<|.ret [11])))
def d14:aF:=.fn [.sc,.sc] [.sc]<|sI 0<|sB .eql 0 2<|sI 1<|sB .eql 0 4<|.ite 5
 (sB .lss 1 4<|.ite 6
 (.step (.ml [])<|.ret [7])
 (sI 3<|sB .gtr 1 7<|.ite 8
 (.step (.ml [])<|.ret [9])
 (sC 15 [] 0<|.step (.len 9)<|.step (.ml [])<|sC 16 [1,11,9,10,2] 0<|sC 16 [1,11,9,10,2] 1<|.ret [13])))
 (sI 2<|sB .eql 0 6<|.ite 7
 (sB .lss 1 4<|.ite 8
 (.step (.ml [])<|.ret [9])
 (sI 3<|sB .gtr 1 9<|.ite 10
 (.step (.ml [])<|.ret [11])
 (sC 17 [] 0<|.step (.len 11)<|.step (.ml [])<|sC 16 [1,13,11,12,2] 0<|sC 16 [1,13,11,12,2] 1<|.ret [15])))
 (sI 3<|sB .eql 0 8<|.ite 9
 (sB .lss 1 4<|.ite 10
 (.step (.ml [])<|.ret [11])
 (sB .gtr 1 8<|.ite 11
 (.step (.ml [])<|.ret [12])
 (sC 18 [] 0<|.step (.len 12)<|.step (.ml [])<|sC 16 [1,14,12,13,2] 0<|sC 16 [1,14,12,13,2] 1<|.ret [16])))
 (sI 4<|sB .eql 0 10<|.ite 11
 (sB .lss 1 4<|.ite 12
 (.step (.ml [])<|.ret [13])
 (sB .gtr 1 8<|.ite 13
 (.step (.ml [])<|.ret [14])
 (sC 19 [] 0<|.step (.len 14)<|.step (.ml [])<|sC 16 [1,16,14,15,2] 0<|sC 16 [1,16,14,15,2] 1<|.ret [18])))
 (sI 5<|sB .eql 0 12<|.ite 13
 (sB .lss 1 4<|.ite 14
 (.step (.ml [])<|.ret [15])
 (sB .gtr 1 8<|.ite 15
 (.step (.ml [])<|.ret [16])
 (sC 20 [] 0<|.step (.len 16)<|.step (.ml [])<|sC 16 [1,18,16,17,2] 0<|sC 16 [1,18,16,17,2] 1<|.ret [20])))
 (sI 6<|sB .eql 0 14<|.ite 15
 (sB .lss 1 6<|.ite 16
 (.step (.ml [])<|.ret [17])
 (sB .gtr 1 8<|.ite 17
 (.step (.ml [])<|.ret [18])
 (sC 21 [] 0<|.step (.len 18)<|.step (.ml [])<|sC 16 [1,20,18,19,2] 0<|sC 16 [1,20,18,19,2] 1<|.ret [22])))
 (sI 7<|sB .eql 0 16<|.ite 17
 (sB .lss 1 4<|.ite 18
 (.step (.ml [])<|.ret [19])
 (sB .gtr 1 8<|.ite 19
 (.step (.ml [])<|.ret [20])
 (sC 22 [] 0<|.step (.len 20)<|.step (.ml [])<|sC 16 [1,22,20,21,2] 0<|sC 16 [1,22,20,21,2] 1<|.ret [24])))
 (sI 8<|sB .eql 0 18<|.ite 19
 (sB .lss 1 4<|.ite 20
 (.step (.ml [])<|.ret [21])
 (sB .gtr 1 8<|.ite 21
 (.step (.ml [])<|.ret [22])
 (sC 23 [] 0<|.step (.len 22)<|.step (.ml [])<|sC 16 [1,24,22,23,2] 0<|sC 16 [1,24,22,23,2] 1<|.ret [26])))
 (.step (.ml [])<|.ret [20]))))))))
def afM:aF:=.fn [.sc] [.sc]<|.step (.len 0)<|.step (.conv .u64 1)<|.step (.ci .u64 0)<|sB .eql 2 3<|.ite 4
 (sI 12<|sI 0<|sC 158 [0,5,6] 0<|sC 158 [0,5,6] 1<|.ret [8])
 (.step (.ci .u64 16)<|sB .gtr 2 5<|.ite 6
 (sI 13<|sI 0<|sC 158 [0,7,8] 0<|sC 158 [0,7,8] 1<|.ret [10])
 (sI 0<|sC 158 [0,7,7] 0<|sC 158 [0,7,7] 1<|.ret [9]))
def d22:aF:=.fn [] [.sc]<|.step (.ci .u64 1)<|sI 0<|sI 1<|sT [101,112,111,99,104]<|.step (.mk [0,1,2,3])<|.step (.ci .u64 2)<|sI 3<|
 sT [108,97,103]<|.step (.mk [5,1,6,7])<|.step (.ml [4,8])<|.ret [9]
def afs:aF:=.fn [.sc,.sc] [.sc]<|sI 0<|sC 137 [0,1,2] 0<|sB .eql 3 2<|.ite 4
 (sC 137 [0,1,2] 1<|.ret [5])
 (.step (.slen 0)<|.step (.slen 1)<|.step (.mm false 5 6)<|.ret [7])
def afo:aF:=.fn [.sc] [.sc,.sc,.sc]<|sC 100 [0] 0<|sC 100 [0] 1<|sC 100 [0] 2<|sI 0<|sB .neq 3 4<|.ite 5
 (.step (.ml [])<|sT []<|.ret [6,7,3])
 (.step (.ci .u64 256)<|sB .gtr 1 6<|.ite 7
 (.step (.ml [])<|sT []<|sI 13<|.ret [8,9,10])
 (.step (.slen 0)<|.step (.fV 0 2 8)<|sT []<|.step (.ci .u64 0)<|.step (.ml [])<|sC 133 [9,1,12,10,11] 0<|sB .eql 13 4<|.ite 14
 (sC 133 [9,1,12,10,11] 1<|.ret [12,10,15])
 (sC 133 [9,1,12,10,11] 1<|sC 133 [9,1,12,10,11] 2<|.ret [16,15,4])))
def d27:aF:=.fn [.sc,.sc] [.sc,.sc]<|.step (.len 1)<|sI 0<|.step (.ml [])<|sC 28 [0,1,2,3,4] 0<|sC 28 [0,1,2,3,4] 1<|.step (.len 0)<|
 sC 29 [0,4,4,7,3,6] 0<|sC 29 [0,4,4,7,3,6] 1<|sC 29 [0,4,4,7,3,6] 2<|sC 30 [9] 0<|sC 30 [10] 0<|.ret [11,12]
def afO:aF:=.fn [.sc] [.sc]<|.step (.len 0)<|.step (.conv .u64 1)<|sC 149 [2] 0<|sI 0<|sC 160 [0,3,1,4] 0<|sC 160 [0,3,1,4] 1<|
 .ret [6]
def d47:aF:=.fn [.sc] [.sc,.sc]<|sI 0<|oI 48 [0,1]<|
 sB .neq 4 1<|.ite 7
 (.step (.ml [])<|.ret [8,4])
 (.step (.slen 5)<|sB .sub 8 6<|sB .gtr 9 1<|.ite 10
 (.step (.ml [])<|sI 10<|.ret [11,12])
 (.ret [3,1]))
def d15:aF:=.fn [] [.sc]<|.step (.ci .u64 1)<|sI 0<|sI 1<|sT [109,105,110]<|.step (.mk [0,1,2,3])<|.step (.ci .u64 2)<|sT [109,97,120]<|
 .step (.mk [5,1,2,6])<|.step (.ci .u64 3)<|sI 3<|sT [110,97,109,101]<|.step (.mk [8,9,2,10])<|.step (.ci .u64 4)<|sI 2<|sT [114,101,103,105,111,110]<|
 .step (.mk [12,9,13,14])<|.step (.ci .u64 5)<|sT [102,108,97,103,115]<|.step (.mk [16,1,9,17])<|.step (.ml [4,7,11,15,18])<|.ret [19]
def afr:aF:=.fn [.sc,.sc] [.sc]<|sT []<|.step (.mk [0,2])<|.step (.mk [1,2])<|sC 128 [3,4] 0<|sI 0<|sB .lss 5 6<|.ret [7]
def d99:aF:=.fn [.sc,.sc] [.ag 24,.sc]<|sI 1<|sB .lss 1 2<|.ite 3
 (sI 0<|.step (.ci .u64 0)<|.step (.cb false)<|sT []<|.step (.ml [])<|sI 16<|.step (.mk [4,5,5,5,5,5,5,5,5,5,5,5,5,5,5,5,4,6,7,7,7,8,8,8])<|
 .ret [10,9])
 (sI 3<|sB .gtr 1 4<|.ite 5
 (sI 0<|.step (.ci .u64 0)<|.step (.cb false)<|sT []<|.step (.ml [])<|sI 16<|.step (.mk [6,7,7,7,7,7,7,7,7,7,7,7,7,7,7,7,6,8,9,9,9,10,10,10])<|
 .ret [12,11])
 (.step (.slen 0)<|sI 65536<|sB .gtr 6 7<|.ite 8
 (sI 0<|.step (.ci .u64 0)<|.step (.cb false)<|sT []<|.step (.ml [])<|sI 4<|.step (.mk [9,10,10,10,10,10,10,10,10,10,10,10,10,10,10,10,9,11,12,12,12,13,13,13])<|
 .ret [15,14])
 (sC 100 [0] 0<|sC 100 [0] 1<|sC 100 [0] 2<|sI 0<|sB .neq 11 12<|.ite 13
 (.step (.ci .u64 0)<|.step (.cb false)<|sT []<|.step (.ml [])<|.step (.mk [12,14,14,14,14,14,14,14,14,14,14,14,14,14,14,14,12,15,16,16,16,17,17,17])<|
 .ret [18,11])
 (.step (.ci .u64 0)<|sB .eql 9 14<|.ite 15
 (.step (.cb false)<|sT []<|.step (.ml [])<|sI 15<|.step (.mk [12,14,14,14,14,14,14,14,14,14,14,14,14,14,14,14,12,16,17,17,17,18,18,18])<|
 .ret [20,19])
 (.step (.ci .u64 8)<|sB .gtr 9 16<|.ite 17
 (.step (.cb false)<|sT []<|.step (.ml [])<|sI 15<|.step (.mk [12,14,14,14,14,14,14,14,14,14,14,14,14,14,14,14,12,18,19,19,19,20,20,20])<|
 .ret [22,21])
 (.step (.conv .i64 9)<|sI 6<|sB .eql 18 19<|.ite 20
 (sI 2<|sB .gtr 21 1<|.ite 22
 (.step (.cb false)<|sT []<|.step (.ml [])<|sI 15<|.step (.mk [12,14,14,14,14,14,14,14,14,14,14,14,14,14,14,14,12,23,24,24,24,25,25,25])<|
 .ret [27,26])
 (.step (.fV 0 10 6)<|sC 103 [23] 0<|sC 103 [23] 1<|sB .neq 25 12<|.ite 26
 (.step (.cb false)<|sT []<|.step (.ml [])<|.step (.mk [12,14,14,14,14,14,14,14,14,14,14,14,14,14,14,14,12,27,28,28,28,29,29,29])<|.ret [30,25])
 (.step (.len 24)<|.step (.cb false)<|sT []<|.step (.ml [])<|sC 107 [1,9,24,27,12,18,14,14,14,14,14,14,14,14,14,14,14,14,14,14,14,12,28,29,29,29,30,30,30] 0<|
 sB .eql 31 12<|.ite 32
 (sC 107 [1,9,24,27,12,18,14,14,14,14,14,14,14,14,14,14,14,14,14,14,14,12,28,29,29,29,30,30,30] 1<|.step (.mk [12,14,14,14,14,14,14,14,14,14,14,14,14,14,14,14,12,28,29,29,29,30,30,30])<|
 .ret [34,33])
 (G8 107 [1,9,24,27,12,18,14,14,14,14,14,14,14,14,14,14,14,14,14,14,14,12,28,29,29,29,30,30,30]<|
 .step (.mk [33,34,35,36,37,38,39,40,41,42,43,44,45,46,47,48,49,50,51,52,53,54,55,56])<|sC 140 [57,1] 0<|sB .neq 58 12<|.ite 59
 (.step (.mk [12,14,14,14,14,14,14,14,14,14,14,14,14,14,14,14,12,28,29,29,29,30,30,30])<|.ret [60,58])
 (.ret [57,12])))))
 (sB .lss 18 2<|.ite 21
 (sB .gtr 12 1<|.ite 22
 (.step (.cb false)<|sT []<|.step (.ml [])<|sI 15<|.step (.mk [12,14,14,14,14,14,14,14,14,14,14,14,14,14,14,14,12,23,24,24,24,25,25,25])<|
 .ret [27,26])
 (.step (.fV 0 10 6)<|sC 103 [23] 0<|sC 103 [23] 1<|sB .neq 25 12<|.ite 26
 (.step (.cb false)<|sT []<|.step (.ml [])<|.step (.mk [12,14,14,14,14,14,14,14,14,14,14,14,14,14,14,14,12,27,28,28,28,29,29,29])<|.ret [30,25])
 (.step (.len 24)<|.step (.cb false)<|sT []<|.step (.ml [])<|sC 107 [1,9,24,27,12,18,14,14,14,14,14,14,14,14,14,14,14,14,14,14,14,12,28,29,29,29,30,30,30] 0<|
 sB .eql 31 12<|.ite 32
 (sC 107 [1,9,24,27,12,18,14,14,14,14,14,14,14,14,14,14,14,14,14,14,14,12,28,29,29,29,30,30,30] 1<|.step (.mk [12,14,14,14,14,14,14,14,14,14,14,14,14,14,14,14,12,28,29,29,29,30,30,30])<|
 .ret [34,33])
 (G8 107 [1,9,24,27,12,18,14,14,14,14,14,14,14,14,14,14,14,14,14,14,14,12,28,29,29,29,30,30,30]<|
 .step (.mk [33,34,35,36,37,38,39,40,41,42,43,44,45,46,47,48,49,50,51,52,53,54,55,56])<|sC 140 [57,1] 0<|sB .neq 58 12<|.ite 59
 (.step (.mk [12,14,14,14,14,14,14,14,14,14,14,14,14,14,14,14,12,28,29,29,29,30,30,30])<|.ret [60,58])
 (.ret [57,12])))))
 (sI 8<|sB .gtr 18 22<|.ite 23
 (sB .gtr 12 1<|.ite 24
 (.step (.cb false)<|sT []<|.step (.ml [])<|sI 15<|.step (.mk [12,14,14,14,14,14,14,14,14,14,14,14,14,14,14,14,12,25,26,26,26,27,27,27])<|
 .ret [29,28])
 (.step (.fV 0 10 6)<|sC 103 [25] 0<|sC 103 [25] 1<|sB .neq 27 12<|.ite 28
 (.step (.cb false)<|sT []<|.step (.ml [])<|.step (.mk [12,14,14,14,14,14,14,14,14,14,14,14,14,14,14,14,12,29,30,30,30,31,31,31])<|.ret [32,27])
 (.step (.len 26)<|.step (.cb false)<|sT []<|.step (.ml [])<|sC 107 [1,9,26,29,12,18,14,14,14,14,14,14,14,14,14,14,14,14,14,14,14,12,30,31,31,31,32,32,32] 0<|
 sB .eql 33 12<|.ite 34
 (sC 107 [1,9,26,29,12,18,14,14,14,14,14,14,14,14,14,14,14,14,14,14,14,12,30,31,31,31,32,32,32] 1<|.step (.mk [12,14,14,14,14,14,14,14,14,14,14,14,14,14,14,14,12,30,31,31,31,32,32,32])<|
 .ret [36,35])
 (G8 107 [1,9,26,29,12,18,14,14,14,14,14,14,14,14,14,14,14,14,14,14,14,12,30,31,31,31,32,32,32]<|
 .step (.mk [35,36,37,38,39,40,41,42,43,44,45,46,47,48,49,50,51,52,53,54,55,56,57,58])<|sC 140 [59,1] 0<|sB .neq 60 12<|.ite 61
 (.step (.mk [12,14,14,14,14,14,14,14,14,14,14,14,14,14,14,14,12,30,31,31,31,32,32,32])<|.ret [62,60])
 (.ret [59,12])))))
 (sB .gtr 2 1<|.ite 24
 (.step (.cb false)<|sT []<|.step (.ml [])<|sI 15<|.step (.mk [12,14,14,14,14,14,14,14,14,14,14,14,14,14,14,14,12,25,26,26,26,27,27,27])<|
 .ret [29,28])
 (.step (.fV 0 10 6)<|sC 103 [25] 0<|sC 103 [25] 1<|sB .neq 27 12<|.ite 28
 (.step (.cb false)<|sT []<|.step (.ml [])<|.step (.mk [12,14,14,14,14,14,14,14,14,14,14,14,14,14,14,14,12,29,30,30,30,31,31,31])<|.ret [32,27])
 (.step (.len 26)<|.step (.cb false)<|sT []<|.step (.ml [])<|sC 107 [1,9,26,29,12,18,14,14,14,14,14,14,14,14,14,14,14,14,14,14,14,12,30,31,31,31,32,32,32] 0<|
 sB .eql 33 12<|.ite 34
 (sC 107 [1,9,26,29,12,18,14,14,14,14,14,14,14,14,14,14,14,14,14,14,14,12,30,31,31,31,32,32,32] 1<|.step (.mk [12,14,14,14,14,14,14,14,14,14,14,14,14,14,14,14,12,30,31,31,31,32,32,32])<|
 .ret [36,35])
 (G8 107 [1,9,26,29,12,18,14,14,14,14,14,14,14,14,14,14,14,14,14,14,14,12,30,31,31,31,32,32,32]<|
 .step (.mk [35,36,37,38,39,40,41,42,43,44,45,46,47,48,49,50,51,52,53,54,55,56,57,58])<|sC 140 [59,1] 0<|sB .neq 60 12<|.ite 61
 (.step (.mk [12,14,14,14,14,14,14,14,14,14,14,14,14,14,14,14,12,30,31,31,31,32,32,32])<|.ret [62,60])
 (.ret [59,12])))))))))))))
def afv:aF:=.fn [.ag 24,.sc] [.sc]<|sL 0 0<|sL 1 0<|sL 2 0<|sL 3 0<|sL 4 0<|sL 5 0<|sL 6 0<|sL 7 0<|
 sL 8 0<|sL 9 0<|sL 10 0<|sL 11 0<|sL 12 0<|sL 13 0<|sL 14 0<|sL 15 0<|sL 16 0<|
 sL 17 0<|sL 18 0<|sL 19 0<|sL 20 0<|sL 21 0<|sL 22 0<|sL 23 0<|sI 1<|sB .lss 1 26<|
 .ite 27
 (sI 16<|.ret [28])
 (sI 3<|sB .gtr 1 28<|.ite 29
 (sI 16<|.ret [30])
 (sC 108 [2,1] 0<|.step (.len 30)<|sI 0<|sB .eql 31 32<|.ite 33
 (sI 15<|.ret [34])
 (sC 141 [] 0<|.step (.len 34)<|sC 142 [30,34,35,32,2,3,4,5,6,7,8,9,10,11,12,13,14,15,16,17,18,19,20,21,22,23,24,25] 0<|sB .eql 36 32<|
 .ite 37
 (sI 26<|.ret [38])
 (sC 162 [30,31,32,2,3,4,5,6,7,8,9,10,11,12,13,14,15,16,17,18,19,20,21,22,23,24,25] 0<|sB .eql 38 32<|.ite 39
 (sC 162 [30,31,32,2,3,4,5,6,7,8,9,10,11,12,13,14,15,16,17,18,19,20,21,22,23,24,25] 1<|.ret [40])
 (sB .eql 2 26<|.ite 40
 (.step (.ci .u64 0)<|sB .eql 4 41<|.ite 42
 (sI 18<|.ret [43])
 (sB .lss 5 4<|.ite 43
 (sI 18<|.ret [44])
 (.step (.ci .u64 255)<|sB .gtr 5 44<|.ite 45
 (sI 18<|.ret [46])
 (sI 2<|sB .eql 2 46<|sI 5<|sB .eql 2 48<|sI 6<|sB .eql 2 50<|sB .eql 2 28<|sC 163 [25,32] 0<|
 sB .neq 53 32<|.ite 54
 (.ret [53])
 (.step (.len 25)<|sC 165 [30,25,55,32] 0<|sB .eql 56 32<|.ite 57
 (sI 14<|.ret [58])
 (.ret [32]))))))
 (sI 2<|sB .eql 2 41<|.ite 42
 (.step (.ci .u64 0)<|sB .eql 6 43<|.ite 44
 (sI 18<|.ret [45])
 (.step (.ci .u64 255)<|sB .gtr 6 45<|.ite 46
 (sI 18<|.ret [47])
 (sI 5<|sB .eql 2 47<|sI 6<|sB .eql 2 49<|sB .eql 2 28<|sC 163 [25,32] 0<|sB .neq 52 32<|.ite 53
 (.ret [52])
 (.step (.len 25)<|sC 165 [30,25,54,32] 0<|sB .eql 55 32<|.ite 56
 (sI 14<|.ret [57])
 (.ret [32])))))
 (sI 5<|sB .eql 2 43<|.ite 44
 (.step (.ci .u64 0)<|sB .eql 12 45<|.ite 46
 (sI 18<|.ret [47])
 (sI 6<|sB .eql 2 47<|sB .eql 2 28<|sC 163 [25,32] 0<|sB .neq 50 32<|.ite 51
 (.ret [50])
 (.step (.len 25)<|sC 165 [30,25,52,32] 0<|sB .eql 53 32<|.ite 54
 (sI 14<|.ret [55])
 (.ret [32]))))
 (sI 6<|sB .eql 2 45<|.ite 46
 (.step (.ci .u64 0)<|sB .eql 13 47<|.ite 48
 (sI 18<|.ret [49])
 (sB .eql 2 28<|sB .leq 12 13<|.ite 50
 (sI 20<|.ret [51])
 (sC 163 [25,32] 0<|sB .neq 51 32<|.ite 52
 (.ret [51])
 (.step (.len 25)<|sC 165 [30,25,53,32] 0<|sB .eql 54 32<|.ite 55
 (sI 14<|.ret [56])
 (.ret [32])))))
 (sB .eql 2 28<|.ite 47
 (.step (.len 23)<|sB .eql 48 32<|.ite 49
 (sI 12<|.ret [50])
 (sC 163 [25,32] 0<|sB .neq 50 32<|.ite 51
 (.ret [50])
 (.step (.len 25)<|sC 165 [30,25,52,32] 0<|sB .eql 53 32<|.ite 54
 (sI 14<|.ret [55])
 (.ret [32]))))
 (sC 163 [25,32] 0<|sB .neq 48 32<|.ite 49
 (.ret [48])
 (.step (.len 25)<|sC 165 [30,25,50,32] 0<|sB .eql 51 32<|.ite 52
 (sI 14<|.ret [53])
 (.ret [32]))))))))))))
def afQ:aF:=.fn [.sc,.sc] [.sc]<|sC 136 [0,1] 0<|.step (.conv .u64 2)<|sC 149 [3] 0<|.step (.slen 1)<|sB .sub 5 2<|.step (.conv .u64 6)<|sC 149 [7] 0<|
 sB .add 4 8<|.step (.fV 1 2 5)<|sB .add 9 10<|.ret [11]
def d38:aF:=.fn [.sc,.sc,.sc] [.sc]<|.step (.slen 0)<|sB .lss 3 1<|.ite 4
 (sI 13<|.ret [5])
 (sB .gtr 3 2<|.ite 5
 (sI 13<|.ret [6])
 (sC 39 [0] 0<|.step (.un .not 6)<|.ite 7
 (sI 11<|.ret [8])
 (sI 0<|.ret [8])))
def afg:aF:=.fn [.sc] [.ag 2,.sc,.sc]<|sC 125 [0] 0<|sC 125 [0] 1<|sC 125 [0] 2<|sI 0<|sB .neq 3 4<|.ite 5
 (sT []<|.step (.mk [6,6])<|.ret [7,6,3])
 (sC 125 [2] 0<|sC 125 [2] 1<|sC 125 [2] 2<|sB .neq 8 4<|.ite 9
 (sT []<|.step (.mk [10,10])<|.ret [11,10,8])
 (.step (.mk [1,6])<|sC 126 [10] 0<|sB .neq 11 4<|.ite 12
 (sT []<|.step (.mk [13,13])<|.ret [14,13,11])
 (.ret [10,7,4])))
def afj:aF:=.fn [.ag 2,.ag 2] [.sc]<|sL 0 0<|sL 1 0<|sL 0 1<|sL 1 1<|sB .eql 2 4<|.ite 6
 (sI 14<|.ret [7])
 (.step (.mk [2,3])<|.step (.mk [4,5])<|sC 128 [7,8] 0<|sI 0<|sB .gtr 9 10<|.ite 11
 (sI 7<|.ret [12])
 (.ret [10]))
def afh:aF:=.fn [.sc] [.sc,.sc,.sc]<|sC 100 [0] 0<|sC 100 [0] 1<|sC 100 [0] 2<|sI 0<|sB .neq 3 4<|.ite 5
 (sT []<|.ret [6,6,3])
 (.step (.slen 0)<|sB .sub 6 2<|.step (.conv .u64 7)<|sB .gtr 1 8<|.ite 9
 (sT []<|sI 1<|.ret [10,10,11])
 (.step (.conv .i64 1)<|sB .add 2 10<|.step (.fV 0 2 11)<|.step (.fV 0 11 6)<|.ret [12,13,4]))
def afX:aF:=.fn [.sc] [.sc]<|.step (.len 0)<|sI 0<|.step (.ml [])<|sC 169 [3,0,1,2] 0<|sC 169 [3,0,1,2] 1<|.ret [5]
def d37:aF:=.fn [.sc] [.sc]<|sI 0<|sB .eql 0 1<|.ite 2
 (.ret [1])
 (sI 1<|sB .eql 0 3<|.ite 4
 (.ret [1])
 (sI 2<|sB .eql 0 5<|.ite 6
 (.ret [1])
 (sI 3<|sB .eql 0 7<|.ite 8
 (.ret [3])
 (sI 4<|sB .eql 0 9<|.ite 10
 (.ret [3])
 (sI 5<|sB .eql 0 11<|.ite 12
 (.ret [3])
 (sI (-1)<|.ret [13]))))))
def afH:aF:=.fn [.ag 2] [.sc]<|sL 0 0<|sL 1 0<|.step (.slen 1)<|.step (.conv .u64 3)<|sC 149 [4] 0<|sB .add 5 1<|.step (.slen 2)<|
 .step (.conv .u64 7)<|sC 149 [8] 0<|sB .add 6 9<|sB .add 10 2<|.ret [11]
def ae9:aF:=.fn [.sc] [.sc]<|sC 118 [0] 0<|sI 0<|sB .eql 1 2<|.ite 3
 (.step (.cb false)<|.ret [4])
 (.step (.cb true)<|.ret [4])
def af2:aF:=.fn [.sc] [.sc]<|.step (.len 0)<|sI 0<|.step (.ml [])<|sC 173 [3,0,1,2] 0<|sC 173 [3,0,1,2] 1<|.ret [5]
def d46:aF:=.fn [.ag 2] [.sc]<|sL 0 0<|sL 1 0<|sI 1<|sI 64<|sC 38 [1,3,4] 0<|sI 0<|sB .neq 5 6<|
 .ite 7
 (.ret [5])
 (sI 256<|sC 38 [2,6,8] 0<|.ret [9])
def d3:aF:=.fn [.sc] [.sc,.sc,.sc]<|.step (.slen 0)<|sI 10<|.step (.mm false 1 2)<|.step (.ci .u64 0)<|sI 0<|sC 4 [0,4,3,5] 0<|sB .eql 6 5<|
 .ite 7
 (sC 4 [0,4,3,5] 1<|sC 4 [0,4,3,5] 2<|sC 4 [0,4,3,5] 3<|.ret [8,9,10])
 (sC 4 [0,4,3,5] 1<|.step (.slen 8)<|sB .geq 9 2<|.ite 10
 (sI 3<|.ret [4,5,11])
 (sI 1<|.ret [4,5,11]))
def d72:aF:=.fn [.sc] [.sc]<|sC 73 [0] 0<|.step (.ci .u8 0)<|.step (.rep 1 1 2 1 1)<|.step (.len 3)<|sI 0<|sC 75 [0,3,4,5] 0<|sC 75 [0,3,4,5] 1<|
 .step (.len 7)<|sI 1<|sB .sub 8 9<|.step (.idx 7 10)<|sA 1 7 11<|sL 0 12<|.step (.ci .u8 127)<|sB .and 13 14<|.step (.upd 1 0 7 11 [15])<|
 .step (.str 16)<|.ret [17]
def d65:aF:=.fn [.sc] [.sc]<|.step (.len 0)<|.step (.conv .u64 1)<|.step (.ci .u64 0)<|sB .eql 2 3<|.ite 4
 (sI 12<|.ret [5])
 (.step (.ci .u64 16)<|sB .gtr 2 5<|.ite 6
 (sI 13<|.ret [7])
 (sI 0<|sC 66 [0,1,7] 0<|sB .eql 8 7<|.ite 9
 (sC 66 [0,1,7] 1<|.ret [10])
 (.ret [7])))
def d23:aF:=.fn [] [.sc]<|.step (.ci .u64 1)<|sI 0<|sI 1<|sT [101,112,111,99,104]<|.step (.mk [0,1,2,3])<|.step (.ci .u64 2)<|sT [99,111,100,101]<|
 .step (.mk [5,1,2,6])<|.step (.ci .u64 3)<|sI 2<|sT [119,97,110,116]<|.step (.mk [8,1,9,10])<|.step (.ci .u64 4)<|sI 3<|sT [110,111,116,101]<|
 .step (.mk [12,13,13,14])<|.step (.ml [4,7,11,15])<|.ret [16]
abbrev d56:aF:=.tY Oc
def d73:aF:=.fn [.sc] [.sc]<|sI 1<|sC 74 [0,1] 0<|sC 74 [0,1] 1<|.ret [3]
def d71:aF:=.fn [.sc] [.sc]<|.step (.len 0)<|.step (.conv .u64 1)<|sC 72 [2] 0<|.step (.bytes 3)<|.step (.ml [])<|.step (.app 1 1 5 4)<|.step (.slen 3)<|sI 0<|
 sC 76 [0,1,8,6] 0<|sC 76 [0,1,8,6] 1<|.step (.len 10)<|.step (.str 10)<|.ret [12]
def afd:aF:=.fn [.sc] [.sc,.sc]<|sC 122 [0] 0<|sC 122 [0] 1<|sC 122 [0] 2<|sI 0<|sB .neq 3 4<|.ite 5
 (.step (.ml [])<|.ret [6,3])
 (sT []<|sB .neq 2 6<|.ite 7
 (.step (.ml [])<|sI 10<|.ret [8,9])
 (.ret [1,4]))
def d6:aF:=.fn [.sc] [.sc,.sc]<|.step (.slen 0)<|sI 65536<|sB .gtr 1 2<|.ite 3
 (.step (.ml [])<|sI 4<|.ret [4,5])
 (sI 0<|.step (.ci .u64 0)<|OU 7 [0,4,5,4]<|
 .ret [7,8])
def afZ:aF:=.fn [.sc] [.sc]<|.step (.len 0)<|sI 0<|.step (.ml [])<|sC 171 [3,0,1,2] 0<|sC 171 [3,0,1,2] 1<|.ret [5]
abbrev d40:aF:=.tY Hw
def d68:aF:=.fn [.sc] [.sc]<|.step (.len 0)<|sI 256<|sB .gtr 1 2<|.ite 3
 (sI 13<|.ret [4])
 (sT []<|sI 0<|sC 69 [4,0,1,5] 0<|sB .eql 6 5<|.ite 7
 (sC 69 [4,0,1,5] 1<|.ret [8])
 (.ret [5]))
def d77:aF:=.fn [.ag 2] [.sc]<|sL 0 0<|sL 1 0<|.step (.slen 1)<|.step (.conv .u64 3)<|sC 72 [4] 0<|sB .add 5 1<|.step (.slen 2)<|.step (.conv .u64 7)<|
 sC 72 [8] 0<|sB .add 6 9<|sB .add 10 2<|.ret [11]
def aga:aF:=.fn [.sc,.sc] [.sc]<|.step (.len 0)<|.step (.len 1)<|sB .neq 2 3<|.ite 4
 (.step (.cb false)<|.ret [5])
 (sI 0<|sC 180 [0,1,2,5] 0<|sB .eql 6 5<|.ite 7
 (.step (.cb false)<|.ret [8])
 (.step (.cb true)<|.ret [8]))
def d1:aF:=.fn [.sc,.sc] [.sc]<|.step (.slen 0)<|sI 6000<|sB .gtr 2 3<|.ite 4
 (.step (.cb true)<|.ret [5])
 (sC 2 [0,1] 0<|sL 0 5<|sL 1 5<|sL 2 5<|sL 3 5<|sL 4 5<|sL 5 5<|sL 6 5<|sL 7 5<|
 sL 8 5<|sL 9 5<|sL 10 5<|sL 11 5<|sL 12 5<|sL 13 5<|sL 14 5<|sL 15 5<|sL 16 5<|
 sL 17 5<|sL 18 5<|sL 19 5<|sL 20 5<|sL 21 5<|sL 22 5<|sL 23 5<|sC 2 [0,1] 1<|sC 99 [0,1] 0<|
 sL 0 31<|sL 1 31<|sL 2 31<|sL 3 31<|sL 4 31<|sL 5 31<|sL 6 31<|sL 7 31<|sL 8 31<|
 sL 9 31<|sL 10 31<|sL 11 31<|sL 12 31<|sL 13 31<|sL 14 31<|sL 15 31<|sL 16 31<|sL 17 31<|
 sL 18 31<|sL 19 31<|sL 20 31<|sL 21 31<|sL 22 31<|sL 23 31<|sC 99 [0,1] 1<|.step (.mk [6,7,8,9,10,11,12,13,14,15,16,17,18,19,20,21,22,23,24,25,26,27,28,29])<|
 sC 167 [57] 0<|sL 0 58<|sL 1 58<|sL 2 58<|sL 3 58<|sL 4 58<|sL 5 58<|sL 6 58<|sL 7 58<|
 sL 8 58<|sL 9 58<|sL 10 58<|sL 11 58<|sL 12 58<|sL 13 58<|sL 14 58<|sL 15 58<|sL 16 58<|
 sL 17 58<|sL 18 58<|sL 19 58<|sL 20 58<|sL 21 58<|sL 22 58<|sL 23 58<|.step (.mk [59,60,61,62,63,64,65,66,67,68,69,70,71,72,73,74,75,76,77,78,79,80,81,82])<|
 .step (.mk [32,33,34,35,36,37,38,39,40,41,42,43,44,45,46,47,48,49,50,51,52,53,54,55])<|sC 174 [83,84] 0<|.ite 85
 (sB .eql 30 56<|.ret [86])
 (.step (.cb false)<|.ret [86]))
def d20:aF:=.fn [] [.sc]<|.step (.ci .u64 1)<|sI 0<|sI 1<|sT [101,112,111,99,104]<|.step (.mk [0,1,2,3])<|.step (.ci .u64 2)<|sI 5<|
 sT [116,97,98,108,101]<|.step (.mk [5,6,2,7])<|.step (.ci .u64 3)<|sI 3<|sI 2<|sT [114,101,103,105,111,110]<|.step (.mk [9,10,11,12])<|
 .step (.ci .u64 4)<|sT [100,105,103,101,115,116]<|.step (.mk [14,1,10,15])<|.step (.ml [4,8,13,16])<|.ret [17]
def afn:aF:=.fn [.sc] [.sc,.sc]<|sC 132 [0] 0<|sC 132 [0] 1<|sC 132 [0] 2<|sI 0<|sB .neq 3 4<|.ite 5
 (.step (.ml [])<|.ret [6,3])
 (sT []<|sB .neq 2 6<|.ite 7
 (.step (.ml [])<|sI 10<|.ret [8,9])
 (.ret [1,4]))
abbrev d34:aF:=.tY (FP 32 2)
def d21:aF:=.fn [] [.sc]<|.step (.ci .u64 1)<|sI 0<|sI 2<|sT [98,97,115,101]<|.step (.mk [0,1,2,3])<|.step (.ci .u64 2)<|sT [101,112,111,99,104]<|
 .step (.mk [5,1,2,6])<|.step (.ci .u64 3)<|sI 5<|sT [116,97,98,108,101]<|.step (.mk [8,9,2,10])<|.step (.ci .u64 4)<|sI 3<|sT [114,101,103,105,111,110]<|
 .step (.mk [12,13,2,14])<|.step (.ci .u64 5)<|sT [100,105,103,101,115,116]<|.step (.mk [16,1,13,17])<|.step (.ml [4,7,11,15,18])<|.ret [19]
def d70:aF:=.fn [.ag 2] [.sc]<|sL 0 0<|sL 1 0<|sC 65 [1] 0<|sI 0<|sB .neq 3 4<|.ite 5
 (.ret [3])
 (.step (.ci .u64 0)<|sB .eql 2 6<|.ite 7
 (sI 18<|.ret [8])
 (.ret [4]))
def ae5:aF:=.fn [.sc] [.sc]<|sI 1<|sC 114 [0,1] 0<|sI 0<|sB .eql 2 3<|.ite 4
 (sC 114 [0,1] 1<|.ret [5])
 (sI (-1)<|.ret [5])
def afL:aF:=.fn [.ag 2] [.sc]<|sL 0 0<|sL 1 0<|sC 157 [1] 0<|sI 0<|sB .eql 3 4<|.ite 5
 (.step (.ci .u64 0)<|sB .eql 2 6<|.ite 7
 (sI 18<|.ret [8])
 (.ret [3]))
 (.ret [3])
def d39:aF:=.fn [.sc] [.sc]<|sC 40 [0] 0<|.ret [1]
def af7:aF:=.fn [.sc,.sc] [.sc]<|.step (.len 0)<|.step (.len 1)<|sB .neq 2 3<|.ite 4
 (.step (.cb false)<|.ret [5])
 (sI 0<|sC 177 [0,1,2,5] 0<|sB .eql 6 5<|.ite 7
 (.step (.cb false)<|.ret [8])
 (.step (.cb true)<|.ret [8]))
def afz:aF:=.fn [.ag 24,.sc] [.sc]<|sL 0 0<|sL 1 0<|sL 2 0<|sL 3 0<|sL 4 0<|sL 5 0<|sL 6 0<|sL 7 0<|
 sL 8 0<|sL 9 0<|sL 10 0<|sL 11 0<|sL 12 0<|sL 13 0<|sL 14 0<|sL 15 0<|sL 16 0<|
 sL 17 0<|sL 18 0<|sL 19 0<|sL 20 0<|sL 21 0<|sL 22 0<|sL 23 0<|sT [100,101,115,99,114]<|
 sB .eql 1 26<|.ite 27
 (.step (.len 23)<|sI 0<|sB .eql 28 29<|.ret [30])
 (sT [116,97,98,108,101]<|sB .eql 1 28<|.ite 29
 (.step (.len 24)<|sI 0<|sB .eql 30 31<|.ret [32])
 (.step (.mk [2,3,4,5,6,7,8,9,10,11,12,13,14,15,16,17,18,19,20,21,22,23,24,25])<|sC 145 [30,1] 0<|sC 145 [30,1] 1<|.step (.ci .u64 0)<|
 sB .eql 31 33<|.ite 34
 (sT []<|sB .eql 32 35<|.ret [36])
 (.step (.cb false)<|.ret [35])))
def afq:aF:=.fn [.sc,.sc,.sc] [.sc,.sc,.sc]<|sC 100 [0] 0<|sC 100 [0] 1<|sC 100 [0] 2<|sI 0<|sB .neq 5 6<|.ite 7
 (sT []<|.ret [8,8,5])
 (.ite 2
 (.step (.ci .u64 0)<|sB .neq 3 8<|.ite 9
 (sT []<|sI 23<|.ret [10,10,11])
 (.step (.slen 1)<|.step (.conv .u64 10)<|sB .gtr 3 11<|.ite 12
 (sT []<|sI 23<|.ret [13,13,14])
 (.step (.slen 0)<|.step (.fV 0 4 13)<|sC 100 [14] 0<|sC 100 [14] 1<|sC 100 [14] 2<|sB .neq 17 6<|.ite 18
 (sT []<|.ret [19,19,17])
 (sB .add 4 16<|sB .sub 13 19<|.step (.conv .u64 20)<|sB .gtr 15 21<|.ite 22
 (sT []<|sI 1<|.ret [23,23,24])
 (.step (.conv .i64 3)<|.step (.fV 1 6 23)<|.step (.conv .i64 15)<|sB .add 19 25<|.step (.fV 0 19 26)<|sB .add 24 27<|.step (.un .not 2)<|.ite 29
 (sC 135 [1,27] 0<|.step (.un .not 30)<|.ite 31
 (sT []<|sI 7<|.ret [32,32,33])
 (sC 136 [1,27] 0<|sB .neq 32 23<|.ite 33
 (sT []<|sI 23<|.ret [34,34,35])
 (.step (.fV 0 26 13)<|.ret [27,34,6])))
 (.step (.fV 0 26 13)<|.ret [27,30,6]))))))
 (.step (.slen 1)<|.step (.conv .u64 8)<|sB .gtr 3 9<|.ite 10
 (sT []<|sI 23<|.ret [11,11,12])
 (.step (.slen 0)<|.step (.fV 0 4 11)<|sC 100 [12] 0<|sC 100 [12] 1<|sC 100 [12] 2<|sB .neq 15 6<|.ite 16
 (sT []<|.ret [17,17,15])
 (sB .add 4 14<|sB .sub 11 17<|.step (.conv .u64 18)<|sB .gtr 13 19<|.ite 20
 (sT []<|sI 1<|.ret [21,21,22])
 (.step (.conv .i64 3)<|.step (.fV 1 6 21)<|.step (.conv .i64 13)<|sB .add 17 23<|.step (.fV 0 17 24)<|sB .add 22 25<|.step (.un .not 2)<|.ite 27
 (sC 135 [1,26] 0<|.step (.un .not 28)<|.ite 29
 (sT []<|sI 7<|.ret [30,30,31])
 (sC 136 [1,26] 0<|sB .neq 30 21<|.ite 31
 (sT []<|sI 23<|.ret [32,32,33])
 (.step (.fV 0 24 11)<|.ret [26,32,6])))
 (.step (.fV 0 24 11)<|.ret [26,28,6]))))))
def ae1:aF:=.fn [.sc,.sc] [.sc]<|sC 109 [0] 0<|.step (.len 2)<|sI 0<|.step (.ml [])<|sC 110 [1,5,2,3,4] 0<|sC 110 [1,5,2,3,4] 1<|
 .ret [7]
def aeW:aF:=.fn [.sc] [.sc,.sc]<|.step (.slen 0)<|sI 65536<|sB .gtr 1 2<|.ite 3
 (.step (.ml [])<|sI 4<|.ret [4,5])
 (sI 0<|sC 104 [0,4] 0<|sC 104 [0,4] 1<|.ret [5,6])
def aeX:aF:=.fn [.sc,.sc] [.sc,.sc]<|.step (.ci .u64 0)<|.step (.ml [])<|sC 105 [0,1,3,2] 0<|sI 0<|sB .eql 4 5<|.ite 6
 (sC 105 [0,1,3,2] 1<|.ret [3,7])
 (sC 105 [0,1,3,2] 1<|.ret [7,5])
def aeZ:aF:=.fn [.sc,.sc,.sc] [.ag 5,.sc,.sc]<|sC 100 [0] 0<|sC 100 [0] 1<|sC 100 [0] 2<|sI 0<|sB .neq 5 6<|.ite 7
 (.step (.ci .u64 0)<|sT []<|.step (.ml [])<|.step (.mk [8,6,8,9,10])<|.ret [11,6,5])
 (.step (.ci .u64 4)<|sB .quo 3 8<|sB .rem 3 8<|.step (.conv .i64 10)<|.step (.ci .u64 0)<|sB .eql 9 12<|.ite 13
 (sT []<|.step (.ml [])<|sI 18<|.step (.mk [12,6,12,14,15])<|.ret [17,6,16])
 (.step (.ci .u64 4294967296)<|sB .gtr 9 14<|.ite 15
 (sT []<|.step (.ml [])<|sI 18<|.step (.mk [12,6,12,16,17])<|.ret [19,6,18])
 (sI 3<|sB .eql 11 16<|.ite 17
 (sT []<|.step (.ml [])<|sI 8<|.step (.mk [12,6,12,18,19])<|.ret [21,6,20])
 (sB .leq 9 2<|.ite 18
 (sT []<|.step (.ml [])<|sI 7<|.step (.mk [12,6,12,19,20])<|.ret [22,6,21])
 (.step (.slen 0)<|.step (.fV 0 4 19)<|sC 100 [20] 0<|sC 100 [20] 1<|sC 100 [20] 2<|sB .neq 23 6<|.ite 24
 (sT []<|.step (.ml [])<|.step (.mk [12,6,12,25,26])<|.ret [27,6,23])
 (sB .add 4 22<|sB .eql 11 6<|.ite 26
 (sT []<|.step (.ml [])<|.step (.mk [9,11,21,27,28])<|.ret [29,25,6])
 (sB .sub 19 25<|.step (.conv .u64 27)<|sB .gtr 21 28<|.ite 29
 (sT []<|.step (.ml [])<|sI 1<|.step (.mk [12,6,12,30,31])<|.ret [33,6,32])
 (.step (.conv .i64 21)<|sB .add 25 30<|.step (.fV 0 25 31)<|sI 1<|sB .eql 11 33<|.ite 34
 (.step (.ml [])<|.step (.mk [9,11,12,32,35])<|.ret [36,31,6])
 (sI 8<|sB .eql 1 35<|.ite 36
 (sT []<|.step (.ml [])<|sI 9<|.step (.mk [12,6,12,37,38])<|.ret [40,6,39])
 (sB .add 1 33<|sC 104 [32,37] 0<|sC 104 [32,37] 1<|sB .neq 39 6<|.ite 40
 (sT []<|.step (.ml [])<|.step (.mk [12,6,12,41,42])<|.ret [43,6,39])
 (sT []<|.step (.mk [9,11,12,41,38])<|.ret [42,31,6])))))))))))
def d25:aF:=.fn [.sc,.sc] [.sc]<|sC 14 [0,1] 0<|.step (.len 2)<|sI 0<|.step (.ml [])<|sC 26 [5,2,3,4] 0<|sC 26 [5,2,3,4] 1<|
 .ret [7]
def d94:aF:=.fn [.sc] [.sc]<|sI 0<|sC 95 [0,1] 0<|.ret [2]
def d33:aF:=.fn [.ag 24] [.ag 24]<|sL 0 0<|sL 1 0<|sL 2 0<|sL 3 0<|sL 4 0<|sL 5 0<|sL 6 0<|sL 7 0<|
 sL 8 0<|sL 9 0<|sL 10 0<|sL 11 0<|sL 12 0<|sL 13 0<|sL 14 0<|sL 15 0<|sL 16 0<|
 sL 17 0<|sL 18 0<|sL 19 0<|sL 20 0<|sL 21 0<|sL 22 0<|sL 23 0<|sC 34 [22] 0<|.step (.len 23)<|
 .step (.ml [])<|.step (.ci .u64 0)<|.step (.mk [27,28])<|sI 0<|.step (.rep 2 32 29 30 26)<|sC 35 [31,23,26,30,1,2,3,4,5,6,7,8,9,10,11,12,13,14,15,16,17,18,19,20,21,25,24] 0<|
 sC 35 [31,23,26,30,1,2,3,4,5,6,7,8,9,10,11,12,13,14,15,16,17,18,19,20,21,25,24] 1<|sC 30 [24] 0<|.step (.mk [1,2,3,4,5,6,7,8,9,10,11,12,13,14,15,16,17,18,19,20,21,25,33,34])<|
 .ret [35]
def d32:aF:=.fn [.ag 24,.sc,.ag 5] [.ag 24,.sc]<|sL 0 0<|sL 1 0<|sL 2 0<|sL 3 0<|sL 4 0<|sL 5 0<|sL 6 0<|
 sL 7 0<|sL 8 0<|sL 9 0<|sL 10 0<|sL 11 0<|sL 12 0<|sL 13 0<|sL 14 0<|sL 15 0<|sL 16 0<|
 sL 17 0<|sL 18 0<|sL 19 0<|sL 20 0<|sL 21 0<|sL 22 0<|sL 23 0<|sL 0 2<|sL 1 2<|
 sL 2 2<|sL 3 2<|sL 4 2<|.step (.mk [3,4,5,6,7,8,9,10,11,12,13,14,15,16,17,18,19,20,21,22,23,24,25,26])<|sC 33 [32] 0<|
 sL 0 33<|sL 1 33<|sL 2 33<|sL 3 33<|sL 4 33<|sL 5 33<|sL 6 33<|sL 7 33<|sL 8 33<|
 sL 9 33<|sL 10 33<|sL 11 33<|sL 12 33<|sL 13 33<|sL 14 33<|sL 15 33<|sL 16 33<|sL 17 33<|
 sL 18 33<|sL 19 33<|sL 20 33<|sL 21 33<|sL 22 33<|sL 23 33<|an8 36 [1,27,28,29,30,31,34,35,36,37,38,39,40,41,42,43,44,45,46,47,48,49,50,51,52,53,54,55,56,57]<|
 sI 0<|sB .neq 59 82<|
 .ite 83
 (.step (.ci .u64 0)<|.step (.cb false)<|sT []<|.step (.ml [])<|.step (.mk [82,84,84,84,84,84,84,84,84,84,84,84,84,84,84,84,82,85,86,86,86,87,87,87])<|
 .ret [88,59])
 (.step (.mk [34,60,61,62,63,64,65,66,67,68,69,70,71,72,73,74,75,76,77,78,79,80,81,57])<|.ret [84,82])
def afe:aF:=.fn [.sc] [.sc,.sc,.sc]<|sC 100 [0] 0<|sC 100 [0] 1<|sC 100 [0] 2<|sI 0<|sB .eql 3 4<|.ite 5
 (.step (.ci .u64 0)<|sB .eql 1 6<|.ite 7
 (.step (.ml [])<|sT []<|sI 12<|.ret [8,9,10])
 (.step (.ci .u64 16)<|sB .gtr 1 8<|.ite 9
 (.step (.ml [])<|sT []<|sI 13<|.ret [10,11,12])
 (.step (.slen 0)<|.step (.fV 0 2 10)<|.step (.ml [])<|sC 123 [11,1,12,6] 0<|sB .eql 13 4<|.ite 14
 (sC 123 [11,1,12,6] 1<|sT []<|.ret [12,16,15])
 (sC 123 [11,1,12,6] 1<|sC 123 [11,1,12,6] 2<|.ret [16,15,4]))))
 (sB .neq 3 4<|.step (.ml [])<|sT []<|.ret [7,8,3])
def afb:aF:=.fn [.sc] [.sc]<|.step (.slen 0)<|sI 0<|sB .eql 1 2<|.ite 3
 (.ret [2])
 (.step (.nP 0 2)<|.step (.conv .i64 4)<|sI 128<|sB .lss 5 6<|.ite 7
 (sI 1<|.ret [8])
 (sI 192<|sB .geq 5 8<|.ite 9
 (sI 224<|sB .lss 5 10<|.ite 11
 (sB .sub 5 8<|sI 2<|sB .lss 1 13<|.ite 14
 (.ret [2])
 (sI 1<|sC 120 [0,13,12,6,15] 0<|sB .eql 16 2<|.ite 17
 (.ret [2])
 (sC 120 [0,13,12,6,15] 1<|sB .lss 18 6<|.ite 19
 (.ret [2])
 (sI 1114111<|sB .gtr 18 20<|.ite 21
 (.ret [2])
 (sI 55296<|sB .geq 18 22<|.ite 23
 (sI 57344<|sB .lss 18 24<|.ite 25
 (.ret [2])
 (.ret [13]))
 (.ret [13]))))))
 (sB .geq 5 10<|sI 240<|sB .lss 5 13<|.ite 14
 (sB .sub 5 10<|sI 3<|sB .lss 1 16<|.ite 17
 (.ret [2])
 (sI 2048<|sI 1<|sC 120 [0,16,15,18,19] 0<|sB .eql 20 2<|.ite 21
 (.ret [2])
 (sC 120 [0,16,15,18,19] 1<|sB .lss 22 18<|.ite 23
 (.ret [2])
 (sI 1114111<|sB .gtr 22 24<|.ite 25
 (.ret [2])
 (sI 55296<|sB .geq 22 26<|.ite 27
 (sI 57344<|sB .lss 22 28<|.ite 29
 (.ret [2])
 (.ret [16]))
 (.ret [16]))))))
 (sB .geq 5 13<|sI 248<|sB .lss 5 16<|.ite 17
 (sB .sub 5 13<|sI 4<|sB .lss 1 19<|.ite 20
 (.ret [2])
 (sI 65536<|sI 1<|sC 120 [0,19,18,21,22] 0<|sB .eql 23 2<|.ite 24
 (.ret [2])
 (sC 120 [0,19,18,21,22] 1<|sB .lss 25 21<|.ite 26
 (.ret [2])
 (sI 1114111<|sB .gtr 25 27<|.ite 28
 (.ret [2])
 (sI 55296<|sB .geq 25 29<|.ite 30
 (sI 57344<|sB .lss 25 31<|.ite 32
 (.ret [2])
 (.ret [19]))
 (.ret [19]))))))
 (.ret [2]))))
 (sI 224<|sB .geq 5 10<|.ite 11
 (sI 240<|sB .lss 5 12<|.ite 13
 (sB .sub 5 10<|sI 3<|sB .lss 1 15<|.ite 16
 (.ret [2])
 (sI 2048<|sI 1<|sC 120 [0,15,14,17,18] 0<|sB .eql 19 2<|.ite 20
 (.ret [2])
 (sC 120 [0,15,14,17,18] 1<|sB .lss 21 17<|.ite 22
 (.ret [2])
 (sI 1114111<|sB .gtr 21 23<|.ite 24
 (.ret [2])
 (sI 55296<|sB .geq 21 25<|.ite 26
 (sI 57344<|sB .lss 21 27<|.ite 28
 (.ret [2])
 (.ret [15]))
 (.ret [15]))))))
 (sB .geq 5 12<|sI 248<|sB .lss 5 15<|.ite 16
 (sB .sub 5 12<|sI 4<|sB .lss 1 18<|.ite 19
 (.ret [2])
 (sI 65536<|sI 1<|sC 120 [0,18,17,20,21] 0<|sB .eql 22 2<|.ite 23
 (.ret [2])
 (sC 120 [0,18,17,20,21] 1<|sB .lss 24 20<|.ite 25
 (.ret [2])
 (sI 1114111<|sB .gtr 24 26<|.ite 27
 (.ret [2])
 (sI 55296<|sB .geq 24 28<|.ite 29
 (sI 57344<|sB .lss 24 30<|.ite 31
 (.ret [2])
 (.ret [18]))
 (.ret [18]))))))
 (.ret [2])))
 (sI 240<|sB .geq 5 12<|.ite 13
 (sI 248<|sB .lss 5 14<|.ite 15
 (sB .sub 5 12<|sI 4<|sB .lss 1 17<|.ite 18
 (.ret [2])
 (sI 65536<|sI 1<|sC 120 [0,17,16,19,20] 0<|sB .eql 21 2<|.ite 22
 (.ret [2])
 (sC 120 [0,17,16,19,20] 1<|sB .lss 23 19<|.ite 24
 (.ret [2])
 (sI 1114111<|sB .gtr 23 25<|.ite 26
 (.ret [2])
 (sI 55296<|sB .geq 23 27<|.ite 28
 (sI 57344<|sB .lss 23 29<|.ite 30
 (.ret [2])
 (.ret [17]))
 (.ret [17]))))))
 (.ret [2]))
 (.ret [2])))))
abbrev d30:aF:=.tY FZ
def d2:aF:=.fn [.sc,.sc] [.ag 24,.sc]<|sI 1<|sB .lss 1 2<|.ite 3
 (sI 0<|.step (.ci .u64 0)<|.step (.cb false)<|sT []<|.step (.ml [])<|sI 16<|.step (.mk [4,5,5,5,5,5,5,5,5,5,5,5,5,5,5,5,4,6,7,7,7,8,8,8])<|
 .ret [10,9])
 (sI 3<|sB .gtr 1 4<|.ite 5
 (sI 0<|.step (.ci .u64 0)<|.step (.cb false)<|sT []<|.step (.ml [])<|sI 16<|.step (.mk [6,7,7,7,7,7,7,7,7,7,7,7,7,7,7,7,6,8,9,9,9,10,10,10])<|
 .ret [12,11])
 (.step (.slen 0)<|sI 65536<|sB .gtr 6 7<|.ite 8
 (sI 0<|.step (.ci .u64 0)<|.step (.cb false)<|sT []<|.step (.ml [])<|sI 4<|.step (.mk [9,10,10,10,10,10,10,10,10,10,10,10,10,10,10,10,9,11,12,12,12,13,13,13])<|
 .ret [15,14])
 (sC 3 [0] 0<|sC 3 [0] 1<|sC 3 [0] 2<|sI 0<|sB .neq 11 12<|.ite 13
 (.step (.ci .u64 0)<|.step (.cb false)<|sT []<|.step (.ml [])<|.step (.mk [12,14,14,14,14,14,14,14,14,14,14,14,14,14,14,14,12,15,16,16,16,17,17,17])<|
 .ret [18,11])
 (.step (.ci .u64 8)<|sB .leq 9 14<|.ite 15
 (.step (.conv .i64 9)<|sC 5 [16] 0<|sB .eql 17 12<|.ite 18
 (.step (.ci .u64 0)<|.step (.cb false)<|sT []<|.step (.ml [])<|sI 15<|.step (.mk [12,19,19,19,19,19,19,19,19,19,19,19,19,19,19,19,12,20,21,21,21,22,22,22])<|
 .ret [24,23])
 (sB .gtr 17 1<|.ite 19
 (.step (.ci .u64 0)<|.step (.cb false)<|sT []<|.step (.ml [])<|sI 15<|.step (.mk [12,20,20,20,20,20,20,20,20,20,20,20,20,20,20,20,12,21,22,22,22,23,23,23])<|
 .ret [25,24])
 (.step (.fV 0 10 6)<|sC 6 [20] 0<|sC 6 [20] 1<|sB .neq 22 12<|.ite 23
 (.step (.ci .u64 0)<|.step (.cb false)<|sT []<|.step (.ml [])<|.step (.mk [12,24,24,24,24,24,24,24,24,24,24,24,24,24,24,24,12,25,26,26,26,27,27,27])<|
 .ret [28,22])
 (sC 14 [16,1] 0<|.step (.len 24)<|.step (.ml [])<|sC 24 [1,16,21,24,25,12,26] 0<|sC 24 [1,16,21,24,25,12,26] 1<|sC 25 [16,1] 0<|
 sC 27 [21,29] 0<|sC 27 [21,29] 1<|.step (.len 30)<|.step (.ci .u64 0)<|.step (.cb false)<|sT []<|sC 31 [1,31,30,32,12,16,33,33,33,33,33,33,33,33,33,33,33,33,33,33,33,12,34,35,35,35,26,26,26,28] 0<|
 sB .eql 36 12<|.ite 37
 (sC 31 [1,31,30,32,12,16,33,33,33,33,33,33,33,33,33,33,33,33,33,33,33,12,34,35,35,35,26,26,26,28] 1<|.step (.mk [12,33,33,33,33,33,33,33,33,33,33,33,33,33,33,33,12,34,35,35,35,26,26,26])<|
 .ret [39,38])
 (G8 31 [1,31,30,32,12,16,33,33,33,33,33,33,33,33,33,33,33,33,33,33,33,12,34,35,35,35,26,26,26,28]<|
 .step (.mk [38,39,40,41,42,43,44,45,46,47,48,49,50,51,52,53,54,55,56,57,58,59,60,31])<|sC 54 [62,1] 0<|sB .neq 63 12<|.ite 64
 (.step (.mk [12,33,33,33,33,33,33,33,33,33,33,33,33,33,33,33,12,34,35,35,35,26,26,26])<|.ret [65,63])
 (.ret [62,12]))))))
 (sC 5 [12] 0<|sB .eql 16 12<|.ite 17
 (.step (.ci .u64 0)<|.step (.cb false)<|sT []<|.step (.ml [])<|sI 15<|.step (.mk [12,18,18,18,18,18,18,18,18,18,18,18,18,18,18,18,12,19,20,20,20,21,21,21])<|
 .ret [23,22])
 (sB .gtr 16 1<|.ite 18
 (.step (.ci .u64 0)<|.step (.cb false)<|sT []<|.step (.ml [])<|sI 15<|.step (.mk [12,19,19,19,19,19,19,19,19,19,19,19,19,19,19,19,12,20,21,21,21,22,22,22])<|
 .ret [24,23])
 (.step (.fV 0 10 6)<|sC 6 [19] 0<|sC 6 [19] 1<|sB .neq 21 12<|.ite 22
 (.step (.ci .u64 0)<|.step (.cb false)<|sT []<|.step (.ml [])<|.step (.mk [12,23,23,23,23,23,23,23,23,23,23,23,23,23,23,23,12,24,25,25,25,26,26,26])<|
 .ret [27,21])
 (sC 14 [12,1] 0<|.step (.len 23)<|.step (.ml [])<|sC 24 [1,12,20,23,24,12,25] 0<|sC 24 [1,12,20,23,24,12,25] 1<|sC 25 [12,1] 0<|
 sC 27 [20,28] 0<|sC 27 [20,28] 1<|.step (.len 29)<|.step (.ci .u64 0)<|.step (.cb false)<|sT []<|sC 31 [1,30,29,31,12,12,32,32,32,32,32,32,32,32,32,32,32,32,32,32,32,12,33,34,34,34,25,25,25,27] 0<|
 sB .eql 35 12<|.ite 36
 (sC 31 [1,30,29,31,12,12,32,32,32,32,32,32,32,32,32,32,32,32,32,32,32,12,33,34,34,34,25,25,25,27] 1<|.step (.mk [12,32,32,32,32,32,32,32,32,32,32,32,32,32,32,32,12,33,34,34,34,25,25,25])<|
 .ret [38,37])
 (G8 31 [1,30,29,31,12,12,32,32,32,32,32,32,32,32,32,32,32,32,32,32,32,12,33,34,34,34,25,25,25,27]<|
 .step (.mk [37,38,39,40,41,42,43,44,45,46,47,48,49,50,51,52,53,54,55,56,57,58,59,30])<|sC 54 [61,1] 0<|sB .neq 62 12<|.ite 63
 (.step (.mk [12,32,32,32,32,32,32,32,32,32,32,32,32,32,32,32,12,33,34,34,34,25,25,25])<|.ret [64,62])
 (.ret [61,12]))))))))))
def af5:aF:=.fn [.ag 24,.ag 24] [.sc]<|sL 0 0<|sL 1 0<|sL 2 0<|sL 3 0<|sL 4 0<|sL 5 0<|sL 6 0<|
 sL 7 0<|sL 8 0<|sL 9 0<|sL 10 0<|sL 11 0<|sL 12 0<|sL 13 0<|sL 14 0<|sL 15 0<|sL 16 0<|
 sL 17 0<|sL 18 0<|sL 19 0<|sL 20 0<|sL 21 0<|sL 22 0<|sL 23 0<|sL 0 1<|sL 1 1<|
 sL 2 1<|sL 3 1<|sL 4 1<|sL 5 1<|sL 6 1<|sL 7 1<|sL 8 1<|sL 9 1<|sL 10 1<|sL 11 1<|
 sL 12 1<|sL 13 1<|sL 14 1<|sL 15 1<|sL 16 1<|sL 17 1<|sL 18 1<|sL 19 1<|sL 20 1<|
 sL 21 1<|sL 22 1<|sL 23 1<|sC 141 [] 0<|.step (.len 50)<|sI 0<|sC 175 [50,51,52,26,27,28,29,30,31,32,33,34,35,36,37,38,39,40,41,42,43,44,45,46,47,48,49,2,3,4,5,6,7,8,9,10,11,12,13,14,15,16,17,18,19,20,21,22,23,24,25] 0<|
 sB .eql 53 52<|.ite 54
 (.step (.cb false)<|.ret [55])
 (sB .neq 2 26<|.ite 55
 (.step (.cb false)<|.ret [56])
 (.step (.len 23)<|.step (.len 47)<|sB .neq 56 57<|.ite 58
 (.step (.cb false)<|.ret [59])
 (sC 176 [24,48] 0<|.step (.un .not 59)<|.ite 60
 (.step (.cb false)<|.ret [61])
 (sC 179 [25,49] 0<|.step (.un .not 61)<|.ite 62
 (.step (.cb false)<|.ret [63])
 (sC 181 [56,52,26,27,28,29,30,31,32,33,34,35,36,37,38,39,40,41,42,43,44,45,46,47,48,49,2,3,4,5,6,7,8,9,10,11,12,13,14,15,16,17,18,19,20,21,22,23,24,25] 0<|
 sB .eql 63 52<|.ite 64
 (.step (.cb false)<|.ret [65])
 (.step (.cb true)<|.ret [65]))))))
def aeT:aF:=.fn [.sc] [.sc,.sc,.sc]<|sI 0<|sC 101 [0,1,1] 0<|sC 101 [0,1,1] 1<|sC 101 [0,1,1] 2<|sB .eql 4 1<|
 .ite 5
 (.step (.slen 3)<|sI 10<|sB .geq 6 7<|.ite 8
 (.step (.ci .u64 0)<|sI 3<|.ret [9,1,10])
 (.step (.ci .u64 0)<|sI 1<|.ret [9,1,10]))
 (sI 10<|sB .eql 4 6<|.ite 7
 (sI 9<|.step (.nP 3 8)<|.step (.ci .u8 1)<|sB .gtr 9 10<|.ite 11
 (.step (.ci .u64 0)<|sI 3<|.ret [12,1,13])
 (sI 1<|sB .gtr 4 12<|.ite 13
 (sB .sub 4 12<|.step (.nP 3 14)<|.step (.ci .u8 0)<|sB .eql 15 16<|.ite 17
 (.step (.ci .u64 0)<|sI 2<|.ret [18,1,19])
 (.step (.ci .u64 0)<|.step (.ci .u64 1)<|sC 102 [3,4,18,19,1] 0<|sC 102 [3,4,18,19,1] 1<|sC 102 [3,4,18,19,1] 2<|.ret [22,21,1]))
 (.step (.ci .u64 0)<|.step (.ci .u64 1)<|sC 102 [3,4,14,15,1] 0<|sC 102 [3,4,14,15,1] 1<|sC 102 [3,4,14,15,1] 2<|.ret [18,17,1])))
 (sI 1<|sB .gtr 4 8<|.ite 9
 (sB .sub 4 8<|.step (.nP 3 10)<|.step (.ci .u8 0)<|sB .eql 11 12<|.ite 13
 (.step (.ci .u64 0)<|sI 2<|.ret [14,1,15])
 (.step (.ci .u64 0)<|.step (.ci .u64 1)<|sC 102 [3,4,14,15,1] 0<|sC 102 [3,4,14,15,1] 1<|sC 102 [3,4,14,15,1] 2<|.ret [18,17,1]))
 (.step (.ci .u64 0)<|.step (.ci .u64 1)<|sC 102 [3,4,10,11,1] 0<|sC 102 [3,4,10,11,1] 1<|sC 102 [3,4,10,11,1] 2<|.ret [14,13,1])))
def afC:aF:=.fn [.ag 24,.sc] [.sc]<|sL 0 0<|sL 1 0<|sL 2 0<|sL 3 0<|sL 4 0<|sL 5 0<|sL 6 0<|sL 7 0<|
 sL 8 0<|sL 9 0<|sL 10 0<|sL 11 0<|sL 12 0<|sL 13 0<|sL 14 0<|sL 15 0<|sL 16 0<|
 sL 17 0<|sL 18 0<|sL 19 0<|sL 20 0<|sL 21 0<|sL 22 0<|sL 23 0<|sT [110,97,109,101]<|sB .eql 1 26<|
 .ite 27
 (.ret [20])
 (sT [114,101,103,105,111,110]<|sB .eql 1 28<|.ite 29
 (.ret [21])
 (.ret [22]))
def afl:aF:=.fn [.sc,.sc] [.sc]<|sI 0<|sC 130 [0,1,2] 0<|sB .eql 3 2<|.ite 4
 (sC 130 [0,1,2] 1<|.ret [5])
 (.step (.slen 0)<|.step (.slen 1)<|sB .lss 5 6<|.ret [7])
def afB:aF:=.fn [.ag 24,.sc] [.sc]<|sL 0 0<|sL 1 0<|sL 2 0<|sL 3 0<|sL 4 0<|sL 5 0<|sL 6 0<|sL 7 0<|
 sL 8 0<|sL 9 0<|sL 10 0<|sL 11 0<|sL 12 0<|sL 13 0<|sL 14 0<|sL 15 0<|sL 16 0<|
 sL 17 0<|sL 18 0<|sL 19 0<|sL 20 0<|sL 21 0<|sL 22 0<|sL 23 0<|sT [105,100]<|sB .eql 1 26<|
 .ite 27
 (.ret [3])
 (sT [109,105,110]<|sB .eql 1 28<|.ite 29
 (.ret [4])
 (sT [109,97,120]<|sB .eql 1 30<|.ite 31
 (.ret [5])
 (sT [99,104,111,115,101,110]<|sB .eql 1 32<|.ite 33
 (.ret [6])
 (sT [102,108,97,103,115]<|sB .eql 1 34<|.ite 35
 (.ret [7])
 (sT [99,111,115,116]<|sB .eql 1 36<|.ite 37
 (.ret [8])
 (sT [112,114,105,111,114,105,116,121]<|sB .eql 1 38<|.ite 39
 (.ret [9])
 (sT [100,101,97,100,108,105,110,101]<|sB .eql 1 40<|.ite 41
 (.ret [10])
 (sT [114,101,116,114,121]<|sB .eql 1 42<|.ite 43
 (.ret [11])
 (sT [101,112,111,99,104]<|sB .eql 1 44<|.ite 45
 (.ret [12])
 (sT [98,97,115,101]<|sB .eql 1 46<|.ite 47
 (.ret [13])
 (sT [100,105,103,101,115,116]<|sB .eql 1 48<|.ite 49
 (.ret [14])
 (sT [108,97,103]<|sB .eql 1 50<|.ite 51
 (.ret [15])
 (sT [99,111,100,101]<|sB .eql 1 52<|.ite 53
 (.ret [16])
 (.ret [17]))))))))))))))
def d17:aF:=.fn [] [.sc]<|.step (.ci .u64 1)<|sI 0<|sI 1<|sT [99,104,111,115,101,110]<|.step (.mk [0,1,2,3])<|.step (.ci .u64 2)<|
 sI 3<|sT [110,97,109,101]<|.step (.mk [5,6,2,7])<|.step (.ci .u64 3)<|sI 2<|sT [114,101,103,105,111,110]<|.step (.mk [9,6,10,11])<|
 .step (.ml [4,8,12])<|.ret [13]
def d5:aF:=.fn [.sc] [.sc]<|sI 0<|sB .eql 0 1<|sI 1<|sB .eql 0 3<|.ite 4
 (.ret [3])
 (sI 2<|sB .eql 0 5<|.ite 6
 (.ret [3])
 (sI 3<|sB .eql 0 7<|.ite 8
 (.ret [3])
 (sI 4<|sB .eql 0 9<|.ite 10
 (.ret [3])
 (sI 5<|sB .eql 0 11<|.ite 12
 (.ret [3])
 (sI 6<|sB .eql 0 13<|.ite 14
 (.ret [5])
 (sI 7<|sB .eql 0 15<|.ite 16
 (.ret [3])
 (sI 8<|sB .eql 0 17<|.ite 18
 (.ret [3])
 (.ret [1]))))))))
def d19:aF:=.fn [] [.sc]<|.step (.ci .u64 1)<|sI 0<|sI 1<|sT [105,100]<|.step (.mk [0,1,2,3])<|.step (.ci .u64 2)<|sT [97,108,108,111,119,101,100]<|
 .step (.mk [5,2,2,6])<|.step (.ci .u64 3)<|sI 2<|sT [114,101,109,97,105,110,105,110,103]<|.step (.mk [8,9,2,10])<|.step (.ci .u64 4)<|sT [114,101,116,114,121]<|
 .step (.mk [12,1,9,13])<|.step (.ci .u64 5)<|sI 3<|sT [110,111,116,101]<|.step (.mk [15,16,16,17])<|.step (.ml [4,7,11,14,18])<|.ret [19]
def d95:aF:=.fn [.sc,.sc] [.sc]<|.step (.len 0)<|.step (.ci .u64 0)<|sI 0<|sC 96 [1,3,0,2,4] 0<|sB .eql 5 4<|.ite 6
 (sC 96 [1,3,0,2,4] 1<|.ret [7])
 (.ret [4])
def d18:aF:=.fn [] [.sc]<|.step (.ci .u64 1)<|sI 0<|sI 1<|sT [105,100]<|.step (.mk [0,1,2,3])<|.step (.ci .u64 2)<|sI 4<|
 sT [100,101,115,99,114]<|.step (.mk [5,6,2,7])<|.step (.ci .u64 3)<|sT [99,111,115,116]<|.step (.mk [9,1,2,10])<|.step (.ci .u64 4)<|sI 2<|
 sT [112,114,105,111,114,105,116,121]<|.step (.mk [12,1,13,14])<|.step (.ci .u64 5)<|sI 3<|sT [100,101,97,100,108,105,110,101]<|.step (.mk [16,1,17,18])<|
 .step (.ml [4,8,11,15,19])<|.ret [20]
def afS:aF:=.fn [.sc,.sc] [.sc]<|.step (.len 0)<|sI 0<|sC 164 [0,1,2,3] 0<|sB .eql 4 3<|.ite 5
 (sC 164 [0,1,2,3] 1<|.ret [6])
 (.ret [3])
def afI:aF:=.fn [.sc] [.sc,.sc]<|sC 154 [0] 0<|sI 0<|sB .neq 1 2<|.ite 3
 (sT []<|.ret [4,1])
 (sC 159 [0] 0<|.ret [4,2])
def afD:aF:=.fn [.sc] [.sc]<|.step (.len 0)<|.step (.conv .u64 1)<|sC 149 [2] 0<|sI 0<|sC 151 [3,0,1,4] 0<|sC 151 [3,0,1,4] 1<|
 .ret [6]
def ae8:aF:=.fn [.sc,.sc,.sc] [.sc]<|.step (.slen 0)<|sB .lss 3 1<|.ite 4
 (sI 13<|.ret [5])
 (sB .gtr 3 2<|.ite 5
 (sI 13<|.ret [6])
 (sC 117 [0] 0<|.step (.un .not 6)<|.ite 7
 (sI 11<|.ret [8])
 (sI 0<|.ret [8])))
def afw:aF:=.fn [] [.sc]<|sT [97,108,108,111,119,101,100]<|sT [98,97,115,101]<|sT [99,104,111,115,101,110]<|sT [99,111,100,101]<|
 sT [99,111,115,116]<|sT [100,101,97,100,108,105,110,101]<|sT [100,101,115,99,114]<|sT [100,105,103,101,115,116]<|sT [101,112,111,99,104]<|
 sT [102,108,97,103,115]<|sT [105,100]<|sT [108,97,103]<|sT [109,97,120]<|sT [109,105,110]<|sT [110,97,109,101]<|
 sT [110,111,116,101]<|sT [112,114,105,111,114,105,116,121]<|sT [114,101,103,105,111,110]<|sT [114,101,109,97,105,110,105,110,103]<|
 sT [114,101,116,114,121]<|sT [116,97,98,108,101]<|sT [119,97,110,116]<|.step (.ml [0,1,2,3,4,5,6,7,8,9,10,11,12,13,14,15,16,17,18,19,20,21])<|
 .ret [22]
def afA:aF:=.fn [.ag 24,.sc] [.sc,.sc]<|sL 0 0<|sL 1 0<|sL 2 0<|sL 3 0<|sL 4 0<|sL 5 0<|sL 6 0<|
 sL 7 0<|sL 8 0<|sL 9 0<|sL 10 0<|sL 11 0<|sL 12 0<|sL 13 0<|sL 14 0<|sL 15 0<|sL 16 0<|
 sL 17 0<|sL 18 0<|sL 19 0<|sL 20 0<|sL 21 0<|sL 22 0<|sL 23 0<|sC 113 [1] 0<|sI 0<|
 sB .eql 26 27<|.ite 28
 (.step (.mk [2,3,4,5,6,7,8,9,10,11,12,13,14,15,16,17,18,19,20,21,22,23,24,25])<|sC 146 [29,1] 0<|sT []<|.ret [30,31])
 (sI 1<|sB .eql 26 29<|.ite 30
 (.ite 19
 (.step (.ci .u64 1)<|sT []<|.ret [31,32])
 (.step (.ci .u64 0)<|sT []<|.ret [31,32]))
 (sI 2<|sB .eql 26 31<|.ite 32
 (sB .geq 18 27<|.ite 33
 (.step (.conv .u64 18)<|.step (.ci .u64 2)<|sB .mul 35 34<|sT []<|.ret [36,37])
 (sB .add 18 29<|sB .sub 27 34<|.step (.conv .u64 35)<|.step (.ci .u64 1)<|sB .add 36 37<|sB .sub 38 37<|.step (.ci .u64 2)<|sB .mul 40 39<|
 sB .add 41 37<|sT []<|.ret [42,43]))
 (sI 3<|sB .eql 26 33<|.ite 34
 (.step (.mk [2,3,4,5,6,7,8,9,10,11,12,13,14,15,16,17,18,19,20,21,22,23,24,25])<|sC 147 [35,1] 0<|.step (.ci .u64 0)<|.ret [37,36])
 (sI 4<|sB .eql 26 35<|.ite 36
 (.step (.len 23)<|sB .gtr 37 27<|.ite 38
 (sC 148 [23] 0<|.step (.ci .u64 0)<|.ret [40,39])
 (.step (.ci .u64 0)<|sT []<|.ret [39,40]))
 (.step (.len 24)<|sB .gtr 37 27<|.ite 38
 (sC 153 [24] 0<|sC 153 [24] 1<|.step (.ci .u64 0)<|.ret [41,39])
 (.step (.ci .u64 0)<|sT []<|.ret [39,40]))))))
def afE:aF:=.fn [.sc] [.sc]<|sT []<|sC 150 [0,1] 0<|sC 150 [0,1] 1<|sC 150 [0,1] 2<|.step (.conv .u8 3)<|.step (.ml [5])<|.step (.str 6)<|
 sB .add 4 7<|.ret [8]
def d54:aF:=.fn [.ag 24,.sc] [.sc]<|sL 0 0<|sL 1 0<|sL 2 0<|sL 3 0<|sL 4 0<|sL 5 0<|sL 6 0<|sL 7 0<|
 sL 8 0<|sL 9 0<|sL 10 0<|sL 11 0<|sL 12 0<|sL 13 0<|sL 14 0<|sL 15 0<|sL 16 0<|
 sL 17 0<|sL 18 0<|sL 19 0<|sL 20 0<|sL 21 0<|sL 22 0<|sL 23 0<|sI 1<|sB .lss 1 26<|
 .ite 27
 (sI 16<|.ret [28])
 (sI 3<|sB .gtr 1 28<|.ite 29
 (sI 16<|.ret [30])
 (sC 5 [2] 0<|sI 0<|sB .eql 30 31<|.ite 32
 (sI 15<|.ret [33])
 (sB .gtr 30 1<|.ite 33
 (sI 15<|.ret [34])
 (sC 14 [2,1] 0<|.step (.len 34)<|.step (.ml [])<|sC 55 [34,35,31,36,2,3,4,5,6,7,8,9,10,11,12,13,14,15,16,17,18,19,20,21,22,23,24,25] 0<|
 sC 55 [34,35,31,36,2,3,4,5,6,7,8,9,10,11,12,13,14,15,16,17,18,19,20,21,22,23,24,25] 1<|sC 56 [] 0<|.step (.len 39)<|sC 57 [34,39,40,31,38,2,3,4,5,6,7,8,9,10,11,12,13,14,15,16,17,18,19,20,21,22,23,24,25] 0<|
 sB .eql 41 31<|.ite 42
 (sI 26<|.ret [43])
 (sC 58 [34,35,31,2,3,4,5,6,7,8,9,10,11,12,13,14,15,16,17,18,19,20,21,22,23,24,25] 0<|sB .eql 43 31<|.ite 44
 (sC 58 [34,35,31,2,3,4,5,6,7,8,9,10,11,12,13,14,15,16,17,18,19,20,21,22,23,24,25] 1<|.ret [45])
 (sB .eql 2 26<|.ite 45
 (.step (.ci .u64 1)<|sB .lss 4 46<|.ite 47
 (sI 18<|.ret [48])
 (sB .lss 5 4<|.ite 48
 (sI 18<|.ret [49])
 (.step (.ci .u64 255)<|sB .gtr 5 49<|.ite 50
 (sI 18<|.ret [51])
 (sC 94 [25] 0<|sB .neq 51 31<|.ite 52
 (.ret [51])
 (.step (.len 25)<|sC 97 [34,25,53,31] 0<|sB .eql 54 31<|.ite 55
 (sI 14<|.ret [56])
 (.ret [31]))))))
 (sI 2<|sB .eql 2 46<|.ite 47
 (.step (.ci .u64 1)<|sB .lss 6 48<|.ite 49
 (sI 18<|.ret [50])
 (.step (.ci .u64 255)<|sB .gtr 6 50<|.ite 51
 (sI 18<|.ret [52])
 (sC 94 [25] 0<|sB .neq 52 31<|.ite 53
 (.ret [52])
 (.step (.len 25)<|sC 97 [34,25,54,31] 0<|sB .eql 55 31<|.ite 56
 (sI 14<|.ret [57])
 (.ret [31])))))
 (sB .eql 2 28<|.ite 48
 (.step (.len 23)<|sB .eql 49 31<|.ite 50
 (sI 12<|.ret [51])
 (sC 94 [25] 0<|sB .neq 51 31<|.ite 52
 (.ret [51])
 (.step (.len 25)<|sC 97 [34,25,53,31] 0<|sB .eql 54 31<|.ite 55
 (sI 14<|.ret [56])
 (.ret [31]))))
 (sI 5<|sB .eql 2 49<|.ite 50
 (.step (.ci .u64 1)<|sB .lss 12 51<|.ite 52
 (sI 18<|.ret [53])
 (sC 94 [25] 0<|sB .neq 53 31<|.ite 54
 (.ret [53])
 (.step (.len 25)<|sC 97 [34,25,55,31] 0<|sB .eql 56 31<|.ite 57
 (sI 14<|.ret [58])
 (.ret [31]))))
 (sI 6<|sB .eql 2 51<|.ite 52
 (.step (.ci .u64 1)<|sB .lss 13 53<|.ite 54
 (sI 18<|.ret [55])
 (sB .leq 12 13<|.ite 55
 (sI 20<|.ret [56])
 (sC 94 [25] 0<|sB .neq 56 31<|.ite 57
 (.ret [56])
 (.step (.len 25)<|sC 97 [34,25,58,31] 0<|sB .eql 59 31<|.ite 60
 (sI 14<|.ret [61])
 (.ret [31])))))
 (sC 94 [25] 0<|sB .neq 53 31<|.ite 54
 (.ret [53])
 (.step (.len 25)<|sC 97 [34,25,55,31] 0<|sB .eql 56 31<|.ite 57
 (sI 14<|.ret [58])
 (.ret [31])))))))))))))
def ae2:aF:=.fn [.sc] [.sc]<|sI 1<|sB .eql 0 1<|.ite 2
 (.step (.ci .u64 1)<|sI 0<|sT [109,105,110]<|.step (.mk [3,4,1,5])<|.step (.ci .u64 2)<|sT [109,97,120]<|.step (.mk [7,4,1,8])<|.step (.ci .u64 3)<|
 sI 3<|sT [110,97,109,101]<|.step (.mk [10,11,1,12])<|.step (.ci .u64 4)<|sI 2<|sT [114,101,103,105,111,110]<|.step (.mk [14,11,15,16])<|
 .step (.ci .u64 5)<|sT [102,108,97,103,115]<|.step (.mk [18,4,11,19])<|.step (.ml [6,9,13,17,20])<|.ret [21])
 (sI 2<|sB .eql 0 3<|.ite 4
 (.step (.ci .u64 1)<|sI 0<|sT [99,104,111,115,101,110]<|.step (.mk [5,6,1,7])<|.step (.ci .u64 2)<|sI 3<|sT [110,97,109,101]<|
 .step (.mk [9,10,1,11])<|.step (.ci .u64 3)<|sT [114,101,103,105,111,110]<|.step (.mk [13,10,3,14])<|.step (.ml [8,12,15])<|.ret [16])
 (sI 3<|sB .eql 0 5<|.ite 6
 (.step (.ci .u64 1)<|sI 0<|sT [105,100]<|.step (.mk [7,8,1,9])<|.step (.ci .u64 2)<|sI 4<|sT [100,101,115,99,114]<|.step (.mk [11,12,1,13])<|
 .step (.ci .u64 3)<|sT [99,111,115,116]<|.step (.mk [15,8,1,16])<|.step (.ci .u64 4)<|sT [112,114,105,111,114,105,116,121]<|.step (.mk [18,8,3,19])<|
 .step (.ci .u64 5)<|sT [100,101,97,100,108,105,110,101]<|.step (.mk [21,8,5,22])<|.step (.ml [10,14,17,20,23])<|.ret [24])
 (sI 4<|sB .eql 0 7<|.ite 8
 (.step (.ci .u64 1)<|sI 0<|sT [105,100]<|.step (.mk [9,10,1,11])<|.step (.ci .u64 2)<|sT [97,108,108,111,119,101,100]<|.step (.mk [13,1,1,14])<|
 .step (.ci .u64 3)<|sT [114,101,109,97,105,110,105,110,103]<|.step (.mk [16,3,1,17])<|.step (.ci .u64 4)<|sT [114,101,116,114,121]<|.step (.mk [19,10,3,20])<|
 .step (.ci .u64 5)<|sT [110,111,116,101]<|.step (.mk [22,5,5,23])<|.step (.ml [12,15,18,21,24])<|.ret [25])
 (sI 5<|sB .eql 0 9<|.ite 10
 (.step (.ci .u64 1)<|sI 0<|sT [101,112,111,99,104]<|.step (.mk [11,12,1,13])<|.step (.ci .u64 2)<|sT [116,97,98,108,101]<|.step (.mk [15,9,1,16])<|
 .step (.ci .u64 3)<|sT [114,101,103,105,111,110]<|.step (.mk [18,5,3,19])<|.step (.ci .u64 4)<|sT [100,105,103,101,115,116]<|.step (.mk [21,12,5,22])<|
 .step (.ml [14,17,20,23])<|.ret [24])
 (sI 6<|sB .eql 0 11<|.ite 12
 (.step (.ci .u64 1)<|sI 0<|sT [98,97,115,101]<|.step (.mk [13,14,3,15])<|.step (.ci .u64 2)<|sT [101,112,111,99,104]<|.step (.mk [17,14,3,18])<|
 .step (.ci .u64 3)<|sT [116,97,98,108,101]<|.step (.mk [20,9,3,21])<|.step (.ci .u64 4)<|sT [114,101,103,105,111,110]<|.step (.mk [23,5,3,24])<|.step (.ci .u64 5)<|
 sT [100,105,103,101,115,116]<|.step (.mk [26,14,5,27])<|.step (.ml [16,19,22,25,28])<|.ret [29])
 (sI 7<|sB .eql 0 13<|.ite 14
 (.step (.ci .u64 1)<|sI 0<|sT [101,112,111,99,104]<|.step (.mk [15,16,1,17])<|.step (.ci .u64 2)<|sT [108,97,103]<|.step (.mk [19,16,5,20])<|
 .step (.ml [18,21])<|.ret [22])
 (sI 8<|sB .eql 0 15<|.ite 16
 (.step (.ci .u64 1)<|sI 0<|sT [101,112,111,99,104]<|.step (.mk [17,18,1,19])<|.step (.ci .u64 2)<|sT [99,111,100,101]<|.step (.mk [21,18,1,22])<|
 .step (.ci .u64 3)<|sT [119,97,110,116]<|.step (.mk [24,18,3,25])<|.step (.ci .u64 4)<|sT [110,111,116,101]<|.step (.mk [27,5,5,28])<|.step (.ml [20,23,26,29])<|
 .ret [30])
 (.step (.ml [])<|.ret [17]))))))))
def afW:aF:=.fn [.ag 24] [.ag 24]<|sL 0 0<|sL 1 0<|sL 2 0<|sL 3 0<|sL 4 0<|sL 5 0<|sL 6 0<|sL 7 0<|
 sL 8 0<|sL 9 0<|sL 10 0<|sL 11 0<|sL 12 0<|sL 13 0<|sL 14 0<|sL 15 0<|sL 16 0<|
 sL 17 0<|sL 18 0<|sL 19 0<|sL 20 0<|sL 21 0<|sL 22 0<|sL 23 0<|sC 168 [22] 0<|sC 170 [23] 0<|
 sC 172 [24] 0<|.step (.mk [1,2,3,4,5,6,7,8,9,10,11,12,13,14,15,16,17,18,19,20,21,25,26,27])<|.ret [28]
def afu:aF:=.tree 28<|sC 113 [24] 0<|sI 0<|sB .lss 28 29<|.ite 30
 (sI 26<|.ret [29,31])
 (sI 3<|sB .quo 28 31<|sB .neq 25 32<|.ite 33
 (sI 8<|.ret [29,34])
 (sB .eql 25 29<|.ite 34
 (.step (.ci .u64 0)<|sB .eql 26 35<|.ite 36
 (sI 17<|.ret [29,37])
 (sI 1<|sB .eql 25 37<|sB .eql 28 29<|.ite 39
 (sT [105,100]<|sB .eql 24 40<|.ite 41
 (.ret [37,26,2,3,4,5,6,7,8,9,10,11,12,13,14,15,16,17,18,19,20,21,22])
 (sT [109,105,110]<|sB .eql 24 42<|.ite 43
 (.ret [37,1,26,3,4,5,6,7,8,9,10,11,12,13,14,15,16,17,18,19,20,21,22])
 (sT [109,97,120]<|sB .eql 24 44<|.ite 45
 (.ret [37,1,2,26,4,5,6,7,8,9,10,11,12,13,14,15,16,17,18,19,20,21,22])
 (sT [99,104,111,115,101,110]<|sB .eql 24 46<|.ite 47
 (.ret [37,1,2,3,26,5,6,7,8,9,10,11,12,13,14,15,16,17,18,19,20,21,22])
 (sT [102,108,97,103,115]<|sB .eql 24 48<|.ite 49
 (.ret [37,1,2,3,4,26,6,7,8,9,10,11,12,13,14,15,16,17,18,19,20,21,22])
 (sT [99,111,115,116]<|sB .eql 24 50<|.ite 51
 (.ret [37,1,2,3,4,5,26,7,8,9,10,11,12,13,14,15,16,17,18,19,20,21,22])
 (sT [112,114,105,111,114,105,116,121]<|sB .eql 24 52<|.ite 53
 (.ret [37,1,2,3,4,5,6,26,8,9,10,11,12,13,14,15,16,17,18,19,20,21,22])
 (sT [100,101,97,100,108,105,110,101]<|sB .eql 24 54<|.ite 55
 (.ret [37,1,2,3,4,5,6,7,26,9,10,11,12,13,14,15,16,17,18,19,20,21,22])
 (sT [114,101,116,114,121]<|sB .eql 24 56<|.ite 57
 (.ret [37,1,2,3,4,5,6,7,8,26,10,11,12,13,14,15,16,17,18,19,20,21,22])
 (sT [101,112,111,99,104]<|sB .eql 24 58<|.ite 59
 (.ret [37,1,2,3,4,5,6,7,8,9,26,11,12,13,14,15,16,17,18,19,20,21,22])
 (sT [98,97,115,101]<|sB .eql 24 60<|.ite 61
 (.ret [37,1,2,3,4,5,6,7,8,9,10,26,12,13,14,15,16,17,18,19,20,21,22])
 (sT [100,105,103,101,115,116]<|sB .eql 24 62<|.ite 63
 (.ret [37,1,2,3,4,5,6,7,8,9,10,11,26,13,14,15,16,17,18,19,20,21,22])
 (sT [108,97,103]<|sB .eql 24 64<|.ite 65
 (.ret [37,1,2,3,4,5,6,7,8,9,10,11,12,26,14,15,16,17,18,19,20,21,22])
 (sT [99,111,100,101]<|sB .eql 24 66<|.ite 67
 (.ret [37,1,2,3,4,5,6,7,8,9,10,11,12,13,26,15,16,17,18,19,20,21,22])
 (.ret [37,1,2,3,4,5,6,7,8,9,10,11,12,13,14,26,16,17,18,19,20,21,22])))))))))))))))
 (sB .eql 28 37<|.ite 40
 (.step (.ci .u64 1)<|sB .neq 26 41<|.ite 42
 (sI 18<|.ret [29,43])
 (.step (.cb true)<|.ret [37,1,2,3,4,5,6,7,8,9,10,11,12,13,14,15,16,43,18,19,20,21,22]))
 (sI 2<|sB .eql 28 41<|.ite 42
 (.step (.ci .u64 2)<|sB .rem 26 43<|sB .eql 44 35<|.ite 45
 (sB .quo 26 43<|.step (.conv .i64 46)<|.ret [37,1,2,3,4,5,6,7,8,9,10,11,12,13,14,15,47,17,18,19,20,21,22])
 (sB .quo 26 43<|.step (.conv .i64 46)<|sB .sub 29 47<|sB .sub 48 37<|.ret [37,1,2,3,4,5,6,7,8,9,10,11,12,13,14,15,49,17,18,19,20,21,22]))
 (sB .eql 28 31<|.ite 43
 (sI 256<|sC 116 [27,29,44] 0<|sT [110,97,109,101]<|sB .eql 24 46<|.ite 47
 (sB .neq 45 29<|.ite 48
 (.ret [29,45])
 (.ret [37,1,2,3,4,5,6,7,8,9,10,11,12,13,14,15,16,17,27,19,20,21,22]))
 (sT [114,101,103,105,111,110]<|sB .eql 24 48<|.ite 49
 (sB .neq 45 29<|.ite 50
 (.ret [29,45])
 (.ret [37,1,2,3,4,5,6,7,8,9,10,11,12,13,14,15,16,17,18,27,20,21,22]))
 (sB .neq 45 29<|.ite 50
 (.ret [29,45])
 (.ret [37,1,2,3,4,5,6,7,8,9,10,11,12,13,14,15,16,17,18,19,27,21,22]))))
 (sI 4<|sB .eql 28 44<|.ite 45
 (sC 121 [27] 0<|sC 121 [27] 1<|sB .neq 47 29<|.ite 48
 (.ret [29,47])
 (.ret [37,1,2,3,4,5,6,7,8,9,10,11,12,13,14,15,16,17,18,19,20,46,22]))
 (sC 131 [27] 0<|sC 131 [27] 1<|sB .eql 47 29<|.ite 48
 (.step (.len 46)<|sB .eql 49 29<|.ite 50
 (sI 17<|.ret [29,51])
 (sB .neq 47 29<|.ret [37,1,2,3,4,5,6,7,8,9,10,11,12,13,14,15,16,17,18,19,20,21,46]))
 (sB .neq 47 29<|.ret [29,47]))))))))
 (sI 1<|sB .eql 25 35<|.ite 36
 (sT []<|sB .eql 27 37<|.ite 38
 (sI 17<|.ret [29,39])
 (sB .eql 28 29<|.ite 39
 (sT [105,100]<|sB .eql 24 40<|.ite 41
 (.ret [35,26,2,3,4,5,6,7,8,9,10,11,12,13,14,15,16,17,18,19,20,21,22])
 (sT [109,105,110]<|sB .eql 24 42<|.ite 43
 (.ret [35,1,26,3,4,5,6,7,8,9,10,11,12,13,14,15,16,17,18,19,20,21,22])
 (sT [109,97,120]<|sB .eql 24 44<|.ite 45
 (.ret [35,1,2,26,4,5,6,7,8,9,10,11,12,13,14,15,16,17,18,19,20,21,22])
 (sT [99,104,111,115,101,110]<|sB .eql 24 46<|.ite 47
 (.ret [35,1,2,3,26,5,6,7,8,9,10,11,12,13,14,15,16,17,18,19,20,21,22])
 (sT [102,108,97,103,115]<|sB .eql 24 48<|.ite 49
 (.ret [35,1,2,3,4,26,6,7,8,9,10,11,12,13,14,15,16,17,18,19,20,21,22])
 (sT [99,111,115,116]<|sB .eql 24 50<|.ite 51
 (.ret [35,1,2,3,4,5,26,7,8,9,10,11,12,13,14,15,16,17,18,19,20,21,22])
 (sT [112,114,105,111,114,105,116,121]<|sB .eql 24 52<|.ite 53
 (.ret [35,1,2,3,4,5,6,26,8,9,10,11,12,13,14,15,16,17,18,19,20,21,22])
 (sT [100,101,97,100,108,105,110,101]<|sB .eql 24 54<|.ite 55
 (.ret [35,1,2,3,4,5,6,7,26,9,10,11,12,13,14,15,16,17,18,19,20,21,22])
 (sT [114,101,116,114,121]<|sB .eql 24 56<|.ite 57
 (.ret [35,1,2,3,4,5,6,7,8,26,10,11,12,13,14,15,16,17,18,19,20,21,22])
 (sT [101,112,111,99,104]<|sB .eql 24 58<|.ite 59
 (.ret [35,1,2,3,4,5,6,7,8,9,26,11,12,13,14,15,16,17,18,19,20,21,22])
 (sT [98,97,115,101]<|sB .eql 24 60<|.ite 61
 (.ret [35,1,2,3,4,5,6,7,8,9,10,26,12,13,14,15,16,17,18,19,20,21,22])
 (sT [100,105,103,101,115,116]<|sB .eql 24 62<|.ite 63
 (.ret [35,1,2,3,4,5,6,7,8,9,10,11,26,13,14,15,16,17,18,19,20,21,22])
 (sT [108,97,103]<|sB .eql 24 64<|.ite 65
 (.ret [35,1,2,3,4,5,6,7,8,9,10,11,12,26,14,15,16,17,18,19,20,21,22])
 (sT [99,111,100,101]<|sB .eql 24 66<|.ite 67
 (.ret [35,1,2,3,4,5,6,7,8,9,10,11,12,13,26,15,16,17,18,19,20,21,22])
 (.ret [35,1,2,3,4,5,6,7,8,9,10,11,12,13,14,26,16,17,18,19,20,21,22])))))))))))))))
 (sB .eql 28 35<|.ite 40
 (.step (.ci .u64 1)<|sB .neq 26 41<|.ite 42
 (sI 18<|.ret [29,43])
 (.step (.cb true)<|.ret [35,1,2,3,4,5,6,7,8,9,10,11,12,13,14,15,16,43,18,19,20,21,22]))
 (sI 2<|sB .eql 28 41<|.ite 42
 (.step (.ci .u64 2)<|sB .rem 26 43<|.step (.ci .u64 0)<|sB .eql 44 45<|.ite 46
 (sB .quo 26 43<|.step (.conv .i64 47)<|.ret [35,1,2,3,4,5,6,7,8,9,10,11,12,13,14,15,48,17,18,19,20,21,22])
 (sB .quo 26 43<|.step (.conv .i64 47)<|sB .sub 29 48<|sB .sub 49 35<|.ret [35,1,2,3,4,5,6,7,8,9,10,11,12,13,14,15,50,17,18,19,20,21,22]))
 (sB .eql 28 31<|.ite 43
 (sI 256<|sC 116 [27,29,44] 0<|sT [110,97,109,101]<|sB .eql 24 46<|.ite 47
 (sB .neq 45 29<|.ite 48
 (.ret [29,45])
 (.ret [35,1,2,3,4,5,6,7,8,9,10,11,12,13,14,15,16,17,27,19,20,21,22]))
 (sT [114,101,103,105,111,110]<|sB .eql 24 48<|.ite 49
 (sB .neq 45 29<|.ite 50
 (.ret [29,45])
 (.ret [35,1,2,3,4,5,6,7,8,9,10,11,12,13,14,15,16,17,18,27,20,21,22]))
 (sB .neq 45 29<|.ite 50
 (.ret [29,45])
 (.ret [35,1,2,3,4,5,6,7,8,9,10,11,12,13,14,15,16,17,18,19,27,21,22]))))
 (sI 4<|sB .eql 28 44<|.ite 45
 (sC 121 [27] 0<|sC 121 [27] 1<|sB .neq 47 29<|.ite 48
 (.ret [29,47])
 (.ret [35,1,2,3,4,5,6,7,8,9,10,11,12,13,14,15,16,17,18,19,20,46,22]))
 (sC 131 [27] 0<|sC 131 [27] 1<|sB .eql 47 29<|.ite 48
 (.step (.len 46)<|sB .eql 49 29<|.ite 50
 (sI 17<|.ret [29,51])
 (sB .neq 47 29<|.ret [35,1,2,3,4,5,6,7,8,9,10,11,12,13,14,15,16,17,18,19,20,21,46]))
 (sB .neq 47 29<|.ret [29,47]))))))))
 (sB .eql 28 29<|.ite 37
 (sT [105,100]<|sB .eql 24 38<|.ite 39
 (.ret [35,26,2,3,4,5,6,7,8,9,10,11,12,13,14,15,16,17,18,19,20,21,22])
 (sT [109,105,110]<|sB .eql 24 40<|.ite 41
 (.ret [35,1,26,3,4,5,6,7,8,9,10,11,12,13,14,15,16,17,18,19,20,21,22])
 (sT [109,97,120]<|sB .eql 24 42<|.ite 43
 (.ret [35,1,2,26,4,5,6,7,8,9,10,11,12,13,14,15,16,17,18,19,20,21,22])
 (sT [99,104,111,115,101,110]<|sB .eql 24 44<|.ite 45
 (.ret [35,1,2,3,26,5,6,7,8,9,10,11,12,13,14,15,16,17,18,19,20,21,22])
 (sT [102,108,97,103,115]<|sB .eql 24 46<|.ite 47
 (.ret [35,1,2,3,4,26,6,7,8,9,10,11,12,13,14,15,16,17,18,19,20,21,22])
 (sT [99,111,115,116]<|sB .eql 24 48<|.ite 49
 (.ret [35,1,2,3,4,5,26,7,8,9,10,11,12,13,14,15,16,17,18,19,20,21,22])
 (sT [112,114,105,111,114,105,116,121]<|sB .eql 24 50<|.ite 51
 (.ret [35,1,2,3,4,5,6,26,8,9,10,11,12,13,14,15,16,17,18,19,20,21,22])
 (sT [100,101,97,100,108,105,110,101]<|sB .eql 24 52<|.ite 53
 (.ret [35,1,2,3,4,5,6,7,26,9,10,11,12,13,14,15,16,17,18,19,20,21,22])
 (sT [114,101,116,114,121]<|sB .eql 24 54<|.ite 55
 (.ret [35,1,2,3,4,5,6,7,8,26,10,11,12,13,14,15,16,17,18,19,20,21,22])
 (sT [101,112,111,99,104]<|sB .eql 24 56<|.ite 57
 (.ret [35,1,2,3,4,5,6,7,8,9,26,11,12,13,14,15,16,17,18,19,20,21,22])
 (sT [98,97,115,101]<|sB .eql 24 58<|.ite 59
 (.ret [35,1,2,3,4,5,6,7,8,9,10,26,12,13,14,15,16,17,18,19,20,21,22])
 (sT [100,105,103,101,115,116]<|sB .eql 24 60<|.ite 61
 (.ret [35,1,2,3,4,5,6,7,8,9,10,11,26,13,14,15,16,17,18,19,20,21,22])
 (sT [108,97,103]<|sB .eql 24 62<|.ite 63
 (.ret [35,1,2,3,4,5,6,7,8,9,10,11,12,26,14,15,16,17,18,19,20,21,22])
 (sT [99,111,100,101]<|sB .eql 24 64<|.ite 65
 (.ret [35,1,2,3,4,5,6,7,8,9,10,11,12,13,26,15,16,17,18,19,20,21,22])
 (.ret [35,1,2,3,4,5,6,7,8,9,10,11,12,13,14,26,16,17,18,19,20,21,22])))))))))))))))
 (sB .eql 28 35<|.ite 38
 (.step (.ci .u64 1)<|sB .neq 26 39<|.ite 40
 (sI 18<|.ret [29,41])
 (.step (.cb true)<|.ret [35,1,2,3,4,5,6,7,8,9,10,11,12,13,14,15,16,41,18,19,20,21,22]))
 (sI 2<|sB .eql 28 39<|.ite 40
 (.step (.ci .u64 2)<|sB .rem 26 41<|.step (.ci .u64 0)<|sB .eql 42 43<|.ite 44
 (sB .quo 26 41<|.step (.conv .i64 45)<|.ret [35,1,2,3,4,5,6,7,8,9,10,11,12,13,14,15,46,17,18,19,20,21,22])
 (sB .quo 26 41<|.step (.conv .i64 45)<|sB .sub 29 46<|sB .sub 47 35<|.ret [35,1,2,3,4,5,6,7,8,9,10,11,12,13,14,15,48,17,18,19,20,21,22]))
 (sB .eql 28 31<|.ite 41
 (sI 256<|sC 116 [27,29,42] 0<|sT [110,97,109,101]<|sB .eql 24 44<|.ite 45
 (sB .neq 43 29<|.ite 46
 (.ret [29,43])
 (.ret [35,1,2,3,4,5,6,7,8,9,10,11,12,13,14,15,16,17,27,19,20,21,22]))
 (sT [114,101,103,105,111,110]<|sB .eql 24 46<|.ite 47
 (sB .neq 43 29<|.ite 48
 (.ret [29,43])
 (.ret [35,1,2,3,4,5,6,7,8,9,10,11,12,13,14,15,16,17,18,27,20,21,22]))
 (sB .neq 43 29<|.ite 48
 (.ret [29,43])
 (.ret [35,1,2,3,4,5,6,7,8,9,10,11,12,13,14,15,16,17,18,19,27,21,22]))))
 (sI 4<|sB .eql 28 42<|.ite 43
 (sC 121 [27] 0<|sC 121 [27] 1<|sB .neq 45 29<|.ite 46
 (.ret [29,45])
 (.ret [35,1,2,3,4,5,6,7,8,9,10,11,12,13,14,15,16,17,18,19,20,44,22]))
 (sC 131 [27] 0<|sC 131 [27] 1<|sB .eql 45 29<|.ite 46
 (.step (.len 44)<|sB .eql 47 29<|.ite 48
 (sI 17<|.ret [29,49])
 (sB .neq 45 29<|.ret [35,1,2,3,4,5,6,7,8,9,10,11,12,13,14,15,16,17,18,19,20,21,44]))
 (sB .neq 45 29<|.ret [29,45]))))))))))
def d93:aF:=.tree 0<|sI 0<|.ret [0]
def d92:aF:=.tree 24<|sI 0<|.ret [24]
def d91:aF:=.tree 24<|sI 0<|.ret [24]
def d90:aF:=.tree 24<|sI 0<|.ret [24]
def d89:aF:=.tree 24<|sI 0<|.ret [24]
def d88:aF:=.tree 24<|sI 0<|.ret [24]
def d87:aF:=.tree 24<|sI 0<|.ret [24]
def d86:aF:=.tree 24<|sI 0<|.ret [24]
def d85:aF:=.tree 24<|sI 0<|.ret [24]
def d84:aF:=.tree 24<|sI 0<|.ret [24]
def d83:aF:=.tree 24<|sI 0<|.ret [24]
def d82:aF:=.tree 24<|sI 0<|.ret [24]
def d81:aF:=.tree 24<|sI 0<|.ret [24]
def d80:aF:=.tree 24<|sI 0<|.ret [24]
def d79:aF:=.tree 24<|sI 0<|.ret [24]
def d78:aF:=.tree 24<|sI 0<|.ret [24]
def d67:aF:=.tree 24<|sC 68 [22] 0<|sI 0<|.ret [25,24]
def d64:aF:=.tree 24<|.step (.len 21)<|sI 0<|sB .gtr 24 25<|.ite 26
 (sC 65 [21] 0<|.ret [25,27])
 (.ret [25,25])
def d63:aF:=.tree 24<|sI 0<|sI 256<|sC 38 [20,24,25] 0<|.ret [24,26]
def d62:aF:=.tree 24<|sI 0<|sI 256<|sC 38 [19,24,25] 0<|.ret [24,26]
def d61:aF:=.tree 24<|sI 0<|sI 256<|sC 38 [18,24,25] 0<|.ret [24,26]
def d60:aF:=.tree 24<|sI 0<|.ret [24]
def d59:aF:=.tree 24<|sI 0<|.ret [24]
def d53:aF:=.tree 3<|sC 41 [0] 0<|sC 41 [0] 1<|sI 0<|sB .neq 4 5<|.ite 6
 (.step (.ml [])<|.step (.ci .u64 0)<|.ret [5,7,8,4,1,2])
 (oI 10 [1,2]<|
 sB .neq 9 5<|.ite 12
 (.step (.ml [])<|.step (.ci .u64 0)<|.ret [5,13,14,9,10,11])
 (.step (.ci .u64 0)<|sB .eql 8 13<|.ite 14
 (.step (.ml [])<|sI 17<|.ret [5,15,13,16,10,11])
 (.ret [5,3,8,5,10,11])))
def d50:aF:=.tree 4<|.ite 3
 (oI 10 [0,1]<|
 sI 0<|sB .neq 6 9<|
 .ite 10
 (sT []<|.ret [9,11,6,7,8])
 (.step (.ci .u64 0)<|sB .gtr 5 11<|.ite 12
 (sT []<|sI 23<|.ret [9,13,14,7,8])
 (oI 10 [7,8]<|
 sB .neq 15 9<|.ite 18
 (sT []<|.ret [9,19,15,16,17])
 (.step (.slen 16)<|sB .sub 19 17<|.step (.conv .u64 20)<|sB .gtr 14 21<|.ite 22
 (sT []<|sI 1<|.ret [9,23,24,16,17])
 (.step (.conv .i64 14)<|sB .add 17 23<|.step (.fV 16 17 24)<|sT []<|.step (.fV 26 9 5)<|sB .add 27 25<|.step (.un .not 3)<|.ite 29
 (sB .leq 28 26<|.ite 30
 (sI 7<|.ret [9,26,31,16,24])
 (sC 51 [26,28] 0<|.step (.conv .i64 5)<|sB .gtr 31 32<|.ite 33
 (sI 23<|.ret [9,26,34,16,24])
 (.ret [9,28,9,16,24])))
 (sC 51 [26,28] 0<|.step (.conv .i64 5)<|sB .gtr 30 31<|.ite 32
 (sI 23<|.ret [9,26,33,16,24])
 (.ret [9,28,9,16,24])))))))
 (oI 10 [0,1]<|
 sI 0<|sB .neq 6 9<|
 .ite 10
 (sT []<|.ret [9,11,6,7,8])
 (.step (.slen 2)<|.step (.conv .u64 11)<|sB .gtr 5 12<|.ite 13
 (sT []<|sI 23<|.ret [9,14,15,7,8])
 (oI 10 [7,8]<|
 sB .neq 16 9<|.ite 19
 (sT []<|.ret [9,20,16,17,18])
 (.step (.slen 17)<|sB .sub 20 18<|.step (.conv .u64 21)<|sB .gtr 15 22<|.ite 23
 (sT []<|sI 1<|.ret [9,24,25,17,18])
 (.step (.conv .i64 15)<|sB .add 18 24<|.step (.fV 17 18 25)<|.step (.fV 2 9 5)<|sB .add 27 26<|.step (.un .not 3)<|.ite 29
 (sB .leq 28 2<|.ite 30
 (sT []<|sI 7<|.ret [9,31,32,17,25])
 (sC 51 [2,28] 0<|.step (.conv .i64 5)<|sB .gtr 31 32<|.ite 33
 (sT []<|sI 23<|.ret [9,34,35,17,25])
 (.ret [9,28,9,17,25])))
 (sC 51 [2,28] 0<|.step (.conv .i64 5)<|sB .gtr 30 31<|.ite 32
 (sT []<|sI 23<|.ret [9,33,34,17,25])
 (.ret [9,28,9,17,25])))))))
def d48:aF:=.tree 2<|oI 10 [0,1]<|
 sI 0<|
 sB .neq 4 7<|.ite 8
 (.step (.ml [])<|.ret [7,9,4,5,6])
 (.step (.ci .u64 256)<|sB .gtr 3 9<|.ite 10
 (.step (.ml [])<|sI 13<|.ret [7,11,12,5,6])
 (.step (.ml [])<|.step (.ci .u64 0)<|.step (.mk [11,12])<|.step (.rep 2 32 13 7 3)<|.step (.conv .i64 3)<|sT []<|sC 49 [14,16,15,7,5,6] 0<|sB .eql 17 7<|
 .ite 18
 (sC 49 [14,16,15,7,5,6] 1<|sC 49 [14,16,15,7,5,6] 2<|sC 49 [14,16,15,7,5,6] 3<|.ret [7,11,19,20,21])
 (sC 49 [14,16,15,7,5,6] 1<|sC 49 [14,16,15,7,5,6] 2<|sC 49 [14,16,15,7,5,6] 3<|.ret [7,19,7,20,21])))
def d45:aF:=.tree 2<|oI 10 [0,1]<|
 sI 0<|
 sB .neq 4 7<|.ite 8
 (sT []<|.ret [7,9,4,5,6])
 (.step (.slen 5)<|sB .sub 9 6<|.step (.conv .u64 10)<|sB .gtr 3 11<|.ite 12
 (sT []<|sI 1<|.ret [7,13,14,5,6])
 (.step (.conv .i64 3)<|sB .add 6 13<|.step (.fV 5 6 14)<|.ret [7,15,7,5,14]))
def d44:aF:=.tree 2<|oI 45 [0,1]<|
 sI 0<|
 sB .neq 4 7<|.ite 8
 (sT []<|.ret [7,9,9,4,5,6])
 (oI 45 [5,6]<|
 sB .neq 11 7<|.ite 14
 (sT []<|.ret [7,15,15,11,12,13])
 (.step (.mk [3,10])<|sC 46 [15] 0<|sB .neq 16 7<|.ite 17
 (sT []<|.ret [7,18,18,16,12,13])
 (.ret [7,3,10,7,12,13])))
def d42:aF:=.tree 2<|oI 10 [0,1]<|
 sI 0<|
 sB .neq 4 7<|.ite 8
 (.step (.ml [])<|.ret [7,9,4,5,6])
 (.step (.ci .u64 0)<|sB .eql 3 9<|.ite 10
 (.step (.ml [])<|sI 12<|.ret [7,11,12,5,6])
 (.step (.ci .u64 16)<|sB .gtr 3 11<|.ite 12
 (.step (.ml [])<|sI 13<|.ret [7,13,14,5,6])
 (sT []<|.step (.mk [13,13])<|.step (.rep 2 32 14 7 3)<|.step (.conv .i64 3)<|sC 43 [15,16,7,5,6] 0<|sB .eql 17 7<|.ite 18
 (sC 43 [15,16,7,5,6] 1<|sC 43 [15,16,7,5,6] 2<|sC 43 [15,16,7,5,6] 3<|.step (.ml [])<|.ret [7,22,19,20,21])
 (sC 43 [15,16,7,5,6] 1<|sC 43 [15,16,7,5,6] 2<|sC 43 [15,16,7,5,6] 3<|.ret [7,19,7,20,21]))))
def d36:aF:=.tree 30<|sT [114,101,109,97,105,110,105,110,103]<|sB .eql 0 30<|.ite 31
 (sI 2<|sC 37 [32] 0<|sB .neq 2 33<|.ite 34
 (sI 8<|sI 0<|.ret [36,35,7,8,9,10,11,12,13,14,15,16,17,18,19,20,21,22,23,24,25,26,27,28])
 (sI 0<|sB .eql 2 35<|.ite 36
 (.step (.ci .u64 0)<|sB .eql 3 37<|.ite 38
 (sI 17<|.ret [35,39,7,8,9,10,11,12,13,14,15,16,17,18,19,20,21,22,23,24,25,26,27,28])
 (sI 1<|sB .eql 2 39<|.step (.ci .u64 1)<|sB .shr 3 41<|.step (.conv .i64 42)<|sB .and 3 41<|.step (.conv .i64 44)<|.step (.un .neg 45)<|
 sB .xor 43 46<|.ret [35,35,7,8,9,10,11,12,13,14,15,16,17,18,19,20,21,47,23,24,25,26,27,28]))
 (sI 1<|sB .eql 2 37<|.ite 38
 (sT []<|sB .eql 4 39<|.ite 40
 (sI 17<|.ret [35,41,7,8,9,10,11,12,13,14,15,16,17,18,19,20,21,22,23,24,25,26,27,28])
 (.step (.ci .u64 1)<|sB .shr 3 41<|.step (.conv .i64 42)<|sB .and 3 41<|.step (.conv .i64 44)<|.step (.un .neg 45)<|sB .xor 43 46<|.ret [35,35,7,8,9,10,11,12,13,14,15,16,17,18,19,20,21,47,23,24,25,26,27,28]))
 (.step (.ci .u64 1)<|sB .shr 3 39<|.step (.conv .i64 40)<|sB .and 3 39<|.step (.conv .i64 42)<|.step (.un .neg 43)<|sB .xor 41 44<|.ret [35,35,7,8,9,10,11,12,13,14,15,16,17,18,19,20,21,45,23,24,25,26,27,28]))))
 (sT [97,108,108,111,119,101,100]<|sB .eql 0 32<|.ite 33
 (sI 1<|sC 37 [34] 0<|sB .neq 2 35<|.ite 36
 (sI 8<|sI 0<|.ret [38,37,7,8,9,10,11,12,13,14,15,16,17,18,19,20,21,22,23,24,25,26,27,28])
 (sI 0<|sB .eql 2 37<|.ite 38
 (.step (.ci .u64 0)<|sB .eql 3 39<|.ite 40
 (sI 17<|.ret [37,41,7,8,9,10,11,12,13,14,15,16,17,18,19,20,21,22,23,24,25,26,27,28])
 (sB .eql 2 34<|.step (.ci .u64 1)<|sB .neq 3 42<|.ite 43
 (sI 18<|.ret [37,44,7,8,9,10,11,12,13,14,15,16,17,18,19,20,21,22,23,24,25,26,27,28])
 (.step (.cb true)<|.ret [37,37,7,8,9,10,11,12,13,14,15,16,17,18,19,20,21,22,44,24,25,26,27,28])))
 (sB .eql 2 34<|.ite 39
 (sT []<|sB .eql 4 40<|.ite 41
 (sI 17<|.ret [37,42,7,8,9,10,11,12,13,14,15,16,17,18,19,20,21,22,23,24,25,26,27,28])
 (.step (.ci .u64 1)<|sB .neq 3 42<|.ite 43
 (sI 18<|.ret [37,44,7,8,9,10,11,12,13,14,15,16,17,18,19,20,21,22,23,24,25,26,27,28])
 (.step (.cb true)<|.ret [37,37,7,8,9,10,11,12,13,14,15,16,17,18,19,20,21,22,44,24,25,26,27,28])))
 (.step (.ci .u64 1)<|sB .neq 3 40<|.ite 41
 (sI 18<|.ret [37,42,7,8,9,10,11,12,13,14,15,16,17,18,19,20,21,22,23,24,25,26,27,28])
 (.step (.cb true)<|.ret [37,37,7,8,9,10,11,12,13,14,15,16,17,18,19,20,21,22,42,24,25,26,27,28])))))
 (sT [110,97,109,101]<|sB .eql 0 34<|.ite 35
 (sI 3<|sC 37 [36] 0<|sB .neq 2 37<|.ite 38
 (sI 8<|sI 0<|.ret [40,39,7,8,9,10,11,12,13,14,15,16,17,18,19,20,21,22,23,24,25,26,27,28])
 (sI 0<|sB .eql 2 39<|.ite 40
 (.step (.ci .u64 0)<|sB .eql 3 41<|.ite 42
 (sI 17<|.ret [39,43,7,8,9,10,11,12,13,14,15,16,17,18,19,20,21,22,23,24,25,26,27,28])
 (sI 1<|sB .eql 2 43<|sI 256<|sC 38 [4,39,45] 0<|.ret [39,46,7,8,9,10,11,12,13,14,15,16,17,18,19,20,21,22,23,4,25,26,27,28]))
 (sI 1<|sB .eql 2 41<|.ite 42
 (sT []<|sB .eql 4 43<|.ite 44
 (sI 17<|.ret [39,45,7,8,9,10,11,12,13,14,15,16,17,18,19,20,21,22,23,24,25,26,27,28])
 (sI 256<|sC 38 [4,39,45] 0<|.ret [39,46,7,8,9,10,11,12,13,14,15,16,17,18,19,20,21,22,23,4,25,26,27,28]))
 (sI 256<|sC 38 [4,39,43] 0<|.ret [39,44,7,8,9,10,11,12,13,14,15,16,17,18,19,20,21,22,23,4,25,26,27,28]))))
 (sT [114,101,103,105,111,110]<|sB .eql 0 36<|.ite 37
 (sI 3<|sC 37 [38] 0<|sB .neq 2 39<|.ite 40
 (sI 8<|sI 0<|.ret [42,41,7,8,9,10,11,12,13,14,15,16,17,18,19,20,21,22,23,24,25,26,27,28])
 (sI 0<|sB .eql 2 41<|.ite 42
 (.step (.ci .u64 0)<|sB .eql 3 43<|.ite 44
 (sI 17<|.ret [41,45,7,8,9,10,11,12,13,14,15,16,17,18,19,20,21,22,23,24,25,26,27,28])
 (sI 1<|sB .eql 2 45<|sI 256<|sC 38 [4,41,47] 0<|.ret [41,48,7,8,9,10,11,12,13,14,15,16,17,18,19,20,21,22,23,24,4,26,27,28]))
 (sI 1<|sB .eql 2 43<|.ite 44
 (sT []<|sB .eql 4 45<|.ite 46
 (sI 17<|.ret [41,47,7,8,9,10,11,12,13,14,15,16,17,18,19,20,21,22,23,24,25,26,27,28])
 (sI 256<|sC 38 [4,41,47] 0<|.ret [41,48,7,8,9,10,11,12,13,14,15,16,17,18,19,20,21,22,23,24,4,26,27,28]))
 (sI 256<|sC 38 [4,41,45] 0<|.ret [41,46,7,8,9,10,11,12,13,14,15,16,17,18,19,20,21,22,23,24,4,26,27,28]))))
 (sT [110,111,116,101]<|sB .eql 0 38<|.ite 39
 (sI 3<|sC 37 [40] 0<|sB .neq 2 41<|.ite 42
 (sI 8<|sI 0<|.ret [44,43,7,8,9,10,11,12,13,14,15,16,17,18,19,20,21,22,23,24,25,26,27,28])
 (sI 0<|sB .eql 2 43<|.ite 44
 (.step (.ci .u64 0)<|sB .eql 3 45<|.ite 46
 (sI 17<|.ret [43,47,7,8,9,10,11,12,13,14,15,16,17,18,19,20,21,22,23,24,25,26,27,28])
 (sI 1<|sB .eql 2 47<|sI 256<|sC 38 [4,43,49] 0<|.ret [43,50,7,8,9,10,11,12,13,14,15,16,17,18,19,20,21,22,23,24,25,4,27,28]))
 (sI 1<|sB .eql 2 45<|.ite 46
 (sT []<|sB .eql 4 47<|.ite 48
 (sI 17<|.ret [43,49,7,8,9,10,11,12,13,14,15,16,17,18,19,20,21,22,23,24,25,26,27,28])
 (sI 256<|sC 38 [4,43,49] 0<|.ret [43,50,7,8,9,10,11,12,13,14,15,16,17,18,19,20,21,22,23,24,25,4,27,28]))
 (sI 256<|sC 38 [4,43,47] 0<|.ret [43,48,7,8,9,10,11,12,13,14,15,16,17,18,19,20,21,22,23,24,25,4,27,28]))))
 (sT [100,101,115,99,114]<|sB .eql 0 40<|.ite 41
 (sI 4<|sC 37 [42] 0<|sB .neq 2 43<|.ite 44
 (sI 8<|sI 0<|.ret [46,45,7,8,9,10,11,12,13,14,15,16,17,18,19,20,21,22,23,24,25,26,27,28])
 (sI 0<|sB .eql 2 45<|.ite 46
 (.step (.ci .u64 0)<|sB .eql 3 47<|.ite 48
 (sI 17<|.ret [45,49,7,8,9,10,11,12,13,14,15,16,17,18,19,20,21,22,23,24,25,26,27,28])
 (sI 1<|sB .eql 2 49<|sC 41 [4] 0<|sC 41 [4] 1<|.ret [45,52,7,8,9,10,11,12,13,14,15,16,17,18,19,20,21,22,23,24,25,26,51,28]))
 (sI 1<|sB .eql 2 47<|.ite 48
 (sT []<|sB .eql 4 49<|.ite 50
 (sI 17<|.ret [45,51,7,8,9,10,11,12,13,14,15,16,17,18,19,20,21,22,23,24,25,26,27,28])
 (sC 41 [4] 0<|sC 41 [4] 1<|.ret [45,52,7,8,9,10,11,12,13,14,15,16,17,18,19,20,21,22,23,24,25,26,51,28]))
 (sC 41 [4] 0<|sC 41 [4] 1<|.ret [45,50,7,8,9,10,11,12,13,14,15,16,17,18,19,20,21,22,23,24,25,26,49,28]))))
 (sT [116,97,98,108,101]<|sB .eql 0 42<|.ite 43
 (sI 5<|sC 37 [44] 0<|sB .neq 2 45<|.ite 46
 (sI 8<|sI 0<|.ret [48,47,7,8,9,10,11,12,13,14,15,16,17,18,19,20,21,22,23,24,25,26,27,28])
 (sI 0<|sB .eql 2 47<|.ite 48
 (.step (.ci .u64 0)<|sB .eql 3 49<|.ite 50
 (sI 17<|.ret [47,51,7,8,9,10,11,12,13,14,15,16,17,18,19,20,21,22,23,24,25,26,27,28])
 (sI 1<|sB .eql 2 51<|sC 47 [4] 0<|sC 47 [4] 1<|sB .eql 54 47<|.ite 55
 (.step (.len 53)<|sB .eql 56 47<|.ite 57
 (sI 17<|.ret [47,58,7,8,9,10,11,12,13,14,15,16,17,18,19,20,21,22,23,24,25,26,27,53])
 (.ret [47,54,7,8,9,10,11,12,13,14,15,16,17,18,19,20,21,22,23,24,25,26,27,53]))
 (.ret [47,54,7,8,9,10,11,12,13,14,15,16,17,18,19,20,21,22,23,24,25,26,27,53])))
 (sI 1<|sB .eql 2 49<|.ite 50
 (sT []<|sB .eql 4 51<|.ite 52
 (sI 17<|.ret [47,53,7,8,9,10,11,12,13,14,15,16,17,18,19,20,21,22,23,24,25,26,27,28])
 (sC 47 [4] 0<|sC 47 [4] 1<|sB .eql 54 47<|.ite 55
 (.step (.len 53)<|sB .eql 56 47<|.ite 57
 (sI 17<|.ret [47,58,7,8,9,10,11,12,13,14,15,16,17,18,19,20,21,22,23,24,25,26,27,53])
 (.ret [47,54,7,8,9,10,11,12,13,14,15,16,17,18,19,20,21,22,23,24,25,26,27,53]))
 (.ret [47,54,7,8,9,10,11,12,13,14,15,16,17,18,19,20,21,22,23,24,25,26,27,53])))
 (sC 47 [4] 0<|sC 47 [4] 1<|sB .eql 52 47<|.ite 53
 (.step (.len 51)<|sB .eql 54 47<|.ite 55
 (sI 17<|.ret [47,56,7,8,9,10,11,12,13,14,15,16,17,18,19,20,21,22,23,24,25,26,27,51])
 (.ret [47,52,7,8,9,10,11,12,13,14,15,16,17,18,19,20,21,22,23,24,25,26,27,51]))
 (.ret [47,52,7,8,9,10,11,12,13,14,15,16,17,18,19,20,21,22,23,24,25,26,27,51])))))
 (sT [105,100]<|sB .eql 0 44<|.ite 45
 (sI 0<|sC 37 [46] 0<|sB .neq 2 47<|.ite 48
 (sI 8<|.ret [46,49,7,8,9,10,11,12,13,14,15,16,17,18,19,20,21,22,23,24,25,26,27,28])
 (sB .eql 2 46<|.ite 49
 (.step (.ci .u64 0)<|sB .eql 3 50<|.ite 51
 (sI 17<|.ret [46,52,7,8,9,10,11,12,13,14,15,16,17,18,19,20,21,22,23,24,25,26,27,28])
 (sI 1<|sB .eql 2 52<|.ret [46,46,3,8,9,10,11,12,13,14,15,16,17,18,19,20,21,22,23,24,25,26,27,28]))
 (sI 1<|sB .eql 2 50<|.ite 51
 (sT []<|sB .eql 4 52<|.ite 53
 (sI 17<|.ret [46,54,7,8,9,10,11,12,13,14,15,16,17,18,19,20,21,22,23,24,25,26,27,28])
 (.ret [46,46,3,8,9,10,11,12,13,14,15,16,17,18,19,20,21,22,23,24,25,26,27,28]))
 (.ret [46,46,3,8,9,10,11,12,13,14,15,16,17,18,19,20,21,22,23,24,25,26,27,28]))))
 (sT [109,105,110]<|sB .eql 0 46<|.ite 47
 (sI 0<|sC 37 [48] 0<|sB .neq 2 49<|.ite 50
 (sI 8<|.ret [48,51,7,8,9,10,11,12,13,14,15,16,17,18,19,20,21,22,23,24,25,26,27,28])
 (sB .eql 2 48<|.ite 51
 (.step (.ci .u64 0)<|sB .eql 3 52<|.ite 53
 (sI 17<|.ret [48,54,7,8,9,10,11,12,13,14,15,16,17,18,19,20,21,22,23,24,25,26,27,28])
 (sI 1<|sB .eql 2 54<|.ret [48,48,7,3,9,10,11,12,13,14,15,16,17,18,19,20,21,22,23,24,25,26,27,28]))
 (sI 1<|sB .eql 2 52<|.ite 53
 (sT []<|sB .eql 4 54<|.ite 55
 (sI 17<|.ret [48,56,7,8,9,10,11,12,13,14,15,16,17,18,19,20,21,22,23,24,25,26,27,28])
 (.ret [48,48,7,3,9,10,11,12,13,14,15,16,17,18,19,20,21,22,23,24,25,26,27,28]))
 (.ret [48,48,7,3,9,10,11,12,13,14,15,16,17,18,19,20,21,22,23,24,25,26,27,28]))))
 (sT [109,97,120]<|sB .eql 0 48<|.ite 49
 (sI 0<|sC 37 [50] 0<|sB .neq 2 51<|.ite 52
 (sI 8<|.ret [50,53,7,8,9,10,11,12,13,14,15,16,17,18,19,20,21,22,23,24,25,26,27,28])
 (sB .eql 2 50<|.ite 53
 (.step (.ci .u64 0)<|sB .eql 3 54<|.ite 55
 (sI 17<|.ret [50,56,7,8,9,10,11,12,13,14,15,16,17,18,19,20,21,22,23,24,25,26,27,28])
 (sI 1<|sB .eql 2 56<|.ret [50,50,7,8,3,10,11,12,13,14,15,16,17,18,19,20,21,22,23,24,25,26,27,28]))
 (sI 1<|sB .eql 2 54<|.ite 55
 (sT []<|sB .eql 4 56<|.ite 57
 (sI 17<|.ret [50,58,7,8,9,10,11,12,13,14,15,16,17,18,19,20,21,22,23,24,25,26,27,28])
 (.ret [50,50,7,8,3,10,11,12,13,14,15,16,17,18,19,20,21,22,23,24,25,26,27,28]))
 (.ret [50,50,7,8,3,10,11,12,13,14,15,16,17,18,19,20,21,22,23,24,25,26,27,28]))))
 (sT [99,104,111,115,101,110]<|sB .eql 0 50<|.ite 51
 (sI 0<|sC 37 [52] 0<|sB .neq 2 53<|.ite 54
 (sI 8<|.ret [52,55,7,8,9,10,11,12,13,14,15,16,17,18,19,20,21,22,23,24,25,26,27,28])
 (sB .eql 2 52<|.ite 55
 (.step (.ci .u64 0)<|sB .eql 3 56<|.ite 57
 (sI 17<|.ret [52,58,7,8,9,10,11,12,13,14,15,16,17,18,19,20,21,22,23,24,25,26,27,28])
 (sI 1<|sB .eql 2 58<|.ret [52,52,7,8,9,3,11,12,13,14,15,16,17,18,19,20,21,22,23,24,25,26,27,28]))
 (sI 1<|sB .eql 2 56<|.ite 57
 (sT []<|sB .eql 4 58<|.ite 59
 (sI 17<|.ret [52,60,7,8,9,10,11,12,13,14,15,16,17,18,19,20,21,22,23,24,25,26,27,28])
 (.ret [52,52,7,8,9,3,11,12,13,14,15,16,17,18,19,20,21,22,23,24,25,26,27,28]))
 (.ret [52,52,7,8,9,3,11,12,13,14,15,16,17,18,19,20,21,22,23,24,25,26,27,28]))))
 (sT [102,108,97,103,115]<|sB .eql 0 52<|.ite 53
 (sI 0<|sC 37 [54] 0<|sB .neq 2 55<|.ite 56
 (sI 8<|.ret [54,57,7,8,9,10,11,12,13,14,15,16,17,18,19,20,21,22,23,24,25,26,27,28])
 (sB .eql 2 54<|.ite 57
 (.step (.ci .u64 0)<|sB .eql 3 58<|.ite 59
 (sI 17<|.ret [54,60,7,8,9,10,11,12,13,14,15,16,17,18,19,20,21,22,23,24,25,26,27,28])
 (sI 1<|sB .eql 2 60<|.ret [54,54,7,8,9,10,3,12,13,14,15,16,17,18,19,20,21,22,23,24,25,26,27,28]))
 (sI 1<|sB .eql 2 58<|.ite 59
 (sT []<|sB .eql 4 60<|.ite 61
 (sI 17<|.ret [54,62,7,8,9,10,11,12,13,14,15,16,17,18,19,20,21,22,23,24,25,26,27,28])
 (.ret [54,54,7,8,9,10,3,12,13,14,15,16,17,18,19,20,21,22,23,24,25,26,27,28]))
 (.ret [54,54,7,8,9,10,3,12,13,14,15,16,17,18,19,20,21,22,23,24,25,26,27,28]))))
 (sT [99,111,115,116]<|sB .eql 0 54<|.ite 55
 (sI 0<|sC 37 [56] 0<|sB .neq 2 57<|.ite 58
 (sI 8<|.ret [56,59,7,8,9,10,11,12,13,14,15,16,17,18,19,20,21,22,23,24,25,26,27,28])
 (sB .eql 2 56<|.ite 59
 (.step (.ci .u64 0)<|sB .eql 3 60<|.ite 61
 (sI 17<|.ret [56,62,7,8,9,10,11,12,13,14,15,16,17,18,19,20,21,22,23,24,25,26,27,28])
 (sI 1<|sB .eql 2 62<|.ret [56,56,7,8,9,10,11,3,13,14,15,16,17,18,19,20,21,22,23,24,25,26,27,28]))
 (sI 1<|sB .eql 2 60<|.ite 61
 (sT []<|sB .eql 4 62<|.ite 63
 (sI 17<|.ret [56,64,7,8,9,10,11,12,13,14,15,16,17,18,19,20,21,22,23,24,25,26,27,28])
 (.ret [56,56,7,8,9,10,11,3,13,14,15,16,17,18,19,20,21,22,23,24,25,26,27,28]))
 (.ret [56,56,7,8,9,10,11,3,13,14,15,16,17,18,19,20,21,22,23,24,25,26,27,28]))))
 (sT [112,114,105,111,114,105,116,121]<|sB .eql 0 56<|.ite 57
 (sI 0<|sC 37 [58] 0<|sB .neq 2 59<|.ite 60
 (sI 8<|.ret [58,61,7,8,9,10,11,12,13,14,15,16,17,18,19,20,21,22,23,24,25,26,27,28])
 (sB .eql 2 58<|.ite 61
 (.step (.ci .u64 0)<|sB .eql 3 62<|.ite 63
 (sI 17<|.ret [58,64,7,8,9,10,11,12,13,14,15,16,17,18,19,20,21,22,23,24,25,26,27,28])
 (sI 1<|sB .eql 2 64<|.ret [58,58,7,8,9,10,11,12,3,14,15,16,17,18,19,20,21,22,23,24,25,26,27,28]))
 (sI 1<|sB .eql 2 62<|.ite 63
 (sT []<|sB .eql 4 64<|.ite 65
 (sI 17<|.ret [58,66,7,8,9,10,11,12,13,14,15,16,17,18,19,20,21,22,23,24,25,26,27,28])
 (.ret [58,58,7,8,9,10,11,12,3,14,15,16,17,18,19,20,21,22,23,24,25,26,27,28]))
 (.ret [58,58,7,8,9,10,11,12,3,14,15,16,17,18,19,20,21,22,23,24,25,26,27,28]))))
 (sT [100,101,97,100,108,105,110,101]<|sB .eql 0 58<|.ite 59
 (sI 0<|sC 37 [60] 0<|sB .neq 2 61<|.ite 62
 (sI 8<|.ret [60,63,7,8,9,10,11,12,13,14,15,16,17,18,19,20,21,22,23,24,25,26,27,28])
 (sB .eql 2 60<|.ite 63
 (.step (.ci .u64 0)<|sB .eql 3 64<|.ite 65
 (sI 17<|.ret [60,66,7,8,9,10,11,12,13,14,15,16,17,18,19,20,21,22,23,24,25,26,27,28])
 (sI 1<|sB .eql 2 66<|.ret [60,60,7,8,9,10,11,12,13,3,15,16,17,18,19,20,21,22,23,24,25,26,27,28]))
 (sI 1<|sB .eql 2 64<|.ite 65
 (sT []<|sB .eql 4 66<|.ite 67
 (sI 17<|.ret [60,68,7,8,9,10,11,12,13,14,15,16,17,18,19,20,21,22,23,24,25,26,27,28])
 (.ret [60,60,7,8,9,10,11,12,13,3,15,16,17,18,19,20,21,22,23,24,25,26,27,28]))
 (.ret [60,60,7,8,9,10,11,12,13,3,15,16,17,18,19,20,21,22,23,24,25,26,27,28]))))
 (sT [114,101,116,114,121]<|sB .eql 0 60<|.ite 61
 (sI 0<|sC 37 [62] 0<|sB .neq 2 63<|.ite 64
 (sI 8<|.ret [62,65,7,8,9,10,11,12,13,14,15,16,17,18,19,20,21,22,23,24,25,26,27,28])
 (sB .eql 2 62<|.ite 65
 (.step (.ci .u64 0)<|sB .eql 3 66<|.ite 67
 (sI 17<|.ret [62,68,7,8,9,10,11,12,13,14,15,16,17,18,19,20,21,22,23,24,25,26,27,28])
 (sI 1<|sB .eql 2 68<|.ret [62,62,7,8,9,10,11,12,13,14,3,16,17,18,19,20,21,22,23,24,25,26,27,28]))
 (sI 1<|sB .eql 2 66<|.ite 67
 (sT []<|sB .eql 4 68<|.ite 69
 (sI 17<|.ret [62,70,7,8,9,10,11,12,13,14,15,16,17,18,19,20,21,22,23,24,25,26,27,28])
 (.ret [62,62,7,8,9,10,11,12,13,14,3,16,17,18,19,20,21,22,23,24,25,26,27,28]))
 (.ret [62,62,7,8,9,10,11,12,13,14,3,16,17,18,19,20,21,22,23,24,25,26,27,28]))))
 (sT [101,112,111,99,104]<|sB .eql 0 62<|.ite 63
 (sI 0<|sC 37 [64] 0<|sB .neq 2 65<|.ite 66
 (sI 8<|.ret [64,67,7,8,9,10,11,12,13,14,15,16,17,18,19,20,21,22,23,24,25,26,27,28])
 (sB .eql 2 64<|.ite 67
 (.step (.ci .u64 0)<|sB .eql 3 68<|.ite 69
 (sI 17<|.ret [64,70,7,8,9,10,11,12,13,14,15,16,17,18,19,20,21,22,23,24,25,26,27,28])
 (sI 1<|sB .eql 2 70<|.ret [64,64,7,8,9,10,11,12,13,14,15,3,17,18,19,20,21,22,23,24,25,26,27,28]))
 (sI 1<|sB .eql 2 68<|.ite 69
 (sT []<|sB .eql 4 70<|.ite 71
 (sI 17<|.ret [64,72,7,8,9,10,11,12,13,14,15,16,17,18,19,20,21,22,23,24,25,26,27,28])
 (.ret [64,64,7,8,9,10,11,12,13,14,15,3,17,18,19,20,21,22,23,24,25,26,27,28]))
 (.ret [64,64,7,8,9,10,11,12,13,14,15,3,17,18,19,20,21,22,23,24,25,26,27,28]))))
 (sT [98,97,115,101]<|sB .eql 0 64<|.ite 65
 (sI 0<|sC 37 [66] 0<|sB .neq 2 67<|.ite 68
 (sI 8<|.ret [66,69,7,8,9,10,11,12,13,14,15,16,17,18,19,20,21,22,23,24,25,26,27,28])
 (sB .eql 2 66<|.ite 69
 (.step (.ci .u64 0)<|sB .eql 3 70<|.ite 71
 (sI 17<|.ret [66,72,7,8,9,10,11,12,13,14,15,16,17,18,19,20,21,22,23,24,25,26,27,28])
 (sI 1<|sB .eql 2 72<|.ret [66,66,7,8,9,10,11,12,13,14,15,16,3,18,19,20,21,22,23,24,25,26,27,28]))
 (sI 1<|sB .eql 2 70<|.ite 71
 (sT []<|sB .eql 4 72<|.ite 73
 (sI 17<|.ret [66,74,7,8,9,10,11,12,13,14,15,16,17,18,19,20,21,22,23,24,25,26,27,28])
 (.ret [66,66,7,8,9,10,11,12,13,14,15,16,3,18,19,20,21,22,23,24,25,26,27,28]))
 (.ret [66,66,7,8,9,10,11,12,13,14,15,16,3,18,19,20,21,22,23,24,25,26,27,28]))))
 (sT [100,105,103,101,115,116]<|sB .eql 0 66<|.ite 67
 (sI 0<|sC 37 [68] 0<|sB .neq 2 69<|.ite 70
 (sI 8<|.ret [68,71,7,8,9,10,11,12,13,14,15,16,17,18,19,20,21,22,23,24,25,26,27,28])
 (sB .eql 2 68<|.ite 71
 (.step (.ci .u64 0)<|sB .eql 3 72<|.ite 73
 (sI 17<|.ret [68,74,7,8,9,10,11,12,13,14,15,16,17,18,19,20,21,22,23,24,25,26,27,28])
 (sI 1<|sB .eql 2 74<|.ret [68,68,7,8,9,10,11,12,13,14,15,16,17,3,19,20,21,22,23,24,25,26,27,28]))
 (sI 1<|sB .eql 2 72<|.ite 73
 (sT []<|sB .eql 4 74<|.ite 75
 (sI 17<|.ret [68,76,7,8,9,10,11,12,13,14,15,16,17,18,19,20,21,22,23,24,25,26,27,28])
 (.ret [68,68,7,8,9,10,11,12,13,14,15,16,17,3,19,20,21,22,23,24,25,26,27,28]))
 (.ret [68,68,7,8,9,10,11,12,13,14,15,16,17,3,19,20,21,22,23,24,25,26,27,28]))))
 (sT [108,97,103]<|sB .eql 0 68<|.ite 69
 (sI 0<|sC 37 [70] 0<|sB .neq 2 71<|.ite 72
 (sI 8<|.ret [70,73,7,8,9,10,11,12,13,14,15,16,17,18,19,20,21,22,23,24,25,26,27,28])
 (sB .eql 2 70<|.ite 73
 (.step (.ci .u64 0)<|sB .eql 3 74<|.ite 75
 (sI 17<|.ret [70,76,7,8,9,10,11,12,13,14,15,16,17,18,19,20,21,22,23,24,25,26,27,28])
 (sI 1<|sB .eql 2 76<|.ret [70,70,7,8,9,10,11,12,13,14,15,16,17,18,3,20,21,22,23,24,25,26,27,28]))
 (sI 1<|sB .eql 2 74<|.ite 75
 (sT []<|sB .eql 4 76<|.ite 77
 (sI 17<|.ret [70,78,7,8,9,10,11,12,13,14,15,16,17,18,19,20,21,22,23,24,25,26,27,28])
 (.ret [70,70,7,8,9,10,11,12,13,14,15,16,17,18,3,20,21,22,23,24,25,26,27,28]))
 (.ret [70,70,7,8,9,10,11,12,13,14,15,16,17,18,3,20,21,22,23,24,25,26,27,28]))))
 (sT [99,111,100,101]<|sB .eql 0 70<|.ite 71
 (sI 0<|sC 37 [72] 0<|sB .neq 2 73<|.ite 74
 (sI 8<|.ret [72,75,7,8,9,10,11,12,13,14,15,16,17,18,19,20,21,22,23,24,25,26,27,28])
 (sB .eql 2 72<|.ite 75
 (.step (.ci .u64 0)<|sB .eql 3 76<|.ite 77
 (sI 17<|.ret [72,78,7,8,9,10,11,12,13,14,15,16,17,18,19,20,21,22,23,24,25,26,27,28])
 (sI 1<|sB .eql 2 78<|.ret [72,72,7,8,9,10,11,12,13,14,15,16,17,18,19,3,21,22,23,24,25,26,27,28]))
 (sI 1<|sB .eql 2 76<|.ite 77
 (sT []<|sB .eql 4 78<|.ite 79
 (sI 17<|.ret [72,80,7,8,9,10,11,12,13,14,15,16,17,18,19,20,21,22,23,24,25,26,27,28])
 (.ret [72,72,7,8,9,10,11,12,13,14,15,16,17,18,19,3,21,22,23,24,25,26,27,28]))
 (.ret [72,72,7,8,9,10,11,12,13,14,15,16,17,18,19,3,21,22,23,24,25,26,27,28]))))
 (sT [119,97,110,116]<|sB .eql 0 72<|.ite 73
 (sI 0<|sC 37 [74] 0<|sB .neq 2 75<|.ite 76
 (sI 8<|.ret [74,77,7,8,9,10,11,12,13,14,15,16,17,18,19,20,21,22,23,24,25,26,27,28])
 (sB .eql 2 74<|.ite 77
 (.step (.ci .u64 0)<|sB .eql 3 78<|.ite 79
 (sI 17<|.ret [74,80,7,8,9,10,11,12,13,14,15,16,17,18,19,20,21,22,23,24,25,26,27,28])
 (sI 1<|sB .eql 2 80<|.ret [74,74,7,8,9,10,11,12,13,14,15,16,17,18,19,20,3,22,23,24,25,26,27,28]))
 (sI 1<|sB .eql 2 78<|.ite 79
 (sT []<|sB .eql 4 80<|.ite 81
 (sI 17<|.ret [74,82,7,8,9,10,11,12,13,14,15,16,17,18,19,20,21,22,23,24,25,26,27,28])
 (.ret [74,74,7,8,9,10,11,12,13,14,15,16,17,18,19,20,3,22,23,24,25,26,27,28]))
 (.ret [74,74,7,8,9,10,11,12,13,14,15,16,17,18,19,20,3,22,23,24,25,26,27,28]))))
 (sI 26<|sI 0<|.ret [75,74,7,8,9,10,11,12,13,14,15,16,17,18,19,20,21,22,23,24,25,26,27,28]))))))))))))))))))))))
def d13:aF:=.tree 7<|oI 10 [3,4]<|
 sI 0<|
 sB .neq 9 12<|.ite 13
 (.step (.ml [])<|.ret [12,9,14,10,11])
 (.step (.slen 10)<|sB .sub 14 11<|.step (.conv .u64 15)<|sB .gtr 8 16<|.ite 17
 (sI 1<|.step (.ml [])<|.ret [12,18,19,10,11])
 (.step (.conv .i64 8)<|sB .add 11 18<|.step (.fV 10 11 19)<|sI 8<|sB .geq 2 21<|.ite 22
 (sI 9<|.step (.ml [])<|.ret [12,23,24,10,19])
 (sI 1<|sB .add 2 23<|.step (.ci .u64 0)<|OU 7 [20,24,25,12]<|
 .ret [12,28,27,10,19])))
def d12:aF:=.tree 7<|oI 10 [3,4]<|
 sI 0<|
 sB .neq 9 12<|.ite 13
 (.ret [12,9,6,10,11])
 (.step (.slen 10)<|sB .sub 14 11<|.step (.conv .u64 15)<|sB .gtr 8 16<|.ite 17
 (sI 1<|.ret [12,18,6,10,11])
 (.step (.conv .i64 8)<|sB .add 11 18<|.step (.fV 10 11 19)<|.ret [12,12,20,10,19]))
def d11:aF:=.tree 7<|oI 10 [3,4]<|
 sI 0<|
 .ret [12,9,8,10,11]
def d10:aF:=.tree 2<|.step (.slen 0)<|.step (.fV 0 1 2)<|sC 3 [3] 0<|sC 3 [3] 1<|sC 3 [3] 2<|sI 0<|sB .neq 6 7<|.ite 8
 (.step (.ci .u64 0)<|.ret [7,9,6,0,1])
 (.step (.conv .u64 5)<|sB .sub 2 1<|.step (.conv .u64 10)<|sB .gtr 9 11<|.ite 12
 (.ret [7,4,7,0,1])
 (.step (.conv .i64 9)<|sB .add 1 13<|.step (.fV 0 1 14)<|.ret [7,4,7,0,14]))
def d9:aF:=.tree 4<|oI 10 [2,3]<|
 sI 0<|
 sB .neq 6 9<|.ite 10
 (.step (.ci .u64 0)<|sT []<|.step (.ml [])<|.ret [9,11,9,11,12,13,6,1,7,8])
 (.step (.ci .u64 2)<|sB .shr 5 11<|.step (.ci .u64 3)<|sB .and 5 13<|.step (.conv .i64 14)<|.step (.ci .u64 0)<|sB .eql 12 16<|.ite 17
 (sT []<|.step (.ml [])<|sI 18<|.ret [9,16,9,16,18,19,20,1,7,8])
 (.step (.ci .u64 4294967296)<|sB .gtr 12 18<|.ite 19
 (sT []<|.step (.ml [])<|sI 18<|.ret [9,16,9,16,20,21,22,1,7,8])
 (sI 3<|sB .geq 15 20<|.ite 21
 (sT []<|.step (.ml [])<|sI 8<|.ret [9,16,9,16,22,23,24,1,7,8])
 (sB .leq 12 1<|.ite 22
 (sT []<|.step (.ml [])<|sI 7<|.ret [9,16,9,16,23,24,25,1,7,8])
 (sS 15 0<|.ite 23
 (sT []<|oI 11 [12,15,0,7,8,16,24]<|
 sB .neq 26 9<|.ite 30
 (.step (.ml [])<|.ret [9,16,9,16,24,31,26,12,28,29])
 (.step (.ml [])<|.ret [9,12,15,27,24,31,9,12,28,29]))
 (sS 15 1<|.ite 24
 (sT []<|oI 12 [12,15,0,7,8,16,25]<|
 sB .neq 27 9<|.ite 31
 (.step (.ml [])<|.ret [9,16,9,16,25,32,27,12,29,30])
 (.step (.ml [])<|.ret [9,12,15,16,28,32,9,12,29,30]))
 (sS 15 2<|.ite 25
 (sT []<|oI 13 [12,15,0,7,8,16,26]<|
 sB .neq 28 9<|.ite 32
 (.step (.ml [])<|.ret [9,16,9,16,26,33,28,12,30,31])
 (.ret [9,12,15,16,26,29,9,12,30,31]))
 (.dead))))))))
def d7:aF:=.tree 4<|.step (.ml [])<|sC 8 [4,1,2,0,3] 0<|sI 0<|sB .eql 5 6<|.ite 7
 (acD 8 [4,1,2,0,3]<|
 .ret [6,4,8,9,10,11])
 (acD 8 [4,1,2,0,3]<|
 .ret [6,8,6,9,10,11])
def afm:aF:=.tree 3<|.step (.slen 0)<|sB .lss 2 3<|.ite 4
 (.step (.slen 1)<|sB .lss 2 5<|.ite 6
 (.step (.nP 0 2)<|.step (.nP 1 2)<|sB .neq 7 8<|.ite 9
 (sB .lss 7 8<|sI 0<|.ret [11,10])
 (sI 1<|sB .add 2 10<|.tail 130 [0,1,11]))
 (sI 1<|.ret [7]))
 (sI 1<|.ret [5])
def af9:aF:=.tree 11<|sB .lss 10 6<|.ite 11
 (sA 2 0 2<|sL 0 12<|sA 2 13 10<|sL 0 14<|sL 1 14<|sA 2 1 2<|sL 0 17<|sA 2 18 10<|sL 0 19<|
 sL 1 19<|.step (.mk [15,16])<|.step (.mk [20,21])<|.step (.wF .neq [1,1] 22 23)<|.ite 24
 (sI 0<|.ret [25])
 (sI 1<|sB .add 10 25<|.tail 178 [0,1,2,3,4,5,6,7,8,9,26]))
 (sI 1<|.ret [12])
def aeV:aF:=.tree 5<|sB .lss 4 1<|.ite 5
 (.step (.nP 0 4)<|.step (.ci .u8 128)<|sB .rem 6 7<|.step (.conv .u64 8)<|sB .mul 9 3<|sB .add 2 10<|.step (.ci .u64 128)<|sB .mul 3 12<|
 sI 1<|sB .add 4 14<|.tail 102 [0,1,11,13,15])
 (sI 0<|.ret [6,1,2])
def d55:aF:=.tree 28<|sB .lss 2 1<|.ite 28
 (sA 4 0 2<|sL 0 29<|sL 1 29<|sL 2 29<|sL 3 29<|sT []<|sB .eql 33 34<|.step (.cb true)<|.step (.vU 3 33 36)<|
 sI 1<|sB .add 2 38<|.tail 55 [0,1,39,37,4,5,6,7,8,9,10,11,12,13,14,15,16,17,18,19,20,21,22,23,24,25,26,27])
 (sI 0<|.ret [29,3])
def agc:aF:=.tree 50<|sB .lss 1 0<|.ite 50
 (sA 2 47 1<|sL 0 51<|sL 1 51<|sA 2 23 1<|sL 0 54<|sL 1 54<|.step (.mk [52,53])<|.step (.mk [55,56])<|.step (.wF .neq [1,1] 57 58)<|
 .ite 59
 (sI 0<|.ret [60])
 (sI 1<|sB .add 1 60<|.tail 181 [0,61,2,3,4,5,6,7,8,9,10,11,12,13,14,15,16,17,18,19,20,21,22,23,24,25,26,27,28,29,30,31,32,33,34,35,36,37,38,39,40,41,42,43,44,45,46,47,48,49]))
 (sI 1<|.ret [51])
def d98:aF:=.tree 11<|sB .lss 5 4<|.ite 11
 (sA 4 0 5<|sL 0 12<|sL 1 12<|sL 2 12<|sL 3 12<|sB .eql 6 13<|.ite 17
 (sI 0<|.ret [18])
 (sI 1<|sB .add 5 18<|.tail 98 [0,1,2,3,4,19,6,7,8,9,10]))
 (sI 1<|.ret [12])
def afy:aF:=.tree 32<|sB .lss 7 6<|.ite 32
 (sA 4 0 7<|sL 0 33<|sL 1 33<|sL 2 33<|sL 3 33<|.ite 2
 (sI 1<|sB .add 7 38<|.step (.cb true)<|.tail 143 [0,1,40,3,4,5,6,39,8,9,10,11,12,13,14,15,16,17,18,19,20,21,22,23,24,25,26,27,28,29,30,31])
 (sB .eql 37 1<|sI 1<|sB .add 7 39<|.tail 143 [0,1,38,3,4,5,6,40,8,9,10,11,12,13,14,15,16,17,18,19,20,21,22,23,24,25,26,27,28,29,30,31]))
 (sI 0<|.ret [33,2])
def d43:aF:=.tree 5<|sB .lss 2 1<|.ite 5
 (OU 44 [3,4]<|
 sI 0<|
 sB .neq 9 12<|.ite 13
 (.ret [12,9,10,11])
 (sB .gtr 2 12<|.ite 14
 (sI 1<|sB .sub 2 15<|.step (.idx 0 16)<|sA 2 0 17<|sL 0 18<|sB .eql 7 19<|.ite 20
 (sI 14<|.ret [12,21,10,11])
 (sB .lss 7 19<|.ite 21
 (sI 7<|.ret [12,22,10,11])
 (.step (.mk [7,8])<|.step (.ml [22])<|.step (.app 2 32 0 23)<|sB .add 2 15<|.tail 43 [24,1,25,10,11])))
 (.step (.mk [7,8])<|.step (.ml [15])<|.step (.app 2 32 0 16)<|sI 1<|sB .add 2 18<|.tail 43 [17,1,19,10,11])))
 (sI 1<|.ret [6,0,3,4])
def d28:aF:=.tree 5<|sB .lss 3 2<|.ite 5
 (sA 1 1 3<|sL 0 6<|.step (.ci .u64 0)<|sB .eql 7 8<|.step (.cb true)<|.step (.vU 4 7 10)<|sI 1<|sB .add 3 12<|.tail 28 [0,1,2,13,11])
 (sI 0<|.ret [6,4])
def ae7:aF:=.tree 5<|sB .lss 4 3<|.ite 5
 (sA 4 2 4<|sL 0 6<|sL 1 6<|sL 2 6<|sL 3 6<|sB .eql 10 0<|.ite 11
 (sI 0<|.ret [12,8])
 (sI 1<|sB .add 4 12<|.tail 115 [0,1,2,3,13]))
 (sI 1<|.ret [6])
def aeU:aF:=.tree 3<|.step (.slen 0)<|sB .lss 2 3<|.ite 4
 (sI 10<|sB .lss 2 5<|.ite 6
 (sI 0<|sB .eql 1 7<|.ite 8
 (.step (.nP 0 2)<|.step (.ci .u8 128)<|sB .lss 9 10<|.ite 11
 (sI 1<|sB .add 2 12<|.tail 101 [0,13,13])
 (sI 1<|sB .add 2 12<|.tail 101 [0,1,13]))
 (.ret [7,0,1]))
 (sI 0<|.ret [7,0,1]))
 (sI 0<|.ret [5,0,1])
def afV:aF:=.tree 11<|sB .lss 5 4<|.ite 11
 (sA 4 0 5<|sL 0 12<|sL 1 12<|sL 2 12<|sL 3 12<|sB .eql 13 6<|.ite 17
 (sI 0<|.ret [18])
 (sI 1<|sB .add 5 18<|.tail 166 [0,1,2,3,4,19,6,7,8,9,10]))
 (sI 1<|.ret [12])
def d24:aF:=.tree 7<|sB .lss 5 4<|.ite 7
 (sA 4 3 5<|sL 0 8<|sL 1 8<|sL 2 8<|sL 3 8<|.step (.ci .u64 0)<|sB .eql 9 13<|.step (.vU 6 9 12)<|sI 1<|
 sB .add 5 16<|.tail 24 [0,1,2,3,4,17,15])
 (sI 0<|.ret [8,6])
def d69:aF:=.tree 4<|sB .lss 3 2<|.ite 4
 (sA 2 1 3<|sL 0 5<|sL 1 5<|.step (.mk [6,7])<|sC 70 [8] 0<|sI 0<|sB .neq 9 10<|.ite 11
 (.ret [10,9])
 (sC 71 [6] 0<|sB .gtr 3 10<|.ite 13
 (sB .eql 12 0<|.ite 14
 (sI 14<|.ret [10,15])
 (sB .lss 12 0<|.ite 15
 (sI 7<|.ret [10,16])
 (sI 1<|sB .add 3 16<|.tail 69 [12,1,2,17])))
 (sI 1<|sB .add 3 14<|.tail 69 [12,1,2,15])))
 (sI 1<|.ret [5])
def d66:aF:=.tree 3<|sB .lss 2 1<|.ite 3
 (sA 2 0 2<|sL 0 4<|sL 1 4<|.step (.mk [5,6])<|sC 46 [7] 0<|sI 0<|sB .neq 8 9<|.ite 10
 (.ret [9,8])
 (sB .eql 2 9<|.ite 11
 (sI 1<|sB .add 2 12<|.tail 66 [0,1,13])
 (sI 1<|sB .sub 2 12<|sA 2 0 13<|sL 0 14<|sB .eql 5 15<|.ite 16
 (sI 14<|.ret [9,17])
 (sB .lss 5 15<|.ite 17
 (sI 7<|.ret [9,18])
 (sB .add 2 12<|.tail 66 [0,1,18])))))
 (sI 1<|.ret [4])
def ae4:aF:=.tree 38<|sB .lss 8 7<|.ite 38
 (sA 4 6 8<|sL 0 39<|sL 1 39<|sL 2 39<|sL 3 39<|sB .neq 40 9<|.ite 44
 (sI 1<|sB .add 8 45<|.tail 111 [0,1,2,3,4,5,6,7,46,9,10,11,12,13,14,15,16,17,18,19,20,21,22,23,24,25,26,27,28,29,30,31,32,33,34,35,36,37])
 (sC 139 [14,15,16,17,18,19,20,21,22,23,24,25,26,27,28,29,30,31,32,33,34,35,36,37,43,10,11,12] 0<|sI 0<|sB .eql 45 46<|
 .ite 47
 (sC 139 [14,15,16,17,18,19,20,21,22,23,24,25,26,27,28,29,30,31,32,33,34,35,36,37,43,10,11,12] 1<|sB .neq 48 46<|.ite 49
 (.ret [46,48])
 (sI 1<|sB .add 8 50<|.step (.cb true)<|.step (.ci .u64 0)<|.step (.cb false)<|sT []<|.step (.ml [])<|.tail 111 [0,1,52,3,4,5,6,7,51,9,10,11,12,13,46,53,53,53,53,53,53,53,53,53,53,53,53,53,53,53,46,54,55,55,55,56,56,56]))
 (an9 139 [14,15,16,17,18,19,20,21,22,23,24,25,26,27,28,29,30,31,32,33,34,35,36,37,43,10,11,12]<|
 sI 1<|sB .add 8 70<|.step (.cb true)<|.tail 111 [0,1,72,3,4,5,6,7,71,9,10,11,12,13,14,48,49,50,51,52,53,54,55,56,57,58,59,60,61,62,63,64,65,66,67,68,69,37])))
 (sI 1<|.ret [39,2,14,15,16,17,18,19,20,21,22,23,24,25,26,27,28,29,30,31,32,33,34,35,36,37])
def d16:aF:=.tree 5<|sB .lss 4 3<|.ite 5
 (sA 4 2 4<|sL 0 6<|sL 1 6<|sL 2 6<|sL 3 6<|sB .leq 9 0<|.ite 11
 (.step (.mk [7,8,9,10])<|.step (.ml [12])<|.step (.app 4 40 1 13)<|sI 1<|sB .add 4 15<|.tail 16 [0,14,2,3,16])
 (sI 1<|sB .add 4 12<|.tail 16 [0,1,2,3,13]))
 (sI 0<|.ret [6,1])
def af0:aF:=.tree 4<|sB .lss 3 2<|.ite 4
 (sA 2 1 3<|sL 0 5<|sL 1 5<|sC 168 [6] 0<|.step (.mk [8,7])<|.step (.ml [9])<|.step (.app 2 32 0 10)<|sI 1<|sB .add 3 12<|
 .tail 171 [11,1,2,13])
 (sI 0<|.ret [5,0])
def afT:aF:=.tree 4<|sB .lss 3 2<|.ite 4
 (sA 5 0 3<|sL 0 5<|sL 1 5<|sL 2 5<|sL 3 5<|sL 4 5<|.step (.ci .u64 0)<|sB .eql 6 11<|.ite 12
 (sI 18<|sI 0<|.ret [14,13])
 (.step (.ci .u64 4294967296)<|sB .gtr 6 13<|.ite 14
 (sI 18<|sI 0<|.ret [16,15])
 (sI 0<|sB .gtr 3 15<|.ite 16
 (sI 1<|sB .sub 3 17<|sA 5 0 18<|sL 0 19<|sB .leq 6 20<|.ite 21
 (sI 7<|.ret [15,22])
 (sB .lss 7 15<|.ite 22
 (sI 8<|.ret [15,23])
 (sI 2<|sB .gtr 7 23<|.ite 24
 (sI 8<|.ret [15,25])
 (sB .neq 7 15<|.ite 25
 (sB .neq 8 11<|.ite 26
 (sI 8<|.ret [15,27])
 (sB .neq 7 17<|.ite 27
 (sT []<|sB .neq 9 28<|.ite 29
 (sI 8<|.ret [15,30])
 (sB .neq 7 23<|.ite 30
 (.step (.len 10)<|sB .gtr 31 15<|.ite 32
 (sI 8<|.ret [15,33])
 (sB .eql 7 23<|sB .add 1 17<|sC 163 [10,34] 0<|sB .neq 35 15<|.ite 36
 (.ret [15,35])
 (sB .add 3 17<|.tail 164 [0,1,2,37])))
 (sB .eql 7 23<|sI 8<|sB .eql 1 32<|.ite 33
 (sI 9<|.ret [15,34])
 (sB .add 1 17<|sC 163 [10,34] 0<|sB .neq 35 15<|.ite 36
 (.ret [15,35])
 (sB .add 3 17<|.tail 164 [0,1,2,37])))))
 (sB .neq 7 23<|.ite 28
 (.step (.len 10)<|sB .gtr 29 15<|.ite 30
 (sI 8<|.ret [15,31])
 (sB .eql 7 23<|sB .add 1 17<|sC 163 [10,32] 0<|sB .neq 33 15<|.ite 34
 (.ret [15,33])
 (sB .add 3 17<|.tail 164 [0,1,2,35])))
 (sB .eql 7 23<|sI 8<|sB .eql 1 30<|.ite 31
 (sI 9<|.ret [15,32])
 (sB .add 1 17<|sC 163 [10,32] 0<|sB .neq 33 15<|.ite 34
 (.ret [15,33])
 (sB .add 3 17<|.tail 164 [0,1,2,35]))))))
 (sB .neq 7 17<|.ite 26
 (sT []<|sB .neq 9 27<|.ite 28
 (sI 8<|.ret [15,29])
 (sB .neq 7 23<|.ite 29
 (.step (.len 10)<|sB .gtr 30 15<|.ite 31
 (sI 8<|.ret [15,32])
 (sB .eql 7 23<|sB .add 1 17<|sC 163 [10,33] 0<|sB .neq 34 15<|.ite 35
 (.ret [15,34])
 (sB .add 3 17<|.tail 164 [0,1,2,36])))
 (sB .eql 7 23<|sI 8<|sB .eql 1 31<|.ite 32
 (sI 9<|.ret [15,33])
 (sB .add 1 17<|sC 163 [10,33] 0<|sB .neq 34 15<|.ite 35
 (.ret [15,34])
 (sB .add 3 17<|.tail 164 [0,1,2,36])))))
 (sB .neq 7 23<|.ite 27
 (.step (.len 10)<|sB .gtr 28 15<|.ite 29
 (sI 8<|.ret [15,30])
 (sB .eql 7 23<|sB .add 1 17<|sC 163 [10,31] 0<|sB .neq 32 15<|.ite 33
 (.ret [15,32])
 (sB .add 3 17<|.tail 164 [0,1,2,34])))
 (sB .eql 7 23<|sI 8<|sB .eql 1 29<|.ite 30
 (sI 9<|.ret [15,31])
 (sB .add 1 17<|sC 163 [10,31] 0<|sB .neq 32 15<|.ite 33
 (.ret [15,32])
 (sB .add 3 17<|.tail 164 [0,1,2,34])))))))))
 (sB .lss 7 15<|.ite 17
 (sI 8<|.ret [15,18])
 (sI 2<|sB .gtr 7 18<|.ite 19
 (sI 8<|.ret [15,20])
 (sB .neq 7 15<|.ite 20
 (sB .neq 8 11<|.ite 21
 (sI 8<|.ret [15,22])
 (sI 1<|sB .neq 7 22<|.ite 23
 (sT []<|sB .neq 9 24<|.ite 25
 (sI 8<|.ret [15,26])
 (sB .neq 7 18<|.ite 26
 (.step (.len 10)<|sB .gtr 27 15<|.ite 28
 (sI 8<|.ret [15,29])
 (sB .eql 7 18<|sB .add 1 22<|sC 163 [10,30] 0<|sB .neq 31 15<|.ite 32
 (.ret [15,31])
 (sB .add 3 22<|.tail 164 [0,1,2,33])))
 (sB .eql 7 18<|sI 8<|sB .eql 1 28<|.ite 29
 (sI 9<|.ret [15,30])
 (sB .add 1 22<|sC 163 [10,30] 0<|sB .neq 31 15<|.ite 32
 (.ret [15,31])
 (sB .add 3 22<|.tail 164 [0,1,2,33])))))
 (sB .neq 7 18<|.ite 24
 (.step (.len 10)<|sB .gtr 25 15<|.ite 26
 (sI 8<|.ret [15,27])
 (sB .eql 7 18<|sB .add 1 22<|sC 163 [10,28] 0<|sB .neq 29 15<|.ite 30
 (.ret [15,29])
 (sB .add 3 22<|.tail 164 [0,1,2,31])))
 (sB .eql 7 18<|sI 8<|sB .eql 1 26<|.ite 27
 (sI 9<|.ret [15,28])
 (sB .add 1 22<|sC 163 [10,28] 0<|sB .neq 29 15<|.ite 30
 (.ret [15,29])
 (sB .add 3 22<|.tail 164 [0,1,2,31]))))))
 (sI 1<|sB .neq 7 21<|.ite 22
 (sT []<|sB .neq 9 23<|.ite 24
 (sI 8<|.ret [15,25])
 (sB .neq 7 18<|.ite 25
 (.step (.len 10)<|sB .gtr 26 15<|.ite 27
 (sI 8<|.ret [15,28])
 (sB .eql 7 18<|sB .add 1 21<|sC 163 [10,29] 0<|sB .neq 30 15<|.ite 31
 (.ret [15,30])
 (sB .add 3 21<|.tail 164 [0,1,2,32])))
 (sB .eql 7 18<|sI 8<|sB .eql 1 27<|.ite 28
 (sI 9<|.ret [15,29])
 (sB .add 1 21<|sC 163 [10,29] 0<|sB .neq 30 15<|.ite 31
 (.ret [15,30])
 (sB .add 3 21<|.tail 164 [0,1,2,32])))))
 (sB .neq 7 18<|.ite 23
 (.step (.len 10)<|sB .gtr 24 15<|.ite 25
 (sI 8<|.ret [15,26])
 (sB .eql 7 18<|sB .add 1 21<|sC 163 [10,27] 0<|sB .neq 28 15<|.ite 29
 (.ret [15,28])
 (sB .add 3 21<|.tail 164 [0,1,2,30])))
 (sB .eql 7 18<|sI 8<|sB .eql 1 25<|.ite 26
 (sI 9<|.ret [15,27])
 (sB .add 1 21<|sC 163 [10,27] 0<|sB .neq 28 15<|.ite 29
 (.ret [15,28])
 (sB .add 3 21<|.tail 164 [0,1,2,30])))))))))))
 (sI 1<|.ret [5])
def agb:aF:=.tree 4<|sB .lss 3 2<|.ite 4
 (sA 5 0 3<|sL 0 5<|sA 5 1 3<|sL 0 7<|sB .neq 6 8<|.ite 9
 (sI 0<|.ret [10])
 (sL 1 5<|sL 1 7<|sB .neq 10 11<|.ite 12
 (sI 0<|.ret [13])
 (sL 2 5<|sL 2 7<|sB .neq 13 14<|.ite 15
 (sI 0<|.ret [16])
 (sL 3 5<|sL 3 7<|sB .neq 16 17<|.ite 18
 (sI 0<|.ret [19])
 (sL 4 5<|sL 4 7<|sC 179 [19,20] 0<|.step (.un .not 21)<|.ite 22
 (sI 0<|.ret [23])
 (sI 1<|sB .add 3 23<|.tail 180 [0,1,2,24]))))))
 (sI 1<|.ret [5])
def d29:aF:=.tree 6<|sB .lss 4 3<|.ite 6
 (sA 5 0 4<|sL 0 7<|.step (.ci .u64 0)<|sB .eql 8 9<|.step (.cb false)<|.step (.yM 11 5 8)<|sL 0 12<|.ite 13
 (sL 1 7<|sL 2 7<|sL 3 7<|sL 4 7<|.step (.mk [8,14,15,16,17])<|.step (.ml [18])<|.step (.app 5 64 1 19)<|sI 1<|sB .add 4 21<|
 .tail 29 [0,20,2,3,22,5])
 (sL 1 7<|sL 2 7<|sL 3 7<|sL 4 7<|.step (.mk [8,14,15,16,17])<|.step (.ml [18])<|.step (.app 5 64 2 19)<|sI 1<|sB .add 4 21<|
 .tail 29 [0,1,20,3,22,5]))
 (sI 0<|.ret [7,1,2])
def d57:aF:=.tree 29<|sB .lss 3 2<|.ite 29
 (sA 1 1 3<|sL 0 30<|sT []<|sB .eql 31 32<|.step (.cb false)<|.step (.yM 34 4 31)<|sL 0 35<|.step (.un .not 36)<|.ite 37
 (sT [114,101,109,97,105,110,105,110,103]<|sB .eql 31 38<|.ite 39
 (sI 0<|sB .eql 21 40<|.step (.un .not 41)<|.ite 42
 (.ret [40])
 (sI 1<|sB .add 3 43<|lM 44))
 (sT [97,108,108,111,119,101,100]<|sB .eql 31 40<|.ite 41
 (.step (.un .not 22)<|.step (.un .not 42)<|.ite 43
 (sI 0<|.ret [44])
 (sI 1<|sB .add 3 44<|lM 45))
 (sT [110,97,109,101]<|sB .eql 31 42<|.ite 43
 (sB .eql 23 32<|.step (.un .not 44)<|.ite 45
 (sI 0<|.ret [46])
 (sI 1<|sB .add 3 46<|lM 47))
 (sT [114,101,103,105,111,110]<|sB .eql 31 44<|.ite 45
 (sB .eql 24 32<|.step (.un .not 46)<|.ite 47
 (sI 0<|.ret [48])
 (sI 1<|sB .add 3 48<|lM 49))
 (sT [110,111,116,101]<|sB .eql 31 46<|.ite 47
 (sB .eql 25 32<|.step (.un .not 48)<|.ite 49
 (sI 0<|.ret [50])
 (sI 1<|sB .add 3 50<|lM 51))
 (sT [100,101,115,99,114]<|sB .eql 31 48<|.ite 49
 (.step (.len 26)<|sI 0<|sB .eql 50 51<|.step (.un .not 52)<|.ite 53
 (.ret [51])
 (sI 1<|sB .add 3 54<|lM 55))
 (sT [116,97,98,108,101]<|sB .eql 31 50<|.ite 51
 (.step (.len 27)<|sI 0<|sB .eql 52 53<|.step (.un .not 54)<|.ite 55
 (.ret [53])
 (sI 1<|sB .add 3 56<|lM 57))
 (sT [105,100]<|sB .eql 31 52<|.ite 53
 (.step (.ci .u64 0)<|sB .eql 6 54<|.step (.un .not 55)<|.ite 56
 (sI 0<|.ret [57])
 (sI 1<|sB .add 3 57<|lM 58))
 (sT [109,105,110]<|sB .eql 31 54<|.ite 55
 (.step (.ci .u64 0)<|sB .eql 7 56<|.step (.un .not 57)<|.ite 58
 (sI 0<|.ret [59])
 (sI 1<|sB .add 3 59<|lM 60))
 (sT [109,97,120]<|sB .eql 31 56<|.ite 57
 (.step (.ci .u64 0)<|sB .eql 8 58<|.step (.un .not 59)<|.ite 60
 (sI 0<|.ret [61])
 (sI 1<|sB .add 3 61<|lM 62))
 (sT [99,104,111,115,101,110]<|sB .eql 31 58<|.ite 59
 (.step (.ci .u64 0)<|sB .eql 9 60<|.step (.un .not 61)<|.ite 62
 (sI 0<|.ret [63])
 (sI 1<|sB .add 3 63<|lM 64))
 (sT [102,108,97,103,115]<|sB .eql 31 60<|.ite 61
 (.step (.ci .u64 0)<|sB .eql 10 62<|.step (.un .not 63)<|.ite 64
 (sI 0<|.ret [65])
 (sI 1<|sB .add 3 65<|lM 66))
 (sT [99,111,115,116]<|sB .eql 31 62<|.ite 63
 (.step (.ci .u64 0)<|sB .eql 11 64<|.step (.un .not 65)<|.ite 66
 (sI 0<|.ret [67])
 (sI 1<|sB .add 3 67<|lM 68))
 (sT [112,114,105,111,114,105,116,121]<|sB .eql 31 64<|.ite 65
 (.step (.ci .u64 0)<|sB .eql 12 66<|.step (.un .not 67)<|.ite 68
 (sI 0<|.ret [69])
 (sI 1<|sB .add 3 69<|lM 70))
 (sT [100,101,97,100,108,105,110,101]<|sB .eql 31 66<|.ite 67
 (.step (.ci .u64 0)<|sB .eql 13 68<|.step (.un .not 69)<|.ite 70
 (sI 0<|.ret [71])
 (sI 1<|sB .add 3 71<|lM 72))
 (sT [114,101,116,114,121]<|sB .eql 31 68<|.ite 69
 (.step (.ci .u64 0)<|sB .eql 14 70<|.step (.un .not 71)<|.ite 72
 (sI 0<|.ret [73])
 (sI 1<|sB .add 3 73<|lM 74))
 (sT [101,112,111,99,104]<|sB .eql 31 70<|.ite 71
 (.step (.ci .u64 0)<|sB .eql 15 72<|.step (.un .not 73)<|.ite 74
 (sI 0<|.ret [75])
 (sI 1<|sB .add 3 75<|lM 76))
 (sT [98,97,115,101]<|sB .eql 31 72<|.ite 73
 (.step (.ci .u64 0)<|sB .eql 16 74<|.step (.un .not 75)<|.ite 76
 (sI 0<|.ret [77])
 (sI 1<|sB .add 3 77<|lM 78))
 (sT [100,105,103,101,115,116]<|sB .eql 31 74<|.ite 75
 (.step (.ci .u64 0)<|sB .eql 17 76<|.step (.un .not 77)<|.ite 78
 (sI 0<|.ret [79])
 (sI 1<|sB .add 3 79<|lM 80))
 (sT [108,97,103]<|sB .eql 31 76<|.ite 77
 (.step (.ci .u64 0)<|sB .eql 18 78<|.step (.un .not 79)<|.ite 80
 (sI 0<|.ret [81])
 (sI 1<|sB .add 3 81<|lM 82))
 (sT [99,111,100,101]<|sB .eql 31 78<|.ite 79
 (.step (.ci .u64 0)<|sB .eql 19 80<|.step (.un .not 81)<|.ite 82
 (sI 0<|.ret [83])
 (sI 1<|sB .add 3 83<|lM 84))
 (sT [119,97,110,116]<|sB .eql 31 80<|.ite 81
 (.step (.ci .u64 0)<|sB .eql 20 82<|.step (.un .not 83)<|.ite 84
 (sI 0<|.ret [85])
 (sI 1<|sB .add 3 85<|lM 86))
 (sI 1<|sB .add 3 82<|lM 83)))))))))))))))))))))))
 (sI 1<|sB .add 3 38<|lM 39))
 (sI 1<|.ret [30])
def afK:aF:=.tree 3<|sB .lss 2 1<|.ite 3
 (sA 2 0 2<|sL 0 4<|sL 1 4<|.step (.mk [5,6])<|sC 156 [7] 0<|sI 0<|sB .eql 8 9<|.ite 10
 (sB .gtr 2 9<|.ite 11
 (sI 1<|sB .sub 2 12<|sA 2 0 13<|sL 0 14<|sC 148 [15] 0<|sC 148 [5] 0<|sB .eql 16 17<|.ite 18
 (sI 14<|.ret [9,19])
 (sC 135 [16,17] 0<|.step (.un .not 19)<|.ite 20
 (sI 7<|.ret [9,21])
 (sB .neq 8 9<|sB .add 2 12<|.tail 155 [0,1,22])))
 (sB .neq 8 9<|sI 1<|sB .add 2 13<|.tail 155 [0,1,14]))
 (sB .neq 8 9<|.ret [9,8]))
 (sI 1<|.ret [4])
def ae3:aF:=.tree 5<|sB .lss 4 3<|.ite 5
 (sA 4 2 4<|sL 0 6<|sL 1 6<|sL 2 6<|sL 3 6<|sI 3<|sB .leq 0 11<|.ite 12
 (sB .leq 9 0<|.ite 13
 (.step (.mk [7,8,9,10])<|.step (.ml [14])<|.step (.app 4 40 1 15)<|sI 1<|sB .add 4 17<|.tail 110 [0,16,2,3,18])
 (sI 1<|sB .add 4 14<|.tail 110 [0,1,2,3,15]))
 (sI 1<|sB .add 4 13<|.tail 110 [0,1,2,3,14]))
 (sI 0<|.ret [6,1])
def afN:aF:=.tree 3<|.step (.len 0)<|sB .lss 2 3<|.ite 4
 (sI 0<|sB .eql 1 5<|.ite 6
 (sA 2 0 2<|sL 0 7<|sL 1 7<|.step (.mk [8,9])<|sC 126 [10] 0<|sB .eql 11 5<|.ite 12
 (sB .gtr 2 5<|.ite 13
 (sI 1<|sB .sub 2 14<|sA 2 0 15<|sL 0 16<|sL 1 16<|.step (.mk [17,18])<|sC 127 [19,10] 0<|sB .add 2 14<|
 .tail 158 [0,20,21])
 (sI 1<|sB .add 2 14<|.tail 158 [0,11,15]))
 (sI 1<|sB .add 2 13<|.tail 158 [0,11,14]))
 (.ret [5,1]))
 (sI 0<|.ret [5,1])
def afG:aF:=.tree 4<|sB .lss 3 2<|.ite 4
 (sA 2 1 3<|sL 0 5<|sL 1 5<|.step (.mk [6,7])<|sC 152 [8] 0<|sB .add 0 9<|sI 1<|sB .add 3 11<|.tail 151 [10,1,2,12])
 (sI 0<|.ret [5,0])
def af8:aF:=.tree 4<|sB .lss 3 2<|.ite 4
 (sA 2 0 3<|sL 1 5<|sA 2 1 3<|sL 1 7<|sB .neq 6 8<|.ite 9
 (sI 0<|.ret [10])
 (sL 0 5<|.step (.len 10)<|sL 0 7<|.step (.len 12)<|sB .neq 11 13<|.ite 14
 (sI 0<|.ret [15])
 (sI 0<|sC 178 [0,1,3,2,5,10,11,7,12,13,15] 0<|sB .eql 16 15<|.ite 17
 (.ret [15])
 (sI 1<|sB .add 3 18<|.tail 177 [0,1,2,19]))))
 (sI 1<|.ret [5])
def d75:aF:=.tree 4<|sB .lss 3 2<|.ite 4
 (.step (.ci .u64 127)<|sB .and 0 5<|.step (.conv .u8 6)<|.step (.ci .u8 128)<|sB .or 7 8<|.step (.idx 1 3)<|.step (.upd 1 0 1 10 [9])<|.step (.ci .u64 7)<|sB .shr 0 12<|
 sI 1<|sB .add 3 14<|.tail 75 [13,11,2,15])
 (sI 0<|.ret [5,1])
def d49:aF:=.tree 6<|sB .lss 3 2<|.ite 6
 (sI 0<|sB .eql 3 7<|oI 50 [4,5,1,8]<|
 sB .neq 11 7<|.ite 14
 (.ret [7,11,12,13])
 (OU 53 [10,12,13]<|
 sB .neq 18 7<|.ite 21
 (.ret [7,18,19,20])
 (.step (.mk [16,17])<|.step (.ml [22])<|.step (.app 2 32 0 23)<|sI 1<|sB .add 3 25<|.tail 49 [24,10,2,26,19,20])))
 (sI 1<|.ret [7,0,4,5])
def aff:aF:=.tree 4<|sB .lss 3 1<|.ite 4
 (sC 124 [0] 0<|sL 0 5<|sL 1 5<|sC 124 [0] 1<|sC 124 [0] 2<|sI 0<|sB .eql 9 10<|.ite 11
 (.step (.ci .u64 0)<|sB .gtr 3 12<|.ite 13
 (.step (.ci .u64 1)<|sB .sub 3 14<|.step (.idx 2 15)<|sA 2 2 16<|sL 0 17<|sL 1 17<|.step (.mk [18,19])<|.step (.mk [6,7])<|sC 127 [20,21] 0<|
 sB .neq 22 10<|.ite 23
 (.ret [10,22])
 (.step (.ml [21])<|.step (.app 2 32 2 24)<|sB .add 3 14<|.tail 123 [8,1,25,26]))
 (sB .neq 9 10<|.step (.mk [6,7])<|.step (.ml [15])<|.step (.app 2 32 2 16)<|.step (.ci .u64 1)<|sB .add 3 18<|.tail 123 [8,1,17,19]))
 (sB .neq 9 10<|.ret [10,9]))
 (sI 1<|.ret [5,0,2])
def d26:aF:=.tree 4<|sB .lss 3 2<|.ite 4
 (sA 4 1 3<|sL 0 5<|sL 1 5<|sL 2 5<|sL 3 5<|.step (.ml [6])<|.step (.app 1 8 0 10)<|sI 1<|sB .add 3 12<|
 .tail 26 [11,1,2,13])
 (sI 0<|.ret [5,0])
def afa:aF:=.tree 1<|.step (.slen 0)<|sI 0<|sB .gtr 1 2<|.ite 3
 (sC 119 [0] 0<|sB .eql 4 2<|.ite 5
 (.ret [2])
 (.step (.fV 0 4 1)<|.tail 118 [6]))
 (sI 1<|.ret [4])
def afF:aF:=.tree 2<|.step (.ci .u64 127)<|sB .gtr 0 2<|.ite 3
 (.step (.ci .u64 128)<|sB .rem 0 4<|sB .add 5 4<|.step (.conv .u8 6)<|.step (.ml [7])<|.step (.str 8)<|sB .add 1 9<|sB .quo 0 4<|.tail 150 [11,10])
 (sI 0<|.ret [4,0,1])
def af4:aF:=.tree 4<|sB .lss 3 2<|.ite 4
 (sA 5 1 3<|sL 0 5<|sL 1 5<|sL 2 5<|sL 3 5<|sL 4 5<|sC 172 [10] 0<|.step (.mk [6,7,8,9,11])<|.step (.ml [12])<|
 .step (.app 5 64 0 13)<|sI 1<|sB .add 3 15<|.tail 173 [14,1,2,16])
 (sI 0<|.ret [5,0])
def d97:aF:=.tree 4<|sB .lss 3 2<|.ite 4
 (sA 5 1 3<|sL 0 5<|sL 1 5<|sL 2 5<|sL 3 5<|sL 4 5<|.step (.len 0)<|sI 0<|sC 98 [0,1,2,3,11,12,6,7,8,9,10] 0<|
 sB .eql 13 12<|.ite 14
 (.ret [12])
 (sI 1<|sB .add 3 15<|.tail 97 [0,1,2,16]))
 (sI 1<|.ret [5])
def d76:aF:=.tree 4<|sB .lss 2 1<|.ite 4
 (sA 2 0 2<|sL 0 5<|sL 1 5<|.step (.mk [6,7])<|sC 77 [8] 0<|.step (.bytes 9)<|.step (.app 1 1 3 10)<|.step (.slen 9)<|sI 1<|
 sB .add 2 13<|.tail 76 [0,1,14,11])
 (sI 0<|.ret [5,3])
def aeY:aF:=.tree 4<|.step (.slen 0)<|sI 0<|sB .gtr 4 5<|.ite 6
 (sC 106 [0,1,3] 0<|sL 0 7<|sL 1 7<|sL 2 7<|sL 3 7<|sL 4 7<|sC 106 [0,1,3] 1<|sC 106 [0,1,3] 2<|
 sB .neq 14 5<|.ite 15
 (.ret [5,14])
 (.step (.mk [8,9,10,11,12])<|.step (.ml [16])<|.step (.app 5 64 2 17)<|.step (.fV 0 13 4)<|.tail 105 [19,1,18,8]))
 (sI 1<|.ret [7,2])
def d96:aF:=.tree 5<|sB .lss 4 3<|.ite 5
 (sA 5 2 4<|sL 0 6<|sL 1 6<|sL 2 6<|sL 3 6<|sL 4 6<|.step (.ci .u64 0)<|sB .eql 7 12<|.ite 13
 (sI 18<|sI 0<|.ret [15,14])
 (.step (.ci .u64 4294967296)<|sB .gtr 7 14<|.ite 15
 (sI 18<|sI 0<|.ret [17,16])
 (sB .leq 7 1<|.ite 16
 (sI 7<|sI 0<|.ret [18,17])
 (sI 0<|sB .eql 8 17<|.ite 18
 (sT []<|sB .eql 10 19<|.ite 20
 (.step (.len 11)<|sB .eql 21 17<|.step (.un .not 22)<|.ite 23
 (sI 8<|.ret [17,24])
 (sI 2<|sB .neq 8 24<|sI 1<|sB .add 4 26<|.tail 96 [0,7,2,3,27]))
 (sI 8<|.ret [17,21]))
 (sI 1<|sB .eql 8 19<|.ite 20
 (sB .eql 9 12<|.ite 21
 (.step (.len 11)<|sB .eql 22 17<|.step (.un .not 23)<|.ite 24
 (sI 8<|.ret [17,25])
 (sI 2<|sB .neq 8 25<|sB .add 4 19<|.tail 96 [0,7,2,3,27]))
 (sI 8<|.ret [17,22]))
 (sI 2<|sB .eql 8 21<|.ite 22
 (sB .eql 9 12<|.ite 23
 (sT []<|sB .eql 10 24<|.step (.un .not 25)<|.ite 26
 (sI 8<|.ret [17,27])
 (sB .neq 8 21<|sI 8<|sB .geq 0 28<|.ite 29
 (sI 9<|.ret [17,30])
 (sB .add 0 19<|sC 95 [11,30] 0<|sB .neq 31 17<|.ite 32
 (.ret [17,31])
 (sB .add 4 19<|.tail 96 [0,7,2,3,33]))))
 (sI 8<|.ret [17,24]))
 (sI 8<|.ret [17,23])))))))
 (sI 1<|.ret [6])
def d58:aF:=.tree 27<|sB .lss 2 1<|.ite 27
 (sA 4 0 2<|sL 0 28<|sL 1 28<|sL 2 28<|sL 3 28<|sT [114,101,109,97,105,110,105,110,103]<|sB .eql 32 33<|
 .ite 34
 (sC 59 [3,4,5,6,7,8,9,10,11,12,13,14,15,16,17,18,19,20,21,22,23,24,25,26] 0<|sI 1<|sB .add 2 36<|l9 37)
 (sT [97,108,108,111,119,101,100]<|sB .eql 32 35<|.ite 36
 (sC 60 [3,4,5,6,7,8,9,10,11,12,13,14,15,16,17,18,19,20,21,22,23,24,25,26] 0<|sI 1<|sB .add 2 38<|l9 39)
 (sT [110,97,109,101]<|sB .eql 32 37<|.ite 38
 (sC 61 [3,4,5,6,7,8,9,10,11,12,13,14,15,16,17,18,19,20,21,22,23,24,25,26] 0<|sC 61 [3,4,5,6,7,8,9,10,11,12,13,14,15,16,17,18,19,20,21,22,23,24,25,26] 1<|
 sI 0<|sB .neq 40 41<|.ite 42
 (.ret [41,40])
 (sI 1<|sB .add 2 43<|l9 44))
 (sT [114,101,103,105,111,110]<|sB .eql 32 39<|.ite 40
 (sC 62 [3,4,5,6,7,8,9,10,11,12,13,14,15,16,17,18,19,20,21,22,23,24,25,26] 0<|sC 62 [3,4,5,6,7,8,9,10,11,12,13,14,15,16,17,18,19,20,21,22,23,24,25,26] 1<|
 sI 0<|sB .neq 42 43<|.ite 44
 (.ret [43,42])
 (sI 1<|sB .add 2 45<|l9 46))
 (sT [110,111,116,101]<|sB .eql 32 41<|.ite 42
 (sC 63 [3,4,5,6,7,8,9,10,11,12,13,14,15,16,17,18,19,20,21,22,23,24,25,26] 0<|sC 63 [3,4,5,6,7,8,9,10,11,12,13,14,15,16,17,18,19,20,21,22,23,24,25,26] 1<|
 sI 0<|sB .neq 44 45<|.ite 46
 (.ret [45,44])
 (sI 1<|sB .add 2 47<|l9 48))
 (sT [100,101,115,99,114]<|sB .eql 32 43<|.ite 44
 (sC 64 [3,4,5,6,7,8,9,10,11,12,13,14,15,16,17,18,19,20,21,22,23,24,25,26] 0<|sC 64 [3,4,5,6,7,8,9,10,11,12,13,14,15,16,17,18,19,20,21,22,23,24,25,26] 1<|
 sI 0<|sB .neq 46 47<|.ite 48
 (.ret [47,46])
 (sI 1<|sB .add 2 49<|l9 50))
 (sT [116,97,98,108,101]<|sB .eql 32 45<|.ite 46
 (sC 67 [3,4,5,6,7,8,9,10,11,12,13,14,15,16,17,18,19,20,21,22,23,24,25,26] 0<|sC 67 [3,4,5,6,7,8,9,10,11,12,13,14,15,16,17,18,19,20,21,22,23,24,25,26] 1<|
 sI 0<|sB .neq 48 49<|.ite 50
 (.ret [49,48])
 (sI 1<|sB .add 2 51<|l9 52))
 (sT [105,100]<|sB .eql 32 47<|.ite 48
 (sC 78 [3,4,5,6,7,8,9,10,11,12,13,14,15,16,17,18,19,20,21,22,23,24,25,26] 0<|sI 1<|sB .add 2 50<|l9 51)
 (sT [109,105,110]<|sB .eql 32 49<|.ite 50
 (sC 79 [3,4,5,6,7,8,9,10,11,12,13,14,15,16,17,18,19,20,21,22,23,24,25,26] 0<|sI 1<|sB .add 2 52<|l9 53)
 (sT [109,97,120]<|sB .eql 32 51<|.ite 52
 (sC 80 [3,4,5,6,7,8,9,10,11,12,13,14,15,16,17,18,19,20,21,22,23,24,25,26] 0<|sI 1<|sB .add 2 54<|l9 55)
 (sT [99,104,111,115,101,110]<|sB .eql 32 53<|.ite 54
 (sC 81 [3,4,5,6,7,8,9,10,11,12,13,14,15,16,17,18,19,20,21,22,23,24,25,26] 0<|sI 1<|sB .add 2 56<|l9 57)
 (sT [102,108,97,103,115]<|sB .eql 32 55<|.ite 56
 (sC 82 [3,4,5,6,7,8,9,10,11,12,13,14,15,16,17,18,19,20,21,22,23,24,25,26] 0<|sI 1<|sB .add 2 58<|l9 59)
 (sT [99,111,115,116]<|sB .eql 32 57<|.ite 58
 (sC 83 [3,4,5,6,7,8,9,10,11,12,13,14,15,16,17,18,19,20,21,22,23,24,25,26] 0<|sI 1<|sB .add 2 60<|l9 61)
 (sT [112,114,105,111,114,105,116,121]<|sB .eql 32 59<|.ite 60
 (sC 84 [3,4,5,6,7,8,9,10,11,12,13,14,15,16,17,18,19,20,21,22,23,24,25,26] 0<|sI 1<|sB .add 2 62<|l9 63)
 (sT [100,101,97,100,108,105,110,101]<|sB .eql 32 61<|.ite 62
 (sC 85 [3,4,5,6,7,8,9,10,11,12,13,14,15,16,17,18,19,20,21,22,23,24,25,26] 0<|sI 1<|sB .add 2 64<|l9 65)
 (sT [114,101,116,114,121]<|sB .eql 32 63<|.ite 64
 (sC 86 [3,4,5,6,7,8,9,10,11,12,13,14,15,16,17,18,19,20,21,22,23,24,25,26] 0<|sI 1<|sB .add 2 66<|l9 67)
 (sT [101,112,111,99,104]<|sB .eql 32 65<|.ite 66
 (sC 87 [3,4,5,6,7,8,9,10,11,12,13,14,15,16,17,18,19,20,21,22,23,24,25,26] 0<|sI 1<|sB .add 2 68<|l9 69)
 (sT [98,97,115,101]<|sB .eql 32 67<|.ite 68
 (sC 88 [3,4,5,6,7,8,9,10,11,12,13,14,15,16,17,18,19,20,21,22,23,24,25,26] 0<|sI 1<|sB .add 2 70<|l9 71)
 (sT [100,105,103,101,115,116]<|sB .eql 32 69<|.ite 70
 (sC 89 [3,4,5,6,7,8,9,10,11,12,13,14,15,16,17,18,19,20,21,22,23,24,25,26] 0<|sI 1<|sB .add 2 72<|l9 73)
 (sT [108,97,103]<|sB .eql 32 71<|.ite 72
 (sC 90 [3,4,5,6,7,8,9,10,11,12,13,14,15,16,17,18,19,20,21,22,23,24,25,26] 0<|sI 1<|sB .add 2 74<|l9 75)
 (sT [99,111,100,101]<|sB .eql 32 73<|.ite 74
 (sC 91 [3,4,5,6,7,8,9,10,11,12,13,14,15,16,17,18,19,20,21,22,23,24,25,26] 0<|sI 1<|sB .add 2 76<|l9 77)
 (sT [119,97,110,116]<|sB .eql 32 75<|.ite 76
 (sC 92 [3,4,5,6,7,8,9,10,11,12,13,14,15,16,17,18,19,20,21,22,23,24,25,26] 0<|sI 1<|sB .add 2 78<|l9 79)
 (sC 93 [] 0<|sI 1<|sB .add 2 78<|l9 79)))))))))))))))))))))))
 (sI 1<|.ret [28])
def afc:aF:=.tree 5<|sB .lss 4 1<|.ite 5
 (.step (.nP 0 4)<|.step (.conv .i64 6)<|sI 128<|sB .lss 7 8<|.ite 9
 (sI 0<|.ret [10])
 (sI 192<|sB .geq 7 10<|.ite 11
 (sI 0<|.ret [12])
 (sI 64<|sB .mul 12 2<|sB .add 13 7<|sB .sub 14 8<|sI 1<|sB .add 4 16<|.tail 120 [0,1,15,3,17])))
 (sI 1<|.ret [6,2])
def d4:aF:=.tree 4<|sB .lss 3 2<|.ite 4
 (.step (.nP 0 3)<|.step (.ci .u8 127)<|sB .and 5 6<|.step (.conv .u64 7)<|sI 7<|sB .mul 9 3<|sB .shl 8 10<|sB .or 1 11<|.step (.ci .u8 128)<|
 sB .geq 5 13<|.ite 14
 (sI 1<|sB .add 3 15<|.tail 4 [0,12,2,16])
 (sI 9<|sB .eql 3 15<|.ite 16
 (.step (.ci .u8 1)<|sB .gtr 5 17<|.ite 18
 (.step (.ci .u64 0)<|sI 0<|sI 3<|.ret [20,19,20,21])
 (sI 0<|sB .gtr 3 19<|.ite 20
 (.step (.ci .u8 0)<|sB .eql 5 21<|.ite 22
 (.step (.ci .u64 0)<|sI 2<|.ret [19,23,19,24])
 (sI 1<|sB .add 3 23<|.ret [19,12,24,19]))
 (sI 1<|sB .add 3 21<|.ret [19,12,22,19])))
 (sI 0<|sB .gtr 3 17<|.ite 18
 (.step (.ci .u8 0)<|sB .eql 5 19<|.ite 20
 (.step (.ci .u64 0)<|sI 2<|.ret [17,21,17,22])
 (sI 1<|sB .add 3 21<|.ret [17,12,22,17]))
 (sI 1<|sB .add 3 19<|.ret [17,12,20,17]))))
 (sI 1<|.ret [5,0])
def afY:aF:=.tree 4<|sB .lss 3 2<|.ite 4
 (sA 2 1 3<|sL 0 5<|sL 1 5<|.step (.mk [6,7])<|.step (.ml [8])<|.step (.app 2 32 0 9)<|sI 1<|sB .add 3 11<|.tail 169 [10,1,2,12])
 (sI 0<|.ret [5,0])
def afU:aF:=.tree 4<|sB .lss 3 2<|.ite 4
 (sA 5 1 3<|sL 0 5<|sL 1 5<|sL 2 5<|sL 3 5<|sL 4 5<|.step (.len 0)<|sI 0<|sC 166 [0,1,2,3,11,12,6,7,8,9,10] 0<|
 sB .eql 13 12<|.ite 14
 (.ret [12])
 (sI 1<|sB .add 3 15<|.tail 165 [0,1,2,16]))
 (sI 1<|.ret [5])
def afP:aF:=.tree 4<|sB .lss 3 2<|.ite 4
 (sA 2 0 3<|sL 0 5<|sL 1 5<|sI 0<|sB .gtr 3 8<|.ite 9
 (sI 1<|sB .sub 3 10<|sA 2 0 11<|sL 0 12<|sC 148 [13] 0<|sC 148 [6] 0<|sC 161 [14,15] 0<|sB .add 1 16<|
 sC 149 [7] 0<|sB .add 17 18<|sB .add 3 10<|.tail 160 [0,19,2,20])
 (sC 148 [6] 0<|sT []<|sC 161 [11,10] 0<|sB .add 1 12<|sC 149 [7] 0<|sB .add 13 14<|sI 1<|sB .add 3 16<|
 .tail 160 [0,15,2,17]))
 (sI 0<|.ret [5,1])
def d52:aF:=.tree 3<|.step (.slen 0)<|sB .lss 2 3<|.ite 4
 (.step (.slen 1)<|sB .lss 2 5<|.ite 6
 (.step (.nP 0 2)<|.step (.nP 1 2)<|sB .eql 7 8<|.ite 9
 (sI 1<|sB .add 2 10<|.tail 52 [0,1,11])
 (sI 0<|.ret [10,2]))
 (sI 0<|.ret [7,2]))
 (sI 0<|.ret [5,2])
def afp:aF:=.tree 5<|sB .lss 4 1<|.ite 5
 (.step (.ci .u64 0)<|sB .eql 4 6<|sC 134 [0,3,7] 0<|sC 134 [0,3,7] 1<|sC 134 [0,3,7] 2<|sI 0<|sB .neq 10 11<|
 .ite 12
 (.ret [11,10])
 (sC 121 [8] 0<|sC 121 [8] 1<|sB .neq 14 11<|.ite 15
 (.ret [11,14])
 (sC 100 [9] 0<|sC 100 [9] 1<|sC 100 [9] 2<|sB .neq 18 11<|.ite 19
 (.ret [11,18])
 (sB .eql 16 6<|.ite 20
 (sI 17<|.ret [11,21])
 (.step (.mk [13,16])<|.step (.ml [21])<|.step (.app 2 32 2 22)<|.step (.slen 9)<|.step (.fV 9 17 24)<|.step (.ci .u64 1)<|sB .add 4 26<|.tail 133 [25,1,23,8,27])))))
 (sI 1<|.ret [6,0,2])
def ae6:aF:=.tree 2<|sI 8<|sB .leq 1 2<|.ite 3
 (sC 109 [1] 0<|.step (.len 4)<|sI 0<|sC 115 [0,1,4,5,6] 0<|sB .eql 7 6<|.ite 8
 (sC 115 [0,1,4,5,6] 1<|.ret [6,9])
 (sI 1<|sB .add 1 9<|.tail 114 [0,10]))
 (sI 1<|.ret [4])
def afx:aF:=.tree 28<|sB .lss 3 2<|.ite 28
 (sA 1 1 3<|sL 0 29<|.step (.len 0)<|.step (.cb false)<|sI 0<|sC 143 [0,30,32,1,2,3,31,33,4,5,6,7,8,9,10,11,12,13,14,15,16,17,18,19,20,21,22,23,24,25,26,27] 0<|
 sC 143 [0,30,32,1,2,3,31,33,4,5,6,7,8,9,10,11,12,13,14,15,16,17,18,19,20,21,22,23,24,25,26,27] 1<|.step (.un .not 35)<|.ite 36
 (.step (.mk [4,5,6,7,8,9,10,11,12,13,14,15,16,17,18,19,20,21,22,23,24,25,26,27])<|sC 144 [37,30] 0<|.step (.un .not 38)<|.ite 39
 (.ret [33])
 (sI 1<|sB .add 3 40<|.tail 142 [0,1,2,41,4,5,6,7,8,9,10,11,12,13,14,15,16,17,18,19,20,21,22,23,24,25,26,27]))
 (sI 1<|sB .add 3 37<|.tail 142 [0,1,2,38,4,5,6,7,8,9,10,11,12,13,14,15,16,17,18,19,20,21,22,23,24,25,26,27]))
 (sI 1<|.ret [29])
def af6:aF:=.tree 51<|sB .lss 2 1<|.ite 51
 (sA 1 0 2<|sL 0 52<|sT [100,101,115,99,114]<|sB .eql 53 54<|.ite 55
 (sI 1<|sB .add 2 56<|.tail 175 [0,1,57,3,4,5,6,7,8,9,10,11,12,13,14,15,16,17,18,19,20,21,22,23,24,25,26,27,28,29,30,31,32,33,34,35,36,37,38,39,40,41,42,43,44,45,46,47,48,49,50])
 (sT [116,97,98,108,101]<|sB .eql 53 56<|.ite 57
 (sI 1<|sB .add 2 58<|.tail 175 [0,1,59,3,4,5,6,7,8,9,10,11,12,13,14,15,16,17,18,19,20,21,22,23,24,25,26,27,28,29,30,31,32,33,34,35,36,37,38,39,40,41,42,43,44,45,46,47,48,49,50])
 (.step (.mk [27,28,29,30,31,32,33,34,35,36,37,38,39,40,41,42,43,44,45,46,47,48,49,50])<|sC 145 [58,53] 0<|sC 145 [58,53] 1<|.step (.mk [3,4,5,6,7,8,9,10,11,12,13,14,15,16,17,18,19,20,21,22,23,24,25,26])<|
 sC 145 [61,53] 0<|sC 145 [61,53] 1<|sB .neq 59 62<|.ite 64
 (sI 0<|.ret [65])
 (sB .neq 60 63<|.ite 65
 (sI 0<|.ret [66])
 (sI 1<|sB .add 2 66<|.tail 175 [0,1,67,3,4,5,6,7,8,9,10,11,12,13,14,15,16,17,18,19,20,21,22,23,24,25,26,27,28,29,30,31,32,33,34,35,36,37,38,39,40,41,42,43,44,45,46,47,48,49,50])))))
 (sI 1<|.ret [52])
def d8:aF:=.tree 5<|.step (.slen 3)<|sB .sub 5 4<|sI 0<|sB .gtr 6 7<|.ite 8
 (an7 9 [1,2,3,4]<|
 sB .neq 15 7<|.ite 19
 (.ret [7,15,16,17,18])
 (.step (.mk [10,11,12,13,14])<|.step (.ml [20])<|.step (.app 5 64 0 21)<|.tail 8 [22,1,16,17,18]))
 (sI 1<|.ret [9,0,2,3,4])
def d31:aF:=.tree 30<|sB .lss 4 3<|.ite 30
 (sA 5 2 4<|sL 0 31<|sL 1 31<|sL 2 31<|sL 3 31<|sL 4 31<|.step (.ci .u64 0)<|sB .eql 32 37<|sT []<|
 .step (.yM 39 29 32)<|sL 0 40<|.step (.mk [5,6,7,8,9,10,11,12,13,14,15,16,17,18,19,20,21,22,23,24,25,26,27,28])<|.step (.mk [32,33,34,35,36])<|
 sC 32 [42,41,43] 0<|sL 0 44<|sL 1 44<|sL 2 44<|sL 3 44<|sL 4 44<|sL 5 44<|sL 6 44<|sL 7 44<|
 sL 8 44<|sL 9 44<|sL 10 44<|sL 11 44<|sL 12 44<|sL 13 44<|sL 14 44<|sL 15 44<|sL 16 44<|
 sL 17 44<|sL 18 44<|sL 19 44<|sL 20 44<|sL 21 44<|sL 22 44<|sL 23 44<|sC 32 [42,41,43] 1<|
 sI 0<|sB .neq 69 70<|.ite 71
 (.ret [70,69])
 (sI 1<|sB .add 4 72<|.tail 31 [0,1,2,3,73,45,46,47,48,49,50,51,52,53,54,55,56,57,58,59,60,61,62,63,64,65,66,67,68,29]))
 (sI 1<|.ret [31,5,6,7,8,9,10,11,12,13,14,15,16,17,18,19,20,21,22,23,24,25,26,27,28])
def aft:aF:=.tree 3<|.step (.slen 0)<|sB .lss 2 3<|.ite 4
 (.step (.slen 1)<|sB .lss 2 5<|.ite 6
 (.step (.nP 0 2)<|.step (.nP 1 2)<|sB .neq 7 8<|.ite 9
 (sI 0<|.ret [10,2])
 (sI 1<|sB .add 2 10<|.tail 137 [0,1,11]))
 (sI 1<|.ret [7]))
 (sI 1<|.ret [5])
def ae0:aF:=.tree 29<|sB .lss 4 3<|.ite 29
 (sA 5 2 4<|sL 0 30<|sL 1 30<|sL 2 30<|sL 3 30<|sL 4 30<|.step (.conv .i64 1)<|sC 108 [36,0] 0<|.step (.len 37)<|
 .step (.cb false)<|sI 0<|sC 111 [0,1,39,2,3,4,37,38,40,31,32,33,34,35,5,6,7,8,9,10,11,12,13,14,15,16,17,18,19,20,21,22,23,24,25,26,27,28] 0<|
 sB .eql 41 40<|.ite 42
 (sC 111 [0,1,39,2,3,4,37,38,40,31,32,33,34,35,5,6,7,8,9,10,11,12,13,14,15,16,17,18,19,20,21,22,23,24,25,26,27,28] 1<|.ret [40,43])
 (aoa 111 [0,1,39,2,3,4,37,38,40,31,32,33,34,35,5,6,7,8,9,10,11,12,13,14,15,16,17,18,19,20,21,22,23,24,25,26,27,28]<|
 .step (.un .not 43)<|
 .ite 68
 (.step (.mk [31,32,33,34,35])<|.step (.ml [69])<|.step (.app 5 64 67 70)<|sI 1<|sB .add 4 72<|.tail 107 [0,1,2,3,73,44,45,46,47,48,49,50,51,52,53,54,55,56,57,58,59,60,61,62,63,64,65,66,71])
 (sI 1<|sB .add 4 69<|.tail 107 [0,1,2,3,70,44,45,46,47,48,49,50,51,52,53,54,55,56,57,58,59,60,61,62,63,64,65,66,67])))
 (sI 1<|.ret [30,5,6,7,8,9,10,11,12,13,14,15,16,17,18,19,20,21,22,23,24,25,26,27,28])
def d35:aF:=.tree 27<|sB .lss 3 2<|.ite 27
 (sA 2 1 3<|sL 0 28<|sL 1 28<|sC 34 [29] 0<|.step (.mk [31,30])<|.step (.ml [32])<|.step (.app 2 32 0 33)<|sI 1<|sB .add 3 35<|
 .tail 35 [34,1,2,36,4,5,6,7,8,9,10,11,12,13,14,15,16,17,18,19,20,21,22,23,24,25,26])
 (sI 0<|.ret [28,0])
def d74:aF:=.tree 2<|.step (.ci .u64 128)<|sB .geq 0 2<|.ite 3
 (.step (.ci .u64 7)<|sB .shr 0 4<|sI 1<|sB .add 1 6<|.tail 74 [5,7])
 (sI 0<|.ret [4,1])
def afR:aF:=.tree 27<|sB .lss 2 1<|.ite 27
 (sA 4 0 2<|sL 0 28<|sL 1 28<|sL 2 28<|sL 3 28<|sI 3<|sB .eql 30 33<|.ite 34
 (.step (.mk [3,4,5,6,7,8,9,10,11,12,13,14,15,16,17,18,19,20,21,22,23,24,25,26])<|sC 147 [35,32] 0<|sI 0<|sI 256<|sC 116 [36,37,38] 0<|
 sI 4<|sB .eql 30 40<|sI 5<|sB .eql 30 42<|sB .neq 39 37<|.ite 44
 (.ret [37,39])
 (sI 1<|sB .add 2 45<|J3 46))
 (sI 4<|sB .eql 30 35<|.ite 36
 (.step (.len 24)<|sI 0<|sB .gtr 37 38<|.ite 39
 (sC 157 [24] 0<|sI 5<|sB .eql 30 41<|sB .neq 40 38<|.ite 43
 (.ret [38,40])
 (sI 1<|sB .add 2 44<|J3 45))
 (sI 5<|sB .eql 30 40<|sI 1<|sB .add 2 42<|J3 43))
 (sI 5<|sB .eql 30 37<|.ite 38
 (sC 154 [25] 0<|sI 0<|sB .neq 39 40<|.ite 41
 (.ret [40,39])
 (sI 1<|sB .add 2 42<|J3 43))
 (sI 1<|sB .add 2 39<|J3 40))))
 (sI 1<|.ret [28])
def Ds:List aF:=[.tY λ_=>none,d1,d2,d3,d4,d5,d6,d7,d8,d9,d10,d11,d12,d13,d14,d15,d16,d17,d18,d19,d20,d21,d22,d23,d24,d25,d26,d27,d28,d29,d30,d31,d32,d33,d34,d35,d36,d37,d38,d39,d40,d41,d42,d43,d44,d45,d46,d47,d48,d49,d50,d51,d52,d53,d54,d55,d56,d57,d58,d59,d60,d61,d62,d63,d64,d65,d66,d67,d68,d69,d70,d71,d72,d73,d74,d75,d76,d77,d78,d79,d80,d81,d82,d83,d84,d85,d86,d87,d88,d89,d90,d91,d92,d93,d94,d95,d96,d97,d98,d99,aeT,aeU,aeV,aeW,aeX,aeY,aeZ,ae0,ae1,ae2,ae3,ae4,.tY λ_=>none,ae5,ae6,ae7,ae8,ae9,afa,afb,afc,afd,afe,aff,afg,afh,afi,afj,afk,afl,afm,afn,afo,afp,afq,afr,afs,aft,.tY λ_=>none,afu,afv,afw,afx,afy,afz,afA,afB,afC,afD,afE,afF,afG,afH,afI,afJ,afK,afL,afM,afN,afO,afP,afQ,afR,afS,afT,afU,afV,afW,afX,afY,afZ,af0,af2,af4,af5,af6,af7,af8,af9,aga,agb,agc]
noncomputable abbrev TT:gq:=vK Ds
end
end V
end Go.Proofs.YthgifdbaegpbpaaGreatDoor
