/- What functions and loops compute: trees of nodes, found by a driver. -/
import Derived.Test.YtcpfjpcdcafjmaaGreatDoorAbsJ
import Derived.Test.YtcpfjpcdcafjmaaGreatDoorAbsPl
import Derived.Test.YtcpfjpcdcafjmaaGreatDoorAbsTold
import Derived.Test.YtcpfjpcdcafjmaaGreatDoorAbsTold2
import Derived.Test.YtcpfjpcdcafjmaaGreatDoorAbsTold3
import Derived.Test.YtcpfjpcdcafjmaaGreatDoorAbsFields
namespace Go.Proofs.YtcpfjpcdcafjmaaGreatDoor
open Go Go.aN
set_option maxRecDepth 100000
set_option linter.unusedVariables false
set_option linter.unusedSimpArgs false
namespace C
noncomputable section
abbrev sB (o:BinOp) (a b:Nat) (t:Tree):Tree:=.step (.bin o a b) t
abbrev sC (f:Nat) (l:List Nat) (j:Nat) (t:Tree):Tree:=.step (.call f l j) t
abbrev sL (o a:Nat) (t:Tree):Tree:=.step (.cell o a) t
abbrev sI (n:Int) (t:Tree):Tree:=.step (.ci .i64 n) t
abbrev sA (s a i:Nat) (t:Tree):Tree:=.step (.at s a i) t
abbrev sS (a j:Nat) (t:Tree):Tree:=.step (.yJ a j) t
abbrev sT (l:List UInt8) (t:Tree):Tree:=.step (.cs l) t
abbrev uO (f:Nat) (l:List Nat) (t:Tree):Tree:=sC f l 0<|sC f l 1<|sC f l 2<|sC f l 3<|sC f l 4<|t
abbrev acj (f:Nat) (l:List Nat) (t:Tree):Tree:=sC f l 0<|sC f l 1<|sC f l 2<|sC f l 3<|sC f l 4<|sC f l 5<|t
abbrev al8 (f:Nat) (l:List Nat) (t:Tree):Tree:=sC f l 0<|sC f l 1<|sC f l 2<|sC f l 3<|sC f l 4<|sC f l 5<|sC f l 6<|sC f l 7<|sC f l 8<|sC f l 9<|sC f l 10<|sC f l 11<|sC f l 12<|sC f l 13<|sC f l 14<|sC f l 15<|sC f l 16<|sC f l 17<|sC f l 18<|sC f l 19<|sC f l 20<|sC f l 21<|sC f l 22<|sC f l 23<|t
abbrev acn (f:Nat) (l:List Nat) (t:Tree):Tree:=sC f l 1<|sC f l 2<|sC f l 3<|sC f l 4<|sC f l 5<|sC f l 6<|sC f l 7<|sC f l 8<|sC f l 9<|sC f l 10<|sC f l 11<|sC f l 12<|sC f l 13<|sC f l 14<|sC f l 15<|sC f l 16<|sC f l 17<|sC f l 18<|sC f l 19<|sC f l 20<|sC f l 21<|sC f l 22<|sC f l 23<|sC f l 24<|t
def aeL:aI:=.fn [.sc] [.sc,.sc,.sc]<|sC 106 [0] 0<|sC 106 [0] 1<|sC 106 [0] 2<|sI 0<|sB .neq 3 4<|.ite 5
 (sT []<|.ret [6,6,3])
 (.step (.slen 0)<|sB .sub 6 2<|.step (.conv .u64 7)<|sB .gtr 1 8<|.ite 9
 (sT []<|sI 1<|.ret [10,10,11])
 (.step (.conv .i64 1)<|sB .add 2 10<|.step (.jc 0 2 11)<|.step (.jc 0 11 6)<|.ret [12,13,4]))
def d40:aI:=.fn [.sc,.sc] [.sc]<|sC 41 [0,1] 0<|.step (.conv .u64 2)<|sC 8 [3] 0<|.step (.slen 1)<|sB .sub 5 2<|.step (.conv .u64 6)<|sC 8 [7] 0<|
 sB .add 4 8<|.step (.jc 1 2 5)<|sB .add 9 10<|.ret [11]
def d1:aI:=.fn [.ag 24,.ag 24,.sc] [.sc]<|sL 0 0<|sL 1 0<|sL 2 0<|sL 3 0<|sL 4 0<|sL 5 0<|sL 6 0<|
 sL 7 0<|sL 8 0<|sL 9 0<|sL 10 0<|sL 11 0<|sL 12 0<|sL 13 0<|sL 14 0<|sL 15 0<|sL 16 0<|
 sL 17 0<|sL 18 0<|sL 19 0<|sL 20 0<|sL 21 0<|sL 22 0<|sL 23 0<|sL 0 1<|sL 1 1<|
 sL 2 1<|sL 3 1<|sL 4 1<|sL 5 1<|sL 6 1<|sL 7 1<|sL 8 1<|sL 9 1<|sL 10 1<|sL 11 1<|
 sL 12 1<|sL 13 1<|sL 14 1<|sL 15 1<|sL 16 1<|sL 17 1<|sL 18 1<|sL 19 1<|sL 20 1<|
 sL 21 1<|sL 22 1<|sL 23 1<|.step (.mk [3,4,5,6,7,8,9,10,11,12,13,14,15,16,17,18,19,20,21,22,23,24,25,26])<|sC 2 [51] 0<|
 .step (.un .not 52)<|.ite 53
 (.step (.cb true)<|.ret [54])
 (.step (.mk [27,28,29,30,31,32,33,34,35,36,37,38,39,40,41,42,43,44,45,46,47,48,49,50])<|sC 2 [54] 0<|.step (.un .not 55)<|.ite 56
 (.step (.cb true)<|.ret [57])
 (.step (.len 2)<|sI 30<|sB .gtr 57 58<|.ite 59
 (.step (.cb true)<|.ret [60])
 (sC 16 [25] 0<|sI 0<|sB .neq 60 61<|.ite 62
 (.step (.cb true)<|.ret [63])
 (sC 16 [49] 0<|sB .neq 63 61<|.ite 64
 (.step (.cb true)<|.ret [65])
 (sC 25 [51] 0<|sL 0 65<|sL 1 65<|sL 2 65<|sL 3 65<|sL 4 65<|sL 5 65<|sL 6 65<|sL 7 65<|
 sL 8 65<|sL 9 65<|sL 10 65<|sL 11 65<|sL 12 65<|sL 13 65<|sL 14 65<|sL 15 65<|sL 16 65<|
 sL 17 65<|sL 18 65<|sL 19 65<|sL 20 65<|sL 21 65<|sL 22 65<|sL 23 65<|sC 25 [54] 0<|sL 0 90<|
 sL 1 90<|sL 2 90<|sL 3 90<|sL 4 90<|sL 5 90<|sL 6 90<|sL 7 90<|sL 8 90<|sL 9 90<|
 sL 10 90<|sL 11 90<|sL 12 90<|sL 13 90<|sL 14 90<|sL 15 90<|sL 16 90<|sL 17 90<|sL 18 90<|
 sL 19 90<|sL 20 90<|sL 21 90<|sL 22 90<|sL 23 90<|.step (.mk [66,67,68,69,70,71,72,73,74,75,76,77,78,79,80,81,82,83,84,85,86,87,88,89])<|
 .step (.mk [91,92,93,94,95,96,97,98,99,100,101,102,103,104,105,106,107,108,109,110,111,112,113,114])<|sC 29 [115,116,2] 0<|sL 0 117<|
 sL 1 117<|sL 2 117<|sL 3 117<|sL 4 117<|sL 5 117<|sL 6 117<|sL 7 117<|sL 8 117<|sL 9 117<|
 sL 10 117<|sL 11 117<|sL 12 117<|sL 13 117<|sL 14 117<|sL 15 117<|sL 16 117<|sL 17 117<|sL 18 117<|
 sL 19 117<|sL 20 117<|sL 21 117<|sL 22 117<|sL 23 117<|sC 29 [115,116,2] 1<|sC 60 [115] 0<|sL 0 143<|
 sL 1 143<|sL 2 143<|sL 3 143<|sL 4 143<|sL 5 143<|sL 6 143<|sL 7 143<|sL 8 143<|sL 9 143<|
 sL 10 143<|sL 11 143<|sL 12 143<|sL 13 143<|sL 14 143<|sL 15 143<|sL 16 143<|sL 17 143<|sL 18 143<|
 sL 19 143<|sL 20 143<|sL 21 143<|sL 22 143<|sL 23 143<|sC 60 [116] 0<|sL 0 168<|sL 1 168<|
 sL 2 168<|sL 3 168<|sL 4 168<|sL 5 168<|sL 6 168<|sL 7 168<|sL 8 168<|sL 9 168<|sL 10 168<|
 sL 11 168<|sL 12 168<|sL 13 168<|sL 14 168<|sL 15 168<|sL 16 168<|sL 17 168<|sL 18 168<|sL 19 168<|
 sL 20 168<|sL 21 168<|sL 22 168<|sL 23 168<|.step (.mk [144,145,146,147,148,149,150,151,152,153,154,155,156,157,158,159,160,161,162,163,164,165,166,167])<|
 .step (.mk [169,170,171,172,173,174,175,176,177,178,179,180,181,182,183,184,185,186,187,188,189,190,191,192])<|sC 67 [193,194,2] 0<|sL 0 195<|
 sL 1 195<|sL 2 195<|sL 3 195<|sL 4 195<|sL 5 195<|sL 6 195<|sL 7 195<|sL 8 195<|sL 9 195<|
 sL 10 195<|sL 11 195<|sL 12 195<|sL 13 195<|sL 14 195<|sL 15 195<|sL 16 195<|sL 17 195<|sL 18 195<|
 sL 19 195<|sL 20 195<|sL 21 195<|sL 22 195<|sL 23 195<|sC 67 [193,194,2] 1<|sC 116 [115,116] 0<|sC 121 [193,194] 0<|
 sC 126 [221,222] 0<|.ite 223
 (.step (.mk [118,119,120,121,122,123,124,125,126,127,128,129,130,131,132,133,134,135,136,137,138,139,140,141])<|sC 60 [224] 0<|sL 0 225<|
 sL 1 225<|sL 2 225<|sL 3 225<|sL 4 225<|sL 5 225<|sL 6 225<|sL 7 225<|sL 8 225<|sL 9 225<|
 sL 10 225<|sL 11 225<|sL 12 225<|sL 13 225<|sL 14 225<|sL 15 225<|sL 16 225<|sL 17 225<|sL 18 225<|
 sL 19 225<|sL 20 225<|sL 21 225<|sL 22 225<|sL 23 225<|.step (.mk [226,227,228,229,230,231,232,233,234,235,236,237,238,239,240,241,242,243,244,245,246,247,248,249])<|
 .step (.mk [196,197,198,199,200,201,202,203,204,205,206,207,208,209,210,211,212,213,214,215,216,217,218,219])<|sC 128 [250,251] 0<|.ite 252
 (sB .eql 142 220<|.ite 253
 (sC 116 [115,115] 0<|.step (.len 254)<|sB .eql 255 61<|.ret [256])
 (.step (.cb false)<|.ret [254]))
 (.step (.cb false)<|.ret [253]))
 (.step (.cb false)<|.ret [224]))))))
def d69:aI:=.fn [.sc] [.sc]<|sI 1<|sC 70 [0,1] 0<|sI 0<|sB .eql 2 3<|.ite 4
 (sC 70 [0,1] 1<|.ret [5])
 (sI (-1)<|.ret [5])
def d55:aI:=.fn [.sc] [.sc,.sc]<|sI 0<|uO 56 [0,1]<|
 sB .neq 4 1<|.ite 7
 (.step (.ml [])<|.ret [8,4])
 (.step (.slen 5)<|sB .sub 8 6<|sB .gtr 9 1<|.ite 10
 (.step (.ml [])<|sI 10<|.ret [11,12])
 (.ret [3,1]))
def d71:aI:=.fn [.sc] [.sc]<|sI 1<|sB .eql 0 1<|.ite 2
 (.step (.ci .u64 1)<|sI 0<|sT [109,105,110]<|.step (.mk [3,4,1,5])<|.step (.ci .u64 2)<|sT [109,97,120]<|.step (.mk [7,4,1,8])<|.step (.ci .u64 3)<|
 sI 3<|sT [110,97,109,101]<|.step (.mk [10,11,1,12])<|.step (.ci .u64 4)<|sI 2<|sT [114,101,103,105,111,110]<|.step (.mk [14,11,15,16])<|
 .step (.ci .u64 5)<|sT [102,108,97,103,115]<|.step (.mk [18,4,11,19])<|.step (.ml [6,9,13,17,20])<|.ret [21])
 (sI 2<|sB .eql 0 3<|.ite 4
 (.step (.ci .u64 1)<|sI 0<|sT [99,104,111,115,101,110]<|.step (.mk [5,6,1,7])<|.step (.ci .u64 2)<|sI 3<|sT [110,97,109,101]<|
 .step (.mk [9,10,1,11])<|.step (.ci .u64 3)<|sT [114,101,103,105,111,110]<|.step (.mk [13,10,3,14])<|.step (.ml [8,12,15])<|.ret [16])
 (sI 3<|sB .eql 0 5<|.ite 6
 (.step (.ci .u64 1)<|sI 0<|sT [105,100]<|.step (.mk [7,8,1,9])<|.step (.ci .u64 2)<|sI 4<|sT [100,101,115,99,114]<|.step (.mk [11,12,1,13])<|
 .step (.ci .u64 3)<|sT [99,111,115,116]<|.step (.mk [15,8,1,16])<|.step (.ci .u64 4)<|sT [112,114,105,111,114,105,116,121]<|.step (.mk [18,8,3,19])<|
 .step (.ci .u64 5)<|sT [100,101,97,100,108,105,110,101]<|.step (.mk [21,8,5,22])<|.step (.ml [10,14,17,20,23])<|.ret [24])
 (sI 4<|sB .eql 0 7<|.ite 8
 (.step (.ci .u64 1)<|sI 0<|sT [105,100]<|.step (.mk [9,10,1,11])<|.step (.ci .u64 2)<|sT [97,108,108,111,119,101,100]<|.step (.mk [13,1,1,14])<|
 .step (.ci .u64 3)<|sT [114,101,109,97,105,110,105,110,103]<|.step (.mk [16,3,1,17])<|.step (.ci .u64 4)<|sT [114,101,116,114,121]<|.step (.mk [19,10,3,20])<|
 .step (.ci .u64 5)<|sT [110,111,116,101]<|.step (.mk [22,5,5,23])<|.step (.ml [12,15,18,21,24])<|.ret [25])
 (sI 5<|sB .eql 0 9<|.ite 10
 (.step (.ci .u64 1)<|sI 0<|sT [101,112,111,99,104]<|.step (.mk [11,12,1,13])<|.step (.ci .u64 2)<|sT [116,97,98,108,101]<|.step (.mk [15,9,1,16])<|
 .step (.ci .u64 3)<|sT [114,101,103,105,111,110]<|.step (.mk [18,5,3,19])<|.step (.ci .u64 4)<|sT [100,105,103,101,115,116]<|.step (.mk [21,12,5,22])<|
 .step (.ml [14,17,20,23])<|.ret [24])
 (sI 6<|sB .eql 0 11<|.ite 12
 (.step (.ci .u64 1)<|sI 0<|sT [98,97,115,101]<|.step (.mk [13,14,3,15])<|.step (.ci .u64 2)<|sT [101,112,111,99,104]<|.step (.mk [17,14,3,18])<|
 .step (.ci .u64 3)<|sT [116,97,98,108,101]<|.step (.mk [20,9,3,21])<|.step (.ci .u64 4)<|sT [114,101,103,105,111,110]<|.step (.mk [23,5,3,24])<|.step (.ci .u64 5)<|
 sT [100,105,103,101,115,116]<|.step (.mk [26,14,5,27])<|.step (.ml [16,19,22,25,28])<|.ret [29])
 (sI 7<|sB .eql 0 13<|.ite 14
 (.step (.ci .u64 1)<|sI 0<|sT [101,112,111,99,104]<|.step (.mk [15,16,1,17])<|.step (.ci .u64 2)<|sT [108,97,103]<|.step (.mk [19,16,5,20])<|
 .step (.ml [18,21])<|.ret [22])
 (sI 8<|sB .eql 0 15<|.ite 16
 (.step (.ci .u64 1)<|sI 0<|sT [101,112,111,99,104]<|.step (.mk [17,18,1,19])<|.step (.ci .u64 2)<|sT [99,111,100,101]<|.step (.mk [21,18,1,22])<|
 .step (.ci .u64 3)<|sT [119,97,110,116]<|.step (.mk [24,18,3,25])<|.step (.ci .u64 4)<|sT [110,111,116,101]<|.step (.mk [27,5,5,28])<|.step (.ml [20,23,26,29])<|
 .ret [30])
 (.step (.ml [])<|.ret [17]))))))))
abbrev d31:aI:=.vN (ES 32 2)
def d14:aI:=.fn [.sc] [.sc]<|.step (.len 0)<|sI 0<|sC 15 [0,1,2] 0<|sB .eql 3 2<|.ite 4
 (.step (.cb false)<|.ret [5])
 (sI 60<|sB .leq 1 5<|.ret [6])
def d87:aI:=.fn [.ag 2] [.sc]<|sL 0 0<|sL 1 0<|sI 1<|sI 64<|sC 88 [1,3,4] 0<|sI 0<|sB .neq 5 6<|
 .ite 7
 (.ret [5])
 (sI 256<|sC 88 [2,6,8] 0<|.ret [9])
def aeV:aI:=.fn [.ag 24,.ag 24] [.sc]<|sL 0 0<|sL 1 0<|sL 2 0<|sL 3 0<|sL 4 0<|sL 5 0<|sL 6 0<|
 sL 7 0<|sL 8 0<|sL 9 0<|sL 10 0<|sL 11 0<|sL 12 0<|sL 13 0<|sL 14 0<|sL 15 0<|sL 16 0<|
 sL 17 0<|sL 18 0<|sL 19 0<|sL 20 0<|sL 21 0<|sL 22 0<|sL 23 0<|sL 0 1<|sL 1 1<|
 sL 2 1<|sL 3 1<|sL 4 1<|sL 5 1<|sL 6 1<|sL 7 1<|sL 8 1<|sL 9 1<|sL 10 1<|sL 11 1<|
 sL 12 1<|sL 13 1<|sL 14 1<|sL 15 1<|sL 16 1<|sL 17 1<|sL 18 1<|sL 19 1<|sL 20 1<|
 sL 21 1<|sL 22 1<|sL 23 1<|sC 122 [] 0<|.step (.len 50)<|sI 0<|.step (.ml [])<|sC 123 [53,50,51,52,26,27,28,29,30,31,32,33,34,35,36,37,38,39,40,41,42,43,44,45,46,47,48,49,2,3,4,5,6,7,8,9,10,11,12,13,14,15,16,17,18,19,20,21,22,23,24,25] 0<|
 sC 123 [53,50,51,52,26,27,28,29,30,31,32,33,34,35,36,37,38,39,40,41,42,43,44,45,46,47,48,49,2,3,4,5,6,7,8,9,10,11,12,13,14,15,16,17,18,19,20,21,22,23,24,25] 1<|
 sB .neq 2 26<|.ite 56
 (sT [107,105,110,100]<|.step (.ml [57])<|.step (.app 1 16 55 58)<|sC 124 [25,49] 0<|.step (.un .not 60)<|.ite 61
 (sT [114,101,115,116]<|.step (.ml [62])<|.step (.app 1 16 59 63)<|.ret [64])
 (.ret [59]))
 (sC 124 [25,49] 0<|.step (.un .not 57)<|.ite 58
 (sT [114,101,115,116]<|.step (.ml [59])<|.step (.app 1 16 55 60)<|.ret [61])
 (.ret [55]))
def d84:aI:=.fn [.ag 2] [.sc]<|sL 0 0<|sL 1 0<|sC 85 [1] 0<|sI 0<|sB .eql 3 4<|.ite 5
 (.step (.ci .u64 0)<|sB .eql 2 6<|.ite 7
 (sI 18<|.ret [8])
 (.ret [3]))
 (.ret [3])
def d16:aI:=.fn [.sc] [.sc]<|.step (.len 0)<|sI 256<|sB .gtr 1 2<|.ite 3
 (sI 13<|.ret [4])
 (sT []<|sI 0<|sC 17 [4,0,1,5] 0<|sB .eql 6 5<|.ite 7
 (sC 17 [4,0,1,5] 1<|.ret [8])
 (.ret [5]))
def d26:aI:=.fn [.sc] [.sc]<|.step (.ci .u8 0)<|sC 27 [0,1] 0<|sC 27 [0,1] 1<|.ret [2]
def d19:aI:=.fn [.sc] [.sc]<|.step (.len 0)<|.step (.conv .u64 1)<|.step (.ci .u64 0)<|sB .eql 2 3<|.ite 4
 (sI 12<|.ret [5])
 (.step (.ci .u64 16)<|sB .gtr 2 5<|.ite 6
 (sI 13<|.ret [7])
 (sI 0<|sC 20 [0,1,7] 0<|sB .eql 8 7<|.ite 9
 (sC 20 [0,1,7] 1<|.ret [10])
 (.ret [7])))
def aeP:aI:=.fn [.sc,.sc,.sc] [.sc,.sc,.sc]<|sC 106 [0] 0<|sC 106 [0] 1<|sC 106 [0] 2<|sI 0<|sB .neq 5 6<|.ite 7
 (sT []<|.ret [8,8,5])
 (.ite 2
 (.step (.ci .u64 0)<|sB .neq 3 8<|.ite 9
 (sT []<|sI 23<|.ret [10,10,11])
 (.step (.slen 1)<|.step (.conv .u64 10)<|sB .gtr 3 11<|.ite 12
 (sT []<|sI 23<|.ret [13,13,14])
 (.step (.slen 0)<|.step (.jc 0 4 13)<|sC 106 [14] 0<|sC 106 [14] 1<|sC 106 [14] 2<|sB .neq 17 6<|.ite 18
 (sT []<|.ret [19,19,17])
 (sB .add 4 16<|sB .sub 13 19<|.step (.conv .u64 20)<|sB .gtr 15 21<|.ite 22
 (sT []<|sI 1<|.ret [23,23,24])
 (.step (.conv .i64 3)<|.step (.jc 1 6 23)<|.step (.conv .i64 15)<|sB .add 19 25<|.step (.jc 0 19 26)<|sB .add 24 27<|.step (.un .not 2)<|.ite 29
 (sC 97 [1,27] 0<|.step (.un .not 30)<|.ite 31
 (sT []<|sI 7<|.ret [32,32,33])
 (sC 101 [1,27] 0<|sB .neq 32 23<|.ite 33
 (sT []<|sI 23<|.ret [34,34,35])
 (.step (.jc 0 26 13)<|.ret [27,34,6])))
 (.step (.jc 0 26 13)<|.ret [27,30,6]))))))
 (.step (.slen 1)<|.step (.conv .u64 8)<|sB .gtr 3 9<|.ite 10
 (sT []<|sI 23<|.ret [11,11,12])
 (.step (.slen 0)<|.step (.jc 0 4 11)<|sC 106 [12] 0<|sC 106 [12] 1<|sC 106 [12] 2<|sB .neq 15 6<|.ite 16
 (sT []<|.ret [17,17,15])
 (sB .add 4 14<|sB .sub 11 17<|.step (.conv .u64 18)<|sB .gtr 13 19<|.ite 20
 (sT []<|sI 1<|.ret [21,21,22])
 (.step (.conv .i64 3)<|.step (.jc 1 6 21)<|.step (.conv .i64 13)<|sB .add 17 23<|.step (.jc 0 17 24)<|sB .add 22 25<|.step (.un .not 2)<|.ite 27
 (sC 97 [1,26] 0<|.step (.un .not 28)<|.ite 29
 (sT []<|sI 7<|.ret [30,30,31])
 (sC 101 [1,26] 0<|sB .neq 30 21<|.ite 31
 (sT []<|sI 23<|.ret [32,32,33])
 (.step (.jc 0 24 11)<|.ret [26,32,6])))
 (.step (.jc 0 24 11)<|.ret [26,28,6]))))))
def d93:aI:=.fn [.ag 2,.ag 2] [.sc]<|sL 0 0<|sL 1 0<|sL 0 1<|sL 1 1<|sB .eql 2 4<|.ite 6
 (sI 14<|.ret [7])
 (.step (.mk [2,3])<|.step (.mk [4,5])<|sC 94 [7,8] 0<|sI 0<|sB .gtr 9 10<|.ite 11
 (sI 7<|.ret [12])
 (.ret [10]))
def d21:aI:=.fn [.ag 2] [.sc]<|sL 0 0<|sL 1 0<|sI 1<|sI 64<|sC 22 [1,3,4] 0<|sI 0<|sB .neq 5 6<|
 .ite 7
 (.ret [5])
 (sI 256<|sC 22 [2,6,8] 0<|.ret [9])
def d29:aI:=.fn [.ag 24,.ag 24,.sc] [.ag 24,.sc]<|sL 0 0<|sL 1 0<|sL 2 0<|sL 3 0<|sL 4 0<|sL 5 0<|sL 6 0<|
 sL 7 0<|sL 8 0<|sL 9 0<|sL 10 0<|sL 11 0<|sL 12 0<|sL 13 0<|sL 14 0<|sL 15 0<|sL 16 0<|
 sL 17 0<|sL 18 0<|sL 19 0<|sL 20 0<|sL 21 0<|sL 22 0<|sL 23 0<|sL 0 1<|sL 1 1<|
 sL 2 1<|sL 3 1<|sL 4 1<|sL 5 1<|sL 6 1<|sL 7 1<|sL 8 1<|sL 9 1<|sL 10 1<|sL 11 1<|
 sL 12 1<|sL 13 1<|sL 14 1<|sL 15 1<|sL 16 1<|sL 17 1<|sL 18 1<|sL 19 1<|sL 20 1<|
 sL 21 1<|sL 22 1<|sL 23 1<|.step (.mk [3,4,5,6,7,8,9,10,11,12,13,14,15,16,17,18,19,20,21,22,23,24,25,26])<|sC 30 [51] 0<|
 sL 0 52<|sL 1 52<|sL 2 52<|sL 3 52<|sL 4 52<|sL 5 52<|sL 6 52<|sL 7 52<|sL 8 52<|
 sL 9 52<|sL 10 52<|sL 11 52<|sL 12 52<|sL 13 52<|sL 14 52<|sL 15 52<|sL 16 52<|sL 17 52<|
 sL 18 52<|sL 19 52<|sL 20 52<|sL 21 52<|sL 22 52<|sL 23 52<|sC 34 [27,28,29,30,31,32,33,34,35,36,37,38,39,40,41,42,43,44,45,46,47,48,49,50] 0<|
 sC 34 [27,28,29,30,31,32,33,34,35,36,37,38,39,40,41,42,43,44,45,46,47,48,49,50] 1<|.step (.len 2)<|sI 0<|sC 43 [2,79,80,78,53,54,55,56,57,58,59,60,61,62,63,64,65,66,67,68,69,70,71,72,73,74,75,76] 0<|
 sB .eql 81 80<|.ite 82
 (sC 43 [2,79,80,78,53,54,55,56,57,58,59,60,61,62,63,64,65,66,67,68,69,70,71,72,73,74,75,76] 1<|.step (.ci .u64 0)<|.step (.cb false)<|sT []<|
 .step (.ml [])<|.step (.mk [80,84,84,84,84,84,84,84,84,84,84,84,84,84,84,84,80,85,86,86,86,87,87,87])<|.ret [88,83])
 (acn 43 [2,79,80,78,53,54,55,56,57,58,59,60,61,62,63,64,65,66,67,68,69,70,71,72,73,74,75,76]<|
 .step (.mk [83,84,85,86,87,88,89,90,91,92,93,94,95,96,97,98,99,100,101,102,103,104,105,106])<|.ret [107,80])
def ae2:aI:=.fn [.ag 24,.ag 24] [.sc]<|sL 0 0<|sL 1 0<|sL 2 0<|sL 3 0<|sL 4 0<|sL 5 0<|sL 6 0<|
 sL 7 0<|sL 8 0<|sL 9 0<|sL 10 0<|sL 11 0<|sL 12 0<|sL 13 0<|sL 14 0<|sL 15 0<|sL 16 0<|
 sL 17 0<|sL 18 0<|sL 19 0<|sL 20 0<|sL 21 0<|sL 22 0<|sL 23 0<|sL 0 1<|sL 1 1<|
 sL 2 1<|sL 3 1<|sL 4 1<|sL 5 1<|sL 6 1<|sL 7 1<|sL 8 1<|sL 9 1<|sL 10 1<|sL 11 1<|
 sL 12 1<|sL 13 1<|sL 14 1<|sL 15 1<|sL 16 1<|sL 17 1<|sL 18 1<|sL 19 1<|sL 20 1<|
 sL 21 1<|sL 22 1<|sL 23 1<|sC 122 [] 0<|.step (.len 50)<|sI 0<|sC 129 [50,51,52,26,27,28,29,30,31,32,33,34,35,36,37,38,39,40,41,42,43,44,45,46,47,48,49,2,3,4,5,6,7,8,9,10,11,12,13,14,15,16,17,18,19,20,21,22,23,24,25] 0<|
 sB .eql 53 52<|.ite 54
 (.step (.cb false)<|.ret [55])
 (sB .neq 2 26<|.ite 55
 (.step (.cb false)<|.ret [56])
 (.step (.len 23)<|.step (.len 47)<|sB .neq 56 57<|.ite 58
 (.step (.cb false)<|.ret [59])
 (sC 130 [24,48] 0<|.step (.un .not 59)<|.ite 60
 (.step (.cb false)<|.ret [61])
 (sC 124 [25,49] 0<|.step (.un .not 61)<|.ite 62
 (.step (.cb false)<|.ret [63])
 (sC 133 [56,52,26,27,28,29,30,31,32,33,34,35,36,37,38,39,40,41,42,43,44,45,46,47,48,49,2,3,4,5,6,7,8,9,10,11,12,13,14,15,16,17,18,19,20,21,22,23,24,25] 0<|
 sB .eql 63 52<|.ite 64
 (.step (.cb false)<|.ret [65])
 (.step (.cb true)<|.ret [65]))))))
def d9:aI:=.fn [.sc] [.sc]<|sI 1<|sC 10 [0,1] 0<|sC 10 [0,1] 1<|.ret [3]
def d94:aI:=.fn [.ag 2,.ag 2] [.sc]<|sL 0 0<|sL 1 0<|sL 0 1<|sL 1 1<|sC 95 [2,4] 0<|.ite 6
 (sI (-1)<|.ret [7])
 (sB .eql 2 4<|.ite 7
 (sC 95 [3,5] 0<|.ite 8
 (sI (-1)<|.ret [9])
 (.step (.mk [2,3])<|.step (.mk [4,5])<|.step (.uq .eql [1,1] 9 10)<|.ite 11
 (sI 0<|.ret [12])
 (sI 1<|.ret [12])))
 (.step (.mk [2,3])<|.step (.mk [4,5])<|.step (.uq .eql [1,1] 8 9)<|.ite 10
 (sI 0<|.ret [11])
 (sI 1<|.ret [11])))
def aeE:aI:=.fn [.sc] [.sc,.sc]<|sC 105 [0] 0<|sC 105 [0] 1<|sC 105 [0] 2<|sI 0<|sB .neq 3 4<|.ite 5
 (.step (.ml [])<|.ret [6,3])
 (sT []<|sB .neq 2 6<|.ite 7
 (.step (.ml [])<|sI 10<|.ret [8,9])
 (.ret [1,4]))
def d25:aI:=.fn [.ag 24] [.ag 24]<|sL 0 0<|sL 1 0<|sL 2 0<|sL 3 0<|sL 4 0<|sL 5 0<|sL 6 0<|sL 7 0<|
 sL 8 0<|sL 9 0<|sL 10 0<|sL 11 0<|sL 12 0<|sL 13 0<|sL 14 0<|sL 15 0<|sL 16 0<|
 sL 17 0<|sL 18 0<|sL 19 0<|sL 20 0<|sL 21 0<|sL 22 0<|sL 23 0<|sC 26 [24] 0<|.step (.mk [1,2,3,4,5,6,7,8,9,10,11,12,13,14,15,16,17,18,19,20,21,22,23,25])<|
 .ret [26]
abbrev d24:aI:=.vN GL
abbrev d35:aI:=.vN NT
def d8:aI:=.fn [.sc] [.sc]<|sC 9 [0] 0<|.step (.ci .u8 0)<|.step (.rep 1 1 2 1 1)<|.step (.len 3)<|sI 0<|sC 11 [0,3,4,5] 0<|sC 11 [0,3,4,5] 1<|
 .step (.len 7)<|sI 1<|sB .sub 8 9<|.step (.idx 7 10)<|sA 1 7 11<|sL 0 12<|.step (.ci .u8 127)<|sB .and 13 14<|.step (.upd 1 0 7 11 [15])<|
 .step (.str 16)<|.ret [17]
def d89:aI:=.fn [.sc] [.sc]<|sC 90 [0] 0<|sI 0<|sB .eql 1 2<|.ite 3
 (.step (.cb false)<|.ret [4])
 (.step (.cb true)<|.ret [4])
def d88:aI:=.fn [.sc,.sc,.sc] [.sc]<|.step (.slen 0)<|sB .lss 3 1<|.ite 4
 (sI 13<|.ret [5])
 (sB .gtr 3 2<|.ite 5
 (sI 13<|.ret [6])
 (sC 89 [0] 0<|.step (.un .not 6)<|.ite 7
 (sI 11<|.ret [8])
 (sI 0<|.ret [8])))
def d81:aI:=.fn [.sc] [.sc,.sc]<|sC 82 [0] 0<|sI 0<|sB .neq 1 2<|.ite 3
 (sT []<|.ret [4,1])
 (sC 98 [0] 0<|.ret [4,2])
def d13:aI:=.fn [.ag 2] [.sc]<|sL 0 0<|sL 1 0<|.step (.slen 1)<|.step (.conv .u64 3)<|sC 8 [4] 0<|sB .add 5 1<|.step (.slen 2)<|.step (.conv .u64 7)<|
 sC 8 [8] 0<|sB .add 6 9<|sB .add 10 2<|.ret [11]
def d50:aI:=.fn [.sc] [.sc,.sc,.sc]<|.step (.slen 0)<|sI 10<|.step (.mm false 1 2)<|.step (.ci .u64 0)<|sI 0<|sC 51 [0,4,3,5] 0<|
 sB .eql 6 5<|.ite 7
 (sC 51 [0,4,3,5] 1<|sC 51 [0,4,3,5] 2<|sC 51 [0,4,3,5] 3<|.ret [8,9,10])
 (sC 51 [0,4,3,5] 1<|.step (.slen 8)<|sB .geq 9 2<|.ite 10
 (sI 3<|.ret [4,5,11])
 (sI 1<|.ret [4,5,11]))
def aeW:aI:=.fn [] [.sc]<|sT [97,108,108,111,119,101,100]<|sT [98,97,115,101]<|sT [99,104,111,115,101,110]<|sT [99,111,100,101]<|
 sT [99,111,115,116]<|sT [100,101,97,100,108,105,110,101]<|sT [100,101,115,99,114]<|sT [100,105,103,101,115,116]<|sT [101,112,111,99,104]<|
 sT [102,108,97,103,115]<|sT [105,100]<|sT [108,97,103]<|sT [109,97,120]<|sT [109,105,110]<|sT [110,97,109,101]<|
 sT [110,111,116,101]<|sT [112,114,105,111,114,105,116,121]<|sT [114,101,103,105,111,110]<|sT [114,101,109,97,105,110,105,110,103]<|
 sT [114,101,116,114,121]<|sT [116,97,98,108,101]<|sT [119,97,110,116]<|.step (.ml [0,1,2,3,4,5,6,7,8,9,10,11,12,13,14,15,16,17,18,19,20,21])<|
 .ret [22]
def aeA:aI:=.fn [.sc,.sc] [.sc]<|sC 101 [0,1] 0<|.step (.conv .u64 2)<|sC 77 [3] 0<|.step (.slen 1)<|sB .sub 5 2<|.step (.conv .u64 6)<|sC 77 [7] 0<|
 sB .add 4 8<|.step (.jc 1 2 5)<|sB .add 9 10<|.ret [11]
def d27:aI:=.fn [.sc,.sc] [.sc,.sc]<|.step (.ml [])<|sC 28 [0,1,2] 0<|sC 28 [0,1,2] 1<|sC 28 [0,1,2] 2<|.ret [5,4]
def aeN:aI:=.fn [.sc] [.sc,.sc,.sc]<|sC 106 [0] 0<|sC 106 [0] 1<|sC 106 [0] 2<|sI 0<|sB .neq 3 4<|.ite 5
 (.step (.ml [])<|sT []<|.ret [6,7,3])
 (.step (.ci .u64 256)<|sB .gtr 1 6<|.ite 7
 (.step (.ml [])<|sT []<|sI 13<|.ret [8,9,10])
 (.step (.slen 0)<|.step (.jc 0 2 8)<|sT []<|.step (.ci .u64 0)<|.step (.ml [])<|sC 114 [9,1,12,10,11] 0<|sB .eql 13 4<|.ite 14
 (sC 114 [9,1,12,10,11] 1<|.ret [12,10,15])
 (sC 114 [9,1,12,10,11] 1<|sC 114 [9,1,12,10,11] 2<|.ret [16,15,4])))
def d91:aI:=.fn [.sc] [.sc]<|.step (.slen 0)<|sI 0<|sB .eql 1 2<|.ite 3
 (.ret [2])
 (.step (.nC 0 2)<|.step (.conv .i64 4)<|sI 128<|sB .lss 5 6<|.ite 7
 (sI 1<|.ret [8])
 (sI 192<|sB .geq 5 8<|.ite 9
 (sI 224<|sB .lss 5 10<|.ite 11
 (sB .sub 5 8<|sI 2<|sB .lss 1 13<|.ite 14
 (.ret [2])
 (sI 1<|sC 92 [0,13,12,6,15] 0<|sB .eql 16 2<|.ite 17
 (.ret [2])
 (sC 92 [0,13,12,6,15] 1<|sB .lss 18 6<|.ite 19
 (.ret [2])
 (sI 1114111<|sB .gtr 18 20<|.ite 21
 (.ret [2])
 (sI 55296<|sB .geq 18 22<|.ite 23
 (sI 57344<|sB .lss 18 24<|.ite 25
 (.ret [2])
 (.ret [13]))
 (.ret [13]))))))
 (sB .geq 5 10<|sI 240<|sB .lss 5 13<|.ite 14
 (sB .sub 5 10<|sI 3<|sB .lss 1 16<|.ite 17
 (.ret [2])
 (sI 2048<|sI 1<|sC 92 [0,16,15,18,19] 0<|sB .eql 20 2<|.ite 21
 (.ret [2])
 (sC 92 [0,16,15,18,19] 1<|sB .lss 22 18<|.ite 23
 (.ret [2])
 (sI 1114111<|sB .gtr 22 24<|.ite 25
 (.ret [2])
 (sI 55296<|sB .geq 22 26<|.ite 27
 (sI 57344<|sB .lss 22 28<|.ite 29
 (.ret [2])
 (.ret [16]))
 (.ret [16]))))))
 (sB .geq 5 13<|sI 248<|sB .lss 5 16<|.ite 17
 (sB .sub 5 13<|sI 4<|sB .lss 1 19<|.ite 20
 (.ret [2])
 (sI 65536<|sI 1<|sC 92 [0,19,18,21,22] 0<|sB .eql 23 2<|.ite 24
 (.ret [2])
 (sC 92 [0,19,18,21,22] 1<|sB .lss 25 21<|.ite 26
 (.ret [2])
 (sI 1114111<|sB .gtr 25 27<|.ite 28
 (.ret [2])
 (sI 55296<|sB .geq 25 29<|.ite 30
 (sI 57344<|sB .lss 25 31<|.ite 32
 (.ret [2])
 (.ret [19]))
 (.ret [19]))))))
 (.ret [2]))))
 (sI 224<|sB .geq 5 10<|.ite 11
 (sI 240<|sB .lss 5 12<|.ite 13
 (sB .sub 5 10<|sI 3<|sB .lss 1 15<|.ite 16
 (.ret [2])
 (sI 2048<|sI 1<|sC 92 [0,15,14,17,18] 0<|sB .eql 19 2<|.ite 20
 (.ret [2])
 (sC 92 [0,15,14,17,18] 1<|sB .lss 21 17<|.ite 22
 (.ret [2])
 (sI 1114111<|sB .gtr 21 23<|.ite 24
 (.ret [2])
 (sI 55296<|sB .geq 21 25<|.ite 26
 (sI 57344<|sB .lss 21 27<|.ite 28
 (.ret [2])
 (.ret [15]))
 (.ret [15]))))))
 (sB .geq 5 12<|sI 248<|sB .lss 5 15<|.ite 16
 (sB .sub 5 12<|sI 4<|sB .lss 1 18<|.ite 19
 (.ret [2])
 (sI 65536<|sI 1<|sC 92 [0,18,17,20,21] 0<|sB .eql 22 2<|.ite 23
 (.ret [2])
 (sC 92 [0,18,17,20,21] 1<|sB .lss 24 20<|.ite 25
 (.ret [2])
 (sI 1114111<|sB .gtr 24 26<|.ite 27
 (.ret [2])
 (sI 55296<|sB .geq 24 28<|.ite 29
 (sI 57344<|sB .lss 24 30<|.ite 31
 (.ret [2])
 (.ret [18]))
 (.ret [18]))))))
 (.ret [2])))
 (sI 240<|sB .geq 5 12<|.ite 13
 (sI 248<|sB .lss 5 14<|.ite 15
 (sB .sub 5 12<|sI 4<|sB .lss 1 17<|.ite 18
 (.ret [2])
 (sI 65536<|sI 1<|sC 92 [0,17,16,19,20] 0<|sB .eql 21 2<|.ite 22
 (.ret [2])
 (sC 92 [0,17,16,19,20] 1<|sB .lss 23 19<|.ite 24
 (.ret [2])
 (sI 1114111<|sB .gtr 23 25<|.ite 26
 (.ret [2])
 (sI 55296<|sB .geq 23 27<|.ite 28
 (sI 57344<|sB .lss 23 29<|.ite 30
 (.ret [2])
 (.ret [17]))
 (.ret [17]))))))
 (.ret [2]))
 (.ret [2])))))
def d63:aI:=.fn [.sc] [.sc]<|.step (.len 0)<|sI 0<|.step (.ml [])<|sC 64 [3,0,1,2] 0<|sC 64 [3,0,1,2] 1<|.ret [5]
def d5:aI:=.fn [.sc] [.sc]<|.step (.len 0)<|sI 0<|sC 6 [0,1,2] 0<|sB .eql 3 2<|.ite 4
 (.step (.cb false)<|.ret [5])
 (sI 300<|sB .leq 1 5<|.ret [6])
def aeQ:aI:=.fn [.ag 24,.ag 24] [.sc]<|sL 0 0<|sL 1 0<|sL 2 0<|sL 3 0<|sL 4 0<|sL 5 0<|sL 6 0<|
 sL 7 0<|sL 8 0<|sL 9 0<|sL 10 0<|sL 11 0<|sL 12 0<|sL 13 0<|sL 14 0<|sL 15 0<|sL 16 0<|
 sL 17 0<|sL 18 0<|sL 19 0<|sL 20 0<|sL 21 0<|sL 22 0<|sL 23 0<|sL 0 1<|sL 1 1<|
 sL 2 1<|sL 3 1<|sL 4 1<|sL 5 1<|sL 6 1<|sL 7 1<|sL 8 1<|sL 9 1<|sL 10 1<|sL 11 1<|
 sL 12 1<|sL 13 1<|sL 14 1<|sL 15 1<|sL 16 1<|sL 17 1<|sL 18 1<|sL 19 1<|sL 20 1<|
 sL 21 1<|sL 22 1<|sL 23 1<|sC 34 [2,3,4,5,6,7,8,9,10,11,12,13,14,15,16,17,18,19,20,21,22,23,24,25] 0<|sC 34 [2,3,4,5,6,7,8,9,10,11,12,13,14,15,16,17,18,19,20,21,22,23,24,25] 1<|
 sC 34 [26,27,28,29,30,31,32,33,34,35,36,37,38,39,40,41,42,43,44,45,46,47,48,49] 0<|sC 34 [26,27,28,29,30,31,32,33,34,35,36,37,38,39,40,41,42,43,44,45,46,47,48,49] 1<|
 sC 35 [] 0<|.step (.len 54)<|sI 0<|.step (.ml [])<|sC 117 [57,54,55,56,53,51,26,27,28,29,30,31,32,33,34,35,36,37,38,39,40,41,42,43,44,45,46,47,48,49,2,3,4,5,6,7,8,9,10,11,12,13,14,15,16,17,18,19,20,21,22,23,24,25] 0<|
 sC 117 [57,54,55,56,53,51,26,27,28,29,30,31,32,33,34,35,36,37,38,39,40,41,42,43,44,45,46,47,48,49,2,3,4,5,6,7,8,9,10,11,12,13,14,15,16,17,18,19,20,21,22,23,24,25] 1<|
 sB .neq 2 26<|.ite 60
 (sT [107,105,110,100]<|.step (.ml [61])<|.step (.app 1 16 59 62)<|sC 118 [25,49] 0<|.step (.un .not 64)<|.ite 65
 (sT [114,101,115,116]<|.step (.ml [66])<|.step (.app 1 16 63 67)<|.ret [68])
 (.ret [63]))
 (sC 118 [25,49] 0<|.step (.un .not 61)<|.ite 62
 (sT [114,101,115,116]<|.step (.ml [63])<|.step (.app 1 16 59 64)<|.ret [65])
 (.ret [59]))
def aeY:aI:=.fn [.sc,.sc] [.sc]<|.step (.len 0)<|.step (.len 1)<|sB .neq 2 3<|.ite 4
 (.step (.cb false)<|.ret [5])
 (sI 0<|sC 125 [0,1,2,5] 0<|sB .eql 6 5<|.ite 7
 (.step (.cb false)<|.ret [8])
 (.step (.cb true)<|.ret [8]))
def d22:aI:=.fn [.sc,.sc,.sc] [.sc]<|.step (.slen 0)<|sB .lss 3 1<|.ite 4
 (sI 13<|.ret [5])
 (sB .gtr 3 2<|.ite 5
 (sI 13<|.ret [6])
 (sC 23 [0] 0<|.step (.un .not 6)<|.ite 7
 (sI 11<|.ret [8])
 (sI 0<|.ret [8])))
def d41:aI:=.fn [.sc,.sc] [.sc]<|sI 0<|sC 42 [0,1,2] 0<|sC 42 [0,1,2] 1<|.ret [4]
def aeG:aI:=.fn [.sc] [.sc,.sc,.sc]<|sI 0<|sC 107 [0,1,1] 0<|sC 107 [0,1,1] 1<|sC 107 [0,1,1] 2<|sB .eql 4 1<|
 .ite 5
 (.step (.slen 3)<|sI 10<|sB .geq 6 7<|.ite 8
 (.step (.ci .u64 0)<|sI 3<|.ret [9,1,10])
 (.step (.ci .u64 0)<|sI 1<|.ret [9,1,10]))
 (sI 10<|sB .eql 4 6<|.ite 7
 (sI 9<|.step (.nC 3 8)<|.step (.ci .u8 1)<|sB .gtr 9 10<|.ite 11
 (.step (.ci .u64 0)<|sI 3<|.ret [12,1,13])
 (sI 1<|sB .gtr 4 12<|.ite 13
 (sB .sub 4 12<|.step (.nC 3 14)<|.step (.ci .u8 0)<|sB .eql 15 16<|.ite 17
 (.step (.ci .u64 0)<|sI 2<|.ret [18,1,19])
 (.step (.ci .u64 0)<|.step (.ci .u64 1)<|sC 108 [3,4,18,19,1] 0<|sC 108 [3,4,18,19,1] 1<|sC 108 [3,4,18,19,1] 2<|.ret [22,21,1]))
 (.step (.ci .u64 0)<|.step (.ci .u64 1)<|sC 108 [3,4,14,15,1] 0<|sC 108 [3,4,14,15,1] 1<|sC 108 [3,4,14,15,1] 2<|.ret [18,17,1])))
 (sI 1<|sB .gtr 4 8<|.ite 9
 (sB .sub 4 8<|.step (.nC 3 10)<|.step (.ci .u8 0)<|sB .eql 11 12<|.ite 13
 (.step (.ci .u64 0)<|sI 2<|.ret [14,1,15])
 (.step (.ci .u64 0)<|.step (.ci .u64 1)<|sC 108 [3,4,14,15,1] 0<|sC 108 [3,4,14,15,1] 1<|sC 108 [3,4,14,15,1] 2<|.ret [18,17,1]))
 (.step (.ci .u64 0)<|.step (.ci .u64 1)<|sC 108 [3,4,10,11,1] 0<|sC 108 [3,4,10,11,1] 1<|sC 108 [3,4,10,11,1] 2<|.ret [14,13,1])))
def d97:aI:=.fn [.sc,.sc] [.sc]<|sT []<|.step (.mk [0,2])<|.step (.mk [1,2])<|sC 94 [3,4] 0<|sI 0<|sB .lss 5 6<|.ret [7]
def aeB:aI:=.fn [.sc,.sc] [.sc]<|sI 0<|sC 102 [0,1,2] 0<|sB .eql 3 2<|.ite 4
 (sC 102 [0,1,2] 1<|.ret [5])
 (.step (.slen 0)<|.step (.slen 1)<|.step (.mm false 5 6)<|.ret [7])
def d7:aI:=.fn [.sc] [.sc]<|.step (.len 0)<|.step (.conv .u64 1)<|sC 8 [2] 0<|.step (.bytes 3)<|.step (.ml [])<|.step (.app 1 1 5 4)<|.step (.slen 3)<|sI 0<|
 sC 12 [0,1,8,6] 0<|sC 12 [0,1,8,6] 1<|.step (.len 10)<|.step (.str 10)<|.ret [12]
def d67:aI:=.fn [.ag 24,.ag 24,.sc] [.ag 24,.sc]<|sL 0 0<|sL 1 0<|sL 2 0<|sL 3 0<|sL 4 0<|sL 5 0<|sL 6 0<|
 sL 7 0<|sL 8 0<|sL 9 0<|sL 10 0<|sL 11 0<|sL 12 0<|sL 13 0<|sL 14 0<|sL 15 0<|sL 16 0<|
 sL 17 0<|sL 18 0<|sL 19 0<|sL 20 0<|sL 21 0<|sL 22 0<|sL 23 0<|sL 0 1<|sL 1 1<|
 sL 2 1<|sL 3 1<|sL 4 1<|sL 5 1<|sL 6 1<|sL 7 1<|sL 8 1<|sL 9 1<|sL 10 1<|sL 11 1<|
 sL 12 1<|sL 13 1<|sL 14 1<|sL 15 1<|sL 16 1<|sL 17 1<|sL 18 1<|sL 19 1<|sL 20 1<|
 sL 21 1<|sL 22 1<|sL 23 1<|.step (.len 2)<|sI 0<|sC 68 [2,51,52,27,28,29,30,31,32,33,34,35,36,37,38,39,40,41,42,43,44,45,46,47,48,49,50,3,4,5,6,7,8,9,10,11,12,13,14,15,16,17,18,19,20,21,22,23,24,25,26] 0<|
 sB .eql 53 52<|.ite 54
 (sC 68 [2,51,52,27,28,29,30,31,32,33,34,35,36,37,38,39,40,41,42,43,44,45,46,47,48,49,50,3,4,5,6,7,8,9,10,11,12,13,14,15,16,17,18,19,20,21,22,23,24,25,26] 1<|
 .step (.ci .u64 0)<|.step (.cb false)<|sT []<|.step (.ml [])<|.step (.mk [52,56,56,56,56,56,56,56,56,56,56,56,56,56,56,56,52,57,58,58,58,59,59,59])<|
 .ret [60,55])
 (acn 68 [2,51,52,27,28,29,30,31,32,33,34,35,36,37,38,39,40,41,42,43,44,45,46,47,48,49,50,3,4,5,6,7,8,9,10,11,12,13,14,15,16,17,18,19,20,21,22,23,24,25,26]<|
 .step (.mk [55,56,57,58,59,60,61,62,63,64,65,66,67,68,69,70,71,72,73,74,75,76,77,78])<|.ret [79,52])
abbrev d33:aI:=.vN E9
def aeF:aI:=.fn [.sc] [.sc,.sc,.sc]<|sC 106 [0] 0<|sC 106 [0] 1<|sC 106 [0] 2<|sI 0<|sB .eql 3 4<|.ite 5
 (.step (.ci .u64 0)<|sB .eql 1 6<|.ite 7
 (.step (.ml [])<|sT []<|sI 12<|.ret [8,9,10])
 (.step (.ci .u64 16)<|sB .gtr 1 8<|.ite 9
 (.step (.ml [])<|sT []<|sI 13<|.ret [10,11,12])
 (.step (.slen 0)<|.step (.jc 0 2 10)<|.step (.ml [])<|sC 109 [11,1,12,6] 0<|sB .eql 13 4<|.ite 14
 (sC 109 [11,1,12,6] 1<|sT []<|.ret [12,16,15])
 (sC 109 [11,1,12,6] 1<|sC 109 [11,1,12,6] 2<|.ret [16,15,4]))))
 (sB .neq 3 4<|.step (.ml [])<|sT []<|.ret [7,8,3])
def d18:aI:=.fn [.ag 2] [.sc]<|sL 0 0<|sL 1 0<|sC 19 [1] 0<|sI 0<|sB .neq 3 4<|.ite 5
 (.ret [3])
 (.step (.ci .u64 0)<|sB .eql 2 6<|.ite 7
 (sI 18<|.ret [8])
 (.ret [4]))
def d76:aI:=.fn [.sc] [.sc]<|.step (.len 0)<|.step (.conv .u64 1)<|sC 77 [2] 0<|sI 0<|sC 79 [3,0,1,4] 0<|sC 79 [3,0,1,4] 1<|
 .ret [6]
def d46:aI:=.fn [.sc] [.sc]<|sI 0<|sB .eql 0 1<|.ite 2
 (.ret [1])
 (sI 1<|sB .eql 0 3<|.ite 4
 (.ret [1])
 (sI 2<|sB .eql 0 5<|.ite 6
 (.ret [1])
 (sI 3<|sB .eql 0 7<|.ite 8
 (.ret [3])
 (sI 4<|sB .eql 0 9<|.ite 10
 (.ret [3])
 (sI 5<|sB .eql 0 11<|.ite 12
 (.ret [3])
 (sI (-1)<|.ret [13]))))))
def d37:aI:=.fn [.ag 24,.sc] [.ag 5,.sc]<|sL 0 0<|sL 1 0<|sL 2 0<|sL 3 0<|sL 4 0<|sL 5 0<|sL 6 0<|
 sL 7 0<|sL 8 0<|sL 9 0<|sL 10 0<|sL 11 0<|sL 12 0<|sL 13 0<|sL 14 0<|sL 15 0<|sL 16 0<|
 sL 17 0<|sL 18 0<|sL 19 0<|sL 20 0<|sL 21 0<|sL 22 0<|sL 23 0<|sT [114,101,109,97,105,110,105,110,103]<|
 sB .eql 1 26<|.ite 27
 (.step (.conv .u64 18)<|.step (.ci .u64 1)<|sB .shl 28 29<|.step (.ci .u64 63)<|sB .shr 18 31<|.step (.conv .u64 32)<|sB .xor 30 33<|.step (.ci .u64 0)<|
 sI 0<|sT []<|.step (.ml [])<|.step (.cb true)<|.step (.mk [35,36,34,37,38])<|.ret [40,39])
 (sT [97,108,108,111,119,101,100]<|sB .eql 1 28<|.ite 29
 (.ite 19
 (.step (.ci .u64 0)<|sI 0<|.step (.ci .u64 1)<|sT []<|.step (.ml [])<|.step (.cb true)<|.step (.mk [30,31,32,33,34])<|.ret [36,35])
 (.step (.ci .u64 0)<|sI 0<|sT []<|.step (.ml [])<|.step (.cb true)<|.step (.mk [30,31,30,32,33])<|.ret [35,34]))
 (sT [110,97,109,101]<|sB .eql 1 30<|.ite 31
 (.step (.ci .u64 0)<|sI 1<|.step (.ml [])<|.step (.cb true)<|.step (.mk [32,33,32,20,34])<|.ret [36,35])
 (sT [114,101,103,105,111,110]<|sB .eql 1 32<|.ite 33
 (.step (.ci .u64 0)<|sI 1<|.step (.ml [])<|.step (.cb true)<|.step (.mk [34,35,34,21,36])<|.ret [38,37])
 (sT [110,111,116,101]<|sB .eql 1 34<|.ite 35
 (.step (.ci .u64 0)<|sI 1<|.step (.ml [])<|.step (.cb true)<|.step (.mk [36,37,36,22,38])<|.ret [40,39])
 (sT [100,101,115,99,114]<|sB .eql 1 36<|.ite 37
 (.step (.len 23)<|sI 0<|sB .eql 38 39<|.ite 40
 (.step (.ci .u64 0)<|sI 1<|sT []<|.step (.ml [])<|.step (.cb true)<|.step (.mk [41,42,41,43,44])<|.ret [46,45])
 (sC 7 [23] 0<|.step (.ci .u64 0)<|sI 1<|.step (.ml [])<|.step (.cb true)<|.step (.mk [42,43,42,41,44])<|.ret [46,45]))
 (sT [116,97,98,108,101]<|sB .eql 1 38<|.ite 39
 (.step (.len 24)<|sI 0<|sB .eql 40 41<|.ite 42
 (.step (.ci .u64 0)<|sI 1<|sT []<|.step (.ml [])<|.step (.cb true)<|.step (.mk [43,44,43,45,46])<|.ret [48,47])
 (sC 38 [24] 0<|sC 38 [24] 1<|.step (.ci .u64 0)<|sI 1<|.step (.ml [])<|.step (.cb true)<|.step (.mk [45,46,45,43,47])<|.ret [49,48]))
 (sT [105,100]<|sB .eql 1 40<|.ite 41
 (.step (.ci .u64 0)<|sI 0<|sT []<|.step (.ml [])<|.step (.cb true)<|.step (.mk [42,43,3,44,45])<|.ret [47,46])
 (sT [109,105,110]<|sB .eql 1 42<|.ite 43
 (.step (.ci .u64 0)<|sI 0<|sT []<|.step (.ml [])<|.step (.cb true)<|.step (.mk [44,45,4,46,47])<|.ret [49,48])
 (sT [109,97,120]<|sB .eql 1 44<|.ite 45
 (.step (.ci .u64 0)<|sI 0<|sT []<|.step (.ml [])<|.step (.cb true)<|.step (.mk [46,47,5,48,49])<|.ret [51,50])
 (sT [99,104,111,115,101,110]<|sB .eql 1 46<|.ite 47
 (.step (.ci .u64 0)<|sI 0<|sT []<|.step (.ml [])<|.step (.cb true)<|.step (.mk [48,49,6,50,51])<|.ret [53,52])
 (sT [102,108,97,103,115]<|sB .eql 1 48<|.ite 49
 (.step (.ci .u64 0)<|sI 0<|sT []<|.step (.ml [])<|.step (.cb true)<|.step (.mk [50,51,7,52,53])<|.ret [55,54])
 (sT [99,111,115,116]<|sB .eql 1 50<|.ite 51
 (.step (.ci .u64 0)<|sI 0<|sT []<|.step (.ml [])<|.step (.cb true)<|.step (.mk [52,53,8,54,55])<|.ret [57,56])
 (sT [112,114,105,111,114,105,116,121]<|sB .eql 1 52<|.ite 53
 (.step (.ci .u64 0)<|sI 0<|sT []<|.step (.ml [])<|.step (.cb true)<|.step (.mk [54,55,9,56,57])<|.ret [59,58])
 (sT [100,101,97,100,108,105,110,101]<|sB .eql 1 54<|.ite 55
 (.step (.ci .u64 0)<|sI 0<|sT []<|.step (.ml [])<|.step (.cb true)<|.step (.mk [56,57,10,58,59])<|.ret [61,60])
 (sT [114,101,116,114,121]<|sB .eql 1 56<|.ite 57
 (.step (.ci .u64 0)<|sI 0<|sT []<|.step (.ml [])<|.step (.cb true)<|.step (.mk [58,59,11,60,61])<|.ret [63,62])
 (sT [101,112,111,99,104]<|sB .eql 1 58<|.ite 59
 (.step (.ci .u64 0)<|sI 0<|sT []<|.step (.ml [])<|.step (.cb true)<|.step (.mk [60,61,12,62,63])<|.ret [65,64])
 (sT [98,97,115,101]<|sB .eql 1 60<|.ite 61
 (.step (.ci .u64 0)<|sI 0<|sT []<|.step (.ml [])<|.step (.cb true)<|.step (.mk [62,63,13,64,65])<|.ret [67,66])
 (sT [100,105,103,101,115,116]<|sB .eql 1 62<|.ite 63
 (.step (.ci .u64 0)<|sI 0<|sT []<|.step (.ml [])<|.step (.cb true)<|.step (.mk [64,65,14,66,67])<|.ret [69,68])
 (sT [108,97,103]<|sB .eql 1 64<|.ite 65
 (.step (.ci .u64 0)<|sI 0<|sT []<|.step (.ml [])<|.step (.cb true)<|.step (.mk [66,67,15,68,69])<|.ret [71,70])
 (sT [99,111,100,101]<|sB .eql 1 66<|.ite 67
 (.step (.ci .u64 0)<|sI 0<|sT []<|.step (.ml [])<|.step (.cb true)<|.step (.mk [68,69,16,70,71])<|.ret [73,72])
 (sT [119,97,110,116]<|sB .eql 1 68<|.ite 69
 (.step (.ci .u64 0)<|sI 0<|sT []<|.step (.ml [])<|.step (.cb true)<|.step (.mk [70,71,17,72,73])<|.ret [75,74])
 (.step (.ci .u64 0)<|sI 0<|sT []<|.step (.ml [])<|.step (.cb false)<|.step (.mk [70,71,70,72,73])<|.ret [75,74]))))))))))))))))))))))
def ae4:aI:=.fn [.sc,.sc] [.sc]<|.step (.len 0)<|.step (.len 1)<|sB .neq 2 3<|.ite 4
 (.step (.cb false)<|.ret [5])
 (sI 0<|sC 131 [0,1,2,5] 0<|sB .eql 6 5<|.ite 7
 (.step (.cb false)<|.ret [8])
 (.step (.cb true)<|.ret [8]))
def d30:aI:=.fn [.ag 24] [.ag 24]<|sL 0 0<|sL 1 0<|sL 2 0<|sL 3 0<|sL 4 0<|sL 5 0<|sL 6 0<|sL 7 0<|
 sL 8 0<|sL 9 0<|sL 10 0<|sL 11 0<|sL 12 0<|sL 13 0<|sL 14 0<|sL 15 0<|sL 16 0<|
 sL 17 0<|sL 18 0<|sL 19 0<|sL 20 0<|sL 21 0<|sL 22 0<|sL 23 0<|sC 31 [22] 0<|.step (.len 23)<|
 .step (.ml [])<|.step (.ci .u64 0)<|.step (.mk [27,28])<|sI 0<|.step (.rep 2 32 29 30 26)<|sC 32 [31,23,26,30,1,2,3,4,5,6,7,8,9,10,11,12,13,14,15,16,17,18,19,20,21,25,24] 0<|
 sC 32 [31,23,26,30,1,2,3,4,5,6,7,8,9,10,11,12,13,14,15,16,17,18,19,20,21,25,24] 1<|sC 33 [24] 0<|.step (.mk [1,2,3,4,5,6,7,8,9,10,11,12,13,14,15,16,17,18,19,20,21,25,33,34])<|
 .ret [35]
def d47:aI:=.fn [.sc] [.sc,.sc]<|sI 0<|uO 48 [0,1]<|
 sB .neq 4 1<|.ite 7
 (.step (.ml [])<|.ret [8,4])
 (.step (.slen 5)<|sB .sub 8 6<|sB .gtr 9 1<|.ite 10
 (.step (.ml [])<|sI 10<|.ret [11,12])
 (.ret [3,1]))
def d74:aI:=.fn [.ag 24,.sc] [.sc]<|sL 0 0<|sL 1 0<|sL 2 0<|sL 3 0<|sL 4 0<|sL 5 0<|sL 6 0<|sL 7 0<|
 sL 8 0<|sL 9 0<|sL 10 0<|sL 11 0<|sL 12 0<|sL 13 0<|sL 14 0<|sL 15 0<|sL 16 0<|
 sL 17 0<|sL 18 0<|sL 19 0<|sL 20 0<|sL 21 0<|sL 22 0<|sL 23 0<|sT [105,100]<|sB .eql 1 26<|
 .ite 27
 (.ret [3])
 (sT [109,105,110]<|sB .eql 1 28<|.ite 29
 (.ret [4])
 (sT [109,97,120]<|sB .eql 1 30<|.ite 31
 (.ret [5])
 (sT [99,104,111,115,101,110]<|sB .eql 1 32<|.ite 33
 (.ret [6])
 (sT [102,108,97,103,115]<|sB .eql 1 34<|.ite 35
 (.ret [7])
 (sT [99,111,115,116]<|sB .eql 1 36<|.ite 37
 (.ret [8])
 (sT [112,114,105,111,114,105,116,121]<|sB .eql 1 38<|.ite 39
 (.ret [9])
 (sT [100,101,97,100,108,105,110,101]<|sB .eql 1 40<|.ite 41
 (.ret [10])
 (sT [114,101,116,114,121]<|sB .eql 1 42<|.ite 43
 (.ret [11])
 (sT [101,112,111,99,104]<|sB .eql 1 44<|.ite 45
 (.ret [12])
 (sT [98,97,115,101]<|sB .eql 1 46<|.ite 47
 (.ret [13])
 (sT [100,105,103,101,115,116]<|sB .eql 1 48<|.ite 49
 (.ret [14])
 (sT [108,97,103]<|sB .eql 1 50<|.ite 51
 (.ret [15])
 (sT [99,111,100,101]<|sB .eql 1 52<|.ite 53
 (.ret [16])
 (.ret [17]))))))))))))))
def aeS:aI:=.fn [.sc,.sc] [.sc]<|.step (.mk [0,1])<|.step (.ml [2])<|sC 119 [3] 0<|sI 0<|sB .eql 4 5<|.ite 6
 (.step (.cb false)<|.ret [7])
 (.step (.cb true)<|.ret [7])
def d60:aI:=.fn [.ag 24] [.ag 24]<|sL 0 0<|sL 1 0<|sL 2 0<|sL 3 0<|sL 4 0<|sL 5 0<|sL 6 0<|sL 7 0<|
 sL 8 0<|sL 9 0<|sL 10 0<|sL 11 0<|sL 12 0<|sL 13 0<|sL 14 0<|sL 15 0<|sL 16 0<|
 sL 17 0<|sL 18 0<|sL 19 0<|sL 20 0<|sL 21 0<|sL 22 0<|sL 23 0<|sC 61 [22] 0<|sC 63 [23] 0<|
 sC 65 [24] 0<|.step (.mk [1,2,3,4,5,6,7,8,9,10,11,12,13,14,15,16,17,18,19,20,21,25,26,27])<|.ret [28]
def aeD:aI:=.fn [.ag 24,.sc,.sc,.sc,.sc] [.ag 24,.sc]<|sL 0 0<|sL 1 0<|sL 2 0<|sL 3 0<|sL 4 0<|sL 5 0<|
 sL 6 0<|sL 7 0<|sL 8 0<|sL 9 0<|sL 10 0<|sL 11 0<|sL 12 0<|sL 13 0<|sL 14 0<|sL 15 0<|
 sL 16 0<|sL 17 0<|sL 18 0<|sL 19 0<|sL 20 0<|sL 21 0<|sL 22 0<|sL 23 0<|sC 69 [1] 0<|
 sI 0<|sB .lss 29 30<|.ite 31
 (.step (.ci .u64 0)<|.step (.cb false)<|sT []<|.step (.ml [])<|sI 26<|.step (.mk [30,32,32,32,32,32,32,32,32,32,32,32,32,32,32,32,30,33,34,34,34,35,35,35])<|
 .ret [37,36])
 (sI 3<|sB .quo 29 32<|sB .neq 2 33<|.ite 34
 (.step (.ci .u64 0)<|.step (.cb false)<|sT []<|.step (.ml [])<|sI 8<|.step (.mk [30,35,35,35,35,35,35,35,35,35,35,35,35,35,35,35,30,36,37,37,37,38,38,38])<|
 .ret [40,39])
 (sB .eql 2 30<|.ite 35
 (.step (.ci .u64 0)<|sB .eql 3 36<|.ite 37
 (.step (.cb false)<|sT []<|.step (.ml [])<|sI 17<|.step (.mk [30,36,36,36,36,36,36,36,36,36,36,36,36,36,36,36,30,38,39,39,39,40,40,40])<|
 .ret [42,41])
 (sI 1<|sB .eql 2 38<|sB .eql 29 30<|.ite 40
 (sT [105,100]<|sB .eql 1 41<|.ite 42
 (.step (.mk [5,3,7,8,9,10,11,12,13,14,15,16,17,18,19,20,21,22,23,24,25,26,27,28])<|.ret [43,30])
 (sT [109,105,110]<|sB .eql 1 43<|.ite 44
 (.step (.mk [5,6,3,8,9,10,11,12,13,14,15,16,17,18,19,20,21,22,23,24,25,26,27,28])<|.ret [45,30])
 (sT [109,97,120]<|sB .eql 1 45<|.ite 46
 (.step (.mk [5,6,7,3,9,10,11,12,13,14,15,16,17,18,19,20,21,22,23,24,25,26,27,28])<|.ret [47,30])
 (sT [99,104,111,115,101,110]<|sB .eql 1 47<|.ite 48
 (.step (.mk [5,6,7,8,3,10,11,12,13,14,15,16,17,18,19,20,21,22,23,24,25,26,27,28])<|.ret [49,30])
 (sT [102,108,97,103,115]<|sB .eql 1 49<|.ite 50
 (.step (.mk [5,6,7,8,9,3,11,12,13,14,15,16,17,18,19,20,21,22,23,24,25,26,27,28])<|.ret [51,30])
 (sT [99,111,115,116]<|sB .eql 1 51<|.ite 52
 (.step (.mk [5,6,7,8,9,10,3,12,13,14,15,16,17,18,19,20,21,22,23,24,25,26,27,28])<|.ret [53,30])
 (sT [112,114,105,111,114,105,116,121]<|sB .eql 1 53<|.ite 54
 (.step (.mk [5,6,7,8,9,10,11,3,13,14,15,16,17,18,19,20,21,22,23,24,25,26,27,28])<|.ret [55,30])
 (sT [100,101,97,100,108,105,110,101]<|sB .eql 1 55<|.ite 56
 (.step (.mk [5,6,7,8,9,10,11,12,3,14,15,16,17,18,19,20,21,22,23,24,25,26,27,28])<|.ret [57,30])
 (sT [114,101,116,114,121]<|sB .eql 1 57<|.ite 58
 (.step (.mk [5,6,7,8,9,10,11,12,13,3,15,16,17,18,19,20,21,22,23,24,25,26,27,28])<|.ret [59,30])
 (sT [101,112,111,99,104]<|sB .eql 1 59<|.ite 60
 (.step (.mk [5,6,7,8,9,10,11,12,13,14,3,16,17,18,19,20,21,22,23,24,25,26,27,28])<|.ret [61,30])
 (sT [98,97,115,101]<|sB .eql 1 61<|.ite 62
 (.step (.mk [5,6,7,8,9,10,11,12,13,14,15,3,17,18,19,20,21,22,23,24,25,26,27,28])<|.ret [63,30])
 (sT [100,105,103,101,115,116]<|sB .eql 1 63<|.ite 64
 (.step (.mk [5,6,7,8,9,10,11,12,13,14,15,16,3,18,19,20,21,22,23,24,25,26,27,28])<|.ret [65,30])
 (sT [108,97,103]<|sB .eql 1 65<|.ite 66
 (.step (.mk [5,6,7,8,9,10,11,12,13,14,15,16,17,3,19,20,21,22,23,24,25,26,27,28])<|.ret [67,30])
 (sT [99,111,100,101]<|sB .eql 1 67<|.ite 68
 (.step (.mk [5,6,7,8,9,10,11,12,13,14,15,16,17,18,3,20,21,22,23,24,25,26,27,28])<|.ret [69,30])
 (.step (.mk [5,6,7,8,9,10,11,12,13,14,15,16,17,18,19,3,21,22,23,24,25,26,27,28])<|.ret [69,30])))))))))))))))
 (sB .eql 29 38<|.ite 41
 (.step (.ci .u64 1)<|sB .neq 3 42<|.ite 43
 (.step (.cb false)<|sT []<|.step (.ml [])<|sI 18<|.step (.mk [30,36,36,36,36,36,36,36,36,36,36,36,36,36,36,36,30,44,45,45,45,46,46,46])<|
 .ret [48,47])
 (.step (.cb true)<|.step (.mk [5,6,7,8,9,10,11,12,13,14,15,16,17,18,19,20,21,44,23,24,25,26,27,28])<|.ret [45,30]))
 (sI 2<|sB .eql 29 42<|.ite 43
 (.step (.ci .u64 2)<|sB .rem 3 44<|sB .eql 45 36<|.ite 46
 (sB .quo 3 44<|.step (.conv .i64 47)<|.step (.mk [5,6,7,8,9,10,11,12,13,14,15,16,17,18,19,20,48,22,23,24,25,26,27,28])<|.ret [49,30])
 (sB .quo 3 44<|.step (.conv .i64 47)<|sB .sub 30 48<|sB .sub 49 38<|.step (.mk [5,6,7,8,9,10,11,12,13,14,15,16,17,18,19,20,50,22,23,24,25,26,27,28])<|
 .ret [51,30]))
 (sB .eql 29 32<|.ite 44
 (sI 256<|sC 88 [4,30,45] 0<|sT [110,97,109,101]<|sB .eql 1 47<|.ite 48
 (sB .neq 46 30<|.ite 49
 (.step (.cb false)<|sT []<|.step (.ml [])<|.step (.mk [30,36,36,36,36,36,36,36,36,36,36,36,36,36,36,36,30,50,51,51,51,52,52,52])<|.ret [53,46])
 (.step (.mk [5,6,7,8,9,10,11,12,13,14,15,16,17,18,19,20,21,22,4,24,25,26,27,28])<|.ret [50,30]))
 (sT [114,101,103,105,111,110]<|sB .eql 1 49<|.ite 50
 (sB .neq 46 30<|.ite 51
 (.step (.cb false)<|sT []<|.step (.ml [])<|.step (.mk [30,36,36,36,36,36,36,36,36,36,36,36,36,36,36,36,30,52,53,53,53,54,54,54])<|.ret [55,46])
 (.step (.mk [5,6,7,8,9,10,11,12,13,14,15,16,17,18,19,20,21,22,23,4,25,26,27,28])<|.ret [52,30]))
 (sB .neq 46 30<|.ite 51
 (.step (.cb false)<|sT []<|.step (.ml [])<|.step (.mk [30,36,36,36,36,36,36,36,36,36,36,36,36,36,36,36,30,52,53,53,53,54,54,54])<|.ret [55,46])
 (.step (.mk [5,6,7,8,9,10,11,12,13,14,15,16,17,18,19,20,21,22,23,24,4,26,27,28])<|.ret [52,30]))))
 (sI 4<|sB .eql 29 45<|.ite 46
 (sC 104 [4] 0<|sC 104 [4] 1<|sB .neq 48 30<|.ite 49
 (.step (.cb false)<|sT []<|.step (.ml [])<|.step (.mk [30,36,36,36,36,36,36,36,36,36,36,36,36,36,36,36,30,50,51,51,51,52,52,52])<|.ret [53,48])
 (.step (.mk [5,6,7,8,9,10,11,12,13,14,15,16,17,18,19,20,21,22,23,24,25,47,27,28])<|.ret [50,30]))
 (sC 112 [4] 0<|sC 112 [4] 1<|sB .eql 48 30<|.ite 49
 (.step (.len 47)<|sB .eql 50 30<|.ite 51
 (.step (.cb false)<|sT []<|.step (.ml [])<|sI 17<|.step (.mk [30,36,36,36,36,36,36,36,36,36,36,36,36,36,36,36,30,52,53,53,53,54,54,54])<|
 .ret [56,55])
 (sB .neq 48 30<|.step (.mk [5,6,7,8,9,10,11,12,13,14,15,16,17,18,19,20,21,22,23,24,25,26,47,28])<|.ret [53,30]))
 (sB .neq 48 30<|.step (.cb false)<|sT []<|.step (.ml [])<|.step (.mk [30,36,36,36,36,36,36,36,36,36,36,36,36,36,36,36,30,51,52,52,52,53,53,53])<|
 .ret [54,48]))))))))
 (sI 1<|sB .eql 2 36<|.ite 37
 (sT []<|sB .eql 4 38<|.ite 39
 (.step (.ci .u64 0)<|.step (.cb false)<|.step (.ml [])<|sI 17<|.step (.mk [30,40,40,40,40,40,40,40,40,40,40,40,40,40,40,40,30,41,38,38,38,42,42,42])<|
 .ret [44,43])
 (sB .eql 29 30<|.ite 40
 (sT [105,100]<|sB .eql 1 41<|.ite 42
 (.step (.mk [5,3,7,8,9,10,11,12,13,14,15,16,17,18,19,20,21,22,23,24,25,26,27,28])<|.ret [43,30])
 (sT [109,105,110]<|sB .eql 1 43<|.ite 44
 (.step (.mk [5,6,3,8,9,10,11,12,13,14,15,16,17,18,19,20,21,22,23,24,25,26,27,28])<|.ret [45,30])
 (sT [109,97,120]<|sB .eql 1 45<|.ite 46
 (.step (.mk [5,6,7,3,9,10,11,12,13,14,15,16,17,18,19,20,21,22,23,24,25,26,27,28])<|.ret [47,30])
 (sT [99,104,111,115,101,110]<|sB .eql 1 47<|.ite 48
 (.step (.mk [5,6,7,8,3,10,11,12,13,14,15,16,17,18,19,20,21,22,23,24,25,26,27,28])<|.ret [49,30])
 (sT [102,108,97,103,115]<|sB .eql 1 49<|.ite 50
 (.step (.mk [5,6,7,8,9,3,11,12,13,14,15,16,17,18,19,20,21,22,23,24,25,26,27,28])<|.ret [51,30])
 (sT [99,111,115,116]<|sB .eql 1 51<|.ite 52
 (.step (.mk [5,6,7,8,9,10,3,12,13,14,15,16,17,18,19,20,21,22,23,24,25,26,27,28])<|.ret [53,30])
 (sT [112,114,105,111,114,105,116,121]<|sB .eql 1 53<|.ite 54
 (.step (.mk [5,6,7,8,9,10,11,3,13,14,15,16,17,18,19,20,21,22,23,24,25,26,27,28])<|.ret [55,30])
 (sT [100,101,97,100,108,105,110,101]<|sB .eql 1 55<|.ite 56
 (.step (.mk [5,6,7,8,9,10,11,12,3,14,15,16,17,18,19,20,21,22,23,24,25,26,27,28])<|.ret [57,30])
 (sT [114,101,116,114,121]<|sB .eql 1 57<|.ite 58
 (.step (.mk [5,6,7,8,9,10,11,12,13,3,15,16,17,18,19,20,21,22,23,24,25,26,27,28])<|.ret [59,30])
 (sT [101,112,111,99,104]<|sB .eql 1 59<|.ite 60
 (.step (.mk [5,6,7,8,9,10,11,12,13,14,3,16,17,18,19,20,21,22,23,24,25,26,27,28])<|.ret [61,30])
 (sT [98,97,115,101]<|sB .eql 1 61<|.ite 62
 (.step (.mk [5,6,7,8,9,10,11,12,13,14,15,3,17,18,19,20,21,22,23,24,25,26,27,28])<|.ret [63,30])
 (sT [100,105,103,101,115,116]<|sB .eql 1 63<|.ite 64
 (.step (.mk [5,6,7,8,9,10,11,12,13,14,15,16,3,18,19,20,21,22,23,24,25,26,27,28])<|.ret [65,30])
 (sT [108,97,103]<|sB .eql 1 65<|.ite 66
 (.step (.mk [5,6,7,8,9,10,11,12,13,14,15,16,17,3,19,20,21,22,23,24,25,26,27,28])<|.ret [67,30])
 (sT [99,111,100,101]<|sB .eql 1 67<|.ite 68
 (.step (.mk [5,6,7,8,9,10,11,12,13,14,15,16,17,18,3,20,21,22,23,24,25,26,27,28])<|.ret [69,30])
 (.step (.mk [5,6,7,8,9,10,11,12,13,14,15,16,17,18,19,3,21,22,23,24,25,26,27,28])<|.ret [69,30])))))))))))))))
 (sB .eql 29 36<|.ite 41
 (.step (.ci .u64 1)<|sB .neq 3 42<|.ite 43
 (.step (.ci .u64 0)<|.step (.cb false)<|.step (.ml [])<|sI 18<|.step (.mk [30,44,44,44,44,44,44,44,44,44,44,44,44,44,44,44,30,45,38,38,38,46,46,46])<|
 .ret [48,47])
 (.step (.cb true)<|.step (.mk [5,6,7,8,9,10,11,12,13,14,15,16,17,18,19,20,21,44,23,24,25,26,27,28])<|.ret [45,30]))
 (sI 2<|sB .eql 29 42<|.ite 43
 (.step (.ci .u64 2)<|sB .rem 3 44<|.step (.ci .u64 0)<|sB .eql 45 46<|.ite 47
 (sB .quo 3 44<|.step (.conv .i64 48)<|.step (.mk [5,6,7,8,9,10,11,12,13,14,15,16,17,18,19,20,49,22,23,24,25,26,27,28])<|.ret [50,30])
 (sB .quo 3 44<|.step (.conv .i64 48)<|sB .sub 30 49<|sB .sub 50 36<|.step (.mk [5,6,7,8,9,10,11,12,13,14,15,16,17,18,19,20,51,22,23,24,25,26,27,28])<|
 .ret [52,30]))
 (sB .eql 29 32<|.ite 44
 (sI 256<|sC 88 [4,30,45] 0<|sT [110,97,109,101]<|sB .eql 1 47<|.ite 48
 (sB .neq 46 30<|.ite 49
 (.step (.ci .u64 0)<|.step (.cb false)<|.step (.ml [])<|.step (.mk [30,50,50,50,50,50,50,50,50,50,50,50,50,50,50,50,30,51,38,38,38,52,52,52])<|.ret [53,46])
 (.step (.mk [5,6,7,8,9,10,11,12,13,14,15,16,17,18,19,20,21,22,4,24,25,26,27,28])<|.ret [50,30]))
 (sT [114,101,103,105,111,110]<|sB .eql 1 49<|.ite 50
 (sB .neq 46 30<|.ite 51
 (.step (.ci .u64 0)<|.step (.cb false)<|.step (.ml [])<|.step (.mk [30,52,52,52,52,52,52,52,52,52,52,52,52,52,52,52,30,53,38,38,38,54,54,54])<|.ret [55,46])
 (.step (.mk [5,6,7,8,9,10,11,12,13,14,15,16,17,18,19,20,21,22,23,4,25,26,27,28])<|.ret [52,30]))
 (sB .neq 46 30<|.ite 51
 (.step (.ci .u64 0)<|.step (.cb false)<|.step (.ml [])<|.step (.mk [30,52,52,52,52,52,52,52,52,52,52,52,52,52,52,52,30,53,38,38,38,54,54,54])<|.ret [55,46])
 (.step (.mk [5,6,7,8,9,10,11,12,13,14,15,16,17,18,19,20,21,22,23,24,4,26,27,28])<|.ret [52,30]))))
 (sI 4<|sB .eql 29 45<|.ite 46
 (sC 104 [4] 0<|sC 104 [4] 1<|sB .neq 48 30<|.ite 49
 (.step (.ci .u64 0)<|.step (.cb false)<|.step (.ml [])<|.step (.mk [30,50,50,50,50,50,50,50,50,50,50,50,50,50,50,50,30,51,38,38,38,52,52,52])<|.ret [53,48])
 (.step (.mk [5,6,7,8,9,10,11,12,13,14,15,16,17,18,19,20,21,22,23,24,25,47,27,28])<|.ret [50,30]))
 (sC 112 [4] 0<|sC 112 [4] 1<|sB .eql 48 30<|.ite 49
 (.step (.len 47)<|sB .eql 50 30<|.ite 51
 (.step (.ci .u64 0)<|.step (.cb false)<|.step (.ml [])<|sI 17<|.step (.mk [30,52,52,52,52,52,52,52,52,52,52,52,52,52,52,52,30,53,38,38,38,54,54,54])<|
 .ret [56,55])
 (sB .neq 48 30<|.step (.mk [5,6,7,8,9,10,11,12,13,14,15,16,17,18,19,20,21,22,23,24,25,26,47,28])<|.ret [53,30]))
 (sB .neq 48 30<|.step (.ci .u64 0)<|.step (.cb false)<|.step (.ml [])<|.step (.mk [30,51,51,51,51,51,51,51,51,51,51,51,51,51,51,51,30,52,38,38,38,53,53,53])<|
 .ret [54,48]))))))))
 (sB .eql 29 30<|.ite 38
 (sT [105,100]<|sB .eql 1 39<|.ite 40
 (.step (.mk [5,3,7,8,9,10,11,12,13,14,15,16,17,18,19,20,21,22,23,24,25,26,27,28])<|.ret [41,30])
 (sT [109,105,110]<|sB .eql 1 41<|.ite 42
 (.step (.mk [5,6,3,8,9,10,11,12,13,14,15,16,17,18,19,20,21,22,23,24,25,26,27,28])<|.ret [43,30])
 (sT [109,97,120]<|sB .eql 1 43<|.ite 44
 (.step (.mk [5,6,7,3,9,10,11,12,13,14,15,16,17,18,19,20,21,22,23,24,25,26,27,28])<|.ret [45,30])
 (sT [99,104,111,115,101,110]<|sB .eql 1 45<|.ite 46
 (.step (.mk [5,6,7,8,3,10,11,12,13,14,15,16,17,18,19,20,21,22,23,24,25,26,27,28])<|.ret [47,30])
 (sT [102,108,97,103,115]<|sB .eql 1 47<|.ite 48
 (.step (.mk [5,6,7,8,9,3,11,12,13,14,15,16,17,18,19,20,21,22,23,24,25,26,27,28])<|.ret [49,30])
 (sT [99,111,115,116]<|sB .eql 1 49<|.ite 50
 (.step (.mk [5,6,7,8,9,10,3,12,13,14,15,16,17,18,19,20,21,22,23,24,25,26,27,28])<|.ret [51,30])
 (sT [112,114,105,111,114,105,116,121]<|sB .eql 1 51<|.ite 52
 (.step (.mk [5,6,7,8,9,10,11,3,13,14,15,16,17,18,19,20,21,22,23,24,25,26,27,28])<|.ret [53,30])
 (sT [100,101,97,100,108,105,110,101]<|sB .eql 1 53<|.ite 54
 (.step (.mk [5,6,7,8,9,10,11,12,3,14,15,16,17,18,19,20,21,22,23,24,25,26,27,28])<|.ret [55,30])
 (sT [114,101,116,114,121]<|sB .eql 1 55<|.ite 56
 (.step (.mk [5,6,7,8,9,10,11,12,13,3,15,16,17,18,19,20,21,22,23,24,25,26,27,28])<|.ret [57,30])
 (sT [101,112,111,99,104]<|sB .eql 1 57<|.ite 58
 (.step (.mk [5,6,7,8,9,10,11,12,13,14,3,16,17,18,19,20,21,22,23,24,25,26,27,28])<|.ret [59,30])
 (sT [98,97,115,101]<|sB .eql 1 59<|.ite 60
 (.step (.mk [5,6,7,8,9,10,11,12,13,14,15,3,17,18,19,20,21,22,23,24,25,26,27,28])<|.ret [61,30])
 (sT [100,105,103,101,115,116]<|sB .eql 1 61<|.ite 62
 (.step (.mk [5,6,7,8,9,10,11,12,13,14,15,16,3,18,19,20,21,22,23,24,25,26,27,28])<|.ret [63,30])
 (sT [108,97,103]<|sB .eql 1 63<|.ite 64
 (.step (.mk [5,6,7,8,9,10,11,12,13,14,15,16,17,3,19,20,21,22,23,24,25,26,27,28])<|.ret [65,30])
 (sT [99,111,100,101]<|sB .eql 1 65<|.ite 66
 (.step (.mk [5,6,7,8,9,10,11,12,13,14,15,16,17,18,3,20,21,22,23,24,25,26,27,28])<|.ret [67,30])
 (.step (.mk [5,6,7,8,9,10,11,12,13,14,15,16,17,18,19,3,21,22,23,24,25,26,27,28])<|.ret [67,30])))))))))))))))
 (sB .eql 29 36<|.ite 39
 (.step (.ci .u64 1)<|sB .neq 3 40<|.ite 41
 (.step (.ci .u64 0)<|.step (.cb false)<|sT []<|.step (.ml [])<|sI 18<|.step (.mk [30,42,42,42,42,42,42,42,42,42,42,42,42,42,42,42,30,43,44,44,44,45,45,45])<|
 .ret [47,46])
 (.step (.cb true)<|.step (.mk [5,6,7,8,9,10,11,12,13,14,15,16,17,18,19,20,21,42,23,24,25,26,27,28])<|.ret [43,30]))
 (sI 2<|sB .eql 29 40<|.ite 41
 (.step (.ci .u64 2)<|sB .rem 3 42<|.step (.ci .u64 0)<|sB .eql 43 44<|.ite 45
 (sB .quo 3 42<|.step (.conv .i64 46)<|.step (.mk [5,6,7,8,9,10,11,12,13,14,15,16,17,18,19,20,47,22,23,24,25,26,27,28])<|.ret [48,30])
 (sB .quo 3 42<|.step (.conv .i64 46)<|sB .sub 30 47<|sB .sub 48 36<|.step (.mk [5,6,7,8,9,10,11,12,13,14,15,16,17,18,19,20,49,22,23,24,25,26,27,28])<|
 .ret [50,30]))
 (sB .eql 29 32<|.ite 42
 (sI 256<|sC 88 [4,30,43] 0<|sT [110,97,109,101]<|sB .eql 1 45<|.ite 46
 (sB .neq 44 30<|.ite 47
 (.step (.ci .u64 0)<|.step (.cb false)<|sT []<|.step (.ml [])<|.step (.mk [30,48,48,48,48,48,48,48,48,48,48,48,48,48,48,48,30,49,50,50,50,51,51,51])<|
 .ret [52,44])
 (.step (.mk [5,6,7,8,9,10,11,12,13,14,15,16,17,18,19,20,21,22,4,24,25,26,27,28])<|.ret [48,30]))
 (sT [114,101,103,105,111,110]<|sB .eql 1 47<|.ite 48
 (sB .neq 44 30<|.ite 49
 (.step (.ci .u64 0)<|.step (.cb false)<|sT []<|.step (.ml [])<|.step (.mk [30,50,50,50,50,50,50,50,50,50,50,50,50,50,50,50,30,51,52,52,52,53,53,53])<|
 .ret [54,44])
 (.step (.mk [5,6,7,8,9,10,11,12,13,14,15,16,17,18,19,20,21,22,23,4,25,26,27,28])<|.ret [50,30]))
 (sB .neq 44 30<|.ite 49
 (.step (.ci .u64 0)<|.step (.cb false)<|sT []<|.step (.ml [])<|.step (.mk [30,50,50,50,50,50,50,50,50,50,50,50,50,50,50,50,30,51,52,52,52,53,53,53])<|
 .ret [54,44])
 (.step (.mk [5,6,7,8,9,10,11,12,13,14,15,16,17,18,19,20,21,22,23,24,4,26,27,28])<|.ret [50,30]))))
 (sI 4<|sB .eql 29 43<|.ite 44
 (sC 104 [4] 0<|sC 104 [4] 1<|sB .neq 46 30<|.ite 47
 (.step (.ci .u64 0)<|.step (.cb false)<|sT []<|.step (.ml [])<|.step (.mk [30,48,48,48,48,48,48,48,48,48,48,48,48,48,48,48,30,49,50,50,50,51,51,51])<|
 .ret [52,46])
 (.step (.mk [5,6,7,8,9,10,11,12,13,14,15,16,17,18,19,20,21,22,23,24,25,45,27,28])<|.ret [48,30]))
 (sC 112 [4] 0<|sC 112 [4] 1<|sB .eql 46 30<|.ite 47
 (.step (.len 45)<|sB .eql 48 30<|.ite 49
 (.step (.ci .u64 0)<|.step (.cb false)<|sT []<|.step (.ml [])<|sI 17<|.step (.mk [30,50,50,50,50,50,50,50,50,50,50,50,50,50,50,50,30,51,52,52,52,53,53,53])<|
 .ret [55,54])
 (sB .neq 46 30<|.step (.mk [5,6,7,8,9,10,11,12,13,14,15,16,17,18,19,20,21,22,23,24,25,26,45,28])<|.ret [51,30]))
 (sB .neq 46 30<|.step (.ci .u64 0)<|.step (.cb false)<|sT []<|.step (.ml [])<|.step (.mk [30,49,49,49,49,49,49,49,49,49,49,49,49,49,49,49,30,50,51,51,51,52,52,52])<|
 .ret [53,46]))))))))))
def d38:aI:=.fn [.sc] [.sc,.sc]<|sC 16 [0] 0<|sI 0<|sB .neq 1 2<|.ite 3
 (sT []<|.ret [4,1])
 (.step (.len 0)<|.step (.conv .u64 4)<|sC 8 [5] 0<|.step (.bytes 6)<|.step (.ml [])<|.step (.app 1 1 8 7)<|.step (.slen 6)<|sT []<|sC 39 [11,0,4,2,9] 0<|
 sC 39 [11,0,4,2,9] 1<|.step (.len 13)<|.step (.str 13)<|.ret [15,2])
def d3:aI:=.fn [.sc] [.sc]<|.step (.len 0)<|sI 0<|sC 4 [0,1,2] 0<|sB .eql 3 2<|.ite 4
 (.step (.cb false)<|.ret [5])
 (sI 40<|sB .leq 1 5<|.ret [6])
def d44:aI:=.fn [.ag 24,.sc,.ag 5] [.ag 24,.sc]<|sL 0 0<|sL 1 0<|sL 2 0<|sL 3 0<|sL 4 0<|sL 5 0<|sL 6 0<|
 sL 7 0<|sL 8 0<|sL 9 0<|sL 10 0<|sL 11 0<|sL 12 0<|sL 13 0<|sL 14 0<|sL 15 0<|sL 16 0<|
 sL 17 0<|sL 18 0<|sL 19 0<|sL 20 0<|sL 21 0<|sL 22 0<|sL 23 0<|sL 0 2<|sL 1 2<|
 sL 2 2<|sL 3 2<|sL 4 2<|.step (.mk [3,4,5,6,7,8,9,10,11,12,13,14,15,16,17,18,19,20,21,22,23,24,25,26])<|sC 30 [32] 0<|
 sL 0 33<|sL 1 33<|sL 2 33<|sL 3 33<|sL 4 33<|sL 5 33<|sL 6 33<|sL 7 33<|sL 8 33<|
 sL 9 33<|sL 10 33<|sL 11 33<|sL 12 33<|sL 13 33<|sL 14 33<|sL 15 33<|sL 16 33<|sL 17 33<|
 sL 18 33<|sL 19 33<|sL 20 33<|sL 21 33<|sL 22 33<|sL 23 33<|al8 45 [1,27,28,29,30,31,34,35,36,37,38,39,40,41,42,43,44,45,46,47,48,49,50,51,52,53,54,55,56,57]<|
 sI 0<|sB .neq 59 82<|
 .ite 83
 (.step (.ci .u64 0)<|.step (.cb false)<|sT []<|.step (.ml [])<|.step (.mk [82,84,84,84,84,84,84,84,84,84,84,84,84,84,84,84,82,85,86,86,86,87,87,87])<|
 .ret [88,59])
 (.step (.mk [34,60,61,62,63,64,65,66,67,68,69,70,71,72,73,74,75,76,77,78,79,80,81,57])<|.ret [84,82])
def d82:aI:=.fn [.sc] [.sc]<|.step (.len 0)<|sI 256<|sB .gtr 1 2<|.ite 3
 (sI 13<|.ret [4])
 (sI 0<|sC 83 [0,1,4] 0<|sB .eql 5 4<|.ite 6
 (sC 83 [0,1,4] 1<|.ret [7])
 (.ret [4]))
def d2:aI:=.fn [.ag 24] [.sc]<|sL 0 0<|sL 1 0<|sL 2 0<|sL 3 0<|sL 4 0<|sL 5 0<|sL 6 0<|sL 7 0<|
 sL 8 0<|sL 9 0<|sL 10 0<|sL 11 0<|sL 12 0<|sL 13 0<|sL 14 0<|sL 15 0<|sL 16 0<|
 sL 17 0<|sL 18 0<|sL 19 0<|sL 20 0<|sL 21 0<|sL 22 0<|sL 23 0<|.step (.slen 19)<|sI 600<|
 sB .leq 25 26<|.ite 27
 (.step (.slen 20)<|sB .leq 28 26<|.ite 29
 (.step (.slen 21)<|sB .leq 30 26<|.ite 31
 (sC 3 [22] 0<|.ite 32
 (sC 5 [23] 0<|.ite 33
 (sC 14 [24] 0<|.ret [34])
 (.step (.cb false)<|.ret [34]))
 (.step (.cb false)<|.ret [33]))
 (.step (.cb false)<|.ret [32]))
 (.step (.cb false)<|.ret [30]))
 (.step (.cb false)<|.ret [28])
def d80:aI:=.fn [.ag 2] [.sc]<|sL 0 0<|sL 1 0<|.step (.slen 1)<|.step (.conv .u64 3)<|sC 77 [4] 0<|sB .add 5 1<|.step (.slen 2)<|.step (.conv .u64 7)<|
 sC 77 [8] 0<|sB .add 6 9<|sB .add 10 2<|.ret [11]
def d98:aI:=.fn [.sc] [.sc]<|.step (.len 0)<|.step (.conv .u64 1)<|sC 77 [2] 0<|sI 0<|sC 99 [0,3,1,4] 0<|sC 99 [0,3,1,4] 1<|
 .ret [6]
def d23:aI:=.fn [.sc] [.sc]<|sC 24 [0] 0<|.ret [1]
def d77:aI:=.fn [.sc] [.sc]<|sT []<|sC 78 [0,1] 0<|sC 78 [0,1] 1<|sC 78 [0,1] 2<|.step (.conv .u8 3)<|.step (.ml [5])<|.step (.str 6)<|
 sB .add 4 7<|.ret [8]
def aeK:aI:=.fn [.sc] [.ag 2,.sc,.sc]<|sC 111 [0] 0<|sC 111 [0] 1<|sC 111 [0] 2<|sI 0<|sB .neq 3 4<|.ite 5
 (sT []<|.step (.mk [6,6])<|.ret [7,6,3])
 (sC 111 [2] 0<|sC 111 [2] 1<|sC 111 [2] 2<|sB .neq 8 4<|.ite 9
 (sT []<|.step (.mk [10,10])<|.ret [11,10,8])
 (.step (.mk [1,6])<|sC 87 [10] 0<|sB .neq 11 4<|.ite 12
 (sT []<|.step (.mk [13,13])<|.ret [14,13,11])
 (.ret [10,7,4])))
def d85:aI:=.fn [.sc] [.sc]<|.step (.len 0)<|.step (.conv .u64 1)<|.step (.ci .u64 0)<|sB .eql 2 3<|.ite 4
 (sI 12<|sI 0<|sC 86 [0,5,6] 0<|sC 86 [0,5,6] 1<|.ret [8])
 (.step (.ci .u64 16)<|sB .gtr 2 5<|.ite 6
 (sI 13<|sI 0<|sC 86 [0,7,8] 0<|sC 86 [0,7,8] 1<|.ret [10])
 (sI 0<|sC 86 [0,7,7] 0<|sC 86 [0,7,7] 1<|.ret [9]))
def d61:aI:=.fn [.sc] [.sc]<|.step (.len 0)<|sI 0<|.step (.ml [])<|sC 62 [3,0,1,2] 0<|sC 62 [3,0,1,2] 1<|.ret [5]
def d73:aI:=.fn [.ag 24,.sc] [.sc,.sc]<|sL 0 0<|sL 1 0<|sL 2 0<|sL 3 0<|sL 4 0<|sL 5 0<|sL 6 0<|
 sL 7 0<|sL 8 0<|sL 9 0<|sL 10 0<|sL 11 0<|sL 12 0<|sL 13 0<|sL 14 0<|sL 15 0<|sL 16 0<|
 sL 17 0<|sL 18 0<|sL 19 0<|sL 20 0<|sL 21 0<|sL 22 0<|sL 23 0<|sC 69 [1] 0<|sI 0<|
 sB .eql 26 27<|.ite 28
 (.step (.mk [2,3,4,5,6,7,8,9,10,11,12,13,14,15,16,17,18,19,20,21,22,23,24,25])<|sC 74 [29,1] 0<|sT []<|.ret [30,31])
 (sI 1<|sB .eql 26 29<|.ite 30
 (.ite 19
 (.step (.ci .u64 1)<|sT []<|.ret [31,32])
 (.step (.ci .u64 0)<|sT []<|.ret [31,32]))
 (sI 2<|sB .eql 26 31<|.ite 32
 (sB .geq 18 27<|.ite 33
 (.step (.conv .u64 18)<|.step (.ci .u64 2)<|sB .mul 35 34<|sT []<|.ret [36,37])
 (sB .add 18 29<|sB .sub 27 34<|.step (.conv .u64 35)<|.step (.ci .u64 1)<|sB .add 36 37<|sB .sub 38 37<|.step (.ci .u64 2)<|sB .mul 40 39<|
 sB .add 41 37<|sT []<|.ret [42,43]))
 (sI 3<|sB .eql 26 33<|.ite 34
 (.step (.mk [2,3,4,5,6,7,8,9,10,11,12,13,14,15,16,17,18,19,20,21,22,23,24,25])<|sC 75 [35,1] 0<|.step (.ci .u64 0)<|.ret [37,36])
 (sI 4<|sB .eql 26 35<|.ite 36
 (.step (.len 23)<|sB .gtr 37 27<|.ite 38
 (sC 76 [23] 0<|.step (.ci .u64 0)<|.ret [40,39])
 (.step (.ci .u64 0)<|sT []<|.ret [39,40]))
 (.step (.len 24)<|sB .gtr 37 27<|.ite 38
 (sC 81 [24] 0<|sC 81 [24] 1<|.step (.ci .u64 0)<|.ret [41,39])
 (.step (.ci .u64 0)<|sT []<|.ret [39,40]))))))
def d75:aI:=.fn [.ag 24,.sc] [.sc]<|sL 0 0<|sL 1 0<|sL 2 0<|sL 3 0<|sL 4 0<|sL 5 0<|sL 6 0<|sL 7 0<|
 sL 8 0<|sL 9 0<|sL 10 0<|sL 11 0<|sL 12 0<|sL 13 0<|sL 14 0<|sL 15 0<|sL 16 0<|
 sL 17 0<|sL 18 0<|sL 19 0<|sL 20 0<|sL 21 0<|sL 22 0<|sL 23 0<|sT [110,97,109,101]<|sB .eql 1 26<|
 .ite 27
 (.ret [20])
 (sT [114,101,103,105,111,110]<|sB .eql 1 28<|.ite 29
 (.ret [21])
 (.ret [22]))
def d65:aI:=.fn [.sc] [.sc]<|.step (.len 0)<|sI 0<|.step (.ml [])<|sC 66 [3,0,1,2] 0<|sC 66 [3,0,1,2] 1<|.ret [5]
def aeM:aI:=.fn [.sc] [.sc,.sc]<|sC 113 [0] 0<|sC 113 [0] 1<|sC 113 [0] 2<|sI 0<|sB .neq 3 4<|.ite 5
 (.step (.ml [])<|.ret [6,3])
 (sT []<|sB .neq 2 6<|.ite 7
 (.step (.ml [])<|sI 10<|.ret [8,9])
 (.ret [1,4]))
def ae0:aI:=.fn [.sc,.sc] [.sc]<|.step (.len 0)<|.step (.len 1)<|sB .neq 2 3<|.ite 4
 (.step (.cb false)<|.ret [5])
 (sI 0<|sC 127 [0,1,2,5] 0<|sB .eql 6 5<|.ite 7
 (.step (.cb false)<|.ret [8])
 (.step (.cb true)<|.ret [8]))
def d95:aI:=.fn [.sc,.sc] [.sc]<|sI 0<|sC 96 [0,1,2] 0<|sB .eql 3 2<|.ite 4
 (sC 96 [0,1,2] 1<|.ret [5])
 (.step (.slen 0)<|.step (.slen 1)<|sB .lss 5 6<|.ret [7])
def d59:aI:=.tree 3<|sC 47 [0] 0<|sC 47 [0] 1<|sI 0<|sB .neq 4 5<|.ite 6
 (.step (.ml [])<|.step (.ci .u64 0)<|.ret [5,7,8,4,1,2])
 (uO 49 [1,2]<|
 sB .neq 9 5<|.ite 12
 (.step (.ml [])<|.step (.ci .u64 0)<|.ret [5,13,14,9,10,11])
 (.step (.ci .u64 0)<|sB .eql 8 13<|.ite 14
 (.step (.ml [])<|sI 17<|.ret [5,15,13,16,10,11])
 (.ret [5,3,8,5,10,11])))
def d58:aI:=.tree 4<|.ite 3
 (uO 49 [0,1]<|
 sI 0<|sB .neq 6 9<|
 .ite 10
 (sT []<|.ret [9,11,6,7,8])
 (.step (.ci .u64 0)<|sB .gtr 5 11<|.ite 12
 (sT []<|sI 23<|.ret [9,13,14,7,8])
 (uO 49 [7,8]<|
 sB .neq 15 9<|.ite 18
 (sT []<|.ret [9,19,15,16,17])
 (.step (.slen 16)<|sB .sub 19 17<|.step (.conv .u64 20)<|sB .gtr 14 21<|.ite 22
 (sT []<|sI 1<|.ret [9,23,24,16,17])
 (.step (.conv .i64 14)<|sB .add 17 23<|.step (.jc 16 17 24)<|sT []<|.step (.jc 26 9 5)<|sB .add 27 25<|.step (.un .not 3)<|.ite 29
 (sB .leq 28 26<|.ite 30
 (sI 7<|.ret [9,26,31,16,24])
 (sC 41 [26,28] 0<|.step (.conv .i64 5)<|sB .gtr 31 32<|.ite 33
 (sI 23<|.ret [9,26,34,16,24])
 (.ret [9,28,9,16,24])))
 (sC 41 [26,28] 0<|.step (.conv .i64 5)<|sB .gtr 30 31<|.ite 32
 (sI 23<|.ret [9,26,33,16,24])
 (.ret [9,28,9,16,24])))))))
 (uO 49 [0,1]<|
 sI 0<|sB .neq 6 9<|
 .ite 10
 (sT []<|.ret [9,11,6,7,8])
 (.step (.slen 2)<|.step (.conv .u64 11)<|sB .gtr 5 12<|.ite 13
 (sT []<|sI 23<|.ret [9,14,15,7,8])
 (uO 49 [7,8]<|
 sB .neq 16 9<|.ite 19
 (sT []<|.ret [9,20,16,17,18])
 (.step (.slen 17)<|sB .sub 20 18<|.step (.conv .u64 21)<|sB .gtr 15 22<|.ite 23
 (sT []<|sI 1<|.ret [9,24,25,17,18])
 (.step (.conv .i64 15)<|sB .add 18 24<|.step (.jc 17 18 25)<|.step (.jc 2 9 5)<|sB .add 27 26<|.step (.un .not 3)<|.ite 29
 (sB .leq 28 2<|.ite 30
 (sT []<|sI 7<|.ret [9,31,32,17,25])
 (sC 41 [2,28] 0<|.step (.conv .i64 5)<|sB .gtr 31 32<|.ite 33
 (sT []<|sI 23<|.ret [9,34,35,17,25])
 (.ret [9,28,9,17,25])))
 (sC 41 [2,28] 0<|.step (.conv .i64 5)<|sB .gtr 30 31<|.ite 32
 (sT []<|sI 23<|.ret [9,33,34,17,25])
 (.ret [9,28,9,17,25])))))))
def d56:aI:=.tree 2<|uO 49 [0,1]<|
 sI 0<|
 sB .neq 4 7<|.ite 8
 (.step (.ml [])<|.ret [7,9,4,5,6])
 (.step (.ci .u64 256)<|sB .gtr 3 9<|.ite 10
 (.step (.ml [])<|sI 13<|.ret [7,11,12,5,6])
 (.step (.ml [])<|.step (.ci .u64 0)<|.step (.mk [11,12])<|.step (.rep 2 32 13 7 3)<|.step (.conv .i64 3)<|sT []<|sC 57 [14,16,15,7,5,6] 0<|sB .eql 17 7<|
 .ite 18
 (sC 57 [14,16,15,7,5,6] 1<|sC 57 [14,16,15,7,5,6] 2<|sC 57 [14,16,15,7,5,6] 3<|.ret [7,11,19,20,21])
 (sC 57 [14,16,15,7,5,6] 1<|sC 57 [14,16,15,7,5,6] 2<|sC 57 [14,16,15,7,5,6] 3<|.ret [7,19,7,20,21])))
def d54:aI:=.tree 2<|uO 49 [0,1]<|
 sI 0<|
 sB .neq 4 7<|.ite 8
 (sT []<|.ret [7,9,4,5,6])
 (.step (.slen 5)<|sB .sub 9 6<|.step (.conv .u64 10)<|sB .gtr 3 11<|.ite 12
 (sT []<|sI 1<|.ret [7,13,14,5,6])
 (.step (.conv .i64 3)<|sB .add 6 13<|.step (.jc 5 6 14)<|.ret [7,15,7,5,14]))
def d53:aI:=.tree 2<|uO 54 [0,1]<|
 sI 0<|
 sB .neq 4 7<|.ite 8
 (sT []<|.ret [7,9,9,4,5,6])
 (uO 54 [5,6]<|
 sB .neq 11 7<|.ite 14
 (sT []<|.ret [7,15,15,11,12,13])
 (.step (.mk [3,10])<|sC 21 [15] 0<|sB .neq 16 7<|.ite 17
 (sT []<|.ret [7,18,18,16,12,13])
 (.ret [7,3,10,7,12,13])))
def d49:aI:=.tree 2<|.step (.slen 0)<|.step (.jc 0 1 2)<|sC 50 [3] 0<|sC 50 [3] 1<|sC 50 [3] 2<|sI 0<|sB .neq 6 7<|
 .ite 8
 (.step (.ci .u64 0)<|.ret [7,9,6,0,1])
 (.step (.conv .u64 5)<|sB .sub 2 1<|.step (.conv .u64 10)<|sB .gtr 9 11<|.ite 12
 (.ret [7,4,7,0,1])
 (.step (.conv .i64 9)<|sB .add 1 13<|.step (.jc 0 1 14)<|.ret [7,4,7,0,14]))
def d48:aI:=.tree 2<|uO 49 [0,1]<|
 sI 0<|
 sB .neq 4 7<|.ite 8
 (.step (.ml [])<|.ret [7,9,4,5,6])
 (.step (.ci .u64 0)<|sB .eql 3 9<|.ite 10
 (.step (.ml [])<|sI 12<|.ret [7,11,12,5,6])
 (.step (.ci .u64 16)<|sB .gtr 3 11<|.ite 12
 (.step (.ml [])<|sI 13<|.ret [7,13,14,5,6])
 (sT []<|.step (.mk [13,13])<|.step (.rep 2 32 14 7 3)<|.step (.conv .i64 3)<|sC 52 [15,16,7,5,6] 0<|sB .eql 17 7<|.ite 18
 (sC 52 [15,16,7,5,6] 1<|sC 52 [15,16,7,5,6] 2<|sC 52 [15,16,7,5,6] 3<|.step (.ml [])<|.ret [7,22,19,20,21])
 (sC 52 [15,16,7,5,6] 1<|sC 52 [15,16,7,5,6] 2<|sC 52 [15,16,7,5,6] 3<|.ret [7,19,7,20,21]))))
def d45:aI:=.tree 30<|sT [114,101,109,97,105,110,105,110,103]<|sB .eql 0 30<|.ite 31
 (sI 2<|sC 46 [32] 0<|sB .neq 2 33<|.ite 34
 (sI 8<|sI 0<|.ret [36,35,7,8,9,10,11,12,13,14,15,16,17,18,19,20,21,22,23,24,25,26,27,28])
 (sI 0<|sB .eql 2 35<|.ite 36
 (.step (.ci .u64 0)<|sB .eql 3 37<|.ite 38
 (sI 17<|.ret [35,39,7,8,9,10,11,12,13,14,15,16,17,18,19,20,21,22,23,24,25,26,27,28])
 (sI 1<|sB .eql 2 39<|.step (.ci .u64 1)<|sB .shr 3 41<|.step (.conv .i64 42)<|sB .and 3 41<|.step (.conv .i64 44)<|.step (.un .neg 45)<|
 sB .xor 43 46<|.ret [35,35,7,8,9,10,11,12,13,14,15,16,17,18,19,20,21,47,23,24,25,26,27,28]))
 (sI 1<|sB .eql 2 37<|.ite 38
 (sT []<|sB .eql 4 39<|.ite 40
 (sI 17<|.ret [35,41,7,8,9,10,11,12,13,14,15,16,17,18,19,20,21,22,23,24,25,26,27,28])
 (.step (.ci .u64 1)<|sB .shr 3 41<|.step (.conv .i64 42)<|sB .and 3 41<|.step (.conv .i64 44)<|.step (.un .neg 45)<|sB .xor 43 46<|.ret [35,35,7,8,9,10,11,12,13,14,15,16,17,18,19,20,21,47,23,24,25,26,27,28]))
 (.step (.ci .u64 1)<|sB .shr 3 39<|.step (.conv .i64 40)<|sB .and 3 39<|.step (.conv .i64 42)<|.step (.un .neg 43)<|sB .xor 41 44<|.ret [35,35,7,8,9,10,11,12,13,14,15,16,17,18,19,20,21,45,23,24,25,26,27,28]))))
 (sT [97,108,108,111,119,101,100]<|sB .eql 0 32<|.ite 33
 (sI 1<|sC 46 [34] 0<|sB .neq 2 35<|.ite 36
 (sI 8<|sI 0<|.ret [38,37,7,8,9,10,11,12,13,14,15,16,17,18,19,20,21,22,23,24,25,26,27,28])
 (sI 0<|sB .eql 2 37<|.ite 38
 (.step (.ci .u64 0)<|sB .eql 3 39<|.ite 40
 (sI 17<|.ret [37,41,7,8,9,10,11,12,13,14,15,16,17,18,19,20,21,22,23,24,25,26,27,28])
 (sB .eql 2 34<|.step (.ci .u64 1)<|sB .neq 3 42<|.ite 43
 (sI 18<|.ret [37,44,7,8,9,10,11,12,13,14,15,16,17,18,19,20,21,22,23,24,25,26,27,28])
 (.step (.cb true)<|.ret [37,37,7,8,9,10,11,12,13,14,15,16,17,18,19,20,21,22,44,24,25,26,27,28])))
 (sB .eql 2 34<|.ite 39
 (sT []<|sB .eql 4 40<|.ite 41
 (sI 17<|.ret [37,42,7,8,9,10,11,12,13,14,15,16,17,18,19,20,21,22,23,24,25,26,27,28])
 (.step (.ci .u64 1)<|sB .neq 3 42<|.ite 43
 (sI 18<|.ret [37,44,7,8,9,10,11,12,13,14,15,16,17,18,19,20,21,22,23,24,25,26,27,28])
 (.step (.cb true)<|.ret [37,37,7,8,9,10,11,12,13,14,15,16,17,18,19,20,21,22,44,24,25,26,27,28])))
 (.step (.ci .u64 1)<|sB .neq 3 40<|.ite 41
 (sI 18<|.ret [37,42,7,8,9,10,11,12,13,14,15,16,17,18,19,20,21,22,23,24,25,26,27,28])
 (.step (.cb true)<|.ret [37,37,7,8,9,10,11,12,13,14,15,16,17,18,19,20,21,22,42,24,25,26,27,28])))))
 (sT [110,97,109,101]<|sB .eql 0 34<|.ite 35
 (sI 3<|sC 46 [36] 0<|sB .neq 2 37<|.ite 38
 (sI 8<|sI 0<|.ret [40,39,7,8,9,10,11,12,13,14,15,16,17,18,19,20,21,22,23,24,25,26,27,28])
 (sI 0<|sB .eql 2 39<|.ite 40
 (.step (.ci .u64 0)<|sB .eql 3 41<|.ite 42
 (sI 17<|.ret [39,43,7,8,9,10,11,12,13,14,15,16,17,18,19,20,21,22,23,24,25,26,27,28])
 (sI 1<|sB .eql 2 43<|sI 256<|sC 22 [4,39,45] 0<|.ret [39,46,7,8,9,10,11,12,13,14,15,16,17,18,19,20,21,22,23,4,25,26,27,28]))
 (sI 1<|sB .eql 2 41<|.ite 42
 (sT []<|sB .eql 4 43<|.ite 44
 (sI 17<|.ret [39,45,7,8,9,10,11,12,13,14,15,16,17,18,19,20,21,22,23,24,25,26,27,28])
 (sI 256<|sC 22 [4,39,45] 0<|.ret [39,46,7,8,9,10,11,12,13,14,15,16,17,18,19,20,21,22,23,4,25,26,27,28]))
 (sI 256<|sC 22 [4,39,43] 0<|.ret [39,44,7,8,9,10,11,12,13,14,15,16,17,18,19,20,21,22,23,4,25,26,27,28]))))
 (sT [114,101,103,105,111,110]<|sB .eql 0 36<|.ite 37
 (sI 3<|sC 46 [38] 0<|sB .neq 2 39<|.ite 40
 (sI 8<|sI 0<|.ret [42,41,7,8,9,10,11,12,13,14,15,16,17,18,19,20,21,22,23,24,25,26,27,28])
 (sI 0<|sB .eql 2 41<|.ite 42
 (.step (.ci .u64 0)<|sB .eql 3 43<|.ite 44
 (sI 17<|.ret [41,45,7,8,9,10,11,12,13,14,15,16,17,18,19,20,21,22,23,24,25,26,27,28])
 (sI 1<|sB .eql 2 45<|sI 256<|sC 22 [4,41,47] 0<|.ret [41,48,7,8,9,10,11,12,13,14,15,16,17,18,19,20,21,22,23,24,4,26,27,28]))
 (sI 1<|sB .eql 2 43<|.ite 44
 (sT []<|sB .eql 4 45<|.ite 46
 (sI 17<|.ret [41,47,7,8,9,10,11,12,13,14,15,16,17,18,19,20,21,22,23,24,25,26,27,28])
 (sI 256<|sC 22 [4,41,47] 0<|.ret [41,48,7,8,9,10,11,12,13,14,15,16,17,18,19,20,21,22,23,24,4,26,27,28]))
 (sI 256<|sC 22 [4,41,45] 0<|.ret [41,46,7,8,9,10,11,12,13,14,15,16,17,18,19,20,21,22,23,24,4,26,27,28]))))
 (sT [110,111,116,101]<|sB .eql 0 38<|.ite 39
 (sI 3<|sC 46 [40] 0<|sB .neq 2 41<|.ite 42
 (sI 8<|sI 0<|.ret [44,43,7,8,9,10,11,12,13,14,15,16,17,18,19,20,21,22,23,24,25,26,27,28])
 (sI 0<|sB .eql 2 43<|.ite 44
 (.step (.ci .u64 0)<|sB .eql 3 45<|.ite 46
 (sI 17<|.ret [43,47,7,8,9,10,11,12,13,14,15,16,17,18,19,20,21,22,23,24,25,26,27,28])
 (sI 1<|sB .eql 2 47<|sI 256<|sC 22 [4,43,49] 0<|.ret [43,50,7,8,9,10,11,12,13,14,15,16,17,18,19,20,21,22,23,24,25,4,27,28]))
 (sI 1<|sB .eql 2 45<|.ite 46
 (sT []<|sB .eql 4 47<|.ite 48
 (sI 17<|.ret [43,49,7,8,9,10,11,12,13,14,15,16,17,18,19,20,21,22,23,24,25,26,27,28])
 (sI 256<|sC 22 [4,43,49] 0<|.ret [43,50,7,8,9,10,11,12,13,14,15,16,17,18,19,20,21,22,23,24,25,4,27,28]))
 (sI 256<|sC 22 [4,43,47] 0<|.ret [43,48,7,8,9,10,11,12,13,14,15,16,17,18,19,20,21,22,23,24,25,4,27,28]))))
 (sT [100,101,115,99,114]<|sB .eql 0 40<|.ite 41
 (sI 4<|sC 46 [42] 0<|sB .neq 2 43<|.ite 44
 (sI 8<|sI 0<|.ret [46,45,7,8,9,10,11,12,13,14,15,16,17,18,19,20,21,22,23,24,25,26,27,28])
 (sI 0<|sB .eql 2 45<|.ite 46
 (.step (.ci .u64 0)<|sB .eql 3 47<|.ite 48
 (sI 17<|.ret [45,49,7,8,9,10,11,12,13,14,15,16,17,18,19,20,21,22,23,24,25,26,27,28])
 (sI 1<|sB .eql 2 49<|sC 47 [4] 0<|sC 47 [4] 1<|.ret [45,52,7,8,9,10,11,12,13,14,15,16,17,18,19,20,21,22,23,24,25,26,51,28]))
 (sI 1<|sB .eql 2 47<|.ite 48
 (sT []<|sB .eql 4 49<|.ite 50
 (sI 17<|.ret [45,51,7,8,9,10,11,12,13,14,15,16,17,18,19,20,21,22,23,24,25,26,27,28])
 (sC 47 [4] 0<|sC 47 [4] 1<|.ret [45,52,7,8,9,10,11,12,13,14,15,16,17,18,19,20,21,22,23,24,25,26,51,28]))
 (sC 47 [4] 0<|sC 47 [4] 1<|.ret [45,50,7,8,9,10,11,12,13,14,15,16,17,18,19,20,21,22,23,24,25,26,49,28]))))
 (sT [116,97,98,108,101]<|sB .eql 0 42<|.ite 43
 (sI 5<|sC 46 [44] 0<|sB .neq 2 45<|.ite 46
 (sI 8<|sI 0<|.ret [48,47,7,8,9,10,11,12,13,14,15,16,17,18,19,20,21,22,23,24,25,26,27,28])
 (sI 0<|sB .eql 2 47<|.ite 48
 (.step (.ci .u64 0)<|sB .eql 3 49<|.ite 50
 (sI 17<|.ret [47,51,7,8,9,10,11,12,13,14,15,16,17,18,19,20,21,22,23,24,25,26,27,28])
 (sI 1<|sB .eql 2 51<|sC 55 [4] 0<|sC 55 [4] 1<|sB .eql 54 47<|.ite 55
 (.step (.len 53)<|sB .eql 56 47<|.ite 57
 (sI 17<|.ret [47,58,7,8,9,10,11,12,13,14,15,16,17,18,19,20,21,22,23,24,25,26,27,53])
 (.ret [47,54,7,8,9,10,11,12,13,14,15,16,17,18,19,20,21,22,23,24,25,26,27,53]))
 (.ret [47,54,7,8,9,10,11,12,13,14,15,16,17,18,19,20,21,22,23,24,25,26,27,53])))
 (sI 1<|sB .eql 2 49<|.ite 50
 (sT []<|sB .eql 4 51<|.ite 52
 (sI 17<|.ret [47,53,7,8,9,10,11,12,13,14,15,16,17,18,19,20,21,22,23,24,25,26,27,28])
 (sC 55 [4] 0<|sC 55 [4] 1<|sB .eql 54 47<|.ite 55
 (.step (.len 53)<|sB .eql 56 47<|.ite 57
 (sI 17<|.ret [47,58,7,8,9,10,11,12,13,14,15,16,17,18,19,20,21,22,23,24,25,26,27,53])
 (.ret [47,54,7,8,9,10,11,12,13,14,15,16,17,18,19,20,21,22,23,24,25,26,27,53]))
 (.ret [47,54,7,8,9,10,11,12,13,14,15,16,17,18,19,20,21,22,23,24,25,26,27,53])))
 (sC 55 [4] 0<|sC 55 [4] 1<|sB .eql 52 47<|.ite 53
 (.step (.len 51)<|sB .eql 54 47<|.ite 55
 (sI 17<|.ret [47,56,7,8,9,10,11,12,13,14,15,16,17,18,19,20,21,22,23,24,25,26,27,51])
 (.ret [47,52,7,8,9,10,11,12,13,14,15,16,17,18,19,20,21,22,23,24,25,26,27,51]))
 (.ret [47,52,7,8,9,10,11,12,13,14,15,16,17,18,19,20,21,22,23,24,25,26,27,51])))))
 (sT [105,100]<|sB .eql 0 44<|.ite 45
 (sI 0<|sC 46 [46] 0<|sB .neq 2 47<|.ite 48
 (sI 8<|.ret [46,49,7,8,9,10,11,12,13,14,15,16,17,18,19,20,21,22,23,24,25,26,27,28])
 (sB .eql 2 46<|.ite 49
 (.step (.ci .u64 0)<|sB .eql 3 50<|.ite 51
 (sI 17<|.ret [46,52,7,8,9,10,11,12,13,14,15,16,17,18,19,20,21,22,23,24,25,26,27,28])
 (sI 1<|sB .eql 2 52<|.ret [46,46,3,8,9,10,11,12,13,14,15,16,17,18,19,20,21,22,23,24,25,26,27,28]))
 (sI 1<|sB .eql 2 50<|.ite 51
 (sT []<|sB .eql 4 52<|.ite 53
 (sI 17<|.ret [46,54,7,8,9,10,11,12,13,14,15,16,17,18,19,20,21,22,23,24,25,26,27,28])
 (.ret [46,46,3,8,9,10,11,12,13,14,15,16,17,18,19,20,21,22,23,24,25,26,27,28]))
 (.ret [46,46,3,8,9,10,11,12,13,14,15,16,17,18,19,20,21,22,23,24,25,26,27,28]))))
 (sT [109,105,110]<|sB .eql 0 46<|.ite 47
 (sI 0<|sC 46 [48] 0<|sB .neq 2 49<|.ite 50
 (sI 8<|.ret [48,51,7,8,9,10,11,12,13,14,15,16,17,18,19,20,21,22,23,24,25,26,27,28])
 (sB .eql 2 48<|.ite 51
 (.step (.ci .u64 0)<|sB .eql 3 52<|.ite 53
 (sI 17<|.ret [48,54,7,8,9,10,11,12,13,14,15,16,17,18,19,20,21,22,23,24,25,26,27,28])
 (sI 1<|sB .eql 2 54<|.ret [48,48,7,3,9,10,11,12,13,14,15,16,17,18,19,20,21,22,23,24,25,26,27,28]))
 (sI 1<|sB .eql 2 52<|.ite 53
 (sT []<|sB .eql 4 54<|.ite 55
 (sI 17<|.ret [48,56,7,8,9,10,11,12,13,14,15,16,17,18,19,20,21,22,23,24,25,26,27,28])
 (.ret [48,48,7,3,9,10,11,12,13,14,15,16,17,18,19,20,21,22,23,24,25,26,27,28]))
 (.ret [48,48,7,3,9,10,11,12,13,14,15,16,17,18,19,20,21,22,23,24,25,26,27,28]))))
 (sT [109,97,120]<|sB .eql 0 48<|.ite 49
 (sI 0<|sC 46 [50] 0<|sB .neq 2 51<|.ite 52
 (sI 8<|.ret [50,53,7,8,9,10,11,12,13,14,15,16,17,18,19,20,21,22,23,24,25,26,27,28])
 (sB .eql 2 50<|.ite 53
 (.step (.ci .u64 0)<|sB .eql 3 54<|.ite 55
 (sI 17<|.ret [50,56,7,8,9,10,11,12,13,14,15,16,17,18,19,20,21,22,23,24,25,26,27,28])
 (sI 1<|sB .eql 2 56<|.ret [50,50,7,8,3,10,11,12,13,14,15,16,17,18,19,20,21,22,23,24,25,26,27,28]))
 (sI 1<|sB .eql 2 54<|.ite 55
 (sT []<|sB .eql 4 56<|.ite 57
 (sI 17<|.ret [50,58,7,8,9,10,11,12,13,14,15,16,17,18,19,20,21,22,23,24,25,26,27,28])
 (.ret [50,50,7,8,3,10,11,12,13,14,15,16,17,18,19,20,21,22,23,24,25,26,27,28]))
 (.ret [50,50,7,8,3,10,11,12,13,14,15,16,17,18,19,20,21,22,23,24,25,26,27,28]))))
 (sT [99,104,111,115,101,110]<|sB .eql 0 50<|.ite 51
 (sI 0<|sC 46 [52] 0<|sB .neq 2 53<|.ite 54
 (sI 8<|.ret [52,55,7,8,9,10,11,12,13,14,15,16,17,18,19,20,21,22,23,24,25,26,27,28])
 (sB .eql 2 52<|.ite 55
 (.step (.ci .u64 0)<|sB .eql 3 56<|.ite 57
 (sI 17<|.ret [52,58,7,8,9,10,11,12,13,14,15,16,17,18,19,20,21,22,23,24,25,26,27,28])
 (sI 1<|sB .eql 2 58<|.ret [52,52,7,8,9,3,11,12,13,14,15,16,17,18,19,20,21,22,23,24,25,26,27,28]))
 (sI 1<|sB .eql 2 56<|.ite 57
 (sT []<|sB .eql 4 58<|.ite 59
 (sI 17<|.ret [52,60,7,8,9,10,11,12,13,14,15,16,17,18,19,20,21,22,23,24,25,26,27,28])
 (.ret [52,52,7,8,9,3,11,12,13,14,15,16,17,18,19,20,21,22,23,24,25,26,27,28]))
 (.ret [52,52,7,8,9,3,11,12,13,14,15,16,17,18,19,20,21,22,23,24,25,26,27,28]))))
 (sT [102,108,97,103,115]<|sB .eql 0 52<|.ite 53
 (sI 0<|sC 46 [54] 0<|sB .neq 2 55<|.ite 56
 (sI 8<|.ret [54,57,7,8,9,10,11,12,13,14,15,16,17,18,19,20,21,22,23,24,25,26,27,28])
 (sB .eql 2 54<|.ite 57
 (.step (.ci .u64 0)<|sB .eql 3 58<|.ite 59
 (sI 17<|.ret [54,60,7,8,9,10,11,12,13,14,15,16,17,18,19,20,21,22,23,24,25,26,27,28])
 (sI 1<|sB .eql 2 60<|.ret [54,54,7,8,9,10,3,12,13,14,15,16,17,18,19,20,21,22,23,24,25,26,27,28]))
 (sI 1<|sB .eql 2 58<|.ite 59
 (sT []<|sB .eql 4 60<|.ite 61
 (sI 17<|.ret [54,62,7,8,9,10,11,12,13,14,15,16,17,18,19,20,21,22,23,24,25,26,27,28])
 (.ret [54,54,7,8,9,10,3,12,13,14,15,16,17,18,19,20,21,22,23,24,25,26,27,28]))
 (.ret [54,54,7,8,9,10,3,12,13,14,15,16,17,18,19,20,21,22,23,24,25,26,27,28]))))
 (sT [99,111,115,116]<|sB .eql 0 54<|.ite 55
 (sI 0<|sC 46 [56] 0<|sB .neq 2 57<|.ite 58
 (sI 8<|.ret [56,59,7,8,9,10,11,12,13,14,15,16,17,18,19,20,21,22,23,24,25,26,27,28])
 (sB .eql 2 56<|.ite 59
 (.step (.ci .u64 0)<|sB .eql 3 60<|.ite 61
 (sI 17<|.ret [56,62,7,8,9,10,11,12,13,14,15,16,17,18,19,20,21,22,23,24,25,26,27,28])
 (sI 1<|sB .eql 2 62<|.ret [56,56,7,8,9,10,11,3,13,14,15,16,17,18,19,20,21,22,23,24,25,26,27,28]))
 (sI 1<|sB .eql 2 60<|.ite 61
 (sT []<|sB .eql 4 62<|.ite 63
 (sI 17<|.ret [56,64,7,8,9,10,11,12,13,14,15,16,17,18,19,20,21,22,23,24,25,26,27,28])
 (.ret [56,56,7,8,9,10,11,3,13,14,15,16,17,18,19,20,21,22,23,24,25,26,27,28]))
 (.ret [56,56,7,8,9,10,11,3,13,14,15,16,17,18,19,20,21,22,23,24,25,26,27,28]))))
 (sT [112,114,105,111,114,105,116,121]<|sB .eql 0 56<|.ite 57
 (sI 0<|sC 46 [58] 0<|sB .neq 2 59<|.ite 60
 (sI 8<|.ret [58,61,7,8,9,10,11,12,13,14,15,16,17,18,19,20,21,22,23,24,25,26,27,28])
 (sB .eql 2 58<|.ite 61
 (.step (.ci .u64 0)<|sB .eql 3 62<|.ite 63
 (sI 17<|.ret [58,64,7,8,9,10,11,12,13,14,15,16,17,18,19,20,21,22,23,24,25,26,27,28])
 (sI 1<|sB .eql 2 64<|.ret [58,58,7,8,9,10,11,12,3,14,15,16,17,18,19,20,21,22,23,24,25,26,27,28]))
 (sI 1<|sB .eql 2 62<|.ite 63
 (sT []<|sB .eql 4 64<|.ite 65
 (sI 17<|.ret [58,66,7,8,9,10,11,12,13,14,15,16,17,18,19,20,21,22,23,24,25,26,27,28])
 (.ret [58,58,7,8,9,10,11,12,3,14,15,16,17,18,19,20,21,22,23,24,25,26,27,28]))
 (.ret [58,58,7,8,9,10,11,12,3,14,15,16,17,18,19,20,21,22,23,24,25,26,27,28]))))
 (sT [100,101,97,100,108,105,110,101]<|sB .eql 0 58<|.ite 59
 (sI 0<|sC 46 [60] 0<|sB .neq 2 61<|.ite 62
 (sI 8<|.ret [60,63,7,8,9,10,11,12,13,14,15,16,17,18,19,20,21,22,23,24,25,26,27,28])
 (sB .eql 2 60<|.ite 63
 (.step (.ci .u64 0)<|sB .eql 3 64<|.ite 65
 (sI 17<|.ret [60,66,7,8,9,10,11,12,13,14,15,16,17,18,19,20,21,22,23,24,25,26,27,28])
 (sI 1<|sB .eql 2 66<|.ret [60,60,7,8,9,10,11,12,13,3,15,16,17,18,19,20,21,22,23,24,25,26,27,28]))
 (sI 1<|sB .eql 2 64<|.ite 65
 (sT []<|sB .eql 4 66<|.ite 67
 (sI 17<|.ret [60,68,7,8,9,10,11,12,13,14,15,16,17,18,19,20,21,22,23,24,25,26,27,28])
 (.ret [60,60,7,8,9,10,11,12,13,3,15,16,17,18,19,20,21,22,23,24,25,26,27,28]))
 (.ret [60,60,7,8,9,10,11,12,13,3,15,16,17,18,19,20,21,22,23,24,25,26,27,28]))))
 (sT [114,101,116,114,121]<|sB .eql 0 60<|.ite 61
 (sI 0<|sC 46 [62] 0<|sB .neq 2 63<|.ite 64
 (sI 8<|.ret [62,65,7,8,9,10,11,12,13,14,15,16,17,18,19,20,21,22,23,24,25,26,27,28])
 (sB .eql 2 62<|.ite 65
 (.step (.ci .u64 0)<|sB .eql 3 66<|.ite 67
 (sI 17<|.ret [62,68,7,8,9,10,11,12,13,14,15,16,17,18,19,20,21,22,23,24,25,26,27,28])
 (sI 1<|sB .eql 2 68<|.ret [62,62,7,8,9,10,11,12,13,14,3,16,17,18,19,20,21,22,23,24,25,26,27,28]))
 (sI 1<|sB .eql 2 66<|.ite 67
 (sT []<|sB .eql 4 68<|.ite 69
 (sI 17<|.ret [62,70,7,8,9,10,11,12,13,14,15,16,17,18,19,20,21,22,23,24,25,26,27,28])
 (.ret [62,62,7,8,9,10,11,12,13,14,3,16,17,18,19,20,21,22,23,24,25,26,27,28]))
 (.ret [62,62,7,8,9,10,11,12,13,14,3,16,17,18,19,20,21,22,23,24,25,26,27,28]))))
 (sT [101,112,111,99,104]<|sB .eql 0 62<|.ite 63
 (sI 0<|sC 46 [64] 0<|sB .neq 2 65<|.ite 66
 (sI 8<|.ret [64,67,7,8,9,10,11,12,13,14,15,16,17,18,19,20,21,22,23,24,25,26,27,28])
 (sB .eql 2 64<|.ite 67
 (.step (.ci .u64 0)<|sB .eql 3 68<|.ite 69
 (sI 17<|.ret [64,70,7,8,9,10,11,12,13,14,15,16,17,18,19,20,21,22,23,24,25,26,27,28])
 (sI 1<|sB .eql 2 70<|.ret [64,64,7,8,9,10,11,12,13,14,15,3,17,18,19,20,21,22,23,24,25,26,27,28]))
 (sI 1<|sB .eql 2 68<|.ite 69
 (sT []<|sB .eql 4 70<|.ite 71
 (sI 17<|.ret [64,72,7,8,9,10,11,12,13,14,15,16,17,18,19,20,21,22,23,24,25,26,27,28])
 (.ret [64,64,7,8,9,10,11,12,13,14,15,3,17,18,19,20,21,22,23,24,25,26,27,28]))
 (.ret [64,64,7,8,9,10,11,12,13,14,15,3,17,18,19,20,21,22,23,24,25,26,27,28]))))
 (sT [98,97,115,101]<|sB .eql 0 64<|.ite 65
 (sI 0<|sC 46 [66] 0<|sB .neq 2 67<|.ite 68
 (sI 8<|.ret [66,69,7,8,9,10,11,12,13,14,15,16,17,18,19,20,21,22,23,24,25,26,27,28])
 (sB .eql 2 66<|.ite 69
 (.step (.ci .u64 0)<|sB .eql 3 70<|.ite 71
 (sI 17<|.ret [66,72,7,8,9,10,11,12,13,14,15,16,17,18,19,20,21,22,23,24,25,26,27,28])
 (sI 1<|sB .eql 2 72<|.ret [66,66,7,8,9,10,11,12,13,14,15,16,3,18,19,20,21,22,23,24,25,26,27,28]))
 (sI 1<|sB .eql 2 70<|.ite 71
 (sT []<|sB .eql 4 72<|.ite 73
 (sI 17<|.ret [66,74,7,8,9,10,11,12,13,14,15,16,17,18,19,20,21,22,23,24,25,26,27,28])
 (.ret [66,66,7,8,9,10,11,12,13,14,15,16,3,18,19,20,21,22,23,24,25,26,27,28]))
 (.ret [66,66,7,8,9,10,11,12,13,14,15,16,3,18,19,20,21,22,23,24,25,26,27,28]))))
 (sT [100,105,103,101,115,116]<|sB .eql 0 66<|.ite 67
 (sI 0<|sC 46 [68] 0<|sB .neq 2 69<|.ite 70
 (sI 8<|.ret [68,71,7,8,9,10,11,12,13,14,15,16,17,18,19,20,21,22,23,24,25,26,27,28])
 (sB .eql 2 68<|.ite 71
 (.step (.ci .u64 0)<|sB .eql 3 72<|.ite 73
 (sI 17<|.ret [68,74,7,8,9,10,11,12,13,14,15,16,17,18,19,20,21,22,23,24,25,26,27,28])
 (sI 1<|sB .eql 2 74<|.ret [68,68,7,8,9,10,11,12,13,14,15,16,17,3,19,20,21,22,23,24,25,26,27,28]))
 (sI 1<|sB .eql 2 72<|.ite 73
 (sT []<|sB .eql 4 74<|.ite 75
 (sI 17<|.ret [68,76,7,8,9,10,11,12,13,14,15,16,17,18,19,20,21,22,23,24,25,26,27,28])
 (.ret [68,68,7,8,9,10,11,12,13,14,15,16,17,3,19,20,21,22,23,24,25,26,27,28]))
 (.ret [68,68,7,8,9,10,11,12,13,14,15,16,17,3,19,20,21,22,23,24,25,26,27,28]))))
 (sT [108,97,103]<|sB .eql 0 68<|.ite 69
 (sI 0<|sC 46 [70] 0<|sB .neq 2 71<|.ite 72
 (sI 8<|.ret [70,73,7,8,9,10,11,12,13,14,15,16,17,18,19,20,21,22,23,24,25,26,27,28])
 (sB .eql 2 70<|.ite 73
 (.step (.ci .u64 0)<|sB .eql 3 74<|.ite 75
 (sI 17<|.ret [70,76,7,8,9,10,11,12,13,14,15,16,17,18,19,20,21,22,23,24,25,26,27,28])
 (sI 1<|sB .eql 2 76<|.ret [70,70,7,8,9,10,11,12,13,14,15,16,17,18,3,20,21,22,23,24,25,26,27,28]))
 (sI 1<|sB .eql 2 74<|.ite 75
 (sT []<|sB .eql 4 76<|.ite 77
 (sI 17<|.ret [70,78,7,8,9,10,11,12,13,14,15,16,17,18,19,20,21,22,23,24,25,26,27,28])
 (.ret [70,70,7,8,9,10,11,12,13,14,15,16,17,18,3,20,21,22,23,24,25,26,27,28]))
 (.ret [70,70,7,8,9,10,11,12,13,14,15,16,17,18,3,20,21,22,23,24,25,26,27,28]))))
 (sT [99,111,100,101]<|sB .eql 0 70<|.ite 71
 (sI 0<|sC 46 [72] 0<|sB .neq 2 73<|.ite 74
 (sI 8<|.ret [72,75,7,8,9,10,11,12,13,14,15,16,17,18,19,20,21,22,23,24,25,26,27,28])
 (sB .eql 2 72<|.ite 75
 (.step (.ci .u64 0)<|sB .eql 3 76<|.ite 77
 (sI 17<|.ret [72,78,7,8,9,10,11,12,13,14,15,16,17,18,19,20,21,22,23,24,25,26,27,28])
 (sI 1<|sB .eql 2 78<|.ret [72,72,7,8,9,10,11,12,13,14,15,16,17,18,19,3,21,22,23,24,25,26,27,28]))
 (sI 1<|sB .eql 2 76<|.ite 77
 (sT []<|sB .eql 4 78<|.ite 79
 (sI 17<|.ret [72,80,7,8,9,10,11,12,13,14,15,16,17,18,19,20,21,22,23,24,25,26,27,28])
 (.ret [72,72,7,8,9,10,11,12,13,14,15,16,17,18,19,3,21,22,23,24,25,26,27,28]))
 (.ret [72,72,7,8,9,10,11,12,13,14,15,16,17,18,19,3,21,22,23,24,25,26,27,28]))))
 (sT [119,97,110,116]<|sB .eql 0 72<|.ite 73
 (sI 0<|sC 46 [74] 0<|sB .neq 2 75<|.ite 76
 (sI 8<|.ret [74,77,7,8,9,10,11,12,13,14,15,16,17,18,19,20,21,22,23,24,25,26,27,28])
 (sB .eql 2 74<|.ite 77
 (.step (.ci .u64 0)<|sB .eql 3 78<|.ite 79
 (sI 17<|.ret [74,80,7,8,9,10,11,12,13,14,15,16,17,18,19,20,21,22,23,24,25,26,27,28])
 (sI 1<|sB .eql 2 80<|.ret [74,74,7,8,9,10,11,12,13,14,15,16,17,18,19,20,3,22,23,24,25,26,27,28]))
 (sI 1<|sB .eql 2 78<|.ite 79
 (sT []<|sB .eql 4 80<|.ite 81
 (sI 17<|.ret [74,82,7,8,9,10,11,12,13,14,15,16,17,18,19,20,21,22,23,24,25,26,27,28])
 (.ret [74,74,7,8,9,10,11,12,13,14,15,16,17,18,19,20,3,22,23,24,25,26,27,28]))
 (.ret [74,74,7,8,9,10,11,12,13,14,15,16,17,18,19,20,3,22,23,24,25,26,27,28]))))
 (sI 26<|sI 0<|.ret [75,74,7,8,9,10,11,12,13,14,15,16,17,18,19,20,21,22,23,24,25,26,27,28]))))))))))))))))))))))
def d34:aI:=.tree 24<|sC 35 [] 0<|.step (.len 24)<|sI 0<|.step (.ml [])<|sC 36 [24,25,26,27,0,1,2,3,4,5,6,7,8,9,10,11,12,13,14,15,16,17,18,19,20,21,22,23] 0<|
 sC 36 [24,25,26,27,0,1,2,3,4,5,6,7,8,9,10,11,12,13,14,15,16,17,18,19,20,21,22,23] 1<|.ret [26,29]
def aeI:aI:=.tree 5<|sB .lss 4 1<|.ite 5
 (.step (.nC 0 4)<|.step (.ci .u8 128)<|sB .rem 6 7<|.step (.conv .u64 8)<|sB .mul 9 3<|sB .add 2 10<|.step (.ci .u64 128)<|sB .mul 3 12<|
 sI 1<|sB .add 4 14<|.tail 108 [0,1,11,13,15])
 (sI 0<|.ret [6,1,2])
def d86:aI:=.tree 3<|.step (.len 0)<|sB .lss 2 3<|.ite 4
 (sI 0<|sB .eql 1 5<|.ite 6
 (sA 2 0 2<|sL 0 7<|sL 1 7<|.step (.mk [8,9])<|sC 87 [10] 0<|sB .eql 11 5<|.ite 12
 (sB .gtr 2 5<|.ite 13
 (sI 1<|sB .sub 2 14<|sA 2 0 15<|sL 0 16<|sL 1 16<|.step (.mk [17,18])<|sC 93 [19,10] 0<|sB .add 2 14<|
 .tail 86 [0,20,21])
 (sI 1<|sB .add 2 14<|.tail 86 [0,11,15]))
 (sI 1<|sB .add 2 13<|.tail 86 [0,11,14]))
 (.ret [5,1]))
 (sI 0<|.ret [5,1])
def d57:aI:=.tree 6<|sB .lss 3 2<|.ite 6
 (sI 0<|sB .eql 3 7<|uO 58 [4,5,1,8]<|
 sB .neq 11 7<|.ite 14
 (.ret [7,11,12,13])
 (acj 59 [10,12,13]<|
 sB .neq 18 7<|.ite 21
 (.ret [7,18,19,20])
 (.step (.mk [16,17])<|.step (.ml [22])<|.step (.app 2 32 0 23)<|sI 1<|sB .add 3 25<|.tail 57 [24,10,2,26,19,20])))
 (sI 1<|.ret [7,0,4,5])
def d68:aI:=.tree 51<|sB .lss 2 1<|.ite 51
 (sA 1 0 2<|sL 0 52<|sC 69 [53] 0<|sI 0<|sB .lss 54 55<|.ite 56
 (sI 26<|.ret [55,57])
 (.step (.mk [3,4,5,6,7,8,9,10,11,12,13,14,15,16,17,18,19,20,21,22,23,24,25,26])<|sC 73 [57,53] 0<|sC 73 [57,53] 1<|.step (.ci .u64 0)<|
 sB .eql 58 60<|.ite 61
 (sT []<|sB .eql 59 62<|.ite 63
 (sT [105,100]<|sB .eql 53 64<|.ite 65
 (sI 1<|sB .add 2 66<|.tail 68 [0,1,67,3,4,5,6,7,8,9,10,11,12,13,14,15,16,17,18,19,20,21,22,23,24,25,26,27,60,29,30,31,32,33,34,35,36,37,38,39,40,41,42,43,44,45,46,47,48,49,50])
 (sT [109,105,110]<|sB .eql 53 66<|.ite 67
 (sI 1<|sB .add 2 68<|.tail 68 [0,1,69,3,4,5,6,7,8,9,10,11,12,13,14,15,16,17,18,19,20,21,22,23,24,25,26,27,28,60,30,31,32,33,34,35,36,37,38,39,40,41,42,43,44,45,46,47,48,49,50])
 (sT [109,97,120]<|sB .eql 53 68<|.ite 69
 (sI 1<|sB .add 2 70<|.tail 68 [0,1,71,3,4,5,6,7,8,9,10,11,12,13,14,15,16,17,18,19,20,21,22,23,24,25,26,27,28,29,60,31,32,33,34,35,36,37,38,39,40,41,42,43,44,45,46,47,48,49,50])
 (sT [99,104,111,115,101,110]<|sB .eql 53 70<|.ite 71
 (sI 1<|sB .add 2 72<|.tail 68 [0,1,73,3,4,5,6,7,8,9,10,11,12,13,14,15,16,17,18,19,20,21,22,23,24,25,26,27,28,29,30,60,32,33,34,35,36,37,38,39,40,41,42,43,44,45,46,47,48,49,50])
 (sT [102,108,97,103,115]<|sB .eql 53 72<|.ite 73
 (sI 1<|sB .add 2 74<|.tail 68 [0,1,75,3,4,5,6,7,8,9,10,11,12,13,14,15,16,17,18,19,20,21,22,23,24,25,26,27,28,29,30,31,60,33,34,35,36,37,38,39,40,41,42,43,44,45,46,47,48,49,50])
 (sT [99,111,115,116]<|sB .eql 53 74<|.ite 75
 (sI 1<|sB .add 2 76<|.tail 68 [0,1,77,3,4,5,6,7,8,9,10,11,12,13,14,15,16,17,18,19,20,21,22,23,24,25,26,27,28,29,30,31,32,60,34,35,36,37,38,39,40,41,42,43,44,45,46,47,48,49,50])
 (sT [112,114,105,111,114,105,116,121]<|sB .eql 53 76<|.ite 77
 (sI 1<|sB .add 2 78<|.tail 68 [0,1,79,3,4,5,6,7,8,9,10,11,12,13,14,15,16,17,18,19,20,21,22,23,24,25,26,27,28,29,30,31,32,33,60,35,36,37,38,39,40,41,42,43,44,45,46,47,48,49,50])
 (sT [100,101,97,100,108,105,110,101]<|sB .eql 53 78<|.ite 79
 (sI 1<|sB .add 2 80<|.tail 68 [0,1,81,3,4,5,6,7,8,9,10,11,12,13,14,15,16,17,18,19,20,21,22,23,24,25,26,27,28,29,30,31,32,33,34,60,36,37,38,39,40,41,42,43,44,45,46,47,48,49,50])
 (sT [114,101,116,114,121]<|sB .eql 53 80<|.ite 81
 (sI 1<|sB .add 2 82<|.tail 68 [0,1,83,3,4,5,6,7,8,9,10,11,12,13,14,15,16,17,18,19,20,21,22,23,24,25,26,27,28,29,30,31,32,33,34,35,60,37,38,39,40,41,42,43,44,45,46,47,48,49,50])
 (sT [101,112,111,99,104]<|sB .eql 53 82<|.ite 83
 (sI 1<|sB .add 2 84<|.tail 68 [0,1,85,3,4,5,6,7,8,9,10,11,12,13,14,15,16,17,18,19,20,21,22,23,24,25,26,27,28,29,30,31,32,33,34,35,36,60,38,39,40,41,42,43,44,45,46,47,48,49,50])
 (sT [98,97,115,101]<|sB .eql 53 84<|.ite 85
 (sI 1<|sB .add 2 86<|.tail 68 [0,1,87,3,4,5,6,7,8,9,10,11,12,13,14,15,16,17,18,19,20,21,22,23,24,25,26,27,28,29,30,31,32,33,34,35,36,37,60,39,40,41,42,43,44,45,46,47,48,49,50])
 (sT [100,105,103,101,115,116]<|sB .eql 53 86<|.ite 87
 (sI 1<|sB .add 2 88<|.tail 68 [0,1,89,3,4,5,6,7,8,9,10,11,12,13,14,15,16,17,18,19,20,21,22,23,24,25,26,27,28,29,30,31,32,33,34,35,36,37,38,60,40,41,42,43,44,45,46,47,48,49,50])
 (sT [108,97,103]<|sB .eql 53 88<|.ite 89
 (sI 1<|sB .add 2 90<|.tail 68 [0,1,91,3,4,5,6,7,8,9,10,11,12,13,14,15,16,17,18,19,20,21,22,23,24,25,26,27,28,29,30,31,32,33,34,35,36,37,38,39,60,41,42,43,44,45,46,47,48,49,50])
 (sT [99,111,100,101]<|sB .eql 53 90<|.ite 91
 (sI 1<|sB .add 2 92<|.tail 68 [0,1,93,3,4,5,6,7,8,9,10,11,12,13,14,15,16,17,18,19,20,21,22,23,24,25,26,27,28,29,30,31,32,33,34,35,36,37,38,39,40,60,42,43,44,45,46,47,48,49,50])
 (sT [119,97,110,116]<|sB .eql 53 92<|.ite 93
 (sI 1<|sB .add 2 94<|.tail 68 [0,1,95,3,4,5,6,7,8,9,10,11,12,13,14,15,16,17,18,19,20,21,22,23,24,25,26,27,28,29,30,31,32,33,34,35,36,37,38,39,40,41,60,43,44,45,46,47,48,49,50])
 (sT [114,101,109,97,105,110,105,110,103]<|sB .eql 53 94<|.ite 95
 (sI 1<|sB .add 2 96<|.tail 68 [0,1,97,3,4,5,6,7,8,9,10,11,12,13,14,15,16,17,18,19,20,21,22,23,24,25,26,27,28,29,30,31,32,33,34,35,36,37,38,39,40,41,42,55,44,45,46,47,48,49,50])
 (sT [97,108,108,111,119,101,100]<|sB .eql 53 96<|.ite 97
 (sI 1<|sB .add 2 98<|.step (.cb false)<|.tail 68 [0,1,99,3,4,5,6,7,8,9,10,11,12,13,14,15,16,17,18,19,20,21,22,23,24,25,26,27,28,29,30,31,32,33,34,35,36,37,38,39,40,41,42,43,100,45,46,47,48,49,50])
 (sT [110,97,109,101]<|sB .eql 53 98<|.ite 99
 (sI 1<|sB .add 2 100<|.tail 68 [0,1,101,3,4,5,6,7,8,9,10,11,12,13,14,15,16,17,18,19,20,21,22,23,24,25,26,27,28,29,30,31,32,33,34,35,36,37,38,39,40,41,42,43,44,62,46,47,48,49,50])
 (sT [114,101,103,105,111,110]<|sB .eql 53 100<|.ite 101
 (sI 1<|sB .add 2 102<|.tail 68 [0,1,103,3,4,5,6,7,8,9,10,11,12,13,14,15,16,17,18,19,20,21,22,23,24,25,26,27,28,29,30,31,32,33,34,35,36,37,38,39,40,41,42,43,44,45,62,47,48,49,50])
 (sT [110,111,116,101]<|sB .eql 53 102<|.ite 103
 (sI 1<|sB .add 2 104<|.tail 68 [0,1,105,3,4,5,6,7,8,9,10,11,12,13,14,15,16,17,18,19,20,21,22,23,24,25,26,27,28,29,30,31,32,33,34,35,36,37,38,39,40,41,42,43,44,45,46,62,48,49,50])
 (sT [100,101,115,99,114]<|sB .eql 53 104<|.ite 105
 (sI 1<|sB .add 2 106<|.step (.ml [])<|.tail 68 [0,1,107,3,4,5,6,7,8,9,10,11,12,13,14,15,16,17,18,19,20,21,22,23,24,25,26,27,28,29,30,31,32,33,34,35,36,37,38,39,40,41,42,43,44,45,46,47,108,49,50])
 (sT [116,97,98,108,101]<|sB .eql 53 106<|.ite 107
 (sI 1<|sB .add 2 108<|.step (.ml [])<|.tail 68 [0,1,109,3,4,5,6,7,8,9,10,11,12,13,14,15,16,17,18,19,20,21,22,23,24,25,26,27,28,29,30,31,32,33,34,35,36,37,38,39,40,41,42,43,44,45,46,47,48,110,50])
 (sI 1<|sB .add 2 108<|.tail 68 [0,1,109,3,4,5,6,7,8,9,10,11,12,13,14,15,16,17,18,19,20,21,22,23,24,25,26,27,28,29,30,31,32,33,34,35,36,37,38,39,40,41,42,43,44,45,46,47,48,49,50])))))))))))))))))))))))
 (sI 3<|sB .quo 54 64<|.step (.mk [27,28,29,30,31,32,33,34,35,36,37,38,39,40,41,42,43,44,45,46,47,48,49,50])<|sC 103 [66,53,65,58,59] 0<|
 sL 0 67<|sL 1 67<|sL 2 67<|sL 3 67<|sL 4 67<|sL 5 67<|sL 6 67<|sL 7 67<|sL 8 67<|
 sL 9 67<|sL 10 67<|sL 11 67<|sL 12 67<|sL 13 67<|sL 14 67<|sL 15 67<|sL 16 67<|sL 17 67<|
 sL 18 67<|sL 19 67<|sL 20 67<|sL 21 67<|sL 22 67<|sL 23 67<|sC 103 [66,53,65,58,59] 1<|sB .neq 92 55<|
 .ite 93
 (.ret [55,92])
 (sI 1<|sB .add 2 94<|.tail 68 [0,1,95,3,4,5,6,7,8,9,10,11,12,13,14,15,16,17,18,19,20,21,22,23,24,25,26,68,69,70,71,72,73,74,75,76,77,78,79,80,81,82,83,84,85,86,87,88,89,90,91])))
 (sI 3<|sB .quo 54 62<|.step (.mk [27,28,29,30,31,32,33,34,35,36,37,38,39,40,41,42,43,44,45,46,47,48,49,50])<|sC 103 [64,53,63,58,59] 0<|
 sL 0 65<|sL 1 65<|sL 2 65<|sL 3 65<|sL 4 65<|sL 5 65<|sL 6 65<|sL 7 65<|sL 8 65<|
 sL 9 65<|sL 10 65<|sL 11 65<|sL 12 65<|sL 13 65<|sL 14 65<|sL 15 65<|sL 16 65<|sL 17 65<|
 sL 18 65<|sL 19 65<|sL 20 65<|sL 21 65<|sL 22 65<|sL 23 65<|sC 103 [64,53,63,58,59] 1<|sB .neq 90 55<|
 .ite 91
 (.ret [55,90])
 (sI 1<|sB .add 2 92<|.tail 68 [0,1,93,3,4,5,6,7,8,9,10,11,12,13,14,15,16,17,18,19,20,21,22,23,24,25,26,66,67,68,69,70,71,72,73,74,75,76,77,78,79,80,81,82,83,84,85,86,87,88,89]))))
 (sI 1<|.ret [52,27,28,29,30,31,32,33,34,35,36,37,38,39,40,41,42,43,44,45,46,47,48,49,50])
def aeR:aI:=.tree 54<|sB .lss 3 2<|.ite 54
 (sA 1 1 3<|sL 0 55<|sT []<|sB .eql 56 57<|sI 0<|.step (.ci .u64 0)<|.step (.mk [59,60,57])<|.step (.yM 61 5 56)<|sL 0 62<|
 sL 1 62<|sL 2 62<|.step (.yM 61 4 56)<|sL 0 66<|sL 1 66<|sL 2 66<|.step (.mk [63,64,65])<|.step (.mk [67,68,69])<|.step (.uq .neq [0,0,1] 70 71)<|
 .ite 72
 (.step (.ml [56])<|.step (.app 1 16 0 73)<|sI 1<|sB .add 3 75<|.tail 117 [74,1,2,76,4,5,6,7,8,9,10,11,12,13,14,15,16,17,18,19,20,21,22,23,24,25,26,27,28,29,30,31,32,33,34,35,36,37,38,39,40,41,42,43,44,45,46,47,48,49,50,51,52,53])
 (sI 1<|sB .add 3 73<|.tail 117 [0,1,2,74,4,5,6,7,8,9,10,11,12,13,14,15,16,17,18,19,20,21,22,23,24,25,26,27,28,29,30,31,32,33,34,35,36,37,38,39,40,41,42,43,44,45,46,47,48,49,50,51,52,53]))
 (sI 0<|.ret [55,0])
def d20:aI:=.tree 3<|sB .lss 2 1<|.ite 3
 (sA 2 0 2<|sL 0 4<|sL 1 4<|.step (.mk [5,6])<|sC 21 [7] 0<|sI 0<|sB .neq 8 9<|.ite 10
 (.ret [9,8])
 (sB .eql 2 9<|.ite 11
 (sI 1<|sB .add 2 12<|.tail 20 [0,1,13])
 (sI 1<|sB .sub 2 12<|sA 2 0 13<|sL 0 14<|sB .eql 5 15<|.ite 16
 (sI 14<|.ret [9,17])
 (sB .lss 5 15<|.ite 17
 (sI 7<|.ret [9,18])
 (sB .add 2 12<|.tail 20 [0,1,18])))))
 (sI 1<|.ret [4])
def aeZ:aI:=.tree 4<|sB .lss 3 2<|.ite 4
 (sA 5 0 3<|sL 0 5<|sA 5 1 3<|sL 0 7<|sB .neq 6 8<|.ite 9
 (sI 0<|.ret [10])
 (sL 1 5<|sL 1 7<|sB .neq 10 11<|.ite 12
 (sI 0<|.ret [13])
 (sL 2 5<|sL 2 7<|sB .neq 13 14<|.ite 15
 (sI 0<|.ret [16])
 (sL 3 5<|sL 3 7<|sB .neq 16 17<|.ite 18
 (sI 0<|.ret [19])
 (sL 4 5<|sL 4 7<|sC 124 [19,20] 0<|.step (.un .not 21)<|.ite 22
 (sI 0<|.ret [23])
 (sI 1<|sB .add 3 23<|.tail 125 [0,1,2,24]))))))
 (sI 1<|.ret [5])
def d52:aI:=.tree 5<|sB .lss 2 1<|.ite 5
 (acj 53 [3,4]<|
 sI 0<|
 sB .neq 9 12<|.ite 13
 (.ret [12,9,10,11])
 (sB .gtr 2 12<|.ite 14
 (sI 1<|sB .sub 2 15<|.step (.idx 0 16)<|sA 2 0 17<|sL 0 18<|sB .eql 7 19<|.ite 20
 (sI 14<|.ret [12,21,10,11])
 (sB .lss 7 19<|.ite 21
 (sI 7<|.ret [12,22,10,11])
 (.step (.mk [7,8])<|.step (.ml [22])<|.step (.app 2 32 0 23)<|sB .add 2 15<|.tail 52 [24,1,25,10,11])))
 (.step (.mk [7,8])<|.step (.ml [15])<|.step (.app 2 32 0 16)<|sI 1<|sB .add 2 18<|.tail 52 [17,1,19,10,11])))
 (sI 1<|.ret [6,0,3,4])
def aeJ:aI:=.tree 4<|sB .lss 3 1<|.ite 4
 (sC 110 [0] 0<|sL 0 5<|sL 1 5<|sC 110 [0] 1<|sC 110 [0] 2<|sI 0<|sB .eql 9 10<|.ite 11
 (.step (.ci .u64 0)<|sB .gtr 3 12<|.ite 13
 (.step (.ci .u64 1)<|sB .sub 3 14<|.step (.idx 2 15)<|sA 2 2 16<|sL 0 17<|sL 1 17<|.step (.mk [18,19])<|.step (.mk [6,7])<|sC 93 [20,21] 0<|
 sB .neq 22 10<|.ite 23
 (.ret [10,22])
 (.step (.ml [21])<|.step (.app 2 32 2 24)<|sB .add 3 14<|.tail 109 [8,1,25,26]))
 (sB .neq 9 10<|.step (.mk [6,7])<|.step (.ml [15])<|.step (.app 2 32 2 16)<|.step (.ci .u64 1)<|sB .add 3 18<|.tail 109 [8,1,17,19]))
 (sB .neq 9 10<|.ret [10,9]))
 (sI 1<|.ret [5,0,2])
def aeT:aI:=.tree 1<|.step (.len 0)<|sI 0<|sB .gtr 1 2<|.ite 3
 (sI 1<|sB .sub 1 4<|.step (.idx 0 5)<|sA 2 0 6<|sL 0 7<|sL 1 7<|.step (.wM 2 0 2 5)<|.step (.len 8)<|.step (.len 9)<|sB .neq 11 12<|
 .ite 13
 (.ret [2])
 (sC 120 [10,11,2,8,9] 0<|sB .eql 14 2<|.ite 15
 (.ret [2])
 (sC 120 [10,11,2,8,9] 1<|.tail 119 [16])))
 (sI 1<|.ret [4])
def d10:aI:=.tree 2<|.step (.ci .u64 128)<|sB .geq 0 2<|.ite 3
 (.step (.ci .u64 7)<|sB .shr 0 4<|sI 1<|sB .add 1 6<|.tail 10 [5,7])
 (sI 0<|.ret [4,1])
def aeH:aI:=.tree 3<|.step (.slen 0)<|sB .lss 2 3<|.ite 4
 (sI 10<|sB .lss 2 5<|.ite 6
 (sI 0<|sB .eql 1 7<|.ite 8
 (.step (.nC 0 2)<|.step (.ci .u8 128)<|sB .lss 9 10<|.ite 11
 (sI 1<|sB .add 2 12<|.tail 107 [0,13,13])
 (sI 1<|sB .add 2 12<|.tail 107 [0,1,13]))
 (.ret [7,0,1]))
 (sI 0<|.ret [7,0,1]))
 (sI 0<|.ret [5,0,1])
def ae3:aI:=.tree 51<|sB .lss 2 1<|.ite 51
 (sA 1 0 2<|sL 0 52<|sT [100,101,115,99,114]<|sB .eql 53 54<|.ite 55
 (sI 1<|sB .add 2 56<|.tail 129 [0,1,57,3,4,5,6,7,8,9,10,11,12,13,14,15,16,17,18,19,20,21,22,23,24,25,26,27,28,29,30,31,32,33,34,35,36,37,38,39,40,41,42,43,44,45,46,47,48,49,50])
 (sT [116,97,98,108,101]<|sB .eql 53 56<|.ite 57
 (sI 1<|sB .add 2 58<|.tail 129 [0,1,59,3,4,5,6,7,8,9,10,11,12,13,14,15,16,17,18,19,20,21,22,23,24,25,26,27,28,29,30,31,32,33,34,35,36,37,38,39,40,41,42,43,44,45,46,47,48,49,50])
 (.step (.mk [27,28,29,30,31,32,33,34,35,36,37,38,39,40,41,42,43,44,45,46,47,48,49,50])<|sC 73 [58,53] 0<|sC 73 [58,53] 1<|.step (.mk [3,4,5,6,7,8,9,10,11,12,13,14,15,16,17,18,19,20,21,22,23,24,25,26])<|
 sC 73 [61,53] 0<|sC 73 [61,53] 1<|sB .neq 59 62<|.ite 64
 (sI 0<|.ret [65])
 (sB .neq 60 63<|.ite 65
 (sI 0<|.ret [66])
 (sI 1<|sB .add 2 66<|.tail 129 [0,1,67,3,4,5,6,7,8,9,10,11,12,13,14,15,16,17,18,19,20,21,22,23,24,25,26,27,28,29,30,31,32,33,34,35,36,37,38,39,40,41,42,43,44,45,46,47,48,49,50])))))
 (sI 1<|.ret [52])
def d51:aI:=.tree 4<|sB .lss 3 2<|.ite 4
 (.step (.nC 0 3)<|.step (.ci .u8 127)<|sB .and 5 6<|.step (.conv .u64 7)<|sI 7<|sB .mul 9 3<|sB .shl 8 10<|sB .or 1 11<|.step (.ci .u8 128)<|
 sB .geq 5 13<|.ite 14
 (sI 1<|sB .add 3 15<|.tail 51 [0,12,2,16])
 (sI 9<|sB .eql 3 15<|.ite 16
 (.step (.ci .u8 1)<|sB .gtr 5 17<|.ite 18
 (.step (.ci .u64 0)<|sI 0<|sI 3<|.ret [20,19,20,21])
 (sI 0<|sB .gtr 3 19<|.ite 20
 (.step (.ci .u8 0)<|sB .eql 5 21<|.ite 22
 (.step (.ci .u64 0)<|sI 2<|.ret [19,23,19,24])
 (sI 1<|sB .add 3 23<|.ret [19,12,24,19]))
 (sI 1<|sB .add 3 21<|.ret [19,12,22,19])))
 (sI 0<|sB .gtr 3 17<|.ite 18
 (.step (.ci .u8 0)<|sB .eql 5 19<|.ite 20
 (.step (.ci .u64 0)<|sI 2<|.ret [17,21,17,22])
 (sI 1<|sB .add 3 21<|.ret [17,12,22,17]))
 (sI 1<|sB .add 3 19<|.ret [17,12,20,17]))))
 (sI 1<|.ret [5,0])
def d96:aI:=.tree 3<|.step (.slen 0)<|sB .lss 2 3<|.ite 4
 (.step (.slen 1)<|sB .lss 2 5<|.ite 6
 (.step (.nC 0 2)<|.step (.nC 1 2)<|sB .neq 7 8<|.ite 9
 (sB .lss 7 8<|sI 0<|.ret [11,10])
 (sI 1<|sB .add 2 10<|.tail 96 [0,1,11]))
 (sI 1<|.ret [7]))
 (sI 1<|.ret [5])
def d28:aI:=.tree 3<|.step (.len 0)<|sI 0<|sB .gtr 3 4<|.ite 5
 (sA 5 0 4<|sL 0 6<|sB .geq 7 1<|.ite 8
 (sL 1 6<|sL 2 6<|sL 3 6<|sL 4 6<|.step (.conv .i64 10)<|.step (.ci .u8 255)<|sB .eql 7 14<|.ite 15
 (sI 1<|.step (.wM 5 0 16 3)<|.step (.ml [])<|.step (.mk [9,13,11,12,18])<|.step (.ml [19])<|.step (.app 5 64 2 20)<|.tail 28 [17,1,21])
 (sI 1<|.step (.wM 5 0 16 3)<|.step (.ci .u8 1)<|sB .add 7 18<|sC 27 [17,19] 0<|sC 27 [17,19] 1<|.step (.mk [9,13,11,12,20])<|
 .step (.ml [22])<|.step (.app 5 64 2 23)<|.tail 28 [21,1,24]))
 (.ret [4,0,2]))
 (.ret [4,0,2])
def aeX:aI:=.tree 52<|sB .lss 3 2<|.ite 52
 (sA 1 1 3<|sL 0 53<|.step (.mk [28,29,30,31,32,33,34,35,36,37,38,39,40,41,42,43,44,45,46,47,48,49,50,51])<|sC 73 [55,54] 0<|
 sC 73 [55,54] 1<|.step (.mk [4,5,6,7,8,9,10,11,12,13,14,15,16,17,18,19,20,21,22,23,24,25,26,27])<|sC 73 [58,54] 0<|sC 73 [58,54] 1<|
 sB .neq 56 59<|.ite 61
 (.step (.ml [54])<|.step (.app 1 16 0 62)<|sI 1<|sB .add 3 64<|.tail 123 [63,1,2,65,4,5,6,7,8,9,10,11,12,13,14,15,16,17,18,19,20,21,22,23,24,25,26,27,28,29,30,31,32,33,34,35,36,37,38,39,40,41,42,43,44,45,46,47,48,49,50,51])
 (sB .neq 57 60<|.ite 62
 (.step (.ml [54])<|.step (.app 1 16 0 63)<|sI 1<|sB .add 3 65<|.tail 123 [64,1,2,66,4,5,6,7,8,9,10,11,12,13,14,15,16,17,18,19,20,21,22,23,24,25,26,27,28,29,30,31,32,33,34,35,36,37,38,39,40,41,42,43,44,45,46,47,48,49,50,51])
 (sI 1<|sB .add 3 63<|.tail 123 [0,1,2,64,4,5,6,7,8,9,10,11,12,13,14,15,16,17,18,19,20,21,22,23,24,25,26,27,28,29,30,31,32,33,34,35,36,37,38,39,40,41,42,43,44,45,46,47,48,49,50,51])))
 (sI 0<|.ret [53,0])
def d90:aI:=.tree 1<|.step (.slen 0)<|sI 0<|sB .gtr 1 2<|.ite 3
 (sC 91 [0] 0<|sB .eql 4 2<|.ite 5
 (.ret [2])
 (.step (.jc 0 4 1)<|.tail 90 [6]))
 (sI 1<|.ret [4])
def d42:aI:=.tree 3<|.step (.slen 0)<|sB .lss 2 3<|.ite 4
 (.step (.slen 1)<|sB .lss 2 5<|.ite 6
 (.step (.nC 0 2)<|.step (.nC 1 2)<|sB .eql 7 8<|.ite 9
 (sI 1<|sB .add 2 10<|.tail 42 [0,1,11])
 (sI 0<|.ret [10,2]))
 (sI 0<|.ret [7,2]))
 (sI 0<|.ret [5,2])
def d4:aI:=.tree 3<|sB .lss 2 1<|.ite 3
 (sA 2 0 2<|sL 0 4<|sL 1 4<|.step (.slen 5)<|.step (.slen 6)<|sB .add 7 8<|sI 600<|sB .gtr 9 10<|.ite 11
 (sI 0<|.ret [12])
 (sI 1<|sB .add 2 12<|.tail 4 [0,1,13]))
 (sI 1<|.ret [4])
def d78:aI:=.tree 2<|.step (.ci .u64 127)<|sB .gtr 0 2<|.ite 3
 (.step (.ci .u64 128)<|sB .rem 0 4<|sB .add 5 4<|.step (.conv .u8 6)<|.step (.ml [7])<|.step (.str 8)<|sB .add 1 9<|sB .quo 0 4<|.tail 78 [11,10])
 (sI 0<|.ret [4,0,1])
def ae1:aI:=.tree 4<|sB .lss 3 2<|.ite 4
 (sA 1 0 3<|sL 0 5<|sA 1 1 3<|sL 0 7<|sB .neq 6 8<|.ite 9
 (sI 0<|.ret [10])
 (sI 1<|sB .add 3 10<|.tail 127 [0,1,2,11]))
 (sI 1<|.ret [5])
def d79:aI:=.tree 4<|sB .lss 3 2<|.ite 4
 (sA 2 1 3<|sL 0 5<|sL 1 5<|.step (.mk [6,7])<|sC 80 [8] 0<|sB .add 0 9<|sI 1<|sB .add 3 11<|.tail 79 [10,1,2,12])
 (sI 0<|.ret [5,0])
def d39:aI:=.tree 5<|sB .lss 3 2<|.ite 5
 (sA 2 1 3<|sL 0 6<|sL 1 6<|sC 7 [7] 0<|sC 40 [0,9] 0<|.step (.bytes 10)<|.step (.app 1 1 4 11)<|.step (.slen 10)<|sC 8 [8] 0<|
 .step (.bytes 14)<|.step (.app 1 1 12 15)<|.step (.slen 14)<|sI 1<|sB .add 3 18<|.tail 39 [9,1,2,19,16])
 (sI 0<|.ret [6,4])
def ae7:aI:=.tree 50<|sB .lss 1 0<|.ite 50
 (sA 2 47 1<|sL 0 51<|sL 1 51<|sA 2 23 1<|sL 0 54<|sL 1 54<|.step (.mk [52,53])<|.step (.mk [55,56])<|.step (.uq .neq [1,1] 57 58)<|
 .ite 59
 (sI 0<|.ret [60])
 (sI 1<|sB .add 1 60<|.tail 133 [0,61,2,3,4,5,6,7,8,9,10,11,12,13,14,15,16,17,18,19,20,21,22,23,24,25,26,27,28,29,30,31,32,33,34,35,36,37,38,39,40,41,42,43,44,45,46,47,48,49]))
 (sI 1<|.ret [51])
def d36:aI:=.tree 28<|sB .lss 2 1<|.ite 28
 (sA 1 0 2<|sL 0 29<|.step (.mk [4,5,6,7,8,9,10,11,12,13,14,15,16,17,18,19,20,21,22,23,24,25,26,27])<|sC 37 [31,30] 0<|sL 0 32<|
 sL 1 32<|sL 2 32<|sL 3 32<|sL 4 32<|sC 37 [31,30] 1<|.ite 38
 (sT []<|sB .eql 30 39<|.step (.mk [34,35,36])<|.step (.yN 3 30 41)<|sI 1<|sB .add 2 43<|.tail 36 [0,1,44,42,4,5,6,7,8,9,10,11,12,13,14,15,16,17,18,19,20,21,22,23,24,25,26,27])
 (sI 1<|sB .add 2 39<|.tail 36 [0,1,40,3,4,5,6,7,8,9,10,11,12,13,14,15,16,17,18,19,20,21,22,23,24,25,26,27]))
 (sI 0<|.ret [29,3])
def d70:aI:=.tree 2<|sI 8<|sB .leq 1 2<|.ite 3
 (sC 71 [1] 0<|.step (.len 4)<|sI 0<|sC 72 [0,1,4,5,6] 0<|sB .eql 7 6<|.ite 8
 (sC 72 [0,1,4,5,6] 1<|.ret [6,9])
 (sI 1<|sB .add 1 9<|.tail 70 [0,10]))
 (sI 1<|.ret [4])
def aeU:aI:=.tree 5<|sB .lss 2 1<|.ite 5
 (sA 5 3 2<|sA 5 4 2<|sL 0 6<|sL 0 7<|sB .eql 8 9<|.ite 10
 (sL 1 6<|sL 1 7<|sB .eql 11 12<|.ite 13
 (sL 2 6<|sL 2 7<|sB .eql 14 15<|.ite 16
 (sL 3 6<|sL 3 7<|sB .eql 17 18<|.step (.un .not 19)<|.ite 20
 (sI 0<|.ret [21])
 (sL 4 6<|.step (.len 21)<|sI 0<|sB .gtr 22 23<|.ite 24
 (sL 4 7<|.step (.mk [21,25])<|.step (.ml [26])<|.step (.app 2 48 0 27)<|sI 1<|sB .add 2 29<|.tail 120 [28,1,30,3,4])
 (sL 4 7<|.step (.len 25)<|sB .gtr 26 23<|.ite 27
 (.step (.mk [21,25])<|.step (.ml [28])<|.step (.app 2 48 0 29)<|sI 1<|sB .add 2 31<|.tail 120 [30,1,32,3,4])
 (sI 1<|sB .add 2 28<|.tail 120 [0,1,29,3,4]))))
 (sI 0<|.ret [17]))
 (sI 0<|.ret [14]))
 (sI 0<|.ret [11]))
 (sI 1<|.ret [6,0])
def aeO:aI:=.tree 5<|sB .lss 4 1<|.ite 5
 (.step (.ci .u64 0)<|sB .eql 4 6<|sC 115 [0,3,7] 0<|sC 115 [0,3,7] 1<|sC 115 [0,3,7] 2<|sI 0<|sB .neq 10 11<|
 .ite 12
 (.ret [11,10])
 (sC 104 [8] 0<|sC 104 [8] 1<|sB .neq 14 11<|.ite 15
 (.ret [11,14])
 (sC 106 [9] 0<|sC 106 [9] 1<|sC 106 [9] 2<|sB .neq 18 11<|.ite 19
 (.ret [11,18])
 (sB .eql 16 6<|.ite 20
 (sI 17<|.ret [11,21])
 (.step (.mk [13,16])<|.step (.ml [21])<|.step (.app 2 32 2 22)<|.step (.slen 9)<|.step (.jc 9 17 24)<|.step (.ci .u64 1)<|sB .add 4 26<|.tail 114 [25,1,23,8,27])))))
 (sI 1<|.ret [6,0,2])
def ae6:aI:=.tree 11<|sB .lss 10 6<|.ite 11
 (sA 2 0 2<|sL 0 12<|sA 2 13 10<|sL 0 14<|sL 1 14<|sA 2 1 2<|sL 0 17<|sA 2 18 10<|sL 0 19<|
 sL 1 19<|.step (.mk [15,16])<|.step (.mk [20,21])<|.step (.uq .neq [1,1] 22 23)<|.ite 24
 (sI 0<|.ret [25])
 (sI 1<|sB .add 10 25<|.tail 132 [0,1,2,3,4,5,6,7,8,9,26]))
 (sI 1<|.ret [12])
def d99:aI:=.tree 4<|sB .lss 3 2<|.ite 4
 (sA 2 0 3<|sL 0 5<|sL 1 5<|sI 0<|sB .gtr 3 8<|.ite 9
 (sI 1<|sB .sub 3 10<|sA 2 0 11<|sL 0 12<|sC 76 [13] 0<|sC 76 [6] 0<|sC 100 [14,15] 0<|sB .add 1 16<|
 sC 77 [7] 0<|sB .add 17 18<|sB .add 3 10<|.tail 99 [0,19,2,20])
 (sC 76 [6] 0<|sT []<|sC 100 [11,10] 0<|sB .add 1 12<|sC 77 [7] 0<|sB .add 13 14<|sI 1<|sB .add 3 16<|
 .tail 99 [0,15,2,17]))
 (sI 0<|.ret [5,1])
def d92:aI:=.tree 5<|sB .lss 4 1<|.ite 5
 (.step (.nC 0 4)<|.step (.conv .i64 6)<|sI 128<|sB .lss 7 8<|.ite 9
 (sI 0<|.ret [10])
 (sI 192<|sB .geq 7 10<|.ite 11
 (sI 0<|.ret [12])
 (sI 64<|sB .mul 12 2<|sB .add 13 7<|sB .sub 14 8<|sI 1<|sB .add 4 16<|.tail 92 [0,1,15,3,17])))
 (sI 1<|.ret [6,2])
def d17:aI:=.tree 4<|sB .lss 3 2<|.ite 4
 (sA 2 1 3<|sL 0 5<|sL 1 5<|.step (.mk [6,7])<|sC 18 [8] 0<|sI 0<|sB .neq 9 10<|.ite 11
 (.ret [10,9])
 (sC 7 [6] 0<|sB .gtr 3 10<|.ite 13
 (sB .eql 12 0<|.ite 14
 (sI 14<|.ret [10,15])
 (sB .lss 12 0<|.ite 15
 (sI 7<|.ret [10,16])
 (sI 1<|sB .add 3 16<|.tail 17 [12,1,2,17])))
 (sI 1<|sB .add 3 14<|.tail 17 [12,1,2,15])))
 (sI 1<|.ret [5])
def d66:aI:=.tree 4<|sB .lss 3 2<|.ite 4
 (sA 5 1 3<|sL 0 5<|sL 1 5<|sL 2 5<|sL 3 5<|sL 4 5<|sC 65 [10] 0<|.step (.mk [6,7,8,9,11])<|.step (.ml [12])<|
 .step (.app 5 64 0 13)<|sI 1<|sB .add 3 15<|.tail 66 [14,1,2,16])
 (sI 0<|.ret [5,0])
def d62:aI:=.tree 4<|sB .lss 3 2<|.ite 4
 (sA 2 1 3<|sL 0 5<|sL 1 5<|.step (.mk [6,7])<|.step (.ml [8])<|.step (.app 2 32 0 9)<|sI 1<|sB .add 3 11<|.tail 62 [10,1,2,12])
 (sI 0<|.ret [5,0])
def d64:aI:=.tree 4<|sB .lss 3 2<|.ite 4
 (sA 2 1 3<|sL 0 5<|sL 1 5<|sC 61 [6] 0<|.step (.mk [8,7])<|.step (.ml [9])<|.step (.app 2 32 0 10)<|sI 1<|sB .add 3 12<|
 .tail 64 [11,1,2,13])
 (sI 0<|.ret [5,0])
def d15:aI:=.tree 3<|sB .lss 2 1<|.ite 3
 (sA 5 0 2<|sL 0 4<|sL 1 4<|sL 2 4<|sL 3 4<|sL 4 4<|.step (.slen 9)<|sI 300<|sB .gtr 10 11<|
 .ite 12
 (sI 0<|.ret [13])
 (sI 1<|sB .add 2 13<|.tail 15 [0,1,14]))
 (sI 1<|.ret [4])
def d12:aI:=.tree 4<|sB .lss 2 1<|.ite 4
 (sA 2 0 2<|sL 0 5<|sL 1 5<|.step (.mk [6,7])<|sC 13 [8] 0<|.step (.bytes 9)<|.step (.app 1 1 3 10)<|.step (.slen 9)<|sI 1<|
 sB .add 2 13<|.tail 12 [0,1,14,11])
 (sI 0<|.ret [5,3])
def ae5:aI:=.tree 4<|sB .lss 3 2<|.ite 4
 (sA 2 0 3<|sL 1 5<|sA 2 1 3<|sL 1 7<|sB .neq 6 8<|.ite 9
 (sI 0<|.ret [10])
 (sL 0 5<|.step (.len 10)<|sL 0 7<|.step (.len 12)<|sB .neq 11 13<|.ite 14
 (sI 0<|.ret [15])
 (sI 0<|sC 132 [0,1,3,2,5,10,11,7,12,13,15] 0<|sB .eql 16 15<|.ite 17
 (.ret [15])
 (sI 1<|sB .add 3 18<|.tail 131 [0,1,2,19]))))
 (sI 1<|.ret [5])
def aeC:aI:=.tree 3<|.step (.slen 0)<|sB .lss 2 3<|.ite 4
 (.step (.slen 1)<|sB .lss 2 5<|.ite 6
 (.step (.nC 0 2)<|.step (.nC 1 2)<|sB .neq 7 8<|.ite 9
 (sI 0<|.ret [10,2])
 (sI 1<|sB .add 2 10<|.tail 102 [0,1,11]))
 (sI 1<|.ret [7]))
 (sI 1<|.ret [5])
def d32:aI:=.tree 27<|sB .lss 3 2<|.ite 27
 (sA 2 1 3<|sL 0 28<|sL 1 28<|sC 31 [29] 0<|.step (.mk [31,30])<|.step (.ml [32])<|.step (.app 2 32 0 33)<|sI 1<|sB .add 3 35<|
 .tail 32 [34,1,2,36,4,5,6,7,8,9,10,11,12,13,14,15,16,17,18,19,20,21,22,23,24,25,26])
 (sI 0<|.ret [28,0])
def d43:aI:=.tree 28<|sB .lss 2 1<|.ite 28
 (sA 1 0 2<|sL 0 29<|sT []<|sB .eql 30 31<|sI 0<|.step (.ci .u64 0)<|.step (.mk [33,34,31])<|.step (.yM 35 3 30)<|sL 0 36<|
 sL 1 36<|sL 2 36<|.step (.BG 3 30)<|.step (.un .not 40)<|.ite 41
 (sI 26<|.ret [33,42])
 (.step (.mk [37,38,39])<|.step (.mk [37,34,31])<|.step (.uq .eql [0,0,1] 42 43)<|.ite 44
 (sT [105,100]<|sB .eql 30 45<|.ite 46
 (sT [110,97,109,101]<|sB .eql 30 47<|sT [114,101,103,105,111,110]<|sB .eql 30 49<|sT [110,111,116,101]<|sB .eql 30 51<|
 sT [114,101,109,97,105,110,105,110,103]<|sB .eql 30 53<|sT [97,108,108,111,119,101,100]<|sB .eql 30 55<|sT [100,101,115,99,114]<|
 sB .eql 30 57<|sT [116,97,98,108,101]<|sB .eql 30 59<|sI 1<|sB .add 2 61<|.tail 43 [0,1,62,3,4,34,6,7,8,9,10,11,12,13,14,15,16,17,18,19,20,21,22,23,24,25,26,27])
 (sT [109,105,110]<|sB .eql 30 47<|.ite 48
 (sT [110,97,109,101]<|sB .eql 30 49<|sT [114,101,103,105,111,110]<|sB .eql 30 51<|sT [110,111,116,101]<|sB .eql 30 53<|
 sT [114,101,109,97,105,110,105,110,103]<|sB .eql 30 55<|sT [97,108,108,111,119,101,100]<|sB .eql 30 57<|sT [100,101,115,99,114]<|
 sB .eql 30 59<|sT [116,97,98,108,101]<|sB .eql 30 61<|sI 1<|sB .add 2 63<|.tail 43 [0,1,64,3,4,5,34,7,8,9,10,11,12,13,14,15,16,17,18,19,20,21,22,23,24,25,26,27])
 (sT [109,97,120]<|sB .eql 30 49<|.ite 50
 (sT [110,97,109,101]<|sB .eql 30 51<|sT [114,101,103,105,111,110]<|sB .eql 30 53<|sT [110,111,116,101]<|sB .eql 30 55<|
 sT [114,101,109,97,105,110,105,110,103]<|sB .eql 30 57<|sT [97,108,108,111,119,101,100]<|sB .eql 30 59<|sT [100,101,115,99,114]<|
 sB .eql 30 61<|sT [116,97,98,108,101]<|sB .eql 30 63<|sI 1<|sB .add 2 65<|.tail 43 [0,1,66,3,4,5,6,34,8,9,10,11,12,13,14,15,16,17,18,19,20,21,22,23,24,25,26,27])
 (sT [99,104,111,115,101,110]<|sB .eql 30 51<|.ite 52
 (sT [110,97,109,101]<|sB .eql 30 53<|sT [114,101,103,105,111,110]<|sB .eql 30 55<|sT [110,111,116,101]<|sB .eql 30 57<|
 sT [114,101,109,97,105,110,105,110,103]<|sB .eql 30 59<|sT [97,108,108,111,119,101,100]<|sB .eql 30 61<|sT [100,101,115,99,114]<|
 sB .eql 30 63<|sT [116,97,98,108,101]<|sB .eql 30 65<|sI 1<|sB .add 2 67<|.tail 43 [0,1,68,3,4,5,6,7,34,9,10,11,12,13,14,15,16,17,18,19,20,21,22,23,24,25,26,27])
 (sT [102,108,97,103,115]<|sB .eql 30 53<|.ite 54
 (sT [110,97,109,101]<|sB .eql 30 55<|sT [114,101,103,105,111,110]<|sB .eql 30 57<|sT [110,111,116,101]<|sB .eql 30 59<|
 sT [114,101,109,97,105,110,105,110,103]<|sB .eql 30 61<|sT [97,108,108,111,119,101,100]<|sB .eql 30 63<|sT [100,101,115,99,114]<|
 sB .eql 30 65<|sT [116,97,98,108,101]<|sB .eql 30 67<|sI 1<|sB .add 2 69<|.tail 43 [0,1,70,3,4,5,6,7,8,34,10,11,12,13,14,15,16,17,18,19,20,21,22,23,24,25,26,27])
 (sT [99,111,115,116]<|sB .eql 30 55<|.ite 56
 (sT [110,97,109,101]<|sB .eql 30 57<|sT [114,101,103,105,111,110]<|sB .eql 30 59<|sT [110,111,116,101]<|sB .eql 30 61<|
 sT [114,101,109,97,105,110,105,110,103]<|sB .eql 30 63<|sT [97,108,108,111,119,101,100]<|sB .eql 30 65<|sT [100,101,115,99,114]<|
 sB .eql 30 67<|sT [116,97,98,108,101]<|sB .eql 30 69<|sI 1<|sB .add 2 71<|.tail 43 [0,1,72,3,4,5,6,7,8,9,34,11,12,13,14,15,16,17,18,19,20,21,22,23,24,25,26,27])
 (sT [112,114,105,111,114,105,116,121]<|sB .eql 30 57<|.ite 58
 (sT [110,97,109,101]<|sB .eql 30 59<|sT [114,101,103,105,111,110]<|sB .eql 30 61<|sT [110,111,116,101]<|sB .eql 30 63<|
 sT [114,101,109,97,105,110,105,110,103]<|sB .eql 30 65<|sT [97,108,108,111,119,101,100]<|sB .eql 30 67<|sT [100,101,115,99,114]<|
 sB .eql 30 69<|sT [116,97,98,108,101]<|sB .eql 30 71<|sI 1<|sB .add 2 73<|.tail 43 [0,1,74,3,4,5,6,7,8,9,10,34,12,13,14,15,16,17,18,19,20,21,22,23,24,25,26,27])
 (sT [100,101,97,100,108,105,110,101]<|sB .eql 30 59<|.ite 60
 (sT [110,97,109,101]<|sB .eql 30 61<|sT [114,101,103,105,111,110]<|sB .eql 30 63<|sT [110,111,116,101]<|sB .eql 30 65<|
 sT [114,101,109,97,105,110,105,110,103]<|sB .eql 30 67<|sT [97,108,108,111,119,101,100]<|sB .eql 30 69<|sT [100,101,115,99,114]<|
 sB .eql 30 71<|sT [116,97,98,108,101]<|sB .eql 30 73<|sI 1<|sB .add 2 75<|.tail 43 [0,1,76,3,4,5,6,7,8,9,10,11,34,13,14,15,16,17,18,19,20,21,22,23,24,25,26,27])
 (sT [114,101,116,114,121]<|sB .eql 30 61<|.ite 62
 (sT [110,97,109,101]<|sB .eql 30 63<|sT [114,101,103,105,111,110]<|sB .eql 30 65<|sT [110,111,116,101]<|sB .eql 30 67<|
 sT [114,101,109,97,105,110,105,110,103]<|sB .eql 30 69<|sT [97,108,108,111,119,101,100]<|sB .eql 30 71<|sT [100,101,115,99,114]<|
 sB .eql 30 73<|sT [116,97,98,108,101]<|sB .eql 30 75<|sI 1<|sB .add 2 77<|.tail 43 [0,1,78,3,4,5,6,7,8,9,10,11,12,34,14,15,16,17,18,19,20,21,22,23,24,25,26,27])
 (sT [101,112,111,99,104]<|sB .eql 30 63<|.ite 64
 (sT [110,97,109,101]<|sB .eql 30 65<|sT [114,101,103,105,111,110]<|sB .eql 30 67<|sT [110,111,116,101]<|sB .eql 30 69<|
 sT [114,101,109,97,105,110,105,110,103]<|sB .eql 30 71<|sT [97,108,108,111,119,101,100]<|sB .eql 30 73<|sT [100,101,115,99,114]<|
 sB .eql 30 75<|sT [116,97,98,108,101]<|sB .eql 30 77<|sI 1<|sB .add 2 79<|.tail 43 [0,1,80,3,4,5,6,7,8,9,10,11,12,13,34,15,16,17,18,19,20,21,22,23,24,25,26,27])
 (sT [98,97,115,101]<|sB .eql 30 65<|.ite 66
 (sT [110,97,109,101]<|sB .eql 30 67<|sT [114,101,103,105,111,110]<|sB .eql 30 69<|sT [110,111,116,101]<|sB .eql 30 71<|
 sT [114,101,109,97,105,110,105,110,103]<|sB .eql 30 73<|sT [97,108,108,111,119,101,100]<|sB .eql 30 75<|sT [100,101,115,99,114]<|
 sB .eql 30 77<|sT [116,97,98,108,101]<|sB .eql 30 79<|sI 1<|sB .add 2 81<|.tail 43 [0,1,82,3,4,5,6,7,8,9,10,11,12,13,14,34,16,17,18,19,20,21,22,23,24,25,26,27])
 (sT [100,105,103,101,115,116]<|sB .eql 30 67<|.ite 68
 (sT [110,97,109,101]<|sB .eql 30 69<|sT [114,101,103,105,111,110]<|sB .eql 30 71<|sT [110,111,116,101]<|sB .eql 30 73<|
 sT [114,101,109,97,105,110,105,110,103]<|sB .eql 30 75<|sT [97,108,108,111,119,101,100]<|sB .eql 30 77<|sT [100,101,115,99,114]<|
 sB .eql 30 79<|sT [116,97,98,108,101]<|sB .eql 30 81<|sI 1<|sB .add 2 83<|.tail 43 [0,1,84,3,4,5,6,7,8,9,10,11,12,13,14,15,34,17,18,19,20,21,22,23,24,25,26,27])
 (sT [108,97,103]<|sB .eql 30 69<|.ite 70
 (sT [110,97,109,101]<|sB .eql 30 71<|sT [114,101,103,105,111,110]<|sB .eql 30 73<|sT [110,111,116,101]<|sB .eql 30 75<|
 sT [114,101,109,97,105,110,105,110,103]<|sB .eql 30 77<|sT [97,108,108,111,119,101,100]<|sB .eql 30 79<|sT [100,101,115,99,114]<|
 sB .eql 30 81<|sT [116,97,98,108,101]<|sB .eql 30 83<|sI 1<|sB .add 2 85<|.tail 43 [0,1,86,3,4,5,6,7,8,9,10,11,12,13,14,15,16,34,18,19,20,21,22,23,24,25,26,27])
 (sT [99,111,100,101]<|sB .eql 30 71<|.ite 72
 (sT [110,97,109,101]<|sB .eql 30 73<|sT [114,101,103,105,111,110]<|sB .eql 30 75<|sT [110,111,116,101]<|sB .eql 30 77<|
 sT [114,101,109,97,105,110,105,110,103]<|sB .eql 30 79<|sT [97,108,108,111,119,101,100]<|sB .eql 30 81<|sT [100,101,115,99,114]<|
 sB .eql 30 83<|sT [116,97,98,108,101]<|sB .eql 30 85<|sI 1<|sB .add 2 87<|.tail 43 [0,1,88,3,4,5,6,7,8,9,10,11,12,13,14,15,16,17,34,19,20,21,22,23,24,25,26,27])
 (sT [119,97,110,116]<|sB .eql 30 73<|.ite 74
 (sT [110,97,109,101]<|sB .eql 30 75<|sT [114,101,103,105,111,110]<|sB .eql 30 77<|sT [110,111,116,101]<|sB .eql 30 79<|
 sT [114,101,109,97,105,110,105,110,103]<|sB .eql 30 81<|sT [97,108,108,111,119,101,100]<|sB .eql 30 83<|sT [100,101,115,99,114]<|
 sB .eql 30 85<|sT [116,97,98,108,101]<|sB .eql 30 87<|sI 1<|sB .add 2 89<|.tail 43 [0,1,90,3,4,5,6,7,8,9,10,11,12,13,14,15,16,17,18,34,20,21,22,23,24,25,26,27])
 (sT [110,97,109,101]<|sB .eql 30 75<|.ite 76
 (sT [114,101,109,97,105,110,105,110,103]<|sB .eql 30 77<|sT [97,108,108,111,119,101,100]<|sB .eql 30 79<|sT [100,101,115,99,114]<|
 sB .eql 30 81<|sT [116,97,98,108,101]<|sB .eql 30 83<|sI 1<|sB .add 2 85<|.tail 43 [0,1,86,3,4,5,6,7,8,9,10,11,12,13,14,15,16,17,18,19,20,21,31,23,24,25,26,27])
 (sT [114,101,103,105,111,110]<|sB .eql 30 77<|.ite 78
 (sT [114,101,109,97,105,110,105,110,103]<|sB .eql 30 79<|sT [97,108,108,111,119,101,100]<|sB .eql 30 81<|sT [100,101,115,99,114]<|
 sB .eql 30 83<|sT [116,97,98,108,101]<|sB .eql 30 85<|sI 1<|sB .add 2 87<|.tail 43 [0,1,88,3,4,5,6,7,8,9,10,11,12,13,14,15,16,17,18,19,20,21,22,31,24,25,26,27])
 (sT [110,111,116,101]<|sB .eql 30 79<|.ite 80
 (sT [114,101,109,97,105,110,105,110,103]<|sB .eql 30 81<|sT [97,108,108,111,119,101,100]<|sB .eql 30 83<|sT [100,101,115,99,114]<|
 sB .eql 30 85<|sT [116,97,98,108,101]<|sB .eql 30 87<|sI 1<|sB .add 2 89<|.tail 43 [0,1,90,3,4,5,6,7,8,9,10,11,12,13,14,15,16,17,18,19,20,21,22,23,31,25,26,27])
 (sT [114,101,109,97,105,110,105,110,103]<|sB .eql 30 81<|.ite 82
 (sI 1<|sB .add 2 83<|.tail 43 [0,1,84,3,4,5,6,7,8,9,10,11,12,13,14,15,16,17,18,19,33,21,22,23,24,25,26,27])
 (sT [97,108,108,111,119,101,100]<|sB .eql 30 83<|.ite 84
 (sI 1<|sB .add 2 85<|.step (.cb false)<|.tail 43 [0,1,86,3,4,5,6,7,8,9,10,11,12,13,14,15,16,17,18,19,20,87,22,23,24,25,26,27])
 (sT [100,101,115,99,114]<|sB .eql 30 85<|.ite 86
 (sI 1<|sB .add 2 87<|.step (.ml [])<|.tail 43 [0,1,88,3,4,5,6,7,8,9,10,11,12,13,14,15,16,17,18,19,20,21,22,23,24,89,26,27])
 (sT [116,97,98,108,101]<|sB .eql 30 87<|.ite 88
 (sI 1<|sB .add 2 89<|.step (.ml [])<|.tail 43 [0,1,90,3,4,5,6,7,8,9,10,11,12,13,14,15,16,17,18,19,20,21,22,23,24,25,91,27])
 (sI 1<|sB .add 2 89<|.tail 43 [0,1,90,3,4,5,6,7,8,9,10,11,12,13,14,15,16,17,18,19,20,21,22,23,24,25,26,27])))))))))))))))))))))))
 (.step (.ml [])<|.step (.mk [4,5,6,7,8,9,10,11,12,13,14,15,16,17,18,19,20,21,22,23,24,25,26,27])<|.step (.mk [34,37,38,39,45])<|sC 44 [46,30,47] 0<|
 sL 0 48<|sL 1 48<|sL 2 48<|sL 3 48<|sL 4 48<|sL 5 48<|sL 6 48<|sL 7 48<|sL 8 48<|
 sL 9 48<|sL 10 48<|sL 11 48<|sL 12 48<|sL 13 48<|sL 14 48<|sL 15 48<|sL 16 48<|sL 17 48<|
 sL 18 48<|sL 19 48<|sL 20 48<|sL 21 48<|sL 22 48<|sL 23 48<|sC 44 [46,30,47] 1<|sB .neq 73 33<|
 .ite 74
 (.ret [33,73])
 (sI 1<|sB .add 2 75<|.tail 43 [0,1,76,3,49,50,51,52,53,54,55,56,57,58,59,60,61,62,63,64,65,66,67,68,69,70,71,72]))))
 (sI 1<|.ret [29,4,5,6,7,8,9,10,11,12,13,14,15,16,17,18,19,20,21,22,23,24,25,26,27])
def d72:aI:=.tree 5<|sB .lss 4 3<|.ite 5
 (sA 4 2 4<|sL 0 6<|sL 1 6<|sL 2 6<|sL 3 6<|sB .eql 10 0<|.ite 11
 (sI 0<|.ret [12,8])
 (sI 1<|sB .add 4 12<|.tail 72 [0,1,2,3,13]))
 (sI 1<|.ret [6])
def d83:aI:=.tree 3<|sB .lss 2 1<|.ite 3
 (sA 2 0 2<|sL 0 4<|sL 1 4<|.step (.mk [5,6])<|sC 84 [7] 0<|sI 0<|sB .eql 8 9<|.ite 10
 (sB .gtr 2 9<|.ite 11
 (sI 1<|sB .sub 2 12<|sA 2 0 13<|sL 0 14<|sC 76 [15] 0<|sC 76 [5] 0<|sB .eql 16 17<|.ite 18
 (sI 14<|.ret [9,19])
 (sC 97 [16,17] 0<|.step (.un .not 19)<|.ite 20
 (sI 7<|.ret [9,21])
 (sB .neq 8 9<|sB .add 2 12<|.tail 83 [0,1,22])))
 (sB .neq 8 9<|sI 1<|sB .add 2 13<|.tail 83 [0,1,14]))
 (sB .neq 8 9<|.ret [9,8]))
 (sI 1<|.ret [4])
def d11:aI:=.tree 4<|sB .lss 3 2<|.ite 4
 (.step (.ci .u64 127)<|sB .and 0 5<|.step (.conv .u8 6)<|.step (.ci .u8 128)<|sB .or 7 8<|.step (.idx 1 3)<|.step (.upd 1 0 1 10 [9])<|.step (.ci .u64 7)<|sB .shr 0 12<|
 sI 1<|sB .add 3 14<|.tail 11 [13,11,2,15])
 (sI 0<|.ret [5,1])
def d6:aI:=.tree 3<|sB .lss 2 1<|.ite 3
 (sA 2 0 2<|sL 0 4<|sL 1 4<|.step (.len 5)<|sI 18<|sB .gtr 7 8<|.ite 9
 (sI 0<|.ret [10])
 (sC 3 [5] 0<|.step (.un .not 10)<|.ite 11
 (sI 0<|.ret [12])
 (.step (.len 0)<|sI 40<|sB .gtr 12 13<|.ite 14
 (sC 7 [5] 0<|.step (.slen 15)<|sI 100<|sB .gtr 16 17<|.ite 18
 (sI 0<|.ret [19])
 (sI 1<|sB .add 2 19<|.tail 6 [0,1,20]))
 (sI 1<|sB .add 2 15<|.tail 6 [0,1,16]))))
 (sI 1<|.ret [4])
def Ds:List aI:=[.vN λ_=>none,d1,d2,d3,d4,d5,d6,d7,d8,d9,d10,d11,d12,d13,d14,d15,d16,d17,d18,d19,d20,d21,d22,d23,d24,d25,d26,d27,d28,d29,d30,d31,d32,d33,d34,d35,d36,d37,d38,d39,d40,d41,d42,d43,d44,d45,d46,d47,d48,d49,d50,d51,d52,d53,d54,d55,d56,d57,d58,d59,d60,d61,d62,d63,d64,d65,d66,d67,d68,d69,d70,d71,d72,d73,d74,d75,d76,d77,d78,d79,d80,d81,d82,d83,d84,d85,d86,d87,d88,d89,d90,d91,d92,d93,d94,d95,d96,d97,d98,d99,aeA,aeB,aeC,aeD,aeE,aeF,aeG,aeH,aeI,aeJ,aeK,aeL,aeM,aeN,aeO,aeP,aeQ,aeR,aeS,aeT,aeU,aeV,aeW,aeX,aeY,aeZ,ae0,ae1,ae2,ae3,ae4,ae5,ae6,ae7]
noncomputable abbrev TT:gu:=vk Ds
end
end C
end Go.Proofs.YtcpfjpcdcafjmaaGreatDoor
