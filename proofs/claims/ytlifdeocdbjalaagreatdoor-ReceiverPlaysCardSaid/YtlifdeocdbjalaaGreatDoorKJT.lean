/- What functions and loops compute: trees of nodes, found by a driver. -/
import Derived.Test.YtlifdeocdbjalaaGreatDoorAbsJ
import Derived.Test.YtlifdeocdbjalaaGreatDoorAbsPl
import Derived.Test.YtlifdeocdbjalaaGreatDoorAbsTold
import Derived.Test.YtlifdeocdbjalaaGreatDoorAbsTold2
import Derived.Test.YtlifdeocdbjalaaGreatDoorAbsTold3
namespace Go.Proofs.YtlifdeocdbjalaaGreatDoor
open Go Go.aN
set_option maxRecDepth 100000
set_option linter.unusedVariables false
set_option linter.unusedSimpArgs false
namespace J
noncomputable section
def YP:aA:=.fn [.ag 2] [.ag 2]<|.step (.cell 0 0)<|.step (.cell 1 0)<|.step (.call 89 [2] 0)<|.step (.mk [1,3])<|.ret [4]
def XU:aA:=.fn [.sc] [.sc]<|.step (.cs [])<|.step (.call 110 [0,1] 0)<|.step (.call 110 [0,1] 1)<|.step (.call 110 [0,1] 2)<|.step (.conv .u8 3)<|.step (.ml [5])<|.step (.str 6)<|
 .step (.bin .add 4 7)<|.ret [8]
abbrev Y1:aA:=.wu (AO 32 2)
def Zc:aA:=.fn [] [.sc]<|.step (.ci .u64 1)<|.step (.ci .i64 0)<|.step (.ci .i64 2)<|.step (.cs [98,97,115,101])<|.step (.mk [0,1,2,3])<|.step (.ci .u64 2)<|.step (.cs [101,112,111,99,104])<|
 .step (.mk [5,1,2,6])<|.step (.ci .u64 3)<|.step (.ci .i64 5)<|.step (.cs [116,97,98,108,101])<|.step (.mk [8,9,2,10])<|.step (.ci .u64 4)<|.step (.ci .i64 3)<|.step (.cs [114,101,103,105,111,110])<|
 .step (.mk [12,13,2,14])<|.step (.ci .u64 5)<|.step (.cs [100,105,103,101,115,116])<|.step (.mk [16,1,13,17])<|.step (.ml [4,7,11,15,18])<|.ret [19]
def ZX:aA:=.fn [.ag 3] [.sc]<|.step (.cell 0 0)<|.step (.cell 1 0)<|.step (.cell 2 0)<|.step (.bin .leq 2 1)<|.ite 4
 (.step (.ci .i64 20)<|.ret [5])
 (.step (.call 50 [3] 0)<|.ret [5])
def ZW:aA:=.fn [.ag 2] [.sc]<|.step (.cell 0 0)<|.step (.cell 1 0)<|.step (.call 50 [2] 0)<|.ret [3]
def d98:aA:=.fn [] [.sc]<|.step (.cs [97,108,108,111,119,101,100])<|.step (.cs [98,97,115,101])<|.step (.cs [99,104,111,115,101,110])<|.step (.cs [99,111,100,101])<|
 .step (.cs [99,111,115,116])<|.step (.cs [100,101,97,100,108,105,110,101])<|.step (.cs [100,101,115,99,114])<|.step (.cs [100,105,103,101,115,116])<|.step (.cs [101,112,111,99,104])<|
 .step (.cs [102,108,97,103,115])<|.step (.cs [105,100])<|.step (.cs [108,97,103])<|.step (.cs [109,97,120])<|.step (.cs [109,105,110])<|.step (.cs [110,97,109,101])<|
 .step (.cs [110,111,116,101])<|.step (.cs [112,114,105,111,114,105,116,121])<|.step (.cs [114,101,103,105,111,110])<|.step (.cs [114,101,109,97,105,110,105,110,103])<|
 .step (.cs [114,101,116,114,121])<|.step (.cs [116,97,98,108,101])<|.step (.cs [119,97,110,116])<|.step (.ml [0,1,2,3,4,5,6,7,8,9,10,11,12,13,14,15,16,17,18,19,20,21])<|
 .ret [22]
def X9:aA:=.fn [.sc] [.sc]<|.step (.call 122 [0] 0)<|.step (.ci .i64 0)<|.step (.bin .eql 1 2)<|.ite 3
 (.step (.cb false)<|.ret [4])
 (.step (.cb true)<|.ret [4])
abbrev Zm:aA:=.wu Dy
def Ye:aA:=.fn [.ag 2,.ag 2] [.sc]<|.step (.cell 0 0)<|.step (.cell 1 0)<|.step (.cell 0 1)<|.step (.cell 1 1)<|.step (.call 127 [2,4] 0)<|.ite 6
 (.step (.ci .i64 (-1))<|.ret [7])
 (.step (.bin .eql 2 4)<|.ite 7
 (.step (.call 127 [3,5] 0)<|.ite 8
 (.step (.ci .i64 (-1))<|.ret [9])
 (.step (.mk [2,3])<|.step (.mk [4,5])<|.step (.sW .eql [1,1] 9 10)<|.ite 11
 (.step (.ci .i64 0)<|.ret [12])
 (.step (.ci .i64 1)<|.ret [12])))
 (.step (.mk [2,3])<|.step (.mk [4,5])<|.step (.sW .eql [1,1] 8 9)<|.ite 10
 (.step (.ci .i64 0)<|.ret [11])
 (.step (.ci .i64 1)<|.ret [11])))
def YI:aA:=.fn [.sc,.sc] [.sc]<|.step (.len 0)<|.step (.len 1)<|.step (.bin .neq 2 3)<|.ite 4
 (.step (.cb false)<|.ret [5])
 (.step (.ci .i64 0)<|.step (.call 155 [0,1,2,5] 0)<|.step (.bin .eql 6 5)<|.ite 7
 (.step (.cb false)<|.ret [8])
 (.step (.cb true)<|.ret [8]))
def Zq:aA:=.fn [.sc] [.sc]<|.step (.len 0)<|.step (.conv .u64 1)<|.step (.ci .u64 0)<|.step (.bin .eql 2 3)<|.ite 4
 (.step (.ci .i64 12)<|.ret [5])
 (.step (.ci .u64 16)<|.step (.bin .gtr 2 5)<|.ite 6
 (.step (.ci .i64 13)<|.ret [7])
 (.step (.ci .i64 0)<|.step (.call 47 [0,1,7] 0)<|.step (.bin .eql 8 7)<|.ite 9
 (.step (.call 47 [0,1,7] 1)<|.ret [10])
 (.ret [7])))
def X0:aA:=.fn [.sc] [.sc]<|.step (.len 0)<|.step (.ci .i64 256)<|.step (.bin .gtr 1 2)<|.ite 3
 (.step (.ci .i64 13)<|.ret [4])
 (.step (.ci .i64 0)<|.step (.call 115 [0,1,4] 0)<|.step (.bin .eql 5 4)<|.ite 6
 (.step (.call 115 [0,1,4] 1)<|.ret [7])
 (.ret [4]))
def Yt:aA:=.fn [.ag 2,.ag 3] [.ag 2,.sc]<|.step (.cell 0 0)<|.step (.cell 1 0)<|.step (.cell 0 1)<|.step (.cell 1 1)<|.step (.cell 2 1)<|.step (.call 114 [3] 0)<|.step (.ci .i64 0)<|
 .step (.bin .eql 7 8)<|.ite 9
 (.step (.mk [4,5,6])<|.step (.call 141 [10] 0)<|.step (.bin .eql 11 8)<|.ite 12
 (.step (.bin .neq 2 4)<|.ite 13
 (.step (.ci .u64 0)<|.step (.ml [])<|.step (.ci .i64 19)<|.step (.mk [14,15])<|.ret [17,16])
 (.step (.bin .neq 11 8)<|.step (.call 142 [3,6] 0)<|.step (.call 142 [3,6] 1)<|.step (.bin .neq 16 8)<|.ite 17
 (.step (.ci .u64 0)<|.step (.ml [])<|.step (.mk [18,19])<|.ret [20,16])
 (.step (.mk [5,15])<|.ret [18,8])))
 (.step (.bin .neq 11 8)<|.step (.ci .u64 0)<|.step (.ml [])<|.step (.mk [14,15])<|.ret [16,11]))
 (.step (.bin .neq 7 8)<|.step (.ci .u64 0)<|.step (.ml [])<|.step (.mk [11,12])<|.ret [13,7])
def Yd:aA:=.fn [.ag 2,.ag 2] [.sc]<|.step (.cell 0 0)<|.step (.cell 1 0)<|.step (.cell 0 1)<|.step (.cell 1 1)<|.step (.bin .eql 2 4)<|.ite 6
 (.step (.ci .i64 14)<|.ret [7])
 (.step (.mk [2,3])<|.step (.mk [4,5])<|.step (.call 126 [7,8] 0)<|.step (.ci .i64 0)<|.step (.bin .gtr 9 10)<|.ite 11
 (.step (.ci .i64 7)<|.ret [12])
 (.ret [10]))
def Yf:aA:=.fn [.sc,.sc] [.sc]<|.step (.ci .i64 0)<|.step (.call 128 [0,1,2] 0)<|.step (.bin .eql 3 2)<|.ite 4
 (.step (.call 128 [0,1,2] 1)<|.ret [5])
 (.step (.slen 0)<|.step (.slen 1)<|.step (.bin .lss 5 6)<|.ret [7])
def XR:aA:=.fn [.ag 24,.sc] [.sc]<|.step (.cell 0 0)<|.step (.cell 1 0)<|.step (.cell 2 0)<|.step (.cell 3 0)<|.step (.cell 4 0)<|.step (.cell 5 0)<|.step (.cell 6 0)<|.step (.cell 7 0)<|
 .step (.cell 8 0)<|.step (.cell 9 0)<|.step (.cell 10 0)<|.step (.cell 11 0)<|.step (.cell 12 0)<|.step (.cell 13 0)<|.step (.cell 14 0)<|.step (.cell 15 0)<|.step (.cell 16 0)<|
 .step (.cell 17 0)<|.step (.cell 18 0)<|.step (.cell 19 0)<|.step (.cell 20 0)<|.step (.cell 21 0)<|.step (.cell 22 0)<|.step (.cell 23 0)<|.step (.cs [110,97,109,101])<|.step (.bin .eql 1 26)<|
 .ite 27
 (.ret [20])
 (.step (.cs [114,101,103,105,111,110])<|.step (.bin .eql 1 28)<|.ite 29
 (.ret [21])
 (.ret [22]))
def YS:aA:=.fn [.sc,.sc] [.sc]<|.step (.call 164 [0,1] 0)<|.ret [2]
def d7:aA:=.fn [.sc] [.sc]<|.step (.len 0)<|.step (.conv .u64 1)<|.step (.call 8 [2] 0)<|.step (.bytes 3)<|.step (.ml [])<|.step (.app 1 1 5 4)<|.step (.slen 3)<|.step (.ci .i64 0)<|
 .step (.call 12 [0,1,8,6] 0)<|.step (.call 12 [0,1,8,6] 1)<|.step (.len 10)<|.step (.str 10)<|.ret [12]
def d91:aA:=.fn [.sc] [.sc]<|.step (.len 0)<|.step (.ci .i64 0)<|.step (.ml [])<|.step (.call 92 [3,0,1,2] 0)<|.step (.call 92 [3,0,1,2] 1)<|.ret [5]
def X8:aA:=.fn [.sc,.sc,.sc] [.sc]<|.step (.slen 0)<|.step (.bin .lss 3 1)<|.ite 4
 (.step (.ci .i64 13)<|.ret [5])
 (.step (.bin .gtr 3 2)<|.ite 5
 (.step (.ci .i64 13)<|.ret [6])
 (.step (.call 121 [0] 0)<|.step (.un .not 6)<|.ite 7
 (.step (.ci .i64 11)<|.ret [8])
 (.step (.ci .i64 0)<|.ret [8])))
def Y9:aA:=.fn [] [.sc]<|.step (.ci .u64 1)<|.step (.ci .i64 0)<|.step (.ci .i64 1)<|.step (.cs [105,100])<|.step (.mk [0,1,2,3])<|.step (.ci .u64 2)<|.step (.ci .i64 4)<|
 .step (.cs [100,101,115,99,114])<|.step (.mk [5,6,2,7])<|.step (.ci .u64 3)<|.step (.cs [99,111,115,116])<|.step (.mk [9,1,2,10])<|.step (.ci .u64 4)<|.step (.ci .i64 2)<|
 .step (.cs [112,114,105,111,114,105,116,121])<|.step (.mk [12,1,13,14])<|.step (.ci .u64 5)<|.step (.ci .i64 3)<|.step (.cs [100,101,97,100,108,105,110,101])<|.step (.mk [16,1,17,18])<|
 .step (.ml [4,8,11,15,19])<|.ret [20]
def d84:aA:=.fn [.sc,.sc] [.sc,.sc]<|.step (.ml [])<|.step (.call 85 [0,1,2] 0)<|.step (.call 85 [0,1,2] 1)<|.step (.call 85 [0,1,2] 2)<|.ret [5,4]
def d8:aA:=.fn [.sc] [.sc]<|.step (.call 9 [0] 0)<|.step (.ci .u8 0)<|.step (.rep 1 1 2 1 1)<|.step (.len 3)<|.step (.ci .i64 0)<|.step (.call 11 [0,3,4,5] 0)<|.step (.call 11 [0,3,4,5] 1)<|
 .step (.len 7)<|.step (.ci .i64 1)<|.step (.bin .sub 8 9)<|.step (.idx 7 10)<|.step (.at 1 7 11)<|.step (.cell 0 12)<|.step (.ci .u8 127)<|.step (.bin .and 13 14)<|.step (.upd 1 0 7 11 [15])<|
 .step (.str 16)<|.ret [17]
def Ze:aA:=.fn [] [.sc]<|.step (.ci .u64 1)<|.step (.ci .i64 0)<|.step (.ci .i64 1)<|.step (.cs [101,112,111,99,104])<|.step (.mk [0,1,2,3])<|.step (.ci .u64 2)<|.step (.cs [99,111,100,101])<|
 .step (.mk [5,1,2,6])<|.step (.ci .u64 3)<|.step (.ci .i64 2)<|.step (.cs [119,97,110,116])<|.step (.mk [8,1,9,10])<|.step (.ci .u64 4)<|.step (.ci .i64 3)<|.step (.cs [110,111,116,101])<|
 .step (.mk [12,13,13,14])<|.step (.ml [4,7,11,15])<|.ret [16]
def ZQ:aA:=.fn [.sc,.sc] [.sc]<|.step (.len 0)<|.step (.ci .u64 0)<|.step (.ci .i64 0)<|.step (.call 71 [1,3,0,2,4] 0)<|.step (.bin .eql 5 4)<|.ite 6
 (.step (.call 71 [1,3,0,2,4] 1)<|.ret [7])
 (.ret [4])
def d3:aA:=.fn [.sc] [.sc]<|.step (.len 0)<|.step (.ci .i64 0)<|.step (.call 4 [0,1,2] 0)<|.step (.bin .eql 3 2)<|.ite 4
 (.step (.cb false)<|.ret [5])
 (.step (.ci .i64 40)<|.step (.bin .leq 1 5)<|.ret [6])
def Zv:aA:=.fn [.sc] [.sc]<|.step (.len 0)<|.step (.ci .i64 256)<|.step (.bin .gtr 1 2)<|.ite 3
 (.step (.ci .i64 13)<|.ret [4])
 (.step (.cs [])<|.step (.ci .i64 0)<|.step (.call 51 [4,0,1,5] 0)<|.step (.bin .eql 6 5)<|.ite 7
 (.step (.call 51 [4,0,1,5] 1)<|.ret [8])
 (.ret [5]))
def d87:aA:=.fn [.sc] [.sc]<|.step (.len 0)<|.step (.ci .i64 0)<|.step (.ml [])<|.step (.call 88 [3,0,1,2] 0)<|.step (.call 88 [3,0,1,2] 1)<|.ret [5]
def Z9:aA:=.fn [.ag 24] [.ag 24]<|.step (.cell 0 0)<|.step (.cell 1 0)<|.step (.cell 2 0)<|.step (.cell 3 0)<|.step (.cell 4 0)<|.step (.cell 5 0)<|.step (.cell 6 0)<|.step (.cell 7 0)<|
 .step (.cell 8 0)<|.step (.cell 9 0)<|.step (.cell 10 0)<|.step (.cell 11 0)<|.step (.cell 12 0)<|.step (.cell 13 0)<|.step (.cell 14 0)<|.step (.cell 15 0)<|.step (.cell 16 0)<|
 .step (.cell 17 0)<|.step (.cell 18 0)<|.step (.cell 19 0)<|.step (.cell 20 0)<|.step (.cell 21 0)<|.step (.cell 22 0)<|.step (.cell 23 0)<|.step (.call 83 [24] 0)<|.step (.mk [1,2,3,4,5,6,7,8,9,10,11,12,13,14,15,16,17,18,19,20,21,22,23,25])<|
 .ret [26]
def d86:aA:=.fn [.ag 24] [.ag 24]<|.step (.cell 0 0)<|.step (.cell 1 0)<|.step (.cell 2 0)<|.step (.cell 3 0)<|.step (.cell 4 0)<|.step (.cell 5 0)<|.step (.cell 6 0)<|.step (.cell 7 0)<|
 .step (.cell 8 0)<|.step (.cell 9 0)<|.step (.cell 10 0)<|.step (.cell 11 0)<|.step (.cell 12 0)<|.step (.cell 13 0)<|.step (.cell 14 0)<|.step (.cell 15 0)<|.step (.cell 16 0)<|
 .step (.cell 17 0)<|.step (.cell 18 0)<|.step (.cell 19 0)<|.step (.cell 20 0)<|.step (.cell 21 0)<|.step (.cell 22 0)<|.step (.cell 23 0)<|.step (.call 87 [22] 0)<|.step (.call 89 [23] 0)<|
 .step (.call 91 [24] 0)<|.step (.mk [1,2,3,4,5,6,7,8,9,10,11,12,13,14,15,16,17,18,19,20,21,25,26,27])<|.ret [28]
def Zb:aA:=.fn [] [.sc]<|.step (.ci .u64 1)<|.step (.ci .i64 0)<|.step (.ci .i64 1)<|.step (.cs [101,112,111,99,104])<|.step (.mk [0,1,2,3])<|.step (.ci .u64 2)<|.step (.ci .i64 5)<|
 .step (.cs [116,97,98,108,101])<|.step (.mk [5,6,2,7])<|.step (.ci .u64 3)<|.step (.ci .i64 3)<|.step (.ci .i64 2)<|.step (.cs [114,101,103,105,111,110])<|.step (.mk [9,10,11,12])<|
 .step (.ci .u64 4)<|.step (.cs [100,105,103,101,115,116])<|.step (.mk [14,1,10,15])<|.step (.ml [4,8,13,16])<|.ret [17]
def d93:aA:=.fn [.ag 4,.ag 24] [.ag 4,.ag 24,.sc]<|.step (.cell 0 0)<|.step (.cell 1 0)<|.step (.cell 2 0)<|.step (.cell 3 0)<|.step (.cell 0 1)<|.step (.cell 1 1)<|.step (.cell 2 1)<|
 .step (.cell 3 1)<|.step (.cell 4 1)<|.step (.cell 5 1)<|.step (.cell 6 1)<|.step (.cell 7 1)<|.step (.cell 8 1)<|.step (.cell 9 1)<|.step (.cell 10 1)<|.step (.cell 11 1)<|.step (.cell 12 1)<|
 .step (.cell 13 1)<|.step (.cell 14 1)<|.step (.cell 15 1)<|.step (.cell 16 1)<|.step (.cell 17 1)<|.step (.cell 18 1)<|.step (.cell 19 1)<|.step (.cell 20 1)<|.step (.cell 21 1)<|
 .step (.cell 22 1)<|.step (.cell 23 1)<|.step (.mk [6,7,8,9,10,11,12,13,14,15,16,17,18,19,20,21,22,23,24,25,26,27,28,29])<|.step (.call 94 [30,2] 0)<|.step (.ci .i64 0)<|
 .step (.bin .neq 31 32)<|.ite 33
 (.step (.ci .u64 0)<|.step (.cb false)<|.step (.cs [])<|.step (.ml [])<|.step (.mk [2,3,4,5])<|.step (.mk [32,34,34,34,34,34,34,34,34,34,34,34,34,34,34,34,32,35,36,36,36,37,37,37])<|
 .ret [38,39,31])
 (.step (.ci .i64 5)<|.step (.bin .neq 6 34)<|.ite 35
 (.step (.ci .i64 6)<|.step (.bin .neq 6 36)<|.ite 37
 (.step (.ci .u64 0)<|.step (.cb false)<|.step (.cs [])<|.step (.ml [])<|.step (.ci .i64 15)<|.step (.mk [2,3,4,5])<|.step (.mk [32,38,38,38,38,38,38,38,38,38,38,38,38,38,38,38,32,39,40,40,40,41,41,41])<|
 .ret [43,44,42])
 (.ite 5
 (.step (.bin .leq 16 3)<|.ite 38
 (.step (.cb true)<|.step (.ci .i64 7)<|.step (.ci .u64 0)<|.step (.cb false)<|.step (.cs [])<|.step (.ml [])<|.step (.ci .i64 20)<|.step (.mk [2,3,4,39])<|.step (.mk [40,41,41,41,41,41,41,41,41,41,3,41,41,41,41,41,32,42,43,43,43,44,44,44])<|
 .ret [46,47,45])
 (.step (.bin .eql 6 36)<|.step (.mk [3,4])<|.step (.mk [17,16,28])<|.step (.call 140 [40,41] 0)<|.step (.cell 0 42)<|.step (.cell 1 42)<|.step (.call 140 [40,41] 1)<|.step (.bin .neq 45 32)<|
 .ite 46
 (.step (.conv .u64 45)<|.step (.ci .i64 2)<|.step (.bin .geq 2 48)<|.ite 49
 (.step (.cb true)<|.step (.ci .i64 8)<|.step (.ci .u64 0)<|.step (.cb false)<|.step (.cs [])<|.step (.ml [])<|.step (.mk [2,3,4,50])<|.step (.mk [51,52,52,52,52,52,52,52,52,52,16,52,52,52,47,3,32,53,54,54,54,55,55,55])<|
 .ret [56,57,45])
 (.step (.cb true)<|.step (.ci .i64 8)<|.step (.ci .u64 0)<|.step (.cb false)<|.step (.cs [])<|.step (.ml [])<|.step (.mk [2,3,4,50])<|.step (.mk [51,52,52,52,52,52,52,52,52,52,16,52,52,52,47,52,32,53,54,54,54,55,55,55])<|
 .ret [56,57,45]))
 (.step (.cb true)<|.step (.ci .i64 7)<|.step (.ci .u64 0)<|.step (.cb false)<|.step (.cs [])<|.step (.ml [])<|.step (.mk [2,43,44,47])<|.step (.mk [48,49,49,49,49,49,49,49,49,49,43,49,49,49,49,49,32,50,51,51,51,52,52,52])<|
 .ret [53,54,32])))
 (.step (.bin .eql 6 36)<|.step (.mk [3,4])<|.step (.mk [17,16,28])<|.step (.call 140 [39,40] 0)<|.step (.cell 0 41)<|.step (.cell 1 41)<|.step (.call 140 [39,40] 1)<|.step (.bin .neq 44 32)<|
 .ite 45
 (.step (.conv .u64 44)<|.step (.ci .i64 2)<|.step (.bin .geq 2 47)<|.ite 48
 (.step (.cb false)<|.step (.ci .i64 8)<|.step (.ci .u64 0)<|.step (.cs [])<|.step (.ml [])<|.step (.mk [2,3,4,49])<|.step (.mk [50,51,51,51,51,51,51,51,51,51,16,51,51,51,46,3,32,49,52,52,52,53,53,53])<|
 .ret [54,55,44])
 (.step (.cb false)<|.step (.ci .i64 8)<|.step (.ci .u64 0)<|.step (.cs [])<|.step (.ml [])<|.step (.mk [2,3,4,49])<|.step (.mk [50,51,51,51,51,51,51,51,51,51,16,51,51,51,46,51,32,49,52,52,52,53,53,53])<|
 .ret [54,55,44]))
 (.step (.cb true)<|.step (.ci .i64 7)<|.step (.ci .u64 0)<|.step (.cb false)<|.step (.cs [])<|.step (.ml [])<|.step (.mk [2,42,43,46])<|.step (.mk [47,48,48,48,48,48,48,48,48,48,42,48,48,48,48,48,32,49,50,50,50,51,51,51])<|
 .ret [52,53,32]))))
 (.ite 5
 (.step (.bin .leq 16 3)<|.ite 36
 (.step (.cb true)<|.step (.ci .i64 7)<|.step (.ci .u64 0)<|.step (.cb false)<|.step (.cs [])<|.step (.ml [])<|.step (.ci .i64 20)<|.step (.mk [2,3,4,37])<|.step (.mk [38,39,39,39,39,39,39,39,39,39,3,39,39,39,39,39,32,40,41,41,41,42,42,42])<|
 .ret [44,45,43])
 (.step (.ci .i64 6)<|.step (.bin .eql 6 37)<|.ite 38
 (.step (.mk [3,4])<|.step (.mk [17,16,28])<|.step (.call 140 [39,40] 0)<|.step (.cell 0 41)<|.step (.cell 1 41)<|.step (.call 140 [39,40] 1)<|.step (.bin .neq 44 32)<|.ite 45
 (.step (.conv .u64 44)<|.step (.ci .i64 2)<|.step (.bin .geq 2 47)<|.ite 48
 (.step (.cb true)<|.step (.ci .i64 8)<|.step (.ci .u64 0)<|.step (.cb false)<|.step (.cs [])<|.step (.ml [])<|.step (.mk [2,3,4,49])<|.step (.mk [50,51,51,51,51,51,51,51,51,51,16,51,51,51,46,3,32,52,53,53,53,54,54,54])<|
 .ret [55,56,44])
 (.step (.cb true)<|.step (.ci .i64 8)<|.step (.ci .u64 0)<|.step (.cb false)<|.step (.cs [])<|.step (.ml [])<|.step (.mk [2,3,4,49])<|.step (.mk [50,51,51,51,51,51,51,51,51,51,16,51,51,51,46,51,32,52,53,53,53,54,54,54])<|
 .ret [55,56,44]))
 (.step (.cb true)<|.step (.ci .i64 7)<|.step (.ci .u64 0)<|.step (.cb false)<|.step (.cs [])<|.step (.ml [])<|.step (.mk [2,42,43,46])<|.step (.mk [47,48,48,48,48,48,48,48,48,48,42,48,48,48,48,48,32,49,50,50,50,51,51,51])<|
 .ret [52,53,32]))
 (.step (.cb true)<|.step (.ci .i64 7)<|.step (.ci .u64 0)<|.step (.cb false)<|.step (.cs [])<|.step (.ml [])<|.step (.mk [2,16,28,39])<|.step (.mk [40,41,41,41,41,41,41,41,41,41,16,41,41,41,41,41,32,42,43,43,43,44,44,44])<|
 .ret [45,46,32])))
 (.step (.ci .i64 6)<|.step (.bin .eql 6 36)<|.ite 37
 (.step (.mk [3,4])<|.step (.mk [17,16,28])<|.step (.call 140 [38,39] 0)<|.step (.cell 0 40)<|.step (.cell 1 40)<|.step (.call 140 [38,39] 1)<|.step (.bin .neq 43 32)<|.ite 44
 (.step (.conv .u64 43)<|.step (.ci .i64 2)<|.step (.bin .geq 2 46)<|.ite 47
 (.step (.cb false)<|.step (.ci .i64 8)<|.step (.ci .u64 0)<|.step (.cs [])<|.step (.ml [])<|.step (.mk [2,3,4,48])<|.step (.mk [49,50,50,50,50,50,50,50,50,50,16,50,50,50,45,3,32,48,51,51,51,52,52,52])<|
 .ret [53,54,43])
 (.step (.cb false)<|.step (.ci .i64 8)<|.step (.ci .u64 0)<|.step (.cs [])<|.step (.ml [])<|.step (.mk [2,3,4,48])<|.step (.mk [49,50,50,50,50,50,50,50,50,50,16,50,50,50,45,50,32,48,51,51,51,52,52,52])<|
 .ret [53,54,43]))
 (.step (.cb true)<|.step (.ci .i64 7)<|.step (.ci .u64 0)<|.step (.cb false)<|.step (.cs [])<|.step (.ml [])<|.step (.mk [2,41,42,45])<|.step (.mk [46,47,47,47,47,47,47,47,47,47,41,47,47,47,47,47,32,48,49,49,49,50,50,50])<|
 .ret [51,52,32]))
 (.step (.cb true)<|.step (.ci .i64 7)<|.step (.ci .u64 0)<|.step (.cb false)<|.step (.cs [])<|.step (.ml [])<|.step (.mk [2,16,28,38])<|.step (.mk [39,40,40,40,40,40,40,40,40,40,16,40,40,40,40,40,32,41,42,42,42,43,43,43])<|
 .ret [44,45,32]))))
def d9:aA:=.fn [.sc] [.sc]<|.step (.ci .i64 1)<|.step (.call 10 [0,1] 0)<|.step (.call 10 [0,1] 1)<|.ret [3]
def YT:aA:=.fn [.sc,.sc] [.sc]<|.step (.len 0)<|.step (.len 1)<|.step (.bin .neq 2 3)<|.ite 4
 (.step (.cb false)<|.ret [5])
 (.step (.ci .i64 0)<|.step (.call 165 [1,0,2,5] 0)<|.step (.bin .eql 6 5)<|.ite 7
 (.step (.cb false)<|.ret [8])
 (.step (.cb true)<|.ret [8]))
def Yu:aA:=.fn [.ag 3] [.sc]<|.step (.cell 0 0)<|.step (.cell 1 0)<|.step (.cell 2 0)<|.step (.bin .leq 2 1)<|.ite 4
 (.step (.ci .i64 20)<|.ret [5])
 (.step (.call 114 [3] 0)<|.ret [5])
def d89:aA:=.fn [.sc] [.sc]<|.step (.len 0)<|.step (.ci .i64 0)<|.step (.ml [])<|.step (.call 90 [3,0,1,2] 0)<|.step (.call 90 [3,0,1,2] 1)<|.ret [5]
def Yr:aA:=.fn [.sc] [.sc]<|.step (.len 0)<|.step (.ci .i64 0)<|.step (.call 15 [0,1,2] 0)<|.step (.bin .eql 3 2)<|.ite 4
 (.step (.cb false)<|.ret [5])
 (.step (.ci .i64 60)<|.step (.bin .leq 1 5)<|.ret [6])
def d95:aA:=.fn [.sc,.sc] [.sc]<|.step (.call 96 [0] 0)<|.step (.len 2)<|.step (.ci .i64 0)<|.step (.ml [])<|.step (.call 97 [1,5,2,3,4] 0)<|.step (.call 97 [1,5,2,3,4] 1)<|
 .ret [7]
def Yx:aA:=.fn [.sc,.sc] [.sc]<|.step (.len 0)<|.step (.ci .i64 0)<|.step (.call 145 [1,0,2,3] 0)<|.step (.bin .eql 4 3)<|.ite 5
 (.step (.call 145 [1,0,2,3] 1)<|.ret [6])
 (.step (.ci .u64 0)<|.ret [6])
def X7:aA:=.fn [.ag 2] [.sc]<|.step (.cell 0 0)<|.step (.cell 1 0)<|.step (.ci .i64 1)<|.step (.ci .i64 64)<|.step (.call 120 [1,3,4] 0)<|.step (.ci .i64 0)<|.step (.bin .neq 5 6)<|
 .ite 7
 (.ret [5])
 (.step (.ci .i64 256)<|.step (.call 120 [2,6,8] 0)<|.ret [9])
def ZP:aA:=.fn [.sc] [.sc]<|.step (.ci .i64 0)<|.step (.call 70 [0,1] 0)<|.ret [2]
def XT:aA:=.fn [.sc] [.sc]<|.step (.len 0)<|.step (.conv .u64 1)<|.step (.call 109 [2] 0)<|.step (.ci .i64 0)<|.step (.call 111 [3,0,1,4] 0)<|.step (.call 111 [3,0,1,4] 1)<|
 .ret [6]
def Yb:aA:=.fn [.sc] [.sc]<|.step (.slen 0)<|.step (.ci .i64 0)<|.step (.bin .eql 1 2)<|.ite 3
 (.ret [2])
 (.step (.sD 0 2)<|.step (.conv .i64 4)<|.step (.ci .i64 128)<|.step (.bin .lss 5 6)<|.ite 7
 (.step (.ci .i64 1)<|.ret [8])
 (.step (.ci .i64 192)<|.step (.bin .geq 5 8)<|.ite 9
 (.step (.ci .i64 224)<|.step (.bin .lss 5 10)<|.ite 11
 (.step (.bin .sub 5 8)<|.step (.ci .i64 2)<|.step (.bin .lss 1 13)<|.ite 14
 (.ret [2])
 (.step (.ci .i64 1)<|.step (.call 124 [0,13,12,6,15] 0)<|.step (.bin .eql 16 2)<|.ite 17
 (.ret [2])
 (.step (.call 124 [0,13,12,6,15] 1)<|.step (.bin .lss 18 6)<|.ite 19
 (.ret [2])
 (.step (.ci .i64 1114111)<|.step (.bin .gtr 18 20)<|.ite 21
 (.ret [2])
 (.step (.ci .i64 55296)<|.step (.bin .geq 18 22)<|.ite 23
 (.step (.ci .i64 57344)<|.step (.bin .lss 18 24)<|.ite 25
 (.ret [2])
 (.ret [13]))
 (.ret [13]))))))
 (.step (.bin .geq 5 10)<|.step (.ci .i64 240)<|.step (.bin .lss 5 13)<|.ite 14
 (.step (.bin .sub 5 10)<|.step (.ci .i64 3)<|.step (.bin .lss 1 16)<|.ite 17
 (.ret [2])
 (.step (.ci .i64 2048)<|.step (.ci .i64 1)<|.step (.call 124 [0,16,15,18,19] 0)<|.step (.bin .eql 20 2)<|.ite 21
 (.ret [2])
 (.step (.call 124 [0,16,15,18,19] 1)<|.step (.bin .lss 22 18)<|.ite 23
 (.ret [2])
 (.step (.ci .i64 1114111)<|.step (.bin .gtr 22 24)<|.ite 25
 (.ret [2])
 (.step (.ci .i64 55296)<|.step (.bin .geq 22 26)<|.ite 27
 (.step (.ci .i64 57344)<|.step (.bin .lss 22 28)<|.ite 29
 (.ret [2])
 (.ret [16]))
 (.ret [16]))))))
 (.step (.bin .geq 5 13)<|.step (.ci .i64 248)<|.step (.bin .lss 5 16)<|.ite 17
 (.step (.bin .sub 5 13)<|.step (.ci .i64 4)<|.step (.bin .lss 1 19)<|.ite 20
 (.ret [2])
 (.step (.ci .i64 65536)<|.step (.ci .i64 1)<|.step (.call 124 [0,19,18,21,22] 0)<|.step (.bin .eql 23 2)<|.ite 24
 (.ret [2])
 (.step (.call 124 [0,19,18,21,22] 1)<|.step (.bin .lss 25 21)<|.ite 26
 (.ret [2])
 (.step (.ci .i64 1114111)<|.step (.bin .gtr 25 27)<|.ite 28
 (.ret [2])
 (.step (.ci .i64 55296)<|.step (.bin .geq 25 29)<|.ite 30
 (.step (.ci .i64 57344)<|.step (.bin .lss 25 31)<|.ite 32
 (.ret [2])
 (.ret [19]))
 (.ret [19]))))))
 (.ret [2]))))
 (.step (.ci .i64 224)<|.step (.bin .geq 5 10)<|.ite 11
 (.step (.ci .i64 240)<|.step (.bin .lss 5 12)<|.ite 13
 (.step (.bin .sub 5 10)<|.step (.ci .i64 3)<|.step (.bin .lss 1 15)<|.ite 16
 (.ret [2])
 (.step (.ci .i64 2048)<|.step (.ci .i64 1)<|.step (.call 124 [0,15,14,17,18] 0)<|.step (.bin .eql 19 2)<|.ite 20
 (.ret [2])
 (.step (.call 124 [0,15,14,17,18] 1)<|.step (.bin .lss 21 17)<|.ite 22
 (.ret [2])
 (.step (.ci .i64 1114111)<|.step (.bin .gtr 21 23)<|.ite 24
 (.ret [2])
 (.step (.ci .i64 55296)<|.step (.bin .geq 21 25)<|.ite 26
 (.step (.ci .i64 57344)<|.step (.bin .lss 21 27)<|.ite 28
 (.ret [2])
 (.ret [15]))
 (.ret [15]))))))
 (.step (.bin .geq 5 12)<|.step (.ci .i64 248)<|.step (.bin .lss 5 15)<|.ite 16
 (.step (.bin .sub 5 12)<|.step (.ci .i64 4)<|.step (.bin .lss 1 18)<|.ite 19
 (.ret [2])
 (.step (.ci .i64 65536)<|.step (.ci .i64 1)<|.step (.call 124 [0,18,17,20,21] 0)<|.step (.bin .eql 22 2)<|.ite 23
 (.ret [2])
 (.step (.call 124 [0,18,17,20,21] 1)<|.step (.bin .lss 24 20)<|.ite 25
 (.ret [2])
 (.step (.ci .i64 1114111)<|.step (.bin .gtr 24 26)<|.ite 27
 (.ret [2])
 (.step (.ci .i64 55296)<|.step (.bin .geq 24 28)<|.ite 29
 (.step (.ci .i64 57344)<|.step (.bin .lss 24 30)<|.ite 31
 (.ret [2])
 (.ret [18]))
 (.ret [18]))))))
 (.ret [2])))
 (.step (.ci .i64 240)<|.step (.bin .geq 5 12)<|.ite 13
 (.step (.ci .i64 248)<|.step (.bin .lss 5 14)<|.ite 15
 (.step (.bin .sub 5 12)<|.step (.ci .i64 4)<|.step (.bin .lss 1 17)<|.ite 18
 (.ret [2])
 (.step (.ci .i64 65536)<|.step (.ci .i64 1)<|.step (.call 124 [0,17,16,19,20] 0)<|.step (.bin .eql 21 2)<|.ite 22
 (.ret [2])
 (.step (.call 124 [0,17,16,19,20] 1)<|.step (.bin .lss 23 19)<|.ite 24
 (.ret [2])
 (.step (.ci .i64 1114111)<|.step (.bin .gtr 23 25)<|.ite 26
 (.ret [2])
 (.step (.ci .i64 55296)<|.step (.bin .geq 23 27)<|.ite 28
 (.step (.ci .i64 57344)<|.step (.bin .lss 23 29)<|.ite 30
 (.ret [2])
 (.ret [17]))
 (.ret [17]))))))
 (.ret [2]))
 (.ret [2])))))
def d13:aA:=.fn [.ag 2] [.sc]<|.step (.cell 0 0)<|.step (.cell 1 0)<|.step (.slen 1)<|.step (.conv .u64 3)<|.step (.call 8 [4] 0)<|.step (.bin .add 5 1)<|.step (.slen 2)<|.step (.conv .u64 7)<|
 .step (.call 8 [8] 0)<|.step (.bin .add 6 9)<|.step (.bin .add 10 2)<|.ret [11]
def d94:aA:=.fn [.ag 24,.sc] [.sc]<|.step (.cell 0 0)<|.step (.cell 1 0)<|.step (.cell 2 0)<|.step (.cell 3 0)<|.step (.cell 4 0)<|.step (.cell 5 0)<|.step (.cell 6 0)<|.step (.cell 7 0)<|
 .step (.cell 8 0)<|.step (.cell 9 0)<|.step (.cell 10 0)<|.step (.cell 11 0)<|.step (.cell 12 0)<|.step (.cell 13 0)<|.step (.cell 14 0)<|.step (.cell 15 0)<|.step (.cell 16 0)<|
 .step (.cell 17 0)<|.step (.cell 18 0)<|.step (.cell 19 0)<|.step (.cell 20 0)<|.step (.cell 21 0)<|.step (.cell 22 0)<|.step (.cell 23 0)<|.step (.ci .i64 1)<|.step (.bin .lss 1 26)<|
 .ite 27
 (.step (.ci .i64 16)<|.ret [28])
 (.step (.ci .i64 3)<|.step (.bin .gtr 1 28)<|.ite 29
 (.step (.ci .i64 16)<|.ret [30])
 (.step (.call 95 [2,1] 0)<|.step (.len 30)<|.step (.ci .i64 0)<|.step (.bin .eql 31 32)<|.ite 33
 (.step (.ci .i64 15)<|.ret [34])
 (.step (.call 98 [] 0)<|.step (.len 34)<|.step (.call 99 [30,34,35,32,2,3,4,5,6,7,8,9,10,11,12,13,14,15,16,17,18,19,20,21,22,23,24,25] 0)<|.step (.bin .eql 36 32)<|
 .ite 37
 (.step (.ci .i64 26)<|.ret [38])
 (.step (.call 135 [30,31,32,2,3,4,5,6,7,8,9,10,11,12,13,14,15,16,17,18,19,20,21,22,23,24,25] 0)<|.step (.bin .eql 38 32)<|.ite 39
 (.step (.call 135 [30,31,32,2,3,4,5,6,7,8,9,10,11,12,13,14,15,16,17,18,19,20,21,22,23,24,25] 1)<|.ret [40])
 (.step (.bin .eql 2 26)<|.ite 40
 (.step (.ci .u64 0)<|.step (.bin .eql 4 41)<|.ite 42
 (.step (.ci .i64 18)<|.ret [43])
 (.step (.bin .lss 5 4)<|.ite 43
 (.step (.ci .i64 18)<|.ret [44])
 (.step (.ci .u64 255)<|.step (.bin .gtr 5 44)<|.ite 45
 (.step (.ci .i64 18)<|.ret [46])
 (.step (.ci .i64 2)<|.step (.bin .eql 2 46)<|.step (.ci .i64 5)<|.step (.bin .eql 2 48)<|.step (.ci .i64 6)<|.step (.bin .eql 2 50)<|.step (.bin .eql 2 28)<|.step (.call 136 [25,32] 0)<|
 .step (.bin .neq 53 32)<|.ite 54
 (.ret [53])
 (.step (.len 25)<|.step (.call 138 [30,25,55,32] 0)<|.step (.bin .eql 56 32)<|.ite 57
 (.step (.ci .i64 14)<|.ret [58])
 (.ret [32]))))))
 (.step (.ci .i64 2)<|.step (.bin .eql 2 41)<|.ite 42
 (.step (.ci .u64 0)<|.step (.bin .eql 6 43)<|.ite 44
 (.step (.ci .i64 18)<|.ret [45])
 (.step (.ci .u64 255)<|.step (.bin .gtr 6 45)<|.ite 46
 (.step (.ci .i64 18)<|.ret [47])
 (.step (.ci .i64 5)<|.step (.bin .eql 2 47)<|.step (.ci .i64 6)<|.step (.bin .eql 2 49)<|.step (.bin .eql 2 28)<|.step (.call 136 [25,32] 0)<|.step (.bin .neq 52 32)<|.ite 53
 (.ret [52])
 (.step (.len 25)<|.step (.call 138 [30,25,54,32] 0)<|.step (.bin .eql 55 32)<|.ite 56
 (.step (.ci .i64 14)<|.ret [57])
 (.ret [32])))))
 (.step (.ci .i64 5)<|.step (.bin .eql 2 43)<|.ite 44
 (.step (.ci .u64 0)<|.step (.bin .eql 12 45)<|.ite 46
 (.step (.ci .i64 18)<|.ret [47])
 (.step (.ci .i64 6)<|.step (.bin .eql 2 47)<|.step (.bin .eql 2 28)<|.step (.call 136 [25,32] 0)<|.step (.bin .neq 50 32)<|.ite 51
 (.ret [50])
 (.step (.len 25)<|.step (.call 138 [30,25,52,32] 0)<|.step (.bin .eql 53 32)<|.ite 54
 (.step (.ci .i64 14)<|.ret [55])
 (.ret [32]))))
 (.step (.ci .i64 6)<|.step (.bin .eql 2 45)<|.ite 46
 (.step (.ci .u64 0)<|.step (.bin .eql 13 47)<|.ite 48
 (.step (.ci .i64 18)<|.ret [49])
 (.step (.bin .eql 2 28)<|.step (.bin .leq 12 13)<|.ite 50
 (.step (.ci .i64 20)<|.ret [51])
 (.step (.call 136 [25,32] 0)<|.step (.bin .neq 51 32)<|.ite 52
 (.ret [51])
 (.step (.len 25)<|.step (.call 138 [30,25,53,32] 0)<|.step (.bin .eql 54 32)<|.ite 55
 (.step (.ci .i64 14)<|.ret [56])
 (.ret [32])))))
 (.step (.bin .eql 2 28)<|.ite 47
 (.step (.len 23)<|.step (.bin .eql 48 32)<|.ite 49
 (.step (.ci .i64 12)<|.ret [50])
 (.step (.call 136 [25,32] 0)<|.step (.bin .neq 50 32)<|.ite 51
 (.ret [50])
 (.step (.len 25)<|.step (.call 138 [30,25,52,32] 0)<|.step (.bin .eql 53 32)<|.ite 54
 (.step (.ci .i64 14)<|.ret [55])
 (.ret [32]))))
 (.step (.call 136 [25,32] 0)<|.step (.bin .neq 48 32)<|.ite 49
 (.ret [48])
 (.step (.len 25)<|.step (.call 138 [30,25,50,32] 0)<|.step (.bin .eql 51 32)<|.ite 52
 (.step (.ci .i64 14)<|.ret [53])
 (.ret [32]))))))))))))
def YL:aA:=.fn [.sc,.sc] [.sc]<|.step (.len 0)<|.step (.len 1)<|.step (.bin .neq 2 3)<|.ite 4
 (.step (.cb false)<|.ret [5])
 (.step (.ci .i64 0)<|.step (.call 158 [0,1,2,5] 0)<|.step (.bin .eql 6 5)<|.ite 7
 (.step (.cb false)<|.ret [8])
 (.step (.cb true)<|.ret [8]))
def d2:aA:=.fn [.ag 24] [.sc]<|.step (.cell 0 0)<|.step (.cell 1 0)<|.step (.cell 2 0)<|.step (.cell 3 0)<|.step (.cell 4 0)<|.step (.cell 5 0)<|.step (.cell 6 0)<|.step (.cell 7 0)<|
 .step (.cell 8 0)<|.step (.cell 9 0)<|.step (.cell 10 0)<|.step (.cell 11 0)<|.step (.cell 12 0)<|.step (.cell 13 0)<|.step (.cell 14 0)<|.step (.cell 15 0)<|.step (.cell 16 0)<|
 .step (.cell 17 0)<|.step (.cell 18 0)<|.step (.cell 19 0)<|.step (.cell 20 0)<|.step (.cell 21 0)<|.step (.cell 22 0)<|.step (.cell 23 0)<|.step (.slen 19)<|.step (.ci .i64 600)<|
 .step (.bin .leq 25 26)<|.ite 27
 (.step (.slen 20)<|.step (.bin .leq 28 26)<|.ite 29
 (.step (.slen 21)<|.step (.bin .leq 30 26)<|.ite 31
 (.step (.call 3 [22] 0)<|.ite 32
 (.step (.call 5 [23] 0)<|.ite 33
 (.step (.call 14 [24] 0)<|.ret [34])
 (.step (.cb false)<|.ret [34]))
 (.step (.cb false)<|.ret [33]))
 (.step (.cb false)<|.ret [32]))
 (.step (.cb false)<|.ret [30]))
 (.step (.cb false)<|.ret [28])
def Yv:aA:=.fn [.sc,.sc] [.sc,.sc]<|.step (.len 0)<|.step (.ci .i64 0)<|.step (.ml [])<|.step (.call 143 [0,1,4,2,3] 0)<|.step (.bin .eql 5 3)<|.ite 6
 (.step (.ci .i64 3)<|.ret [4,7])
 (.step (.call 143 [0,1,4,2,3] 1)<|.step (.len 1)<|.step (.call 146 [0,7,1,8,3] 0)<|.step (.call 146 [0,7,1,8,3] 1)<|.step (.call 147 [10] 0)<|.step (.call 147 [10] 1)<|
 .ret [11,12])
def XK:aA:=.fn [.ag 24,.sc] [.sc]<|.step (.cell 0 0)<|.step (.cell 1 0)<|.step (.cell 2 0)<|.step (.cell 3 0)<|.step (.cell 4 0)<|.step (.cell 5 0)<|.step (.cell 6 0)<|.step (.cell 7 0)<|
 .step (.cell 8 0)<|.step (.cell 9 0)<|.step (.cell 10 0)<|.step (.cell 11 0)<|.step (.cell 12 0)<|.step (.cell 13 0)<|.step (.cell 14 0)<|.step (.cell 15 0)<|.step (.cell 16 0)<|
 .step (.cell 17 0)<|.step (.cell 18 0)<|.step (.cell 19 0)<|.step (.cell 20 0)<|.step (.cell 21 0)<|.step (.cell 22 0)<|.step (.cell 23 0)<|.step (.cs [100,101,115,99,114])<|
 .step (.bin .eql 1 26)<|.ite 27
 (.step (.len 23)<|.step (.ci .i64 0)<|.step (.bin .eql 28 29)<|.ret [30])
 (.step (.cs [116,97,98,108,101])<|.step (.bin .eql 1 28)<|.ite 29
 (.step (.len 24)<|.step (.ci .i64 0)<|.step (.bin .eql 30 31)<|.ret [32])
 (.step (.mk [2,3,4,5,6,7,8,9,10,11,12,13,14,15,16,17,18,19,20,21,22,23,24,25])<|.step (.call 102 [30,1] 0)<|.step (.call 102 [30,1] 1)<|.step (.ci .u64 0)<|
 .step (.bin .eql 31 33)<|.ite 34
 (.step (.cs [])<|.step (.bin .eql 32 35)<|.ret [36])
 (.step (.cb false)<|.ret [35])))
def YZ:aA:=.fn [.ag 2] [.ag 2]<|.step (.cell 0 0)<|.step (.cell 1 0)<|.step (.len 2)<|.step (.ml [])<|.step (.ci .u64 0)<|.step (.mk [4,5])<|.step (.ci .i64 0)<|.step (.rep 2 32 6 7 3)<|
 .step (.call 18 [2,3,7,1,8] 0)<|.step (.call 18 [2,3,7,1,8] 1)<|.step (.mk [1,10])<|.ret [11]
abbrev Z8:aA:=.wu DL
def Zk:aA:=.fn [.sc,.sc,.sc] [.sc]<|.step (.slen 0)<|.step (.bin .lss 3 1)<|.ite 4
 (.step (.ci .i64 13)<|.ret [5])
 (.step (.bin .gtr 3 2)<|.ite 5
 (.step (.ci .i64 13)<|.ret [6])
 (.step (.call 41 [0] 0)<|.step (.un .not 6)<|.ite 7
 (.step (.ci .i64 11)<|.ret [8])
 (.step (.ci .i64 0)<|.ret [8])))
def YW:aA:=.fn [.sc,.sc] [.sc]<|.step (.len 0)<|.step (.len 1)<|.step (.bin .neq 2 3)<|.ite 4
 (.step (.cb false)<|.ret [5])
 (.step (.ci .i64 0)<|.step (.call 168 [0,1,2,5] 0)<|.step (.bin .eql 6 5)<|.ite 7
 (.step (.cb false)<|.ret [8])
 (.step (.cb true)<|.ret [8]))
def Za:aA:=.fn [] [.sc]<|.step (.ci .u64 1)<|.step (.ci .i64 0)<|.step (.ci .i64 1)<|.step (.cs [105,100])<|.step (.mk [0,1,2,3])<|.step (.ci .u64 2)<|.step (.cs [97,108,108,111,119,101,100])<|
 .step (.mk [5,2,2,6])<|.step (.ci .u64 3)<|.step (.ci .i64 2)<|.step (.cs [114,101,109,97,105,110,105,110,103])<|.step (.mk [8,9,2,10])<|.step (.ci .u64 4)<|.step (.cs [114,101,116,114,121])<|
 .step (.mk [12,1,9,13])<|.step (.ci .u64 5)<|.step (.ci .i64 3)<|.step (.cs [110,111,116,101])<|.step (.mk [15,16,16,17])<|.step (.ml [4,7,11,14,18])<|.ret [19]
def d5:aA:=.fn [.sc] [.sc]<|.step (.len 0)<|.step (.ci .i64 0)<|.step (.call 6 [0,1,2] 0)<|.step (.bin .eql 3 2)<|.ite 4
 (.step (.cb false)<|.ret [5])
 (.step (.ci .i64 300)<|.step (.bin .leq 1 5)<|.ret [6])
def Z5:aA:=.fn [.sc,.sc] [.sc]<|.step (.call 7 [0] 0)<|.step (.call 7 [1] 0)<|.step (.call 80 [2,3] 0)<|.ret [4]
def X4:aA:=.fn [.ag 2] [.sc]<|.step (.cell 0 0)<|.step (.cell 1 0)<|.step (.call 117 [1] 0)<|.step (.ci .i64 0)<|.step (.bin .eql 3 4)<|.ite 5
 (.step (.ci .u64 0)<|.step (.bin .eql 2 6)<|.ite 7
 (.step (.ci .i64 18)<|.ret [8])
 (.ret [3]))
 (.ret [3])
def YG:aA:=.fn [.ag 24,.ag 24] [.sc]<|.step (.cell 0 0)<|.step (.cell 1 0)<|.step (.cell 2 0)<|.step (.cell 3 0)<|.step (.cell 4 0)<|.step (.cell 5 0)<|.step (.cell 6 0)<|
 .step (.cell 7 0)<|.step (.cell 8 0)<|.step (.cell 9 0)<|.step (.cell 10 0)<|.step (.cell 11 0)<|.step (.cell 12 0)<|.step (.cell 13 0)<|.step (.cell 14 0)<|.step (.cell 15 0)<|.step (.cell 16 0)<|
 .step (.cell 17 0)<|.step (.cell 18 0)<|.step (.cell 19 0)<|.step (.cell 20 0)<|.step (.cell 21 0)<|.step (.cell 22 0)<|.step (.cell 23 0)<|.step (.cell 0 1)<|.step (.cell 1 1)<|
 .step (.cell 2 1)<|.step (.cell 3 1)<|.step (.cell 4 1)<|.step (.cell 5 1)<|.step (.cell 6 1)<|.step (.cell 7 1)<|.step (.cell 8 1)<|.step (.cell 9 1)<|.step (.cell 10 1)<|.step (.cell 11 1)<|
 .step (.cell 12 1)<|.step (.cell 13 1)<|.step (.cell 14 1)<|.step (.cell 15 1)<|.step (.cell 16 1)<|.step (.cell 17 1)<|.step (.cell 18 1)<|.step (.cell 19 1)<|.step (.cell 20 1)<|
 .step (.cell 21 1)<|.step (.cell 22 1)<|.step (.cell 23 1)<|.step (.call 98 [] 0)<|.step (.len 50)<|.step (.ci .i64 0)<|.step (.call 153 [50,51,52,26,27,28,29,30,31,32,33,34,35,36,37,38,39,40,41,42,43,44,45,46,47,48,49,2,3,4,5,6,7,8,9,10,11,12,13,14,15,16,17,18,19,20,21,22,23,24,25] 0)<|
 .step (.bin .eql 53 52)<|.ite 54
 (.step (.cb false)<|.ret [55])
 (.step (.bin .neq 2 26)<|.ite 55
 (.step (.cb false)<|.ret [56])
 (.step (.len 23)<|.step (.len 47)<|.step (.bin .neq 56 57)<|.ite 58
 (.step (.cb false)<|.ret [59])
 (.step (.call 154 [24,48] 0)<|.step (.un .not 59)<|.ite 60
 (.step (.cb false)<|.ret [61])
 (.step (.call 157 [25,49] 0)<|.step (.un .not 61)<|.ite 62
 (.step (.cb false)<|.ret [63])
 (.step (.call 159 [56,52,26,27,28,29,30,31,32,33,34,35,36,37,38,39,40,41,42,43,44,45,46,47,48,49,2,3,4,5,6,7,8,9,10,11,12,13,14,15,16,17,18,19,20,21,22,23,24,25] 0)<|
 .step (.bin .eql 63 52)<|.ite 64
 (.step (.cb false)<|.ret [65])
 (.step (.cb true)<|.ret [65]))))))
def XM:aA:=.fn [.sc] [.sc]<|.step (.ci .i64 1)<|.step (.call 104 [0,1] 0)<|.step (.ci .i64 0)<|.step (.bin .eql 2 3)<|.ite 4
 (.step (.call 104 [0,1] 1)<|.ret [5])
 (.step (.ci .i64 (-1))<|.ret [5])
def XL:aA:=.fn [.ag 24,.sc] [.sc,.sc]<|.step (.cell 0 0)<|.step (.cell 1 0)<|.step (.cell 2 0)<|.step (.cell 3 0)<|.step (.cell 4 0)<|.step (.cell 5 0)<|.step (.cell 6 0)<|
 .step (.cell 7 0)<|.step (.cell 8 0)<|.step (.cell 9 0)<|.step (.cell 10 0)<|.step (.cell 11 0)<|.step (.cell 12 0)<|.step (.cell 13 0)<|.step (.cell 14 0)<|.step (.cell 15 0)<|.step (.cell 16 0)<|
 .step (.cell 17 0)<|.step (.cell 18 0)<|.step (.cell 19 0)<|.step (.cell 20 0)<|.step (.cell 21 0)<|.step (.cell 22 0)<|.step (.cell 23 0)<|.step (.call 103 [1] 0)<|.step (.ci .i64 0)<|
 .step (.bin .eql 26 27)<|.ite 28
 (.step (.mk [2,3,4,5,6,7,8,9,10,11,12,13,14,15,16,17,18,19,20,21,22,23,24,25])<|.step (.call 106 [29,1] 0)<|.step (.cs [])<|.ret [30,31])
 (.step (.ci .i64 1)<|.step (.bin .eql 26 29)<|.ite 30
 (.ite 19
 (.step (.ci .u64 1)<|.step (.cs [])<|.ret [31,32])
 (.step (.ci .u64 0)<|.step (.cs [])<|.ret [31,32]))
 (.step (.ci .i64 2)<|.step (.bin .eql 26 31)<|.ite 32
 (.step (.bin .geq 18 27)<|.ite 33
 (.step (.conv .u64 18)<|.step (.ci .u64 2)<|.step (.bin .mul 35 34)<|.step (.cs [])<|.ret [36,37])
 (.step (.bin .add 18 29)<|.step (.bin .sub 27 34)<|.step (.conv .u64 35)<|.step (.ci .u64 1)<|.step (.bin .add 36 37)<|.step (.bin .sub 38 37)<|.step (.ci .u64 2)<|.step (.bin .mul 40 39)<|
 .step (.bin .add 41 37)<|.step (.cs [])<|.ret [42,43]))
 (.step (.ci .i64 3)<|.step (.bin .eql 26 33)<|.ite 34
 (.step (.mk [2,3,4,5,6,7,8,9,10,11,12,13,14,15,16,17,18,19,20,21,22,23,24,25])<|.step (.call 107 [35,1] 0)<|.step (.ci .u64 0)<|.ret [37,36])
 (.step (.ci .i64 4)<|.step (.bin .eql 26 35)<|.ite 36
 (.step (.len 23)<|.step (.bin .gtr 37 27)<|.ite 38
 (.step (.call 108 [23] 0)<|.step (.ci .u64 0)<|.ret [40,39])
 (.step (.ci .u64 0)<|.step (.cs [])<|.ret [39,40]))
 (.step (.len 24)<|.step (.bin .gtr 37 27)<|.ite 38
 (.step (.call 113 [24] 0)<|.step (.call 113 [24] 1)<|.step (.ci .u64 0)<|.ret [41,39])
 (.step (.ci .u64 0)<|.step (.cs [])<|.ret [39,40]))))))
def Y5:aA:=.fn [.sc,.sc] [.sc]<|.step (.ci .i64 0)<|.step (.bin .eql 0 2)<|.step (.ci .i64 1)<|.step (.bin .eql 0 4)<|.ite 5
 (.step (.bin .lss 1 4)<|.ite 6
 (.step (.ml [])<|.ret [7])
 (.step (.ci .i64 3)<|.step (.bin .gtr 1 7)<|.ite 8
 (.step (.ml [])<|.ret [9])
 (.step (.call 24 [] 0)<|.step (.len 9)<|.step (.ml [])<|.step (.call 25 [1,11,9,10,2] 0)<|.step (.call 25 [1,11,9,10,2] 1)<|.ret [13])))
 (.step (.ci .i64 2)<|.step (.bin .eql 0 6)<|.ite 7
 (.step (.bin .lss 1 4)<|.ite 8
 (.step (.ml [])<|.ret [9])
 (.step (.ci .i64 3)<|.step (.bin .gtr 1 9)<|.ite 10
 (.step (.ml [])<|.ret [11])
 (.step (.call 26 [] 0)<|.step (.len 11)<|.step (.ml [])<|.step (.call 25 [1,13,11,12,2] 0)<|.step (.call 25 [1,13,11,12,2] 1)<|.ret [15])))
 (.step (.ci .i64 3)<|.step (.bin .eql 0 8)<|.ite 9
 (.step (.bin .lss 1 4)<|.ite 10
 (.step (.ml [])<|.ret [11])
 (.step (.bin .gtr 1 8)<|.ite 11
 (.step (.ml [])<|.ret [12])
 (.step (.call 27 [] 0)<|.step (.len 12)<|.step (.ml [])<|.step (.call 25 [1,14,12,13,2] 0)<|.step (.call 25 [1,14,12,13,2] 1)<|.ret [16])))
 (.step (.ci .i64 4)<|.step (.bin .eql 0 10)<|.ite 11
 (.step (.bin .lss 1 4)<|.ite 12
 (.step (.ml [])<|.ret [13])
 (.step (.bin .gtr 1 8)<|.ite 13
 (.step (.ml [])<|.ret [14])
 (.step (.call 28 [] 0)<|.step (.len 14)<|.step (.ml [])<|.step (.call 25 [1,16,14,15,2] 0)<|.step (.call 25 [1,16,14,15,2] 1)<|.ret [18])))
 (.step (.ci .i64 5)<|.step (.bin .eql 0 12)<|.ite 13
 (.step (.bin .lss 1 4)<|.ite 14
 (.step (.ml [])<|.ret [15])
 (.step (.bin .gtr 1 8)<|.ite 15
 (.step (.ml [])<|.ret [16])
 (.step (.call 29 [] 0)<|.step (.len 16)<|.step (.ml [])<|.step (.call 25 [1,18,16,17,2] 0)<|.step (.call 25 [1,18,16,17,2] 1)<|.ret [20])))
 (.step (.ci .i64 6)<|.step (.bin .eql 0 14)<|.ite 15
 (.step (.bin .lss 1 6)<|.ite 16
 (.step (.ml [])<|.ret [17])
 (.step (.bin .gtr 1 8)<|.ite 17
 (.step (.ml [])<|.ret [18])
 (.step (.call 30 [] 0)<|.step (.len 18)<|.step (.ml [])<|.step (.call 25 [1,20,18,19,2] 0)<|.step (.call 25 [1,20,18,19,2] 1)<|.ret [22])))
 (.step (.ci .i64 7)<|.step (.bin .eql 0 16)<|.ite 17
 (.step (.bin .lss 1 4)<|.ite 18
 (.step (.ml [])<|.ret [19])
 (.step (.bin .gtr 1 8)<|.ite 19
 (.step (.ml [])<|.ret [20])
 (.step (.call 31 [] 0)<|.step (.len 20)<|.step (.ml [])<|.step (.call 25 [1,22,20,21,2] 0)<|.step (.call 25 [1,22,20,21,2] 1)<|.ret [24])))
 (.step (.ci .i64 8)<|.step (.bin .eql 0 18)<|.ite 19
 (.step (.bin .lss 1 4)<|.ite 20
 (.step (.ml [])<|.ret [21])
 (.step (.bin .gtr 1 8)<|.ite 21
 (.step (.ml [])<|.ret [22])
 (.step (.call 32 [] 0)<|.step (.len 22)<|.step (.ml [])<|.step (.call 25 [1,24,22,23,2] 0)<|.step (.call 25 [1,24,22,23,2] 1)<|.ret [26])))
 (.step (.ml [])<|.ret [20]))))))))
def Yo:aA:=.fn [.sc,.sc] [.sc]<|.step (.len 0)<|.step (.ci .i64 0)<|.step (.call 137 [0,1,2,3] 0)<|.step (.bin .eql 4 3)<|.ite 5
 (.step (.call 137 [0,1,2,3] 1)<|.ret [6])
 (.ret [3])
def d83:aA:=.fn [.sc] [.sc]<|.step (.ci .u8 0)<|.step (.call 84 [0,1] 0)<|.step (.call 84 [0,1] 1)<|.ret [2]
def Zx:aA:=.fn [.ag 2] [.sc]<|.step (.cell 0 0)<|.step (.cell 1 0)<|.step (.call 46 [1] 0)<|.step (.ci .i64 0)<|.step (.bin .neq 3 4)<|.ite 5
 (.ret [3])
 (.step (.ci .u64 0)<|.step (.bin .eql 2 6)<|.ite 7
 (.step (.ci .i64 18)<|.ret [8])
 (.ret [4]))
def YA:aA:=.fn [.sc] [.sc,.sc]<|.step (.len 0)<|.step (.ci .i64 256)<|.step (.bin .gtr 1 2)<|.ite 3
 (.step (.ml [])<|.step (.ci .i64 13)<|.ret [4,5])
 (.step (.ci .i64 0)<|.step (.call 148 [0,1,4] 0)<|.step (.bin .eql 5 4)<|.ite 6
 (.step (.call 148 [0,1,4] 1)<|.step (.ml [])<|.ret [8,7])
 (.step (.ml [])<|.step (.call 149 [7,0,1,4] 0)<|.step (.bin .eql 8 4)<|.ite 9
 (.step (.ci .i64 14)<|.ret [7,10])
 (.step (.call 149 [7,0,1,4] 1)<|.ret [10,4])))
def Zl:aA:=.fn [.sc] [.sc]<|.step (.call 42 [0] 0)<|.ret [1]
def Yk:aA:=.fn [.sc,.sc] [.sc]<|.step (.call 133 [0,1] 0)<|.step (.conv .u64 2)<|.step (.call 109 [3] 0)<|.step (.slen 1)<|.step (.bin .sub 5 2)<|.step (.conv .u64 6)<|.step (.call 109 [7] 0)<|
 .step (.bin .add 4 8)<|.step (.zZ 1 2 5)<|.step (.bin .add 9 10)<|.ret [11]
def Zd:aA:=.fn [] [.sc]<|.step (.ci .u64 1)<|.step (.ci .i64 0)<|.step (.ci .i64 1)<|.step (.cs [101,112,111,99,104])<|.step (.mk [0,1,2,3])<|.step (.ci .u64 2)<|.step (.ci .i64 3)<|
 .step (.cs [108,97,103])<|.step (.mk [5,1,6,7])<|.step (.ml [4,8])<|.ret [9]
def ZY:aA:=.fn [.sc,.sc] [.sc,.sc]<|.step (.len 0)<|.step (.len 1)<|.step (.bin .add 2 3)<|.step (.ml [])<|.step (.ci .u64 0)<|.step (.mk [5,6])<|.step (.ci .i64 0)<|.step (.rep 2 32 7 8 4)<|
 .step (.call 78 [0,1,9] 0)<|.step (.bin .eql 10 8)<|.ite 11
 (.step (.ci .i64 3)<|.ret [5,12])
 (.step (.call 78 [0,1,9] 1)<|.step (.len 12)<|.step (.ci .i64 256)<|.step (.bin .gtr 13 14)<|.ite 15
 (.step (.ci .i64 13)<|.ret [5,16])
 (.ret [12,8]))
def YQ:aA:=.fn [.ag 2,.ag 2] [.sc]<|.step (.cell 0 0)<|.step (.cell 1 0)<|.step (.cell 0 1)<|.step (.cell 1 1)<|.step (.bin .eql 2 4)<|.ite 6
 (.step (.call 154 [3,5] 0)<|.ret [7])
 (.step (.cb false)<|.ret [7])
def Zt:aA:=.fn [.ag 2] [.sc]<|.step (.cell 0 0)<|.step (.cell 1 0)<|.step (.ci .i64 1)<|.step (.ci .i64 64)<|.step (.call 40 [1,3,4] 0)<|.step (.ci .i64 0)<|.step (.bin .neq 5 6)<|
 .ite 7
 (.ret [5])
 (.step (.ci .i64 256)<|.step (.call 40 [2,6,8] 0)<|.ret [9])
def ZV:aA:=.fn [.ag 2,.ag 3] [.ag 2,.sc]<|.step (.cell 0 0)<|.step (.cell 1 0)<|.step (.cell 0 1)<|.step (.cell 1 1)<|.step (.cell 2 1)<|.step (.mk [2,3])<|.step (.call 75 [7] 0)<|
 .step (.ci .i64 0)<|.step (.bin .neq 8 9)<|.ite 10
 (.step (.ci .u64 0)<|.step (.ml [])<|.step (.mk [11,12])<|.ret [13,8])
 (.step (.mk [4,5,6])<|.step (.call 76 [11] 0)<|.step (.bin .neq 12 9)<|.ite 13
 (.step (.ci .u64 0)<|.step (.ml [])<|.step (.mk [14,15])<|.ret [16,12])
 (.step (.bin .neq 2 4)<|.ite 14
 (.step (.ci .u64 0)<|.step (.ml [])<|.step (.ci .i64 19)<|.step (.mk [15,16])<|.ret [18,17])
 (.step (.call 77 [3,6] 0)<|.step (.call 77 [3,6] 1)<|.step (.bin .neq 16 9)<|.ite 17
 (.step (.ci .u64 0)<|.step (.ml [])<|.step (.mk [18,19])<|.ret [20,16])
 (.step (.mk [5,15])<|.ret [18,9]))))
abbrev Zg:aA:=.wu Ja
def Yl:aA:=.fn [.sc,.sc] [.sc]<|.step (.ci .i64 0)<|.step (.call 134 [0,1,2] 0)<|.step (.bin .eql 3 2)<|.ite 4
 (.step (.call 134 [0,1,2] 1)<|.ret [5])
 (.step (.slen 0)<|.step (.slen 1)<|.step (.mm false 5 6)<|.ret [7])
def Y6:aA:=.fn [] [.sc]<|.step (.ci .u64 1)<|.step (.ci .i64 0)<|.step (.ci .i64 1)<|.step (.cs [109,105,110])<|.step (.mk [0,1,2,3])<|.step (.ci .u64 2)<|.step (.cs [109,97,120])<|
 .step (.mk [5,1,2,6])<|.step (.ci .u64 3)<|.step (.ci .i64 3)<|.step (.cs [110,97,109,101])<|.step (.mk [8,9,2,10])<|.step (.ci .u64 4)<|.step (.ci .i64 2)<|.step (.cs [114,101,103,105,111,110])<|
 .step (.mk [12,9,13,14])<|.step (.ci .u64 5)<|.step (.cs [102,108,97,103,115])<|.step (.mk [16,1,9,17])<|.step (.ml [4,7,11,15,18])<|.ret [19]
def XZ:aA:=.fn [.sc] [.sc,.sc]<|.step (.call 114 [0] 0)<|.step (.ci .i64 0)<|.step (.bin .neq 1 2)<|.ite 3
 (.step (.cs [])<|.ret [4,1])
 (.step (.call 130 [0] 0)<|.ret [4,2])
def Y3:aA:=.fn [.ag 24,.sc] [.sc]<|.step (.cell 0 0)<|.step (.cell 1 0)<|.step (.cell 2 0)<|.step (.cell 3 0)<|.step (.cell 4 0)<|.step (.cell 5 0)<|.step (.cell 6 0)<|.step (.cell 7 0)<|
 .step (.cell 8 0)<|.step (.cell 9 0)<|.step (.cell 10 0)<|.step (.cell 11 0)<|.step (.cell 12 0)<|.step (.cell 13 0)<|.step (.cell 14 0)<|.step (.cell 15 0)<|.step (.cell 16 0)<|
 .step (.cell 17 0)<|.step (.cell 18 0)<|.step (.cell 19 0)<|.step (.cell 20 0)<|.step (.cell 21 0)<|.step (.cell 22 0)<|.step (.cell 23 0)<|.step (.ci .i64 1)<|.step (.bin .lss 1 26)<|
 .ite 27
 (.step (.ci .i64 16)<|.ret [28])
 (.step (.ci .i64 3)<|.step (.bin .gtr 1 28)<|.ite 29
 (.step (.ci .i64 16)<|.ret [30])
 (.step (.call 22 [2] 0)<|.step (.ci .i64 0)<|.step (.bin .eql 30 31)<|.ite 32
 (.step (.ci .i64 15)<|.ret [33])
 (.step (.bin .gtr 30 1)<|.ite 33
 (.step (.ci .i64 15)<|.ret [34])
 (.step (.call 23 [2,1] 0)<|.step (.len 34)<|.step (.ml [])<|.step (.call 33 [34,35,31,36,2,3,4,5,6,7,8,9,10,11,12,13,14,15,16,17,18,19,20,21,22,23,24,25] 0)<|
 .step (.call 33 [34,35,31,36,2,3,4,5,6,7,8,9,10,11,12,13,14,15,16,17,18,19,20,21,22,23,24,25] 1)<|.step (.call 34 [] 0)<|.step (.len 39)<|.step (.call 35 [34,39,40,31,38,2,3,4,5,6,7,8,9,10,11,12,13,14,15,16,17,18,19,20,21,22,23,24,25] 0)<|
 .step (.bin .eql 41 31)<|.ite 42
 (.step (.ci .i64 26)<|.ret [43])
 (.step (.call 36 [34,35,31,2,3,4,5,6,7,8,9,10,11,12,13,14,15,16,17,18,19,20,21,22,23,24,25] 0)<|.step (.bin .eql 43 31)<|.ite 44
 (.step (.call 36 [34,35,31,2,3,4,5,6,7,8,9,10,11,12,13,14,15,16,17,18,19,20,21,22,23,24,25] 1)<|.ret [45])
 (.step (.bin .eql 2 26)<|.ite 45
 (.step (.ci .u64 1)<|.step (.bin .lss 4 46)<|.ite 47
 (.step (.ci .i64 18)<|.ret [48])
 (.step (.bin .lss 5 4)<|.ite 48
 (.step (.ci .i64 18)<|.ret [49])
 (.step (.ci .u64 255)<|.step (.bin .gtr 5 49)<|.ite 50
 (.step (.ci .i64 18)<|.ret [51])
 (.step (.call 69 [25] 0)<|.step (.bin .neq 51 31)<|.ite 52
 (.ret [51])
 (.step (.len 25)<|.step (.call 72 [34,25,53,31] 0)<|.step (.bin .eql 54 31)<|.ite 55
 (.step (.ci .i64 14)<|.ret [56])
 (.ret [31]))))))
 (.step (.ci .i64 2)<|.step (.bin .eql 2 46)<|.ite 47
 (.step (.ci .u64 1)<|.step (.bin .lss 6 48)<|.ite 49
 (.step (.ci .i64 18)<|.ret [50])
 (.step (.ci .u64 255)<|.step (.bin .gtr 6 50)<|.ite 51
 (.step (.ci .i64 18)<|.ret [52])
 (.step (.call 69 [25] 0)<|.step (.bin .neq 52 31)<|.ite 53
 (.ret [52])
 (.step (.len 25)<|.step (.call 72 [34,25,54,31] 0)<|.step (.bin .eql 55 31)<|.ite 56
 (.step (.ci .i64 14)<|.ret [57])
 (.ret [31])))))
 (.step (.bin .eql 2 28)<|.ite 48
 (.step (.len 23)<|.step (.bin .eql 49 31)<|.ite 50
 (.step (.ci .i64 12)<|.ret [51])
 (.step (.call 69 [25] 0)<|.step (.bin .neq 51 31)<|.ite 52
 (.ret [51])
 (.step (.len 25)<|.step (.call 72 [34,25,53,31] 0)<|.step (.bin .eql 54 31)<|.ite 55
 (.step (.ci .i64 14)<|.ret [56])
 (.ret [31]))))
 (.step (.ci .i64 5)<|.step (.bin .eql 2 49)<|.ite 50
 (.step (.ci .u64 1)<|.step (.bin .lss 12 51)<|.ite 52
 (.step (.ci .i64 18)<|.ret [53])
 (.step (.call 69 [25] 0)<|.step (.bin .neq 53 31)<|.ite 54
 (.ret [53])
 (.step (.len 25)<|.step (.call 72 [34,25,55,31] 0)<|.step (.bin .eql 56 31)<|.ite 57
 (.step (.ci .i64 14)<|.ret [58])
 (.ret [31]))))
 (.step (.ci .i64 6)<|.step (.bin .eql 2 51)<|.ite 52
 (.step (.ci .u64 1)<|.step (.bin .lss 13 53)<|.ite 54
 (.step (.ci .i64 18)<|.ret [55])
 (.step (.bin .leq 12 13)<|.ite 55
 (.step (.ci .i64 20)<|.ret [56])
 (.step (.call 69 [25] 0)<|.step (.bin .neq 56 31)<|.ite 57
 (.ret [56])
 (.step (.len 25)<|.step (.call 72 [34,25,58,31] 0)<|.step (.bin .eql 59 31)<|.ite 60
 (.step (.ci .i64 14)<|.ret [61])
 (.ret [31])))))
 (.step (.call 69 [25] 0)<|.step (.bin .neq 53 31)<|.ite 54
 (.ret [53])
 (.step (.len 25)<|.step (.call 72 [34,25,55,31] 0)<|.step (.bin .eql 56 31)<|.ite 57
 (.step (.ci .i64 14)<|.ret [58])
 (.ret [31])))))))))))))
def d96:aA:=.fn [.sc] [.sc]<|.step (.ci .i64 1)<|.step (.bin .eql 0 1)<|.ite 2
 (.step (.ci .u64 1)<|.step (.ci .i64 0)<|.step (.cs [109,105,110])<|.step (.mk [3,4,1,5])<|.step (.ci .u64 2)<|.step (.cs [109,97,120])<|.step (.mk [7,4,1,8])<|.step (.ci .u64 3)<|
 .step (.ci .i64 3)<|.step (.cs [110,97,109,101])<|.step (.mk [10,11,1,12])<|.step (.ci .u64 4)<|.step (.ci .i64 2)<|.step (.cs [114,101,103,105,111,110])<|.step (.mk [14,11,15,16])<|
 .step (.ci .u64 5)<|.step (.cs [102,108,97,103,115])<|.step (.mk [18,4,11,19])<|.step (.ml [6,9,13,17,20])<|.ret [21])
 (.step (.ci .i64 2)<|.step (.bin .eql 0 3)<|.ite 4
 (.step (.ci .u64 1)<|.step (.ci .i64 0)<|.step (.cs [99,104,111,115,101,110])<|.step (.mk [5,6,1,7])<|.step (.ci .u64 2)<|.step (.ci .i64 3)<|.step (.cs [110,97,109,101])<|
 .step (.mk [9,10,1,11])<|.step (.ci .u64 3)<|.step (.cs [114,101,103,105,111,110])<|.step (.mk [13,10,3,14])<|.step (.ml [8,12,15])<|.ret [16])
 (.step (.ci .i64 3)<|.step (.bin .eql 0 5)<|.ite 6
 (.step (.ci .u64 1)<|.step (.ci .i64 0)<|.step (.cs [105,100])<|.step (.mk [7,8,1,9])<|.step (.ci .u64 2)<|.step (.ci .i64 4)<|.step (.cs [100,101,115,99,114])<|.step (.mk [11,12,1,13])<|
 .step (.ci .u64 3)<|.step (.cs [99,111,115,116])<|.step (.mk [15,8,1,16])<|.step (.ci .u64 4)<|.step (.cs [112,114,105,111,114,105,116,121])<|.step (.mk [18,8,3,19])<|
 .step (.ci .u64 5)<|.step (.cs [100,101,97,100,108,105,110,101])<|.step (.mk [21,8,5,22])<|.step (.ml [10,14,17,20,23])<|.ret [24])
 (.step (.ci .i64 4)<|.step (.bin .eql 0 7)<|.ite 8
 (.step (.ci .u64 1)<|.step (.ci .i64 0)<|.step (.cs [105,100])<|.step (.mk [9,10,1,11])<|.step (.ci .u64 2)<|.step (.cs [97,108,108,111,119,101,100])<|.step (.mk [13,1,1,14])<|
 .step (.ci .u64 3)<|.step (.cs [114,101,109,97,105,110,105,110,103])<|.step (.mk [16,3,1,17])<|.step (.ci .u64 4)<|.step (.cs [114,101,116,114,121])<|.step (.mk [19,10,3,20])<|
 .step (.ci .u64 5)<|.step (.cs [110,111,116,101])<|.step (.mk [22,5,5,23])<|.step (.ml [12,15,18,21,24])<|.ret [25])
 (.step (.ci .i64 5)<|.step (.bin .eql 0 9)<|.ite 10
 (.step (.ci .u64 1)<|.step (.ci .i64 0)<|.step (.cs [101,112,111,99,104])<|.step (.mk [11,12,1,13])<|.step (.ci .u64 2)<|.step (.cs [116,97,98,108,101])<|.step (.mk [15,9,1,16])<|
 .step (.ci .u64 3)<|.step (.cs [114,101,103,105,111,110])<|.step (.mk [18,5,3,19])<|.step (.ci .u64 4)<|.step (.cs [100,105,103,101,115,116])<|.step (.mk [21,12,5,22])<|
 .step (.ml [14,17,20,23])<|.ret [24])
 (.step (.ci .i64 6)<|.step (.bin .eql 0 11)<|.ite 12
 (.step (.ci .u64 1)<|.step (.ci .i64 0)<|.step (.cs [98,97,115,101])<|.step (.mk [13,14,3,15])<|.step (.ci .u64 2)<|.step (.cs [101,112,111,99,104])<|.step (.mk [17,14,3,18])<|
 .step (.ci .u64 3)<|.step (.cs [116,97,98,108,101])<|.step (.mk [20,9,3,21])<|.step (.ci .u64 4)<|.step (.cs [114,101,103,105,111,110])<|.step (.mk [23,5,3,24])<|.step (.ci .u64 5)<|
 .step (.cs [100,105,103,101,115,116])<|.step (.mk [26,14,5,27])<|.step (.ml [16,19,22,25,28])<|.ret [29])
 (.step (.ci .i64 7)<|.step (.bin .eql 0 13)<|.ite 14
 (.step (.ci .u64 1)<|.step (.ci .i64 0)<|.step (.cs [101,112,111,99,104])<|.step (.mk [15,16,1,17])<|.step (.ci .u64 2)<|.step (.cs [108,97,103])<|.step (.mk [19,16,5,20])<|
 .step (.ml [18,21])<|.ret [22])
 (.step (.ci .i64 8)<|.step (.bin .eql 0 15)<|.ite 16
 (.step (.ci .u64 1)<|.step (.ci .i64 0)<|.step (.cs [101,112,111,99,104])<|.step (.mk [17,18,1,19])<|.step (.ci .u64 2)<|.step (.cs [99,111,100,101])<|.step (.mk [21,18,1,22])<|
 .step (.ci .u64 3)<|.step (.cs [119,97,110,116])<|.step (.mk [24,18,3,25])<|.step (.ci .u64 4)<|.step (.cs [110,111,116,101])<|.step (.mk [27,5,5,28])<|.step (.ml [20,23,26,29])<|
 .ret [30])
 (.step (.ml [])<|.ret [17]))))))))
def Yi:aA:=.fn [.sc] [.sc]<|.step (.len 0)<|.step (.conv .u64 1)<|.step (.call 109 [2] 0)<|.step (.ci .i64 0)<|.step (.call 131 [0,3,1,4] 0)<|.step (.call 131 [0,3,1,4] 1)<|
 .ret [6]
def Y8:aA:=.fn [] [.sc]<|.step (.ci .u64 1)<|.step (.ci .i64 0)<|.step (.ci .i64 1)<|.step (.cs [99,104,111,115,101,110])<|.step (.mk [0,1,2,3])<|.step (.ci .u64 2)<|
 .step (.ci .i64 3)<|.step (.cs [110,97,109,101])<|.step (.mk [5,6,2,7])<|.step (.ci .u64 3)<|.step (.ci .i64 2)<|.step (.cs [114,101,103,105,111,110])<|.step (.mk [9,6,10,11])<|
 .step (.ml [4,8,12])<|.ret [13]
def XY:aA:=.fn [.ag 2] [.sc]<|.step (.cell 0 0)<|.step (.cell 1 0)<|.step (.slen 1)<|.step (.conv .u64 3)<|.step (.call 109 [4] 0)<|.step (.bin .add 5 1)<|.step (.slen 2)<|
 .step (.conv .u64 7)<|.step (.call 109 [8] 0)<|.step (.bin .add 6 9)<|.step (.bin .add 10 2)<|.ret [11]
def XQ:aA:=.fn [.ag 24,.sc] [.sc]<|.step (.cell 0 0)<|.step (.cell 1 0)<|.step (.cell 2 0)<|.step (.cell 3 0)<|.step (.cell 4 0)<|.step (.cell 5 0)<|.step (.cell 6 0)<|.step (.cell 7 0)<|
 .step (.cell 8 0)<|.step (.cell 9 0)<|.step (.cell 10 0)<|.step (.cell 11 0)<|.step (.cell 12 0)<|.step (.cell 13 0)<|.step (.cell 14 0)<|.step (.cell 15 0)<|.step (.cell 16 0)<|
 .step (.cell 17 0)<|.step (.cell 18 0)<|.step (.cell 19 0)<|.step (.cell 20 0)<|.step (.cell 21 0)<|.step (.cell 22 0)<|.step (.cell 23 0)<|.step (.cs [105,100])<|.step (.bin .eql 1 26)<|
 .ite 27
 (.ret [3])
 (.step (.cs [109,105,110])<|.step (.bin .eql 1 28)<|.ite 29
 (.ret [4])
 (.step (.cs [109,97,120])<|.step (.bin .eql 1 30)<|.ite 31
 (.ret [5])
 (.step (.cs [99,104,111,115,101,110])<|.step (.bin .eql 1 32)<|.ite 33
 (.ret [6])
 (.step (.cs [102,108,97,103,115])<|.step (.bin .eql 1 34)<|.ite 35
 (.ret [7])
 (.step (.cs [99,111,115,116])<|.step (.bin .eql 1 36)<|.ite 37
 (.ret [8])
 (.step (.cs [112,114,105,111,114,105,116,121])<|.step (.bin .eql 1 38)<|.ite 39
 (.ret [9])
 (.step (.cs [100,101,97,100,108,105,110,101])<|.step (.bin .eql 1 40)<|.ite 41
 (.ret [10])
 (.step (.cs [114,101,116,114,121])<|.step (.bin .eql 1 42)<|.ite 43
 (.ret [11])
 (.step (.cs [101,112,111,99,104])<|.step (.bin .eql 1 44)<|.ite 45
 (.ret [12])
 (.step (.cs [98,97,115,101])<|.step (.bin .eql 1 46)<|.ite 47
 (.ret [13])
 (.step (.cs [100,105,103,101,115,116])<|.step (.bin .eql 1 48)<|.ite 49
 (.ret [14])
 (.step (.cs [108,97,103])<|.step (.bin .eql 1 50)<|.ite 51
 (.ret [15])
 (.step (.cs [99,111,100,101])<|.step (.bin .eql 1 52)<|.ite 53
 (.ret [16])
 (.ret [17]))))))))))))))
abbrev Z7:aA:=.wu Ht
def Y4:aA:=.fn [.sc] [.sc]<|.step (.ci .i64 0)<|.step (.bin .eql 0 1)<|.step (.ci .i64 1)<|.step (.bin .eql 0 3)<|.ite 4
 (.ret [3])
 (.step (.ci .i64 2)<|.step (.bin .eql 0 5)<|.ite 6
 (.ret [3])
 (.step (.ci .i64 3)<|.step (.bin .eql 0 7)<|.ite 8
 (.ret [3])
 (.step (.ci .i64 4)<|.step (.bin .eql 0 9)<|.ite 10
 (.ret [3])
 (.step (.ci .i64 5)<|.step (.bin .eql 0 11)<|.ite 12
 (.ret [3])
 (.step (.ci .i64 6)<|.step (.bin .eql 0 13)<|.ite 14
 (.ret [5])
 (.step (.ci .i64 7)<|.step (.bin .eql 0 15)<|.ite 16
 (.ret [3])
 (.step (.ci .i64 8)<|.step (.bin .eql 0 17)<|.ite 18
 (.ret [3])
 (.ret [1]))))))))
def YV:aA:=.fn [.ag 2,.ag 2] [.sc]<|.step (.cell 0 0)<|.step (.cell 1 0)<|.step (.cell 0 1)<|.step (.cell 1 1)<|.step (.bin .eql 3 5)<|.ite 6
 (.step (.call 167 [2,4] 0)<|.ret [7])
 (.step (.cb false)<|.ret [7])
def d0:aA:=.fn [.sc,.sc,.sc] [.sc]<|.step (.ci .i64 1)<|.step (.bin .leq 3 0)<|.ite 4
 (.step (.ci .i64 3)<|.step (.bin .leq 0 5)<|.step (.un .not 6)<|.ite 7
 (.step (.bin .lss 0 3)<|.ite 8
 (.step (.cb true)<|.ret [9])
 (.step (.bin .gtr 0 5)<|.ite 9
 (.step (.cb true)<|.ret [10])
 (.step (.len 1)<|.step (.ci .i64 20)<|.step (.bin .gtr 10 11)<|.ite 12
 (.step (.cb true)<|.ret [13])
 (.step (.ci .i64 0)<|.step (.ci .u64 0)<|.step (.ml [])<|.step (.cb false)<|.step (.call 1 [2,1,10,13,0,14,15,16,0,16,14,15] 0)<|.step (.bin .eql 17 13)<|.ite 18
 (.step (.call 1 [2,1,10,13,0,14,15,16,0,16,14,15] 1)<|.ret [19])
 (.step (.cb true)<|.ret [19])))))
 (.step (.bin .lss 0 3)<|.ite 8
 (.step (.cb false)<|.ret [9])
 (.step (.bin .gtr 0 5)<|.ite 9
 (.step (.cb true)<|.ret [10])
 (.step (.len 1)<|.step (.ci .i64 20)<|.step (.bin .gtr 10 11)<|.ite 12
 (.step (.cb true)<|.ret [13])
 (.step (.ci .i64 0)<|.step (.ci .u64 0)<|.step (.ml [])<|.step (.cb false)<|.step (.call 1 [2,1,10,13,0,14,15,16,0,16,14,15] 0)<|.step (.bin .eql 17 13)<|.ite 18
 (.step (.call 1 [2,1,10,13,0,14,15,16,0,16,14,15] 1)<|.ret [19])
 (.step (.cb true)<|.ret [19]))))))
 (.step (.bin .lss 0 3)<|.ite 5
 (.step (.cb true)<|.ret [6])
 (.step (.ci .i64 3)<|.step (.bin .gtr 0 6)<|.ite 7
 (.step (.cb true)<|.ret [8])
 (.step (.cb false)<|.ret [8])))
def Yh:aA:=.fn [.sc,.sc] [.sc]<|.step (.cs [])<|.step (.mk [0,2])<|.step (.mk [1,2])<|.step (.call 126 [3,4] 0)<|.step (.ci .i64 0)<|.step (.bin .lss 5 6)<|.ret [7]
def X5:aA:=.fn [.sc] [.sc]<|.step (.len 0)<|.step (.conv .u64 1)<|.step (.ci .u64 0)<|.step (.bin .eql 2 3)<|.ite 4
 (.step (.ci .i64 12)<|.step (.ci .i64 0)<|.step (.call 118 [0,5,6] 0)<|.step (.call 118 [0,5,6] 1)<|.ret [8])
 (.step (.ci .u64 16)<|.step (.bin .gtr 2 5)<|.ite 6
 (.step (.ci .i64 13)<|.step (.ci .i64 0)<|.step (.call 118 [0,7,8] 0)<|.step (.call 118 [0,7,8] 1)<|.ret [10])
 (.step (.ci .i64 0)<|.step (.call 118 [0,7,7] 0)<|.step (.call 118 [0,7,7] 1)<|.ret [9]))
def YR:aA:=.tree 3<|.step (.bin .eql 1 0)<|.ite 3
 (.step (.ml [])<|.step (.call 163 [2,4] 0)<|.step (.ci .i64 0)<|.ret [6,5])
 (.step (.cb false)<|.step (.ci .i64 0)<|.ret [5,4])
def YF:aA:=.tree 4<|.step (.un .not 1)<|.ite 4
 (.step (.ci .u64 0)<|.step (.ml [])<|.step (.cb false)<|.step (.ci .i64 0)<|.ret [8,5,6,7])
 (.step (.mk [2,3])<|.step (.call 17 [5] 0)<|.step (.cell 0 6)<|.step (.cell 1 6)<|.step (.cb true)<|.step (.ci .i64 0)<|.ret [10,7,8,9])
def ZO:aA:=.tree 0<|.step (.ci .i64 0)<|.ret [0]
def ZN:aA:=.tree 24<|.step (.ci .i64 0)<|.ret [24]
def ZM:aA:=.tree 24<|.step (.ci .i64 0)<|.ret [24]
def ZL:aA:=.tree 24<|.step (.ci .i64 0)<|.ret [24]
def ZK:aA:=.tree 24<|.step (.ci .i64 0)<|.ret [24]
def ZJ:aA:=.tree 24<|.step (.ci .i64 0)<|.ret [24]
def ZI:aA:=.tree 24<|.step (.ci .i64 0)<|.ret [24]
def ZH:aA:=.tree 24<|.step (.ci .i64 0)<|.ret [24]
def ZG:aA:=.tree 24<|.step (.ci .i64 0)<|.ret [24]
def ZF:aA:=.tree 24<|.step (.ci .i64 0)<|.ret [24]
def ZE:aA:=.tree 24<|.step (.ci .i64 0)<|.ret [24]
def ZC:aA:=.tree 24<|.step (.ci .i64 0)<|.ret [24]
def ZB:aA:=.tree 24<|.step (.ci .i64 0)<|.ret [24]
def ZA:aA:=.tree 24<|.step (.ci .i64 0)<|.ret [24]
def Zz:aA:=.tree 24<|.step (.ci .i64 0)<|.ret [24]
def Zy:aA:=.tree 24<|.step (.ci .i64 0)<|.ret [24]
def Zu:aA:=.tree 24<|.step (.call 50 [22] 0)<|.step (.ci .i64 0)<|.ret [25,24]
def Zp:aA:=.tree 24<|.step (.len 21)<|.step (.ci .i64 0)<|.step (.bin .gtr 24 25)<|.ite 26
 (.step (.call 46 [21] 0)<|.ret [25,27])
 (.ret [25,25])
def Zo:aA:=.tree 24<|.step (.ci .i64 0)<|.step (.ci .i64 256)<|.step (.call 40 [20,24,25] 0)<|.ret [24,26]
def Zn:aA:=.tree 24<|.step (.ci .i64 0)<|.step (.ci .i64 256)<|.step (.call 40 [19,24,25] 0)<|.ret [24,26]
def Zj:aA:=.tree 24<|.step (.ci .i64 0)<|.step (.ci .i64 256)<|.step (.call 40 [18,24,25] 0)<|.ret [24,26]
def Zi:aA:=.tree 24<|.step (.ci .i64 0)<|.ret [24]
def Zh:aA:=.tree 24<|.step (.ci .i64 0)<|.ret [24]
def Y2:aA:=.tree 28<|.step (.mk [0,1,2,3,4,5,6,7,8,9,10,11,12,13,14,15,16,17,18,19,20,21,22,23])<|.step (.call 21 [28,24] 0)<|.step (.ci .i64 0)<|.step (.bin .neq 29 30)<|
 .ite 31
 (.step (.ci .u64 0)<|.ret [30,30,32,32,32,29,25,26,27])
 (.step (.ci .i64 5)<|.step (.bin .neq 0 32)<|.ite 33
 (.step (.ci .i64 6)<|.step (.bin .neq 0 34)<|.ite 35
 (.step (.ci .u64 0)<|.step (.ci .i64 15)<|.ret [30,30,36,36,36,37,25,26,27])
 (.ite 25
 (.step (.bin .leq 10 26)<|.ite 36
 (.step (.ci .i64 7)<|.step (.ci .u64 0)<|.step (.ci .i64 20)<|.ret [30,37,26,38,38,39,25,26,27])
 (.step (.bin .eql 0 32)<|.step (.mk [26,27])<|.step (.mk [11,10,22])<|.step (.call 74 [38,39] 0)<|.step (.cell 0 40)<|.step (.cell 1 40)<|.step (.call 74 [38,39] 1)<|.step (.bin .neq 43 30)<|
 .ite 44
 (.step (.conv .u64 43)<|.step (.ci .i64 2)<|.step (.bin .geq 24 46)<|.ite 47
 (.step (.ci .i64 8)<|.ret [30,48,10,45,26,43,25,26,27])
 (.step (.ci .i64 8)<|.step (.ci .u64 0)<|.ret [30,48,10,45,49,43,25,26,27]))
 (.step (.ci .i64 7)<|.step (.ci .u64 0)<|.step (.cb true)<|.ret [30,45,41,46,46,30,47,41,42])))
 (.step (.bin .eql 0 32)<|.step (.mk [26,27])<|.step (.mk [11,10,22])<|.step (.call 74 [37,38] 0)<|.step (.cell 0 39)<|.step (.cell 1 39)<|.step (.call 74 [37,38] 1)<|.step (.bin .neq 42 30)<|
 .ite 43
 (.step (.conv .u64 42)<|.step (.ci .i64 2)<|.step (.bin .geq 24 45)<|.ite 46
 (.step (.ci .i64 8)<|.ret [30,47,10,44,26,42,25,26,27])
 (.step (.ci .i64 8)<|.step (.ci .u64 0)<|.ret [30,47,10,44,48,42,25,26,27]))
 (.step (.ci .i64 7)<|.step (.ci .u64 0)<|.step (.cb true)<|.ret [30,44,40,45,45,30,46,40,41]))))
 (.ite 25
 (.step (.bin .leq 10 26)<|.ite 34
 (.step (.ci .i64 7)<|.step (.ci .u64 0)<|.step (.ci .i64 20)<|.ret [30,35,26,36,36,37,25,26,27])
 (.step (.bin .eql 0 32)<|.step (.mk [10,22])<|.step (.call 17 [36] 0)<|.step (.cell 0 37)<|.step (.cell 1 37)<|.step (.ci .i64 7)<|.step (.ci .u64 0)<|.step (.cb true)<|.ret [30,40,38,41,41,30,42,38,39]))
 (.step (.bin .eql 0 32)<|.step (.mk [10,22])<|.step (.call 17 [35] 0)<|.step (.cell 0 36)<|.step (.cell 1 36)<|.step (.ci .i64 7)<|.step (.ci .u64 0)<|.step (.cb true)<|.ret [30,39,37,40,40,30,41,37,38])))
def YO:aA:=.tree 4<|.step (.mk [2,3])<|.step (.call 17 [4] 0)<|.step (.cell 0 5)<|.step (.cell 1 5)<|.step (.ci .i64 0)<|.ret [8,6,7]
def Y7:aA:=.tree 5<|.step (.bin .lss 4 3)<|.ite 5
 (.step (.at 4 2 4)<|.step (.cell 0 6)<|.step (.cell 1 6)<|.step (.cell 2 6)<|.step (.cell 3 6)<|.step (.bin .leq 9 0)<|.ite 11
 (.step (.mk [7,8,9,10])<|.step (.ml [12])<|.step (.app 4 40 1 13)<|.step (.ci .i64 1)<|.step (.bin .add 4 15)<|.tail 25 [0,14,2,3,16])
 (.step (.ci .i64 1)<|.step (.bin .add 4 12)<|.tail 25 [0,1,2,3,13]))
 (.step (.ci .i64 0)<|.ret [6,1])
def d1:aA:=.tree 12<|.step (.bin .lss 3 2)<|.ite 12
 (.step (.at 24 1 3)<|.step (.cell 0 13)<|.step (.cell 1 13)<|.step (.cell 2 13)<|.step (.cell 3 13)<|.step (.cell 4 13)<|.step (.cell 5 13)<|.step (.cell 6 13)<|.step (.cell 7 13)<|
 .step (.cell 8 13)<|.step (.cell 9 13)<|.step (.cell 10 13)<|.step (.cell 11 13)<|.step (.cell 12 13)<|.step (.cell 13 13)<|.step (.cell 14 13)<|.step (.cell 15 13)<|.step (.cell 16 13)<|
 .step (.cell 17 13)<|.step (.cell 18 13)<|.step (.cell 19 13)<|.step (.cell 20 13)<|.step (.cell 21 13)<|.step (.cell 22 13)<|.step (.cell 23 13)<|.step (.mk [14,15,16,17,18,19,20,21,22,23,24,25,26,27,28,29,30,31,32,33,34,35,36,37])<|
 .step (.call 2 [38] 0)<|.step (.un .not 39)<|.ite 40
 (.step (.cb true)<|.step (.ci .i64 0)<|.ret [42,41])
 (.step (.len 36)<|.step (.ci .i64 60)<|.step (.bin .gtr 41 42)<|.ite 43
 (.step (.cb true)<|.step (.ci .i64 0)<|.ret [45,44])
 (.step (.len 0)<|.step (.bin .lss 3 44)<|.ite 45
 (.step (.at 1 0 3)<|.step (.cell 0 46)<|.step (.ci .u8 0)<|.step (.bin .gtr 47 48)<|.ite 49
 (.step (.conv .i64 47)<|.step (.ci .i64 5)<|.step (.bin .rem 50 51)<|.step (.ci .i64 1)<|.step (.bin .leq 53 52)<|.ite 54
 (.step (.ci .i64 3)<|.step (.bin .leq 52 55)<|.step (.un .not 56)<|.ite 57
 (.step (.bin .geq 52 53)<|.ite 58
 (.step (.cb false)<|.step (.oD .neq 59 56)<|.ite 60
 (.step (.ci .i64 0)<|.ret [61,59])
 (.step (.call 16 [8,9,10,11] 0)<|.step (.call 16 [8,9,10,11] 1)<|.step (.call 16 [8,9,10,11] 2)<|.step (.ci .u64 0)<|.step (.ci .u64 9223372036854775808)<|.step (.ci .i64 0)<|
 .step (.cs [])<|.step (.ml [])<|.step (.call 20 [51,64,64,64,64,64,64,64,64,64,65,64,64,64,64,64,66,59,67,67,67,68,68,68,8,9,10,11] 0)<|.step (.call 20 [51,64,64,64,64,64,64,64,64,64,65,64,64,64,64,64,66,59,67,67,67,68,68,68,8,9,10,11] 1)<|
 .step (.call 20 [51,64,64,64,64,64,64,64,64,64,65,64,64,64,64,64,66,59,67,67,67,68,68,68,8,9,10,11] 2)<|.step (.call 20 [51,64,64,64,64,64,64,64,64,64,65,64,64,64,64,64,66,59,67,67,67,68,68,68,8,9,10,11] 3)<|
 .step (.call 20 [51,64,64,64,64,64,64,64,64,64,65,64,64,64,64,64,66,59,67,67,67,68,68,68,8,9,10,11] 4)<|.step (.call 20 [51,64,64,64,64,64,64,64,64,64,65,64,64,64,64,64,66,59,67,67,67,68,68,68,8,9,10,11] 5)<|
 .step (.call 20 [51,64,64,64,64,64,64,64,64,64,65,64,64,64,64,64,66,59,67,67,67,68,68,68,8,9,10,11] 6)<|.step (.call 20 [51,64,64,64,64,64,64,64,64,64,65,64,64,64,64,64,66,59,67,67,67,68,68,68,8,9,10,11] 7)<|
 .step (.call 20 [51,64,64,64,64,64,64,64,64,64,65,64,64,64,64,64,66,59,67,67,67,68,68,68,8,9,10,11] 8)<|.step (.call 82 [38] 0)<|.step (.cell 0 78)<|.step (.cell 1 78)<|
 .step (.cell 2 78)<|.step (.cell 3 78)<|.step (.cell 4 78)<|.step (.cell 5 78)<|.step (.cell 6 78)<|.step (.cell 7 78)<|.step (.cell 8 78)<|.step (.cell 9 78)<|.step (.cell 10 78)<|
 .step (.cell 11 78)<|.step (.cell 12 78)<|.step (.cell 13 78)<|.step (.cell 14 78)<|.step (.cell 15 78)<|.step (.cell 16 78)<|.step (.cell 17 78)<|.step (.cell 18 78)<|.step (.cell 19 78)<|
 .step (.cell 20 78)<|.step (.cell 21 78)<|.step (.cell 22 78)<|.step (.cell 23 78)<|.step (.call 20 [79,80,81,82,83,84,85,86,87,88,89,90,91,92,93,94,95,96,97,98,99,100,101,102,8,9,62,63] 0)<|
 .step (.call 20 [79,80,81,82,83,84,85,86,87,88,89,90,91,92,93,94,95,96,97,98,99,100,101,102,8,9,62,63] 1)<|.step (.call 20 [79,80,81,82,83,84,85,86,87,88,89,90,91,92,93,94,95,96,97,98,99,100,101,102,8,9,62,63] 2)<|
 .step (.call 20 [79,80,81,82,83,84,85,86,87,88,89,90,91,92,93,94,95,96,97,98,99,100,101,102,8,9,62,63] 3)<|.step (.call 20 [79,80,81,82,83,84,85,86,87,88,89,90,91,92,93,94,95,96,97,98,99,100,101,102,8,9,62,63] 4)<|
 .step (.call 20 [79,80,81,82,83,84,85,86,87,88,89,90,91,92,93,94,95,96,97,98,99,100,101,102,8,9,62,63] 5)<|.step (.call 20 [79,80,81,82,83,84,85,86,87,88,89,90,91,92,93,94,95,96,97,98,99,100,101,102,8,9,62,63] 6)<|
 .step (.call 20 [79,80,81,82,83,84,85,86,87,88,89,90,91,92,93,94,95,96,97,98,99,100,101,102,8,9,62,63] 7)<|.step (.call 20 [79,80,81,82,83,84,85,86,87,88,89,90,91,92,93,94,95,96,97,98,99,100,101,102,8,9,62,63] 8)<|
 .step (.mk [79,80,81,82,83,84,85,86,87,88,89,90,91,92,93,94,95,96,97,98,99,100,101,102])<|.step (.call 86 [112] 0)<|.step (.cell 0 113)<|.step (.cell 1 113)<|
 .step (.cell 2 113)<|.step (.cell 3 113)<|.step (.cell 4 113)<|.step (.cell 5 113)<|.step (.cell 6 113)<|.step (.cell 7 113)<|.step (.cell 8 113)<|.step (.cell 9 113)<|.step (.cell 10 113)<|
 .step (.cell 11 113)<|.step (.cell 12 113)<|.step (.cell 13 113)<|.step (.cell 14 113)<|.step (.cell 15 113)<|.step (.cell 16 113)<|.step (.cell 17 113)<|.step (.cell 18 113)<|.step (.cell 19 113)<|
 .step (.cell 20 113)<|.step (.cell 21 113)<|.step (.cell 22 113)<|.step (.cell 23 113)<|.step (.mk [4,5,6,7])<|.step (.mk [114,115,116,117,118,119,120,121,122,123,124,125,126,127,128,129,130,131,132,133,134,135,136,137])<|
 .step (.call 93 [138,139] 0)<|.step (.cell 0 140)<|.step (.cell 1 140)<|.step (.cell 2 140)<|.step (.cell 3 140)<|.step (.call 93 [138,139] 1)<|.step (.cell 0 145)<|.step (.cell 1 145)<|
 .step (.cell 2 145)<|.step (.cell 3 145)<|.step (.cell 4 145)<|.step (.cell 5 145)<|.step (.cell 6 145)<|.step (.cell 7 145)<|.step (.cell 8 145)<|.step (.cell 9 145)<|.step (.cell 10 145)<|
 .step (.cell 11 145)<|.step (.cell 12 145)<|.step (.cell 13 145)<|.step (.cell 14 145)<|.step (.cell 15 145)<|.step (.cell 16 145)<|.step (.cell 17 145)<|.step (.cell 18 145)<|.step (.cell 19 145)<|
 .step (.cell 20 145)<|.step (.cell 21 145)<|.step (.cell 22 145)<|.step (.cell 23 145)<|.step (.call 93 [138,139] 2)<|.step (.call 151 [8,109,110,111] 0)<|.step (.call 151 [8,109,110,111] 1)<|
 .step (.call 151 [8,109,110,111] 2)<|.step (.call 151 [8,109,110,111] 3)<|.step (.mk [104,64,64,64,64,64,64,64,64,64,105,64,64,64,106,107,66,59,67,67,67,68,68,68])<|
 .step (.call 86 [175] 0)<|.step (.cell 0 176)<|.step (.cell 1 176)<|.step (.cell 2 176)<|.step (.cell 3 176)<|.step (.cell 4 176)<|.step (.cell 5 176)<|.step (.cell 6 176)<|.step (.cell 7 176)<|
 .step (.cell 8 176)<|.step (.cell 9 176)<|.step (.cell 10 176)<|.step (.cell 11 176)<|.step (.cell 12 176)<|.step (.cell 13 176)<|.step (.cell 14 176)<|.step (.cell 15 176)<|.step (.cell 16 176)<|
 .step (.cell 17 176)<|.step (.cell 18 176)<|.step (.cell 19 176)<|.step (.cell 20 176)<|.step (.cell 21 176)<|.step (.cell 22 176)<|.step (.cell 23 176)<|.step (.mk [177,178,179,180,181,182,183,184,185,186,187,188,189,190,191,192,193,194,195,196,197,198,199,200])<|
 .step (.mk [146,147,148,149,150,151,152,153,154,155,156,157,158,159,160,161,162,163,164,165,166,167,168,169])<|.step (.call 152 [201,202] 0)<|.step (.un .not 203)<|
 .ite 204
 (.ret [66,59])
 (.step (.bin .neq 108 170)<|.ite 205
 (.ret [66,59])
 (.step (.oD .neq 174 144)<|.ite 206
 (.ret [66,59])
 (.ite 174
 (.step (.mk [172,173])<|.step (.call 160 [207] 0)<|.step (.cell 0 208)<|.step (.cell 1 208)<|.step (.mk [209,210])<|.step (.mk [142,143])<|.step (.call 161 [211,212] 0)<|.step (.un .not 213)<|
 .ite 214
 (.ret [66,59])
 (.step (.un .not 174)<|.ite 215
 (.step (.call 162 [64,172,173] 0)<|.step (.call 162 [64,172,173] 1)<|.step (.un .not 217)<|.ite 218
 (.ret [66,59])
 (.step (.bin .neq 110 172)<|.ite 219
 (.ret [66,59])
 (.step (.bin .neq 104 66)<|.ite 220
 (.step (.call 21 [175,141] 0)<|.step (.bin .neq 221 66)<|.ite 222
 (.ret [66,59])
 (.step (.bin .add 3 53)<|.tail 1 [0,1,2,223,141,142,143,144,8,109,110,111]))
 (.step (.bin .add 3 53)<|.tail 1 [0,1,2,221,141,142,143,144,8,109,110,111]))))
 (.step (.bin .neq 110 172)<|.ite 216
 (.ret [66,59])
 (.step (.bin .neq 104 66)<|.ite 217
 (.step (.call 21 [175,141] 0)<|.step (.bin .neq 218 66)<|.ite 219
 (.ret [66,59])
 (.step (.bin .add 3 53)<|.tail 1 [0,1,2,220,141,142,143,144,8,109,110,111]))
 (.step (.bin .add 3 53)<|.tail 1 [0,1,2,218,141,142,143,144,8,109,110,111])))))
 (.step (.un .not 174)<|.ite 207
 (.step (.call 162 [64,172,173] 0)<|.step (.call 162 [64,172,173] 1)<|.step (.un .not 209)<|.ite 210
 (.ret [66,59])
 (.step (.bin .neq 110 172)<|.ite 211
 (.ret [66,59])
 (.step (.bin .neq 104 66)<|.ite 212
 (.step (.call 21 [175,141] 0)<|.step (.bin .neq 213 66)<|.ite 214
 (.ret [66,59])
 (.step (.bin .add 3 53)<|.tail 1 [0,1,2,215,141,142,143,144,8,109,110,111]))
 (.step (.bin .add 3 53)<|.tail 1 [0,1,2,213,141,142,143,144,8,109,110,111]))))
 (.step (.bin .neq 110 172)<|.ite 208
 (.ret [66,59])
 (.step (.bin .neq 104 66)<|.ite 209
 (.step (.call 21 [175,141] 0)<|.step (.bin .neq 210 66)<|.ite 211
 (.ret [66,59])
 (.step (.bin .add 3 53)<|.tail 1 [0,1,2,212,141,142,143,144,8,109,110,111]))
 (.step (.bin .add 3 53)<|.tail 1 [0,1,2,210,141,142,143,144,8,109,110,111])))))))))
 (.step (.call 16 [8,9,10,11] 0)<|.step (.call 16 [8,9,10,11] 1)<|.step (.call 16 [8,9,10,11] 2)<|.step (.ci .u64 0)<|.step (.ci .u64 9223372036854775808)<|.step (.ci .i64 0)<|
 .step (.cb false)<|.step (.cs [])<|.step (.ml [])<|.step (.call 20 [51,62,62,62,62,62,62,62,62,62,63,62,62,62,62,62,64,65,66,66,66,67,67,67,8,9,10,11] 0)<|
 .step (.call 20 [51,62,62,62,62,62,62,62,62,62,63,62,62,62,62,62,64,65,66,66,66,67,67,67,8,9,10,11] 1)<|.step (.call 20 [51,62,62,62,62,62,62,62,62,62,63,62,62,62,62,62,64,65,66,66,66,67,67,67,8,9,10,11] 2)<|
 .step (.call 20 [51,62,62,62,62,62,62,62,62,62,63,62,62,62,62,62,64,65,66,66,66,67,67,67,8,9,10,11] 3)<|.step (.call 20 [51,62,62,62,62,62,62,62,62,62,63,62,62,62,62,62,64,65,66,66,66,67,67,67,8,9,10,11] 4)<|
 .step (.call 20 [51,62,62,62,62,62,62,62,62,62,63,62,62,62,62,62,64,65,66,66,66,67,67,67,8,9,10,11] 5)<|.step (.call 20 [51,62,62,62,62,62,62,62,62,62,63,62,62,62,62,62,64,65,66,66,66,67,67,67,8,9,10,11] 6)<|
 .step (.call 20 [51,62,62,62,62,62,62,62,62,62,63,62,62,62,62,62,64,65,66,66,66,67,67,67,8,9,10,11] 7)<|.step (.call 20 [51,62,62,62,62,62,62,62,62,62,63,62,62,62,62,62,64,65,66,66,66,67,67,67,8,9,10,11] 8)<|
 .step (.call 82 [38] 0)<|.step (.cell 0 77)<|.step (.cell 1 77)<|.step (.cell 2 77)<|.step (.cell 3 77)<|.step (.cell 4 77)<|.step (.cell 5 77)<|.step (.cell 6 77)<|.step (.cell 7 77)<|
 .step (.cell 8 77)<|.step (.cell 9 77)<|.step (.cell 10 77)<|.step (.cell 11 77)<|.step (.cell 12 77)<|.step (.cell 13 77)<|.step (.cell 14 77)<|.step (.cell 15 77)<|.step (.cell 16 77)<|
 .step (.cell 17 77)<|.step (.cell 18 77)<|.step (.cell 19 77)<|.step (.cell 20 77)<|.step (.cell 21 77)<|.step (.cell 22 77)<|.step (.cell 23 77)<|.step (.call 20 [78,79,80,81,82,83,84,85,86,87,88,89,90,91,92,93,94,95,96,97,98,99,100,101,8,9,60,61] 0)<|
 .step (.call 20 [78,79,80,81,82,83,84,85,86,87,88,89,90,91,92,93,94,95,96,97,98,99,100,101,8,9,60,61] 1)<|.step (.call 20 [78,79,80,81,82,83,84,85,86,87,88,89,90,91,92,93,94,95,96,97,98,99,100,101,8,9,60,61] 2)<|
 .step (.call 20 [78,79,80,81,82,83,84,85,86,87,88,89,90,91,92,93,94,95,96,97,98,99,100,101,8,9,60,61] 3)<|.step (.call 20 [78,79,80,81,82,83,84,85,86,87,88,89,90,91,92,93,94,95,96,97,98,99,100,101,8,9,60,61] 4)<|
 .step (.call 20 [78,79,80,81,82,83,84,85,86,87,88,89,90,91,92,93,94,95,96,97,98,99,100,101,8,9,60,61] 5)<|.step (.call 20 [78,79,80,81,82,83,84,85,86,87,88,89,90,91,92,93,94,95,96,97,98,99,100,101,8,9,60,61] 6)<|
 .step (.call 20 [78,79,80,81,82,83,84,85,86,87,88,89,90,91,92,93,94,95,96,97,98,99,100,101,8,9,60,61] 7)<|.step (.call 20 [78,79,80,81,82,83,84,85,86,87,88,89,90,91,92,93,94,95,96,97,98,99,100,101,8,9,60,61] 8)<|
 .step (.mk [78,79,80,81,82,83,84,85,86,87,88,89,90,91,92,93,94,95,96,97,98,99,100,101])<|.step (.call 86 [111] 0)<|.step (.cell 0 112)<|.step (.cell 1 112)<|
 .step (.cell 2 112)<|.step (.cell 3 112)<|.step (.cell 4 112)<|.step (.cell 5 112)<|.step (.cell 6 112)<|.step (.cell 7 112)<|.step (.cell 8 112)<|.step (.cell 9 112)<|.step (.cell 10 112)<|
 .step (.cell 11 112)<|.step (.cell 12 112)<|.step (.cell 13 112)<|.step (.cell 14 112)<|.step (.cell 15 112)<|.step (.cell 16 112)<|.step (.cell 17 112)<|.step (.cell 18 112)<|.step (.cell 19 112)<|
 .step (.cell 20 112)<|.step (.cell 21 112)<|.step (.cell 22 112)<|.step (.cell 23 112)<|.step (.mk [4,5,6,7])<|.step (.mk [113,114,115,116,117,118,119,120,121,122,123,124,125,126,127,128,129,130,131,132,133,134,135,136])<|
 .step (.call 93 [137,138] 0)<|.step (.cell 0 139)<|.step (.cell 1 139)<|.step (.cell 2 139)<|.step (.cell 3 139)<|.step (.call 93 [137,138] 1)<|.step (.cell 0 144)<|.step (.cell 1 144)<|
 .step (.cell 2 144)<|.step (.cell 3 144)<|.step (.cell 4 144)<|.step (.cell 5 144)<|.step (.cell 6 144)<|.step (.cell 7 144)<|.step (.cell 8 144)<|.step (.cell 9 144)<|.step (.cell 10 144)<|
 .step (.cell 11 144)<|.step (.cell 12 144)<|.step (.cell 13 144)<|.step (.cell 14 144)<|.step (.cell 15 144)<|.step (.cell 16 144)<|.step (.cell 17 144)<|.step (.cell 18 144)<|.step (.cell 19 144)<|
 .step (.cell 20 144)<|.step (.cell 21 144)<|.step (.cell 22 144)<|.step (.cell 23 144)<|.step (.call 93 [137,138] 2)<|.step (.call 151 [8,108,109,110] 0)<|.step (.call 151 [8,108,109,110] 1)<|
 .step (.call 151 [8,108,109,110] 2)<|.step (.call 151 [8,108,109,110] 3)<|.step (.mk [103,62,62,62,62,62,62,62,62,62,104,62,62,62,105,106,64,65,66,66,66,67,67,67])<|
 .step (.call 86 [174] 0)<|.step (.cell 0 175)<|.step (.cell 1 175)<|.step (.cell 2 175)<|.step (.cell 3 175)<|.step (.cell 4 175)<|.step (.cell 5 175)<|.step (.cell 6 175)<|.step (.cell 7 175)<|
 .step (.cell 8 175)<|.step (.cell 9 175)<|.step (.cell 10 175)<|.step (.cell 11 175)<|.step (.cell 12 175)<|.step (.cell 13 175)<|.step (.cell 14 175)<|.step (.cell 15 175)<|.step (.cell 16 175)<|
 .step (.cell 17 175)<|.step (.cell 18 175)<|.step (.cell 19 175)<|.step (.cell 20 175)<|.step (.cell 21 175)<|.step (.cell 22 175)<|.step (.cell 23 175)<|.step (.mk [176,177,178,179,180,181,182,183,184,185,186,187,188,189,190,191,192,193,194,195,196,197,198,199])<|
 .step (.mk [145,146,147,148,149,150,151,152,153,154,155,156,157,158,159,160,161,162,163,164,165,166,167,168])<|.step (.call 152 [200,201] 0)<|.step (.un .not 202)<|
 .ite 203
 (.ret [64,65])
 (.step (.bin .neq 107 169)<|.ite 204
 (.ret [64,65])
 (.step (.oD .neq 173 143)<|.ite 205
 (.ret [64,65])
 (.ite 173
 (.step (.mk [171,172])<|.step (.call 160 [206] 0)<|.step (.cell 0 207)<|.step (.cell 1 207)<|.step (.mk [208,209])<|.step (.mk [141,142])<|.step (.call 161 [210,211] 0)<|.step (.un .not 212)<|
 .ite 213
 (.ret [64,65])
 (.step (.un .not 173)<|.ite 214
 (.step (.call 162 [62,171,172] 0)<|.step (.call 162 [62,171,172] 1)<|.step (.un .not 216)<|.ite 217
 (.ret [64,65])
 (.step (.bin .neq 109 171)<|.ite 218
 (.ret [64,65])
 (.step (.bin .neq 103 64)<|.ite 219
 (.step (.call 21 [174,140] 0)<|.step (.bin .neq 220 64)<|.ite 221
 (.ret [64,65])
 (.step (.bin .add 3 53)<|.tail 1 [0,1,2,222,140,141,142,143,8,108,109,110]))
 (.step (.bin .add 3 53)<|.tail 1 [0,1,2,220,140,141,142,143,8,108,109,110]))))
 (.step (.bin .neq 109 171)<|.ite 215
 (.ret [64,65])
 (.step (.bin .neq 103 64)<|.ite 216
 (.step (.call 21 [174,140] 0)<|.step (.bin .neq 217 64)<|.ite 218
 (.ret [64,65])
 (.step (.bin .add 3 53)<|.tail 1 [0,1,2,219,140,141,142,143,8,108,109,110]))
 (.step (.bin .add 3 53)<|.tail 1 [0,1,2,217,140,141,142,143,8,108,109,110])))))
 (.step (.un .not 173)<|.ite 206
 (.step (.call 162 [62,171,172] 0)<|.step (.call 162 [62,171,172] 1)<|.step (.un .not 208)<|.ite 209
 (.ret [64,65])
 (.step (.bin .neq 109 171)<|.ite 210
 (.ret [64,65])
 (.step (.bin .neq 103 64)<|.ite 211
 (.step (.call 21 [174,140] 0)<|.step (.bin .neq 212 64)<|.ite 213
 (.ret [64,65])
 (.step (.bin .add 3 53)<|.tail 1 [0,1,2,214,140,141,142,143,8,108,109,110]))
 (.step (.bin .add 3 53)<|.tail 1 [0,1,2,212,140,141,142,143,8,108,109,110]))))
 (.step (.bin .neq 109 171)<|.ite 207
 (.ret [64,65])
 (.step (.bin .neq 103 64)<|.ite 208
 (.step (.call 21 [174,140] 0)<|.step (.bin .neq 209 64)<|.ite 210
 (.ret [64,65])
 (.step (.bin .add 3 53)<|.tail 1 [0,1,2,211,140,141,142,143,8,108,109,110]))
 (.step (.bin .add 3 53)<|.tail 1 [0,1,2,209,140,141,142,143,8,108,109,110])))))))))
 (.step (.bin .geq 52 53)<|.ite 58
 (.step (.cb true)<|.step (.oD .neq 59 56)<|.ite 60
 (.step (.cb false)<|.step (.ci .i64 0)<|.ret [62,61])
 (.step (.call 16 [52,9,10,11] 0)<|.step (.call 16 [52,9,10,11] 1)<|.step (.call 16 [52,9,10,11] 2)<|.step (.ci .u64 0)<|.step (.ci .u64 9223372036854775808)<|.step (.ci .i64 0)<|
 .step (.cb false)<|.step (.cs [])<|.step (.ml [])<|.step (.call 20 [51,64,64,64,64,64,64,64,64,64,65,64,64,64,64,64,66,67,68,68,68,69,69,69,52,9,10,11] 0)<|
 .step (.call 20 [51,64,64,64,64,64,64,64,64,64,65,64,64,64,64,64,66,67,68,68,68,69,69,69,52,9,10,11] 1)<|.step (.call 20 [51,64,64,64,64,64,64,64,64,64,65,64,64,64,64,64,66,67,68,68,68,69,69,69,52,9,10,11] 2)<|
 .step (.call 20 [51,64,64,64,64,64,64,64,64,64,65,64,64,64,64,64,66,67,68,68,68,69,69,69,52,9,10,11] 3)<|.step (.call 20 [51,64,64,64,64,64,64,64,64,64,65,64,64,64,64,64,66,67,68,68,68,69,69,69,52,9,10,11] 4)<|
 .step (.call 20 [51,64,64,64,64,64,64,64,64,64,65,64,64,64,64,64,66,67,68,68,68,69,69,69,52,9,10,11] 5)<|.step (.call 20 [51,64,64,64,64,64,64,64,64,64,65,64,64,64,64,64,66,67,68,68,68,69,69,69,52,9,10,11] 6)<|
 .step (.call 20 [51,64,64,64,64,64,64,64,64,64,65,64,64,64,64,64,66,67,68,68,68,69,69,69,52,9,10,11] 7)<|.step (.call 20 [51,64,64,64,64,64,64,64,64,64,65,64,64,64,64,64,66,67,68,68,68,69,69,69,52,9,10,11] 8)<|
 .step (.call 82 [38] 0)<|.step (.cell 0 79)<|.step (.cell 1 79)<|.step (.cell 2 79)<|.step (.cell 3 79)<|.step (.cell 4 79)<|.step (.cell 5 79)<|.step (.cell 6 79)<|.step (.cell 7 79)<|
 .step (.cell 8 79)<|.step (.cell 9 79)<|.step (.cell 10 79)<|.step (.cell 11 79)<|.step (.cell 12 79)<|.step (.cell 13 79)<|.step (.cell 14 79)<|.step (.cell 15 79)<|.step (.cell 16 79)<|
 .step (.cell 17 79)<|.step (.cell 18 79)<|.step (.cell 19 79)<|.step (.cell 20 79)<|.step (.cell 21 79)<|.step (.cell 22 79)<|.step (.cell 23 79)<|.step (.call 20 [80,81,82,83,84,85,86,87,88,89,90,91,92,93,94,95,96,97,98,99,100,101,102,103,52,9,62,63] 0)<|
 .step (.call 20 [80,81,82,83,84,85,86,87,88,89,90,91,92,93,94,95,96,97,98,99,100,101,102,103,52,9,62,63] 1)<|.step (.call 20 [80,81,82,83,84,85,86,87,88,89,90,91,92,93,94,95,96,97,98,99,100,101,102,103,52,9,62,63] 2)<|
 .step (.call 20 [80,81,82,83,84,85,86,87,88,89,90,91,92,93,94,95,96,97,98,99,100,101,102,103,52,9,62,63] 3)<|.step (.call 20 [80,81,82,83,84,85,86,87,88,89,90,91,92,93,94,95,96,97,98,99,100,101,102,103,52,9,62,63] 4)<|
 .step (.call 20 [80,81,82,83,84,85,86,87,88,89,90,91,92,93,94,95,96,97,98,99,100,101,102,103,52,9,62,63] 5)<|.step (.call 20 [80,81,82,83,84,85,86,87,88,89,90,91,92,93,94,95,96,97,98,99,100,101,102,103,52,9,62,63] 6)<|
 .step (.call 20 [80,81,82,83,84,85,86,87,88,89,90,91,92,93,94,95,96,97,98,99,100,101,102,103,52,9,62,63] 7)<|.step (.call 20 [80,81,82,83,84,85,86,87,88,89,90,91,92,93,94,95,96,97,98,99,100,101,102,103,52,9,62,63] 8)<|
 .step (.mk [80,81,82,83,84,85,86,87,88,89,90,91,92,93,94,95,96,97,98,99,100,101,102,103])<|.step (.call 86 [113] 0)<|.step (.cell 0 114)<|.step (.cell 1 114)<|
 .step (.cell 2 114)<|.step (.cell 3 114)<|.step (.cell 4 114)<|.step (.cell 5 114)<|.step (.cell 6 114)<|.step (.cell 7 114)<|.step (.cell 8 114)<|.step (.cell 9 114)<|.step (.cell 10 114)<|
 .step (.cell 11 114)<|.step (.cell 12 114)<|.step (.cell 13 114)<|.step (.cell 14 114)<|.step (.cell 15 114)<|.step (.cell 16 114)<|.step (.cell 17 114)<|.step (.cell 18 114)<|.step (.cell 19 114)<|
 .step (.cell 20 114)<|.step (.cell 21 114)<|.step (.cell 22 114)<|.step (.cell 23 114)<|.step (.mk [52,5,6,7])<|.step (.mk [115,116,117,118,119,120,121,122,123,124,125,126,127,128,129,130,131,132,133,134,135,136,137,138])<|
 .step (.call 93 [139,140] 0)<|.step (.cell 0 141)<|.step (.cell 1 141)<|.step (.cell 2 141)<|.step (.cell 3 141)<|.step (.call 93 [139,140] 1)<|.step (.cell 0 146)<|.step (.cell 1 146)<|
 .step (.cell 2 146)<|.step (.cell 3 146)<|.step (.cell 4 146)<|.step (.cell 5 146)<|.step (.cell 6 146)<|.step (.cell 7 146)<|.step (.cell 8 146)<|.step (.cell 9 146)<|.step (.cell 10 146)<|
 .step (.cell 11 146)<|.step (.cell 12 146)<|.step (.cell 13 146)<|.step (.cell 14 146)<|.step (.cell 15 146)<|.step (.cell 16 146)<|.step (.cell 17 146)<|.step (.cell 18 146)<|.step (.cell 19 146)<|
 .step (.cell 20 146)<|.step (.cell 21 146)<|.step (.cell 22 146)<|.step (.cell 23 146)<|.step (.call 93 [139,140] 2)<|.step (.call 151 [52,110,111,112] 0)<|.step (.call 151 [52,110,111,112] 1)<|
 .step (.call 151 [52,110,111,112] 2)<|.step (.call 151 [52,110,111,112] 3)<|.step (.mk [105,64,64,64,64,64,64,64,64,64,106,64,64,64,107,108,66,67,68,68,68,69,69,69])<|
 .step (.call 86 [176] 0)<|.step (.cell 0 177)<|.step (.cell 1 177)<|.step (.cell 2 177)<|.step (.cell 3 177)<|.step (.cell 4 177)<|.step (.cell 5 177)<|.step (.cell 6 177)<|.step (.cell 7 177)<|
 .step (.cell 8 177)<|.step (.cell 9 177)<|.step (.cell 10 177)<|.step (.cell 11 177)<|.step (.cell 12 177)<|.step (.cell 13 177)<|.step (.cell 14 177)<|.step (.cell 15 177)<|.step (.cell 16 177)<|
 .step (.cell 17 177)<|.step (.cell 18 177)<|.step (.cell 19 177)<|.step (.cell 20 177)<|.step (.cell 21 177)<|.step (.cell 22 177)<|.step (.cell 23 177)<|.step (.mk [178,179,180,181,182,183,184,185,186,187,188,189,190,191,192,193,194,195,196,197,198,199,200,201])<|
 .step (.mk [147,148,149,150,151,152,153,154,155,156,157,158,159,160,161,162,163,164,165,166,167,168,169,170])<|.step (.call 152 [202,203] 0)<|.step (.un .not 204)<|
 .ite 205
 (.ret [66,67])
 (.step (.bin .neq 109 171)<|.ite 206
 (.ret [66,67])
 (.step (.oD .neq 175 145)<|.ite 207
 (.ret [66,67])
 (.ite 175
 (.step (.mk [173,174])<|.step (.call 160 [208] 0)<|.step (.cell 0 209)<|.step (.cell 1 209)<|.step (.mk [210,211])<|.step (.mk [143,144])<|.step (.call 161 [212,213] 0)<|.step (.un .not 214)<|
 .ite 215
 (.ret [66,67])
 (.step (.un .not 175)<|.ite 216
 (.step (.call 162 [64,173,174] 0)<|.step (.call 162 [64,173,174] 1)<|.step (.un .not 218)<|.ite 219
 (.ret [66,67])
 (.step (.bin .neq 111 173)<|.ite 220
 (.ret [66,67])
 (.step (.bin .neq 105 66)<|.ite 221
 (.step (.call 21 [176,142] 0)<|.step (.bin .neq 222 66)<|.ite 223
 (.ret [66,67])
 (.step (.bin .add 3 53)<|.tail 1 [0,1,2,224,142,143,144,145,52,110,111,112]))
 (.step (.bin .add 3 53)<|.tail 1 [0,1,2,222,142,143,144,145,52,110,111,112]))))
 (.step (.bin .neq 111 173)<|.ite 217
 (.ret [66,67])
 (.step (.bin .neq 105 66)<|.ite 218
 (.step (.call 21 [176,142] 0)<|.step (.bin .neq 219 66)<|.ite 220
 (.ret [66,67])
 (.step (.bin .add 3 53)<|.tail 1 [0,1,2,221,142,143,144,145,52,110,111,112]))
 (.step (.bin .add 3 53)<|.tail 1 [0,1,2,219,142,143,144,145,52,110,111,112])))))
 (.step (.un .not 175)<|.ite 208
 (.step (.call 162 [64,173,174] 0)<|.step (.call 162 [64,173,174] 1)<|.step (.un .not 210)<|.ite 211
 (.ret [66,67])
 (.step (.bin .neq 111 173)<|.ite 212
 (.ret [66,67])
 (.step (.bin .neq 105 66)<|.ite 213
 (.step (.call 21 [176,142] 0)<|.step (.bin .neq 214 66)<|.ite 215
 (.ret [66,67])
 (.step (.bin .add 3 53)<|.tail 1 [0,1,2,216,142,143,144,145,52,110,111,112]))
 (.step (.bin .add 3 53)<|.tail 1 [0,1,2,214,142,143,144,145,52,110,111,112]))))
 (.step (.bin .neq 111 173)<|.ite 209
 (.ret [66,67])
 (.step (.bin .neq 105 66)<|.ite 210
 (.step (.call 21 [176,142] 0)<|.step (.bin .neq 211 66)<|.ite 212
 (.ret [66,67])
 (.step (.bin .add 3 53)<|.tail 1 [0,1,2,213,142,143,144,145,52,110,111,112]))
 (.step (.bin .add 3 53)<|.tail 1 [0,1,2,211,142,143,144,145,52,110,111,112])))))))))
 (.step (.cb false)<|.step (.ci .i64 0)<|.ret [60,59])))
 (.step (.bin .geq 52 53)<|.ite 55
 (.step (.ci .i64 3)<|.step (.bin .leq 52 56)<|.step (.cb false)<|.step (.oD .neq 58 57)<|.ite 59
 (.step (.ci .i64 0)<|.ret [60,58])
 (.step (.call 16 [8,9,10,11] 0)<|.step (.call 16 [8,9,10,11] 1)<|.step (.call 16 [8,9,10,11] 2)<|.step (.ci .u64 0)<|.step (.ci .u64 9223372036854775808)<|.step (.ci .i64 0)<|
 .step (.cs [])<|.step (.ml [])<|.step (.call 20 [51,63,63,63,63,63,63,63,63,63,64,63,63,63,63,63,65,58,66,66,66,67,67,67,8,9,10,11] 0)<|.step (.call 20 [51,63,63,63,63,63,63,63,63,63,64,63,63,63,63,63,65,58,66,66,66,67,67,67,8,9,10,11] 1)<|
 .step (.call 20 [51,63,63,63,63,63,63,63,63,63,64,63,63,63,63,63,65,58,66,66,66,67,67,67,8,9,10,11] 2)<|.step (.call 20 [51,63,63,63,63,63,63,63,63,63,64,63,63,63,63,63,65,58,66,66,66,67,67,67,8,9,10,11] 3)<|
 .step (.call 20 [51,63,63,63,63,63,63,63,63,63,64,63,63,63,63,63,65,58,66,66,66,67,67,67,8,9,10,11] 4)<|.step (.call 20 [51,63,63,63,63,63,63,63,63,63,64,63,63,63,63,63,65,58,66,66,66,67,67,67,8,9,10,11] 5)<|
 .step (.call 20 [51,63,63,63,63,63,63,63,63,63,64,63,63,63,63,63,65,58,66,66,66,67,67,67,8,9,10,11] 6)<|.step (.call 20 [51,63,63,63,63,63,63,63,63,63,64,63,63,63,63,63,65,58,66,66,66,67,67,67,8,9,10,11] 7)<|
 .step (.call 20 [51,63,63,63,63,63,63,63,63,63,64,63,63,63,63,63,65,58,66,66,66,67,67,67,8,9,10,11] 8)<|.step (.call 82 [38] 0)<|.step (.cell 0 77)<|.step (.cell 1 77)<|
 .step (.cell 2 77)<|.step (.cell 3 77)<|.step (.cell 4 77)<|.step (.cell 5 77)<|.step (.cell 6 77)<|.step (.cell 7 77)<|.step (.cell 8 77)<|.step (.cell 9 77)<|.step (.cell 10 77)<|
 .step (.cell 11 77)<|.step (.cell 12 77)<|.step (.cell 13 77)<|.step (.cell 14 77)<|.step (.cell 15 77)<|.step (.cell 16 77)<|.step (.cell 17 77)<|.step (.cell 18 77)<|.step (.cell 19 77)<|
 .step (.cell 20 77)<|.step (.cell 21 77)<|.step (.cell 22 77)<|.step (.cell 23 77)<|.step (.call 20 [78,79,80,81,82,83,84,85,86,87,88,89,90,91,92,93,94,95,96,97,98,99,100,101,8,9,61,62] 0)<|
 .step (.call 20 [78,79,80,81,82,83,84,85,86,87,88,89,90,91,92,93,94,95,96,97,98,99,100,101,8,9,61,62] 1)<|.step (.call 20 [78,79,80,81,82,83,84,85,86,87,88,89,90,91,92,93,94,95,96,97,98,99,100,101,8,9,61,62] 2)<|
 .step (.call 20 [78,79,80,81,82,83,84,85,86,87,88,89,90,91,92,93,94,95,96,97,98,99,100,101,8,9,61,62] 3)<|.step (.call 20 [78,79,80,81,82,83,84,85,86,87,88,89,90,91,92,93,94,95,96,97,98,99,100,101,8,9,61,62] 4)<|
 .step (.call 20 [78,79,80,81,82,83,84,85,86,87,88,89,90,91,92,93,94,95,96,97,98,99,100,101,8,9,61,62] 5)<|.step (.call 20 [78,79,80,81,82,83,84,85,86,87,88,89,90,91,92,93,94,95,96,97,98,99,100,101,8,9,61,62] 6)<|
 .step (.call 20 [78,79,80,81,82,83,84,85,86,87,88,89,90,91,92,93,94,95,96,97,98,99,100,101,8,9,61,62] 7)<|.step (.call 20 [78,79,80,81,82,83,84,85,86,87,88,89,90,91,92,93,94,95,96,97,98,99,100,101,8,9,61,62] 8)<|
 .step (.mk [78,79,80,81,82,83,84,85,86,87,88,89,90,91,92,93,94,95,96,97,98,99,100,101])<|.step (.call 86 [111] 0)<|.step (.cell 0 112)<|.step (.cell 1 112)<|
 .step (.cell 2 112)<|.step (.cell 3 112)<|.step (.cell 4 112)<|.step (.cell 5 112)<|.step (.cell 6 112)<|.step (.cell 7 112)<|.step (.cell 8 112)<|.step (.cell 9 112)<|.step (.cell 10 112)<|
 .step (.cell 11 112)<|.step (.cell 12 112)<|.step (.cell 13 112)<|.step (.cell 14 112)<|.step (.cell 15 112)<|.step (.cell 16 112)<|.step (.cell 17 112)<|.step (.cell 18 112)<|.step (.cell 19 112)<|
 .step (.cell 20 112)<|.step (.cell 21 112)<|.step (.cell 22 112)<|.step (.cell 23 112)<|.step (.mk [4,5,6,7])<|.step (.mk [113,114,115,116,117,118,119,120,121,122,123,124,125,126,127,128,129,130,131,132,133,134,135,136])<|
 .step (.call 93 [137,138] 0)<|.step (.cell 0 139)<|.step (.cell 1 139)<|.step (.cell 2 139)<|.step (.cell 3 139)<|.step (.call 93 [137,138] 1)<|.step (.cell 0 144)<|.step (.cell 1 144)<|
 .step (.cell 2 144)<|.step (.cell 3 144)<|.step (.cell 4 144)<|.step (.cell 5 144)<|.step (.cell 6 144)<|.step (.cell 7 144)<|.step (.cell 8 144)<|.step (.cell 9 144)<|.step (.cell 10 144)<|
 .step (.cell 11 144)<|.step (.cell 12 144)<|.step (.cell 13 144)<|.step (.cell 14 144)<|.step (.cell 15 144)<|.step (.cell 16 144)<|.step (.cell 17 144)<|.step (.cell 18 144)<|.step (.cell 19 144)<|
 .step (.cell 20 144)<|.step (.cell 21 144)<|.step (.cell 22 144)<|.step (.cell 23 144)<|.step (.call 93 [137,138] 2)<|.step (.call 151 [8,108,109,110] 0)<|.step (.call 151 [8,108,109,110] 1)<|
 .step (.call 151 [8,108,109,110] 2)<|.step (.call 151 [8,108,109,110] 3)<|.step (.mk [103,63,63,63,63,63,63,63,63,63,104,63,63,63,105,106,65,58,66,66,66,67,67,67])<|
 .step (.call 86 [174] 0)<|.step (.cell 0 175)<|.step (.cell 1 175)<|.step (.cell 2 175)<|.step (.cell 3 175)<|.step (.cell 4 175)<|.step (.cell 5 175)<|.step (.cell 6 175)<|.step (.cell 7 175)<|
 .step (.cell 8 175)<|.step (.cell 9 175)<|.step (.cell 10 175)<|.step (.cell 11 175)<|.step (.cell 12 175)<|.step (.cell 13 175)<|.step (.cell 14 175)<|.step (.cell 15 175)<|.step (.cell 16 175)<|
 .step (.cell 17 175)<|.step (.cell 18 175)<|.step (.cell 19 175)<|.step (.cell 20 175)<|.step (.cell 21 175)<|.step (.cell 22 175)<|.step (.cell 23 175)<|.step (.mk [176,177,178,179,180,181,182,183,184,185,186,187,188,189,190,191,192,193,194,195,196,197,198,199])<|
 .step (.mk [145,146,147,148,149,150,151,152,153,154,155,156,157,158,159,160,161,162,163,164,165,166,167,168])<|.step (.call 152 [200,201] 0)<|.step (.un .not 202)<|
 .ite 203
 (.ret [65,58])
 (.step (.bin .neq 107 169)<|.ite 204
 (.ret [65,58])
 (.step (.oD .neq 173 143)<|.ite 205
 (.ret [65,58])
 (.ite 173
 (.step (.mk [171,172])<|.step (.call 160 [206] 0)<|.step (.cell 0 207)<|.step (.cell 1 207)<|.step (.mk [208,209])<|.step (.mk [141,142])<|.step (.call 161 [210,211] 0)<|.step (.un .not 212)<|
 .ite 213
 (.ret [65,58])
 (.step (.un .not 173)<|.ite 214
 (.step (.call 162 [63,171,172] 0)<|.step (.call 162 [63,171,172] 1)<|.step (.un .not 216)<|.ite 217
 (.ret [65,58])
 (.step (.bin .neq 109 171)<|.ite 218
 (.ret [65,58])
 (.step (.bin .neq 103 65)<|.ite 219
 (.step (.call 21 [174,140] 0)<|.step (.bin .neq 220 65)<|.ite 221
 (.ret [65,58])
 (.step (.bin .add 3 53)<|.tail 1 [0,1,2,222,140,141,142,143,8,108,109,110]))
 (.step (.bin .add 3 53)<|.tail 1 [0,1,2,220,140,141,142,143,8,108,109,110]))))
 (.step (.bin .neq 109 171)<|.ite 215
 (.ret [65,58])
 (.step (.bin .neq 103 65)<|.ite 216
 (.step (.call 21 [174,140] 0)<|.step (.bin .neq 217 65)<|.ite 218
 (.ret [65,58])
 (.step (.bin .add 3 53)<|.tail 1 [0,1,2,219,140,141,142,143,8,108,109,110]))
 (.step (.bin .add 3 53)<|.tail 1 [0,1,2,217,140,141,142,143,8,108,109,110])))))
 (.step (.un .not 173)<|.ite 206
 (.step (.call 162 [63,171,172] 0)<|.step (.call 162 [63,171,172] 1)<|.step (.un .not 208)<|.ite 209
 (.ret [65,58])
 (.step (.bin .neq 109 171)<|.ite 210
 (.ret [65,58])
 (.step (.bin .neq 103 65)<|.ite 211
 (.step (.call 21 [174,140] 0)<|.step (.bin .neq 212 65)<|.ite 213
 (.ret [65,58])
 (.step (.bin .add 3 53)<|.tail 1 [0,1,2,214,140,141,142,143,8,108,109,110]))
 (.step (.bin .add 3 53)<|.tail 1 [0,1,2,212,140,141,142,143,8,108,109,110]))))
 (.step (.bin .neq 109 171)<|.ite 207
 (.ret [65,58])
 (.step (.bin .neq 103 65)<|.ite 208
 (.step (.call 21 [174,140] 0)<|.step (.bin .neq 209 65)<|.ite 210
 (.ret [65,58])
 (.step (.bin .add 3 53)<|.tail 1 [0,1,2,211,140,141,142,143,8,108,109,110]))
 (.step (.bin .add 3 53)<|.tail 1 [0,1,2,209,140,141,142,143,8,108,109,110])))))))))
 (.step (.call 16 [8,9,10,11] 0)<|.step (.call 16 [8,9,10,11] 1)<|.step (.call 16 [8,9,10,11] 2)<|.step (.ci .u64 0)<|.step (.ci .u64 9223372036854775808)<|.step (.ci .i64 0)<|
 .step (.cb false)<|.step (.cs [])<|.step (.ml [])<|.step (.call 20 [51,59,59,59,59,59,59,59,59,59,60,59,59,59,59,59,61,62,63,63,63,64,64,64,8,9,10,11] 0)<|
 .step (.call 20 [51,59,59,59,59,59,59,59,59,59,60,59,59,59,59,59,61,62,63,63,63,64,64,64,8,9,10,11] 1)<|.step (.call 20 [51,59,59,59,59,59,59,59,59,59,60,59,59,59,59,59,61,62,63,63,63,64,64,64,8,9,10,11] 2)<|
 .step (.call 20 [51,59,59,59,59,59,59,59,59,59,60,59,59,59,59,59,61,62,63,63,63,64,64,64,8,9,10,11] 3)<|.step (.call 20 [51,59,59,59,59,59,59,59,59,59,60,59,59,59,59,59,61,62,63,63,63,64,64,64,8,9,10,11] 4)<|
 .step (.call 20 [51,59,59,59,59,59,59,59,59,59,60,59,59,59,59,59,61,62,63,63,63,64,64,64,8,9,10,11] 5)<|.step (.call 20 [51,59,59,59,59,59,59,59,59,59,60,59,59,59,59,59,61,62,63,63,63,64,64,64,8,9,10,11] 6)<|
 .step (.call 20 [51,59,59,59,59,59,59,59,59,59,60,59,59,59,59,59,61,62,63,63,63,64,64,64,8,9,10,11] 7)<|.step (.call 20 [51,59,59,59,59,59,59,59,59,59,60,59,59,59,59,59,61,62,63,63,63,64,64,64,8,9,10,11] 8)<|
 .step (.call 82 [38] 0)<|.step (.cell 0 74)<|.step (.cell 1 74)<|.step (.cell 2 74)<|.step (.cell 3 74)<|.step (.cell 4 74)<|.step (.cell 5 74)<|.step (.cell 6 74)<|.step (.cell 7 74)<|
 .step (.cell 8 74)<|.step (.cell 9 74)<|.step (.cell 10 74)<|.step (.cell 11 74)<|.step (.cell 12 74)<|.step (.cell 13 74)<|.step (.cell 14 74)<|.step (.cell 15 74)<|.step (.cell 16 74)<|
 .step (.cell 17 74)<|.step (.cell 18 74)<|.step (.cell 19 74)<|.step (.cell 20 74)<|.step (.cell 21 74)<|.step (.cell 22 74)<|.step (.cell 23 74)<|.step (.call 20 [75,76,77,78,79,80,81,82,83,84,85,86,87,88,89,90,91,92,93,94,95,96,97,98,8,9,57,58] 0)<|
 .step (.call 20 [75,76,77,78,79,80,81,82,83,84,85,86,87,88,89,90,91,92,93,94,95,96,97,98,8,9,57,58] 1)<|.step (.call 20 [75,76,77,78,79,80,81,82,83,84,85,86,87,88,89,90,91,92,93,94,95,96,97,98,8,9,57,58] 2)<|
 .step (.call 20 [75,76,77,78,79,80,81,82,83,84,85,86,87,88,89,90,91,92,93,94,95,96,97,98,8,9,57,58] 3)<|.step (.call 20 [75,76,77,78,79,80,81,82,83,84,85,86,87,88,89,90,91,92,93,94,95,96,97,98,8,9,57,58] 4)<|
 .step (.call 20 [75,76,77,78,79,80,81,82,83,84,85,86,87,88,89,90,91,92,93,94,95,96,97,98,8,9,57,58] 5)<|.step (.call 20 [75,76,77,78,79,80,81,82,83,84,85,86,87,88,89,90,91,92,93,94,95,96,97,98,8,9,57,58] 6)<|
 .step (.call 20 [75,76,77,78,79,80,81,82,83,84,85,86,87,88,89,90,91,92,93,94,95,96,97,98,8,9,57,58] 7)<|.step (.call 20 [75,76,77,78,79,80,81,82,83,84,85,86,87,88,89,90,91,92,93,94,95,96,97,98,8,9,57,58] 8)<|
 .step (.mk [75,76,77,78,79,80,81,82,83,84,85,86,87,88,89,90,91,92,93,94,95,96,97,98])<|.step (.call 86 [108] 0)<|.step (.cell 0 109)<|.step (.cell 1 109)<|
 .step (.cell 2 109)<|.step (.cell 3 109)<|.step (.cell 4 109)<|.step (.cell 5 109)<|.step (.cell 6 109)<|.step (.cell 7 109)<|.step (.cell 8 109)<|.step (.cell 9 109)<|.step (.cell 10 109)<|
 .step (.cell 11 109)<|.step (.cell 12 109)<|.step (.cell 13 109)<|.step (.cell 14 109)<|.step (.cell 15 109)<|.step (.cell 16 109)<|.step (.cell 17 109)<|.step (.cell 18 109)<|.step (.cell 19 109)<|
 .step (.cell 20 109)<|.step (.cell 21 109)<|.step (.cell 22 109)<|.step (.cell 23 109)<|.step (.mk [4,5,6,7])<|.step (.mk [110,111,112,113,114,115,116,117,118,119,120,121,122,123,124,125,126,127,128,129,130,131,132,133])<|
 .step (.call 93 [134,135] 0)<|.step (.cell 0 136)<|.step (.cell 1 136)<|.step (.cell 2 136)<|.step (.cell 3 136)<|.step (.call 93 [134,135] 1)<|.step (.cell 0 141)<|.step (.cell 1 141)<|
 .step (.cell 2 141)<|.step (.cell 3 141)<|.step (.cell 4 141)<|.step (.cell 5 141)<|.step (.cell 6 141)<|.step (.cell 7 141)<|.step (.cell 8 141)<|.step (.cell 9 141)<|.step (.cell 10 141)<|
 .step (.cell 11 141)<|.step (.cell 12 141)<|.step (.cell 13 141)<|.step (.cell 14 141)<|.step (.cell 15 141)<|.step (.cell 16 141)<|.step (.cell 17 141)<|.step (.cell 18 141)<|.step (.cell 19 141)<|
 .step (.cell 20 141)<|.step (.cell 21 141)<|.step (.cell 22 141)<|.step (.cell 23 141)<|.step (.call 93 [134,135] 2)<|.step (.call 151 [8,105,106,107] 0)<|.step (.call 151 [8,105,106,107] 1)<|
 .step (.call 151 [8,105,106,107] 2)<|.step (.call 151 [8,105,106,107] 3)<|.step (.mk [100,59,59,59,59,59,59,59,59,59,101,59,59,59,102,103,61,62,63,63,63,64,64,64])<|
 .step (.call 86 [171] 0)<|.step (.cell 0 172)<|.step (.cell 1 172)<|.step (.cell 2 172)<|.step (.cell 3 172)<|.step (.cell 4 172)<|.step (.cell 5 172)<|.step (.cell 6 172)<|.step (.cell 7 172)<|
 .step (.cell 8 172)<|.step (.cell 9 172)<|.step (.cell 10 172)<|.step (.cell 11 172)<|.step (.cell 12 172)<|.step (.cell 13 172)<|.step (.cell 14 172)<|.step (.cell 15 172)<|.step (.cell 16 172)<|
 .step (.cell 17 172)<|.step (.cell 18 172)<|.step (.cell 19 172)<|.step (.cell 20 172)<|.step (.cell 21 172)<|.step (.cell 22 172)<|.step (.cell 23 172)<|.step (.mk [173,174,175,176,177,178,179,180,181,182,183,184,185,186,187,188,189,190,191,192,193,194,195,196])<|
 .step (.mk [142,143,144,145,146,147,148,149,150,151,152,153,154,155,156,157,158,159,160,161,162,163,164,165])<|.step (.call 152 [197,198] 0)<|.step (.un .not 199)<|
 .ite 200
 (.ret [61,62])
 (.step (.bin .neq 104 166)<|.ite 201
 (.ret [61,62])
 (.step (.oD .neq 170 140)<|.ite 202
 (.ret [61,62])
 (.ite 170
 (.step (.mk [168,169])<|.step (.call 160 [203] 0)<|.step (.cell 0 204)<|.step (.cell 1 204)<|.step (.mk [205,206])<|.step (.mk [138,139])<|.step (.call 161 [207,208] 0)<|.step (.un .not 209)<|
 .ite 210
 (.ret [61,62])
 (.step (.un .not 170)<|.ite 211
 (.step (.call 162 [59,168,169] 0)<|.step (.call 162 [59,168,169] 1)<|.step (.un .not 213)<|.ite 214
 (.ret [61,62])
 (.step (.bin .neq 106 168)<|.ite 215
 (.ret [61,62])
 (.step (.bin .neq 100 61)<|.ite 216
 (.step (.call 21 [171,137] 0)<|.step (.bin .neq 217 61)<|.ite 218
 (.ret [61,62])
 (.step (.bin .add 3 53)<|.tail 1 [0,1,2,219,137,138,139,140,8,105,106,107]))
 (.step (.bin .add 3 53)<|.tail 1 [0,1,2,217,137,138,139,140,8,105,106,107]))))
 (.step (.bin .neq 106 168)<|.ite 212
 (.ret [61,62])
 (.step (.bin .neq 100 61)<|.ite 213
 (.step (.call 21 [171,137] 0)<|.step (.bin .neq 214 61)<|.ite 215
 (.ret [61,62])
 (.step (.bin .add 3 53)<|.tail 1 [0,1,2,216,137,138,139,140,8,105,106,107]))
 (.step (.bin .add 3 53)<|.tail 1 [0,1,2,214,137,138,139,140,8,105,106,107])))))
 (.step (.un .not 170)<|.ite 203
 (.step (.call 162 [59,168,169] 0)<|.step (.call 162 [59,168,169] 1)<|.step (.un .not 205)<|.ite 206
 (.ret [61,62])
 (.step (.bin .neq 106 168)<|.ite 207
 (.ret [61,62])
 (.step (.bin .neq 100 61)<|.ite 208
 (.step (.call 21 [171,137] 0)<|.step (.bin .neq 209 61)<|.ite 210
 (.ret [61,62])
 (.step (.bin .add 3 53)<|.tail 1 [0,1,2,211,137,138,139,140,8,105,106,107]))
 (.step (.bin .add 3 53)<|.tail 1 [0,1,2,209,137,138,139,140,8,105,106,107]))))
 (.step (.bin .neq 106 168)<|.ite 204
 (.ret [61,62])
 (.step (.bin .neq 100 61)<|.ite 205
 (.step (.call 21 [171,137] 0)<|.step (.bin .neq 206 61)<|.ite 207
 (.ret [61,62])
 (.step (.bin .add 3 53)<|.tail 1 [0,1,2,208,137,138,139,140,8,105,106,107]))
 (.step (.bin .add 3 53)<|.tail 1 [0,1,2,206,137,138,139,140,8,105,106,107]))))))))))
 (.step (.call 82 [38] 0)<|.step (.cell 0 50)<|.step (.cell 1 50)<|.step (.cell 2 50)<|.step (.cell 3 50)<|.step (.cell 4 50)<|.step (.cell 5 50)<|.step (.cell 6 50)<|.step (.cell 7 50)<|
 .step (.cell 8 50)<|.step (.cell 9 50)<|.step (.cell 10 50)<|.step (.cell 11 50)<|.step (.cell 12 50)<|.step (.cell 13 50)<|.step (.cell 14 50)<|.step (.cell 15 50)<|.step (.cell 16 50)<|
 .step (.cell 17 50)<|.step (.cell 18 50)<|.step (.cell 19 50)<|.step (.cell 20 50)<|.step (.cell 21 50)<|.step (.cell 22 50)<|.step (.cell 23 50)<|.step (.call 20 [51,52,53,54,55,56,57,58,59,60,61,62,63,64,65,66,67,68,69,70,71,72,73,74,8,9,10,11] 0)<|
 .step (.call 20 [51,52,53,54,55,56,57,58,59,60,61,62,63,64,65,66,67,68,69,70,71,72,73,74,8,9,10,11] 1)<|.step (.call 20 [51,52,53,54,55,56,57,58,59,60,61,62,63,64,65,66,67,68,69,70,71,72,73,74,8,9,10,11] 2)<|
 .step (.call 20 [51,52,53,54,55,56,57,58,59,60,61,62,63,64,65,66,67,68,69,70,71,72,73,74,8,9,10,11] 3)<|.step (.call 20 [51,52,53,54,55,56,57,58,59,60,61,62,63,64,65,66,67,68,69,70,71,72,73,74,8,9,10,11] 4)<|
 .step (.call 20 [51,52,53,54,55,56,57,58,59,60,61,62,63,64,65,66,67,68,69,70,71,72,73,74,8,9,10,11] 5)<|.step (.call 20 [51,52,53,54,55,56,57,58,59,60,61,62,63,64,65,66,67,68,69,70,71,72,73,74,8,9,10,11] 6)<|
 .step (.call 20 [51,52,53,54,55,56,57,58,59,60,61,62,63,64,65,66,67,68,69,70,71,72,73,74,8,9,10,11] 7)<|.step (.call 20 [51,52,53,54,55,56,57,58,59,60,61,62,63,64,65,66,67,68,69,70,71,72,73,74,8,9,10,11] 8)<|
 .step (.mk [51,52,53,54,55,56,57,58,59,60,61,62,63,64,65,66,67,68,69,70,71,72,73,74])<|.step (.call 86 [84] 0)<|.step (.cell 0 85)<|.step (.cell 1 85)<|.step (.cell 2 85)<|
 .step (.cell 3 85)<|.step (.cell 4 85)<|.step (.cell 5 85)<|.step (.cell 6 85)<|.step (.cell 7 85)<|.step (.cell 8 85)<|.step (.cell 9 85)<|.step (.cell 10 85)<|.step (.cell 11 85)<|
 .step (.cell 12 85)<|.step (.cell 13 85)<|.step (.cell 14 85)<|.step (.cell 15 85)<|.step (.cell 16 85)<|.step (.cell 17 85)<|.step (.cell 18 85)<|.step (.cell 19 85)<|.step (.cell 20 85)<|
 .step (.cell 21 85)<|.step (.cell 22 85)<|.step (.cell 23 85)<|.step (.mk [4,5,6,7])<|.step (.mk [86,87,88,89,90,91,92,93,94,95,96,97,98,99,100,101,102,103,104,105,106,107,108,109])<|
 .step (.call 93 [110,111] 0)<|.step (.cell 0 112)<|.step (.cell 1 112)<|.step (.cell 2 112)<|.step (.cell 3 112)<|.step (.call 93 [110,111] 1)<|.step (.cell 0 117)<|.step (.cell 1 117)<|
 .step (.cell 2 117)<|.step (.cell 3 117)<|.step (.cell 4 117)<|.step (.cell 5 117)<|.step (.cell 6 117)<|.step (.cell 7 117)<|.step (.cell 8 117)<|.step (.cell 9 117)<|.step (.cell 10 117)<|
 .step (.cell 11 117)<|.step (.cell 12 117)<|.step (.cell 13 117)<|.step (.cell 14 117)<|.step (.cell 15 117)<|.step (.cell 16 117)<|.step (.cell 17 117)<|.step (.cell 18 117)<|.step (.cell 19 117)<|
 .step (.cell 20 117)<|.step (.cell 21 117)<|.step (.cell 22 117)<|.step (.cell 23 117)<|.step (.call 93 [110,111] 2)<|.step (.call 151 [8,81,82,83] 0)<|.step (.call 151 [8,81,82,83] 1)<|
 .step (.call 151 [8,81,82,83] 2)<|.step (.call 151 [8,81,82,83] 3)<|.step (.ci .u64 0)<|.step (.ci .i64 0)<|.step (.cb false)<|.step (.cs [])<|.step (.ml [])<|.step (.mk [76,147,147,147,147,147,147,147,147,147,77,147,147,147,78,79,148,149,150,150,150,151,151,151])<|
 .step (.call 86 [152] 0)<|.step (.cell 0 153)<|.step (.cell 1 153)<|.step (.cell 2 153)<|.step (.cell 3 153)<|.step (.cell 4 153)<|.step (.cell 5 153)<|.step (.cell 6 153)<|.step (.cell 7 153)<|
 .step (.cell 8 153)<|.step (.cell 9 153)<|.step (.cell 10 153)<|.step (.cell 11 153)<|.step (.cell 12 153)<|.step (.cell 13 153)<|.step (.cell 14 153)<|.step (.cell 15 153)<|.step (.cell 16 153)<|
 .step (.cell 17 153)<|.step (.cell 18 153)<|.step (.cell 19 153)<|.step (.cell 20 153)<|.step (.cell 21 153)<|.step (.cell 22 153)<|.step (.cell 23 153)<|.step (.mk [154,155,156,157,158,159,160,161,162,163,164,165,166,167,168,169,170,171,172,173,174,175,176,177])<|
 .step (.mk [118,119,120,121,122,123,124,125,126,127,128,129,130,131,132,133,134,135,136,137,138,139,140,141])<|.step (.call 152 [178,179] 0)<|.step (.un .not 180)<|
 .ite 181
 (.ret [148,149])
 (.step (.bin .neq 80 142)<|.ite 182
 (.ret [148,149])
 (.step (.oD .neq 146 116)<|.ite 183
 (.ret [148,149])
 (.ite 146
 (.step (.mk [144,145])<|.step (.call 160 [184] 0)<|.step (.cell 0 185)<|.step (.cell 1 185)<|.step (.mk [186,187])<|.step (.mk [114,115])<|.step (.call 161 [188,189] 0)<|.step (.un .not 190)<|
 .ite 191
 (.ret [148,149])
 (.step (.un .not 146)<|.ite 192
 (.step (.call 162 [147,144,145] 0)<|.step (.call 162 [147,144,145] 1)<|.step (.un .not 194)<|.ite 195
 (.ret [148,149])
 (.step (.bin .neq 82 144)<|.ite 196
 (.ret [148,149])
 (.step (.bin .neq 76 148)<|.ite 197
 (.step (.call 21 [152,113] 0)<|.step (.bin .neq 198 148)<|.ite 199
 (.ret [148,149])
 (.step (.ci .i64 1)<|.step (.bin .add 3 200)<|.tail 1 [0,1,2,201,113,114,115,116,8,81,82,83]))
 (.step (.ci .i64 1)<|.step (.bin .add 3 198)<|.tail 1 [0,1,2,199,113,114,115,116,8,81,82,83]))))
 (.step (.bin .neq 82 144)<|.ite 193
 (.ret [148,149])
 (.step (.bin .neq 76 148)<|.ite 194
 (.step (.call 21 [152,113] 0)<|.step (.bin .neq 195 148)<|.ite 196
 (.ret [148,149])
 (.step (.ci .i64 1)<|.step (.bin .add 3 197)<|.tail 1 [0,1,2,198,113,114,115,116,8,81,82,83]))
 (.step (.ci .i64 1)<|.step (.bin .add 3 195)<|.tail 1 [0,1,2,196,113,114,115,116,8,81,82,83])))))
 (.step (.un .not 146)<|.ite 184
 (.step (.call 162 [147,144,145] 0)<|.step (.call 162 [147,144,145] 1)<|.step (.un .not 186)<|.ite 187
 (.ret [148,149])
 (.step (.bin .neq 82 144)<|.ite 188
 (.ret [148,149])
 (.step (.bin .neq 76 148)<|.ite 189
 (.step (.call 21 [152,113] 0)<|.step (.bin .neq 190 148)<|.ite 191
 (.ret [148,149])
 (.step (.ci .i64 1)<|.step (.bin .add 3 192)<|.tail 1 [0,1,2,193,113,114,115,116,8,81,82,83]))
 (.step (.ci .i64 1)<|.step (.bin .add 3 190)<|.tail 1 [0,1,2,191,113,114,115,116,8,81,82,83]))))
 (.step (.bin .neq 82 144)<|.ite 185
 (.ret [148,149])
 (.step (.bin .neq 76 148)<|.ite 186
 (.step (.call 21 [152,113] 0)<|.step (.bin .neq 187 148)<|.ite 188
 (.ret [148,149])
 (.step (.ci .i64 1)<|.step (.bin .add 3 189)<|.tail 1 [0,1,2,190,113,114,115,116,8,81,82,83]))
 (.step (.ci .i64 1)<|.step (.bin .add 3 187)<|.tail 1 [0,1,2,188,113,114,115,116,8,81,82,83])))))))))
 (.step (.call 82 [38] 0)<|.step (.cell 0 46)<|.step (.cell 1 46)<|.step (.cell 2 46)<|.step (.cell 3 46)<|.step (.cell 4 46)<|.step (.cell 5 46)<|.step (.cell 6 46)<|.step (.cell 7 46)<|
 .step (.cell 8 46)<|.step (.cell 9 46)<|.step (.cell 10 46)<|.step (.cell 11 46)<|.step (.cell 12 46)<|.step (.cell 13 46)<|.step (.cell 14 46)<|.step (.cell 15 46)<|.step (.cell 16 46)<|
 .step (.cell 17 46)<|.step (.cell 18 46)<|.step (.cell 19 46)<|.step (.cell 20 46)<|.step (.cell 21 46)<|.step (.cell 22 46)<|.step (.cell 23 46)<|.step (.call 20 [47,48,49,50,51,52,53,54,55,56,57,58,59,60,61,62,63,64,65,66,67,68,69,70,8,9,10,11] 0)<|
 .step (.call 20 [47,48,49,50,51,52,53,54,55,56,57,58,59,60,61,62,63,64,65,66,67,68,69,70,8,9,10,11] 1)<|.step (.call 20 [47,48,49,50,51,52,53,54,55,56,57,58,59,60,61,62,63,64,65,66,67,68,69,70,8,9,10,11] 2)<|
 .step (.call 20 [47,48,49,50,51,52,53,54,55,56,57,58,59,60,61,62,63,64,65,66,67,68,69,70,8,9,10,11] 3)<|.step (.call 20 [47,48,49,50,51,52,53,54,55,56,57,58,59,60,61,62,63,64,65,66,67,68,69,70,8,9,10,11] 4)<|
 .step (.call 20 [47,48,49,50,51,52,53,54,55,56,57,58,59,60,61,62,63,64,65,66,67,68,69,70,8,9,10,11] 5)<|.step (.call 20 [47,48,49,50,51,52,53,54,55,56,57,58,59,60,61,62,63,64,65,66,67,68,69,70,8,9,10,11] 6)<|
 .step (.call 20 [47,48,49,50,51,52,53,54,55,56,57,58,59,60,61,62,63,64,65,66,67,68,69,70,8,9,10,11] 7)<|.step (.call 20 [47,48,49,50,51,52,53,54,55,56,57,58,59,60,61,62,63,64,65,66,67,68,69,70,8,9,10,11] 8)<|
 .step (.mk [47,48,49,50,51,52,53,54,55,56,57,58,59,60,61,62,63,64,65,66,67,68,69,70])<|.step (.call 86 [80] 0)<|.step (.cell 0 81)<|.step (.cell 1 81)<|.step (.cell 2 81)<|
 .step (.cell 3 81)<|.step (.cell 4 81)<|.step (.cell 5 81)<|.step (.cell 6 81)<|.step (.cell 7 81)<|.step (.cell 8 81)<|.step (.cell 9 81)<|.step (.cell 10 81)<|.step (.cell 11 81)<|
 .step (.cell 12 81)<|.step (.cell 13 81)<|.step (.cell 14 81)<|.step (.cell 15 81)<|.step (.cell 16 81)<|.step (.cell 17 81)<|.step (.cell 18 81)<|.step (.cell 19 81)<|.step (.cell 20 81)<|
 .step (.cell 21 81)<|.step (.cell 22 81)<|.step (.cell 23 81)<|.step (.mk [4,5,6,7])<|.step (.mk [82,83,84,85,86,87,88,89,90,91,92,93,94,95,96,97,98,99,100,101,102,103,104,105])<|
 .step (.call 93 [106,107] 0)<|.step (.cell 0 108)<|.step (.cell 1 108)<|.step (.cell 2 108)<|.step (.cell 3 108)<|.step (.call 93 [106,107] 1)<|.step (.cell 0 113)<|.step (.cell 1 113)<|
 .step (.cell 2 113)<|.step (.cell 3 113)<|.step (.cell 4 113)<|.step (.cell 5 113)<|.step (.cell 6 113)<|.step (.cell 7 113)<|.step (.cell 8 113)<|.step (.cell 9 113)<|.step (.cell 10 113)<|
 .step (.cell 11 113)<|.step (.cell 12 113)<|.step (.cell 13 113)<|.step (.cell 14 113)<|.step (.cell 15 113)<|.step (.cell 16 113)<|.step (.cell 17 113)<|.step (.cell 18 113)<|.step (.cell 19 113)<|
 .step (.cell 20 113)<|.step (.cell 21 113)<|.step (.cell 22 113)<|.step (.cell 23 113)<|.step (.call 93 [106,107] 2)<|.step (.call 151 [8,77,78,79] 0)<|.step (.call 151 [8,77,78,79] 1)<|
 .step (.call 151 [8,77,78,79] 2)<|.step (.call 151 [8,77,78,79] 3)<|.step (.ci .u64 0)<|.step (.ci .i64 0)<|.step (.cb false)<|.step (.cs [])<|.step (.ml [])<|.step (.mk [72,143,143,143,143,143,143,143,143,143,73,143,143,143,74,75,144,145,146,146,146,147,147,147])<|
 .step (.call 86 [148] 0)<|.step (.cell 0 149)<|.step (.cell 1 149)<|.step (.cell 2 149)<|.step (.cell 3 149)<|.step (.cell 4 149)<|.step (.cell 5 149)<|.step (.cell 6 149)<|.step (.cell 7 149)<|
 .step (.cell 8 149)<|.step (.cell 9 149)<|.step (.cell 10 149)<|.step (.cell 11 149)<|.step (.cell 12 149)<|.step (.cell 13 149)<|.step (.cell 14 149)<|.step (.cell 15 149)<|.step (.cell 16 149)<|
 .step (.cell 17 149)<|.step (.cell 18 149)<|.step (.cell 19 149)<|.step (.cell 20 149)<|.step (.cell 21 149)<|.step (.cell 22 149)<|.step (.cell 23 149)<|.step (.mk [150,151,152,153,154,155,156,157,158,159,160,161,162,163,164,165,166,167,168,169,170,171,172,173])<|
 .step (.mk [114,115,116,117,118,119,120,121,122,123,124,125,126,127,128,129,130,131,132,133,134,135,136,137])<|.step (.call 152 [174,175] 0)<|.step (.un .not 176)<|
 .ite 177
 (.ret [144,145])
 (.step (.bin .neq 76 138)<|.ite 178
 (.ret [144,145])
 (.step (.oD .neq 142 112)<|.ite 179
 (.ret [144,145])
 (.ite 142
 (.step (.mk [140,141])<|.step (.call 160 [180] 0)<|.step (.cell 0 181)<|.step (.cell 1 181)<|.step (.mk [182,183])<|.step (.mk [110,111])<|.step (.call 161 [184,185] 0)<|.step (.un .not 186)<|
 .ite 187
 (.ret [144,145])
 (.step (.un .not 142)<|.ite 188
 (.step (.call 162 [143,140,141] 0)<|.step (.call 162 [143,140,141] 1)<|.step (.un .not 190)<|.ite 191
 (.ret [144,145])
 (.step (.bin .neq 78 140)<|.ite 192
 (.ret [144,145])
 (.step (.bin .neq 72 144)<|.ite 193
 (.step (.call 21 [148,109] 0)<|.step (.bin .neq 194 144)<|.ite 195
 (.ret [144,145])
 (.step (.ci .i64 1)<|.step (.bin .add 3 196)<|.tail 1 [0,1,2,197,109,110,111,112,8,77,78,79]))
 (.step (.ci .i64 1)<|.step (.bin .add 3 194)<|.tail 1 [0,1,2,195,109,110,111,112,8,77,78,79]))))
 (.step (.bin .neq 78 140)<|.ite 189
 (.ret [144,145])
 (.step (.bin .neq 72 144)<|.ite 190
 (.step (.call 21 [148,109] 0)<|.step (.bin .neq 191 144)<|.ite 192
 (.ret [144,145])
 (.step (.ci .i64 1)<|.step (.bin .add 3 193)<|.tail 1 [0,1,2,194,109,110,111,112,8,77,78,79]))
 (.step (.ci .i64 1)<|.step (.bin .add 3 191)<|.tail 1 [0,1,2,192,109,110,111,112,8,77,78,79])))))
 (.step (.un .not 142)<|.ite 180
 (.step (.call 162 [143,140,141] 0)<|.step (.call 162 [143,140,141] 1)<|.step (.un .not 182)<|.ite 183
 (.ret [144,145])
 (.step (.bin .neq 78 140)<|.ite 184
 (.ret [144,145])
 (.step (.bin .neq 72 144)<|.ite 185
 (.step (.call 21 [148,109] 0)<|.step (.bin .neq 186 144)<|.ite 187
 (.ret [144,145])
 (.step (.ci .i64 1)<|.step (.bin .add 3 188)<|.tail 1 [0,1,2,189,109,110,111,112,8,77,78,79]))
 (.step (.ci .i64 1)<|.step (.bin .add 3 186)<|.tail 1 [0,1,2,187,109,110,111,112,8,77,78,79]))))
 (.step (.bin .neq 78 140)<|.ite 181
 (.ret [144,145])
 (.step (.bin .neq 72 144)<|.ite 182
 (.step (.call 21 [148,109] 0)<|.step (.bin .neq 183 144)<|.ite 184
 (.ret [144,145])
 (.step (.ci .i64 1)<|.step (.bin .add 3 185)<|.tail 1 [0,1,2,186,109,110,111,112,8,77,78,79]))
 (.step (.ci .i64 1)<|.step (.bin .add 3 183)<|.tail 1 [0,1,2,184,109,110,111,112,8,77,78,79])))))))))))
 (.step (.ci .i64 1)<|.ret [13])
def XO:aA:=.tree 2<|.step (.ci .i64 8)<|.step (.bin .leq 1 2)<|.ite 3
 (.step (.call 96 [1] 0)<|.step (.len 4)<|.step (.ci .i64 0)<|.step (.call 105 [0,1,4,5,6] 0)<|.step (.bin .eql 7 6)<|.ite 8
 (.step (.call 105 [0,1,4,5,6] 1)<|.ret [6,9])
 (.step (.ci .i64 1)<|.step (.bin .add 1 9)<|.tail 104 [0,10]))
 (.step (.ci .i64 1)<|.ret [4])
def YC:aA:=.tree 4<|.step (.bin .lss 3 2)<|.ite 4
 (.step (.at 2 1 3)<|.step (.cell 0 5)<|.step (.cell 1 5)<|.step (.ci .i64 0)<|.step (.call 150 [0,8,1,2,3,6,7] 0)<|.step (.bin .eql 9 8)<|.ite 10
 (.step (.call 150 [0,8,1,2,3,6,7] 1)<|.step (.call 150 [0,8,1,2,3,6,7] 2)<|.step (.call 150 [0,8,1,2,3,6,7] 3)<|.step (.call 150 [0,8,1,2,3,6,7] 4)<|.step (.call 150 [0,8,1,2,3,6,7] 5)<|
 .step (.len 0)<|.step (.bin .lss 11 16)<|.ite 17
 (.step (.at 2 0 11)<|.step (.cell 0 18)<|.step (.call 108 [19] 0)<|.step (.call 108 [6] 0)<|.step (.bin .eql 20 21)<|.ite 22
 (.ret [8])
 (.step (.iG 2 0 8 11)<|.step (.ml [])<|.step (.app 2 32 24 23)<|.step (.mk [6,7])<|.step (.ml [26])<|.step (.app 2 32 25 27)<|.step (.iG 2 0 11 16)<|.step (.app 2 32 28 29)<|
 .step (.ci .i64 1)<|.step (.bin .add 3 31)<|.tail 149 [30,1,2,32]))
 (.step (.iG 2 0 8 11)<|.step (.ml [])<|.step (.app 2 32 19 18)<|.step (.mk [6,7])<|.step (.ml [21])<|.step (.app 2 32 20 22)<|.step (.iG 2 0 11 16)<|.step (.app 2 32 23 24)<|
 .step (.ci .i64 1)<|.step (.bin .add 3 26)<|.tail 149 [25,1,2,27]))
 (.step (.call 150 [0,8,1,2,3,6,7] 1)<|.step (.len 0)<|.step (.bin .lss 11 12)<|.ite 13
 (.step (.at 2 0 11)<|.step (.cell 0 14)<|.step (.call 108 [15] 0)<|.step (.call 108 [6] 0)<|.step (.bin .eql 16 17)<|.ite 18
 (.ret [8])
 (.step (.iG 2 0 8 11)<|.step (.ml [])<|.step (.app 2 32 20 19)<|.step (.mk [6,7])<|.step (.ml [22])<|.step (.app 2 32 21 23)<|.step (.iG 2 0 11 12)<|.step (.app 2 32 24 25)<|
 .step (.ci .i64 1)<|.step (.bin .add 3 27)<|.tail 149 [26,1,2,28]))
 (.step (.iG 2 0 8 11)<|.step (.ml [])<|.step (.app 2 32 15 14)<|.step (.mk [6,7])<|.step (.ml [17])<|.step (.app 2 32 16 18)<|.step (.iG 2 0 11 12)<|.step (.app 2 32 19 20)<|
 .step (.ci .i64 1)<|.step (.bin .add 3 22)<|.tail 149 [21,1,2,23])))
 (.step (.ci .i64 1)<|.ret [5,0])
def Yg:aA:=.tree 3<|.step (.slen 0)<|.step (.bin .lss 2 3)<|.ite 4
 (.step (.slen 1)<|.step (.bin .lss 2 5)<|.ite 6
 (.step (.sD 0 2)<|.step (.sD 1 2)<|.step (.bin .neq 7 8)<|.ite 9
 (.step (.bin .lss 7 8)<|.step (.ci .i64 0)<|.ret [11,10])
 (.step (.ci .i64 1)<|.step (.bin .add 2 10)<|.tail 128 [0,1,11]))
 (.step (.ci .i64 1)<|.ret [7]))
 (.step (.ci .i64 1)<|.ret [5])
def ZT:aA:=.tree 4<|.step (.bin .lss 3 2)<|.ite 4
 (.step (.at 5 1 3)<|.step (.cell 0 5)<|.step (.cell 1 5)<|.step (.cell 2 5)<|.step (.cell 3 5)<|.step (.cell 4 5)<|.step (.len 0)<|.step (.ci .i64 0)<|.step (.call 73 [0,1,2,3,11,12,6,7,8,9,10] 0)<|
 .step (.bin .eql 13 12)<|.ite 14
 (.ret [12])
 (.step (.ci .i64 1)<|.step (.bin .add 3 15)<|.tail 72 [0,1,2,16]))
 (.step (.ci .i64 1)<|.ret [5])
def Zw:aA:=.tree 4<|.step (.bin .lss 3 2)<|.ite 4
 (.step (.at 2 1 3)<|.step (.cell 0 5)<|.step (.cell 1 5)<|.step (.mk [6,7])<|.step (.call 52 [8] 0)<|.step (.ci .i64 0)<|.step (.bin .neq 9 10)<|.ite 11
 (.ret [10,9])
 (.step (.call 7 [6] 0)<|.step (.bin .gtr 3 10)<|.ite 13
 (.step (.bin .eql 12 0)<|.ite 14
 (.step (.ci .i64 14)<|.ret [10,15])
 (.step (.bin .lss 12 0)<|.ite 15
 (.step (.ci .i64 7)<|.ret [10,16])
 (.step (.ci .i64 1)<|.step (.bin .add 3 16)<|.tail 51 [12,1,2,17])))
 (.step (.ci .i64 1)<|.step (.bin .add 3 14)<|.tail 51 [12,1,2,15])))
 (.step (.ci .i64 1)<|.ret [5])
def YE:aA:=.tree 7<|.step (.len 0)<|.step (.bin .lss 1 7)<|.ite 8
 (.step (.at 2 0 1)<|.step (.cell 0 9)<|.step (.call 108 [10] 0)<|.step (.call 108 [5] 0)<|.step (.call 129 [11,12] 0)<|.ite 13
 (.step (.ci .i64 1)<|.step (.bin .add 1 14)<|.tail 150 [0,15,2,3,4,5,6])
 (.step (.ci .i64 0)<|.ret [14,1,9,10,11,12]))
 (.step (.ci .i64 1)<|.ret [9,1])
def YK:aA:=.tree 11<|.step (.bin .lss 10 6)<|.ite 11
 (.step (.at 2 0 2)<|.step (.cell 0 12)<|.step (.at 2 13 10)<|.step (.cell 0 14)<|.step (.cell 1 14)<|.step (.at 2 1 2)<|.step (.cell 0 17)<|.step (.at 2 18 10)<|.step (.cell 0 19)<|
 .step (.cell 1 19)<|.step (.mk [15,16])<|.step (.mk [20,21])<|.step (.sW .neq [1,1] 22 23)<|.ite 24
 (.step (.ci .i64 0)<|.ret [25])
 (.step (.ci .i64 1)<|.step (.bin .add 10 25)<|.tail 156 [0,1,2,3,4,5,6,7,8,9,26]))
 (.step (.ci .i64 1)<|.ret [12])
def Ya:aA:=.tree 1<|.step (.slen 0)<|.step (.ci .i64 0)<|.step (.bin .gtr 1 2)<|.ite 3
 (.step (.call 123 [0] 0)<|.step (.bin .eql 4 2)<|.ite 5
 (.ret [2])
 (.step (.zZ 0 4 1)<|.tail 122 [6]))
 (.step (.ci .i64 1)<|.ret [4])
def Yp:aA:=.tree 4<|.step (.bin .lss 3 2)<|.ite 4
 (.step (.at 5 1 3)<|.step (.cell 0 5)<|.step (.cell 1 5)<|.step (.cell 2 5)<|.step (.cell 3 5)<|.step (.cell 4 5)<|.step (.len 0)<|.step (.ci .i64 0)<|.step (.call 139 [0,1,2,3,11,12,6,7,8,9,10] 0)<|
 .step (.bin .eql 13 12)<|.ite 14
 (.ret [12])
 (.step (.ci .i64 1)<|.step (.bin .add 3 15)<|.tail 138 [0,1,2,16]))
 (.step (.ci .i64 1)<|.ret [5])
def XP:aA:=.tree 5<|.step (.bin .lss 4 3)<|.ite 5
 (.step (.at 4 2 4)<|.step (.cell 0 6)<|.step (.cell 1 6)<|.step (.cell 2 6)<|.step (.cell 3 6)<|.step (.bin .eql 10 0)<|.ite 11
 (.step (.ci .i64 0)<|.ret [12,8])
 (.step (.ci .i64 1)<|.step (.bin .add 4 12)<|.tail 105 [0,1,2,3,13]))
 (.step (.ci .i64 1)<|.ret [6])
def d99:aA:=.tree 28<|.step (.bin .lss 3 2)<|.ite 28
 (.step (.at 1 1 3)<|.step (.cell 0 29)<|.step (.len 0)<|.step (.cb false)<|.step (.ci .i64 0)<|.step (.call 100 [0,30,32,1,2,3,31,33,4,5,6,7,8,9,10,11,12,13,14,15,16,17,18,19,20,21,22,23,24,25,26,27] 0)<|
 .step (.call 100 [0,30,32,1,2,3,31,33,4,5,6,7,8,9,10,11,12,13,14,15,16,17,18,19,20,21,22,23,24,25,26,27] 1)<|.step (.un .not 35)<|.ite 36
 (.step (.mk [4,5,6,7,8,9,10,11,12,13,14,15,16,17,18,19,20,21,22,23,24,25,26,27])<|.step (.call 101 [37,30] 0)<|.step (.un .not 38)<|.ite 39
 (.ret [33])
 (.step (.ci .i64 1)<|.step (.bin .add 3 40)<|.tail 99 [0,1,2,41,4,5,6,7,8,9,10,11,12,13,14,15,16,17,18,19,20,21,22,23,24,25,26,27]))
 (.step (.ci .i64 1)<|.step (.bin .add 3 37)<|.tail 99 [0,1,2,38,4,5,6,7,8,9,10,11,12,13,14,15,16,17,18,19,20,21,22,23,24,25,26,27]))
 (.step (.ci .i64 1)<|.ret [29])
def YX:aA:=.tree 4<|.step (.bin .lss 3 2)<|.ite 4
 (.step (.at 2 0 3)<|.step (.cell 0 5)<|.step (.cell 1 5)<|.step (.at 2 1 3)<|.step (.cell 0 8)<|.step (.cell 1 8)<|.step (.mk [6,7])<|.step (.mk [9,10])<|.step (.sW .neq [1,1] 11 12)<|
 .ite 13
 (.step (.ci .i64 0)<|.ret [14])
 (.step (.ci .i64 1)<|.step (.bin .add 3 14)<|.tail 168 [0,1,2,15]))
 (.step (.ci .i64 1)<|.ret [5])
def Z4:aA:=.tree 3<|.step (.len 0)<|.step (.ci .i64 0)<|.step (.bin .gtr 3 4)<|.ite 5
 (.step (.len 1)<|.step (.bin .eql 6 4)<|.ite 7
 (.step (.at 2 0 4)<|.step (.cell 0 8)<|.step (.cell 1 8)<|.step (.call 19 [9] 0)<|.step (.mk [11,10])<|.step (.ml [12])<|.step (.app 2 32 2 13)<|.step (.ci .i64 1)<|.step (.iG 2 0 15 3)<|
 .tail 78 [16,1,14])
 (.step (.bin .eql 3 4)<|.ite 8
 (.step (.at 2 1 4)<|.step (.cell 0 9)<|.step (.cell 1 9)<|.step (.call 19 [10] 0)<|.step (.mk [12,11])<|.step (.ml [13])<|.step (.app 2 32 2 14)<|.step (.ci .i64 1)<|.step (.iG 2 1 16 6)<|
 .tail 78 [0,17,15])
 (.step (.at 2 0 4)<|.step (.cell 0 9)<|.step (.at 2 1 4)<|.step (.cell 0 11)<|.step (.call 79 [10,12] 0)<|.step (.bin .lss 13 4)<|.ite 14
 (.step (.cell 1 9)<|.step (.call 19 [10] 0)<|.step (.mk [16,15])<|.step (.ml [17])<|.step (.app 2 32 2 18)<|.step (.ci .i64 1)<|.step (.iG 2 0 20 3)<|.tail 78 [21,1,19])
 (.step (.bin .gtr 13 4)<|.ite 15
 (.step (.cell 1 11)<|.step (.call 19 [12] 0)<|.step (.mk [17,16])<|.step (.ml [18])<|.step (.app 2 32 2 19)<|.step (.ci .i64 1)<|.step (.iG 2 1 21 6)<|.tail 78 [0,22,20])
 (.step (.cell 1 9)<|.step (.cell 1 11)<|.step (.ci .u64 0)<|.step (.call 81 [16,17,18] 0)<|.step (.call 81 [16,17,18] 1)<|.step (.bin .neq 20 18)<|.ite 21
 (.ret [4])
 (.step (.call 19 [10] 0)<|.step (.mk [22,19])<|.step (.ml [23])<|.step (.app 2 32 2 24)<|.step (.ci .i64 1)<|.step (.iG 2 0 26 3)<|.step (.iG 2 1 26 6)<|.tail 78 [27,28,25]))))))
 (.step (.len 1)<|.step (.bin .gtr 6 4)<|.ite 7
 (.step (.bin .eql 6 4)<|.ite 8
 (.step (.at 2 0 4)<|.step (.cell 0 9)<|.step (.cell 1 9)<|.step (.call 19 [10] 0)<|.step (.mk [12,11])<|.step (.ml [13])<|.step (.app 2 32 2 14)<|.step (.ci .i64 1)<|.step (.iG 2 0 16 3)<|
 .tail 78 [17,1,15])
 (.step (.bin .eql 3 4)<|.ite 9
 (.step (.at 2 1 4)<|.step (.cell 0 10)<|.step (.cell 1 10)<|.step (.call 19 [11] 0)<|.step (.mk [13,12])<|.step (.ml [14])<|.step (.app 2 32 2 15)<|.step (.ci .i64 1)<|.step (.iG 2 1 17 6)<|
 .tail 78 [0,18,16])
 (.step (.at 2 0 4)<|.step (.cell 0 10)<|.step (.at 2 1 4)<|.step (.cell 0 12)<|.step (.call 79 [11,13] 0)<|.step (.bin .lss 14 4)<|.ite 15
 (.step (.cell 1 10)<|.step (.call 19 [11] 0)<|.step (.mk [17,16])<|.step (.ml [18])<|.step (.app 2 32 2 19)<|.step (.ci .i64 1)<|.step (.iG 2 0 21 3)<|.tail 78 [22,1,20])
 (.step (.bin .gtr 14 4)<|.ite 16
 (.step (.cell 1 12)<|.step (.call 19 [13] 0)<|.step (.mk [18,17])<|.step (.ml [19])<|.step (.app 2 32 2 20)<|.step (.ci .i64 1)<|.step (.iG 2 1 22 6)<|.tail 78 [0,23,21])
 (.step (.cell 1 10)<|.step (.cell 1 12)<|.step (.ci .u64 0)<|.step (.call 81 [17,18,19] 0)<|.step (.call 81 [17,18,19] 1)<|.step (.bin .neq 21 19)<|.ite 22
 (.ret [4])
 (.step (.call 19 [11] 0)<|.step (.mk [23,20])<|.step (.ml [24])<|.step (.app 2 32 2 25)<|.step (.ci .i64 1)<|.step (.iG 2 0 27 3)<|.step (.iG 2 1 27 6)<|.tail 78 [28,29,26]))))))
 (.step (.ci .i64 1)<|.ret [8,2]))
def ZU:aA:=.tree 11<|.step (.bin .lss 5 4)<|.ite 11
 (.step (.at 4 0 5)<|.step (.cell 0 12)<|.step (.cell 1 12)<|.step (.cell 2 12)<|.step (.cell 3 12)<|.step (.bin .eql 6 13)<|.ite 17
 (.step (.ci .i64 0)<|.ret [18])
 (.step (.ci .i64 1)<|.step (.bin .add 5 18)<|.tail 73 [0,1,2,3,4,19,6,7,8,9,10]))
 (.step (.ci .i64 1)<|.ret [12])
def Yy:aA:=.tree 4<|.step (.bin .lss 3 2)<|.ite 4
 (.step (.at 2 1 3)<|.step (.cell 0 5)<|.step (.cell 1 5)<|.step (.call 108 [6] 0)<|.step (.call 108 [0] 0)<|.step (.bin .eql 8 9)<|.ite 10
 (.step (.ci .i64 0)<|.ret [11,7])
 (.step (.ci .i64 1)<|.step (.bin .add 3 11)<|.tail 145 [0,1,2,12]))
 (.step (.ci .i64 1)<|.ret [5])
def YD:aA:=.tree 3<|.step (.bin .lss 2 1)<|.ite 3
 (.step (.at 5 0 2)<|.step (.cell 0 4)<|.step (.cell 1 4)<|.step (.cell 2 4)<|.step (.cell 3 4)<|.step (.cell 4 4)<|.step (.slen 9)<|.step (.ci .i64 300)<|.step (.bin .gtr 10 11)<|
 .ite 12
 (.step (.ci .i64 0)<|.ret [13])
 (.step (.ci .i64 1)<|.step (.bin .add 2 13)<|.tail 15 [0,1,14]))
 (.step (.ci .i64 1)<|.ret [4])
def Yj:aA:=.tree 4<|.step (.bin .lss 3 2)<|.ite 4
 (.step (.at 2 0 3)<|.step (.cell 0 5)<|.step (.cell 1 5)<|.step (.ci .i64 0)<|.step (.bin .gtr 3 8)<|.ite 9
 (.step (.ci .i64 1)<|.step (.bin .sub 3 10)<|.step (.at 2 0 11)<|.step (.cell 0 12)<|.step (.call 108 [13] 0)<|.step (.call 108 [6] 0)<|.step (.call 132 [14,15] 0)<|.step (.bin .add 1 16)<|
 .step (.call 109 [7] 0)<|.step (.bin .add 17 18)<|.step (.bin .add 3 10)<|.tail 131 [0,19,2,20])
 (.step (.call 108 [6] 0)<|.step (.cs [])<|.step (.call 132 [11,10] 0)<|.step (.bin .add 1 12)<|.step (.call 109 [7] 0)<|.step (.bin .add 13 14)<|.step (.ci .i64 1)<|.step (.bin .add 3 16)<|
 .tail 131 [0,15,2,17]))
 (.step (.ci .i64 0)<|.ret [5,1])
def Zf:aA:=.tree 28<|.step (.bin .lss 2 1)<|.ite 28
 (.step (.at 4 0 2)<|.step (.cell 0 29)<|.step (.cell 1 29)<|.step (.cell 2 29)<|.step (.cell 3 29)<|.step (.cs [])<|.step (.bin .eql 33 34)<|.step (.cb true)<|.step (.xK 3 33 36)<|
 .step (.ci .i64 1)<|.step (.bin .add 2 38)<|.tail 33 [0,1,39,37,4,5,6,7,8,9,10,11,12,13,14,15,16,17,18,19,20,21,22,23,24,25,26,27])
 (.step (.ci .i64 0)<|.ret [29,3])
def Zr:aA:=.tree 3<|.step (.bin .lss 2 1)<|.ite 3
 (.step (.at 2 0 2)<|.step (.cell 0 4)<|.step (.cell 1 4)<|.step (.mk [5,6])<|.step (.call 48 [7] 0)<|.step (.ci .i64 0)<|.step (.bin .neq 8 9)<|.ite 10
 (.ret [9,8])
 (.step (.bin .eql 2 9)<|.ite 11
 (.step (.ci .i64 1)<|.step (.bin .add 2 12)<|.tail 47 [0,1,13])
 (.step (.ci .i64 1)<|.step (.bin .sub 2 12)<|.step (.at 2 0 13)<|.step (.cell 0 14)<|.step (.bin .eql 5 15)<|.ite 16
 (.step (.ci .i64 14)<|.ret [9,17])
 (.step (.bin .lss 5 15)<|.ite 17
 (.step (.ci .i64 7)<|.ret [9,18])
 (.step (.bin .add 2 12)<|.tail 47 [0,1,18])))))
 (.step (.ci .i64 1)<|.ret [4])
def X3:aA:=.tree 3<|.step (.bin .lss 2 1)<|.ite 3
 (.step (.at 2 0 2)<|.step (.cell 0 4)<|.step (.cell 1 4)<|.step (.mk [5,6])<|.step (.call 116 [7] 0)<|.step (.ci .i64 0)<|.step (.bin .eql 8 9)<|.ite 10
 (.step (.bin .gtr 2 9)<|.ite 11
 (.step (.ci .i64 1)<|.step (.bin .sub 2 12)<|.step (.at 2 0 13)<|.step (.cell 0 14)<|.step (.call 108 [15] 0)<|.step (.call 108 [5] 0)<|.step (.bin .eql 16 17)<|.ite 18
 (.step (.ci .i64 14)<|.ret [9,19])
 (.step (.call 129 [16,17] 0)<|.step (.un .not 19)<|.ite 20
 (.step (.ci .i64 7)<|.ret [9,21])
 (.step (.bin .neq 8 9)<|.step (.bin .add 2 12)<|.tail 115 [0,1,22])))
 (.step (.bin .neq 8 9)<|.step (.ci .i64 1)<|.step (.bin .add 2 13)<|.tail 115 [0,1,14]))
 (.step (.bin .neq 8 9)<|.ret [9,8]))
 (.step (.ci .i64 1)<|.ret [4])
def Y0:aA:=.tree 5<|.step (.bin .lss 2 1)<|.ite 5
 (.step (.at 2 0 2)<|.step (.cell 0 6)<|.step (.cell 1 6)<|.step (.call 19 [7] 0)<|.step (.mk [9,8])<|.step (.ml [10])<|.step (.app 2 32 4 11)<|.step (.ci .i64 1)<|.step (.bin .add 2 13)<|
 .tail 18 [0,1,14,3,12])
 (.step (.ci .i64 0)<|.ret [6,4])
def YJ:aA:=.tree 4<|.step (.bin .lss 3 2)<|.ite 4
 (.step (.at 2 0 3)<|.step (.cell 1 5)<|.step (.at 2 1 3)<|.step (.cell 1 7)<|.step (.bin .neq 6 8)<|.ite 9
 (.step (.ci .i64 0)<|.ret [10])
 (.step (.cell 0 5)<|.step (.len 10)<|.step (.cell 0 7)<|.step (.len 12)<|.step (.bin .neq 11 13)<|.ite 14
 (.step (.ci .i64 0)<|.ret [15])
 (.step (.ci .i64 0)<|.step (.call 156 [0,1,3,2,5,10,11,7,12,13,15] 0)<|.step (.bin .eql 16 15)<|.ite 17
 (.ret [15])
 (.step (.ci .i64 1)<|.step (.bin .add 3 18)<|.tail 155 [0,1,2,19]))))
 (.step (.ci .i64 1)<|.ret [5])
def XV:aA:=.tree 2<|.step (.ci .u64 127)<|.step (.bin .gtr 0 2)<|.ite 3
 (.step (.ci .u64 128)<|.step (.bin .rem 0 4)<|.step (.bin .add 5 4)<|.step (.conv .u8 6)<|.step (.ml [7])<|.step (.str 8)<|.step (.bin .add 1 9)<|.step (.bin .quo 0 4)<|.tail 110 [11,10])
 (.step (.ci .i64 0)<|.ret [4,0,1])
def XW:aA:=.tree 4<|.step (.bin .lss 3 2)<|.ite 4
 (.step (.at 2 1 3)<|.step (.cell 0 5)<|.step (.cell 1 5)<|.step (.mk [6,7])<|.step (.call 112 [8] 0)<|.step (.bin .add 0 9)<|.step (.ci .i64 1)<|.step (.bin .add 3 11)<|.tail 111 [10,1,2,12])
 (.step (.ci .i64 0)<|.ret [5,0])
def d11:aA:=.tree 4<|.step (.bin .lss 3 2)<|.ite 4
 (.step (.ci .u64 127)<|.step (.bin .and 0 5)<|.step (.conv .u8 6)<|.step (.ci .u8 128)<|.step (.bin .or 7 8)<|.step (.idx 1 3)<|.step (.upd 1 0 1 10 [9])<|.step (.ci .u64 7)<|.step (.bin .shr 0 12)<|
 .step (.ci .i64 1)<|.step (.bin .add 3 14)<|.tail 11 [13,11,2,15])
 (.step (.ci .i64 0)<|.ret [5,1])
def YM:aA:=.tree 4<|.step (.bin .lss 3 2)<|.ite 4
 (.step (.at 5 0 3)<|.step (.cell 0 5)<|.step (.at 5 1 3)<|.step (.cell 0 7)<|.step (.bin .neq 6 8)<|.ite 9
 (.step (.ci .i64 0)<|.ret [10])
 (.step (.cell 1 5)<|.step (.cell 1 7)<|.step (.bin .neq 10 11)<|.ite 12
 (.step (.ci .i64 0)<|.ret [13])
 (.step (.cell 2 5)<|.step (.cell 2 7)<|.step (.bin .neq 13 14)<|.ite 15
 (.step (.ci .i64 0)<|.ret [16])
 (.step (.cell 3 5)<|.step (.cell 3 7)<|.step (.bin .neq 16 17)<|.ite 18
 (.step (.ci .i64 0)<|.ret [19])
 (.step (.cell 4 5)<|.step (.cell 4 7)<|.step (.call 157 [19,20] 0)<|.step (.un .not 21)<|.ite 22
 (.step (.ci .i64 0)<|.ret [23])
 (.step (.ci .i64 1)<|.step (.bin .add 3 23)<|.tail 158 [0,1,2,24]))))))
 (.step (.ci .i64 1)<|.ret [5])
def Yw:aA:=.tree 5<|.step (.bin .lss 4 3)<|.ite 5
 (.step (.at 2 0 4)<|.step (.cell 0 6)<|.step (.cell 1 6)<|.step (.call 144 [1,7] 0)<|.step (.ci .u64 18446744073709551615)<|.step (.bin .sub 10 9)<|.step (.bin .gtr 8 11)<|.ite 12
 (.step (.ci .i64 0)<|.ret [13])
 (.step (.bin .add 8 9)<|.step (.mk [7,13])<|.step (.ml [14])<|.step (.app 2 32 2 15)<|.step (.ci .i64 1)<|.step (.bin .add 4 17)<|.tail 143 [0,1,16,3,18]))
 (.step (.ci .i64 1)<|.ret [6,2])
def X6:aA:=.tree 3<|.step (.len 0)<|.step (.bin .lss 2 3)<|.ite 4
 (.step (.ci .i64 0)<|.step (.bin .eql 1 5)<|.ite 6
 (.step (.at 2 0 2)<|.step (.cell 0 7)<|.step (.cell 1 7)<|.step (.mk [8,9])<|.step (.call 119 [10] 0)<|.step (.bin .eql 11 5)<|.ite 12
 (.step (.bin .gtr 2 5)<|.ite 13
 (.step (.ci .i64 1)<|.step (.bin .sub 2 14)<|.step (.at 2 0 15)<|.step (.cell 0 16)<|.step (.cell 1 16)<|.step (.mk [17,18])<|.step (.call 125 [19,10] 0)<|.step (.bin .add 2 14)<|
 .tail 118 [0,20,21])
 (.step (.ci .i64 1)<|.step (.bin .add 2 14)<|.tail 118 [0,11,15]))
 (.step (.ci .i64 1)<|.step (.bin .add 2 13)<|.tail 118 [0,11,14]))
 (.ret [5,1]))
 (.step (.ci .i64 0)<|.ret [5,1])
def d10:aA:=.tree 2<|.step (.ci .u64 128)<|.step (.bin .geq 0 2)<|.ite 3
 (.step (.ci .u64 7)<|.step (.bin .shr 0 4)<|.step (.ci .i64 1)<|.step (.bin .add 1 6)<|.tail 10 [5,7])
 (.step (.ci .i64 0)<|.ret [4,1])
def YU:aA:=.tree 4<|.step (.bin .lss 3 2)<|.ite 4
 (.step (.at 2 1 3)<|.step (.cell 0 5)<|.step (.cell 1 5)<|.step (.at 2 0 3)<|.step (.cell 0 8)<|.step (.cell 1 8)<|.step (.mk [6,7])<|.step (.mk [9,10])<|.step (.call 166 [11,12] 0)<|
 .step (.un .not 13)<|.ite 14
 (.step (.ci .i64 0)<|.ret [15])
 (.step (.ci .i64 1)<|.step (.bin .add 3 15)<|.tail 165 [0,1,2,16]))
 (.step (.ci .i64 1)<|.ret [5])
def d97:aA:=.tree 5<|.step (.bin .lss 4 3)<|.ite 5
 (.step (.at 4 2 4)<|.step (.cell 0 6)<|.step (.cell 1 6)<|.step (.cell 2 6)<|.step (.cell 3 6)<|.step (.ci .i64 3)<|.step (.bin .leq 0 11)<|.ite 12
 (.step (.bin .leq 9 0)<|.ite 13
 (.step (.mk [7,8,9,10])<|.step (.ml [14])<|.step (.app 4 40 1 15)<|.step (.ci .i64 1)<|.step (.bin .add 4 17)<|.tail 97 [0,16,2,3,18])
 (.step (.ci .i64 1)<|.step (.bin .add 4 14)<|.tail 97 [0,1,2,3,15]))
 (.step (.ci .i64 1)<|.step (.bin .add 4 13)<|.tail 97 [0,1,2,3,14]))
 (.step (.ci .i64 0)<|.ret [6,1])
def HY:aA:=.tree 29<|.step (.bin .lss 3 2)<|.ite 29
 (.step (.at 1 1 3)<|.step (.cell 0 30)<|.step (.cs [])<|.step (.bin .eql 31 32)<|.step (.cb false)<|.step (.BN 34 4 31)<|.step (.cell 0 35)<|.step (.un .not 36)<|.ite 37
 (.step (.cs [114,101,109,97,105,110,105,110,103])<|.step (.bin .eql 31 38)<|.ite 39
 (.step (.ci .i64 0)<|.step (.bin .eql 21 40)<|.step (.un .not 41)<|.ite 42
 (.ret [40])
 (.step (.ci .i64 1)<|.step (.bin .add 3 43)<|.tail 35 [0,1,2,44,4,5,6,7,8,9,10,11,12,13,14,15,16,17,18,19,20,21,22,23,24,25,26,27,28]))
 (.step (.cs [97,108,108,111,119,101,100])<|.step (.bin .eql 31 40)<|.ite 41
 (.step (.un .not 22)<|.step (.un .not 42)<|.ite 43
 (.step (.ci .i64 0)<|.ret [44])
 (.step (.ci .i64 1)<|.step (.bin .add 3 44)<|.tail 35 [0,1,2,45,4,5,6,7,8,9,10,11,12,13,14,15,16,17,18,19,20,21,22,23,24,25,26,27,28]))
 (.step (.cs [110,97,109,101])<|.step (.bin .eql 31 42)<|.ite 43
 (.step (.bin .eql 23 32)<|.step (.un .not 44)<|.ite 45
 (.step (.ci .i64 0)<|.ret [46])
 (.step (.ci .i64 1)<|.step (.bin .add 3 46)<|.tail 35 [0,1,2,47,4,5,6,7,8,9,10,11,12,13,14,15,16,17,18,19,20,21,22,23,24,25,26,27,28]))
 (.step (.cs [114,101,103,105,111,110])<|.step (.bin .eql 31 44)<|.ite 45
 (.step (.bin .eql 24 32)<|.step (.un .not 46)<|.ite 47
 (.step (.ci .i64 0)<|.ret [48])
 (.step (.ci .i64 1)<|.step (.bin .add 3 48)<|.tail 35 [0,1,2,49,4,5,6,7,8,9,10,11,12,13,14,15,16,17,18,19,20,21,22,23,24,25,26,27,28]))
 (.step (.cs [110,111,116,101])<|.step (.bin .eql 31 46)<|.ite 47
 (.step (.bin .eql 25 32)<|.step (.un .not 48)<|.ite 49
 (.step (.ci .i64 0)<|.ret [50])
 (.step (.ci .i64 1)<|.step (.bin .add 3 50)<|.tail 35 [0,1,2,51,4,5,6,7,8,9,10,11,12,13,14,15,16,17,18,19,20,21,22,23,24,25,26,27,28]))
 (.step (.cs [100,101,115,99,114])<|.step (.bin .eql 31 48)<|.ite 49
 (.step (.len 26)<|.step (.ci .i64 0)<|.step (.bin .eql 50 51)<|.step (.un .not 52)<|.ite 53
 (.ret [51])
 (.step (.ci .i64 1)<|.step (.bin .add 3 54)<|.tail 35 [0,1,2,55,4,5,6,7,8,9,10,11,12,13,14,15,16,17,18,19,20,21,22,23,24,25,26,27,28]))
 (.step (.cs [116,97,98,108,101])<|.step (.bin .eql 31 50)<|.ite 51
 (.step (.len 27)<|.step (.ci .i64 0)<|.step (.bin .eql 52 53)<|.step (.un .not 54)<|.ite 55
 (.ret [53])
 (.step (.ci .i64 1)<|.step (.bin .add 3 56)<|.tail 35 [0,1,2,57,4,5,6,7,8,9,10,11,12,13,14,15,16,17,18,19,20,21,22,23,24,25,26,27,28]))
 (.step (.cs [105,100])<|.step (.bin .eql 31 52)<|.ite 53
 (.step (.ci .u64 0)<|.step (.bin .eql 6 54)<|.step (.un .not 55)<|.ite 56
 (.step (.ci .i64 0)<|.ret [57])
 (.step (.ci .i64 1)<|.step (.bin .add 3 57)<|.tail 35 [0,1,2,58,4,5,6,7,8,9,10,11,12,13,14,15,16,17,18,19,20,21,22,23,24,25,26,27,28]))
 (.step (.cs [109,105,110])<|.step (.bin .eql 31 54)<|.ite 55
 (.step (.ci .u64 0)<|.step (.bin .eql 7 56)<|.step (.un .not 57)<|.ite 58
 (.step (.ci .i64 0)<|.ret [59])
 (.step (.ci .i64 1)<|.step (.bin .add 3 59)<|.tail 35 [0,1,2,60,4,5,6,7,8,9,10,11,12,13,14,15,16,17,18,19,20,21,22,23,24,25,26,27,28]))
 (.step (.cs [109,97,120])<|.step (.bin .eql 31 56)<|.ite 57
 (.step (.ci .u64 0)<|.step (.bin .eql 8 58)<|.step (.un .not 59)<|.ite 60
 (.step (.ci .i64 0)<|.ret [61])
 (.step (.ci .i64 1)<|.step (.bin .add 3 61)<|.tail 35 [0,1,2,62,4,5,6,7,8,9,10,11,12,13,14,15,16,17,18,19,20,21,22,23,24,25,26,27,28]))
 (.step (.cs [99,104,111,115,101,110])<|.step (.bin .eql 31 58)<|.ite 59
 (.step (.ci .u64 0)<|.step (.bin .eql 9 60)<|.step (.un .not 61)<|.ite 62
 (.step (.ci .i64 0)<|.ret [63])
 (.step (.ci .i64 1)<|.step (.bin .add 3 63)<|.tail 35 [0,1,2,64,4,5,6,7,8,9,10,11,12,13,14,15,16,17,18,19,20,21,22,23,24,25,26,27,28]))
 (.step (.cs [102,108,97,103,115])<|.step (.bin .eql 31 60)<|.ite 61
 (.step (.ci .u64 0)<|.step (.bin .eql 10 62)<|.step (.un .not 63)<|.ite 64
 (.step (.ci .i64 0)<|.ret [65])
 (.step (.ci .i64 1)<|.step (.bin .add 3 65)<|.tail 35 [0,1,2,66,4,5,6,7,8,9,10,11,12,13,14,15,16,17,18,19,20,21,22,23,24,25,26,27,28]))
 (.step (.cs [99,111,115,116])<|.step (.bin .eql 31 62)<|.ite 63
 (.step (.ci .u64 0)<|.step (.bin .eql 11 64)<|.step (.un .not 65)<|.ite 66
 (.step (.ci .i64 0)<|.ret [67])
 (.step (.ci .i64 1)<|.step (.bin .add 3 67)<|.tail 35 [0,1,2,68,4,5,6,7,8,9,10,11,12,13,14,15,16,17,18,19,20,21,22,23,24,25,26,27,28]))
 (.step (.cs [112,114,105,111,114,105,116,121])<|.step (.bin .eql 31 64)<|.ite 65
 (.step (.ci .u64 0)<|.step (.bin .eql 12 66)<|.step (.un .not 67)<|.ite 68
 (.step (.ci .i64 0)<|.ret [69])
 (.step (.ci .i64 1)<|.step (.bin .add 3 69)<|.tail 35 [0,1,2,70,4,5,6,7,8,9,10,11,12,13,14,15,16,17,18,19,20,21,22,23,24,25,26,27,28]))
 (.step (.cs [100,101,97,100,108,105,110,101])<|.step (.bin .eql 31 66)<|.ite 67
 (.step (.ci .u64 0)<|.step (.bin .eql 13 68)<|.step (.un .not 69)<|.ite 70
 (.step (.ci .i64 0)<|.ret [71])
 (.step (.ci .i64 1)<|.step (.bin .add 3 71)<|.tail 35 [0,1,2,72,4,5,6,7,8,9,10,11,12,13,14,15,16,17,18,19,20,21,22,23,24,25,26,27,28]))
 (.step (.cs [114,101,116,114,121])<|.step (.bin .eql 31 68)<|.ite 69
 (.step (.ci .u64 0)<|.step (.bin .eql 14 70)<|.step (.un .not 71)<|.ite 72
 (.step (.ci .i64 0)<|.ret [73])
 (.step (.ci .i64 1)<|.step (.bin .add 3 73)<|.tail 35 [0,1,2,74,4,5,6,7,8,9,10,11,12,13,14,15,16,17,18,19,20,21,22,23,24,25,26,27,28]))
 (.step (.cs [101,112,111,99,104])<|.step (.bin .eql 31 70)<|.ite 71
 (.step (.ci .u64 0)<|.step (.bin .eql 15 72)<|.step (.un .not 73)<|.ite 74
 (.step (.ci .i64 0)<|.ret [75])
 (.step (.ci .i64 1)<|.step (.bin .add 3 75)<|.tail 35 [0,1,2,76,4,5,6,7,8,9,10,11,12,13,14,15,16,17,18,19,20,21,22,23,24,25,26,27,28]))
 (.step (.cs [98,97,115,101])<|.step (.bin .eql 31 72)<|.ite 73
 (.step (.ci .u64 0)<|.step (.bin .eql 16 74)<|.step (.un .not 75)<|.ite 76
 (.step (.ci .i64 0)<|.ret [77])
 (.step (.ci .i64 1)<|.step (.bin .add 3 77)<|.tail 35 [0,1,2,78,4,5,6,7,8,9,10,11,12,13,14,15,16,17,18,19,20,21,22,23,24,25,26,27,28]))
 (.step (.cs [100,105,103,101,115,116])<|.step (.bin .eql 31 74)<|.ite 75
 (.step (.ci .u64 0)<|.step (.bin .eql 17 76)<|.step (.un .not 77)<|.ite 78
 (.step (.ci .i64 0)<|.ret [79])
 (.step (.ci .i64 1)<|.step (.bin .add 3 79)<|.tail 35 [0,1,2,80,4,5,6,7,8,9,10,11,12,13,14,15,16,17,18,19,20,21,22,23,24,25,26,27,28]))
 (.step (.cs [108,97,103])<|.step (.bin .eql 31 76)<|.ite 77
 (.step (.ci .u64 0)<|.step (.bin .eql 18 78)<|.step (.un .not 79)<|.ite 80
 (.step (.ci .i64 0)<|.ret [81])
 (.step (.ci .i64 1)<|.step (.bin .add 3 81)<|.tail 35 [0,1,2,82,4,5,6,7,8,9,10,11,12,13,14,15,16,17,18,19,20,21,22,23,24,25,26,27,28]))
 (.step (.cs [99,111,100,101])<|.step (.bin .eql 31 78)<|.ite 79
 (.step (.ci .u64 0)<|.step (.bin .eql 19 80)<|.step (.un .not 81)<|.ite 82
 (.step (.ci .i64 0)<|.ret [83])
 (.step (.ci .i64 1)<|.step (.bin .add 3 83)<|.tail 35 [0,1,2,84,4,5,6,7,8,9,10,11,12,13,14,15,16,17,18,19,20,21,22,23,24,25,26,27,28]))
 (.step (.cs [119,97,110,116])<|.step (.bin .eql 31 80)<|.ite 81
 (.step (.ci .u64 0)<|.step (.bin .eql 20 82)<|.step (.un .not 83)<|.ite 84
 (.step (.ci .i64 0)<|.ret [85])
 (.step (.ci .i64 1)<|.step (.bin .add 3 85)<|.tail 35 [0,1,2,86,4,5,6,7,8,9,10,11,12,13,14,15,16,17,18,19,20,21,22,23,24,25,26,27,28]))
 (.step (.ci .i64 1)<|.step (.bin .add 3 82)<|.tail 35 [0,1,2,83,4,5,6,7,8,9,10,11,12,13,14,15,16,17,18,19,20,21,22,23,24,25,26,27,28])))))))))))))))))))))))
 (.step (.ci .i64 1)<|.step (.bin .add 3 38)<|.tail 35 [0,1,2,39,4,5,6,7,8,9,10,11,12,13,14,15,16,17,18,19,20,21,22,23,24,25,26,27,28]))
 (.step (.ci .i64 1)<|.ret [30])
def H6:aA:=.tree 27<|.step (.bin .lss 2 1)<|.ite 27
 (.step (.at 4 0 2)<|.step (.cell 0 28)<|.step (.cell 1 28)<|.step (.cell 2 28)<|.step (.cell 3 28)<|.step (.cs [114,101,109,97,105,110,105,110,103])<|.step (.bin .eql 32 33)<|
 .ite 34
 (.step (.call 37 [3,4,5,6,7,8,9,10,11,12,13,14,15,16,17,18,19,20,21,22,23,24,25,26] 0)<|.step (.ci .i64 1)<|.step (.bin .add 2 36)<|.tail 36 [0,1,37,3,4,5,6,7,8,9,10,11,12,13,14,15,16,17,18,19,20,21,22,23,24,25,26])
 (.step (.cs [97,108,108,111,119,101,100])<|.step (.bin .eql 32 35)<|.ite 36
 (.step (.call 38 [3,4,5,6,7,8,9,10,11,12,13,14,15,16,17,18,19,20,21,22,23,24,25,26] 0)<|.step (.ci .i64 1)<|.step (.bin .add 2 38)<|.tail 36 [0,1,39,3,4,5,6,7,8,9,10,11,12,13,14,15,16,17,18,19,20,21,22,23,24,25,26])
 (.step (.cs [110,97,109,101])<|.step (.bin .eql 32 37)<|.ite 38
 (.step (.call 39 [3,4,5,6,7,8,9,10,11,12,13,14,15,16,17,18,19,20,21,22,23,24,25,26] 0)<|.step (.call 39 [3,4,5,6,7,8,9,10,11,12,13,14,15,16,17,18,19,20,21,22,23,24,25,26] 1)<|
 .step (.ci .i64 0)<|.step (.bin .neq 40 41)<|.ite 42
 (.ret [41,40])
 (.step (.ci .i64 1)<|.step (.bin .add 2 43)<|.tail 36 [0,1,44,3,4,5,6,7,8,9,10,11,12,13,14,15,16,17,18,19,20,21,22,23,24,25,26]))
 (.step (.cs [114,101,103,105,111,110])<|.step (.bin .eql 32 39)<|.ite 40
 (.step (.call 43 [3,4,5,6,7,8,9,10,11,12,13,14,15,16,17,18,19,20,21,22,23,24,25,26] 0)<|.step (.call 43 [3,4,5,6,7,8,9,10,11,12,13,14,15,16,17,18,19,20,21,22,23,24,25,26] 1)<|
 .step (.ci .i64 0)<|.step (.bin .neq 42 43)<|.ite 44
 (.ret [43,42])
 (.step (.ci .i64 1)<|.step (.bin .add 2 45)<|.tail 36 [0,1,46,3,4,5,6,7,8,9,10,11,12,13,14,15,16,17,18,19,20,21,22,23,24,25,26]))
 (.step (.cs [110,111,116,101])<|.step (.bin .eql 32 41)<|.ite 42
 (.step (.call 44 [3,4,5,6,7,8,9,10,11,12,13,14,15,16,17,18,19,20,21,22,23,24,25,26] 0)<|.step (.call 44 [3,4,5,6,7,8,9,10,11,12,13,14,15,16,17,18,19,20,21,22,23,24,25,26] 1)<|
 .step (.ci .i64 0)<|.step (.bin .neq 44 45)<|.ite 46
 (.ret [45,44])
 (.step (.ci .i64 1)<|.step (.bin .add 2 47)<|.tail 36 [0,1,48,3,4,5,6,7,8,9,10,11,12,13,14,15,16,17,18,19,20,21,22,23,24,25,26]))
 (.step (.cs [100,101,115,99,114])<|.step (.bin .eql 32 43)<|.ite 44
 (.step (.call 45 [3,4,5,6,7,8,9,10,11,12,13,14,15,16,17,18,19,20,21,22,23,24,25,26] 0)<|.step (.call 45 [3,4,5,6,7,8,9,10,11,12,13,14,15,16,17,18,19,20,21,22,23,24,25,26] 1)<|
 .step (.ci .i64 0)<|.step (.bin .neq 46 47)<|.ite 48
 (.ret [47,46])
 (.step (.ci .i64 1)<|.step (.bin .add 2 49)<|.tail 36 [0,1,50,3,4,5,6,7,8,9,10,11,12,13,14,15,16,17,18,19,20,21,22,23,24,25,26]))
 (.step (.cs [116,97,98,108,101])<|.step (.bin .eql 32 45)<|.ite 46
 (.step (.call 49 [3,4,5,6,7,8,9,10,11,12,13,14,15,16,17,18,19,20,21,22,23,24,25,26] 0)<|.step (.call 49 [3,4,5,6,7,8,9,10,11,12,13,14,15,16,17,18,19,20,21,22,23,24,25,26] 1)<|
 .step (.ci .i64 0)<|.step (.bin .neq 48 49)<|.ite 50
 (.ret [49,48])
 (.step (.ci .i64 1)<|.step (.bin .add 2 51)<|.tail 36 [0,1,52,3,4,5,6,7,8,9,10,11,12,13,14,15,16,17,18,19,20,21,22,23,24,25,26]))
 (.step (.cs [105,100])<|.step (.bin .eql 32 47)<|.ite 48
 (.step (.call 53 [3,4,5,6,7,8,9,10,11,12,13,14,15,16,17,18,19,20,21,22,23,24,25,26] 0)<|.step (.ci .i64 1)<|.step (.bin .add 2 50)<|.tail 36 [0,1,51,3,4,5,6,7,8,9,10,11,12,13,14,15,16,17,18,19,20,21,22,23,24,25,26])
 (.step (.cs [109,105,110])<|.step (.bin .eql 32 49)<|.ite 50
 (.step (.call 54 [3,4,5,6,7,8,9,10,11,12,13,14,15,16,17,18,19,20,21,22,23,24,25,26] 0)<|.step (.ci .i64 1)<|.step (.bin .add 2 52)<|.tail 36 [0,1,53,3,4,5,6,7,8,9,10,11,12,13,14,15,16,17,18,19,20,21,22,23,24,25,26])
 (.step (.cs [109,97,120])<|.step (.bin .eql 32 51)<|.ite 52
 (.step (.call 55 [3,4,5,6,7,8,9,10,11,12,13,14,15,16,17,18,19,20,21,22,23,24,25,26] 0)<|.step (.ci .i64 1)<|.step (.bin .add 2 54)<|.tail 36 [0,1,55,3,4,5,6,7,8,9,10,11,12,13,14,15,16,17,18,19,20,21,22,23,24,25,26])
 (.step (.cs [99,104,111,115,101,110])<|.step (.bin .eql 32 53)<|.ite 54
 (.step (.call 56 [3,4,5,6,7,8,9,10,11,12,13,14,15,16,17,18,19,20,21,22,23,24,25,26] 0)<|.step (.ci .i64 1)<|.step (.bin .add 2 56)<|.tail 36 [0,1,57,3,4,5,6,7,8,9,10,11,12,13,14,15,16,17,18,19,20,21,22,23,24,25,26])
 (.step (.cs [102,108,97,103,115])<|.step (.bin .eql 32 55)<|.ite 56
 (.step (.call 57 [3,4,5,6,7,8,9,10,11,12,13,14,15,16,17,18,19,20,21,22,23,24,25,26] 0)<|.step (.ci .i64 1)<|.step (.bin .add 2 58)<|.tail 36 [0,1,59,3,4,5,6,7,8,9,10,11,12,13,14,15,16,17,18,19,20,21,22,23,24,25,26])
 (.step (.cs [99,111,115,116])<|.step (.bin .eql 32 57)<|.ite 58
 (.step (.call 58 [3,4,5,6,7,8,9,10,11,12,13,14,15,16,17,18,19,20,21,22,23,24,25,26] 0)<|.step (.ci .i64 1)<|.step (.bin .add 2 60)<|.tail 36 [0,1,61,3,4,5,6,7,8,9,10,11,12,13,14,15,16,17,18,19,20,21,22,23,24,25,26])
 (.step (.cs [112,114,105,111,114,105,116,121])<|.step (.bin .eql 32 59)<|.ite 60
 (.step (.call 59 [3,4,5,6,7,8,9,10,11,12,13,14,15,16,17,18,19,20,21,22,23,24,25,26] 0)<|.step (.ci .i64 1)<|.step (.bin .add 2 62)<|.tail 36 [0,1,63,3,4,5,6,7,8,9,10,11,12,13,14,15,16,17,18,19,20,21,22,23,24,25,26])
 (.step (.cs [100,101,97,100,108,105,110,101])<|.step (.bin .eql 32 61)<|.ite 62
 (.step (.call 60 [3,4,5,6,7,8,9,10,11,12,13,14,15,16,17,18,19,20,21,22,23,24,25,26] 0)<|.step (.ci .i64 1)<|.step (.bin .add 2 64)<|.tail 36 [0,1,65,3,4,5,6,7,8,9,10,11,12,13,14,15,16,17,18,19,20,21,22,23,24,25,26])
 (.step (.cs [114,101,116,114,121])<|.step (.bin .eql 32 63)<|.ite 64
 (.step (.call 61 [3,4,5,6,7,8,9,10,11,12,13,14,15,16,17,18,19,20,21,22,23,24,25,26] 0)<|.step (.ci .i64 1)<|.step (.bin .add 2 66)<|.tail 36 [0,1,67,3,4,5,6,7,8,9,10,11,12,13,14,15,16,17,18,19,20,21,22,23,24,25,26])
 (.step (.cs [101,112,111,99,104])<|.step (.bin .eql 32 65)<|.ite 66
 (.step (.call 62 [3,4,5,6,7,8,9,10,11,12,13,14,15,16,17,18,19,20,21,22,23,24,25,26] 0)<|.step (.ci .i64 1)<|.step (.bin .add 2 68)<|.tail 36 [0,1,69,3,4,5,6,7,8,9,10,11,12,13,14,15,16,17,18,19,20,21,22,23,24,25,26])
 (.step (.cs [98,97,115,101])<|.step (.bin .eql 32 67)<|.ite 68
 (.step (.call 63 [3,4,5,6,7,8,9,10,11,12,13,14,15,16,17,18,19,20,21,22,23,24,25,26] 0)<|.step (.ci .i64 1)<|.step (.bin .add 2 70)<|.tail 36 [0,1,71,3,4,5,6,7,8,9,10,11,12,13,14,15,16,17,18,19,20,21,22,23,24,25,26])
 (.step (.cs [100,105,103,101,115,116])<|.step (.bin .eql 32 69)<|.ite 70
 (.step (.call 64 [3,4,5,6,7,8,9,10,11,12,13,14,15,16,17,18,19,20,21,22,23,24,25,26] 0)<|.step (.ci .i64 1)<|.step (.bin .add 2 72)<|.tail 36 [0,1,73,3,4,5,6,7,8,9,10,11,12,13,14,15,16,17,18,19,20,21,22,23,24,25,26])
 (.step (.cs [108,97,103])<|.step (.bin .eql 32 71)<|.ite 72
 (.step (.call 65 [3,4,5,6,7,8,9,10,11,12,13,14,15,16,17,18,19,20,21,22,23,24,25,26] 0)<|.step (.ci .i64 1)<|.step (.bin .add 2 74)<|.tail 36 [0,1,75,3,4,5,6,7,8,9,10,11,12,13,14,15,16,17,18,19,20,21,22,23,24,25,26])
 (.step (.cs [99,111,100,101])<|.step (.bin .eql 32 73)<|.ite 74
 (.step (.call 66 [3,4,5,6,7,8,9,10,11,12,13,14,15,16,17,18,19,20,21,22,23,24,25,26] 0)<|.step (.ci .i64 1)<|.step (.bin .add 2 76)<|.tail 36 [0,1,77,3,4,5,6,7,8,9,10,11,12,13,14,15,16,17,18,19,20,21,22,23,24,25,26])
 (.step (.cs [119,97,110,116])<|.step (.bin .eql 32 75)<|.ite 76
 (.step (.call 67 [3,4,5,6,7,8,9,10,11,12,13,14,15,16,17,18,19,20,21,22,23,24,25,26] 0)<|.step (.ci .i64 1)<|.step (.bin .add 2 78)<|.tail 36 [0,1,79,3,4,5,6,7,8,9,10,11,12,13,14,15,16,17,18,19,20,21,22,23,24,25,26])
 (.step (.call 68 [] 0)<|.step (.ci .i64 1)<|.step (.bin .add 2 78)<|.tail 36 [0,1,79,3,4,5,6,7,8,9,10,11,12,13,14,15,16,17,18,19,20,21,22,23,24,25,26])))))))))))))))))))))))
 (.step (.ci .i64 1)<|.ret [28])
def XJ:aA:=.tree 32<|.step (.bin .lss 7 6)<|.ite 32
 (.step (.at 4 0 7)<|.step (.cell 0 33)<|.step (.cell 1 33)<|.step (.cell 2 33)<|.step (.cell 3 33)<|.ite 2
 (.step (.ci .i64 1)<|.step (.bin .add 7 38)<|.step (.cb true)<|.tail 100 [0,1,40,3,4,5,6,39,8,9,10,11,12,13,14,15,16,17,18,19,20,21,22,23,24,25,26,27,28,29,30,31])
 (.step (.bin .eql 37 1)<|.step (.ci .i64 1)<|.step (.bin .add 7 39)<|.tail 100 [0,1,38,3,4,5,6,40,8,9,10,11,12,13,14,15,16,17,18,19,20,21,22,23,24,25,26,27,28,29,30,31]))
 (.step (.ci .i64 0)<|.ret [33,2])
def Yq:aA:=.tree 11<|.step (.bin .lss 5 4)<|.ite 11
 (.step (.at 4 0 5)<|.step (.cell 0 12)<|.step (.cell 1 12)<|.step (.cell 2 12)<|.step (.cell 3 12)<|.step (.bin .eql 13 6)<|.ite 17
 (.step (.ci .i64 0)<|.ret [18])
 (.step (.ci .i64 1)<|.step (.bin .add 5 18)<|.tail 139 [0,1,2,3,4,19,6,7,8,9,10]))
 (.step (.ci .i64 1)<|.ret [12])
def ZR:aA:=.tree 5<|.step (.bin .lss 4 3)<|.ite 5
 (.step (.at 5 2 4)<|.step (.cell 0 6)<|.step (.cell 1 6)<|.step (.cell 2 6)<|.step (.cell 3 6)<|.step (.cell 4 6)<|.step (.ci .u64 0)<|.step (.bin .eql 7 12)<|.ite 13
 (.step (.ci .i64 18)<|.step (.ci .i64 0)<|.ret [15,14])
 (.step (.ci .u64 4294967296)<|.step (.bin .gtr 7 14)<|.ite 15
 (.step (.ci .i64 18)<|.step (.ci .i64 0)<|.ret [17,16])
 (.step (.bin .leq 7 1)<|.ite 16
 (.step (.ci .i64 7)<|.step (.ci .i64 0)<|.ret [18,17])
 (.step (.ci .i64 0)<|.step (.bin .eql 8 17)<|.ite 18
 (.step (.cs [])<|.step (.bin .eql 10 19)<|.ite 20
 (.step (.len 11)<|.step (.bin .eql 21 17)<|.step (.un .not 22)<|.ite 23
 (.step (.ci .i64 8)<|.ret [17,24])
 (.step (.ci .i64 2)<|.step (.bin .neq 8 24)<|.step (.ci .i64 1)<|.step (.bin .add 4 26)<|.tail 71 [0,7,2,3,27]))
 (.step (.ci .i64 8)<|.ret [17,21]))
 (.step (.ci .i64 1)<|.step (.bin .eql 8 19)<|.ite 20
 (.step (.bin .eql 9 12)<|.ite 21
 (.step (.len 11)<|.step (.bin .eql 22 17)<|.step (.un .not 23)<|.ite 24
 (.step (.ci .i64 8)<|.ret [17,25])
 (.step (.ci .i64 2)<|.step (.bin .neq 8 25)<|.step (.bin .add 4 19)<|.tail 71 [0,7,2,3,27]))
 (.step (.ci .i64 8)<|.ret [17,22]))
 (.step (.ci .i64 2)<|.step (.bin .eql 8 21)<|.ite 22
 (.step (.bin .eql 9 12)<|.ite 23
 (.step (.cs [])<|.step (.bin .eql 10 24)<|.step (.un .not 25)<|.ite 26
 (.step (.ci .i64 8)<|.ret [17,27])
 (.step (.bin .neq 8 21)<|.step (.ci .i64 8)<|.step (.bin .geq 0 28)<|.ite 29
 (.step (.ci .i64 9)<|.ret [17,30])
 (.step (.bin .add 0 19)<|.step (.call 70 [11,30] 0)<|.step (.bin .neq 31 17)<|.ite 32
 (.ret [17,31])
 (.step (.bin .add 4 19)<|.tail 71 [0,7,2,3,33]))))
 (.step (.ci .i64 8)<|.ret [17,24]))
 (.step (.ci .i64 8)<|.ret [17,23])))))))
 (.step (.ci .i64 1)<|.ret [6])
def YN:aA:=.tree 50<|.step (.bin .lss 1 0)<|.ite 50
 (.step (.at 2 47 1)<|.step (.cell 0 51)<|.step (.cell 1 51)<|.step (.at 2 23 1)<|.step (.cell 0 54)<|.step (.cell 1 54)<|.step (.mk [52,53])<|.step (.mk [55,56])<|.step (.sW .neq [1,1] 57 58)<|
 .ite 59
 (.step (.ci .i64 0)<|.ret [60])
 (.step (.ci .i64 1)<|.step (.bin .add 1 60)<|.tail 159 [0,61,2,3,4,5,6,7,8,9,10,11,12,13,14,15,16,17,18,19,20,21,22,23,24,25,26,27,28,29,30,31,32,33,34,35,36,37,38,39,40,41,42,43,44,45,46,47,48,49]))
 (.step (.ci .i64 1)<|.ret [51])
def d90:aA:=.tree 4<|.step (.bin .lss 3 2)<|.ite 4
 (.step (.at 2 1 3)<|.step (.cell 0 5)<|.step (.cell 1 5)<|.step (.call 87 [6] 0)<|.step (.mk [8,7])<|.step (.ml [9])<|.step (.app 2 32 0 10)<|.step (.ci .i64 1)<|.step (.bin .add 3 12)<|
 .tail 90 [11,1,2,13])
 (.step (.ci .i64 0)<|.ret [5,0])
def d4:aA:=.tree 3<|.step (.bin .lss 2 1)<|.ite 3
 (.step (.at 2 0 2)<|.step (.cell 0 4)<|.step (.cell 1 4)<|.step (.slen 5)<|.step (.slen 6)<|.step (.bin .add 7 8)<|.step (.ci .i64 600)<|.step (.bin .gtr 9 10)<|.ite 11
 (.step (.ci .i64 0)<|.ret [12])
 (.step (.ci .i64 1)<|.step (.bin .add 2 12)<|.tail 4 [0,1,13]))
 (.step (.ci .i64 1)<|.ret [4])
def YB:aA:=.tree 3<|.step (.bin .lss 2 1)<|.ite 3
 (.step (.at 2 0 2)<|.step (.cell 0 4)<|.step (.cell 1 4)<|.step (.mk [5,6])<|.step (.call 116 [7] 0)<|.step (.ci .i64 0)<|.step (.bin .neq 8 9)<|.ite 10
 (.ret [9,8])
 (.step (.ci .i64 1)<|.step (.bin .add 2 11)<|.tail 148 [0,1,12]))
 (.step (.ci .i64 1)<|.ret [4])
def d88:aA:=.tree 4<|.step (.bin .lss 3 2)<|.ite 4
 (.step (.at 2 1 3)<|.step (.cell 0 5)<|.step (.cell 1 5)<|.step (.mk [6,7])<|.step (.ml [8])<|.step (.app 2 32 0 9)<|.step (.ci .i64 1)<|.step (.bin .add 3 11)<|.tail 88 [10,1,2,12])
 (.step (.ci .i64 0)<|.ret [5,0])
def Yz:aA:=.tree 5<|.step (.bin .lss 4 3)<|.ite 5
 (.step (.at 2 2 4)<|.step (.cell 0 6)<|.step (.cell 1 6)<|.step (.call 144 [0,7] 0)<|.step (.ci .u64 0)<|.step (.bin .eql 9 10)<|.ite 11
 (.step (.mk [7,8])<|.step (.ml [12])<|.step (.app 2 32 1 13)<|.step (.ci .i64 1)<|.step (.bin .add 4 15)<|.tail 146 [0,14,2,3,16])
 (.step (.ci .i64 1)<|.step (.bin .add 4 12)<|.tail 146 [0,1,2,3,13]))
 (.step (.ci .i64 0)<|.ret [6,1])
def Ym:aA:=.tree 3<|.step (.slen 0)<|.step (.bin .lss 2 3)<|.ite 4
 (.step (.slen 1)<|.step (.bin .lss 2 5)<|.ite 6
 (.step (.sD 0 2)<|.step (.sD 1 2)<|.step (.bin .neq 7 8)<|.ite 9
 (.step (.ci .i64 0)<|.ret [10,2])
 (.step (.ci .i64 1)<|.step (.bin .add 2 10)<|.tail 134 [0,1,11]))
 (.step (.ci .i64 1)<|.ret [7]))
 (.step (.ci .i64 1)<|.ret [5])
def YH:aA:=.tree 51<|.step (.bin .lss 2 1)<|.ite 51
 (.step (.at 1 0 2)<|.step (.cell 0 52)<|.step (.cs [100,101,115,99,114])<|.step (.bin .eql 53 54)<|.ite 55
 (.step (.ci .i64 1)<|.step (.bin .add 2 56)<|.tail 153 [0,1,57,3,4,5,6,7,8,9,10,11,12,13,14,15,16,17,18,19,20,21,22,23,24,25,26,27,28,29,30,31,32,33,34,35,36,37,38,39,40,41,42,43,44,45,46,47,48,49,50])
 (.step (.cs [116,97,98,108,101])<|.step (.bin .eql 53 56)<|.ite 57
 (.step (.ci .i64 1)<|.step (.bin .add 2 58)<|.tail 153 [0,1,59,3,4,5,6,7,8,9,10,11,12,13,14,15,16,17,18,19,20,21,22,23,24,25,26,27,28,29,30,31,32,33,34,35,36,37,38,39,40,41,42,43,44,45,46,47,48,49,50])
 (.step (.mk [27,28,29,30,31,32,33,34,35,36,37,38,39,40,41,42,43,44,45,46,47,48,49,50])<|.step (.call 102 [58,53] 0)<|.step (.call 102 [58,53] 1)<|.step (.mk [3,4,5,6,7,8,9,10,11,12,13,14,15,16,17,18,19,20,21,22,23,24,25,26])<|
 .step (.call 102 [61,53] 0)<|.step (.call 102 [61,53] 1)<|.step (.bin .neq 59 62)<|.ite 64
 (.step (.ci .i64 0)<|.ret [65])
 (.step (.bin .neq 60 63)<|.ite 65
 (.step (.ci .i64 0)<|.ret [66])
 (.step (.ci .i64 1)<|.step (.bin .add 2 66)<|.tail 153 [0,1,67,3,4,5,6,7,8,9,10,11,12,13,14,15,16,17,18,19,20,21,22,23,24,25,26,27,28,29,30,31,32,33,34,35,36,37,38,39,40,41,42,43,44,45,46,47,48,49,50])))))
 (.step (.ci .i64 1)<|.ret [52])
def d92:aA:=.tree 4<|.step (.bin .lss 3 2)<|.ite 4
 (.step (.at 5 1 3)<|.step (.cell 0 5)<|.step (.cell 1 5)<|.step (.cell 2 5)<|.step (.cell 3 5)<|.step (.cell 4 5)<|.step (.call 91 [10] 0)<|.step (.mk [6,7,8,9,11])<|.step (.ml [12])<|
 .step (.app 5 64 0 13)<|.step (.ci .i64 1)<|.step (.bin .add 3 15)<|.tail 92 [14,1,2,16])
 (.step (.ci .i64 0)<|.ret [5,0])
def d12:aA:=.tree 4<|.step (.bin .lss 2 1)<|.ite 4
 (.step (.at 2 0 2)<|.step (.cell 0 5)<|.step (.cell 1 5)<|.step (.mk [6,7])<|.step (.call 13 [8] 0)<|.step (.bytes 9)<|.step (.app 1 1 3 10)<|.step (.slen 9)<|.step (.ci .i64 1)<|
 .step (.bin .add 2 13)<|.tail 12 [0,1,14,11])
 (.step (.ci .i64 0)<|.ret [5,3])
def Yc:aA:=.tree 5<|.step (.bin .lss 4 1)<|.ite 5
 (.step (.sD 0 4)<|.step (.conv .i64 6)<|.step (.ci .i64 128)<|.step (.bin .lss 7 8)<|.ite 9
 (.step (.ci .i64 0)<|.ret [10])
 (.step (.ci .i64 192)<|.step (.bin .geq 7 10)<|.ite 11
 (.step (.ci .i64 0)<|.ret [12])
 (.step (.ci .i64 64)<|.step (.bin .mul 12 2)<|.step (.bin .add 13 7)<|.step (.bin .sub 14 8)<|.step (.ci .i64 1)<|.step (.bin .add 4 16)<|.tail 124 [0,1,15,3,17])))
 (.step (.ci .i64 1)<|.ret [6,2])
def Hz:aA:=.tree 4<|.step (.bin .lss 3 2)<|.ite 4
 (.step (.at 5 0 3)<|.step (.cell 0 5)<|.step (.cell 1 5)<|.step (.cell 2 5)<|.step (.cell 3 5)<|.step (.cell 4 5)<|.step (.ci .u64 0)<|.step (.bin .eql 6 11)<|.ite 12
 (.step (.ci .i64 18)<|.step (.ci .i64 0)<|.ret [14,13])
 (.step (.ci .u64 4294967296)<|.step (.bin .gtr 6 13)<|.ite 14
 (.step (.ci .i64 18)<|.step (.ci .i64 0)<|.ret [16,15])
 (.step (.ci .i64 0)<|.step (.bin .gtr 3 15)<|.ite 16
 (.step (.ci .i64 1)<|.step (.bin .sub 3 17)<|.step (.at 5 0 18)<|.step (.cell 0 19)<|.step (.bin .leq 6 20)<|.ite 21
 (.step (.ci .i64 7)<|.ret [15,22])
 (.step (.bin .lss 7 15)<|.ite 22
 (.step (.ci .i64 8)<|.ret [15,23])
 (.step (.ci .i64 2)<|.step (.bin .gtr 7 23)<|.ite 24
 (.step (.ci .i64 8)<|.ret [15,25])
 (.step (.bin .neq 7 15)<|.ite 25
 (.step (.bin .neq 8 11)<|.ite 26
 (.step (.ci .i64 8)<|.ret [15,27])
 (.step (.bin .neq 7 17)<|.ite 27
 (.step (.cs [])<|.step (.bin .neq 9 28)<|.ite 29
 (.step (.ci .i64 8)<|.ret [15,30])
 (.step (.bin .neq 7 23)<|.ite 30
 (.step (.len 10)<|.step (.bin .gtr 31 15)<|.ite 32
 (.step (.ci .i64 8)<|.ret [15,33])
 (.step (.bin .eql 7 23)<|.step (.bin .add 1 17)<|.step (.call 136 [10,34] 0)<|.step (.bin .neq 35 15)<|.ite 36
 (.ret [15,35])
 (.step (.bin .add 3 17)<|.tail 137 [0,1,2,37])))
 (.step (.bin .eql 7 23)<|.step (.ci .i64 8)<|.step (.bin .eql 1 32)<|.ite 33
 (.step (.ci .i64 9)<|.ret [15,34])
 (.step (.bin .add 1 17)<|.step (.call 136 [10,34] 0)<|.step (.bin .neq 35 15)<|.ite 36
 (.ret [15,35])
 (.step (.bin .add 3 17)<|.tail 137 [0,1,2,37])))))
 (.step (.bin .neq 7 23)<|.ite 28
 (.step (.len 10)<|.step (.bin .gtr 29 15)<|.ite 30
 (.step (.ci .i64 8)<|.ret [15,31])
 (.step (.bin .eql 7 23)<|.step (.bin .add 1 17)<|.step (.call 136 [10,32] 0)<|.step (.bin .neq 33 15)<|.ite 34
 (.ret [15,33])
 (.step (.bin .add 3 17)<|.tail 137 [0,1,2,35])))
 (.step (.bin .eql 7 23)<|.step (.ci .i64 8)<|.step (.bin .eql 1 30)<|.ite 31
 (.step (.ci .i64 9)<|.ret [15,32])
 (.step (.bin .add 1 17)<|.step (.call 136 [10,32] 0)<|.step (.bin .neq 33 15)<|.ite 34
 (.ret [15,33])
 (.step (.bin .add 3 17)<|.tail 137 [0,1,2,35]))))))
 (.step (.bin .neq 7 17)<|.ite 26
 (.step (.cs [])<|.step (.bin .neq 9 27)<|.ite 28
 (.step (.ci .i64 8)<|.ret [15,29])
 (.step (.bin .neq 7 23)<|.ite 29
 (.step (.len 10)<|.step (.bin .gtr 30 15)<|.ite 31
 (.step (.ci .i64 8)<|.ret [15,32])
 (.step (.bin .eql 7 23)<|.step (.bin .add 1 17)<|.step (.call 136 [10,33] 0)<|.step (.bin .neq 34 15)<|.ite 35
 (.ret [15,34])
 (.step (.bin .add 3 17)<|.tail 137 [0,1,2,36])))
 (.step (.bin .eql 7 23)<|.step (.ci .i64 8)<|.step (.bin .eql 1 31)<|.ite 32
 (.step (.ci .i64 9)<|.ret [15,33])
 (.step (.bin .add 1 17)<|.step (.call 136 [10,33] 0)<|.step (.bin .neq 34 15)<|.ite 35
 (.ret [15,34])
 (.step (.bin .add 3 17)<|.tail 137 [0,1,2,36])))))
 (.step (.bin .neq 7 23)<|.ite 27
 (.step (.len 10)<|.step (.bin .gtr 28 15)<|.ite 29
 (.step (.ci .i64 8)<|.ret [15,30])
 (.step (.bin .eql 7 23)<|.step (.bin .add 1 17)<|.step (.call 136 [10,31] 0)<|.step (.bin .neq 32 15)<|.ite 33
 (.ret [15,32])
 (.step (.bin .add 3 17)<|.tail 137 [0,1,2,34])))
 (.step (.bin .eql 7 23)<|.step (.ci .i64 8)<|.step (.bin .eql 1 29)<|.ite 30
 (.step (.ci .i64 9)<|.ret [15,31])
 (.step (.bin .add 1 17)<|.step (.call 136 [10,31] 0)<|.step (.bin .neq 32 15)<|.ite 33
 (.ret [15,32])
 (.step (.bin .add 3 17)<|.tail 137 [0,1,2,34])))))))))
 (.step (.bin .lss 7 15)<|.ite 17
 (.step (.ci .i64 8)<|.ret [15,18])
 (.step (.ci .i64 2)<|.step (.bin .gtr 7 18)<|.ite 19
 (.step (.ci .i64 8)<|.ret [15,20])
 (.step (.bin .neq 7 15)<|.ite 20
 (.step (.bin .neq 8 11)<|.ite 21
 (.step (.ci .i64 8)<|.ret [15,22])
 (.step (.ci .i64 1)<|.step (.bin .neq 7 22)<|.ite 23
 (.step (.cs [])<|.step (.bin .neq 9 24)<|.ite 25
 (.step (.ci .i64 8)<|.ret [15,26])
 (.step (.bin .neq 7 18)<|.ite 26
 (.step (.len 10)<|.step (.bin .gtr 27 15)<|.ite 28
 (.step (.ci .i64 8)<|.ret [15,29])
 (.step (.bin .eql 7 18)<|.step (.bin .add 1 22)<|.step (.call 136 [10,30] 0)<|.step (.bin .neq 31 15)<|.ite 32
 (.ret [15,31])
 (.step (.bin .add 3 22)<|.tail 137 [0,1,2,33])))
 (.step (.bin .eql 7 18)<|.step (.ci .i64 8)<|.step (.bin .eql 1 28)<|.ite 29
 (.step (.ci .i64 9)<|.ret [15,30])
 (.step (.bin .add 1 22)<|.step (.call 136 [10,30] 0)<|.step (.bin .neq 31 15)<|.ite 32
 (.ret [15,31])
 (.step (.bin .add 3 22)<|.tail 137 [0,1,2,33])))))
 (.step (.bin .neq 7 18)<|.ite 24
 (.step (.len 10)<|.step (.bin .gtr 25 15)<|.ite 26
 (.step (.ci .i64 8)<|.ret [15,27])
 (.step (.bin .eql 7 18)<|.step (.bin .add 1 22)<|.step (.call 136 [10,28] 0)<|.step (.bin .neq 29 15)<|.ite 30
 (.ret [15,29])
 (.step (.bin .add 3 22)<|.tail 137 [0,1,2,31])))
 (.step (.bin .eql 7 18)<|.step (.ci .i64 8)<|.step (.bin .eql 1 26)<|.ite 27
 (.step (.ci .i64 9)<|.ret [15,28])
 (.step (.bin .add 1 22)<|.step (.call 136 [10,28] 0)<|.step (.bin .neq 29 15)<|.ite 30
 (.ret [15,29])
 (.step (.bin .add 3 22)<|.tail 137 [0,1,2,31]))))))
 (.step (.ci .i64 1)<|.step (.bin .neq 7 21)<|.ite 22
 (.step (.cs [])<|.step (.bin .neq 9 23)<|.ite 24
 (.step (.ci .i64 8)<|.ret [15,25])
 (.step (.bin .neq 7 18)<|.ite 25
 (.step (.len 10)<|.step (.bin .gtr 26 15)<|.ite 27
 (.step (.ci .i64 8)<|.ret [15,28])
 (.step (.bin .eql 7 18)<|.step (.bin .add 1 21)<|.step (.call 136 [10,29] 0)<|.step (.bin .neq 30 15)<|.ite 31
 (.ret [15,30])
 (.step (.bin .add 3 21)<|.tail 137 [0,1,2,32])))
 (.step (.bin .eql 7 18)<|.step (.ci .i64 8)<|.step (.bin .eql 1 27)<|.ite 28
 (.step (.ci .i64 9)<|.ret [15,29])
 (.step (.bin .add 1 21)<|.step (.call 136 [10,29] 0)<|.step (.bin .neq 30 15)<|.ite 31
 (.ret [15,30])
 (.step (.bin .add 3 21)<|.tail 137 [0,1,2,32])))))
 (.step (.bin .neq 7 18)<|.ite 23
 (.step (.len 10)<|.step (.bin .gtr 24 15)<|.ite 25
 (.step (.ci .i64 8)<|.ret [15,26])
 (.step (.bin .eql 7 18)<|.step (.bin .add 1 21)<|.step (.call 136 [10,27] 0)<|.step (.bin .neq 28 15)<|.ite 29
 (.ret [15,28])
 (.step (.bin .add 3 21)<|.tail 137 [0,1,2,30])))
 (.step (.bin .eql 7 18)<|.step (.ci .i64 8)<|.step (.bin .eql 1 25)<|.ite 26
 (.step (.ci .i64 9)<|.ret [15,27])
 (.step (.bin .add 1 21)<|.step (.call 136 [10,27] 0)<|.step (.bin .neq 28 15)<|.ite 29
 (.ret [15,28])
 (.step (.bin .add 3 21)<|.tail 137 [0,1,2,30])))))))))))
 (.step (.ci .i64 1)<|.ret [5])
def d85:aA:=.tree 3<|.step (.len 0)<|.step (.ci .i64 0)<|.step (.bin .gtr 3 4)<|.ite 5
 (.step (.at 5 0 4)<|.step (.cell 0 6)<|.step (.bin .geq 7 1)<|.ite 8
 (.step (.cell 1 6)<|.step (.cell 2 6)<|.step (.cell 3 6)<|.step (.cell 4 6)<|.step (.conv .i64 10)<|.step (.ci .u8 255)<|.step (.bin .eql 7 14)<|.ite 15
 (.step (.ci .i64 1)<|.step (.iG 5 0 16 3)<|.step (.ml [])<|.step (.mk [9,13,11,12,18])<|.step (.ml [19])<|.step (.app 5 64 2 20)<|.tail 85 [17,1,21])
 (.step (.ci .i64 1)<|.step (.iG 5 0 16 3)<|.step (.ci .u8 1)<|.step (.bin .add 7 18)<|.step (.call 84 [17,19] 0)<|.step (.call 84 [17,19] 1)<|.step (.mk [9,13,11,12,20])<|
 .step (.ml [22])<|.step (.app 5 64 2 23)<|.tail 85 [21,1,24]))
 (.ret [4,0,2]))
 (.ret [4,0,2])
def Yn:aA:=.tree 27<|.step (.bin .lss 2 1)<|.ite 27
 (.step (.at 4 0 2)<|.step (.cell 0 28)<|.step (.cell 1 28)<|.step (.cell 2 28)<|.step (.cell 3 28)<|.step (.ci .i64 3)<|.step (.bin .eql 30 33)<|.ite 34
 (.step (.mk [3,4,5,6,7,8,9,10,11,12,13,14,15,16,17,18,19,20,21,22,23,24,25,26])<|.step (.call 107 [35,32] 0)<|.step (.ci .i64 0)<|.step (.ci .i64 256)<|.step (.call 120 [36,37,38] 0)<|
 .step (.ci .i64 4)<|.step (.bin .eql 30 40)<|.step (.ci .i64 5)<|.step (.bin .eql 30 42)<|.step (.bin .neq 39 37)<|.ite 44
 (.ret [37,39])
 (.step (.ci .i64 1)<|.step (.bin .add 2 45)<|.tail 135 [0,1,46,3,4,5,6,7,8,9,10,11,12,13,14,15,16,17,18,19,20,21,22,23,24,25,26]))
 (.step (.ci .i64 4)<|.step (.bin .eql 30 35)<|.ite 36
 (.step (.len 24)<|.step (.ci .i64 0)<|.step (.bin .gtr 37 38)<|.ite 39
 (.step (.call 117 [24] 0)<|.step (.ci .i64 5)<|.step (.bin .eql 30 41)<|.step (.bin .neq 40 38)<|.ite 43
 (.ret [38,40])
 (.step (.ci .i64 1)<|.step (.bin .add 2 44)<|.tail 135 [0,1,45,3,4,5,6,7,8,9,10,11,12,13,14,15,16,17,18,19,20,21,22,23,24,25,26]))
 (.step (.ci .i64 5)<|.step (.bin .eql 30 40)<|.step (.ci .i64 1)<|.step (.bin .add 2 42)<|.tail 135 [0,1,43,3,4,5,6,7,8,9,10,11,12,13,14,15,16,17,18,19,20,21,22,23,24,25,26]))
 (.step (.ci .i64 5)<|.step (.bin .eql 30 37)<|.ite 38
 (.step (.call 114 [25] 0)<|.step (.ci .i64 0)<|.step (.bin .neq 39 40)<|.ite 41
 (.ret [40,39])
 (.step (.ci .i64 1)<|.step (.bin .add 2 42)<|.tail 135 [0,1,43,3,4,5,6,7,8,9,10,11,12,13,14,15,16,17,18,19,20,21,22,23,24,25,26]))
 (.step (.ci .i64 1)<|.step (.bin .add 2 39)<|.tail 135 [0,1,40,3,4,5,6,7,8,9,10,11,12,13,14,15,16,17,18,19,20,21,22,23,24,25,26]))))
 (.step (.ci .i64 1)<|.ret [28])
def d6:aA:=.tree 3<|.step (.bin .lss 2 1)<|.ite 3
 (.step (.at 2 0 2)<|.step (.cell 0 4)<|.step (.cell 1 4)<|.step (.len 5)<|.step (.ci .i64 18)<|.step (.bin .gtr 7 8)<|.ite 9
 (.step (.ci .i64 0)<|.ret [10])
 (.step (.call 3 [5] 0)<|.step (.un .not 10)<|.ite 11
 (.step (.ci .i64 0)<|.ret [12])
 (.step (.len 0)<|.step (.ci .i64 40)<|.step (.bin .gtr 12 13)<|.ite 14
 (.step (.call 7 [5] 0)<|.step (.slen 15)<|.step (.ci .i64 100)<|.step (.bin .gtr 16 17)<|.ite 18
 (.step (.ci .i64 0)<|.ret [19])
 (.step (.ci .i64 1)<|.step (.bin .add 2 19)<|.tail 6 [0,1,20]))
 (.step (.ci .i64 1)<|.step (.bin .add 2 15)<|.tail 6 [0,1,16]))))
 (.step (.ci .i64 1)<|.ret [4])
def Ds:List aA:=[d0,d1,d2,d3,d4,d5,d6,d7,d8,d9,d10,d11,d12,d13,Yr,YD,YO,YZ,Y0,Y1,Y2,Y3,Y4,Y5,Y6,Y7,Y8,Y9,Za,Zb,Zc,Zd,Ze,Zf,Zg,HY,H6,Zh,Zi,Zj,Zk,Zl,Zm,Zn,Zo,Zp,Zq,Zr,Zt,Zu,Zv,Zw,Zx,Zy,Zz,ZA,ZB,ZC,ZE,ZF,ZG,ZH,ZI,ZJ,ZK,ZL,ZM,ZN,ZO,ZP,ZQ,ZR,ZT,ZU,ZV,ZW,ZX,ZY,Z4,Z5,Z7,Z8,Z9,d83,d84,d85,d86,d87,d88,d89,d90,d91,d92,d93,d94,d95,d96,d97,d98,d99,XJ,XK,XL,XM,XO,XP,XQ,XR,XT,XU,XV,XW,XY,XZ,X0,X3,X4,X5,X6,X7,X8,X9,Ya,Yb,Yc,Yd,Ye,Yf,Yg,Yh,Yi,Yj,Yk,Yl,Ym,Yn,Yo,Hz,Yp,Yq,Yt,Yu,Yv,Yw,Yx,Yy,Yz,YA,YB,YC,YE,YF,YG,YH,YI,YJ,YK,YL,YM,YN,YP,YQ,YR,YS,YT,YU,YV,YW,YX]
noncomputable abbrev TT:eF:=qQ Ds
end
end J
end Go.Proofs.YtlifdeocdbjalaaGreatDoor
