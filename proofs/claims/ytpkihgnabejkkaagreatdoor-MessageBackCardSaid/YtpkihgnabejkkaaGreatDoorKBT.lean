/- What functions and loops compute: trees of nodes, found by a driver. -/
import Derived.Test.YtpkihgnabejkkaaGreatDoorAbsJ
import Derived.Test.YtpkihgnabejkkaaGreatDoorAbsPl
import Derived.Test.YtpkihgnabejkkaaGreatDoorAbsTold
import Derived.Test.YtpkihgnabejkkaaGreatDoorAbsTold3
import Derived.Test.YtpkihgnabejkkaaGreatDoorAbsFields
namespace Go.Proofs.YtpkihgnabejkkaaGreatDoor
open Go Go.aJ
set_option maxRecDepth 100000
set_option linter.unusedVariables false
set_option linter.unusedSimpArgs false
namespace B
noncomputable section
abbrev V4:aH:=.vg BZ
def Wv:aH:=.fn [] [.sc]<|.step (.ci .u64 1)<|.step (.ci .i64 0)<|.step (.ci .i64 1)<|.step (.cs [101,112,111,99,104])<|.step (.mk [0,1,2,3])<|.step (.ci .u64 2)<|.step (.ci .i64 3)<|
 .step (.cs [108,97,103])<|.step (.mk [5,1,6,7])<|.step (.ml [4,8])<|.ret [9]
def VO:aH:=.fn [.ag 24,.sc] [.ag 5,.sc]<|.step (.cell 0 0)<|.step (.cell 1 0)<|.step (.cell 2 0)<|.step (.cell 3 0)<|.step (.cell 4 0)<|.step (.cell 5 0)<|.step (.cell 6 0)<|
 .step (.cell 7 0)<|.step (.cell 8 0)<|.step (.cell 9 0)<|.step (.cell 10 0)<|.step (.cell 11 0)<|.step (.cell 12 0)<|.step (.cell 13 0)<|.step (.cell 14 0)<|.step (.cell 15 0)<|.step (.cell 16 0)<|
 .step (.cell 17 0)<|.step (.cell 18 0)<|.step (.cell 19 0)<|.step (.cell 20 0)<|.step (.cell 21 0)<|.step (.cell 22 0)<|.step (.cell 23 0)<|.step (.cs [114,101,109,97,105,110,105,110,103])<|
 .step (.bin .eql 1 26)<|.ite 27
 (.step (.conv .u64 18)<|.step (.ci .u64 1)<|.step (.bin .shl 28 29)<|.step (.ci .u64 63)<|.step (.bin .shr 18 31)<|.step (.conv .u64 32)<|.step (.bin .xor 30 33)<|.step (.ci .u64 0)<|
 .step (.ci .i64 0)<|.step (.cs [])<|.step (.ml [])<|.step (.cb true)<|.step (.mk [35,36,34,37,38])<|.ret [40,39])
 (.step (.cs [97,108,108,111,119,101,100])<|.step (.bin .eql 1 28)<|.ite 29
 (.ite 19
 (.step (.ci .u64 0)<|.step (.ci .i64 0)<|.step (.ci .u64 1)<|.step (.cs [])<|.step (.ml [])<|.step (.cb true)<|.step (.mk [30,31,32,33,34])<|.ret [36,35])
 (.step (.ci .u64 0)<|.step (.ci .i64 0)<|.step (.cs [])<|.step (.ml [])<|.step (.cb true)<|.step (.mk [30,31,30,32,33])<|.ret [35,34]))
 (.step (.cs [110,97,109,101])<|.step (.bin .eql 1 30)<|.ite 31
 (.step (.ci .u64 0)<|.step (.ci .i64 1)<|.step (.ml [])<|.step (.cb true)<|.step (.mk [32,33,32,20,34])<|.ret [36,35])
 (.step (.cs [114,101,103,105,111,110])<|.step (.bin .eql 1 32)<|.ite 33
 (.step (.ci .u64 0)<|.step (.ci .i64 1)<|.step (.ml [])<|.step (.cb true)<|.step (.mk [34,35,34,21,36])<|.ret [38,37])
 (.step (.cs [110,111,116,101])<|.step (.bin .eql 1 34)<|.ite 35
 (.step (.ci .u64 0)<|.step (.ci .i64 1)<|.step (.ml [])<|.step (.cb true)<|.step (.mk [36,37,36,22,38])<|.ret [40,39])
 (.step (.cs [100,101,115,99,114])<|.step (.bin .eql 1 36)<|.ite 37
 (.step (.len 23)<|.step (.ci .i64 0)<|.step (.bin .eql 38 39)<|.ite 40
 (.step (.ci .u64 0)<|.step (.ci .i64 1)<|.step (.cs [])<|.step (.ml [])<|.step (.cb true)<|.step (.mk [41,42,41,43,44])<|.ret [46,45])
 (.step (.call 7 [23] 0)<|.step (.ci .u64 0)<|.step (.ci .i64 1)<|.step (.ml [])<|.step (.cb true)<|.step (.mk [42,43,42,41,44])<|.ret [46,45]))
 (.step (.cs [116,97,98,108,101])<|.step (.bin .eql 1 38)<|.ite 39
 (.step (.len 24)<|.step (.ci .i64 0)<|.step (.bin .eql 40 41)<|.ite 42
 (.step (.ci .u64 0)<|.step (.ci .i64 1)<|.step (.cs [])<|.step (.ml [])<|.step (.cb true)<|.step (.mk [43,44,43,45,46])<|.ret [48,47])
 (.step (.call 21 [24] 0)<|.step (.call 21 [24] 1)<|.step (.ci .u64 0)<|.step (.ci .i64 1)<|.step (.ml [])<|.step (.cb true)<|.step (.mk [45,46,45,43,47])<|.ret [49,48]))
 (.step (.cs [105,100])<|.step (.bin .eql 1 40)<|.ite 41
 (.step (.ci .u64 0)<|.step (.ci .i64 0)<|.step (.cs [])<|.step (.ml [])<|.step (.cb true)<|.step (.mk [42,43,3,44,45])<|.ret [47,46])
 (.step (.cs [109,105,110])<|.step (.bin .eql 1 42)<|.ite 43
 (.step (.ci .u64 0)<|.step (.ci .i64 0)<|.step (.cs [])<|.step (.ml [])<|.step (.cb true)<|.step (.mk [44,45,4,46,47])<|.ret [49,48])
 (.step (.cs [109,97,120])<|.step (.bin .eql 1 44)<|.ite 45
 (.step (.ci .u64 0)<|.step (.ci .i64 0)<|.step (.cs [])<|.step (.ml [])<|.step (.cb true)<|.step (.mk [46,47,5,48,49])<|.ret [51,50])
 (.step (.cs [99,104,111,115,101,110])<|.step (.bin .eql 1 46)<|.ite 47
 (.step (.ci .u64 0)<|.step (.ci .i64 0)<|.step (.cs [])<|.step (.ml [])<|.step (.cb true)<|.step (.mk [48,49,6,50,51])<|.ret [53,52])
 (.step (.cs [102,108,97,103,115])<|.step (.bin .eql 1 48)<|.ite 49
 (.step (.ci .u64 0)<|.step (.ci .i64 0)<|.step (.cs [])<|.step (.ml [])<|.step (.cb true)<|.step (.mk [50,51,7,52,53])<|.ret [55,54])
 (.step (.cs [99,111,115,116])<|.step (.bin .eql 1 50)<|.ite 51
 (.step (.ci .u64 0)<|.step (.ci .i64 0)<|.step (.cs [])<|.step (.ml [])<|.step (.cb true)<|.step (.mk [52,53,8,54,55])<|.ret [57,56])
 (.step (.cs [112,114,105,111,114,105,116,121])<|.step (.bin .eql 1 52)<|.ite 53
 (.step (.ci .u64 0)<|.step (.ci .i64 0)<|.step (.cs [])<|.step (.ml [])<|.step (.cb true)<|.step (.mk [54,55,9,56,57])<|.ret [59,58])
 (.step (.cs [100,101,97,100,108,105,110,101])<|.step (.bin .eql 1 54)<|.ite 55
 (.step (.ci .u64 0)<|.step (.ci .i64 0)<|.step (.cs [])<|.step (.ml [])<|.step (.cb true)<|.step (.mk [56,57,10,58,59])<|.ret [61,60])
 (.step (.cs [114,101,116,114,121])<|.step (.bin .eql 1 56)<|.ite 57
 (.step (.ci .u64 0)<|.step (.ci .i64 0)<|.step (.cs [])<|.step (.ml [])<|.step (.cb true)<|.step (.mk [58,59,11,60,61])<|.ret [63,62])
 (.step (.cs [101,112,111,99,104])<|.step (.bin .eql 1 58)<|.ite 59
 (.step (.ci .u64 0)<|.step (.ci .i64 0)<|.step (.cs [])<|.step (.ml [])<|.step (.cb true)<|.step (.mk [60,61,12,62,63])<|.ret [65,64])
 (.step (.cs [98,97,115,101])<|.step (.bin .eql 1 60)<|.ite 61
 (.step (.ci .u64 0)<|.step (.ci .i64 0)<|.step (.cs [])<|.step (.ml [])<|.step (.cb true)<|.step (.mk [62,63,13,64,65])<|.ret [67,66])
 (.step (.cs [100,105,103,101,115,116])<|.step (.bin .eql 1 62)<|.ite 63
 (.step (.ci .u64 0)<|.step (.ci .i64 0)<|.step (.cs [])<|.step (.ml [])<|.step (.cb true)<|.step (.mk [64,65,14,66,67])<|.ret [69,68])
 (.step (.cs [108,97,103])<|.step (.bin .eql 1 64)<|.ite 65
 (.step (.ci .u64 0)<|.step (.ci .i64 0)<|.step (.cs [])<|.step (.ml [])<|.step (.cb true)<|.step (.mk [66,67,15,68,69])<|.ret [71,70])
 (.step (.cs [99,111,100,101])<|.step (.bin .eql 1 66)<|.ite 67
 (.step (.ci .u64 0)<|.step (.ci .i64 0)<|.step (.cs [])<|.step (.ml [])<|.step (.cb true)<|.step (.mk [68,69,16,70,71])<|.ret [73,72])
 (.step (.cs [119,97,110,116])<|.step (.bin .eql 1 68)<|.ite 69
 (.step (.ci .u64 0)<|.step (.ci .i64 0)<|.step (.cs [])<|.step (.ml [])<|.step (.cb true)<|.step (.mk [70,71,17,72,73])<|.ret [75,74])
 (.step (.ci .u64 0)<|.step (.ci .i64 0)<|.step (.cs [])<|.step (.ml [])<|.step (.cb false)<|.step (.mk [70,71,70,72,73])<|.ret [75,74]))))))))))))))))))))))
def VJ:aH:=.fn [.ag 24] [.ag 24]<|.step (.cell 0 0)<|.step (.cell 1 0)<|.step (.cell 2 0)<|.step (.cell 3 0)<|.step (.cell 4 0)<|.step (.cell 5 0)<|.step (.cell 6 0)<|.step (.cell 7 0)<|
 .step (.cell 8 0)<|.step (.cell 9 0)<|.step (.cell 10 0)<|.step (.cell 11 0)<|.step (.cell 12 0)<|.step (.cell 13 0)<|.step (.cell 14 0)<|.step (.cell 15 0)<|.step (.cell 16 0)<|
 .step (.cell 17 0)<|.step (.cell 18 0)<|.step (.cell 19 0)<|.step (.cell 20 0)<|.step (.cell 21 0)<|.step (.cell 22 0)<|.step (.cell 23 0)<|.step (.call 17 [24] 0)<|.step (.mk [1,2,3,4,5,6,7,8,9,10,11,12,13,14,15,16,17,18,19,20,21,22,23,25])<|
 .ret [26]
def VQ:aH:=.fn [.sc] [.sc]<|.step (.len 0)<|.step (.ci .i64 256)<|.step (.bin .gtr 1 2)<|.ite 3
 (.step (.ci .i64 13)<|.ret [4])
 (.step (.cs [])<|.step (.ci .i64 0)<|.step (.call 23 [4,0,1,5] 0)<|.step (.bin .eql 6 5)<|.ite 7
 (.step (.call 23 [4,0,1,5] 1)<|.ret [8])
 (.ret [5]))
def Xq:aH:=.fn [.sc] [.sc,.sc]<|.step (.ci .i64 0)<|.step (.call 87 [0,1] 0)<|.step (.call 87 [0,1] 1)<|.step (.call 87 [0,1] 2)<|.step (.call 87 [0,1] 3)<|.step (.call 87 [0,1] 4)<|
 .step (.bin .neq 4 1)<|.ite 7
 (.step (.ml [])<|.ret [8,4])
 (.step (.slen 5)<|.step (.bin .sub 8 6)<|.step (.bin .gtr 9 1)<|.ite 10
 (.step (.ml [])<|.step (.ci .i64 10)<|.ret [11,12])
 (.ret [3,1]))
def d9:aH:=.fn [.sc] [.sc]<|.step (.ci .i64 1)<|.step (.call 10 [0,1] 0)<|.step (.call 10 [0,1] 1)<|.ret [3]
def Xj:aH:=.fn [.ag 24,.sc,.ag 5] [.ag 24,.sc]<|.step (.cell 0 0)<|.step (.cell 1 0)<|.step (.cell 2 0)<|.step (.cell 3 0)<|.step (.cell 4 0)<|.step (.cell 5 0)<|.step (.cell 6 0)<|
 .step (.cell 7 0)<|.step (.cell 8 0)<|.step (.cell 9 0)<|.step (.cell 10 0)<|.step (.cell 11 0)<|.step (.cell 12 0)<|.step (.cell 13 0)<|.step (.cell 14 0)<|.step (.cell 15 0)<|.step (.cell 16 0)<|
 .step (.cell 17 0)<|.step (.cell 18 0)<|.step (.cell 19 0)<|.step (.cell 20 0)<|.step (.cell 21 0)<|.step (.cell 22 0)<|.step (.cell 23 0)<|.step (.cell 0 2)<|.step (.cell 1 2)<|
 .step (.cell 2 2)<|.step (.cell 3 2)<|.step (.cell 4 2)<|.step (.mk [3,4,5,6,7,8,9,10,11,12,13,14,15,16,17,18,19,20,21,22,23,24,25,26])<|.step (.call 80 [32] 0)<|
 .step (.cell 0 33)<|.step (.cell 1 33)<|.step (.cell 2 33)<|.step (.cell 3 33)<|.step (.cell 4 33)<|.step (.cell 5 33)<|.step (.cell 6 33)<|.step (.cell 7 33)<|.step (.cell 8 33)<|
 .step (.cell 9 33)<|.step (.cell 10 33)<|.step (.cell 11 33)<|.step (.cell 12 33)<|.step (.cell 13 33)<|.step (.cell 14 33)<|.step (.cell 15 33)<|.step (.cell 16 33)<|.step (.cell 17 33)<|
 .step (.cell 18 33)<|.step (.cell 19 33)<|.step (.cell 20 33)<|.step (.cell 21 33)<|.step (.cell 22 33)<|.step (.cell 23 33)<|.step (.call 84 [1,27,28,29,30,31,34,35,36,37,38,39,40,41,42,43,44,45,46,47,48,49,50,51,52,53,54,55,56,57] 0)<|
 .step (.call 84 [1,27,28,29,30,31,34,35,36,37,38,39,40,41,42,43,44,45,46,47,48,49,50,51,52,53,54,55,56,57] 1)<|.step (.call 84 [1,27,28,29,30,31,34,35,36,37,38,39,40,41,42,43,44,45,46,47,48,49,50,51,52,53,54,55,56,57] 2)<|
 .step (.call 84 [1,27,28,29,30,31,34,35,36,37,38,39,40,41,42,43,44,45,46,47,48,49,50,51,52,53,54,55,56,57] 3)<|.step (.call 84 [1,27,28,29,30,31,34,35,36,37,38,39,40,41,42,43,44,45,46,47,48,49,50,51,52,53,54,55,56,57] 4)<|
 .step (.call 84 [1,27,28,29,30,31,34,35,36,37,38,39,40,41,42,43,44,45,46,47,48,49,50,51,52,53,54,55,56,57] 5)<|.step (.call 84 [1,27,28,29,30,31,34,35,36,37,38,39,40,41,42,43,44,45,46,47,48,49,50,51,52,53,54,55,56,57] 6)<|
 .step (.call 84 [1,27,28,29,30,31,34,35,36,37,38,39,40,41,42,43,44,45,46,47,48,49,50,51,52,53,54,55,56,57] 7)<|.step (.call 84 [1,27,28,29,30,31,34,35,36,37,38,39,40,41,42,43,44,45,46,47,48,49,50,51,52,53,54,55,56,57] 8)<|
 .step (.call 84 [1,27,28,29,30,31,34,35,36,37,38,39,40,41,42,43,44,45,46,47,48,49,50,51,52,53,54,55,56,57] 9)<|.step (.call 84 [1,27,28,29,30,31,34,35,36,37,38,39,40,41,42,43,44,45,46,47,48,49,50,51,52,53,54,55,56,57] 10)<|
 .step (.call 84 [1,27,28,29,30,31,34,35,36,37,38,39,40,41,42,43,44,45,46,47,48,49,50,51,52,53,54,55,56,57] 11)<|.step (.call 84 [1,27,28,29,30,31,34,35,36,37,38,39,40,41,42,43,44,45,46,47,48,49,50,51,52,53,54,55,56,57] 12)<|
 .step (.call 84 [1,27,28,29,30,31,34,35,36,37,38,39,40,41,42,43,44,45,46,47,48,49,50,51,52,53,54,55,56,57] 13)<|.step (.call 84 [1,27,28,29,30,31,34,35,36,37,38,39,40,41,42,43,44,45,46,47,48,49,50,51,52,53,54,55,56,57] 14)<|
 .step (.call 84 [1,27,28,29,30,31,34,35,36,37,38,39,40,41,42,43,44,45,46,47,48,49,50,51,52,53,54,55,56,57] 15)<|.step (.call 84 [1,27,28,29,30,31,34,35,36,37,38,39,40,41,42,43,44,45,46,47,48,49,50,51,52,53,54,55,56,57] 16)<|
 .step (.call 84 [1,27,28,29,30,31,34,35,36,37,38,39,40,41,42,43,44,45,46,47,48,49,50,51,52,53,54,55,56,57] 17)<|.step (.call 84 [1,27,28,29,30,31,34,35,36,37,38,39,40,41,42,43,44,45,46,47,48,49,50,51,52,53,54,55,56,57] 18)<|
 .step (.call 84 [1,27,28,29,30,31,34,35,36,37,38,39,40,41,42,43,44,45,46,47,48,49,50,51,52,53,54,55,56,57] 19)<|.step (.call 84 [1,27,28,29,30,31,34,35,36,37,38,39,40,41,42,43,44,45,46,47,48,49,50,51,52,53,54,55,56,57] 20)<|
 .step (.call 84 [1,27,28,29,30,31,34,35,36,37,38,39,40,41,42,43,44,45,46,47,48,49,50,51,52,53,54,55,56,57] 21)<|.step (.call 84 [1,27,28,29,30,31,34,35,36,37,38,39,40,41,42,43,44,45,46,47,48,49,50,51,52,53,54,55,56,57] 22)<|
 .step (.call 84 [1,27,28,29,30,31,34,35,36,37,38,39,40,41,42,43,44,45,46,47,48,49,50,51,52,53,54,55,56,57] 23)<|.step (.ci .i64 0)<|.step (.bin .neq 59 82)<|
 .ite 83
 (.step (.ci .u64 0)<|.step (.cb false)<|.step (.cs [])<|.step (.ml [])<|.step (.mk [82,84,84,84,84,84,84,84,84,84,84,84,84,84,84,84,82,85,86,86,86,87,87,87])<|
 .ret [88,59])
 (.step (.mk [34,60,61,62,63,64,65,66,67,68,69,70,71,72,73,74,75,76,77,78,79,80,81,57])<|.ret [84,82])
def Vo:aH:=.fn [.sc,.sc] [.sc]<|.step (.len 0)<|.step (.len 1)<|.step (.bin .neq 2 3)<|.ite 4
 (.step (.cb false)<|.ret [5])
 (.step (.ci .i64 0)<|.step (.call 105 [1,0,2,5] 0)<|.step (.bin .eql 6 5)<|.ite 7
 (.step (.cb false)<|.ret [8])
 (.step (.cb true)<|.ret [8]))
def V9:aH:=.fn [.ag 24,.sc] [.sc]<|.step (.cell 0 0)<|.step (.cell 1 0)<|.step (.cell 2 0)<|.step (.cell 3 0)<|.step (.cell 4 0)<|.step (.cell 5 0)<|.step (.cell 6 0)<|.step (.cell 7 0)<|
 .step (.cell 8 0)<|.step (.cell 9 0)<|.step (.cell 10 0)<|.step (.cell 11 0)<|.step (.cell 12 0)<|.step (.cell 13 0)<|.step (.cell 14 0)<|.step (.cell 15 0)<|.step (.cell 16 0)<|
 .step (.cell 17 0)<|.step (.cell 18 0)<|.step (.cell 19 0)<|.step (.cell 20 0)<|.step (.cell 21 0)<|.step (.cell 22 0)<|.step (.cell 23 0)<|.step (.ci .i64 1)<|.step (.bin .lss 1 26)<|
 .ite 27
 (.step (.ci .i64 16)<|.ret [28])
 (.step (.ci .i64 3)<|.step (.bin .gtr 1 28)<|.ite 29
 (.step (.ci .i64 16)<|.ret [30])
 (.step (.call 36 [2] 0)<|.step (.ci .i64 0)<|.step (.bin .eql 30 31)<|.ite 32
 (.step (.ci .i64 15)<|.ret [33])
 (.step (.bin .gtr 30 1)<|.ite 33
 (.step (.ci .i64 15)<|.ret [34])
 (.step (.call 37 [2,1] 0)<|.step (.len 34)<|.step (.ml [])<|.step (.call 47 [34,35,31,36,2,3,4,5,6,7,8,9,10,11,12,13,14,15,16,17,18,19,20,21,22,23,24,25] 0)<|
 .step (.call 47 [34,35,31,36,2,3,4,5,6,7,8,9,10,11,12,13,14,15,16,17,18,19,20,21,22,23,24,25] 1)<|.step (.call 48 [] 0)<|.step (.len 39)<|.step (.call 49 [34,39,40,31,38,2,3,4,5,6,7,8,9,10,11,12,13,14,15,16,17,18,19,20,21,22,23,24,25] 0)<|
 .step (.bin .eql 41 31)<|.ite 42
 (.step (.ci .i64 26)<|.ret [43])
 (.step (.call 50 [34,35,31,2,3,4,5,6,7,8,9,10,11,12,13,14,15,16,17,18,19,20,21,22,23,24,25] 0)<|.step (.bin .eql 43 31)<|.ite 44
 (.step (.call 50 [34,35,31,2,3,4,5,6,7,8,9,10,11,12,13,14,15,16,17,18,19,20,21,22,23,24,25] 1)<|.ret [45])
 (.step (.bin .eql 2 26)<|.ite 45
 (.step (.ci .u64 1)<|.step (.bin .lss 4 46)<|.ite 47
 (.step (.ci .i64 18)<|.ret [48])
 (.step (.bin .lss 5 4)<|.ite 48
 (.step (.ci .i64 18)<|.ret [49])
 (.step (.ci .u64 255)<|.step (.bin .gtr 5 49)<|.ite 50
 (.step (.ci .i64 18)<|.ret [51])
 (.step (.call 74 [25] 0)<|.step (.bin .neq 51 31)<|.ite 52
 (.ret [51])
 (.step (.len 25)<|.step (.call 77 [34,25,53,31] 0)<|.step (.bin .eql 54 31)<|.ite 55
 (.step (.ci .i64 14)<|.ret [56])
 (.ret [31]))))))
 (.step (.ci .i64 2)<|.step (.bin .eql 2 46)<|.ite 47
 (.step (.ci .u64 1)<|.step (.bin .lss 6 48)<|.ite 49
 (.step (.ci .i64 18)<|.ret [50])
 (.step (.ci .u64 255)<|.step (.bin .gtr 6 50)<|.ite 51
 (.step (.ci .i64 18)<|.ret [52])
 (.step (.call 74 [25] 0)<|.step (.bin .neq 52 31)<|.ite 53
 (.ret [52])
 (.step (.len 25)<|.step (.call 77 [34,25,54,31] 0)<|.step (.bin .eql 55 31)<|.ite 56
 (.step (.ci .i64 14)<|.ret [57])
 (.ret [31])))))
 (.step (.bin .eql 2 28)<|.ite 48
 (.step (.len 23)<|.step (.bin .eql 49 31)<|.ite 50
 (.step (.ci .i64 12)<|.ret [51])
 (.step (.call 74 [25] 0)<|.step (.bin .neq 51 31)<|.ite 52
 (.ret [51])
 (.step (.len 25)<|.step (.call 77 [34,25,53,31] 0)<|.step (.bin .eql 54 31)<|.ite 55
 (.step (.ci .i64 14)<|.ret [56])
 (.ret [31]))))
 (.step (.ci .i64 5)<|.step (.bin .eql 2 49)<|.ite 50
 (.step (.ci .u64 1)<|.step (.bin .lss 12 51)<|.ite 52
 (.step (.ci .i64 18)<|.ret [53])
 (.step (.call 74 [25] 0)<|.step (.bin .neq 53 31)<|.ite 54
 (.ret [53])
 (.step (.len 25)<|.step (.call 77 [34,25,55,31] 0)<|.step (.bin .eql 56 31)<|.ite 57
 (.step (.ci .i64 14)<|.ret [58])
 (.ret [31]))))
 (.step (.ci .i64 6)<|.step (.bin .eql 2 51)<|.ite 52
 (.step (.ci .u64 1)<|.step (.bin .lss 13 53)<|.ite 54
 (.step (.ci .i64 18)<|.ret [55])
 (.step (.bin .leq 12 13)<|.ite 55
 (.step (.ci .i64 20)<|.ret [56])
 (.step (.call 74 [25] 0)<|.step (.bin .neq 56 31)<|.ite 57
 (.ret [56])
 (.step (.len 25)<|.step (.call 77 [34,25,58,31] 0)<|.step (.bin .eql 59 31)<|.ite 60
 (.step (.ci .i64 14)<|.ret [61])
 (.ret [31])))))
 (.step (.call 74 [25] 0)<|.step (.bin .neq 53 31)<|.ite 54
 (.ret [53])
 (.step (.len 25)<|.step (.call 77 [34,25,55,31] 0)<|.step (.bin .eql 56 31)<|.ite 57
 (.step (.ci .i64 14)<|.ret [58])
 (.ret [31])))))))))))))
def VU:aH:=.fn [.ag 2] [.sc]<|.step (.cell 0 0)<|.step (.cell 1 0)<|.step (.call 25 [1] 0)<|.step (.ci .i64 0)<|.step (.bin .neq 3 4)<|.ite 5
 (.ret [3])
 (.step (.ci .u64 0)<|.step (.bin .eql 2 6)<|.ite 7
 (.step (.ci .i64 18)<|.ret [8])
 (.ret [4]))
def V6:aH:=.fn [.sc,.sc] [.sc]<|.step (.call 33 [0,1] 0)<|.step (.conv .u64 2)<|.step (.call 8 [3] 0)<|.step (.slen 1)<|.step (.bin .sub 5 2)<|.step (.conv .u64 6)<|.step (.call 8 [7] 0)<|
 .step (.bin .add 4 8)<|.step (.iC 1 2 5)<|.step (.bin .add 9 10)<|.ret [11]
def Wn:aH:=.fn [] [.sc]<|.step (.ci .u64 1)<|.step (.ci .i64 0)<|.step (.ci .i64 1)<|.step (.cs [99,104,111,115,101,110])<|.step (.mk [0,1,2,3])<|.step (.ci .u64 2)<|
 .step (.ci .i64 3)<|.step (.cs [110,97,109,101])<|.step (.mk [5,6,2,7])<|.step (.ci .u64 3)<|.step (.ci .i64 2)<|.step (.cs [114,101,103,105,111,110])<|.step (.mk [9,6,10,11])<|
 .step (.ml [4,8,12])<|.ret [13]
def d3:aH:=.fn [.sc] [.sc]<|.step (.len 0)<|.step (.ci .i64 0)<|.step (.call 4 [0,1,2] 0)<|.step (.bin .eql 3 2)<|.ite 4
 (.step (.cb false)<|.ret [5])
 (.step (.ci .i64 40)<|.step (.bin .leq 1 5)<|.ret [6])
def V7:aH:=.fn [.sc,.sc] [.sc]<|.step (.ci .i64 0)<|.step (.call 34 [0,1,2] 0)<|.step (.call 34 [0,1,2] 1)<|.ret [4]
def d7:aH:=.fn [.sc] [.sc]<|.step (.len 0)<|.step (.conv .u64 1)<|.step (.call 8 [2] 0)<|.step (.bytes 3)<|.step (.ml [])<|.step (.app 1 1 5 4)<|.step (.slen 3)<|.step (.ci .i64 0)<|
 .step (.call 12 [0,1,8,6] 0)<|.step (.call 12 [0,1,8,6] 1)<|.step (.len 10)<|.step (.str 10)<|.ret [12]
def d13:aH:=.fn [.ag 2] [.sc]<|.step (.cell 0 0)<|.step (.cell 1 0)<|.step (.slen 1)<|.step (.conv .u64 3)<|.step (.call 8 [4] 0)<|.step (.bin .add 5 1)<|.step (.slen 2)<|.step (.conv .u64 7)<|
 .step (.call 8 [8] 0)<|.step (.bin .add 6 9)<|.step (.bin .add 10 2)<|.ret [11]
def VP:aH:=.fn [.sc] [.sc,.sc]<|.step (.call 22 [0] 0)<|.step (.ci .i64 0)<|.step (.bin .neq 1 2)<|.ite 3
 (.step (.cs [])<|.ret [4,1])
 (.step (.len 0)<|.step (.conv .u64 4)<|.step (.call 8 [5] 0)<|.step (.bytes 6)<|.step (.ml [])<|.step (.app 1 1 8 7)<|.step (.slen 6)<|.step (.cs [])<|.step (.call 31 [11,0,4,2,9] 0)<|
 .step (.call 31 [11,0,4,2,9] 1)<|.step (.len 13)<|.step (.str 13)<|.ret [15,2])
def d5:aH:=.fn [.sc] [.sc]<|.step (.len 0)<|.step (.ci .i64 0)<|.step (.call 6 [0,1,2] 0)<|.step (.bin .eql 3 2)<|.ite 4
 (.step (.cb false)<|.ret [5])
 (.step (.ci .i64 300)<|.step (.bin .leq 1 5)<|.ret [6])
def VK:aH:=.fn [.sc] [.sc]<|.step (.ci .u8 0)<|.step (.call 18 [0,1] 0)<|.step (.call 18 [0,1] 1)<|.ret [2]
def VH:aH:=.fn [.sc] [.sc]<|.step (.len 0)<|.step (.ci .i64 0)<|.step (.call 15 [0,1,2] 0)<|.step (.bin .eql 3 2)<|.ite 4
 (.step (.cb false)<|.ret [5])
 (.step (.ci .i64 60)<|.step (.bin .leq 1 5)<|.ret [6])
def Xe:aH:=.fn [.sc] [.sc]<|.step (.ci .i64 0)<|.step (.call 75 [0,1] 0)<|.ret [2]
def Xf:aH:=.fn [.sc,.sc] [.sc]<|.step (.len 0)<|.step (.ci .u64 0)<|.step (.ci .i64 0)<|.step (.call 76 [1,3,0,2,4] 0)<|.step (.bin .eql 5 4)<|.ite 6
 (.step (.call 76 [1,3,0,2,4] 1)<|.ret [7])
 (.ret [4])
def XE:aH:=.fn [.ag 24,.ag 24] [.sc]<|.step (.cell 0 0)<|.step (.cell 1 0)<|.step (.cell 2 0)<|.step (.cell 3 0)<|.step (.cell 4 0)<|.step (.cell 5 0)<|.step (.cell 6 0)<|
 .step (.cell 7 0)<|.step (.cell 8 0)<|.step (.cell 9 0)<|.step (.cell 10 0)<|.step (.cell 11 0)<|.step (.cell 12 0)<|.step (.cell 13 0)<|.step (.cell 14 0)<|.step (.cell 15 0)<|.step (.cell 16 0)<|
 .step (.cell 17 0)<|.step (.cell 18 0)<|.step (.cell 19 0)<|.step (.cell 20 0)<|.step (.cell 21 0)<|.step (.cell 22 0)<|.step (.cell 23 0)<|.step (.cell 0 1)<|.step (.cell 1 1)<|
 .step (.cell 2 1)<|.step (.cell 3 1)<|.step (.cell 4 1)<|.step (.cell 5 1)<|.step (.cell 6 1)<|.step (.cell 7 1)<|.step (.cell 8 1)<|.step (.cell 9 1)<|.step (.cell 10 1)<|.step (.cell 11 1)<|
 .step (.cell 12 1)<|.step (.cell 13 1)<|.step (.cell 14 1)<|.step (.cell 15 1)<|.step (.cell 16 1)<|.step (.cell 17 1)<|.step (.cell 18 1)<|.step (.cell 19 1)<|.step (.cell 20 1)<|
 .step (.cell 21 1)<|.step (.cell 22 1)<|.step (.cell 23 1)<|.step (.bin .neq 2 26)<|.ite 50
 (.step (.cb false)<|.ret [51])
 (.step (.call 48 [] 0)<|.step (.len 51)<|.step (.ci .i64 0)<|.step (.call 100 [51,52,53,26,27,28,29,30,31,32,33,34,35,36,37,38,39,40,41,42,43,44,45,46,47,48,49,2,3,4,5,6,7,8,9,10,11,12,13,14,15,16,17,18,19,20,21,22,23,24,25] 0)<|
 .step (.bin .eql 54 53)<|.ite 55
 (.step (.cb false)<|.ret [56])
 (.step (.call 107 [25,49] 0)<|.ret [56]))
def Wh:aH:=.fn [.sc] [.sc]<|.step (.ci .i64 0)<|.step (.bin .eql 0 1)<|.step (.ci .i64 1)<|.step (.bin .eql 0 3)<|.ite 4
 (.ret [3])
 (.step (.ci .i64 2)<|.step (.bin .eql 0 5)<|.ite 6
 (.ret [3])
 (.step (.ci .i64 3)<|.step (.bin .eql 0 7)<|.ite 8
 (.ret [3])
 (.step (.ci .i64 4)<|.step (.bin .eql 0 9)<|.ite 10
 (.ret [3])
 (.step (.ci .i64 5)<|.step (.bin .eql 0 11)<|.ite 12
 (.ret [3])
 (.step (.ci .i64 6)<|.step (.bin .eql 0 13)<|.ite 14
 (.ret [5])
 (.step (.ci .i64 7)<|.step (.bin .eql 0 15)<|.ite 16
 (.ret [3])
 (.step (.ci .i64 8)<|.step (.bin .eql 0 17)<|.ite 18
 (.ret [3])
 (.ret [1]))))))))
def Wj:aH:=.fn [] [.sc]<|.step (.ci .u64 1)<|.step (.ci .i64 0)<|.step (.ci .i64 1)<|.step (.cs [109,105,110])<|.step (.mk [0,1,2,3])<|.step (.ci .u64 2)<|.step (.cs [109,97,120])<|
 .step (.mk [5,1,2,6])<|.step (.ci .u64 3)<|.step (.ci .i64 3)<|.step (.cs [110,97,109,101])<|.step (.mk [8,9,2,10])<|.step (.ci .u64 4)<|.step (.ci .i64 2)<|.step (.cs [114,101,103,105,111,110])<|
 .step (.mk [12,9,13,14])<|.step (.ci .u64 5)<|.step (.cs [102,108,97,103,115])<|.step (.mk [16,1,9,17])<|.step (.ml [4,7,11,15,18])<|.ret [19]
def Ws:aH:=.fn [] [.sc]<|.step (.ci .u64 1)<|.step (.ci .i64 0)<|.step (.ci .i64 1)<|.step (.cs [101,112,111,99,104])<|.step (.mk [0,1,2,3])<|.step (.ci .u64 2)<|.step (.ci .i64 5)<|
 .step (.cs [116,97,98,108,101])<|.step (.mk [5,6,2,7])<|.step (.ci .u64 3)<|.step (.ci .i64 3)<|.step (.ci .i64 2)<|.step (.cs [114,101,103,105,111,110])<|.step (.mk [9,10,11,12])<|
 .step (.ci .u64 4)<|.step (.cs [100,105,103,101,115,116])<|.step (.mk [14,1,10,15])<|.step (.ml [4,8,13,16])<|.ret [17]
abbrev WA:aH:=.vg Ho
def Xz:aH:=.fn [.sc] [.sc,.sc]<|.step (.ci .i64 0)<|.step (.call 95 [0,1] 0)<|.step (.call 95 [0,1] 1)<|.step (.call 95 [0,1] 2)<|.step (.call 95 [0,1] 3)<|.step (.call 95 [0,1] 4)<|
 .step (.bin .neq 4 1)<|.ite 7
 (.step (.ml [])<|.ret [8,4])
 (.step (.slen 5)<|.step (.bin .sub 8 6)<|.step (.bin .gtr 9 1)<|.ite 10
 (.step (.ml [])<|.step (.ci .i64 10)<|.ret [11,12])
 (.ret [3,1]))
def Vr:aH:=.fn [.sc,.sc] [.sc]<|.step (.mk [0,1])<|.step (.ml [2])<|.step (.call 108 [3] 0)<|.step (.ci .i64 0)<|.step (.bin .eql 4 5)<|.ite 6
 (.step (.cb false)<|.ret [7])
 (.step (.cb true)<|.ret [7])
def d8:aH:=.fn [.sc] [.sc]<|.step (.call 9 [0] 0)<|.step (.ci .u8 0)<|.step (.rep 1 1 2 1 1)<|.step (.len 3)<|.step (.ci .i64 0)<|.step (.call 11 [0,3,4,5] 0)<|.step (.call 11 [0,3,4,5] 1)<|
 .step (.len 7)<|.step (.ci .i64 1)<|.step (.bin .sub 8 9)<|.step (.idx 7 10)<|.step (.at 1 7 11)<|.step (.cell 0 12)<|.step (.ci .u8 127)<|.step (.bin .and 13 14)<|.step (.upd 1 0 7 11 [15])<|
 .step (.str 16)<|.ret [17]
abbrev Xn:aH:=.vg Au
def Vq:aH:=.fn [.ag 2,.ag 2] [.sc]<|.step (.cell 0 0)<|.step (.cell 1 0)<|.step (.cell 0 1)<|.step (.cell 1 1)<|.step (.bin .eql 3 5)<|.ite 6
 (.step (.call 101 [2,4] 0)<|.ret [7])
 (.step (.cb false)<|.ret [7])
def Vm:aH:=.fn [.sc,.sc] [.sc]<|.step (.call 104 [0,1] 0)<|.ret [2]
def Wp:aH:=.fn [] [.sc]<|.step (.ci .u64 1)<|.step (.ci .i64 0)<|.step (.ci .i64 1)<|.step (.cs [105,100])<|.step (.mk [0,1,2,3])<|.step (.ci .u64 2)<|.step (.ci .i64 4)<|
 .step (.cs [100,101,115,99,114])<|.step (.mk [5,6,2,7])<|.step (.ci .u64 3)<|.step (.cs [99,111,115,116])<|.step (.mk [9,1,2,10])<|.step (.ci .u64 4)<|.step (.ci .i64 2)<|
 .step (.cs [112,114,105,111,114,105,116,121])<|.step (.mk [12,1,13,14])<|.step (.ci .u64 5)<|.step (.ci .i64 3)<|.step (.cs [100,101,97,100,108,105,110,101])<|.step (.mk [16,1,17,18])<|
 .step (.ml [4,8,11,15,19])<|.ret [20]
def VL:aH:=.fn [.sc,.sc] [.sc,.sc]<|.step (.ml [])<|.step (.call 19 [0,1,2] 0)<|.step (.call 19 [0,1,2] 1)<|.step (.call 19 [0,1,2] 2)<|.ret [5,4]
def VW:aH:=.fn [.sc] [.sc]<|.step (.len 0)<|.step (.conv .u64 1)<|.step (.ci .u64 0)<|.step (.bin .eql 2 3)<|.ite 4
 (.step (.ci .i64 12)<|.ret [5])
 (.step (.ci .u64 16)<|.step (.bin .gtr 2 5)<|.ite 6
 (.step (.ci .i64 13)<|.ret [7])
 (.step (.ci .i64 0)<|.step (.call 26 [0,1,7] 0)<|.step (.bin .eql 8 7)<|.ite 9
 (.step (.call 26 [0,1,7] 1)<|.ret [10])
 (.ret [7])))
def Wi:aH:=.fn [.sc,.sc] [.sc]<|.step (.ci .i64 0)<|.step (.bin .eql 0 2)<|.step (.ci .i64 1)<|.step (.bin .eql 0 4)<|.ite 5
 (.step (.bin .lss 1 4)<|.ite 6
 (.step (.ml [])<|.ret [7])
 (.step (.ci .i64 3)<|.step (.bin .gtr 1 7)<|.ite 8
 (.step (.ml [])<|.ret [9])
 (.step (.call 38 [] 0)<|.step (.len 9)<|.step (.ml [])<|.step (.call 39 [1,11,9,10,2] 0)<|.step (.call 39 [1,11,9,10,2] 1)<|.ret [13])))
 (.step (.ci .i64 2)<|.step (.bin .eql 0 6)<|.ite 7
 (.step (.bin .lss 1 4)<|.ite 8
 (.step (.ml [])<|.ret [9])
 (.step (.ci .i64 3)<|.step (.bin .gtr 1 9)<|.ite 10
 (.step (.ml [])<|.ret [11])
 (.step (.call 40 [] 0)<|.step (.len 11)<|.step (.ml [])<|.step (.call 39 [1,13,11,12,2] 0)<|.step (.call 39 [1,13,11,12,2] 1)<|.ret [15])))
 (.step (.ci .i64 3)<|.step (.bin .eql 0 8)<|.ite 9
 (.step (.bin .lss 1 4)<|.ite 10
 (.step (.ml [])<|.ret [11])
 (.step (.bin .gtr 1 8)<|.ite 11
 (.step (.ml [])<|.ret [12])
 (.step (.call 41 [] 0)<|.step (.len 12)<|.step (.ml [])<|.step (.call 39 [1,14,12,13,2] 0)<|.step (.call 39 [1,14,12,13,2] 1)<|.ret [16])))
 (.step (.ci .i64 4)<|.step (.bin .eql 0 10)<|.ite 11
 (.step (.bin .lss 1 4)<|.ite 12
 (.step (.ml [])<|.ret [13])
 (.step (.bin .gtr 1 8)<|.ite 13
 (.step (.ml [])<|.ret [14])
 (.step (.call 42 [] 0)<|.step (.len 14)<|.step (.ml [])<|.step (.call 39 [1,16,14,15,2] 0)<|.step (.call 39 [1,16,14,15,2] 1)<|.ret [18])))
 (.step (.ci .i64 5)<|.step (.bin .eql 0 12)<|.ite 13
 (.step (.bin .lss 1 4)<|.ite 14
 (.step (.ml [])<|.ret [15])
 (.step (.bin .gtr 1 8)<|.ite 15
 (.step (.ml [])<|.ret [16])
 (.step (.call 43 [] 0)<|.step (.len 16)<|.step (.ml [])<|.step (.call 39 [1,18,16,17,2] 0)<|.step (.call 39 [1,18,16,17,2] 1)<|.ret [20])))
 (.step (.ci .i64 6)<|.step (.bin .eql 0 14)<|.ite 15
 (.step (.bin .lss 1 6)<|.ite 16
 (.step (.ml [])<|.ret [17])
 (.step (.bin .gtr 1 8)<|.ite 17
 (.step (.ml [])<|.ret [18])
 (.step (.call 44 [] 0)<|.step (.len 18)<|.step (.ml [])<|.step (.call 39 [1,20,18,19,2] 0)<|.step (.call 39 [1,20,18,19,2] 1)<|.ret [22])))
 (.step (.ci .i64 7)<|.step (.bin .eql 0 16)<|.ite 17
 (.step (.bin .lss 1 4)<|.ite 18
 (.step (.ml [])<|.ret [19])
 (.step (.bin .gtr 1 8)<|.ite 19
 (.step (.ml [])<|.ret [20])
 (.step (.call 45 [] 0)<|.step (.len 20)<|.step (.ml [])<|.step (.call 39 [1,22,20,21,2] 0)<|.step (.call 39 [1,22,20,21,2] 1)<|.ret [24])))
 (.step (.ci .i64 8)<|.step (.bin .eql 0 18)<|.ite 19
 (.step (.bin .lss 1 4)<|.ite 20
 (.step (.ml [])<|.ret [21])
 (.step (.bin .gtr 1 8)<|.ite 21
 (.step (.ml [])<|.ret [22])
 (.step (.call 46 [] 0)<|.step (.len 22)<|.step (.ml [])<|.step (.call 39 [1,24,22,23,2] 0)<|.step (.call 39 [1,24,22,23,2] 1)<|.ret [26])))
 (.step (.ml [])<|.ret [20]))))))))
abbrev Xl:aH:=.vg (Ah 32 2)
def Wu:aH:=.fn [] [.sc]<|.step (.ci .u64 1)<|.step (.ci .i64 0)<|.step (.ci .i64 2)<|.step (.cs [98,97,115,101])<|.step (.mk [0,1,2,3])<|.step (.ci .u64 2)<|.step (.cs [101,112,111,99,104])<|
 .step (.mk [5,1,2,6])<|.step (.ci .u64 3)<|.step (.ci .i64 5)<|.step (.cs [116,97,98,108,101])<|.step (.mk [8,9,2,10])<|.step (.ci .u64 4)<|.step (.ci .i64 3)<|.step (.cs [114,101,103,105,111,110])<|
 .step (.mk [12,13,2,14])<|.step (.ci .u64 5)<|.step (.cs [100,105,103,101,115,116])<|.step (.mk [16,1,13,17])<|.step (.ml [4,7,11,15,18])<|.ret [19]
def Xk:aH:=.fn [.ag 24] [.ag 24]<|.step (.cell 0 0)<|.step (.cell 1 0)<|.step (.cell 2 0)<|.step (.cell 3 0)<|.step (.cell 4 0)<|.step (.cell 5 0)<|.step (.cell 6 0)<|.step (.cell 7 0)<|
 .step (.cell 8 0)<|.step (.cell 9 0)<|.step (.cell 10 0)<|.step (.cell 11 0)<|.step (.cell 12 0)<|.step (.cell 13 0)<|.step (.cell 14 0)<|.step (.cell 15 0)<|.step (.cell 16 0)<|
 .step (.cell 17 0)<|.step (.cell 18 0)<|.step (.cell 19 0)<|.step (.cell 20 0)<|.step (.cell 21 0)<|.step (.cell 22 0)<|.step (.cell 23 0)<|.step (.call 81 [22] 0)<|.step (.len 23)<|
 .step (.ml [])<|.step (.ci .u64 0)<|.step (.mk [27,28])<|.step (.ci .i64 0)<|.step (.rep 2 32 29 30 26)<|.step (.call 82 [31,23,26,30,1,2,3,4,5,6,7,8,9,10,11,12,13,14,15,16,17,18,19,20,21,25,24] 0)<|
 .step (.call 82 [31,23,26,30,1,2,3,4,5,6,7,8,9,10,11,12,13,14,15,16,17,18,19,20,21,25,24] 1)<|.step (.call 83 [24] 0)<|.step (.mk [1,2,3,4,5,6,7,8,9,10,11,12,13,14,15,16,17,18,19,20,21,25,33,34])<|
 .ret [35]
def V3:aH:=.fn [.sc] [.sc]<|.step (.call 30 [0] 0)<|.ret [1]
def VZ:aH:=.fn [.sc,.sc,.sc] [.sc]<|.step (.slen 0)<|.step (.bin .lss 3 1)<|.ite 4
 (.step (.ci .i64 13)<|.ret [5])
 (.step (.bin .gtr 3 2)<|.ite 5
 (.step (.ci .i64 13)<|.ret [6])
 (.step (.call 29 [0] 0)<|.step (.un .not 6)<|.ite 7
 (.step (.ci .i64 11)<|.ret [8])
 (.step (.ci .i64 0)<|.ret [8])))
def VY:aH:=.fn [.ag 2] [.sc]<|.step (.cell 0 0)<|.step (.cell 1 0)<|.step (.ci .i64 1)<|.step (.ci .i64 64)<|.step (.call 28 [1,3,4] 0)<|.step (.ci .i64 0)<|.step (.bin .neq 5 6)<|
 .ite 7
 (.ret [5])
 (.step (.ci .i64 256)<|.step (.call 28 [2,6,8] 0)<|.ret [9])
def d2:aH:=.fn [.ag 24] [.sc]<|.step (.cell 0 0)<|.step (.cell 1 0)<|.step (.cell 2 0)<|.step (.cell 3 0)<|.step (.cell 4 0)<|.step (.cell 5 0)<|.step (.cell 6 0)<|.step (.cell 7 0)<|
 .step (.cell 8 0)<|.step (.cell 9 0)<|.step (.cell 10 0)<|.step (.cell 11 0)<|.step (.cell 12 0)<|.step (.cell 13 0)<|.step (.cell 14 0)<|.step (.cell 15 0)<|.step (.cell 16 0)<|
 .step (.cell 17 0)<|.step (.cell 18 0)<|.step (.cell 19 0)<|.step (.cell 20 0)<|.step (.cell 21 0)<|.step (.cell 22 0)<|.step (.cell 23 0)<|.step (.slen 19)<|.step (.ci .i64 600)<|
 .step (.bin .leq 25 26)<|.ite 27
 (.step (.slen 20)<|.step (.bin .leq 28 26)<|.ite 29
 (.step (.slen 21)<|.step (.bin .leq 30 26)<|.ite 31
 (.step (.call 3 [22] 0)<|.ite 32
 (.step (.call 5 [23] 0)<|.ite 33
 (.step (.call 14 [24] 0)<|.ret [34])
 (.step (.cb false)<|.ret [34]))
 (.step (.cb false)<|.ret [33]))
 (.step (.cb false)<|.ret [32]))
 (.step (.cb false)<|.ret [30]))
 (.step (.cb false)<|.ret [28])
def Wx:aH:=.fn [] [.sc]<|.step (.ci .u64 1)<|.step (.ci .i64 0)<|.step (.ci .i64 1)<|.step (.cs [101,112,111,99,104])<|.step (.mk [0,1,2,3])<|.step (.ci .u64 2)<|.step (.cs [99,111,100,101])<|
 .step (.mk [5,1,2,6])<|.step (.ci .u64 3)<|.step (.ci .i64 2)<|.step (.cs [119,97,110,116])<|.step (.mk [8,1,9,10])<|.step (.ci .u64 4)<|.step (.ci .i64 3)<|.step (.cs [110,111,116,101])<|
 .step (.mk [12,13,13,14])<|.step (.ml [4,7,11,15])<|.ret [16]
def Xu:aH:=.fn [.sc] [.sc,.sc,.sc]<|.step (.slen 0)<|.step (.ci .i64 10)<|.step (.mm false 1 2)<|.step (.ci .u64 0)<|.step (.ci .i64 0)<|.step (.call 90 [0,4,3,5] 0)<|
 .step (.bin .eql 6 5)<|.ite 7
 (.step (.call 90 [0,4,3,5] 1)<|.step (.call 90 [0,4,3,5] 2)<|.step (.call 90 [0,4,3,5] 3)<|.ret [8,9,10])
 (.step (.call 90 [0,4,3,5] 1)<|.step (.slen 8)<|.step (.bin .geq 9 2)<|.ite 10
 (.step (.ci .i64 3)<|.ret [4,5,11])
 (.step (.ci .i64 1)<|.ret [4,5,11]))
def Xp:aH:=.fn [.sc] [.sc]<|.step (.ci .i64 0)<|.step (.bin .eql 0 1)<|.ite 2
 (.ret [1])
 (.step (.ci .i64 1)<|.step (.bin .eql 0 3)<|.ite 4
 (.ret [1])
 (.step (.ci .i64 2)<|.step (.bin .eql 0 5)<|.ite 6
 (.ret [1])
 (.step (.ci .i64 3)<|.step (.bin .eql 0 7)<|.ite 8
 (.ret [3])
 (.step (.ci .i64 4)<|.step (.bin .eql 0 9)<|.ite 10
 (.ret [3])
 (.step (.ci .i64 5)<|.step (.bin .eql 0 11)<|.ite 12
 (.ret [3])
 (.step (.ci .i64 (-1))<|.ret [13]))))))
def Vk:aH:=.fn [.sc,.sc] [.sc]<|.step (.len 0)<|.step (.len 1)<|.step (.bin .neq 2 3)<|.ite 4
 (.step (.cb false)<|.ret [5])
 (.step (.ci .i64 0)<|.step (.call 102 [0,1,2,5] 0)<|.step (.bin .eql 6 5)<|.ite 7
 (.step (.cb false)<|.ret [8])
 (.step (.cb true)<|.ret [8]))
def d1:aH:=.fn [.ag 24,.ag 24,.sc,.sc] [.sc]<|.step (.cell 0 0)<|.step (.cell 1 0)<|.step (.cell 2 0)<|.step (.cell 3 0)<|.step (.cell 4 0)<|.step (.cell 5 0)<|.step (.cell 6 0)<|
 .step (.cell 7 0)<|.step (.cell 8 0)<|.step (.cell 9 0)<|.step (.cell 10 0)<|.step (.cell 11 0)<|.step (.cell 12 0)<|.step (.cell 13 0)<|.step (.cell 14 0)<|.step (.cell 15 0)<|.step (.cell 16 0)<|
 .step (.cell 17 0)<|.step (.cell 18 0)<|.step (.cell 19 0)<|.step (.cell 20 0)<|.step (.cell 21 0)<|.step (.cell 22 0)<|.step (.cell 23 0)<|.step (.cell 0 1)<|.step (.cell 1 1)<|
 .step (.cell 2 1)<|.step (.cell 3 1)<|.step (.cell 4 1)<|.step (.cell 5 1)<|.step (.cell 6 1)<|.step (.cell 7 1)<|.step (.cell 8 1)<|.step (.cell 9 1)<|.step (.cell 10 1)<|.step (.cell 11 1)<|
 .step (.cell 12 1)<|.step (.cell 13 1)<|.step (.cell 14 1)<|.step (.cell 15 1)<|.step (.cell 16 1)<|.step (.cell 17 1)<|.step (.cell 18 1)<|.step (.cell 19 1)<|.step (.cell 20 1)<|
 .step (.cell 21 1)<|.step (.cell 22 1)<|.step (.cell 23 1)<|.step (.mk [4,5,6,7,8,9,10,11,12,13,14,15,16,17,18,19,20,21,22,23,24,25,26,27])<|.step (.call 2 [52] 0)<|
 .step (.un .not 53)<|.ite 54
 (.step (.cb true)<|.ret [55])
 (.step (.mk [28,29,30,31,32,33,34,35,36,37,38,39,40,41,42,43,44,45,46,47,48,49,50,51])<|.step (.call 2 [55] 0)<|.step (.un .not 56)<|.ite 57
 (.step (.cb true)<|.ret [58])
 (.step (.call 16 [52] 0)<|.step (.cell 0 58)<|.step (.cell 1 58)<|.step (.cell 2 58)<|.step (.cell 3 58)<|.step (.cell 4 58)<|.step (.cell 5 58)<|.step (.cell 6 58)<|.step (.cell 7 58)<|
 .step (.cell 8 58)<|.step (.cell 9 58)<|.step (.cell 10 58)<|.step (.cell 11 58)<|.step (.cell 12 58)<|.step (.cell 13 58)<|.step (.cell 14 58)<|.step (.cell 15 58)<|.step (.cell 16 58)<|
 .step (.cell 17 58)<|.step (.cell 18 58)<|.step (.cell 19 58)<|.step (.cell 20 58)<|.step (.cell 21 58)<|.step (.cell 22 58)<|.step (.cell 23 58)<|.step (.call 16 [55] 0)<|.step (.cell 0 83)<|
 .step (.cell 1 83)<|.step (.cell 2 83)<|.step (.cell 3 83)<|.step (.cell 4 83)<|.step (.cell 5 83)<|.step (.cell 6 83)<|.step (.cell 7 83)<|.step (.cell 8 83)<|.step (.cell 9 83)<|
 .step (.cell 10 83)<|.step (.cell 11 83)<|.step (.cell 12 83)<|.step (.cell 13 83)<|.step (.cell 14 83)<|.step (.cell 15 83)<|.step (.cell 16 83)<|.step (.cell 17 83)<|.step (.cell 18 83)<|
 .step (.cell 19 83)<|.step (.cell 20 83)<|.step (.cell 21 83)<|.step (.cell 22 83)<|.step (.cell 23 83)<|.step (.mk [59,60,61,62,63,64,65,66,67,68,69,70,71,72,73,74,75,76,77,78,79,80,81,82])<|
 .step (.call 20 [108,3] 0)<|.step (.cell 0 109)<|.step (.cell 1 109)<|.step (.cell 2 109)<|.step (.cell 3 109)<|.step (.cell 4 109)<|.step (.call 20 [108,3] 1)<|.step (.call 35 [108,2] 0)<|
 .step (.ci .i64 0)<|.step (.bin .neq 116 117)<|.ite 118
 (.step (.cb true)<|.ret [119])
 (.step (.un .not 115)<|.ite 119
 (.step (.cb true)<|.ret [120])
 (.step (.ci .u64 0)<|.step (.bin .eql 112 120)<|.ite 121
 (.step (.cs [])<|.step (.bin .eql 113 122)<|.ite 123
 (.step (.cb true)<|.ret [124])
 (.step (.mk [110,111,112,113,114])<|.step (.call 79 [108,3,124] 0)<|.step (.cell 0 125)<|.step (.cell 1 125)<|.step (.cell 2 125)<|.step (.cell 3 125)<|.step (.cell 4 125)<|
 .step (.cell 5 125)<|.step (.cell 6 125)<|.step (.cell 7 125)<|.step (.cell 8 125)<|.step (.cell 9 125)<|.step (.cell 10 125)<|.step (.cell 11 125)<|.step (.cell 12 125)<|.step (.cell 13 125)<|
 .step (.cell 14 125)<|.step (.cell 15 125)<|.step (.cell 16 125)<|.step (.cell 17 125)<|.step (.cell 18 125)<|.step (.cell 19 125)<|.step (.cell 20 125)<|.step (.cell 21 125)<|.step (.cell 22 125)<|
 .step (.cell 23 125)<|.step (.call 79 [108,3,124] 1)<|.step (.mk [84,85,86,87,88,89,90,91,92,93,94,95,96,97,98,99,100,101,102,103,104,105,106,107])<|.step (.call 79 [151,3,124] 0)<|
 .step (.cell 0 152)<|.step (.cell 1 152)<|.step (.cell 2 152)<|.step (.cell 3 152)<|.step (.cell 4 152)<|.step (.cell 5 152)<|.step (.cell 6 152)<|.step (.cell 7 152)<|.step (.cell 8 152)<|
 .step (.cell 9 152)<|.step (.cell 10 152)<|.step (.cell 11 152)<|.step (.cell 12 152)<|.step (.cell 13 152)<|.step (.cell 14 152)<|.step (.cell 15 152)<|.step (.cell 16 152)<|.step (.cell 17 152)<|
 .step (.cell 18 152)<|.step (.cell 19 152)<|.step (.cell 20 152)<|.step (.cell 21 152)<|.step (.cell 22 152)<|.step (.cell 23 152)<|.step (.call 79 [151,3,124] 1)<|.step (.bin .neq 150 117)<|
 .ite 178
 (.step (.cb false)<|.ret [179])
 (.step (.bin .neq 177 117)<|.ite 179
 (.step (.cb false)<|.ret [180])
 (.step (.mk [126,127,128,129,130,131,132,133,134,135,136,137,138,139,140,141,142,143,144,145,146,147,148,149])<|.step (.call 99 [180,108] 0)<|.step (.un .not 181)<|
 .ite 182
 (.step (.cb false)<|.ret [183])
 (.step (.call 48 [] 0)<|.step (.len 183)<|.step (.call 110 [3,183,184,117,153,154,155,156,157,158,159,160,161,162,163,164,165,166,167,168,169,170,171,172,173,174,175,176,110,111,112,113,114,84,85,86,87,88,89,90,91,92,93,94,95,96,97,98,99,100,101,102,103,104,105,106,107] 0)<|
 .step (.bin .eql 185 117)<|.ite 186
 (.step (.cb false)<|.ret [187])
 (.step (.bin .eql 153 84)<|.ite 187
 (.step (.call 107 [176,107] 0)<|.ret [188])
 (.step (.cb false)<|.ret [188])))))))
 (.step (.mk [110,111,112,113,114])<|.step (.call 79 [108,3,122] 0)<|.step (.cell 0 123)<|.step (.cell 1 123)<|.step (.cell 2 123)<|.step (.cell 3 123)<|.step (.cell 4 123)<|
 .step (.cell 5 123)<|.step (.cell 6 123)<|.step (.cell 7 123)<|.step (.cell 8 123)<|.step (.cell 9 123)<|.step (.cell 10 123)<|.step (.cell 11 123)<|.step (.cell 12 123)<|.step (.cell 13 123)<|
 .step (.cell 14 123)<|.step (.cell 15 123)<|.step (.cell 16 123)<|.step (.cell 17 123)<|.step (.cell 18 123)<|.step (.cell 19 123)<|.step (.cell 20 123)<|.step (.cell 21 123)<|.step (.cell 22 123)<|
 .step (.cell 23 123)<|.step (.call 79 [108,3,122] 1)<|.step (.mk [84,85,86,87,88,89,90,91,92,93,94,95,96,97,98,99,100,101,102,103,104,105,106,107])<|.step (.call 79 [149,3,122] 0)<|
 .step (.cell 0 150)<|.step (.cell 1 150)<|.step (.cell 2 150)<|.step (.cell 3 150)<|.step (.cell 4 150)<|.step (.cell 5 150)<|.step (.cell 6 150)<|.step (.cell 7 150)<|.step (.cell 8 150)<|
 .step (.cell 9 150)<|.step (.cell 10 150)<|.step (.cell 11 150)<|.step (.cell 12 150)<|.step (.cell 13 150)<|.step (.cell 14 150)<|.step (.cell 15 150)<|.step (.cell 16 150)<|.step (.cell 17 150)<|
 .step (.cell 18 150)<|.step (.cell 19 150)<|.step (.cell 20 150)<|.step (.cell 21 150)<|.step (.cell 22 150)<|.step (.cell 23 150)<|.step (.call 79 [149,3,122] 1)<|.step (.bin .neq 148 117)<|
 .ite 176
 (.step (.cb false)<|.ret [177])
 (.step (.bin .neq 175 117)<|.ite 177
 (.step (.cb false)<|.ret [178])
 (.step (.mk [124,125,126,127,128,129,130,131,132,133,134,135,136,137,138,139,140,141,142,143,144,145,146,147])<|.step (.call 99 [178,108] 0)<|.step (.un .not 179)<|
 .ite 180
 (.step (.cb false)<|.ret [181])
 (.step (.call 48 [] 0)<|.step (.len 181)<|.step (.call 110 [3,181,182,117,151,152,153,154,155,156,157,158,159,160,161,162,163,164,165,166,167,168,169,170,171,172,173,174,110,111,112,113,114,84,85,86,87,88,89,90,91,92,93,94,95,96,97,98,99,100,101,102,103,104,105,106,107] 0)<|
 .step (.bin .eql 183 117)<|.ite 184
 (.step (.cb false)<|.ret [185])
 (.step (.bin .eql 151 84)<|.ite 185
 (.step (.call 107 [174,107] 0)<|.ret [186])
 (.step (.cb false)<|.ret [186]))))))))))
def Wq:aH:=.fn [] [.sc]<|.step (.ci .u64 1)<|.step (.ci .i64 0)<|.step (.ci .i64 1)<|.step (.cs [105,100])<|.step (.mk [0,1,2,3])<|.step (.ci .u64 2)<|.step (.cs [97,108,108,111,119,101,100])<|
 .step (.mk [5,2,2,6])<|.step (.ci .u64 3)<|.step (.ci .i64 2)<|.step (.cs [114,101,109,97,105,110,105,110,103])<|.step (.mk [8,9,2,10])<|.step (.ci .u64 4)<|.step (.cs [114,101,116,114,121])<|
 .step (.mk [12,1,9,13])<|.step (.ci .u64 5)<|.step (.ci .i64 3)<|.step (.cs [110,111,116,101])<|.step (.mk [15,16,16,17])<|.step (.ml [4,7,11,14,18])<|.ret [19]
def XD:aH:=.tree 3<|.step (.call 86 [0] 0)<|.step (.call 86 [0] 1)<|.step (.ci .i64 0)<|.step (.bin .neq 4 5)<|.ite 6
 (.step (.ml [])<|.step (.ci .u64 0)<|.ret [5,7,8,4,1,2])
 (.step (.call 88 [1,2] 0)<|.step (.call 88 [1,2] 1)<|.step (.call 88 [1,2] 2)<|.step (.call 88 [1,2] 3)<|.step (.call 88 [1,2] 4)<|.step (.bin .neq 9 5)<|.ite 12
 (.step (.ml [])<|.step (.ci .u64 0)<|.ret [5,13,14,9,10,11])
 (.step (.ci .u64 0)<|.step (.bin .eql 8 13)<|.ite 14
 (.step (.ml [])<|.step (.ci .i64 17)<|.ret [5,15,13,16,10,11])
 (.ret [5,3,8,5,10,11])))
def XC:aH:=.tree 4<|.ite 3
 (.step (.call 88 [0,1] 0)<|.step (.call 88 [0,1] 1)<|.step (.call 88 [0,1] 2)<|.step (.call 88 [0,1] 3)<|.step (.call 88 [0,1] 4)<|.step (.ci .i64 0)<|.step (.bin .neq 6 9)<|
 .ite 10
 (.step (.cs [])<|.ret [9,11,6,7,8])
 (.step (.ci .u64 0)<|.step (.bin .gtr 5 11)<|.ite 12
 (.step (.cs [])<|.step (.ci .i64 23)<|.ret [9,13,14,7,8])
 (.step (.call 88 [7,8] 0)<|.step (.call 88 [7,8] 1)<|.step (.call 88 [7,8] 2)<|.step (.call 88 [7,8] 3)<|.step (.call 88 [7,8] 4)<|.step (.bin .neq 15 9)<|.ite 18
 (.step (.cs [])<|.ret [9,19,15,16,17])
 (.step (.slen 16)<|.step (.bin .sub 19 17)<|.step (.conv .u64 20)<|.step (.bin .gtr 14 21)<|.ite 22
 (.step (.cs [])<|.step (.ci .i64 1)<|.ret [9,23,24,16,17])
 (.step (.conv .i64 14)<|.step (.bin .add 17 23)<|.step (.iC 16 17 24)<|.step (.cs [])<|.step (.iC 26 9 5)<|.step (.bin .add 27 25)<|.step (.un .not 3)<|.ite 29
 (.step (.bin .leq 28 26)<|.ite 30
 (.step (.ci .i64 7)<|.ret [9,26,31,16,24])
 (.step (.call 33 [26,28] 0)<|.step (.conv .i64 5)<|.step (.bin .gtr 31 32)<|.ite 33
 (.step (.ci .i64 23)<|.ret [9,26,34,16,24])
 (.ret [9,28,9,16,24])))
 (.step (.call 33 [26,28] 0)<|.step (.conv .i64 5)<|.step (.bin .gtr 30 31)<|.ite 32
 (.step (.ci .i64 23)<|.ret [9,26,33,16,24])
 (.ret [9,28,9,16,24])))))))
 (.step (.call 88 [0,1] 0)<|.step (.call 88 [0,1] 1)<|.step (.call 88 [0,1] 2)<|.step (.call 88 [0,1] 3)<|.step (.call 88 [0,1] 4)<|.step (.ci .i64 0)<|.step (.bin .neq 6 9)<|
 .ite 10
 (.step (.cs [])<|.ret [9,11,6,7,8])
 (.step (.slen 2)<|.step (.conv .u64 11)<|.step (.bin .gtr 5 12)<|.ite 13
 (.step (.cs [])<|.step (.ci .i64 23)<|.ret [9,14,15,7,8])
 (.step (.call 88 [7,8] 0)<|.step (.call 88 [7,8] 1)<|.step (.call 88 [7,8] 2)<|.step (.call 88 [7,8] 3)<|.step (.call 88 [7,8] 4)<|.step (.bin .neq 16 9)<|.ite 19
 (.step (.cs [])<|.ret [9,20,16,17,18])
 (.step (.slen 17)<|.step (.bin .sub 20 18)<|.step (.conv .u64 21)<|.step (.bin .gtr 15 22)<|.ite 23
 (.step (.cs [])<|.step (.ci .i64 1)<|.ret [9,24,25,17,18])
 (.step (.conv .i64 15)<|.step (.bin .add 18 24)<|.step (.iC 17 18 25)<|.step (.iC 2 9 5)<|.step (.bin .add 27 26)<|.step (.un .not 3)<|.ite 29
 (.step (.bin .leq 28 2)<|.ite 30
 (.step (.cs [])<|.step (.ci .i64 7)<|.ret [9,31,32,17,25])
 (.step (.call 33 [2,28] 0)<|.step (.conv .i64 5)<|.step (.bin .gtr 31 32)<|.ite 33
 (.step (.cs [])<|.step (.ci .i64 23)<|.ret [9,34,35,17,25])
 (.ret [9,28,9,17,25])))
 (.step (.call 33 [2,28] 0)<|.step (.conv .i64 5)<|.step (.bin .gtr 30 31)<|.ite 32
 (.step (.cs [])<|.step (.ci .i64 23)<|.ret [9,33,34,17,25])
 (.ret [9,28,9,17,25])))))))
def XA:aH:=.tree 2<|.step (.call 88 [0,1] 0)<|.step (.call 88 [0,1] 1)<|.step (.call 88 [0,1] 2)<|.step (.call 88 [0,1] 3)<|.step (.call 88 [0,1] 4)<|.step (.ci .i64 0)<|
 .step (.bin .neq 4 7)<|.ite 8
 (.step (.ml [])<|.ret [7,9,4,5,6])
 (.step (.ci .u64 256)<|.step (.bin .gtr 3 9)<|.ite 10
 (.step (.ml [])<|.step (.ci .i64 13)<|.ret [7,11,12,5,6])
 (.step (.ml [])<|.step (.ci .u64 0)<|.step (.mk [11,12])<|.step (.rep 2 32 13 7 3)<|.step (.conv .i64 3)<|.step (.cs [])<|.step (.call 96 [14,16,15,7,5,6] 0)<|.step (.bin .eql 17 7)<|
 .ite 18
 (.step (.call 96 [14,16,15,7,5,6] 1)<|.step (.call 96 [14,16,15,7,5,6] 2)<|.step (.call 96 [14,16,15,7,5,6] 3)<|.ret [7,11,19,20,21])
 (.step (.call 96 [14,16,15,7,5,6] 1)<|.step (.call 96 [14,16,15,7,5,6] 2)<|.step (.call 96 [14,16,15,7,5,6] 3)<|.ret [7,19,7,20,21])))
def Xy:aH:=.tree 2<|.step (.call 88 [0,1] 0)<|.step (.call 88 [0,1] 1)<|.step (.call 88 [0,1] 2)<|.step (.call 88 [0,1] 3)<|.step (.call 88 [0,1] 4)<|.step (.ci .i64 0)<|
 .step (.bin .neq 4 7)<|.ite 8
 (.step (.cs [])<|.ret [7,9,4,5,6])
 (.step (.slen 5)<|.step (.bin .sub 9 6)<|.step (.conv .u64 10)<|.step (.bin .gtr 3 11)<|.ite 12
 (.step (.cs [])<|.step (.ci .i64 1)<|.ret [7,13,14,5,6])
 (.step (.conv .i64 3)<|.step (.bin .add 6 13)<|.step (.iC 5 6 14)<|.ret [7,15,7,5,14]))
def Xx:aH:=.tree 2<|.step (.call 93 [0,1] 0)<|.step (.call 93 [0,1] 1)<|.step (.call 93 [0,1] 2)<|.step (.call 93 [0,1] 3)<|.step (.call 93 [0,1] 4)<|.step (.ci .i64 0)<|
 .step (.bin .neq 4 7)<|.ite 8
 (.step (.cs [])<|.ret [7,9,9,4,5,6])
 (.step (.call 93 [5,6] 0)<|.step (.call 93 [5,6] 1)<|.step (.call 93 [5,6] 2)<|.step (.call 93 [5,6] 3)<|.step (.call 93 [5,6] 4)<|.step (.bin .neq 11 7)<|.ite 14
 (.step (.cs [])<|.ret [7,15,15,11,12,13])
 (.step (.mk [3,10])<|.step (.call 27 [15] 0)<|.step (.bin .neq 16 7)<|.ite 17
 (.step (.cs [])<|.ret [7,18,18,16,12,13])
 (.ret [7,3,10,7,12,13])))
def Xt:aH:=.tree 2<|.step (.slen 0)<|.step (.iC 0 1 2)<|.step (.call 89 [3] 0)<|.step (.call 89 [3] 1)<|.step (.call 89 [3] 2)<|.step (.ci .i64 0)<|.step (.bin .neq 6 7)<|
 .ite 8
 (.step (.ci .u64 0)<|.ret [7,9,6,0,1])
 (.step (.conv .u64 5)<|.step (.bin .sub 2 1)<|.step (.conv .u64 10)<|.step (.bin .gtr 9 11)<|.ite 12
 (.ret [7,4,7,0,1])
 (.step (.conv .i64 9)<|.step (.bin .add 1 13)<|.step (.iC 0 1 14)<|.ret [7,4,7,0,14]))
def Xr:aH:=.tree 2<|.step (.call 88 [0,1] 0)<|.step (.call 88 [0,1] 1)<|.step (.call 88 [0,1] 2)<|.step (.call 88 [0,1] 3)<|.step (.call 88 [0,1] 4)<|.step (.ci .i64 0)<|
 .step (.bin .neq 4 7)<|.ite 8
 (.step (.ml [])<|.ret [7,9,4,5,6])
 (.step (.ci .u64 0)<|.step (.bin .eql 3 9)<|.ite 10
 (.step (.ml [])<|.step (.ci .i64 12)<|.ret [7,11,12,5,6])
 (.step (.ci .u64 16)<|.step (.bin .gtr 3 11)<|.ite 12
 (.step (.ml [])<|.step (.ci .i64 13)<|.ret [7,13,14,5,6])
 (.step (.cs [])<|.step (.mk [13,13])<|.step (.rep 2 32 14 7 3)<|.step (.conv .i64 3)<|.step (.call 91 [15,16,7,5,6] 0)<|.step (.bin .eql 17 7)<|.ite 18
 (.step (.call 91 [15,16,7,5,6] 1)<|.step (.call 91 [15,16,7,5,6] 2)<|.step (.call 91 [15,16,7,5,6] 3)<|.step (.ml [])<|.ret [7,22,19,20,21])
 (.step (.call 91 [15,16,7,5,6] 1)<|.step (.call 91 [15,16,7,5,6] 2)<|.step (.call 91 [15,16,7,5,6] 3)<|.ret [7,19,7,20,21]))))
def Xo:aH:=.tree 30<|.step (.cs [114,101,109,97,105,110,105,110,103])<|.step (.bin .eql 0 30)<|.ite 31
 (.step (.ci .i64 2)<|.step (.call 85 [32] 0)<|.step (.bin .neq 2 33)<|.ite 34
 (.step (.ci .i64 8)<|.step (.ci .i64 0)<|.ret [36,35,7,8,9,10,11,12,13,14,15,16,17,18,19,20,21,22,23,24,25,26,27,28])
 (.step (.ci .i64 0)<|.step (.bin .eql 2 35)<|.ite 36
 (.step (.ci .u64 0)<|.step (.bin .eql 3 37)<|.ite 38
 (.step (.ci .i64 17)<|.ret [35,39,7,8,9,10,11,12,13,14,15,16,17,18,19,20,21,22,23,24,25,26,27,28])
 (.step (.ci .i64 1)<|.step (.bin .eql 2 39)<|.step (.ci .u64 1)<|.step (.bin .shr 3 41)<|.step (.conv .i64 42)<|.step (.bin .and 3 41)<|.step (.conv .i64 44)<|.step (.un .neg 45)<|
 .step (.bin .xor 43 46)<|.ret [35,35,7,8,9,10,11,12,13,14,15,16,17,18,19,20,21,47,23,24,25,26,27,28]))
 (.step (.ci .i64 1)<|.step (.bin .eql 2 37)<|.ite 38
 (.step (.cs [])<|.step (.bin .eql 4 39)<|.ite 40
 (.step (.ci .i64 17)<|.ret [35,41,7,8,9,10,11,12,13,14,15,16,17,18,19,20,21,22,23,24,25,26,27,28])
 (.step (.ci .u64 1)<|.step (.bin .shr 3 41)<|.step (.conv .i64 42)<|.step (.bin .and 3 41)<|.step (.conv .i64 44)<|.step (.un .neg 45)<|.step (.bin .xor 43 46)<|.ret [35,35,7,8,9,10,11,12,13,14,15,16,17,18,19,20,21,47,23,24,25,26,27,28]))
 (.step (.ci .u64 1)<|.step (.bin .shr 3 39)<|.step (.conv .i64 40)<|.step (.bin .and 3 39)<|.step (.conv .i64 42)<|.step (.un .neg 43)<|.step (.bin .xor 41 44)<|.ret [35,35,7,8,9,10,11,12,13,14,15,16,17,18,19,20,21,45,23,24,25,26,27,28]))))
 (.step (.cs [97,108,108,111,119,101,100])<|.step (.bin .eql 0 32)<|.ite 33
 (.step (.ci .i64 1)<|.step (.call 85 [34] 0)<|.step (.bin .neq 2 35)<|.ite 36
 (.step (.ci .i64 8)<|.step (.ci .i64 0)<|.ret [38,37,7,8,9,10,11,12,13,14,15,16,17,18,19,20,21,22,23,24,25,26,27,28])
 (.step (.ci .i64 0)<|.step (.bin .eql 2 37)<|.ite 38
 (.step (.ci .u64 0)<|.step (.bin .eql 3 39)<|.ite 40
 (.step (.ci .i64 17)<|.ret [37,41,7,8,9,10,11,12,13,14,15,16,17,18,19,20,21,22,23,24,25,26,27,28])
 (.step (.bin .eql 2 34)<|.step (.ci .u64 1)<|.step (.bin .neq 3 42)<|.ite 43
 (.step (.ci .i64 18)<|.ret [37,44,7,8,9,10,11,12,13,14,15,16,17,18,19,20,21,22,23,24,25,26,27,28])
 (.step (.cb true)<|.ret [37,37,7,8,9,10,11,12,13,14,15,16,17,18,19,20,21,22,44,24,25,26,27,28])))
 (.step (.bin .eql 2 34)<|.ite 39
 (.step (.cs [])<|.step (.bin .eql 4 40)<|.ite 41
 (.step (.ci .i64 17)<|.ret [37,42,7,8,9,10,11,12,13,14,15,16,17,18,19,20,21,22,23,24,25,26,27,28])
 (.step (.ci .u64 1)<|.step (.bin .neq 3 42)<|.ite 43
 (.step (.ci .i64 18)<|.ret [37,44,7,8,9,10,11,12,13,14,15,16,17,18,19,20,21,22,23,24,25,26,27,28])
 (.step (.cb true)<|.ret [37,37,7,8,9,10,11,12,13,14,15,16,17,18,19,20,21,22,44,24,25,26,27,28])))
 (.step (.ci .u64 1)<|.step (.bin .neq 3 40)<|.ite 41
 (.step (.ci .i64 18)<|.ret [37,42,7,8,9,10,11,12,13,14,15,16,17,18,19,20,21,22,23,24,25,26,27,28])
 (.step (.cb true)<|.ret [37,37,7,8,9,10,11,12,13,14,15,16,17,18,19,20,21,22,42,24,25,26,27,28])))))
 (.step (.cs [110,97,109,101])<|.step (.bin .eql 0 34)<|.ite 35
 (.step (.ci .i64 3)<|.step (.call 85 [36] 0)<|.step (.bin .neq 2 37)<|.ite 38
 (.step (.ci .i64 8)<|.step (.ci .i64 0)<|.ret [40,39,7,8,9,10,11,12,13,14,15,16,17,18,19,20,21,22,23,24,25,26,27,28])
 (.step (.ci .i64 0)<|.step (.bin .eql 2 39)<|.ite 40
 (.step (.ci .u64 0)<|.step (.bin .eql 3 41)<|.ite 42
 (.step (.ci .i64 17)<|.ret [39,43,7,8,9,10,11,12,13,14,15,16,17,18,19,20,21,22,23,24,25,26,27,28])
 (.step (.ci .i64 1)<|.step (.bin .eql 2 43)<|.step (.ci .i64 256)<|.step (.call 28 [4,39,45] 0)<|.ret [39,46,7,8,9,10,11,12,13,14,15,16,17,18,19,20,21,22,23,4,25,26,27,28]))
 (.step (.ci .i64 1)<|.step (.bin .eql 2 41)<|.ite 42
 (.step (.cs [])<|.step (.bin .eql 4 43)<|.ite 44
 (.step (.ci .i64 17)<|.ret [39,45,7,8,9,10,11,12,13,14,15,16,17,18,19,20,21,22,23,24,25,26,27,28])
 (.step (.ci .i64 256)<|.step (.call 28 [4,39,45] 0)<|.ret [39,46,7,8,9,10,11,12,13,14,15,16,17,18,19,20,21,22,23,4,25,26,27,28]))
 (.step (.ci .i64 256)<|.step (.call 28 [4,39,43] 0)<|.ret [39,44,7,8,9,10,11,12,13,14,15,16,17,18,19,20,21,22,23,4,25,26,27,28]))))
 (.step (.cs [114,101,103,105,111,110])<|.step (.bin .eql 0 36)<|.ite 37
 (.step (.ci .i64 3)<|.step (.call 85 [38] 0)<|.step (.bin .neq 2 39)<|.ite 40
 (.step (.ci .i64 8)<|.step (.ci .i64 0)<|.ret [42,41,7,8,9,10,11,12,13,14,15,16,17,18,19,20,21,22,23,24,25,26,27,28])
 (.step (.ci .i64 0)<|.step (.bin .eql 2 41)<|.ite 42
 (.step (.ci .u64 0)<|.step (.bin .eql 3 43)<|.ite 44
 (.step (.ci .i64 17)<|.ret [41,45,7,8,9,10,11,12,13,14,15,16,17,18,19,20,21,22,23,24,25,26,27,28])
 (.step (.ci .i64 1)<|.step (.bin .eql 2 45)<|.step (.ci .i64 256)<|.step (.call 28 [4,41,47] 0)<|.ret [41,48,7,8,9,10,11,12,13,14,15,16,17,18,19,20,21,22,23,24,4,26,27,28]))
 (.step (.ci .i64 1)<|.step (.bin .eql 2 43)<|.ite 44
 (.step (.cs [])<|.step (.bin .eql 4 45)<|.ite 46
 (.step (.ci .i64 17)<|.ret [41,47,7,8,9,10,11,12,13,14,15,16,17,18,19,20,21,22,23,24,25,26,27,28])
 (.step (.ci .i64 256)<|.step (.call 28 [4,41,47] 0)<|.ret [41,48,7,8,9,10,11,12,13,14,15,16,17,18,19,20,21,22,23,24,4,26,27,28]))
 (.step (.ci .i64 256)<|.step (.call 28 [4,41,45] 0)<|.ret [41,46,7,8,9,10,11,12,13,14,15,16,17,18,19,20,21,22,23,24,4,26,27,28]))))
 (.step (.cs [110,111,116,101])<|.step (.bin .eql 0 38)<|.ite 39
 (.step (.ci .i64 3)<|.step (.call 85 [40] 0)<|.step (.bin .neq 2 41)<|.ite 42
 (.step (.ci .i64 8)<|.step (.ci .i64 0)<|.ret [44,43,7,8,9,10,11,12,13,14,15,16,17,18,19,20,21,22,23,24,25,26,27,28])
 (.step (.ci .i64 0)<|.step (.bin .eql 2 43)<|.ite 44
 (.step (.ci .u64 0)<|.step (.bin .eql 3 45)<|.ite 46
 (.step (.ci .i64 17)<|.ret [43,47,7,8,9,10,11,12,13,14,15,16,17,18,19,20,21,22,23,24,25,26,27,28])
 (.step (.ci .i64 1)<|.step (.bin .eql 2 47)<|.step (.ci .i64 256)<|.step (.call 28 [4,43,49] 0)<|.ret [43,50,7,8,9,10,11,12,13,14,15,16,17,18,19,20,21,22,23,24,25,4,27,28]))
 (.step (.ci .i64 1)<|.step (.bin .eql 2 45)<|.ite 46
 (.step (.cs [])<|.step (.bin .eql 4 47)<|.ite 48
 (.step (.ci .i64 17)<|.ret [43,49,7,8,9,10,11,12,13,14,15,16,17,18,19,20,21,22,23,24,25,26,27,28])
 (.step (.ci .i64 256)<|.step (.call 28 [4,43,49] 0)<|.ret [43,50,7,8,9,10,11,12,13,14,15,16,17,18,19,20,21,22,23,24,25,4,27,28]))
 (.step (.ci .i64 256)<|.step (.call 28 [4,43,47] 0)<|.ret [43,48,7,8,9,10,11,12,13,14,15,16,17,18,19,20,21,22,23,24,25,4,27,28]))))
 (.step (.cs [100,101,115,99,114])<|.step (.bin .eql 0 40)<|.ite 41
 (.step (.ci .i64 4)<|.step (.call 85 [42] 0)<|.step (.bin .neq 2 43)<|.ite 44
 (.step (.ci .i64 8)<|.step (.ci .i64 0)<|.ret [46,45,7,8,9,10,11,12,13,14,15,16,17,18,19,20,21,22,23,24,25,26,27,28])
 (.step (.ci .i64 0)<|.step (.bin .eql 2 45)<|.ite 46
 (.step (.ci .u64 0)<|.step (.bin .eql 3 47)<|.ite 48
 (.step (.ci .i64 17)<|.ret [45,49,7,8,9,10,11,12,13,14,15,16,17,18,19,20,21,22,23,24,25,26,27,28])
 (.step (.ci .i64 1)<|.step (.bin .eql 2 49)<|.step (.call 86 [4] 0)<|.step (.call 86 [4] 1)<|.ret [45,52,7,8,9,10,11,12,13,14,15,16,17,18,19,20,21,22,23,24,25,26,51,28]))
 (.step (.ci .i64 1)<|.step (.bin .eql 2 47)<|.ite 48
 (.step (.cs [])<|.step (.bin .eql 4 49)<|.ite 50
 (.step (.ci .i64 17)<|.ret [45,51,7,8,9,10,11,12,13,14,15,16,17,18,19,20,21,22,23,24,25,26,27,28])
 (.step (.call 86 [4] 0)<|.step (.call 86 [4] 1)<|.ret [45,52,7,8,9,10,11,12,13,14,15,16,17,18,19,20,21,22,23,24,25,26,51,28]))
 (.step (.call 86 [4] 0)<|.step (.call 86 [4] 1)<|.ret [45,50,7,8,9,10,11,12,13,14,15,16,17,18,19,20,21,22,23,24,25,26,49,28]))))
 (.step (.cs [116,97,98,108,101])<|.step (.bin .eql 0 42)<|.ite 43
 (.step (.ci .i64 5)<|.step (.call 85 [44] 0)<|.step (.bin .neq 2 45)<|.ite 46
 (.step (.ci .i64 8)<|.step (.ci .i64 0)<|.ret [48,47,7,8,9,10,11,12,13,14,15,16,17,18,19,20,21,22,23,24,25,26,27,28])
 (.step (.ci .i64 0)<|.step (.bin .eql 2 47)<|.ite 48
 (.step (.ci .u64 0)<|.step (.bin .eql 3 49)<|.ite 50
 (.step (.ci .i64 17)<|.ret [47,51,7,8,9,10,11,12,13,14,15,16,17,18,19,20,21,22,23,24,25,26,27,28])
 (.step (.ci .i64 1)<|.step (.bin .eql 2 51)<|.step (.call 94 [4] 0)<|.step (.call 94 [4] 1)<|.step (.bin .eql 54 47)<|.ite 55
 (.step (.len 53)<|.step (.bin .eql 56 47)<|.ite 57
 (.step (.ci .i64 17)<|.ret [47,58,7,8,9,10,11,12,13,14,15,16,17,18,19,20,21,22,23,24,25,26,27,53])
 (.ret [47,54,7,8,9,10,11,12,13,14,15,16,17,18,19,20,21,22,23,24,25,26,27,53]))
 (.ret [47,54,7,8,9,10,11,12,13,14,15,16,17,18,19,20,21,22,23,24,25,26,27,53])))
 (.step (.ci .i64 1)<|.step (.bin .eql 2 49)<|.ite 50
 (.step (.cs [])<|.step (.bin .eql 4 51)<|.ite 52
 (.step (.ci .i64 17)<|.ret [47,53,7,8,9,10,11,12,13,14,15,16,17,18,19,20,21,22,23,24,25,26,27,28])
 (.step (.call 94 [4] 0)<|.step (.call 94 [4] 1)<|.step (.bin .eql 54 47)<|.ite 55
 (.step (.len 53)<|.step (.bin .eql 56 47)<|.ite 57
 (.step (.ci .i64 17)<|.ret [47,58,7,8,9,10,11,12,13,14,15,16,17,18,19,20,21,22,23,24,25,26,27,53])
 (.ret [47,54,7,8,9,10,11,12,13,14,15,16,17,18,19,20,21,22,23,24,25,26,27,53]))
 (.ret [47,54,7,8,9,10,11,12,13,14,15,16,17,18,19,20,21,22,23,24,25,26,27,53])))
 (.step (.call 94 [4] 0)<|.step (.call 94 [4] 1)<|.step (.bin .eql 52 47)<|.ite 53
 (.step (.len 51)<|.step (.bin .eql 54 47)<|.ite 55
 (.step (.ci .i64 17)<|.ret [47,56,7,8,9,10,11,12,13,14,15,16,17,18,19,20,21,22,23,24,25,26,27,51])
 (.ret [47,52,7,8,9,10,11,12,13,14,15,16,17,18,19,20,21,22,23,24,25,26,27,51]))
 (.ret [47,52,7,8,9,10,11,12,13,14,15,16,17,18,19,20,21,22,23,24,25,26,27,51])))))
 (.step (.cs [105,100])<|.step (.bin .eql 0 44)<|.ite 45
 (.step (.ci .i64 0)<|.step (.call 85 [46] 0)<|.step (.bin .neq 2 47)<|.ite 48
 (.step (.ci .i64 8)<|.ret [46,49,7,8,9,10,11,12,13,14,15,16,17,18,19,20,21,22,23,24,25,26,27,28])
 (.step (.bin .eql 2 46)<|.ite 49
 (.step (.ci .u64 0)<|.step (.bin .eql 3 50)<|.ite 51
 (.step (.ci .i64 17)<|.ret [46,52,7,8,9,10,11,12,13,14,15,16,17,18,19,20,21,22,23,24,25,26,27,28])
 (.step (.ci .i64 1)<|.step (.bin .eql 2 52)<|.ret [46,46,3,8,9,10,11,12,13,14,15,16,17,18,19,20,21,22,23,24,25,26,27,28]))
 (.step (.ci .i64 1)<|.step (.bin .eql 2 50)<|.ite 51
 (.step (.cs [])<|.step (.bin .eql 4 52)<|.ite 53
 (.step (.ci .i64 17)<|.ret [46,54,7,8,9,10,11,12,13,14,15,16,17,18,19,20,21,22,23,24,25,26,27,28])
 (.ret [46,46,3,8,9,10,11,12,13,14,15,16,17,18,19,20,21,22,23,24,25,26,27,28]))
 (.ret [46,46,3,8,9,10,11,12,13,14,15,16,17,18,19,20,21,22,23,24,25,26,27,28]))))
 (.step (.cs [109,105,110])<|.step (.bin .eql 0 46)<|.ite 47
 (.step (.ci .i64 0)<|.step (.call 85 [48] 0)<|.step (.bin .neq 2 49)<|.ite 50
 (.step (.ci .i64 8)<|.ret [48,51,7,8,9,10,11,12,13,14,15,16,17,18,19,20,21,22,23,24,25,26,27,28])
 (.step (.bin .eql 2 48)<|.ite 51
 (.step (.ci .u64 0)<|.step (.bin .eql 3 52)<|.ite 53
 (.step (.ci .i64 17)<|.ret [48,54,7,8,9,10,11,12,13,14,15,16,17,18,19,20,21,22,23,24,25,26,27,28])
 (.step (.ci .i64 1)<|.step (.bin .eql 2 54)<|.ret [48,48,7,3,9,10,11,12,13,14,15,16,17,18,19,20,21,22,23,24,25,26,27,28]))
 (.step (.ci .i64 1)<|.step (.bin .eql 2 52)<|.ite 53
 (.step (.cs [])<|.step (.bin .eql 4 54)<|.ite 55
 (.step (.ci .i64 17)<|.ret [48,56,7,8,9,10,11,12,13,14,15,16,17,18,19,20,21,22,23,24,25,26,27,28])
 (.ret [48,48,7,3,9,10,11,12,13,14,15,16,17,18,19,20,21,22,23,24,25,26,27,28]))
 (.ret [48,48,7,3,9,10,11,12,13,14,15,16,17,18,19,20,21,22,23,24,25,26,27,28]))))
 (.step (.cs [109,97,120])<|.step (.bin .eql 0 48)<|.ite 49
 (.step (.ci .i64 0)<|.step (.call 85 [50] 0)<|.step (.bin .neq 2 51)<|.ite 52
 (.step (.ci .i64 8)<|.ret [50,53,7,8,9,10,11,12,13,14,15,16,17,18,19,20,21,22,23,24,25,26,27,28])
 (.step (.bin .eql 2 50)<|.ite 53
 (.step (.ci .u64 0)<|.step (.bin .eql 3 54)<|.ite 55
 (.step (.ci .i64 17)<|.ret [50,56,7,8,9,10,11,12,13,14,15,16,17,18,19,20,21,22,23,24,25,26,27,28])
 (.step (.ci .i64 1)<|.step (.bin .eql 2 56)<|.ret [50,50,7,8,3,10,11,12,13,14,15,16,17,18,19,20,21,22,23,24,25,26,27,28]))
 (.step (.ci .i64 1)<|.step (.bin .eql 2 54)<|.ite 55
 (.step (.cs [])<|.step (.bin .eql 4 56)<|.ite 57
 (.step (.ci .i64 17)<|.ret [50,58,7,8,9,10,11,12,13,14,15,16,17,18,19,20,21,22,23,24,25,26,27,28])
 (.ret [50,50,7,8,3,10,11,12,13,14,15,16,17,18,19,20,21,22,23,24,25,26,27,28]))
 (.ret [50,50,7,8,3,10,11,12,13,14,15,16,17,18,19,20,21,22,23,24,25,26,27,28]))))
 (.step (.cs [99,104,111,115,101,110])<|.step (.bin .eql 0 50)<|.ite 51
 (.step (.ci .i64 0)<|.step (.call 85 [52] 0)<|.step (.bin .neq 2 53)<|.ite 54
 (.step (.ci .i64 8)<|.ret [52,55,7,8,9,10,11,12,13,14,15,16,17,18,19,20,21,22,23,24,25,26,27,28])
 (.step (.bin .eql 2 52)<|.ite 55
 (.step (.ci .u64 0)<|.step (.bin .eql 3 56)<|.ite 57
 (.step (.ci .i64 17)<|.ret [52,58,7,8,9,10,11,12,13,14,15,16,17,18,19,20,21,22,23,24,25,26,27,28])
 (.step (.ci .i64 1)<|.step (.bin .eql 2 58)<|.ret [52,52,7,8,9,3,11,12,13,14,15,16,17,18,19,20,21,22,23,24,25,26,27,28]))
 (.step (.ci .i64 1)<|.step (.bin .eql 2 56)<|.ite 57
 (.step (.cs [])<|.step (.bin .eql 4 58)<|.ite 59
 (.step (.ci .i64 17)<|.ret [52,60,7,8,9,10,11,12,13,14,15,16,17,18,19,20,21,22,23,24,25,26,27,28])
 (.ret [52,52,7,8,9,3,11,12,13,14,15,16,17,18,19,20,21,22,23,24,25,26,27,28]))
 (.ret [52,52,7,8,9,3,11,12,13,14,15,16,17,18,19,20,21,22,23,24,25,26,27,28]))))
 (.step (.cs [102,108,97,103,115])<|.step (.bin .eql 0 52)<|.ite 53
 (.step (.ci .i64 0)<|.step (.call 85 [54] 0)<|.step (.bin .neq 2 55)<|.ite 56
 (.step (.ci .i64 8)<|.ret [54,57,7,8,9,10,11,12,13,14,15,16,17,18,19,20,21,22,23,24,25,26,27,28])
 (.step (.bin .eql 2 54)<|.ite 57
 (.step (.ci .u64 0)<|.step (.bin .eql 3 58)<|.ite 59
 (.step (.ci .i64 17)<|.ret [54,60,7,8,9,10,11,12,13,14,15,16,17,18,19,20,21,22,23,24,25,26,27,28])
 (.step (.ci .i64 1)<|.step (.bin .eql 2 60)<|.ret [54,54,7,8,9,10,3,12,13,14,15,16,17,18,19,20,21,22,23,24,25,26,27,28]))
 (.step (.ci .i64 1)<|.step (.bin .eql 2 58)<|.ite 59
 (.step (.cs [])<|.step (.bin .eql 4 60)<|.ite 61
 (.step (.ci .i64 17)<|.ret [54,62,7,8,9,10,11,12,13,14,15,16,17,18,19,20,21,22,23,24,25,26,27,28])
 (.ret [54,54,7,8,9,10,3,12,13,14,15,16,17,18,19,20,21,22,23,24,25,26,27,28]))
 (.ret [54,54,7,8,9,10,3,12,13,14,15,16,17,18,19,20,21,22,23,24,25,26,27,28]))))
 (.step (.cs [99,111,115,116])<|.step (.bin .eql 0 54)<|.ite 55
 (.step (.ci .i64 0)<|.step (.call 85 [56] 0)<|.step (.bin .neq 2 57)<|.ite 58
 (.step (.ci .i64 8)<|.ret [56,59,7,8,9,10,11,12,13,14,15,16,17,18,19,20,21,22,23,24,25,26,27,28])
 (.step (.bin .eql 2 56)<|.ite 59
 (.step (.ci .u64 0)<|.step (.bin .eql 3 60)<|.ite 61
 (.step (.ci .i64 17)<|.ret [56,62,7,8,9,10,11,12,13,14,15,16,17,18,19,20,21,22,23,24,25,26,27,28])
 (.step (.ci .i64 1)<|.step (.bin .eql 2 62)<|.ret [56,56,7,8,9,10,11,3,13,14,15,16,17,18,19,20,21,22,23,24,25,26,27,28]))
 (.step (.ci .i64 1)<|.step (.bin .eql 2 60)<|.ite 61
 (.step (.cs [])<|.step (.bin .eql 4 62)<|.ite 63
 (.step (.ci .i64 17)<|.ret [56,64,7,8,9,10,11,12,13,14,15,16,17,18,19,20,21,22,23,24,25,26,27,28])
 (.ret [56,56,7,8,9,10,11,3,13,14,15,16,17,18,19,20,21,22,23,24,25,26,27,28]))
 (.ret [56,56,7,8,9,10,11,3,13,14,15,16,17,18,19,20,21,22,23,24,25,26,27,28]))))
 (.step (.cs [112,114,105,111,114,105,116,121])<|.step (.bin .eql 0 56)<|.ite 57
 (.step (.ci .i64 0)<|.step (.call 85 [58] 0)<|.step (.bin .neq 2 59)<|.ite 60
 (.step (.ci .i64 8)<|.ret [58,61,7,8,9,10,11,12,13,14,15,16,17,18,19,20,21,22,23,24,25,26,27,28])
 (.step (.bin .eql 2 58)<|.ite 61
 (.step (.ci .u64 0)<|.step (.bin .eql 3 62)<|.ite 63
 (.step (.ci .i64 17)<|.ret [58,64,7,8,9,10,11,12,13,14,15,16,17,18,19,20,21,22,23,24,25,26,27,28])
 (.step (.ci .i64 1)<|.step (.bin .eql 2 64)<|.ret [58,58,7,8,9,10,11,12,3,14,15,16,17,18,19,20,21,22,23,24,25,26,27,28]))
 (.step (.ci .i64 1)<|.step (.bin .eql 2 62)<|.ite 63
 (.step (.cs [])<|.step (.bin .eql 4 64)<|.ite 65
 (.step (.ci .i64 17)<|.ret [58,66,7,8,9,10,11,12,13,14,15,16,17,18,19,20,21,22,23,24,25,26,27,28])
 (.ret [58,58,7,8,9,10,11,12,3,14,15,16,17,18,19,20,21,22,23,24,25,26,27,28]))
 (.ret [58,58,7,8,9,10,11,12,3,14,15,16,17,18,19,20,21,22,23,24,25,26,27,28]))))
 (.step (.cs [100,101,97,100,108,105,110,101])<|.step (.bin .eql 0 58)<|.ite 59
 (.step (.ci .i64 0)<|.step (.call 85 [60] 0)<|.step (.bin .neq 2 61)<|.ite 62
 (.step (.ci .i64 8)<|.ret [60,63,7,8,9,10,11,12,13,14,15,16,17,18,19,20,21,22,23,24,25,26,27,28])
 (.step (.bin .eql 2 60)<|.ite 63
 (.step (.ci .u64 0)<|.step (.bin .eql 3 64)<|.ite 65
 (.step (.ci .i64 17)<|.ret [60,66,7,8,9,10,11,12,13,14,15,16,17,18,19,20,21,22,23,24,25,26,27,28])
 (.step (.ci .i64 1)<|.step (.bin .eql 2 66)<|.ret [60,60,7,8,9,10,11,12,13,3,15,16,17,18,19,20,21,22,23,24,25,26,27,28]))
 (.step (.ci .i64 1)<|.step (.bin .eql 2 64)<|.ite 65
 (.step (.cs [])<|.step (.bin .eql 4 66)<|.ite 67
 (.step (.ci .i64 17)<|.ret [60,68,7,8,9,10,11,12,13,14,15,16,17,18,19,20,21,22,23,24,25,26,27,28])
 (.ret [60,60,7,8,9,10,11,12,13,3,15,16,17,18,19,20,21,22,23,24,25,26,27,28]))
 (.ret [60,60,7,8,9,10,11,12,13,3,15,16,17,18,19,20,21,22,23,24,25,26,27,28]))))
 (.step (.cs [114,101,116,114,121])<|.step (.bin .eql 0 60)<|.ite 61
 (.step (.ci .i64 0)<|.step (.call 85 [62] 0)<|.step (.bin .neq 2 63)<|.ite 64
 (.step (.ci .i64 8)<|.ret [62,65,7,8,9,10,11,12,13,14,15,16,17,18,19,20,21,22,23,24,25,26,27,28])
 (.step (.bin .eql 2 62)<|.ite 65
 (.step (.ci .u64 0)<|.step (.bin .eql 3 66)<|.ite 67
 (.step (.ci .i64 17)<|.ret [62,68,7,8,9,10,11,12,13,14,15,16,17,18,19,20,21,22,23,24,25,26,27,28])
 (.step (.ci .i64 1)<|.step (.bin .eql 2 68)<|.ret [62,62,7,8,9,10,11,12,13,14,3,16,17,18,19,20,21,22,23,24,25,26,27,28]))
 (.step (.ci .i64 1)<|.step (.bin .eql 2 66)<|.ite 67
 (.step (.cs [])<|.step (.bin .eql 4 68)<|.ite 69
 (.step (.ci .i64 17)<|.ret [62,70,7,8,9,10,11,12,13,14,15,16,17,18,19,20,21,22,23,24,25,26,27,28])
 (.ret [62,62,7,8,9,10,11,12,13,14,3,16,17,18,19,20,21,22,23,24,25,26,27,28]))
 (.ret [62,62,7,8,9,10,11,12,13,14,3,16,17,18,19,20,21,22,23,24,25,26,27,28]))))
 (.step (.cs [101,112,111,99,104])<|.step (.bin .eql 0 62)<|.ite 63
 (.step (.ci .i64 0)<|.step (.call 85 [64] 0)<|.step (.bin .neq 2 65)<|.ite 66
 (.step (.ci .i64 8)<|.ret [64,67,7,8,9,10,11,12,13,14,15,16,17,18,19,20,21,22,23,24,25,26,27,28])
 (.step (.bin .eql 2 64)<|.ite 67
 (.step (.ci .u64 0)<|.step (.bin .eql 3 68)<|.ite 69
 (.step (.ci .i64 17)<|.ret [64,70,7,8,9,10,11,12,13,14,15,16,17,18,19,20,21,22,23,24,25,26,27,28])
 (.step (.ci .i64 1)<|.step (.bin .eql 2 70)<|.ret [64,64,7,8,9,10,11,12,13,14,15,3,17,18,19,20,21,22,23,24,25,26,27,28]))
 (.step (.ci .i64 1)<|.step (.bin .eql 2 68)<|.ite 69
 (.step (.cs [])<|.step (.bin .eql 4 70)<|.ite 71
 (.step (.ci .i64 17)<|.ret [64,72,7,8,9,10,11,12,13,14,15,16,17,18,19,20,21,22,23,24,25,26,27,28])
 (.ret [64,64,7,8,9,10,11,12,13,14,15,3,17,18,19,20,21,22,23,24,25,26,27,28]))
 (.ret [64,64,7,8,9,10,11,12,13,14,15,3,17,18,19,20,21,22,23,24,25,26,27,28]))))
 (.step (.cs [98,97,115,101])<|.step (.bin .eql 0 64)<|.ite 65
 (.step (.ci .i64 0)<|.step (.call 85 [66] 0)<|.step (.bin .neq 2 67)<|.ite 68
 (.step (.ci .i64 8)<|.ret [66,69,7,8,9,10,11,12,13,14,15,16,17,18,19,20,21,22,23,24,25,26,27,28])
 (.step (.bin .eql 2 66)<|.ite 69
 (.step (.ci .u64 0)<|.step (.bin .eql 3 70)<|.ite 71
 (.step (.ci .i64 17)<|.ret [66,72,7,8,9,10,11,12,13,14,15,16,17,18,19,20,21,22,23,24,25,26,27,28])
 (.step (.ci .i64 1)<|.step (.bin .eql 2 72)<|.ret [66,66,7,8,9,10,11,12,13,14,15,16,3,18,19,20,21,22,23,24,25,26,27,28]))
 (.step (.ci .i64 1)<|.step (.bin .eql 2 70)<|.ite 71
 (.step (.cs [])<|.step (.bin .eql 4 72)<|.ite 73
 (.step (.ci .i64 17)<|.ret [66,74,7,8,9,10,11,12,13,14,15,16,17,18,19,20,21,22,23,24,25,26,27,28])
 (.ret [66,66,7,8,9,10,11,12,13,14,15,16,3,18,19,20,21,22,23,24,25,26,27,28]))
 (.ret [66,66,7,8,9,10,11,12,13,14,15,16,3,18,19,20,21,22,23,24,25,26,27,28]))))
 (.step (.cs [100,105,103,101,115,116])<|.step (.bin .eql 0 66)<|.ite 67
 (.step (.ci .i64 0)<|.step (.call 85 [68] 0)<|.step (.bin .neq 2 69)<|.ite 70
 (.step (.ci .i64 8)<|.ret [68,71,7,8,9,10,11,12,13,14,15,16,17,18,19,20,21,22,23,24,25,26,27,28])
 (.step (.bin .eql 2 68)<|.ite 71
 (.step (.ci .u64 0)<|.step (.bin .eql 3 72)<|.ite 73
 (.step (.ci .i64 17)<|.ret [68,74,7,8,9,10,11,12,13,14,15,16,17,18,19,20,21,22,23,24,25,26,27,28])
 (.step (.ci .i64 1)<|.step (.bin .eql 2 74)<|.ret [68,68,7,8,9,10,11,12,13,14,15,16,17,3,19,20,21,22,23,24,25,26,27,28]))
 (.step (.ci .i64 1)<|.step (.bin .eql 2 72)<|.ite 73
 (.step (.cs [])<|.step (.bin .eql 4 74)<|.ite 75
 (.step (.ci .i64 17)<|.ret [68,76,7,8,9,10,11,12,13,14,15,16,17,18,19,20,21,22,23,24,25,26,27,28])
 (.ret [68,68,7,8,9,10,11,12,13,14,15,16,17,3,19,20,21,22,23,24,25,26,27,28]))
 (.ret [68,68,7,8,9,10,11,12,13,14,15,16,17,3,19,20,21,22,23,24,25,26,27,28]))))
 (.step (.cs [108,97,103])<|.step (.bin .eql 0 68)<|.ite 69
 (.step (.ci .i64 0)<|.step (.call 85 [70] 0)<|.step (.bin .neq 2 71)<|.ite 72
 (.step (.ci .i64 8)<|.ret [70,73,7,8,9,10,11,12,13,14,15,16,17,18,19,20,21,22,23,24,25,26,27,28])
 (.step (.bin .eql 2 70)<|.ite 73
 (.step (.ci .u64 0)<|.step (.bin .eql 3 74)<|.ite 75
 (.step (.ci .i64 17)<|.ret [70,76,7,8,9,10,11,12,13,14,15,16,17,18,19,20,21,22,23,24,25,26,27,28])
 (.step (.ci .i64 1)<|.step (.bin .eql 2 76)<|.ret [70,70,7,8,9,10,11,12,13,14,15,16,17,18,3,20,21,22,23,24,25,26,27,28]))
 (.step (.ci .i64 1)<|.step (.bin .eql 2 74)<|.ite 75
 (.step (.cs [])<|.step (.bin .eql 4 76)<|.ite 77
 (.step (.ci .i64 17)<|.ret [70,78,7,8,9,10,11,12,13,14,15,16,17,18,19,20,21,22,23,24,25,26,27,28])
 (.ret [70,70,7,8,9,10,11,12,13,14,15,16,17,18,3,20,21,22,23,24,25,26,27,28]))
 (.ret [70,70,7,8,9,10,11,12,13,14,15,16,17,18,3,20,21,22,23,24,25,26,27,28]))))
 (.step (.cs [99,111,100,101])<|.step (.bin .eql 0 70)<|.ite 71
 (.step (.ci .i64 0)<|.step (.call 85 [72] 0)<|.step (.bin .neq 2 73)<|.ite 74
 (.step (.ci .i64 8)<|.ret [72,75,7,8,9,10,11,12,13,14,15,16,17,18,19,20,21,22,23,24,25,26,27,28])
 (.step (.bin .eql 2 72)<|.ite 75
 (.step (.ci .u64 0)<|.step (.bin .eql 3 76)<|.ite 77
 (.step (.ci .i64 17)<|.ret [72,78,7,8,9,10,11,12,13,14,15,16,17,18,19,20,21,22,23,24,25,26,27,28])
 (.step (.ci .i64 1)<|.step (.bin .eql 2 78)<|.ret [72,72,7,8,9,10,11,12,13,14,15,16,17,18,19,3,21,22,23,24,25,26,27,28]))
 (.step (.ci .i64 1)<|.step (.bin .eql 2 76)<|.ite 77
 (.step (.cs [])<|.step (.bin .eql 4 78)<|.ite 79
 (.step (.ci .i64 17)<|.ret [72,80,7,8,9,10,11,12,13,14,15,16,17,18,19,20,21,22,23,24,25,26,27,28])
 (.ret [72,72,7,8,9,10,11,12,13,14,15,16,17,18,19,3,21,22,23,24,25,26,27,28]))
 (.ret [72,72,7,8,9,10,11,12,13,14,15,16,17,18,19,3,21,22,23,24,25,26,27,28]))))
 (.step (.cs [119,97,110,116])<|.step (.bin .eql 0 72)<|.ite 73
 (.step (.ci .i64 0)<|.step (.call 85 [74] 0)<|.step (.bin .neq 2 75)<|.ite 76
 (.step (.ci .i64 8)<|.ret [74,77,7,8,9,10,11,12,13,14,15,16,17,18,19,20,21,22,23,24,25,26,27,28])
 (.step (.bin .eql 2 74)<|.ite 77
 (.step (.ci .u64 0)<|.step (.bin .eql 3 78)<|.ite 79
 (.step (.ci .i64 17)<|.ret [74,80,7,8,9,10,11,12,13,14,15,16,17,18,19,20,21,22,23,24,25,26,27,28])
 (.step (.ci .i64 1)<|.step (.bin .eql 2 80)<|.ret [74,74,7,8,9,10,11,12,13,14,15,16,17,18,19,20,3,22,23,24,25,26,27,28]))
 (.step (.ci .i64 1)<|.step (.bin .eql 2 78)<|.ite 79
 (.step (.cs [])<|.step (.bin .eql 4 80)<|.ite 81
 (.step (.ci .i64 17)<|.ret [74,82,7,8,9,10,11,12,13,14,15,16,17,18,19,20,21,22,23,24,25,26,27,28])
 (.ret [74,74,7,8,9,10,11,12,13,14,15,16,17,18,19,20,3,22,23,24,25,26,27,28]))
 (.ret [74,74,7,8,9,10,11,12,13,14,15,16,17,18,19,20,3,22,23,24,25,26,27,28]))))
 (.step (.ci .i64 26)<|.step (.ci .i64 0)<|.ret [75,74,7,8,9,10,11,12,13,14,15,16,17,18,19,20,21,22,23,24,25,26,27,28]))))))))))))))))))))))
def Xd:aH:=.tree 0<|.step (.ci .i64 0)<|.ret [0]
def Xc:aH:=.tree 24<|.step (.ci .i64 0)<|.ret [24]
def Xb:aH:=.tree 24<|.step (.ci .i64 0)<|.ret [24]
def Xa:aH:=.tree 24<|.step (.ci .i64 0)<|.ret [24]
def W9:aH:=.tree 24<|.step (.ci .i64 0)<|.ret [24]
def WZ:aH:=.tree 24<|.step (.ci .i64 0)<|.ret [24]
def WY:aH:=.tree 24<|.step (.ci .i64 0)<|.ret [24]
def WX:aH:=.tree 24<|.step (.ci .i64 0)<|.ret [24]
def WW:aH:=.tree 24<|.step (.ci .i64 0)<|.ret [24]
def WV:aH:=.tree 24<|.step (.ci .i64 0)<|.ret [24]
def WU:aH:=.tree 24<|.step (.ci .i64 0)<|.ret [24]
def WT:aH:=.tree 24<|.step (.ci .i64 0)<|.ret [24]
def WS:aH:=.tree 24<|.step (.ci .i64 0)<|.ret [24]
def WR:aH:=.tree 24<|.step (.ci .i64 0)<|.ret [24]
def WQ:aH:=.tree 24<|.step (.ci .i64 0)<|.ret [24]
def WO:aH:=.tree 24<|.step (.ci .i64 0)<|.ret [24]
def WM:aH:=.tree 24<|.step (.call 22 [22] 0)<|.step (.ci .i64 0)<|.ret [25,24]
def WL:aH:=.tree 24<|.step (.len 21)<|.step (.ci .i64 0)<|.step (.bin .gtr 24 25)<|.ite 26
 (.step (.call 25 [21] 0)<|.ret [25,27])
 (.ret [25,25])
def WJ:aH:=.tree 24<|.step (.ci .i64 0)<|.step (.ci .i64 256)<|.step (.call 28 [20,24,25] 0)<|.ret [24,26]
def WI:aH:=.tree 24<|.step (.ci .i64 0)<|.step (.ci .i64 256)<|.step (.call 28 [19,24,25] 0)<|.ret [24,26]
def WH:aH:=.tree 24<|.step (.ci .i64 0)<|.step (.ci .i64 256)<|.step (.call 28 [18,24,25] 0)<|.ret [24,26]
def WG:aH:=.tree 24<|.step (.ci .i64 0)<|.ret [24]
def WE:aH:=.tree 24<|.step (.ci .i64 0)<|.ret [24]
def VT:aH:=.tree 4<|.step (.bin .lss 3 2)<|.ite 4
 (.step (.at 2 1 3)<|.step (.cell 0 5)<|.step (.cell 1 5)<|.step (.mk [6,7])<|.step (.call 24 [8] 0)<|.step (.ci .i64 0)<|.step (.bin .neq 9 10)<|.ite 11
 (.ret [10,9])
 (.step (.call 7 [6] 0)<|.step (.bin .gtr 3 10)<|.ite 13
 (.step (.bin .eql 12 0)<|.ite 14
 (.step (.ci .i64 14)<|.ret [10,15])
 (.step (.bin .lss 12 0)<|.ite 15
 (.step (.ci .i64 7)<|.ret [10,16])
 (.step (.ci .i64 1)<|.step (.bin .add 3 16)<|.tail 23 [12,1,2,17])))
 (.step (.ci .i64 1)<|.step (.bin .add 3 14)<|.tail 23 [12,1,2,15])))
 (.step (.ci .i64 1)<|.ret [5])
def VX:aH:=.tree 3<|.step (.bin .lss 2 1)<|.ite 3
 (.step (.at 2 0 2)<|.step (.cell 0 4)<|.step (.cell 1 4)<|.step (.mk [5,6])<|.step (.call 27 [7] 0)<|.step (.ci .i64 0)<|.step (.bin .neq 8 9)<|.ite 10
 (.ret [9,8])
 (.step (.bin .eql 2 9)<|.ite 11
 (.step (.ci .i64 1)<|.step (.bin .add 2 12)<|.tail 26 [0,1,13])
 (.step (.ci .i64 1)<|.step (.bin .sub 2 12)<|.step (.at 2 0 13)<|.step (.cell 0 14)<|.step (.bin .eql 5 15)<|.ite 16
 (.step (.ci .i64 14)<|.ret [9,17])
 (.step (.bin .lss 5 15)<|.ite 17
 (.step (.ci .i64 7)<|.ret [9,18])
 (.step (.bin .add 2 12)<|.tail 26 [0,1,18])))))
 (.step (.ci .i64 1)<|.ret [4])
def Wl:aH:=.tree 5<|.step (.bin .lss 4 3)<|.ite 5
 (.step (.at 4 2 4)<|.step (.cell 0 6)<|.step (.cell 1 6)<|.step (.cell 2 6)<|.step (.cell 3 6)<|.step (.bin .leq 9 0)<|.ite 11
 (.step (.mk [7,8,9,10])<|.step (.ml [12])<|.step (.app 4 40 1 13)<|.step (.ci .i64 1)<|.step (.bin .add 4 15)<|.tail 39 [0,14,2,3,16])
 (.step (.ci .i64 1)<|.step (.bin .add 4 12)<|.tail 39 [0,1,2,3,13]))
 (.step (.ci .i64 0)<|.ret [6,1])
def Xg:aH:=.tree 5<|.step (.bin .lss 4 3)<|.ite 5
 (.step (.at 5 2 4)<|.step (.cell 0 6)<|.step (.cell 1 6)<|.step (.cell 2 6)<|.step (.cell 3 6)<|.step (.cell 4 6)<|.step (.ci .u64 0)<|.step (.bin .eql 7 12)<|.ite 13
 (.step (.ci .i64 18)<|.step (.ci .i64 0)<|.ret [15,14])
 (.step (.ci .u64 4294967296)<|.step (.bin .gtr 7 14)<|.ite 15
 (.step (.ci .i64 18)<|.step (.ci .i64 0)<|.ret [17,16])
 (.step (.bin .leq 7 1)<|.ite 16
 (.step (.ci .i64 7)<|.step (.ci .i64 0)<|.ret [18,17])
 (.step (.ci .i64 0)<|.step (.bin .eql 8 17)<|.ite 18
 (.step (.cs [])<|.step (.bin .eql 10 19)<|.ite 20
 (.step (.len 11)<|.step (.bin .eql 21 17)<|.step (.un .not 22)<|.ite 23
 (.step (.ci .i64 8)<|.ret [17,24])
 (.step (.ci .i64 2)<|.step (.bin .neq 8 24)<|.step (.ci .i64 1)<|.step (.bin .add 4 26)<|.tail 76 [0,7,2,3,27]))
 (.step (.ci .i64 8)<|.ret [17,21]))
 (.step (.ci .i64 1)<|.step (.bin .eql 8 19)<|.ite 20
 (.step (.bin .eql 9 12)<|.ite 21
 (.step (.len 11)<|.step (.bin .eql 22 17)<|.step (.un .not 23)<|.ite 24
 (.step (.ci .i64 8)<|.ret [17,25])
 (.step (.ci .i64 2)<|.step (.bin .neq 8 25)<|.step (.bin .add 4 19)<|.tail 76 [0,7,2,3,27]))
 (.step (.ci .i64 8)<|.ret [17,22]))
 (.step (.ci .i64 2)<|.step (.bin .eql 8 21)<|.ite 22
 (.step (.bin .eql 9 12)<|.ite 23
 (.step (.cs [])<|.step (.bin .eql 10 24)<|.step (.un .not 25)<|.ite 26
 (.step (.ci .i64 8)<|.ret [17,27])
 (.step (.bin .neq 8 21)<|.step (.ci .i64 8)<|.step (.bin .geq 0 28)<|.ite 29
 (.step (.ci .i64 9)<|.ret [17,30])
 (.step (.bin .add 0 19)<|.step (.call 75 [11,30] 0)<|.step (.bin .neq 31 17)<|.ite 32
 (.ret [17,31])
 (.step (.bin .add 4 19)<|.tail 76 [0,7,2,3,33]))))
 (.step (.ci .i64 8)<|.ret [17,24]))
 (.step (.ci .i64 8)<|.ret [17,23])))))))
 (.step (.ci .i64 1)<|.ret [6])
def d10:aH:=.tree 2<|.step (.ci .u64 128)<|.step (.bin .geq 0 2)<|.ite 3
 (.step (.ci .u64 7)<|.step (.bin .shr 0 4)<|.step (.ci .i64 1)<|.step (.bin .add 1 6)<|.tail 10 [5,7])
 (.step (.ci .i64 0)<|.ret [4,1])
def Vt:aH:=.tree 5<|.step (.bin .lss 2 1)<|.ite 5
 (.step (.at 5 3 2)<|.step (.at 5 4 2)<|.step (.cell 0 6)<|.step (.cell 0 7)<|.step (.bin .eql 8 9)<|.ite 10
 (.step (.cell 1 6)<|.step (.cell 1 7)<|.step (.bin .eql 11 12)<|.ite 13
 (.step (.cell 2 6)<|.step (.cell 2 7)<|.step (.bin .eql 14 15)<|.ite 16
 (.step (.cell 3 6)<|.step (.cell 3 7)<|.step (.bin .eql 17 18)<|.step (.un .not 19)<|.ite 20
 (.step (.ci .i64 0)<|.ret [21])
 (.step (.cell 4 6)<|.step (.len 21)<|.step (.ci .i64 0)<|.step (.bin .gtr 22 23)<|.ite 24
 (.step (.cell 4 7)<|.step (.mk [21,25])<|.step (.ml [26])<|.step (.app 2 48 0 27)<|.step (.ci .i64 1)<|.step (.bin .add 2 29)<|.tail 109 [28,1,30,3,4])
 (.step (.cell 4 7)<|.step (.len 25)<|.step (.bin .gtr 26 23)<|.ite 27
 (.step (.mk [21,25])<|.step (.ml [28])<|.step (.app 2 48 0 29)<|.step (.ci .i64 1)<|.step (.bin .add 2 31)<|.tail 109 [30,1,32,3,4])
 (.step (.ci .i64 1)<|.step (.bin .add 2 28)<|.tail 109 [0,1,29,3,4]))))
 (.step (.ci .i64 0)<|.ret [17]))
 (.step (.ci .i64 0)<|.ret [14]))
 (.step (.ci .i64 0)<|.ret [11]))
 (.step (.ci .i64 1)<|.ret [6,0])
def WB:aH:=.tree 29<|.step (.bin .lss 3 2)<|.ite 29
 (.step (.at 1 1 3)<|.step (.cell 0 30)<|.step (.cs [])<|.step (.bin .eql 31 32)<|.step (.cb false)<|.step (.yX 34 4 31)<|.step (.cell 0 35)<|.step (.un .not 36)<|.ite 37
 (.step (.cs [114,101,109,97,105,110,105,110,103])<|.step (.bin .eql 31 38)<|.ite 39
 (.step (.ci .i64 0)<|.step (.bin .eql 21 40)<|.step (.un .not 41)<|.ite 42
 (.ret [40])
 (.step (.ci .i64 1)<|.step (.bin .add 3 43)<|.tail 49 [0,1,2,44,4,5,6,7,8,9,10,11,12,13,14,15,16,17,18,19,20,21,22,23,24,25,26,27,28]))
 (.step (.cs [97,108,108,111,119,101,100])<|.step (.bin .eql 31 40)<|.ite 41
 (.step (.un .not 22)<|.step (.un .not 42)<|.ite 43
 (.step (.ci .i64 0)<|.ret [44])
 (.step (.ci .i64 1)<|.step (.bin .add 3 44)<|.tail 49 [0,1,2,45,4,5,6,7,8,9,10,11,12,13,14,15,16,17,18,19,20,21,22,23,24,25,26,27,28]))
 (.step (.cs [110,97,109,101])<|.step (.bin .eql 31 42)<|.ite 43
 (.step (.bin .eql 23 32)<|.step (.un .not 44)<|.ite 45
 (.step (.ci .i64 0)<|.ret [46])
 (.step (.ci .i64 1)<|.step (.bin .add 3 46)<|.tail 49 [0,1,2,47,4,5,6,7,8,9,10,11,12,13,14,15,16,17,18,19,20,21,22,23,24,25,26,27,28]))
 (.step (.cs [114,101,103,105,111,110])<|.step (.bin .eql 31 44)<|.ite 45
 (.step (.bin .eql 24 32)<|.step (.un .not 46)<|.ite 47
 (.step (.ci .i64 0)<|.ret [48])
 (.step (.ci .i64 1)<|.step (.bin .add 3 48)<|.tail 49 [0,1,2,49,4,5,6,7,8,9,10,11,12,13,14,15,16,17,18,19,20,21,22,23,24,25,26,27,28]))
 (.step (.cs [110,111,116,101])<|.step (.bin .eql 31 46)<|.ite 47
 (.step (.bin .eql 25 32)<|.step (.un .not 48)<|.ite 49
 (.step (.ci .i64 0)<|.ret [50])
 (.step (.ci .i64 1)<|.step (.bin .add 3 50)<|.tail 49 [0,1,2,51,4,5,6,7,8,9,10,11,12,13,14,15,16,17,18,19,20,21,22,23,24,25,26,27,28]))
 (.step (.cs [100,101,115,99,114])<|.step (.bin .eql 31 48)<|.ite 49
 (.step (.len 26)<|.step (.ci .i64 0)<|.step (.bin .eql 50 51)<|.step (.un .not 52)<|.ite 53
 (.ret [51])
 (.step (.ci .i64 1)<|.step (.bin .add 3 54)<|.tail 49 [0,1,2,55,4,5,6,7,8,9,10,11,12,13,14,15,16,17,18,19,20,21,22,23,24,25,26,27,28]))
 (.step (.cs [116,97,98,108,101])<|.step (.bin .eql 31 50)<|.ite 51
 (.step (.len 27)<|.step (.ci .i64 0)<|.step (.bin .eql 52 53)<|.step (.un .not 54)<|.ite 55
 (.ret [53])
 (.step (.ci .i64 1)<|.step (.bin .add 3 56)<|.tail 49 [0,1,2,57,4,5,6,7,8,9,10,11,12,13,14,15,16,17,18,19,20,21,22,23,24,25,26,27,28]))
 (.step (.cs [105,100])<|.step (.bin .eql 31 52)<|.ite 53
 (.step (.ci .u64 0)<|.step (.bin .eql 6 54)<|.step (.un .not 55)<|.ite 56
 (.step (.ci .i64 0)<|.ret [57])
 (.step (.ci .i64 1)<|.step (.bin .add 3 57)<|.tail 49 [0,1,2,58,4,5,6,7,8,9,10,11,12,13,14,15,16,17,18,19,20,21,22,23,24,25,26,27,28]))
 (.step (.cs [109,105,110])<|.step (.bin .eql 31 54)<|.ite 55
 (.step (.ci .u64 0)<|.step (.bin .eql 7 56)<|.step (.un .not 57)<|.ite 58
 (.step (.ci .i64 0)<|.ret [59])
 (.step (.ci .i64 1)<|.step (.bin .add 3 59)<|.tail 49 [0,1,2,60,4,5,6,7,8,9,10,11,12,13,14,15,16,17,18,19,20,21,22,23,24,25,26,27,28]))
 (.step (.cs [109,97,120])<|.step (.bin .eql 31 56)<|.ite 57
 (.step (.ci .u64 0)<|.step (.bin .eql 8 58)<|.step (.un .not 59)<|.ite 60
 (.step (.ci .i64 0)<|.ret [61])
 (.step (.ci .i64 1)<|.step (.bin .add 3 61)<|.tail 49 [0,1,2,62,4,5,6,7,8,9,10,11,12,13,14,15,16,17,18,19,20,21,22,23,24,25,26,27,28]))
 (.step (.cs [99,104,111,115,101,110])<|.step (.bin .eql 31 58)<|.ite 59
 (.step (.ci .u64 0)<|.step (.bin .eql 9 60)<|.step (.un .not 61)<|.ite 62
 (.step (.ci .i64 0)<|.ret [63])
 (.step (.ci .i64 1)<|.step (.bin .add 3 63)<|.tail 49 [0,1,2,64,4,5,6,7,8,9,10,11,12,13,14,15,16,17,18,19,20,21,22,23,24,25,26,27,28]))
 (.step (.cs [102,108,97,103,115])<|.step (.bin .eql 31 60)<|.ite 61
 (.step (.ci .u64 0)<|.step (.bin .eql 10 62)<|.step (.un .not 63)<|.ite 64
 (.step (.ci .i64 0)<|.ret [65])
 (.step (.ci .i64 1)<|.step (.bin .add 3 65)<|.tail 49 [0,1,2,66,4,5,6,7,8,9,10,11,12,13,14,15,16,17,18,19,20,21,22,23,24,25,26,27,28]))
 (.step (.cs [99,111,115,116])<|.step (.bin .eql 31 62)<|.ite 63
 (.step (.ci .u64 0)<|.step (.bin .eql 11 64)<|.step (.un .not 65)<|.ite 66
 (.step (.ci .i64 0)<|.ret [67])
 (.step (.ci .i64 1)<|.step (.bin .add 3 67)<|.tail 49 [0,1,2,68,4,5,6,7,8,9,10,11,12,13,14,15,16,17,18,19,20,21,22,23,24,25,26,27,28]))
 (.step (.cs [112,114,105,111,114,105,116,121])<|.step (.bin .eql 31 64)<|.ite 65
 (.step (.ci .u64 0)<|.step (.bin .eql 12 66)<|.step (.un .not 67)<|.ite 68
 (.step (.ci .i64 0)<|.ret [69])
 (.step (.ci .i64 1)<|.step (.bin .add 3 69)<|.tail 49 [0,1,2,70,4,5,6,7,8,9,10,11,12,13,14,15,16,17,18,19,20,21,22,23,24,25,26,27,28]))
 (.step (.cs [100,101,97,100,108,105,110,101])<|.step (.bin .eql 31 66)<|.ite 67
 (.step (.ci .u64 0)<|.step (.bin .eql 13 68)<|.step (.un .not 69)<|.ite 70
 (.step (.ci .i64 0)<|.ret [71])
 (.step (.ci .i64 1)<|.step (.bin .add 3 71)<|.tail 49 [0,1,2,72,4,5,6,7,8,9,10,11,12,13,14,15,16,17,18,19,20,21,22,23,24,25,26,27,28]))
 (.step (.cs [114,101,116,114,121])<|.step (.bin .eql 31 68)<|.ite 69
 (.step (.ci .u64 0)<|.step (.bin .eql 14 70)<|.step (.un .not 71)<|.ite 72
 (.step (.ci .i64 0)<|.ret [73])
 (.step (.ci .i64 1)<|.step (.bin .add 3 73)<|.tail 49 [0,1,2,74,4,5,6,7,8,9,10,11,12,13,14,15,16,17,18,19,20,21,22,23,24,25,26,27,28]))
 (.step (.cs [101,112,111,99,104])<|.step (.bin .eql 31 70)<|.ite 71
 (.step (.ci .u64 0)<|.step (.bin .eql 15 72)<|.step (.un .not 73)<|.ite 74
 (.step (.ci .i64 0)<|.ret [75])
 (.step (.ci .i64 1)<|.step (.bin .add 3 75)<|.tail 49 [0,1,2,76,4,5,6,7,8,9,10,11,12,13,14,15,16,17,18,19,20,21,22,23,24,25,26,27,28]))
 (.step (.cs [98,97,115,101])<|.step (.bin .eql 31 72)<|.ite 73
 (.step (.ci .u64 0)<|.step (.bin .eql 16 74)<|.step (.un .not 75)<|.ite 76
 (.step (.ci .i64 0)<|.ret [77])
 (.step (.ci .i64 1)<|.step (.bin .add 3 77)<|.tail 49 [0,1,2,78,4,5,6,7,8,9,10,11,12,13,14,15,16,17,18,19,20,21,22,23,24,25,26,27,28]))
 (.step (.cs [100,105,103,101,115,116])<|.step (.bin .eql 31 74)<|.ite 75
 (.step (.ci .u64 0)<|.step (.bin .eql 17 76)<|.step (.un .not 77)<|.ite 78
 (.step (.ci .i64 0)<|.ret [79])
 (.step (.ci .i64 1)<|.step (.bin .add 3 79)<|.tail 49 [0,1,2,80,4,5,6,7,8,9,10,11,12,13,14,15,16,17,18,19,20,21,22,23,24,25,26,27,28]))
 (.step (.cs [108,97,103])<|.step (.bin .eql 31 76)<|.ite 77
 (.step (.ci .u64 0)<|.step (.bin .eql 18 78)<|.step (.un .not 79)<|.ite 80
 (.step (.ci .i64 0)<|.ret [81])
 (.step (.ci .i64 1)<|.step (.bin .add 3 81)<|.tail 49 [0,1,2,82,4,5,6,7,8,9,10,11,12,13,14,15,16,17,18,19,20,21,22,23,24,25,26,27,28]))
 (.step (.cs [99,111,100,101])<|.step (.bin .eql 31 78)<|.ite 79
 (.step (.ci .u64 0)<|.step (.bin .eql 19 80)<|.step (.un .not 81)<|.ite 82
 (.step (.ci .i64 0)<|.ret [83])
 (.step (.ci .i64 1)<|.step (.bin .add 3 83)<|.tail 49 [0,1,2,84,4,5,6,7,8,9,10,11,12,13,14,15,16,17,18,19,20,21,22,23,24,25,26,27,28]))
 (.step (.cs [119,97,110,116])<|.step (.bin .eql 31 80)<|.ite 81
 (.step (.ci .u64 0)<|.step (.bin .eql 20 82)<|.step (.un .not 83)<|.ite 84
 (.step (.ci .i64 0)<|.ret [85])
 (.step (.ci .i64 1)<|.step (.bin .add 3 85)<|.tail 49 [0,1,2,86,4,5,6,7,8,9,10,11,12,13,14,15,16,17,18,19,20,21,22,23,24,25,26,27,28]))
 (.step (.ci .i64 1)<|.step (.bin .add 3 82)<|.tail 49 [0,1,2,83,4,5,6,7,8,9,10,11,12,13,14,15,16,17,18,19,20,21,22,23,24,25,26,27,28])))))))))))))))))))))))
 (.step (.ci .i64 1)<|.step (.bin .add 3 38)<|.tail 49 [0,1,2,39,4,5,6,7,8,9,10,11,12,13,14,15,16,17,18,19,20,21,22,23,24,25,26,27,28]))
 (.step (.ci .i64 1)<|.ret [30])
def Vp:aH:=.tree 4<|.step (.bin .lss 3 2)<|.ite 4
 (.step (.at 2 1 3)<|.step (.cell 0 5)<|.step (.cell 1 5)<|.step (.at 2 0 3)<|.step (.cell 0 8)<|.step (.cell 1 8)<|.step (.mk [6,7])<|.step (.mk [9,10])<|.step (.call 106 [11,12] 0)<|
 .step (.un .not 13)<|.ite 14
 (.step (.ci .i64 0)<|.ret [15])
 (.step (.ci .i64 1)<|.step (.bin .add 3 15)<|.tail 105 [0,1,2,16]))
 (.step (.ci .i64 1)<|.ret [5])
def XB:aH:=.tree 6<|.step (.bin .lss 3 2)<|.ite 6
 (.step (.ci .i64 0)<|.step (.bin .eql 3 7)<|.step (.call 97 [4,5,1,8] 0)<|.step (.call 97 [4,5,1,8] 1)<|.step (.call 97 [4,5,1,8] 2)<|.step (.call 97 [4,5,1,8] 3)<|.step (.call 97 [4,5,1,8] 4)<|
 .step (.bin .neq 11 7)<|.ite 14
 (.ret [7,11,12,13])
 (.step (.call 98 [10,12,13] 0)<|.step (.call 98 [10,12,13] 1)<|.step (.call 98 [10,12,13] 2)<|.step (.call 98 [10,12,13] 3)<|.step (.call 98 [10,12,13] 4)<|.step (.call 98 [10,12,13] 5)<|
 .step (.bin .neq 18 7)<|.ite 21
 (.ret [7,18,19,20])
 (.step (.mk [16,17])<|.step (.ml [22])<|.step (.app 2 32 0 23)<|.step (.ci .i64 1)<|.step (.bin .add 3 25)<|.tail 96 [24,10,2,26,19,20])))
 (.step (.ci .i64 1)<|.ret [7,0,4,5])
def Xi:aH:=.tree 11<|.step (.bin .lss 5 4)<|.ite 11
 (.step (.at 4 0 5)<|.step (.cell 0 12)<|.step (.cell 1 12)<|.step (.cell 2 12)<|.step (.cell 3 12)<|.step (.bin .eql 6 13)<|.ite 17
 (.step (.ci .i64 0)<|.ret [18])
 (.step (.ci .i64 1)<|.step (.bin .add 5 18)<|.tail 78 [0,1,2,3,4,19,6,7,8,9,10]))
 (.step (.ci .i64 1)<|.ret [12])
def Xv:aH:=.tree 4<|.step (.bin .lss 3 2)<|.ite 4
 (.step (.kN 0 3)<|.step (.ci .u8 127)<|.step (.bin .and 5 6)<|.step (.conv .u64 7)<|.step (.ci .i64 7)<|.step (.bin .mul 9 3)<|.step (.bin .shl 8 10)<|.step (.bin .or 1 11)<|.step (.ci .u8 128)<|
 .step (.bin .geq 5 13)<|.ite 14
 (.step (.ci .i64 1)<|.step (.bin .add 3 15)<|.tail 90 [0,12,2,16])
 (.step (.ci .i64 9)<|.step (.bin .eql 3 15)<|.ite 16
 (.step (.ci .u8 1)<|.step (.bin .gtr 5 17)<|.ite 18
 (.step (.ci .u64 0)<|.step (.ci .i64 0)<|.step (.ci .i64 3)<|.ret [20,19,20,21])
 (.step (.ci .i64 0)<|.step (.bin .gtr 3 19)<|.ite 20
 (.step (.ci .u8 0)<|.step (.bin .eql 5 21)<|.ite 22
 (.step (.ci .u64 0)<|.step (.ci .i64 2)<|.ret [19,23,19,24])
 (.step (.ci .i64 1)<|.step (.bin .add 3 23)<|.ret [19,12,24,19]))
 (.step (.ci .i64 1)<|.step (.bin .add 3 21)<|.ret [19,12,22,19])))
 (.step (.ci .i64 0)<|.step (.bin .gtr 3 17)<|.ite 18
 (.step (.ci .u8 0)<|.step (.bin .eql 5 19)<|.ite 20
 (.step (.ci .u64 0)<|.step (.ci .i64 2)<|.ret [17,21,17,22])
 (.step (.ci .i64 1)<|.step (.bin .add 3 21)<|.ret [17,12,22,17]))
 (.step (.ci .i64 1)<|.step (.bin .add 3 19)<|.ret [17,12,20,17]))))
 (.step (.ci .i64 1)<|.ret [5,0])
def d4:aH:=.tree 3<|.step (.bin .lss 2 1)<|.ite 3
 (.step (.at 2 0 2)<|.step (.cell 0 4)<|.step (.cell 1 4)<|.step (.slen 5)<|.step (.slen 6)<|.step (.bin .add 7 8)<|.step (.ci .i64 600)<|.step (.bin .gtr 9 10)<|.ite 11
 (.step (.ci .i64 0)<|.ret [12])
 (.step (.ci .i64 1)<|.step (.bin .add 2 12)<|.tail 4 [0,1,13]))
 (.step (.ci .i64 1)<|.ret [4])
def Xm:aH:=.tree 27<|.step (.bin .lss 3 2)<|.ite 27
 (.step (.at 2 1 3)<|.step (.cell 0 28)<|.step (.cell 1 28)<|.step (.call 81 [29] 0)<|.step (.mk [31,30])<|.step (.ml [32])<|.step (.app 2 32 0 33)<|.step (.ci .i64 1)<|.step (.bin .add 3 35)<|
 .tail 82 [34,1,2,36,4,5,6,7,8,9,10,11,12,13,14,15,16,17,18,19,20,21,22,23,24,25,26])
 (.step (.ci .i64 0)<|.ret [28,0])
def Xw:aH:=.tree 5<|.step (.bin .lss 2 1)<|.ite 5
 (.step (.call 92 [3,4] 0)<|.step (.call 92 [3,4] 1)<|.step (.call 92 [3,4] 2)<|.step (.call 92 [3,4] 3)<|.step (.call 92 [3,4] 4)<|.step (.call 92 [3,4] 5)<|.step (.ci .i64 0)<|
 .step (.bin .neq 9 12)<|.ite 13
 (.ret [12,9,10,11])
 (.step (.bin .gtr 2 12)<|.ite 14
 (.step (.ci .i64 1)<|.step (.bin .sub 2 15)<|.step (.idx 0 16)<|.step (.at 2 0 17)<|.step (.cell 0 18)<|.step (.bin .eql 7 19)<|.ite 20
 (.step (.ci .i64 14)<|.ret [12,21,10,11])
 (.step (.bin .lss 7 19)<|.ite 21
 (.step (.ci .i64 7)<|.ret [12,22,10,11])
 (.step (.mk [7,8])<|.step (.ml [22])<|.step (.app 2 32 0 23)<|.step (.bin .add 2 15)<|.tail 91 [24,1,25,10,11])))
 (.step (.mk [7,8])<|.step (.ml [15])<|.step (.app 2 32 0 16)<|.step (.ci .i64 1)<|.step (.bin .add 2 18)<|.tail 91 [17,1,19,10,11])))
 (.step (.ci .i64 1)<|.ret [6,0,3,4])
def Vu:aH:=.tree 57<|.step (.bin .lss 3 2)<|.ite 57
 (.step (.at 1 1 3)<|.step (.cell 0 58)<|.step (.cs [116,97,98,108,101])<|.step (.bin .eql 59 60)<|.ite 61
 (.step (.call 22 [55] 0)<|.step (.ci .i64 0)<|.step (.bin .neq 62 63)<|.ite 64
 (.step (.ci .i64 1)<|.step (.bin .add 3 65)<|.tail 110 [0,1,2,66,4,5,6,7,8,9,10,11,12,13,14,15,16,17,18,19,20,21,22,23,24,25,26,27,28,29,30,31,32,33,34,35,36,37,38,39,40,41,42,43,44,45,46,47,48,49,50,51,52,53,54,55,56])
 (.step (.mk [4,5,6,7,8,9,10,11,12,13,14,15,16,17,18,19,20,21,22,23,24,25,26,27])<|.step (.call 20 [65,59] 0)<|.step (.cell 0 66)<|.step (.cell 1 66)<|.step (.cell 2 66)<|
 .step (.cell 3 66)<|.step (.cell 4 66)<|.step (.call 20 [65,59] 1)<|.step (.mk [33,34,35,36,37,38,39,40,41,42,43,44,45,46,47,48,49,50,51,52,53,54,55,56])<|
 .step (.call 20 [73,59] 0)<|.step (.cell 0 74)<|.step (.cell 1 74)<|.step (.cell 2 74)<|.step (.cell 3 74)<|.step (.cell 4 74)<|.step (.call 20 [73,59] 1)<|.step (.bin .eql 59 0)<|
 .ite 81
 (.step (.bin .neq 69 30)<|.ite 82
 (.ret [63])
 (.step (.bin .neq 70 31)<|.ite 83
 (.ret [63])
 (.step (.ci .i64 1)<|.step (.bin .add 3 84)<|.tail 110 [0,1,2,85,4,5,6,7,8,9,10,11,12,13,14,15,16,17,18,19,20,21,22,23,24,25,26,27,28,29,30,31,32,33,34,35,36,37,38,39,40,41,42,43,44,45,46,47,48,49,50,51,52,53,54,55,56])))
 (.step (.bin .neq 69 77)<|.ite 82
 (.ret [63])
 (.step (.bin .neq 70 78)<|.ite 83
 (.ret [63])
 (.step (.ci .i64 1)<|.step (.bin .add 3 84)<|.tail 110 [0,1,2,85,4,5,6,7,8,9,10,11,12,13,14,15,16,17,18,19,20,21,22,23,24,25,26,27,28,29,30,31,32,33,34,35,36,37,38,39,40,41,42,43,44,45,46,47,48,49,50,51,52,53,54,55,56])))))
 (.step (.mk [4,5,6,7,8,9,10,11,12,13,14,15,16,17,18,19,20,21,22,23,24,25,26,27])<|.step (.call 20 [62,59] 0)<|.step (.cell 0 63)<|.step (.cell 1 63)<|.step (.cell 2 63)<|
 .step (.cell 3 63)<|.step (.cell 4 63)<|.step (.call 20 [62,59] 1)<|.step (.mk [33,34,35,36,37,38,39,40,41,42,43,44,45,46,47,48,49,50,51,52,53,54,55,56])<|
 .step (.call 20 [70,59] 0)<|.step (.cell 0 71)<|.step (.cell 1 71)<|.step (.cell 2 71)<|.step (.cell 3 71)<|.step (.cell 4 71)<|.step (.call 20 [70,59] 1)<|.step (.bin .eql 59 0)<|
 .ite 78
 (.step (.bin .neq 66 30)<|.ite 79
 (.step (.ci .i64 0)<|.ret [80])
 (.step (.bin .neq 67 31)<|.ite 80
 (.step (.ci .i64 0)<|.ret [81])
 (.step (.ci .i64 1)<|.step (.bin .add 3 81)<|.tail 110 [0,1,2,82,4,5,6,7,8,9,10,11,12,13,14,15,16,17,18,19,20,21,22,23,24,25,26,27,28,29,30,31,32,33,34,35,36,37,38,39,40,41,42,43,44,45,46,47,48,49,50,51,52,53,54,55,56])))
 (.step (.bin .neq 66 74)<|.ite 79
 (.step (.ci .i64 0)<|.ret [80])
 (.step (.bin .neq 67 75)<|.ite 80
 (.step (.ci .i64 0)<|.ret [81])
 (.step (.ci .i64 1)<|.step (.bin .add 3 81)<|.tail 110 [0,1,2,82,4,5,6,7,8,9,10,11,12,13,14,15,16,17,18,19,20,21,22,23,24,25,26,27,28,29,30,31,32,33,34,35,36,37,38,39,40,41,42,43,44,45,46,47,48,49,50,51,52,53,54,55,56])))))
 (.step (.ci .i64 1)<|.ret [58])
def Vs:aH:=.tree 1<|.step (.len 0)<|.step (.ci .i64 0)<|.step (.bin .gtr 1 2)<|.ite 3
 (.step (.ci .i64 1)<|.step (.bin .sub 1 4)<|.step (.idx 0 5)<|.step (.at 2 0 6)<|.step (.cell 0 7)<|.step (.cell 1 7)<|.step (.qZ 2 0 2 5)<|.step (.len 8)<|.step (.len 9)<|.step (.bin .neq 11 12)<|
 .ite 13
 (.ret [2])
 (.step (.call 109 [10,11,2,8,9] 0)<|.step (.bin .eql 14 2)<|.ite 15
 (.ret [2])
 (.step (.call 109 [10,11,2,8,9] 1)<|.tail 108 [16])))
 (.step (.ci .i64 1)<|.ret [4])
def WC:aH:=.tree 27<|.step (.bin .lss 2 1)<|.ite 27
 (.step (.at 4 0 2)<|.step (.cell 0 28)<|.step (.cell 1 28)<|.step (.cell 2 28)<|.step (.cell 3 28)<|.step (.cs [114,101,109,97,105,110,105,110,103])<|.step (.bin .eql 32 33)<|
 .ite 34
 (.step (.call 51 [3,4,5,6,7,8,9,10,11,12,13,14,15,16,17,18,19,20,21,22,23,24,25,26] 0)<|.step (.ci .i64 1)<|.step (.bin .add 2 36)<|.tail 50 [0,1,37,3,4,5,6,7,8,9,10,11,12,13,14,15,16,17,18,19,20,21,22,23,24,25,26])
 (.step (.cs [97,108,108,111,119,101,100])<|.step (.bin .eql 32 35)<|.ite 36
 (.step (.call 52 [3,4,5,6,7,8,9,10,11,12,13,14,15,16,17,18,19,20,21,22,23,24,25,26] 0)<|.step (.ci .i64 1)<|.step (.bin .add 2 38)<|.tail 50 [0,1,39,3,4,5,6,7,8,9,10,11,12,13,14,15,16,17,18,19,20,21,22,23,24,25,26])
 (.step (.cs [110,97,109,101])<|.step (.bin .eql 32 37)<|.ite 38
 (.step (.call 53 [3,4,5,6,7,8,9,10,11,12,13,14,15,16,17,18,19,20,21,22,23,24,25,26] 0)<|.step (.call 53 [3,4,5,6,7,8,9,10,11,12,13,14,15,16,17,18,19,20,21,22,23,24,25,26] 1)<|
 .step (.ci .i64 0)<|.step (.bin .neq 40 41)<|.ite 42
 (.ret [41,40])
 (.step (.ci .i64 1)<|.step (.bin .add 2 43)<|.tail 50 [0,1,44,3,4,5,6,7,8,9,10,11,12,13,14,15,16,17,18,19,20,21,22,23,24,25,26]))
 (.step (.cs [114,101,103,105,111,110])<|.step (.bin .eql 32 39)<|.ite 40
 (.step (.call 54 [3,4,5,6,7,8,9,10,11,12,13,14,15,16,17,18,19,20,21,22,23,24,25,26] 0)<|.step (.call 54 [3,4,5,6,7,8,9,10,11,12,13,14,15,16,17,18,19,20,21,22,23,24,25,26] 1)<|
 .step (.ci .i64 0)<|.step (.bin .neq 42 43)<|.ite 44
 (.ret [43,42])
 (.step (.ci .i64 1)<|.step (.bin .add 2 45)<|.tail 50 [0,1,46,3,4,5,6,7,8,9,10,11,12,13,14,15,16,17,18,19,20,21,22,23,24,25,26]))
 (.step (.cs [110,111,116,101])<|.step (.bin .eql 32 41)<|.ite 42
 (.step (.call 55 [3,4,5,6,7,8,9,10,11,12,13,14,15,16,17,18,19,20,21,22,23,24,25,26] 0)<|.step (.call 55 [3,4,5,6,7,8,9,10,11,12,13,14,15,16,17,18,19,20,21,22,23,24,25,26] 1)<|
 .step (.ci .i64 0)<|.step (.bin .neq 44 45)<|.ite 46
 (.ret [45,44])
 (.step (.ci .i64 1)<|.step (.bin .add 2 47)<|.tail 50 [0,1,48,3,4,5,6,7,8,9,10,11,12,13,14,15,16,17,18,19,20,21,22,23,24,25,26]))
 (.step (.cs [100,101,115,99,114])<|.step (.bin .eql 32 43)<|.ite 44
 (.step (.call 56 [3,4,5,6,7,8,9,10,11,12,13,14,15,16,17,18,19,20,21,22,23,24,25,26] 0)<|.step (.call 56 [3,4,5,6,7,8,9,10,11,12,13,14,15,16,17,18,19,20,21,22,23,24,25,26] 1)<|
 .step (.ci .i64 0)<|.step (.bin .neq 46 47)<|.ite 48
 (.ret [47,46])
 (.step (.ci .i64 1)<|.step (.bin .add 2 49)<|.tail 50 [0,1,50,3,4,5,6,7,8,9,10,11,12,13,14,15,16,17,18,19,20,21,22,23,24,25,26]))
 (.step (.cs [116,97,98,108,101])<|.step (.bin .eql 32 45)<|.ite 46
 (.step (.call 57 [3,4,5,6,7,8,9,10,11,12,13,14,15,16,17,18,19,20,21,22,23,24,25,26] 0)<|.step (.call 57 [3,4,5,6,7,8,9,10,11,12,13,14,15,16,17,18,19,20,21,22,23,24,25,26] 1)<|
 .step (.ci .i64 0)<|.step (.bin .neq 48 49)<|.ite 50
 (.ret [49,48])
 (.step (.ci .i64 1)<|.step (.bin .add 2 51)<|.tail 50 [0,1,52,3,4,5,6,7,8,9,10,11,12,13,14,15,16,17,18,19,20,21,22,23,24,25,26]))
 (.step (.cs [105,100])<|.step (.bin .eql 32 47)<|.ite 48
 (.step (.call 58 [3,4,5,6,7,8,9,10,11,12,13,14,15,16,17,18,19,20,21,22,23,24,25,26] 0)<|.step (.ci .i64 1)<|.step (.bin .add 2 50)<|.tail 50 [0,1,51,3,4,5,6,7,8,9,10,11,12,13,14,15,16,17,18,19,20,21,22,23,24,25,26])
 (.step (.cs [109,105,110])<|.step (.bin .eql 32 49)<|.ite 50
 (.step (.call 59 [3,4,5,6,7,8,9,10,11,12,13,14,15,16,17,18,19,20,21,22,23,24,25,26] 0)<|.step (.ci .i64 1)<|.step (.bin .add 2 52)<|.tail 50 [0,1,53,3,4,5,6,7,8,9,10,11,12,13,14,15,16,17,18,19,20,21,22,23,24,25,26])
 (.step (.cs [109,97,120])<|.step (.bin .eql 32 51)<|.ite 52
 (.step (.call 60 [3,4,5,6,7,8,9,10,11,12,13,14,15,16,17,18,19,20,21,22,23,24,25,26] 0)<|.step (.ci .i64 1)<|.step (.bin .add 2 54)<|.tail 50 [0,1,55,3,4,5,6,7,8,9,10,11,12,13,14,15,16,17,18,19,20,21,22,23,24,25,26])
 (.step (.cs [99,104,111,115,101,110])<|.step (.bin .eql 32 53)<|.ite 54
 (.step (.call 61 [3,4,5,6,7,8,9,10,11,12,13,14,15,16,17,18,19,20,21,22,23,24,25,26] 0)<|.step (.ci .i64 1)<|.step (.bin .add 2 56)<|.tail 50 [0,1,57,3,4,5,6,7,8,9,10,11,12,13,14,15,16,17,18,19,20,21,22,23,24,25,26])
 (.step (.cs [102,108,97,103,115])<|.step (.bin .eql 32 55)<|.ite 56
 (.step (.call 62 [3,4,5,6,7,8,9,10,11,12,13,14,15,16,17,18,19,20,21,22,23,24,25,26] 0)<|.step (.ci .i64 1)<|.step (.bin .add 2 58)<|.tail 50 [0,1,59,3,4,5,6,7,8,9,10,11,12,13,14,15,16,17,18,19,20,21,22,23,24,25,26])
 (.step (.cs [99,111,115,116])<|.step (.bin .eql 32 57)<|.ite 58
 (.step (.call 63 [3,4,5,6,7,8,9,10,11,12,13,14,15,16,17,18,19,20,21,22,23,24,25,26] 0)<|.step (.ci .i64 1)<|.step (.bin .add 2 60)<|.tail 50 [0,1,61,3,4,5,6,7,8,9,10,11,12,13,14,15,16,17,18,19,20,21,22,23,24,25,26])
 (.step (.cs [112,114,105,111,114,105,116,121])<|.step (.bin .eql 32 59)<|.ite 60
 (.step (.call 64 [3,4,5,6,7,8,9,10,11,12,13,14,15,16,17,18,19,20,21,22,23,24,25,26] 0)<|.step (.ci .i64 1)<|.step (.bin .add 2 62)<|.tail 50 [0,1,63,3,4,5,6,7,8,9,10,11,12,13,14,15,16,17,18,19,20,21,22,23,24,25,26])
 (.step (.cs [100,101,97,100,108,105,110,101])<|.step (.bin .eql 32 61)<|.ite 62
 (.step (.call 65 [3,4,5,6,7,8,9,10,11,12,13,14,15,16,17,18,19,20,21,22,23,24,25,26] 0)<|.step (.ci .i64 1)<|.step (.bin .add 2 64)<|.tail 50 [0,1,65,3,4,5,6,7,8,9,10,11,12,13,14,15,16,17,18,19,20,21,22,23,24,25,26])
 (.step (.cs [114,101,116,114,121])<|.step (.bin .eql 32 63)<|.ite 64
 (.step (.call 66 [3,4,5,6,7,8,9,10,11,12,13,14,15,16,17,18,19,20,21,22,23,24,25,26] 0)<|.step (.ci .i64 1)<|.step (.bin .add 2 66)<|.tail 50 [0,1,67,3,4,5,6,7,8,9,10,11,12,13,14,15,16,17,18,19,20,21,22,23,24,25,26])
 (.step (.cs [101,112,111,99,104])<|.step (.bin .eql 32 65)<|.ite 66
 (.step (.call 67 [3,4,5,6,7,8,9,10,11,12,13,14,15,16,17,18,19,20,21,22,23,24,25,26] 0)<|.step (.ci .i64 1)<|.step (.bin .add 2 68)<|.tail 50 [0,1,69,3,4,5,6,7,8,9,10,11,12,13,14,15,16,17,18,19,20,21,22,23,24,25,26])
 (.step (.cs [98,97,115,101])<|.step (.bin .eql 32 67)<|.ite 68
 (.step (.call 68 [3,4,5,6,7,8,9,10,11,12,13,14,15,16,17,18,19,20,21,22,23,24,25,26] 0)<|.step (.ci .i64 1)<|.step (.bin .add 2 70)<|.tail 50 [0,1,71,3,4,5,6,7,8,9,10,11,12,13,14,15,16,17,18,19,20,21,22,23,24,25,26])
 (.step (.cs [100,105,103,101,115,116])<|.step (.bin .eql 32 69)<|.ite 70
 (.step (.call 69 [3,4,5,6,7,8,9,10,11,12,13,14,15,16,17,18,19,20,21,22,23,24,25,26] 0)<|.step (.ci .i64 1)<|.step (.bin .add 2 72)<|.tail 50 [0,1,73,3,4,5,6,7,8,9,10,11,12,13,14,15,16,17,18,19,20,21,22,23,24,25,26])
 (.step (.cs [108,97,103])<|.step (.bin .eql 32 71)<|.ite 72
 (.step (.call 70 [3,4,5,6,7,8,9,10,11,12,13,14,15,16,17,18,19,20,21,22,23,24,25,26] 0)<|.step (.ci .i64 1)<|.step (.bin .add 2 74)<|.tail 50 [0,1,75,3,4,5,6,7,8,9,10,11,12,13,14,15,16,17,18,19,20,21,22,23,24,25,26])
 (.step (.cs [99,111,100,101])<|.step (.bin .eql 32 73)<|.ite 74
 (.step (.call 71 [3,4,5,6,7,8,9,10,11,12,13,14,15,16,17,18,19,20,21,22,23,24,25,26] 0)<|.step (.ci .i64 1)<|.step (.bin .add 2 76)<|.tail 50 [0,1,77,3,4,5,6,7,8,9,10,11,12,13,14,15,16,17,18,19,20,21,22,23,24,25,26])
 (.step (.cs [119,97,110,116])<|.step (.bin .eql 32 75)<|.ite 76
 (.step (.call 72 [3,4,5,6,7,8,9,10,11,12,13,14,15,16,17,18,19,20,21,22,23,24,25,26] 0)<|.step (.ci .i64 1)<|.step (.bin .add 2 78)<|.tail 50 [0,1,79,3,4,5,6,7,8,9,10,11,12,13,14,15,16,17,18,19,20,21,22,23,24,25,26])
 (.step (.call 73 [] 0)<|.step (.ci .i64 1)<|.step (.bin .add 2 78)<|.tail 50 [0,1,79,3,4,5,6,7,8,9,10,11,12,13,14,15,16,17,18,19,20,21,22,23,24,25,26])))))))))))))))))))))))
 (.step (.ci .i64 1)<|.ret [28])
def VI:aH:=.tree 3<|.step (.bin .lss 2 1)<|.ite 3
 (.step (.at 5 0 2)<|.step (.cell 0 4)<|.step (.cell 1 4)<|.step (.cell 2 4)<|.step (.cell 3 4)<|.step (.cell 4 4)<|.step (.slen 9)<|.step (.ci .i64 300)<|.step (.bin .gtr 10 11)<|
 .ite 12
 (.step (.ci .i64 0)<|.ret [13])
 (.step (.ci .i64 1)<|.step (.bin .add 2 13)<|.tail 15 [0,1,14]))
 (.step (.ci .i64 1)<|.ret [4])
def d12:aH:=.tree 4<|.step (.bin .lss 2 1)<|.ite 4
 (.step (.at 2 0 2)<|.step (.cell 0 5)<|.step (.cell 1 5)<|.step (.mk [6,7])<|.step (.call 13 [8] 0)<|.step (.bytes 9)<|.step (.app 1 1 3 10)<|.step (.slen 9)<|.step (.ci .i64 1)<|
 .step (.bin .add 2 13)<|.tail 12 [0,1,14,11])
 (.step (.ci .i64 0)<|.ret [5,3])
def Wy:aH:=.tree 28<|.step (.bin .lss 2 1)<|.ite 28
 (.step (.at 4 0 2)<|.step (.cell 0 29)<|.step (.cell 1 29)<|.step (.cell 2 29)<|.step (.cell 3 29)<|.step (.cs [])<|.step (.bin .eql 33 34)<|.step (.cb true)<|.step (.uT 3 33 36)<|
 .step (.ci .i64 1)<|.step (.bin .add 2 38)<|.tail 47 [0,1,39,37,4,5,6,7,8,9,10,11,12,13,14,15,16,17,18,19,20,21,22,23,24,25,26,27])
 (.step (.ci .i64 0)<|.ret [29,3])
def VN:aH:=.tree 3<|.step (.len 0)<|.step (.ci .i64 0)<|.step (.bin .gtr 3 4)<|.ite 5
 (.step (.at 5 0 4)<|.step (.cell 0 6)<|.step (.bin .geq 7 1)<|.ite 8
 (.step (.cell 1 6)<|.step (.cell 2 6)<|.step (.cell 3 6)<|.step (.cell 4 6)<|.step (.conv .i64 10)<|.step (.ci .u8 255)<|.step (.bin .eql 7 14)<|.ite 15
 (.step (.ci .i64 1)<|.step (.qZ 5 0 16 3)<|.step (.ml [])<|.step (.mk [9,13,11,12,18])<|.step (.ml [19])<|.step (.app 5 64 2 20)<|.tail 19 [17,1,21])
 (.step (.ci .i64 1)<|.step (.qZ 5 0 16 3)<|.step (.ci .u8 1)<|.step (.bin .add 7 18)<|.step (.call 18 [17,19] 0)<|.step (.call 18 [17,19] 1)<|.step (.mk [9,13,11,12,20])<|
 .step (.ml [22])<|.step (.app 5 64 2 23)<|.tail 19 [21,1,24]))
 (.ret [4,0,2]))
 (.ret [4,0,2])
def Vl:aH:=.tree 4<|.step (.bin .lss 3 2)<|.ite 4
 (.step (.at 2 0 3)<|.step (.cell 0 5)<|.step (.cell 1 5)<|.step (.at 2 1 3)<|.step (.cell 0 8)<|.step (.cell 1 8)<|.step (.mk [6,7])<|.step (.mk [9,10])<|.step (.ql .neq [1,1] 11 12)<|
 .ite 13
 (.step (.ci .i64 0)<|.ret [14])
 (.step (.ci .i64 1)<|.step (.bin .add 3 14)<|.tail 102 [0,1,2,15]))
 (.step (.ci .i64 1)<|.ret [5])
def V5:aH:=.tree 5<|.step (.bin .lss 3 2)<|.ite 5
 (.step (.at 2 1 3)<|.step (.cell 0 6)<|.step (.cell 1 6)<|.step (.call 7 [7] 0)<|.step (.call 32 [0,9] 0)<|.step (.bytes 10)<|.step (.app 1 1 4 11)<|.step (.slen 10)<|.step (.call 8 [8] 0)<|
 .step (.bytes 14)<|.step (.app 1 1 12 15)<|.step (.slen 14)<|.step (.ci .i64 1)<|.step (.bin .add 3 18)<|.tail 31 [9,1,2,19,16])
 (.step (.ci .i64 0)<|.ret [6,4])
def Xh:aH:=.tree 4<|.step (.bin .lss 3 2)<|.ite 4
 (.step (.at 5 1 3)<|.step (.cell 0 5)<|.step (.cell 1 5)<|.step (.cell 2 5)<|.step (.cell 3 5)<|.step (.cell 4 5)<|.step (.len 0)<|.step (.ci .i64 0)<|.step (.call 78 [0,1,2,3,11,12,6,7,8,9,10] 0)<|
 .step (.bin .eql 13 12)<|.ite 14
 (.ret [12])
 (.step (.ci .i64 1)<|.step (.bin .add 3 15)<|.tail 77 [0,1,2,16]))
 (.step (.ci .i64 1)<|.ret [5])
def Vj:aH:=.tree 51<|.step (.bin .lss 2 1)<|.ite 51
 (.step (.at 1 0 2)<|.step (.cell 0 52)<|.step (.cs [114,101,109,97,105,110,105,110,103])<|.step (.bin .eql 53 54)<|.ite 55
 (.step (.bin .eql 43 19)<|.step (.un .not 56)<|.ite 57
 (.step (.ci .i64 0)<|.ret [58])
 (.step (.ci .i64 1)<|.step (.bin .add 2 58)<|.tail 100 [0,1,59,3,4,5,6,7,8,9,10,11,12,13,14,15,16,17,18,19,20,21,22,23,24,25,26,27,28,29,30,31,32,33,34,35,36,37,38,39,40,41,42,43,44,45,46,47,48,49,50]))
 (.step (.cs [97,108,108,111,119,101,100])<|.step (.bin .eql 53 56)<|.ite 57
 (.step (.uw .eql 44 20)<|.step (.un .not 58)<|.ite 59
 (.step (.ci .i64 0)<|.ret [60])
 (.step (.ci .i64 1)<|.step (.bin .add 2 60)<|.tail 100 [0,1,61,3,4,5,6,7,8,9,10,11,12,13,14,15,16,17,18,19,20,21,22,23,24,25,26,27,28,29,30,31,32,33,34,35,36,37,38,39,40,41,42,43,44,45,46,47,48,49,50]))
 (.step (.cs [110,97,109,101])<|.step (.bin .eql 53 58)<|.ite 59
 (.step (.bin .eql 45 21)<|.step (.un .not 60)<|.ite 61
 (.step (.ci .i64 0)<|.ret [62])
 (.step (.ci .i64 1)<|.step (.bin .add 2 62)<|.tail 100 [0,1,63,3,4,5,6,7,8,9,10,11,12,13,14,15,16,17,18,19,20,21,22,23,24,25,26,27,28,29,30,31,32,33,34,35,36,37,38,39,40,41,42,43,44,45,46,47,48,49,50]))
 (.step (.cs [114,101,103,105,111,110])<|.step (.bin .eql 53 60)<|.ite 61
 (.step (.bin .eql 46 22)<|.step (.un .not 62)<|.ite 63
 (.step (.ci .i64 0)<|.ret [64])
 (.step (.ci .i64 1)<|.step (.bin .add 2 64)<|.tail 100 [0,1,65,3,4,5,6,7,8,9,10,11,12,13,14,15,16,17,18,19,20,21,22,23,24,25,26,27,28,29,30,31,32,33,34,35,36,37,38,39,40,41,42,43,44,45,46,47,48,49,50]))
 (.step (.cs [110,111,116,101])<|.step (.bin .eql 53 62)<|.ite 63
 (.step (.bin .eql 47 23)<|.step (.un .not 64)<|.ite 65
 (.step (.ci .i64 0)<|.ret [66])
 (.step (.ci .i64 1)<|.step (.bin .add 2 66)<|.tail 100 [0,1,67,3,4,5,6,7,8,9,10,11,12,13,14,15,16,17,18,19,20,21,22,23,24,25,26,27,28,29,30,31,32,33,34,35,36,37,38,39,40,41,42,43,44,45,46,47,48,49,50]))
 (.step (.cs [100,101,115,99,114])<|.step (.bin .eql 53 64)<|.ite 65
 (.step (.call 101 [48,24] 0)<|.step (.un .not 66)<|.ite 67
 (.step (.ci .i64 0)<|.ret [68])
 (.step (.ci .i64 1)<|.step (.bin .add 2 68)<|.tail 100 [0,1,69,3,4,5,6,7,8,9,10,11,12,13,14,15,16,17,18,19,20,21,22,23,24,25,26,27,28,29,30,31,32,33,34,35,36,37,38,39,40,41,42,43,44,45,46,47,48,49,50]))
 (.step (.cs [116,97,98,108,101])<|.step (.bin .eql 53 66)<|.ite 67
 (.step (.call 103 [49,25] 0)<|.step (.un .not 68)<|.ite 69
 (.step (.ci .i64 0)<|.ret [70])
 (.step (.ci .i64 1)<|.step (.bin .add 2 70)<|.tail 100 [0,1,71,3,4,5,6,7,8,9,10,11,12,13,14,15,16,17,18,19,20,21,22,23,24,25,26,27,28,29,30,31,32,33,34,35,36,37,38,39,40,41,42,43,44,45,46,47,48,49,50]))
 (.step (.cs [105,100])<|.step (.bin .eql 53 68)<|.ite 69
 (.step (.bin .eql 28 4)<|.step (.un .not 70)<|.ite 71
 (.step (.ci .i64 0)<|.ret [72])
 (.step (.ci .i64 1)<|.step (.bin .add 2 72)<|.tail 100 [0,1,73,3,4,5,6,7,8,9,10,11,12,13,14,15,16,17,18,19,20,21,22,23,24,25,26,27,28,29,30,31,32,33,34,35,36,37,38,39,40,41,42,43,44,45,46,47,48,49,50]))
 (.step (.cs [109,105,110])<|.step (.bin .eql 53 70)<|.ite 71
 (.step (.bin .eql 29 5)<|.step (.un .not 72)<|.ite 73
 (.step (.ci .i64 0)<|.ret [74])
 (.step (.ci .i64 1)<|.step (.bin .add 2 74)<|.tail 100 [0,1,75,3,4,5,6,7,8,9,10,11,12,13,14,15,16,17,18,19,20,21,22,23,24,25,26,27,28,29,30,31,32,33,34,35,36,37,38,39,40,41,42,43,44,45,46,47,48,49,50]))
 (.step (.cs [109,97,120])<|.step (.bin .eql 53 72)<|.ite 73
 (.step (.bin .eql 30 6)<|.step (.un .not 74)<|.ite 75
 (.step (.ci .i64 0)<|.ret [76])
 (.step (.ci .i64 1)<|.step (.bin .add 2 76)<|.tail 100 [0,1,77,3,4,5,6,7,8,9,10,11,12,13,14,15,16,17,18,19,20,21,22,23,24,25,26,27,28,29,30,31,32,33,34,35,36,37,38,39,40,41,42,43,44,45,46,47,48,49,50]))
 (.step (.cs [99,104,111,115,101,110])<|.step (.bin .eql 53 74)<|.ite 75
 (.step (.bin .eql 31 7)<|.step (.un .not 76)<|.ite 77
 (.step (.ci .i64 0)<|.ret [78])
 (.step (.ci .i64 1)<|.step (.bin .add 2 78)<|.tail 100 [0,1,79,3,4,5,6,7,8,9,10,11,12,13,14,15,16,17,18,19,20,21,22,23,24,25,26,27,28,29,30,31,32,33,34,35,36,37,38,39,40,41,42,43,44,45,46,47,48,49,50]))
 (.step (.cs [102,108,97,103,115])<|.step (.bin .eql 53 76)<|.ite 77
 (.step (.bin .eql 32 8)<|.step (.un .not 78)<|.ite 79
 (.step (.ci .i64 0)<|.ret [80])
 (.step (.ci .i64 1)<|.step (.bin .add 2 80)<|.tail 100 [0,1,81,3,4,5,6,7,8,9,10,11,12,13,14,15,16,17,18,19,20,21,22,23,24,25,26,27,28,29,30,31,32,33,34,35,36,37,38,39,40,41,42,43,44,45,46,47,48,49,50]))
 (.step (.cs [99,111,115,116])<|.step (.bin .eql 53 78)<|.ite 79
 (.step (.bin .eql 33 9)<|.step (.un .not 80)<|.ite 81
 (.step (.ci .i64 0)<|.ret [82])
 (.step (.ci .i64 1)<|.step (.bin .add 2 82)<|.tail 100 [0,1,83,3,4,5,6,7,8,9,10,11,12,13,14,15,16,17,18,19,20,21,22,23,24,25,26,27,28,29,30,31,32,33,34,35,36,37,38,39,40,41,42,43,44,45,46,47,48,49,50]))
 (.step (.cs [112,114,105,111,114,105,116,121])<|.step (.bin .eql 53 80)<|.ite 81
 (.step (.bin .eql 34 10)<|.step (.un .not 82)<|.ite 83
 (.step (.ci .i64 0)<|.ret [84])
 (.step (.ci .i64 1)<|.step (.bin .add 2 84)<|.tail 100 [0,1,85,3,4,5,6,7,8,9,10,11,12,13,14,15,16,17,18,19,20,21,22,23,24,25,26,27,28,29,30,31,32,33,34,35,36,37,38,39,40,41,42,43,44,45,46,47,48,49,50]))
 (.step (.cs [100,101,97,100,108,105,110,101])<|.step (.bin .eql 53 82)<|.ite 83
 (.step (.bin .eql 35 11)<|.step (.un .not 84)<|.ite 85
 (.step (.ci .i64 0)<|.ret [86])
 (.step (.ci .i64 1)<|.step (.bin .add 2 86)<|.tail 100 [0,1,87,3,4,5,6,7,8,9,10,11,12,13,14,15,16,17,18,19,20,21,22,23,24,25,26,27,28,29,30,31,32,33,34,35,36,37,38,39,40,41,42,43,44,45,46,47,48,49,50]))
 (.step (.cs [114,101,116,114,121])<|.step (.bin .eql 53 84)<|.ite 85
 (.step (.bin .eql 36 12)<|.step (.un .not 86)<|.ite 87
 (.step (.ci .i64 0)<|.ret [88])
 (.step (.ci .i64 1)<|.step (.bin .add 2 88)<|.tail 100 [0,1,89,3,4,5,6,7,8,9,10,11,12,13,14,15,16,17,18,19,20,21,22,23,24,25,26,27,28,29,30,31,32,33,34,35,36,37,38,39,40,41,42,43,44,45,46,47,48,49,50]))
 (.step (.cs [101,112,111,99,104])<|.step (.bin .eql 53 86)<|.ite 87
 (.step (.bin .eql 37 13)<|.step (.un .not 88)<|.ite 89
 (.step (.ci .i64 0)<|.ret [90])
 (.step (.ci .i64 1)<|.step (.bin .add 2 90)<|.tail 100 [0,1,91,3,4,5,6,7,8,9,10,11,12,13,14,15,16,17,18,19,20,21,22,23,24,25,26,27,28,29,30,31,32,33,34,35,36,37,38,39,40,41,42,43,44,45,46,47,48,49,50]))
 (.step (.cs [98,97,115,101])<|.step (.bin .eql 53 88)<|.ite 89
 (.step (.bin .eql 38 14)<|.step (.un .not 90)<|.ite 91
 (.step (.ci .i64 0)<|.ret [92])
 (.step (.ci .i64 1)<|.step (.bin .add 2 92)<|.tail 100 [0,1,93,3,4,5,6,7,8,9,10,11,12,13,14,15,16,17,18,19,20,21,22,23,24,25,26,27,28,29,30,31,32,33,34,35,36,37,38,39,40,41,42,43,44,45,46,47,48,49,50]))
 (.step (.cs [100,105,103,101,115,116])<|.step (.bin .eql 53 90)<|.ite 91
 (.step (.bin .eql 39 15)<|.step (.un .not 92)<|.ite 93
 (.step (.ci .i64 0)<|.ret [94])
 (.step (.ci .i64 1)<|.step (.bin .add 2 94)<|.tail 100 [0,1,95,3,4,5,6,7,8,9,10,11,12,13,14,15,16,17,18,19,20,21,22,23,24,25,26,27,28,29,30,31,32,33,34,35,36,37,38,39,40,41,42,43,44,45,46,47,48,49,50]))
 (.step (.cs [108,97,103])<|.step (.bin .eql 53 92)<|.ite 93
 (.step (.bin .eql 40 16)<|.step (.un .not 94)<|.ite 95
 (.step (.ci .i64 0)<|.ret [96])
 (.step (.ci .i64 1)<|.step (.bin .add 2 96)<|.tail 100 [0,1,97,3,4,5,6,7,8,9,10,11,12,13,14,15,16,17,18,19,20,21,22,23,24,25,26,27,28,29,30,31,32,33,34,35,36,37,38,39,40,41,42,43,44,45,46,47,48,49,50]))
 (.step (.cs [99,111,100,101])<|.step (.bin .eql 53 94)<|.ite 95
 (.step (.bin .eql 41 17)<|.step (.un .not 96)<|.ite 97
 (.step (.ci .i64 0)<|.ret [98])
 (.step (.ci .i64 1)<|.step (.bin .add 2 98)<|.tail 100 [0,1,99,3,4,5,6,7,8,9,10,11,12,13,14,15,16,17,18,19,20,21,22,23,24,25,26,27,28,29,30,31,32,33,34,35,36,37,38,39,40,41,42,43,44,45,46,47,48,49,50]))
 (.step (.cs [119,97,110,116])<|.step (.bin .eql 53 96)<|.ite 97
 (.step (.bin .eql 42 18)<|.step (.un .not 98)<|.ite 99
 (.step (.ci .i64 0)<|.ret [100])
 (.step (.ci .i64 1)<|.step (.bin .add 2 100)<|.tail 100 [0,1,101,3,4,5,6,7,8,9,10,11,12,13,14,15,16,17,18,19,20,21,22,23,24,25,26,27,28,29,30,31,32,33,34,35,36,37,38,39,40,41,42,43,44,45,46,47,48,49,50]))
 (.step (.ci .i64 0)<|.ret [98])))))))))))))))))))))))
 (.step (.ci .i64 1)<|.ret [52])
def V8:aH:=.tree 3<|.step (.slen 0)<|.step (.bin .lss 2 3)<|.ite 4
 (.step (.slen 1)<|.step (.bin .lss 2 5)<|.ite 6
 (.step (.kN 0 2)<|.step (.kN 1 2)<|.step (.bin .eql 7 8)<|.ite 9
 (.step (.ci .i64 1)<|.step (.bin .add 2 10)<|.tail 34 [0,1,11])
 (.step (.ci .i64 0)<|.ret [10,2]))
 (.step (.ci .i64 0)<|.ret [7,2]))
 (.step (.ci .i64 0)<|.ret [5,2])
def d11:aH:=.tree 4<|.step (.bin .lss 3 2)<|.ite 4
 (.step (.ci .u64 127)<|.step (.bin .and 0 5)<|.step (.conv .u8 6)<|.step (.ci .u8 128)<|.step (.bin .or 7 8)<|.step (.idx 1 3)<|.step (.upd 1 0 1 10 [9])<|.step (.ci .u64 7)<|.step (.bin .shr 0 12)<|
 .step (.ci .i64 1)<|.step (.bin .add 3 14)<|.tail 11 [13,11,2,15])
 (.step (.ci .i64 0)<|.ret [5,1])
def d6:aH:=.tree 3<|.step (.bin .lss 2 1)<|.ite 3
 (.step (.at 2 0 2)<|.step (.cell 0 4)<|.step (.cell 1 4)<|.step (.len 5)<|.step (.ci .i64 18)<|.step (.bin .gtr 7 8)<|.ite 9
 (.step (.ci .i64 0)<|.ret [10])
 (.step (.call 3 [5] 0)<|.step (.un .not 10)<|.ite 11
 (.step (.ci .i64 0)<|.ret [12])
 (.step (.len 0)<|.step (.ci .i64 40)<|.step (.bin .gtr 12 13)<|.ite 14
 (.step (.call 7 [5] 0)<|.step (.slen 15)<|.step (.ci .i64 100)<|.step (.bin .gtr 16 17)<|.ite 18
 (.step (.ci .i64 0)<|.ret [19])
 (.step (.ci .i64 1)<|.step (.bin .add 2 19)<|.tail 6 [0,1,20]))
 (.step (.ci .i64 1)<|.step (.bin .add 2 15)<|.tail 6 [0,1,16]))))
 (.step (.ci .i64 1)<|.ret [4])
def Ds:List aH:=[.vg fun _=>none,d1,d2,d3,d4,d5,d6,d7,d8,d9,d10,d11,d12,d13,VH,VI,VJ,VK,VL,VN,VO,VP,VQ,VT,VU,VW,VX,VY,VZ,V3,V4,V5,V6,V7,V8,V9,Wh,Wi,Wj,Wl,Wn,Wp,Wq,Ws,Wu,Wv,Wx,Wy,WA,WB,WC,WE,WG,WH,WI,WJ,WL,WM,WO,WQ,WR,WS,WT,WU,WV,WW,WX,WY,WZ,W9,Xa,Xb,Xc,Xd,Xe,Xf,Xg,Xh,Xi,Xj,Xk,Xl,Xm,Xn,Xo,Xp,Xq,Xr,Xt,Xu,Xv,Xw,Xx,Xy,Xz,XA,XB,XC,XD,XE,Vj,Vk,Vl,Vm,Vo,Vp,Vq,Vr,Vs,Vt,Vu]
noncomputable abbrev TT:eX:=qJ Ds
end
end B
end Go.Proofs.YtpkihgnabejkkaaGreatDoor
