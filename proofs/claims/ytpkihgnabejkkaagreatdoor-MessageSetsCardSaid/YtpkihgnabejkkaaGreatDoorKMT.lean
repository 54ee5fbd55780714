/- What functions and loops compute: trees of nodes, found by a driver. -/
import Derived.Test.YtpkihgnabejkkaaGreatDoorAbsJ
import Derived.Test.YtpkihgnabejkkaaGreatDoorAbsPl
import Derived.Test.YtpkihgnabejkkaaGreatDoorAbsTold
import Derived.Test.YtpkihgnabejkkaaGreatDoorAbsTold3
import Derived.Test.YtpkihgnabejkkaaGreatDoorAbsFields
namespace Go.Proofs.YtpkihgnabejkkaaGreatDoor
open Go Go.aJ
set_option maxRecDepth 100000
set_option linter.unusedVariables false
set_option linter.unusedSimpArgs false
namespace M
noncomputable section
def VW:aH:=.fn [.sc] [.sc]<|.step (.len 0)<|.step (.ci .i64 0)<|.step (.ml [])<|.step (.call 26 [3,0,1,2] 0)<|.step (.call 26 [3,0,1,2] 1)<|.ret [5]
def Vm:aH:=.fn [.sc,.sc] [.sc]<|.step (.len 0)<|.step (.len 1)<|.step (.bin .neq 2 3)<|.ite 4
 (.step (.cb false)<|.ret [5])
 (.step (.ci .i64 0)<|.step (.call 104 [0,1,2,5] 0)<|.step (.bin .eql 6 5)<|.ite 7
 (.step (.cb false)<|.ret [8])
 (.step (.cb true)<|.ret [8]))
def d1:aH:=.fn [.ag 24,.ag 24,.sc,.sc,.sc,.sc] [.sc]<|.step (.cell 0 0)<|.step (.cell 1 0)<|.step (.cell 2 0)<|.step (.cell 3 0)<|.step (.cell 4 0)<|.step (.cell 5 0)<|
 .step (.cell 6 0)<|.step (.cell 7 0)<|.step (.cell 8 0)<|.step (.cell 9 0)<|.step (.cell 10 0)<|.step (.cell 11 0)<|.step (.cell 12 0)<|.step (.cell 13 0)<|.step (.cell 14 0)<|.step (.cell 15 0)<|
 .step (.cell 16 0)<|.step (.cell 17 0)<|.step (.cell 18 0)<|.step (.cell 19 0)<|.step (.cell 20 0)<|.step (.cell 21 0)<|.step (.cell 22 0)<|.step (.cell 23 0)<|.step (.cell 0 1)<|
 .step (.cell 1 1)<|.step (.cell 2 1)<|.step (.cell 3 1)<|.step (.cell 4 1)<|.step (.cell 5 1)<|.step (.cell 6 1)<|.step (.cell 7 1)<|.step (.cell 8 1)<|.step (.cell 9 1)<|.step (.cell 10 1)<|
 .step (.cell 11 1)<|.step (.cell 12 1)<|.step (.cell 13 1)<|.step (.cell 14 1)<|.step (.cell 15 1)<|.step (.cell 16 1)<|.step (.cell 17 1)<|.step (.cell 18 1)<|.step (.cell 19 1)<|
 .step (.cell 20 1)<|.step (.cell 21 1)<|.step (.cell 22 1)<|.step (.cell 23 1)<|.step (.mk [6,7,8,9,10,11,12,13,14,15,16,17,18,19,20,21,22,23,24,25,26,27,28,29])<|
 .step (.call 2 [54] 0)<|.step (.un .not 55)<|.ite 56
 (.step (.cb true)<|.ret [57])
 (.step (.mk [30,31,32,33,34,35,36,37,38,39,40,41,42,43,44,45,46,47,48,49,50,51,52,53])<|.step (.call 2 [57] 0)<|.step (.un .not 58)<|.ite 59
 (.step (.cb true)<|.ret [60])
 (.step (.slen 5)<|.step (.ci .i64 6000)<|.step (.bin .gtr 60 61)<|.ite 62
 (.step (.cb true)<|.ret [63])
 (.step (.call 16 [54] 0)<|.step (.cell 0 63)<|.step (.cell 1 63)<|.step (.cell 2 63)<|.step (.cell 3 63)<|.step (.cell 4 63)<|.step (.cell 5 63)<|.step (.cell 6 63)<|.step (.cell 7 63)<|
 .step (.cell 8 63)<|.step (.cell 9 63)<|.step (.cell 10 63)<|.step (.cell 11 63)<|.step (.cell 12 63)<|.step (.cell 13 63)<|.step (.cell 14 63)<|.step (.cell 15 63)<|.step (.cell 16 63)<|
 .step (.cell 17 63)<|.step (.cell 18 63)<|.step (.cell 19 63)<|.step (.cell 20 63)<|.step (.cell 21 63)<|.step (.cell 22 63)<|.step (.cell 23 63)<|.step (.call 16 [57] 0)<|.step (.cell 0 88)<|
 .step (.cell 1 88)<|.step (.cell 2 88)<|.step (.cell 3 88)<|.step (.cell 4 88)<|.step (.cell 5 88)<|.step (.cell 6 88)<|.step (.cell 7 88)<|.step (.cell 8 88)<|.step (.cell 9 88)<|
 .step (.cell 10 88)<|.step (.cell 11 88)<|.step (.cell 12 88)<|.step (.cell 13 88)<|.step (.cell 14 88)<|.step (.cell 15 88)<|.step (.cell 16 88)<|.step (.cell 17 88)<|.step (.cell 18 88)<|
 .step (.cell 19 88)<|.step (.cell 20 88)<|.step (.cell 21 88)<|.step (.cell 22 88)<|.step (.cell 23 88)<|.step (.mk [64,65,66,67,68,69,70,71,72,73,74,75,76,77,78,79,80,81,82,83,84,85,86,87])<|
 .step (.call 20 [113] 0)<|.step (.cell 0 114)<|.step (.cell 1 114)<|.step (.cell 2 114)<|.step (.cell 3 114)<|.step (.cell 4 114)<|.step (.cell 5 114)<|.step (.cell 6 114)<|.step (.cell 7 114)<|
 .step (.cell 8 114)<|.step (.cell 9 114)<|.step (.cell 10 114)<|.step (.cell 11 114)<|.step (.cell 12 114)<|.step (.cell 13 114)<|.step (.cell 14 114)<|.step (.cell 15 114)<|.step (.cell 16 114)<|
 .step (.cell 17 114)<|.step (.cell 18 114)<|.step (.cell 19 114)<|.step (.cell 20 114)<|.step (.cell 21 114)<|.step (.cell 22 114)<|.step (.cell 23 114)<|.step (.conv .i64 3)<|.step (.ci .u64 9)<|
 .step (.ml [])<|.step (.mk [140,139,4,5,141])<|.step (.call 27 [113,2,142] 0)<|.step (.cell 0 143)<|.step (.cell 1 143)<|.step (.cell 2 143)<|.step (.cell 3 143)<|.step (.cell 4 143)<|
 .step (.cell 5 143)<|.step (.cell 6 143)<|.step (.cell 7 143)<|.step (.cell 8 143)<|.step (.cell 9 143)<|.step (.cell 10 143)<|.step (.cell 11 143)<|.step (.cell 12 143)<|.step (.cell 13 143)<|
 .step (.cell 14 143)<|.step (.cell 15 143)<|.step (.cell 16 143)<|.step (.cell 17 143)<|.step (.cell 18 143)<|.step (.cell 19 143)<|.step (.cell 20 143)<|.step (.cell 21 143)<|.step (.cell 22 143)<|
 .step (.cell 23 143)<|.step (.call 27 [113,2,142] 1)<|.step (.mk [115,116,117,118,119,120,121,122,123,124,125,126,127,128,129,130,131,132,133,134,135,136,137,138])<|
 .step (.call 53 [169,2,139,4,5] 0)<|.step (.cell 0 170)<|.step (.cell 1 170)<|.step (.cell 2 170)<|.step (.cell 3 170)<|.step (.cell 4 170)<|.step (.cell 5 170)<|.step (.cell 6 170)<|
 .step (.cell 7 170)<|.step (.cell 8 170)<|.step (.cell 9 170)<|.step (.cell 10 170)<|.step (.cell 11 170)<|.step (.cell 12 170)<|.step (.cell 13 170)<|.step (.cell 14 170)<|.step (.cell 15 170)<|
 .step (.cell 16 170)<|.step (.cell 17 170)<|.step (.cell 18 170)<|.step (.cell 19 170)<|.step (.cell 20 170)<|.step (.cell 21 170)<|.step (.cell 22 170)<|.step (.cell 23 170)<|.step (.call 53 [169,2,139,4,5] 1)<|
 .step (.call 28 [113] 0)<|.step (.cell 0 196)<|.step (.cell 1 196)<|.step (.cell 2 196)<|.step (.cell 3 196)<|.step (.cell 4 196)<|.step (.cell 5 196)<|.step (.cell 6 196)<|.step (.cell 7 196)<|
 .step (.cell 8 196)<|.step (.cell 9 196)<|.step (.cell 10 196)<|.step (.cell 11 196)<|.step (.cell 12 196)<|.step (.cell 13 196)<|.step (.cell 14 196)<|.step (.cell 15 196)<|.step (.cell 16 196)<|
 .step (.cell 17 196)<|.step (.cell 18 196)<|.step (.cell 19 196)<|.step (.cell 20 196)<|.step (.cell 21 196)<|.step (.cell 22 196)<|.step (.cell 23 196)<|.step (.mk [144,145,146,147,148,149,150,151,152,153,154,155,156,157,158,159,160,161,162,163,164,165,166,167])<|
 .step (.call 20 [221] 0)<|.step (.cell 0 222)<|.step (.cell 1 222)<|.step (.cell 2 222)<|.step (.cell 3 222)<|.step (.cell 4 222)<|.step (.cell 5 222)<|.step (.cell 6 222)<|.step (.cell 7 222)<|
 .step (.cell 8 222)<|.step (.cell 9 222)<|.step (.cell 10 222)<|.step (.cell 11 222)<|.step (.cell 12 222)<|.step (.cell 13 222)<|.step (.cell 14 222)<|.step (.cell 15 222)<|.step (.cell 16 222)<|
 .step (.cell 17 222)<|.step (.cell 18 222)<|.step (.cell 19 222)<|.step (.cell 20 222)<|.step (.cell 21 222)<|.step (.cell 22 222)<|.step (.cell 23 222)<|.step (.mk [223,224,225,226,227,228,229,230,231,232,233,234,235,236,237,238,239,240,241,242,243,244,245,246])<|
 .step (.mk [171,172,173,174,175,176,177,178,179,180,181,182,183,184,185,186,187,188,189,190,191,192,193,194])<|.step (.call 83 [247,248] 0)<|.ite 249
 (.step (.bin .eql 168 195)<|.ite 250
 (.step (.call 83 [169,169] 0)<|.ite 251
 (.step (.mk [197,198,199,200,201,202,203,204,205,206,207,208,209,210,211,212,213,214,215,216,217,218,219,220])<|.step (.call 20 [252] 0)<|.step (.cell 0 253)<|
 .step (.cell 1 253)<|.step (.cell 2 253)<|.step (.cell 3 253)<|.step (.cell 4 253)<|.step (.cell 5 253)<|.step (.cell 6 253)<|.step (.cell 7 253)<|.step (.cell 8 253)<|.step (.cell 9 253)<|
 .step (.cell 10 253)<|.step (.cell 11 253)<|.step (.cell 12 253)<|.step (.cell 13 253)<|.step (.cell 14 253)<|.step (.cell 15 253)<|.step (.cell 16 253)<|.step (.cell 17 253)<|.step (.cell 18 253)<|
 .step (.cell 19 253)<|.step (.cell 20 253)<|.step (.cell 21 253)<|.step (.cell 22 253)<|.step (.cell 23 253)<|.step (.mk [254,255,256,257,258,259,260,261,262,263,264,265,266,267,268,269,270,271,272,273,274,275,276,277])<|
 .step (.call 83 [278,169] 0)<|.ite 279
 (.step (.mk [89,90,91,92,93,94,95,96,97,98,99,100,101,102,103,104,105,106,107,108,109,110,111,112])<|.step (.call 109 [113,280] 0)<|.step (.call 20 [280] 0)<|
 .step (.cell 0 282)<|.step (.cell 1 282)<|.step (.cell 2 282)<|.step (.cell 3 282)<|.step (.cell 4 282)<|.step (.cell 5 282)<|.step (.cell 6 282)<|.step (.cell 7 282)<|.step (.cell 8 282)<|
 .step (.cell 9 282)<|.step (.cell 10 282)<|.step (.cell 11 282)<|.step (.cell 12 282)<|.step (.cell 13 282)<|.step (.cell 14 282)<|.step (.cell 15 282)<|.step (.cell 16 282)<|.step (.cell 17 282)<|
 .step (.cell 18 282)<|.step (.cell 19 282)<|.step (.cell 20 282)<|.step (.cell 21 282)<|.step (.cell 22 282)<|.step (.cell 23 282)<|.step (.mk [283,284,285,286,287,288,289,290,291,292,293,294,295,296,297,298,299,300,301,302,303,304,305,306])<|
 .step (.call 83 [169,307] 0)<|.step (.uw .eql 281 308)<|.ite 309
 (.step (.call 109 [113,252] 0)<|.ret [310])
 (.step (.cb false)<|.ret [310]))
 (.step (.cb false)<|.ret [280]))
 (.step (.cb false)<|.ret [252]))
 (.step (.cb false)<|.ret [251]))
 (.step (.cb false)<|.ret [250]))))
def Vj:aH:=.fn [.sc] [.sc]<|.step (.len 0)<|.step (.conv .u64 1)<|.step (.call 90 [2] 0)<|.step (.ci .i64 0)<|.step (.call 101 [0,3,1,4] 0)<|.step (.call 101 [0,3,1,4] 1)<|
 .ret [6]
abbrev Wh:aH:=.vg BZ
def Xt:aH:=.fn [.ag 24,.sc] [.sc]<|.step (.cell 0 0)<|.step (.cell 1 0)<|.step (.cell 2 0)<|.step (.cell 3 0)<|.step (.cell 4 0)<|.step (.cell 5 0)<|.step (.cell 6 0)<|.step (.cell 7 0)<|
 .step (.cell 8 0)<|.step (.cell 9 0)<|.step (.cell 10 0)<|.step (.cell 11 0)<|.step (.cell 12 0)<|.step (.cell 13 0)<|.step (.cell 14 0)<|.step (.cell 15 0)<|.step (.cell 16 0)<|
 .step (.cell 17 0)<|.step (.cell 18 0)<|.step (.cell 19 0)<|.step (.cell 20 0)<|.step (.cell 21 0)<|.step (.cell 22 0)<|.step (.cell 23 0)<|.step (.cs [110,97,109,101])<|.step (.bin .eql 1 26)<|
 .ite 27
 (.ret [20])
 (.step (.cs [114,101,103,105,111,110])<|.step (.bin .eql 1 28)<|.ite 29
 (.ret [21])
 (.ret [22]))
def Xh:aH:=.fn [.sc] [.sc,.sc,.sc]<|.step (.call 65 [0] 0)<|.step (.call 65 [0] 1)<|.step (.call 65 [0] 2)<|.step (.ci .i64 0)<|.step (.bin .neq 3 4)<|.ite 5
 (.step (.ml [])<|.step (.cs [])<|.ret [6,7,3])
 (.step (.ci .u64 256)<|.step (.bin .gtr 1 6)<|.ite 7
 (.step (.ml [])<|.step (.cs [])<|.step (.ci .i64 13)<|.ret [8,9,10])
 (.step (.slen 0)<|.step (.iC 0 2 8)<|.step (.cs [])<|.step (.ci .u64 0)<|.step (.ml [])<|.step (.call 78 [9,1,12,10,11] 0)<|.step (.bin .eql 13 4)<|.ite 14
 (.step (.call 78 [9,1,12,10,11] 1)<|.ret [12,10,15])
 (.step (.call 78 [9,1,12,10,11] 1)<|.step (.call 78 [9,1,12,10,11] 2)<|.ret [16,15,4])))
def Vl:aH:=.fn [.sc,.sc] [.sc]<|.step (.call 81 [0,1] 0)<|.step (.conv .u64 2)<|.step (.call 90 [3] 0)<|.step (.slen 1)<|.step (.bin .sub 5 2)<|.step (.conv .u64 6)<|.step (.call 90 [7] 0)<|
 .step (.bin .add 4 8)<|.step (.iC 1 2 5)<|.step (.bin .add 9 10)<|.ret [11]
def VJ:aH:=.fn [.ag 24] [.ag 24]<|.step (.cell 0 0)<|.step (.cell 1 0)<|.step (.cell 2 0)<|.step (.cell 3 0)<|.step (.cell 4 0)<|.step (.cell 5 0)<|.step (.cell 6 0)<|.step (.cell 7 0)<|
 .step (.cell 8 0)<|.step (.cell 9 0)<|.step (.cell 10 0)<|.step (.cell 11 0)<|.step (.cell 12 0)<|.step (.cell 13 0)<|.step (.cell 14 0)<|.step (.cell 15 0)<|.step (.cell 16 0)<|
 .step (.cell 17 0)<|.step (.cell 18 0)<|.step (.cell 19 0)<|.step (.cell 20 0)<|.step (.cell 21 0)<|.step (.cell 22 0)<|.step (.cell 23 0)<|.step (.call 17 [24] 0)<|.step (.mk [1,2,3,4,5,6,7,8,9,10,11,12,13,14,15,16,17,18,19,20,21,22,23,25])<|
 .ret [26]
def Xg:aH:=.fn [.sc] [.sc,.sc]<|.step (.call 77 [0] 0)<|.step (.call 77 [0] 1)<|.step (.call 77 [0] 2)<|.step (.ci .i64 0)<|.step (.bin .neq 3 4)<|.ite 5
 (.step (.ml [])<|.ret [6,3])
 (.step (.cs [])<|.step (.bin .neq 2 6)<|.ite 7
 (.step (.ml [])<|.step (.ci .i64 10)<|.ret [8,9])
 (.ret [1,4]))
def Wi:aH:=.fn [.sc] [.sc,.sc]<|.step (.ci .i64 0)<|.step (.call 38 [0,1] 0)<|.step (.call 38 [0,1] 1)<|.step (.call 38 [0,1] 2)<|.step (.call 38 [0,1] 3)<|.step (.call 38 [0,1] 4)<|
 .step (.bin .neq 4 1)<|.ite 7
 (.step (.ml [])<|.ret [8,4])
 (.step (.slen 5)<|.step (.bin .sub 8 6)<|.step (.bin .gtr 9 1)<|.ite 10
 (.step (.ml [])<|.step (.ci .i64 10)<|.ret [11,12])
 (.ret [3,1]))
def d9:aH:=.fn [.sc] [.sc]<|.step (.ci .i64 1)<|.step (.call 10 [0,1] 0)<|.step (.call 10 [0,1] 1)<|.ret [3]
def VY:aH:=.fn [.ag 24,.sc,.ag 5] [.ag 24,.sc]<|.step (.cell 0 0)<|.step (.cell 1 0)<|.step (.cell 2 0)<|.step (.cell 3 0)<|.step (.cell 4 0)<|.step (.cell 5 0)<|.step (.cell 6 0)<|
 .step (.cell 7 0)<|.step (.cell 8 0)<|.step (.cell 9 0)<|.step (.cell 10 0)<|.step (.cell 11 0)<|.step (.cell 12 0)<|.step (.cell 13 0)<|.step (.cell 14 0)<|.step (.cell 15 0)<|.step (.cell 16 0)<|
 .step (.cell 17 0)<|.step (.cell 18 0)<|.step (.cell 19 0)<|.step (.cell 20 0)<|.step (.cell 21 0)<|.step (.cell 22 0)<|.step (.cell 23 0)<|.step (.cell 0 2)<|.step (.cell 1 2)<|
 .step (.cell 2 2)<|.step (.cell 3 2)<|.step (.cell 4 2)<|.step (.mk [3,4,5,6,7,8,9,10,11,12,13,14,15,16,17,18,19,20,21,22,23,24,25,26])<|.step (.call 28 [32] 0)<|
 .step (.cell 0 33)<|.step (.cell 1 33)<|.step (.cell 2 33)<|.step (.cell 3 33)<|.step (.cell 4 33)<|.step (.cell 5 33)<|.step (.cell 6 33)<|.step (.cell 7 33)<|.step (.cell 8 33)<|
 .step (.cell 9 33)<|.step (.cell 10 33)<|.step (.cell 11 33)<|.step (.cell 12 33)<|.step (.cell 13 33)<|.step (.cell 14 33)<|.step (.cell 15 33)<|.step (.cell 16 33)<|.step (.cell 17 33)<|
 .step (.cell 18 33)<|.step (.cell 19 33)<|.step (.cell 20 33)<|.step (.cell 21 33)<|.step (.cell 22 33)<|.step (.cell 23 33)<|.step (.call 32 [1,27,28,29,30,31,34,35,36,37,38,39,40,41,42,43,44,45,46,47,48,49,50,51,52,53,54,55,56,57] 0)<|
 .step (.call 32 [1,27,28,29,30,31,34,35,36,37,38,39,40,41,42,43,44,45,46,47,48,49,50,51,52,53,54,55,56,57] 1)<|.step (.call 32 [1,27,28,29,30,31,34,35,36,37,38,39,40,41,42,43,44,45,46,47,48,49,50,51,52,53,54,55,56,57] 2)<|
 .step (.call 32 [1,27,28,29,30,31,34,35,36,37,38,39,40,41,42,43,44,45,46,47,48,49,50,51,52,53,54,55,56,57] 3)<|.step (.call 32 [1,27,28,29,30,31,34,35,36,37,38,39,40,41,42,43,44,45,46,47,48,49,50,51,52,53,54,55,56,57] 4)<|
 .step (.call 32 [1,27,28,29,30,31,34,35,36,37,38,39,40,41,42,43,44,45,46,47,48,49,50,51,52,53,54,55,56,57] 5)<|.step (.call 32 [1,27,28,29,30,31,34,35,36,37,38,39,40,41,42,43,44,45,46,47,48,49,50,51,52,53,54,55,56,57] 6)<|
 .step (.call 32 [1,27,28,29,30,31,34,35,36,37,38,39,40,41,42,43,44,45,46,47,48,49,50,51,52,53,54,55,56,57] 7)<|.step (.call 32 [1,27,28,29,30,31,34,35,36,37,38,39,40,41,42,43,44,45,46,47,48,49,50,51,52,53,54,55,56,57] 8)<|
 .step (.call 32 [1,27,28,29,30,31,34,35,36,37,38,39,40,41,42,43,44,45,46,47,48,49,50,51,52,53,54,55,56,57] 9)<|.step (.call 32 [1,27,28,29,30,31,34,35,36,37,38,39,40,41,42,43,44,45,46,47,48,49,50,51,52,53,54,55,56,57] 10)<|
 .step (.call 32 [1,27,28,29,30,31,34,35,36,37,38,39,40,41,42,43,44,45,46,47,48,49,50,51,52,53,54,55,56,57] 11)<|.step (.call 32 [1,27,28,29,30,31,34,35,36,37,38,39,40,41,42,43,44,45,46,47,48,49,50,51,52,53,54,55,56,57] 12)<|
 .step (.call 32 [1,27,28,29,30,31,34,35,36,37,38,39,40,41,42,43,44,45,46,47,48,49,50,51,52,53,54,55,56,57] 13)<|.step (.call 32 [1,27,28,29,30,31,34,35,36,37,38,39,40,41,42,43,44,45,46,47,48,49,50,51,52,53,54,55,56,57] 14)<|
 .step (.call 32 [1,27,28,29,30,31,34,35,36,37,38,39,40,41,42,43,44,45,46,47,48,49,50,51,52,53,54,55,56,57] 15)<|.step (.call 32 [1,27,28,29,30,31,34,35,36,37,38,39,40,41,42,43,44,45,46,47,48,49,50,51,52,53,54,55,56,57] 16)<|
 .step (.call 32 [1,27,28,29,30,31,34,35,36,37,38,39,40,41,42,43,44,45,46,47,48,49,50,51,52,53,54,55,56,57] 17)<|.step (.call 32 [1,27,28,29,30,31,34,35,36,37,38,39,40,41,42,43,44,45,46,47,48,49,50,51,52,53,54,55,56,57] 18)<|
 .step (.call 32 [1,27,28,29,30,31,34,35,36,37,38,39,40,41,42,43,44,45,46,47,48,49,50,51,52,53,54,55,56,57] 19)<|.step (.call 32 [1,27,28,29,30,31,34,35,36,37,38,39,40,41,42,43,44,45,46,47,48,49,50,51,52,53,54,55,56,57] 20)<|
 .step (.call 32 [1,27,28,29,30,31,34,35,36,37,38,39,40,41,42,43,44,45,46,47,48,49,50,51,52,53,54,55,56,57] 21)<|.step (.call 32 [1,27,28,29,30,31,34,35,36,37,38,39,40,41,42,43,44,45,46,47,48,49,50,51,52,53,54,55,56,57] 22)<|
 .step (.call 32 [1,27,28,29,30,31,34,35,36,37,38,39,40,41,42,43,44,45,46,47,48,49,50,51,52,53,54,55,56,57] 23)<|.step (.ci .i64 0)<|.step (.bin .neq 59 82)<|
 .ite 83
 (.step (.ci .u64 0)<|.step (.cb false)<|.step (.cs [])<|.step (.ml [])<|.step (.mk [82,84,84,84,84,84,84,84,84,84,84,84,84,84,84,84,82,85,86,86,86,87,87,87])<|
 .ret [88,59])
 (.step (.mk [34,60,61,62,63,64,65,66,67,68,69,70,71,72,73,74,75,76,77,78,79,80,81,57])<|.ret [84,82])
def Xa:aH:=.fn [.sc] [.sc,.sc,.sc]<|.step (.call 65 [0] 0)<|.step (.call 65 [0] 1)<|.step (.call 65 [0] 2)<|.step (.ci .i64 0)<|.step (.bin .neq 3 4)<|.ite 5
 (.step (.cs [])<|.ret [6,6,3])
 (.step (.slen 0)<|.step (.bin .sub 6 2)<|.step (.conv .u64 7)<|.step (.bin .gtr 1 8)<|.ite 9
 (.step (.cs [])<|.step (.ci .i64 1)<|.ret [10,10,11])
 (.step (.conv .i64 1)<|.step (.bin .add 2 10)<|.step (.iC 0 2 11)<|.step (.iC 0 11 6)<|.ret [12,13,4]))
def VA:aH:=.fn [.sc,.sc] [.sc]<|.step (.len 0)<|.step (.len 1)<|.step (.bin .neq 2 3)<|.ite 4
 (.step (.cb false)<|.ret [5])
 (.step (.ci .i64 0)<|.step (.call 116 [1,0,2,5] 0)<|.step (.bin .eql 6 5)<|.ite 7
 (.step (.cb false)<|.ret [8])
 (.step (.cb true)<|.ret [8]))
def Xk:aH:=.fn [.sc,.sc] [.sc]<|.step (.cs [])<|.step (.mk [0,2])<|.step (.mk [1,2])<|.step (.call 73 [3,4] 0)<|.step (.ci .i64 0)<|.step (.bin .lss 5 6)<|.ret [7]
def WW:aH:=.fn [.sc] [.sc,.sc,.sc]<|.step (.ci .i64 0)<|.step (.call 66 [0,1,1] 0)<|.step (.call 66 [0,1,1] 1)<|.step (.call 66 [0,1,1] 2)<|.step (.bin .eql 4 1)<|.ite 5
 (.step (.slen 3)<|.step (.ci .i64 10)<|.step (.bin .geq 6 7)<|.ite 8
 (.step (.ci .u64 0)<|.step (.ci .i64 3)<|.ret [9,1,10])
 (.step (.ci .u64 0)<|.step (.ci .i64 1)<|.ret [9,1,10]))
 (.step (.ci .i64 10)<|.step (.bin .eql 4 6)<|.ite 7
 (.step (.ci .i64 9)<|.step (.kN 3 8)<|.step (.ci .u8 1)<|.step (.bin .gtr 9 10)<|.ite 11
 (.step (.ci .u64 0)<|.step (.ci .i64 3)<|.ret [12,1,13])
 (.step (.ci .i64 1)<|.step (.bin .gtr 4 12)<|.ite 13
 (.step (.bin .sub 4 12)<|.step (.kN 3 14)<|.step (.ci .u8 0)<|.step (.bin .eql 15 16)<|.ite 17
 (.step (.ci .u64 0)<|.step (.ci .i64 2)<|.ret [18,1,19])
 (.step (.ci .u64 0)<|.step (.ci .u64 1)<|.step (.call 67 [3,4,18,19,1] 0)<|.step (.call 67 [3,4,18,19,1] 1)<|.step (.call 67 [3,4,18,19,1] 2)<|.ret [22,21,1]))
 (.step (.ci .u64 0)<|.step (.ci .u64 1)<|.step (.call 67 [3,4,14,15,1] 0)<|.step (.call 67 [3,4,14,15,1] 1)<|.step (.call 67 [3,4,14,15,1] 2)<|.ret [18,17,1])))
 (.step (.ci .i64 1)<|.step (.bin .gtr 4 8)<|.ite 9
 (.step (.bin .sub 4 8)<|.step (.kN 3 10)<|.step (.ci .u8 0)<|.step (.bin .eql 11 12)<|.ite 13
 (.step (.ci .u64 0)<|.step (.ci .i64 2)<|.ret [14,1,15])
 (.step (.ci .u64 0)<|.step (.ci .u64 1)<|.step (.call 67 [3,4,14,15,1] 0)<|.step (.call 67 [3,4,14,15,1] 1)<|.step (.call 67 [3,4,14,15,1] 2)<|.ret [18,17,1]))
 (.step (.ci .u64 0)<|.step (.ci .u64 1)<|.step (.call 67 [3,4,10,11,1] 0)<|.step (.call 67 [3,4,10,11,1] 1)<|.step (.call 67 [3,4,10,11,1] 2)<|.ret [14,13,1])))
def Xe:aH:=.fn [.sc,.sc] [.sc]<|.step (.ci .i64 0)<|.step (.call 75 [0,1,2] 0)<|.step (.bin .eql 3 2)<|.ite 4
 (.step (.call 75 [0,1,2] 1)<|.ret [5])
 (.step (.slen 0)<|.step (.slen 1)<|.step (.bin .lss 5 6)<|.ret [7])
def d3:aH:=.fn [.sc] [.sc]<|.step (.len 0)<|.step (.ci .i64 0)<|.step (.call 4 [0,1,2] 0)<|.step (.bin .eql 3 2)<|.ite 4
 (.step (.cb false)<|.ret [5])
 (.step (.ci .i64 40)<|.step (.bin .leq 1 5)<|.ret [6])
def VO:aH:=.fn [.ag 24] [.ag 24]<|.step (.cell 0 0)<|.step (.cell 1 0)<|.step (.cell 2 0)<|.step (.cell 3 0)<|.step (.cell 4 0)<|.step (.cell 5 0)<|.step (.cell 6 0)<|.step (.cell 7 0)<|
 .step (.cell 8 0)<|.step (.cell 9 0)<|.step (.cell 10 0)<|.step (.cell 11 0)<|.step (.cell 12 0)<|.step (.cell 13 0)<|.step (.cell 14 0)<|.step (.cell 15 0)<|.step (.cell 16 0)<|
 .step (.cell 17 0)<|.step (.cell 18 0)<|.step (.cell 19 0)<|.step (.cell 20 0)<|.step (.cell 21 0)<|.step (.cell 22 0)<|.step (.cell 23 0)<|.step (.call 21 [22] 0)<|.step (.call 23 [23] 0)<|
 .step (.call 25 [24] 0)<|.step (.mk [1,2,3,4,5,6,7,8,9,10,11,12,13,14,15,16,17,18,19,20,21,25,26,27])<|.ret [28]
def WC:aH:=.fn [.sc,.sc] [.sc]<|.step (.ci .i64 0)<|.step (.call 51 [0,1,2] 0)<|.step (.call 51 [0,1,2] 1)<|.ret [4]
def d7:aH:=.fn [.sc] [.sc]<|.step (.len 0)<|.step (.conv .u64 1)<|.step (.call 8 [2] 0)<|.step (.bytes 3)<|.step (.ml [])<|.step (.app 1 1 5 4)<|.step (.slen 3)<|.step (.ci .i64 0)<|
 .step (.call 12 [0,1,8,6] 0)<|.step (.call 12 [0,1,8,6] 1)<|.step (.len 10)<|.step (.str 10)<|.ret [12]
def WQ:aH:=.fn [.sc] [.sc]<|.step (.call 60 [0] 0)<|.step (.ci .i64 0)<|.step (.bin .eql 1 2)<|.ite 3
 (.step (.cb false)<|.ret [4])
 (.step (.cb true)<|.ret [4])
def d13:aH:=.fn [.ag 2] [.sc]<|.step (.cell 0 0)<|.step (.cell 1 0)<|.step (.slen 1)<|.step (.conv .u64 3)<|.step (.call 8 [4] 0)<|.step (.bin .add 5 1)<|.step (.slen 2)<|.step (.conv .u64 7)<|
 .step (.call 8 [8] 0)<|.step (.bin .add 6 9)<|.step (.bin .add 10 2)<|.ret [11]
def Xj:aH:=.fn [.sc,.sc,.sc] [.sc,.sc,.sc]<|.step (.call 65 [0] 0)<|.step (.call 65 [0] 1)<|.step (.call 65 [0] 2)<|.step (.ci .i64 0)<|.step (.bin .neq 5 6)<|.ite 7
 (.step (.cs [])<|.ret [8,8,5])
 (.ite 2
 (.step (.ci .u64 0)<|.step (.bin .neq 3 8)<|.ite 9
 (.step (.cs [])<|.step (.ci .i64 23)<|.ret [10,10,11])
 (.step (.slen 1)<|.step (.conv .u64 10)<|.step (.bin .gtr 3 11)<|.ite 12
 (.step (.cs [])<|.step (.ci .i64 23)<|.ret [13,13,14])
 (.step (.slen 0)<|.step (.iC 0 4 13)<|.step (.call 65 [14] 0)<|.step (.call 65 [14] 1)<|.step (.call 65 [14] 2)<|.step (.bin .neq 17 6)<|.ite 18
 (.step (.cs [])<|.ret [19,19,17])
 (.step (.bin .add 4 16)<|.step (.bin .sub 13 19)<|.step (.conv .u64 20)<|.step (.bin .gtr 15 21)<|.ite 22
 (.step (.cs [])<|.step (.ci .i64 1)<|.ret [23,23,24])
 (.step (.conv .i64 3)<|.step (.iC 1 6 23)<|.step (.conv .i64 15)<|.step (.bin .add 19 25)<|.step (.iC 0 19 26)<|.step (.bin .add 24 27)<|.step (.un .not 2)<|.ite 29
 (.step (.call 80 [1,27] 0)<|.step (.un .not 30)<|.ite 31
 (.step (.cs [])<|.step (.ci .i64 7)<|.ret [32,32,33])
 (.step (.call 81 [1,27] 0)<|.step (.bin .neq 32 23)<|.ite 33
 (.step (.cs [])<|.step (.ci .i64 23)<|.ret [34,34,35])
 (.step (.iC 0 26 13)<|.ret [27,34,6])))
 (.step (.iC 0 26 13)<|.ret [27,30,6]))))))
 (.step (.slen 1)<|.step (.conv .u64 8)<|.step (.bin .gtr 3 9)<|.ite 10
 (.step (.cs [])<|.step (.ci .i64 23)<|.ret [11,11,12])
 (.step (.slen 0)<|.step (.iC 0 4 11)<|.step (.call 65 [12] 0)<|.step (.call 65 [12] 1)<|.step (.call 65 [12] 2)<|.step (.bin .neq 15 6)<|.ite 16
 (.step (.cs [])<|.ret [17,17,15])
 (.step (.bin .add 4 14)<|.step (.bin .sub 11 17)<|.step (.conv .u64 18)<|.step (.bin .gtr 13 19)<|.ite 20
 (.step (.cs [])<|.step (.ci .i64 1)<|.ret [21,21,22])
 (.step (.conv .i64 3)<|.step (.iC 1 6 21)<|.step (.conv .i64 13)<|.step (.bin .add 17 23)<|.step (.iC 0 17 24)<|.step (.bin .add 22 25)<|.step (.un .not 2)<|.ite 27
 (.step (.call 80 [1,26] 0)<|.step (.un .not 28)<|.ite 29
 (.step (.cs [])<|.step (.ci .i64 7)<|.ret [30,30,31])
 (.step (.call 81 [1,26] 0)<|.step (.bin .neq 30 21)<|.ite 31
 (.step (.cs [])<|.step (.ci .i64 23)<|.ret [32,32,33])
 (.step (.iC 0 24 11)<|.ret [26,32,6])))
 (.step (.iC 0 24 11)<|.ret [26,28,6]))))))
def WL:aH:=.fn [.sc] [.sc]<|.step (.ci .i64 1)<|.step (.bin .eql 0 1)<|.ite 2
 (.step (.ci .u64 1)<|.step (.ci .i64 0)<|.step (.cs [109,105,110])<|.step (.mk [3,4,1,5])<|.step (.ci .u64 2)<|.step (.cs [109,97,120])<|.step (.mk [7,4,1,8])<|.step (.ci .u64 3)<|
 .step (.ci .i64 3)<|.step (.cs [110,97,109,101])<|.step (.mk [10,11,1,12])<|.step (.ci .u64 4)<|.step (.ci .i64 2)<|.step (.cs [114,101,103,105,111,110])<|.step (.mk [14,11,15,16])<|
 .step (.ci .u64 5)<|.step (.cs [102,108,97,103,115])<|.step (.mk [18,4,11,19])<|.step (.ml [6,9,13,17,20])<|.ret [21])
 (.step (.ci .i64 2)<|.step (.bin .eql 0 3)<|.ite 4
 (.step (.ci .u64 1)<|.step (.ci .i64 0)<|.step (.cs [99,104,111,115,101,110])<|.step (.mk [5,6,1,7])<|.step (.ci .u64 2)<|.step (.ci .i64 3)<|.step (.cs [110,97,109,101])<|
 .step (.mk [9,10,1,11])<|.step (.ci .u64 3)<|.step (.cs [114,101,103,105,111,110])<|.step (.mk [13,10,3,14])<|.step (.ml [8,12,15])<|.ret [16])
 (.step (.ci .i64 3)<|.step (.bin .eql 0 5)<|.ite 6
 (.step (.ci .u64 1)<|.step (.ci .i64 0)<|.step (.cs [105,100])<|.step (.mk [7,8,1,9])<|.step (.ci .u64 2)<|.step (.ci .i64 4)<|.step (.cs [100,101,115,99,114])<|.step (.mk [11,12,1,13])<|
 .step (.ci .u64 3)<|.step (.cs [99,111,115,116])<|.step (.mk [15,8,1,16])<|.step (.ci .u64 4)<|.step (.cs [112,114,105,111,114,105,116,121])<|.step (.mk [18,8,3,19])<|
 .step (.ci .u64 5)<|.step (.cs [100,101,97,100,108,105,110,101])<|.step (.mk [21,8,5,22])<|.step (.ml [10,14,17,20,23])<|.ret [24])
 (.step (.ci .i64 4)<|.step (.bin .eql 0 7)<|.ite 8
 (.step (.ci .u64 1)<|.step (.ci .i64 0)<|.step (.cs [105,100])<|.step (.mk [9,10,1,11])<|.step (.ci .u64 2)<|.step (.cs [97,108,108,111,119,101,100])<|.step (.mk [13,1,1,14])<|
 .step (.ci .u64 3)<|.step (.cs [114,101,109,97,105,110,105,110,103])<|.step (.mk [16,3,1,17])<|.step (.ci .u64 4)<|.step (.cs [114,101,116,114,121])<|.step (.mk [19,10,3,20])<|
 .step (.ci .u64 5)<|.step (.cs [110,111,116,101])<|.step (.mk [22,5,5,23])<|.step (.ml [12,15,18,21,24])<|.ret [25])
 (.step (.ci .i64 5)<|.step (.bin .eql 0 9)<|.ite 10
 (.step (.ci .u64 1)<|.step (.ci .i64 0)<|.step (.cs [101,112,111,99,104])<|.step (.mk [11,12,1,13])<|.step (.ci .u64 2)<|.step (.cs [116,97,98,108,101])<|.step (.mk [15,9,1,16])<|
 .step (.ci .u64 3)<|.step (.cs [114,101,103,105,111,110])<|.step (.mk [18,5,3,19])<|.step (.ci .u64 4)<|.step (.cs [100,105,103,101,115,116])<|.step (.mk [21,12,5,22])<|
 .step (.ml [14,17,20,23])<|.ret [24])
 (.step (.ci .i64 6)<|.step (.bin .eql 0 11)<|.ite 12
 (.step (.ci .u64 1)<|.step (.ci .i64 0)<|.step (.cs [98,97,115,101])<|.step (.mk [13,14,3,15])<|.step (.ci .u64 2)<|.step (.cs [101,112,111,99,104])<|.step (.mk [17,14,3,18])<|
 .step (.ci .u64 3)<|.step (.cs [116,97,98,108,101])<|.step (.mk [20,9,3,21])<|.step (.ci .u64 4)<|.step (.cs [114,101,103,105,111,110])<|.step (.mk [23,5,3,24])<|.step (.ci .u64 5)<|
 .step (.cs [100,105,103,101,115,116])<|.step (.mk [26,14,5,27])<|.step (.ml [16,19,22,25,28])<|.ret [29])
 (.step (.ci .i64 7)<|.step (.bin .eql 0 13)<|.ite 14
 (.step (.ci .u64 1)<|.step (.ci .i64 0)<|.step (.cs [101,112,111,99,104])<|.step (.mk [15,16,1,17])<|.step (.ci .u64 2)<|.step (.cs [108,97,103])<|.step (.mk [19,16,5,20])<|
 .step (.ml [18,21])<|.ret [22])
 (.step (.ci .i64 8)<|.step (.bin .eql 0 15)<|.ite 16
 (.step (.ci .u64 1)<|.step (.ci .i64 0)<|.step (.cs [101,112,111,99,104])<|.step (.mk [17,18,1,19])<|.step (.ci .u64 2)<|.step (.cs [99,111,100,101])<|.step (.mk [21,18,1,22])<|
 .step (.ci .u64 3)<|.step (.cs [119,97,110,116])<|.step (.mk [24,18,3,25])<|.step (.ci .u64 4)<|.step (.cs [110,111,116,101])<|.step (.mk [27,5,5,28])<|.step (.ml [20,23,26,29])<|
 .ret [30])
 (.step (.ml [])<|.ret [17]))))))))
def Xo:aH:=.fn [] [.sc]<|.step (.cs [97,108,108,111,119,101,100])<|.step (.cs [98,97,115,101])<|.step (.cs [99,104,111,115,101,110])<|.step (.cs [99,111,100,101])<|
 .step (.cs [99,111,115,116])<|.step (.cs [100,101,97,100,108,105,110,101])<|.step (.cs [100,101,115,99,114])<|.step (.cs [100,105,103,101,115,116])<|.step (.cs [101,112,111,99,104])<|
 .step (.cs [102,108,97,103,115])<|.step (.cs [105,100])<|.step (.cs [108,97,103])<|.step (.cs [109,97,120])<|.step (.cs [109,105,110])<|.step (.cs [110,97,109,101])<|
 .step (.cs [110,111,116,101])<|.step (.cs [112,114,105,111,114,105,116,121])<|.step (.cs [114,101,103,105,111,110])<|.step (.cs [114,101,109,97,105,110,105,110,103])<|
 .step (.cs [114,101,116,114,121])<|.step (.cs [116,97,98,108,101])<|.step (.cs [119,97,110,116])<|.step (.ml [0,1,2,3,4,5,6,7,8,9,10,11,12,13,14,15,16,17,18,19,20,21])<|
 .ret [22]
def WV:aH:=.fn [.sc] [.sc,.sc,.sc]<|.step (.call 65 [0] 0)<|.step (.call 65 [0] 1)<|.step (.call 65 [0] 2)<|.step (.ci .i64 0)<|.step (.bin .eql 3 4)<|.ite 5
 (.step (.ci .u64 0)<|.step (.bin .eql 1 6)<|.ite 7
 (.step (.ml [])<|.step (.cs [])<|.step (.ci .i64 12)<|.ret [8,9,10])
 (.step (.ci .u64 16)<|.step (.bin .gtr 1 8)<|.ite 9
 (.step (.ml [])<|.step (.cs [])<|.step (.ci .i64 13)<|.ret [10,11,12])
 (.step (.slen 0)<|.step (.iC 0 2 10)<|.step (.ml [])<|.step (.call 68 [11,1,12,6] 0)<|.step (.bin .eql 13 4)<|.ite 14
 (.step (.call 68 [11,1,12,6] 1)<|.step (.cs [])<|.ret [12,16,15])
 (.step (.call 68 [11,1,12,6] 1)<|.step (.call 68 [11,1,12,6] 2)<|.ret [16,15,4]))))
 (.step (.bin .neq 3 4)<|.step (.ml [])<|.step (.cs [])<|.ret [7,8,3])
def d5:aH:=.fn [.sc] [.sc]<|.step (.len 0)<|.step (.ci .i64 0)<|.step (.call 6 [0,1,2] 0)<|.step (.bin .eql 3 2)<|.ite 4
 (.step (.cb false)<|.ret [5])
 (.step (.ci .i64 300)<|.step (.bin .leq 1 5)<|.ret [6])
def VK:aH:=.fn [.sc] [.sc]<|.step (.ci .u8 0)<|.step (.call 18 [0,1] 0)<|.step (.call 18 [0,1] 1)<|.ret [2]
def VH:aH:=.fn [.sc] [.sc]<|.step (.len 0)<|.step (.ci .i64 0)<|.step (.call 15 [0,1,2] 0)<|.step (.bin .eql 3 2)<|.ite 4
 (.step (.cb false)<|.ret [5])
 (.step (.ci .i64 60)<|.step (.bin .leq 1 5)<|.ret [6])
def Xc:aH:=.fn [.ag 2,.ag 2] [.sc]<|.step (.cell 0 0)<|.step (.cell 1 0)<|.step (.cell 0 1)<|.step (.cell 1 1)<|.step (.bin .eql 2 4)<|.ite 6
 (.step (.ci .i64 14)<|.ret [7])
 (.step (.mk [2,3])<|.step (.mk [4,5])<|.step (.call 73 [7,8] 0)<|.step (.ci .i64 0)<|.step (.bin .gtr 9 10)<|.ite 11
 (.step (.ci .i64 7)<|.ret [12])
 (.ret [10]))
def Vt:aH:=.fn [.ag 24,.ag 24] [.sc]<|.step (.cell 0 0)<|.step (.cell 1 0)<|.step (.cell 2 0)<|.step (.cell 3 0)<|.step (.cell 4 0)<|.step (.cell 5 0)<|.step (.cell 6 0)<|
 .step (.cell 7 0)<|.step (.cell 8 0)<|.step (.cell 9 0)<|.step (.cell 10 0)<|.step (.cell 11 0)<|.step (.cell 12 0)<|.step (.cell 13 0)<|.step (.cell 14 0)<|.step (.cell 15 0)<|.step (.cell 16 0)<|
 .step (.cell 17 0)<|.step (.cell 18 0)<|.step (.cell 19 0)<|.step (.cell 20 0)<|.step (.cell 21 0)<|.step (.cell 22 0)<|.step (.cell 23 0)<|.step (.cell 0 1)<|.step (.cell 1 1)<|
 .step (.cell 2 1)<|.step (.cell 3 1)<|.step (.cell 4 1)<|.step (.cell 5 1)<|.step (.cell 6 1)<|.step (.cell 7 1)<|.step (.cell 8 1)<|.step (.cell 9 1)<|.step (.cell 10 1)<|.step (.cell 11 1)<|
 .step (.cell 12 1)<|.step (.cell 13 1)<|.step (.cell 14 1)<|.step (.cell 15 1)<|.step (.cell 16 1)<|.step (.cell 17 1)<|.step (.cell 18 1)<|.step (.cell 19 1)<|.step (.cell 20 1)<|
 .step (.cell 21 1)<|.step (.cell 22 1)<|.step (.cell 23 1)<|.step (.bin .neq 2 26)<|.ite 50
 (.step (.cb false)<|.ret [51])
 (.step (.call 110 [] 0)<|.step (.len 51)<|.step (.ci .i64 0)<|.step (.call 111 [51,52,53,26,27,28,29,30,31,32,33,34,35,36,37,38,39,40,41,42,43,44,45,46,47,48,49,2,3,4,5,6,7,8,9,10,11,12,13,14,15,16,17,18,19,20,21,22,23,24,25] 0)<|
 .step (.bin .eql 54 53)<|.ite 55
 (.step (.cb false)<|.ret [56])
 (.step (.call 118 [25,49] 0)<|.ret [56]))
abbrev Vu:aH:=.vg Ho
def Wx:aH:=.fn [.sc] [.sc,.sc]<|.step (.ci .i64 0)<|.step (.call 47 [0,1] 0)<|.step (.call 47 [0,1] 1)<|.step (.call 47 [0,1] 2)<|.step (.call 47 [0,1] 3)<|.step (.call 47 [0,1] 4)<|
 .step (.bin .neq 4 1)<|.ite 7
 (.step (.ml [])<|.ret [8,4])
 (.step (.slen 5)<|.step (.bin .sub 8 6)<|.step (.bin .gtr 9 1)<|.ite 10
 (.step (.ml [])<|.step (.ci .i64 10)<|.ret [11,12])
 (.ret [3,1]))
def W9:aH:=.fn [.sc] [.ag 2,.sc,.sc]<|.step (.call 70 [0] 0)<|.step (.call 70 [0] 1)<|.step (.call 70 [0] 2)<|.step (.ci .i64 0)<|.step (.bin .neq 3 4)<|.ite 5
 (.step (.cs [])<|.step (.mk [6,6])<|.ret [7,6,3])
 (.step (.call 70 [2] 0)<|.step (.call 70 [2] 1)<|.step (.call 70 [2] 2)<|.step (.bin .neq 8 4)<|.ite 9
 (.step (.cs [])<|.step (.mk [10,10])<|.ret [11,10,8])
 (.step (.mk [1,6])<|.step (.call 71 [10] 0)<|.step (.bin .neq 11 4)<|.ite 12
 (.step (.cs [])<|.step (.mk [13,13])<|.ret [14,13,11])
 (.ret [10,7,4])))
def XD:aH:=.fn [.sc] [.sc]<|.step (.len 0)<|.step (.conv .u64 1)<|.step (.ci .u64 0)<|.step (.bin .eql 2 3)<|.ite 4
 (.step (.ci .i64 12)<|.step (.ci .i64 0)<|.step (.call 99 [0,5,6] 0)<|.step (.call 99 [0,5,6] 1)<|.ret [8])
 (.step (.ci .u64 16)<|.step (.bin .gtr 2 5)<|.ite 6
 (.step (.ci .i64 13)<|.step (.ci .i64 0)<|.step (.call 99 [0,7,8] 0)<|.step (.call 99 [0,7,8] 1)<|.ret [10])
 (.step (.ci .i64 0)<|.step (.call 99 [0,7,7] 0)<|.step (.call 99 [0,7,7] 1)<|.ret [9]))
def Xv:aH:=.fn [.sc] [.sc]<|.step (.cs [])<|.step (.call 91 [0,1] 0)<|.step (.call 91 [0,1] 1)<|.step (.call 91 [0,1] 2)<|.step (.conv .u8 3)<|.step (.ml [5])<|.step (.str 6)<|
 .step (.bin .add 4 7)<|.ret [8]
def VE:aH:=.fn [.sc,.sc] [.sc]<|.step (.mk [0,1])<|.step (.ml [2])<|.step (.call 119 [3] 0)<|.step (.ci .i64 0)<|.step (.bin .eql 4 5)<|.ite 6
 (.step (.cb false)<|.ret [7])
 (.step (.cb true)<|.ret [7])
def Xl:aH:=.fn [.sc,.sc] [.sc]<|.step (.ci .i64 0)<|.step (.call 82 [0,1,2] 0)<|.step (.bin .eql 3 2)<|.ite 4
 (.step (.call 82 [0,1,2] 1)<|.ret [5])
 (.step (.slen 0)<|.step (.slen 1)<|.step (.mm false 5 6)<|.ret [7])
abbrev V5:aH:=.vg Au
def d8:aH:=.fn [.sc] [.sc]<|.step (.call 9 [0] 0)<|.step (.ci .u8 0)<|.step (.rep 1 1 2 1 1)<|.step (.len 3)<|.step (.ci .i64 0)<|.step (.call 11 [0,3,4,5] 0)<|.step (.call 11 [0,3,4,5] 1)<|
 .step (.len 7)<|.step (.ci .i64 1)<|.step (.bin .sub 8 9)<|.step (.idx 7 10)<|.step (.at 1 7 11)<|.step (.cell 0 12)<|.step (.ci .u8 127)<|.step (.bin .and 13 14)<|.step (.upd 1 0 7 11 [15])<|
 .step (.str 16)<|.ret [17]
def XC:aH:=.fn [.ag 2] [.sc]<|.step (.cell 0 0)<|.step (.cell 1 0)<|.step (.call 98 [1] 0)<|.step (.ci .i64 0)<|.step (.bin .eql 3 4)<|.ite 5
 (.step (.ci .u64 0)<|.step (.bin .eql 2 6)<|.ite 7
 (.step (.ci .i64 18)<|.ret [8])
 (.ret [3]))
 (.ret [3])
def WU:aH:=.fn [.sc] [.sc,.sc]<|.step (.call 64 [0] 0)<|.step (.call 64 [0] 1)<|.step (.call 64 [0] 2)<|.step (.ci .i64 0)<|.step (.bin .neq 3 4)<|.ite 5
 (.step (.ml [])<|.ret [6,3])
 (.step (.cs [])<|.step (.bin .neq 2 6)<|.ite 7
 (.step (.ml [])<|.step (.ci .i64 10)<|.ret [8,9])
 (.ret [1,4]))
def WH:aH:=.fn [.ag 24,.sc,.sc,.sc,.sc] [.ag 24,.sc]<|.step (.cell 0 0)<|.step (.cell 1 0)<|.step (.cell 2 0)<|.step (.cell 3 0)<|.step (.cell 4 0)<|.step (.cell 5 0)<|
 .step (.cell 6 0)<|.step (.cell 7 0)<|.step (.cell 8 0)<|.step (.cell 9 0)<|.step (.cell 10 0)<|.step (.cell 11 0)<|.step (.cell 12 0)<|.step (.cell 13 0)<|.step (.cell 14 0)<|.step (.cell 15 0)<|
 .step (.cell 16 0)<|.step (.cell 17 0)<|.step (.cell 18 0)<|.step (.cell 19 0)<|.step (.cell 20 0)<|.step (.cell 21 0)<|.step (.cell 22 0)<|.step (.cell 23 0)<|.step (.call 54 [1] 0)<|
 .step (.ci .i64 0)<|.step (.bin .lss 29 30)<|.ite 31
 (.step (.ci .u64 0)<|.step (.cb false)<|.step (.cs [])<|.step (.ml [])<|.step (.ci .i64 26)<|.step (.mk [30,32,32,32,32,32,32,32,32,32,32,32,32,32,32,32,30,33,34,34,34,35,35,35])<|
 .ret [37,36])
 (.step (.ci .i64 3)<|.step (.bin .quo 29 32)<|.step (.bin .neq 2 33)<|.ite 34
 (.step (.ci .u64 0)<|.step (.cb false)<|.step (.cs [])<|.step (.ml [])<|.step (.ci .i64 8)<|.step (.mk [30,35,35,35,35,35,35,35,35,35,35,35,35,35,35,35,30,36,37,37,37,38,38,38])<|
 .ret [40,39])
 (.step (.bin .eql 2 30)<|.ite 35
 (.step (.ci .u64 0)<|.step (.bin .eql 3 36)<|.ite 37
 (.step (.cb false)<|.step (.cs [])<|.step (.ml [])<|.step (.ci .i64 17)<|.step (.mk [30,36,36,36,36,36,36,36,36,36,36,36,36,36,36,36,30,38,39,39,39,40,40,40])<|
 .ret [42,41])
 (.step (.ci .i64 1)<|.step (.bin .eql 2 38)<|.step (.bin .eql 29 30)<|.ite 40
 (.step (.cs [105,100])<|.step (.bin .eql 1 41)<|.ite 42
 (.step (.mk [5,3,7,8,9,10,11,12,13,14,15,16,17,18,19,20,21,22,23,24,25,26,27,28])<|.ret [43,30])
 (.step (.cs [109,105,110])<|.step (.bin .eql 1 43)<|.ite 44
 (.step (.mk [5,6,3,8,9,10,11,12,13,14,15,16,17,18,19,20,21,22,23,24,25,26,27,28])<|.ret [45,30])
 (.step (.cs [109,97,120])<|.step (.bin .eql 1 45)<|.ite 46
 (.step (.mk [5,6,7,3,9,10,11,12,13,14,15,16,17,18,19,20,21,22,23,24,25,26,27,28])<|.ret [47,30])
 (.step (.cs [99,104,111,115,101,110])<|.step (.bin .eql 1 47)<|.ite 48
 (.step (.mk [5,6,7,8,3,10,11,12,13,14,15,16,17,18,19,20,21,22,23,24,25,26,27,28])<|.ret [49,30])
 (.step (.cs [102,108,97,103,115])<|.step (.bin .eql 1 49)<|.ite 50
 (.step (.mk [5,6,7,8,9,3,11,12,13,14,15,16,17,18,19,20,21,22,23,24,25,26,27,28])<|.ret [51,30])
 (.step (.cs [99,111,115,116])<|.step (.bin .eql 1 51)<|.ite 52
 (.step (.mk [5,6,7,8,9,10,3,12,13,14,15,16,17,18,19,20,21,22,23,24,25,26,27,28])<|.ret [53,30])
 (.step (.cs [112,114,105,111,114,105,116,121])<|.step (.bin .eql 1 53)<|.ite 54
 (.step (.mk [5,6,7,8,9,10,11,3,13,14,15,16,17,18,19,20,21,22,23,24,25,26,27,28])<|.ret [55,30])
 (.step (.cs [100,101,97,100,108,105,110,101])<|.step (.bin .eql 1 55)<|.ite 56
 (.step (.mk [5,6,7,8,9,10,11,12,3,14,15,16,17,18,19,20,21,22,23,24,25,26,27,28])<|.ret [57,30])
 (.step (.cs [114,101,116,114,121])<|.step (.bin .eql 1 57)<|.ite 58
 (.step (.mk [5,6,7,8,9,10,11,12,13,3,15,16,17,18,19,20,21,22,23,24,25,26,27,28])<|.ret [59,30])
 (.step (.cs [101,112,111,99,104])<|.step (.bin .eql 1 59)<|.ite 60
 (.step (.mk [5,6,7,8,9,10,11,12,13,14,3,16,17,18,19,20,21,22,23,24,25,26,27,28])<|.ret [61,30])
 (.step (.cs [98,97,115,101])<|.step (.bin .eql 1 61)<|.ite 62
 (.step (.mk [5,6,7,8,9,10,11,12,13,14,15,3,17,18,19,20,21,22,23,24,25,26,27,28])<|.ret [63,30])
 (.step (.cs [100,105,103,101,115,116])<|.step (.bin .eql 1 63)<|.ite 64
 (.step (.mk [5,6,7,8,9,10,11,12,13,14,15,16,3,18,19,20,21,22,23,24,25,26,27,28])<|.ret [65,30])
 (.step (.cs [108,97,103])<|.step (.bin .eql 1 65)<|.ite 66
 (.step (.mk [5,6,7,8,9,10,11,12,13,14,15,16,17,3,19,20,21,22,23,24,25,26,27,28])<|.ret [67,30])
 (.step (.cs [99,111,100,101])<|.step (.bin .eql 1 67)<|.ite 68
 (.step (.mk [5,6,7,8,9,10,11,12,13,14,15,16,17,18,3,20,21,22,23,24,25,26,27,28])<|.ret [69,30])
 (.step (.mk [5,6,7,8,9,10,11,12,13,14,15,16,17,18,19,3,21,22,23,24,25,26,27,28])<|.ret [69,30])))))))))))))))
 (.step (.bin .eql 29 38)<|.ite 41
 (.step (.ci .u64 1)<|.step (.bin .neq 3 42)<|.ite 43
 (.step (.cb false)<|.step (.cs [])<|.step (.ml [])<|.step (.ci .i64 18)<|.step (.mk [30,36,36,36,36,36,36,36,36,36,36,36,36,36,36,36,30,44,45,45,45,46,46,46])<|
 .ret [48,47])
 (.step (.cb true)<|.step (.mk [5,6,7,8,9,10,11,12,13,14,15,16,17,18,19,20,21,44,23,24,25,26,27,28])<|.ret [45,30]))
 (.step (.ci .i64 2)<|.step (.bin .eql 29 42)<|.ite 43
 (.step (.ci .u64 2)<|.step (.bin .rem 3 44)<|.step (.bin .eql 45 36)<|.ite 46
 (.step (.bin .quo 3 44)<|.step (.conv .i64 47)<|.step (.mk [5,6,7,8,9,10,11,12,13,14,15,16,17,18,19,20,48,22,23,24,25,26,27,28])<|.ret [49,30])
 (.step (.bin .quo 3 44)<|.step (.conv .i64 47)<|.step (.bin .sub 30 48)<|.step (.bin .sub 49 38)<|.step (.mk [5,6,7,8,9,10,11,12,13,14,15,16,17,18,19,20,50,22,23,24,25,26,27,28])<|
 .ret [51,30]))
 (.step (.bin .eql 29 32)<|.ite 44
 (.step (.ci .i64 256)<|.step (.call 58 [4,30,45] 0)<|.step (.cs [110,97,109,101])<|.step (.bin .eql 1 47)<|.ite 48
 (.step (.bin .neq 46 30)<|.ite 49
 (.step (.cb false)<|.step (.cs [])<|.step (.ml [])<|.step (.mk [30,36,36,36,36,36,36,36,36,36,36,36,36,36,36,36,30,50,51,51,51,52,52,52])<|.ret [53,46])
 (.step (.mk [5,6,7,8,9,10,11,12,13,14,15,16,17,18,19,20,21,22,4,24,25,26,27,28])<|.ret [50,30]))
 (.step (.cs [114,101,103,105,111,110])<|.step (.bin .eql 1 49)<|.ite 50
 (.step (.bin .neq 46 30)<|.ite 51
 (.step (.cb false)<|.step (.cs [])<|.step (.ml [])<|.step (.mk [30,36,36,36,36,36,36,36,36,36,36,36,36,36,36,36,30,52,53,53,53,54,54,54])<|.ret [55,46])
 (.step (.mk [5,6,7,8,9,10,11,12,13,14,15,16,17,18,19,20,21,22,23,4,25,26,27,28])<|.ret [52,30]))
 (.step (.bin .neq 46 30)<|.ite 51
 (.step (.cb false)<|.step (.cs [])<|.step (.ml [])<|.step (.mk [30,36,36,36,36,36,36,36,36,36,36,36,36,36,36,36,30,52,53,53,53,54,54,54])<|.ret [55,46])
 (.step (.mk [5,6,7,8,9,10,11,12,13,14,15,16,17,18,19,20,21,22,23,24,4,26,27,28])<|.ret [52,30]))))
 (.step (.ci .i64 4)<|.step (.bin .eql 29 45)<|.ite 46
 (.step (.call 63 [4] 0)<|.step (.call 63 [4] 1)<|.step (.bin .neq 48 30)<|.ite 49
 (.step (.cb false)<|.step (.cs [])<|.step (.ml [])<|.step (.mk [30,36,36,36,36,36,36,36,36,36,36,36,36,36,36,36,30,50,51,51,51,52,52,52])<|.ret [53,48])
 (.step (.mk [5,6,7,8,9,10,11,12,13,14,15,16,17,18,19,20,21,22,23,24,25,47,27,28])<|.ret [50,30]))
 (.step (.call 76 [4] 0)<|.step (.call 76 [4] 1)<|.step (.bin .eql 48 30)<|.ite 49
 (.step (.len 47)<|.step (.bin .eql 50 30)<|.ite 51
 (.step (.cb false)<|.step (.cs [])<|.step (.ml [])<|.step (.ci .i64 17)<|.step (.mk [30,36,36,36,36,36,36,36,36,36,36,36,36,36,36,36,30,52,53,53,53,54,54,54])<|
 .ret [56,55])
 (.step (.bin .neq 48 30)<|.step (.mk [5,6,7,8,9,10,11,12,13,14,15,16,17,18,19,20,21,22,23,24,25,26,47,28])<|.ret [53,30]))
 (.step (.bin .neq 48 30)<|.step (.cb false)<|.step (.cs [])<|.step (.ml [])<|.step (.mk [30,36,36,36,36,36,36,36,36,36,36,36,36,36,36,36,30,51,52,52,52,53,53,53])<|
 .ret [54,48]))))))))
 (.step (.ci .i64 1)<|.step (.bin .eql 2 36)<|.ite 37
 (.step (.cs [])<|.step (.bin .eql 4 38)<|.ite 39
 (.step (.ci .u64 0)<|.step (.cb false)<|.step (.ml [])<|.step (.ci .i64 17)<|.step (.mk [30,40,40,40,40,40,40,40,40,40,40,40,40,40,40,40,30,41,38,38,38,42,42,42])<|
 .ret [44,43])
 (.step (.bin .eql 29 30)<|.ite 40
 (.step (.cs [105,100])<|.step (.bin .eql 1 41)<|.ite 42
 (.step (.mk [5,3,7,8,9,10,11,12,13,14,15,16,17,18,19,20,21,22,23,24,25,26,27,28])<|.ret [43,30])
 (.step (.cs [109,105,110])<|.step (.bin .eql 1 43)<|.ite 44
 (.step (.mk [5,6,3,8,9,10,11,12,13,14,15,16,17,18,19,20,21,22,23,24,25,26,27,28])<|.ret [45,30])
 (.step (.cs [109,97,120])<|.step (.bin .eql 1 45)<|.ite 46
 (.step (.mk [5,6,7,3,9,10,11,12,13,14,15,16,17,18,19,20,21,22,23,24,25,26,27,28])<|.ret [47,30])
 (.step (.cs [99,104,111,115,101,110])<|.step (.bin .eql 1 47)<|.ite 48
 (.step (.mk [5,6,7,8,3,10,11,12,13,14,15,16,17,18,19,20,21,22,23,24,25,26,27,28])<|.ret [49,30])
 (.step (.cs [102,108,97,103,115])<|.step (.bin .eql 1 49)<|.ite 50
 (.step (.mk [5,6,7,8,9,3,11,12,13,14,15,16,17,18,19,20,21,22,23,24,25,26,27,28])<|.ret [51,30])
 (.step (.cs [99,111,115,116])<|.step (.bin .eql 1 51)<|.ite 52
 (.step (.mk [5,6,7,8,9,10,3,12,13,14,15,16,17,18,19,20,21,22,23,24,25,26,27,28])<|.ret [53,30])
 (.step (.cs [112,114,105,111,114,105,116,121])<|.step (.bin .eql 1 53)<|.ite 54
 (.step (.mk [5,6,7,8,9,10,11,3,13,14,15,16,17,18,19,20,21,22,23,24,25,26,27,28])<|.ret [55,30])
 (.step (.cs [100,101,97,100,108,105,110,101])<|.step (.bin .eql 1 55)<|.ite 56
 (.step (.mk [5,6,7,8,9,10,11,12,3,14,15,16,17,18,19,20,21,22,23,24,25,26,27,28])<|.ret [57,30])
 (.step (.cs [114,101,116,114,121])<|.step (.bin .eql 1 57)<|.ite 58
 (.step (.mk [5,6,7,8,9,10,11,12,13,3,15,16,17,18,19,20,21,22,23,24,25,26,27,28])<|.ret [59,30])
 (.step (.cs [101,112,111,99,104])<|.step (.bin .eql 1 59)<|.ite 60
 (.step (.mk [5,6,7,8,9,10,11,12,13,14,3,16,17,18,19,20,21,22,23,24,25,26,27,28])<|.ret [61,30])
 (.step (.cs [98,97,115,101])<|.step (.bin .eql 1 61)<|.ite 62
 (.step (.mk [5,6,7,8,9,10,11,12,13,14,15,3,17,18,19,20,21,22,23,24,25,26,27,28])<|.ret [63,30])
 (.step (.cs [100,105,103,101,115,116])<|.step (.bin .eql 1 63)<|.ite 64
 (.step (.mk [5,6,7,8,9,10,11,12,13,14,15,16,3,18,19,20,21,22,23,24,25,26,27,28])<|.ret [65,30])
 (.step (.cs [108,97,103])<|.step (.bin .eql 1 65)<|.ite 66
 (.step (.mk [5,6,7,8,9,10,11,12,13,14,15,16,17,3,19,20,21,22,23,24,25,26,27,28])<|.ret [67,30])
 (.step (.cs [99,111,100,101])<|.step (.bin .eql 1 67)<|.ite 68
 (.step (.mk [5,6,7,8,9,10,11,12,13,14,15,16,17,18,3,20,21,22,23,24,25,26,27,28])<|.ret [69,30])
 (.step (.mk [5,6,7,8,9,10,11,12,13,14,15,16,17,18,19,3,21,22,23,24,25,26,27,28])<|.ret [69,30])))))))))))))))
 (.step (.bin .eql 29 36)<|.ite 41
 (.step (.ci .u64 1)<|.step (.bin .neq 3 42)<|.ite 43
 (.step (.ci .u64 0)<|.step (.cb false)<|.step (.ml [])<|.step (.ci .i64 18)<|.step (.mk [30,44,44,44,44,44,44,44,44,44,44,44,44,44,44,44,30,45,38,38,38,46,46,46])<|
 .ret [48,47])
 (.step (.cb true)<|.step (.mk [5,6,7,8,9,10,11,12,13,14,15,16,17,18,19,20,21,44,23,24,25,26,27,28])<|.ret [45,30]))
 (.step (.ci .i64 2)<|.step (.bin .eql 29 42)<|.ite 43
 (.step (.ci .u64 2)<|.step (.bin .rem 3 44)<|.step (.ci .u64 0)<|.step (.bin .eql 45 46)<|.ite 47
 (.step (.bin .quo 3 44)<|.step (.conv .i64 48)<|.step (.mk [5,6,7,8,9,10,11,12,13,14,15,16,17,18,19,20,49,22,23,24,25,26,27,28])<|.ret [50,30])
 (.step (.bin .quo 3 44)<|.step (.conv .i64 48)<|.step (.bin .sub 30 49)<|.step (.bin .sub 50 36)<|.step (.mk [5,6,7,8,9,10,11,12,13,14,15,16,17,18,19,20,51,22,23,24,25,26,27,28])<|
 .ret [52,30]))
 (.step (.bin .eql 29 32)<|.ite 44
 (.step (.ci .i64 256)<|.step (.call 58 [4,30,45] 0)<|.step (.cs [110,97,109,101])<|.step (.bin .eql 1 47)<|.ite 48
 (.step (.bin .neq 46 30)<|.ite 49
 (.step (.ci .u64 0)<|.step (.cb false)<|.step (.ml [])<|.step (.mk [30,50,50,50,50,50,50,50,50,50,50,50,50,50,50,50,30,51,38,38,38,52,52,52])<|.ret [53,46])
 (.step (.mk [5,6,7,8,9,10,11,12,13,14,15,16,17,18,19,20,21,22,4,24,25,26,27,28])<|.ret [50,30]))
 (.step (.cs [114,101,103,105,111,110])<|.step (.bin .eql 1 49)<|.ite 50
 (.step (.bin .neq 46 30)<|.ite 51
 (.step (.ci .u64 0)<|.step (.cb false)<|.step (.ml [])<|.step (.mk [30,52,52,52,52,52,52,52,52,52,52,52,52,52,52,52,30,53,38,38,38,54,54,54])<|.ret [55,46])
 (.step (.mk [5,6,7,8,9,10,11,12,13,14,15,16,17,18,19,20,21,22,23,4,25,26,27,28])<|.ret [52,30]))
 (.step (.bin .neq 46 30)<|.ite 51
 (.step (.ci .u64 0)<|.step (.cb false)<|.step (.ml [])<|.step (.mk [30,52,52,52,52,52,52,52,52,52,52,52,52,52,52,52,30,53,38,38,38,54,54,54])<|.ret [55,46])
 (.step (.mk [5,6,7,8,9,10,11,12,13,14,15,16,17,18,19,20,21,22,23,24,4,26,27,28])<|.ret [52,30]))))
 (.step (.ci .i64 4)<|.step (.bin .eql 29 45)<|.ite 46
 (.step (.call 63 [4] 0)<|.step (.call 63 [4] 1)<|.step (.bin .neq 48 30)<|.ite 49
 (.step (.ci .u64 0)<|.step (.cb false)<|.step (.ml [])<|.step (.mk [30,50,50,50,50,50,50,50,50,50,50,50,50,50,50,50,30,51,38,38,38,52,52,52])<|.ret [53,48])
 (.step (.mk [5,6,7,8,9,10,11,12,13,14,15,16,17,18,19,20,21,22,23,24,25,47,27,28])<|.ret [50,30]))
 (.step (.call 76 [4] 0)<|.step (.call 76 [4] 1)<|.step (.bin .eql 48 30)<|.ite 49
 (.step (.len 47)<|.step (.bin .eql 50 30)<|.ite 51
 (.step (.ci .u64 0)<|.step (.cb false)<|.step (.ml [])<|.step (.ci .i64 17)<|.step (.mk [30,52,52,52,52,52,52,52,52,52,52,52,52,52,52,52,30,53,38,38,38,54,54,54])<|
 .ret [56,55])
 (.step (.bin .neq 48 30)<|.step (.mk [5,6,7,8,9,10,11,12,13,14,15,16,17,18,19,20,21,22,23,24,25,26,47,28])<|.ret [53,30]))
 (.step (.bin .neq 48 30)<|.step (.ci .u64 0)<|.step (.cb false)<|.step (.ml [])<|.step (.mk [30,51,51,51,51,51,51,51,51,51,51,51,51,51,51,51,30,52,38,38,38,53,53,53])<|
 .ret [54,48]))))))))
 (.step (.bin .eql 29 30)<|.ite 38
 (.step (.cs [105,100])<|.step (.bin .eql 1 39)<|.ite 40
 (.step (.mk [5,3,7,8,9,10,11,12,13,14,15,16,17,18,19,20,21,22,23,24,25,26,27,28])<|.ret [41,30])
 (.step (.cs [109,105,110])<|.step (.bin .eql 1 41)<|.ite 42
 (.step (.mk [5,6,3,8,9,10,11,12,13,14,15,16,17,18,19,20,21,22,23,24,25,26,27,28])<|.ret [43,30])
 (.step (.cs [109,97,120])<|.step (.bin .eql 1 43)<|.ite 44
 (.step (.mk [5,6,7,3,9,10,11,12,13,14,15,16,17,18,19,20,21,22,23,24,25,26,27,28])<|.ret [45,30])
 (.step (.cs [99,104,111,115,101,110])<|.step (.bin .eql 1 45)<|.ite 46
 (.step (.mk [5,6,7,8,3,10,11,12,13,14,15,16,17,18,19,20,21,22,23,24,25,26,27,28])<|.ret [47,30])
 (.step (.cs [102,108,97,103,115])<|.step (.bin .eql 1 47)<|.ite 48
 (.step (.mk [5,6,7,8,9,3,11,12,13,14,15,16,17,18,19,20,21,22,23,24,25,26,27,28])<|.ret [49,30])
 (.step (.cs [99,111,115,116])<|.step (.bin .eql 1 49)<|.ite 50
 (.step (.mk [5,6,7,8,9,10,3,12,13,14,15,16,17,18,19,20,21,22,23,24,25,26,27,28])<|.ret [51,30])
 (.step (.cs [112,114,105,111,114,105,116,121])<|.step (.bin .eql 1 51)<|.ite 52
 (.step (.mk [5,6,7,8,9,10,11,3,13,14,15,16,17,18,19,20,21,22,23,24,25,26,27,28])<|.ret [53,30])
 (.step (.cs [100,101,97,100,108,105,110,101])<|.step (.bin .eql 1 53)<|.ite 54
 (.step (.mk [5,6,7,8,9,10,11,12,3,14,15,16,17,18,19,20,21,22,23,24,25,26,27,28])<|.ret [55,30])
 (.step (.cs [114,101,116,114,121])<|.step (.bin .eql 1 55)<|.ite 56
 (.step (.mk [5,6,7,8,9,10,11,12,13,3,15,16,17,18,19,20,21,22,23,24,25,26,27,28])<|.ret [57,30])
 (.step (.cs [101,112,111,99,104])<|.step (.bin .eql 1 57)<|.ite 58
 (.step (.mk [5,6,7,8,9,10,11,12,13,14,3,16,17,18,19,20,21,22,23,24,25,26,27,28])<|.ret [59,30])
 (.step (.cs [98,97,115,101])<|.step (.bin .eql 1 59)<|.ite 60
 (.step (.mk [5,6,7,8,9,10,11,12,13,14,15,3,17,18,19,20,21,22,23,24,25,26,27,28])<|.ret [61,30])
 (.step (.cs [100,105,103,101,115,116])<|.step (.bin .eql 1 61)<|.ite 62
 (.step (.mk [5,6,7,8,9,10,11,12,13,14,15,16,3,18,19,20,21,22,23,24,25,26,27,28])<|.ret [63,30])
 (.step (.cs [108,97,103])<|.step (.bin .eql 1 63)<|.ite 64
 (.step (.mk [5,6,7,8,9,10,11,12,13,14,15,16,17,3,19,20,21,22,23,24,25,26,27,28])<|.ret [65,30])
 (.step (.cs [99,111,100,101])<|.step (.bin .eql 1 65)<|.ite 66
 (.step (.mk [5,6,7,8,9,10,11,12,13,14,15,16,17,18,3,20,21,22,23,24,25,26,27,28])<|.ret [67,30])
 (.step (.mk [5,6,7,8,9,10,11,12,13,14,15,16,17,18,19,3,21,22,23,24,25,26,27,28])<|.ret [67,30])))))))))))))))
 (.step (.bin .eql 29 36)<|.ite 39
 (.step (.ci .u64 1)<|.step (.bin .neq 3 40)<|.ite 41
 (.step (.ci .u64 0)<|.step (.cb false)<|.step (.cs [])<|.step (.ml [])<|.step (.ci .i64 18)<|.step (.mk [30,42,42,42,42,42,42,42,42,42,42,42,42,42,42,42,30,43,44,44,44,45,45,45])<|
 .ret [47,46])
 (.step (.cb true)<|.step (.mk [5,6,7,8,9,10,11,12,13,14,15,16,17,18,19,20,21,42,23,24,25,26,27,28])<|.ret [43,30]))
 (.step (.ci .i64 2)<|.step (.bin .eql 29 40)<|.ite 41
 (.step (.ci .u64 2)<|.step (.bin .rem 3 42)<|.step (.ci .u64 0)<|.step (.bin .eql 43 44)<|.ite 45
 (.step (.bin .quo 3 42)<|.step (.conv .i64 46)<|.step (.mk [5,6,7,8,9,10,11,12,13,14,15,16,17,18,19,20,47,22,23,24,25,26,27,28])<|.ret [48,30])
 (.step (.bin .quo 3 42)<|.step (.conv .i64 46)<|.step (.bin .sub 30 47)<|.step (.bin .sub 48 36)<|.step (.mk [5,6,7,8,9,10,11,12,13,14,15,16,17,18,19,20,49,22,23,24,25,26,27,28])<|
 .ret [50,30]))
 (.step (.bin .eql 29 32)<|.ite 42
 (.step (.ci .i64 256)<|.step (.call 58 [4,30,43] 0)<|.step (.cs [110,97,109,101])<|.step (.bin .eql 1 45)<|.ite 46
 (.step (.bin .neq 44 30)<|.ite 47
 (.step (.ci .u64 0)<|.step (.cb false)<|.step (.cs [])<|.step (.ml [])<|.step (.mk [30,48,48,48,48,48,48,48,48,48,48,48,48,48,48,48,30,49,50,50,50,51,51,51])<|
 .ret [52,44])
 (.step (.mk [5,6,7,8,9,10,11,12,13,14,15,16,17,18,19,20,21,22,4,24,25,26,27,28])<|.ret [48,30]))
 (.step (.cs [114,101,103,105,111,110])<|.step (.bin .eql 1 47)<|.ite 48
 (.step (.bin .neq 44 30)<|.ite 49
 (.step (.ci .u64 0)<|.step (.cb false)<|.step (.cs [])<|.step (.ml [])<|.step (.mk [30,50,50,50,50,50,50,50,50,50,50,50,50,50,50,50,30,51,52,52,52,53,53,53])<|
 .ret [54,44])
 (.step (.mk [5,6,7,8,9,10,11,12,13,14,15,16,17,18,19,20,21,22,23,4,25,26,27,28])<|.ret [50,30]))
 (.step (.bin .neq 44 30)<|.ite 49
 (.step (.ci .u64 0)<|.step (.cb false)<|.step (.cs [])<|.step (.ml [])<|.step (.mk [30,50,50,50,50,50,50,50,50,50,50,50,50,50,50,50,30,51,52,52,52,53,53,53])<|
 .ret [54,44])
 (.step (.mk [5,6,7,8,9,10,11,12,13,14,15,16,17,18,19,20,21,22,23,24,4,26,27,28])<|.ret [50,30]))))
 (.step (.ci .i64 4)<|.step (.bin .eql 29 43)<|.ite 44
 (.step (.call 63 [4] 0)<|.step (.call 63 [4] 1)<|.step (.bin .neq 46 30)<|.ite 47
 (.step (.ci .u64 0)<|.step (.cb false)<|.step (.cs [])<|.step (.ml [])<|.step (.mk [30,48,48,48,48,48,48,48,48,48,48,48,48,48,48,48,30,49,50,50,50,51,51,51])<|
 .ret [52,46])
 (.step (.mk [5,6,7,8,9,10,11,12,13,14,15,16,17,18,19,20,21,22,23,24,25,45,27,28])<|.ret [48,30]))
 (.step (.call 76 [4] 0)<|.step (.call 76 [4] 1)<|.step (.bin .eql 46 30)<|.ite 47
 (.step (.len 45)<|.step (.bin .eql 48 30)<|.ite 49
 (.step (.ci .u64 0)<|.step (.cb false)<|.step (.cs [])<|.step (.ml [])<|.step (.ci .i64 17)<|.step (.mk [30,50,50,50,50,50,50,50,50,50,50,50,50,50,50,50,30,51,52,52,52,53,53,53])<|
 .ret [55,54])
 (.step (.bin .neq 46 30)<|.step (.mk [5,6,7,8,9,10,11,12,13,14,15,16,17,18,19,20,21,22,23,24,25,26,45,28])<|.ret [51,30]))
 (.step (.bin .neq 46 30)<|.step (.ci .u64 0)<|.step (.cb false)<|.step (.cs [])<|.step (.ml [])<|.step (.mk [30,49,49,49,49,49,49,49,49,49,49,49,49,49,49,49,30,50,51,51,51,52,52,52])<|
 .ret [53,46]))))))))))
def VD:aH:=.fn [.ag 2,.ag 2] [.sc]<|.step (.cell 0 0)<|.step (.cell 1 0)<|.step (.cell 0 1)<|.step (.cell 1 1)<|.step (.bin .eql 3 5)<|.ite 6
 (.step (.call 112 [2,4] 0)<|.ret [7])
 (.step (.cb false)<|.ret [7])
def Xr:aH:=.fn [.ag 24,.sc] [.sc]<|.step (.cell 0 0)<|.step (.cell 1 0)<|.step (.cell 2 0)<|.step (.cell 3 0)<|.step (.cell 4 0)<|.step (.cell 5 0)<|.step (.cell 6 0)<|.step (.cell 7 0)<|
 .step (.cell 8 0)<|.step (.cell 9 0)<|.step (.cell 10 0)<|.step (.cell 11 0)<|.step (.cell 12 0)<|.step (.cell 13 0)<|.step (.cell 14 0)<|.step (.cell 15 0)<|.step (.cell 16 0)<|
 .step (.cell 17 0)<|.step (.cell 18 0)<|.step (.cell 19 0)<|.step (.cell 20 0)<|.step (.cell 21 0)<|.step (.cell 22 0)<|.step (.cell 23 0)<|.step (.cs [105,100])<|.step (.bin .eql 1 26)<|
 .ite 27
 (.ret [3])
 (.step (.cs [109,105,110])<|.step (.bin .eql 1 28)<|.ite 29
 (.ret [4])
 (.step (.cs [109,97,120])<|.step (.bin .eql 1 30)<|.ite 31
 (.ret [5])
 (.step (.cs [99,104,111,115,101,110])<|.step (.bin .eql 1 32)<|.ite 33
 (.ret [6])
 (.step (.cs [102,108,97,103,115])<|.step (.bin .eql 1 34)<|.ite 35
 (.ret [7])
 (.step (.cs [99,111,115,116])<|.step (.bin .eql 1 36)<|.ite 37
 (.ret [8])
 (.step (.cs [112,114,105,111,114,105,116,121])<|.step (.bin .eql 1 38)<|.ite 39
 (.ret [9])
 (.step (.cs [100,101,97,100,108,105,110,101])<|.step (.bin .eql 1 40)<|.ite 41
 (.ret [10])
 (.step (.cs [114,101,116,114,121])<|.step (.bin .eql 1 42)<|.ite 43
 (.ret [11])
 (.step (.cs [101,112,111,99,104])<|.step (.bin .eql 1 44)<|.ite 45
 (.ret [12])
 (.step (.cs [98,97,115,101])<|.step (.bin .eql 1 46)<|.ite 47
 (.ret [13])
 (.step (.cs [100,105,103,101,115,116])<|.step (.bin .eql 1 48)<|.ite 49
 (.ret [14])
 (.step (.cs [108,97,103])<|.step (.bin .eql 1 50)<|.ite 51
 (.ret [15])
 (.step (.cs [99,111,100,101])<|.step (.bin .eql 1 52)<|.ite 53
 (.ret [16])
 (.ret [17]))))))))))))))
def WS:aH:=.fn [.sc] [.sc]<|.step (.slen 0)<|.step (.ci .i64 0)<|.step (.bin .eql 1 2)<|.ite 3
 (.ret [2])
 (.step (.kN 0 2)<|.step (.conv .i64 4)<|.step (.ci .i64 128)<|.step (.bin .lss 5 6)<|.ite 7
 (.step (.ci .i64 1)<|.ret [8])
 (.step (.ci .i64 192)<|.step (.bin .geq 5 8)<|.ite 9
 (.step (.ci .i64 224)<|.step (.bin .lss 5 10)<|.ite 11
 (.step (.bin .sub 5 8)<|.step (.ci .i64 2)<|.step (.bin .lss 1 13)<|.ite 14
 (.ret [2])
 (.step (.ci .i64 1)<|.step (.call 62 [0,13,12,6,15] 0)<|.step (.bin .eql 16 2)<|.ite 17
 (.ret [2])
 (.step (.call 62 [0,13,12,6,15] 1)<|.step (.bin .lss 18 6)<|.ite 19
 (.ret [2])
 (.step (.ci .i64 1114111)<|.step (.bin .gtr 18 20)<|.ite 21
 (.ret [2])
 (.step (.ci .i64 55296)<|.step (.bin .geq 18 22)<|.ite 23
 (.step (.ci .i64 57344)<|.step (.bin .lss 18 24)<|.ite 25
 (.ret [2])
 (.ret [13]))
 (.ret [13]))))))
 (.step (.bin .geq 5 10)<|.step (.ci .i64 240)<|.step (.bin .lss 5 13)<|.ite 14
 (.step (.bin .sub 5 10)<|.step (.ci .i64 3)<|.step (.bin .lss 1 16)<|.ite 17
 (.ret [2])
 (.step (.ci .i64 2048)<|.step (.ci .i64 1)<|.step (.call 62 [0,16,15,18,19] 0)<|.step (.bin .eql 20 2)<|.ite 21
 (.ret [2])
 (.step (.call 62 [0,16,15,18,19] 1)<|.step (.bin .lss 22 18)<|.ite 23
 (.ret [2])
 (.step (.ci .i64 1114111)<|.step (.bin .gtr 22 24)<|.ite 25
 (.ret [2])
 (.step (.ci .i64 55296)<|.step (.bin .geq 22 26)<|.ite 27
 (.step (.ci .i64 57344)<|.step (.bin .lss 22 28)<|.ite 29
 (.ret [2])
 (.ret [16]))
 (.ret [16]))))))
 (.step (.bin .geq 5 13)<|.step (.ci .i64 248)<|.step (.bin .lss 5 16)<|.ite 17
 (.step (.bin .sub 5 13)<|.step (.ci .i64 4)<|.step (.bin .lss 1 19)<|.ite 20
 (.ret [2])
 (.step (.ci .i64 65536)<|.step (.ci .i64 1)<|.step (.call 62 [0,19,18,21,22] 0)<|.step (.bin .eql 23 2)<|.ite 24
 (.ret [2])
 (.step (.call 62 [0,19,18,21,22] 1)<|.step (.bin .lss 25 21)<|.ite 26
 (.ret [2])
 (.step (.ci .i64 1114111)<|.step (.bin .gtr 25 27)<|.ite 28
 (.ret [2])
 (.step (.ci .i64 55296)<|.step (.bin .geq 25 29)<|.ite 30
 (.step (.ci .i64 57344)<|.step (.bin .lss 25 31)<|.ite 32
 (.ret [2])
 (.ret [19]))
 (.ret [19]))))))
 (.ret [2]))))
 (.step (.ci .i64 224)<|.step (.bin .geq 5 10)<|.ite 11
 (.step (.ci .i64 240)<|.step (.bin .lss 5 12)<|.ite 13
 (.step (.bin .sub 5 10)<|.step (.ci .i64 3)<|.step (.bin .lss 1 15)<|.ite 16
 (.ret [2])
 (.step (.ci .i64 2048)<|.step (.ci .i64 1)<|.step (.call 62 [0,15,14,17,18] 0)<|.step (.bin .eql 19 2)<|.ite 20
 (.ret [2])
 (.step (.call 62 [0,15,14,17,18] 1)<|.step (.bin .lss 21 17)<|.ite 22
 (.ret [2])
 (.step (.ci .i64 1114111)<|.step (.bin .gtr 21 23)<|.ite 24
 (.ret [2])
 (.step (.ci .i64 55296)<|.step (.bin .geq 21 25)<|.ite 26
 (.step (.ci .i64 57344)<|.step (.bin .lss 21 27)<|.ite 28
 (.ret [2])
 (.ret [15]))
 (.ret [15]))))))
 (.step (.bin .geq 5 12)<|.step (.ci .i64 248)<|.step (.bin .lss 5 15)<|.ite 16
 (.step (.bin .sub 5 12)<|.step (.ci .i64 4)<|.step (.bin .lss 1 18)<|.ite 19
 (.ret [2])
 (.step (.ci .i64 65536)<|.step (.ci .i64 1)<|.step (.call 62 [0,18,17,20,21] 0)<|.step (.bin .eql 22 2)<|.ite 23
 (.ret [2])
 (.step (.call 62 [0,18,17,20,21] 1)<|.step (.bin .lss 24 20)<|.ite 25
 (.ret [2])
 (.step (.ci .i64 1114111)<|.step (.bin .gtr 24 26)<|.ite 27
 (.ret [2])
 (.step (.ci .i64 55296)<|.step (.bin .geq 24 28)<|.ite 29
 (.step (.ci .i64 57344)<|.step (.bin .lss 24 30)<|.ite 31
 (.ret [2])
 (.ret [18]))
 (.ret [18]))))))
 (.ret [2])))
 (.step (.ci .i64 240)<|.step (.bin .geq 5 12)<|.ite 13
 (.step (.ci .i64 248)<|.step (.bin .lss 5 14)<|.ite 15
 (.step (.bin .sub 5 12)<|.step (.ci .i64 4)<|.step (.bin .lss 1 17)<|.ite 18
 (.ret [2])
 (.step (.ci .i64 65536)<|.step (.ci .i64 1)<|.step (.call 62 [0,17,16,19,20] 0)<|.step (.bin .eql 21 2)<|.ite 22
 (.ret [2])
 (.step (.call 62 [0,17,16,19,20] 1)<|.step (.bin .lss 23 19)<|.ite 24
 (.ret [2])
 (.step (.ci .i64 1114111)<|.step (.bin .gtr 23 25)<|.ite 26
 (.ret [2])
 (.step (.ci .i64 55296)<|.step (.bin .geq 23 27)<|.ite 28
 (.step (.ci .i64 57344)<|.step (.bin .lss 23 29)<|.ite 30
 (.ret [2])
 (.ret [17]))
 (.ret [17]))))))
 (.ret [2]))
 (.ret [2])))))
def Vz:aH:=.fn [.sc,.sc] [.sc]<|.step (.call 115 [0,1] 0)<|.ret [2]
def WO:aH:=.fn [.sc,.sc,.sc] [.sc]<|.step (.slen 0)<|.step (.bin .lss 3 1)<|.ite 4
 (.step (.ci .i64 13)<|.ret [5])
 (.step (.bin .gtr 3 2)<|.ite 5
 (.step (.ci .i64 13)<|.ret [6])
 (.step (.call 59 [0] 0)<|.step (.un .not 6)<|.ite 7
 (.step (.ci .i64 11)<|.ret [8])
 (.step (.ci .i64 0)<|.ret [8])))
def Xz:aH:=.fn [.sc] [.sc,.sc]<|.step (.call 95 [0] 0)<|.step (.ci .i64 0)<|.step (.bin .neq 1 2)<|.ite 3
 (.step (.cs [])<|.ret [4,1])
 (.step (.call 100 [0] 0)<|.ret [4,2])
def VP:aH:=.fn [.sc] [.sc]<|.step (.len 0)<|.step (.ci .i64 0)<|.step (.ml [])<|.step (.call 22 [3,0,1,2] 0)<|.step (.call 22 [3,0,1,2] 1)<|.ret [5]
def VL:aH:=.fn [.sc,.sc] [.sc,.sc]<|.step (.ml [])<|.step (.call 19 [0,1,2] 0)<|.step (.call 19 [0,1,2] 1)<|.step (.call 19 [0,1,2] 2)<|.ret [5,4]
abbrev V3:aH:=.vg (Ah 32 2)
def XA:aH:=.fn [.sc] [.sc]<|.step (.len 0)<|.step (.ci .i64 256)<|.step (.bin .gtr 1 2)<|.ite 3
 (.step (.ci .i64 13)<|.ret [4])
 (.step (.ci .i64 0)<|.step (.call 96 [0,1,4] 0)<|.step (.bin .eql 5 4)<|.ite 6
 (.step (.call 96 [0,1,4] 1)<|.ret [7])
 (.ret [4]))
def Xb:aH:=.fn [.ag 2] [.sc]<|.step (.cell 0 0)<|.step (.cell 1 0)<|.step (.ci .i64 1)<|.step (.ci .i64 64)<|.step (.call 58 [1,3,4] 0)<|.step (.ci .i64 0)<|.step (.bin .neq 5 6)<|
 .ite 7
 (.ret [5])
 (.step (.ci .i64 256)<|.step (.call 58 [2,6,8] 0)<|.ret [9])
def Xu:aH:=.fn [.sc] [.sc]<|.step (.len 0)<|.step (.conv .u64 1)<|.step (.call 90 [2] 0)<|.step (.ci .i64 0)<|.step (.call 92 [3,0,1,4] 0)<|.step (.call 92 [3,0,1,4] 1)<|
 .ret [6]
def VZ:aH:=.fn [.ag 24] [.ag 24]<|.step (.cell 0 0)<|.step (.cell 1 0)<|.step (.cell 2 0)<|.step (.cell 3 0)<|.step (.cell 4 0)<|.step (.cell 5 0)<|.step (.cell 6 0)<|.step (.cell 7 0)<|
 .step (.cell 8 0)<|.step (.cell 9 0)<|.step (.cell 10 0)<|.step (.cell 11 0)<|.step (.cell 12 0)<|.step (.cell 13 0)<|.step (.cell 14 0)<|.step (.cell 15 0)<|.step (.cell 16 0)<|
 .step (.cell 17 0)<|.step (.cell 18 0)<|.step (.cell 19 0)<|.step (.cell 20 0)<|.step (.cell 21 0)<|.step (.cell 22 0)<|.step (.cell 23 0)<|.step (.call 29 [22] 0)<|.step (.len 23)<|
 .step (.ml [])<|.step (.ci .u64 0)<|.step (.mk [27,28])<|.step (.ci .i64 0)<|.step (.rep 2 32 29 30 26)<|.step (.call 30 [31,23,26,30,1,2,3,4,5,6,7,8,9,10,11,12,13,14,15,16,17,18,19,20,21,25,24] 0)<|
 .step (.call 30 [31,23,26,30,1,2,3,4,5,6,7,8,9,10,11,12,13,14,15,16,17,18,19,20,21,25,24] 1)<|.step (.call 31 [24] 0)<|.step (.mk [1,2,3,4,5,6,7,8,9,10,11,12,13,14,15,16,17,18,19,20,21,25,33,34])<|
 .ret [35]
def VT:aH:=.fn [.sc] [.sc]<|.step (.len 0)<|.step (.ci .i64 0)<|.step (.ml [])<|.step (.call 24 [3,0,1,2] 0)<|.step (.call 24 [3,0,1,2] 1)<|.ret [5]
def V9:aH:=.fn [.sc] [.sc]<|.step (.call 36 [0] 0)<|.ret [1]
def V8:aH:=.fn [.sc,.sc,.sc] [.sc]<|.step (.slen 0)<|.step (.bin .lss 3 1)<|.ite 4
 (.step (.ci .i64 13)<|.ret [5])
 (.step (.bin .gtr 3 2)<|.ite 5
 (.step (.ci .i64 13)<|.ret [6])
 (.step (.call 35 [0] 0)<|.step (.un .not 6)<|.ite 7
 (.step (.ci .i64 11)<|.ret [8])
 (.step (.ci .i64 0)<|.ret [8])))
def Xq:aH:=.fn [.ag 24,.sc] [.sc,.sc]<|.step (.cell 0 0)<|.step (.cell 1 0)<|.step (.cell 2 0)<|.step (.cell 3 0)<|.step (.cell 4 0)<|.step (.cell 5 0)<|.step (.cell 6 0)<|
 .step (.cell 7 0)<|.step (.cell 8 0)<|.step (.cell 9 0)<|.step (.cell 10 0)<|.step (.cell 11 0)<|.step (.cell 12 0)<|.step (.cell 13 0)<|.step (.cell 14 0)<|.step (.cell 15 0)<|.step (.cell 16 0)<|
 .step (.cell 17 0)<|.step (.cell 18 0)<|.step (.cell 19 0)<|.step (.cell 20 0)<|.step (.cell 21 0)<|.step (.cell 22 0)<|.step (.cell 23 0)<|.step (.call 54 [1] 0)<|.step (.ci .i64 0)<|
 .step (.bin .eql 26 27)<|.ite 28
 (.step (.mk [2,3,4,5,6,7,8,9,10,11,12,13,14,15,16,17,18,19,20,21,22,23,24,25])<|.step (.call 87 [29,1] 0)<|.step (.cs [])<|.ret [30,31])
 (.step (.ci .i64 1)<|.step (.bin .eql 26 29)<|.ite 30
 (.ite 19
 (.step (.ci .u64 1)<|.step (.cs [])<|.ret [31,32])
 (.step (.ci .u64 0)<|.step (.cs [])<|.ret [31,32]))
 (.step (.ci .i64 2)<|.step (.bin .eql 26 31)<|.ite 32
 (.step (.bin .geq 18 27)<|.ite 33
 (.step (.conv .u64 18)<|.step (.ci .u64 2)<|.step (.bin .mul 35 34)<|.step (.cs [])<|.ret [36,37])
 (.step (.bin .add 18 29)<|.step (.bin .sub 27 34)<|.step (.conv .u64 35)<|.step (.ci .u64 1)<|.step (.bin .add 36 37)<|.step (.bin .sub 38 37)<|.step (.ci .u64 2)<|.step (.bin .mul 40 39)<|
 .step (.bin .add 41 37)<|.step (.cs [])<|.ret [42,43]))
 (.step (.ci .i64 3)<|.step (.bin .eql 26 33)<|.ite 34
 (.step (.mk [2,3,4,5,6,7,8,9,10,11,12,13,14,15,16,17,18,19,20,21,22,23,24,25])<|.step (.call 88 [35,1] 0)<|.step (.ci .u64 0)<|.ret [37,36])
 (.step (.ci .i64 4)<|.step (.bin .eql 26 35)<|.ite 36
 (.step (.len 23)<|.step (.bin .gtr 37 27)<|.ite 38
 (.step (.call 89 [23] 0)<|.step (.ci .u64 0)<|.ret [40,39])
 (.step (.ci .u64 0)<|.step (.cs [])<|.ret [39,40]))
 (.step (.len 24)<|.step (.bin .gtr 37 27)<|.ite 38
 (.step (.call 94 [24] 0)<|.step (.call 94 [24] 1)<|.step (.ci .u64 0)<|.ret [41,39])
 (.step (.ci .u64 0)<|.step (.cs [])<|.ret [39,40]))))))
def Wv:aH:=.fn [.ag 2] [.sc]<|.step (.cell 0 0)<|.step (.cell 1 0)<|.step (.ci .i64 1)<|.step (.ci .i64 64)<|.step (.call 34 [1,3,4] 0)<|.step (.ci .i64 0)<|.step (.bin .neq 5 6)<|
 .ite 7
 (.ret [5])
 (.step (.ci .i64 256)<|.step (.call 34 [2,6,8] 0)<|.ret [9])
def WI:aH:=.fn [.sc] [.sc]<|.step (.ci .i64 1)<|.step (.call 55 [0,1] 0)<|.step (.ci .i64 0)<|.step (.bin .eql 2 3)<|.ite 4
 (.step (.call 55 [0,1] 1)<|.ret [5])
 (.step (.ci .i64 (-1))<|.ret [5])
def d2:aH:=.fn [.ag 24] [.sc]<|.step (.cell 0 0)<|.step (.cell 1 0)<|.step (.cell 2 0)<|.step (.cell 3 0)<|.step (.cell 4 0)<|.step (.cell 5 0)<|.step (.cell 6 0)<|.step (.cell 7 0)<|
 .step (.cell 8 0)<|.step (.cell 9 0)<|.step (.cell 10 0)<|.step (.cell 11 0)<|.step (.cell 12 0)<|.step (.cell 13 0)<|.step (.cell 14 0)<|.step (.cell 15 0)<|.step (.cell 16 0)<|
 .step (.cell 17 0)<|.step (.cell 18 0)<|.step (.cell 19 0)<|.step (.cell 20 0)<|.step (.cell 21 0)<|.step (.cell 22 0)<|.step (.cell 23 0)<|.step (.slen 19)<|.step (.ci .i64 600)<|
 .step (.bin .leq 25 26)<|.ite 27
 (.step (.slen 20)<|.step (.bin .leq 28 26)<|.ite 29
 (.step (.slen 21)<|.step (.bin .leq 30 26)<|.ite 31
 (.step (.call 3 [22] 0)<|.ite 32
 (.step (.call 5 [23] 0)<|.ite 33
 (.step (.call 14 [24] 0)<|.ret [34])
 (.step (.cb false)<|.ret [34]))
 (.step (.cb false)<|.ret [33]))
 (.step (.cb false)<|.ret [32]))
 (.step (.cb false)<|.ret [30]))
 (.step (.cb false)<|.ret [28])
def Xd:aH:=.fn [.ag 2,.ag 2] [.sc]<|.step (.cell 0 0)<|.step (.cell 1 0)<|.step (.cell 0 1)<|.step (.cell 1 1)<|.step (.call 74 [2,4] 0)<|.ite 6
 (.step (.ci .i64 (-1))<|.ret [7])
 (.step (.bin .eql 2 4)<|.ite 7
 (.step (.call 74 [3,5] 0)<|.ite 8
 (.step (.ci .i64 (-1))<|.ret [9])
 (.step (.mk [2,3])<|.step (.mk [4,5])<|.step (.ql .eql [1,1] 9 10)<|.ite 11
 (.step (.ci .i64 0)<|.ret [12])
 (.step (.ci .i64 1)<|.ret [12])))
 (.step (.mk [2,3])<|.step (.mk [4,5])<|.step (.ql .eql [1,1] 8 9)<|.ite 10
 (.step (.ci .i64 0)<|.ret [11])
 (.step (.ci .i64 1)<|.ret [11])))
def Xy:aH:=.fn [.ag 2] [.sc]<|.step (.cell 0 0)<|.step (.cell 1 0)<|.step (.slen 1)<|.step (.conv .u64 3)<|.step (.call 90 [4] 0)<|.step (.bin .add 5 1)<|.step (.slen 2)<|.step (.conv .u64 7)<|
 .step (.call 90 [8] 0)<|.step (.bin .add 6 9)<|.step (.bin .add 10 2)<|.ret [11]
def Wn:aH:=.fn [.sc] [.sc,.sc,.sc]<|.step (.slen 0)<|.step (.ci .i64 10)<|.step (.mm false 1 2)<|.step (.ci .u64 0)<|.step (.ci .i64 0)<|.step (.call 41 [0,4,3,5] 0)<|
 .step (.bin .eql 6 5)<|.ite 7
 (.step (.call 41 [0,4,3,5] 1)<|.step (.call 41 [0,4,3,5] 2)<|.step (.call 41 [0,4,3,5] 3)<|.ret [8,9,10])
 (.step (.call 41 [0,4,3,5] 1)<|.step (.slen 8)<|.step (.bin .geq 9 2)<|.ite 10
 (.step (.ci .i64 3)<|.ret [4,5,11])
 (.step (.ci .i64 1)<|.ret [4,5,11]))
def V7:aH:=.fn [.sc] [.sc]<|.step (.ci .i64 0)<|.step (.bin .eql 0 1)<|.ite 2
 (.ret [1])
 (.step (.ci .i64 1)<|.step (.bin .eql 0 3)<|.ite 4
 (.ret [1])
 (.step (.ci .i64 2)<|.step (.bin .eql 0 5)<|.ite 6
 (.ret [1])
 (.step (.ci .i64 3)<|.step (.bin .eql 0 7)<|.ite 8
 (.ret [3])
 (.step (.ci .i64 4)<|.step (.bin .eql 0 9)<|.ite 10
 (.ret [3])
 (.step (.ci .i64 5)<|.step (.bin .eql 0 11)<|.ite 12
 (.ret [3])
 (.step (.ci .i64 (-1))<|.ret [13]))))))
def Vq:aH:=.fn [.sc,.sc] [.sc]<|.step (.len 0)<|.step (.len 1)<|.step (.bin .neq 2 3)<|.ite 4
 (.step (.cb false)<|.ret [5])
 (.step (.ci .i64 0)<|.step (.call 107 [0,1,2,5] 0)<|.step (.bin .eql 6 5)<|.ite 7
 (.step (.cb false)<|.ret [8])
 (.step (.cb true)<|.ret [8]))
def Vx:aH:=.fn [.sc,.sc] [.sc]<|.step (.len 0)<|.step (.len 1)<|.step (.bin .neq 2 3)<|.ite 4
 (.step (.cb false)<|.ret [5])
 (.step (.ci .i64 0)<|.step (.call 113 [0,1,2,5] 0)<|.step (.bin .eql 6 5)<|.ite 7
 (.step (.cb false)<|.ret [8])
 (.step (.cb true)<|.ret [8]))
def Xn:aH:=.fn [.ag 24,.ag 24] [.sc]<|.step (.cell 0 0)<|.step (.cell 1 0)<|.step (.cell 2 0)<|.step (.cell 3 0)<|.step (.cell 4 0)<|.step (.cell 5 0)<|.step (.cell 6 0)<|
 .step (.cell 7 0)<|.step (.cell 8 0)<|.step (.cell 9 0)<|.step (.cell 10 0)<|.step (.cell 11 0)<|.step (.cell 12 0)<|.step (.cell 13 0)<|.step (.cell 14 0)<|.step (.cell 15 0)<|.step (.cell 16 0)<|
 .step (.cell 17 0)<|.step (.cell 18 0)<|.step (.cell 19 0)<|.step (.cell 20 0)<|.step (.cell 21 0)<|.step (.cell 22 0)<|.step (.cell 23 0)<|.step (.cell 0 1)<|.step (.cell 1 1)<|
 .step (.cell 2 1)<|.step (.cell 3 1)<|.step (.cell 4 1)<|.step (.cell 5 1)<|.step (.cell 6 1)<|.step (.cell 7 1)<|.step (.cell 8 1)<|.step (.cell 9 1)<|.step (.cell 10 1)<|.step (.cell 11 1)<|
 .step (.cell 12 1)<|.step (.cell 13 1)<|.step (.cell 14 1)<|.step (.cell 15 1)<|.step (.cell 16 1)<|.step (.cell 17 1)<|.step (.cell 18 1)<|.step (.cell 19 1)<|.step (.cell 20 1)<|
 .step (.cell 21 1)<|.step (.cell 22 1)<|.step (.cell 23 1)<|.step (.call 84 [] 0)<|.step (.len 50)<|.step (.ci .i64 0)<|.step (.call 85 [50,51,52,26,27,28,29,30,31,32,33,34,35,36,37,38,39,40,41,42,43,44,45,46,47,48,49,2,3,4,5,6,7,8,9,10,11,12,13,14,15,16,17,18,19,20,21,22,23,24,25] 0)<|
 .step (.bin .eql 53 52)<|.ite 54
 (.step (.cb false)<|.ret [55])
 (.step (.bin .neq 2 26)<|.ite 55
 (.step (.cb false)<|.ret [56])
 (.step (.len 23)<|.step (.len 47)<|.step (.bin .neq 56 57)<|.ite 58
 (.step (.cb false)<|.ret [59])
 (.step (.call 103 [24,48] 0)<|.step (.un .not 59)<|.ite 60
 (.step (.cb false)<|.ret [61])
 (.step (.call 106 [25,49] 0)<|.step (.un .not 61)<|.ite 62
 (.step (.cb false)<|.ret [63])
 (.step (.call 108 [56,52,26,27,28,29,30,31,32,33,34,35,36,37,38,39,40,41,42,43,44,45,46,47,48,49,2,3,4,5,6,7,8,9,10,11,12,13,14,15,16,17,18,19,20,21,22,23,24,25] 0)<|
 .step (.bin .eql 63 52)<|.ite 64
 (.step (.cb false)<|.ret [65])
 (.step (.cb true)<|.ret [65]))))))
def WG:aH:=.tree 3<|.step (.call 37 [0] 0)<|.step (.call 37 [0] 1)<|.step (.ci .i64 0)<|.step (.bin .neq 4 5)<|.ite 6
 (.step (.ml [])<|.step (.ci .u64 0)<|.ret [5,7,8,4,1,2])
 (.step (.call 39 [1,2] 0)<|.step (.call 39 [1,2] 1)<|.step (.call 39 [1,2] 2)<|.step (.call 39 [1,2] 3)<|.step (.call 39 [1,2] 4)<|.step (.bin .neq 9 5)<|.ite 12
 (.step (.ml [])<|.step (.ci .u64 0)<|.ret [5,13,14,9,10,11])
 (.step (.ci .u64 0)<|.step (.bin .eql 8 13)<|.ite 14
 (.step (.ml [])<|.step (.ci .i64 17)<|.ret [5,15,13,16,10,11])
 (.ret [5,3,8,5,10,11])))
def WB:aH:=.tree 4<|.ite 3
 (.step (.call 39 [0,1] 0)<|.step (.call 39 [0,1] 1)<|.step (.call 39 [0,1] 2)<|.step (.call 39 [0,1] 3)<|.step (.call 39 [0,1] 4)<|.step (.ci .i64 0)<|.step (.bin .neq 6 9)<|
 .ite 10
 (.step (.cs [])<|.ret [9,11,6,7,8])
 (.step (.ci .u64 0)<|.step (.bin .gtr 5 11)<|.ite 12
 (.step (.cs [])<|.step (.ci .i64 23)<|.ret [9,13,14,7,8])
 (.step (.call 39 [7,8] 0)<|.step (.call 39 [7,8] 1)<|.step (.call 39 [7,8] 2)<|.step (.call 39 [7,8] 3)<|.step (.call 39 [7,8] 4)<|.step (.bin .neq 15 9)<|.ite 18
 (.step (.cs [])<|.ret [9,19,15,16,17])
 (.step (.slen 16)<|.step (.bin .sub 19 17)<|.step (.conv .u64 20)<|.step (.bin .gtr 14 21)<|.ite 22
 (.step (.cs [])<|.step (.ci .i64 1)<|.ret [9,23,24,16,17])
 (.step (.conv .i64 14)<|.step (.bin .add 17 23)<|.step (.iC 16 17 24)<|.step (.cs [])<|.step (.iC 26 9 5)<|.step (.bin .add 27 25)<|.step (.un .not 3)<|.ite 29
 (.step (.bin .leq 28 26)<|.ite 30
 (.step (.ci .i64 7)<|.ret [9,26,31,16,24])
 (.step (.call 50 [26,28] 0)<|.step (.conv .i64 5)<|.step (.bin .gtr 31 32)<|.ite 33
 (.step (.ci .i64 23)<|.ret [9,26,34,16,24])
 (.ret [9,28,9,16,24])))
 (.step (.call 50 [26,28] 0)<|.step (.conv .i64 5)<|.step (.bin .gtr 30 31)<|.ite 32
 (.step (.ci .i64 23)<|.ret [9,26,33,16,24])
 (.ret [9,28,9,16,24])))))))
 (.step (.call 39 [0,1] 0)<|.step (.call 39 [0,1] 1)<|.step (.call 39 [0,1] 2)<|.step (.call 39 [0,1] 3)<|.step (.call 39 [0,1] 4)<|.step (.ci .i64 0)<|.step (.bin .neq 6 9)<|
 .ite 10
 (.step (.cs [])<|.ret [9,11,6,7,8])
 (.step (.slen 2)<|.step (.conv .u64 11)<|.step (.bin .gtr 5 12)<|.ite 13
 (.step (.cs [])<|.step (.ci .i64 23)<|.ret [9,14,15,7,8])
 (.step (.call 39 [7,8] 0)<|.step (.call 39 [7,8] 1)<|.step (.call 39 [7,8] 2)<|.step (.call 39 [7,8] 3)<|.step (.call 39 [7,8] 4)<|.step (.bin .neq 16 9)<|.ite 19
 (.step (.cs [])<|.ret [9,20,16,17,18])
 (.step (.slen 17)<|.step (.bin .sub 20 18)<|.step (.conv .u64 21)<|.step (.bin .gtr 15 22)<|.ite 23
 (.step (.cs [])<|.step (.ci .i64 1)<|.ret [9,24,25,17,18])
 (.step (.conv .i64 15)<|.step (.bin .add 18 24)<|.step (.iC 17 18 25)<|.step (.iC 2 9 5)<|.step (.bin .add 27 26)<|.step (.un .not 3)<|.ite 29
 (.step (.bin .leq 28 2)<|.ite 30
 (.step (.cs [])<|.step (.ci .i64 7)<|.ret [9,31,32,17,25])
 (.step (.call 50 [2,28] 0)<|.step (.conv .i64 5)<|.step (.bin .gtr 31 32)<|.ite 33
 (.step (.cs [])<|.step (.ci .i64 23)<|.ret [9,34,35,17,25])
 (.ret [9,28,9,17,25])))
 (.step (.call 50 [2,28] 0)<|.step (.conv .i64 5)<|.step (.bin .gtr 30 31)<|.ite 32
 (.step (.cs [])<|.step (.ci .i64 23)<|.ret [9,33,34,17,25])
 (.ret [9,28,9,17,25])))))))
def Wy:aH:=.tree 2<|.step (.call 39 [0,1] 0)<|.step (.call 39 [0,1] 1)<|.step (.call 39 [0,1] 2)<|.step (.call 39 [0,1] 3)<|.step (.call 39 [0,1] 4)<|.step (.ci .i64 0)<|
 .step (.bin .neq 4 7)<|.ite 8
 (.step (.ml [])<|.ret [7,9,4,5,6])
 (.step (.ci .u64 256)<|.step (.bin .gtr 3 9)<|.ite 10
 (.step (.ml [])<|.step (.ci .i64 13)<|.ret [7,11,12,5,6])
 (.step (.ml [])<|.step (.ci .u64 0)<|.step (.mk [11,12])<|.step (.rep 2 32 13 7 3)<|.step (.conv .i64 3)<|.step (.cs [])<|.step (.call 48 [14,16,15,7,5,6] 0)<|.step (.bin .eql 17 7)<|
 .ite 18
 (.step (.call 48 [14,16,15,7,5,6] 1)<|.step (.call 48 [14,16,15,7,5,6] 2)<|.step (.call 48 [14,16,15,7,5,6] 3)<|.ret [7,11,19,20,21])
 (.step (.call 48 [14,16,15,7,5,6] 1)<|.step (.call 48 [14,16,15,7,5,6] 2)<|.step (.call 48 [14,16,15,7,5,6] 3)<|.ret [7,19,7,20,21])))
def Wu:aH:=.tree 2<|.step (.call 39 [0,1] 0)<|.step (.call 39 [0,1] 1)<|.step (.call 39 [0,1] 2)<|.step (.call 39 [0,1] 3)<|.step (.call 39 [0,1] 4)<|.step (.ci .i64 0)<|
 .step (.bin .neq 4 7)<|.ite 8
 (.step (.cs [])<|.ret [7,9,4,5,6])
 (.step (.slen 5)<|.step (.bin .sub 9 6)<|.step (.conv .u64 10)<|.step (.bin .gtr 3 11)<|.ite 12
 (.step (.cs [])<|.step (.ci .i64 1)<|.ret [7,13,14,5,6])
 (.step (.conv .i64 3)<|.step (.bin .add 6 13)<|.step (.iC 5 6 14)<|.ret [7,15,7,5,14]))
def Ws:aH:=.tree 2<|.step (.call 44 [0,1] 0)<|.step (.call 44 [0,1] 1)<|.step (.call 44 [0,1] 2)<|.step (.call 44 [0,1] 3)<|.step (.call 44 [0,1] 4)<|.step (.ci .i64 0)<|
 .step (.bin .neq 4 7)<|.ite 8
 (.step (.cs [])<|.ret [7,9,9,4,5,6])
 (.step (.call 44 [5,6] 0)<|.step (.call 44 [5,6] 1)<|.step (.call 44 [5,6] 2)<|.step (.call 44 [5,6] 3)<|.step (.call 44 [5,6] 4)<|.step (.bin .neq 11 7)<|.ite 14
 (.step (.cs [])<|.ret [7,15,15,11,12,13])
 (.step (.mk [3,10])<|.step (.call 45 [15] 0)<|.step (.bin .neq 16 7)<|.ite 17
 (.step (.cs [])<|.ret [7,18,18,16,12,13])
 (.ret [7,3,10,7,12,13])))
def Wl:aH:=.tree 2<|.step (.slen 0)<|.step (.iC 0 1 2)<|.step (.call 40 [3] 0)<|.step (.call 40 [3] 1)<|.step (.call 40 [3] 2)<|.step (.ci .i64 0)<|.step (.bin .neq 6 7)<|
 .ite 8
 (.step (.ci .u64 0)<|.ret [7,9,6,0,1])
 (.step (.conv .u64 5)<|.step (.bin .sub 2 1)<|.step (.conv .u64 10)<|.step (.bin .gtr 9 11)<|.ite 12
 (.ret [7,4,7,0,1])
 (.step (.conv .i64 9)<|.step (.bin .add 1 13)<|.step (.iC 0 1 14)<|.ret [7,4,7,0,14]))
def Wj:aH:=.tree 2<|.step (.call 39 [0,1] 0)<|.step (.call 39 [0,1] 1)<|.step (.call 39 [0,1] 2)<|.step (.call 39 [0,1] 3)<|.step (.call 39 [0,1] 4)<|.step (.ci .i64 0)<|
 .step (.bin .neq 4 7)<|.ite 8
 (.step (.ml [])<|.ret [7,9,4,5,6])
 (.step (.ci .u64 0)<|.step (.bin .eql 3 9)<|.ite 10
 (.step (.ml [])<|.step (.ci .i64 12)<|.ret [7,11,12,5,6])
 (.step (.ci .u64 16)<|.step (.bin .gtr 3 11)<|.ite 12
 (.step (.ml [])<|.step (.ci .i64 13)<|.ret [7,13,14,5,6])
 (.step (.cs [])<|.step (.mk [13,13])<|.step (.rep 2 32 14 7 3)<|.step (.conv .i64 3)<|.step (.call 42 [15,16,7,5,6] 0)<|.step (.bin .eql 17 7)<|.ite 18
 (.step (.call 42 [15,16,7,5,6] 1)<|.step (.call 42 [15,16,7,5,6] 2)<|.step (.call 42 [15,16,7,5,6] 3)<|.step (.ml [])<|.ret [7,22,19,20,21])
 (.step (.call 42 [15,16,7,5,6] 1)<|.step (.call 42 [15,16,7,5,6] 2)<|.step (.call 42 [15,16,7,5,6] 3)<|.ret [7,19,7,20,21]))))
def V6:aH:=.tree 30<|.step (.cs [114,101,109,97,105,110,105,110,103])<|.step (.bin .eql 0 30)<|.ite 31
 (.step (.ci .i64 2)<|.step (.call 33 [32] 0)<|.step (.bin .neq 2 33)<|.ite 34
 (.step (.ci .i64 8)<|.step (.ci .i64 0)<|.ret [36,35,7,8,9,10,11,12,13,14,15,16,17,18,19,20,21,22,23,24,25,26,27,28])
 (.step (.ci .i64 0)<|.step (.bin .eql 2 35)<|.ite 36
 (.step (.ci .u64 0)<|.step (.bin .eql 3 37)<|.ite 38
 (.step (.ci .i64 17)<|.ret [35,39,7,8,9,10,11,12,13,14,15,16,17,18,19,20,21,22,23,24,25,26,27,28])
 (.step (.ci .i64 1)<|.step (.bin .eql 2 39)<|.step (.ci .u64 1)<|.step (.bin .shr 3 41)<|.step (.conv .i64 42)<|.step (.bin .and 3 41)<|.step (.conv .i64 44)<|.step (.un .neg 45)<|
 .step (.bin .xor 43 46)<|.ret [35,35,7,8,9,10,11,12,13,14,15,16,17,18,19,20,21,47,23,24,25,26,27,28]))
 (.step (.ci .i64 1)<|.step (.bin .eql 2 37)<|.ite 38
 (.step (.cs [])<|.step (.bin .eql 4 39)<|.ite 40
 (.step (.ci .i64 17)<|.ret [35,41,7,8,9,10,11,12,13,14,15,16,17,18,19,20,21,22,23,24,25,26,27,28])
 (.step (.ci .u64 1)<|.step (.bin .shr 3 41)<|.step (.conv .i64 42)<|.step (.bin .and 3 41)<|.step (.conv .i64 44)<|.step (.un .neg 45)<|.step (.bin .xor 43 46)<|.ret [35,35,7,8,9,10,11,12,13,14,15,16,17,18,19,20,21,47,23,24,25,26,27,28]))
 (.step (.ci .u64 1)<|.step (.bin .shr 3 39)<|.step (.conv .i64 40)<|.step (.bin .and 3 39)<|.step (.conv .i64 42)<|.step (.un .neg 43)<|.step (.bin .xor 41 44)<|.ret [35,35,7,8,9,10,11,12,13,14,15,16,17,18,19,20,21,45,23,24,25,26,27,28]))))
 (.step (.cs [97,108,108,111,119,101,100])<|.step (.bin .eql 0 32)<|.ite 33
 (.step (.ci .i64 1)<|.step (.call 33 [34] 0)<|.step (.bin .neq 2 35)<|.ite 36
 (.step (.ci .i64 8)<|.step (.ci .i64 0)<|.ret [38,37,7,8,9,10,11,12,13,14,15,16,17,18,19,20,21,22,23,24,25,26,27,28])
 (.step (.ci .i64 0)<|.step (.bin .eql 2 37)<|.ite 38
 (.step (.ci .u64 0)<|.step (.bin .eql 3 39)<|.ite 40
 (.step (.ci .i64 17)<|.ret [37,41,7,8,9,10,11,12,13,14,15,16,17,18,19,20,21,22,23,24,25,26,27,28])
 (.step (.bin .eql 2 34)<|.step (.ci .u64 1)<|.step (.bin .neq 3 42)<|.ite 43
 (.step (.ci .i64 18)<|.ret [37,44,7,8,9,10,11,12,13,14,15,16,17,18,19,20,21,22,23,24,25,26,27,28])
 (.step (.cb true)<|.ret [37,37,7,8,9,10,11,12,13,14,15,16,17,18,19,20,21,22,44,24,25,26,27,28])))
 (.step (.bin .eql 2 34)<|.ite 39
 (.step (.cs [])<|.step (.bin .eql 4 40)<|.ite 41
 (.step (.ci .i64 17)<|.ret [37,42,7,8,9,10,11,12,13,14,15,16,17,18,19,20,21,22,23,24,25,26,27,28])
 (.step (.ci .u64 1)<|.step (.bin .neq 3 42)<|.ite 43
 (.step (.ci .i64 18)<|.ret [37,44,7,8,9,10,11,12,13,14,15,16,17,18,19,20,21,22,23,24,25,26,27,28])
 (.step (.cb true)<|.ret [37,37,7,8,9,10,11,12,13,14,15,16,17,18,19,20,21,22,44,24,25,26,27,28])))
 (.step (.ci .u64 1)<|.step (.bin .neq 3 40)<|.ite 41
 (.step (.ci .i64 18)<|.ret [37,42,7,8,9,10,11,12,13,14,15,16,17,18,19,20,21,22,23,24,25,26,27,28])
 (.step (.cb true)<|.ret [37,37,7,8,9,10,11,12,13,14,15,16,17,18,19,20,21,22,42,24,25,26,27,28])))))
 (.step (.cs [110,97,109,101])<|.step (.bin .eql 0 34)<|.ite 35
 (.step (.ci .i64 3)<|.step (.call 33 [36] 0)<|.step (.bin .neq 2 37)<|.ite 38
 (.step (.ci .i64 8)<|.step (.ci .i64 0)<|.ret [40,39,7,8,9,10,11,12,13,14,15,16,17,18,19,20,21,22,23,24,25,26,27,28])
 (.step (.ci .i64 0)<|.step (.bin .eql 2 39)<|.ite 40
 (.step (.ci .u64 0)<|.step (.bin .eql 3 41)<|.ite 42
 (.step (.ci .i64 17)<|.ret [39,43,7,8,9,10,11,12,13,14,15,16,17,18,19,20,21,22,23,24,25,26,27,28])
 (.step (.ci .i64 1)<|.step (.bin .eql 2 43)<|.step (.ci .i64 256)<|.step (.call 34 [4,39,45] 0)<|.ret [39,46,7,8,9,10,11,12,13,14,15,16,17,18,19,20,21,22,23,4,25,26,27,28]))
 (.step (.ci .i64 1)<|.step (.bin .eql 2 41)<|.ite 42
 (.step (.cs [])<|.step (.bin .eql 4 43)<|.ite 44
 (.step (.ci .i64 17)<|.ret [39,45,7,8,9,10,11,12,13,14,15,16,17,18,19,20,21,22,23,24,25,26,27,28])
 (.step (.ci .i64 256)<|.step (.call 34 [4,39,45] 0)<|.ret [39,46,7,8,9,10,11,12,13,14,15,16,17,18,19,20,21,22,23,4,25,26,27,28]))
 (.step (.ci .i64 256)<|.step (.call 34 [4,39,43] 0)<|.ret [39,44,7,8,9,10,11,12,13,14,15,16,17,18,19,20,21,22,23,4,25,26,27,28]))))
 (.step (.cs [114,101,103,105,111,110])<|.step (.bin .eql 0 36)<|.ite 37
 (.step (.ci .i64 3)<|.step (.call 33 [38] 0)<|.step (.bin .neq 2 39)<|.ite 40
 (.step (.ci .i64 8)<|.step (.ci .i64 0)<|.ret [42,41,7,8,9,10,11,12,13,14,15,16,17,18,19,20,21,22,23,24,25,26,27,28])
 (.step (.ci .i64 0)<|.step (.bin .eql 2 41)<|.ite 42
 (.step (.ci .u64 0)<|.step (.bin .eql 3 43)<|.ite 44
 (.step (.ci .i64 17)<|.ret [41,45,7,8,9,10,11,12,13,14,15,16,17,18,19,20,21,22,23,24,25,26,27,28])
 (.step (.ci .i64 1)<|.step (.bin .eql 2 45)<|.step (.ci .i64 256)<|.step (.call 34 [4,41,47] 0)<|.ret [41,48,7,8,9,10,11,12,13,14,15,16,17,18,19,20,21,22,23,24,4,26,27,28]))
 (.step (.ci .i64 1)<|.step (.bin .eql 2 43)<|.ite 44
 (.step (.cs [])<|.step (.bin .eql 4 45)<|.ite 46
 (.step (.ci .i64 17)<|.ret [41,47,7,8,9,10,11,12,13,14,15,16,17,18,19,20,21,22,23,24,25,26,27,28])
 (.step (.ci .i64 256)<|.step (.call 34 [4,41,47] 0)<|.ret [41,48,7,8,9,10,11,12,13,14,15,16,17,18,19,20,21,22,23,24,4,26,27,28]))
 (.step (.ci .i64 256)<|.step (.call 34 [4,41,45] 0)<|.ret [41,46,7,8,9,10,11,12,13,14,15,16,17,18,19,20,21,22,23,24,4,26,27,28]))))
 (.step (.cs [110,111,116,101])<|.step (.bin .eql 0 38)<|.ite 39
 (.step (.ci .i64 3)<|.step (.call 33 [40] 0)<|.step (.bin .neq 2 41)<|.ite 42
 (.step (.ci .i64 8)<|.step (.ci .i64 0)<|.ret [44,43,7,8,9,10,11,12,13,14,15,16,17,18,19,20,21,22,23,24,25,26,27,28])
 (.step (.ci .i64 0)<|.step (.bin .eql 2 43)<|.ite 44
 (.step (.ci .u64 0)<|.step (.bin .eql 3 45)<|.ite 46
 (.step (.ci .i64 17)<|.ret [43,47,7,8,9,10,11,12,13,14,15,16,17,18,19,20,21,22,23,24,25,26,27,28])
 (.step (.ci .i64 1)<|.step (.bin .eql 2 47)<|.step (.ci .i64 256)<|.step (.call 34 [4,43,49] 0)<|.ret [43,50,7,8,9,10,11,12,13,14,15,16,17,18,19,20,21,22,23,24,25,4,27,28]))
 (.step (.ci .i64 1)<|.step (.bin .eql 2 45)<|.ite 46
 (.step (.cs [])<|.step (.bin .eql 4 47)<|.ite 48
 (.step (.ci .i64 17)<|.ret [43,49,7,8,9,10,11,12,13,14,15,16,17,18,19,20,21,22,23,24,25,26,27,28])
 (.step (.ci .i64 256)<|.step (.call 34 [4,43,49] 0)<|.ret [43,50,7,8,9,10,11,12,13,14,15,16,17,18,19,20,21,22,23,24,25,4,27,28]))
 (.step (.ci .i64 256)<|.step (.call 34 [4,43,47] 0)<|.ret [43,48,7,8,9,10,11,12,13,14,15,16,17,18,19,20,21,22,23,24,25,4,27,28]))))
 (.step (.cs [100,101,115,99,114])<|.step (.bin .eql 0 40)<|.ite 41
 (.step (.ci .i64 4)<|.step (.call 33 [42] 0)<|.step (.bin .neq 2 43)<|.ite 44
 (.step (.ci .i64 8)<|.step (.ci .i64 0)<|.ret [46,45,7,8,9,10,11,12,13,14,15,16,17,18,19,20,21,22,23,24,25,26,27,28])
 (.step (.ci .i64 0)<|.step (.bin .eql 2 45)<|.ite 46
 (.step (.ci .u64 0)<|.step (.bin .eql 3 47)<|.ite 48
 (.step (.ci .i64 17)<|.ret [45,49,7,8,9,10,11,12,13,14,15,16,17,18,19,20,21,22,23,24,25,26,27,28])
 (.step (.ci .i64 1)<|.step (.bin .eql 2 49)<|.step (.call 37 [4] 0)<|.step (.call 37 [4] 1)<|.ret [45,52,7,8,9,10,11,12,13,14,15,16,17,18,19,20,21,22,23,24,25,26,51,28]))
 (.step (.ci .i64 1)<|.step (.bin .eql 2 47)<|.ite 48
 (.step (.cs [])<|.step (.bin .eql 4 49)<|.ite 50
 (.step (.ci .i64 17)<|.ret [45,51,7,8,9,10,11,12,13,14,15,16,17,18,19,20,21,22,23,24,25,26,27,28])
 (.step (.call 37 [4] 0)<|.step (.call 37 [4] 1)<|.ret [45,52,7,8,9,10,11,12,13,14,15,16,17,18,19,20,21,22,23,24,25,26,51,28]))
 (.step (.call 37 [4] 0)<|.step (.call 37 [4] 1)<|.ret [45,50,7,8,9,10,11,12,13,14,15,16,17,18,19,20,21,22,23,24,25,26,49,28]))))
 (.step (.cs [116,97,98,108,101])<|.step (.bin .eql 0 42)<|.ite 43
 (.step (.ci .i64 5)<|.step (.call 33 [44] 0)<|.step (.bin .neq 2 45)<|.ite 46
 (.step (.ci .i64 8)<|.step (.ci .i64 0)<|.ret [48,47,7,8,9,10,11,12,13,14,15,16,17,18,19,20,21,22,23,24,25,26,27,28])
 (.step (.ci .i64 0)<|.step (.bin .eql 2 47)<|.ite 48
 (.step (.ci .u64 0)<|.step (.bin .eql 3 49)<|.ite 50
 (.step (.ci .i64 17)<|.ret [47,51,7,8,9,10,11,12,13,14,15,16,17,18,19,20,21,22,23,24,25,26,27,28])
 (.step (.ci .i64 1)<|.step (.bin .eql 2 51)<|.step (.call 46 [4] 0)<|.step (.call 46 [4] 1)<|.step (.bin .eql 54 47)<|.ite 55
 (.step (.len 53)<|.step (.bin .eql 56 47)<|.ite 57
 (.step (.ci .i64 17)<|.ret [47,58,7,8,9,10,11,12,13,14,15,16,17,18,19,20,21,22,23,24,25,26,27,53])
 (.ret [47,54,7,8,9,10,11,12,13,14,15,16,17,18,19,20,21,22,23,24,25,26,27,53]))
 (.ret [47,54,7,8,9,10,11,12,13,14,15,16,17,18,19,20,21,22,23,24,25,26,27,53])))
 (.step (.ci .i64 1)<|.step (.bin .eql 2 49)<|.ite 50
 (.step (.cs [])<|.step (.bin .eql 4 51)<|.ite 52
 (.step (.ci .i64 17)<|.ret [47,53,7,8,9,10,11,12,13,14,15,16,17,18,19,20,21,22,23,24,25,26,27,28])
 (.step (.call 46 [4] 0)<|.step (.call 46 [4] 1)<|.step (.bin .eql 54 47)<|.ite 55
 (.step (.len 53)<|.step (.bin .eql 56 47)<|.ite 57
 (.step (.ci .i64 17)<|.ret [47,58,7,8,9,10,11,12,13,14,15,16,17,18,19,20,21,22,23,24,25,26,27,53])
 (.ret [47,54,7,8,9,10,11,12,13,14,15,16,17,18,19,20,21,22,23,24,25,26,27,53]))
 (.ret [47,54,7,8,9,10,11,12,13,14,15,16,17,18,19,20,21,22,23,24,25,26,27,53])))
 (.step (.call 46 [4] 0)<|.step (.call 46 [4] 1)<|.step (.bin .eql 52 47)<|.ite 53
 (.step (.len 51)<|.step (.bin .eql 54 47)<|.ite 55
 (.step (.ci .i64 17)<|.ret [47,56,7,8,9,10,11,12,13,14,15,16,17,18,19,20,21,22,23,24,25,26,27,51])
 (.ret [47,52,7,8,9,10,11,12,13,14,15,16,17,18,19,20,21,22,23,24,25,26,27,51]))
 (.ret [47,52,7,8,9,10,11,12,13,14,15,16,17,18,19,20,21,22,23,24,25,26,27,51])))))
 (.step (.cs [105,100])<|.step (.bin .eql 0 44)<|.ite 45
 (.step (.ci .i64 0)<|.step (.call 33 [46] 0)<|.step (.bin .neq 2 47)<|.ite 48
 (.step (.ci .i64 8)<|.ret [46,49,7,8,9,10,11,12,13,14,15,16,17,18,19,20,21,22,23,24,25,26,27,28])
 (.step (.bin .eql 2 46)<|.ite 49
 (.step (.ci .u64 0)<|.step (.bin .eql 3 50)<|.ite 51
 (.step (.ci .i64 17)<|.ret [46,52,7,8,9,10,11,12,13,14,15,16,17,18,19,20,21,22,23,24,25,26,27,28])
 (.step (.ci .i64 1)<|.step (.bin .eql 2 52)<|.ret [46,46,3,8,9,10,11,12,13,14,15,16,17,18,19,20,21,22,23,24,25,26,27,28]))
 (.step (.ci .i64 1)<|.step (.bin .eql 2 50)<|.ite 51
 (.step (.cs [])<|.step (.bin .eql 4 52)<|.ite 53
 (.step (.ci .i64 17)<|.ret [46,54,7,8,9,10,11,12,13,14,15,16,17,18,19,20,21,22,23,24,25,26,27,28])
 (.ret [46,46,3,8,9,10,11,12,13,14,15,16,17,18,19,20,21,22,23,24,25,26,27,28]))
 (.ret [46,46,3,8,9,10,11,12,13,14,15,16,17,18,19,20,21,22,23,24,25,26,27,28]))))
 (.step (.cs [109,105,110])<|.step (.bin .eql 0 46)<|.ite 47
 (.step (.ci .i64 0)<|.step (.call 33 [48] 0)<|.step (.bin .neq 2 49)<|.ite 50
 (.step (.ci .i64 8)<|.ret [48,51,7,8,9,10,11,12,13,14,15,16,17,18,19,20,21,22,23,24,25,26,27,28])
 (.step (.bin .eql 2 48)<|.ite 51
 (.step (.ci .u64 0)<|.step (.bin .eql 3 52)<|.ite 53
 (.step (.ci .i64 17)<|.ret [48,54,7,8,9,10,11,12,13,14,15,16,17,18,19,20,21,22,23,24,25,26,27,28])
 (.step (.ci .i64 1)<|.step (.bin .eql 2 54)<|.ret [48,48,7,3,9,10,11,12,13,14,15,16,17,18,19,20,21,22,23,24,25,26,27,28]))
 (.step (.ci .i64 1)<|.step (.bin .eql 2 52)<|.ite 53
 (.step (.cs [])<|.step (.bin .eql 4 54)<|.ite 55
 (.step (.ci .i64 17)<|.ret [48,56,7,8,9,10,11,12,13,14,15,16,17,18,19,20,21,22,23,24,25,26,27,28])
 (.ret [48,48,7,3,9,10,11,12,13,14,15,16,17,18,19,20,21,22,23,24,25,26,27,28]))
 (.ret [48,48,7,3,9,10,11,12,13,14,15,16,17,18,19,20,21,22,23,24,25,26,27,28]))))
 (.step (.cs [109,97,120])<|.step (.bin .eql 0 48)<|.ite 49
 (.step (.ci .i64 0)<|.step (.call 33 [50] 0)<|.step (.bin .neq 2 51)<|.ite 52
 (.step (.ci .i64 8)<|.ret [50,53,7,8,9,10,11,12,13,14,15,16,17,18,19,20,21,22,23,24,25,26,27,28])
 (.step (.bin .eql 2 50)<|.ite 53
 (.step (.ci .u64 0)<|.step (.bin .eql 3 54)<|.ite 55
 (.step (.ci .i64 17)<|.ret [50,56,7,8,9,10,11,12,13,14,15,16,17,18,19,20,21,22,23,24,25,26,27,28])
 (.step (.ci .i64 1)<|.step (.bin .eql 2 56)<|.ret [50,50,7,8,3,10,11,12,13,14,15,16,17,18,19,20,21,22,23,24,25,26,27,28]))
 (.step (.ci .i64 1)<|.step (.bin .eql 2 54)<|.ite 55
 (.step (.cs [])<|.step (.bin .eql 4 56)<|.ite 57
 (.step (.ci .i64 17)<|.ret [50,58,7,8,9,10,11,12,13,14,15,16,17,18,19,20,21,22,23,24,25,26,27,28])
 (.ret [50,50,7,8,3,10,11,12,13,14,15,16,17,18,19,20,21,22,23,24,25,26,27,28]))
 (.ret [50,50,7,8,3,10,11,12,13,14,15,16,17,18,19,20,21,22,23,24,25,26,27,28]))))
 (.step (.cs [99,104,111,115,101,110])<|.step (.bin .eql 0 50)<|.ite 51
 (.step (.ci .i64 0)<|.step (.call 33 [52] 0)<|.step (.bin .neq 2 53)<|.ite 54
 (.step (.ci .i64 8)<|.ret [52,55,7,8,9,10,11,12,13,14,15,16,17,18,19,20,21,22,23,24,25,26,27,28])
 (.step (.bin .eql 2 52)<|.ite 55
 (.step (.ci .u64 0)<|.step (.bin .eql 3 56)<|.ite 57
 (.step (.ci .i64 17)<|.ret [52,58,7,8,9,10,11,12,13,14,15,16,17,18,19,20,21,22,23,24,25,26,27,28])
 (.step (.ci .i64 1)<|.step (.bin .eql 2 58)<|.ret [52,52,7,8,9,3,11,12,13,14,15,16,17,18,19,20,21,22,23,24,25,26,27,28]))
 (.step (.ci .i64 1)<|.step (.bin .eql 2 56)<|.ite 57
 (.step (.cs [])<|.step (.bin .eql 4 58)<|.ite 59
 (.step (.ci .i64 17)<|.ret [52,60,7,8,9,10,11,12,13,14,15,16,17,18,19,20,21,22,23,24,25,26,27,28])
 (.ret [52,52,7,8,9,3,11,12,13,14,15,16,17,18,19,20,21,22,23,24,25,26,27,28]))
 (.ret [52,52,7,8,9,3,11,12,13,14,15,16,17,18,19,20,21,22,23,24,25,26,27,28]))))
 (.step (.cs [102,108,97,103,115])<|.step (.bin .eql 0 52)<|.ite 53
 (.step (.ci .i64 0)<|.step (.call 33 [54] 0)<|.step (.bin .neq 2 55)<|.ite 56
 (.step (.ci .i64 8)<|.ret [54,57,7,8,9,10,11,12,13,14,15,16,17,18,19,20,21,22,23,24,25,26,27,28])
 (.step (.bin .eql 2 54)<|.ite 57
 (.step (.ci .u64 0)<|.step (.bin .eql 3 58)<|.ite 59
 (.step (.ci .i64 17)<|.ret [54,60,7,8,9,10,11,12,13,14,15,16,17,18,19,20,21,22,23,24,25,26,27,28])
 (.step (.ci .i64 1)<|.step (.bin .eql 2 60)<|.ret [54,54,7,8,9,10,3,12,13,14,15,16,17,18,19,20,21,22,23,24,25,26,27,28]))
 (.step (.ci .i64 1)<|.step (.bin .eql 2 58)<|.ite 59
 (.step (.cs [])<|.step (.bin .eql 4 60)<|.ite 61
 (.step (.ci .i64 17)<|.ret [54,62,7,8,9,10,11,12,13,14,15,16,17,18,19,20,21,22,23,24,25,26,27,28])
 (.ret [54,54,7,8,9,10,3,12,13,14,15,16,17,18,19,20,21,22,23,24,25,26,27,28]))
 (.ret [54,54,7,8,9,10,3,12,13,14,15,16,17,18,19,20,21,22,23,24,25,26,27,28]))))
 (.step (.cs [99,111,115,116])<|.step (.bin .eql 0 54)<|.ite 55
 (.step (.ci .i64 0)<|.step (.call 33 [56] 0)<|.step (.bin .neq 2 57)<|.ite 58
 (.step (.ci .i64 8)<|.ret [56,59,7,8,9,10,11,12,13,14,15,16,17,18,19,20,21,22,23,24,25,26,27,28])
 (.step (.bin .eql 2 56)<|.ite 59
 (.step (.ci .u64 0)<|.step (.bin .eql 3 60)<|.ite 61
 (.step (.ci .i64 17)<|.ret [56,62,7,8,9,10,11,12,13,14,15,16,17,18,19,20,21,22,23,24,25,26,27,28])
 (.step (.ci .i64 1)<|.step (.bin .eql 2 62)<|.ret [56,56,7,8,9,10,11,3,13,14,15,16,17,18,19,20,21,22,23,24,25,26,27,28]))
 (.step (.ci .i64 1)<|.step (.bin .eql 2 60)<|.ite 61
 (.step (.cs [])<|.step (.bin .eql 4 62)<|.ite 63
 (.step (.ci .i64 17)<|.ret [56,64,7,8,9,10,11,12,13,14,15,16,17,18,19,20,21,22,23,24,25,26,27,28])
 (.ret [56,56,7,8,9,10,11,3,13,14,15,16,17,18,19,20,21,22,23,24,25,26,27,28]))
 (.ret [56,56,7,8,9,10,11,3,13,14,15,16,17,18,19,20,21,22,23,24,25,26,27,28]))))
 (.step (.cs [112,114,105,111,114,105,116,121])<|.step (.bin .eql 0 56)<|.ite 57
 (.step (.ci .i64 0)<|.step (.call 33 [58] 0)<|.step (.bin .neq 2 59)<|.ite 60
 (.step (.ci .i64 8)<|.ret [58,61,7,8,9,10,11,12,13,14,15,16,17,18,19,20,21,22,23,24,25,26,27,28])
 (.step (.bin .eql 2 58)<|.ite 61
 (.step (.ci .u64 0)<|.step (.bin .eql 3 62)<|.ite 63
 (.step (.ci .i64 17)<|.ret [58,64,7,8,9,10,11,12,13,14,15,16,17,18,19,20,21,22,23,24,25,26,27,28])
 (.step (.ci .i64 1)<|.step (.bin .eql 2 64)<|.ret [58,58,7,8,9,10,11,12,3,14,15,16,17,18,19,20,21,22,23,24,25,26,27,28]))
 (.step (.ci .i64 1)<|.step (.bin .eql 2 62)<|.ite 63
 (.step (.cs [])<|.step (.bin .eql 4 64)<|.ite 65
 (.step (.ci .i64 17)<|.ret [58,66,7,8,9,10,11,12,13,14,15,16,17,18,19,20,21,22,23,24,25,26,27,28])
 (.ret [58,58,7,8,9,10,11,12,3,14,15,16,17,18,19,20,21,22,23,24,25,26,27,28]))
 (.ret [58,58,7,8,9,10,11,12,3,14,15,16,17,18,19,20,21,22,23,24,25,26,27,28]))))
 (.step (.cs [100,101,97,100,108,105,110,101])<|.step (.bin .eql 0 58)<|.ite 59
 (.step (.ci .i64 0)<|.step (.call 33 [60] 0)<|.step (.bin .neq 2 61)<|.ite 62
 (.step (.ci .i64 8)<|.ret [60,63,7,8,9,10,11,12,13,14,15,16,17,18,19,20,21,22,23,24,25,26,27,28])
 (.step (.bin .eql 2 60)<|.ite 63
 (.step (.ci .u64 0)<|.step (.bin .eql 3 64)<|.ite 65
 (.step (.ci .i64 17)<|.ret [60,66,7,8,9,10,11,12,13,14,15,16,17,18,19,20,21,22,23,24,25,26,27,28])
 (.step (.ci .i64 1)<|.step (.bin .eql 2 66)<|.ret [60,60,7,8,9,10,11,12,13,3,15,16,17,18,19,20,21,22,23,24,25,26,27,28]))
 (.step (.ci .i64 1)<|.step (.bin .eql 2 64)<|.ite 65
 (.step (.cs [])<|.step (.bin .eql 4 66)<|.ite 67
 (.step (.ci .i64 17)<|.ret [60,68,7,8,9,10,11,12,13,14,15,16,17,18,19,20,21,22,23,24,25,26,27,28])
 (.ret [60,60,7,8,9,10,11,12,13,3,15,16,17,18,19,20,21,22,23,24,25,26,27,28]))
 (.ret [60,60,7,8,9,10,11,12,13,3,15,16,17,18,19,20,21,22,23,24,25,26,27,28]))))
 (.step (.cs [114,101,116,114,121])<|.step (.bin .eql 0 60)<|.ite 61
 (.step (.ci .i64 0)<|.step (.call 33 [62] 0)<|.step (.bin .neq 2 63)<|.ite 64
 (.step (.ci .i64 8)<|.ret [62,65,7,8,9,10,11,12,13,14,15,16,17,18,19,20,21,22,23,24,25,26,27,28])
 (.step (.bin .eql 2 62)<|.ite 65
 (.step (.ci .u64 0)<|.step (.bin .eql 3 66)<|.ite 67
 (.step (.ci .i64 17)<|.ret [62,68,7,8,9,10,11,12,13,14,15,16,17,18,19,20,21,22,23,24,25,26,27,28])
 (.step (.ci .i64 1)<|.step (.bin .eql 2 68)<|.ret [62,62,7,8,9,10,11,12,13,14,3,16,17,18,19,20,21,22,23,24,25,26,27,28]))
 (.step (.ci .i64 1)<|.step (.bin .eql 2 66)<|.ite 67
 (.step (.cs [])<|.step (.bin .eql 4 68)<|.ite 69
 (.step (.ci .i64 17)<|.ret [62,70,7,8,9,10,11,12,13,14,15,16,17,18,19,20,21,22,23,24,25,26,27,28])
 (.ret [62,62,7,8,9,10,11,12,13,14,3,16,17,18,19,20,21,22,23,24,25,26,27,28]))
 (.ret [62,62,7,8,9,10,11,12,13,14,3,16,17,18,19,20,21,22,23,24,25,26,27,28]))))
 (.step (.cs [101,112,111,99,104])<|.step (.bin .eql 0 62)<|.ite 63
 (.step (.ci .i64 0)<|.step (.call 33 [64] 0)<|.step (.bin .neq 2 65)<|.ite 66
 (.step (.ci .i64 8)<|.ret [64,67,7,8,9,10,11,12,13,14,15,16,17,18,19,20,21,22,23,24,25,26,27,28])
 (.step (.bin .eql 2 64)<|.ite 67
 (.step (.ci .u64 0)<|.step (.bin .eql 3 68)<|.ite 69
 (.step (.ci .i64 17)<|.ret [64,70,7,8,9,10,11,12,13,14,15,16,17,18,19,20,21,22,23,24,25,26,27,28])
 (.step (.ci .i64 1)<|.step (.bin .eql 2 70)<|.ret [64,64,7,8,9,10,11,12,13,14,15,3,17,18,19,20,21,22,23,24,25,26,27,28]))
 (.step (.ci .i64 1)<|.step (.bin .eql 2 68)<|.ite 69
 (.step (.cs [])<|.step (.bin .eql 4 70)<|.ite 71
 (.step (.ci .i64 17)<|.ret [64,72,7,8,9,10,11,12,13,14,15,16,17,18,19,20,21,22,23,24,25,26,27,28])
 (.ret [64,64,7,8,9,10,11,12,13,14,15,3,17,18,19,20,21,22,23,24,25,26,27,28]))
 (.ret [64,64,7,8,9,10,11,12,13,14,15,3,17,18,19,20,21,22,23,24,25,26,27,28]))))
 (.step (.cs [98,97,115,101])<|.step (.bin .eql 0 64)<|.ite 65
 (.step (.ci .i64 0)<|.step (.call 33 [66] 0)<|.step (.bin .neq 2 67)<|.ite 68
 (.step (.ci .i64 8)<|.ret [66,69,7,8,9,10,11,12,13,14,15,16,17,18,19,20,21,22,23,24,25,26,27,28])
 (.step (.bin .eql 2 66)<|.ite 69
 (.step (.ci .u64 0)<|.step (.bin .eql 3 70)<|.ite 71
 (.step (.ci .i64 17)<|.ret [66,72,7,8,9,10,11,12,13,14,15,16,17,18,19,20,21,22,23,24,25,26,27,28])
 (.step (.ci .i64 1)<|.step (.bin .eql 2 72)<|.ret [66,66,7,8,9,10,11,12,13,14,15,16,3,18,19,20,21,22,23,24,25,26,27,28]))
 (.step (.ci .i64 1)<|.step (.bin .eql 2 70)<|.ite 71
 (.step (.cs [])<|.step (.bin .eql 4 72)<|.ite 73
 (.step (.ci .i64 17)<|.ret [66,74,7,8,9,10,11,12,13,14,15,16,17,18,19,20,21,22,23,24,25,26,27,28])
 (.ret [66,66,7,8,9,10,11,12,13,14,15,16,3,18,19,20,21,22,23,24,25,26,27,28]))
 (.ret [66,66,7,8,9,10,11,12,13,14,15,16,3,18,19,20,21,22,23,24,25,26,27,28]))))
 (.step (.cs [100,105,103,101,115,116])<|.step (.bin .eql 0 66)<|.ite 67
 (.step (.ci .i64 0)<|.step (.call 33 [68] 0)<|.step (.bin .neq 2 69)<|.ite 70
 (.step (.ci .i64 8)<|.ret [68,71,7,8,9,10,11,12,13,14,15,16,17,18,19,20,21,22,23,24,25,26,27,28])
 (.step (.bin .eql 2 68)<|.ite 71
 (.step (.ci .u64 0)<|.step (.bin .eql 3 72)<|.ite 73
 (.step (.ci .i64 17)<|.ret [68,74,7,8,9,10,11,12,13,14,15,16,17,18,19,20,21,22,23,24,25,26,27,28])
 (.step (.ci .i64 1)<|.step (.bin .eql 2 74)<|.ret [68,68,7,8,9,10,11,12,13,14,15,16,17,3,19,20,21,22,23,24,25,26,27,28]))
 (.step (.ci .i64 1)<|.step (.bin .eql 2 72)<|.ite 73
 (.step (.cs [])<|.step (.bin .eql 4 74)<|.ite 75
 (.step (.ci .i64 17)<|.ret [68,76,7,8,9,10,11,12,13,14,15,16,17,18,19,20,21,22,23,24,25,26,27,28])
 (.ret [68,68,7,8,9,10,11,12,13,14,15,16,17,3,19,20,21,22,23,24,25,26,27,28]))
 (.ret [68,68,7,8,9,10,11,12,13,14,15,16,17,3,19,20,21,22,23,24,25,26,27,28]))))
 (.step (.cs [108,97,103])<|.step (.bin .eql 0 68)<|.ite 69
 (.step (.ci .i64 0)<|.step (.call 33 [70] 0)<|.step (.bin .neq 2 71)<|.ite 72
 (.step (.ci .i64 8)<|.ret [70,73,7,8,9,10,11,12,13,14,15,16,17,18,19,20,21,22,23,24,25,26,27,28])
 (.step (.bin .eql 2 70)<|.ite 73
 (.step (.ci .u64 0)<|.step (.bin .eql 3 74)<|.ite 75
 (.step (.ci .i64 17)<|.ret [70,76,7,8,9,10,11,12,13,14,15,16,17,18,19,20,21,22,23,24,25,26,27,28])
 (.step (.ci .i64 1)<|.step (.bin .eql 2 76)<|.ret [70,70,7,8,9,10,11,12,13,14,15,16,17,18,3,20,21,22,23,24,25,26,27,28]))
 (.step (.ci .i64 1)<|.step (.bin .eql 2 74)<|.ite 75
 (.step (.cs [])<|.step (.bin .eql 4 76)<|.ite 77
 (.step (.ci .i64 17)<|.ret [70,78,7,8,9,10,11,12,13,14,15,16,17,18,19,20,21,22,23,24,25,26,27,28])
 (.ret [70,70,7,8,9,10,11,12,13,14,15,16,17,18,3,20,21,22,23,24,25,26,27,28]))
 (.ret [70,70,7,8,9,10,11,12,13,14,15,16,17,18,3,20,21,22,23,24,25,26,27,28]))))
 (.step (.cs [99,111,100,101])<|.step (.bin .eql 0 70)<|.ite 71
 (.step (.ci .i64 0)<|.step (.call 33 [72] 0)<|.step (.bin .neq 2 73)<|.ite 74
 (.step (.ci .i64 8)<|.ret [72,75,7,8,9,10,11,12,13,14,15,16,17,18,19,20,21,22,23,24,25,26,27,28])
 (.step (.bin .eql 2 72)<|.ite 75
 (.step (.ci .u64 0)<|.step (.bin .eql 3 76)<|.ite 77
 (.step (.ci .i64 17)<|.ret [72,78,7,8,9,10,11,12,13,14,15,16,17,18,19,20,21,22,23,24,25,26,27,28])
 (.step (.ci .i64 1)<|.step (.bin .eql 2 78)<|.ret [72,72,7,8,9,10,11,12,13,14,15,16,17,18,19,3,21,22,23,24,25,26,27,28]))
 (.step (.ci .i64 1)<|.step (.bin .eql 2 76)<|.ite 77
 (.step (.cs [])<|.step (.bin .eql 4 78)<|.ite 79
 (.step (.ci .i64 17)<|.ret [72,80,7,8,9,10,11,12,13,14,15,16,17,18,19,20,21,22,23,24,25,26,27,28])
 (.ret [72,72,7,8,9,10,11,12,13,14,15,16,17,18,19,3,21,22,23,24,25,26,27,28]))
 (.ret [72,72,7,8,9,10,11,12,13,14,15,16,17,18,19,3,21,22,23,24,25,26,27,28]))))
 (.step (.cs [119,97,110,116])<|.step (.bin .eql 0 72)<|.ite 73
 (.step (.ci .i64 0)<|.step (.call 33 [74] 0)<|.step (.bin .neq 2 75)<|.ite 76
 (.step (.ci .i64 8)<|.ret [74,77,7,8,9,10,11,12,13,14,15,16,17,18,19,20,21,22,23,24,25,26,27,28])
 (.step (.bin .eql 2 74)<|.ite 77
 (.step (.ci .u64 0)<|.step (.bin .eql 3 78)<|.ite 79
 (.step (.ci .i64 17)<|.ret [74,80,7,8,9,10,11,12,13,14,15,16,17,18,19,20,21,22,23,24,25,26,27,28])
 (.step (.ci .i64 1)<|.step (.bin .eql 2 80)<|.ret [74,74,7,8,9,10,11,12,13,14,15,16,17,18,19,20,3,22,23,24,25,26,27,28]))
 (.step (.ci .i64 1)<|.step (.bin .eql 2 78)<|.ite 79
 (.step (.cs [])<|.step (.bin .eql 4 80)<|.ite 81
 (.step (.ci .i64 17)<|.ret [74,82,7,8,9,10,11,12,13,14,15,16,17,18,19,20,21,22,23,24,25,26,27,28])
 (.ret [74,74,7,8,9,10,11,12,13,14,15,16,17,18,19,20,3,22,23,24,25,26,27,28]))
 (.ret [74,74,7,8,9,10,11,12,13,14,15,16,17,18,19,20,3,22,23,24,25,26,27,28]))))
 (.step (.ci .i64 26)<|.step (.ci .i64 0)<|.ret [75,74,7,8,9,10,11,12,13,14,15,16,17,18,19,20,21,22,23,24,25,26,27,28]))))))))))))))))))))))
def VU:aH:=.tree 4<|.step (.bin .lss 3 2)<|.ite 4
 (.step (.at 2 1 3)<|.step (.cell 0 5)<|.step (.cell 1 5)<|.step (.call 21 [6] 0)<|.step (.mk [8,7])<|.step (.ml [9])<|.step (.app 2 32 0 10)<|.step (.ci .i64 1)<|.step (.bin .add 3 12)<|
 .tail 24 [11,1,2,13])
 (.step (.ci .i64 0)<|.ret [5,0])
def Vs:aH:=.tree 50<|.step (.bin .lss 1 0)<|.ite 50
 (.step (.at 2 47 1)<|.step (.cell 0 51)<|.step (.cell 1 51)<|.step (.at 2 23 1)<|.step (.cell 0 54)<|.step (.cell 1 54)<|.step (.mk [52,53])<|.step (.mk [55,56])<|.step (.ql .neq [1,1] 57 58)<|
 .ite 59
 (.step (.ci .i64 0)<|.ret [60])
 (.step (.ci .i64 1)<|.step (.bin .add 1 60)<|.tail 108 [0,61,2,3,4,5,6,7,8,9,10,11,12,13,14,15,16,17,18,19,20,21,22,23,24,25,26,27,28,29,30,31,32,33,34,35,36,37,38,39,40,41,42,43,44,45,46,47,48,49]))
 (.step (.ci .i64 1)<|.ret [51])
def WY:aH:=.tree 5<|.step (.bin .lss 4 1)<|.ite 5
 (.step (.kN 0 4)<|.step (.ci .u8 128)<|.step (.bin .rem 6 7)<|.step (.conv .u64 8)<|.step (.bin .mul 9 3)<|.step (.bin .add 2 10)<|.step (.ci .u64 128)<|.step (.bin .mul 3 12)<|
 .step (.ci .i64 1)<|.step (.bin .add 4 14)<|.tail 67 [0,1,11,13,15])
 (.step (.ci .i64 0)<|.ret [6,1,2])
def WJ:aH:=.tree 2<|.step (.ci .i64 8)<|.step (.bin .leq 1 2)<|.ite 3
 (.step (.call 56 [1] 0)<|.step (.len 4)<|.step (.ci .i64 0)<|.step (.call 57 [0,1,4,5,6] 0)<|.step (.bin .eql 7 6)<|.ite 8
 (.step (.call 57 [0,1,4,5,6] 1)<|.ret [6,9])
 (.step (.ci .i64 1)<|.step (.bin .add 1 9)<|.tail 55 [0,10]))
 (.step (.ci .i64 1)<|.ret [4])
def VX:aH:=.tree 4<|.step (.bin .lss 3 2)<|.ite 4
 (.step (.at 5 1 3)<|.step (.cell 0 5)<|.step (.cell 1 5)<|.step (.cell 2 5)<|.step (.cell 3 5)<|.step (.cell 4 5)<|.step (.call 25 [10] 0)<|.step (.mk [6,7,8,9,11])<|.step (.ml [12])<|
 .step (.app 5 64 0 13)<|.step (.ci .i64 1)<|.step (.bin .add 3 15)<|.tail 26 [14,1,2,16])
 (.step (.ci .i64 0)<|.ret [5,0])
def VF:aH:=.tree 1<|.step (.len 0)<|.step (.ci .i64 0)<|.step (.bin .gtr 1 2)<|.ite 3
 (.step (.ci .i64 1)<|.step (.bin .sub 1 4)<|.step (.idx 0 5)<|.step (.at 2 0 6)<|.step (.cell 0 7)<|.step (.cell 1 7)<|.step (.qZ 2 0 2 5)<|.step (.len 8)<|.step (.len 9)<|.step (.bin .neq 11 12)<|
 .ite 13
 (.ret [2])
 (.step (.call 120 [10,11,2,8,9] 0)<|.step (.bin .eql 14 2)<|.ite 15
 (.ret [2])
 (.step (.call 120 [10,11,2,8,9] 1)<|.tail 119 [16])))
 (.step (.ci .i64 1)<|.ret [4])
def Vo:aH:=.tree 4<|.step (.bin .lss 3 2)<|.ite 4
 (.step (.at 2 0 3)<|.step (.cell 1 5)<|.step (.at 2 1 3)<|.step (.cell 1 7)<|.step (.bin .neq 6 8)<|.ite 9
 (.step (.ci .i64 0)<|.ret [10])
 (.step (.cell 0 5)<|.step (.len 10)<|.step (.cell 0 7)<|.step (.len 12)<|.step (.bin .neq 11 13)<|.ite 14
 (.step (.ci .i64 0)<|.ret [15])
 (.step (.ci .i64 0)<|.step (.call 105 [0,1,3,2,5,10,11,7,12,13,15] 0)<|.step (.bin .eql 16 15)<|.ite 17
 (.ret [15])
 (.step (.ci .i64 1)<|.step (.bin .add 3 18)<|.tail 104 [0,1,2,19]))))
 (.step (.ci .i64 1)<|.ret [5])
def Xp:aH:=.tree 51<|.step (.bin .lss 2 1)<|.ite 51
 (.step (.at 1 0 2)<|.step (.cell 0 52)<|.step (.cs [100,101,115,99,114])<|.step (.bin .eql 53 54)<|.ite 55
 (.step (.ci .i64 1)<|.step (.bin .add 2 56)<|.tail 85 [0,1,57,3,4,5,6,7,8,9,10,11,12,13,14,15,16,17,18,19,20,21,22,23,24,25,26,27,28,29,30,31,32,33,34,35,36,37,38,39,40,41,42,43,44,45,46,47,48,49,50])
 (.step (.cs [116,97,98,108,101])<|.step (.bin .eql 53 56)<|.ite 57
 (.step (.ci .i64 1)<|.step (.bin .add 2 58)<|.tail 85 [0,1,59,3,4,5,6,7,8,9,10,11,12,13,14,15,16,17,18,19,20,21,22,23,24,25,26,27,28,29,30,31,32,33,34,35,36,37,38,39,40,41,42,43,44,45,46,47,48,49,50])
 (.step (.mk [27,28,29,30,31,32,33,34,35,36,37,38,39,40,41,42,43,44,45,46,47,48,49,50])<|.step (.call 86 [58,53] 0)<|.step (.call 86 [58,53] 1)<|.step (.mk [3,4,5,6,7,8,9,10,11,12,13,14,15,16,17,18,19,20,21,22,23,24,25,26])<|
 .step (.call 86 [61,53] 0)<|.step (.call 86 [61,53] 1)<|.step (.bin .neq 59 62)<|.ite 64
 (.step (.ci .i64 0)<|.ret [65])
 (.step (.bin .neq 60 63)<|.ite 65
 (.step (.ci .i64 0)<|.ret [66])
 (.step (.ci .i64 1)<|.step (.bin .add 2 66)<|.tail 85 [0,1,67,3,4,5,6,7,8,9,10,11,12,13,14,15,16,17,18,19,20,21,22,23,24,25,26,27,28,29,30,31,32,33,34,35,36,37,38,39,40,41,42,43,44,45,46,47,48,49,50])))))
 (.step (.ci .i64 1)<|.ret [52])
def d10:aH:=.tree 2<|.step (.ci .u64 128)<|.step (.bin .geq 0 2)<|.ite 3
 (.step (.ci .u64 7)<|.step (.bin .shr 0 4)<|.step (.ci .i64 1)<|.step (.bin .add 1 6)<|.tail 10 [5,7])
 (.step (.ci .i64 0)<|.ret [4,1])
def Vr:aH:=.tree 4<|.step (.bin .lss 3 2)<|.ite 4
 (.step (.at 5 0 3)<|.step (.cell 0 5)<|.step (.at 5 1 3)<|.step (.cell 0 7)<|.step (.bin .neq 6 8)<|.ite 9
 (.step (.ci .i64 0)<|.ret [10])
 (.step (.cell 1 5)<|.step (.cell 1 7)<|.step (.bin .neq 10 11)<|.ite 12
 (.step (.ci .i64 0)<|.ret [13])
 (.step (.cell 2 5)<|.step (.cell 2 7)<|.step (.bin .neq 13 14)<|.ite 15
 (.step (.ci .i64 0)<|.ret [16])
 (.step (.cell 3 5)<|.step (.cell 3 7)<|.step (.bin .neq 16 17)<|.ite 18
 (.step (.ci .i64 0)<|.ret [19])
 (.step (.cell 4 5)<|.step (.cell 4 7)<|.step (.call 106 [19,20] 0)<|.step (.un .not 21)<|.ite 22
 (.step (.ci .i64 0)<|.ret [23])
 (.step (.ci .i64 1)<|.step (.bin .add 3 23)<|.tail 107 [0,1,2,24]))))))
 (.step (.ci .i64 1)<|.ret [5])
def Vy:aH:=.tree 4<|.step (.bin .lss 3 2)<|.ite 4
 (.step (.at 2 0 3)<|.step (.cell 0 5)<|.step (.cell 1 5)<|.step (.at 2 1 3)<|.step (.cell 0 8)<|.step (.cell 1 8)<|.step (.mk [6,7])<|.step (.mk [9,10])<|.step (.ql .neq [1,1] 11 12)<|
 .ite 13
 (.step (.ci .i64 0)<|.ret [14])
 (.step (.ci .i64 1)<|.step (.bin .add 3 14)<|.tail 113 [0,1,2,15]))
 (.step (.ci .i64 1)<|.ret [5])
def WE:aH:=.tree 3<|.step (.slen 0)<|.step (.bin .lss 2 3)<|.ite 4
 (.step (.slen 1)<|.step (.bin .lss 2 5)<|.ite 6
 (.step (.kN 0 2)<|.step (.kN 1 2)<|.step (.bin .eql 7 8)<|.ite 9
 (.step (.ci .i64 1)<|.step (.bin .add 2 10)<|.tail 51 [0,1,11])
 (.step (.ci .i64 0)<|.ret [10,2]))
 (.step (.ci .i64 0)<|.ret [7,2]))
 (.step (.ci .i64 0)<|.ret [5,2])
def XB:aH:=.tree 3<|.step (.bin .lss 2 1)<|.ite 3
 (.step (.at 2 0 2)<|.step (.cell 0 4)<|.step (.cell 1 4)<|.step (.mk [5,6])<|.step (.call 97 [7] 0)<|.step (.ci .i64 0)<|.step (.bin .eql 8 9)<|.ite 10
 (.step (.bin .gtr 2 9)<|.ite 11
 (.step (.ci .i64 1)<|.step (.bin .sub 2 12)<|.step (.at 2 0 13)<|.step (.cell 0 14)<|.step (.call 89 [15] 0)<|.step (.call 89 [5] 0)<|.step (.bin .eql 16 17)<|.ite 18
 (.step (.ci .i64 14)<|.ret [9,19])
 (.step (.call 80 [16,17] 0)<|.step (.un .not 19)<|.ite 20
 (.step (.ci .i64 7)<|.ret [9,21])
 (.step (.bin .neq 8 9)<|.step (.bin .add 2 12)<|.tail 96 [0,1,22])))
 (.step (.bin .neq 8 9)<|.step (.ci .i64 1)<|.step (.bin .add 2 13)<|.tail 96 [0,1,14]))
 (.step (.bin .neq 8 9)<|.ret [9,8]))
 (.step (.ci .i64 1)<|.ret [4])
def WZ:aH:=.tree 4<|.step (.bin .lss 3 1)<|.ite 4
 (.step (.call 69 [0] 0)<|.step (.cell 0 5)<|.step (.cell 1 5)<|.step (.call 69 [0] 1)<|.step (.call 69 [0] 2)<|.step (.ci .i64 0)<|.step (.bin .eql 9 10)<|.ite 11
 (.step (.ci .u64 0)<|.step (.bin .gtr 3 12)<|.ite 13
 (.step (.ci .u64 1)<|.step (.bin .sub 3 14)<|.step (.idx 2 15)<|.step (.at 2 2 16)<|.step (.cell 0 17)<|.step (.cell 1 17)<|.step (.mk [18,19])<|.step (.mk [6,7])<|.step (.call 72 [20,21] 0)<|
 .step (.bin .neq 22 10)<|.ite 23
 (.ret [10,22])
 (.step (.ml [21])<|.step (.app 2 32 2 24)<|.step (.bin .add 3 14)<|.tail 68 [8,1,25,26]))
 (.step (.bin .neq 9 10)<|.step (.mk [6,7])<|.step (.ml [15])<|.step (.app 2 32 2 16)<|.step (.ci .u64 1)<|.step (.bin .add 3 18)<|.tail 68 [8,1,17,19]))
 (.step (.bin .neq 9 10)<|.ret [10,9]))
 (.step (.ci .i64 1)<|.ret [5,0,2])
def Xx:aH:=.tree 4<|.step (.bin .lss 3 2)<|.ite 4
 (.step (.at 2 1 3)<|.step (.cell 0 5)<|.step (.cell 1 5)<|.step (.mk [6,7])<|.step (.call 93 [8] 0)<|.step (.bin .add 0 9)<|.step (.ci .i64 1)<|.step (.bin .add 3 11)<|.tail 92 [10,1,2,12])
 (.step (.ci .i64 0)<|.ret [5,0])
def Vp:aH:=.tree 11<|.step (.bin .lss 10 6)<|.ite 11
 (.step (.at 2 0 2)<|.step (.cell 0 12)<|.step (.at 2 13 10)<|.step (.cell 0 14)<|.step (.cell 1 14)<|.step (.at 2 1 2)<|.step (.cell 0 17)<|.step (.at 2 18 10)<|.step (.cell 0 19)<|
 .step (.cell 1 19)<|.step (.mk [15,16])<|.step (.mk [20,21])<|.step (.ql .neq [1,1] 22 23)<|.ite 24
 (.step (.ci .i64 0)<|.ret [25])
 (.step (.ci .i64 1)<|.step (.bin .add 10 25)<|.tail 105 [0,1,2,3,4,5,6,7,8,9,26]))
 (.step (.ci .i64 1)<|.ret [12])
def Xw:aH:=.tree 2<|.step (.ci .u64 127)<|.step (.bin .gtr 0 2)<|.ite 3
 (.step (.ci .u64 128)<|.step (.bin .rem 0 4)<|.step (.bin .add 5 4)<|.step (.conv .u8 6)<|.step (.ml [7])<|.step (.str 8)<|.step (.bin .add 1 9)<|.step (.bin .quo 0 4)<|.tail 91 [11,10])
 (.step (.ci .i64 0)<|.ret [4,0,1])
def Xm:aH:=.tree 3<|.step (.slen 0)<|.step (.bin .lss 2 3)<|.ite 4
 (.step (.slen 1)<|.step (.bin .lss 2 5)<|.ite 6
 (.step (.kN 0 2)<|.step (.kN 1 2)<|.step (.bin .neq 7 8)<|.ite 9
 (.step (.ci .i64 0)<|.ret [10,2])
 (.step (.ci .i64 1)<|.step (.bin .add 2 10)<|.tail 82 [0,1,11]))
 (.step (.ci .i64 1)<|.ret [7]))
 (.step (.ci .i64 1)<|.ret [5])
def d4:aH:=.tree 3<|.step (.bin .lss 2 1)<|.ite 3
 (.step (.at 2 0 2)<|.step (.cell 0 4)<|.step (.cell 1 4)<|.step (.slen 5)<|.step (.slen 6)<|.step (.bin .add 7 8)<|.step (.ci .i64 600)<|.step (.bin .gtr 9 10)<|.ite 11
 (.step (.ci .i64 0)<|.ret [12])
 (.step (.ci .i64 1)<|.step (.bin .add 2 12)<|.tail 4 [0,1,13]))
 (.step (.ci .i64 1)<|.ret [4])
def Vk:aH:=.tree 4<|.step (.bin .lss 3 2)<|.ite 4
 (.step (.at 2 0 3)<|.step (.cell 0 5)<|.step (.cell 1 5)<|.step (.ci .i64 0)<|.step (.bin .gtr 3 8)<|.ite 9
 (.step (.ci .i64 1)<|.step (.bin .sub 3 10)<|.step (.at 2 0 11)<|.step (.cell 0 12)<|.step (.call 89 [13] 0)<|.step (.call 89 [6] 0)<|.step (.call 102 [14,15] 0)<|.step (.bin .add 1 16)<|
 .step (.call 90 [7] 0)<|.step (.bin .add 17 18)<|.step (.bin .add 3 10)<|.tail 101 [0,19,2,20])
 (.step (.call 89 [6] 0)<|.step (.cs [])<|.step (.call 102 [11,10] 0)<|.step (.bin .add 1 12)<|.step (.call 90 [7] 0)<|.step (.bin .add 13 14)<|.step (.ci .i64 1)<|.step (.bin .add 3 16)<|
 .tail 101 [0,15,2,17]))
 (.step (.ci .i64 0)<|.ret [5,1])
def VB:aH:=.tree 4<|.step (.bin .lss 3 2)<|.ite 4
 (.step (.at 2 1 3)<|.step (.cell 0 5)<|.step (.cell 1 5)<|.step (.at 2 0 3)<|.step (.cell 0 8)<|.step (.cell 1 8)<|.step (.mk [6,7])<|.step (.mk [9,10])<|.step (.call 117 [11,12] 0)<|
 .step (.un .not 13)<|.ite 14
 (.step (.ci .i64 0)<|.ret [15])
 (.step (.ci .i64 1)<|.step (.bin .add 3 15)<|.tail 116 [0,1,2,16]))
 (.step (.ci .i64 1)<|.ret [5])
def Xi:aH:=.tree 5<|.step (.bin .lss 4 1)<|.ite 5
 (.step (.ci .u64 0)<|.step (.bin .eql 4 6)<|.step (.call 79 [0,3,7] 0)<|.step (.call 79 [0,3,7] 1)<|.step (.call 79 [0,3,7] 2)<|.step (.ci .i64 0)<|.step (.bin .neq 10 11)<|
 .ite 12
 (.ret [11,10])
 (.step (.call 63 [8] 0)<|.step (.call 63 [8] 1)<|.step (.bin .neq 14 11)<|.ite 15
 (.ret [11,14])
 (.step (.call 65 [9] 0)<|.step (.call 65 [9] 1)<|.step (.call 65 [9] 2)<|.step (.bin .neq 18 11)<|.ite 19
 (.ret [11,18])
 (.step (.bin .eql 16 6)<|.ite 20
 (.step (.ci .i64 17)<|.ret [11,21])
 (.step (.mk [13,16])<|.step (.ml [21])<|.step (.app 2 32 2 22)<|.step (.slen 9)<|.step (.iC 9 17 24)<|.step (.ci .u64 1)<|.step (.bin .add 4 26)<|.tail 78 [25,1,23,8,27])))))
 (.step (.ci .i64 1)<|.ret [6,0,2])
def Wq:aH:=.tree 5<|.step (.bin .lss 2 1)<|.ite 5
 (.step (.call 43 [3,4] 0)<|.step (.call 43 [3,4] 1)<|.step (.call 43 [3,4] 2)<|.step (.call 43 [3,4] 3)<|.step (.call 43 [3,4] 4)<|.step (.call 43 [3,4] 5)<|.step (.ci .i64 0)<|
 .step (.bin .neq 9 12)<|.ite 13
 (.ret [12,9,10,11])
 (.step (.bin .gtr 2 12)<|.ite 14
 (.step (.ci .i64 1)<|.step (.bin .sub 2 15)<|.step (.idx 0 16)<|.step (.at 2 0 17)<|.step (.cell 0 18)<|.step (.bin .eql 7 19)<|.ite 20
 (.step (.ci .i64 14)<|.ret [12,21,10,11])
 (.step (.bin .lss 7 19)<|.ite 21
 (.step (.ci .i64 7)<|.ret [12,22,10,11])
 (.step (.mk [7,8])<|.step (.ml [22])<|.step (.app 2 32 0 23)<|.step (.bin .add 2 15)<|.tail 42 [24,1,25,10,11])))
 (.step (.mk [7,8])<|.step (.ml [15])<|.step (.app 2 32 0 16)<|.step (.ci .i64 1)<|.step (.bin .add 2 18)<|.tail 42 [17,1,19,10,11])))
 (.step (.ci .i64 1)<|.ret [6,0,3,4])
def WM:aH:=.tree 5<|.step (.bin .lss 4 3)<|.ite 5
 (.step (.at 4 2 4)<|.step (.cell 0 6)<|.step (.cell 1 6)<|.step (.cell 2 6)<|.step (.cell 3 6)<|.step (.bin .eql 10 0)<|.ite 11
 (.step (.ci .i64 0)<|.ret [12,8])
 (.step (.ci .i64 1)<|.step (.bin .add 4 12)<|.tail 57 [0,1,2,3,13]))
 (.step (.ci .i64 1)<|.ret [6])
def VG:aH:=.tree 5<|.step (.bin .lss 2 1)<|.ite 5
 (.step (.at 5 3 2)<|.step (.at 5 4 2)<|.step (.cell 0 6)<|.step (.cell 0 7)<|.step (.bin .eql 8 9)<|.ite 10
 (.step (.cell 1 6)<|.step (.cell 1 7)<|.step (.bin .eql 11 12)<|.ite 13
 (.step (.cell 2 6)<|.step (.cell 2 7)<|.step (.bin .eql 14 15)<|.ite 16
 (.step (.cell 3 6)<|.step (.cell 3 7)<|.step (.bin .eql 17 18)<|.step (.un .not 19)<|.ite 20
 (.step (.ci .i64 0)<|.ret [21])
 (.step (.cell 4 6)<|.step (.len 21)<|.step (.ci .i64 0)<|.step (.bin .gtr 22 23)<|.ite 24
 (.step (.cell 4 7)<|.step (.mk [21,25])<|.step (.ml [26])<|.step (.app 2 48 0 27)<|.step (.ci .i64 1)<|.step (.bin .add 2 29)<|.tail 120 [28,1,30,3,4])
 (.step (.cell 4 7)<|.step (.len 25)<|.step (.bin .gtr 26 23)<|.ite 27
 (.step (.mk [21,25])<|.step (.ml [28])<|.step (.app 2 48 0 29)<|.step (.ci .i64 1)<|.step (.bin .add 2 31)<|.tail 120 [30,1,32,3,4])
 (.step (.ci .i64 1)<|.step (.bin .add 2 28)<|.tail 120 [0,1,29,3,4]))))
 (.step (.ci .i64 0)<|.ret [17]))
 (.step (.ci .i64 0)<|.ret [14]))
 (.step (.ci .i64 0)<|.ret [11]))
 (.step (.ci .i64 1)<|.ret [6,0])
def Wp:aH:=.tree 4<|.step (.bin .lss 3 2)<|.ite 4
 (.step (.kN 0 3)<|.step (.ci .u8 127)<|.step (.bin .and 5 6)<|.step (.conv .u64 7)<|.step (.ci .i64 7)<|.step (.bin .mul 9 3)<|.step (.bin .shl 8 10)<|.step (.bin .or 1 11)<|.step (.ci .u8 128)<|
 .step (.bin .geq 5 13)<|.ite 14
 (.step (.ci .i64 1)<|.step (.bin .add 3 15)<|.tail 41 [0,12,2,16])
 (.step (.ci .i64 9)<|.step (.bin .eql 3 15)<|.ite 16
 (.step (.ci .u8 1)<|.step (.bin .gtr 5 17)<|.ite 18
 (.step (.ci .u64 0)<|.step (.ci .i64 0)<|.step (.ci .i64 3)<|.ret [20,19,20,21])
 (.step (.ci .i64 0)<|.step (.bin .gtr 3 19)<|.ite 20
 (.step (.ci .u8 0)<|.step (.bin .eql 5 21)<|.ite 22
 (.step (.ci .u64 0)<|.step (.ci .i64 2)<|.ret [19,23,19,24])
 (.step (.ci .i64 1)<|.step (.bin .add 3 23)<|.ret [19,12,24,19]))
 (.step (.ci .i64 1)<|.step (.bin .add 3 21)<|.ret [19,12,22,19])))
 (.step (.ci .i64 0)<|.step (.bin .gtr 3 17)<|.ite 18
 (.step (.ci .u8 0)<|.step (.bin .eql 5 19)<|.ite 20
 (.step (.ci .u64 0)<|.step (.ci .i64 2)<|.ret [17,21,17,22])
 (.step (.ci .i64 1)<|.step (.bin .add 3 21)<|.ret [17,12,22,17]))
 (.step (.ci .i64 1)<|.step (.bin .add 3 19)<|.ret [17,12,20,17]))))
 (.step (.ci .i64 1)<|.ret [5,0])
def XE:aH:=.tree 3<|.step (.len 0)<|.step (.bin .lss 2 3)<|.ite 4
 (.step (.ci .i64 0)<|.step (.bin .eql 1 5)<|.ite 6
 (.step (.at 2 0 2)<|.step (.cell 0 7)<|.step (.cell 1 7)<|.step (.mk [8,9])<|.step (.call 71 [10] 0)<|.step (.bin .eql 11 5)<|.ite 12
 (.step (.bin .gtr 2 5)<|.ite 13
 (.step (.ci .i64 1)<|.step (.bin .sub 2 14)<|.step (.at 2 0 15)<|.step (.cell 0 16)<|.step (.cell 1 16)<|.step (.mk [17,18])<|.step (.call 72 [19,10] 0)<|.step (.bin .add 2 14)<|
 .tail 99 [0,20,21])
 (.step (.ci .i64 1)<|.step (.bin .add 2 14)<|.tail 99 [0,11,15]))
 (.step (.ci .i64 1)<|.step (.bin .add 2 13)<|.tail 99 [0,11,14]))
 (.ret [5,1]))
 (.step (.ci .i64 0)<|.ret [5,1])
def WX:aH:=.tree 3<|.step (.slen 0)<|.step (.bin .lss 2 3)<|.ite 4
 (.step (.ci .i64 10)<|.step (.bin .lss 2 5)<|.ite 6
 (.step (.ci .i64 0)<|.step (.bin .eql 1 7)<|.ite 8
 (.step (.kN 0 2)<|.step (.ci .u8 128)<|.step (.bin .lss 9 10)<|.ite 11
 (.step (.ci .i64 1)<|.step (.bin .add 2 12)<|.tail 66 [0,13,13])
 (.step (.ci .i64 1)<|.step (.bin .add 2 12)<|.tail 66 [0,1,13]))
 (.ret [7,0,1]))
 (.step (.ci .i64 0)<|.ret [7,0,1]))
 (.step (.ci .i64 0)<|.ret [5,0,1])
def WT:aH:=.tree 5<|.step (.bin .lss 4 1)<|.ite 5
 (.step (.kN 0 4)<|.step (.conv .i64 6)<|.step (.ci .i64 128)<|.step (.bin .lss 7 8)<|.ite 9
 (.step (.ci .i64 0)<|.ret [10])
 (.step (.ci .i64 192)<|.step (.bin .geq 7 10)<|.ite 11
 (.step (.ci .i64 0)<|.ret [12])
 (.step (.ci .i64 64)<|.step (.bin .mul 12 2)<|.step (.bin .add 13 7)<|.step (.bin .sub 14 8)<|.step (.ci .i64 1)<|.step (.bin .add 4 16)<|.tail 62 [0,1,15,3,17])))
 (.step (.ci .i64 1)<|.ret [6,2])
def V4:aH:=.tree 27<|.step (.bin .lss 3 2)<|.ite 27
 (.step (.at 2 1 3)<|.step (.cell 0 28)<|.step (.cell 1 28)<|.step (.call 29 [29] 0)<|.step (.mk [31,30])<|.step (.ml [32])<|.step (.app 2 32 0 33)<|.step (.ci .i64 1)<|.step (.bin .add 3 35)<|
 .tail 30 [34,1,2,36,4,5,6,7,8,9,10,11,12,13,14,15,16,17,18,19,20,21,22,23,24,25,26])
 (.step (.ci .i64 0)<|.ret [28,0])
def VI:aH:=.tree 3<|.step (.bin .lss 2 1)<|.ite 3
 (.step (.at 5 0 2)<|.step (.cell 0 4)<|.step (.cell 1 4)<|.step (.cell 2 4)<|.step (.cell 3 4)<|.step (.cell 4 4)<|.step (.slen 9)<|.step (.ci .i64 300)<|.step (.bin .gtr 10 11)<|
 .ite 12
 (.step (.ci .i64 0)<|.ret [13])
 (.step (.ci .i64 1)<|.step (.bin .add 2 13)<|.tail 15 [0,1,14]))
 (.step (.ci .i64 1)<|.ret [4])
def d12:aH:=.tree 4<|.step (.bin .lss 2 1)<|.ite 4
 (.step (.at 2 0 2)<|.step (.cell 0 5)<|.step (.cell 1 5)<|.step (.mk [6,7])<|.step (.call 13 [8] 0)<|.step (.bytes 9)<|.step (.app 1 1 3 10)<|.step (.slen 9)<|.step (.ci .i64 1)<|
 .step (.bin .add 2 13)<|.tail 12 [0,1,14,11])
 (.step (.ci .i64 0)<|.ret [5,3])
def VN:aH:=.tree 3<|.step (.len 0)<|.step (.ci .i64 0)<|.step (.bin .gtr 3 4)<|.ite 5
 (.step (.at 5 0 4)<|.step (.cell 0 6)<|.step (.bin .geq 7 1)<|.ite 8
 (.step (.cell 1 6)<|.step (.cell 2 6)<|.step (.cell 3 6)<|.step (.cell 4 6)<|.step (.conv .i64 10)<|.step (.ci .u8 255)<|.step (.bin .eql 7 14)<|.ite 15
 (.step (.ci .i64 1)<|.step (.qZ 5 0 16 3)<|.step (.ml [])<|.step (.mk [9,13,11,12,18])<|.step (.ml [19])<|.step (.app 5 64 2 20)<|.tail 19 [17,1,21])
 (.step (.ci .i64 1)<|.step (.qZ 5 0 16 3)<|.step (.ci .u8 1)<|.step (.bin .add 7 18)<|.step (.call 18 [17,19] 0)<|.step (.call 18 [17,19] 1)<|.step (.mk [9,13,11,12,20])<|
 .step (.ml [22])<|.step (.app 5 64 2 23)<|.tail 19 [21,1,24]))
 (.ret [4,0,2]))
 (.ret [4,0,2])
def VQ:aH:=.tree 4<|.step (.bin .lss 3 2)<|.ite 4
 (.step (.at 2 1 3)<|.step (.cell 0 5)<|.step (.cell 1 5)<|.step (.mk [6,7])<|.step (.ml [8])<|.step (.app 2 32 0 9)<|.step (.ci .i64 1)<|.step (.bin .add 3 11)<|.tail 22 [10,1,2,12])
 (.step (.ci .i64 0)<|.ret [5,0])
def Xf:aH:=.tree 3<|.step (.slen 0)<|.step (.bin .lss 2 3)<|.ite 4
 (.step (.slen 1)<|.step (.bin .lss 2 5)<|.ite 6
 (.step (.kN 0 2)<|.step (.kN 1 2)<|.step (.bin .neq 7 8)<|.ite 9
 (.step (.bin .lss 7 8)<|.step (.ci .i64 0)<|.ret [11,10])
 (.step (.ci .i64 1)<|.step (.bin .add 2 10)<|.tail 75 [0,1,11]))
 (.step (.ci .i64 1)<|.ret [7]))
 (.step (.ci .i64 1)<|.ret [5])
def Vw:aH:=.tree 51<|.step (.bin .lss 2 1)<|.ite 51
 (.step (.at 1 0 2)<|.step (.cell 0 52)<|.step (.cs [114,101,109,97,105,110,105,110,103])<|.step (.bin .eql 53 54)<|.ite 55
 (.step (.bin .eql 43 19)<|.step (.un .not 56)<|.ite 57
 (.step (.ci .i64 0)<|.ret [58])
 (.step (.ci .i64 1)<|.step (.bin .add 2 58)<|.tail 111 [0,1,59,3,4,5,6,7,8,9,10,11,12,13,14,15,16,17,18,19,20,21,22,23,24,25,26,27,28,29,30,31,32,33,34,35,36,37,38,39,40,41,42,43,44,45,46,47,48,49,50]))
 (.step (.cs [97,108,108,111,119,101,100])<|.step (.bin .eql 53 56)<|.ite 57
 (.step (.uw .eql 44 20)<|.step (.un .not 58)<|.ite 59
 (.step (.ci .i64 0)<|.ret [60])
 (.step (.ci .i64 1)<|.step (.bin .add 2 60)<|.tail 111 [0,1,61,3,4,5,6,7,8,9,10,11,12,13,14,15,16,17,18,19,20,21,22,23,24,25,26,27,28,29,30,31,32,33,34,35,36,37,38,39,40,41,42,43,44,45,46,47,48,49,50]))
 (.step (.cs [110,97,109,101])<|.step (.bin .eql 53 58)<|.ite 59
 (.step (.bin .eql 45 21)<|.step (.un .not 60)<|.ite 61
 (.step (.ci .i64 0)<|.ret [62])
 (.step (.ci .i64 1)<|.step (.bin .add 2 62)<|.tail 111 [0,1,63,3,4,5,6,7,8,9,10,11,12,13,14,15,16,17,18,19,20,21,22,23,24,25,26,27,28,29,30,31,32,33,34,35,36,37,38,39,40,41,42,43,44,45,46,47,48,49,50]))
 (.step (.cs [114,101,103,105,111,110])<|.step (.bin .eql 53 60)<|.ite 61
 (.step (.bin .eql 46 22)<|.step (.un .not 62)<|.ite 63
 (.step (.ci .i64 0)<|.ret [64])
 (.step (.ci .i64 1)<|.step (.bin .add 2 64)<|.tail 111 [0,1,65,3,4,5,6,7,8,9,10,11,12,13,14,15,16,17,18,19,20,21,22,23,24,25,26,27,28,29,30,31,32,33,34,35,36,37,38,39,40,41,42,43,44,45,46,47,48,49,50]))
 (.step (.cs [110,111,116,101])<|.step (.bin .eql 53 62)<|.ite 63
 (.step (.bin .eql 47 23)<|.step (.un .not 64)<|.ite 65
 (.step (.ci .i64 0)<|.ret [66])
 (.step (.ci .i64 1)<|.step (.bin .add 2 66)<|.tail 111 [0,1,67,3,4,5,6,7,8,9,10,11,12,13,14,15,16,17,18,19,20,21,22,23,24,25,26,27,28,29,30,31,32,33,34,35,36,37,38,39,40,41,42,43,44,45,46,47,48,49,50]))
 (.step (.cs [100,101,115,99,114])<|.step (.bin .eql 53 64)<|.ite 65
 (.step (.call 112 [48,24] 0)<|.step (.un .not 66)<|.ite 67
 (.step (.ci .i64 0)<|.ret [68])
 (.step (.ci .i64 1)<|.step (.bin .add 2 68)<|.tail 111 [0,1,69,3,4,5,6,7,8,9,10,11,12,13,14,15,16,17,18,19,20,21,22,23,24,25,26,27,28,29,30,31,32,33,34,35,36,37,38,39,40,41,42,43,44,45,46,47,48,49,50]))
 (.step (.cs [116,97,98,108,101])<|.step (.bin .eql 53 66)<|.ite 67
 (.step (.call 114 [49,25] 0)<|.step (.un .not 68)<|.ite 69
 (.step (.ci .i64 0)<|.ret [70])
 (.step (.ci .i64 1)<|.step (.bin .add 2 70)<|.tail 111 [0,1,71,3,4,5,6,7,8,9,10,11,12,13,14,15,16,17,18,19,20,21,22,23,24,25,26,27,28,29,30,31,32,33,34,35,36,37,38,39,40,41,42,43,44,45,46,47,48,49,50]))
 (.step (.cs [105,100])<|.step (.bin .eql 53 68)<|.ite 69
 (.step (.bin .eql 28 4)<|.step (.un .not 70)<|.ite 71
 (.step (.ci .i64 0)<|.ret [72])
 (.step (.ci .i64 1)<|.step (.bin .add 2 72)<|.tail 111 [0,1,73,3,4,5,6,7,8,9,10,11,12,13,14,15,16,17,18,19,20,21,22,23,24,25,26,27,28,29,30,31,32,33,34,35,36,37,38,39,40,41,42,43,44,45,46,47,48,49,50]))
 (.step (.cs [109,105,110])<|.step (.bin .eql 53 70)<|.ite 71
 (.step (.bin .eql 29 5)<|.step (.un .not 72)<|.ite 73
 (.step (.ci .i64 0)<|.ret [74])
 (.step (.ci .i64 1)<|.step (.bin .add 2 74)<|.tail 111 [0,1,75,3,4,5,6,7,8,9,10,11,12,13,14,15,16,17,18,19,20,21,22,23,24,25,26,27,28,29,30,31,32,33,34,35,36,37,38,39,40,41,42,43,44,45,46,47,48,49,50]))
 (.step (.cs [109,97,120])<|.step (.bin .eql 53 72)<|.ite 73
 (.step (.bin .eql 30 6)<|.step (.un .not 74)<|.ite 75
 (.step (.ci .i64 0)<|.ret [76])
 (.step (.ci .i64 1)<|.step (.bin .add 2 76)<|.tail 111 [0,1,77,3,4,5,6,7,8,9,10,11,12,13,14,15,16,17,18,19,20,21,22,23,24,25,26,27,28,29,30,31,32,33,34,35,36,37,38,39,40,41,42,43,44,45,46,47,48,49,50]))
 (.step (.cs [99,104,111,115,101,110])<|.step (.bin .eql 53 74)<|.ite 75
 (.step (.bin .eql 31 7)<|.step (.un .not 76)<|.ite 77
 (.step (.ci .i64 0)<|.ret [78])
 (.step (.ci .i64 1)<|.step (.bin .add 2 78)<|.tail 111 [0,1,79,3,4,5,6,7,8,9,10,11,12,13,14,15,16,17,18,19,20,21,22,23,24,25,26,27,28,29,30,31,32,33,34,35,36,37,38,39,40,41,42,43,44,45,46,47,48,49,50]))
 (.step (.cs [102,108,97,103,115])<|.step (.bin .eql 53 76)<|.ite 77
 (.step (.bin .eql 32 8)<|.step (.un .not 78)<|.ite 79
 (.step (.ci .i64 0)<|.ret [80])
 (.step (.ci .i64 1)<|.step (.bin .add 2 80)<|.tail 111 [0,1,81,3,4,5,6,7,8,9,10,11,12,13,14,15,16,17,18,19,20,21,22,23,24,25,26,27,28,29,30,31,32,33,34,35,36,37,38,39,40,41,42,43,44,45,46,47,48,49,50]))
 (.step (.cs [99,111,115,116])<|.step (.bin .eql 53 78)<|.ite 79
 (.step (.bin .eql 33 9)<|.step (.un .not 80)<|.ite 81
 (.step (.ci .i64 0)<|.ret [82])
 (.step (.ci .i64 1)<|.step (.bin .add 2 82)<|.tail 111 [0,1,83,3,4,5,6,7,8,9,10,11,12,13,14,15,16,17,18,19,20,21,22,23,24,25,26,27,28,29,30,31,32,33,34,35,36,37,38,39,40,41,42,43,44,45,46,47,48,49,50]))
 (.step (.cs [112,114,105,111,114,105,116,121])<|.step (.bin .eql 53 80)<|.ite 81
 (.step (.bin .eql 34 10)<|.step (.un .not 82)<|.ite 83
 (.step (.ci .i64 0)<|.ret [84])
 (.step (.ci .i64 1)<|.step (.bin .add 2 84)<|.tail 111 [0,1,85,3,4,5,6,7,8,9,10,11,12,13,14,15,16,17,18,19,20,21,22,23,24,25,26,27,28,29,30,31,32,33,34,35,36,37,38,39,40,41,42,43,44,45,46,47,48,49,50]))
 (.step (.cs [100,101,97,100,108,105,110,101])<|.step (.bin .eql 53 82)<|.ite 83
 (.step (.bin .eql 35 11)<|.step (.un .not 84)<|.ite 85
 (.step (.ci .i64 0)<|.ret [86])
 (.step (.ci .i64 1)<|.step (.bin .add 2 86)<|.tail 111 [0,1,87,3,4,5,6,7,8,9,10,11,12,13,14,15,16,17,18,19,20,21,22,23,24,25,26,27,28,29,30,31,32,33,34,35,36,37,38,39,40,41,42,43,44,45,46,47,48,49,50]))
 (.step (.cs [114,101,116,114,121])<|.step (.bin .eql 53 84)<|.ite 85
 (.step (.bin .eql 36 12)<|.step (.un .not 86)<|.ite 87
 (.step (.ci .i64 0)<|.ret [88])
 (.step (.ci .i64 1)<|.step (.bin .add 2 88)<|.tail 111 [0,1,89,3,4,5,6,7,8,9,10,11,12,13,14,15,16,17,18,19,20,21,22,23,24,25,26,27,28,29,30,31,32,33,34,35,36,37,38,39,40,41,42,43,44,45,46,47,48,49,50]))
 (.step (.cs [101,112,111,99,104])<|.step (.bin .eql 53 86)<|.ite 87
 (.step (.bin .eql 37 13)<|.step (.un .not 88)<|.ite 89
 (.step (.ci .i64 0)<|.ret [90])
 (.step (.ci .i64 1)<|.step (.bin .add 2 90)<|.tail 111 [0,1,91,3,4,5,6,7,8,9,10,11,12,13,14,15,16,17,18,19,20,21,22,23,24,25,26,27,28,29,30,31,32,33,34,35,36,37,38,39,40,41,42,43,44,45,46,47,48,49,50]))
 (.step (.cs [98,97,115,101])<|.step (.bin .eql 53 88)<|.ite 89
 (.step (.bin .eql 38 14)<|.step (.un .not 90)<|.ite 91
 (.step (.ci .i64 0)<|.ret [92])
 (.step (.ci .i64 1)<|.step (.bin .add 2 92)<|.tail 111 [0,1,93,3,4,5,6,7,8,9,10,11,12,13,14,15,16,17,18,19,20,21,22,23,24,25,26,27,28,29,30,31,32,33,34,35,36,37,38,39,40,41,42,43,44,45,46,47,48,49,50]))
 (.step (.cs [100,105,103,101,115,116])<|.step (.bin .eql 53 90)<|.ite 91
 (.step (.bin .eql 39 15)<|.step (.un .not 92)<|.ite 93
 (.step (.ci .i64 0)<|.ret [94])
 (.step (.ci .i64 1)<|.step (.bin .add 2 94)<|.tail 111 [0,1,95,3,4,5,6,7,8,9,10,11,12,13,14,15,16,17,18,19,20,21,22,23,24,25,26,27,28,29,30,31,32,33,34,35,36,37,38,39,40,41,42,43,44,45,46,47,48,49,50]))
 (.step (.cs [108,97,103])<|.step (.bin .eql 53 92)<|.ite 93
 (.step (.bin .eql 40 16)<|.step (.un .not 94)<|.ite 95
 (.step (.ci .i64 0)<|.ret [96])
 (.step (.ci .i64 1)<|.step (.bin .add 2 96)<|.tail 111 [0,1,97,3,4,5,6,7,8,9,10,11,12,13,14,15,16,17,18,19,20,21,22,23,24,25,26,27,28,29,30,31,32,33,34,35,36,37,38,39,40,41,42,43,44,45,46,47,48,49,50]))
 (.step (.cs [99,111,100,101])<|.step (.bin .eql 53 94)<|.ite 95
 (.step (.bin .eql 41 17)<|.step (.un .not 96)<|.ite 97
 (.step (.ci .i64 0)<|.ret [98])
 (.step (.ci .i64 1)<|.step (.bin .add 2 98)<|.tail 111 [0,1,99,3,4,5,6,7,8,9,10,11,12,13,14,15,16,17,18,19,20,21,22,23,24,25,26,27,28,29,30,31,32,33,34,35,36,37,38,39,40,41,42,43,44,45,46,47,48,49,50]))
 (.step (.cs [119,97,110,116])<|.step (.bin .eql 53 96)<|.ite 97
 (.step (.bin .eql 42 18)<|.step (.un .not 98)<|.ite 99
 (.step (.ci .i64 0)<|.ret [100])
 (.step (.ci .i64 1)<|.step (.bin .add 2 100)<|.tail 111 [0,1,101,3,4,5,6,7,8,9,10,11,12,13,14,15,16,17,18,19,20,21,22,23,24,25,26,27,28,29,30,31,32,33,34,35,36,37,38,39,40,41,42,43,44,45,46,47,48,49,50]))
 (.step (.ci .i64 0)<|.ret [98])))))))))))))))))))))))
 (.step (.ci .i64 1)<|.ret [52])
def WR:aH:=.tree 1<|.step (.slen 0)<|.step (.ci .i64 0)<|.step (.bin .gtr 1 2)<|.ite 3
 (.step (.call 61 [0] 0)<|.step (.bin .eql 4 2)<|.ite 5
 (.ret [2])
 (.step (.iC 0 4 1)<|.tail 60 [6]))
 (.step (.ci .i64 1)<|.ret [4])
def d11:aH:=.tree 4<|.step (.bin .lss 3 2)<|.ite 4
 (.step (.ci .u64 127)<|.step (.bin .and 0 5)<|.step (.conv .u8 6)<|.step (.ci .u8 128)<|.step (.bin .or 7 8)<|.step (.idx 1 3)<|.step (.upd 1 0 1 10 [9])<|.step (.ci .u64 7)<|.step (.bin .shr 0 12)<|
 .step (.ci .i64 1)<|.step (.bin .add 3 14)<|.tail 11 [13,11,2,15])
 (.step (.ci .i64 0)<|.ret [5,1])
def d6:aH:=.tree 3<|.step (.bin .lss 2 1)<|.ite 3
 (.step (.at 2 0 2)<|.step (.cell 0 4)<|.step (.cell 1 4)<|.step (.len 5)<|.step (.ci .i64 18)<|.step (.bin .gtr 7 8)<|.ite 9
 (.step (.ci .i64 0)<|.ret [10])
 (.step (.call 3 [5] 0)<|.step (.un .not 10)<|.ite 11
 (.step (.ci .i64 0)<|.ret [12])
 (.step (.len 0)<|.step (.ci .i64 40)<|.step (.bin .gtr 12 13)<|.ite 14
 (.step (.call 7 [5] 0)<|.step (.slen 15)<|.step (.ci .i64 100)<|.step (.bin .gtr 16 17)<|.ite 18
 (.step (.ci .i64 0)<|.ret [19])
 (.step (.ci .i64 1)<|.step (.bin .add 2 19)<|.tail 6 [0,1,20]))
 (.step (.ci .i64 1)<|.step (.bin .add 2 15)<|.tail 6 [0,1,16]))))
 (.step (.ci .i64 1)<|.ret [4])
def WA:aH:=.tree 6<|.step (.bin .lss 3 2)<|.ite 6
 (.step (.ci .i64 0)<|.step (.bin .eql 3 7)<|.step (.call 49 [4,5,1,8] 0)<|.step (.call 49 [4,5,1,8] 1)<|.step (.call 49 [4,5,1,8] 2)<|.step (.call 49 [4,5,1,8] 3)<|.step (.call 49 [4,5,1,8] 4)<|
 .step (.bin .neq 11 7)<|.ite 14
 (.ret [7,11,12,13])
 (.step (.call 52 [10,12,13] 0)<|.step (.call 52 [10,12,13] 1)<|.step (.call 52 [10,12,13] 2)<|.step (.call 52 [10,12,13] 3)<|.step (.call 52 [10,12,13] 4)<|.step (.call 52 [10,12,13] 5)<|
 .step (.bin .neq 18 7)<|.ite 21
 (.ret [7,18,19,20])
 (.step (.mk [16,17])<|.step (.ml [22])<|.step (.app 2 32 0 23)<|.step (.ci .i64 1)<|.step (.bin .add 3 25)<|.tail 48 [24,10,2,26,19,20])))
 (.step (.ci .i64 1)<|.ret [7,0,4,5])
def Ds:List aH:=[.vg fun _=>none,d1,d2,d3,d4,d5,d6,d7,d8,d9,d10,d11,d12,d13,VH,VI,VJ,VK,VL,VN,VO,VP,VQ,VT,VU,VW,VX,VY,VZ,V3,V4,V5,V6,V7,V8,V9,Wh,Wi,Wj,Wl,Wn,Wp,Wq,Ws,Wu,Wv,Wx,Wy,WA,WB,WC,WE,WG,WH,WI,WJ,WL,WM,WO,WQ,WR,WS,WT,WU,WV,WW,WX,WY,WZ,W9,Xa,Xb,Xc,Xd,Xe,Xf,Xg,Xh,Xi,Xj,Xk,Xl,Xm,Xn,Xo,Xp,Xq,Xr,Xt,Xu,Xv,Xw,Xx,Xy,Xz,XA,XB,XC,XD,XE,Vj,Vk,Vl,Vm,Vo,Vp,Vq,Vr,Vs,Vt,Vu,Vw,Vx,Vy,Vz,VA,VB,VD,VE,VF,VG]
noncomputable abbrev TT:eX:=qJ Ds
end
end M
end Go.Proofs.YtpkihgnabejkkaaGreatDoor
