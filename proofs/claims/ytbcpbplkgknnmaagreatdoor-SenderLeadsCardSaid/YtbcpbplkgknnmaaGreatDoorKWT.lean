/- What functions and loops compute: trees of nodes, found by a driver. -/
import Derived.Test.YtbcpbplkgknnmaaGreatDoorAbsJ
import Derived.Test.YtbcpbplkgknnmaaGreatDoorAbsPl
import Derived.Test.YtbcpbplkgknnmaaGreatDoorAbsTold
import Derived.Test.YtbcpbplkgknnmaaGreatDoorAbsTold2
namespace Go.Proofs.YtbcpbplkgknnmaaGreatDoor
open Go Go.Abs
set_option maxRecDepth 100000
set_option linter.unusedVariables false
set_option linter.unusedSimpArgs false
namespace W
noncomputable section
/-- postmark/postmarklaw12.Few, function 13, plain functions []. -/
def d4 : PDef := .fn [.sc] [.sc] <|
  .step (.len 0) <|
  .step (.ci .i64 0) <|
  .step (.call 5 [0, 1, 2] 0) <|
  .step (.bin .eql 3 2) <|
  .ite 4
    (.step (.cb false) <|
    .ret [5])
    (.step (.ci .i64 40) <|
    .step (.bin .leq 1 5) <|
    .ret [6])
/-- postmark/utf.Good, function 253, plain functions []. -/
def d33 : PDef := .fn [.sc] [.sc] <|
  .step (.call 34 [0] 0) <|
  .ret [1]
/-- slices.Equal[postmark/descr.Descr,postmark/entry.Entry], function 91, plain functions []. -/
def d62 : PDef := .fn [.sc, .sc] [.sc] <|
  .step (.len 0) <|
  .step (.len 1) <|
  .step (.bin .neq 2 3) <|
  .ite 4
    (.step (.cb false) <|
    .ret [5])
    (.step (.ci .i64 0) <|
    .step (.call 63 [0, 1, 2, 5] 0) <|
    .step (.bin .eql 6 5) <|
    .ite 7
      (.step (.cb false) <|
      .ret [8])
      (.step (.cb true) <|
      .ret [8]))
/-- math/bits.Add64 is told. -/
abbrev d41 : PDef := .prim add64P
/-- (postmark/delta.Snapshot).Check, function 141, plain functions []. -/
def d25 : PDef := .fn [.ag 2] [.sc] <|
  .step (.cell 0 0) <|
  .step (.cell 1 0) <|
  .step (.call 26 [2] 0) <|
  .ret [3]
/-- postmark/table.Same$1, function 90, plain functions []. -/
def d61 : PDef := .fn [.ag 2, .ag 2] [.sc] <|
  .step (.cell 0 0) <|
  .step (.cell 1 0) <|
  .step (.cell 0 1) <|
  .step (.cell 1 1) <|
  .step (.bin .eql 3 5) <|
  .ite 6
    (.step (.call 62 [2, 4] 0) <|
    .ret [7])
    (.step (.cb false) <|
    .ret [7])
/-- postmark/delta.together, function 152, plain functions []. -/
def d36 : PDef := .fn [.sc, .sc] [.sc, .sc] <|
  .step (.len 0) <|
  .step (.len 1) <|
  .step (.bin .add 2 3) <|
  .step (.ml []) <|
  .step (.ci .u64 0) <|
  .step (.mk [5, 6]) <|
  .step (.ci .i64 0) <|
  .step (.rep 2 32 7 8 4) <|
  .step (.call 37 [0, 1, 9] 0) <|
  .step (.bin .eql 10 8) <|
  .ite 11
    (.step (.ci .i64 3) <|
    .ret [5, 12])
    (.step (.call 37 [0, 1, 9] 1) <|
    .step (.len 12) <|
    .step (.ci .i64 256) <|
    .step (.bin .gtr 13 14) <|
    .ite 15
      (.step (.ci .i64 13) <|
      .ret [5, 16])
      (.ret [12, 8]))
/-- internal/bytealg.abigen_runtime_cmpstring is told. -/
abbrev d40 : PDef := .prim cmpP
/-- (postmark/table.Table).Check, function 18, plain functions []. -/
def d26 : PDef := .fn [.sc] [.sc] <|
  .step (.len 0) <|
  .step (.ci .i64 256) <|
  .step (.bin .gtr 1 2) <|
  .ite 3
    (.step (.ci .i64 13) <|
    .ret [4])
    (.step (.cs []) <|
    .step (.ci .i64 0) <|
    .step (.call 27 [4, 0, 1, 5] 0) <|
    .step (.bin .eql 6 5) <|
    .ite 7
      (.step (.call 27 [4, 0, 1, 5] 1) <|
      .ret [8])
      (.ret [5]))
/-- postmark/delta.Apply, function 79, plain functions []. -/
def d24 : PDef := .fn [.ag 2, .ag 3] [.ag 2, .sc] <|
  .step (.cell 0 0) <|
  .step (.cell 1 0) <|
  .step (.cell 0 1) <|
  .step (.cell 1 1) <|
  .step (.cell 2 1) <|
  .step (.mk [2, 3]) <|
  .step (.call 25 [7] 0) <|
  .step (.ci .i64 0) <|
  .step (.bin .neq 8 9) <|
  .ite 10
    (.step (.ci .u64 0) <|
    .step (.ml []) <|
    .step (.mk [11, 12]) <|
    .ret [13, 8])
    (.step (.mk [4, 5, 6]) <|
    .step (.call 35 [11] 0) <|
    .step (.bin .neq 12 9) <|
    .ite 13
      (.step (.ci .u64 0) <|
      .step (.ml []) <|
      .step (.mk [14, 15]) <|
      .ret [16, 12])
      (.step (.bin .neq 2 4) <|
      .ite 14
        (.step (.ci .u64 0) <|
        .step (.ml []) <|
        .step (.ci .i64 19) <|
        .step (.mk [15, 16]) <|
        .ret [18, 17])
        (.step (.call 36 [3, 6] 0) <|
        .step (.call 36 [3, 6] 1) <|
        .step (.bin .neq 16 9) <|
        .ite 17
          (.step (.ci .u64 0) <|
          .step (.ml []) <|
          .step (.mk [18, 19]) <|
          .ret [20, 16])
          (.step (.mk [5, 15]) <|
          .ret [18, 9]))))
/-- slices.Index[[]uint64,uint64], function 148, plain functions []. -/
def d21 : PDef := .fn [.sc, .sc] [.sc] <|
  .step (.len 0) <|
  .step (.ci .i64 0) <|
  .step (.call 22 [0, 1, 2, 3] 0) <|
  .step (.bin .eql 4 3) <|
  .ite 5
    (.step (.call 22 [0, 1, 2, 3] 1) <|
    .ret [6])
    (.step (.ci .i64 (-1)) <|
    .ret [6])
/-- postmark/delta.Diff, function 147, plain functions []. -/
def d49 : PDef := .fn [.ag 2, .ag 2] [.ag 3, .sc] <|
  .step (.cell 0 0) <|
  .step (.cell 1 0) <|
  .step (.cell 0 1) <|
  .step (.cell 1 1) <|
  .step (.mk [2, 3]) <|
  .step (.call 25 [6] 0) <|
  .step (.ci .i64 0) <|
  .step (.bin .neq 7 8) <|
  .ite 9
    (.step (.ci .u64 0) <|
    .step (.ml []) <|
    .step (.mk [10, 10, 11]) <|
    .ret [12, 7])
    (.step (.mk [4, 5]) <|
    .step (.call 25 [10] 0) <|
    .step (.bin .neq 11 8) <|
    .ite 12
      (.step (.ci .u64 0) <|
      .step (.ml []) <|
      .step (.mk [13, 13, 14]) <|
      .ret [15, 11])
      (.step (.bin .leq 4 2) <|
      .ite 13
        (.step (.ci .u64 0) <|
        .step (.ml []) <|
        .step (.ci .i64 20) <|
        .step (.mk [14, 14, 15]) <|
        .ret [17, 16])
        (.step (.call 50 [5, 3] 0) <|
        .step (.un .not 14) <|
        .ite 15
          (.step (.ci .u64 0) <|
          .step (.ml []) <|
          .step (.ci .i64 21) <|
          .step (.mk [16, 16, 17]) <|
          .ret [19, 18])
          (.step (.len 5) <|
          .step (.ml []) <|
          .step (.call 53 [3, 5, 16, 8, 2, 4, 17] 0) <|
          .step (.call 53 [3, 5, 16, 8, 2, 4, 17] 1) <|
          .step (.mk [2, 4, 19]) <|
          .ret [20, 8]))))
/-- postmark/postmarklaw24.SenderLeads, function 10, plain functions []. -/
def d0 : PDef := .fn [.sc, .sc] [.sc] <|
  .step (.ci .u8 3) <|
  .step (.bin .rem 0 2) <|
  .step (.conv .i64 3) <|
  .step (.ci .i64 1) <|
  .step (.bin .add 4 5) <|
  .step (.bin .leq 5 6) <|
  .ite 7
    (.step (.ci .i64 3) <|
    .step (.bin .leq 6 8) <|
    .step (.un .not 9) <|
    .ite 10
      (.step (.cb false) <|
      .ret [11])
      (.step (.len 1) <|
      .step (.ci .i64 30) <|
      .step (.bin .gtr 11 12) <|
      .ite 13
        (.step (.cb true) <|
        .ret [14])
        (.step (.ci .i64 0) <|
        .step (.ml []) <|
        .step (.ci .u64 0) <|
        .step (.call 1 [1, 11, 14, 15, 6, 15, 16] 0) <|
        .step (.bin .eql 17 14) <|
        .ite 18
          (.step (.call 1 [1, 11, 14, 15, 6, 15, 16] 1) <|
          .ret [19])
          (.step (.cb true) <|
          .ret [19]))))
    (.step (.cb false) <|
    .ret [8])
/-- unicode/utf8.ValidString is told. -/
abbrev d34 : PDef := .prim validP
/-- slices.Contains[[]uint64,uint64], function 76, plain functions []. -/
def d20 : PDef := .fn [.sc, .sc] [.sc] <|
  .step (.call 21 [0, 1] 0) <|
  .step (.ci .i64 0) <|
  .step (.bin .geq 2 3) <|
  .ret [4]
/-- (postmark/entry.Entry).Put, function 155, plain functions []. -/
def d12 : PDef := .fn [.ag 2] [.sc] <|
  .step (.cell 0 0) <|
  .step (.cell 1 0) <|
  .step (.slen 1) <|
  .step (.conv .u64 3) <|
  .step (.call 7 [4] 0) <|
  .step (.bin .add 5 1) <|
  .step (.slen 2) <|
  .step (.conv .u64 7) <|
  .step (.call 7 [8] 0) <|
  .step (.bin .add 6 9) <|
  .step (.bin .add 10 2) <|
  .ret [11]
/-- postmark/descr.Cmp, function 206, plain functions []. -/
def d39 : PDef := .fn [.sc, .sc] [.sc] <|
  .step (.call 6 [0] 0) <|
  .step (.call 6 [1] 0) <|
  .step (.call 40 [2, 3] 0) <|
  .ret [4]
/-- postmark/varint.Size, function 169, plain functions []. -/
def d8 : PDef := .fn [.sc] [.sc] <|
  .step (.ci .i64 1) <|
  .step (.call 9 [0, 1] 0) <|
  .step (.call 9 [0, 1] 1) <|
  .ret [3]
/-- (postmark/table.Table).AtLeast, function 25, plain functions []. -/
def d50 : PDef := .fn [.sc, .sc] [.sc] <|
  .step (.len 1) <|
  .step (.ci .i64 0) <|
  .step (.call 51 [0, 3, 1, 2, 3] 0) <|
  .step (.bin .eql 4 3) <|
  .ite 5
    (.step (.cb false) <|
    .ret [6])
    (.step (.cb true) <|
    .ret [6])
/-- postmark/table.Same, function 20, plain functions []. -/
def d58 : PDef := .fn [.sc, .sc] [.sc] <|
  .step (.call 59 [0, 1] 0) <|
  .ret [2]
/-- (postmark/descr.Descr).Key, function 81, plain functions []. -/
def d6 : PDef := .fn [.sc] [.sc] <|
  .step (.len 0) <|
  .step (.conv .u64 1) <|
  .step (.call 7 [2] 0) <|
  .step (.bytes 3) <|
  .step (.ml []) <|
  .step (.app 1 1 5 4) <|
  .step (.slen 3) <|
  .step (.ci .i64 0) <|
  .step (.call 11 [0, 1, 8, 6] 0) <|
  .step (.call 11 [0, 1, 8, 6] 1) <|
  .step (.len 10) <|
  .step (.str 10) <|
  .ret [12]
/-- postmark/utf.Check, function 189, plain functions []. -/
def d32 : PDef := .fn [.sc, .sc, .sc] [.sc] <|
  .step (.slen 0) <|
  .step (.bin .lss 3 1) <|
  .ite 4
    (.step (.ci .i64 13) <|
    .ret [5])
    (.step (.bin .gtr 3 2) <|
    .ite 5
      (.step (.ci .i64 13) <|
      .ret [6])
      (.step (.call 33 [0] 0) <|
      .step (.un .not 6) <|
      .ite 7
        (.step (.ci .i64 11) <|
        .ret [8])
        (.step (.ci .i64 0) <|
        .ret [8])))
/-- (postmark/descr.Descr).Check, function 157, plain functions []. -/
def d29 : PDef := .fn [.sc] [.sc] <|
  .step (.len 0) <|
  .step (.conv .u64 1) <|
  .step (.ci .u64 0) <|
  .step (.bin .eql 2 3) <|
  .ite 4
    (.step (.ci .i64 12) <|
    .ret [5])
    (.step (.ci .u64 16) <|
    .step (.bin .gtr 2 5) <|
    .ite 6
      (.step (.ci .i64 13) <|
      .ret [7])
      (.step (.ci .i64 0) <|
      .step (.call 30 [0, 1, 7] 0) <|
      .step (.bin .eql 8 7) <|
      .ite 9
        (.step (.call 30 [0, 1, 7] 1) <|
        .ret [10])
        (.ret [7])))
/-- (postmark/delta.Snapshot).Clone, function 140, plain functions []. -/
def d43 : PDef := .fn [.ag 2] [.ag 2] <|
  .step (.cell 0 0) <|
  .step (.cell 1 0) <|
  .step (.len 2) <|
  .step (.ml []) <|
  .step (.ci .u64 0) <|
  .step (.mk [4, 5]) <|
  .step (.ci .i64 0) <|
  .step (.rep 2 32 6 7 3) <|
  .step (.call 44 [2, 3, 7, 1, 8] 0) <|
  .step (.call 44 [2, 3, 7, 1, 8] 1) <|
  .step (.mk [1, 10]) <|
  .ret [11]
/-- (postmark/entry.Entry).Check, function 212, plain functions []. -/
def d31 : PDef := .fn [.ag 2] [.sc] <|
  .step (.cell 0 0) <|
  .step (.cell 1 0) <|
  .step (.ci .i64 1) <|
  .step (.ci .i64 64) <|
  .step (.call 32 [1, 3, 4] 0) <|
  .step (.ci .i64 0) <|
  .step (.bin .neq 5 6) <|
  .ite 7
    (.ret [5])
    (.step (.ci .i64 256) <|
    .step (.call 32 [2, 6, 8] 0) <|
    .ret [9])
/-- slices.EqualFunc[postmark/table.Table,postmark/table.Table,postmark/table.Row,postmark/table.Row], function 89, plain functions [none, none, some 90]. -/
def d59 : PDef := .fn [.sc, .sc] [.sc] <|
  .step (.len 0) <|
  .step (.len 1) <|
  .step (.bin .neq 2 3) <|
  .ite 4
    (.step (.cb false) <|
    .ret [5])
    (.step (.ci .i64 0) <|
    .step (.call 60 [1, 0, 2, 5] 0) <|
    .step (.bin .eql 6 5) <|
    .ite 7
      (.step (.cb false) <|
      .ret [8])
      (.step (.cb true) <|
      .ret [8]))
/-- (postmark/table.Row).check, function 82, plain functions []. -/
def d28 : PDef := .fn [.ag 2] [.sc] <|
  .step (.cell 0 0) <|
  .step (.cell 1 0) <|
  .step (.call 29 [1] 0) <|
  .step (.ci .i64 0) <|
  .step (.bin .neq 3 4) <|
  .ite 5
    (.ret [3])
    (.step (.ci .u64 0) <|
    .step (.bin .eql 2 6) <|
    .ite 7
      (.step (.ci .i64 18) <|
      .ret [8])
      (.ret [4]))
/-- (postmark/delta.Delta).Check, function 151, plain functions []. -/
def d35 : PDef := .fn [.ag 3] [.sc] <|
  .step (.cell 0 0) <|
  .step (.cell 1 0) <|
  .step (.cell 2 0) <|
  .step (.bin .leq 2 1) <|
  .ite 4
    (.step (.ci .i64 20) <|
    .ret [5])
    (.step (.call 26 [3] 0) <|
    .ret [5])
/-- slices.Clone[postmark/descr.Descr,postmark/entry.Entry] is told. -/
abbrev d38 : PDef := .prim (cloneP 32 2)
/-- postmark/varint.Put, function 96, plain functions []. -/
def d7 : PDef := .fn [.sc] [.sc] <|
  .step (.call 8 [0] 0) <|
  .step (.ci .u8 0) <|
  .step (.rep 1 1 2 1 1) <|
  .step (.len 3) <|
  .step (.ci .i64 0) <|
  .step (.call 10 [0, 3, 4, 5] 0) <|
  .step (.call 10 [0, 3, 4, 5] 1) <|
  .step (.len 7) <|
  .step (.ci .i64 1) <|
  .step (.bin .sub 8 9) <|
  .step (.idx 7 10) <|
  .step (.at 1 7 11) <|
  .step (.cell 0 12) <|
  .step (.ci .u8 127) <|
  .step (.bin .and 13 14) <|
  .step (.upd 1 0 7 11 [15]) <|
  .step (.str 16) <|
  .ret [17]
/-- postmark/postmarklaw13.Few, function 12, plain functions []. -/
def d2 : PDef := .fn [.sc] [.sc] <|
  .step (.len 0) <|
  .step (.ci .i64 0) <|
  .step (.call 3 [0, 1, 2] 0) <|
  .step (.bin .eql 3 2) <|
  .ite 4
    (.step (.cb false) <|
    .ret [5])
    (.step (.ci .i64 300) <|
    .step (.bin .leq 1 5) <|
    .ret [6])
/-- (*postmark/sender.Sender).Publish, function 65, handed blocks, plain functions []. -/
def d65 : PDef := .tree 5 <|
  .step (.mk [0, 1]) <|
  .step (.call 25 [5] 0) <|
  .step (.ci .i64 0) <|
  .step (.bin .neq 6 7) <|
  .ite 8
    (.ret [7, 6, 3, 4])
    (.step (.ci .u64 0) <|
    .step (.bin .eql 0 9) <|
    .ite 10
      (.step (.ci .i64 18) <|
      .ret [7, 11, 3, 4])
      (.step (.len 3) <|
      .step (.bin .gtr 11 7) <|
      .ite 12
        (.step (.ci .i64 1) <|
        .step (.bin .sub 11 13) <|
        .step (.idx 3 14) <|
        .step (.at 2 3 15) <|
        .step (.cell 0 16) <|
        .step (.cell 1 16) <|
        .step (.bin .leq 0 17) <|
        .ite 19
          (.step (.ci .i64 20) <|
          .ret [7, 20, 3, 4])
          (.step (.call 50 [1, 18] 0) <|
          .step (.un .not 20) <|
          .ite 21
            (.step (.ci .i64 21) <|
            .ret [7, 22, 3, 4])
            (.step (.call 43 [5] 0) <|
            .step (.cell 0 22) <|
            .step (.cell 1 22) <|
            .step (.mk [23, 24]) <|
            .step (.ml [25]) <|
            .step (.app 2 32 3 26) <|
            .step (.len 27) <|
            .step (.ci .i64 8) <|
            .step (.bin .gtr 28 29) <|
            .ite 30
              (.step (.idx 27 7) <|
              .step (.at 2 27 31) <|
              .step (.cell 0 32) <|
              .step (.bin .eql 33 4) <|
              .ite 34
                (.step (.lsub 2 27 13 28) <|
                .step (.ml []) <|
                .step (.app 2 32 36 35) <|
                .ret [7, 7, 37, 9])
                (.step (.lsub 2 27 13 28) <|
                .step (.ml []) <|
                .step (.app 2 32 36 35) <|
                .ret [7, 7, 37, 4]))
              (.ret [7, 7, 27, 4]))))
        (.step (.call 43 [5] 0) <|
        .step (.cell 0 13) <|
        .step (.cell 1 13) <|
        .step (.mk [14, 15]) <|
        .step (.ml [16]) <|
        .step (.app 2 32 3 17) <|
        .step (.len 18) <|
        .step (.ci .i64 8) <|
        .step (.bin .gtr 19 20) <|
        .ite 21
          (.step (.idx 18 7) <|
          .step (.at 2 18 22) <|
          .step (.cell 0 23) <|
          .step (.bin .eql 24 4) <|
          .ite 25
            (.step (.ci .i64 1) <|
            .step (.lsub 2 18 26 19) <|
            .step (.ml []) <|
            .step (.app 2 32 28 27) <|
            .ret [7, 7, 29, 9])
            (.step (.ci .i64 1) <|
            .step (.lsub 2 18 26 19) <|
            .step (.ml []) <|
            .step (.app 2 32 28 27) <|
            .ret [7, 7, 29, 4]))
          (.ret [7, 7, 18, 4]))))
/-- postmark/postmarklaw24.next, function 70, handed blocks, plain functions []. -/
def d64 : PDef := .tree 8 <|
  .step (.call 45 [5, 6, 7] 0) <|
  .step (.call 45 [5, 6, 7] 1) <|
  .step (.call 45 [5, 6, 7] 2) <|
  .step (.call 45 [5, 6, 7] 3) <|
  .step (.bin .add 9 3) <|
  .step (.mk [9, 10]) <|
  .step (.mk [9, 12, 2]) <|
  .step (.call 24 [13, 14] 0) <|
  .step (.cell 0 15) <|
  .step (.cell 1 15) <|
  .step (.call 24 [13, 14] 1) <|
  .step (.ci .i64 0) <|
  .step (.bin .neq 18 19) <|
  .ite 20
    (.ret [19, 1, 2])
    (.ret [19, 16, 17])
/-- postmark/delta.Same$1, function 149, handed blocks, plain functions []. -/
def d57 : PDef := .tree 4 <|
  .step (.bin .eql 2 0) <|
  .ite 4
    (.step (.call 58 [3, 1] 0) <|
    .step (.ci .i64 0) <|
    .ret [6, 5])
    (.step (.cb false) <|
    .step (.ci .i64 0) <|
    .ret [6, 5])
/-- (*postmark/sender.Sender).Ack, function 67, handed blocks, plain functions []. -/
def d56 : PDef := .tree 4 <|
  .step (.bin .leq 0 3) <|
  .ite 4
    (.step (.cb false) <|
    .step (.ci .i64 0) <|
    .ret [6, 5, 2, 3])
    (.step (.call 47 [0, 1, 2, 3] 0) <|
    .step (.call 47 [0, 1, 2, 3] 1) <|
    .step (.call 47 [0, 1, 2, 3] 2) <|
    .step (.un .not 7) <|
    .ite 8
      (.step (.cb false) <|
      .step (.ci .i64 0) <|
      .ret [10, 9, 2, 3])
      (.step (.len 2) <|
      .step (.lsub 2 2 6 9) <|
      .step (.ml []) <|
      .step (.app 2 32 11 10) <|
      .step (.cb true) <|
      .step (.ci .i64 0) <|
      .ret [14, 13, 12, 0]))
/-- (*postmark/sender.Sender).Kept, function 77, handed blocks, plain functions []. -/
def d54 : PDef := .tree 3 <|
  .step (.len 1) <|
  .step (.ci .i64 0) <|
  .step (.ml []) <|
  .step (.call 55 [5, 1, 3, 4, 0, 2] 0) <|
  .step (.call 55 [5, 1, 3, 4, 0, 2] 1) <|
  .ret [4, 7]
/-- (*postmark/sender.Sender).find, function 143, handed blocks, plain functions []. -/
def d47 : PDef := .tree 4 <|
  .step (.len 2) <|
  .step (.ci .i64 0) <|
  .step (.call 48 [0, 2, 4, 5, 1, 3] 0) <|
  .step (.bin .eql 6 5) <|
  .ite 7
    (.step (.call 48 [0, 2, 4, 5, 1, 3] 1) <|
    .step (.cb true) <|
    .ret [5, 8, 9])
    (.step (.cb false) <|
    .ret [5, 5, 8])
/-- (*postmark/sender.Sender).Message, function 74, handed blocks, plain functions []. -/
def d46 : PDef := .tree 3 <|
  .step (.call 45 [0, 1, 2] 0) <|
  .step (.call 45 [0, 1, 2] 1) <|
  .step (.call 45 [0, 1, 2] 2) <|
  .step (.call 45 [0, 1, 2] 3) <|
  .step (.un .not 6) <|
  .ite 7
    (.step (.ci .i64 0) <|
    .step (.ci .u64 0) <|
    .step (.ml []) <|
    .step (.ci .i64 24) <|
    .ret [8, 8, 9, 9, 10, 11])
    (.step (.bin .eql 4 2) <|
    .ite 8
      (.step (.ci .i64 0) <|
      .step (.ci .u64 0) <|
      .step (.ml []) <|
      .step (.ci .i64 24) <|
      .ret [9, 9, 10, 10, 11, 12])
      (.step (.call 47 [2, 0, 1, 2] 0) <|
      .step (.call 47 [2, 0, 1, 2] 1) <|
      .step (.call 47 [2, 0, 1, 2] 2) <|
      .ite 11
        (.step (.ci .i64 2) <|
        .step (.bin .geq 0 12) <|
        .ite 13
          (.step (.idx 1 10) <|
          .step (.at 2 1 14) <|
          .step (.cell 0 15) <|
          .step (.cell 1 15) <|
          .step (.mk [16, 17]) <|
          .step (.mk [4, 5]) <|
          .step (.call 49 [18, 19] 0) <|
          .step (.cell 0 20) <|
          .step (.cell 1 20) <|
          .step (.cell 2 20) <|
          .step (.call 49 [18, 19] 1) <|
          .step (.ci .i64 0) <|
          .step (.bin .neq 24 25) <|
          .ite 26
            (.step (.ci .u64 0) <|
            .step (.ml []) <|
            .ret [25, 25, 27, 27, 28, 24])
            (.step (.ci .i64 6) <|
            .ret [25, 27, 22, 21, 23, 25]))
          (.step (.ci .i64 5) <|
          .step (.ci .u64 0) <|
          .step (.ci .i64 0) <|
          .ret [16, 14, 4, 15, 5, 16]))
        (.step (.ci .i64 5) <|
        .step (.ci .u64 0) <|
        .step (.ci .i64 0) <|
        .ret [14, 12, 4, 13, 5, 14])))
/-- (*postmark/sender.Sender).Last, function 66, handed blocks, plain functions []. -/
def d45 : PDef := .tree 3 <|
  .step (.len 1) <|
  .step (.ci .i64 0) <|
  .step (.bin .eql 3 4) <|
  .ite 5
    (.step (.ci .u64 0) <|
    .step (.ml []) <|
    .step (.cb false) <|
    .ret [4, 6, 7, 8])
    (.step (.ci .i64 1) <|
    .step (.bin .sub 3 6) <|
    .step (.idx 1 7) <|
    .step (.at 2 1 8) <|
    .step (.cell 0 9) <|
    .step (.cell 1 9) <|
    .step (.mk [10, 11]) <|
    .step (.call 43 [12] 0) <|
    .step (.cell 0 13) <|
    .step (.cell 1 13) <|
    .step (.cb true) <|
    .ret [4, 14, 15, 16])
/-- (postmark/delta.Snapshot).Clone, function 140, the loop [0]. -/
def d44 : PDef := .tree 5 <|
  .step (.bin .lss 2 1) <|
  .ite 5
    (.step (.at 2 0 2) <|
    .step (.cell 0 6) <|
    .step (.cell 1 6) <|
    .step (.call 38 [7] 0) <|
    .step (.mk [9, 8]) <|
    .step (.ml [10]) <|
    .step (.app 2 32 4 11) <|
    .step (.ci .i64 1) <|
    .step (.bin .add 2 13) <|
    .tail 44 [0, 1, 14, 3, 12])
    (.step (.ci .i64 0) <|
    .ret [6, 4])
/-- postmark/postmarklaw24.SenderLeads, function 10, the loop [0]. -/
def d1 : PDef := .tree 7 <|
  .step (.bin .lss 2 1) <|
  .ite 7
    (.step (.at 5 0 2) <|
    .step (.cell 0 8) <|
    .step (.cell 1 8) <|
    .step (.cell 2 8) <|
    .step (.cell 3 8) <|
    .step (.cell 4 8) <|
    .step (.len 11) <|
    .step (.ci .i64 60) <|
    .step (.bin .gtr 14 15) <|
    .ite 16
      (.step (.cb true) <|
      .step (.ci .i64 0) <|
      .ret [18, 17])
      (.step (.call 2 [11] 0) <|
      .step (.un .not 17) <|
      .ite 18
        (.step (.cb true) <|
        .step (.ci .i64 0) <|
        .ret [20, 19])
        (.step (.ci .u8 8) <|
        .step (.bin .rem 9 19) <|
        .step (.ci .u8 4) <|
        .step (.bin .eql 20 21) <|
        .ite 22
          (.step (.call 56 [12, 4, 5, 6] 0) <|
          .step (.call 56 [12, 4, 5, 6] 1) <|
          .step (.call 56 [12, 4, 5, 6] 2) <|
          .step (.call 56 [12, 4, 5, 6] 3) <|
          .step (.call 45 [4, 25, 26] 0) <|
          .step (.call 45 [4, 25, 26] 1) <|
          .step (.call 45 [4, 25, 26] 2) <|
          .step (.call 45 [4, 25, 26] 3) <|
          .step (.call 46 [4, 25, 26] 0) <|
          .step (.call 46 [4, 25, 26] 1) <|
          .step (.call 46 [4, 25, 26] 2) <|
          .step (.call 46 [4, 25, 26] 3) <|
          .step (.call 46 [4, 25, 26] 4) <|
          .step (.call 46 [4, 25, 26] 5) <|
          .step (.ci .u64 0) <|
          .step (.bin .neq 26 37) <|
          .ite 38
            (.step (.call 54 [4, 25, 26] 0) <|
            .step (.call 54 [4, 25, 26] 1) <|
            .step (.call 20 [40, 26] 0) <|
            .step (.un .not 41) <|
            .ite 42
              (.step (.cb false) <|
              .step (.ci .i64 0) <|
              .ret [44, 43])
              (.step (.len 40) <|
              .step (.ci .i64 8) <|
              .step (.bin .gtr 43 44) <|
              .ite 45
                (.step (.cb false) <|
                .step (.ci .i64 0) <|
                .ret [47, 46])
                (.step (.ci .i64 0) <|
                .step (.bin .eql 36 46) <|
                .ite 30
                  (.step (.bin .neq 28 26) <|
                  .step (.binb .neq 47 48) <|
                  .ite 49
                    (.step (.cb false) <|
                    .ret [46, 50])
                    (.step (.bin .neq 36 46) <|
                    .ite 50
                      (.step (.cb false) <|
                      .step (.binb .neq 51 48) <|
                      .ite 52
                        (.ret [46, 51])
                        (.step (.ci .i64 1) <|
                        .step (.bin .add 2 53) <|
                        .tail 1 [0, 1, 54, 3, 4, 25, 26]))
                      (.step (.cb true) <|
                      .step (.binb .neq 51 48) <|
                      .ite 52
                        (.step (.cb false) <|
                        .ret [46, 53])
                        (.step (.ci .i64 5) <|
                        .step (.bin .eql 32 53) <|
                        .ite 54
                          (.step (.call 57 [28, 29, 33, 35] 0) <|
                          .step (.call 57 [28, 29, 33, 35] 1) <|
                          .step (.un .not 56) <|
                          .ite 57
                            (.step (.cb false) <|
                            .ret [46, 58])
                            (.step (.ci .i64 1) <|
                            .step (.bin .add 2 58) <|
                            .tail 1 [0, 1, 59, 3, 4, 25, 26]))
                          (.step (.bin .eql 26 37) <|
                          .step (.ml []) <|
                          .step (.mk [37, 56]) <|
                          .step (.mget 57 3 26) <|
                          .step (.cell 0 58) <|
                          .step (.cell 1 58) <|
                          .step (.mk [59, 60]) <|
                          .step (.mk [34, 33, 35]) <|
                          .step (.call 24 [61, 62] 0) <|
                          .step (.cell 0 63) <|
                          .step (.cell 1 63) <|
                          .step (.call 24 [61, 62] 1) <|
                          .step (.ci .i64 6) <|
                          .step (.bin .neq 32 67) <|
                          .ite 68
                            (.step (.cb false) <|
                            .ret [46, 69])
                            (.step (.bin .neq 66 46) <|
                            .ite 69
                              (.step (.cb false) <|
                              .ret [46, 70])
                              (.step (.bin .neq 34 26) <|
                              .ite 70
                                (.step (.cb false) <|
                                .ret [46, 71])
                                (.step (.call 57 [28, 29, 64, 65] 0) <|
                                .step (.call 57 [28, 29, 64, 65] 1) <|
                                .step (.un .not 72) <|
                                .ite 73
                                  (.step (.cb false) <|
                                  .ret [46, 74])
                                  (.step (.ci .i64 1) <|
                                  .step (.bin .add 2 74) <|
                                  .tail 1 [0, 1, 75, 3, 4, 25, 26])))))))))
                  (.step (.cb false) <|
                  .step (.binb .neq 47 48) <|
                  .ite 49
                    (.ret [46, 48])
                    (.step (.bin .neq 36 46) <|
                    .ite 50
                      (.step (.ci .i64 1) <|
                      .step (.bin .add 2 51) <|
                      .tail 1 [0, 1, 52, 3, 4, 25, 26])
                      (.ret [46, 48]))))))
            (.step (.call 54 [4, 25, 26] 0) <|
            .step (.call 54 [4, 25, 26] 1) <|
            .step (.len 40) <|
            .step (.ci .i64 8) <|
            .step (.bin .gtr 41 42) <|
            .ite 43
              (.step (.cb false) <|
              .step (.ci .i64 0) <|
              .ret [45, 44])
              (.step (.ci .i64 0) <|
              .step (.bin .eql 36 44) <|
              .ite 30
                (.step (.bin .neq 28 26) <|
                .step (.binb .neq 45 46) <|
                .ite 47
                  (.step (.cb false) <|
                  .ret [44, 48])
                  (.step (.bin .neq 36 44) <|
                  .ite 48
                    (.step (.cb false) <|
                    .step (.binb .neq 49 46) <|
                    .ite 50
                      (.ret [44, 49])
                      (.step (.ci .i64 1) <|
                      .step (.bin .add 2 51) <|
                      .tail 1 [0, 1, 52, 3, 4, 25, 26]))
                    (.step (.cb true) <|
                    .step (.binb .neq 49 46) <|
                    .ite 50
                      (.step (.cb false) <|
                      .ret [44, 51])
                      (.step (.ci .i64 5) <|
                      .step (.bin .eql 32 51) <|
                      .ite 52
                        (.step (.call 57 [28, 29, 33, 35] 0) <|
                        .step (.call 57 [28, 29, 33, 35] 1) <|
                        .step (.un .not 54) <|
                        .ite 55
                          (.step (.cb false) <|
                          .ret [44, 56])
                          (.step (.ci .i64 1) <|
                          .step (.bin .add 2 56) <|
                          .tail 1 [0, 1, 57, 3, 4, 25, 26]))
                        (.step (.bin .eql 26 37) <|
                        .step (.ml []) <|
                        .step (.mk [37, 54]) <|
                        .step (.mget 55 3 26) <|
                        .step (.cell 0 56) <|
                        .step (.cell 1 56) <|
                        .step (.mk [57, 58]) <|
                        .step (.mk [34, 33, 35]) <|
                        .step (.call 24 [59, 60] 0) <|
                        .step (.cell 0 61) <|
                        .step (.cell 1 61) <|
                        .step (.call 24 [59, 60] 1) <|
                        .step (.ci .i64 6) <|
                        .step (.bin .neq 32 65) <|
                        .ite 66
                          (.step (.cb false) <|
                          .ret [44, 67])
                          (.step (.bin .neq 64 44) <|
                          .ite 67
                            (.step (.cb false) <|
                            .ret [44, 68])
                            (.step (.bin .neq 34 26) <|
                            .ite 68
                              (.step (.cb false) <|
                              .ret [44, 69])
                              (.step (.call 57 [28, 29, 62, 63] 0) <|
                              .step (.call 57 [28, 29, 62, 63] 1) <|
                              .step (.un .not 70) <|
                              .ite 71
                                (.step (.cb false) <|
                                .ret [44, 72])
                                (.step (.ci .i64 1) <|
                                .step (.bin .add 2 72) <|
                                .tail 1 [0, 1, 73, 3, 4, 25, 26])))))))))
                (.step (.cb false) <|
                .step (.binb .neq 45 46) <|
                .ite 47
                  (.ret [44, 46])
                  (.step (.bin .neq 36 44) <|
                  .ite 48
                    (.step (.ci .i64 1) <|
                    .step (.bin .add 2 49) <|
                    .tail 1 [0, 1, 50, 3, 4, 25, 26])
                    (.ret [44, 46]))))))
          (.step (.ci .u8 5) <|
          .step (.bin .eql 20 23) <|
          .ite 24
            (.step (.call 56 [12, 4, 5, 6] 0) <|
            .step (.call 56 [12, 4, 5, 6] 1) <|
            .step (.call 56 [12, 4, 5, 6] 2) <|
            .step (.call 56 [12, 4, 5, 6] 3) <|
            .step (.call 45 [4, 27, 28] 0) <|
            .step (.call 45 [4, 27, 28] 1) <|
            .step (.call 45 [4, 27, 28] 2) <|
            .step (.call 45 [4, 27, 28] 3) <|
            .step (.call 46 [4, 27, 28] 0) <|
            .step (.call 46 [4, 27, 28] 1) <|
            .step (.call 46 [4, 27, 28] 2) <|
            .step (.call 46 [4, 27, 28] 3) <|
            .step (.call 46 [4, 27, 28] 4) <|
            .step (.call 46 [4, 27, 28] 5) <|
            .step (.ci .u64 0) <|
            .step (.bin .neq 28 39) <|
            .ite 40
              (.step (.call 54 [4, 27, 28] 0) <|
              .step (.call 54 [4, 27, 28] 1) <|
              .step (.call 20 [42, 28] 0) <|
              .step (.un .not 43) <|
              .ite 44
                (.step (.cb false) <|
                .step (.ci .i64 0) <|
                .ret [46, 45])
                (.step (.len 42) <|
                .step (.ci .i64 8) <|
                .step (.bin .gtr 45 46) <|
                .ite 47
                  (.step (.cb false) <|
                  .step (.ci .i64 0) <|
                  .ret [49, 48])
                  (.step (.ci .i64 0) <|
                  .step (.bin .eql 38 48) <|
                  .ite 32
                    (.step (.bin .neq 30 28) <|
                    .step (.binb .neq 49 50) <|
                    .ite 51
                      (.step (.cb false) <|
                      .ret [48, 52])
                      (.step (.bin .neq 38 48) <|
                      .ite 52
                        (.step (.cb false) <|
                        .step (.binb .neq 53 50) <|
                        .ite 54
                          (.ret [48, 53])
                          (.step (.ci .i64 1) <|
                          .step (.bin .add 2 55) <|
                          .tail 1 [0, 1, 56, 3, 4, 27, 28]))
                        (.step (.cb true) <|
                        .step (.binb .neq 53 50) <|
                        .ite 54
                          (.step (.cb false) <|
                          .ret [48, 55])
                          (.step (.ci .i64 5) <|
                          .step (.bin .eql 34 55) <|
                          .ite 56
                            (.step (.call 57 [30, 31, 35, 37] 0) <|
                            .step (.call 57 [30, 31, 35, 37] 1) <|
                            .step (.un .not 58) <|
                            .ite 59
                              (.step (.cb false) <|
                              .ret [48, 60])
                              (.step (.ci .i64 1) <|
                              .step (.bin .add 2 60) <|
                              .tail 1 [0, 1, 61, 3, 4, 27, 28]))
                            (.step (.bin .eql 28 39) <|
                            .step (.ml []) <|
                            .step (.mk [39, 58]) <|
                            .step (.mget 59 3 28) <|
                            .step (.cell 0 60) <|
                            .step (.cell 1 60) <|
                            .step (.mk [61, 62]) <|
                            .step (.mk [36, 35, 37]) <|
                            .step (.call 24 [63, 64] 0) <|
                            .step (.cell 0 65) <|
                            .step (.cell 1 65) <|
                            .step (.call 24 [63, 64] 1) <|
                            .step (.ci .i64 6) <|
                            .step (.bin .neq 34 69) <|
                            .ite 70
                              (.step (.cb false) <|
                              .ret [48, 71])
                              (.step (.bin .neq 68 48) <|
                              .ite 71
                                (.step (.cb false) <|
                                .ret [48, 72])
                                (.step (.bin .neq 36 28) <|
                                .ite 72
                                  (.step (.cb false) <|
                                  .ret [48, 73])
                                  (.step (.call 57 [30, 31, 66, 67] 0) <|
                                  .step (.call 57 [30, 31, 66, 67] 1) <|
                                  .step (.un .not 74) <|
                                  .ite 75
                                    (.step (.cb false) <|
                                    .ret [48, 76])
                                    (.step (.ci .i64 1) <|
                                    .step (.bin .add 2 76) <|
                                    .tail 1 [0, 1, 77, 3, 4, 27, 28])))))))))
                    (.step (.cb false) <|
                    .step (.binb .neq 49 50) <|
                    .ite 51
                      (.ret [48, 50])
                      (.step (.bin .neq 38 48) <|
                      .ite 52
                        (.step (.ci .i64 1) <|
                        .step (.bin .add 2 53) <|
                        .tail 1 [0, 1, 54, 3, 4, 27, 28])
                        (.ret [48, 50]))))))
              (.step (.call 54 [4, 27, 28] 0) <|
              .step (.call 54 [4, 27, 28] 1) <|
              .step (.len 42) <|
              .step (.ci .i64 8) <|
              .step (.bin .gtr 43 44) <|
              .ite 45
                (.step (.cb false) <|
                .step (.ci .i64 0) <|
                .ret [47, 46])
                (.step (.ci .i64 0) <|
                .step (.bin .eql 38 46) <|
                .ite 32
                  (.step (.bin .neq 30 28) <|
                  .step (.binb .neq 47 48) <|
                  .ite 49
                    (.step (.cb false) <|
                    .ret [46, 50])
                    (.step (.bin .neq 38 46) <|
                    .ite 50
                      (.step (.cb false) <|
                      .step (.binb .neq 51 48) <|
                      .ite 52
                        (.ret [46, 51])
                        (.step (.ci .i64 1) <|
                        .step (.bin .add 2 53) <|
                        .tail 1 [0, 1, 54, 3, 4, 27, 28]))
                      (.step (.cb true) <|
                      .step (.binb .neq 51 48) <|
                      .ite 52
                        (.step (.cb false) <|
                        .ret [46, 53])
                        (.step (.ci .i64 5) <|
                        .step (.bin .eql 34 53) <|
                        .ite 54
                          (.step (.call 57 [30, 31, 35, 37] 0) <|
                          .step (.call 57 [30, 31, 35, 37] 1) <|
                          .step (.un .not 56) <|
                          .ite 57
                            (.step (.cb false) <|
                            .ret [46, 58])
                            (.step (.ci .i64 1) <|
                            .step (.bin .add 2 58) <|
                            .tail 1 [0, 1, 59, 3, 4, 27, 28]))
                          (.step (.bin .eql 28 39) <|
                          .step (.ml []) <|
                          .step (.mk [39, 56]) <|
                          .step (.mget 57 3 28) <|
                          .step (.cell 0 58) <|
                          .step (.cell 1 58) <|
                          .step (.mk [59, 60]) <|
                          .step (.mk [36, 35, 37]) <|
                          .step (.call 24 [61, 62] 0) <|
                          .step (.cell 0 63) <|
                          .step (.cell 1 63) <|
                          .step (.call 24 [61, 62] 1) <|
                          .step (.ci .i64 6) <|
                          .step (.bin .neq 34 67) <|
                          .ite 68
                            (.step (.cb false) <|
                            .ret [46, 69])
                            (.step (.bin .neq 66 46) <|
                            .ite 69
                              (.step (.cb false) <|
                              .ret [46, 70])
                              (.step (.bin .neq 36 28) <|
                              .ite 70
                                (.step (.cb false) <|
                                .ret [46, 71])
                                (.step (.call 57 [30, 31, 64, 65] 0) <|
                                .step (.call 57 [30, 31, 64, 65] 1) <|
                                .step (.un .not 72) <|
                                .ite 73
                                  (.step (.cb false) <|
                                  .ret [46, 74])
                                  (.step (.ci .i64 1) <|
                                  .step (.bin .add 2 74) <|
                                  .tail 1 [0, 1, 75, 3, 4, 27, 28])))))))))
                  (.step (.cb false) <|
                  .step (.binb .neq 47 48) <|
                  .ite 49
                    (.ret [46, 48])
                    (.step (.bin .neq 38 46) <|
                    .ite 50
                      (.step (.ci .i64 1) <|
                      .step (.bin .add 2 51) <|
                      .tail 1 [0, 1, 52, 3, 4, 27, 28])
                      (.ret [46, 48]))))))
            (.step (.ci .u8 6) <|
            .step (.bin .eql 20 25) <|
            .ite 26
              (.step (.ci .u64 0) <|
              .step (.call 45 [4, 5, 27] 0) <|
              .step (.call 45 [4, 5, 27] 1) <|
              .step (.call 45 [4, 5, 27] 2) <|
              .step (.call 45 [4, 5, 27] 3) <|
              .step (.call 46 [4, 5, 27] 0) <|
              .step (.call 46 [4, 5, 27] 1) <|
              .step (.call 46 [4, 5, 27] 2) <|
              .step (.call 46 [4, 5, 27] 3) <|
              .step (.call 46 [4, 5, 27] 4) <|
              .step (.call 46 [4, 5, 27] 5) <|
              .step (.bin .neq 27 27) <|
              .ite 38
                (.step (.call 54 [4, 5, 27] 0) <|
                .step (.call 54 [4, 5, 27] 1) <|
                .step (.call 20 [40, 27] 0) <|
                .step (.un .not 41) <|
                .ite 42
                  (.step (.cb false) <|
                  .step (.ci .i64 0) <|
                  .ret [44, 43])
                  (.step (.len 40) <|
                  .step (.ci .i64 8) <|
                  .step (.bin .gtr 43 44) <|
                  .ite 45
                    (.step (.cb false) <|
                    .step (.ci .i64 0) <|
                    .ret [47, 46])
                    (.step (.ci .i64 0) <|
                    .step (.bin .eql 37 46) <|
                    .ite 31
                      (.step (.bin .neq 29 27) <|
                      .step (.binb .neq 47 48) <|
                      .ite 49
                        (.step (.cb false) <|
                        .ret [46, 50])
                        (.step (.bin .neq 37 46) <|
                        .ite 50
                          (.step (.cb false) <|
                          .step (.binb .neq 51 48) <|
                          .ite 52
                            (.ret [46, 51])
                            (.step (.ci .i64 1) <|
                            .step (.bin .add 2 53) <|
                            .tail 1 [0, 1, 54, 3, 4, 5, 27]))
                          (.step (.cb true) <|
                          .step (.binb .neq 51 48) <|
                          .ite 52
                            (.step (.cb false) <|
                            .ret [46, 53])
                            (.step (.ci .i64 5) <|
                            .step (.bin .eql 33 53) <|
                            .ite 54
                              (.step (.call 57 [29, 30, 34, 36] 0) <|
                              .step (.call 57 [29, 30, 34, 36] 1) <|
                              .step (.un .not 56) <|
                              .ite 57
                                (.step (.cb false) <|
                                .ret [46, 58])
                                (.step (.ci .i64 1) <|
                                .step (.bin .add 2 58) <|
                                .tail 1 [0, 1, 59, 3, 4, 5, 27]))
                              (.step (.bin .eql 27 27) <|
                              .step (.ml []) <|
                              .step (.mk [27, 56]) <|
                              .step (.mget 57 3 27) <|
                              .step (.cell 0 58) <|
                              .step (.cell 1 58) <|
                              .step (.mk [59, 60]) <|
                              .step (.mk [35, 34, 36]) <|
                              .step (.call 24 [61, 62] 0) <|
                              .step (.cell 0 63) <|
                              .step (.cell 1 63) <|
                              .step (.call 24 [61, 62] 1) <|
                              .step (.ci .i64 6) <|
                              .step (.bin .neq 33 67) <|
                              .ite 68
                                (.step (.cb false) <|
                                .ret [46, 69])
                                (.step (.bin .neq 66 46) <|
                                .ite 69
                                  (.step (.cb false) <|
                                  .ret [46, 70])
                                  (.step (.bin .neq 35 27) <|
                                  .ite 70
                                    (.step (.cb false) <|
                                    .ret [46, 71])
                                    (.step (.call 57 [29, 30, 64, 65] 0) <|
                                    .step (.call 57 [29, 30, 64, 65] 1) <|
                                    .step (.un .not 72) <|
                                    .ite 73
                                      (.step (.cb false) <|
                                      .ret [46, 74])
                                      (.step (.ci .i64 1) <|
                                      .step (.bin .add 2 74) <|
                                      .tail 1 [0, 1, 75, 3, 4, 5, 27])))))))))
                      (.step (.cb false) <|
                      .step (.binb .neq 47 48) <|
                      .ite 49
                        (.ret [46, 48])
                        (.step (.bin .neq 37 46) <|
                        .ite 50
                          (.step (.ci .i64 1) <|
                          .step (.bin .add 2 51) <|
                          .tail 1 [0, 1, 52, 3, 4, 5, 27])
                          (.ret [46, 48]))))))
                (.step (.call 54 [4, 5, 27] 0) <|
                .step (.call 54 [4, 5, 27] 1) <|
                .step (.len 40) <|
                .step (.ci .i64 8) <|
                .step (.bin .gtr 41 42) <|
                .ite 43
                  (.step (.cb false) <|
                  .step (.ci .i64 0) <|
                  .ret [45, 44])
                  (.step (.ci .i64 0) <|
                  .step (.bin .eql 37 44) <|
                  .ite 31
                    (.step (.bin .neq 29 27) <|
                    .step (.binb .neq 45 46) <|
                    .ite 47
                      (.step (.cb false) <|
                      .ret [44, 48])
                      (.step (.bin .neq 37 44) <|
                      .ite 48
                        (.step (.cb false) <|
                        .step (.binb .neq 49 46) <|
                        .ite 50
                          (.ret [44, 49])
                          (.step (.ci .i64 1) <|
                          .step (.bin .add 2 51) <|
                          .tail 1 [0, 1, 52, 3, 4, 5, 27]))
                        (.step (.cb true) <|
                        .step (.binb .neq 49 46) <|
                        .ite 50
                          (.step (.cb false) <|
                          .ret [44, 51])
                          (.step (.ci .i64 5) <|
                          .step (.bin .eql 33 51) <|
                          .ite 52
                            (.step (.call 57 [29, 30, 34, 36] 0) <|
                            .step (.call 57 [29, 30, 34, 36] 1) <|
                            .step (.un .not 54) <|
                            .ite 55
                              (.step (.cb false) <|
                              .ret [44, 56])
                              (.step (.ci .i64 1) <|
                              .step (.bin .add 2 56) <|
                              .tail 1 [0, 1, 57, 3, 4, 5, 27]))
                            (.step (.bin .eql 27 27) <|
                            .step (.ml []) <|
                            .step (.mk [27, 54]) <|
                            .step (.mget 55 3 27) <|
                            .step (.cell 0 56) <|
                            .step (.cell 1 56) <|
                            .step (.mk [57, 58]) <|
                            .step (.mk [35, 34, 36]) <|
                            .step (.call 24 [59, 60] 0) <|
                            .step (.cell 0 61) <|
                            .step (.cell 1 61) <|
                            .step (.call 24 [59, 60] 1) <|
                            .step (.ci .i64 6) <|
                            .step (.bin .neq 33 65) <|
                            .ite 66
                              (.step (.cb false) <|
                              .ret [44, 67])
                              (.step (.bin .neq 64 44) <|
                              .ite 67
                                (.step (.cb false) <|
                                .ret [44, 68])
                                (.step (.bin .neq 35 27) <|
                                .ite 68
                                  (.step (.cb false) <|
                                  .ret [44, 69])
                                  (.step (.call 57 [29, 30, 62, 63] 0) <|
                                  .step (.call 57 [29, 30, 62, 63] 1) <|
                                  .step (.un .not 70) <|
                                  .ite 71
                                    (.step (.cb false) <|
                                    .ret [44, 72])
                                    (.step (.ci .i64 1) <|
                                    .step (.bin .add 2 72) <|
                                    .tail 1 [0, 1, 73, 3, 4, 5, 27])))))))))
                    (.step (.cb false) <|
                    .step (.binb .neq 45 46) <|
                    .ite 47
                      (.ret [44, 46])
                      (.step (.bin .neq 37 44) <|
                      .ite 48
                        (.step (.ci .i64 1) <|
                        .step (.bin .add 2 49) <|
                        .tail 1 [0, 1, 50, 3, 4, 5, 27])
                        (.ret [44, 46]))))))
              (.step (.ci .u8 7) <|
              .step (.bin .eql 20 27) <|
              .ite 28
                (.step (.call 45 [4, 5, 6] 0) <|
                .step (.call 45 [4, 5, 6] 1) <|
                .step (.call 45 [4, 5, 6] 2) <|
                .step (.call 45 [4, 5, 6] 3) <|
                .ite 32
                  (.step (.call 56 [30, 4, 5, 6] 0) <|
                  .step (.call 56 [30, 4, 5, 6] 1) <|
                  .step (.call 56 [30, 4, 5, 6] 2) <|
                  .step (.call 56 [30, 4, 5, 6] 3) <|
                  .step (.call 45 [4, 35, 36] 0) <|
                  .step (.call 45 [4, 35, 36] 1) <|
                  .step (.call 45 [4, 35, 36] 2) <|
                  .step (.call 45 [4, 35, 36] 3) <|
                  .step (.call 46 [4, 35, 36] 0) <|
                  .step (.call 46 [4, 35, 36] 1) <|
                  .step (.call 46 [4, 35, 36] 2) <|
                  .step (.call 46 [4, 35, 36] 3) <|
                  .step (.call 46 [4, 35, 36] 4) <|
                  .step (.call 46 [4, 35, 36] 5) <|
                  .step (.ci .u64 0) <|
                  .step (.bin .neq 36 47) <|
                  .ite 48
                    (.step (.call 54 [4, 35, 36] 0) <|
                    .step (.call 54 [4, 35, 36] 1) <|
                    .step (.call 20 [50, 36] 0) <|
                    .step (.un .not 51) <|
                    .ite 52
                      (.step (.cb false) <|
                      .step (.ci .i64 0) <|
                      .ret [54, 53])
                      (.step (.len 50) <|
                      .step (.ci .i64 8) <|
                      .step (.bin .gtr 53 54) <|
                      .ite 55
                        (.step (.cb false) <|
                        .step (.ci .i64 0) <|
                        .ret [57, 56])
                        (.step (.ci .i64 0) <|
                        .step (.bin .eql 46 56) <|
                        .ite 40
                          (.step (.bin .neq 38 36) <|
                          .step (.binb .neq 57 58) <|
                          .ite 59
                            (.step (.cb false) <|
                            .ret [56, 60])
                            (.step (.bin .neq 46 56) <|
                            .ite 60
                              (.step (.cb false) <|
                              .step (.binb .neq 61 58) <|
                              .ite 62
                                (.ret [56, 61])
                                (.step (.ci .i64 1) <|
                                .step (.bin .add 2 63) <|
                                .tail 1 [0, 1, 64, 3, 4, 35, 36]))
                              (.step (.cb true) <|
                              .step (.binb .neq 61 58) <|
                              .ite 62
                                (.step (.cb false) <|
                                .ret [56, 63])
                                (.step (.ci .i64 5) <|
                                .step (.bin .eql 42 63) <|
                                .ite 64
                                  (.step (.call 57 [38, 39, 43, 45] 0) <|
                                  .step (.call 57 [38, 39, 43, 45] 1) <|
                                  .step (.un .not 66) <|
                                  .ite 67
                                    (.step (.cb false) <|
                                    .ret [56, 68])
                                    (.step (.ci .i64 1) <|
                                    .step (.bin .add 2 68) <|
                                    .tail 1 [0, 1, 69, 3, 4, 35, 36]))
                                  (.step (.bin .eql 36 47) <|
                                  .step (.ml []) <|
                                  .step (.mk [47, 66]) <|
                                  .step (.mget 67 3 36) <|
                                  .step (.cell 0 68) <|
                                  .step (.cell 1 68) <|
                                  .step (.mk [69, 70]) <|
                                  .step (.mk [44, 43, 45]) <|
                                  .step (.call 24 [71, 72] 0) <|
                                  .step (.cell 0 73) <|
                                  .step (.cell 1 73) <|
                                  .step (.call 24 [71, 72] 1) <|
                                  .step (.ci .i64 6) <|
                                  .step (.bin .neq 42 77) <|
                                  .ite 78
                                    (.step (.cb false) <|
                                    .ret [56, 79])
                                    (.step (.bin .neq 76 56) <|
                                    .ite 79
                                      (.step (.cb false) <|
                                      .ret [56, 80])
                                      (.step (.bin .neq 44 36) <|
                                      .ite 80
                                        (.step (.cb false) <|
                                        .ret [56, 81])
                                        (.step (.call 57 [38, 39, 74, 75] 0) <|
                                        .step (.call 57 [38, 39, 74, 75] 1) <|
                                        .step (.un .not 82) <|
                                        .ite 83
                                          (.step (.cb false) <|
                                          .ret [56, 84])
                                          (.step (.ci .i64 1) <|
                                          .step (.bin .add 2 84) <|
                                          .tail 1 [0, 1, 85, 3, 4, 35, 36])))))))))
                          (.step (.cb false) <|
                          .step (.binb .neq 57 58) <|
                          .ite 59
                            (.ret [56, 58])
                            (.step (.bin .neq 46 56) <|
                            .ite 60
                              (.step (.ci .i64 1) <|
                              .step (.bin .add 2 61) <|
                              .tail 1 [0, 1, 62, 3, 4, 35, 36])
                              (.ret [56, 58]))))))
                    (.step (.call 54 [4, 35, 36] 0) <|
                    .step (.call 54 [4, 35, 36] 1) <|
                    .step (.len 50) <|
                    .step (.ci .i64 8) <|
                    .step (.bin .gtr 51 52) <|
                    .ite 53
                      (.step (.cb false) <|
                      .step (.ci .i64 0) <|
                      .ret [55, 54])
                      (.step (.ci .i64 0) <|
                      .step (.bin .eql 46 54) <|
                      .ite 40
                        (.step (.bin .neq 38 36) <|
                        .step (.binb .neq 55 56) <|
                        .ite 57
                          (.step (.cb false) <|
                          .ret [54, 58])
                          (.step (.bin .neq 46 54) <|
                          .ite 58
                            (.step (.cb false) <|
                            .step (.binb .neq 59 56) <|
                            .ite 60
                              (.ret [54, 59])
                              (.step (.ci .i64 1) <|
                              .step (.bin .add 2 61) <|
                              .tail 1 [0, 1, 62, 3, 4, 35, 36]))
                            (.step (.cb true) <|
                            .step (.binb .neq 59 56) <|
                            .ite 60
                              (.step (.cb false) <|
                              .ret [54, 61])
                              (.step (.ci .i64 5) <|
                              .step (.bin .eql 42 61) <|
                              .ite 62
                                (.step (.call 57 [38, 39, 43, 45] 0) <|
                                .step (.call 57 [38, 39, 43, 45] 1) <|
                                .step (.un .not 64) <|
                                .ite 65
                                  (.step (.cb false) <|
                                  .ret [54, 66])
                                  (.step (.ci .i64 1) <|
                                  .step (.bin .add 2 66) <|
                                  .tail 1 [0, 1, 67, 3, 4, 35, 36]))
                                (.step (.bin .eql 36 47) <|
                                .step (.ml []) <|
                                .step (.mk [47, 64]) <|
                                .step (.mget 65 3 36) <|
                                .step (.cell 0 66) <|
                                .step (.cell 1 66) <|
                                .step (.mk [67, 68]) <|
                                .step (.mk [44, 43, 45]) <|
                                .step (.call 24 [69, 70] 0) <|
                                .step (.cell 0 71) <|
                                .step (.cell 1 71) <|
                                .step (.call 24 [69, 70] 1) <|
                                .step (.ci .i64 6) <|
                                .step (.bin .neq 42 75) <|
                                .ite 76
                                  (.step (.cb false) <|
                                  .ret [54, 77])
                                  (.step (.bin .neq 74 54) <|
                                  .ite 77
                                    (.step (.cb false) <|
                                    .ret [54, 78])
                                    (.step (.bin .neq 44 36) <|
                                    .ite 78
                                      (.step (.cb false) <|
                                      .ret [54, 79])
                                      (.step (.call 57 [38, 39, 72, 73] 0) <|
                                      .step (.call 57 [38, 39, 72, 73] 1) <|
                                      .step (.un .not 80) <|
                                      .ite 81
                                        (.step (.cb false) <|
                                        .ret [54, 82])
                                        (.step (.ci .i64 1) <|
                                        .step (.bin .add 2 82) <|
                                        .tail 1 [0, 1, 83, 3, 4, 35, 36])))))))))
                        (.step (.cb false) <|
                        .step (.binb .neq 55 56) <|
                        .ite 57
                          (.ret [54, 56])
                          (.step (.bin .neq 46 54) <|
                          .ite 58
                            (.step (.ci .i64 1) <|
                            .step (.bin .add 2 59) <|
                            .tail 1 [0, 1, 60, 3, 4, 35, 36])
                            (.ret [54, 56]))))))
                  (.step (.call 46 [4, 5, 6] 0) <|
                  .step (.call 46 [4, 5, 6] 1) <|
                  .step (.call 46 [4, 5, 6] 2) <|
                  .step (.call 46 [4, 5, 6] 3) <|
                  .step (.call 46 [4, 5, 6] 4) <|
                  .step (.call 46 [4, 5, 6] 5) <|
                  .step (.ci .u64 0) <|
                  .step (.bin .neq 6 39) <|
                  .ite 40
                    (.step (.call 54 [4, 5, 6] 0) <|
                    .step (.call 54 [4, 5, 6] 1) <|
                    .step (.call 20 [42, 6] 0) <|
                    .step (.un .not 43) <|
                    .ite 44
                      (.step (.cb false) <|
                      .step (.ci .i64 0) <|
                      .ret [46, 45])
                      (.step (.len 42) <|
                      .step (.ci .i64 8) <|
                      .step (.bin .gtr 45 46) <|
                      .ite 47
                        (.step (.cb false) <|
                        .step (.ci .i64 0) <|
                        .ret [49, 48])
                        (.step (.ci .i64 0) <|
                        .step (.bin .eql 38 48) <|
                        .step (.cb false) <|
                        .step (.binb .neq 49 50) <|
                        .ite 51
                          (.ret [48, 50])
                          (.step (.bin .neq 38 48) <|
                          .ite 52
                            (.step (.ci .i64 1) <|
                            .step (.bin .add 2 53) <|
                            .tail 1 [0, 1, 54, 3, 4, 5, 6])
                            (.ret [48, 50])))))
                    (.step (.call 54 [4, 5, 6] 0) <|
                    .step (.call 54 [4, 5, 6] 1) <|
                    .step (.len 42) <|
                    .step (.ci .i64 8) <|
                    .step (.bin .gtr 43 44) <|
                    .ite 45
                      (.step (.cb false) <|
                      .step (.ci .i64 0) <|
                      .ret [47, 46])
                      (.step (.ci .i64 0) <|
                      .step (.bin .eql 38 46) <|
                      .step (.cb false) <|
                      .step (.binb .neq 47 48) <|
                      .ite 49
                        (.ret [46, 48])
                        (.step (.bin .neq 38 46) <|
                        .ite 50
                          (.step (.ci .i64 1) <|
                          .step (.bin .add 2 51) <|
                          .tail 1 [0, 1, 52, 3, 4, 5, 6])
                          (.ret [46, 48]))))))
                (.step (.call 64 [9, 10, 11, 12, 13, 4, 5, 6] 0) <|
                .step (.call 64 [9, 10, 11, 12, 13, 4, 5, 6] 1) <|
                .step (.call 64 [9, 10, 11, 12, 13, 4, 5, 6] 2) <|
                .step (.call 65 [30, 31, 4, 5, 6] 0) <|
                .step (.call 65 [30, 31, 4, 5, 6] 1) <|
                .step (.call 65 [30, 31, 4, 5, 6] 2) <|
                .step (.call 65 [30, 31, 4, 5, 6] 3) <|
                .step (.ci .i64 0) <|
                .step (.bin .eql 33 36) <|
                .ite 37
                  (.step (.ci .u64 0) <|
                  .step (.bin .eql 30 38) <|
                  .step (.mk [30, 31]) <|
                  .step (.mput 3 30 40) <|
                  .step (.call 45 [4, 34, 35] 0) <|
                  .step (.call 45 [4, 34, 35] 1) <|
                  .step (.call 45 [4, 34, 35] 2) <|
                  .step (.call 45 [4, 34, 35] 3) <|
                  .step (.call 46 [4, 34, 35] 0) <|
                  .step (.call 46 [4, 34, 35] 1) <|
                  .step (.call 46 [4, 34, 35] 2) <|
                  .step (.call 46 [4, 34, 35] 3) <|
                  .step (.call 46 [4, 34, 35] 4) <|
                  .step (.call 46 [4, 34, 35] 5) <|
                  .step (.bin .neq 35 38) <|
                  .ite 52
                    (.step (.call 54 [4, 34, 35] 0) <|
                    .step (.call 54 [4, 34, 35] 1) <|
                    .step (.call 20 [54, 35] 0) <|
                    .step (.un .not 55) <|
                    .ite 56
                      (.step (.cb false) <|
                      .ret [36, 57])
                      (.step (.len 54) <|
                      .step (.ci .i64 8) <|
                      .step (.bin .gtr 57 58) <|
                      .ite 59
                        (.step (.cb false) <|
                        .ret [36, 60])
                        (.step (.bin .eql 51 36) <|
                        .ite 45
                          (.step (.bin .neq 43 35) <|
                          .step (.binb .neq 60 61) <|
                          .ite 62
                            (.step (.cb false) <|
                            .ret [36, 63])
                            (.step (.bin .neq 51 36) <|
                            .ite 63
                              (.step (.cb false) <|
                              .step (.binb .neq 64 61) <|
                              .ite 65
                                (.ret [36, 64])
                                (.step (.ci .i64 1) <|
                                .step (.bin .add 2 66) <|
                                .tail 1 [0, 1, 67, 41, 4, 34, 35]))
                              (.step (.cb true) <|
                              .step (.binb .neq 64 61) <|
                              .ite 65
                                (.step (.cb false) <|
                                .ret [36, 66])
                                (.step (.ci .i64 5) <|
                                .step (.bin .eql 47 66) <|
                                .ite 67
                                  (.step (.call 57 [43, 44, 48, 50] 0) <|
                                  .step (.call 57 [43, 44, 48, 50] 1) <|
                                  .step (.un .not 69) <|
                                  .ite 70
                                    (.step (.cb false) <|
                                    .ret [36, 71])
                                    (.step (.ci .i64 1) <|
                                    .step (.bin .add 2 71) <|
                                    .tail 1 [0, 1, 72, 41, 4, 34, 35]))
                                  (.step (.bin .eql 35 38) <|
                                  .step (.ml []) <|
                                  .step (.mk [38, 69]) <|
                                  .step (.mget 70 41 35) <|
                                  .step (.cell 0 71) <|
                                  .step (.cell 1 71) <|
                                  .step (.mk [72, 73]) <|
                                  .step (.mk [49, 48, 50]) <|
                                  .step (.call 24 [74, 75] 0) <|
                                  .step (.cell 0 76) <|
                                  .step (.cell 1 76) <|
                                  .step (.call 24 [74, 75] 1) <|
                                  .step (.ci .i64 6) <|
                                  .step (.bin .neq 47 80) <|
                                  .ite 81
                                    (.step (.cb false) <|
                                    .ret [36, 82])
                                    (.step (.bin .neq 79 36) <|
                                    .ite 82
                                      (.step (.cb false) <|
                                      .ret [36, 83])
                                      (.step (.bin .neq 49 35) <|
                                      .ite 83
                                        (.step (.cb false) <|
                                        .ret [36, 84])
                                        (.step (.call 57 [43, 44, 77, 78] 0) <|
                                        .step (.call 57 [43, 44, 77, 78] 1) <|
                                        .step (.un .not 85) <|
                                        .ite 86
                                          (.step (.cb false) <|
                                          .ret [36, 87])
                                          (.step (.ci .i64 1) <|
                                          .step (.bin .add 2 87) <|
                                          .tail 1 [0, 1, 88, 41, 4, 34, 35])))))))))
                          (.step (.cb false) <|
                          .step (.binb .neq 60 61) <|
                          .ite 62
                            (.ret [36, 61])
                            (.step (.bin .neq 51 36) <|
                            .ite 63
                              (.step (.ci .i64 1) <|
                              .step (.bin .add 2 64) <|
                              .tail 1 [0, 1, 65, 41, 4, 34, 35])
                              (.ret [36, 61]))))))
                    (.step (.call 54 [4, 34, 35] 0) <|
                    .step (.call 54 [4, 34, 35] 1) <|
                    .step (.len 54) <|
                    .step (.ci .i64 8) <|
                    .step (.bin .gtr 55 56) <|
                    .ite 57
                      (.step (.cb false) <|
                      .ret [36, 58])
                      (.step (.bin .eql 51 36) <|
                      .ite 45
                        (.step (.bin .neq 43 35) <|
                        .step (.binb .neq 58 59) <|
                        .ite 60
                          (.step (.cb false) <|
                          .ret [36, 61])
                          (.step (.bin .neq 51 36) <|
                          .ite 61
                            (.step (.cb false) <|
                            .step (.binb .neq 62 59) <|
                            .ite 63
                              (.ret [36, 62])
                              (.step (.ci .i64 1) <|
                              .step (.bin .add 2 64) <|
                              .tail 1 [0, 1, 65, 41, 4, 34, 35]))
                            (.step (.cb true) <|
                            .step (.binb .neq 62 59) <|
                            .ite 63
                              (.step (.cb false) <|
                              .ret [36, 64])
                              (.step (.ci .i64 5) <|
                              .step (.bin .eql 47 64) <|
                              .ite 65
                                (.step (.call 57 [43, 44, 48, 50] 0) <|
                                .step (.call 57 [43, 44, 48, 50] 1) <|
                                .step (.un .not 67) <|
                                .ite 68
                                  (.step (.cb false) <|
                                  .ret [36, 69])
                                  (.step (.ci .i64 1) <|
                                  .step (.bin .add 2 69) <|
                                  .tail 1 [0, 1, 70, 41, 4, 34, 35]))
                                (.step (.bin .eql 35 38) <|
                                .step (.ml []) <|
                                .step (.mk [38, 67]) <|
                                .step (.mget 68 41 35) <|
                                .step (.cell 0 69) <|
                                .step (.cell 1 69) <|
                                .step (.mk [70, 71]) <|
                                .step (.mk [49, 48, 50]) <|
                                .step (.call 24 [72, 73] 0) <|
                                .step (.cell 0 74) <|
                                .step (.cell 1 74) <|
                                .step (.call 24 [72, 73] 1) <|
                                .step (.ci .i64 6) <|
                                .step (.bin .neq 47 78) <|
                                .ite 79
                                  (.step (.cb false) <|
                                  .ret [36, 80])
                                  (.step (.bin .neq 77 36) <|
                                  .ite 80
                                    (.step (.cb false) <|
                                    .ret [36, 81])
                                    (.step (.bin .neq 49 35) <|
                                    .ite 81
                                      (.step (.cb false) <|
                                      .ret [36, 82])
                                      (.step (.call 57 [43, 44, 75, 76] 0) <|
                                      .step (.call 57 [43, 44, 75, 76] 1) <|
                                      .step (.un .not 83) <|
                                      .ite 84
                                        (.step (.cb false) <|
                                        .ret [36, 85])
                                        (.step (.ci .i64 1) <|
                                        .step (.bin .add 2 85) <|
                                        .tail 1 [0, 1, 86, 41, 4, 34, 35])))))))))
                        (.step (.cb false) <|
                        .step (.binb .neq 58 59) <|
                        .ite 60
                          (.ret [36, 59])
                          (.step (.bin .neq 51 36) <|
                          .ite 61
                            (.step (.ci .i64 1) <|
                            .step (.bin .add 2 62) <|
                            .tail 1 [0, 1, 63, 41, 4, 34, 35])
                            (.ret [36, 59]))))))
                  (.step (.call 45 [4, 34, 35] 0) <|
                  .step (.call 45 [4, 34, 35] 1) <|
                  .step (.call 45 [4, 34, 35] 2) <|
                  .step (.call 45 [4, 34, 35] 3) <|
                  .step (.call 46 [4, 34, 35] 0) <|
                  .step (.call 46 [4, 34, 35] 1) <|
                  .step (.call 46 [4, 34, 35] 2) <|
                  .step (.call 46 [4, 34, 35] 3) <|
                  .step (.call 46 [4, 34, 35] 4) <|
                  .step (.call 46 [4, 34, 35] 5) <|
                  .step (.ci .u64 0) <|
                  .step (.bin .neq 35 48) <|
                  .ite 49
                    (.step (.call 54 [4, 34, 35] 0) <|
                    .step (.call 54 [4, 34, 35] 1) <|
                    .step (.call 20 [51, 35] 0) <|
                    .step (.un .not 52) <|
                    .ite 53
                      (.step (.cb false) <|
                      .ret [36, 54])
                      (.step (.len 51) <|
                      .step (.ci .i64 8) <|
                      .step (.bin .gtr 54 55) <|
                      .ite 56
                        (.step (.cb false) <|
                        .ret [36, 57])
                        (.step (.bin .eql 47 36) <|
                        .ite 41
                          (.step (.bin .neq 39 35) <|
                          .step (.binb .neq 57 58) <|
                          .ite 59
                            (.step (.cb false) <|
                            .ret [36, 60])
                            (.step (.bin .neq 47 36) <|
                            .ite 60
                              (.step (.cb false) <|
                              .step (.binb .neq 61 58) <|
                              .ite 62
                                (.ret [36, 61])
                                (.step (.ci .i64 1) <|
                                .step (.bin .add 2 63) <|
                                .tail 1 [0, 1, 64, 3, 4, 34, 35]))
                              (.step (.cb true) <|
                              .step (.binb .neq 61 58) <|
                              .ite 62
                                (.step (.cb false) <|
                                .ret [36, 63])
                                (.step (.ci .i64 5) <|
                                .step (.bin .eql 43 63) <|
                                .ite 64
                                  (.step (.call 57 [39, 40, 44, 46] 0) <|
                                  .step (.call 57 [39, 40, 44, 46] 1) <|
                                  .step (.un .not 66) <|
                                  .ite 67
                                    (.step (.cb false) <|
                                    .ret [36, 68])
                                    (.step (.ci .i64 1) <|
                                    .step (.bin .add 2 68) <|
                                    .tail 1 [0, 1, 69, 3, 4, 34, 35]))
                                  (.step (.bin .eql 35 48) <|
                                  .step (.ml []) <|
                                  .step (.mk [48, 66]) <|
                                  .step (.mget 67 3 35) <|
                                  .step (.cell 0 68) <|
                                  .step (.cell 1 68) <|
                                  .step (.mk [69, 70]) <|
                                  .step (.mk [45, 44, 46]) <|
                                  .step (.call 24 [71, 72] 0) <|
                                  .step (.cell 0 73) <|
                                  .step (.cell 1 73) <|
                                  .step (.call 24 [71, 72] 1) <|
                                  .step (.ci .i64 6) <|
                                  .step (.bin .neq 43 77) <|
                                  .ite 78
                                    (.step (.cb false) <|
                                    .ret [36, 79])
                                    (.step (.bin .neq 76 36) <|
                                    .ite 79
                                      (.step (.cb false) <|
                                      .ret [36, 80])
                                      (.step (.bin .neq 45 35) <|
                                      .ite 80
                                        (.step (.cb false) <|
                                        .ret [36, 81])
                                        (.step (.call 57 [39, 40, 74, 75] 0) <|
                                        .step (.call 57 [39, 40, 74, 75] 1) <|
                                        .step (.un .not 82) <|
                                        .ite 83
                                          (.step (.cb false) <|
                                          .ret [36, 84])
                                          (.step (.ci .i64 1) <|
                                          .step (.bin .add 2 84) <|
                                          .tail 1 [0, 1, 85, 3, 4, 34, 35])))))))))
                          (.step (.cb false) <|
                          .step (.binb .neq 57 58) <|
                          .ite 59
                            (.ret [36, 58])
                            (.step (.bin .neq 47 36) <|
                            .ite 60
                              (.step (.ci .i64 1) <|
                              .step (.bin .add 2 61) <|
                              .tail 1 [0, 1, 62, 3, 4, 34, 35])
                              (.ret [36, 58]))))))
                    (.step (.call 54 [4, 34, 35] 0) <|
                    .step (.call 54 [4, 34, 35] 1) <|
                    .step (.len 51) <|
                    .step (.ci .i64 8) <|
                    .step (.bin .gtr 52 53) <|
                    .ite 54
                      (.step (.cb false) <|
                      .ret [36, 55])
                      (.step (.bin .eql 47 36) <|
                      .ite 41
                        (.step (.bin .neq 39 35) <|
                        .step (.binb .neq 55 56) <|
                        .ite 57
                          (.step (.cb false) <|
                          .ret [36, 58])
                          (.step (.bin .neq 47 36) <|
                          .ite 58
                            (.step (.cb false) <|
                            .step (.binb .neq 59 56) <|
                            .ite 60
                              (.ret [36, 59])
                              (.step (.ci .i64 1) <|
                              .step (.bin .add 2 61) <|
                              .tail 1 [0, 1, 62, 3, 4, 34, 35]))
                            (.step (.cb true) <|
                            .step (.binb .neq 59 56) <|
                            .ite 60
                              (.step (.cb false) <|
                              .ret [36, 61])
                              (.step (.ci .i64 5) <|
                              .step (.bin .eql 43 61) <|
                              .ite 62
                                (.step (.call 57 [39, 40, 44, 46] 0) <|
                                .step (.call 57 [39, 40, 44, 46] 1) <|
                                .step (.un .not 64) <|
                                .ite 65
                                  (.step (.cb false) <|
                                  .ret [36, 66])
                                  (.step (.ci .i64 1) <|
                                  .step (.bin .add 2 66) <|
                                  .tail 1 [0, 1, 67, 3, 4, 34, 35]))
                                (.step (.bin .eql 35 48) <|
                                .step (.ml []) <|
                                .step (.mk [48, 64]) <|
                                .step (.mget 65 3 35) <|
                                .step (.cell 0 66) <|
                                .step (.cell 1 66) <|
                                .step (.mk [67, 68]) <|
                                .step (.mk [45, 44, 46]) <|
                                .step (.call 24 [69, 70] 0) <|
                                .step (.cell 0 71) <|
                                .step (.cell 1 71) <|
                                .step (.call 24 [69, 70] 1) <|
                                .step (.ci .i64 6) <|
                                .step (.bin .neq 43 75) <|
                                .ite 76
                                  (.step (.cb false) <|
                                  .ret [36, 77])
                                  (.step (.bin .neq 74 36) <|
                                  .ite 77
                                    (.step (.cb false) <|
                                    .ret [36, 78])
                                    (.step (.bin .neq 45 35) <|
                                    .ite 78
                                      (.step (.cb false) <|
                                      .ret [36, 79])
                                      (.step (.call 57 [39, 40, 72, 73] 0) <|
                                      .step (.call 57 [39, 40, 72, 73] 1) <|
                                      .step (.un .not 80) <|
                                      .ite 81
                                        (.step (.cb false) <|
                                        .ret [36, 82])
                                        (.step (.ci .i64 1) <|
                                        .step (.bin .add 2 82) <|
                                        .tail 1 [0, 1, 83, 3, 4, 34, 35])))))))))
                        (.step (.cb false) <|
                        .step (.binb .neq 55 56) <|
                        .ite 57
                          (.ret [36, 56])
                          (.step (.bin .neq 47 36) <|
                          .ite 58
                            (.step (.ci .i64 1) <|
                            .step (.bin .add 2 59) <|
                            .tail 1 [0, 1, 60, 3, 4, 34, 35])
                            (.ret [36, 56])))))))))))))
    (.step (.ci .i64 1) <|
    .ret [8])
/-- (*postmark/sender.Sender).Kept, function 77, the loop [0]. -/
def d55 : PDef := .tree 6 <|
  .step (.bin .lss 3 2) <|
  .ite 6
    (.step (.idx 1 3) <|
    .step (.at 2 1 7) <|
    .step (.cell 0 8) <|
    .step (.cell 1 8) <|
    .step (.ml [9]) <|
    .step (.app 1 8 0 11) <|
    .step (.ci .i64 1) <|
    .step (.bin .add 3 13) <|
    .tail 55 [12, 1, 2, 14, 4, 5])
    (.step (.ci .i64 0) <|
    .ret [7, 0])
/-- (postmark/table.Table).AtLeast, function 25, the loop [0, 0]. -/
def d52 : PDef := .tree 8 <|
  .step (.len 0) <|
  .step (.bin .lss 1 8) <|
  .ite 9
    (.step (.at 2 0 1) <|
    .step (.cell 0 10) <|
    .step (.call 6 [11] 0) <|
    .step (.bin .lss 12 2) <|
    .ite 13
      (.step (.ci .i64 1) <|
      .step (.bin .add 1 14) <|
      .tail 52 [0, 15, 2, 3, 4, 5, 6, 7])
      (.step (.ci .i64 0) <|
      .ret [14, 1, 10, 11, 12]))
    (.step (.ci .i64 1) <|
    .ret [10, 1])
/-- slices.Equal[postmark/descr.Descr,postmark/entry.Entry], function 91, the loop [0]. -/
def d63 : PDef := .tree 4 <|
  .step (.bin .lss 3 2) <|
  .ite 4
    (.step (.at 2 0 3) <|
    .step (.cell 0 5) <|
    .step (.cell 1 5) <|
    .step (.at 2 1 3) <|
    .step (.cell 0 8) <|
    .step (.cell 1 8) <|
    .step (.mk [6, 7]) <|
    .step (.mk [9, 10]) <|
    .step (.binc .neq [1, 1] 11 12) <|
    .ite 13
      (.step (.ci .i64 0) <|
      .ret [14])
      (.step (.ci .i64 1) <|
      .step (.bin .add 3 14) <|
      .tail 63 [0, 1, 2, 15]))
    (.step (.ci .i64 1) <|
    .ret [5])
/-- postmark/postmarklaw13.Few, function 12, the loop [0]. -/
def d3 : PDef := .tree 3 <|
  .step (.bin .lss 2 1) <|
  .ite 3
    (.step (.at 2 0 2) <|
    .step (.cell 0 4) <|
    .step (.cell 1 4) <|
    .step (.len 5) <|
    .step (.ci .i64 18) <|
    .step (.bin .gtr 7 8) <|
    .ite 9
      (.step (.ci .i64 0) <|
      .ret [10])
      (.step (.call 4 [5] 0) <|
      .step (.un .not 10) <|
      .ite 11
        (.step (.ci .i64 0) <|
        .ret [12])
        (.step (.len 0) <|
        .step (.ci .i64 40) <|
        .step (.bin .gtr 12 13) <|
        .ite 14
          (.step (.call 6 [5] 0) <|
          .step (.slen 15) <|
          .step (.ci .i64 100) <|
          .step (.bin .gtr 16 17) <|
          .ite 18
            (.step (.ci .i64 0) <|
            .ret [19])
            (.step (.ci .i64 1) <|
            .step (.bin .add 2 19) <|
            .tail 3 [0, 1, 20]))
          (.step (.ci .i64 1) <|
          .step (.bin .add 2 15) <|
          .tail 3 [0, 1, 16]))))
    (.step (.ci .i64 1) <|
    .ret [4])
/-- postmark/delta.together, function 152, the loop [0]. -/
def d37 : PDef := .tree 3 <|
  .step (.len 0) <|
  .step (.ci .i64 0) <|
  .step (.bin .gtr 3 4) <|
  .ite 5
    (.step (.len 1) <|
    .step (.bin .eql 6 4) <|
    .ite 7
      (.step (.at 2 0 4) <|
      .step (.cell 0 8) <|
      .step (.cell 1 8) <|
      .step (.call 38 [9] 0) <|
      .step (.mk [11, 10]) <|
      .step (.ml [12]) <|
      .step (.app 2 32 2 13) <|
      .step (.ci .i64 1) <|
      .step (.lsub 2 0 15 3) <|
      .tail 37 [16, 1, 14])
      (.step (.bin .eql 3 4) <|
      .ite 8
        (.step (.at 2 1 4) <|
        .step (.cell 0 9) <|
        .step (.cell 1 9) <|
        .step (.call 38 [10] 0) <|
        .step (.mk [12, 11]) <|
        .step (.ml [13]) <|
        .step (.app 2 32 2 14) <|
        .step (.ci .i64 1) <|
        .step (.lsub 2 1 16 6) <|
        .tail 37 [0, 17, 15])
        (.step (.at 2 0 4) <|
        .step (.cell 0 9) <|
        .step (.at 2 1 4) <|
        .step (.cell 0 11) <|
        .step (.call 39 [10, 12] 0) <|
        .step (.bin .lss 13 4) <|
        .ite 14
          (.step (.cell 1 9) <|
          .step (.call 38 [10] 0) <|
          .step (.mk [16, 15]) <|
          .step (.ml [17]) <|
          .step (.app 2 32 2 18) <|
          .step (.ci .i64 1) <|
          .step (.lsub 2 0 20 3) <|
          .tail 37 [21, 1, 19])
          (.step (.bin .gtr 13 4) <|
          .ite 15
            (.step (.cell 1 11) <|
            .step (.call 38 [12] 0) <|
            .step (.mk [17, 16]) <|
            .step (.ml [18]) <|
            .step (.app 2 32 2 19) <|
            .step (.ci .i64 1) <|
            .step (.lsub 2 1 21 6) <|
            .tail 37 [0, 22, 20])
            (.step (.cell 1 9) <|
            .step (.cell 1 11) <|
            .step (.ci .u64 0) <|
            .step (.call 41 [16, 17, 18] 0) <|
            .step (.call 41 [16, 17, 18] 1) <|
            .step (.bin .neq 20 18) <|
            .ite 21
              (.ret [4])
              (.step (.call 38 [10] 0) <|
              .step (.mk [22, 19]) <|
              .step (.ml [23]) <|
              .step (.app 2 32 2 24) <|
              .step (.ci .i64 1) <|
              .step (.lsub 2 0 26 3) <|
              .step (.lsub 2 1 26 6) <|
              .tail 37 [27, 28, 25]))))))
    (.step (.len 1) <|
    .step (.bin .gtr 6 4) <|
    .ite 7
      (.step (.bin .eql 6 4) <|
      .ite 8
        (.step (.at 2 0 4) <|
        .step (.cell 0 9) <|
        .step (.cell 1 9) <|
        .step (.call 38 [10] 0) <|
        .step (.mk [12, 11]) <|
        .step (.ml [13]) <|
        .step (.app 2 32 2 14) <|
        .step (.ci .i64 1) <|
        .step (.lsub 2 0 16 3) <|
        .tail 37 [17, 1, 15])
        (.step (.bin .eql 3 4) <|
        .ite 9
          (.step (.at 2 1 4) <|
          .step (.cell 0 10) <|
          .step (.cell 1 10) <|
          .step (.call 38 [11] 0) <|
          .step (.mk [13, 12]) <|
          .step (.ml [14]) <|
          .step (.app 2 32 2 15) <|
          .step (.ci .i64 1) <|
          .step (.lsub 2 1 17 6) <|
          .tail 37 [0, 18, 16])
          (.step (.at 2 0 4) <|
          .step (.cell 0 10) <|
          .step (.at 2 1 4) <|
          .step (.cell 0 12) <|
          .step (.call 39 [11, 13] 0) <|
          .step (.bin .lss 14 4) <|
          .ite 15
            (.step (.cell 1 10) <|
            .step (.call 38 [11] 0) <|
            .step (.mk [17, 16]) <|
            .step (.ml [18]) <|
            .step (.app 2 32 2 19) <|
            .step (.ci .i64 1) <|
            .step (.lsub 2 0 21 3) <|
            .tail 37 [22, 1, 20])
            (.step (.bin .gtr 14 4) <|
            .ite 16
              (.step (.cell 1 12) <|
              .step (.call 38 [13] 0) <|
              .step (.mk [18, 17]) <|
              .step (.ml [19]) <|
              .step (.app 2 32 2 20) <|
              .step (.ci .i64 1) <|
              .step (.lsub 2 1 22 6) <|
              .tail 37 [0, 23, 21])
              (.step (.cell 1 10) <|
              .step (.cell 1 12) <|
              .step (.ci .u64 0) <|
              .step (.call 41 [17, 18, 19] 0) <|
              .step (.call 41 [17, 18, 19] 1) <|
              .step (.bin .neq 21 19) <|
              .ite 22
                (.ret [4])
                (.step (.call 38 [11] 0) <|
                .step (.mk [23, 20]) <|
                .step (.ml [24]) <|
                .step (.app 2 32 2 25) <|
                .step (.ci .i64 1) <|
                .step (.lsub 2 0 27 3) <|
                .step (.lsub 2 1 27 6) <|
                .tail 37 [28, 29, 26]))))))
      (.step (.ci .i64 1) <|
      .ret [8, 2]))
/-- postmark/delta.Diff, function 147, the loop [0]. -/
def d53 : PDef := .tree 7 <|
  .step (.bin .lss 3 2) <|
  .ite 7
    (.step (.at 2 1 3) <|
    .step (.cell 0 8) <|
    .step (.cell 1 8) <|
    .step (.len 0) <|
    .step (.ci .i64 0) <|
    .step (.bin .gtr 11 12) <|
    .ite 13
      (.step (.at 2 0 12) <|
      .step (.cell 0 14) <|
      .step (.call 39 [15, 9] 0) <|
      .step (.bin .eql 16 12) <|
      .ite 17
        (.step (.cell 1 14) <|
        .step (.bin .sub 10 18) <|
        .step (.ci .i64 1) <|
        .step (.lsub 2 0 20 11) <|
        .step (.ci .u64 0) <|
        .step (.bin .neq 19 22) <|
        .ite 23
          (.step (.call 38 [9] 0) <|
          .step (.mk [24, 19]) <|
          .step (.ml [25]) <|
          .step (.app 2 32 6 26) <|
          .step (.bin .add 3 20) <|
          .tail 53 [21, 1, 2, 28, 4, 5, 27])
          (.step (.bin .add 3 20) <|
          .tail 53 [21, 1, 2, 24, 4, 5, 6]))
        (.step (.ci .u64 0) <|
        .step (.bin .neq 10 18) <|
        .ite 19
          (.step (.call 38 [9] 0) <|
          .step (.mk [20, 10]) <|
          .step (.ml [21]) <|
          .step (.app 2 32 6 22) <|
          .step (.ci .i64 1) <|
          .step (.bin .add 3 24) <|
          .tail 53 [0, 1, 2, 25, 4, 5, 23])
          (.step (.ci .i64 1) <|
          .step (.bin .add 3 20) <|
          .tail 53 [0, 1, 2, 21, 4, 5, 6])))
      (.step (.ci .u64 0) <|
      .step (.bin .neq 10 14) <|
      .ite 15
        (.step (.call 38 [9] 0) <|
        .step (.mk [16, 10]) <|
        .step (.ml [17]) <|
        .step (.app 2 32 6 18) <|
        .step (.ci .i64 1) <|
        .step (.bin .add 3 20) <|
        .tail 53 [0, 1, 2, 21, 4, 5, 19])
        (.step (.ci .i64 1) <|
        .step (.bin .add 3 16) <|
        .tail 53 [0, 1, 2, 17, 4, 5, 6])))
    (.step (.ci .i64 0) <|
    .ret [8, 6])
/-- (postmark/table.Table).Check, function 18, the loop [0]. -/
def d27 : PDef := .tree 4 <|
  .step (.bin .lss 3 2) <|
  .ite 4
    (.step (.at 2 1 3) <|
    .step (.cell 0 5) <|
    .step (.cell 1 5) <|
    .step (.mk [6, 7]) <|
    .step (.call 28 [8] 0) <|
    .step (.ci .i64 0) <|
    .step (.bin .neq 9 10) <|
    .ite 11
      (.ret [10, 9])
      (.step (.call 6 [6] 0) <|
      .step (.bin .gtr 3 10) <|
      .ite 13
        (.step (.bin .eql 12 0) <|
        .ite 14
          (.step (.ci .i64 14) <|
          .ret [10, 15])
          (.step (.bin .lss 12 0) <|
          .ite 15
            (.step (.ci .i64 7) <|
            .ret [10, 16])
            (.step (.ci .i64 1) <|
            .step (.bin .add 3 16) <|
            .tail 27 [12, 1, 2, 17])))
        (.step (.ci .i64 1) <|
        .step (.bin .add 3 14) <|
        .tail 27 [12, 1, 2, 15])))
    (.step (.ci .i64 1) <|
    .ret [5])
/-- (postmark/descr.Descr).Key, function 81, the loop [0]. -/
def d11 : PDef := .tree 4 <|
  .step (.bin .lss 2 1) <|
  .ite 4
    (.step (.at 2 0 2) <|
    .step (.cell 0 5) <|
    .step (.cell 1 5) <|
    .step (.mk [6, 7]) <|
    .step (.call 12 [8] 0) <|
    .step (.bytes 9) <|
    .step (.app 1 1 3 10) <|
    .step (.slen 9) <|
    .step (.ci .i64 1) <|
    .step (.bin .add 2 13) <|
    .tail 11 [0, 1, 14, 11])
    (.step (.ci .i64 0) <|
    .ret [5, 3])
/-- (postmark/table.Table).AtLeast, function 25, the loop [0]. -/
def d51 : PDef := .tree 5 <|
  .step (.bin .lss 4 3) <|
  .ite 5
    (.step (.at 2 2 4) <|
    .step (.cell 0 6) <|
    .step (.cell 1 6) <|
    .step (.call 6 [7] 0) <|
    .step (.call 52 [0, 1, 9, 2, 3, 4, 7, 8] 0) <|
    .step (.ci .i64 0) <|
    .step (.bin .eql 10 11) <|
    .ite 12
      (.step (.call 52 [0, 1, 9, 2, 3, 4, 7, 8] 1) <|
      .step (.call 52 [0, 1, 9, 2, 3, 4, 7, 8] 2) <|
      .step (.call 52 [0, 1, 9, 2, 3, 4, 7, 8] 3) <|
      .step (.call 52 [0, 1, 9, 2, 3, 4, 7, 8] 4) <|
      .step (.len 0) <|
      .step (.bin .eql 13 17) <|
      .ite 18
        (.ret [11])
        (.step (.at 2 0 13) <|
        .step (.cell 0 19) <|
        .step (.call 6 [20] 0) <|
        .step (.bin .neq 21 9) <|
        .ite 22
          (.ret [11])
          (.step (.cell 1 19) <|
          .step (.bin .lss 23 8) <|
          .ite 24
            (.ret [11])
            (.step (.ci .i64 1) <|
            .step (.bin .add 4 25) <|
            .tail 51 [0, 13, 2, 3, 26]))))
      (.step (.call 52 [0, 1, 9, 2, 3, 4, 7, 8] 1) <|
      .step (.len 0) <|
      .step (.bin .eql 13 14) <|
      .ite 15
        (.ret [11])
        (.step (.at 2 0 13) <|
        .step (.cell 0 16) <|
        .step (.call 6 [17] 0) <|
        .step (.bin .neq 18 9) <|
        .ite 19
          (.ret [11])
          (.step (.cell 1 16) <|
          .step (.bin .lss 20 8) <|
          .ite 21
            (.ret [11])
            (.step (.ci .i64 1) <|
            .step (.bin .add 4 22) <|
            .tail 51 [0, 13, 2, 3, 23])))))
    (.step (.ci .i64 1) <|
    .ret [6])
/-- postmark/postmarklaw12.Few, function 13, the loop [0]. -/
def d5 : PDef := .tree 3 <|
  .step (.bin .lss 2 1) <|
  .ite 3
    (.step (.at 2 0 2) <|
    .step (.cell 0 4) <|
    .step (.cell 1 4) <|
    .step (.slen 5) <|
    .step (.slen 6) <|
    .step (.bin .add 7 8) <|
    .step (.ci .i64 600) <|
    .step (.bin .gtr 9 10) <|
    .ite 11
      (.step (.ci .i64 0) <|
      .ret [12])
      (.step (.ci .i64 1) <|
      .step (.bin .add 2 12) <|
      .tail 5 [0, 1, 13]))
    (.step (.ci .i64 1) <|
    .ret [4])
/-- postmark/varint.Put, function 96, the loop [0]. -/
def d10 : PDef := .tree 4 <|
  .step (.bin .lss 3 2) <|
  .ite 4
    (.step (.ci .u64 127) <|
    .step (.bin .and 0 5) <|
    .step (.conv .u8 6) <|
    .step (.ci .u8 128) <|
    .step (.bin .or 7 8) <|
    .step (.idx 1 3) <|
    .step (.upd 1 0 1 10 [9]) <|
    .step (.ci .u64 7) <|
    .step (.bin .shr 0 12) <|
    .step (.ci .i64 1) <|
    .step (.bin .add 3 14) <|
    .tail 10 [13, 11, 2, 15])
    (.step (.ci .i64 0) <|
    .ret [5, 1])
/-- slices.Index[[]uint64,uint64], function 148, the loop [0]. -/
def d22 : PDef := .tree 4 <|
  .step (.bin .lss 3 2) <|
  .ite 4
    (.step (.at 1 0 3) <|
    .step (.cell 0 5) <|
    .step (.bin .eql 1 6) <|
    .ite 7
      (.step (.ci .i64 0) <|
      .ret [8, 3])
      (.step (.ci .i64 1) <|
      .step (.bin .add 3 8) <|
      .tail 22 [0, 1, 2, 9]))
    (.step (.ci .i64 1) <|
    .ret [5])
/-- (postmark/descr.Descr).Check, function 157, the loop [0]. -/
def d30 : PDef := .tree 3 <|
  .step (.bin .lss 2 1) <|
  .ite 3
    (.step (.at 2 0 2) <|
    .step (.cell 0 4) <|
    .step (.cell 1 4) <|
    .step (.mk [5, 6]) <|
    .step (.call 31 [7] 0) <|
    .step (.ci .i64 0) <|
    .step (.bin .neq 8 9) <|
    .ite 10
      (.ret [9, 8])
      (.step (.bin .eql 2 9) <|
      .ite 11
        (.step (.ci .i64 1) <|
        .step (.bin .add 2 12) <|
        .tail 30 [0, 1, 13])
        (.step (.ci .i64 1) <|
        .step (.bin .sub 2 12) <|
        .step (.at 2 0 13) <|
        .step (.cell 0 14) <|
        .step (.bin .eql 5 15) <|
        .ite 16
          (.step (.ci .i64 14) <|
          .ret [9, 17])
          (.step (.bin .lss 5 15) <|
          .ite 17
            (.step (.ci .i64 7) <|
            .ret [9, 18])
            (.step (.bin .add 2 12) <|
            .tail 30 [0, 1, 18])))))
    (.step (.ci .i64 1) <|
    .ret [4])
/-- slices.EqualFunc[postmark/table.Table,postmark/table.Table,postmark/table.Row,postmark/table.Row], function 89, the loop [0]. -/
def d60 : PDef := .tree 4 <|
  .step (.bin .lss 3 2) <|
  .ite 4
    (.step (.at 2 1 3) <|
    .step (.cell 0 5) <|
    .step (.cell 1 5) <|
    .step (.at 2 0 3) <|
    .step (.cell 0 8) <|
    .step (.cell 1 8) <|
    .step (.mk [6, 7]) <|
    .step (.mk [9, 10]) <|
    .step (.call 61 [11, 12] 0) <|
    .step (.un .not 13) <|
    .ite 14
      (.step (.ci .i64 0) <|
      .ret [15])
      (.step (.ci .i64 1) <|
      .step (.bin .add 3 15) <|
      .tail 60 [0, 1, 2, 16]))
    (.step (.ci .i64 1) <|
    .ret [5])
/-- postmark/varint.Size, function 169, the loop [0]. -/
def d9 : PDef := .tree 2 <|
  .step (.ci .u64 128) <|
  .step (.bin .geq 0 2) <|
  .ite 3
    (.step (.ci .u64 7) <|
    .step (.bin .shr 0 4) <|
    .step (.ci .i64 1) <|
    .step (.bin .add 1 6) <|
    .tail 9 [5, 7])
    (.step (.ci .i64 0) <|
    .ret [4, 1])
/-- (*postmark/sender.Sender).find, function 143, the loop [0]. -/
def d48 : PDef := .tree 6 <|
  .step (.bin .lss 3 2) <|
  .ite 6
    (.step (.idx 1 3) <|
    .step (.at 2 1 7) <|
    .step (.cell 0 8) <|
    .step (.cell 1 8) <|
    .step (.bin .eql 9 0) <|
    .ite 11
      (.step (.ci .i64 0) <|
      .ret [12, 3])
      (.step (.ci .i64 1) <|
      .step (.bin .add 3 12) <|
      .tail 48 [0, 1, 2, 13, 4, 5]))
    (.step (.ci .i64 1) <|
    .ret [7])
def Ds : List PDef := [d0, d1, d2, d3, d4, d5, d6, d7, d8, d9, d10, d11, d12, .prim fun _ => none, .prim fun _ => none, .prim fun _ => none, .prim fun _ => none, .prim fun _ => none, .prim fun _ => none, .prim fun _ => none, d20, d21, d22, .prim fun _ => none, d24, d25, d26, d27, d28, d29, d30, d31, d32, d33, d34, d35, d36, d37, d38, d39, d40, d41, .prim fun _ => none, d43, d44, d45, d46, d47, d48, d49, d50, d51, d52, d53, d54, d55, d56, d57, d58, d59, d60, d61, d62, d63, d64, d65]
noncomputable abbrev TT : PProg := TofL Ds
end
end W
end Go.Proofs.YtbcpbplkgknnmaaGreatDoor
