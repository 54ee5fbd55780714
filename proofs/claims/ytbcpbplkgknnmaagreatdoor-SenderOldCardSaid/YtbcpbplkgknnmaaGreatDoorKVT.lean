/- What functions and loops compute: trees of nodes, found by a driver. -/
import Derived.Test.YtbcpbplkgknnmaaGreatDoorAbsJ
import Derived.Test.YtbcpbplkgknnmaaGreatDoorAbsPl
import Derived.Test.YtbcpbplkgknnmaaGreatDoorAbsTold
import Derived.Test.YtbcpbplkgknnmaaGreatDoorAbsTold2
namespace Go.Proofs.YtbcpbplkgknnmaaGreatDoor
open Go Go.Abs
set_option maxRecDepth 100000
set_option linter.unusedVariables false
set_option linter.unusedSimpArgs false
namespace V
noncomputable section
/-- postmark/postmarklaw12.Few, function 13, plain functions []. -/
def d4 : PDef := .fn [.sc] [.sc] <|
  .step (.len 0) <|
  .step (.ci .i64 0) <|
  .step (.call 5 [0, 1, 2] 0) <|
  .step (.bin .eql 3 2) <|
  .ite 4
    (.step (.cb false) <|
    .ret [5])
    (.step (.ci .i64 40) <|
    .step (.bin .leq 1 5) <|
    .ret [6])
/-- postmark/utf.Good, function 253, plain functions []. -/
def d24 : PDef := .fn [.sc] [.sc] <|
  .step (.call 25 [0] 0) <|
  .ret [1]
/-- slices.Equal[postmark/descr.Descr,postmark/entry.Entry], function 91, plain functions []. -/
def d58 : PDef := .fn [.sc, .sc] [.sc] <|
  .step (.len 0) <|
  .step (.len 1) <|
  .step (.bin .neq 2 3) <|
  .ite 4
    (.step (.cb false) <|
    .ret [5])
    (.step (.ci .i64 0) <|
    .step (.call 59 [0, 1, 2, 5] 0) <|
    .step (.bin .eql 6 5) <|
    .ite 7
      (.step (.cb false) <|
      .ret [8])
      (.step (.cb true) <|
      .ret [8]))
/-- math/bits.Add64 is told. -/
abbrev d32 : PDef := .prim add64P
/-- (postmark/delta.Snapshot).Check, function 141, plain functions []. -/
def d16 : PDef := .fn [.ag 2] [.sc] <|
  .step (.cell 0 0) <|
  .step (.cell 1 0) <|
  .step (.call 17 [2] 0) <|
  .ret [3]
/-- postmark/table.Same$1, function 90, plain functions []. -/
def d57 : PDef := .fn [.ag 2, .ag 2] [.sc] <|
  .step (.cell 0 0) <|
  .step (.cell 1 0) <|
  .step (.cell 0 1) <|
  .step (.cell 1 1) <|
  .step (.bin .eql 3 5) <|
  .ite 6
    (.step (.call 58 [2, 4] 0) <|
    .ret [7])
    (.step (.cb false) <|
    .ret [7])
/-- postmark/delta.together, function 152, plain functions []. -/
def d27 : PDef := .fn [.sc, .sc] [.sc, .sc] <|
  .step (.len 0) <|
  .step (.len 1) <|
  .step (.bin .add 2 3) <|
  .step (.ml []) <|
  .step (.ci .u64 0) <|
  .step (.mk [5, 6]) <|
  .step (.ci .i64 0) <|
  .step (.rep 2 32 7 8 4) <|
  .step (.call 28 [0, 1, 9] 0) <|
  .step (.bin .eql 10 8) <|
  .ite 11
    (.step (.ci .i64 3) <|
    .ret [5, 12])
    (.step (.call 28 [0, 1, 9] 1) <|
    .step (.len 12) <|
    .step (.ci .i64 256) <|
    .step (.bin .gtr 13 14) <|
    .ite 15
      (.step (.ci .i64 13) <|
      .ret [5, 16])
      (.ret [12, 8]))
/-- internal/bytealg.abigen_runtime_cmpstring is told. -/
abbrev d31 : PDef := .prim cmpP
/-- (postmark/table.Table).Check, function 18, plain functions []. -/
def d17 : PDef := .fn [.sc] [.sc] <|
  .step (.len 0) <|
  .step (.ci .i64 256) <|
  .step (.bin .gtr 1 2) <|
  .ite 3
    (.step (.ci .i64 13) <|
    .ret [4])
    (.step (.cs []) <|
    .step (.ci .i64 0) <|
    .step (.call 18 [4, 0, 1, 5] 0) <|
    .step (.bin .eql 6 5) <|
    .ite 7
      (.step (.call 18 [4, 0, 1, 5] 1) <|
      .ret [8])
      (.ret [5]))
/-- postmark/delta.Apply, function 79, plain functions []. -/
def d15 : PDef := .fn [.ag 2, .ag 3] [.ag 2, .sc] <|
  .step (.cell 0 0) <|
  .step (.cell 1 0) <|
  .step (.cell 0 1) <|
  .step (.cell 1 1) <|
  .step (.cell 2 1) <|
  .step (.mk [2, 3]) <|
  .step (.call 16 [7] 0) <|
  .step (.ci .i64 0) <|
  .step (.bin .neq 8 9) <|
  .ite 10
    (.step (.ci .u64 0) <|
    .step (.ml []) <|
    .step (.mk [11, 12]) <|
    .ret [13, 8])
    (.step (.mk [4, 5, 6]) <|
    .step (.call 26 [11] 0) <|
    .step (.bin .neq 12 9) <|
    .ite 13
      (.step (.ci .u64 0) <|
      .step (.ml []) <|
      .step (.mk [14, 15]) <|
      .ret [16, 12])
      (.step (.bin .neq 2 4) <|
      .ite 14
        (.step (.ci .u64 0) <|
        .step (.ml []) <|
        .step (.ci .i64 19) <|
        .step (.mk [15, 16]) <|
        .ret [18, 17])
        (.step (.call 27 [3, 6] 0) <|
        .step (.call 27 [3, 6] 1) <|
        .step (.bin .neq 16 9) <|
        .ite 17
          (.step (.ci .u64 0) <|
          .step (.ml []) <|
          .step (.mk [18, 19]) <|
          .ret [20, 16])
          (.step (.mk [5, 15]) <|
          .ret [18, 9]))))
/-- postmark/delta.Diff, function 147, plain functions []. -/
def d49 : PDef := .fn [.ag 2, .ag 2] [.ag 3, .sc] <|
  .step (.cell 0 0) <|
  .step (.cell 1 0) <|
  .step (.cell 0 1) <|
  .step (.cell 1 1) <|
  .step (.mk [2, 3]) <|
  .step (.call 16 [6] 0) <|
  .step (.ci .i64 0) <|
  .step (.bin .neq 7 8) <|
  .ite 9
    (.step (.ci .u64 0) <|
    .step (.ml []) <|
    .step (.mk [10, 10, 11]) <|
    .ret [12, 7])
    (.step (.mk [4, 5]) <|
    .step (.call 16 [10] 0) <|
    .step (.bin .neq 11 8) <|
    .ite 12
      (.step (.ci .u64 0) <|
      .step (.ml []) <|
      .step (.mk [13, 13, 14]) <|
      .ret [15, 11])
      (.step (.bin .leq 4 2) <|
      .ite 13
        (.step (.ci .u64 0) <|
        .step (.ml []) <|
        .step (.ci .i64 20) <|
        .step (.mk [14, 14, 15]) <|
        .ret [17, 16])
        (.step (.call 50 [5, 3] 0) <|
        .step (.un .not 14) <|
        .ite 15
          (.step (.ci .u64 0) <|
          .step (.ml []) <|
          .step (.ci .i64 21) <|
          .step (.mk [16, 16, 17]) <|
          .ret [19, 18])
          (.step (.len 5) <|
          .step (.ml []) <|
          .step (.call 53 [3, 5, 16, 8, 2, 4, 17] 0) <|
          .step (.call 53 [3, 5, 16, 8, 2, 4, 17] 1) <|
          .step (.mk [2, 4, 19]) <|
          .ret [20, 8]))))
/-- unicode/utf8.ValidString is told. -/
abbrev d25 : PDef := .prim validP
/-- (postmark/entry.Entry).Put, function 155, plain functions []. -/
def d12 : PDef := .fn [.ag 2] [.sc] <|
  .step (.cell 0 0) <|
  .step (.cell 1 0) <|
  .step (.slen 1) <|
  .step (.conv .u64 3) <|
  .step (.call 7 [4] 0) <|
  .step (.bin .add 5 1) <|
  .step (.slen 2) <|
  .step (.conv .u64 7) <|
  .step (.call 7 [8] 0) <|
  .step (.bin .add 6 9) <|
  .step (.bin .add 10 2) <|
  .ret [11]
/-- postmark/descr.Cmp, function 206, plain functions []. -/
def d30 : PDef := .fn [.sc, .sc] [.sc] <|
  .step (.call 6 [0] 0) <|
  .step (.call 6 [1] 0) <|
  .step (.call 31 [2, 3] 0) <|
  .ret [4]
/-- postmark/postmarklaw24.SenderOld, function 9, plain functions []. -/
def d0 : PDef := .fn [.sc, .sc] [.sc] <|
  .step (.len 0) <|
  .step (.ci .i64 30) <|
  .step (.bin .gtr 2 3) <|
  .ite 4
    (.step (.cb true) <|
    .ret [5])
    (.step (.ci .i64 0) <|
    .step (.ci .i64 1) <|
    .step (.ci .u64 0) <|
    .step (.ml []) <|
    .step (.call 1 [1, 0, 2, 5, 6, 8, 7] 0) <|
    .step (.bin .eql 9 5) <|
    .ite 10
      (.step (.call 1 [1, 0, 2, 5, 6, 8, 7] 1) <|
      .ret [11])
      (.step (.cb true) <|
      .ret [11]))
/-- postmark/varint.Size, function 169, plain functions []. -/
def d8 : PDef := .fn [.sc] [.sc] <|
  .step (.ci .i64 1) <|
  .step (.call 9 [0, 1] 0) <|
  .step (.call 9 [0, 1] 1) <|
  .ret [3]
/-- (postmark/table.Table).AtLeast, function 25, plain functions []. -/
def d50 : PDef := .fn [.sc, .sc] [.sc] <|
  .step (.len 1) <|
  .step (.ci .i64 0) <|
  .step (.call 51 [0, 3, 1, 2, 3] 0) <|
  .step (.bin .eql 4 3) <|
  .ite 5
    (.step (.cb false) <|
    .ret [6])
    (.step (.cb true) <|
    .ret [6])
/-- postmark/table.Same, function 20, plain functions []. -/
def d54 : PDef := .fn [.sc, .sc] [.sc] <|
  .step (.call 55 [0, 1] 0) <|
  .ret [2]
/-- (postmark/descr.Descr).Key, function 81, plain functions []. -/
def d6 : PDef := .fn [.sc] [.sc] <|
  .step (.len 0) <|
  .step (.conv .u64 1) <|
  .step (.call 7 [2] 0) <|
  .step (.bytes 3) <|
  .step (.ml []) <|
  .step (.app 1 1 5 4) <|
  .step (.slen 3) <|
  .step (.ci .i64 0) <|
  .step (.call 11 [0, 1, 8, 6] 0) <|
  .step (.call 11 [0, 1, 8, 6] 1) <|
  .step (.len 10) <|
  .step (.str 10) <|
  .ret [12]
/-- postmark/utf.Check, function 189, plain functions []. -/
def d23 : PDef := .fn [.sc, .sc, .sc] [.sc] <|
  .step (.slen 0) <|
  .step (.bin .lss 3 1) <|
  .ite 4
    (.step (.ci .i64 13) <|
    .ret [5])
    (.step (.bin .gtr 3 2) <|
    .ite 5
      (.step (.ci .i64 13) <|
      .ret [6])
      (.step (.call 24 [0] 0) <|
      .step (.un .not 6) <|
      .ite 7
        (.step (.ci .i64 11) <|
        .ret [8])
        (.step (.ci .i64 0) <|
        .ret [8])))
/-- (postmark/descr.Descr).Check, function 157, plain functions []. -/
def d20 : PDef := .fn [.sc] [.sc] <|
  .step (.len 0) <|
  .step (.conv .u64 1) <|
  .step (.ci .u64 0) <|
  .step (.bin .eql 2 3) <|
  .ite 4
    (.step (.ci .i64 12) <|
    .ret [5])
    (.step (.ci .u64 16) <|
    .step (.bin .gtr 2 5) <|
    .ite 6
      (.step (.ci .i64 13) <|
      .ret [7])
      (.step (.ci .i64 0) <|
      .step (.call 21 [0, 1, 7] 0) <|
      .step (.bin .eql 8 7) <|
      .ite 9
        (.step (.call 21 [0, 1, 7] 1) <|
        .ret [10])
        (.ret [7])))
/-- (postmark/delta.Snapshot).Clone, function 140, plain functions []. -/
def d34 : PDef := .fn [.ag 2] [.ag 2] <|
  .step (.cell 0 0) <|
  .step (.cell 1 0) <|
  .step (.len 2) <|
  .step (.ml []) <|
  .step (.ci .u64 0) <|
  .step (.mk [4, 5]) <|
  .step (.ci .i64 0) <|
  .step (.rep 2 32 6 7 3) <|
  .step (.call 35 [2, 3, 7, 1, 8] 0) <|
  .step (.call 35 [2, 3, 7, 1, 8] 1) <|
  .step (.mk [1, 10]) <|
  .ret [11]
/-- (postmark/entry.Entry).Check, function 212, plain functions []. -/
def d22 : PDef := .fn [.ag 2] [.sc] <|
  .step (.cell 0 0) <|
  .step (.cell 1 0) <|
  .step (.ci .i64 1) <|
  .step (.ci .i64 64) <|
  .step (.call 23 [1, 3, 4] 0) <|
  .step (.ci .i64 0) <|
  .step (.bin .neq 5 6) <|
  .ite 7
    (.ret [5])
    (.step (.ci .i64 256) <|
    .step (.call 23 [2, 6, 8] 0) <|
    .ret [9])
/-- slices.EqualFunc[postmark/table.Table,postmark/table.Table,postmark/table.Row,postmark/table.Row], function 89, plain functions [none, none, some 90]. -/
def d55 : PDef := .fn [.sc, .sc] [.sc] <|
  .step (.len 0) <|
  .step (.len 1) <|
  .step (.bin .neq 2 3) <|
  .ite 4
    (.step (.cb false) <|
    .ret [5])
    (.step (.ci .i64 0) <|
    .step (.call 56 [1, 0, 2, 5] 0) <|
    .step (.bin .eql 6 5) <|
    .ite 7
      (.step (.cb false) <|
      .ret [8])
      (.step (.cb true) <|
      .ret [8]))
/-- (postmark/table.Row).check, function 82, plain functions []. -/
def d19 : PDef := .fn [.ag 2] [.sc] <|
  .step (.cell 0 0) <|
  .step (.cell 1 0) <|
  .step (.call 20 [1] 0) <|
  .step (.ci .i64 0) <|
  .step (.bin .neq 3 4) <|
  .ite 5
    (.ret [3])
    (.step (.ci .u64 0) <|
    .step (.bin .eql 2 6) <|
    .ite 7
      (.step (.ci .i64 18) <|
      .ret [8])
      (.ret [4]))
/-- (postmark/delta.Delta).Check, function 151, plain functions []. -/
def d26 : PDef := .fn [.ag 3] [.sc] <|
  .step (.cell 0 0) <|
  .step (.cell 1 0) <|
  .step (.cell 2 0) <|
  .step (.bin .leq 2 1) <|
  .ite 4
    (.step (.ci .i64 20) <|
    .ret [5])
    (.step (.call 17 [3] 0) <|
    .ret [5])
/-- slices.Clone[postmark/descr.Descr,postmark/entry.Entry] is told. -/
abbrev d29 : PDef := .prim (cloneP 32 2)
/-- postmark/varint.Put, function 96, plain functions []. -/
def d7 : PDef := .fn [.sc] [.sc] <|
  .step (.call 8 [0] 0) <|
  .step (.ci .u8 0) <|
  .step (.rep 1 1 2 1 1) <|
  .step (.len 3) <|
  .step (.ci .i64 0) <|
  .step (.call 10 [0, 3, 4, 5] 0) <|
  .step (.call 10 [0, 3, 4, 5] 1) <|
  .step (.len 7) <|
  .step (.ci .i64 1) <|
  .step (.bin .sub 8 9) <|
  .step (.idx 7 10) <|
  .step (.at 1 7 11) <|
  .step (.cell 0 12) <|
  .step (.ci .u8 127) <|
  .step (.bin .and 13 14) <|
  .step (.upd 1 0 7 11 [15]) <|
  .step (.str 16) <|
  .ret [17]
/-- postmark/postmarklaw13.Few, function 12, plain functions []. -/
def d2 : PDef := .fn [.sc] [.sc] <|
  .step (.len 0) <|
  .step (.ci .i64 0) <|
  .step (.call 3 [0, 1, 2] 0) <|
  .step (.bin .eql 3 2) <|
  .ite 4
    (.step (.cb false) <|
    .ret [5])
    (.step (.ci .i64 300) <|
    .step (.bin .leq 1 5) <|
    .ret [6])
/-- (*postmark/sender.Sender).Publish, function 65, handed blocks, plain functions []. -/
def d61 : PDef := .tree 5 <|
  .step (.mk [0, 1]) <|
  .step (.call 16 [5] 0) <|
  .step (.ci .i64 0) <|
  .step (.bin .neq 6 7) <|
  .ite 8
    (.ret [7, 6, 3, 4])
    (.step (.ci .u64 0) <|
    .step (.bin .eql 0 9) <|
    .ite 10
      (.step (.ci .i64 18) <|
      .ret [7, 11, 3, 4])
      (.step (.len 3) <|
      .step (.bin .gtr 11 7) <|
      .ite 12
        (.step (.ci .i64 1) <|
        .step (.bin .sub 11 13) <|
        .step (.idx 3 14) <|
        .step (.at 2 3 15) <|
        .step (.cell 0 16) <|
        .step (.cell 1 16) <|
        .step (.bin .leq 0 17) <|
        .ite 19
          (.step (.ci .i64 20) <|
          .ret [7, 20, 3, 4])
          (.step (.call 50 [1, 18] 0) <|
          .step (.un .not 20) <|
          .ite 21
            (.step (.ci .i64 21) <|
            .ret [7, 22, 3, 4])
            (.step (.call 34 [5] 0) <|
            .step (.cell 0 22) <|
            .step (.cell 1 22) <|
            .step (.mk [23, 24]) <|
            .step (.ml [25]) <|
            .step (.app 2 32 3 26) <|
            .step (.len 27) <|
            .step (.ci .i64 8) <|
            .step (.bin .gtr 28 29) <|
            .ite 30
              (.step (.idx 27 7) <|
              .step (.at 2 27 31) <|
              .step (.cell 0 32) <|
              .step (.bin .eql 33 4) <|
              .ite 34
                (.step (.lsub 2 27 13 28) <|
                .step (.ml []) <|
                .step (.app 2 32 36 35) <|
                .ret [7, 7, 37, 9])
                (.step (.lsub 2 27 13 28) <|
                .step (.ml []) <|
                .step (.app 2 32 36 35) <|
                .ret [7, 7, 37, 4]))
              (.ret [7, 7, 27, 4]))))
        (.step (.call 34 [5] 0) <|
        .step (.cell 0 13) <|
        .step (.cell 1 13) <|
        .step (.mk [14, 15]) <|
        .step (.ml [16]) <|
        .step (.app 2 32 3 17) <|
        .step (.len 18) <|
        .step (.ci .i64 8) <|
        .step (.bin .gtr 19 20) <|
        .ite 21
          (.step (.idx 18 7) <|
          .step (.at 2 18 22) <|
          .step (.cell 0 23) <|
          .step (.bin .eql 24 4) <|
          .ite 25
            (.step (.ci .i64 1) <|
            .step (.lsub 2 18 26 19) <|
            .step (.ml []) <|
            .step (.app 2 32 28 27) <|
            .ret [7, 7, 29, 9])
            (.step (.ci .i64 1) <|
            .step (.lsub 2 18 26 19) <|
            .step (.ml []) <|
            .step (.app 2 32 28 27) <|
            .ret [7, 7, 29, 4]))
          (.ret [7, 7, 18, 4]))))
/-- postmark/postmarklaw24.next, function 70, handed blocks, plain functions []. -/
def d60 : PDef := .tree 8 <|
  .step (.call 45 [5, 6, 7] 0) <|
  .step (.call 45 [5, 6, 7] 1) <|
  .step (.call 45 [5, 6, 7] 2) <|
  .step (.call 45 [5, 6, 7] 3) <|
  .step (.bin .add 9 3) <|
  .step (.mk [9, 10]) <|
  .step (.mk [9, 12, 2]) <|
  .step (.call 15 [13, 14] 0) <|
  .step (.cell 0 15) <|
  .step (.cell 1 15) <|
  .step (.call 15 [13, 14] 1) <|
  .step (.ci .i64 0) <|
  .step (.bin .neq 18 19) <|
  .ite 20
    (.ret [19, 1, 2])
    (.ret [19, 16, 17])
/-- (*postmark/sender.Sender).Message, function 74, handed blocks, plain functions []. -/
def d48 : PDef := .tree 3 <|
  .step (.call 45 [0, 1, 2] 0) <|
  .step (.call 45 [0, 1, 2] 1) <|
  .step (.call 45 [0, 1, 2] 2) <|
  .step (.call 45 [0, 1, 2] 3) <|
  .step (.un .not 6) <|
  .ite 7
    (.step (.ci .i64 0) <|
    .step (.ci .u64 0) <|
    .step (.ml []) <|
    .step (.ci .i64 24) <|
    .ret [8, 8, 9, 9, 10, 11])
    (.step (.bin .eql 4 2) <|
    .ite 8
      (.step (.ci .i64 0) <|
      .step (.ci .u64 0) <|
      .step (.ml []) <|
      .step (.ci .i64 24) <|
      .ret [9, 9, 10, 10, 11, 12])
      (.step (.call 43 [2, 0, 1, 2] 0) <|
      .step (.call 43 [2, 0, 1, 2] 1) <|
      .step (.call 43 [2, 0, 1, 2] 2) <|
      .ite 11
        (.step (.ci .i64 2) <|
        .step (.bin .geq 0 12) <|
        .ite 13
          (.step (.idx 1 10) <|
          .step (.at 2 1 14) <|
          .step (.cell 0 15) <|
          .step (.cell 1 15) <|
          .step (.mk [16, 17]) <|
          .step (.mk [4, 5]) <|
          .step (.call 49 [18, 19] 0) <|
          .step (.cell 0 20) <|
          .step (.cell 1 20) <|
          .step (.cell 2 20) <|
          .step (.call 49 [18, 19] 1) <|
          .step (.ci .i64 0) <|
          .step (.bin .neq 24 25) <|
          .ite 26
            (.step (.ci .u64 0) <|
            .step (.ml []) <|
            .ret [25, 25, 27, 27, 28, 24])
            (.step (.ci .i64 6) <|
            .ret [25, 27, 22, 21, 23, 25]))
          (.step (.ci .i64 5) <|
          .step (.ci .u64 0) <|
          .step (.ci .i64 0) <|
          .ret [16, 14, 4, 15, 5, 16]))
        (.step (.ci .i64 5) <|
        .step (.ci .u64 0) <|
        .step (.ci .i64 0) <|
        .ret [14, 12, 4, 13, 5, 14])))
/-- (*postmark/sender.Sender).Clone, function 63, handed blocks, plain functions []. -/
def d46 : PDef := .tree 3 <|
  .step (.len 1) <|
  .step (.ci .i64 0) <|
  .step (.ml []) <|
  .step (.call 47 [1, 3, 4, 0, 2, 5] 0) <|
  .step (.call 47 [1, 3, 4, 0, 2, 5] 1) <|
  .ret [4, 7]
/-- (*postmark/sender.Sender).Last, function 66, handed blocks, plain functions []. -/
def d45 : PDef := .tree 3 <|
  .step (.len 1) <|
  .step (.ci .i64 0) <|
  .step (.bin .eql 3 4) <|
  .ite 5
    (.step (.ci .u64 0) <|
    .step (.ml []) <|
    .step (.cb false) <|
    .ret [4, 6, 7, 8])
    (.step (.ci .i64 1) <|
    .step (.bin .sub 3 6) <|
    .step (.idx 1 7) <|
    .step (.at 2 1 8) <|
    .step (.cell 0 9) <|
    .step (.cell 1 9) <|
    .step (.mk [10, 11]) <|
    .step (.call 34 [12] 0) <|
    .step (.cell 0 13) <|
    .step (.cell 1 13) <|
    .step (.cb true) <|
    .ret [4, 14, 15, 16])
/-- (*postmark/sender.Sender).find, function 143, handed blocks, plain functions []. -/
def d43 : PDef := .tree 4 <|
  .step (.len 2) <|
  .step (.ci .i64 0) <|
  .step (.call 44 [0, 2, 4, 5, 1, 3] 0) <|
  .step (.bin .eql 6 5) <|
  .ite 7
    (.step (.call 44 [0, 2, 4, 5, 1, 3] 1) <|
    .step (.cb true) <|
    .ret [5, 8, 9])
    (.step (.cb false) <|
    .ret [5, 5, 8])
/-- (*postmark/sender.Sender).Ack, function 67, handed blocks, plain functions []. -/
def d42 : PDef := .tree 4 <|
  .step (.bin .leq 0 3) <|
  .ite 4
    (.step (.cb false) <|
    .step (.ci .i64 0) <|
    .ret [6, 5, 2, 3])
    (.step (.call 43 [0, 1, 2, 3] 0) <|
    .step (.call 43 [0, 1, 2, 3] 1) <|
    .step (.call 43 [0, 1, 2, 3] 2) <|
    .step (.un .not 7) <|
    .ite 8
      (.step (.cb false) <|
      .step (.ci .i64 0) <|
      .ret [10, 9, 2, 3])
      (.step (.len 2) <|
      .step (.lsub 2 2 6 9) <|
      .step (.ml []) <|
      .step (.app 2 32 11 10) <|
      .step (.cb true) <|
      .step (.ci .i64 0) <|
      .ret [14, 13, 12, 0]))
/-- (*postmark/sender.Sender).find, function 143, the loop [0]. -/
def d44 : PDef := .tree 6 <|
  .step (.bin .lss 3 2) <|
  .ite 6
    (.step (.idx 1 3) <|
    .step (.at 2 1 7) <|
    .step (.cell 0 8) <|
    .step (.cell 1 8) <|
    .step (.bin .eql 9 0) <|
    .ite 11
      (.step (.ci .i64 0) <|
      .ret [12, 3])
      (.step (.ci .i64 1) <|
      .step (.bin .add 3 12) <|
      .tail 44 [0, 1, 2, 13, 4, 5]))
    (.step (.ci .i64 1) <|
    .ret [7])
/-- postmark/postmarklaw24.SenderOld, function 9, the loop [0]. -/
def d1 : PDef := .tree 7 <|
  .step (.bin .lss 3 2) <|
  .ite 7
    (.step (.at 5 1 3) <|
    .step (.cell 0 8) <|
    .step (.cell 1 8) <|
    .step (.cell 2 8) <|
    .step (.cell 3 8) <|
    .step (.cell 4 8) <|
    .step (.len 11) <|
    .step (.ci .i64 60) <|
    .step (.bin .gtr 14 15) <|
    .ite 16
      (.step (.cb true) <|
      .step (.ci .i64 0) <|
      .ret [18, 17])
      (.step (.call 2 [11] 0) <|
      .step (.un .not 17) <|
      .ite 18
        (.step (.cb true) <|
        .step (.ci .i64 0) <|
        .ret [20, 19])
        (.step (.call 60 [9, 10, 11, 12, 13, 4, 5, 6] 0) <|
        .step (.call 60 [9, 10, 11, 12, 13, 4, 5, 6] 1) <|
        .step (.call 60 [9, 10, 11, 12, 13, 4, 5, 6] 2) <|
        .step (.call 61 [20, 21, 4, 5, 6] 0) <|
        .step (.call 61 [20, 21, 4, 5, 6] 1) <|
        .step (.call 61 [20, 21, 4, 5, 6] 2) <|
        .step (.call 61 [20, 21, 4, 5, 6] 3) <|
        .step (.ci .u8 2) <|
        .step (.bin .rem 9 26) <|
        .step (.ci .u8 0) <|
        .step (.bin .eql 27 28) <|
        .ite 29
          (.step (.call 42 [12, 4, 24, 25] 0) <|
          .step (.call 42 [12, 4, 24, 25] 1) <|
          .step (.call 42 [12, 4, 24, 25] 2) <|
          .step (.call 42 [12, 4, 24, 25] 3) <|
          .step (.call 45 [4, 32, 33] 0) <|
          .step (.call 45 [4, 32, 33] 1) <|
          .step (.call 45 [4, 32, 33] 2) <|
          .step (.call 45 [4, 32, 33] 3) <|
          .step (.call 46 [4, 32, 33] 0) <|
          .step (.call 46 [4, 32, 33] 1) <|
          .step (.ci .u8 3) <|
          .step (.bin .rem 0 40) <|
          .step (.conv .i64 41) <|
          .step (.ci .i64 1) <|
          .step (.bin .add 42 43) <|
          .step (.bin .leq 43 44) <|
          .ite 45
            (.step (.ci .i64 3) <|
            .step (.bin .leq 44 46) <|
            .step (.un .not 47) <|
            .ite 48
              (.step (.call 48 [4, 32, 33] 0) <|
              .step (.call 48 [4, 32, 33] 1) <|
              .step (.call 48 [4, 32, 33] 2) <|
              .step (.call 48 [4, 32, 33] 3) <|
              .step (.call 48 [4, 32, 33] 4) <|
              .step (.call 48 [4, 32, 33] 5) <|
              .step (.ci .u64 0) <|
              .step (.call 48 [4, 39, 55] 0) <|
              .step (.call 48 [4, 39, 55] 1) <|
              .step (.call 48 [4, 39, 55] 2) <|
              .step (.call 48 [4, 39, 55] 3) <|
              .step (.call 48 [4, 39, 55] 4) <|
              .step (.call 48 [4, 39, 55] 5) <|
              .step (.ci .i64 0) <|
              .step (.bin .eql 54 62) <|
              .ite 63
                (.step (.ci .i64 5) <|
                .step (.bin .neq 50 64) <|
                .ite 65
                  (.step (.cb false) <|
                  .ret [62, 66])
                  (.step (.bin .neq 51 35) <|
                  .ite 66
                    (.step (.cb false) <|
                    .ret [62, 67])
                    (.step (.call 54 [53, 36] 0) <|
                    .step (.un .not 67) <|
                    .ite 68
                      (.step (.cb false) <|
                      .ret [62, 69])
                      (.step (.bin .eql 61 62) <|
                      .step (.binb .neq 37 69) <|
                      .ite 70
                        (.step (.cb false) <|
                        .ret [62, 71])
                        (.ite 37
                          (.step (.bin .neq 57 64) <|
                          .ite 71
                            (.step (.cb false) <|
                            .ret [62, 72])
                            (.step (.bin .neq 58 35) <|
                            .ite 72
                              (.step (.cb false) <|
                              .ret [62, 73])
                              (.step (.bin .add 3 43) <|
                              .tail 1 [0, 1, 2, 73, 4, 32, 33])))
                          (.step (.bin .add 3 43) <|
                          .tail 1 [0, 1, 2, 71, 4, 32, 33]))))))
                (.step (.bin .eql 61 62) <|
                .step (.binb .neq 37 64) <|
                .ite 65
                  (.step (.cb false) <|
                  .ret [62, 66])
                  (.ite 37
                    (.step (.ci .i64 5) <|
                    .step (.bin .neq 57 66) <|
                    .ite 67
                      (.step (.cb false) <|
                      .ret [62, 68])
                      (.step (.bin .neq 58 35) <|
                      .ite 68
                        (.step (.cb false) <|
                        .ret [62, 69])
                        (.step (.bin .add 3 43) <|
                        .tail 1 [0, 1, 2, 69, 4, 32, 33])))
                    (.step (.bin .add 3 43) <|
                    .tail 1 [0, 1, 2, 66, 4, 32, 33]))))
              (.step (.call 48 [4, 32, 33] 0) <|
              .step (.call 48 [4, 32, 33] 1) <|
              .step (.call 48 [4, 32, 33] 2) <|
              .step (.call 48 [4, 32, 33] 3) <|
              .step (.call 48 [4, 32, 33] 4) <|
              .step (.call 48 [4, 32, 33] 5) <|
              .step (.ci .u64 0) <|
              .step (.call 48 [44, 39, 55] 0) <|
              .step (.call 48 [44, 39, 55] 1) <|
              .step (.call 48 [44, 39, 55] 2) <|
              .step (.call 48 [44, 39, 55] 3) <|
              .step (.call 48 [44, 39, 55] 4) <|
              .step (.call 48 [44, 39, 55] 5) <|
              .step (.ci .i64 0) <|
              .step (.bin .eql 54 62) <|
              .ite 63
                (.step (.ci .i64 5) <|
                .step (.bin .neq 50 64) <|
                .ite 65
                  (.step (.cb false) <|
                  .ret [62, 66])
                  (.step (.bin .neq 51 35) <|
                  .ite 66
                    (.step (.cb false) <|
                    .ret [62, 67])
                    (.step (.call 54 [53, 36] 0) <|
                    .step (.un .not 67) <|
                    .ite 68
                      (.step (.cb false) <|
                      .ret [62, 69])
                      (.step (.bin .eql 61 62) <|
                      .step (.binb .neq 37 69) <|
                      .ite 70
                        (.step (.cb false) <|
                        .ret [62, 71])
                        (.ite 37
                          (.step (.bin .neq 57 64) <|
                          .ite 71
                            (.step (.cb false) <|
                            .ret [62, 72])
                            (.step (.bin .neq 58 35) <|
                            .ite 72
                              (.step (.cb false) <|
                              .ret [62, 73])
                              (.step (.bin .add 3 43) <|
                              .tail 1 [0, 1, 2, 73, 4, 32, 33])))
                          (.step (.bin .add 3 43) <|
                          .tail 1 [0, 1, 2, 71, 4, 32, 33]))))))
                (.step (.bin .eql 61 62) <|
                .step (.binb .neq 37 64) <|
                .ite 65
                  (.step (.cb false) <|
                  .ret [62, 66])
                  (.ite 37
                    (.step (.ci .i64 5) <|
                    .step (.bin .neq 57 66) <|
                    .ite 67
                      (.step (.cb false) <|
                      .ret [62, 68])
                      (.step (.bin .neq 58 35) <|
                      .ite 68
                        (.step (.cb false) <|
                        .ret [62, 69])
                        (.step (.bin .add 3 43) <|
                        .tail 1 [0, 1, 2, 69, 4, 32, 33])))
                    (.step (.bin .add 3 43) <|
                    .tail 1 [0, 1, 2, 66, 4, 32, 33])))))
            (.step (.call 48 [4, 32, 33] 0) <|
            .step (.call 48 [4, 32, 33] 1) <|
            .step (.call 48 [4, 32, 33] 2) <|
            .step (.call 48 [4, 32, 33] 3) <|
            .step (.call 48 [4, 32, 33] 4) <|
            .step (.call 48 [4, 32, 33] 5) <|
            .step (.ci .u64 0) <|
            .step (.call 48 [4, 39, 52] 0) <|
            .step (.call 48 [4, 39, 52] 1) <|
            .step (.call 48 [4, 39, 52] 2) <|
            .step (.call 48 [4, 39, 52] 3) <|
            .step (.call 48 [4, 39, 52] 4) <|
            .step (.call 48 [4, 39, 52] 5) <|
            .step (.ci .i64 0) <|
            .step (.bin .eql 51 59) <|
            .ite 60
              (.step (.ci .i64 5) <|
              .step (.bin .neq 47 61) <|
              .ite 62
                (.step (.cb false) <|
                .ret [59, 63])
                (.step (.bin .neq 48 35) <|
                .ite 63
                  (.step (.cb false) <|
                  .ret [59, 64])
                  (.step (.call 54 [50, 36] 0) <|
                  .step (.un .not 64) <|
                  .ite 65
                    (.step (.cb false) <|
                    .ret [59, 66])
                    (.step (.bin .eql 58 59) <|
                    .step (.binb .neq 37 66) <|
                    .ite 67
                      (.step (.cb false) <|
                      .ret [59, 68])
                      (.ite 37
                        (.step (.bin .neq 54 61) <|
                        .ite 68
                          (.step (.cb false) <|
                          .ret [59, 69])
                          (.step (.bin .neq 55 35) <|
                          .ite 69
                            (.step (.cb false) <|
                            .ret [59, 70])
                            (.step (.bin .add 3 43) <|
                            .tail 1 [0, 1, 2, 70, 4, 32, 33])))
                        (.step (.bin .add 3 43) <|
                        .tail 1 [0, 1, 2, 68, 4, 32, 33]))))))
              (.step (.bin .eql 58 59) <|
              .step (.binb .neq 37 61) <|
              .ite 62
                (.step (.cb false) <|
                .ret [59, 63])
                (.ite 37
                  (.step (.ci .i64 5) <|
                  .step (.bin .neq 54 63) <|
                  .ite 64
                    (.step (.cb false) <|
                    .ret [59, 65])
                    (.step (.bin .neq 55 35) <|
                    .ite 65
                      (.step (.cb false) <|
                      .ret [59, 66])
                      (.step (.bin .add 3 43) <|
                      .tail 1 [0, 1, 2, 66, 4, 32, 33])))
                  (.step (.bin .add 3 43) <|
                  .tail 1 [0, 1, 2, 63, 4, 32, 33])))))
          (.step (.call 45 [4, 24, 25] 0) <|
          .step (.call 45 [4, 24, 25] 1) <|
          .step (.call 45 [4, 24, 25] 2) <|
          .step (.call 45 [4, 24, 25] 3) <|
          .step (.call 46 [4, 24, 25] 0) <|
          .step (.call 46 [4, 24, 25] 1) <|
          .step (.ci .u8 3) <|
          .step (.bin .rem 0 36) <|
          .step (.conv .i64 37) <|
          .step (.ci .i64 1) <|
          .step (.bin .add 38 39) <|
          .step (.bin .leq 39 40) <|
          .ite 41
            (.step (.ci .i64 3) <|
            .step (.bin .leq 40 42) <|
            .step (.un .not 43) <|
            .ite 44
              (.step (.call 48 [4, 24, 25] 0) <|
              .step (.call 48 [4, 24, 25] 1) <|
              .step (.call 48 [4, 24, 25] 2) <|
              .step (.call 48 [4, 24, 25] 3) <|
              .step (.call 48 [4, 24, 25] 4) <|
              .step (.call 48 [4, 24, 25] 5) <|
              .step (.ci .u64 0) <|
              .step (.call 48 [4, 35, 51] 0) <|
              .step (.call 48 [4, 35, 51] 1) <|
              .step (.call 48 [4, 35, 51] 2) <|
              .step (.call 48 [4, 35, 51] 3) <|
              .step (.call 48 [4, 35, 51] 4) <|
              .step (.call 48 [4, 35, 51] 5) <|
              .step (.ci .i64 0) <|
              .step (.bin .eql 50 58) <|
              .ite 59
                (.step (.ci .i64 5) <|
                .step (.bin .neq 46 60) <|
                .ite 61
                  (.step (.cb false) <|
                  .ret [58, 62])
                  (.step (.bin .neq 47 31) <|
                  .ite 62
                    (.step (.cb false) <|
                    .ret [58, 63])
                    (.step (.call 54 [49, 32] 0) <|
                    .step (.un .not 63) <|
                    .ite 64
                      (.step (.cb false) <|
                      .ret [58, 65])
                      (.step (.bin .eql 57 58) <|
                      .step (.binb .neq 33 65) <|
                      .ite 66
                        (.step (.cb false) <|
                        .ret [58, 67])
                        (.ite 33
                          (.step (.bin .neq 53 60) <|
                          .ite 67
                            (.step (.cb false) <|
                            .ret [58, 68])
                            (.step (.bin .neq 54 31) <|
                            .ite 68
                              (.step (.cb false) <|
                              .ret [58, 69])
                              (.step (.bin .add 3 39) <|
                              .tail 1 [0, 1, 2, 69, 4, 24, 25])))
                          (.step (.bin .add 3 39) <|
                          .tail 1 [0, 1, 2, 67, 4, 24, 25]))))))
                (.step (.bin .eql 57 58) <|
                .step (.binb .neq 33 60) <|
                .ite 61
                  (.step (.cb false) <|
                  .ret [58, 62])
                  (.ite 33
                    (.step (.ci .i64 5) <|
                    .step (.bin .neq 53 62) <|
                    .ite 63
                      (.step (.cb false) <|
                      .ret [58, 64])
                      (.step (.bin .neq 54 31) <|
                      .ite 64
                        (.step (.cb false) <|
                        .ret [58, 65])
                        (.step (.bin .add 3 39) <|
                        .tail 1 [0, 1, 2, 65, 4, 24, 25])))
                    (.step (.bin .add 3 39) <|
                    .tail 1 [0, 1, 2, 62, 4, 24, 25]))))
              (.step (.call 48 [4, 24, 25] 0) <|
              .step (.call 48 [4, 24, 25] 1) <|
              .step (.call 48 [4, 24, 25] 2) <|
              .step (.call 48 [4, 24, 25] 3) <|
              .step (.call 48 [4, 24, 25] 4) <|
              .step (.call 48 [4, 24, 25] 5) <|
              .step (.ci .u64 0) <|
              .step (.call 48 [40, 35, 51] 0) <|
              .step (.call 48 [40, 35, 51] 1) <|
              .step (.call 48 [40, 35, 51] 2) <|
              .step (.call 48 [40, 35, 51] 3) <|
              .step (.call 48 [40, 35, 51] 4) <|
              .step (.call 48 [40, 35, 51] 5) <|
              .step (.ci .i64 0) <|
              .step (.bin .eql 50 58) <|
              .ite 59
                (.step (.ci .i64 5) <|
                .step (.bin .neq 46 60) <|
                .ite 61
                  (.step (.cb false) <|
                  .ret [58, 62])
                  (.step (.bin .neq 47 31) <|
                  .ite 62
                    (.step (.cb false) <|
                    .ret [58, 63])
                    (.step (.call 54 [49, 32] 0) <|
                    .step (.un .not 63) <|
                    .ite 64
                      (.step (.cb false) <|
                      .ret [58, 65])
                      (.step (.bin .eql 57 58) <|
                      .step (.binb .neq 33 65) <|
                      .ite 66
                        (.step (.cb false) <|
                        .ret [58, 67])
                        (.ite 33
                          (.step (.bin .neq 53 60) <|
                          .ite 67
                            (.step (.cb false) <|
                            .ret [58, 68])
                            (.step (.bin .neq 54 31) <|
                            .ite 68
                              (.step (.cb false) <|
                              .ret [58, 69])
                              (.step (.bin .add 3 39) <|
                              .tail 1 [0, 1, 2, 69, 4, 24, 25])))
                          (.step (.bin .add 3 39) <|
                          .tail 1 [0, 1, 2, 67, 4, 24, 25]))))))
                (.step (.bin .eql 57 58) <|
                .step (.binb .neq 33 60) <|
                .ite 61
                  (.step (.cb false) <|
                  .ret [58, 62])
                  (.ite 33
                    (.step (.ci .i64 5) <|
                    .step (.bin .neq 53 62) <|
                    .ite 63
                      (.step (.cb false) <|
                      .ret [58, 64])
                      (.step (.bin .neq 54 31) <|
                      .ite 64
                        (.step (.cb false) <|
                        .ret [58, 65])
                        (.step (.bin .add 3 39) <|
                        .tail 1 [0, 1, 2, 65, 4, 24, 25])))
                    (.step (.bin .add 3 39) <|
                    .tail 1 [0, 1, 2, 62, 4, 24, 25])))))
            (.step (.call 48 [4, 24, 25] 0) <|
            .step (.call 48 [4, 24, 25] 1) <|
            .step (.call 48 [4, 24, 25] 2) <|
            .step (.call 48 [4, 24, 25] 3) <|
            .step (.call 48 [4, 24, 25] 4) <|
            .step (.call 48 [4, 24, 25] 5) <|
            .step (.ci .u64 0) <|
            .step (.call 48 [4, 35, 48] 0) <|
            .step (.call 48 [4, 35, 48] 1) <|
            .step (.call 48 [4, 35, 48] 2) <|
            .step (.call 48 [4, 35, 48] 3) <|
            .step (.call 48 [4, 35, 48] 4) <|
            .step (.call 48 [4, 35, 48] 5) <|
            .step (.ci .i64 0) <|
            .step (.bin .eql 47 55) <|
            .ite 56
              (.step (.ci .i64 5) <|
              .step (.bin .neq 43 57) <|
              .ite 58
                (.step (.cb false) <|
                .ret [55, 59])
                (.step (.bin .neq 44 31) <|
                .ite 59
                  (.step (.cb false) <|
                  .ret [55, 60])
                  (.step (.call 54 [46, 32] 0) <|
                  .step (.un .not 60) <|
                  .ite 61
                    (.step (.cb false) <|
                    .ret [55, 62])
                    (.step (.bin .eql 54 55) <|
                    .step (.binb .neq 33 62) <|
                    .ite 63
                      (.step (.cb false) <|
                      .ret [55, 64])
                      (.ite 33
                        (.step (.bin .neq 50 57) <|
                        .ite 64
                          (.step (.cb false) <|
                          .ret [55, 65])
                          (.step (.bin .neq 51 31) <|
                          .ite 65
                            (.step (.cb false) <|
                            .ret [55, 66])
                            (.step (.bin .add 3 39) <|
                            .tail 1 [0, 1, 2, 66, 4, 24, 25])))
                        (.step (.bin .add 3 39) <|
                        .tail 1 [0, 1, 2, 64, 4, 24, 25]))))))
              (.step (.bin .eql 54 55) <|
              .step (.binb .neq 33 57) <|
              .ite 58
                (.step (.cb false) <|
                .ret [55, 59])
                (.ite 33
                  (.step (.ci .i64 5) <|
                  .step (.bin .neq 50 59) <|
                  .ite 60
                    (.step (.cb false) <|
                    .ret [55, 61])
                    (.step (.bin .neq 51 31) <|
                    .ite 61
                      (.step (.cb false) <|
                      .ret [55, 62])
                      (.step (.bin .add 3 39) <|
                      .tail 1 [0, 1, 2, 62, 4, 24, 25])))
                  (.step (.bin .add 3 39) <|
                  .tail 1 [0, 1, 2, 59, 4, 24, 25]))))))))
    (.step (.ci .i64 1) <|
    .ret [8])
/-- (postmark/table.Table).AtLeast, function 25, the loop [0, 0]. -/
def d52 : PDef := .tree 8 <|
  .step (.len 0) <|
  .step (.bin .lss 1 8) <|
  .ite 9
    (.step (.at 2 0 1) <|
    .step (.cell 0 10) <|
    .step (.call 6 [11] 0) <|
    .step (.bin .lss 12 2) <|
    .ite 13
      (.step (.ci .i64 1) <|
      .step (.bin .add 1 14) <|
      .tail 52 [0, 15, 2, 3, 4, 5, 6, 7])
      (.step (.ci .i64 0) <|
      .ret [14, 1, 10, 11, 12]))
    (.step (.ci .i64 1) <|
    .ret [10, 1])
/-- (postmark/delta.Snapshot).Clone, function 140, the loop [0]. -/
def d35 : PDef := .tree 5 <|
  .step (.bin .lss 2 1) <|
  .ite 5
    (.step (.at 2 0 2) <|
    .step (.cell 0 6) <|
    .step (.cell 1 6) <|
    .step (.call 29 [7] 0) <|
    .step (.mk [9, 8]) <|
    .step (.ml [10]) <|
    .step (.app 2 32 4 11) <|
    .step (.ci .i64 1) <|
    .step (.bin .add 2 13) <|
    .tail 35 [0, 1, 14, 3, 12])
    (.step (.ci .i64 0) <|
    .ret [6, 4])
/-- slices.Equal[postmark/descr.Descr,postmark/entry.Entry], function 91, the loop [0]. -/
def d59 : PDef := .tree 4 <|
  .step (.bin .lss 3 2) <|
  .ite 4
    (.step (.at 2 0 3) <|
    .step (.cell 0 5) <|
    .step (.cell 1 5) <|
    .step (.at 2 1 3) <|
    .step (.cell 0 8) <|
    .step (.cell 1 8) <|
    .step (.mk [6, 7]) <|
    .step (.mk [9, 10]) <|
    .step (.binc .neq [1, 1] 11 12) <|
    .ite 13
      (.step (.ci .i64 0) <|
      .ret [14])
      (.step (.ci .i64 1) <|
      .step (.bin .add 3 14) <|
      .tail 59 [0, 1, 2, 15]))
    (.step (.ci .i64 1) <|
    .ret [5])
/-- postmark/postmarklaw13.Few, function 12, the loop [0]. -/
def d3 : PDef := .tree 3 <|
  .step (.bin .lss 2 1) <|
  .ite 3
    (.step (.at 2 0 2) <|
    .step (.cell 0 4) <|
    .step (.cell 1 4) <|
    .step (.len 5) <|
    .step (.ci .i64 18) <|
    .step (.bin .gtr 7 8) <|
    .ite 9
      (.step (.ci .i64 0) <|
      .ret [10])
      (.step (.call 4 [5] 0) <|
      .step (.un .not 10) <|
      .ite 11
        (.step (.ci .i64 0) <|
        .ret [12])
        (.step (.len 0) <|
        .step (.ci .i64 40) <|
        .step (.bin .gtr 12 13) <|
        .ite 14
          (.step (.call 6 [5] 0) <|
          .step (.slen 15) <|
          .step (.ci .i64 100) <|
          .step (.bin .gtr 16 17) <|
          .ite 18
            (.step (.ci .i64 0) <|
            .ret [19])
            (.step (.ci .i64 1) <|
            .step (.bin .add 2 19) <|
            .tail 3 [0, 1, 20]))
          (.step (.ci .i64 1) <|
          .step (.bin .add 2 15) <|
          .tail 3 [0, 1, 16]))))
    (.step (.ci .i64 1) <|
    .ret [4])
/-- postmark/delta.Diff, function 147, the loop [0]. -/
def d53 : PDef := .tree 7 <|
  .step (.bin .lss 3 2) <|
  .ite 7
    (.step (.at 2 1 3) <|
    .step (.cell 0 8) <|
    .step (.cell 1 8) <|
    .step (.len 0) <|
    .step (.ci .i64 0) <|
    .step (.bin .gtr 11 12) <|
    .ite 13
      (.step (.at 2 0 12) <|
      .step (.cell 0 14) <|
      .step (.call 30 [15, 9] 0) <|
      .step (.bin .eql 16 12) <|
      .ite 17
        (.step (.cell 1 14) <|
        .step (.bin .sub 10 18) <|
        .step (.ci .i64 1) <|
        .step (.lsub 2 0 20 11) <|
        .step (.ci .u64 0) <|
        .step (.bin .neq 19 22) <|
        .ite 23
          (.step (.call 29 [9] 0) <|
          .step (.mk [24, 19]) <|
          .step (.ml [25]) <|
          .step (.app 2 32 6 26) <|
          .step (.bin .add 3 20) <|
          .tail 53 [21, 1, 2, 28, 4, 5, 27])
          (.step (.bin .add 3 20) <|
          .tail 53 [21, 1, 2, 24, 4, 5, 6]))
        (.step (.ci .u64 0) <|
        .step (.bin .neq 10 18) <|
        .ite 19
          (.step (.call 29 [9] 0) <|
          .step (.mk [20, 10]) <|
          .step (.ml [21]) <|
          .step (.app 2 32 6 22) <|
          .step (.ci .i64 1) <|
          .step (.bin .add 3 24) <|
          .tail 53 [0, 1, 2, 25, 4, 5, 23])
          (.step (.ci .i64 1) <|
          .step (.bin .add 3 20) <|
          .tail 53 [0, 1, 2, 21, 4, 5, 6])))
      (.step (.ci .u64 0) <|
      .step (.bin .neq 10 14) <|
      .ite 15
        (.step (.call 29 [9] 0) <|
        .step (.mk [16, 10]) <|
        .step (.ml [17]) <|
        .step (.app 2 32 6 18) <|
        .step (.ci .i64 1) <|
        .step (.bin .add 3 20) <|
        .tail 53 [0, 1, 2, 21, 4, 5, 19])
        (.step (.ci .i64 1) <|
        .step (.bin .add 3 16) <|
        .tail 53 [0, 1, 2, 17, 4, 5, 6])))
    (.step (.ci .i64 0) <|
    .ret [8, 6])
/-- (postmark/descr.Descr).Key, function 81, the loop [0]. -/
def d11 : PDef := .tree 4 <|
  .step (.bin .lss 2 1) <|
  .ite 4
    (.step (.at 2 0 2) <|
    .step (.cell 0 5) <|
    .step (.cell 1 5) <|
    .step (.mk [6, 7]) <|
    .step (.call 12 [8] 0) <|
    .step (.bytes 9) <|
    .step (.app 1 1 3 10) <|
    .step (.slen 9) <|
    .step (.ci .i64 1) <|
    .step (.bin .add 2 13) <|
    .tail 11 [0, 1, 14, 11])
    (.step (.ci .i64 0) <|
    .ret [5, 3])
/-- (postmark/table.Table).AtLeast, function 25, the loop [0]. -/
def d51 : PDef := .tree 5 <|
  .step (.bin .lss 4 3) <|
  .ite 5
    (.step (.at 2 2 4) <|
    .step (.cell 0 6) <|
    .step (.cell 1 6) <|
    .step (.call 6 [7] 0) <|
    .step (.call 52 [0, 1, 9, 2, 3, 4, 7, 8] 0) <|
    .step (.ci .i64 0) <|
    .step (.bin .eql 10 11) <|
    .ite 12
      (.step (.call 52 [0, 1, 9, 2, 3, 4, 7, 8] 1) <|
      .step (.call 52 [0, 1, 9, 2, 3, 4, 7, 8] 2) <|
      .step (.call 52 [0, 1, 9, 2, 3, 4, 7, 8] 3) <|
      .step (.call 52 [0, 1, 9, 2, 3, 4, 7, 8] 4) <|
      .step (.len 0) <|
      .step (.bin .eql 13 17) <|
      .ite 18
        (.ret [11])
        (.step (.at 2 0 13) <|
        .step (.cell 0 19) <|
        .step (.call 6 [20] 0) <|
        .step (.bin .neq 21 9) <|
        .ite 22
          (.ret [11])
          (.step (.cell 1 19) <|
          .step (.bin .lss 23 8) <|
          .ite 24
            (.ret [11])
            (.step (.ci .i64 1) <|
            .step (.bin .add 4 25) <|
            .tail 51 [0, 13, 2, 3, 26]))))
      (.step (.call 52 [0, 1, 9, 2, 3, 4, 7, 8] 1) <|
      .step (.len 0) <|
      .step (.bin .eql 13 14) <|
      .ite 15
        (.ret [11])
        (.step (.at 2 0 13) <|
        .step (.cell 0 16) <|
        .step (.call 6 [17] 0) <|
        .step (.bin .neq 18 9) <|
        .ite 19
          (.ret [11])
          (.step (.cell 1 16) <|
          .step (.bin .lss 20 8) <|
          .ite 21
            (.ret [11])
            (.step (.ci .i64 1) <|
            .step (.bin .add 4 22) <|
            .tail 51 [0, 13, 2, 3, 23])))))
    (.step (.ci .i64 1) <|
    .ret [6])
/-- postmark/postmarklaw12.Few, function 13, the loop [0]. -/
def d5 : PDef := .tree 3 <|
  .step (.bin .lss 2 1) <|
  .ite 3
    (.step (.at 2 0 2) <|
    .step (.cell 0 4) <|
    .step (.cell 1 4) <|
    .step (.slen 5) <|
    .step (.slen 6) <|
    .step (.bin .add 7 8) <|
    .step (.ci .i64 600) <|
    .step (.bin .gtr 9 10) <|
    .ite 11
      (.step (.ci .i64 0) <|
      .ret [12])
      (.step (.ci .i64 1) <|
      .step (.bin .add 2 12) <|
      .tail 5 [0, 1, 13]))
    (.step (.ci .i64 1) <|
    .ret [4])
/-- postmark/varint.Put, function 96, the loop [0]. -/
def d10 : PDef := .tree 4 <|
  .step (.bin .lss 3 2) <|
  .ite 4
    (.step (.ci .u64 127) <|
    .step (.bin .and 0 5) <|
    .step (.conv .u8 6) <|
    .step (.ci .u8 128) <|
    .step (.bin .or 7 8) <|
    .step (.idx 1 3) <|
    .step (.upd 1 0 1 10 [9]) <|
    .step (.ci .u64 7) <|
    .step (.bin .shr 0 12) <|
    .step (.ci .i64 1) <|
    .step (.bin .add 3 14) <|
    .tail 10 [13, 11, 2, 15])
    (.step (.ci .i64 0) <|
    .ret [5, 1])
/-- postmark/delta.together, function 152, the loop [0]. -/
def d28 : PDef := .tree 3 <|
  .step (.len 0) <|
  .step (.ci .i64 0) <|
  .step (.bin .gtr 3 4) <|
  .ite 5
    (.step (.len 1) <|
    .step (.bin .eql 6 4) <|
    .ite 7
      (.step (.at 2 0 4) <|
      .step (.cell 0 8) <|
      .step (.cell 1 8) <|
      .step (.call 29 [9] 0) <|
      .step (.mk [11, 10]) <|
      .step (.ml [12]) <|
      .step (.app 2 32 2 13) <|
      .step (.ci .i64 1) <|
      .step (.lsub 2 0 15 3) <|
      .tail 28 [16, 1, 14])
      (.step (.bin .eql 3 4) <|
      .ite 8
        (.step (.at 2 1 4) <|
        .step (.cell 0 9) <|
        .step (.cell 1 9) <|
        .step (.call 29 [10] 0) <|
        .step (.mk [12, 11]) <|
        .step (.ml [13]) <|
        .step (.app 2 32 2 14) <|
        .step (.ci .i64 1) <|
        .step (.lsub 2 1 16 6) <|
        .tail 28 [0, 17, 15])
        (.step (.at 2 0 4) <|
        .step (.cell 0 9) <|
        .step (.at 2 1 4) <|
        .step (.cell 0 11) <|
        .step (.call 30 [10, 12] 0) <|
        .step (.bin .lss 13 4) <|
        .ite 14
          (.step (.cell 1 9) <|
          .step (.call 29 [10] 0) <|
          .step (.mk [16, 15]) <|
          .step (.ml [17]) <|
          .step (.app 2 32 2 18) <|
          .step (.ci .i64 1) <|
          .step (.lsub 2 0 20 3) <|
          .tail 28 [21, 1, 19])
          (.step (.bin .gtr 13 4) <|
          .ite 15
            (.step (.cell 1 11) <|
            .step (.call 29 [12] 0) <|
            .step (.mk [17, 16]) <|
            .step (.ml [18]) <|
            .step (.app 2 32 2 19) <|
            .step (.ci .i64 1) <|
            .step (.lsub 2 1 21 6) <|
            .tail 28 [0, 22, 20])
            (.step (.cell 1 9) <|
            .step (.cell 1 11) <|
            .step (.ci .u64 0) <|
            .step (.call 32 [16, 17, 18] 0) <|
            .step (.call 32 [16, 17, 18] 1) <|
            .step (.bin .neq 20 18) <|
            .ite 21
              (.ret [4])
              (.step (.call 29 [10] 0) <|
              .step (.mk [22, 19]) <|
              .step (.ml [23]) <|
              .step (.app 2 32 2 24) <|
              .step (.ci .i64 1) <|
              .step (.lsub 2 0 26 3) <|
              .step (.lsub 2 1 26 6) <|
              .tail 28 [27, 28, 25]))))))
    (.step (.len 1) <|
    .step (.bin .gtr 6 4) <|
    .ite 7
      (.step (.bin .eql 6 4) <|
      .ite 8
        (.step (.at 2 0 4) <|
        .step (.cell 0 9) <|
        .step (.cell 1 9) <|
        .step (.call 29 [10] 0) <|
        .step (.mk [12, 11]) <|
        .step (.ml [13]) <|
        .step (.app 2 32 2 14) <|
        .step (.ci .i64 1) <|
        .step (.lsub 2 0 16 3) <|
        .tail 28 [17, 1, 15])
        (.step (.bin .eql 3 4) <|
        .ite 9
          (.step (.at 2 1 4) <|
          .step (.cell 0 10) <|
          .step (.cell 1 10) <|
          .step (.call 29 [11] 0) <|
          .step (.mk [13, 12]) <|
          .step (.ml [14]) <|
          .step (.app 2 32 2 15) <|
          .step (.ci .i64 1) <|
          .step (.lsub 2 1 17 6) <|
          .tail 28 [0, 18, 16])
          (.step (.at 2 0 4) <|
          .step (.cell 0 10) <|
          .step (.at 2 1 4) <|
          .step (.cell 0 12) <|
          .step (.call 30 [11, 13] 0) <|
          .step (.bin .lss 14 4) <|
          .ite 15
            (.step (.cell 1 10) <|
            .step (.call 29 [11] 0) <|
            .step (.mk [17, 16]) <|
            .step (.ml [18]) <|
            .step (.app 2 32 2 19) <|
            .step (.ci .i64 1) <|
            .step (.lsub 2 0 21 3) <|
            .tail 28 [22, 1, 20])
            (.step (.bin .gtr 14 4) <|
            .ite 16
              (.step (.cell 1 12) <|
              .step (.call 29 [13] 0) <|
              .step (.mk [18, 17]) <|
              .step (.ml [19]) <|
              .step (.app 2 32 2 20) <|
              .step (.ci .i64 1) <|
              .step (.lsub 2 1 22 6) <|
              .tail 28 [0, 23, 21])
              (.step (.cell 1 10) <|
              .step (.cell 1 12) <|
              .step (.ci .u64 0) <|
              .step (.call 32 [17, 18, 19] 0) <|
              .step (.call 32 [17, 18, 19] 1) <|
              .step (.bin .neq 21 19) <|
              .ite 22
                (.ret [4])
                (.step (.call 29 [11] 0) <|
                .step (.mk [23, 20]) <|
                .step (.ml [24]) <|
                .step (.app 2 32 2 25) <|
                .step (.ci .i64 1) <|
                .step (.lsub 2 0 27 3) <|
                .step (.lsub 2 1 27 6) <|
                .tail 28 [28, 29, 26]))))))
      (.step (.ci .i64 1) <|
      .ret [8, 2]))
/-- (*postmark/sender.Sender).Clone, function 63, the loop [0]. -/
def d47 : PDef := .tree 6 <|
  .step (.bin .lss 2 1) <|
  .ite 6
    (.step (.idx 0 2) <|
    .step (.at 2 0 7) <|
    .step (.cell 0 8) <|
    .step (.cell 1 8) <|
    .step (.mk [9, 10]) <|
    .step (.call 34 [11] 0) <|
    .step (.cell 0 12) <|
    .step (.cell 1 12) <|
    .step (.mk [13, 14]) <|
    .step (.ml [15]) <|
    .step (.app 2 32 5 16) <|
    .step (.ci .i64 1) <|
    .step (.bin .add 2 18) <|
    .tail 47 [0, 1, 19, 3, 4, 17])
    (.step (.ci .i64 0) <|
    .ret [7, 5])
/-- (postmark/table.Table).Check, function 18, the loop [0]. -/
def d18 : PDef := .tree 4 <|
  .step (.bin .lss 3 2) <|
  .ite 4
    (.step (.at 2 1 3) <|
    .step (.cell 0 5) <|
    .step (.cell 1 5) <|
    .step (.mk [6, 7]) <|
    .step (.call 19 [8] 0) <|
    .step (.ci .i64 0) <|
    .step (.bin .neq 9 10) <|
    .ite 11
      (.ret [10, 9])
      (.step (.call 6 [6] 0) <|
      .step (.bin .gtr 3 10) <|
      .ite 13
        (.step (.bin .eql 12 0) <|
        .ite 14
          (.step (.ci .i64 14) <|
          .ret [10, 15])
          (.step (.bin .lss 12 0) <|
          .ite 15
            (.step (.ci .i64 7) <|
            .ret [10, 16])
            (.step (.ci .i64 1) <|
            .step (.bin .add 3 16) <|
            .tail 18 [12, 1, 2, 17])))
        (.step (.ci .i64 1) <|
        .step (.bin .add 3 14) <|
        .tail 18 [12, 1, 2, 15])))
    (.step (.ci .i64 1) <|
    .ret [5])
/-- (postmark/descr.Descr).Check, function 157, the loop [0]. -/
def d21 : PDef := .tree 3 <|
  .step (.bin .lss 2 1) <|
  .ite 3
    (.step (.at 2 0 2) <|
    .step (.cell 0 4) <|
    .step (.cell 1 4) <|
    .step (.mk [5, 6]) <|
    .step (.call 22 [7] 0) <|
    .step (.ci .i64 0) <|
    .step (.bin .neq 8 9) <|
    .ite 10
      (.ret [9, 8])
      (.step (.bin .eql 2 9) <|
      .ite 11
        (.step (.ci .i64 1) <|
        .step (.bin .add 2 12) <|
        .tail 21 [0, 1, 13])
        (.step (.ci .i64 1) <|
        .step (.bin .sub 2 12) <|
        .step (.at 2 0 13) <|
        .step (.cell 0 14) <|
        .step (.bin .eql 5 15) <|
        .ite 16
          (.step (.ci .i64 14) <|
          .ret [9, 17])
          (.step (.bin .lss 5 15) <|
          .ite 17
            (.step (.ci .i64 7) <|
            .ret [9, 18])
            (.step (.bin .add 2 12) <|
            .tail 21 [0, 1, 18])))))
    (.step (.ci .i64 1) <|
    .ret [4])
/-- postmark/varint.Size, function 169, the loop [0]. -/
def d9 : PDef := .tree 2 <|
  .step (.ci .u64 128) <|
  .step (.bin .geq 0 2) <|
  .ite 3
    (.step (.ci .u64 7) <|
    .step (.bin .shr 0 4) <|
    .step (.ci .i64 1) <|
    .step (.bin .add 1 6) <|
    .tail 9 [5, 7])
    (.step (.ci .i64 0) <|
    .ret [4, 1])
/-- slices.EqualFunc[postmark/table.Table,postmark/table.Table,postmark/table.Row,postmark/table.Row], function 89, the loop [0]. -/
def d56 : PDef := .tree 4 <|
  .step (.bin .lss 3 2) <|
  .ite 4
    (.step (.at 2 1 3) <|
    .step (.cell 0 5) <|
    .step (.cell 1 5) <|
    .step (.at 2 0 3) <|
    .step (.cell 0 8) <|
    .step (.cell 1 8) <|
    .step (.mk [6, 7]) <|
    .step (.mk [9, 10]) <|
    .step (.call 57 [11, 12] 0) <|
    .step (.un .not 13) <|
    .ite 14
      (.step (.ci .i64 0) <|
      .ret [15])
      (.step (.ci .i64 1) <|
      .step (.bin .add 3 15) <|
      .tail 56 [0, 1, 2, 16]))
    (.step (.ci .i64 1) <|
    .ret [5])
def Ds : List PDef := [d0, d1, d2, d3, d4, d5, d6, d7, d8, d9, d10, d11, d12, .prim fun _ => none, .prim fun _ => none, d15, d16, d17, d18, d19, d20, d21, d22, d23, d24, d25, d26, d27, d28, d29, d30, d31, d32, .prim fun _ => none, d34, d35, .prim fun _ => none, .prim fun _ => none, .prim fun _ => none, .prim fun _ => none, .prim fun _ => none, .prim fun _ => none, d42, d43, d44, d45, d46, d47, d48, d49, d50, d51, d52, d53, d54, d55, d56, d57, d58, d59, d60, d61]
noncomputable abbrev TT : PProg := TofL Ds
end
end V
end Go.Proofs.YtbcpbplkgknnmaaGreatDoor
