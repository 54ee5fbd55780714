/- What functions and loops compute: trees of nodes, found by a driver. -/
import Derived.Test.YtamcdgfjjeldeaaGreatDoorAbsJ
import Derived.Test.YtamcdgfjjeldeaaGreatDoorAbsSort
import Derived.Test.YtamcdgfjjeldeaaGreatDoorAbsTold
import Derived.Test.YtamcdgfjjeldeaaGreatDoorAbsTold2
namespace Go.Proofs.YtamcdgfjjeldeaaGreatDoor
open Go Go.Abs
set_option maxRecDepth 100000
set_option linter.unusedVariables false
set_option linter.unusedSimpArgs false
namespace D
noncomputable section
/-- postmark/postmarkref12.behind, function 162, plain functions []. -/
def d70 : PDef := .fn [.ag 2, .ag 2] [.sc] <|
  .step (.cell 0 0) <|
  .step (.cell 1 0) <|
  .step (.cell 0 1) <|
  .step (.cell 1 1) <|
  .step (.bin .eql 2 4) <|
  .ite 6
    (.step (.ci .i64 14) <|
    .ret [7])
    (.step (.mk [2, 3]) <|
    .step (.mk [4, 5]) <|
    .step (.call 71 [7, 8] 0) <|
    .step (.ci .i64 0) <|
    .step (.bin .gtr 9 10) <|
    .ite 11
      (.step (.ci .i64 7) <|
      .ret [12])
      (.ret [10]))
/-- postmark/utf.Good, function 197, plain functions []. -/
def d20 : PDef := .fn [.sc] [.sc] <|
  .step (.call 21 [0] 0) <|
  .ret [1]
/-- postmark/postmarkref13.Check, function 26, plain functions []. -/
def d59 : PDef := .fn [.sc] [.sc] <|
  .step (.len 0) <|
  .step (.ci .i64 256) <|
  .step (.bin .gtr 1 2) <|
  .ite 3
    (.step (.ci .i64 13) <|
    .ret [4])
    (.step (.ci .i64 0) <|
    .step (.call 60 [0, 1, 4] 0) <|
    .step (.bin .eql 5 4) <|
    .ite 6
      (.step (.call 60 [0, 1, 4] 1) <|
      .ret [7])
      (.ret [4]))
/-- postmark/postmarklaw13.TableOrder, function 3, plain functions []. -/
def d1 : PDef := .fn [.sc, .sc, .sc] [.sc] <|
  .step (.call 2 [0] 0) <|
  .step (.un .not 3) <|
  .ite 4
    (.step (.cb true) <|
    .ret [5])
    (.step (.call 2 [1] 0) <|
    .step (.un .not 5) <|
    .ite 6
      (.step (.cb true) <|
      .ret [7])
      (.step (.call 2 [2] 0) <|
      .step (.un .not 7) <|
      .ite 8
        (.step (.cb true) <|
        .ret [9])
        (.step (.call 13 [0] 0) <|
        .step (.call 13 [0] 1) <|
        .step (.call 13 [1] 0) <|
        .step (.call 13 [1] 1) <|
        .step (.call 13 [2] 0) <|
        .step (.call 13 [2] 1) <|
        .step (.ci .i64 0) <|
        .step (.bin .neq 10 15) <|
        .ite 16
          (.step (.cb true) <|
          .ret [17])
          (.step (.bin .neq 12 15) <|
          .ite 17
            (.step (.cb true) <|
            .ret [18])
            (.step (.bin .neq 14 15) <|
            .ite 18
              (.step (.cb true) <|
              .ret [19])
              (.step (.call 24 [9, 9] 0) <|
              .step (.un .not 19) <|
              .ite 20
                (.step (.cb false) <|
                .ret [21])
                (.step (.ml []) <|
                .step (.call 24 [9, 21] 0) <|
                .step (.un .not 22) <|
                .ite 23
                  (.step (.cb false) <|
                  .ret [24])
                  (.step (.call 24 [21, 9] 0) <|
                  .step (.len 9) <|
                  .step (.bin .eql 25 15) <|
                  .step (.binb .neq 24 26) <|
                  .ite 27
                    (.step (.cb false) <|
                    .ret [28])
                    (.step (.call 24 [9, 11] 0) <|
                    .ite 28
                      (.step (.call 24 [11, 9] 0) <|
                      .ite 29
                        (.step (.call 27 [9, 11] 0) <|
                        .step (.un .not 30) <|
                        .ite 31
                          (.step (.cb false) <|
                          .ret [32])
                          (.step (.call 24 [11, 13] 0) <|
                          .step (.un .not 32) <|
                          .ite 33
                            (.step (.cb true) <|
                            .ret [34])
                            (.step (.call 24 [9, 13] 0) <|
                            .ret [34])))
                        (.step (.call 24 [11, 13] 0) <|
                        .step (.un .not 30) <|
                        .ite 31
                          (.step (.cb true) <|
                          .ret [32])
                          (.step (.call 24 [9, 13] 0) <|
                          .ret [32])))
                      (.step (.cb true) <|
                      .ret [29]))))))))))
/-- slices.EqualFunc[postmark/table.Table,postmark/table.Table,postmark/table.Row,postmark/table.Row], function 86, plain functions [none, none, some 87]. -/
def d28 : PDef := .fn [.sc, .sc] [.sc] <|
  .step (.len 0) <|
  .step (.len 1) <|
  .step (.bin .neq 2 3) <|
  .ite 4
    (.step (.cb false) <|
    .ret [5])
    (.step (.ci .i64 0) <|
    .step (.call 29 [1, 0, 2, 5] 0) <|
    .step (.bin .eql 6 5) <|
    .ite 7
      (.step (.cb false) <|
      .ret [8])
      (.step (.cb true) <|
      .ret [8]))
/-- postmark/postmarkref16.Same, function 69, plain functions []. -/
def d100 : PDef := .fn [.ag 2, .ag 2] [.sc] <|
  .step (.cell 0 0) <|
  .step (.cell 1 0) <|
  .step (.cell 0 1) <|
  .step (.cell 1 1) <|
  .step (.bin .eql 2 4) <|
  .ite 6
    (.step (.call 97 [3, 5] 0) <|
    .ret [7])
    (.step (.cb false) <|
    .ret [7])
/-- postmark/utf.Check, function 177, plain functions []. -/
def d19 : PDef := .fn [.sc, .sc, .sc] [.sc] <|
  .step (.slen 0) <|
  .step (.bin .lss 3 1) <|
  .ite 4
    (.step (.ci .i64 13) <|
    .ret [5])
    (.step (.bin .gtr 3 2) <|
    .ite 5
      (.step (.ci .i64 13) <|
      .ret [6])
      (.step (.call 20 [0] 0) <|
      .step (.un .not 6) <|
      .ite 7
        (.step (.ci .i64 11) <|
        .ret [8])
        (.step (.ci .i64 0) <|
        .ret [8])))
/-- postmark/postmarkref13.AtLeast, function 30, plain functions []. -/
def d80 : PDef := .fn [.sc, .sc] [.sc] <|
  .step (.len 1) <|
  .step (.ci .i64 0) <|
  .step (.call 81 [0, 1, 2, 3] 0) <|
  .step (.bin .eql 4 3) <|
  .ite 5
    (.step (.cb false) <|
    .ret [6])
    (.step (.cb true) <|
    .ret [6])
/-- postmark/table.Of, function 17, plain functions []. -/
def d13 : PDef := .fn [.sc] [.sc, .sc] <|
  .step (.len 0) <|
  .step (.ci .i64 256) <|
  .step (.bin .gtr 1 2) <|
  .ite 3
    (.step (.ml []) <|
    .step (.ci .i64 13) <|
    .ret [4, 5])
    (.step (.ci .i64 0) <|
    .step (.ml []) <|
    .step (.call 14 [0, 1, 4, 5] 0) <|
    .step (.bin .eql 6 4) <|
    .ite 7
      (.step (.call 14 [0, 1, 4, 5] 1) <|
      .ret [5, 8])
      (.step (.call 14 [0, 1, 4, 5] 1) <|
      .step (.call 0 [8] 0) <|
      .step (.len 9) <|
      .step (.ci .u64 0) <|
      .step (.mk [5, 11]) <|
      .step (.rep 2 32 12 4 10) <|
      .step (.call 22 [13, 9, 10, 4] 0) <|
      .step (.bin .eql 14 4) <|
      .ite 15
        (.step (.ci .i64 14) <|
        .ret [5, 16])
        (.step (.call 22 [13, 9, 10, 4] 1) <|
        .ret [16, 4])))
/-- postmark/postmarklaw16.To, function 64, plain functions []. -/
def d53 : PDef := .fn [.ag 2] [.ag 2] <|
  .step (.cell 0 0) <|
  .step (.cell 1 0) <|
  .step (.call 54 [2] 0) <|
  .step (.mk [1, 3]) <|
  .ret [4]
/-- postmark/varint.Put, function 99, plain functions []. -/
def d7 : PDef := .fn [.sc] [.sc] <|
  .step (.call 8 [0] 0) <|
  .step (.ci .u8 0) <|
  .step (.rep 1 1 2 1 1) <|
  .step (.len 3) <|
  .step (.ci .i64 0) <|
  .step (.call 10 [0, 3, 4, 5] 0) <|
  .step (.call 10 [0, 3, 4, 5] 1) <|
  .step (.len 7) <|
  .step (.ci .i64 1) <|
  .step (.bin .sub 8 9) <|
  .step (.idx 7 10) <|
  .step (.at 1 7 11) <|
  .step (.cell 0 12) <|
  .step (.ci .u8 127) <|
  .step (.bin .and 13 14) <|
  .step (.upd 1 0 7 11 [15]) <|
  .step (.str 16) <|
  .ret [17]
/-- postmark/postmarkref11.less, function 163, plain functions []. -/
def d72 : PDef := .fn [.sc, .sc] [.sc] <|
  .step (.ci .i64 0) <|
  .step (.call 73 [0, 1, 2] 0) <|
  .step (.bin .eql 3 2) <|
  .ite 4
    (.step (.call 73 [0, 1, 2] 1) <|
    .ret [5])
    (.step (.call 73 [0, 1, 2] 1) <|
    .step (.call 73 [0, 1, 2] 2) <|
    .step (.slen 5) <|
    .step (.slen 6) <|
    .step (.bin .lss 7 8) <|
    .ret [9])
/-- sort.Slice is told. -/
abbrev d0 : PDef := .prim sortP
/-- (postmark/table.Table).Get, function 20, plain functions []. -/
def d35 : PDef := .fn [.sc, .sc] [.sc] <|
  .step (.len 0) <|
  .step (.ci .i64 0) <|
  .step (.call 36 [1, 0, 2, 3] 0) <|
  .step (.bin .eql 4 3) <|
  .ite 5
    (.step (.call 36 [1, 0, 2, 3] 1) <|
    .ret [6])
    (.step (.ci .u64 0) <|
    .ret [6])
/-- (postmark/descr.Descr).Key, function 81, plain functions []. -/
def d6 : PDef := .fn [.sc] [.sc] <|
  .step (.len 0) <|
  .step (.conv .u64 1) <|
  .step (.call 7 [2] 0) <|
  .step (.bytes 3) <|
  .step (.ml []) <|
  .step (.app 1 1 5 4) <|
  .step (.slen 3) <|
  .step (.ci .i64 0) <|
  .step (.call 11 [0, 1, 8, 6] 0) <|
  .step (.call 11 [0, 1, 8, 6] 1) <|
  .step (.len 10) <|
  .step (.str 10) <|
  .ret [12]
/-- postmark/postmarkref16.Join, function 67, plain functions []. -/
def d95 : PDef := .fn [.ag 3, .ag 3] [.ag 3, .sc] <|
  .step (.cell 0 0) <|
  .step (.cell 1 0) <|
  .step (.cell 2 0) <|
  .step (.cell 0 1) <|
  .step (.cell 1 1) <|
  .step (.cell 2 1) <|
  .step (.mk [2, 3, 4]) <|
  .step (.call 87 [8] 0) <|
  .step (.ci .i64 0) <|
  .step (.bin .eql 9 10) <|
  .ite 11
    (.step (.mk [5, 6, 7]) <|
    .step (.call 87 [12] 0) <|
    .step (.bin .eql 13 10) <|
    .ite 14
      (.step (.bin .neq 5 3) <|
      .ite 15
        (.step (.ci .u64 0) <|
        .step (.ml []) <|
        .step (.ci .i64 19) <|
        .step (.mk [16, 16, 17]) <|
        .ret [19, 18])
        (.step (.bin .neq 13 10) <|
        .ite 16
          (.step (.ci .u64 0) <|
          .step (.ml []) <|
          .step (.mk [17, 17, 18]) <|
          .ret [19, 13])
          (.step (.call 88 [4, 7] 0) <|
          .step (.call 88 [4, 7] 1) <|
          .step (.bin .neq 18 10) <|
          .ite 19
            (.step (.ci .u64 0) <|
            .step (.ml []) <|
            .step (.mk [20, 20, 21]) <|
            .ret [22, 18])
            (.step (.mk [2, 6, 17]) <|
            .ret [20, 10]))))
      (.step (.bin .neq 13 10) <|
      .ite 15
        (.step (.ci .u64 0) <|
        .step (.ml []) <|
        .step (.mk [16, 16, 17]) <|
        .ret [18, 13])
        (.step (.call 88 [4, 7] 0) <|
        .step (.call 88 [4, 7] 1) <|
        .step (.bin .neq 17 10) <|
        .ite 18
          (.step (.ci .u64 0) <|
          .step (.ml []) <|
          .step (.mk [19, 19, 20]) <|
          .ret [21, 17])
          (.step (.mk [2, 6, 16]) <|
          .ret [19, 10]))))
    (.step (.bin .neq 9 10) <|
    .ite 12
      (.step (.ci .u64 0) <|
      .step (.ml []) <|
      .step (.mk [13, 13, 14]) <|
      .ret [15, 9])
      (.step (.call 88 [4, 7] 0) <|
      .step (.call 88 [4, 7] 1) <|
      .step (.bin .neq 14 10) <|
      .ite 15
        (.step (.ci .u64 0) <|
        .step (.ml []) <|
        .step (.mk [16, 16, 17]) <|
        .ret [18, 14])
        (.step (.mk [2, 6, 13]) <|
        .ret [16, 10])))
/-- postmark/postmarkref12.Check, function 124, plain functions []. -/
def d62 : PDef := .fn [.sc] [.sc] <|
  .step (.len 0) <|
  .step (.conv .u64 1) <|
  .step (.ci .u64 0) <|
  .step (.bin .eql 2 3) <|
  .ite 4
    (.step (.ci .i64 12) <|
    .step (.ci .i64 0) <|
    .step (.call 63 [0, 5, 6] 0) <|
    .step (.call 63 [0, 5, 6] 1) <|
    .ret [8])
    (.step (.ci .u64 16) <|
    .step (.bin .gtr 2 5) <|
    .ite 6
      (.step (.ci .i64 13) <|
      .step (.ci .i64 0) <|
      .step (.call 63 [0, 7, 8] 0) <|
      .step (.call 63 [0, 7, 8] 1) <|
      .ret [10])
      (.step (.ci .i64 0) <|
      .step (.call 63 [0, 7, 7] 0) <|
      .step (.call 63 [0, 7, 7] 1) <|
      .ret [9]))
/-- postmark/postmarkref07.Check, function 183, plain functions []. -/
def d65 : PDef := .fn [.sc, .sc, .sc] [.sc] <|
  .step (.slen 0) <|
  .step (.bin .lss 3 1) <|
  .ite 4
    (.step (.ci .i64 13) <|
    .ret [5])
    (.step (.bin .gtr 3 2) <|
    .ite 5
      (.step (.ci .i64 13) <|
      .ret [6])
      (.step (.call 66 [0] 0) <|
      .step (.un .not 6) <|
      .ite 7
        (.step (.ci .i64 11) <|
        .ret [8])
        (.step (.ci .i64 0) <|
        .ret [8])))
/-- postmark/postmarklaw16.Delta, function 66, plain functions []. -/
def d85 : PDef := .fn [.ag 3] [.ag 3] <|
  .step (.cell 0 0) <|
  .step (.cell 1 0) <|
  .step (.cell 2 0) <|
  .step (.call 54 [3] 0) <|
  .step (.mk [1, 2, 4]) <|
  .ret [5]
/-- postmark/postmarkref02.Put, function 100, plain functions []. -/
def d75 : PDef := .fn [.sc] [.sc] <|
  .step (.cs []) <|
  .step (.call 76 [0, 1] 0) <|
  .step (.call 76 [0, 1] 1) <|
  .step (.call 76 [0, 1] 2) <|
  .step (.conv .u8 3) <|
  .step (.ml [5]) <|
  .step (.str 6) <|
  .step (.bin .add 4 7) <|
  .ret [8]
/-- postmark/varint.Size, function 129, plain functions []. -/
def d8 : PDef := .fn [.sc] [.sc] <|
  .step (.ci .i64 1) <|
  .step (.call 9 [0, 1] 0) <|
  .step (.call 9 [0, 1] 1) <|
  .ret [3]
/-- postmark/postmarkref16.SameDelta, function 68, plain functions []. -/
def d96 : PDef := .fn [.ag 3, .ag 3] [.sc] <|
  .step (.cell 0 0) <|
  .step (.cell 1 0) <|
  .step (.cell 2 0) <|
  .step (.cell 0 1) <|
  .step (.cell 1 1) <|
  .step (.cell 2 1) <|
  .step (.bin .eql 2 5) <|
  .ite 8
    (.step (.bin .eql 3 6) <|
    .ite 9
      (.step (.call 97 [4, 7] 0) <|
      .ret [10])
      (.step (.cb false) <|
      .ret [10]))
    (.step (.cb false) <|
    .ret [9])
/-- (postmark/table.Table).Check, function 21, plain functions []. -/
def d37 : PDef := .fn [.sc] [.sc] <|
  .step (.len 0) <|
  .step (.ci .i64 256) <|
  .step (.bin .gtr 1 2) <|
  .ite 3
    (.step (.ci .i64 13) <|
    .ret [4])
    (.step (.cs []) <|
    .step (.ci .i64 0) <|
    .step (.call 38 [4, 0, 1, 5] 0) <|
    .step (.bin .eql 6 5) <|
    .ite 7
      (.step (.call 38 [4, 0, 1, 5] 1) <|
      .ret [8])
      (.ret [5]))
/-- postmark/postmarkref13.Of, function 23, plain functions []. -/
def d91 : PDef := .fn [.sc] [.sc, .sc] <|
  .step (.len 0) <|
  .step (.ci .i64 256) <|
  .step (.bin .gtr 1 2) <|
  .ite 3
    (.step (.ml []) <|
    .step (.ci .i64 13) <|
    .ret [4, 5])
    (.step (.ci .i64 0) <|
    .step (.call 92 [0, 1, 4] 0) <|
    .step (.bin .eql 5 4) <|
    .ite 6
      (.step (.call 92 [0, 1, 4] 1) <|
      .step (.ml []) <|
      .ret [8, 7])
      (.step (.call 92 [0, 1, 4] 1) <|
      .step (.len 7) <|
      .step (.ml []) <|
      .step (.call 93 [9, 7, 8, 4] 0) <|
      .step (.bin .eql 10 4) <|
      .ite 11
        (.step (.ci .i64 14) <|
        .ret [9, 12])
        (.step (.call 93 [9, 7, 8, 4] 1) <|
        .ret [12, 4])))
/-- postmark/postmarkref11.Put, function 126, plain functions []. -/
def d78 : PDef := .fn [.ag 2] [.sc] <|
  .step (.cell 0 0) <|
  .step (.cell 1 0) <|
  .step (.slen 1) <|
  .step (.conv .u64 3) <|
  .step (.call 75 [4] 0) <|
  .step (.bin .add 5 1) <|
  .step (.slen 2) <|
  .step (.conv .u64 7) <|
  .step (.call 75 [8] 0) <|
  .step (.bin .add 6 9) <|
  .step (.bin .add 10 2) <|
  .ret [11]
/-- postmark/postmarklaw12.Few, function 22, plain functions []. -/
def d4 : PDef := .fn [.sc] [.sc] <|
  .step (.len 0) <|
  .step (.ci .i64 0) <|
  .step (.call 5 [0, 1, 2] 0) <|
  .step (.bin .eql 3 2) <|
  .ite 4
    (.step (.cb false) <|
    .ret [5])
    (.step (.call 5 [0, 1, 2] 1) <|
    .step (.len 5) <|
    .step (.ci .i64 40) <|
    .step (.bin .leq 6 7) <|
    .ret [8])
/-- postmark/table.Same, function 19, plain functions []. -/
def d27 : PDef := .fn [.sc, .sc] [.sc] <|
  .step (.call 28 [0, 1] 0) <|
  .ret [2]
/-- (postmark/entry.Entry).Check, function 139, plain functions []. -/
def d18 : PDef := .fn [.ag 2] [.sc] <|
  .step (.cell 0 0) <|
  .step (.cell 1 0) <|
  .step (.ci .i64 1) <|
  .step (.ci .i64 64) <|
  .step (.call 19 [1, 3, 4] 0) <|
  .step (.ci .i64 0) <|
  .step (.bin .neq 5 6) <|
  .ite 7
    (.ret [5])
    (.step (.ci .i64 256) <|
    .step (.call 19 [2, 6, 8] 0) <|
    .ret [9])
/-- postmark/postmarklaw12.To, function 29, plain functions []. -/
def d56 : PDef := .fn [.sc] [.sc] <|
  .step (.len 0) <|
  .step (.ci .i64 0) <|
  .step (.ml []) <|
  .step (.call 57 [3, 0, 1, 2] 0) <|
  .step (.call 57 [3, 0, 1, 2] 1) <|
  .ret [5]
/-- postmark/postmarkref16.Sum, function 113, plain functions []. -/
def d88 : PDef := .fn [.sc, .sc] [.sc, .sc] <|
  .step (.len 0) <|
  .step (.ci .i64 0) <|
  .step (.ml []) <|
  .step (.call 89 [0, 1, 4, 2, 3] 0) <|
  .step (.bin .eql 5 3) <|
  .ite 6
    (.step (.ci .i64 3) <|
    .ret [4, 7])
    (.step (.call 89 [0, 1, 4, 2, 3] 1) <|
    .step (.call 89 [0, 1, 4, 2, 3] 2) <|
    .step (.call 89 [0, 1, 4, 2, 3] 3) <|
    .step (.len 8) <|
    .step (.call 90 [7, 9, 8, 10, 3] 0) <|
    .step (.call 90 [7, 9, 8, 10, 3] 1) <|
    .step (.call 91 [12] 0) <|
    .step (.call 91 [12] 1) <|
    .ret [13, 14])
/-- postmark/postmarkref16.Apply, function 65, plain functions []. -/
def d86 : PDef := .fn [.ag 2, .ag 3] [.ag 2, .sc] <|
  .step (.cell 0 0) <|
  .step (.cell 1 0) <|
  .step (.cell 0 1) <|
  .step (.cell 1 1) <|
  .step (.cell 2 1) <|
  .step (.call 59 [3] 0) <|
  .step (.ci .i64 0) <|
  .step (.bin .eql 7 8) <|
  .ite 9
    (.step (.mk [4, 5, 6]) <|
    .step (.call 87 [10] 0) <|
    .step (.bin .eql 11 8) <|
    .ite 12
      (.step (.bin .neq 2 4) <|
      .ite 13
        (.step (.ci .u64 0) <|
        .step (.ml []) <|
        .step (.ci .i64 19) <|
        .step (.mk [14, 15]) <|
        .ret [17, 16])
        (.step (.bin .neq 11 8) <|
        .ite 14
          (.step (.ci .u64 0) <|
          .step (.ml []) <|
          .step (.mk [15, 16]) <|
          .ret [17, 11])
          (.step (.call 88 [3, 6] 0) <|
          .step (.call 88 [3, 6] 1) <|
          .step (.bin .neq 16 8) <|
          .ite 17
            (.step (.ci .u64 0) <|
            .step (.ml []) <|
            .step (.mk [18, 19]) <|
            .ret [20, 16])
            (.step (.mk [5, 15]) <|
            .ret [18, 8]))))
      (.step (.bin .neq 11 8) <|
      .ite 13
        (.step (.ci .u64 0) <|
        .step (.ml []) <|
        .step (.mk [14, 15]) <|
        .ret [16, 11])
        (.step (.call 88 [3, 6] 0) <|
        .step (.call 88 [3, 6] 1) <|
        .step (.bin .neq 15 8) <|
        .ite 16
          (.step (.ci .u64 0) <|
          .step (.ml []) <|
          .step (.mk [17, 18]) <|
          .ret [19, 15])
          (.step (.mk [5, 14]) <|
          .ret [17, 8]))))
    (.step (.bin .neq 7 8) <|
    .ite 10
      (.step (.ci .u64 0) <|
      .step (.ml []) <|
      .step (.mk [11, 12]) <|
      .ret [13, 7])
      (.step (.call 88 [3, 6] 0) <|
      .step (.call 88 [3, 6] 1) <|
      .step (.bin .neq 12 8) <|
      .ite 13
        (.step (.ci .u64 0) <|
        .step (.ml []) <|
        .step (.mk [14, 15]) <|
        .ret [16, 12])
        (.step (.mk [5, 11]) <|
        .ret [14, 8])))
/-- postmark/postmarklaw13.Few, function 16, plain functions []. -/
def d2 : PDef := .fn [.sc] [.sc] <|
  .step (.len 0) <|
  .step (.ci .i64 0) <|
  .step (.call 3 [0, 1, 2] 0) <|
  .step (.bin .eql 3 2) <|
  .ite 4
    (.step (.cb false) <|
    .ret [5])
    (.step (.call 3 [0, 1, 2] 1) <|
    .step (.len 5) <|
    .step (.ci .i64 300) <|
    .step (.bin .leq 6 7) <|
    .ret [8])
/-- (postmark/descr.Descr).Check, function 117, plain functions []. -/
def d16 : PDef := .fn [.sc] [.sc] <|
  .step (.len 0) <|
  .step (.conv .u64 1) <|
  .step (.ci .u64 0) <|
  .step (.bin .eql 2 3) <|
  .ite 4
    (.step (.ci .i64 12) <|
    .ret [5])
    (.step (.ci .u64 16) <|
    .step (.bin .gtr 2 5) <|
    .ite 6
      (.step (.ci .i64 13) <|
      .ret [7])
      (.step (.ci .i64 0) <|
      .step (.call 17 [0, 1, 7] 0) <|
      .step (.bin .eql 8 7) <|
      .ite 9
        (.step (.call 17 [0, 1, 7] 1) <|
        .ret [10])
        (.ret [7])))
/-- postmark/postmarkref12.Key, function 91, plain functions []. -/
def d74 : PDef := .fn [.sc] [.sc] <|
  .step (.len 0) <|
  .step (.conv .u64 1) <|
  .step (.call 75 [2] 0) <|
  .step (.ci .i64 0) <|
  .step (.call 77 [3, 0, 1, 4] 0) <|
  .step (.call 77 [3, 0, 1, 4] 1) <|
  .ret [6]
/-- unicode/utf8.ValidString is told. -/
abbrev d21 : PDef := .prim validP
/-- postmark/postmarkref12.Less, function 90, plain functions []. -/
def d79 : PDef := .fn [.sc, .sc] [.sc] <|
  .step (.cs []) <|
  .step (.mk [0, 2]) <|
  .step (.mk [1, 2]) <|
  .step (.call 71 [3, 4] 0) <|
  .step (.ci .i64 0) <|
  .step (.bin .lss 5 6) <|
  .ret [7]
/-- (postmark/table.Table).AtLeast, function 18, plain functions []. -/
def d24 : PDef := .fn [.sc, .sc] [.sc] <|
  .step (.len 1) <|
  .step (.ci .i64 0) <|
  .step (.call 25 [0, 3, 1, 2, 3] 0) <|
  .step (.bin .eql 4 3) <|
  .ite 5
    (.step (.cb false) <|
    .ret [6])
    (.step (.cb true) <|
    .ret [6])
/-- postmark/delta.Join, function 57, plain functions []. -/
def d40 : PDef := .fn [.ag 3, .ag 3] [.ag 3, .sc] <|
  .step (.cell 0 0) <|
  .step (.cell 1 0) <|
  .step (.cell 2 0) <|
  .step (.cell 0 1) <|
  .step (.cell 1 1) <|
  .step (.cell 2 1) <|
  .step (.mk [2, 3, 4]) <|
  .step (.call 41 [8] 0) <|
  .step (.ci .i64 0) <|
  .step (.bin .neq 9 10) <|
  .ite 11
    (.step (.ci .u64 0) <|
    .step (.ml []) <|
    .step (.mk [12, 12, 13]) <|
    .ret [14, 9])
    (.step (.mk [5, 6, 7]) <|
    .step (.call 41 [12] 0) <|
    .step (.bin .neq 13 10) <|
    .ite 14
      (.step (.ci .u64 0) <|
      .step (.ml []) <|
      .step (.mk [15, 15, 16]) <|
      .ret [17, 13])
      (.step (.bin .neq 5 3) <|
      .ite 15
        (.step (.ci .u64 0) <|
        .step (.ml []) <|
        .step (.ci .i64 19) <|
        .step (.mk [16, 16, 17]) <|
        .ret [19, 18])
        (.step (.call 42 [4, 7] 0) <|
        .step (.call 42 [4, 7] 1) <|
        .step (.bin .neq 17 10) <|
        .ite 18
          (.step (.ci .u64 0) <|
          .step (.ml []) <|
          .step (.mk [19, 19, 20]) <|
          .ret [21, 17])
          (.step (.mk [2, 6, 16]) <|
          .ret [19, 10]))))
/-- postmark/postmarkref07.Good, function 199, plain functions []. -/
def d66 : PDef := .fn [.sc] [.sc] <|
  .step (.call 67 [0] 0) <|
  .step (.ci .i64 0) <|
  .step (.bin .eql 1 2) <|
  .ite 3
    (.step (.cb false) <|
    .ret [4])
    (.step (.cb true) <|
    .ret [4])
/-- postmark/table.Same$1, function 87, plain functions []. -/
def d30 : PDef := .fn [.ag 2, .ag 2] [.sc] <|
  .step (.cell 0 0) <|
  .step (.cell 1 0) <|
  .step (.cell 0 1) <|
  .step (.cell 1 1) <|
  .step (.bin .eql 3 5) <|
  .ite 6
    (.step (.call 31 [2, 4] 0) <|
    .ret [7])
    (.step (.cb false) <|
    .ret [7])
/-- postmark/postmarklaw16.DeltaJoins, function 10, plain functions []. -/
def d39 : PDef := .fn [.ag 3, .ag 3, .ag 3] [.sc] <|
  .step (.cell 0 0) <|
  .step (.cell 1 0) <|
  .step (.cell 2 0) <|
  .step (.cell 0 1) <|
  .step (.cell 1 1) <|
  .step (.cell 2 1) <|
  .step (.cell 0 2) <|
  .step (.cell 1 2) <|
  .step (.cell 2 2) <|
  .step (.len 5) <|
  .step (.ci .i64 100) <|
  .step (.bin .gtr 12 13) <|
  .ite 14
    (.step (.cb true) <|
    .ret [15])
    (.step (.call 2 [5] 0) <|
    .step (.un .not 15) <|
    .ite 16
      (.step (.cb true) <|
      .ret [17])
      (.step (.len 8) <|
      .step (.bin .gtr 17 13) <|
      .ite 18
        (.step (.cb true) <|
        .ret [19])
        (.step (.call 2 [8] 0) <|
        .step (.un .not 19) <|
        .ite 20
          (.step (.cb true) <|
          .ret [21])
          (.step (.len 11) <|
          .step (.bin .gtr 21 13) <|
          .ite 22
            (.step (.cb true) <|
            .ret [23])
            (.step (.call 2 [11] 0) <|
            .step (.un .not 23) <|
            .ite 24
              (.step (.cb true) <|
              .ret [25])
              (.step (.mk [3, 4, 5]) <|
              .step (.mk [6, 7, 8]) <|
              .step (.call 40 [25, 26] 0) <|
              .step (.cell 0 27) <|
              .step (.cell 1 27) <|
              .step (.cell 2 27) <|
              .step (.call 40 [25, 26] 1) <|
              .step (.mk [9, 10, 11]) <|
              .step (.call 40 [26, 32] 0) <|
              .step (.cell 0 33) <|
              .step (.cell 1 33) <|
              .step (.cell 2 33) <|
              .step (.call 40 [26, 32] 1) <|
              .step (.ci .i64 0) <|
              .step (.bin .neq 31 38) <|
              .ite 39
                (.step (.cb true) <|
                .ret [40])
                (.step (.bin .neq 37 38) <|
                .ite 40
                  (.step (.cb true) <|
                  .ret [41])
                  (.step (.mk [28, 29, 30]) <|
                  .step (.call 40 [41, 32] 0) <|
                  .step (.cell 0 42) <|
                  .step (.cell 1 42) <|
                  .step (.cell 2 42) <|
                  .step (.call 40 [41, 32] 1) <|
                  .step (.mk [34, 35, 36]) <|
                  .step (.call 40 [25, 47] 0) <|
                  .step (.cell 0 48) <|
                  .step (.cell 1 48) <|
                  .step (.cell 2 48) <|
                  .step (.call 40 [25, 47] 1) <|
                  .step (.bin .eql 46 52) <|
                  .ite 53
                    (.step (.bin .eql 43 49) <|
                    .ite 54
                      (.step (.bin .eql 44 50) <|
                      .ite 55
                        (.step (.call 27 [45, 51] 0) <|
                        .ret [56])
                        (.step (.cb false) <|
                        .ret [56]))
                      (.step (.cb false) <|
                      .ret [55]))
                    (.step (.cb false) <|
                    .ret [54])))))))))
/-- postmark/delta.together, function 109, plain functions []. -/
def d42 : PDef := .fn [.sc, .sc] [.sc, .sc] <|
  .step (.len 0) <|
  .step (.len 1) <|
  .step (.bin .add 2 3) <|
  .step (.ml []) <|
  .step (.ci .u64 0) <|
  .step (.mk [5, 6]) <|
  .step (.ci .i64 0) <|
  .step (.rep 2 32 7 8 4) <|
  .step (.call 43 [0, 1, 9] 0) <|
  .step (.bin .eql 10 8) <|
  .ite 11
    (.step (.ci .i64 3) <|
    .ret [5, 12])
    (.step (.call 43 [0, 1, 9] 1) <|
    .step (.len 12) <|
    .step (.ci .i64 256) <|
    .step (.bin .gtr 13 14) <|
    .ite 15
      (.step (.ci .i64 13) <|
      .ret [5, 16])
      (.ret [12, 8]))
/-- postmark/postmarkref16.Check, function 70, plain functions []. -/
def d87 : PDef := .fn [.ag 3] [.sc] <|
  .step (.cell 0 0) <|
  .step (.cell 1 0) <|
  .step (.cell 2 0) <|
  .step (.bin .leq 2 1) <|
  .ite 4
    (.step (.ci .i64 20) <|
    .ret [5])
    (.step (.call 59 [3] 0) <|
    .ret [5])
/-- postmark/postmarkref11.Cmp, function 125, plain functions []. -/
def d71 : PDef := .fn [.ag 2, .ag 2] [.sc] <|
  .step (.cell 0 0) <|
  .step (.cell 1 0) <|
  .step (.cell 0 1) <|
  .step (.cell 1 1) <|
  .step (.call 72 [2, 4] 0) <|
  .ite 6
    (.step (.ci .i64 (-1)) <|
    .ret [7])
    (.step (.bin .eql 2 4) <|
    .ite 7
      (.step (.call 72 [3, 5] 0) <|
      .ite 8
        (.step (.ci .i64 (-1)) <|
        .ret [9])
        (.step (.mk [2, 3]) <|
        .step (.mk [4, 5]) <|
        .step (.binc .eql [1, 1] 9 10) <|
        .ite 11
          (.step (.ci .i64 0) <|
          .ret [12])
          (.step (.ci .i64 1) <|
          .ret [12])))
      (.step (.mk [2, 3]) <|
      .step (.mk [4, 5]) <|
      .step (.binc .eql [1, 1] 8 9) <|
      .ite 10
        (.step (.ci .i64 0) <|
        .ret [11])
        (.step (.ci .i64 1) <|
        .ret [11])))
/-- (postmark/delta.Snapshot).Clone, function 71, plain functions []. -/
def d101 : PDef := .fn [.ag 2] [.ag 2] <|
  .step (.cell 0 0) <|
  .step (.cell 1 0) <|
  .step (.len 2) <|
  .step (.ml []) <|
  .step (.ci .u64 0) <|
  .step (.mk [4, 5]) <|
  .step (.ci .i64 0) <|
  .step (.rep 2 32 6 7 3) <|
  .step (.call 102 [2, 3, 7, 1, 8] 0) <|
  .step (.call 102 [2, 3, 7, 1, 8] 1) <|
  .step (.call 102 [2, 3, 7, 1, 8] 2) <|
  .step (.mk [10, 11]) <|
  .ret [12]
/-- internal/bytealg.abigen_runtime_cmpstring is told. -/
abbrev d45 : PDef := .prim cmpP
/-- slices.Equal[postmark/descr.Descr,postmark/entry.Entry], function 88, plain functions []. -/
def d31 : PDef := .fn [.sc, .sc] [.sc] <|
  .step (.len 0) <|
  .step (.len 1) <|
  .step (.bin .neq 2 3) <|
  .ite 4
    (.step (.cb false) <|
    .ret [5])
    (.step (.ci .i64 0) <|
    .step (.call 32 [0, 1, 2, 5] 0) <|
    .step (.bin .eql 6 5) <|
    .ite 7
      (.step (.cb false) <|
      .ret [8])
      (.step (.cb true) <|
      .ret [8]))
/-- postmark/postmarklaw13.To, function 24, plain functions []. -/
def d54 : PDef := .fn [.sc] [.sc] <|
  .step (.len 0) <|
  .step (.ci .i64 0) <|
  .step (.ml []) <|
  .step (.call 55 [3, 0, 1, 2] 0) <|
  .step (.call 55 [3, 0, 1, 2] 1) <|
  .ret [5]
/-- postmark/delta.Apply, function 59, plain functions []. -/
def d51 : PDef := .fn [.ag 2, .ag 3] [.ag 2, .sc] <|
  .step (.cell 0 0) <|
  .step (.cell 1 0) <|
  .step (.cell 0 1) <|
  .step (.cell 1 1) <|
  .step (.cell 2 1) <|
  .step (.mk [2, 3]) <|
  .step (.call 49 [7] 0) <|
  .step (.ci .i64 0) <|
  .step (.bin .neq 8 9) <|
  .ite 10
    (.step (.ci .u64 0) <|
    .step (.ml []) <|
    .step (.mk [11, 12]) <|
    .ret [13, 8])
    (.step (.mk [4, 5, 6]) <|
    .step (.call 41 [11] 0) <|
    .step (.bin .neq 12 9) <|
    .ite 13
      (.step (.ci .u64 0) <|
      .step (.ml []) <|
      .step (.mk [14, 15]) <|
      .ret [16, 12])
      (.step (.bin .neq 2 4) <|
      .ite 14
        (.step (.ci .u64 0) <|
        .step (.ml []) <|
        .step (.ci .i64 19) <|
        .step (.mk [15, 16]) <|
        .ret [18, 17])
        (.step (.call 42 [3, 6] 0) <|
        .step (.call 42 [3, 6] 1) <|
        .step (.bin .neq 16 9) <|
        .ite 17
          (.step (.ci .u64 0) <|
          .step (.ml []) <|
          .step (.mk [18, 19]) <|
          .ret [20, 16])
          (.step (.mk [5, 15]) <|
          .ret [18, 9]))))
/-- postmark/postmarkref13.Same, function 25, plain functions []. -/
def d97 : PDef := .fn [.sc, .sc] [.sc] <|
  .step (.len 0) <|
  .step (.len 1) <|
  .step (.bin .neq 2 3) <|
  .ite 4
    (.step (.cb false) <|
    .ret [5])
    (.step (.ci .i64 0) <|
    .step (.call 98 [0, 1, 2, 5] 0) <|
    .step (.bin .eql 6 5) <|
    .ite 7
      (.step (.cb false) <|
      .ret [8])
      (.step (.cb true) <|
      .ret [8]))
/-- postmark/postmarklaw16.DeltaBack, function 11, plain functions []. -/
def d47 : PDef := .fn [.ag 2, .ag 2, .ag 3, .ag 3] [.sc] <|
  .step (.cell 0 0) <|
  .step (.cell 1 0) <|
  .step (.cell 0 1) <|
  .step (.cell 1 1) <|
  .step (.cell 0 2) <|
  .step (.cell 1 2) <|
  .step (.cell 2 2) <|
  .step (.cell 0 3) <|
  .step (.cell 1 3) <|
  .step (.cell 2 3) <|
  .step (.call 2 [5] 0) <|
  .step (.un .not 14) <|
  .ite 15
    (.step (.cb true) <|
    .ret [16])
    (.step (.call 2 [7] 0) <|
    .step (.un .not 16) <|
    .ite 17
      (.step (.cb true) <|
      .ret [18])
      (.step (.call 2 [10] 0) <|
      .step (.un .not 18) <|
      .ite 19
        (.step (.cb true) <|
        .ret [20])
        (.step (.call 2 [13] 0) <|
        .step (.un .not 20) <|
        .ite 21
          (.step (.cb true) <|
          .ret [22])
          (.step (.mk [4, 5]) <|
          .step (.mk [6, 7]) <|
          .step (.call 48 [22, 23] 0) <|
          .step (.cell 0 24) <|
          .step (.cell 1 24) <|
          .step (.cell 2 24) <|
          .step (.call 48 [22, 23] 1) <|
          .step (.ci .i64 0) <|
          .step (.bin .eql 28 29) <|
          .ite 30
            (.step (.mk [25, 26, 27]) <|
            .step (.call 51 [22, 31] 0) <|
            .step (.cell 0 32) <|
            .step (.cell 1 32) <|
            .step (.call 51 [22, 31] 1) <|
            .step (.bin .neq 35 29) <|
            .ite 36
              (.step (.cb false) <|
              .ret [37])
              (.step (.bin .eql 33 6) <|
              .ite 37
                (.step (.call 27 [34, 7] 0) <|
                .step (.un .not 38) <|
                .ite 39
                  (.step (.cb false) <|
                  .ret [40])
                  (.step (.call 41 [31] 0) <|
                  .step (.bin .neq 40 29) <|
                  .ite 41
                    (.step (.cb false) <|
                    .ret [42])
                    (.step (.mk [8, 9, 10]) <|
                    .step (.call 51 [22, 42] 0) <|
                    .step (.cell 0 43) <|
                    .step (.cell 1 43) <|
                    .step (.call 51 [22, 42] 1) <|
                    .step (.bin .neq 46 29) <|
                    .ite 47
                      (.step (.ci .u64 0) <|
                      .step (.bin .eql 44 48) <|
                      .ite 49
                        (.step (.len 45) <|
                        .step (.bin .eql 50 29) <|
                        .ret [51])
                        (.step (.cb false) <|
                        .ret [50]))
                      (.step (.mk [44, 45]) <|
                      .step (.call 48 [22, 48] 0) <|
                      .step (.cell 0 49) <|
                      .step (.cell 1 49) <|
                      .step (.cell 2 49) <|
                      .step (.call 48 [22, 48] 1) <|
                      .step (.bin .neq 53 29) <|
                      .ite 54
                        (.step (.cb false) <|
                        .ret [55])
                        (.step (.bin .neq 50 8) <|
                        .ite 55
                          (.step (.cb false) <|
                          .ret [56])
                          (.step (.bin .neq 51 9) <|
                          .ite 56
                            (.step (.cb false) <|
                            .ret [57])
                            (.step (.call 27 [52, 10] 0) <|
                            .step (.un .not 57) <|
                            .ite 58
                              (.step (.cb false) <|
                              .ret [59])
                              (.step (.call 24 [45, 5] 0) <|
                              .step (.un .not 59) <|
                              .ite 60
                                (.step (.cb false) <|
                                .ret [61])
                                (.step (.call 49 [48] 0) <|
                                .step (.bin .neq 61 29) <|
                                .ite 62
                                  (.step (.cb false) <|
                                  .ret [63])
                                  (.step (.mk [11, 12, 13]) <|
                                  .step (.call 51 [48, 63] 0) <|
                                  .step (.cell 0 64) <|
                                  .step (.cell 1 64) <|
                                  .step (.call 51 [48, 63] 1) <|
                                  .step (.bin .neq 67 29) <|
                                  .ite 68
                                    (.step (.cb true) <|
                                    .ret [69])
                                    (.step (.call 40 [42, 63] 0) <|
                                    .step (.cell 0 69) <|
                                    .step (.cell 1 69) <|
                                    .step (.cell 2 69) <|
                                    .step (.call 40 [42, 63] 1) <|
                                    .step (.mk [70, 71, 72]) <|
                                    .step (.call 51 [22, 74] 0) <|
                                    .step (.cell 0 75) <|
                                    .step (.cell 1 75) <|
                                    .step (.call 51 [22, 74] 1) <|
                                    .step (.bin .eql 73 29) <|
                                    .ite 79
                                      (.step (.bin .eql 78 29) <|
                                      .ite 80
                                        (.step (.bin .eql 76 65) <|
                                        .ite 81
                                          (.step (.call 27 [77, 66] 0) <|
                                          .ret [82])
                                          (.step (.cb false) <|
                                          .ret [82]))
                                        (.step (.cb false) <|
                                        .ret [81]))
                                      (.step (.cb false) <|
                                      .ret [80]))))))))))))
                (.step (.cb false) <|
                .ret [38])))
            (.step (.mk [8, 9, 10]) <|
            .step (.call 51 [22, 31] 0) <|
            .step (.cell 0 32) <|
            .step (.cell 1 32) <|
            .step (.call 51 [22, 31] 1) <|
            .step (.bin .neq 35 29) <|
            .ite 36
              (.step (.ci .u64 0) <|
              .step (.bin .eql 33 37) <|
              .ite 38
                (.step (.len 34) <|
                .step (.bin .eql 39 29) <|
                .ret [40])
                (.step (.cb false) <|
                .ret [39]))
              (.step (.mk [33, 34]) <|
              .step (.call 48 [22, 37] 0) <|
              .step (.cell 0 38) <|
              .step (.cell 1 38) <|
              .step (.cell 2 38) <|
              .step (.call 48 [22, 37] 1) <|
              .step (.bin .neq 42 29) <|
              .ite 43
                (.step (.cb false) <|
                .ret [44])
                (.step (.bin .neq 39 8) <|
                .ite 44
                  (.step (.cb false) <|
                  .ret [45])
                  (.step (.bin .neq 40 9) <|
                  .ite 45
                    (.step (.cb false) <|
                    .ret [46])
                    (.step (.call 27 [41, 10] 0) <|
                    .step (.un .not 46) <|
                    .ite 47
                      (.step (.cb false) <|
                      .ret [48])
                      (.step (.call 24 [34, 5] 0) <|
                      .step (.un .not 48) <|
                      .ite 49
                        (.step (.cb false) <|
                        .ret [50])
                        (.step (.call 49 [37] 0) <|
                        .step (.bin .neq 50 29) <|
                        .ite 51
                          (.step (.cb false) <|
                          .ret [52])
                          (.step (.mk [11, 12, 13]) <|
                          .step (.call 51 [37, 52] 0) <|
                          .step (.cell 0 53) <|
                          .step (.cell 1 53) <|
                          .step (.call 51 [37, 52] 1) <|
                          .step (.bin .neq 56 29) <|
                          .ite 57
                            (.step (.cb true) <|
                            .ret [58])
                            (.step (.call 40 [31, 52] 0) <|
                            .step (.cell 0 58) <|
                            .step (.cell 1 58) <|
                            .step (.cell 2 58) <|
                            .step (.call 40 [31, 52] 1) <|
                            .step (.mk [59, 60, 61]) <|
                            .step (.call 51 [22, 63] 0) <|
                            .step (.cell 0 64) <|
                            .step (.cell 1 64) <|
                            .step (.call 51 [22, 63] 1) <|
                            .step (.bin .eql 62 29) <|
                            .ite 68
                              (.step (.bin .eql 67 29) <|
                              .ite 69
                                (.step (.bin .eql 65 54) <|
                                .ite 70
                                  (.step (.call 27 [66, 55] 0) <|
                                  .ret [71])
                                  (.step (.cb false) <|
                                  .ret [71]))
                                (.step (.cb false) <|
                                .ret [70]))
                              (.step (.cb false) <|
                              .ret [69]))))))))))))))
/-- postmark/postmarkref16.Diff, function 63, plain functions []. -/
def d58 : PDef := .fn [.ag 2, .ag 2] [.ag 3, .sc] <|
  .step (.cell 0 0) <|
  .step (.cell 1 0) <|
  .step (.cell 0 1) <|
  .step (.cell 1 1) <|
  .step (.call 59 [3] 0) <|
  .step (.ci .i64 0) <|
  .step (.bin .eql 6 7) <|
  .ite 8
    (.step (.call 59 [5] 0) <|
    .step (.bin .eql 9 7) <|
    .ite 10
      (.step (.bin .leq 4 2) <|
      .ite 11
        (.step (.ci .u64 0) <|
        .step (.ml []) <|
        .step (.ci .i64 20) <|
        .step (.mk [12, 12, 13]) <|
        .ret [15, 14])
        (.step (.call 80 [5, 3] 0) <|
        .step (.un .not 12) <|
        .ite 13
          (.step (.ci .u64 0) <|
          .step (.ml []) <|
          .step (.ci .i64 21) <|
          .step (.mk [14, 14, 15]) <|
          .ret [17, 16])
          (.step (.bin .neq 9 7) <|
          .ite 14
            (.step (.ci .u64 0) <|
            .step (.ml []) <|
            .step (.mk [15, 15, 16]) <|
            .ret [17, 9])
            (.step (.len 5) <|
            .step (.ml []) <|
            .step (.call 84 [5, 15, 7, 2, 4, 16, 3] 0) <|
            .step (.call 84 [5, 15, 7, 2, 4, 16, 3] 1) <|
            .step (.call 84 [5, 15, 7, 2, 4, 16, 3] 2) <|
            .step (.call 84 [5, 15, 7, 2, 4, 16, 3] 3) <|
            .step (.mk [18, 19, 20]) <|
            .ret [21, 7]))))
      (.step (.bin .neq 9 7) <|
      .ite 11
        (.step (.ci .u64 0) <|
        .step (.ml []) <|
        .step (.mk [12, 12, 13]) <|
        .ret [14, 9])
        (.step (.len 5) <|
        .step (.ml []) <|
        .step (.call 84 [5, 12, 7, 2, 4, 13, 3] 0) <|
        .step (.call 84 [5, 12, 7, 2, 4, 13, 3] 1) <|
        .step (.call 84 [5, 12, 7, 2, 4, 13, 3] 2) <|
        .step (.call 84 [5, 12, 7, 2, 4, 13, 3] 3) <|
        .step (.mk [15, 16, 17]) <|
        .ret [18, 7])))
    (.step (.bin .neq 6 7) <|
    .ite 9
      (.step (.ci .u64 0) <|
      .step (.ml []) <|
      .step (.mk [10, 10, 11]) <|
      .ret [12, 6])
      (.step (.len 5) <|
      .step (.ml []) <|
      .step (.call 84 [5, 10, 7, 2, 4, 11, 3] 0) <|
      .step (.call 84 [5, 10, 7, 2, 4, 11, 3] 1) <|
      .step (.call 84 [5, 10, 7, 2, 4, 11, 3] 2) <|
      .step (.call 84 [5, 10, 7, 2, 4, 11, 3] 3) <|
      .step (.mk [13, 14, 15]) <|
      .ret [16, 7]))
/-- postmark/postmarkref11.Check, function 161, plain functions []. -/
def d64 : PDef := .fn [.ag 2] [.sc] <|
  .step (.cell 0 0) <|
  .step (.cell 1 0) <|
  .step (.ci .i64 1) <|
  .step (.ci .i64 64) <|
  .step (.call 65 [1, 3, 4] 0) <|
  .step (.ci .i64 0) <|
  .step (.bin .neq 5 6) <|
  .ite 7
    (.ret [5])
    (.step (.ci .i64 256) <|
    .step (.call 65 [2, 6, 8] 0) <|
    .ret [9])
/-- postmark/postmarkref13.Get, function 28, plain functions []. -/
def d82 : PDef := .fn [.sc, .sc] [.sc] <|
  .step (.len 0) <|
  .step (.ci .i64 0) <|
  .step (.call 83 [1, 0, 2, 3] 0) <|
  .step (.bin .eql 4 3) <|
  .ite 5
    (.step (.call 83 [1, 0, 2, 3] 1) <|
    .ret [6])
    (.step (.ci .u64 0) <|
    .ret [6])
/-- math/bits.Add64 is told. -/
abbrev d46 : PDef := .prim add64P
/-- postmark/descr.Cmp, function 110, plain functions []. -/
def d44 : PDef := .fn [.sc, .sc] [.sc] <|
  .step (.call 6 [0] 0) <|
  .step (.call 6 [1] 0) <|
  .step (.call 45 [2, 3] 0) <|
  .ret [4]
/-- slices.Clone[postmark/descr.Descr,postmark/entry.Entry] is told. -/
abbrev d23 : PDef := .prim (cloneP 32 2)
/-- postmark/postmarkref07.First, function 214, plain functions []. -/
def d68 : PDef := .fn [.sc] [.sc] <|
  .step (.slen 0) <|
  .step (.ci .i64 0) <|
  .step (.bin .eql 1 2) <|
  .ite 3
    (.ret [2])
    (.step (.sidx 0 2) <|
    .step (.conv .i64 4) <|
    .step (.ci .i64 128) <|
    .step (.bin .lss 5 6) <|
    .ite 7
      (.step (.ci .i64 1) <|
      .ret [8])
      (.step (.ci .i64 192) <|
      .step (.bin .geq 5 8) <|
      .ite 9
        (.step (.ci .i64 224) <|
        .step (.bin .lss 5 10) <|
        .ite 11
          (.step (.bin .sub 5 8) <|
          .step (.ci .i64 2) <|
          .step (.bin .lss 1 13) <|
          .ite 14
            (.ret [2])
            (.step (.ci .i64 1) <|
            .step (.call 69 [0, 13, 12, 6, 15] 0) <|
            .step (.bin .eql 16 2) <|
            .ite 17
              (.ret [2])
              (.step (.call 69 [0, 13, 12, 6, 15] 1) <|
              .step (.call 69 [0, 13, 12, 6, 15] 2) <|
              .step (.call 69 [0, 13, 12, 6, 15] 3) <|
              .step (.bin .lss 19 20) <|
              .ite 21
                (.ret [2])
                (.step (.ci .i64 1114111) <|
                .step (.bin .gtr 19 22) <|
                .ite 23
                  (.ret [2])
                  (.step (.ci .i64 55296) <|
                  .step (.bin .geq 19 24) <|
                  .ite 25
                    (.step (.ci .i64 57344) <|
                    .step (.bin .lss 19 26) <|
                    .ite 27
                      (.ret [2])
                      (.ret [18]))
                    (.ret [18]))))))
          (.step (.bin .geq 5 10) <|
          .ite 12
            (.step (.ci .i64 240) <|
            .step (.bin .lss 5 13) <|
            .ite 14
              (.step (.bin .sub 5 10) <|
              .step (.ci .i64 3) <|
              .step (.bin .lss 1 16) <|
              .ite 17
                (.ret [2])
                (.step (.ci .i64 2048) <|
                .step (.ci .i64 1) <|
                .step (.call 69 [0, 16, 15, 18, 19] 0) <|
                .step (.bin .eql 20 2) <|
                .ite 21
                  (.ret [2])
                  (.step (.call 69 [0, 16, 15, 18, 19] 1) <|
                  .step (.call 69 [0, 16, 15, 18, 19] 2) <|
                  .step (.call 69 [0, 16, 15, 18, 19] 3) <|
                  .step (.bin .lss 23 24) <|
                  .ite 25
                    (.ret [2])
                    (.step (.ci .i64 1114111) <|
                    .step (.bin .gtr 23 26) <|
                    .ite 27
                      (.ret [2])
                      (.step (.ci .i64 55296) <|
                      .step (.bin .geq 23 28) <|
                      .ite 29
                        (.step (.ci .i64 57344) <|
                        .step (.bin .lss 23 30) <|
                        .ite 31
                          (.ret [2])
                          (.ret [22]))
                        (.ret [22]))))))
              (.step (.bin .geq 5 13) <|
              .ite 15
                (.step (.ci .i64 248) <|
                .step (.bin .lss 5 16) <|
                .ite 17
                  (.step (.bin .sub 5 13) <|
                  .step (.ci .i64 4) <|
                  .step (.bin .lss 1 19) <|
                  .ite 20
                    (.ret [2])
                    (.step (.ci .i64 65536) <|
                    .step (.ci .i64 1) <|
                    .step (.call 69 [0, 19, 18, 21, 22] 0) <|
                    .step (.bin .eql 23 2) <|
                    .ite 24
                      (.ret [2])
                      (.step (.call 69 [0, 19, 18, 21, 22] 1) <|
                      .step (.call 69 [0, 19, 18, 21, 22] 2) <|
                      .step (.call 69 [0, 19, 18, 21, 22] 3) <|
                      .step (.bin .lss 26 27) <|
                      .ite 28
                        (.ret [2])
                        (.step (.ci .i64 1114111) <|
                        .step (.bin .gtr 26 29) <|
                        .ite 30
                          (.ret [2])
                          (.step (.ci .i64 55296) <|
                          .step (.bin .geq 26 31) <|
                          .ite 32
                            (.step (.ci .i64 57344) <|
                            .step (.bin .lss 26 33) <|
                            .ite 34
                              (.ret [2])
                              (.ret [25]))
                            (.ret [25]))))))
                  (.ret [2]))
                (.ret [2])))
            (.step (.ci .i64 240) <|
            .step (.bin .geq 5 13) <|
            .ite 14
              (.step (.ci .i64 248) <|
              .step (.bin .lss 5 15) <|
              .ite 16
                (.step (.bin .sub 5 13) <|
                .step (.ci .i64 4) <|
                .step (.bin .lss 1 18) <|
                .ite 19
                  (.ret [2])
                  (.step (.ci .i64 65536) <|
                  .step (.ci .i64 1) <|
                  .step (.call 69 [0, 18, 17, 20, 21] 0) <|
                  .step (.bin .eql 22 2) <|
                  .ite 23
                    (.ret [2])
                    (.step (.call 69 [0, 18, 17, 20, 21] 1) <|
                    .step (.call 69 [0, 18, 17, 20, 21] 2) <|
                    .step (.call 69 [0, 18, 17, 20, 21] 3) <|
                    .step (.bin .lss 25 26) <|
                    .ite 27
                      (.ret [2])
                      (.step (.ci .i64 1114111) <|
                      .step (.bin .gtr 25 28) <|
                      .ite 29
                        (.ret [2])
                        (.step (.ci .i64 55296) <|
                        .step (.bin .geq 25 30) <|
                        .ite 31
                          (.step (.ci .i64 57344) <|
                          .step (.bin .lss 25 32) <|
                          .ite 33
                            (.ret [2])
                            (.ret [24]))
                          (.ret [24]))))))
                (.ret [2]))
              (.ret [2]))))
        (.step (.ci .i64 224) <|
        .step (.bin .geq 5 10) <|
        .ite 11
          (.step (.ci .i64 240) <|
          .step (.bin .lss 5 12) <|
          .ite 13
            (.step (.bin .sub 5 10) <|
            .step (.ci .i64 3) <|
            .step (.bin .lss 1 15) <|
            .ite 16
              (.ret [2])
              (.step (.ci .i64 2048) <|
              .step (.ci .i64 1) <|
              .step (.call 69 [0, 15, 14, 17, 18] 0) <|
              .step (.bin .eql 19 2) <|
              .ite 20
                (.ret [2])
                (.step (.call 69 [0, 15, 14, 17, 18] 1) <|
                .step (.call 69 [0, 15, 14, 17, 18] 2) <|
                .step (.call 69 [0, 15, 14, 17, 18] 3) <|
                .step (.bin .lss 22 23) <|
                .ite 24
                  (.ret [2])
                  (.step (.ci .i64 1114111) <|
                  .step (.bin .gtr 22 25) <|
                  .ite 26
                    (.ret [2])
                    (.step (.ci .i64 55296) <|
                    .step (.bin .geq 22 27) <|
                    .ite 28
                      (.step (.ci .i64 57344) <|
                      .step (.bin .lss 22 29) <|
                      .ite 30
                        (.ret [2])
                        (.ret [21]))
                      (.ret [21]))))))
            (.step (.bin .geq 5 12) <|
            .ite 14
              (.step (.ci .i64 248) <|
              .step (.bin .lss 5 15) <|
              .ite 16
                (.step (.bin .sub 5 12) <|
                .step (.ci .i64 4) <|
                .step (.bin .lss 1 18) <|
                .ite 19
                  (.ret [2])
                  (.step (.ci .i64 65536) <|
                  .step (.ci .i64 1) <|
                  .step (.call 69 [0, 18, 17, 20, 21] 0) <|
                  .step (.bin .eql 22 2) <|
                  .ite 23
                    (.ret [2])
                    (.step (.call 69 [0, 18, 17, 20, 21] 1) <|
                    .step (.call 69 [0, 18, 17, 20, 21] 2) <|
                    .step (.call 69 [0, 18, 17, 20, 21] 3) <|
                    .step (.bin .lss 25 26) <|
                    .ite 27
                      (.ret [2])
                      (.step (.ci .i64 1114111) <|
                      .step (.bin .gtr 25 28) <|
                      .ite 29
                        (.ret [2])
                        (.step (.ci .i64 55296) <|
                        .step (.bin .geq 25 30) <|
                        .ite 31
                          (.step (.ci .i64 57344) <|
                          .step (.bin .lss 25 32) <|
                          .ite 33
                            (.ret [2])
                            (.ret [24]))
                          (.ret [24]))))))
                (.ret [2]))
              (.ret [2])))
          (.step (.ci .i64 240) <|
          .step (.bin .geq 5 12) <|
          .ite 13
            (.step (.ci .i64 248) <|
            .step (.bin .lss 5 14) <|
            .ite 15
              (.step (.bin .sub 5 12) <|
              .step (.ci .i64 4) <|
              .step (.bin .lss 1 17) <|
              .ite 18
                (.ret [2])
                (.step (.ci .i64 65536) <|
                .step (.ci .i64 1) <|
                .step (.call 69 [0, 17, 16, 19, 20] 0) <|
                .step (.bin .eql 21 2) <|
                .ite 22
                  (.ret [2])
                  (.step (.call 69 [0, 17, 16, 19, 20] 1) <|
                  .step (.call 69 [0, 17, 16, 19, 20] 2) <|
                  .step (.call 69 [0, 17, 16, 19, 20] 3) <|
                  .step (.bin .lss 24 25) <|
                  .ite 26
                    (.ret [2])
                    (.step (.ci .i64 1114111) <|
                    .step (.bin .gtr 24 27) <|
                    .ite 28
                      (.ret [2])
                      (.step (.ci .i64 55296) <|
                      .step (.bin .geq 24 29) <|
                      .ite 30
                        (.step (.ci .i64 57344) <|
                        .step (.bin .lss 24 31) <|
                        .ite 32
                          (.ret [2])
                          (.ret [23]))
                        (.ret [23]))))))
              (.ret [2]))
            (.ret [2])))))
/-- postmark/postmarkref13.row, function 89, plain functions []. -/
def d61 : PDef := .fn [.ag 2] [.sc] <|
  .step (.cell 0 0) <|
  .step (.cell 1 0) <|
  .step (.call 62 [1] 0) <|
  .step (.ci .i64 0) <|
  .step (.bin .eql 3 4) <|
  .ite 5
    (.step (.ci .u64 0) <|
    .step (.bin .eql 2 6) <|
    .ite 7
      (.step (.ci .i64 18) <|
      .ret [8])
      (.ret [3]))
    (.ret [3])
/-- postmark/delta.Diff, function 58, plain functions []. -/
def d48 : PDef := .fn [.ag 2, .ag 2] [.ag 3, .sc] <|
  .step (.cell 0 0) <|
  .step (.cell 1 0) <|
  .step (.cell 0 1) <|
  .step (.cell 1 1) <|
  .step (.mk [2, 3]) <|
  .step (.call 49 [6] 0) <|
  .step (.ci .i64 0) <|
  .step (.bin .neq 7 8) <|
  .ite 9
    (.step (.ci .u64 0) <|
    .step (.ml []) <|
    .step (.mk [10, 10, 11]) <|
    .ret [12, 7])
    (.step (.mk [4, 5]) <|
    .step (.call 49 [10] 0) <|
    .step (.bin .neq 11 8) <|
    .ite 12
      (.step (.ci .u64 0) <|
      .step (.ml []) <|
      .step (.mk [13, 13, 14]) <|
      .ret [15, 11])
      (.step (.bin .leq 4 2) <|
      .ite 13
        (.step (.ci .u64 0) <|
        .step (.ml []) <|
        .step (.ci .i64 20) <|
        .step (.mk [14, 14, 15]) <|
        .ret [17, 16])
        (.step (.call 24 [5, 3] 0) <|
        .step (.un .not 14) <|
        .ite 15
          (.step (.ci .u64 0) <|
          .step (.ml []) <|
          .step (.ci .i64 21) <|
          .step (.mk [16, 16, 17]) <|
          .ret [19, 18])
          (.step (.len 5) <|
          .step (.ml []) <|
          .step (.call 50 [3, 5, 16, 8, 2, 4, 17] 0) <|
          .step (.call 50 [3, 5, 16, 8, 2, 4, 17] 1) <|
          .step (.call 50 [3, 5, 16, 8, 2, 4, 17] 2) <|
          .step (.call 50 [3, 5, 16, 8, 2, 4, 17] 3) <|
          .step (.mk [19, 20, 21]) <|
          .ret [22, 8]))))
/-- (postmark/delta.Delta).Check, function 61, plain functions []. -/
def d41 : PDef := .fn [.ag 3] [.sc] <|
  .step (.cell 0 0) <|
  .step (.cell 1 0) <|
  .step (.cell 2 0) <|
  .step (.bin .leq 2 1) <|
  .ite 4
    (.step (.ci .i64 20) <|
    .ret [5])
    (.step (.call 37 [3] 0) <|
    .ret [5])
/-- postmark/postmarklaw13.TableSorts, function 4, plain functions []. -/
def d33 : PDef := .fn [.sc, .sc] [.sc] <|
  .step (.call 2 [0] 0) <|
  .step (.un .not 2) <|
  .ite 3
    (.step (.cb true) <|
    .ret [4])
    (.step (.len 0) <|
    .step (.ci .i64 0) <|
    .step (.bin .eql 4 5) <|
    .ite 6
      (.step (.cb true) <|
      .ret [7])
      (.step (.call 13 [0] 0) <|
      .step (.call 13 [0] 1) <|
      .step (.conv .i64 1) <|
      .step (.bin .rem 9 4) <|
      .step (.lsub 2 0 10 4) <|
      .step (.ml []) <|
      .step (.app 2 32 12 11) <|
      .step (.lsub 2 0 5 10) <|
      .step (.app 2 32 13 14) <|
      .step (.call 13 [15] 0) <|
      .step (.call 13 [15] 1) <|
      .step (.bin .neq 8 5) <|
      .ite 18
        (.step (.len 7) <|
        .step (.bin .eql 19 5) <|
        .ite 20
          (.step (.len 16) <|
          .step (.bin .eql 21 5) <|
          .ite 22
            (.step (.bin .neq 17 5) <|
            .ret [23])
            (.step (.cb false) <|
            .ret [23]))
          (.step (.cb false) <|
          .ret [21]))
        (.step (.call 34 [0, 7, 16, 17, 4, 5] 0) <|
        .step (.bin .eql 19 5) <|
        .ite 20
          (.step (.cb false) <|
          .ret [21])
          (.step (.call 34 [0, 7, 16, 17, 4, 5] 1) <|
          .step (.call 34 [0, 7, 16, 17, 4, 5] 2) <|
          .step (.call 34 [0, 7, 16, 17, 4, 5] 3) <|
          .step (.call 34 [0, 7, 16, 17, 4, 5] 4) <|
          .step (.bin .eql 24 5) <|
          .ite 25
            (.step (.call 27 [22, 23] 0) <|
            .ite 26
              (.step (.call 37 [22] 0) <|
              .step (.bin .eql 27 5) <|
              .ite 28
                (.step (.len 22) <|
                .step (.len 21) <|
                .step (.bin .eql 29 30) <|
                .ret [31])
                (.step (.cb false) <|
                .ret [29]))
              (.step (.cb false) <|
              .ret [27]))
            (.step (.cb false) <|
            .ret [26])))))
/-- (postmark/entry.Entry).Put, function 116, plain functions []. -/
def d12 : PDef := .fn [.ag 2] [.sc] <|
  .step (.cell 0 0) <|
  .step (.cell 1 0) <|
  .step (.slen 1) <|
  .step (.conv .u64 3) <|
  .step (.call 7 [4] 0) <|
  .step (.bin .add 5 1) <|
  .step (.slen 2) <|
  .step (.conv .u64 7) <|
  .step (.call 7 [8] 0) <|
  .step (.bin .add 6 9) <|
  .step (.bin .add 10 2) <|
  .ret [11]
/-- (postmark/table.Row).check, function 82, plain functions []. -/
def d15 : PDef := .fn [.ag 2] [.sc] <|
  .step (.cell 0 0) <|
  .step (.cell 1 0) <|
  .step (.call 16 [1] 0) <|
  .step (.ci .i64 0) <|
  .step (.bin .neq 3 4) <|
  .ite 5
    (.ret [3])
    (.step (.ci .u64 0) <|
    .step (.bin .eql 2 6) <|
    .ite 7
      (.step (.ci .i64 18) <|
      .ret [8])
      (.ret [4]))
/-- (postmark/delta.Snapshot).Check, function 62, plain functions []. -/
def d49 : PDef := .fn [.ag 2] [.sc] <|
  .step (.cell 0 0) <|
  .step (.cell 1 0) <|
  .step (.call 37 [2] 0) <|
  .ret [3]
/-- postmark/postmarklaw16.DeltaTells, function 12, plain functions []. -/
def d52 : PDef := .fn [.ag 2, .ag 2, .ag 3, .ag 3] [.sc] <|
  .step (.cell 0 0) <|
  .step (.cell 1 0) <|
  .step (.cell 0 1) <|
  .step (.cell 1 1) <|
  .step (.cell 0 2) <|
  .step (.cell 1 2) <|
  .step (.cell 2 2) <|
  .step (.cell 0 3) <|
  .step (.cell 1 3) <|
  .step (.cell 2 3) <|
  .step (.call 2 [5] 0) <|
  .step (.un .not 14) <|
  .ite 15
    (.step (.cb true) <|
    .ret [16])
    (.step (.call 2 [7] 0) <|
    .step (.un .not 16) <|
    .ite 17
      (.step (.cb true) <|
      .ret [18])
      (.step (.call 2 [10] 0) <|
      .step (.un .not 18) <|
      .ite 19
        (.step (.cb true) <|
        .ret [20])
        (.step (.call 2 [13] 0) <|
        .step (.un .not 20) <|
        .ite 21
          (.step (.cb true) <|
          .ret [22])
          (.step (.mk [4, 5]) <|
          .step (.mk [6, 7]) <|
          .step (.call 48 [22, 23] 0) <|
          .step (.cell 0 24) <|
          .step (.cell 1 24) <|
          .step (.cell 2 24) <|
          .step (.call 48 [22, 23] 1) <|
          .step (.call 53 [22] 0) <|
          .step (.cell 0 29) <|
          .step (.cell 1 29) <|
          .step (.call 53 [23] 0) <|
          .step (.cell 0 32) <|
          .step (.cell 1 32) <|
          .step (.mk [30, 31]) <|
          .step (.mk [33, 34]) <|
          .step (.call 58 [35, 36] 0) <|
          .step (.cell 0 37) <|
          .step (.cell 1 37) <|
          .step (.cell 2 37) <|
          .step (.call 58 [35, 36] 1) <|
          .step (.mk [8, 9, 10]) <|
          .step (.call 51 [22, 42] 0) <|
          .step (.cell 0 43) <|
          .step (.cell 1 43) <|
          .step (.call 51 [22, 42] 1) <|
          .step (.call 85 [42] 0) <|
          .step (.cell 0 47) <|
          .step (.cell 1 47) <|
          .step (.cell 2 47) <|
          .step (.mk [48, 49, 50]) <|
          .step (.call 86 [35, 51] 0) <|
          .step (.cell 0 52) <|
          .step (.cell 1 52) <|
          .step (.call 86 [35, 51] 1) <|
          .step (.mk [11, 12, 13]) <|
          .step (.call 40 [42, 56] 0) <|
          .step (.cell 0 57) <|
          .step (.cell 1 57) <|
          .step (.cell 2 57) <|
          .step (.call 40 [42, 56] 1) <|
          .step (.call 85 [56] 0) <|
          .step (.cell 0 62) <|
          .step (.cell 1 62) <|
          .step (.cell 2 62) <|
          .step (.mk [63, 64, 65]) <|
          .step (.call 95 [51, 66] 0) <|
          .step (.cell 0 67) <|
          .step (.cell 1 67) <|
          .step (.cell 2 67) <|
          .step (.call 95 [51, 66] 1) <|
          .step (.mk [25, 26, 27]) <|
          .step (.call 85 [72] 0) <|
          .step (.cell 0 73) <|
          .step (.cell 1 73) <|
          .step (.cell 2 73) <|
          .step (.mk [74, 75, 76]) <|
          .step (.mk [38, 39, 40]) <|
          .step (.call 96 [77, 78] 0) <|
          .step (.un .not 79) <|
          .ite 80
            (.step (.cb false) <|
            .ret [81])
            (.step (.bin .neq 28 41) <|
            .ite 81
              (.step (.cb false) <|
              .ret [82])
              (.step (.mk [44, 45]) <|
              .step (.call 53 [82] 0) <|
              .step (.cell 0 83) <|
              .step (.cell 1 83) <|
              .step (.mk [84, 85]) <|
              .step (.mk [53, 54]) <|
              .step (.call 100 [86, 87] 0) <|
              .step (.un .not 88) <|
              .ite 89
                (.step (.cb false) <|
                .ret [90])
                (.step (.bin .neq 46 55) <|
                .ite 90
                  (.step (.cb false) <|
                  .ret [91])
                  (.step (.mk [58, 59, 60]) <|
                  .step (.call 85 [91] 0) <|
                  .step (.cell 0 92) <|
                  .step (.cell 1 92) <|
                  .step (.cell 2 92) <|
                  .step (.mk [93, 94, 95]) <|
                  .step (.mk [68, 69, 70]) <|
                  .step (.call 96 [96, 97] 0) <|
                  .step (.un .not 98) <|
                  .ite 99
                    (.step (.cb false) <|
                    .ret [100])
                    (.step (.bin .neq 61 71) <|
                    .ite 100
                      (.step (.cb false) <|
                      .ret [101])
                      (.step (.call 41 [42] 0) <|
                      .step (.call 87 [51] 0) <|
                      .step (.bin .eql 101 102) <|
                      .ite 103
                        (.step (.call 49 [22] 0) <|
                        .step (.call 37 [5] 0) <|
                        .step (.bin .eql 104 105) <|
                        .ite 106
                          (.step (.bin .eql 4 6) <|
                          .ite 107
                            (.step (.call 27 [5, 7] 0) <|
                            .step (.call 100 [35, 36] 0) <|
                            .step (.binb .eql 108 109) <|
                            .ite 110
                              (.step (.call 101 [22] 0) <|
                              .step (.cell 0 111) <|
                              .step (.cell 1 111) <|
                              .step (.bin .eql 4 112) <|
                              .ite 114
                                (.step (.call 27 [5, 113] 0) <|
                                .ret [115])
                                (.step (.cb false) <|
                                .ret [115]))
                              (.step (.cb false) <|
                              .ret [111]))
                            (.step (.call 100 [35, 36] 0) <|
                            .step (.cb false) <|
                            .step (.binb .eql 109 108) <|
                            .ite 110
                              (.step (.call 101 [22] 0) <|
                              .step (.cell 0 111) <|
                              .step (.cell 1 111) <|
                              .step (.bin .eql 4 112) <|
                              .ite 114
                                (.step (.call 27 [5, 113] 0) <|
                                .ret [115])
                                (.ret [109]))
                              (.ret [109])))
                          (.step (.cb false) <|
                          .ret [107]))
                        (.step (.cb false) <|
                        .ret [104])))))))))))
/-- postmark/postmarklaw12.Few, function 22, the loop [0]. -/
def d5 : PDef := .tree 3 <|
  .step (.bin .lss 2 1) <|
  .ite 3
    (.step (.at 2 0 2) <|
    .step (.cell 0 4) <|
    .step (.cell 1 4) <|
    .step (.slen 5) <|
    .step (.slen 6) <|
    .step (.bin .add 7 8) <|
    .step (.ci .i64 600) <|
    .step (.bin .gtr 9 10) <|
    .ite 11
      (.step (.ci .i64 0) <|
      .ret [12])
      (.step (.ci .i64 1) <|
      .step (.bin .add 2 12) <|
      .tail 5 [0, 1, 13]))
    (.step (.ci .i64 1) <|
    .ret [4, 0])
/-- postmark/varint.Size, function 129, the loop [0]. -/
def d9 : PDef := .tree 2 <|
  .step (.ci .u64 128) <|
  .step (.bin .geq 0 2) <|
  .ite 3
    (.step (.ci .u64 7) <|
    .step (.bin .shr 0 4) <|
    .step (.ci .i64 1) <|
    .step (.bin .add 1 6) <|
    .tail 9 [5, 7])
    (.step (.ci .i64 0) <|
    .ret [4, 1])
/-- postmark/postmarkref13.Of, function 23, the loop [0]. -/
def d92 : PDef := .tree 3 <|
  .step (.bin .lss 2 1) <|
  .ite 3
    (.step (.at 2 0 2) <|
    .step (.cell 0 4) <|
    .step (.cell 1 4) <|
    .step (.mk [5, 6]) <|
    .step (.call 61 [7] 0) <|
    .step (.ci .i64 0) <|
    .step (.bin .neq 8 9) <|
    .ite 10
      (.ret [9, 8])
      (.step (.ci .i64 1) <|
      .step (.bin .add 2 11) <|
      .tail 92 [0, 1, 12]))
    (.step (.ci .i64 1) <|
    .ret [4, 0])
/-- postmark/postmarkref12.Check, function 124, the loop [0]. -/
def d63 : PDef := .tree 3 <|
  .step (.len 0) <|
  .step (.bin .lss 2 3) <|
  .ite 4
    (.step (.ci .i64 0) <|
    .step (.bin .eql 1 5) <|
    .ite 6
      (.step (.at 2 0 2) <|
      .step (.cell 0 7) <|
      .step (.cell 1 7) <|
      .step (.mk [8, 9]) <|
      .step (.call 64 [10] 0) <|
      .step (.bin .eql 11 5) <|
      .ite 12
        (.step (.bin .gtr 2 5) <|
        .ite 13
          (.step (.ci .i64 1) <|
          .step (.bin .sub 2 14) <|
          .step (.at 2 0 15) <|
          .step (.cell 0 16) <|
          .step (.cell 1 16) <|
          .step (.mk [17, 18]) <|
          .step (.call 70 [19, 10] 0) <|
          .step (.bin .add 2 14) <|
          .tail 63 [0, 20, 21])
          (.step (.ci .i64 1) <|
          .step (.bin .add 2 14) <|
          .tail 63 [0, 11, 15]))
        (.step (.ci .i64 1) <|
        .step (.bin .add 2 13) <|
        .tail 63 [0, 11, 14]))
      (.ret [5, 1]))
    (.step (.ci .i64 0) <|
    .ret [5, 1])
/-- postmark/delta.Diff, function 58, the loop [0]. -/
def d50 : PDef := .tree 7 <|
  .step (.bin .lss 3 2) <|
  .ite 7
    (.step (.at 2 1 3) <|
    .step (.cell 0 8) <|
    .step (.cell 1 8) <|
    .step (.len 0) <|
    .step (.ci .i64 0) <|
    .step (.bin .gtr 11 12) <|
    .ite 13
      (.step (.at 2 0 12) <|
      .step (.cell 0 14) <|
      .step (.call 44 [15, 9] 0) <|
      .step (.bin .eql 16 12) <|
      .ite 17
        (.step (.cell 1 14) <|
        .step (.bin .sub 10 18) <|
        .step (.ci .i64 1) <|
        .step (.lsub 2 0 20 11) <|
        .step (.ci .u64 0) <|
        .step (.bin .neq 19 22) <|
        .ite 23
          (.step (.call 23 [9] 0) <|
          .step (.mk [24, 19]) <|
          .step (.ml [25]) <|
          .step (.app 2 32 6 26) <|
          .step (.bin .add 3 20) <|
          .tail 50 [21, 1, 2, 28, 4, 5, 27])
          (.step (.bin .add 3 20) <|
          .tail 50 [21, 1, 2, 24, 4, 5, 6]))
        (.step (.ci .u64 0) <|
        .step (.bin .neq 10 18) <|
        .ite 19
          (.step (.call 23 [9] 0) <|
          .step (.mk [20, 10]) <|
          .step (.ml [21]) <|
          .step (.app 2 32 6 22) <|
          .step (.ci .i64 1) <|
          .step (.bin .add 3 24) <|
          .tail 50 [0, 1, 2, 25, 4, 5, 23])
          (.step (.ci .i64 1) <|
          .step (.bin .add 3 20) <|
          .tail 50 [0, 1, 2, 21, 4, 5, 6])))
      (.step (.ci .u64 0) <|
      .step (.bin .neq 10 14) <|
      .ite 15
        (.step (.call 23 [9] 0) <|
        .step (.mk [16, 10]) <|
        .step (.ml [17]) <|
        .step (.app 2 32 6 18) <|
        .step (.ci .i64 1) <|
        .step (.bin .add 3 20) <|
        .tail 50 [0, 1, 2, 21, 4, 5, 19])
        (.step (.ci .i64 1) <|
        .step (.bin .add 3 16) <|
        .tail 50 [0, 1, 2, 17, 4, 5, 6])))
    (.step (.ci .i64 0) <|
    .ret [8, 4, 5, 6])
/-- postmark/postmarkref13.Same, function 25, the loop [0]. -/
def d98 : PDef := .tree 4 <|
  .step (.bin .lss 3 2) <|
  .ite 4
    (.step (.at 2 0 3) <|
    .step (.cell 1 5) <|
    .step (.at 2 1 3) <|
    .step (.cell 1 7) <|
    .step (.bin .neq 6 8) <|
    .ite 9
      (.step (.ci .i64 0) <|
      .ret [10])
      (.step (.cell 0 5) <|
      .step (.len 10) <|
      .step (.cell 0 7) <|
      .step (.len 12) <|
      .step (.bin .neq 11 13) <|
      .ite 14
        (.step (.ci .i64 0) <|
        .ret [15])
        (.step (.ci .i64 0) <|
        .step (.call 99 [0, 1, 3, 2, 5, 10, 11, 7, 12, 13, 15] 0) <|
        .step (.bin .eql 16 15) <|
        .ite 17
          (.ret [15])
          (.step (.call 99 [0, 1, 3, 2, 5, 10, 11, 7, 12, 13, 15] 1) <|
          .step (.call 99 [0, 1, 3, 2, 5, 10, 11, 7, 12, 13, 15] 2) <|
          .step (.call 99 [0, 1, 3, 2, 5, 10, 11, 7, 12, 13, 15] 3) <|
          .step (.call 99 [0, 1, 3, 2, 5, 10, 11, 7, 12, 13, 15] 4) <|
          .step (.call 99 [0, 1, 3, 2, 5, 10, 11, 7, 12, 13, 15] 5) <|
          .step (.call 99 [0, 1, 3, 2, 5, 10, 11, 7, 12, 13, 15] 6) <|
          .step (.call 99 [0, 1, 3, 2, 5, 10, 11, 7, 12, 13, 15] 7) <|
          .step (.call 99 [0, 1, 3, 2, 5, 10, 11, 7, 12, 13, 15] 8) <|
          .step (.call 99 [0, 1, 3, 2, 5, 10, 11, 7, 12, 13, 15] 9) <|
          .step (.call 99 [0, 1, 3, 2, 5, 10, 11, 7, 12, 13, 15] 10) <|
          .step (.ci .i64 1) <|
          .step (.bin .add 21 28) <|
          .tail 98 [18, 19, 20, 29]))))
    (.step (.ci .i64 1) <|
    .ret [5])
/-- (postmark/descr.Descr).Check, function 117, the loop [0]. -/
def d17 : PDef := .tree 3 <|
  .step (.bin .lss 2 1) <|
  .ite 3
    (.step (.at 2 0 2) <|
    .step (.cell 0 4) <|
    .step (.cell 1 4) <|
    .step (.mk [5, 6]) <|
    .step (.call 18 [7] 0) <|
    .step (.ci .i64 0) <|
    .step (.bin .neq 8 9) <|
    .ite 10
      (.ret [9, 8])
      (.step (.bin .eql 2 9) <|
      .ite 11
        (.step (.ci .i64 1) <|
        .step (.bin .add 2 12) <|
        .tail 17 [0, 1, 13])
        (.step (.ci .i64 1) <|
        .step (.bin .sub 2 12) <|
        .step (.at 2 0 13) <|
        .step (.cell 0 14) <|
        .step (.bin .eql 5 15) <|
        .ite 16
          (.step (.ci .i64 14) <|
          .ret [9, 17])
          (.step (.bin .lss 5 15) <|
          .ite 17
            (.step (.ci .i64 7) <|
            .ret [9, 18])
            (.step (.bin .add 2 12) <|
            .tail 17 [0, 1, 18])))))
    (.step (.ci .i64 1) <|
    .ret [4])
/-- postmark/postmarkref07.Good, function 199, the loop [0]. -/
def d67 : PDef := .tree 1 <|
  .step (.slen 0) <|
  .step (.ci .i64 0) <|
  .step (.bin .gtr 1 2) <|
  .ite 3
    (.step (.call 68 [0] 0) <|
    .step (.bin .eql 4 2) <|
    .ite 5
      (.ret [2])
      (.step (.ssub 0 4 1) <|
      .tail 67 [6]))
    (.step (.ci .i64 1) <|
    .ret [4])
/-- postmark/postmarkref13.Check, function 26, the loop [0]. -/
def d60 : PDef := .tree 3 <|
  .step (.bin .lss 2 1) <|
  .ite 3
    (.step (.at 2 0 2) <|
    .step (.cell 0 4) <|
    .step (.cell 1 4) <|
    .step (.mk [5, 6]) <|
    .step (.call 61 [7] 0) <|
    .step (.ci .i64 0) <|
    .step (.bin .eql 8 9) <|
    .ite 10
      (.step (.bin .gtr 2 9) <|
      .ite 11
        (.step (.ci .i64 1) <|
        .step (.bin .sub 2 12) <|
        .step (.at 2 0 13) <|
        .step (.cell 0 14) <|
        .step (.call 74 [15] 0) <|
        .step (.call 74 [5] 0) <|
        .step (.bin .eql 16 17) <|
        .ite 18
          (.step (.ci .i64 14) <|
          .ret [9, 19])
          (.step (.call 79 [16, 17] 0) <|
          .step (.un .not 19) <|
          .ite 20
            (.step (.ci .i64 7) <|
            .ret [9, 21])
            (.step (.bin .neq 8 9) <|
            .ite 21
              (.ret [9, 8])
              (.step (.bin .add 2 12) <|
              .tail 60 [0, 1, 22]))))
        (.step (.bin .neq 8 9) <|
        .ite 12
          (.ret [9, 8])
          (.step (.ci .i64 1) <|
          .step (.bin .add 2 13) <|
          .tail 60 [0, 1, 14])))
      (.step (.bin .neq 8 9) <|
      .ite 11
        (.ret [9, 8])
        (.step (.ci .i64 1) <|
        .step (.bin .add 2 12) <|
        .tail 60 [0, 1, 13])))
    (.step (.ci .i64 1) <|
    .ret [4])
/-- (postmark/delta.Snapshot).Clone, function 71, the loop [0]. -/
def d102 : PDef := .tree 5 <|
  .step (.bin .lss 2 1) <|
  .ite 5
    (.step (.at 2 0 2) <|
    .step (.cell 0 6) <|
    .step (.cell 1 6) <|
    .step (.call 23 [7] 0) <|
    .step (.mk [9, 8]) <|
    .step (.ml [10]) <|
    .step (.app 2 32 4 11) <|
    .step (.ci .i64 1) <|
    .step (.bin .add 2 13) <|
    .tail 102 [0, 1, 14, 3, 12])
    (.step (.ci .i64 0) <|
    .ret [6, 3, 4])
/-- postmark/postmarkref13.Of, function 23, the loop [1, 0]. -/
def d94 : PDef := .tree 7 <|
  .step (.len 0) <|
  .step (.bin .lss 1 7) <|
  .ite 8
    (.step (.at 2 0 1) <|
    .step (.cell 0 9) <|
    .step (.call 74 [10] 0) <|
    .step (.call 74 [5] 0) <|
    .step (.call 79 [11, 12] 0) <|
    .ite 13
      (.step (.ci .i64 1) <|
      .step (.bin .add 1 14) <|
      .tail 94 [0, 15, 2, 3, 4, 5, 6])
      (.step (.ci .i64 0) <|
      .ret [14, 0, 1, 2, 3, 4, 9, 10, 11, 5, 12, 6]))
    (.step (.ci .i64 1) <|
    .ret [9, 0, 1, 2, 3, 4, 5, 6])
/-- postmark/postmarklaw13.To, function 24, the loop [0]. -/
def d55 : PDef := .tree 4 <|
  .step (.bin .lss 3 2) <|
  .ite 4
    (.step (.at 2 1 3) <|
    .step (.cell 0 5) <|
    .step (.cell 1 5) <|
    .step (.call 56 [6] 0) <|
    .step (.mk [8, 7]) <|
    .step (.ml [9]) <|
    .step (.app 2 32 0 10) <|
    .step (.ci .i64 1) <|
    .step (.bin .add 3 12) <|
    .tail 55 [11, 1, 2, 13])
    (.step (.ci .i64 0) <|
    .ret [5, 0])
/-- (postmark/descr.Descr).Key, function 81, the loop [0]. -/
def d11 : PDef := .tree 4 <|
  .step (.bin .lss 2 1) <|
  .ite 4
    (.step (.at 2 0 2) <|
    .step (.cell 0 5) <|
    .step (.cell 1 5) <|
    .step (.mk [6, 7]) <|
    .step (.call 12 [8] 0) <|
    .step (.bytes 9) <|
    .step (.app 1 1 3 10) <|
    .step (.slen 9) <|
    .step (.ci .i64 1) <|
    .step (.bin .add 2 13) <|
    .tail 11 [0, 1, 14, 11])
    (.step (.ci .i64 0) <|
    .ret [5, 3])
/-- postmark/postmarkref16.Sum, function 113, the loop [1]. -/
def d90 : PDef := .tree 5 <|
  .step (.bin .lss 4 3) <|
  .ite 5
    (.step (.at 2 2 4) <|
    .step (.cell 0 6) <|
    .step (.cell 1 6) <|
    .step (.call 82 [0, 7] 0) <|
    .step (.ci .u64 0) <|
    .step (.bin .eql 9 10) <|
    .ite 11
      (.step (.mk [7, 8]) <|
      .step (.ml [12]) <|
      .step (.app 2 32 1 13) <|
      .step (.ci .i64 1) <|
      .step (.bin .add 4 15) <|
      .tail 90 [0, 14, 2, 3, 16])
      (.step (.ci .i64 1) <|
      .step (.bin .add 4 12) <|
      .tail 90 [0, 1, 2, 3, 13]))
    (.step (.ci .i64 0) <|
    .ret [6, 1])
/-- postmark/postmarkref02.Put, function 100, the loop [0]. -/
def d76 : PDef := .tree 2 <|
  .step (.ci .u64 127) <|
  .step (.bin .gtr 0 2) <|
  .ite 3
    (.step (.ci .u64 128) <|
    .step (.bin .rem 0 4) <|
    .step (.bin .add 5 4) <|
    .step (.conv .u8 6) <|
    .step (.ml [7]) <|
    .step (.str 8) <|
    .step (.bin .add 1 9) <|
    .step (.bin .quo 0 4) <|
    .tail 76 [11, 10])
    (.step (.ci .i64 0) <|
    .ret [4, 0, 1])
/-- postmark/postmarkref16.Sum, function 113, the loop [0]. -/
def d89 : PDef := .tree 5 <|
  .step (.bin .lss 4 3) <|
  .ite 5
    (.step (.at 2 0 4) <|
    .step (.cell 0 6) <|
    .step (.cell 1 6) <|
    .step (.call 82 [1, 7] 0) <|
    .step (.ci .u64 18446744073709551615) <|
    .step (.bin .sub 10 9) <|
    .step (.bin .gtr 8 11) <|
    .ite 12
      (.step (.ci .i64 0) <|
      .ret [13])
      (.step (.bin .add 8 9) <|
      .step (.mk [7, 13]) <|
      .step (.ml [14]) <|
      .step (.app 2 32 2 15) <|
      .step (.ci .i64 1) <|
      .step (.bin .add 4 17) <|
      .tail 89 [0, 1, 16, 3, 18]))
    (.step (.ci .i64 1) <|
    .ret [6, 0, 1, 2])
/-- slices.Equal[postmark/descr.Descr,postmark/entry.Entry], function 88, the loop [0]. -/
def d32 : PDef := .tree 4 <|
  .step (.bin .lss 3 2) <|
  .ite 4
    (.step (.at 2 0 3) <|
    .step (.cell 0 5) <|
    .step (.cell 1 5) <|
    .step (.at 2 1 3) <|
    .step (.cell 0 8) <|
    .step (.cell 1 8) <|
    .step (.mk [6, 7]) <|
    .step (.mk [9, 10]) <|
    .step (.binc .neq [1, 1] 11 12) <|
    .ite 13
      (.step (.ci .i64 0) <|
      .ret [14])
      (.step (.ci .i64 1) <|
      .step (.bin .add 3 14) <|
      .tail 32 [0, 1, 2, 15]))
    (.step (.ci .i64 1) <|
    .ret [5])
/-- postmark/postmarkref12.Key, function 91, the loop [0]. -/
def d77 : PDef := .tree 4 <|
  .step (.bin .lss 3 2) <|
  .ite 4
    (.step (.at 2 1 3) <|
    .step (.cell 0 5) <|
    .step (.cell 1 5) <|
    .step (.mk [6, 7]) <|
    .step (.call 78 [8] 0) <|
    .step (.bin .add 0 9) <|
    .step (.ci .i64 1) <|
    .step (.bin .add 3 11) <|
    .tail 77 [10, 1, 2, 12])
    (.step (.ci .i64 0) <|
    .ret [5, 0])
/-- postmark/postmarklaw13.Few, function 16, the loop [0]. -/
def d3 : PDef := .tree 3 <|
  .step (.bin .lss 2 1) <|
  .ite 3
    (.step (.at 2 0 2) <|
    .step (.cell 0 4) <|
    .step (.cell 1 4) <|
    .step (.len 5) <|
    .step (.ci .i64 18) <|
    .step (.bin .gtr 7 8) <|
    .ite 9
      (.step (.ci .i64 0) <|
      .ret [10])
      (.step (.call 4 [5] 0) <|
      .step (.un .not 10) <|
      .ite 11
        (.step (.ci .i64 0) <|
        .ret [12])
        (.step (.len 0) <|
        .step (.ci .i64 40) <|
        .step (.bin .gtr 12 13) <|
        .ite 14
          (.step (.call 6 [5] 0) <|
          .step (.slen 15) <|
          .step (.ci .i64 100) <|
          .step (.bin .gtr 16 17) <|
          .ite 18
            (.step (.ci .i64 0) <|
            .ret [19])
            (.step (.ci .i64 1) <|
            .step (.bin .add 2 19) <|
            .tail 3 [0, 1, 20]))
          (.step (.ci .i64 1) <|
          .step (.bin .add 2 15) <|
          .tail 3 [0, 1, 16]))))
    (.step (.ci .i64 1) <|
    .ret [4, 0])
/-- postmark/postmarkref16.Diff, function 63, the loop [0]. -/
def d84 : PDef := .tree 7 <|
  .step (.bin .lss 2 1) <|
  .ite 7
    (.step (.at 2 0 2) <|
    .step (.cell 0 8) <|
    .step (.cell 1 8) <|
    .step (.call 82 [6, 9] 0) <|
    .step (.bin .neq 10 11) <|
    .ite 12
      (.step (.bin .sub 10 11) <|
      .step (.mk [9, 13]) <|
      .step (.ml [14]) <|
      .step (.app 2 32 5 15) <|
      .step (.ci .i64 1) <|
      .step (.bin .add 2 17) <|
      .tail 84 [0, 1, 18, 3, 4, 16, 6])
      (.step (.ci .i64 1) <|
      .step (.bin .add 2 13) <|
      .tail 84 [0, 1, 14, 3, 4, 5, 6]))
    (.step (.ci .i64 0) <|
    .ret [8, 3, 4, 5])
/-- postmark/postmarkref13.Get, function 28, the loop [0]. -/
def d83 : PDef := .tree 4 <|
  .step (.bin .lss 3 2) <|
  .ite 4
    (.step (.at 2 1 3) <|
    .step (.cell 0 5) <|
    .step (.cell 1 5) <|
    .step (.call 74 [6] 0) <|
    .step (.call 74 [0] 0) <|
    .step (.bin .eql 8 9) <|
    .ite 10
      (.step (.ci .i64 0) <|
      .ret [11, 7])
      (.step (.ci .i64 1) <|
      .step (.bin .add 3 11) <|
      .tail 83 [0, 1, 2, 12]))
    (.step (.ci .i64 1) <|
    .ret [5])
/-- postmark/postmarklaw13.TableSorts, function 4, the loop [0]. -/
def d34 : PDef := .tree 6 <|
  .step (.bin .lss 5 4) <|
  .ite 6
    (.step (.at 2 0 5) <|
    .step (.cell 0 7) <|
    .step (.cell 1 7) <|
    .step (.call 35 [1, 8] 0) <|
    .step (.bin .neq 10 9) <|
    .ite 11
      (.step (.ci .i64 0) <|
      .ret [12])
      (.step (.ci .i64 1) <|
      .step (.bin .add 5 12) <|
      .tail 34 [0, 1, 2, 3, 4, 13]))
    (.step (.ci .i64 1) <|
    .ret [7, 0, 1, 2, 3])
/-- postmark/table.Of, function 17, the loop [1]. -/
def d22 : PDef := .tree 4 <|
  .step (.bin .lss 3 2) <|
  .ite 4
    (.step (.idx 1 3) <|
    .step (.at 3 1 5) <|
    .step (.cell 0 6) <|
    .step (.cell 1 6) <|
    .step (.cell 2 6) <|
    .step (.ci .i64 0) <|
    .step (.bin .gtr 3 10) <|
    .ite 11
      (.step (.ci .i64 1) <|
      .step (.bin .sub 3 12) <|
      .step (.idx 1 13) <|
      .step (.at 3 1 14) <|
      .step (.cell 2 15) <|
      .step (.bin .eql 9 16) <|
      .ite 17
        (.ret [10])
        (.step (.call 23 [7] 0) <|
        .step (.mk [18, 8]) <|
        .step (.ml [19]) <|
        .step (.app 2 32 0 20) <|
        .step (.bin .add 3 12) <|
        .tail 22 [21, 1, 2, 22]))
      (.step (.call 23 [7] 0) <|
      .step (.mk [12, 8]) <|
      .step (.ml [13]) <|
      .step (.app 2 32 0 14) <|
      .step (.ci .i64 1) <|
      .step (.bin .add 3 16) <|
      .tail 22 [15, 1, 2, 17]))
    (.step (.ci .i64 1) <|
    .ret [5, 0])
/-- postmark/postmarkref13.Of, function 23, the loop [1]. -/
def d93 : PDef := .tree 4 <|
  .step (.bin .lss 3 2) <|
  .ite 4
    (.step (.at 2 1 3) <|
    .step (.cell 0 5) <|
    .step (.cell 1 5) <|
    .step (.ci .i64 0) <|
    .step (.call 94 [0, 8, 1, 2, 3, 6, 7] 0) <|
    .step (.bin .eql 9 8) <|
    .ite 10
      (.step (.call 94 [0, 8, 1, 2, 3, 6, 7] 1) <|
      .step (.call 94 [0, 8, 1, 2, 3, 6, 7] 2) <|
      .step (.call 94 [0, 8, 1, 2, 3, 6, 7] 3) <|
      .step (.call 94 [0, 8, 1, 2, 3, 6, 7] 4) <|
      .step (.call 94 [0, 8, 1, 2, 3, 6, 7] 5) <|
      .step (.call 94 [0, 8, 1, 2, 3, 6, 7] 6) <|
      .step (.call 94 [0, 8, 1, 2, 3, 6, 7] 7) <|
      .step (.call 94 [0, 8, 1, 2, 3, 6, 7] 8) <|
      .step (.call 94 [0, 8, 1, 2, 3, 6, 7] 9) <|
      .step (.call 94 [0, 8, 1, 2, 3, 6, 7] 10) <|
      .step (.call 94 [0, 8, 1, 2, 3, 6, 7] 11) <|
      .step (.len 11) <|
      .step (.bin .lss 12 22) <|
      .ite 23
        (.step (.at 2 11 12) <|
        .step (.cell 0 24) <|
        .step (.call 74 [25] 0) <|
        .step (.call 74 [19] 0) <|
        .step (.bin .eql 26 27) <|
        .ite 28
          (.ret [8])
          (.step (.lsub 2 11 8 12) <|
          .step (.ml []) <|
          .step (.app 2 32 30 29) <|
          .step (.mk [19, 21]) <|
          .step (.ml [32]) <|
          .step (.app 2 32 31 33) <|
          .step (.lsub 2 11 12 22) <|
          .step (.app 2 32 34 35) <|
          .step (.ci .i64 1) <|
          .step (.bin .add 15 37) <|
          .tail 93 [36, 13, 14, 38]))
        (.step (.lsub 2 11 8 12) <|
        .step (.ml []) <|
        .step (.app 2 32 25 24) <|
        .step (.mk [19, 21]) <|
        .step (.ml [27]) <|
        .step (.app 2 32 26 28) <|
        .step (.lsub 2 11 12 22) <|
        .step (.app 2 32 29 30) <|
        .step (.ci .i64 1) <|
        .step (.bin .add 15 32) <|
        .tail 93 [31, 13, 14, 33]))
      (.step (.call 94 [0, 8, 1, 2, 3, 6, 7] 1) <|
      .step (.call 94 [0, 8, 1, 2, 3, 6, 7] 2) <|
      .step (.call 94 [0, 8, 1, 2, 3, 6, 7] 3) <|
      .step (.call 94 [0, 8, 1, 2, 3, 6, 7] 4) <|
      .step (.call 94 [0, 8, 1, 2, 3, 6, 7] 5) <|
      .step (.call 94 [0, 8, 1, 2, 3, 6, 7] 6) <|
      .step (.call 94 [0, 8, 1, 2, 3, 6, 7] 7) <|
      .step (.len 11) <|
      .step (.bin .lss 12 18) <|
      .ite 19
        (.step (.at 2 11 12) <|
        .step (.cell 0 20) <|
        .step (.call 74 [21] 0) <|
        .step (.call 74 [16] 0) <|
        .step (.bin .eql 22 23) <|
        .ite 24
          (.ret [8])
          (.step (.lsub 2 11 8 12) <|
          .step (.ml []) <|
          .step (.app 2 32 26 25) <|
          .step (.mk [16, 17]) <|
          .step (.ml [28]) <|
          .step (.app 2 32 27 29) <|
          .step (.lsub 2 11 12 18) <|
          .step (.app 2 32 30 31) <|
          .step (.ci .i64 1) <|
          .step (.bin .add 15 33) <|
          .tail 93 [32, 13, 14, 34]))
        (.step (.lsub 2 11 8 12) <|
        .step (.ml []) <|
        .step (.app 2 32 21 20) <|
        .step (.mk [16, 17]) <|
        .step (.ml [23]) <|
        .step (.app 2 32 22 24) <|
        .step (.lsub 2 11 12 18) <|
        .step (.app 2 32 25 26) <|
        .step (.ci .i64 1) <|
        .step (.bin .add 15 28) <|
        .tail 93 [27, 13, 14, 29])))
    (.step (.ci .i64 1) <|
    .ret [5, 0])
/-- (postmark/table.Table).AtLeast, function 18, the loop [0, 0]. -/
def d26 : PDef := .tree 8 <|
  .step (.len 0) <|
  .step (.bin .lss 1 8) <|
  .ite 9
    (.step (.at 2 0 1) <|
    .step (.cell 0 10) <|
    .step (.call 6 [11] 0) <|
    .step (.bin .lss 12 2) <|
    .ite 13
      (.step (.ci .i64 1) <|
      .step (.bin .add 1 14) <|
      .tail 26 [0, 15, 2, 3, 4, 5, 6, 7])
      (.step (.ci .i64 0) <|
      .ret [14, 0, 1, 2, 3, 4, 5, 10, 11, 12, 6, 7]))
    (.step (.ci .i64 1) <|
    .ret [10, 0, 1, 2, 3, 4, 5, 6, 7])
/-- (postmark/table.Table).AtLeast, function 18, the loop [0]. -/
def d25 : PDef := .tree 5 <|
  .step (.bin .lss 4 3) <|
  .ite 5
    (.step (.at 2 2 4) <|
    .step (.cell 0 6) <|
    .step (.cell 1 6) <|
    .step (.call 6 [7] 0) <|
    .step (.call 26 [0, 1, 9, 2, 3, 4, 7, 8] 0) <|
    .step (.ci .i64 0) <|
    .step (.bin .eql 10 11) <|
    .ite 12
      (.step (.call 26 [0, 1, 9, 2, 3, 4, 7, 8] 1) <|
      .step (.call 26 [0, 1, 9, 2, 3, 4, 7, 8] 2) <|
      .step (.call 26 [0, 1, 9, 2, 3, 4, 7, 8] 3) <|
      .step (.call 26 [0, 1, 9, 2, 3, 4, 7, 8] 4) <|
      .step (.call 26 [0, 1, 9, 2, 3, 4, 7, 8] 5) <|
      .step (.call 26 [0, 1, 9, 2, 3, 4, 7, 8] 6) <|
      .step (.call 26 [0, 1, 9, 2, 3, 4, 7, 8] 7) <|
      .step (.call 26 [0, 1, 9, 2, 3, 4, 7, 8] 8) <|
      .step (.call 26 [0, 1, 9, 2, 3, 4, 7, 8] 9) <|
      .step (.call 26 [0, 1, 9, 2, 3, 4, 7, 8] 10) <|
      .step (.call 26 [0, 1, 9, 2, 3, 4, 7, 8] 11) <|
      .step (.len 13) <|
      .step (.bin .eql 14 24) <|
      .ite 25
        (.ret [11])
        (.step (.at 2 13 14) <|
        .step (.cell 0 26) <|
        .step (.call 6 [27] 0) <|
        .step (.bin .neq 28 15) <|
        .ite 29
          (.ret [11])
          (.step (.cell 1 26) <|
          .step (.bin .lss 30 23) <|
          .ite 31
            (.ret [11])
            (.step (.ci .i64 1) <|
            .step (.bin .add 18 32) <|
            .tail 25 [13, 14, 16, 17, 33]))))
      (.step (.call 26 [0, 1, 9, 2, 3, 4, 7, 8] 1) <|
      .step (.call 26 [0, 1, 9, 2, 3, 4, 7, 8] 2) <|
      .step (.call 26 [0, 1, 9, 2, 3, 4, 7, 8] 3) <|
      .step (.call 26 [0, 1, 9, 2, 3, 4, 7, 8] 4) <|
      .step (.call 26 [0, 1, 9, 2, 3, 4, 7, 8] 5) <|
      .step (.call 26 [0, 1, 9, 2, 3, 4, 7, 8] 6) <|
      .step (.call 26 [0, 1, 9, 2, 3, 4, 7, 8] 7) <|
      .step (.call 26 [0, 1, 9, 2, 3, 4, 7, 8] 8) <|
      .step (.len 13) <|
      .step (.bin .eql 14 21) <|
      .ite 22
        (.ret [11])
        (.step (.at 2 13 14) <|
        .step (.cell 0 23) <|
        .step (.call 6 [24] 0) <|
        .step (.bin .neq 25 15) <|
        .ite 26
          (.ret [11])
          (.step (.cell 1 23) <|
          .step (.bin .lss 27 20) <|
          .ite 28
            (.ret [11])
            (.step (.ci .i64 1) <|
            .step (.bin .add 18 29) <|
            .tail 25 [13, 14, 16, 17, 30])))))
    (.step (.ci .i64 1) <|
    .ret [6])
/-- postmark/postmarkref11.less, function 163, the loop [0]. -/
def d73 : PDef := .tree 3 <|
  .step (.slen 0) <|
  .step (.bin .lss 2 3) <|
  .ite 4
    (.step (.slen 1) <|
    .step (.bin .lss 2 5) <|
    .ite 6
      (.step (.sidx 0 2) <|
      .step (.sidx 1 2) <|
      .step (.bin .neq 7 8) <|
      .ite 9
        (.step (.bin .lss 7 8) <|
        .step (.ci .i64 0) <|
        .ret [11, 10])
        (.step (.ci .i64 1) <|
        .step (.bin .add 2 10) <|
        .tail 73 [0, 1, 11]))
      (.step (.ci .i64 1) <|
      .ret [7, 0, 1]))
    (.step (.ci .i64 1) <|
    .ret [5, 0, 1])
/-- (postmark/table.Table).Check, function 21, the loop [0]. -/
def d38 : PDef := .tree 4 <|
  .step (.bin .lss 3 2) <|
  .ite 4
    (.step (.at 2 1 3) <|
    .step (.cell 0 5) <|
    .step (.cell 1 5) <|
    .step (.mk [6, 7]) <|
    .step (.call 15 [8] 0) <|
    .step (.ci .i64 0) <|
    .step (.bin .neq 9 10) <|
    .ite 11
      (.ret [10, 9])
      (.step (.call 6 [6] 0) <|
      .step (.bin .gtr 3 10) <|
      .ite 13
        (.step (.bin .eql 12 0) <|
        .ite 14
          (.step (.ci .i64 14) <|
          .ret [10, 15])
          (.step (.bin .lss 12 0) <|
          .ite 15
            (.step (.ci .i64 7) <|
            .ret [10, 16])
            (.step (.ci .i64 1) <|
            .step (.bin .add 3 16) <|
            .tail 38 [12, 1, 2, 17])))
        (.step (.ci .i64 1) <|
        .step (.bin .add 3 14) <|
        .tail 38 [12, 1, 2, 15])))
    (.step (.ci .i64 1) <|
    .ret [5])
/-- postmark/postmarkref13.Same, function 25, the loop [0, 0]. -/
def d99 : PDef := .tree 11 <|
  .step (.bin .lss 10 6) <|
  .ite 11
    (.step (.at 2 0 2) <|
    .step (.cell 0 12) <|
    .step (.at 2 13 10) <|
    .step (.cell 0 14) <|
    .step (.cell 1 14) <|
    .step (.at 2 1 2) <|
    .step (.cell 0 17) <|
    .step (.at 2 18 10) <|
    .step (.cell 0 19) <|
    .step (.cell 1 19) <|
    .step (.mk [15, 16]) <|
    .step (.mk [20, 21]) <|
    .step (.binc .neq [1, 1] 22 23) <|
    .ite 24
      (.step (.ci .i64 0) <|
      .ret [25])
      (.step (.ci .i64 1) <|
      .step (.bin .add 10 25) <|
      .tail 99 [0, 1, 2, 3, 4, 5, 6, 7, 8, 9, 26]))
    (.step (.ci .i64 1) <|
    .ret [12, 0, 1, 3, 2, 4, 5, 6, 7, 8, 9])
/-- postmark/varint.Put, function 99, the loop [0]. -/
def d10 : PDef := .tree 4 <|
  .step (.bin .lss 3 2) <|
  .ite 4
    (.step (.ci .u64 127) <|
    .step (.bin .and 0 5) <|
    .step (.conv .u8 6) <|
    .step (.ci .u8 128) <|
    .step (.bin .or 7 8) <|
    .step (.idx 1 3) <|
    .step (.upd 1 0 1 10 [9]) <|
    .step (.ci .u64 7) <|
    .step (.bin .shr 0 12) <|
    .step (.ci .i64 1) <|
    .step (.bin .add 3 14) <|
    .tail 10 [13, 11, 2, 15])
    (.step (.ci .i64 0) <|
    .ret [5, 1])
/-- postmark/postmarkref07.First, function 214, the loop [0]. -/
def d69 : PDef := .tree 5 <|
  .step (.bin .lss 4 1) <|
  .ite 5
    (.step (.sidx 0 4) <|
    .step (.conv .i64 6) <|
    .step (.ci .i64 128) <|
    .step (.bin .lss 7 8) <|
    .ite 9
      (.step (.ci .i64 0) <|
      .ret [10])
      (.step (.ci .i64 192) <|
      .step (.bin .geq 7 10) <|
      .ite 11
        (.step (.ci .i64 0) <|
        .ret [12])
        (.step (.ci .i64 64) <|
        .step (.bin .mul 12 2) <|
        .step (.bin .add 13 7) <|
        .step (.bin .sub 14 8) <|
        .step (.ci .i64 1) <|
        .step (.bin .add 4 16) <|
        .tail 69 [0, 1, 15, 3, 17])))
    (.step (.ci .i64 1) <|
    .ret [6, 1, 2, 3])
/-- postmark/postmarkref13.AtLeast, function 30, the loop [0]. -/
def d81 : PDef := .tree 4 <|
  .step (.bin .lss 3 2) <|
  .ite 4
    (.step (.at 2 1 3) <|
    .step (.cell 0 5) <|
    .step (.cell 1 5) <|
    .step (.call 82 [0, 6] 0) <|
    .step (.bin .lss 8 7) <|
    .ite 9
      (.step (.ci .i64 0) <|
      .ret [10])
      (.step (.ci .i64 1) <|
      .step (.bin .add 3 10) <|
      .tail 81 [0, 1, 2, 11]))
    (.step (.ci .i64 1) <|
    .ret [5])
/-- postmark/postmarklaw12.To, function 29, the loop [0]. -/
def d57 : PDef := .tree 4 <|
  .step (.bin .lss 3 2) <|
  .ite 4
    (.step (.at 2 1 3) <|
    .step (.cell 0 5) <|
    .step (.cell 1 5) <|
    .step (.mk [6, 7]) <|
    .step (.ml [8]) <|
    .step (.app 2 32 0 9) <|
    .step (.ci .i64 1) <|
    .step (.bin .add 3 11) <|
    .tail 57 [10, 1, 2, 12])
    (.step (.ci .i64 0) <|
    .ret [5, 0])
/-- postmark/table.Of, function 17, the loop [0]. -/
def d14 : PDef := .tree 4 <|
  .step (.bin .lss 2 1) <|
  .ite 4
    (.step (.at 2 0 2) <|
    .step (.cell 0 5) <|
    .step (.cell 1 5) <|
    .step (.mk [6, 7]) <|
    .step (.call 15 [8] 0) <|
    .step (.ci .i64 0) <|
    .step (.bin .neq 9 10) <|
    .ite 11
      (.ret [10, 9])
      (.step (.call 6 [6] 0) <|
      .step (.mk [6, 7, 12]) <|
      .step (.ml [13]) <|
      .step (.app 3 48 3 14) <|
      .step (.ci .i64 1) <|
      .step (.bin .add 2 16) <|
      .tail 14 [0, 1, 17, 15]))
    (.step (.ci .i64 1) <|
    .ret [5, 3])
/-- (postmark/table.Table).Get, function 20, the loop [0]. -/
def d36 : PDef := .tree 4 <|
  .step (.bin .lss 3 2) <|
  .ite 4
    (.step (.at 2 1 3) <|
    .step (.cell 0 5) <|
    .step (.cell 1 5) <|
    .step (.call 31 [6, 0] 0) <|
    .ite 8
      (.step (.ci .i64 0) <|
      .ret [9, 7])
      (.step (.ci .i64 1) <|
      .step (.bin .add 3 9) <|
      .tail 36 [0, 1, 2, 10]))
    (.step (.ci .i64 1) <|
    .ret [5])
/-- postmark/delta.together, function 109, the loop [0]. -/
def d43 : PDef := .tree 3 <|
  .step (.len 0) <|
  .step (.ci .i64 0) <|
  .step (.bin .gtr 3 4) <|
  .ite 5
    (.step (.len 1) <|
    .step (.bin .eql 6 4) <|
    .ite 7
      (.step (.at 2 0 4) <|
      .step (.cell 0 8) <|
      .step (.cell 1 8) <|
      .step (.call 23 [9] 0) <|
      .step (.mk [11, 10]) <|
      .step (.ml [12]) <|
      .step (.app 2 32 2 13) <|
      .step (.ci .i64 1) <|
      .step (.lsub 2 0 15 3) <|
      .tail 43 [16, 1, 14])
      (.step (.bin .eql 3 4) <|
      .ite 8
        (.step (.at 2 1 4) <|
        .step (.cell 0 9) <|
        .step (.cell 1 9) <|
        .step (.call 23 [10] 0) <|
        .step (.mk [12, 11]) <|
        .step (.ml [13]) <|
        .step (.app 2 32 2 14) <|
        .step (.ci .i64 1) <|
        .step (.lsub 2 1 16 6) <|
        .tail 43 [0, 17, 15])
        (.step (.at 2 0 4) <|
        .step (.cell 0 9) <|
        .step (.at 2 1 4) <|
        .step (.cell 0 11) <|
        .step (.call 44 [10, 12] 0) <|
        .step (.bin .lss 13 4) <|
        .ite 14
          (.step (.cell 1 9) <|
          .step (.call 23 [10] 0) <|
          .step (.mk [16, 15]) <|
          .step (.ml [17]) <|
          .step (.app 2 32 2 18) <|
          .step (.ci .i64 1) <|
          .step (.lsub 2 0 20 3) <|
          .tail 43 [21, 1, 19])
          (.step (.bin .gtr 13 4) <|
          .ite 15
            (.step (.cell 1 11) <|
            .step (.call 23 [12] 0) <|
            .step (.mk [17, 16]) <|
            .step (.ml [18]) <|
            .step (.app 2 32 2 19) <|
            .step (.ci .i64 1) <|
            .step (.lsub 2 1 21 6) <|
            .tail 43 [0, 22, 20])
            (.step (.cell 1 9) <|
            .step (.cell 1 11) <|
            .step (.ci .u64 0) <|
            .step (.call 46 [16, 17, 18] 0) <|
            .step (.call 46 [16, 17, 18] 1) <|
            .step (.bin .neq 20 18) <|
            .ite 21
              (.ret [4])
              (.step (.call 23 [10] 0) <|
              .step (.mk [22, 19]) <|
              .step (.ml [23]) <|
              .step (.app 2 32 2 24) <|
              .step (.ci .i64 1) <|
              .step (.lsub 2 0 26 3) <|
              .step (.lsub 2 1 26 6) <|
              .tail 43 [27, 28, 25]))))))
    (.step (.len 1) <|
    .step (.bin .gtr 6 4) <|
    .ite 7
      (.step (.bin .eql 6 4) <|
      .ite 8
        (.step (.at 2 0 4) <|
        .step (.cell 0 9) <|
        .step (.cell 1 9) <|
        .step (.call 23 [10] 0) <|
        .step (.mk [12, 11]) <|
        .step (.ml [13]) <|
        .step (.app 2 32 2 14) <|
        .step (.ci .i64 1) <|
        .step (.lsub 2 0 16 3) <|
        .tail 43 [17, 1, 15])
        (.step (.bin .eql 3 4) <|
        .ite 9
          (.step (.at 2 1 4) <|
          .step (.cell 0 10) <|
          .step (.cell 1 10) <|
          .step (.call 23 [11] 0) <|
          .step (.mk [13, 12]) <|
          .step (.ml [14]) <|
          .step (.app 2 32 2 15) <|
          .step (.ci .i64 1) <|
          .step (.lsub 2 1 17 6) <|
          .tail 43 [0, 18, 16])
          (.step (.at 2 0 4) <|
          .step (.cell 0 10) <|
          .step (.at 2 1 4) <|
          .step (.cell 0 12) <|
          .step (.call 44 [11, 13] 0) <|
          .step (.bin .lss 14 4) <|
          .ite 15
            (.step (.cell 1 10) <|
            .step (.call 23 [11] 0) <|
            .step (.mk [17, 16]) <|
            .step (.ml [18]) <|
            .step (.app 2 32 2 19) <|
            .step (.ci .i64 1) <|
            .step (.lsub 2 0 21 3) <|
            .tail 43 [22, 1, 20])
            (.step (.bin .gtr 14 4) <|
            .ite 16
              (.step (.cell 1 12) <|
              .step (.call 23 [13] 0) <|
              .step (.mk [18, 17]) <|
              .step (.ml [19]) <|
              .step (.app 2 32 2 20) <|
              .step (.ci .i64 1) <|
              .step (.lsub 2 1 22 6) <|
              .tail 43 [0, 23, 21])
              (.step (.cell 1 10) <|
              .step (.cell 1 12) <|
              .step (.ci .u64 0) <|
              .step (.call 46 [17, 18, 19] 0) <|
              .step (.call 46 [17, 18, 19] 1) <|
              .step (.bin .neq 21 19) <|
              .ite 22
                (.ret [4])
                (.step (.call 23 [11] 0) <|
                .step (.mk [23, 20]) <|
                .step (.ml [24]) <|
                .step (.app 2 32 2 25) <|
                .step (.ci .i64 1) <|
                .step (.lsub 2 0 27 3) <|
                .step (.lsub 2 1 27 6) <|
                .tail 43 [28, 29, 26]))))))
      (.step (.ci .i64 1) <|
      .ret [8, 2]))
/-- slices.EqualFunc[postmark/table.Table,postmark/table.Table,postmark/table.Row,postmark/table.Row], function 86, the loop [0]. -/
def d29 : PDef := .tree 4 <|
  .step (.bin .lss 3 2) <|
  .ite 4
    (.step (.at 2 1 3) <|
    .step (.cell 0 5) <|
    .step (.cell 1 5) <|
    .step (.at 2 0 3) <|
    .step (.cell 0 8) <|
    .step (.cell 1 8) <|
    .step (.mk [6, 7]) <|
    .step (.mk [9, 10]) <|
    .step (.call 30 [11, 12] 0) <|
    .step (.un .not 13) <|
    .ite 14
      (.step (.ci .i64 0) <|
      .ret [15])
      (.step (.ci .i64 1) <|
      .step (.bin .add 3 15) <|
      .tail 29 [0, 1, 2, 16]))
    (.step (.ci .i64 1) <|
    .ret [5])
def Ds : List PDef := [d0, d1, d2, d3, d4, d5, d6, d7, d8, d9, d10, d11, d12, d13, d14, d15, d16, d17, d18, d19, d20, d21, d22, d23, d24, d25, d26, d27, d28, d29, d30, d31, d32, d33, d34, d35, d36, d37, d38, d39, d40, d41, d42, d43, d44, d45, d46, d47, d48, d49, d50, d51, d52, d53, d54, d55, d56, d57, d58, d59, d60, d61, d62, d63, d64, d65, d66, d67, d68, d69, d70, d71, d72, d73, d74, d75, d76, d77, d78, d79, d80, d81, d82, d83, d84, d85, d86, d87, d88, d89, d90, d91, d92, d93, d94, d95, d96, d97, d98, d99, d100, d101, d102]
noncomputable abbrev TT : PProg := TofL Ds
end
end D
end Go.Proofs.YtamcdgfjjeldeaaGreatDoor
