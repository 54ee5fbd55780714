/- What functions and loops compute: trees of nodes, found by a driver. -/
import Derived.Test.YtehcokoigbiciaaGreatDoorAbsJ
import Derived.Test.YtehcokoigbiciaaGreatDoorAbsPl
import Derived.Test.YtehcokoigbiciaaGreatDoorAbsTold
import Derived.Test.YtehcokoigbiciaaGreatDoorAbsSort
namespace Go.Proofs.YtehcokoigbiciaaGreatDoor
open Go Go.Abs
set_option maxRecDepth 100000
set_option linter.unusedVariables false
set_option linter.unusedSimpArgs false
namespace W
noncomputable section
/-- postmark/table.Same, function 13, plain functions []. -/
def d58 : PDef := .fn [.sc, .sc] [.sc] <|
  .step (.call 59 [0, 1] 0) <|
  .ret [2]
/-- postmark/postmarkref11.Put, function 47, plain functions []. -/
def d49 : PDef := .fn [.ag 2] [.sc] <|
  .step (.cell 0 0) <|
  .step (.cell 1 0) <|
  .step (.slen 1) <|
  .step (.conv .u64 3) <|
  .step (.call 46 [4] 0) <|
  .step (.bin .add 5 1) <|
  .step (.slen 2) <|
  .step (.conv .u64 7) <|
  .step (.call 46 [8] 0) <|
  .step (.bin .add 6 9) <|
  .step (.bin .add 10 2) <|
  .ret [11]
/-- postmark/postmarkref13.Get, function 16, plain functions []. -/
def d68 : PDef := .fn [.sc, .sc] [.sc] <|
  .step (.len 0) <|
  .step (.ci .i64 0) <|
  .step (.call 69 [1, 0, 2, 3] 0) <|
  .step (.bin .eql 4 3) <|
  .ite 5
    (.step (.call 69 [1, 0, 2, 3] 1) <|
    .ret [6])
    (.step (.ci .u64 0) <|
    .ret [6])
/-- postmark/postmarkref13.row, function 26, plain functions []. -/
def d30 : PDef := .fn [.ag 2] [.sc] <|
  .step (.cell 0 0) <|
  .step (.cell 1 0) <|
  .step (.call 31 [1] 0) <|
  .step (.ci .i64 0) <|
  .step (.bin .eql 3 4) <|
  .ite 5
    (.step (.ci .u64 0) <|
    .step (.bin .eql 2 6) <|
    .ite 7
      (.step (.ci .i64 18) <|
      .ret [8])
      (.ret [3]))
    (.ret [3])
/-- postmark/postmarklaw13.TableTells, function 3, plain functions []. -/
abbrev d1 : PDef := .prim fun _ => none
/-- postmark/postmarkref07.First, function 107, plain functions []. -/
def d37 : PDef := .fn [.sc] [.sc] <|
  .step (.slen 0) <|
  .step (.ci .i64 0) <|
  .step (.bin .eql 1 2) <|
  .ite 3
    (.ret [2])
    (.step (.sidx 0 2) <|
    .step (.conv .i64 4) <|
    .step (.ci .i64 128) <|
    .step (.bin .lss 5 6) <|
    .ite 7
      (.step (.ci .i64 1) <|
      .ret [8])
      (.step (.ci .i64 192) <|
      .step (.bin .geq 5 8) <|
      .ite 9
        (.step (.ci .i64 224) <|
        .step (.bin .lss 5 10) <|
        .ite 11
          (.step (.bin .sub 5 8) <|
          .step (.ci .i64 2) <|
          .step (.bin .lss 1 13) <|
          .ite 14
            (.ret [2])
            (.step (.ci .i64 1) <|
            .step (.call 38 [0, 13, 12, 6, 15] 0) <|
            .step (.bin .eql 16 2) <|
            .ite 17
              (.ret [2])
              (.step (.call 38 [0, 13, 12, 6, 15] 1) <|
              .step (.bin .lss 18 6) <|
              .ite 19
                (.ret [2])
                (.step (.ci .i64 1114111) <|
                .step (.bin .gtr 18 20) <|
                .ite 21
                  (.ret [2])
                  (.step (.ci .i64 55296) <|
                  .step (.bin .geq 18 22) <|
                  .ite 23
                    (.step (.ci .i64 57344) <|
                    .step (.bin .lss 18 24) <|
                    .ite 25
                      (.ret [2])
                      (.ret [13]))
                    (.ret [13]))))))
          (.step (.bin .geq 5 10) <|
          .step (.ci .i64 240) <|
          .step (.bin .lss 5 13) <|
          .ite 14
            (.step (.bin .sub 5 10) <|
            .step (.ci .i64 3) <|
            .step (.bin .lss 1 16) <|
            .ite 17
              (.ret [2])
              (.step (.ci .i64 2048) <|
              .step (.ci .i64 1) <|
              .step (.call 38 [0, 16, 15, 18, 19] 0) <|
              .step (.bin .eql 20 2) <|
              .ite 21
                (.ret [2])
                (.step (.call 38 [0, 16, 15, 18, 19] 1) <|
                .step (.bin .lss 22 18) <|
                .ite 23
                  (.ret [2])
                  (.step (.ci .i64 1114111) <|
                  .step (.bin .gtr 22 24) <|
                  .ite 25
                    (.ret [2])
                    (.step (.ci .i64 55296) <|
                    .step (.bin .geq 22 26) <|
                    .ite 27
                      (.step (.ci .i64 57344) <|
                      .step (.bin .lss 22 28) <|
                      .ite 29
                        (.ret [2])
                        (.ret [16]))
                      (.ret [16]))))))
            (.step (.bin .geq 5 13) <|
            .step (.ci .i64 248) <|
            .step (.bin .lss 5 16) <|
            .ite 17
              (.step (.bin .sub 5 13) <|
              .step (.ci .i64 4) <|
              .step (.bin .lss 1 19) <|
              .ite 20
                (.ret [2])
                (.step (.ci .i64 65536) <|
                .step (.ci .i64 1) <|
                .step (.call 38 [0, 19, 18, 21, 22] 0) <|
                .step (.bin .eql 23 2) <|
                .ite 24
                  (.ret [2])
                  (.step (.call 38 [0, 19, 18, 21, 22] 1) <|
                  .step (.bin .lss 25 21) <|
                  .ite 26
                    (.ret [2])
                    (.step (.ci .i64 1114111) <|
                    .step (.bin .gtr 25 27) <|
                    .ite 28
                      (.ret [2])
                      (.step (.ci .i64 55296) <|
                      .step (.bin .geq 25 29) <|
                      .ite 30
                        (.step (.ci .i64 57344) <|
                        .step (.bin .lss 25 31) <|
                        .ite 32
                          (.ret [2])
                          (.ret [19]))
                        (.ret [19]))))))
              (.ret [2]))))
        (.step (.ci .i64 224) <|
        .step (.bin .geq 5 10) <|
        .ite 11
          (.step (.ci .i64 240) <|
          .step (.bin .lss 5 12) <|
          .ite 13
            (.step (.bin .sub 5 10) <|
            .step (.ci .i64 3) <|
            .step (.bin .lss 1 15) <|
            .ite 16
              (.ret [2])
              (.step (.ci .i64 2048) <|
              .step (.ci .i64 1) <|
              .step (.call 38 [0, 15, 14, 17, 18] 0) <|
              .step (.bin .eql 19 2) <|
              .ite 20
                (.ret [2])
                (.step (.call 38 [0, 15, 14, 17, 18] 1) <|
                .step (.bin .lss 21 17) <|
                .ite 22
                  (.ret [2])
                  (.step (.ci .i64 1114111) <|
                  .step (.bin .gtr 21 23) <|
                  .ite 24
                    (.ret [2])
                    (.step (.ci .i64 55296) <|
                    .step (.bin .geq 21 25) <|
                    .ite 26
                      (.step (.ci .i64 57344) <|
                      .step (.bin .lss 21 27) <|
                      .ite 28
                        (.ret [2])
                        (.ret [15]))
                      (.ret [15]))))))
            (.step (.bin .geq 5 12) <|
            .step (.ci .i64 248) <|
            .step (.bin .lss 5 15) <|
            .ite 16
              (.step (.bin .sub 5 12) <|
              .step (.ci .i64 4) <|
              .step (.bin .lss 1 18) <|
              .ite 19
                (.ret [2])
                (.step (.ci .i64 65536) <|
                .step (.ci .i64 1) <|
                .step (.call 38 [0, 18, 17, 20, 21] 0) <|
                .step (.bin .eql 22 2) <|
                .ite 23
                  (.ret [2])
                  (.step (.call 38 [0, 18, 17, 20, 21] 1) <|
                  .step (.bin .lss 24 20) <|
                  .ite 25
                    (.ret [2])
                    (.step (.ci .i64 1114111) <|
                    .step (.bin .gtr 24 26) <|
                    .ite 27
                      (.ret [2])
                      (.step (.ci .i64 55296) <|
                      .step (.bin .geq 24 28) <|
                      .ite 29
                        (.step (.ci .i64 57344) <|
                        .step (.bin .lss 24 30) <|
                        .ite 31
                          (.ret [2])
                          (.ret [18]))
                        (.ret [18]))))))
              (.ret [2])))
          (.step (.ci .i64 240) <|
          .step (.bin .geq 5 12) <|
          .ite 13
            (.step (.ci .i64 248) <|
            .step (.bin .lss 5 14) <|
            .ite 15
              (.step (.bin .sub 5 12) <|
              .step (.ci .i64 4) <|
              .step (.bin .lss 1 17) <|
              .ite 18
                (.ret [2])
                (.step (.ci .i64 65536) <|
                .step (.ci .i64 1) <|
                .step (.call 38 [0, 17, 16, 19, 20] 0) <|
                .step (.bin .eql 21 2) <|
                .ite 22
                  (.ret [2])
                  (.step (.call 38 [0, 17, 16, 19, 20] 1) <|
                  .step (.bin .lss 23 19) <|
                  .ite 24
                    (.ret [2])
                    (.step (.ci .i64 1114111) <|
                    .step (.bin .gtr 23 25) <|
                    .ite 26
                      (.ret [2])
                      (.step (.ci .i64 55296) <|
                      .step (.bin .geq 23 27) <|
                      .ite 28
                        (.step (.ci .i64 57344) <|
                        .step (.bin .lss 23 29) <|
                        .ite 30
                          (.ret [2])
                          (.ret [17]))
                        (.ret [17]))))))
              (.ret [2]))
            (.ret [2])))))
/-- postmark/table.Same$1, function 30, plain functions []. -/
def d61 : PDef := .fn [.ag 2, .ag 2] [.sc] <|
  .step (.cell 0 0) <|
  .step (.cell 1 0) <|
  .step (.cell 0 1) <|
  .step (.cell 1 1) <|
  .step (.bin .eql 3 5) <|
  .ite 6
    (.step (.call 62 [2, 4] 0) <|
    .ret [7])
    (.step (.cb false) <|
    .ret [7])
/-- (postmark/table.Table).AtLeast, function 18, plain functions []. -/
def d70 : PDef := .fn [.sc, .sc] [.sc] <|
  .step (.len 1) <|
  .step (.ci .i64 0) <|
  .step (.call 71 [0, 3, 1, 2, 3] 0) <|
  .step (.bin .eql 4 3) <|
  .ite 5
    (.step (.cb false) <|
    .ret [6])
    (.step (.cb true) <|
    .ret [6])
/-- (postmark/table.Table).Clone, function 14, plain functions []. -/
def d64 : PDef := .fn [.sc] [.sc] <|
  .step (.len 0) <|
  .step (.ml []) <|
  .step (.ci .u64 0) <|
  .step (.mk [2, 3]) <|
  .step (.ci .i64 0) <|
  .step (.rep 2 32 4 5 1) <|
  .step (.call 65 [6, 0, 1, 5] 0) <|
  .step (.call 65 [6, 0, 1, 5] 1) <|
  .ret [8]
/-- postmark/table.Of, function 7, plain functions []. -/
def d13 : PDef := .fn [.sc] [.sc, .sc] <|
  .step (.len 0) <|
  .step (.ci .i64 256) <|
  .step (.bin .gtr 1 2) <|
  .ite 3
    (.step (.ml []) <|
    .step (.ci .i64 13) <|
    .ret [4, 5])
    (.step (.ci .i64 0) <|
    .step (.ml []) <|
    .step (.call 14 [0, 1, 4, 5] 0) <|
    .step (.bin .eql 6 4) <|
    .ite 7
      (.step (.call 14 [0, 1, 4, 5] 1) <|
      .ret [5, 8])
      (.step (.call 14 [0, 1, 4, 5] 1) <|
      .step (.call 0 [8] 0) <|
      .step (.len 9) <|
      .step (.ci .u64 0) <|
      .step (.mk [5, 11]) <|
      .step (.rep 2 32 12 4 10) <|
      .step (.call 22 [13, 9, 10, 4] 0) <|
      .step (.bin .eql 14 4) <|
      .ite 15
        (.step (.ci .i64 14) <|
        .ret [5, 16])
        (.step (.call 22 [13, 9, 10, 4] 1) <|
        .ret [16, 4])))
/-- (postmark/entry.Entry).Put, function 35, plain functions []. -/
def d12 : PDef := .fn [.ag 2] [.sc] <|
  .step (.cell 0 0) <|
  .step (.cell 1 0) <|
  .step (.slen 1) <|
  .step (.conv .u64 3) <|
  .step (.call 7 [4] 0) <|
  .step (.bin .add 5 1) <|
  .step (.slen 2) <|
  .step (.conv .u64 7) <|
  .step (.call 7 [8] 0) <|
  .step (.bin .add 6 9) <|
  .step (.bin .add 10 2) <|
  .ret [11]
/-- postmark/postmarkref13.Same, function 10, plain functions []. -/
def d51 : PDef := .fn [.sc, .sc] [.sc] <|
  .step (.len 0) <|
  .step (.len 1) <|
  .step (.bin .neq 2 3) <|
  .ite 4
    (.step (.cb false) <|
    .ret [5])
    (.step (.ci .i64 0) <|
    .step (.call 52 [0, 1, 2, 5] 0) <|
    .step (.bin .eql 6 5) <|
    .ite 7
      (.step (.cb false) <|
      .ret [8])
      (.step (.cb true) <|
      .ret [8]))
/-- postmark/postmarklaw12.To, function 17, plain functions []. -/
def d26 : PDef := .fn [.sc] [.sc] <|
  .step (.len 0) <|
  .step (.ci .i64 0) <|
  .step (.ml []) <|
  .step (.call 27 [3, 0, 1, 2] 0) <|
  .step (.call 27 [3, 0, 1, 2] 1) <|
  .ret [5]
/-- postmark/postmarkref07.Good, function 95, plain functions []. -/
def d35 : PDef := .fn [.sc] [.sc] <|
  .step (.call 36 [0] 0) <|
  .step (.ci .i64 0) <|
  .step (.bin .eql 1 2) <|
  .ite 3
    (.step (.cb false) <|
    .ret [4])
    (.step (.cb true) <|
    .ret [4])
/-- slices.Equal[postmark/descr.Descr,postmark/entry.Entry], function 31, plain functions []. -/
def d62 : PDef := .fn [.sc, .sc] [.sc] <|
  .step (.len 0) <|
  .step (.len 1) <|
  .step (.bin .neq 2 3) <|
  .ite 4
    (.step (.cb false) <|
    .ret [5])
    (.step (.ci .i64 0) <|
    .step (.call 63 [0, 1, 2, 5] 0) <|
    .step (.bin .eql 6 5) <|
    .ite 7
      (.step (.cb false) <|
      .ret [8])
      (.step (.cb true) <|
      .ret [8]))
/-- postmark/postmarkref12.behind, function 76, plain functions []. -/
def d39 : PDef := .fn [.ag 2, .ag 2] [.sc] <|
  .step (.cell 0 0) <|
  .step (.cell 1 0) <|
  .step (.cell 0 1) <|
  .step (.cell 1 1) <|
  .step (.bin .eql 2 4) <|
  .ite 6
    (.step (.ci .i64 14) <|
    .ret [7])
    (.step (.mk [2, 3]) <|
    .step (.mk [4, 5]) <|
    .step (.call 40 [7, 8] 0) <|
    .step (.ci .i64 0) <|
    .step (.bin .gtr 9 10) <|
    .ite 11
      (.step (.ci .i64 7) <|
      .ret [12])
      (.ret [10]))
/-- postmark/postmarklaw13.To, function 9, plain functions []. -/
def d24 : PDef := .fn [.sc] [.sc] <|
  .step (.len 0) <|
  .step (.ci .i64 0) <|
  .step (.ml []) <|
  .step (.call 25 [3, 0, 1, 2] 0) <|
  .step (.call 25 [3, 0, 1, 2] 1) <|
  .ret [5]
/-- (postmark/table.Table).Get, function 15, plain functions []. -/
def d66 : PDef := .fn [.sc, .sc] [.sc] <|
  .step (.len 0) <|
  .step (.ci .i64 0) <|
  .step (.call 67 [1, 0, 2, 3] 0) <|
  .step (.bin .eql 4 3) <|
  .ite 5
    (.step (.call 67 [1, 0, 2, 3] 1) <|
    .ret [6])
    (.step (.ci .u64 0) <|
    .ret [6])
/-- postmark/varint.Put, function 34, plain functions []. -/
def d7 : PDef := .fn [.sc] [.sc] <|
  .step (.call 8 [0] 0) <|
  .step (.ci .u8 0) <|
  .step (.rep 1 1 2 1 1) <|
  .step (.len 3) <|
  .step (.ci .i64 0) <|
  .step (.call 10 [0, 3, 4, 5] 0) <|
  .step (.call 10 [0, 3, 4, 5] 1) <|
  .step (.len 7) <|
  .step (.ci .i64 1) <|
  .step (.bin .sub 8 9) <|
  .step (.idx 7 10) <|
  .step (.at 1 7 11) <|
  .step (.cell 0 12) <|
  .step (.ci .u8 127) <|
  .step (.bin .and 13 14) <|
  .step (.upd 1 0 7 11 [15]) <|
  .step (.str 16) <|
  .ret [17]
/-- unicode/utf8.ValidString is told. -/
abbrev d21 : PDef := .prim validP
/-- postmark/utf.Check, function 83, plain functions []. -/
def d19 : PDef := .fn [.sc, .sc, .sc] [.sc] <|
  .step (.slen 0) <|
  .step (.bin .lss 3 1) <|
  .ite 4
    (.step (.ci .i64 13) <|
    .ret [5])
    (.step (.bin .gtr 3 2) <|
    .ite 5
      (.step (.ci .i64 13) <|
      .ret [6])
      (.step (.call 20 [0] 0) <|
      .step (.un .not 6) <|
      .ite 7
        (.step (.ci .i64 11) <|
        .ret [8])
        (.step (.ci .i64 0) <|
        .ret [8])))
/-- (postmark/table.Table).Check, function 11, plain functions []. -/
def d54 : PDef := .fn [.sc] [.sc] <|
  .step (.len 0) <|
  .step (.ci .i64 256) <|
  .step (.bin .gtr 1 2) <|
  .ite 3
    (.step (.ci .i64 13) <|
    .ret [4])
    (.step (.cs []) <|
    .step (.ci .i64 0) <|
    .step (.call 55 [4, 0, 1, 5] 0) <|
    .step (.bin .eql 6 5) <|
    .ite 7
      (.step (.call 55 [4, 0, 1, 5] 1) <|
      .ret [8])
      (.ret [5]))
/-- postmark/postmarkref13.Of, function 8, plain functions []. -/
def d28 : PDef := .fn [.sc] [.sc, .sc] <|
  .step (.len 0) <|
  .step (.ci .i64 256) <|
  .step (.bin .gtr 1 2) <|
  .ite 3
    (.step (.ml []) <|
    .step (.ci .i64 13) <|
    .ret [4, 5])
    (.step (.ci .i64 0) <|
    .step (.call 29 [0, 1, 4] 0) <|
    .step (.bin .eql 5 4) <|
    .ite 6
      (.step (.call 29 [0, 1, 4] 1) <|
      .step (.ml []) <|
      .ret [8, 7])
      (.step (.ml []) <|
      .step (.call 43 [7, 0, 1, 4] 0) <|
      .step (.bin .eql 8 4) <|
      .ite 9
        (.step (.ci .i64 14) <|
        .ret [7, 10])
        (.step (.call 43 [7, 0, 1, 4] 1) <|
        .ret [10, 4])))
/-- postmark/postmarkref11.Cmp, function 45, plain functions []. -/
def d40 : PDef := .fn [.ag 2, .ag 2] [.sc] <|
  .step (.cell 0 0) <|
  .step (.cell 1 0) <|
  .step (.cell 0 1) <|
  .step (.cell 1 1) <|
  .step (.call 41 [2, 4] 0) <|
  .ite 6
    (.step (.ci .i64 (-1)) <|
    .ret [7])
    (.step (.bin .eql 2 4) <|
    .ite 7
      (.step (.call 41 [3, 5] 0) <|
      .ite 8
        (.step (.ci .i64 (-1)) <|
        .ret [9])
        (.step (.mk [2, 3]) <|
        .step (.mk [4, 5]) <|
        .step (.binc .eql [1, 1] 9 10) <|
        .ite 11
          (.step (.ci .i64 0) <|
          .ret [12])
          (.step (.ci .i64 1) <|
          .ret [12])))
      (.step (.mk [2, 3]) <|
      .step (.mk [4, 5]) <|
      .step (.binc .eql [1, 1] 8 9) <|
      .ite 10
        (.step (.ci .i64 0) <|
        .ret [11])
        (.step (.ci .i64 1) <|
        .ret [11])))
/-- (postmark/entry.Entry).Check, function 53, plain functions []. -/
def d18 : PDef := .fn [.ag 2] [.sc] <|
  .step (.cell 0 0) <|
  .step (.cell 1 0) <|
  .step (.ci .i64 1) <|
  .step (.ci .i64 64) <|
  .step (.call 19 [1, 3, 4] 0) <|
  .step (.ci .i64 0) <|
  .step (.bin .neq 5 6) <|
  .ite 7
    (.ret [5])
    (.step (.ci .i64 256) <|
    .step (.call 19 [2, 6, 8] 0) <|
    .ret [9])
/-- postmark/utf.Good, function 93, plain functions []. -/
def d20 : PDef := .fn [.sc] [.sc] <|
  .step (.call 21 [0] 0) <|
  .ret [1]
/-- slices.EqualFunc[postmark/table.Table,postmark/table.Table,postmark/table.Row,postmark/table.Row], function 29, plain functions [none, none, some 30]. -/
def d59 : PDef := .fn [.sc, .sc] [.sc] <|
  .step (.len 0) <|
  .step (.len 1) <|
  .step (.bin .neq 2 3) <|
  .ite 4
    (.step (.cb false) <|
    .ret [5])
    (.step (.ci .i64 0) <|
    .step (.call 60 [1, 0, 2, 5] 0) <|
    .step (.bin .eql 6 5) <|
    .ite 7
      (.step (.cb false) <|
      .ret [8])
      (.step (.cb true) <|
      .ret [8]))
/-- postmark/postmarkref11.less, function 77, plain functions []. -/
def d41 : PDef := .fn [.sc, .sc] [.sc] <|
  .step (.ci .i64 0) <|
  .step (.call 42 [0, 1, 2] 0) <|
  .step (.bin .eql 3 2) <|
  .ite 4
    (.step (.call 42 [0, 1, 2] 1) <|
    .ret [5])
    (.step (.slen 0) <|
    .step (.slen 1) <|
    .step (.bin .lss 5 6) <|
    .ret [7])
/-- postmark/postmarkref12.Key, function 28, plain functions []. -/
def d45 : PDef := .fn [.sc] [.sc] <|
  .step (.len 0) <|
  .step (.conv .u64 1) <|
  .step (.call 46 [2] 0) <|
  .step (.ci .i64 0) <|
  .step (.call 48 [3, 0, 1, 4] 0) <|
  .step (.call 48 [3, 0, 1, 4] 1) <|
  .ret [6]
/-- (postmark/descr.Descr).Check, function 37, plain functions []. -/
def d16 : PDef := .fn [.sc] [.sc] <|
  .step (.len 0) <|
  .step (.conv .u64 1) <|
  .step (.ci .u64 0) <|
  .step (.bin .eql 2 3) <|
  .ite 4
    (.step (.ci .i64 12) <|
    .ret [5])
    (.step (.ci .u64 16) <|
    .step (.bin .gtr 2 5) <|
    .ite 6
      (.step (.ci .i64 13) <|
      .ret [7])
      (.step (.ci .i64 0) <|
      .step (.call 17 [0, 1, 7] 0) <|
      .step (.bin .eql 8 7) <|
      .ite 9
        (.step (.call 17 [0, 1, 7] 1) <|
        .ret [10])
        (.ret [7])))
/-- postmark/postmarkref12.Less, function 27, plain functions []. -/
def d50 : PDef := .fn [.sc, .sc] [.sc] <|
  .step (.cs []) <|
  .step (.mk [0, 2]) <|
  .step (.mk [1, 2]) <|
  .step (.call 40 [3, 4] 0) <|
  .step (.ci .i64 0) <|
  .step (.bin .lss 5 6) <|
  .ret [7]
/-- postmark/postmarklaw12.Few, function 6, plain functions []. -/
def d4 : PDef := .fn [.sc] [.sc] <|
  .step (.len 0) <|
  .step (.ci .i64 0) <|
  .step (.call 5 [0, 1, 2] 0) <|
  .step (.bin .eql 3 2) <|
  .ite 4
    (.step (.cb false) <|
    .ret [5])
    (.step (.ci .i64 40) <|
    .step (.bin .leq 1 5) <|
    .ret [6])
/-- postmark/postmarkref02.Put, function 46, plain functions []. -/
def d46 : PDef := .fn [.sc] [.sc] <|
  .step (.cs []) <|
  .step (.call 47 [0, 1] 0) <|
  .step (.call 47 [0, 1] 1) <|
  .step (.call 47 [0, 1] 2) <|
  .step (.conv .u8 3) <|
  .step (.ml [5]) <|
  .step (.str 6) <|
  .step (.bin .add 4 7) <|
  .ret [8]
/-- postmark/varint.Size, function 51, plain functions []. -/
def d8 : PDef := .fn [.sc] [.sc] <|
  .step (.ci .i64 1) <|
  .step (.call 9 [0, 1] 0) <|
  .step (.call 9 [0, 1] 1) <|
  .ret [3]
/-- postmark/postmarkref07.Check, function 89, plain functions []. -/
def d34 : PDef := .fn [.sc, .sc, .sc] [.sc] <|
  .step (.slen 0) <|
  .step (.bin .lss 3 1) <|
  .ite 4
    (.step (.ci .i64 13) <|
    .ret [5])
    (.step (.bin .gtr 3 2) <|
    .ite 5
      (.step (.ci .i64 13) <|
      .ret [6])
      (.step (.call 35 [0] 0) <|
      .step (.un .not 6) <|
      .ite 7
        (.step (.ci .i64 11) <|
        .ret [8])
        (.step (.ci .i64 0) <|
        .ret [8])))
/-- (postmark/descr.Descr).Key, function 21, plain functions []. -/
def d6 : PDef := .fn [.sc] [.sc] <|
  .step (.len 0) <|
  .step (.conv .u64 1) <|
  .step (.call 7 [2] 0) <|
  .step (.bytes 3) <|
  .step (.ml []) <|
  .step (.app 1 1 5 4) <|
  .step (.slen 3) <|
  .step (.ci .i64 0) <|
  .step (.call 11 [0, 1, 8, 6] 0) <|
  .step (.call 11 [0, 1, 8, 6] 1) <|
  .step (.len 10) <|
  .step (.str 10) <|
  .ret [12]
/-- sort.Slice is told. -/
abbrev d0 : PDef := .prim sortP
/-- (postmark/table.Row).check, function 22, plain functions []. -/
def d15 : PDef := .fn [.ag 2] [.sc] <|
  .step (.cell 0 0) <|
  .step (.cell 1 0) <|
  .step (.call 16 [1] 0) <|
  .step (.ci .i64 0) <|
  .step (.bin .neq 3 4) <|
  .ite 5
    (.ret [3])
    (.step (.ci .u64 0) <|
    .step (.bin .eql 2 6) <|
    .ite 7
      (.step (.ci .i64 18) <|
      .ret [8])
      (.ret [4]))
/-- postmark/postmarkref13.AtLeast, function 19, plain functions []. -/
def d73 : PDef := .fn [.sc, .sc] [.sc] <|
  .step (.len 1) <|
  .step (.ci .i64 0) <|
  .step (.call 74 [0, 1, 2, 3] 0) <|
  .step (.bin .eql 4 3) <|
  .ite 5
    (.step (.cb false) <|
    .ret [6])
    (.step (.cb true) <|
    .ret [6])
/-- postmark/postmarkref11.Check, function 75, plain functions []. -/
def d33 : PDef := .fn [.ag 2] [.sc] <|
  .step (.cell 0 0) <|
  .step (.cell 1 0) <|
  .step (.ci .i64 1) <|
  .step (.ci .i64 64) <|
  .step (.call 34 [1, 3, 4] 0) <|
  .step (.ci .i64 0) <|
  .step (.bin .neq 5 6) <|
  .ite 7
    (.ret [5])
    (.step (.ci .i64 256) <|
    .step (.call 34 [2, 6, 8] 0) <|
    .ret [9])
/-- postmark/postmarklaw13.Few, function 5, plain functions []. -/
def d2 : PDef := .fn [.sc] [.sc] <|
  .step (.len 0) <|
  .step (.ci .i64 0) <|
  .step (.call 3 [0, 1, 2] 0) <|
  .step (.bin .eql 3 2) <|
  .ite 4
    (.step (.cb false) <|
    .ret [5])
    (.step (.ci .i64 300) <|
    .step (.bin .leq 1 5) <|
    .ret [6])
/-- postmark/postmarkref12.Check, function 44, plain functions []. -/
def d31 : PDef := .fn [.sc] [.sc] <|
  .step (.len 0) <|
  .step (.conv .u64 1) <|
  .step (.ci .u64 0) <|
  .step (.bin .eql 2 3) <|
  .ite 4
    (.step (.ci .i64 12) <|
    .step (.ci .i64 0) <|
    .step (.call 32 [0, 5, 6] 0) <|
    .step (.call 32 [0, 5, 6] 1) <|
    .ret [8])
    (.step (.ci .u64 16) <|
    .step (.bin .gtr 2 5) <|
    .ite 6
      (.step (.ci .i64 13) <|
      .step (.ci .i64 0) <|
      .step (.call 32 [0, 7, 8] 0) <|
      .step (.call 32 [0, 7, 8] 1) <|
      .ret [10])
      (.step (.ci .i64 0) <|
      .step (.call 32 [0, 7, 7] 0) <|
      .step (.call 32 [0, 7, 7] 1) <|
      .ret [9]))
/-- slices.Clone[postmark/descr.Descr,postmark/entry.Entry] is told. -/
abbrev d23 : PDef := .prim (cloneP 32 2)
/-- postmark/postmarkref13.Check, function 12, plain functions []. -/
def d56 : PDef := .fn [.sc] [.sc] <|
  .step (.len 0) <|
  .step (.ci .i64 256) <|
  .step (.bin .gtr 1 2) <|
  .ite 3
    (.step (.ci .i64 13) <|
    .ret [4])
    (.step (.ci .i64 0) <|
    .step (.call 57 [0, 1, 4] 0) <|
    .step (.bin .eql 5 4) <|
    .ite 6
      (.step (.call 57 [0, 1, 4] 1) <|
      .ret [7])
      (.ret [4]))
/-- postmark/postmarkref13.Check, function 12, the loop [0]. -/
def d57 : PDef := .tree 3 <|
  .step (.bin .lss 2 1) <|
  .ite 3
    (.step (.at 2 0 2) <|
    .step (.cell 0 4) <|
    .step (.cell 1 4) <|
    .step (.mk [5, 6]) <|
    .step (.call 30 [7] 0) <|
    .step (.ci .i64 0) <|
    .step (.bin .eql 8 9) <|
    .ite 10
      (.step (.bin .gtr 2 9) <|
      .ite 11
        (.step (.ci .i64 1) <|
        .step (.bin .sub 2 12) <|
        .step (.at 2 0 13) <|
        .step (.cell 0 14) <|
        .step (.call 45 [15] 0) <|
        .step (.call 45 [5] 0) <|
        .step (.bin .eql 16 17) <|
        .ite 18
          (.step (.ci .i64 14) <|
          .ret [9, 19])
          (.step (.call 50 [16, 17] 0) <|
          .step (.un .not 19) <|
          .ite 20
            (.step (.ci .i64 7) <|
            .ret [9, 21])
            (.step (.bin .neq 8 9) <|
            .step (.bin .add 2 12) <|
            .tail 57 [0, 1, 22])))
        (.step (.bin .neq 8 9) <|
        .step (.ci .i64 1) <|
        .step (.bin .add 2 13) <|
        .tail 57 [0, 1, 14]))
      (.step (.bin .neq 8 9) <|
      .ret [9, 8]))
    (.step (.ci .i64 1) <|
    .ret [4])
/-- (postmark/table.Table).Check, function 11, the loop [0]. -/
def d55 : PDef := .tree 4 <|
  .step (.bin .lss 3 2) <|
  .ite 4
    (.step (.at 2 1 3) <|
    .step (.cell 0 5) <|
    .step (.cell 1 5) <|
    .step (.mk [6, 7]) <|
    .step (.call 15 [8] 0) <|
    .step (.ci .i64 0) <|
    .step (.bin .neq 9 10) <|
    .ite 11
      (.ret [10, 9])
      (.step (.call 6 [6] 0) <|
      .step (.bin .gtr 3 10) <|
      .ite 13
        (.step (.bin .eql 12 0) <|
        .ite 14
          (.step (.ci .i64 14) <|
          .ret [10, 15])
          (.step (.bin .lss 12 0) <|
          .ite 15
            (.step (.ci .i64 7) <|
            .ret [10, 16])
            (.step (.ci .i64 1) <|
            .step (.bin .add 3 16) <|
            .tail 55 [12, 1, 2, 17])))
        (.step (.ci .i64 1) <|
        .step (.bin .add 3 14) <|
        .tail 55 [12, 1, 2, 15])))
    (.step (.ci .i64 1) <|
    .ret [5])
/-- slices.Equal[postmark/descr.Descr,postmark/entry.Entry], function 31, the loop [0]. -/
def d63 : PDef := .tree 4 <|
  .step (.bin .lss 3 2) <|
  .ite 4
    (.step (.at 2 0 3) <|
    .step (.cell 0 5) <|
    .step (.cell 1 5) <|
    .step (.at 2 1 3) <|
    .step (.cell 0 8) <|
    .step (.cell 1 8) <|
    .step (.mk [6, 7]) <|
    .step (.mk [9, 10]) <|
    .step (.binc .neq [1, 1] 11 12) <|
    .ite 13
      (.step (.ci .i64 0) <|
      .ret [14])
      (.step (.ci .i64 1) <|
      .step (.bin .add 3 14) <|
      .tail 63 [0, 1, 2, 15]))
    (.step (.ci .i64 1) <|
    .ret [5])
/-- postmark/postmarkref12.Key, function 28, the loop [0]. -/
def d48 : PDef := .tree 4 <|
  .step (.bin .lss 3 2) <|
  .ite 4
    (.step (.at 2 1 3) <|
    .step (.cell 0 5) <|
    .step (.cell 1 5) <|
    .step (.mk [6, 7]) <|
    .step (.call 49 [8] 0) <|
    .step (.bin .add 0 9) <|
    .step (.ci .i64 1) <|
    .step (.bin .add 3 11) <|
    .tail 48 [10, 1, 2, 12])
    (.step (.ci .i64 0) <|
    .ret [5, 0])
/-- (postmark/table.Table).AtLeast, function 18, the loop [0, 0]. -/
def d72 : PDef := .tree 8 <|
  .step (.len 0) <|
  .step (.bin .lss 1 8) <|
  .ite 9
    (.step (.at 2 0 1) <|
    .step (.cell 0 10) <|
    .step (.call 6 [11] 0) <|
    .step (.bin .lss 12 2) <|
    .ite 13
      (.step (.ci .i64 1) <|
      .step (.bin .add 1 14) <|
      .tail 72 [0, 15, 2, 3, 4, 5, 6, 7])
      (.step (.ci .i64 0) <|
      .ret [14, 1, 10, 11, 12]))
    (.step (.ci .i64 1) <|
    .ret [10, 1])
/-- postmark/postmarkref07.First, function 107, the loop [0]. -/
def d38 : PDef := .tree 5 <|
  .step (.bin .lss 4 1) <|
  .ite 5
    (.step (.sidx 0 4) <|
    .step (.conv .i64 6) <|
    .step (.ci .i64 128) <|
    .step (.bin .lss 7 8) <|
    .ite 9
      (.step (.ci .i64 0) <|
      .ret [10])
      (.step (.ci .i64 192) <|
      .step (.bin .geq 7 10) <|
      .ite 11
        (.step (.ci .i64 0) <|
        .ret [12])
        (.step (.ci .i64 64) <|
        .step (.bin .mul 12 2) <|
        .step (.bin .add 13 7) <|
        .step (.bin .sub 14 8) <|
        .step (.ci .i64 1) <|
        .step (.bin .add 4 16) <|
        .tail 38 [0, 1, 15, 3, 17])))
    (.step (.ci .i64 1) <|
    .ret [6, 2])
/-- postmark/postmarkref12.Check, function 44, the loop [0]. -/
def d32 : PDef := .tree 3 <|
  .step (.len 0) <|
  .step (.bin .lss 2 3) <|
  .ite 4
    (.step (.ci .i64 0) <|
    .step (.bin .eql 1 5) <|
    .ite 6
      (.step (.at 2 0 2) <|
      .step (.cell 0 7) <|
      .step (.cell 1 7) <|
      .step (.mk [8, 9]) <|
      .step (.call 33 [10] 0) <|
      .step (.bin .eql 11 5) <|
      .ite 12
        (.step (.bin .gtr 2 5) <|
        .ite 13
          (.step (.ci .i64 1) <|
          .step (.bin .sub 2 14) <|
          .step (.at 2 0 15) <|
          .step (.cell 0 16) <|
          .step (.cell 1 16) <|
          .step (.mk [17, 18]) <|
          .step (.call 39 [19, 10] 0) <|
          .step (.bin .add 2 14) <|
          .tail 32 [0, 20, 21])
          (.step (.ci .i64 1) <|
          .step (.bin .add 2 14) <|
          .tail 32 [0, 11, 15]))
        (.step (.ci .i64 1) <|
        .step (.bin .add 2 13) <|
        .tail 32 [0, 11, 14]))
      (.ret [5, 1]))
    (.step (.ci .i64 0) <|
    .ret [5, 1])
/-- postmark/postmarklaw12.To, function 17, the loop [0]. -/
def d27 : PDef := .tree 4 <|
  .step (.bin .lss 3 2) <|
  .ite 4
    (.step (.at 2 1 3) <|
    .step (.cell 0 5) <|
    .step (.cell 1 5) <|
    .step (.mk [6, 7]) <|
    .step (.ml [8]) <|
    .step (.app 2 32 0 9) <|
    .step (.ci .i64 1) <|
    .step (.bin .add 3 11) <|
    .tail 27 [10, 1, 2, 12])
    (.step (.ci .i64 0) <|
    .ret [5, 0])
/-- postmark/postmarkref13.Same, function 10, the loop [0, 0]. -/
def d53 : PDef := .tree 11 <|
  .step (.bin .lss 10 6) <|
  .ite 11
    (.step (.at 2 0 2) <|
    .step (.cell 0 12) <|
    .step (.at 2 13 10) <|
    .step (.cell 0 14) <|
    .step (.cell 1 14) <|
    .step (.at 2 1 2) <|
    .step (.cell 0 17) <|
    .step (.at 2 18 10) <|
    .step (.cell 0 19) <|
    .step (.cell 1 19) <|
    .step (.mk [15, 16]) <|
    .step (.mk [20, 21]) <|
    .step (.binc .neq [1, 1] 22 23) <|
    .ite 24
      (.step (.ci .i64 0) <|
      .ret [25])
      (.step (.ci .i64 1) <|
      .step (.bin .add 10 25) <|
      .tail 53 [0, 1, 2, 3, 4, 5, 6, 7, 8, 9, 26]))
    (.step (.ci .i64 1) <|
    .ret [12])
/-- postmark/table.Of, function 7, the loop [0]. -/
def d14 : PDef := .tree 4 <|
  .step (.bin .lss 2 1) <|
  .ite 4
    (.step (.at 2 0 2) <|
    .step (.cell 0 5) <|
    .step (.cell 1 5) <|
    .step (.mk [6, 7]) <|
    .step (.call 15 [8] 0) <|
    .step (.ci .i64 0) <|
    .step (.bin .neq 9 10) <|
    .ite 11
      (.ret [10, 9])
      (.step (.call 6 [6] 0) <|
      .step (.mk [6, 7, 12]) <|
      .step (.ml [13]) <|
      .step (.app 3 48 3 14) <|
      .step (.ci .i64 1) <|
      .step (.bin .add 2 16) <|
      .tail 14 [0, 1, 17, 15]))
    (.step (.ci .i64 1) <|
    .ret [5, 3])
/-- postmark/postmarkref13.Of, function 8, the loop [1, 0]. -/
def d44 : PDef := .tree 7 <|
  .step (.len 0) <|
  .step (.bin .lss 1 7) <|
  .ite 8
    (.step (.at 2 0 1) <|
    .step (.cell 0 9) <|
    .step (.call 45 [10] 0) <|
    .step (.call 45 [5] 0) <|
    .step (.call 50 [11, 12] 0) <|
    .ite 13
      (.step (.ci .i64 1) <|
      .step (.bin .add 1 14) <|
      .tail 44 [0, 15, 2, 3, 4, 5, 6])
      (.step (.ci .i64 0) <|
      .ret [14, 1, 9, 10, 11, 12]))
    (.step (.ci .i64 1) <|
    .ret [9, 1])
/-- postmark/postmarkref13.Of, function 8, the loop [1]. -/
def d43 : PDef := .tree 4 <|
  .step (.bin .lss 3 2) <|
  .ite 4
    (.step (.at 2 1 3) <|
    .step (.cell 0 5) <|
    .step (.cell 1 5) <|
    .step (.ci .i64 0) <|
    .step (.call 44 [0, 8, 1, 2, 3, 6, 7] 0) <|
    .step (.bin .eql 9 8) <|
    .ite 10
      (.step (.call 44 [0, 8, 1, 2, 3, 6, 7] 1) <|
      .step (.call 44 [0, 8, 1, 2, 3, 6, 7] 2) <|
      .step (.call 44 [0, 8, 1, 2, 3, 6, 7] 3) <|
      .step (.call 44 [0, 8, 1, 2, 3, 6, 7] 4) <|
      .step (.call 44 [0, 8, 1, 2, 3, 6, 7] 5) <|
      .step (.len 0) <|
      .step (.bin .lss 11 16) <|
      .ite 17
        (.step (.at 2 0 11) <|
        .step (.cell 0 18) <|
        .step (.call 45 [19] 0) <|
        .step (.call 45 [6] 0) <|
        .step (.bin .eql 20 21) <|
        .ite 22
          (.ret [8])
          (.step (.lsub 2 0 8 11) <|
          .step (.ml []) <|
          .step (.app 2 32 24 23) <|
          .step (.mk [6, 7]) <|
          .step (.ml [26]) <|
          .step (.app 2 32 25 27) <|
          .step (.lsub 2 0 11 16) <|
          .step (.app 2 32 28 29) <|
          .step (.ci .i64 1) <|
          .step (.bin .add 3 31) <|
          .tail 43 [30, 1, 2, 32]))
        (.step (.lsub 2 0 8 11) <|
        .step (.ml []) <|
        .step (.app 2 32 19 18) <|
        .step (.mk [6, 7]) <|
        .step (.ml [21]) <|
        .step (.app 2 32 20 22) <|
        .step (.lsub 2 0 11 16) <|
        .step (.app 2 32 23 24) <|
        .step (.ci .i64 1) <|
        .step (.bin .add 3 26) <|
        .tail 43 [25, 1, 2, 27]))
      (.step (.call 44 [0, 8, 1, 2, 3, 6, 7] 1) <|
      .step (.len 0) <|
      .step (.bin .lss 11 12) <|
      .ite 13
        (.step (.at 2 0 11) <|
        .step (.cell 0 14) <|
        .step (.call 45 [15] 0) <|
        .step (.call 45 [6] 0) <|
        .step (.bin .eql 16 17) <|
        .ite 18
          (.ret [8])
          (.step (.lsub 2 0 8 11) <|
          .step (.ml []) <|
          .step (.app 2 32 20 19) <|
          .step (.mk [6, 7]) <|
          .step (.ml [22]) <|
          .step (.app 2 32 21 23) <|
          .step (.lsub 2 0 11 12) <|
          .step (.app 2 32 24 25) <|
          .step (.ci .i64 1) <|
          .step (.bin .add 3 27) <|
          .tail 43 [26, 1, 2, 28]))
        (.step (.lsub 2 0 8 11) <|
        .step (.ml []) <|
        .step (.app 2 32 15 14) <|
        .step (.mk [6, 7]) <|
        .step (.ml [17]) <|
        .step (.app 2 32 16 18) <|
        .step (.lsub 2 0 11 12) <|
        .step (.app 2 32 19 20) <|
        .step (.ci .i64 1) <|
        .step (.bin .add 3 22) <|
        .tail 43 [21, 1, 2, 23])))
    (.step (.ci .i64 1) <|
    .ret [5, 0])
/-- (postmark/table.Table).Clone, function 14, the loop [0]. -/
def d65 : PDef := .tree 4 <|
  .step (.bin .lss 3 2) <|
  .ite 4
    (.step (.at 2 1 3) <|
    .step (.cell 0 5) <|
    .step (.cell 1 5) <|
    .step (.call 23 [6] 0) <|
    .step (.mk [8, 7]) <|
    .step (.ml [9]) <|
    .step (.app 2 32 0 10) <|
    .step (.ci .i64 1) <|
    .step (.bin .add 3 12) <|
    .tail 65 [11, 1, 2, 13])
    (.step (.ci .i64 0) <|
    .ret [5, 0])
/-- (postmark/table.Table).AtLeast, function 18, the loop [0]. -/
def d71 : PDef := .tree 5 <|
  .step (.bin .lss 4 3) <|
  .ite 5
    (.step (.at 2 2 4) <|
    .step (.cell 0 6) <|
    .step (.cell 1 6) <|
    .step (.call 6 [7] 0) <|
    .step (.call 72 [0, 1, 9, 2, 3, 4, 7, 8] 0) <|
    .step (.ci .i64 0) <|
    .step (.bin .eql 10 11) <|
    .ite 12
      (.step (.call 72 [0, 1, 9, 2, 3, 4, 7, 8] 1) <|
      .step (.call 72 [0, 1, 9, 2, 3, 4, 7, 8] 2) <|
      .step (.call 72 [0, 1, 9, 2, 3, 4, 7, 8] 3) <|
      .step (.call 72 [0, 1, 9, 2, 3, 4, 7, 8] 4) <|
      .step (.len 0) <|
      .step (.bin .eql 13 17) <|
      .ite 18
        (.ret [11])
        (.step (.at 2 0 13) <|
        .step (.cell 0 19) <|
        .step (.call 6 [20] 0) <|
        .step (.bin .neq 21 9) <|
        .ite 22
          (.ret [11])
          (.step (.cell 1 19) <|
          .step (.bin .lss 23 8) <|
          .ite 24
            (.ret [11])
            (.step (.ci .i64 1) <|
            .step (.bin .add 4 25) <|
            .tail 71 [0, 13, 2, 3, 26]))))
      (.step (.call 72 [0, 1, 9, 2, 3, 4, 7, 8] 1) <|
      .step (.len 0) <|
      .step (.bin .eql 13 14) <|
      .ite 15
        (.ret [11])
        (.step (.at 2 0 13) <|
        .step (.cell 0 16) <|
        .step (.call 6 [17] 0) <|
        .step (.bin .neq 18 9) <|
        .ite 19
          (.ret [11])
          (.step (.cell 1 16) <|
          .step (.bin .lss 20 8) <|
          .ite 21
            (.ret [11])
            (.step (.ci .i64 1) <|
            .step (.bin .add 4 22) <|
            .tail 71 [0, 13, 2, 3, 23])))))
    (.step (.ci .i64 1) <|
    .ret [6])
/-- (postmark/table.Table).Get, function 15, the loop [0]. -/
def d67 : PDef := .tree 4 <|
  .step (.bin .lss 3 2) <|
  .ite 4
    (.step (.at 2 1 3) <|
    .step (.cell 0 5) <|
    .step (.cell 1 5) <|
    .step (.call 62 [6, 0] 0) <|
    .ite 8
      (.step (.ci .i64 0) <|
      .ret [9, 7])
      (.step (.ci .i64 1) <|
      .step (.bin .add 3 9) <|
      .tail 67 [0, 1, 2, 10]))
    (.step (.ci .i64 1) <|
    .ret [5])
/-- postmark/postmarklaw13.To, function 9, the loop [0]. -/
def d25 : PDef := .tree 4 <|
  .step (.bin .lss 3 2) <|
  .ite 4
    (.step (.at 2 1 3) <|
    .step (.cell 0 5) <|
    .step (.cell 1 5) <|
    .step (.call 26 [6] 0) <|
    .step (.mk [8, 7]) <|
    .step (.ml [9]) <|
    .step (.app 2 32 0 10) <|
    .step (.ci .i64 1) <|
    .step (.bin .add 3 12) <|
    .tail 25 [11, 1, 2, 13])
    (.step (.ci .i64 0) <|
    .ret [5, 0])
/-- postmark/postmarkref11.less, function 77, the loop [0]. -/
def d42 : PDef := .tree 3 <|
  .step (.slen 0) <|
  .step (.bin .lss 2 3) <|
  .ite 4
    (.step (.slen 1) <|
    .step (.bin .lss 2 5) <|
    .ite 6
      (.step (.sidx 0 2) <|
      .step (.sidx 1 2) <|
      .step (.bin .neq 7 8) <|
      .ite 9
        (.step (.bin .lss 7 8) <|
        .step (.ci .i64 0) <|
        .ret [11, 10])
        (.step (.ci .i64 1) <|
        .step (.bin .add 2 10) <|
        .tail 42 [0, 1, 11]))
      (.step (.ci .i64 1) <|
      .ret [7]))
    (.step (.ci .i64 1) <|
    .ret [5])
/-- postmark/table.Of, function 7, the loop [1]. -/
def d22 : PDef := .tree 4 <|
  .step (.bin .lss 3 2) <|
  .ite 4
    (.step (.idx 1 3) <|
    .step (.at 3 1 5) <|
    .step (.cell 0 6) <|
    .step (.cell 1 6) <|
    .step (.cell 2 6) <|
    .step (.ci .i64 0) <|
    .step (.bin .gtr 3 10) <|
    .ite 11
      (.step (.ci .i64 1) <|
      .step (.bin .sub 3 12) <|
      .step (.idx 1 13) <|
      .step (.at 3 1 14) <|
      .step (.cell 2 15) <|
      .step (.bin .eql 9 16) <|
      .ite 17
        (.ret [10])
        (.step (.call 23 [7] 0) <|
        .step (.mk [18, 8]) <|
        .step (.ml [19]) <|
        .step (.app 2 32 0 20) <|
        .step (.bin .add 3 12) <|
        .tail 22 [21, 1, 2, 22]))
      (.step (.call 23 [7] 0) <|
      .step (.mk [12, 8]) <|
      .step (.ml [13]) <|
      .step (.app 2 32 0 14) <|
      .step (.ci .i64 1) <|
      .step (.bin .add 3 16) <|
      .tail 22 [15, 1, 2, 17]))
    (.step (.ci .i64 1) <|
    .ret [5, 0])
/-- postmark/postmarkref13.Same, function 10, the loop [0]. -/
def d52 : PDef := .tree 4 <|
  .step (.bin .lss 3 2) <|
  .ite 4
    (.step (.at 2 0 3) <|
    .step (.cell 1 5) <|
    .step (.at 2 1 3) <|
    .step (.cell 1 7) <|
    .step (.bin .neq 6 8) <|
    .ite 9
      (.step (.ci .i64 0) <|
      .ret [10])
      (.step (.cell 0 5) <|
      .step (.len 10) <|
      .step (.cell 0 7) <|
      .step (.len 12) <|
      .step (.bin .neq 11 13) <|
      .ite 14
        (.step (.ci .i64 0) <|
        .ret [15])
        (.step (.ci .i64 0) <|
        .step (.call 53 [0, 1, 3, 2, 5, 10, 11, 7, 12, 13, 15] 0) <|
        .step (.bin .eql 16 15) <|
        .ite 17
          (.ret [15])
          (.step (.ci .i64 1) <|
          .step (.bin .add 3 18) <|
          .tail 52 [0, 1, 2, 19]))))
    (.step (.ci .i64 1) <|
    .ret [5])
/-- postmark/postmarklaw13.Few, function 5, the loop [0]. -/
def d3 : PDef := .tree 3 <|
  .step (.bin .lss 2 1) <|
  .ite 3
    (.step (.at 2 0 2) <|
    .step (.cell 0 4) <|
    .step (.cell 1 4) <|
    .step (.len 5) <|
    .step (.ci .i64 18) <|
    .step (.bin .gtr 7 8) <|
    .ite 9
      (.step (.ci .i64 0) <|
      .ret [10])
      (.step (.call 4 [5] 0) <|
      .step (.un .not 10) <|
      .ite 11
        (.step (.ci .i64 0) <|
        .ret [12])
        (.step (.len 0) <|
        .step (.ci .i64 40) <|
        .step (.bin .gtr 12 13) <|
        .ite 14
          (.step (.call 6 [5] 0) <|
          .step (.slen 15) <|
          .step (.ci .i64 100) <|
          .step (.bin .gtr 16 17) <|
          .ite 18
            (.step (.ci .i64 0) <|
            .ret [19])
            (.step (.ci .i64 1) <|
            .step (.bin .add 2 19) <|
            .tail 3 [0, 1, 20]))
          (.step (.ci .i64 1) <|
          .step (.bin .add 2 15) <|
          .tail 3 [0, 1, 16]))))
    (.step (.ci .i64 1) <|
    .ret [4])
/-- postmark/postmarkref13.Get, function 16, the loop [0]. -/
def d69 : PDef := .tree 4 <|
  .step (.bin .lss 3 2) <|
  .ite 4
    (.step (.at 2 1 3) <|
    .step (.cell 0 5) <|
    .step (.cell 1 5) <|
    .step (.call 45 [6] 0) <|
    .step (.call 45 [0] 0) <|
    .step (.bin .eql 8 9) <|
    .ite 10
      (.step (.ci .i64 0) <|
      .ret [11, 7])
      (.step (.ci .i64 1) <|
      .step (.bin .add 3 11) <|
      .tail 69 [0, 1, 2, 12]))
    (.step (.ci .i64 1) <|
    .ret [5])
/-- (postmark/descr.Descr).Check, function 37, the loop [0]. -/
def d17 : PDef := .tree 3 <|
  .step (.bin .lss 2 1) <|
  .ite 3
    (.step (.at 2 0 2) <|
    .step (.cell 0 4) <|
    .step (.cell 1 4) <|
    .step (.mk [5, 6]) <|
    .step (.call 18 [7] 0) <|
    .step (.ci .i64 0) <|
    .step (.bin .neq 8 9) <|
    .ite 10
      (.ret [9, 8])
      (.step (.bin .eql 2 9) <|
      .ite 11
        (.step (.ci .i64 1) <|
        .step (.bin .add 2 12) <|
        .tail 17 [0, 1, 13])
        (.step (.ci .i64 1) <|
        .step (.bin .sub 2 12) <|
        .step (.at 2 0 13) <|
        .step (.cell 0 14) <|
        .step (.bin .eql 5 15) <|
        .ite 16
          (.step (.ci .i64 14) <|
          .ret [9, 17])
          (.step (.bin .lss 5 15) <|
          .ite 17
            (.step (.ci .i64 7) <|
            .ret [9, 18])
            (.step (.bin .add 2 12) <|
            .tail 17 [0, 1, 18])))))
    (.step (.ci .i64 1) <|
    .ret [4])
/-- (postmark/descr.Descr).Key, function 21, the loop [0]. -/
def d11 : PDef := .tree 4 <|
  .step (.bin .lss 2 1) <|
  .ite 4
    (.step (.at 2 0 2) <|
    .step (.cell 0 5) <|
    .step (.cell 1 5) <|
    .step (.mk [6, 7]) <|
    .step (.call 12 [8] 0) <|
    .step (.bytes 9) <|
    .step (.app 1 1 3 10) <|
    .step (.slen 9) <|
    .step (.ci .i64 1) <|
    .step (.bin .add 2 13) <|
    .tail 11 [0, 1, 14, 11])
    (.step (.ci .i64 0) <|
    .ret [5, 3])
/-- postmark/postmarkref13.Of, function 8, the loop [0]. -/
def d29 : PDef := .tree 3 <|
  .step (.bin .lss 2 1) <|
  .ite 3
    (.step (.at 2 0 2) <|
    .step (.cell 0 4) <|
    .step (.cell 1 4) <|
    .step (.mk [5, 6]) <|
    .step (.call 30 [7] 0) <|
    .step (.ci .i64 0) <|
    .step (.bin .neq 8 9) <|
    .ite 10
      (.ret [9, 8])
      (.step (.ci .i64 1) <|
      .step (.bin .add 2 11) <|
      .tail 29 [0, 1, 12]))
    (.step (.ci .i64 1) <|
    .ret [4])
/-- postmark/varint.Put, function 34, the loop [0]. -/
def d10 : PDef := .tree 4 <|
  .step (.bin .lss 3 2) <|
  .ite 4
    (.step (.ci .u64 127) <|
    .step (.bin .and 0 5) <|
    .step (.conv .u8 6) <|
    .step (.ci .u8 128) <|
    .step (.bin .or 7 8) <|
    .step (.idx 1 3) <|
    .step (.upd 1 0 1 10 [9]) <|
    .step (.ci .u64 7) <|
    .step (.bin .shr 0 12) <|
    .step (.ci .i64 1) <|
    .step (.bin .add 3 14) <|
    .tail 10 [13, 11, 2, 15])
    (.step (.ci .i64 0) <|
    .ret [5, 1])
/-- postmark/postmarklaw12.Few, function 6, the loop [0]. -/
def d5 : PDef := .tree 3 <|
  .step (.bin .lss 2 1) <|
  .ite 3
    (.step (.at 2 0 2) <|
    .step (.cell 0 4) <|
    .step (.cell 1 4) <|
    .step (.slen 5) <|
    .step (.slen 6) <|
    .step (.bin .add 7 8) <|
    .step (.ci .i64 600) <|
    .step (.bin .gtr 9 10) <|
    .ite 11
      (.step (.ci .i64 0) <|
      .ret [12])
      (.step (.ci .i64 1) <|
      .step (.bin .add 2 12) <|
      .tail 5 [0, 1, 13]))
    (.step (.ci .i64 1) <|
    .ret [4])
/-- postmark/postmarkref07.Good, function 95, the loop [0]. -/
def d36 : PDef := .tree 1 <|
  .step (.slen 0) <|
  .step (.ci .i64 0) <|
  .step (.bin .gtr 1 2) <|
  .ite 3
    (.step (.call 37 [0] 0) <|
    .step (.bin .eql 4 2) <|
    .ite 5
      (.ret [2])
      (.step (.ssub 0 4 1) <|
      .tail 36 [6]))
    (.step (.ci .i64 1) <|
    .ret [4])
/-- postmark/postmarkref02.Put, function 46, the loop [0]. -/
def d47 : PDef := .tree 2 <|
  .step (.ci .u64 127) <|
  .step (.bin .gtr 0 2) <|
  .ite 3
    (.step (.ci .u64 128) <|
    .step (.bin .rem 0 4) <|
    .step (.bin .add 5 4) <|
    .step (.conv .u8 6) <|
    .step (.ml [7]) <|
    .step (.str 8) <|
    .step (.bin .add 1 9) <|
    .step (.bin .quo 0 4) <|
    .tail 47 [11, 10])
    (.step (.ci .i64 0) <|
    .ret [4, 0, 1])
/-- slices.EqualFunc[postmark/table.Table,postmark/table.Table,postmark/table.Row,postmark/table.Row], function 29, the loop [0]. -/
def d60 : PDef := .tree 4 <|
  .step (.bin .lss 3 2) <|
  .ite 4
    (.step (.at 2 1 3) <|
    .step (.cell 0 5) <|
    .step (.cell 1 5) <|
    .step (.at 2 0 3) <|
    .step (.cell 0 8) <|
    .step (.cell 1 8) <|
    .step (.mk [6, 7]) <|
    .step (.mk [9, 10]) <|
    .step (.call 61 [11, 12] 0) <|
    .step (.un .not 13) <|
    .ite 14
      (.step (.ci .i64 0) <|
      .ret [15])
      (.step (.ci .i64 1) <|
      .step (.bin .add 3 15) <|
      .tail 60 [0, 1, 2, 16]))
    (.step (.ci .i64 1) <|
    .ret [5])
/-- postmark/postmarkref13.AtLeast, function 19, the loop [0]. -/
def d74 : PDef := .tree 4 <|
  .step (.bin .lss 3 2) <|
  .ite 4
    (.step (.at 2 1 3) <|
    .step (.cell 0 5) <|
    .step (.cell 1 5) <|
    .step (.call 68 [0, 6] 0) <|
    .step (.bin .lss 8 7) <|
    .ite 9
      (.step (.ci .i64 0) <|
      .ret [10])
      (.step (.ci .i64 1) <|
      .step (.bin .add 3 10) <|
      .tail 74 [0, 1, 2, 11]))
    (.step (.ci .i64 1) <|
    .ret [5])
/-- postmark/varint.Size, function 51, the loop [0]. -/
def d9 : PDef := .tree 2 <|
  .step (.ci .u64 128) <|
  .step (.bin .geq 0 2) <|
  .ite 3
    (.step (.ci .u64 7) <|
    .step (.bin .shr 0 4) <|
    .step (.ci .i64 1) <|
    .step (.bin .add 1 6) <|
    .tail 9 [5, 7])
    (.step (.ci .i64 0) <|
    .ret [4, 1])
def Ds : List PDef := [d0, d1, d2, d3, d4, d5, d6, d7, d8, d9, d10, d11, d12, d13, d14, d15, d16, d17, d18, d19, d20, d21, d22, d23, d24, d25, d26, d27, d28, d29, d30, d31, d32, d33, d34, d35, d36, d37, d38, d39, d40, d41, d42, d43, d44, d45, d46, d47, d48, d49, d50, d51, d52, d53, d54, d55, d56, d57, d58, d59, d60, d61, d62, d63, d64, d65, d66, d67, d68, d69, d70, d71, d72, d73, d74]
noncomputable abbrev TT : PProg := TofL Ds
end
end W
end Go.Proofs.YtehcokoigbiciaaGreatDoor
