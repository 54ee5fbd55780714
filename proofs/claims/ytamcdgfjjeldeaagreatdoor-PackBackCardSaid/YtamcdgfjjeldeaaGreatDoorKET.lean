/- What functions and loops compute: trees of nodes, found by a driver. -/
import Derived.Test.YtamcdgfjjeldeaaGreatDoorAbsJ
import Derived.Test.YtamcdgfjjeldeaaGreatDoorAbsPl
import Derived.Test.YtamcdgfjjeldeaaGreatDoorAbsTold
namespace Go.Proofs.YtamcdgfjjeldeaaGreatDoor
open Go Go.Abs
set_option maxRecDepth 100000
set_option linter.unusedVariables false
set_option linter.unusedSimpArgs false
namespace E
noncomputable section
/-- postmark/postmarkref12.behind, function 162, plain functions []. -/
def d76 : PDef := .fn [.ag 2, .ag 2] [.sc] <|
  .step (.cell 0 0) <|
  .step (.cell 1 0) <|
  .step (.cell 0 1) <|
  .step (.cell 1 1) <|
  .step (.bin .eql 2 4) <|
  .ite 6
    (.step (.ci .i64 14) <|
    .ret [7])
    (.step (.mk [2, 3]) <|
    .step (.mk [4, 5]) <|
    .step (.call 21 [7, 8] 0) <|
    .step (.ci .i64 0) <|
    .step (.bin .gtr 9 10) <|
    .ite 11
      (.step (.ci .i64 7) <|
      .ret [12])
      (.ret [10]))
/-- postmark/postmarkref11.Next, function 166, plain functions []. -/
def d97 : PDef := .fn [.sc] [.ag 2, .sc, .sc] <|
  .step (.call 98 [0] 0) <|
  .step (.call 98 [0] 1) <|
  .step (.call 98 [0] 2) <|
  .step (.ci .i64 0) <|
  .step (.bin .neq 3 4) <|
  .ite 5
    (.step (.cs []) <|
    .step (.mk [6, 6]) <|
    .ret [7, 6, 3])
    (.step (.call 98 [2] 0) <|
    .step (.call 98 [2] 1) <|
    .step (.call 98 [2] 2) <|
    .step (.bin .neq 8 4) <|
    .ite 9
      (.step (.cs []) <|
      .step (.mk [10, 10]) <|
      .ret [11, 10, 8])
      (.step (.mk [1, 6]) <|
      .step (.call 70 [10] 0) <|
      .step (.bin .neq 11 4) <|
      .ite 12
        (.step (.cs []) <|
        .step (.mk [13, 13]) <|
        .ret [14, 13, 11])
        (.ret [10, 7, 4])))
/-- postmark/utf.Good, function 197, plain functions []. -/
def d57 : PDef := .fn [.sc] [.sc] <|
  .step (.call 58 [0] 0) <|
  .ret [1]
/-- postmark/postmarkref13.Check, function 26, plain functions []. -/
def d65 : PDef := .fn [.sc] [.sc] <|
  .step (.len 0) <|
  .step (.ci .i64 256) <|
  .step (.bin .gtr 1 2) <|
  .ite 3
    (.step (.ci .i64 13) <|
    .ret [4])
    (.step (.ci .i64 0) <|
    .step (.call 66 [0, 1, 4] 0) <|
    .step (.bin .eql 5 4) <|
    .ite 6
      (.step (.call 66 [0, 1, 4] 1) <|
      .ret [7])
      (.ret [4]))
/-- slices.EqualFunc[postmark/table.Table,postmark/table.Table,postmark/table.Row,postmark/table.Row], function 86, plain functions [none, none, some 87]. -/
def d105 : PDef := .fn [.sc, .sc] [.sc] <|
  .step (.len 0) <|
  .step (.len 1) <|
  .step (.bin .neq 2 3) <|
  .ite 4
    (.step (.cb false) <|
    .ret [5])
    (.step (.ci .i64 0) <|
    .step (.call 106 [1, 0, 2, 5] 0) <|
    .step (.bin .eql 6 5) <|
    .ite 7
      (.step (.cb false) <|
      .ret [8])
      (.step (.cb true) <|
      .ret [8]))
/-- postmark/utf.Check, function 177, plain functions []. -/
def d56 : PDef := .fn [.sc, .sc, .sc] [.sc] <|
  .step (.slen 0) <|
  .step (.bin .lss 3 1) <|
  .ite 4
    (.step (.ci .i64 13) <|
    .ret [5])
    (.step (.bin .gtr 3 2) <|
    .ite 5
      (.step (.ci .i64 13) <|
      .ret [6])
      (.step (.call 57 [0] 0) <|
      .step (.un .not 6) <|
      .ite 7
        (.step (.ci .i64 11) <|
        .ret [8])
        (.step (.ci .i64 0) <|
        .ret [8])))
/-- postmark/descr.Parse, function 131, plain functions []. -/
def d86 : PDef := .fn [.sc] [.sc, .sc] <|
  .step (.ci .i64 0) <|
  .step (.call 87 [0, 1] 0) <|
  .step (.call 87 [0, 1] 1) <|
  .step (.call 87 [0, 1] 2) <|
  .step (.call 87 [0, 1] 3) <|
  .step (.call 87 [0, 1] 4) <|
  .step (.bin .neq 4 1) <|
  .ite 7
    (.step (.ml []) <|
    .ret [8, 4])
    (.step (.slen 5) <|
    .step (.bin .sub 8 6) <|
    .step (.bin .gtr 9 1) <|
    .ite 10
      (.step (.ml []) <|
      .step (.ci .i64 10) <|
      .ret [11, 12])
      (.ret [3, 1]))
/-- postmark/prefix.Put, function 33, plain functions []. -/
def d3 : PDef := .fn [.sc] [.sc, .sc] <|
  .step (.len 0) <|
  .step (.ci .i64 0) <|
  .step (.bin .lss 2 1) <|
  .ite 3
    (.step (.at 1 0 2) <|
    .step (.cell 0 4) <|
    .step (.cs []) <|
    .step (.call 5 [6, 5] 0) <|
    .step (.bytes 7) <|
    .step (.ml []) <|
    .step (.app 1 1 9 8) <|
    .step (.slen 7) <|
    .step (.ci .i64 1) <|
    .step (.call 12 [5, 0, 1, 12, 10] 0) <|
    .step (.bin .eql 13 2) <|
    .ite 14
      (.step (.ci .i64 7) <|
      .ret [6, 15])
      (.step (.call 12 [5, 0, 1, 12, 10] 1) <|
      .step (.len 15) <|
      .step (.str 15) <|
      .ret [17, 2]))
    (.step (.cs []) <|
    .ret [4, 2])
/-- postmark/postmarklaw15.PackBack, function 9, plain functions []. -/
def d103 : PDef := .fn [.sc, .sc] [.sc] <|
  .step (.call 42 [0] 0) <|
  .step (.un .not 2) <|
  .ite 3
    (.step (.cb true) <|
    .ret [4])
    (.step (.slen 1) <|
    .step (.ci .i64 6000) <|
    .step (.bin .gtr 4 5) <|
    .ite 6
      (.step (.cb true) <|
      .ret [7])
      (.step (.call 49 [0] 0) <|
      .step (.call 49 [0] 1) <|
      .step (.ci .i64 0) <|
      .step (.bin .eql 8 9) <|
      .ite 10
        (.step (.call 82 [7] 0) <|
        .step (.call 82 [7] 1) <|
        .step (.cs [120]) <|
        .step (.bin .add 7 13) <|
        .step (.call 82 [14] 0) <|
        .step (.call 82 [14] 1) <|
        .step (.bin .neq 12 9) <|
        .ite 17
          (.step (.cb false) <|
          .ret [18])
          (.step (.ci .i64 10) <|
          .step (.bin .neq 16 18) <|
          .ite 19
            (.step (.cb false) <|
            .ret [20])
            (.step (.call 104 [11, 0] 0) <|
            .step (.un .not 20) <|
            .ite 21
              (.step (.cb false) <|
              .ret [22])
              (.step (.call 82 [1] 0) <|
              .step (.call 82 [1] 1) <|
              .step (.bin .neq 23 9) <|
              .ite 24
                (.step (.len 22) <|
                .step (.bin .eql 25 9) <|
                .ret [26])
                (.step (.call 49 [22] 0) <|
                .step (.call 49 [22] 1) <|
                .step (.bin .eql 26 9) <|
                .ite 27
                  (.step (.bin .eql 25 1) <|
                  .ite 28
                    (.step (.call 50 [22] 0) <|
                    .step (.bin .eql 29 9) <|
                    .ret [30])
                    (.step (.cb false) <|
                    .ret [29]))
                  (.step (.cb false) <|
                  .ret [28]))))))
        (.step (.call 82 [1] 0) <|
        .step (.call 82 [1] 1) <|
        .step (.bin .neq 12 9) <|
        .ite 13
          (.step (.len 11) <|
          .step (.bin .eql 14 9) <|
          .ret [15])
          (.step (.call 49 [11] 0) <|
          .step (.call 49 [11] 1) <|
          .step (.bin .eql 15 9) <|
          .ite 16
            (.step (.bin .eql 14 1) <|
            .ite 17
              (.step (.call 50 [11] 0) <|
              .step (.bin .eql 18 9) <|
              .ret [19])
              (.step (.cb false) <|
              .ret [18]))
            (.step (.cb false) <|
            .ret [17])))))
/-- postmark/varint.Put, function 99, plain functions []. -/
def d8 : PDef := .fn [.sc] [.sc] <|
  .step (.call 9 [0] 0) <|
  .step (.ci .u8 0) <|
  .step (.rep 1 1 2 1 1) <|
  .step (.len 3) <|
  .step (.ci .i64 0) <|
  .step (.call 11 [0, 3, 4, 5] 0) <|
  .step (.call 11 [0, 3, 4, 5] 1) <|
  .step (.len 7) <|
  .step (.ci .i64 1) <|
  .step (.bin .sub 8 9) <|
  .step (.idx 7 10) <|
  .step (.at 1 7 11) <|
  .step (.cell 0 12) <|
  .step (.ci .u8 127) <|
  .step (.bin .and 13 14) <|
  .step (.upd 1 0 7 11 [15]) <|
  .step (.str 16) <|
  .ret [17]
/-- postmark/postmarkref11.less, function 163, plain functions []. -/
def d22 : PDef := .fn [.sc, .sc] [.sc] <|
  .step (.ci .i64 0) <|
  .step (.call 23 [0, 1, 2] 0) <|
  .step (.bin .eql 3 2) <|
  .ite 4
    (.step (.call 23 [0, 1, 2] 1) <|
    .ret [5])
    (.step (.call 23 [0, 1, 2] 1) <|
    .step (.call 23 [0, 1, 2] 2) <|
    .step (.slen 5) <|
    .step (.slen 6) <|
    .step (.bin .lss 7 8) <|
    .ret [9])
/-- postmark/pack.Put, function 50, plain functions []. -/
def d49 : PDef := .fn [.sc] [.sc, .sc] <|
  .step (.call 50 [0] 0) <|
  .step (.ci .i64 0) <|
  .step (.bin .neq 1 2) <|
  .ite 3
    (.step (.cs []) <|
    .ret [4, 1])
    (.step (.len 0) <|
    .step (.conv .u64 4) <|
    .step (.call 8 [5] 0) <|
    .step (.bytes 6) <|
    .step (.ml []) <|
    .step (.app 1 1 8 7) <|
    .step (.slen 6) <|
    .step (.cs []) <|
    .step (.call 59 [11, 0, 4, 2, 9] 0) <|
    .step (.call 59 [11, 0, 4, 2, 9] 1) <|
    .step (.len 13) <|
    .step (.str 13) <|
    .ret [15, 2])
/-- (postmark/descr.Descr).Key, function 81, plain functions []. -/
def d46 : PDef := .fn [.sc] [.sc] <|
  .step (.len 0) <|
  .step (.conv .u64 1) <|
  .step (.call 8 [2] 0) <|
  .step (.bytes 3) <|
  .step (.ml []) <|
  .step (.app 1 1 5 4) <|
  .step (.slen 3) <|
  .step (.ci .i64 0) <|
  .step (.call 47 [0, 1, 8, 6] 0) <|
  .step (.call 47 [0, 1, 8, 6] 1) <|
  .step (.len 10) <|
  .step (.str 10) <|
  .ret [12]
/-- postmark/postmarklaw15.PackTells, function 8, plain functions []. -/
def d41 : PDef := .fn [.sc, .sc] [.sc] <|
  .step (.call 42 [0] 0) <|
  .step (.un .not 2) <|
  .ite 3
    (.step (.cb true) <|
    .ret [4])
    (.step (.slen 1) <|
    .step (.ci .i64 6000) <|
    .step (.bin .gtr 4 5) <|
    .ite 6
      (.step (.cb true) <|
      .ret [7])
      (.step (.call 49 [0] 0) <|
      .step (.call 49 [0] 1) <|
      .step (.call 60 [0] 0) <|
      .step (.call 64 [9] 0) <|
      .step (.call 64 [9] 1) <|
      .step (.call 82 [1] 0) <|
      .step (.call 82 [1] 1) <|
      .step (.call 91 [1] 0) <|
      .step (.call 91 [1] 1) <|
      .step (.ci .i64 0) <|
      .step (.call 83 [1, 16] 0) <|
      .step (.call 83 [1, 16] 1) <|
      .step (.call 83 [1, 16] 2) <|
      .step (.call 83 [1, 16] 3) <|
      .step (.call 83 [1, 16] 4) <|
      .step (.call 92 [1] 0) <|
      .step (.call 92 [1] 1) <|
      .step (.call 92 [1] 2) <|
      .step (.call 99 [] 0) <|
      .step (.bin .eql 7 10) <|
      .ite 26
        (.step (.bin .eql 8 11) <|
        .ite 27
          (.step (.call 60 [12] 0) <|
          .step (.call 100 [28, 14] 0) <|
          .ite 29
            (.step (.bin .eql 13 15) <|
            .ite 30
              (.step (.call 60 [18] 0) <|
              .step (.call 100 [31, 22] 0) <|
              .ite 32
                (.step (.bin .eql 19 24) <|
                .ite 33
                  (.step (.bin .neq 19 16) <|
                  .ite 34
                    (.step (.cb true) <|
                    .ret [35])
                    (.step (.slen 20) <|
                    .step (.ssub 20 21 35) <|
                    .step (.bin .eql 36 23) <|
                    .ite 37
                      (.step (.cb true) <|
                      .ret [38])
                      (.step (.cb false) <|
                      .ret [38])))
                  (.step (.cb false) <|
                  .ret [34]))
                (.step (.cb false) <|
                .ret [33]))
              (.step (.cb false) <|
              .ret [31]))
            (.step (.cb false) <|
            .ret [30]))
          (.step (.cb false) <|
          .ret [28]))
        (.step (.cb false) <|
        .ret [27])))
/-- postmark/postmarkref15.Get, function 53, plain functions []. -/
def d91 : PDef := .fn [.sc] [.sc, .sc] <|
  .step (.call 92 [0] 0) <|
  .step (.call 92 [0] 1) <|
  .step (.call 92 [0] 2) <|
  .step (.ci .i64 0) <|
  .step (.bin .neq 3 4) <|
  .ite 5
    (.step (.ml []) <|
    .ret [6, 3])
    (.step (.cs []) <|
    .step (.bin .neq 2 6) <|
    .ite 7
      (.step (.ml []) <|
      .step (.ci .i64 10) <|
      .ret [8, 9])
      (.ret [1, 4]))
/-- slices.Equal[[]string,string], function 40, plain functions []. -/
def d38 : PDef := .fn [.sc, .sc] [.sc] <|
  .step (.len 0) <|
  .step (.len 1) <|
  .step (.bin .neq 2 3) <|
  .ite 4
    (.step (.cb false) <|
    .ret [5])
    (.step (.ci .i64 0) <|
    .step (.call 39 [0, 1, 2, 5] 0) <|
    .step (.bin .eql 6 5) <|
    .ite 7
      (.step (.cb false) <|
      .ret [8])
      (.step (.cb true) <|
      .ret [8]))
/-- postmark/postmarkref14.One, function 45, plain functions []. -/
def d15 : PDef := .fn [.sc, .sc] [.sc] <|
  .step (.call 16 [0, 1] 0) <|
  .step (.conv .u64 2) <|
  .step (.call 18 [3] 0) <|
  .step (.slen 1) <|
  .step (.bin .sub 5 2) <|
  .step (.conv .u64 6) <|
  .step (.call 18 [7] 0) <|
  .step (.bin .add 4 8) <|
  .step (.ssub 1 2 5) <|
  .step (.bin .add 9 10) <|
  .ret [11]
/-- postmark/postmarkref12.Check, function 124, plain functions []. -/
def d68 : PDef := .fn [.sc] [.sc] <|
  .step (.len 0) <|
  .step (.conv .u64 1) <|
  .step (.ci .u64 0) <|
  .step (.bin .eql 2 3) <|
  .ite 4
    (.step (.ci .i64 12) <|
    .step (.ci .i64 0) <|
    .step (.call 69 [0, 5, 6] 0) <|
    .step (.call 69 [0, 5, 6] 1) <|
    .ret [8])
    (.step (.ci .u64 16) <|
    .step (.bin .gtr 2 5) <|
    .ite 6
      (.step (.ci .i64 13) <|
      .step (.ci .i64 0) <|
      .step (.call 69 [0, 7, 8] 0) <|
      .step (.call 69 [0, 7, 8] 1) <|
      .ret [10])
      (.step (.ci .i64 0) <|
      .step (.call 69 [0, 7, 7] 0) <|
      .step (.call 69 [0, 7, 7] 1) <|
      .ret [9]))
/-- postmark/postmarkref07.Check, function 183, plain functions []. -/
def d71 : PDef := .fn [.sc, .sc, .sc] [.sc] <|
  .step (.slen 0) <|
  .step (.bin .lss 3 1) <|
  .ite 4
    (.step (.ci .i64 13) <|
    .ret [5])
    (.step (.bin .gtr 3 2) <|
    .ite 5
      (.step (.ci .i64 13) <|
      .ret [6])
      (.step (.call 72 [0] 0) <|
      .step (.un .not 6) <|
      .ite 7
        (.step (.ci .i64 11) <|
        .ret [8])
        (.step (.ci .i64 0) <|
        .ret [8])))
/-- postmark/varint.Size, function 129, plain functions []. -/
def d9 : PDef := .fn [.sc] [.sc] <|
  .step (.ci .i64 1) <|
  .step (.call 10 [0, 1] 0) <|
  .step (.call 10 [0, 1] 1) <|
  .ret [3]
/-- postmark/postmarkref02.Put, function 100, plain functions []. -/
def d18 : PDef := .fn [.sc] [.sc] <|
  .step (.cs []) <|
  .step (.call 19 [0, 1] 0) <|
  .step (.call 19 [0, 1] 1) <|
  .step (.call 19 [0, 1] 2) <|
  .step (.conv .u8 3) <|
  .step (.ml [5]) <|
  .step (.str 6) <|
  .step (.bin .add 4 7) <|
  .ret [8]
/-- postmark/postmarkref14.All, function 36, plain functions []. -/
def d30 : PDef := .fn [.sc] [.sc, .sc] <|
  .step (.cs []) <|
  .step (.ml []) <|
  .step (.call 31 [0, 2, 1] 0) <|
  .step (.ci .i64 0) <|
  .step (.bin .eql 3 4) <|
  .ite 5
    (.step (.call 31 [0, 2, 1] 1) <|
    .ret [2, 6])
    (.step (.call 31 [0, 2, 1] 1) <|
    .ret [6, 4])
/-- postmark/postmarkref15.Put, function 51, plain functions []. -/
def d64 : PDef := .fn [.sc] [.sc, .sc] <|
  .step (.call 65 [0] 0) <|
  .step (.ci .i64 0) <|
  .step (.bin .neq 1 2) <|
  .ite 3
    (.step (.cs []) <|
    .ret [4, 1])
    (.step (.call 80 [0] 0) <|
    .ret [4, 2])
/-- (postmark/table.Table).Check, function 21, plain functions []. -/
def d50 : PDef := .fn [.sc] [.sc] <|
  .step (.len 0) <|
  .step (.ci .i64 256) <|
  .step (.bin .gtr 1 2) <|
  .ite 3
    (.step (.ci .i64 13) <|
    .ret [4])
    (.step (.cs []) <|
    .step (.ci .i64 0) <|
    .step (.call 51 [4, 0, 1, 5] 0) <|
    .step (.bin .eql 6 5) <|
    .ite 7
      (.step (.call 51 [4, 0, 1, 5] 1) <|
      .ret [8])
      (.ret [5]))
/-- postmark/postmarklaw12.Few, function 22, plain functions []. -/
def d44 : PDef := .fn [.sc] [.sc] <|
  .step (.len 0) <|
  .step (.ci .i64 0) <|
  .step (.call 45 [0, 1, 2] 0) <|
  .step (.bin .eql 3 2) <|
  .ite 4
    (.step (.cb false) <|
    .ret [5])
    (.step (.call 45 [0, 1, 2] 1) <|
    .step (.len 5) <|
    .step (.ci .i64 40) <|
    .step (.bin .leq 6 7) <|
    .ret [8])
/-- postmark/postmarkref11.Put, function 126, plain functions []. -/
def d79 : PDef := .fn [.ag 2] [.sc] <|
  .step (.cell 0 0) <|
  .step (.cell 1 0) <|
  .step (.slen 1) <|
  .step (.conv .u64 3) <|
  .step (.call 18 [4] 0) <|
  .step (.bin .add 5 1) <|
  .step (.slen 2) <|
  .step (.conv .u64 7) <|
  .step (.call 18 [8] 0) <|
  .step (.bin .add 6 9) <|
  .step (.bin .add 10 2) <|
  .ret [11]
/-- postmark/table.Same, function 19, plain functions []. -/
def d104 : PDef := .fn [.sc, .sc] [.sc] <|
  .step (.call 105 [0, 1] 0) <|
  .ret [2]
/-- postmark/postmarkref14.Common, function 43, plain functions []. -/
def d16 : PDef := .fn [.sc, .sc] [.sc] <|
  .step (.ci .i64 0) <|
  .step (.call 17 [0, 1, 2] 0) <|
  .step (.bin .eql 3 2) <|
  .ite 4
    (.step (.call 17 [0, 1, 2] 1) <|
    .ret [5])
    (.step (.call 17 [0, 1, 2] 1) <|
    .step (.call 17 [0, 1, 2] 2) <|
    .step (.slen 5) <|
    .step (.slen 6) <|
    .step (.mm false 7 8) <|
    .ret [9])
/-- (postmark/entry.Entry).Check, function 139, plain functions []. -/
def d55 : PDef := .fn [.ag 2] [.sc] <|
  .step (.cell 0 0) <|
  .step (.cell 1 0) <|
  .step (.ci .i64 1) <|
  .step (.ci .i64 64) <|
  .step (.call 56 [1, 3, 4] 0) <|
  .step (.ci .i64 0) <|
  .step (.bin .neq 5 6) <|
  .ite 7
    (.ret [5])
    (.step (.ci .i64 256) <|
    .step (.call 56 [2, 6, 8] 0) <|
    .ret [9])
/-- postmark/postmarklaw12.To, function 29, plain functions []. -/
def d62 : PDef := .fn [.sc] [.sc] <|
  .step (.len 0) <|
  .step (.ci .i64 0) <|
  .step (.ml []) <|
  .step (.call 63 [3, 0, 1, 2] 0) <|
  .step (.call 63 [3, 0, 1, 2] 1) <|
  .ret [5]
/-- postmark/pack.Get, function 52, plain functions []. -/
def d82 : PDef := .fn [.sc] [.sc, .sc] <|
  .step (.ci .i64 0) <|
  .step (.call 83 [0, 1] 0) <|
  .step (.call 83 [0, 1] 1) <|
  .step (.call 83 [0, 1] 2) <|
  .step (.call 83 [0, 1] 3) <|
  .step (.call 83 [0, 1] 4) <|
  .step (.bin .neq 4 1) <|
  .ite 7
    (.step (.ml []) <|
    .ret [8, 4])
    (.step (.slen 5) <|
    .step (.bin .sub 8 6) <|
    .step (.bin .gtr 9 1) <|
    .ite 10
      (.step (.ml []) <|
      .step (.ci .i64 10) <|
      .ret [11, 12])
      (.ret [3, 1]))
/-- postmark/postmarklaw13.Few, function 16, plain functions []. -/
def d42 : PDef := .fn [.sc] [.sc] <|
  .step (.len 0) <|
  .step (.ci .i64 0) <|
  .step (.call 43 [0, 1, 2] 0) <|
  .step (.bin .eql 3 2) <|
  .ite 4
    (.step (.cb false) <|
    .ret [5])
    (.step (.call 43 [0, 1, 2] 1) <|
    .step (.len 5) <|
    .step (.ci .i64 300) <|
    .step (.bin .leq 6 7) <|
    .ret [8])
/-- (postmark/descr.Descr).Check, function 117, plain functions []. -/
def d53 : PDef := .fn [.sc] [.sc] <|
  .step (.len 0) <|
  .step (.conv .u64 1) <|
  .step (.ci .u64 0) <|
  .step (.bin .eql 2 3) <|
  .ite 4
    (.step (.ci .i64 12) <|
    .ret [5])
    (.step (.ci .u64 16) <|
    .step (.bin .gtr 2 5) <|
    .ite 6
      (.step (.ci .i64 13) <|
      .ret [7])
      (.step (.ci .i64 0) <|
      .step (.call 54 [0, 1, 7] 0) <|
      .step (.bin .eql 8 7) <|
      .ite 9
        (.step (.call 54 [0, 1, 7] 1) <|
        .ret [10])
        (.ret [7])))
/-- unicode/utf8.ValidString is told. -/
abbrev d58 : PDef := .prim validP
/-- postmark/postmarkref12.Key, function 91, plain functions []. -/
def d77 : PDef := .fn [.sc] [.sc] <|
  .step (.len 0) <|
  .step (.conv .u64 1) <|
  .step (.call 18 [2] 0) <|
  .step (.ci .i64 0) <|
  .step (.call 78 [3, 0, 1, 4] 0) <|
  .step (.call 78 [3, 0, 1, 4] 1) <|
  .ret [6]
/-- postmark/postmarkref12.Less, function 90, plain functions []. -/
def d20 : PDef := .fn [.sc, .sc] [.sc] <|
  .step (.cs []) <|
  .step (.mk [0, 2]) <|
  .step (.mk [1, 2]) <|
  .step (.call 21 [3, 4] 0) <|
  .step (.ci .i64 0) <|
  .step (.bin .lss 5 6) <|
  .ret [7]
/-- postmark/postmarkref15.Text, function 104, plain functions []. -/
def d80 : PDef := .fn [.sc] [.sc] <|
  .step (.len 0) <|
  .step (.conv .u64 1) <|
  .step (.call 18 [2] 0) <|
  .step (.ci .i64 0) <|
  .step (.call 81 [0, 3, 1, 4] 0) <|
  .step (.call 81 [0, 3, 1, 4] 1) <|
  .ret [6]
/-- postmark/postmarkref07.Good, function 199, plain functions []. -/
def d72 : PDef := .fn [.sc] [.sc] <|
  .step (.call 73 [0] 0) <|
  .step (.ci .i64 0) <|
  .step (.bin .eql 1 2) <|
  .ite 3
    (.step (.cb false) <|
    .ret [4])
    (.step (.cb true) <|
    .ret [4])
/-- postmark/table.Same$1, function 87, plain functions []. -/
def d107 : PDef := .fn [.ag 2, .ag 2] [.sc] <|
  .step (.cell 0 0) <|
  .step (.cell 1 0) <|
  .step (.cell 0 1) <|
  .step (.cell 1 1) <|
  .step (.bin .eql 3 5) <|
  .ite 6
    (.step (.call 108 [2, 4] 0) <|
    .ret [7])
    (.step (.cb false) <|
    .ret [7])
/-- postmark/prefix.All, function 35, plain functions []. -/
def d24 : PDef := .fn [.sc] [.sc, .sc] <|
  .step (.cs []) <|
  .step (.ci .i64 0) <|
  .step (.ml []) <|
  .step (.call 25 [3, 1, 0, 2] 0) <|
  .step (.bin .eql 4 2) <|
  .ite 5
    (.step (.call 25 [3, 1, 0, 2] 1) <|
    .ret [3, 6])
    (.step (.call 25 [3, 1, 0, 2] 1) <|
    .ret [6, 2])
/-- postmark/postmarklaw14.few, function 32, plain functions []. -/
def d1 : PDef := .fn [.sc] [.sc] <|
  .step (.len 0) <|
  .step (.ci .i64 0) <|
  .step (.call 2 [0, 1, 2] 0) <|
  .step (.bin .eql 3 2) <|
  .ite 4
    (.step (.cb false) <|
    .ret [5])
    (.step (.call 2 [0, 1, 2] 1) <|
    .step (.len 5) <|
    .step (.ci .i64 60) <|
    .step (.bin .leq 6 7) <|
    .ret [8])
/-- postmark/postmarkref11.text, function 185, plain functions []. -/
def d98 : PDef := .fn [.sc] [.sc, .sc, .sc] <|
  .step (.call 33 [0] 0) <|
  .step (.call 33 [0] 1) <|
  .step (.call 33 [0] 2) <|
  .step (.ci .i64 0) <|
  .step (.bin .neq 3 4) <|
  .ite 5
    (.step (.cs []) <|
    .ret [6, 6, 3])
    (.step (.slen 0) <|
    .step (.bin .sub 6 2) <|
    .step (.conv .u64 7) <|
    .step (.bin .gtr 1 8) <|
    .ite 9
      (.step (.cs []) <|
      .step (.ci .i64 1) <|
      .ret [10, 10, 11])
      (.step (.conv .i64 1) <|
      .step (.bin .add 2 10) <|
      .step (.ssub 0 2 11) <|
      .step (.ssub 0 11 6) <|
      .ret [12, 13, 4]))
/-- postmark/postmarkref02.Get, function 98, plain functions []. -/
def d33 : PDef := .fn [.sc] [.sc, .sc, .sc] <|
  .step (.ci .i64 0) <|
  .step (.call 34 [0, 1, 1] 0) <|
  .step (.call 34 [0, 1, 1] 1) <|
  .step (.call 34 [0, 1, 1] 2) <|
  .step (.bin .eql 4 1) <|
  .ite 5
    (.step (.slen 3) <|
    .step (.ci .i64 10) <|
    .step (.bin .geq 6 7) <|
    .ite 8
      (.step (.ci .u64 0) <|
      .step (.ci .i64 3) <|
      .ret [9, 1, 10])
      (.step (.ci .u64 0) <|
      .step (.ci .i64 1) <|
      .ret [9, 1, 10]))
    (.step (.ci .i64 10) <|
    .step (.bin .eql 4 6) <|
    .ite 7
      (.step (.ci .i64 9) <|
      .step (.sidx 3 8) <|
      .step (.ci .u8 1) <|
      .step (.bin .gtr 9 10) <|
      .ite 11
        (.step (.ci .u64 0) <|
        .step (.ci .i64 3) <|
        .ret [12, 1, 13])
        (.step (.ci .i64 1) <|
        .step (.bin .gtr 4 12) <|
        .ite 13
          (.step (.bin .sub 4 12) <|
          .step (.sidx 3 14) <|
          .step (.ci .u8 0) <|
          .step (.bin .eql 15 16) <|
          .ite 17
            (.step (.ci .u64 0) <|
            .step (.ci .i64 2) <|
            .ret [18, 1, 19])
            (.step (.ci .u64 0) <|
            .step (.ci .u64 1) <|
            .step (.call 35 [3, 4, 18, 19, 1] 0) <|
            .step (.call 35 [3, 4, 18, 19, 1] 1) <|
            .step (.call 35 [3, 4, 18, 19, 1] 2) <|
            .ret [22, 21, 1]))
          (.step (.ci .u64 0) <|
          .step (.ci .u64 1) <|
          .step (.call 35 [3, 4, 14, 15, 1] 0) <|
          .step (.call 35 [3, 4, 14, 15, 1] 1) <|
          .step (.call 35 [3, 4, 14, 15, 1] 2) <|
          .ret [18, 17, 1])))
      (.step (.ci .i64 1) <|
      .step (.bin .gtr 4 8) <|
      .ite 9
        (.step (.bin .sub 4 8) <|
        .step (.sidx 3 10) <|
        .step (.ci .u8 0) <|
        .step (.bin .eql 11 12) <|
        .ite 13
          (.step (.ci .u64 0) <|
          .step (.ci .i64 2) <|
          .ret [14, 1, 15])
          (.step (.ci .u64 0) <|
          .step (.ci .u64 1) <|
          .step (.call 35 [3, 4, 14, 15, 1] 0) <|
          .step (.call 35 [3, 4, 14, 15, 1] 1) <|
          .step (.call 35 [3, 4, 14, 15, 1] 2) <|
          .ret [18, 17, 1]))
        (.step (.ci .u64 0) <|
        .step (.ci .u64 1) <|
        .step (.call 35 [3, 4, 10, 11, 1] 0) <|
        .step (.call 35 [3, 4, 10, 11, 1] 1) <|
        .step (.call 35 [3, 4, 10, 11, 1] 2) <|
        .ret [14, 13, 1])))
/-- postmark/postmarkref11.Cmp, function 125, plain functions []. -/
def d21 : PDef := .fn [.ag 2, .ag 2] [.sc] <|
  .step (.cell 0 0) <|
  .step (.cell 1 0) <|
  .step (.cell 0 1) <|
  .step (.cell 1 1) <|
  .step (.call 22 [2, 4] 0) <|
  .ite 6
    (.step (.ci .i64 (-1)) <|
    .ret [7])
    (.step (.bin .eql 2 4) <|
    .ite 7
      (.step (.call 22 [3, 5] 0) <|
      .ite 8
        (.step (.ci .i64 (-1)) <|
        .ret [9])
        (.step (.mk [2, 3]) <|
        .step (.mk [4, 5]) <|
        .step (.binc .eql [1, 1] 9 10) <|
        .ite 11
          (.step (.ci .i64 0) <|
          .ret [12])
          (.step (.ci .i64 1) <|
          .ret [12])))
      (.step (.mk [2, 3]) <|
      .step (.mk [4, 5]) <|
      .step (.binc .eql [1, 1] 8 9) <|
      .ite 10
        (.step (.ci .i64 0) <|
        .ret [11])
        (.step (.ci .i64 1) <|
        .ret [11])))
/-- slices.Equal[postmark/descr.Descr,postmark/entry.Entry], function 88, plain functions []. -/
def d108 : PDef := .fn [.sc, .sc] [.sc] <|
  .step (.len 0) <|
  .step (.len 1) <|
  .step (.bin .neq 2 3) <|
  .ite 4
    (.step (.cb false) <|
    .ret [5])
    (.step (.ci .i64 0) <|
    .step (.call 109 [0, 1, 2, 5] 0) <|
    .step (.bin .eql 6 5) <|
    .ite 7
      (.step (.cb false) <|
      .ret [8])
      (.step (.cb true) <|
      .ret [8]))
/-- postmark/postmarklaw13.To, function 24, plain functions []. -/
def d60 : PDef := .fn [.sc] [.sc] <|
  .step (.len 0) <|
  .step (.ci .i64 0) <|
  .step (.ml []) <|
  .step (.call 61 [3, 0, 1, 2] 0) <|
  .step (.call 61 [3, 0, 1, 2] 1) <|
  .ret [5]
/-- postmark/postmarkref15.Next, function 55, plain functions []. -/
def d92 : PDef := .fn [.sc] [.sc, .sc, .sc] <|
  .step (.call 33 [0] 0) <|
  .step (.call 33 [0] 1) <|
  .step (.call 33 [0] 2) <|
  .step (.ci .i64 0) <|
  .step (.bin .neq 3 4) <|
  .ite 5
    (.step (.ml []) <|
    .step (.cs []) <|
    .ret [6, 7, 3])
    (.step (.ci .u64 256) <|
    .step (.bin .gtr 1 6) <|
    .ite 7
      (.step (.ml []) <|
      .step (.cs []) <|
      .step (.ci .i64 13) <|
      .ret [8, 9, 10])
      (.step (.slen 0) <|
      .step (.ssub 0 2 8) <|
      .step (.cs []) <|
      .step (.ci .u64 0) <|
      .step (.ml []) <|
      .step (.call 93 [9, 1, 12, 10, 11] 0) <|
      .step (.bin .eql 13 4) <|
      .ite 14
        (.step (.call 93 [9, 1, 12, 10, 11] 1) <|
        .ret [12, 10, 15])
        (.step (.call 93 [9, 1, 12, 10, 11] 1) <|
        .step (.call 93 [9, 1, 12, 10, 11] 2) <|
        .ret [16, 15, 4])))
/-- postmark/postmarkref14.Put, function 34, plain functions []. -/
def d13 : PDef := .fn [.sc] [.sc, .sc] <|
  .step (.len 0) <|
  .step (.cs []) <|
  .step (.ci .i64 0) <|
  .step (.call 14 [0, 2, 1, 3] 0) <|
  .step (.bin .eql 4 3) <|
  .ite 5
    (.step (.ci .i64 7) <|
    .ret [2, 6])
    (.step (.call 14 [0, 2, 1, 3] 1) <|
    .ret [6, 3])
/-- postmark/postmarkref12.Parse, function 106, plain functions []. -/
def d94 : PDef := .fn [.sc] [.sc, .sc] <|
  .step (.call 95 [0] 0) <|
  .step (.call 95 [0] 1) <|
  .step (.call 95 [0] 2) <|
  .step (.ci .i64 0) <|
  .step (.bin .neq 3 4) <|
  .ite 5
    (.step (.ml []) <|
    .ret [6, 3])
    (.step (.cs []) <|
    .step (.bin .neq 2 6) <|
    .ite 7
      (.step (.ml []) <|
      .step (.ci .i64 10) <|
      .ret [8, 9])
      (.ret [1, 4]))
/-- postmark/postmarkref12.Next, function 132, plain functions []. -/
def d95 : PDef := .fn [.sc] [.sc, .sc, .sc] <|
  .step (.call 33 [0] 0) <|
  .step (.call 33 [0] 1) <|
  .step (.call 33 [0] 2) <|
  .step (.ci .i64 0) <|
  .step (.bin .eql 3 4) <|
  .ite 5
    (.step (.ci .u64 0) <|
    .step (.bin .eql 1 6) <|
    .ite 7
      (.step (.ml []) <|
      .step (.cs []) <|
      .step (.ci .i64 12) <|
      .ret [8, 9, 10])
      (.step (.ci .u64 16) <|
      .step (.bin .gtr 1 8) <|
      .ite 9
        (.step (.ml []) <|
        .step (.cs []) <|
        .step (.ci .i64 13) <|
        .ret [10, 11, 12])
        (.step (.slen 0) <|
        .step (.ssub 0 2 10) <|
        .step (.ml []) <|
        .step (.call 96 [11, 1, 12, 6] 0) <|
        .step (.bin .eql 13 4) <|
        .ite 14
          (.step (.call 96 [11, 1, 12, 6] 1) <|
          .step (.cs []) <|
          .ret [12, 16, 15])
          (.step (.call 96 [11, 1, 12, 6] 1) <|
          .step (.call 96 [11, 1, 12, 6] 2) <|
          .ret [16, 15, 4]))))
    (.step (.bin .neq 3 4) <|
    .ite 6
      (.step (.ml []) <|
      .step (.cs []) <|
      .ret [7, 8, 3])
      (.step (.slen 0) <|
      .step (.ssub 0 2 7) <|
      .step (.ci .u64 0) <|
      .step (.ml []) <|
      .step (.call 96 [8, 1, 10, 9] 0) <|
      .step (.bin .eql 11 4) <|
      .ite 12
        (.step (.call 96 [8, 1, 10, 9] 1) <|
        .step (.cs []) <|
        .ret [10, 14, 13])
        (.step (.call 96 [8, 1, 10, 9] 1) <|
        .step (.call 96 [8, 1, 10, 9] 2) <|
        .ret [14, 13, 4])))
/-- postmark/varint.Get, function 128, plain functions []. -/
def d28 : PDef := .fn [.sc] [.sc, .sc, .sc] <|
  .step (.slen 0) <|
  .step (.ci .i64 10) <|
  .step (.mm false 1 2) <|
  .step (.ci .u64 0) <|
  .step (.ci .i64 0) <|
  .step (.call 29 [0, 4, 3, 5] 0) <|
  .step (.bin .eql 6 5) <|
  .ite 7
    (.step (.call 29 [0, 4, 3, 5] 1) <|
    .step (.call 29 [0, 4, 3, 5] 2) <|
    .step (.call 29 [0, 4, 3, 5] 3) <|
    .ret [8, 9, 10])
    (.step (.call 29 [0, 4, 3, 5] 1) <|
    .step (.slen 8) <|
    .step (.bin .geq 9 2) <|
    .ite 10
      (.step (.ci .i64 3) <|
      .ret [4, 5, 11])
      (.step (.ci .i64 1) <|
      .ret [4, 5, 11]))
/-- postmark/postmarkref13.Same, function 25, plain functions []. -/
def d100 : PDef := .fn [.sc, .sc] [.sc] <|
  .step (.len 0) <|
  .step (.len 1) <|
  .step (.bin .neq 2 3) <|
  .ite 4
    (.step (.cb false) <|
    .ret [5])
    (.step (.ci .i64 0) <|
    .step (.call 101 [0, 1, 2, 5] 0) <|
    .step (.bin .eql 6 5) <|
    .ite 7
      (.step (.cb false) <|
      .ret [8])
      (.step (.cb true) <|
      .ret [8]))
/-- postmark/postmarkref11.Check, function 161, plain functions []. -/
def d70 : PDef := .fn [.ag 2] [.sc] <|
  .step (.cell 0 0) <|
  .step (.cell 1 0) <|
  .step (.ci .i64 1) <|
  .step (.ci .i64 64) <|
  .step (.call 71 [1, 3, 4] 0) <|
  .step (.ci .i64 0) <|
  .step (.bin .neq 5 6) <|
  .ite 7
    (.ret [5])
    (.step (.ci .i64 256) <|
    .step (.call 71 [2, 6, 8] 0) <|
    .ret [9])
/-- postmark/postmarklaw14.PrefixTells, function 6, plain functions []. -/
def d0 : PDef := .fn [.sc, .sc, .sc, .sc] [.sc] <|
  .step (.call 1 [0] 0) <|
  .step (.un .not 4) <|
  .ite 5
    (.step (.cb true) <|
    .ret [6])
    (.step (.slen 1) <|
    .step (.ci .i64 300) <|
    .step (.bin .gtr 6 7) <|
    .ite 8
      (.step (.cb true) <|
      .ret [9])
      (.step (.slen 2) <|
      .step (.ci .i64 3000) <|
      .step (.bin .gtr 9 10) <|
      .ite 11
        (.step (.cb true) <|
        .ret [12])
        (.step (.call 3 [0] 0) <|
        .step (.call 3 [0] 1) <|
        .step (.call 13 [0] 0) <|
        .step (.call 13 [0] 1) <|
        .step (.call 24 [2] 0) <|
        .step (.call 24 [2] 1) <|
        .step (.call 30 [2] 0) <|
        .step (.call 30 [2] 1) <|
        .step (.ci .i64 0) <|
        .step (.call 26 [2, 1, 3, 20] 0) <|
        .step (.call 26 [2, 1, 3, 20] 1) <|
        .step (.call 26 [2, 1, 3, 20] 2) <|
        .step (.call 26 [2, 1, 3, 20] 3) <|
        .step (.call 26 [2, 1, 3, 20] 4) <|
        .step (.call 32 [2, 1, 3] 0) <|
        .step (.call 32 [2, 1, 3] 1) <|
        .step (.call 32 [2, 1, 3] 2) <|
        .step (.call 36 [1, 3] 0) <|
        .step (.bin .neq 12 14) <|
        .ite 30
          (.step (.cb false) <|
          .ret [31])
          (.step (.bin .neq 13 15) <|
          .ite 31
            (.step (.cb false) <|
            .ret [32])
            (.step (.call 38 [16, 18] 0) <|
            .step (.un .not 32) <|
            .ite 33
              (.step (.cb false) <|
              .ret [34])
              (.step (.bin .neq 17 19) <|
              .ite 34
                (.step (.cb false) <|
                .ret [35])
                (.step (.bin .neq 22 26) <|
                .ite 35
                  (.step (.cb false) <|
                  .ret [36])
                  (.step (.bin .neq 23 28) <|
                  .ite 36
                    (.step (.cb false) <|
                    .ret [37])
                    (.step (.bin .eql 23 20) <|
                    .ite 37
                      (.step (.slen 24) <|
                      .step (.ssub 24 25 38) <|
                      .step (.bin .neq 39 27) <|
                      .ite 40
                        (.step (.cb false) <|
                        .ret [41])
                        (.step (.len 0) <|
                        .step (.call 40 [1, 0, 41, 20] 0) <|
                        .step (.bin .eql 42 20) <|
                        .ite 43
                          (.step (.cb false) <|
                          .ret [44])
                          (.step (.cb true) <|
                          .ret [44])))
                      (.step (.len 0) <|
                      .step (.call 40 [1, 0, 38, 20] 0) <|
                      .step (.bin .eql 39 20) <|
                      .ite 40
                        (.step (.cb false) <|
                        .ret [41])
                        (.step (.cb true) <|
                        .ret [41])))))))))))
/-- postmark/postmarkref07.First, function 214, plain functions []. -/
def d74 : PDef := .fn [.sc] [.sc] <|
  .step (.slen 0) <|
  .step (.ci .i64 0) <|
  .step (.bin .eql 1 2) <|
  .ite 3
    (.ret [2])
    (.step (.sidx 0 2) <|
    .step (.conv .i64 4) <|
    .step (.ci .i64 128) <|
    .step (.bin .lss 5 6) <|
    .ite 7
      (.step (.ci .i64 1) <|
      .ret [8])
      (.step (.ci .i64 192) <|
      .step (.bin .geq 5 8) <|
      .ite 9
        (.step (.ci .i64 224) <|
        .step (.bin .lss 5 10) <|
        .ite 11
          (.step (.bin .sub 5 8) <|
          .step (.ci .i64 2) <|
          .step (.bin .lss 1 13) <|
          .ite 14
            (.ret [2])
            (.step (.ci .i64 1) <|
            .step (.call 75 [0, 13, 12, 6, 15] 0) <|
            .step (.bin .eql 16 2) <|
            .ite 17
              (.ret [2])
              (.step (.call 75 [0, 13, 12, 6, 15] 1) <|
              .step (.call 75 [0, 13, 12, 6, 15] 2) <|
              .step (.call 75 [0, 13, 12, 6, 15] 3) <|
              .step (.bin .lss 19 20) <|
              .ite 21
                (.ret [2])
                (.step (.ci .i64 1114111) <|
                .step (.bin .gtr 19 22) <|
                .ite 23
                  (.ret [2])
                  (.step (.ci .i64 55296) <|
                  .step (.bin .geq 19 24) <|
                  .ite 25
                    (.step (.ci .i64 57344) <|
                    .step (.bin .lss 19 26) <|
                    .ite 27
                      (.ret [2])
                      (.ret [18]))
                    (.ret [18]))))))
          (.step (.bin .geq 5 10) <|
          .ite 12
            (.step (.ci .i64 240) <|
            .step (.bin .lss 5 13) <|
            .ite 14
              (.step (.bin .sub 5 10) <|
              .step (.ci .i64 3) <|
              .step (.bin .lss 1 16) <|
              .ite 17
                (.ret [2])
                (.step (.ci .i64 2048) <|
                .step (.ci .i64 1) <|
                .step (.call 75 [0, 16, 15, 18, 19] 0) <|
                .step (.bin .eql 20 2) <|
                .ite 21
                  (.ret [2])
                  (.step (.call 75 [0, 16, 15, 18, 19] 1) <|
                  .step (.call 75 [0, 16, 15, 18, 19] 2) <|
                  .step (.call 75 [0, 16, 15, 18, 19] 3) <|
                  .step (.bin .lss 23 24) <|
                  .ite 25
                    (.ret [2])
                    (.step (.ci .i64 1114111) <|
                    .step (.bin .gtr 23 26) <|
                    .ite 27
                      (.ret [2])
                      (.step (.ci .i64 55296) <|
                      .step (.bin .geq 23 28) <|
                      .ite 29
                        (.step (.ci .i64 57344) <|
                        .step (.bin .lss 23 30) <|
                        .ite 31
                          (.ret [2])
                          (.ret [22]))
                        (.ret [22]))))))
              (.step (.bin .geq 5 13) <|
              .ite 15
                (.step (.ci .i64 248) <|
                .step (.bin .lss 5 16) <|
                .ite 17
                  (.step (.bin .sub 5 13) <|
                  .step (.ci .i64 4) <|
                  .step (.bin .lss 1 19) <|
                  .ite 20
                    (.ret [2])
                    (.step (.ci .i64 65536) <|
                    .step (.ci .i64 1) <|
                    .step (.call 75 [0, 19, 18, 21, 22] 0) <|
                    .step (.bin .eql 23 2) <|
                    .ite 24
                      (.ret [2])
                      (.step (.call 75 [0, 19, 18, 21, 22] 1) <|
                      .step (.call 75 [0, 19, 18, 21, 22] 2) <|
                      .step (.call 75 [0, 19, 18, 21, 22] 3) <|
                      .step (.bin .lss 26 27) <|
                      .ite 28
                        (.ret [2])
                        (.step (.ci .i64 1114111) <|
                        .step (.bin .gtr 26 29) <|
                        .ite 30
                          (.ret [2])
                          (.step (.ci .i64 55296) <|
                          .step (.bin .geq 26 31) <|
                          .ite 32
                            (.step (.ci .i64 57344) <|
                            .step (.bin .lss 26 33) <|
                            .ite 34
                              (.ret [2])
                              (.ret [25]))
                            (.ret [25]))))))
                  (.ret [2]))
                (.ret [2])))
            (.step (.ci .i64 240) <|
            .step (.bin .geq 5 13) <|
            .ite 14
              (.step (.ci .i64 248) <|
              .step (.bin .lss 5 15) <|
              .ite 16
                (.step (.bin .sub 5 13) <|
                .step (.ci .i64 4) <|
                .step (.bin .lss 1 18) <|
                .ite 19
                  (.ret [2])
                  (.step (.ci .i64 65536) <|
                  .step (.ci .i64 1) <|
                  .step (.call 75 [0, 18, 17, 20, 21] 0) <|
                  .step (.bin .eql 22 2) <|
                  .ite 23
                    (.ret [2])
                    (.step (.call 75 [0, 18, 17, 20, 21] 1) <|
                    .step (.call 75 [0, 18, 17, 20, 21] 2) <|
                    .step (.call 75 [0, 18, 17, 20, 21] 3) <|
                    .step (.bin .lss 25 26) <|
                    .ite 27
                      (.ret [2])
                      (.step (.ci .i64 1114111) <|
                      .step (.bin .gtr 25 28) <|
                      .ite 29
                        (.ret [2])
                        (.step (.ci .i64 55296) <|
                        .step (.bin .geq 25 30) <|
                        .ite 31
                          (.step (.ci .i64 57344) <|
                          .step (.bin .lss 25 32) <|
                          .ite 33
                            (.ret [2])
                            (.ret [24]))
                          (.ret [24]))))))
                (.ret [2]))
              (.ret [2]))))
        (.step (.ci .i64 224) <|
        .step (.bin .geq 5 10) <|
        .ite 11
          (.step (.ci .i64 240) <|
          .step (.bin .lss 5 12) <|
          .ite 13
            (.step (.bin .sub 5 10) <|
            .step (.ci .i64 3) <|
            .step (.bin .lss 1 15) <|
            .ite 16
              (.ret [2])
              (.step (.ci .i64 2048) <|
              .step (.ci .i64 1) <|
              .step (.call 75 [0, 15, 14, 17, 18] 0) <|
              .step (.bin .eql 19 2) <|
              .ite 20
                (.ret [2])
                (.step (.call 75 [0, 15, 14, 17, 18] 1) <|
                .step (.call 75 [0, 15, 14, 17, 18] 2) <|
                .step (.call 75 [0, 15, 14, 17, 18] 3) <|
                .step (.bin .lss 22 23) <|
                .ite 24
                  (.ret [2])
                  (.step (.ci .i64 1114111) <|
                  .step (.bin .gtr 22 25) <|
                  .ite 26
                    (.ret [2])
                    (.step (.ci .i64 55296) <|
                    .step (.bin .geq 22 27) <|
                    .ite 28
                      (.step (.ci .i64 57344) <|
                      .step (.bin .lss 22 29) <|
                      .ite 30
                        (.ret [2])
                        (.ret [21]))
                      (.ret [21]))))))
            (.step (.bin .geq 5 12) <|
            .ite 14
              (.step (.ci .i64 248) <|
              .step (.bin .lss 5 15) <|
              .ite 16
                (.step (.bin .sub 5 12) <|
                .step (.ci .i64 4) <|
                .step (.bin .lss 1 18) <|
                .ite 19
                  (.ret [2])
                  (.step (.ci .i64 65536) <|
                  .step (.ci .i64 1) <|
                  .step (.call 75 [0, 18, 17, 20, 21] 0) <|
                  .step (.bin .eql 22 2) <|
                  .ite 23
                    (.ret [2])
                    (.step (.call 75 [0, 18, 17, 20, 21] 1) <|
                    .step (.call 75 [0, 18, 17, 20, 21] 2) <|
                    .step (.call 75 [0, 18, 17, 20, 21] 3) <|
                    .step (.bin .lss 25 26) <|
                    .ite 27
                      (.ret [2])
                      (.step (.ci .i64 1114111) <|
                      .step (.bin .gtr 25 28) <|
                      .ite 29
                        (.ret [2])
                        (.step (.ci .i64 55296) <|
                        .step (.bin .geq 25 30) <|
                        .ite 31
                          (.step (.ci .i64 57344) <|
                          .step (.bin .lss 25 32) <|
                          .ite 33
                            (.ret [2])
                            (.ret [24]))
                          (.ret [24]))))))
                (.ret [2]))
              (.ret [2])))
          (.step (.ci .i64 240) <|
          .step (.bin .geq 5 12) <|
          .ite 13
            (.step (.ci .i64 248) <|
            .step (.bin .lss 5 14) <|
            .ite 15
              (.step (.bin .sub 5 12) <|
              .step (.ci .i64 4) <|
              .step (.bin .lss 1 17) <|
              .ite 18
                (.ret [2])
                (.step (.ci .i64 65536) <|
                .step (.ci .i64 1) <|
                .step (.call 75 [0, 17, 16, 19, 20] 0) <|
                .step (.bin .eql 21 2) <|
                .ite 22
                  (.ret [2])
                  (.step (.call 75 [0, 17, 16, 19, 20] 1) <|
                  .step (.call 75 [0, 17, 16, 19, 20] 2) <|
                  .step (.call 75 [0, 17, 16, 19, 20] 3) <|
                  .step (.bin .lss 24 25) <|
                  .ite 26
                    (.ret [2])
                    (.step (.ci .i64 1114111) <|
                    .step (.bin .gtr 24 27) <|
                    .ite 28
                      (.ret [2])
                      (.step (.ci .i64 55296) <|
                      .step (.bin .geq 24 29) <|
                      .ite 30
                        (.step (.ci .i64 57344) <|
                        .step (.bin .lss 24 31) <|
                        .ite 32
                          (.ret [2])
                          (.ret [23]))
                        (.ret [23]))))))
              (.ret [2]))
            (.ret [2])))))
/-- postmark/prefix.Common, function 42, plain functions []. -/
def d6 : PDef := .fn [.sc, .sc] [.sc] <|
  .step (.ci .i64 0) <|
  .step (.call 7 [0, 1, 2] 0) <|
  .step (.call 7 [0, 1, 2] 1) <|
  .ret [4]
/-- postmark/postmarkref13.row, function 89, plain functions []. -/
def d67 : PDef := .fn [.ag 2] [.sc] <|
  .step (.cell 0 0) <|
  .step (.cell 1 0) <|
  .step (.call 68 [1] 0) <|
  .step (.ci .i64 0) <|
  .step (.bin .eql 3 4) <|
  .ite 5
    (.step (.ci .u64 0) <|
    .step (.bin .eql 2 6) <|
    .ite 7
      (.step (.ci .i64 18) <|
      .ret [8])
      (.ret [3]))
    (.ret [3])
/-- postmark/postmarkref14.Next, function 39, plain functions []. -/
def d32 : PDef := .fn [.sc, .sc, .sc] [.sc, .sc, .sc] <|
  .step (.call 33 [0] 0) <|
  .step (.call 33 [0] 1) <|
  .step (.call 33 [0] 2) <|
  .step (.ci .i64 0) <|
  .step (.bin .neq 5 6) <|
  .ite 7
    (.step (.cs []) <|
    .ret [8, 8, 5])
    (.ite 2
      (.step (.ci .u64 0) <|
      .step (.bin .neq 3 8) <|
      .ite 9
        (.step (.cs []) <|
        .step (.ci .i64 23) <|
        .ret [10, 10, 11])
        (.step (.slen 1) <|
        .step (.conv .u64 10) <|
        .step (.bin .gtr 3 11) <|
        .ite 12
          (.step (.cs []) <|
          .step (.ci .i64 23) <|
          .ret [13, 13, 14])
          (.step (.slen 0) <|
          .step (.ssub 0 4 13) <|
          .step (.call 33 [14] 0) <|
          .step (.call 33 [14] 1) <|
          .step (.call 33 [14] 2) <|
          .step (.bin .neq 17 6) <|
          .ite 18
            (.step (.cs []) <|
            .ret [19, 19, 17])
            (.step (.bin .add 4 16) <|
            .step (.bin .sub 13 19) <|
            .step (.conv .u64 20) <|
            .step (.bin .gtr 15 21) <|
            .ite 22
              (.step (.cs []) <|
              .step (.ci .i64 1) <|
              .ret [23, 23, 24])
              (.step (.conv .i64 3) <|
              .step (.ssub 1 6 23) <|
              .step (.conv .i64 15) <|
              .step (.bin .add 19 25) <|
              .step (.ssub 0 19 26) <|
              .step (.bin .add 24 27) <|
              .step (.un .not 2) <|
              .ite 29
                (.step (.call 20 [1, 27] 0) <|
                .step (.un .not 30) <|
                .ite 31
                  (.step (.cs []) <|
                  .step (.ci .i64 7) <|
                  .ret [32, 32, 33])
                  (.step (.call 16 [1, 27] 0) <|
                  .step (.bin .neq 32 23) <|
                  .ite 33
                    (.step (.cs []) <|
                    .step (.ci .i64 23) <|
                    .ret [34, 34, 35])
                    (.step (.ssub 0 26 13) <|
                    .ret [27, 34, 6])))
                (.step (.ssub 0 26 13) <|
                .ret [27, 30, 6]))))))
      (.step (.slen 1) <|
      .step (.conv .u64 8) <|
      .step (.bin .gtr 3 9) <|
      .ite 10
        (.step (.cs []) <|
        .step (.ci .i64 23) <|
        .ret [11, 11, 12])
        (.step (.slen 0) <|
        .step (.ssub 0 4 11) <|
        .step (.call 33 [12] 0) <|
        .step (.call 33 [12] 1) <|
        .step (.call 33 [12] 2) <|
        .step (.bin .neq 15 6) <|
        .ite 16
          (.step (.cs []) <|
          .ret [17, 17, 15])
          (.step (.bin .add 4 14) <|
          .step (.bin .sub 11 17) <|
          .step (.conv .u64 18) <|
          .step (.bin .gtr 13 19) <|
          .ite 20
            (.step (.cs []) <|
            .step (.ci .i64 1) <|
            .ret [21, 21, 22])
            (.step (.conv .i64 3) <|
            .step (.ssub 1 6 21) <|
            .step (.conv .i64 13) <|
            .step (.bin .add 17 23) <|
            .step (.ssub 0 17 24) <|
            .step (.bin .add 22 25) <|
            .step (.un .not 2) <|
            .ite 27
              (.step (.call 20 [1, 26] 0) <|
              .step (.un .not 28) <|
              .ite 29
                (.step (.cs []) <|
                .step (.ci .i64 7) <|
                .ret [30, 30, 31])
                (.step (.call 16 [1, 26] 0) <|
                .step (.bin .neq 30 21) <|
                .ite 31
                  (.step (.cs []) <|
                  .step (.ci .i64 23) <|
                  .ret [32, 32, 33])
                  (.step (.ssub 0 24 11) <|
                  .ret [26, 32, 6])))
              (.step (.ssub 0 24 11) <|
              .ret [26, 28, 6]))))))
/-- postmark/prefix.One, function 44, plain functions []. -/
def d5 : PDef := .fn [.sc, .sc] [.sc] <|
  .step (.call 6 [0, 1] 0) <|
  .step (.conv .u64 2) <|
  .step (.call 8 [3] 0) <|
  .step (.slen 1) <|
  .step (.bin .sub 5 2) <|
  .step (.conv .u64 6) <|
  .step (.call 8 [7] 0) <|
  .step (.bin .add 4 8) <|
  .step (.ssub 1 2 5) <|
  .step (.bin .add 9 10) <|
  .ret [11]
/-- (postmark/entry.Entry).Put, function 116, plain functions []. -/
def d48 : PDef := .fn [.ag 2] [.sc] <|
  .step (.cell 0 0) <|
  .step (.cell 1 0) <|
  .step (.slen 1) <|
  .step (.conv .u64 3) <|
  .step (.call 8 [4] 0) <|
  .step (.bin .add 5 1) <|
  .step (.slen 2) <|
  .step (.conv .u64 7) <|
  .step (.call 8 [8] 0) <|
  .step (.bin .add 6 9) <|
  .step (.bin .add 10 2) <|
  .ret [11]
/-- (postmark/table.Row).check, function 82, plain functions []. -/
def d52 : PDef := .fn [.ag 2] [.sc] <|
  .step (.cell 0 0) <|
  .step (.cell 1 0) <|
  .step (.call 53 [1] 0) <|
  .step (.ci .i64 0) <|
  .step (.bin .neq 3 4) <|
  .ite 5
    (.ret [3])
    (.step (.ci .u64 0) <|
    .step (.bin .eql 2 6) <|
    .ite 7
      (.step (.ci .i64 18) <|
      .ret [8])
      (.ret [4]))
/-- postmark/pack.Next, function 54, handed blocks, plain functions []. -/
def d99 : PDef := .tree 0 <|
  .step (.call 37 [] 0) <|
  .step (.ci .i64 0) <|
  .ret [1]
/-- postmark/entry.text, function 200, handed blocks, plain functions []. -/
def d90 : PDef := .tree 2 <|
  .step (.call 27 [0, 1] 0) <|
  .step (.call 27 [0, 1] 1) <|
  .step (.call 27 [0, 1] 2) <|
  .step (.call 27 [0, 1] 3) <|
  .step (.call 27 [0, 1] 4) <|
  .step (.ci .i64 0) <|
  .step (.bin .neq 4 7) <|
  .ite 8
    (.step (.cs []) <|
    .ret [7, 9, 4, 5, 6])
    (.step (.slen 5) <|
    .step (.bin .sub 9 6) <|
    .step (.conv .u64 10) <|
    .step (.bin .gtr 3 11) <|
    .ite 12
      (.step (.cs []) <|
      .step (.ci .i64 1) <|
      .ret [7, 13, 14, 5, 6])
      (.step (.conv .i64 3) <|
      .step (.bin .add 6 13) <|
      .step (.ssub 5 6 14) <|
      .ret [7, 15, 7, 5, 14]))
/-- postmark/entry.Next, function 184, handed blocks, plain functions []. -/
def d89 : PDef := .tree 2 <|
  .step (.call 90 [0, 1] 0) <|
  .step (.call 90 [0, 1] 1) <|
  .step (.call 90 [0, 1] 2) <|
  .step (.call 90 [0, 1] 3) <|
  .step (.call 90 [0, 1] 4) <|
  .step (.ci .i64 0) <|
  .step (.bin .neq 4 7) <|
  .ite 8
    (.step (.cs []) <|
    .ret [7, 9, 9, 4, 5, 6])
    (.step (.call 90 [5, 6] 0) <|
    .step (.call 90 [5, 6] 1) <|
    .step (.call 90 [5, 6] 2) <|
    .step (.call 90 [5, 6] 3) <|
    .step (.call 90 [5, 6] 4) <|
    .step (.bin .neq 11 7) <|
    .ite 14
      (.step (.cs []) <|
      .ret [7, 15, 15, 11, 12, 13])
      (.step (.mk [3, 10]) <|
      .step (.call 55 [15] 0) <|
      .step (.bin .neq 16 7) <|
      .ite 17
        (.step (.cs []) <|
        .ret [7, 18, 18, 16, 12, 13])
        (.ret [7, 3, 10, 7, 12, 13])))
/-- postmark/descr.Next, function 165, handed blocks, plain functions []. -/
def d87 : PDef := .tree 2 <|
  .step (.call 27 [0, 1] 0) <|
  .step (.call 27 [0, 1] 1) <|
  .step (.call 27 [0, 1] 2) <|
  .step (.call 27 [0, 1] 3) <|
  .step (.call 27 [0, 1] 4) <|
  .step (.ci .i64 0) <|
  .step (.bin .neq 4 7) <|
  .ite 8
    (.step (.ml []) <|
    .ret [7, 9, 4, 5, 6])
    (.step (.ci .u64 0) <|
    .step (.bin .eql 3 9) <|
    .ite 10
      (.step (.ml []) <|
      .step (.ci .i64 12) <|
      .ret [7, 11, 12, 5, 6])
      (.step (.ci .u64 16) <|
      .step (.bin .gtr 3 11) <|
      .ite 12
        (.step (.ml []) <|
        .step (.ci .i64 13) <|
        .ret [7, 13, 14, 5, 6])
        (.step (.cs []) <|
        .step (.mk [13, 13]) <|
        .step (.rep 2 32 14 7 3) <|
        .step (.conv .i64 3) <|
        .step (.call 88 [15, 16, 7, 5, 6] 0) <|
        .step (.bin .eql 17 7) <|
        .ite 18
          (.step (.call 88 [15, 16, 7, 5, 6] 1) <|
          .step (.call 88 [15, 16, 7, 5, 6] 2) <|
          .step (.call 88 [15, 16, 7, 5, 6] 3) <|
          .step (.ml []) <|
          .ret [7, 22, 19, 20, 21])
          (.step (.call 88 [15, 16, 7, 5, 6] 1) <|
          .step (.call 88 [15, 16, 7, 5, 6] 2) <|
          .step (.call 88 [15, 16, 7, 5, 6] 3) <|
          .ret [7, 19, 7, 20, 21]))))
/-- postmark/pack.row, function 105, handed blocks, plain functions []. -/
def d85 : PDef := .tree 3 <|
  .step (.call 86 [0] 0) <|
  .step (.call 86 [0] 1) <|
  .step (.ci .i64 0) <|
  .step (.bin .neq 4 5) <|
  .ite 6
    (.step (.ml []) <|
    .step (.ci .u64 0) <|
    .ret [5, 7, 8, 4, 1, 2])
    (.step (.call 27 [1, 2] 0) <|
    .step (.call 27 [1, 2] 1) <|
    .step (.call 27 [1, 2] 2) <|
    .step (.call 27 [1, 2] 3) <|
    .step (.call 27 [1, 2] 4) <|
    .step (.bin .neq 9 5) <|
    .ite 12
      (.step (.ml []) <|
      .step (.ci .u64 0) <|
      .ret [5, 13, 14, 9, 10, 11])
      (.step (.ci .u64 0) <|
      .step (.bin .eql 8 13) <|
      .ite 14
        (.step (.ml []) <|
        .step (.ci .i64 17) <|
        .ret [5, 15, 13, 16, 10, 11])
        (.ret [5, 3, 8, 5, 10, 11])))
/-- postmark/pack.Next, function 54, handed blocks, plain functions []. -/
def d83 : PDef := .tree 2 <|
  .step (.call 27 [0, 1] 0) <|
  .step (.call 27 [0, 1] 1) <|
  .step (.call 27 [0, 1] 2) <|
  .step (.call 27 [0, 1] 3) <|
  .step (.call 27 [0, 1] 4) <|
  .step (.ci .i64 0) <|
  .step (.bin .neq 4 7) <|
  .ite 8
    (.step (.ml []) <|
    .ret [7, 9, 4, 5, 6])
    (.step (.ci .u64 256) <|
    .step (.bin .gtr 3 9) <|
    .ite 10
      (.step (.ml []) <|
      .step (.ci .i64 13) <|
      .ret [7, 11, 12, 5, 6])
      (.step (.ml []) <|
      .step (.ci .u64 0) <|
      .step (.mk [11, 12]) <|
      .step (.rep 2 32 13 7 3) <|
      .step (.conv .i64 3) <|
      .step (.cs []) <|
      .step (.call 84 [14, 16, 15, 7, 5, 6] 0) <|
      .step (.bin .eql 17 7) <|
      .ite 18
        (.step (.call 84 [14, 16, 15, 7, 5, 6] 1) <|
        .step (.call 84 [14, 16, 15, 7, 5, 6] 2) <|
        .step (.call 84 [14, 16, 15, 7, 5, 6] 3) <|
        .ret [7, 11, 19, 20, 21])
        (.step (.call 84 [14, 16, 15, 7, 5, 6] 1) <|
        .step (.call 84 [14, 16, 15, 7, 5, 6] 2) <|
        .step (.call 84 [14, 16, 15, 7, 5, 6] 3) <|
        .ret [7, 19, 7, 20, 21])))
/-- postmark/varint.Next, function 96, handed blocks, plain functions []. -/
def d37 : PDef := .tree 0 <|
  .step (.ci .i64 0) <|
  .ret [0]
/-- postmark/prefix.Next, function 38, handed blocks, plain functions []. -/
def d36 : PDef := .tree 2 <|
  .ite 1
    (.step (.call 37 [] 0) <|
    .step (.ci .i64 0) <|
    .ret [3])
    (.step (.call 37 [] 0) <|
    .step (.ci .i64 0) <|
    .ret [3])
/-- postmark/varint.Next, function 96, handed blocks, plain functions []. -/
def d27 : PDef := .tree 2 <|
  .step (.slen 0) <|
  .step (.ssub 0 1 2) <|
  .step (.call 28 [3] 0) <|
  .step (.call 28 [3] 1) <|
  .step (.call 28 [3] 2) <|
  .step (.ci .i64 0) <|
  .step (.bin .neq 6 7) <|
  .ite 8
    (.step (.ci .u64 0) <|
    .ret [7, 9, 6, 0, 1])
    (.step (.conv .u64 5) <|
    .step (.bin .sub 2 1) <|
    .step (.conv .u64 10) <|
    .step (.bin .gtr 9 11) <|
    .ite 12
      (.ret [7, 4, 7, 0, 1])
      (.step (.conv .i64 9) <|
      .step (.bin .add 1 13) <|
      .step (.ssub 0 1 14) <|
      .ret [7, 4, 7, 0, 14]))
/-- postmark/prefix.Next, function 38, handed blocks, plain functions []. -/
def d26 : PDef := .tree 4 <|
  .ite 2
    (.step (.call 27 [0, 3] 0) <|
    .step (.call 27 [0, 3] 1) <|
    .step (.call 27 [0, 3] 2) <|
    .step (.call 27 [0, 3] 3) <|
    .step (.call 27 [0, 3] 4) <|
    .step (.ci .i64 0) <|
    .step (.bin .neq 6 9) <|
    .ite 10
      (.step (.cs []) <|
      .ret [9, 11, 6, 7, 8])
      (.step (.ci .u64 0) <|
      .step (.bin .gtr 5 11) <|
      .ite 12
        (.step (.cs []) <|
        .step (.ci .i64 23) <|
        .ret [9, 13, 14, 7, 8])
        (.step (.call 27 [7, 8] 0) <|
        .step (.call 27 [7, 8] 1) <|
        .step (.call 27 [7, 8] 2) <|
        .step (.call 27 [7, 8] 3) <|
        .step (.call 27 [7, 8] 4) <|
        .step (.bin .neq 15 9) <|
        .ite 18
          (.step (.cs []) <|
          .ret [9, 19, 15, 16, 17])
          (.step (.slen 16) <|
          .step (.bin .sub 19 17) <|
          .step (.conv .u64 20) <|
          .step (.bin .gtr 14 21) <|
          .ite 22
            (.step (.cs []) <|
            .step (.ci .i64 1) <|
            .ret [9, 23, 24, 16, 17])
            (.step (.conv .i64 14) <|
            .step (.bin .add 17 23) <|
            .step (.ssub 16 17 24) <|
            .step (.cs []) <|
            .step (.ssub 26 9 5) <|
            .step (.bin .add 27 25) <|
            .step (.un .not 2) <|
            .ite 29
              (.step (.bin .leq 28 26) <|
              .ite 30
                (.step (.ci .i64 7) <|
                .ret [9, 26, 31, 16, 24])
                (.step (.call 6 [26, 28] 0) <|
                .step (.conv .i64 5) <|
                .step (.bin .gtr 31 32) <|
                .ite 33
                  (.step (.ci .i64 23) <|
                  .ret [9, 26, 34, 16, 24])
                  (.ret [9, 28, 9, 16, 24])))
              (.step (.call 6 [26, 28] 0) <|
              .step (.conv .i64 5) <|
              .step (.bin .gtr 30 31) <|
              .ite 32
                (.step (.ci .i64 23) <|
                .ret [9, 26, 33, 16, 24])
                (.ret [9, 28, 9, 16, 24])))))))
    (.step (.call 27 [0, 3] 0) <|
    .step (.call 27 [0, 3] 1) <|
    .step (.call 27 [0, 3] 2) <|
    .step (.call 27 [0, 3] 3) <|
    .step (.call 27 [0, 3] 4) <|
    .step (.ci .i64 0) <|
    .step (.bin .neq 6 9) <|
    .ite 10
      (.step (.cs []) <|
      .ret [9, 11, 6, 7, 8])
      (.step (.slen 1) <|
      .step (.conv .u64 11) <|
      .step (.bin .gtr 5 12) <|
      .ite 13
        (.step (.cs []) <|
        .step (.ci .i64 23) <|
        .ret [9, 14, 15, 7, 8])
        (.step (.call 27 [7, 8] 0) <|
        .step (.call 27 [7, 8] 1) <|
        .step (.call 27 [7, 8] 2) <|
        .step (.call 27 [7, 8] 3) <|
        .step (.call 27 [7, 8] 4) <|
        .step (.bin .neq 16 9) <|
        .ite 19
          (.step (.cs []) <|
          .ret [9, 20, 16, 17, 18])
          (.step (.slen 17) <|
          .step (.bin .sub 20 18) <|
          .step (.conv .u64 21) <|
          .step (.bin .gtr 15 22) <|
          .ite 23
            (.step (.cs []) <|
            .step (.ci .i64 1) <|
            .ret [9, 24, 25, 17, 18])
            (.step (.conv .i64 15) <|
            .step (.bin .add 18 24) <|
            .step (.ssub 17 18 25) <|
            .step (.ssub 1 9 5) <|
            .step (.bin .add 27 26) <|
            .step (.un .not 2) <|
            .ite 29
              (.step (.bin .leq 28 1) <|
              .ite 30
                (.step (.cs []) <|
                .step (.ci .i64 7) <|
                .ret [9, 31, 32, 17, 25])
                (.step (.call 6 [1, 28] 0) <|
                .step (.conv .i64 5) <|
                .step (.bin .gtr 31 32) <|
                .ite 33
                  (.step (.cs []) <|
                  .step (.ci .i64 23) <|
                  .ret [9, 34, 35, 17, 25])
                  (.ret [9, 28, 9, 17, 25])))
              (.step (.call 6 [1, 28] 0) <|
              .step (.conv .i64 5) <|
              .step (.bin .gtr 30 31) <|
              .ite 32
                (.step (.cs []) <|
                .step (.ci .i64 23) <|
                .ret [9, 33, 34, 17, 25])
                (.ret [9, 28, 9, 17, 25])))))))
/-- postmark/postmarkref11.less, function 163, the loop [0]. -/
def d23 : PDef := .tree 3 <|
  .step (.slen 0) <|
  .step (.bin .lss 2 3) <|
  .ite 4
    (.step (.slen 1) <|
    .step (.bin .lss 2 5) <|
    .ite 6
      (.step (.sidx 0 2) <|
      .step (.sidx 1 2) <|
      .step (.bin .neq 7 8) <|
      .ite 9
        (.step (.bin .lss 7 8) <|
        .step (.ci .i64 0) <|
        .ret [11, 10])
        (.step (.ci .i64 1) <|
        .step (.bin .add 2 10) <|
        .tail 23 [0, 1, 11]))
      (.step (.ci .i64 1) <|
      .ret [7, 0, 1]))
    (.step (.ci .i64 1) <|
    .ret [5, 0, 1])
/-- postmark/postmarkref07.Good, function 199, the loop [0]. -/
def d73 : PDef := .tree 1 <|
  .step (.slen 0) <|
  .step (.ci .i64 0) <|
  .step (.bin .gtr 1 2) <|
  .ite 3
    (.step (.call 74 [0] 0) <|
    .step (.bin .eql 4 2) <|
    .ite 5
      (.ret [2])
      (.step (.ssub 0 4 1) <|
      .tail 73 [6]))
    (.step (.ci .i64 1) <|
    .ret [4])
/-- postmark/postmarklaw14.PrefixTells, function 6, the loop [0]. -/
def d40 : PDef := .tree 4 <|
  .step (.bin .lss 3 2) <|
  .ite 4
    (.step (.at 1 1 3) <|
    .step (.cell 0 5) <|
    .step (.call 6 [0, 6] 0) <|
    .step (.call 16 [0, 6] 0) <|
    .step (.bin .neq 7 8) <|
    .ite 9
      (.step (.ci .i64 0) <|
      .ret [10])
      (.step (.call 5 [0, 6] 0) <|
      .step (.call 15 [0, 6] 0) <|
      .step (.bin .neq 10 11) <|
      .ite 12
        (.step (.ci .i64 0) <|
        .ret [13])
        (.step (.ci .i64 1) <|
        .step (.bin .add 3 13) <|
        .tail 40 [0, 1, 2, 14])))
    (.step (.ci .i64 1) <|
    .ret [5])
/-- slices.EqualFunc[postmark/table.Table,postmark/table.Table,postmark/table.Row,postmark/table.Row], function 86, the loop [0]. -/
def d106 : PDef := .tree 4 <|
  .step (.bin .lss 3 2) <|
  .ite 4
    (.step (.at 2 1 3) <|
    .step (.cell 0 5) <|
    .step (.cell 1 5) <|
    .step (.at 2 0 3) <|
    .step (.cell 0 8) <|
    .step (.cell 1 8) <|
    .step (.mk [6, 7]) <|
    .step (.mk [9, 10]) <|
    .step (.call 107 [11, 12] 0) <|
    .step (.un .not 13) <|
    .ite 14
      (.step (.ci .i64 0) <|
      .ret [15])
      (.step (.ci .i64 1) <|
      .step (.bin .add 3 15) <|
      .tail 106 [0, 1, 2, 16]))
    (.step (.ci .i64 1) <|
    .ret [5])
/-- postmark/postmarklaw12.To, function 29, the loop [0]. -/
def d63 : PDef := .tree 4 <|
  .step (.bin .lss 3 2) <|
  .ite 4
    (.step (.at 2 1 3) <|
    .step (.cell 0 5) <|
    .step (.cell 1 5) <|
    .step (.mk [6, 7]) <|
    .step (.ml [8]) <|
    .step (.app 2 32 0 9) <|
    .step (.ci .i64 1) <|
    .step (.bin .add 3 11) <|
    .tail 63 [10, 1, 2, 12])
    (.step (.ci .i64 0) <|
    .ret [5, 0])
/-- postmark/postmarkref02.Get, function 98, the loop [1]. -/
def d35 : PDef := .tree 5 <|
  .step (.bin .lss 4 1) <|
  .ite 5
    (.step (.sidx 0 4) <|
    .step (.ci .u8 128) <|
    .step (.bin .rem 6 7) <|
    .step (.conv .u64 8) <|
    .step (.bin .mul 9 3) <|
    .step (.bin .add 2 10) <|
    .step (.ci .u64 128) <|
    .step (.bin .mul 3 12) <|
    .step (.ci .i64 1) <|
    .step (.bin .add 4 14) <|
    .tail 35 [0, 1, 11, 13, 15])
    (.step (.ci .i64 0) <|
    .ret [6, 1, 2])
/-- postmark/pack.Next, function 54, the loop [0]. -/
def d84 : PDef := .tree 6 <|
  .step (.bin .lss 3 2) <|
  .ite 6
    (.step (.ci .i64 0) <|
    .step (.bin .eql 3 7) <|
    .step (.call 26 [4, 1, 8, 5] 0) <|
    .step (.call 26 [4, 1, 8, 5] 1) <|
    .step (.call 26 [4, 1, 8, 5] 2) <|
    .step (.call 26 [4, 1, 8, 5] 3) <|
    .step (.call 26 [4, 1, 8, 5] 4) <|
    .step (.bin .neq 11 7) <|
    .ite 14
      (.ret [7, 11, 12, 13])
      (.step (.call 85 [10, 12, 13] 0) <|
      .step (.call 85 [10, 12, 13] 1) <|
      .step (.call 85 [10, 12, 13] 2) <|
      .step (.call 85 [10, 12, 13] 3) <|
      .step (.call 85 [10, 12, 13] 4) <|
      .step (.call 85 [10, 12, 13] 5) <|
      .step (.bin .neq 18 7) <|
      .ite 21
        (.ret [7, 18, 19, 20])
        (.step (.mk [16, 17]) <|
        .step (.ml [22]) <|
        .step (.app 2 32 0 23) <|
        .step (.ci .i64 1) <|
        .step (.bin .add 3 25) <|
        .tail 84 [24, 10, 2, 26, 19, 20])))
    (.step (.ci .i64 1) <|
    .ret [7, 0, 4, 5])
/-- postmark/varint.Size, function 129, the loop [0]. -/
def d10 : PDef := .tree 2 <|
  .step (.ci .u64 128) <|
  .step (.bin .geq 0 2) <|
  .ite 3
    (.step (.ci .u64 7) <|
    .step (.bin .shr 0 4) <|
    .step (.ci .i64 1) <|
    .step (.bin .add 1 6) <|
    .tail 10 [5, 7])
    (.step (.ci .i64 0) <|
    .ret [4, 1])
/-- postmark/pack.Put, function 50, the loop [0]. -/
def d59 : PDef := .tree 5 <|
  .step (.bin .lss 3 2) <|
  .ite 5
    (.step (.at 2 1 3) <|
    .step (.cell 0 6) <|
    .step (.cell 1 6) <|
    .step (.call 46 [7] 0) <|
    .step (.call 5 [0, 9] 0) <|
    .step (.bytes 10) <|
    .step (.app 1 1 4 11) <|
    .step (.slen 10) <|
    .step (.call 8 [8] 0) <|
    .step (.bytes 14) <|
    .step (.app 1 1 12 15) <|
    .step (.slen 14) <|
    .step (.ci .i64 1) <|
    .step (.bin .add 3 18) <|
    .tail 59 [9, 1, 2, 19, 16])
    (.step (.ci .i64 0) <|
    .ret [6, 4])
/-- postmark/postmarkref14.Put, function 34, the loop [0]. -/
def d14 : PDef := .tree 4 <|
  .step (.bin .lss 3 2) <|
  .ite 4
    (.step (.ci .i64 0) <|
    .step (.bin .eql 3 5) <|
    .ite 6
      (.step (.at 1 0 3) <|
      .step (.cell 0 7) <|
      .step (.cs []) <|
      .step (.call 15 [9, 8] 0) <|
      .step (.bin .add 1 10) <|
      .step (.ci .i64 1) <|
      .step (.bin .add 3 12) <|
      .tail 14 [0, 11, 2, 13])
      (.step (.ci .i64 1) <|
      .step (.bin .sub 3 7) <|
      .step (.at 1 0 8) <|
      .step (.cell 0 9) <|
      .step (.at 1 0 3) <|
      .step (.cell 0 11) <|
      .step (.call 20 [10, 12] 0) <|
      .step (.un .not 13) <|
      .ite 14
        (.ret [5])
        (.step (.call 15 [10, 12] 0) <|
        .step (.bin .add 1 15) <|
        .step (.bin .add 3 7) <|
        .tail 14 [0, 16, 2, 17])))
    (.step (.ci .i64 1) <|
    .ret [5, 1])
/-- (postmark/table.Table).Check, function 21, the loop [0]. -/
def d51 : PDef := .tree 4 <|
  .step (.bin .lss 3 2) <|
  .ite 4
    (.step (.at 2 1 3) <|
    .step (.cell 0 5) <|
    .step (.cell 1 5) <|
    .step (.mk [6, 7]) <|
    .step (.call 52 [8] 0) <|
    .step (.ci .i64 0) <|
    .step (.bin .neq 9 10) <|
    .ite 11
      (.ret [10, 9])
      (.step (.call 46 [6] 0) <|
      .step (.bin .gtr 3 10) <|
      .ite 13
        (.step (.bin .eql 12 0) <|
        .ite 14
          (.step (.ci .i64 14) <|
          .ret [10, 15])
          (.step (.bin .lss 12 0) <|
          .ite 15
            (.step (.ci .i64 7) <|
            .ret [10, 16])
            (.step (.ci .i64 1) <|
            .step (.bin .add 3 16) <|
            .tail 51 [12, 1, 2, 17])))
        (.step (.ci .i64 1) <|
        .step (.bin .add 3 14) <|
        .tail 51 [12, 1, 2, 15])))
    (.step (.ci .i64 1) <|
    .ret [5])
/-- postmark/postmarkref15.Next, function 55, the loop [0]. -/
def d93 : PDef := .tree 5 <|
  .step (.bin .lss 4 1) <|
  .ite 5
    (.step (.ci .u64 0) <|
    .step (.bin .eql 4 6) <|
    .step (.call 32 [0, 3, 7] 0) <|
    .step (.call 32 [0, 3, 7] 1) <|
    .step (.call 32 [0, 3, 7] 2) <|
    .step (.ci .i64 0) <|
    .step (.bin .neq 10 11) <|
    .ite 12
      (.ret [11, 10])
      (.step (.call 94 [8] 0) <|
      .step (.call 94 [8] 1) <|
      .step (.bin .neq 14 11) <|
      .ite 15
        (.ret [11, 14])
        (.step (.call 33 [9] 0) <|
        .step (.call 33 [9] 1) <|
        .step (.call 33 [9] 2) <|
        .step (.bin .neq 18 11) <|
        .ite 19
          (.ret [11, 18])
          (.step (.bin .eql 16 6) <|
          .ite 20
            (.step (.ci .i64 17) <|
            .ret [11, 21])
            (.step (.mk [13, 16]) <|
            .step (.ml [21]) <|
            .step (.app 2 32 2 22) <|
            .step (.slen 9) <|
            .step (.ssub 9 17 24) <|
            .step (.ci .u64 1) <|
            .step (.bin .add 4 26) <|
            .tail 93 [25, 1, 23, 8, 27])))))
    (.step (.ci .i64 1) <|
    .ret [6, 0, 2])
/-- postmark/postmarkref12.Next, function 132, the loop [0]. -/
def d96 : PDef := .tree 4 <|
  .step (.bin .lss 3 1) <|
  .ite 4
    (.step (.call 97 [0] 0) <|
    .step (.cell 0 5) <|
    .step (.cell 1 5) <|
    .step (.call 97 [0] 1) <|
    .step (.call 97 [0] 2) <|
    .step (.ci .i64 0) <|
    .step (.bin .eql 9 10) <|
    .ite 11
      (.step (.ci .u64 0) <|
      .step (.bin .gtr 3 12) <|
      .ite 13
        (.step (.ci .u64 1) <|
        .step (.bin .sub 3 14) <|
        .step (.idx 2 15) <|
        .step (.at 2 2 16) <|
        .step (.cell 0 17) <|
        .step (.cell 1 17) <|
        .step (.mk [18, 19]) <|
        .step (.mk [6, 7]) <|
        .step (.call 76 [20, 21] 0) <|
        .step (.bin .neq 22 10) <|
        .ite 23
          (.ret [10, 22])
          (.step (.ml [21]) <|
          .step (.app 2 32 2 24) <|
          .step (.bin .add 3 14) <|
          .tail 96 [8, 1, 25, 26]))
        (.step (.bin .neq 9 10) <|
        .ite 14
          (.ret [10, 9])
          (.step (.mk [6, 7]) <|
          .step (.ml [15]) <|
          .step (.app 2 32 2 16) <|
          .step (.ci .u64 1) <|
          .step (.bin .add 3 18) <|
          .tail 96 [8, 1, 17, 19])))
      (.step (.bin .neq 9 10) <|
      .ite 12
        (.ret [10, 9])
        (.step (.mk [6, 7]) <|
        .step (.ml [13]) <|
        .step (.app 2 32 2 14) <|
        .step (.ci .u64 1) <|
        .step (.bin .add 3 16) <|
        .tail 96 [8, 1, 15, 17])))
    (.step (.ci .i64 1) <|
    .ret [5, 0, 2])
/-- postmark/postmarklaw13.Few, function 16, the loop [0]. -/
def d43 : PDef := .tree 3 <|
  .step (.bin .lss 2 1) <|
  .ite 3
    (.step (.at 2 0 2) <|
    .step (.cell 0 4) <|
    .step (.cell 1 4) <|
    .step (.len 5) <|
    .step (.ci .i64 18) <|
    .step (.bin .gtr 7 8) <|
    .ite 9
      (.step (.ci .i64 0) <|
      .ret [10])
      (.step (.call 44 [5] 0) <|
      .step (.un .not 10) <|
      .ite 11
        (.step (.ci .i64 0) <|
        .ret [12])
        (.step (.len 0) <|
        .step (.ci .i64 40) <|
        .step (.bin .gtr 12 13) <|
        .ite 14
          (.step (.call 46 [5] 0) <|
          .step (.slen 15) <|
          .step (.ci .i64 100) <|
          .step (.bin .gtr 16 17) <|
          .ite 18
            (.step (.ci .i64 0) <|
            .ret [19])
            (.step (.ci .i64 1) <|
            .step (.bin .add 2 19) <|
            .tail 43 [0, 1, 20]))
          (.step (.ci .i64 1) <|
          .step (.bin .add 2 15) <|
          .tail 43 [0, 1, 16]))))
    (.step (.ci .i64 1) <|
    .ret [4, 0])
/-- postmark/prefix.All, function 35, the loop [0]. -/
def d25 : PDef := .tree 4 <|
  .step (.slen 2) <|
  .step (.bin .sub 4 3) <|
  .step (.ci .i64 0) <|
  .step (.bin .gtr 5 6) <|
  .ite 7
    (.step (.len 0) <|
    .step (.bin .eql 8 6) <|
    .step (.call 26 [2, 1, 9, 3] 0) <|
    .step (.call 26 [2, 1, 9, 3] 1) <|
    .step (.call 26 [2, 1, 9, 3] 2) <|
    .step (.call 26 [2, 1, 9, 3] 3) <|
    .step (.call 26 [2, 1, 9, 3] 4) <|
    .step (.bin .neq 12 6) <|
    .ite 15
      (.ret [6, 12])
      (.step (.ml [11]) <|
      .step (.app 1 16 0 16) <|
      .tail 25 [17, 11, 13, 14]))
    (.step (.ci .i64 1) <|
    .ret [8, 0])
/-- postmark/prefix.Put, function 33, the loop [0]. -/
def d12 : PDef := .tree 5 <|
  .step (.bin .lss 3 2) <|
  .ite 5
    (.step (.at 1 1 3) <|
    .step (.cell 0 6) <|
    .step (.ci .i64 0) <|
    .step (.bin .gtr 3 8) <|
    .ite 9
      (.step (.bin .leq 7 0) <|
      .ite 10
        (.ret [8])
        (.step (.call 5 [0, 7] 0) <|
        .step (.bytes 11) <|
        .step (.app 1 1 4 12) <|
        .step (.slen 11) <|
        .step (.ci .i64 1) <|
        .step (.bin .add 3 15) <|
        .tail 12 [7, 1, 2, 16, 13]))
      (.step (.call 5 [0, 7] 0) <|
      .step (.bytes 10) <|
      .step (.app 1 1 4 11) <|
      .step (.slen 10) <|
      .step (.ci .i64 1) <|
      .step (.bin .add 3 14) <|
      .tail 12 [7, 1, 2, 15, 12]))
    (.step (.ci .i64 1) <|
    .ret [6, 4])
/-- postmark/postmarkref13.Same, function 25, the loop [0]. -/
def d101 : PDef := .tree 4 <|
  .step (.bin .lss 3 2) <|
  .ite 4
    (.step (.at 2 0 3) <|
    .step (.cell 1 5) <|
    .step (.at 2 1 3) <|
    .step (.cell 1 7) <|
    .step (.bin .neq 6 8) <|
    .ite 9
      (.step (.ci .i64 0) <|
      .ret [10])
      (.step (.cell 0 5) <|
      .step (.len 10) <|
      .step (.cell 0 7) <|
      .step (.len 12) <|
      .step (.bin .neq 11 13) <|
      .ite 14
        (.step (.ci .i64 0) <|
        .ret [15])
        (.step (.ci .i64 0) <|
        .step (.call 102 [0, 1, 3, 2, 5, 10, 11, 7, 12, 13, 15] 0) <|
        .step (.bin .eql 16 15) <|
        .ite 17
          (.ret [15])
          (.step (.call 102 [0, 1, 3, 2, 5, 10, 11, 7, 12, 13, 15] 1) <|
          .step (.call 102 [0, 1, 3, 2, 5, 10, 11, 7, 12, 13, 15] 2) <|
          .step (.call 102 [0, 1, 3, 2, 5, 10, 11, 7, 12, 13, 15] 3) <|
          .step (.call 102 [0, 1, 3, 2, 5, 10, 11, 7, 12, 13, 15] 4) <|
          .step (.call 102 [0, 1, 3, 2, 5, 10, 11, 7, 12, 13, 15] 5) <|
          .step (.call 102 [0, 1, 3, 2, 5, 10, 11, 7, 12, 13, 15] 6) <|
          .step (.call 102 [0, 1, 3, 2, 5, 10, 11, 7, 12, 13, 15] 7) <|
          .step (.call 102 [0, 1, 3, 2, 5, 10, 11, 7, 12, 13, 15] 8) <|
          .step (.call 102 [0, 1, 3, 2, 5, 10, 11, 7, 12, 13, 15] 9) <|
          .step (.call 102 [0, 1, 3, 2, 5, 10, 11, 7, 12, 13, 15] 10) <|
          .step (.ci .i64 1) <|
          .step (.bin .add 21 28) <|
          .tail 101 [18, 19, 20, 29]))))
    (.step (.ci .i64 1) <|
    .ret [5])
/-- postmark/postmarkref12.Key, function 91, the loop [0]. -/
def d78 : PDef := .tree 4 <|
  .step (.bin .lss 3 2) <|
  .ite 4
    (.step (.at 2 1 3) <|
    .step (.cell 0 5) <|
    .step (.cell 1 5) <|
    .step (.mk [6, 7]) <|
    .step (.call 79 [8] 0) <|
    .step (.bin .add 0 9) <|
    .step (.ci .i64 1) <|
    .step (.bin .add 3 11) <|
    .tail 78 [10, 1, 2, 12])
    (.step (.ci .i64 0) <|
    .ret [5, 0])
/-- slices.Equal[[]string,string], function 40, the loop [0]. -/
def d39 : PDef := .tree 4 <|
  .step (.bin .lss 3 2) <|
  .ite 4
    (.step (.at 1 0 3) <|
    .step (.cell 0 5) <|
    .step (.at 1 1 3) <|
    .step (.cell 0 7) <|
    .step (.bin .neq 6 8) <|
    .ite 9
      (.step (.ci .i64 0) <|
      .ret [10])
      (.step (.ci .i64 1) <|
      .step (.bin .add 3 10) <|
      .tail 39 [0, 1, 2, 11]))
    (.step (.ci .i64 1) <|
    .ret [5])
/-- postmark/postmarkref15.Text, function 104, the loop [0]. -/
def d81 : PDef := .tree 4 <|
  .step (.bin .lss 3 2) <|
  .ite 4
    (.step (.at 2 0 3) <|
    .step (.cell 0 5) <|
    .step (.cell 1 5) <|
    .step (.ci .i64 0) <|
    .step (.bin .gtr 3 8) <|
    .ite 9
      (.step (.ci .i64 1) <|
      .step (.bin .sub 3 10) <|
      .step (.at 2 0 11) <|
      .step (.cell 0 12) <|
      .step (.call 77 [13] 0) <|
      .step (.call 77 [6] 0) <|
      .step (.call 15 [14, 15] 0) <|
      .step (.bin .add 1 16) <|
      .step (.call 18 [7] 0) <|
      .step (.bin .add 17 18) <|
      .step (.bin .add 3 10) <|
      .tail 81 [0, 19, 2, 20])
      (.step (.call 77 [6] 0) <|
      .step (.cs []) <|
      .step (.call 15 [11, 10] 0) <|
      .step (.bin .add 1 12) <|
      .step (.call 18 [7] 0) <|
      .step (.bin .add 13 14) <|
      .step (.ci .i64 1) <|
      .step (.bin .add 3 16) <|
      .tail 81 [0, 15, 2, 17]))
    (.step (.ci .i64 0) <|
    .ret [5, 1])
/-- postmark/descr.Next, function 165, the loop [0]. -/
def d88 : PDef := .tree 5 <|
  .step (.bin .lss 2 1) <|
  .ite 5
    (.step (.call 89 [3, 4] 0) <|
    .step (.call 89 [3, 4] 1) <|
    .step (.call 89 [3, 4] 2) <|
    .step (.call 89 [3, 4] 3) <|
    .step (.call 89 [3, 4] 4) <|
    .step (.call 89 [3, 4] 5) <|
    .step (.ci .i64 0) <|
    .step (.bin .neq 9 12) <|
    .ite 13
      (.ret [12, 9, 10, 11])
      (.step (.bin .gtr 2 12) <|
      .ite 14
        (.step (.ci .i64 1) <|
        .step (.bin .sub 2 15) <|
        .step (.idx 0 16) <|
        .step (.at 2 0 17) <|
        .step (.cell 0 18) <|
        .step (.bin .eql 7 19) <|
        .ite 20
          (.step (.ci .i64 14) <|
          .ret [12, 21, 10, 11])
          (.step (.bin .lss 7 19) <|
          .ite 21
            (.step (.ci .i64 7) <|
            .ret [12, 22, 10, 11])
            (.step (.mk [7, 8]) <|
            .step (.ml [22]) <|
            .step (.app 2 32 0 23) <|
            .step (.bin .add 2 15) <|
            .tail 88 [24, 1, 25, 10, 11])))
        (.step (.mk [7, 8]) <|
        .step (.ml [15]) <|
        .step (.app 2 32 0 16) <|
        .step (.ci .i64 1) <|
        .step (.bin .add 2 18) <|
        .tail 88 [17, 1, 19, 10, 11])))
    (.step (.ci .i64 1) <|
    .ret [6, 0, 3, 4])
/-- (postmark/descr.Descr).Check, function 117, the loop [0]. -/
def d54 : PDef := .tree 3 <|
  .step (.bin .lss 2 1) <|
  .ite 3
    (.step (.at 2 0 2) <|
    .step (.cell 0 4) <|
    .step (.cell 1 4) <|
    .step (.mk [5, 6]) <|
    .step (.call 55 [7] 0) <|
    .step (.ci .i64 0) <|
    .step (.bin .neq 8 9) <|
    .ite 10
      (.ret [9, 8])
      (.step (.bin .eql 2 9) <|
      .ite 11
        (.step (.ci .i64 1) <|
        .step (.bin .add 2 12) <|
        .tail 54 [0, 1, 13])
        (.step (.ci .i64 1) <|
        .step (.bin .sub 2 12) <|
        .step (.at 2 0 13) <|
        .step (.cell 0 14) <|
        .step (.bin .eql 5 15) <|
        .ite 16
          (.step (.ci .i64 14) <|
          .ret [9, 17])
          (.step (.bin .lss 5 15) <|
          .ite 17
            (.step (.ci .i64 7) <|
            .ret [9, 18])
            (.step (.bin .add 2 12) <|
            .tail 54 [0, 1, 18])))))
    (.step (.ci .i64 1) <|
    .ret [4])
/-- postmark/postmarkref12.Check, function 124, the loop [0]. -/
def d69 : PDef := .tree 3 <|
  .step (.len 0) <|
  .step (.bin .lss 2 3) <|
  .ite 4
    (.step (.ci .i64 0) <|
    .step (.bin .eql 1 5) <|
    .ite 6
      (.step (.at 2 0 2) <|
      .step (.cell 0 7) <|
      .step (.cell 1 7) <|
      .step (.mk [8, 9]) <|
      .step (.call 70 [10] 0) <|
      .step (.bin .eql 11 5) <|
      .ite 12
        (.step (.bin .gtr 2 5) <|
        .ite 13
          (.step (.ci .i64 1) <|
          .step (.bin .sub 2 14) <|
          .step (.at 2 0 15) <|
          .step (.cell 0 16) <|
          .step (.cell 1 16) <|
          .step (.mk [17, 18]) <|
          .step (.call 76 [19, 10] 0) <|
          .step (.bin .add 2 14) <|
          .tail 69 [0, 20, 21])
          (.step (.ci .i64 1) <|
          .step (.bin .add 2 14) <|
          .tail 69 [0, 11, 15]))
        (.step (.ci .i64 1) <|
        .step (.bin .add 2 13) <|
        .tail 69 [0, 11, 14]))
      (.ret [5, 1]))
    (.step (.ci .i64 0) <|
    .ret [5, 1])
/-- postmark/postmarklaw14.few, function 32, the loop [0]. -/
def d2 : PDef := .tree 3 <|
  .step (.bin .lss 2 1) <|
  .ite 3
    (.step (.at 1 0 2) <|
    .step (.cell 0 4) <|
    .step (.slen 5) <|
    .step (.ci .i64 300) <|
    .step (.bin .gtr 6 7) <|
    .ite 8
      (.step (.ci .i64 0) <|
      .ret [9])
      (.step (.ci .i64 1) <|
      .step (.bin .add 2 9) <|
      .tail 2 [0, 1, 10]))
    (.step (.ci .i64 1) <|
    .ret [4, 0])
/-- postmark/postmarkref14.Common, function 43, the loop [0]. -/
def d17 : PDef := .tree 3 <|
  .step (.slen 0) <|
  .step (.bin .lss 2 3) <|
  .ite 4
    (.step (.slen 1) <|
    .step (.bin .lss 2 5) <|
    .ite 6
      (.step (.sidx 0 2) <|
      .step (.sidx 1 2) <|
      .step (.bin .neq 7 8) <|
      .ite 9
        (.step (.ci .i64 0) <|
        .ret [10, 2])
        (.step (.ci .i64 1) <|
        .step (.bin .add 2 10) <|
        .tail 17 [0, 1, 11]))
      (.step (.ci .i64 1) <|
      .ret [7, 0, 1]))
    (.step (.ci .i64 1) <|
    .ret [5, 0, 1])
/-- postmark/postmarkref13.Check, function 26, the loop [0]. -/
def d66 : PDef := .tree 3 <|
  .step (.bin .lss 2 1) <|
  .ite 3
    (.step (.at 2 0 2) <|
    .step (.cell 0 4) <|
    .step (.cell 1 4) <|
    .step (.mk [5, 6]) <|
    .step (.call 67 [7] 0) <|
    .step (.ci .i64 0) <|
    .step (.bin .eql 8 9) <|
    .ite 10
      (.step (.bin .gtr 2 9) <|
      .ite 11
        (.step (.ci .i64 1) <|
        .step (.bin .sub 2 12) <|
        .step (.at 2 0 13) <|
        .step (.cell 0 14) <|
        .step (.call 77 [15] 0) <|
        .step (.call 77 [5] 0) <|
        .step (.bin .eql 16 17) <|
        .ite 18
          (.step (.ci .i64 14) <|
          .ret [9, 19])
          (.step (.call 20 [16, 17] 0) <|
          .step (.un .not 19) <|
          .ite 20
            (.step (.ci .i64 7) <|
            .ret [9, 21])
            (.step (.bin .neq 8 9) <|
            .ite 21
              (.ret [9, 8])
              (.step (.bin .add 2 12) <|
              .tail 66 [0, 1, 22]))))
        (.step (.bin .neq 8 9) <|
        .ite 12
          (.ret [9, 8])
          (.step (.ci .i64 1) <|
          .step (.bin .add 2 13) <|
          .tail 66 [0, 1, 14])))
      (.step (.bin .neq 8 9) <|
      .ite 11
        (.ret [9, 8])
        (.step (.ci .i64 1) <|
        .step (.bin .add 2 12) <|
        .tail 66 [0, 1, 13])))
    (.step (.ci .i64 1) <|
    .ret [4])
/-- postmark/prefix.Common, function 42, the loop [0]. -/
def d7 : PDef := .tree 3 <|
  .step (.slen 0) <|
  .step (.bin .lss 2 3) <|
  .ite 4
    (.step (.slen 1) <|
    .step (.bin .lss 2 5) <|
    .ite 6
      (.step (.sidx 0 2) <|
      .step (.sidx 1 2) <|
      .step (.bin .eql 7 8) <|
      .ite 9
        (.step (.ci .i64 1) <|
        .step (.bin .add 2 10) <|
        .tail 7 [0, 1, 11])
        (.step (.ci .i64 0) <|
        .ret [10, 2]))
      (.step (.ci .i64 0) <|
      .ret [7, 2]))
    (.step (.ci .i64 0) <|
    .ret [5, 2])
/-- postmark/varint.Get, function 128, the loop [0]. -/
def d29 : PDef := .tree 4 <|
  .step (.bin .lss 3 2) <|
  .ite 4
    (.step (.sidx 0 3) <|
    .step (.ci .u8 127) <|
    .step (.bin .and 5 6) <|
    .step (.conv .u64 7) <|
    .step (.ci .i64 7) <|
    .step (.bin .mul 9 3) <|
    .step (.bin .shl 8 10) <|
    .step (.bin .or 1 11) <|
    .step (.ci .u8 128) <|
    .step (.bin .geq 5 13) <|
    .ite 14
      (.step (.ci .i64 1) <|
      .step (.bin .add 3 15) <|
      .tail 29 [0, 12, 2, 16])
      (.step (.ci .i64 9) <|
      .step (.bin .eql 3 15) <|
      .ite 16
        (.step (.ci .u8 1) <|
        .step (.bin .gtr 5 17) <|
        .ite 18
          (.step (.ci .u64 0) <|
          .step (.ci .i64 0) <|
          .step (.ci .i64 3) <|
          .ret [20, 19, 20, 21])
          (.step (.ci .i64 0) <|
          .step (.bin .gtr 3 19) <|
          .ite 20
            (.step (.ci .u8 0) <|
            .step (.bin .eql 5 21) <|
            .ite 22
              (.step (.ci .u64 0) <|
              .step (.ci .i64 2) <|
              .ret [19, 23, 19, 24])
              (.step (.ci .i64 1) <|
              .step (.bin .add 3 23) <|
              .ret [19, 12, 24, 19]))
            (.step (.ci .i64 1) <|
            .step (.bin .add 3 21) <|
            .ret [19, 12, 22, 19])))
        (.step (.ci .i64 0) <|
        .step (.bin .gtr 3 17) <|
        .ite 18
          (.step (.ci .u8 0) <|
          .step (.bin .eql 5 19) <|
          .ite 20
            (.step (.ci .u64 0) <|
            .step (.ci .i64 2) <|
            .ret [17, 21, 17, 22])
            (.step (.ci .i64 1) <|
            .step (.bin .add 3 21) <|
            .ret [17, 12, 22, 17]))
          (.step (.ci .i64 1) <|
          .step (.bin .add 3 19) <|
          .ret [17, 12, 20, 17]))))
    (.step (.ci .i64 1) <|
    .ret [5, 0])
/-- postmark/postmarklaw13.To, function 24, the loop [0]. -/
def d61 : PDef := .tree 4 <|
  .step (.bin .lss 3 2) <|
  .ite 4
    (.step (.at 2 1 3) <|
    .step (.cell 0 5) <|
    .step (.cell 1 5) <|
    .step (.call 62 [6] 0) <|
    .step (.mk [8, 7]) <|
    .step (.ml [9]) <|
    .step (.app 2 32 0 10) <|
    .step (.ci .i64 1) <|
    .step (.bin .add 3 12) <|
    .tail 61 [11, 1, 2, 13])
    (.step (.ci .i64 0) <|
    .ret [5, 0])
/-- postmark/postmarkref13.Same, function 25, the loop [0, 0]. -/
def d102 : PDef := .tree 11 <|
  .step (.bin .lss 10 6) <|
  .ite 11
    (.step (.at 2 0 2) <|
    .step (.cell 0 12) <|
    .step (.at 2 13 10) <|
    .step (.cell 0 14) <|
    .step (.cell 1 14) <|
    .step (.at 2 1 2) <|
    .step (.cell 0 17) <|
    .step (.at 2 18 10) <|
    .step (.cell 0 19) <|
    .step (.cell 1 19) <|
    .step (.mk [15, 16]) <|
    .step (.mk [20, 21]) <|
    .step (.binc .neq [1, 1] 22 23) <|
    .ite 24
      (.step (.ci .i64 0) <|
      .ret [25])
      (.step (.ci .i64 1) <|
      .step (.bin .add 10 25) <|
      .tail 102 [0, 1, 2, 3, 4, 5, 6, 7, 8, 9, 26]))
    (.step (.ci .i64 1) <|
    .ret [12, 0, 1, 3, 2, 4, 5, 6, 7, 8, 9])
/-- postmark/postmarkref02.Put, function 100, the loop [0]. -/
def d19 : PDef := .tree 2 <|
  .step (.ci .u64 127) <|
  .step (.bin .gtr 0 2) <|
  .ite 3
    (.step (.ci .u64 128) <|
    .step (.bin .rem 0 4) <|
    .step (.bin .add 5 4) <|
    .step (.conv .u8 6) <|
    .step (.ml [7]) <|
    .step (.str 8) <|
    .step (.bin .add 1 9) <|
    .step (.bin .quo 0 4) <|
    .tail 19 [11, 10])
    (.step (.ci .i64 0) <|
    .ret [4, 0, 1])
/-- (postmark/descr.Descr).Key, function 81, the loop [0]. -/
def d47 : PDef := .tree 4 <|
  .step (.bin .lss 2 1) <|
  .ite 4
    (.step (.at 2 0 2) <|
    .step (.cell 0 5) <|
    .step (.cell 1 5) <|
    .step (.mk [6, 7]) <|
    .step (.call 48 [8] 0) <|
    .step (.bytes 9) <|
    .step (.app 1 1 3 10) <|
    .step (.slen 9) <|
    .step (.ci .i64 1) <|
    .step (.bin .add 2 13) <|
    .tail 47 [0, 1, 14, 11])
    (.step (.ci .i64 0) <|
    .ret [5, 3])
/-- postmark/postmarkref02.Get, function 98, the loop [0]. -/
def d34 : PDef := .tree 3 <|
  .step (.slen 0) <|
  .step (.bin .lss 2 3) <|
  .ite 4
    (.step (.ci .i64 10) <|
    .step (.bin .lss 2 5) <|
    .ite 6
      (.step (.ci .i64 0) <|
      .step (.bin .eql 1 7) <|
      .ite 8
        (.step (.sidx 0 2) <|
        .step (.ci .u8 128) <|
        .step (.bin .lss 9 10) <|
        .ite 11
          (.step (.ci .i64 1) <|
          .step (.bin .add 2 12) <|
          .tail 34 [0, 13, 13])
          (.step (.ci .i64 1) <|
          .step (.bin .add 2 12) <|
          .tail 34 [0, 1, 13]))
        (.ret [7, 0, 1]))
      (.step (.ci .i64 0) <|
      .ret [7, 0, 1]))
    (.step (.ci .i64 0) <|
    .ret [5, 0, 1])
/-- postmark/postmarkref14.All, function 36, the loop [0]. -/
def d31 : PDef := .tree 3 <|
  .step (.cs []) <|
  .step (.bin .neq 0 3) <|
  .ite 4
    (.step (.len 1) <|
    .step (.ci .i64 0) <|
    .step (.bin .eql 5 6) <|
    .step (.call 32 [0, 2, 7] 0) <|
    .step (.call 32 [0, 2, 7] 1) <|
    .step (.call 32 [0, 2, 7] 2) <|
    .step (.bin .neq 10 6) <|
    .ite 11
      (.ret [6, 10])
      (.step (.ml [8]) <|
      .step (.app 1 16 1 12) <|
      .tail 31 [9, 13, 8]))
    (.step (.ci .i64 1) <|
    .ret [5, 1])
/-- postmark/postmarkref07.First, function 214, the loop [0]. -/
def d75 : PDef := .tree 5 <|
  .step (.bin .lss 4 1) <|
  .ite 5
    (.step (.sidx 0 4) <|
    .step (.conv .i64 6) <|
    .step (.ci .i64 128) <|
    .step (.bin .lss 7 8) <|
    .ite 9
      (.step (.ci .i64 0) <|
      .ret [10])
      (.step (.ci .i64 192) <|
      .step (.bin .geq 7 10) <|
      .ite 11
        (.step (.ci .i64 0) <|
        .ret [12])
        (.step (.ci .i64 64) <|
        .step (.bin .mul 12 2) <|
        .step (.bin .add 13 7) <|
        .step (.bin .sub 14 8) <|
        .step (.ci .i64 1) <|
        .step (.bin .add 4 16) <|
        .tail 75 [0, 1, 15, 3, 17])))
    (.step (.ci .i64 1) <|
    .ret [6, 1, 2, 3])
/-- postmark/postmarklaw12.Few, function 22, the loop [0]. -/
def d45 : PDef := .tree 3 <|
  .step (.bin .lss 2 1) <|
  .ite 3
    (.step (.at 2 0 2) <|
    .step (.cell 0 4) <|
    .step (.cell 1 4) <|
    .step (.slen 5) <|
    .step (.slen 6) <|
    .step (.bin .add 7 8) <|
    .step (.ci .i64 600) <|
    .step (.bin .gtr 9 10) <|
    .ite 11
      (.step (.ci .i64 0) <|
      .ret [12])
      (.step (.ci .i64 1) <|
      .step (.bin .add 2 12) <|
      .tail 45 [0, 1, 13]))
    (.step (.ci .i64 1) <|
    .ret [4, 0])
/-- slices.Equal[postmark/descr.Descr,postmark/entry.Entry], function 88, the loop [0]. -/
def d109 : PDef := .tree 4 <|
  .step (.bin .lss 3 2) <|
  .ite 4
    (.step (.at 2 0 3) <|
    .step (.cell 0 5) <|
    .step (.cell 1 5) <|
    .step (.at 2 1 3) <|
    .step (.cell 0 8) <|
    .step (.cell 1 8) <|
    .step (.mk [6, 7]) <|
    .step (.mk [9, 10]) <|
    .step (.binc .neq [1, 1] 11 12) <|
    .ite 13
      (.step (.ci .i64 0) <|
      .ret [14])
      (.step (.ci .i64 1) <|
      .step (.bin .add 3 14) <|
      .tail 109 [0, 1, 2, 15]))
    (.step (.ci .i64 1) <|
    .ret [5])
/-- postmark/varint.Put, function 99, the loop [0]. -/
def d11 : PDef := .tree 4 <|
  .step (.bin .lss 3 2) <|
  .ite 4
    (.step (.ci .u64 127) <|
    .step (.bin .and 0 5) <|
    .step (.conv .u8 6) <|
    .step (.ci .u8 128) <|
    .step (.bin .or 7 8) <|
    .step (.idx 1 3) <|
    .step (.upd 1 0 1 10 [9]) <|
    .step (.ci .u64 7) <|
    .step (.bin .shr 0 12) <|
    .step (.ci .i64 1) <|
    .step (.bin .add 3 14) <|
    .tail 11 [13, 11, 2, 15])
    (.step (.ci .i64 0) <|
    .ret [5, 1])
def Ds : List PDef := [d0, d1, d2, d3, .prim fun _ => none, d5, d6, d7, d8, d9, d10, d11, d12, d13, d14, d15, d16, d17, d18, d19, d20, d21, d22, d23, d24, d25, d26, d27, d28, d29, d30, d31, d32, d33, d34, d35, d36, d37, d38, d39, d40, d41, d42, d43, d44, d45, d46, d47, d48, d49, d50, d51, d52, d53, d54, d55, d56, d57, d58, d59, d60, d61, d62, d63, d64, d65, d66, d67, d68, d69, d70, d71, d72, d73, d74, d75, d76, d77, d78, d79, d80, d81, d82, d83, d84, d85, d86, d87, d88, d89, d90, d91, d92, d93, d94, d95, d96, d97, d98, d99, d100, d101, d102, d103, d104, d105, d106, d107, d108, d109]
noncomputable abbrev TT : PProg := TofL Ds
end
end E
end Go.Proofs.YtamcdgfjjeldeaaGreatDoor
