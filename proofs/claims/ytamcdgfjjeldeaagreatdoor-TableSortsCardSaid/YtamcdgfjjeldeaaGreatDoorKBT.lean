/- What functions and loops compute: trees of nodes, found by a driver. -/
import Derived.Test.YtamcdgfjjeldeaaGreatDoorAbsJ
import Derived.Test.YtamcdgfjjeldeaaGreatDoorAbsSort
import Derived.Test.YtamcdgfjjeldeaaGreatDoorAbsTold
namespace Go.Proofs.YtamcdgfjjeldeaaGreatDoor
open Go Go.Abs
set_option maxRecDepth 100000
set_option linter.unusedVariables false
set_option linter.unusedSimpArgs false
namespace B
noncomputable section
/-- postmark/varint.Put, function 99, plain functions []. -/
def d7 : PDef := .fn [.sc] [.sc] <|
  .step (.call 8 [0] 0) <|
  .step (.ci .u8 0) <|
  .step (.rep 1 1 2 1 1) <|
  .step (.len 3) <|
  .step (.ci .i64 0) <|
  .step (.call 10 [0, 3, 4, 5] 0) <|
  .step (.call 10 [0, 3, 4, 5] 1) <|
  .step (.len 7) <|
  .step (.ci .i64 1) <|
  .step (.bin .sub 8 9) <|
  .step (.idx 7 10) <|
  .step (.at 1 7 11) <|
  .step (.cell 0 12) <|
  .step (.ci .u8 127) <|
  .step (.bin .and 13 14) <|
  .step (.upd 1 0 7 11 [15]) <|
  .step (.str 16) <|
  .ret [17]
/-- sort.Slice is told. -/
abbrev d0 : PDef := .prim sortP
/-- postmark/postmarklaw13.Few, function 16, plain functions []. -/
def d2 : PDef := .fn [.sc] [.sc] <|
  .step (.len 0) <|
  .step (.ci .i64 0) <|
  .step (.call 3 [0, 1, 2] 0) <|
  .step (.bin .eql 3 2) <|
  .ite 4
    (.step (.cb false) <|
    .ret [5])
    (.step (.call 3 [0, 1, 2] 1) <|
    .step (.len 5) <|
    .step (.ci .i64 300) <|
    .step (.bin .leq 6 7) <|
    .ret [8])
/-- (postmark/descr.Descr).Check, function 117, plain functions []. -/
def d16 : PDef := .fn [.sc] [.sc] <|
  .step (.len 0) <|
  .step (.conv .u64 1) <|
  .step (.ci .u64 0) <|
  .step (.bin .eql 2 3) <|
  .ite 4
    (.step (.ci .i64 12) <|
    .ret [5])
    (.step (.ci .u64 16) <|
    .step (.bin .gtr 2 5) <|
    .ite 6
      (.step (.ci .i64 13) <|
      .ret [7])
      (.step (.ci .i64 0) <|
      .step (.call 17 [0, 1, 7] 0) <|
      .step (.bin .eql 8 7) <|
      .ite 9
        (.step (.call 17 [0, 1, 7] 1) <|
        .ret [10])
        (.ret [7])))
/-- postmark/utf.Good, function 197, plain functions []. -/
def d20 : PDef := .fn [.sc] [.sc] <|
  .step (.call 21 [0] 0) <|
  .ret [1]
/-- (postmark/table.Table).Get, function 20, plain functions []. -/
def d35 : PDef := .fn [.sc, .sc] [.sc] <|
  .step (.len 0) <|
  .step (.ci .i64 0) <|
  .step (.call 36 [1, 0, 2, 3] 0) <|
  .step (.bin .eql 4 3) <|
  .ite 5
    (.step (.call 36 [1, 0, 2, 3] 1) <|
    .ret [6])
    (.step (.ci .u64 0) <|
    .ret [6])
/-- unicode/utf8.ValidString is told. -/
abbrev d21 : PDef := .prim validP
/-- postmark/postmarklaw13.TableOrder, function 3, plain functions []. -/
def d1 : PDef := .fn [.sc, .sc, .sc] [.sc] <|
  .step (.call 2 [0] 0) <|
  .step (.un .not 3) <|
  .ite 4
    (.step (.cb true) <|
    .ret [5])
    (.step (.call 2 [1] 0) <|
    .step (.un .not 5) <|
    .ite 6
      (.step (.cb true) <|
      .ret [7])
      (.step (.call 2 [2] 0) <|
      .step (.un .not 7) <|
      .ite 8
        (.step (.cb true) <|
        .ret [9])
        (.step (.call 13 [0] 0) <|
        .step (.call 13 [0] 1) <|
        .step (.call 13 [1] 0) <|
        .step (.call 13 [1] 1) <|
        .step (.call 13 [2] 0) <|
        .step (.call 13 [2] 1) <|
        .step (.ci .i64 0) <|
        .step (.bin .neq 10 15) <|
        .ite 16
          (.step (.cb true) <|
          .ret [17])
          (.step (.bin .neq 12 15) <|
          .ite 17
            (.step (.cb true) <|
            .ret [18])
            (.step (.bin .neq 14 15) <|
            .ite 18
              (.step (.cb true) <|
              .ret [19])
              (.step (.call 24 [9, 9] 0) <|
              .step (.un .not 19) <|
              .ite 20
                (.step (.cb false) <|
                .ret [21])
                (.step (.ml []) <|
                .step (.call 24 [9, 21] 0) <|
                .step (.un .not 22) <|
                .ite 23
                  (.step (.cb false) <|
                  .ret [24])
                  (.step (.call 24 [21, 9] 0) <|
                  .step (.len 9) <|
                  .step (.bin .eql 25 15) <|
                  .step (.binb .neq 24 26) <|
                  .ite 27
                    (.step (.cb false) <|
                    .ret [28])
                    (.step (.call 24 [9, 11] 0) <|
                    .ite 28
                      (.step (.call 24 [11, 9] 0) <|
                      .ite 29
                        (.step (.call 27 [9, 11] 0) <|
                        .step (.un .not 30) <|
                        .ite 31
                          (.step (.cb false) <|
                          .ret [32])
                          (.step (.call 24 [11, 13] 0) <|
                          .step (.un .not 32) <|
                          .ite 33
                            (.step (.cb true) <|
                            .ret [34])
                            (.step (.call 24 [9, 13] 0) <|
                            .ret [34])))
                        (.step (.call 24 [11, 13] 0) <|
                        .step (.un .not 30) <|
                        .ite 31
                          (.step (.cb true) <|
                          .ret [32])
                          (.step (.call 24 [9, 13] 0) <|
                          .ret [32])))
                      (.step (.cb true) <|
                      .ret [29]))))))))))
/-- (postmark/descr.Descr).Key, function 81, plain functions []. -/
def d6 : PDef := .fn [.sc] [.sc] <|
  .step (.len 0) <|
  .step (.conv .u64 1) <|
  .step (.call 7 [2] 0) <|
  .step (.bytes 3) <|
  .step (.ml []) <|
  .step (.app 1 1 5 4) <|
  .step (.slen 3) <|
  .step (.ci .i64 0) <|
  .step (.call 11 [0, 1, 8, 6] 0) <|
  .step (.call 11 [0, 1, 8, 6] 1) <|
  .step (.len 10) <|
  .step (.str 10) <|
  .ret [12]
/-- slices.EqualFunc[postmark/table.Table,postmark/table.Table,postmark/table.Row,postmark/table.Row], function 86, plain functions [none, none, some 87]. -/
def d28 : PDef := .fn [.sc, .sc] [.sc] <|
  .step (.len 0) <|
  .step (.len 1) <|
  .step (.bin .neq 2 3) <|
  .ite 4
    (.step (.cb false) <|
    .ret [5])
    (.step (.ci .i64 0) <|
    .step (.call 29 [1, 0, 2, 5] 0) <|
    .step (.bin .eql 6 5) <|
    .ite 7
      (.step (.cb false) <|
      .ret [8])
      (.step (.cb true) <|
      .ret [8]))
/-- postmark/utf.Check, function 177, plain functions []. -/
def d19 : PDef := .fn [.sc, .sc, .sc] [.sc] <|
  .step (.slen 0) <|
  .step (.bin .lss 3 1) <|
  .ite 4
    (.step (.ci .i64 13) <|
    .ret [5])
    (.step (.bin .gtr 3 2) <|
    .ite 5
      (.step (.ci .i64 13) <|
      .ret [6])
      (.step (.call 20 [0] 0) <|
      .step (.un .not 6) <|
      .ite 7
        (.step (.ci .i64 11) <|
        .ret [8])
        (.step (.ci .i64 0) <|
        .ret [8])))
/-- (postmark/table.Table).AtLeast, function 18, plain functions []. -/
def d24 : PDef := .fn [.sc, .sc] [.sc] <|
  .step (.len 1) <|
  .step (.ci .i64 0) <|
  .step (.call 25 [0, 3, 1, 2, 3] 0) <|
  .step (.bin .eql 4 3) <|
  .ite 5
    (.step (.cb false) <|
    .ret [6])
    (.step (.cb true) <|
    .ret [6])
/-- postmark/varint.Size, function 129, plain functions []. -/
def d8 : PDef := .fn [.sc] [.sc] <|
  .step (.ci .i64 1) <|
  .step (.call 9 [0, 1] 0) <|
  .step (.call 9 [0, 1] 1) <|
  .ret [3]
/-- postmark/table.Same$1, function 87, plain functions []. -/
def d30 : PDef := .fn [.ag 2, .ag 2] [.sc] <|
  .step (.cell 0 0) <|
  .step (.cell 1 0) <|
  .step (.cell 0 1) <|
  .step (.cell 1 1) <|
  .step (.bin .eql 3 5) <|
  .ite 6
    (.step (.call 31 [2, 4] 0) <|
    .ret [7])
    (.step (.cb false) <|
    .ret [7])
/-- slices.Clone[postmark/descr.Descr,postmark/entry.Entry] is told. -/
abbrev d23 : PDef := .prim (cloneP 32 2)
/-- postmark/table.Of, function 17, plain functions []. -/
def d13 : PDef := .fn [.sc] [.sc, .sc] <|
  .step (.len 0) <|
  .step (.ci .i64 256) <|
  .step (.bin .gtr 1 2) <|
  .ite 3
    (.step (.ml []) <|
    .step (.ci .i64 13) <|
    .ret [4, 5])
    (.step (.ci .i64 0) <|
    .step (.ml []) <|
    .step (.call 14 [0, 1, 4, 5] 0) <|
    .step (.bin .eql 6 4) <|
    .ite 7
      (.step (.call 14 [0, 1, 4, 5] 1) <|
      .ret [5, 8])
      (.step (.call 14 [0, 1, 4, 5] 1) <|
      .step (.call 0 [8] 0) <|
      .step (.len 9) <|
      .step (.ci .u64 0) <|
      .step (.mk [5, 11]) <|
      .step (.rep 2 32 12 4 10) <|
      .step (.call 22 [13, 9, 10, 4] 0) <|
      .step (.bin .eql 14 4) <|
      .ite 15
        (.step (.ci .i64 14) <|
        .ret [5, 16])
        (.step (.call 22 [13, 9, 10, 4] 1) <|
        .ret [16, 4])))
/-- (postmark/table.Table).Check, function 21, plain functions []. -/
def d37 : PDef := .fn [.sc] [.sc] <|
  .step (.len 0) <|
  .step (.ci .i64 256) <|
  .step (.bin .gtr 1 2) <|
  .ite 3
    (.step (.ci .i64 13) <|
    .ret [4])
    (.step (.cs []) <|
    .step (.ci .i64 0) <|
    .step (.call 38 [4, 0, 1, 5] 0) <|
    .step (.bin .eql 6 5) <|
    .ite 7
      (.step (.call 38 [4, 0, 1, 5] 1) <|
      .ret [8])
      (.ret [5]))
/-- postmark/postmarklaw12.Few, function 22, plain functions []. -/
def d4 : PDef := .fn [.sc] [.sc] <|
  .step (.len 0) <|
  .step (.ci .i64 0) <|
  .step (.call 5 [0, 1, 2] 0) <|
  .step (.bin .eql 3 2) <|
  .ite 4
    (.step (.cb false) <|
    .ret [5])
    (.step (.call 5 [0, 1, 2] 1) <|
    .step (.len 5) <|
    .step (.ci .i64 40) <|
    .step (.bin .leq 6 7) <|
    .ret [8])
/-- postmark/table.Same, function 19, plain functions []. -/
def d27 : PDef := .fn [.sc, .sc] [.sc] <|
  .step (.call 28 [0, 1] 0) <|
  .ret [2]
/-- postmark/postmarklaw13.TableSorts, function 4, plain functions []. -/
def d33 : PDef := .fn [.sc, .sc] [.sc] <|
  .step (.call 2 [0] 0) <|
  .step (.un .not 2) <|
  .ite 3
    (.step (.cb true) <|
    .ret [4])
    (.step (.len 0) <|
    .step (.ci .i64 0) <|
    .step (.bin .eql 4 5) <|
    .ite 6
      (.step (.cb true) <|
      .ret [7])
      (.step (.call 13 [0] 0) <|
      .step (.call 13 [0] 1) <|
      .step (.conv .i64 1) <|
      .step (.bin .rem 9 4) <|
      .step (.lsub 2 0 10 4) <|
      .step (.ml []) <|
      .step (.app 2 32 12 11) <|
      .step (.lsub 2 0 5 10) <|
      .step (.app 2 32 13 14) <|
      .step (.call 13 [15] 0) <|
      .step (.call 13 [15] 1) <|
      .step (.bin .neq 8 5) <|
      .ite 18
        (.step (.len 7) <|
        .step (.bin .eql 19 5) <|
        .ite 20
          (.step (.len 16) <|
          .step (.bin .eql 21 5) <|
          .ite 22
            (.step (.bin .neq 17 5) <|
            .ret [23])
            (.step (.cb false) <|
            .ret [23]))
          (.step (.cb false) <|
          .ret [21]))
        (.step (.call 34 [0, 7, 16, 17, 4, 5] 0) <|
        .step (.bin .eql 19 5) <|
        .ite 20
          (.step (.cb false) <|
          .ret [21])
          (.step (.call 34 [0, 7, 16, 17, 4, 5] 1) <|
          .step (.call 34 [0, 7, 16, 17, 4, 5] 2) <|
          .step (.call 34 [0, 7, 16, 17, 4, 5] 3) <|
          .step (.call 34 [0, 7, 16, 17, 4, 5] 4) <|
          .step (.bin .eql 24 5) <|
          .ite 25
            (.step (.call 27 [22, 23] 0) <|
            .ite 26
              (.step (.call 37 [22] 0) <|
              .step (.bin .eql 27 5) <|
              .ite 28
                (.step (.len 22) <|
                .step (.len 21) <|
                .step (.bin .eql 29 30) <|
                .ret [31])
                (.step (.cb false) <|
                .ret [29]))
              (.step (.cb false) <|
              .ret [27]))
            (.step (.cb false) <|
            .ret [26])))))
/-- (postmark/entry.Entry).Put, function 116, plain functions []. -/
def d12 : PDef := .fn [.ag 2] [.sc] <|
  .step (.cell 0 0) <|
  .step (.cell 1 0) <|
  .step (.slen 1) <|
  .step (.conv .u64 3) <|
  .step (.call 7 [4] 0) <|
  .step (.bin .add 5 1) <|
  .step (.slen 2) <|
  .step (.conv .u64 7) <|
  .step (.call 7 [8] 0) <|
  .step (.bin .add 6 9) <|
  .step (.bin .add 10 2) <|
  .ret [11]
/-- (postmark/table.Row).check, function 82, plain functions []. -/
def d15 : PDef := .fn [.ag 2] [.sc] <|
  .step (.cell 0 0) <|
  .step (.cell 1 0) <|
  .step (.call 16 [1] 0) <|
  .step (.ci .i64 0) <|
  .step (.bin .neq 3 4) <|
  .ite 5
    (.ret [3])
    (.step (.ci .u64 0) <|
    .step (.bin .eql 2 6) <|
    .ite 7
      (.step (.ci .i64 18) <|
      .ret [8])
      (.ret [4]))
/-- slices.Equal[postmark/descr.Descr,postmark/entry.Entry], function 88, plain functions []. -/
def d31 : PDef := .fn [.sc, .sc] [.sc] <|
  .step (.len 0) <|
  .step (.len 1) <|
  .step (.bin .neq 2 3) <|
  .ite 4
    (.step (.cb false) <|
    .ret [5])
    (.step (.ci .i64 0) <|
    .step (.call 32 [0, 1, 2, 5] 0) <|
    .step (.bin .eql 6 5) <|
    .ite 7
      (.step (.cb false) <|
      .ret [8])
      (.step (.cb true) <|
      .ret [8]))
/-- (postmark/entry.Entry).Check, function 139, plain functions []. -/
def d18 : PDef := .fn [.ag 2] [.sc] <|
  .step (.cell 0 0) <|
  .step (.cell 1 0) <|
  .step (.ci .i64 1) <|
  .step (.ci .i64 64) <|
  .step (.call 19 [1, 3, 4] 0) <|
  .step (.ci .i64 0) <|
  .step (.bin .neq 5 6) <|
  .ite 7
    (.ret [5])
    (.step (.ci .i64 256) <|
    .step (.call 19 [2, 6, 8] 0) <|
    .ret [9])
/-- postmark/postmarklaw12.Few, function 22, the loop [0]. -/
def d5 : PDef := .tree 3 <|
  .step (.bin .lss 2 1) <|
  .ite 3
    (.step (.at 2 0 2) <|
    .step (.cell 0 4) <|
    .step (.cell 1 4) <|
    .step (.slen 5) <|
    .step (.slen 6) <|
    .step (.bin .add 7 8) <|
    .step (.ci .i64 600) <|
    .step (.bin .gtr 9 10) <|
    .ite 11
      (.step (.ci .i64 0) <|
      .ret [12])
      (.step (.ci .i64 1) <|
      .step (.bin .add 2 12) <|
      .tail 5 [0, 1, 13]))
    (.step (.ci .i64 1) <|
    .ret [4, 0])
/-- postmark/varint.Size, function 129, the loop [0]. -/
def d9 : PDef := .tree 2 <|
  .step (.ci .u64 128) <|
  .step (.bin .geq 0 2) <|
  .ite 3
    (.step (.ci .u64 7) <|
    .step (.bin .shr 0 4) <|
    .step (.ci .i64 1) <|
    .step (.bin .add 1 6) <|
    .tail 9 [5, 7])
    (.step (.ci .i64 0) <|
    .ret [4, 1])
/-- (postmark/descr.Descr).Check, function 117, the loop [0]. -/
def d17 : PDef := .tree 3 <|
  .step (.bin .lss 2 1) <|
  .ite 3
    (.step (.at 2 0 2) <|
    .step (.cell 0 4) <|
    .step (.cell 1 4) <|
    .step (.mk [5, 6]) <|
    .step (.call 18 [7] 0) <|
    .step (.ci .i64 0) <|
    .step (.bin .neq 8 9) <|
    .ite 10
      (.ret [9, 8])
      (.step (.bin .eql 2 9) <|
      .ite 11
        (.step (.ci .i64 1) <|
        .step (.bin .add 2 12) <|
        .tail 17 [0, 1, 13])
        (.step (.ci .i64 1) <|
        .step (.bin .sub 2 12) <|
        .step (.at 2 0 13) <|
        .step (.cell 0 14) <|
        .step (.bin .eql 5 15) <|
        .ite 16
          (.step (.ci .i64 14) <|
          .ret [9, 17])
          (.step (.bin .lss 5 15) <|
          .ite 17
            (.step (.ci .i64 7) <|
            .ret [9, 18])
            (.step (.bin .add 2 12) <|
            .tail 17 [0, 1, 18])))))
    (.step (.ci .i64 1) <|
    .ret [4])
/-- slices.Equal[postmark/descr.Descr,postmark/entry.Entry], function 88, the loop [0]. -/
def d32 : PDef := .tree 4 <|
  .step (.bin .lss 3 2) <|
  .ite 4
    (.step (.at 2 0 3) <|
    .step (.cell 0 5) <|
    .step (.cell 1 5) <|
    .step (.at 2 1 3) <|
    .step (.cell 0 8) <|
    .step (.cell 1 8) <|
    .step (.mk [6, 7]) <|
    .step (.mk [9, 10]) <|
    .step (.binc .neq [1, 1] 11 12) <|
    .ite 13
      (.step (.ci .i64 0) <|
      .ret [14])
      (.step (.ci .i64 1) <|
      .step (.bin .add 3 14) <|
      .tail 32 [0, 1, 2, 15]))
    (.step (.ci .i64 1) <|
    .ret [5])
/-- postmark/postmarklaw13.Few, function 16, the loop [0]. -/
def d3 : PDef := .tree 3 <|
  .step (.bin .lss 2 1) <|
  .ite 3
    (.step (.at 2 0 2) <|
    .step (.cell 0 4) <|
    .step (.cell 1 4) <|
    .step (.len 5) <|
    .step (.ci .i64 18) <|
    .step (.bin .gtr 7 8) <|
    .ite 9
      (.step (.ci .i64 0) <|
      .ret [10])
      (.step (.call 4 [5] 0) <|
      .step (.un .not 10) <|
      .ite 11
        (.step (.ci .i64 0) <|
        .ret [12])
        (.step (.len 0) <|
        .step (.ci .i64 40) <|
        .step (.bin .gtr 12 13) <|
        .ite 14
          (.step (.call 6 [5] 0) <|
          .step (.slen 15) <|
          .step (.ci .i64 100) <|
          .step (.bin .gtr 16 17) <|
          .ite 18
            (.step (.ci .i64 0) <|
            .ret [19])
            (.step (.ci .i64 1) <|
            .step (.bin .add 2 19) <|
            .tail 3 [0, 1, 20]))
          (.step (.ci .i64 1) <|
          .step (.bin .add 2 15) <|
          .tail 3 [0, 1, 16]))))
    (.step (.ci .i64 1) <|
    .ret [4, 0])
/-- postmark/postmarklaw13.TableSorts, function 4, the loop [0]. -/
def d34 : PDef := .tree 6 <|
  .step (.bin .lss 5 4) <|
  .ite 6
    (.step (.at 2 0 5) <|
    .step (.cell 0 7) <|
    .step (.cell 1 7) <|
    .step (.call 35 [1, 8] 0) <|
    .step (.bin .neq 10 9) <|
    .ite 11
      (.step (.ci .i64 0) <|
      .ret [12])
      (.step (.ci .i64 1) <|
      .step (.bin .add 5 12) <|
      .tail 34 [0, 1, 2, 3, 4, 13]))
    (.step (.ci .i64 1) <|
    .ret [7, 0, 1, 2, 3])
/-- postmark/table.Of, function 17, the loop [1]. -/
def d22 : PDef := .tree 4 <|
  .step (.bin .lss 3 2) <|
  .ite 4
    (.step (.idx 1 3) <|
    .step (.at 3 1 5) <|
    .step (.cell 0 6) <|
    .step (.cell 1 6) <|
    .step (.cell 2 6) <|
    .step (.ci .i64 0) <|
    .step (.bin .gtr 3 10) <|
    .ite 11
      (.step (.ci .i64 1) <|
      .step (.bin .sub 3 12) <|
      .step (.idx 1 13) <|
      .step (.at 3 1 14) <|
      .step (.cell 2 15) <|
      .step (.bin .eql 9 16) <|
      .ite 17
        (.ret [10])
        (.step (.call 23 [7] 0) <|
        .step (.mk [18, 8]) <|
        .step (.ml [19]) <|
        .step (.app 2 32 0 20) <|
        .step (.bin .add 3 12) <|
        .tail 22 [21, 1, 2, 22]))
      (.step (.call 23 [7] 0) <|
      .step (.mk [12, 8]) <|
      .step (.ml [13]) <|
      .step (.app 2 32 0 14) <|
      .step (.ci .i64 1) <|
      .step (.bin .add 3 16) <|
      .tail 22 [15, 1, 2, 17]))
    (.step (.ci .i64 1) <|
    .ret [5, 0])
/-- (postmark/table.Table).AtLeast, function 18, the loop [0, 0]. -/
def d26 : PDef := .tree 8 <|
  .step (.len 0) <|
  .step (.bin .lss 1 8) <|
  .ite 9
    (.step (.at 2 0 1) <|
    .step (.cell 0 10) <|
    .step (.call 6 [11] 0) <|
    .step (.bin .lss 12 2) <|
    .ite 13
      (.step (.ci .i64 1) <|
      .step (.bin .add 1 14) <|
      .tail 26 [0, 15, 2, 3, 4, 5, 6, 7])
      (.step (.ci .i64 0) <|
      .ret [14, 0, 1, 2, 3, 4, 5, 10, 11, 12, 6, 7]))
    (.step (.ci .i64 1) <|
    .ret [10, 0, 1, 2, 3, 4, 5, 6, 7])
/-- (postmark/table.Table).AtLeast, function 18, the loop [0]. -/
def d25 : PDef := .tree 5 <|
  .step (.bin .lss 4 3) <|
  .ite 5
    (.step (.at 2 2 4) <|
    .step (.cell 0 6) <|
    .step (.cell 1 6) <|
    .step (.call 6 [7] 0) <|
    .step (.call 26 [0, 1, 9, 2, 3, 4, 7, 8] 0) <|
    .step (.ci .i64 0) <|
    .step (.bin .eql 10 11) <|
    .ite 12
      (.step (.call 26 [0, 1, 9, 2, 3, 4, 7, 8] 1) <|
      .step (.call 26 [0, 1, 9, 2, 3, 4, 7, 8] 2) <|
      .step (.call 26 [0, 1, 9, 2, 3, 4, 7, 8] 3) <|
      .step (.call 26 [0, 1, 9, 2, 3, 4, 7, 8] 4) <|
      .step (.call 26 [0, 1, 9, 2, 3, 4, 7, 8] 5) <|
      .step (.call 26 [0, 1, 9, 2, 3, 4, 7, 8] 6) <|
      .step (.call 26 [0, 1, 9, 2, 3, 4, 7, 8] 7) <|
      .step (.call 26 [0, 1, 9, 2, 3, 4, 7, 8] 8) <|
      .step (.call 26 [0, 1, 9, 2, 3, 4, 7, 8] 9) <|
      .step (.call 26 [0, 1, 9, 2, 3, 4, 7, 8] 10) <|
      .step (.call 26 [0, 1, 9, 2, 3, 4, 7, 8] 11) <|
      .step (.len 13) <|
      .step (.bin .eql 14 24) <|
      .ite 25
        (.ret [11])
        (.step (.at 2 13 14) <|
        .step (.cell 0 26) <|
        .step (.call 6 [27] 0) <|
        .step (.bin .neq 28 15) <|
        .ite 29
          (.ret [11])
          (.step (.cell 1 26) <|
          .step (.bin .lss 30 23) <|
          .ite 31
            (.ret [11])
            (.step (.ci .i64 1) <|
            .step (.bin .add 18 32) <|
            .tail 25 [13, 14, 16, 17, 33]))))
      (.step (.call 26 [0, 1, 9, 2, 3, 4, 7, 8] 1) <|
      .step (.call 26 [0, 1, 9, 2, 3, 4, 7, 8] 2) <|
      .step (.call 26 [0, 1, 9, 2, 3, 4, 7, 8] 3) <|
      .step (.call 26 [0, 1, 9, 2, 3, 4, 7, 8] 4) <|
      .step (.call 26 [0, 1, 9, 2, 3, 4, 7, 8] 5) <|
      .step (.call 26 [0, 1, 9, 2, 3, 4, 7, 8] 6) <|
      .step (.call 26 [0, 1, 9, 2, 3, 4, 7, 8] 7) <|
      .step (.call 26 [0, 1, 9, 2, 3, 4, 7, 8] 8) <|
      .step (.len 13) <|
      .step (.bin .eql 14 21) <|
      .ite 22
        (.ret [11])
        (.step (.at 2 13 14) <|
        .step (.cell 0 23) <|
        .step (.call 6 [24] 0) <|
        .step (.bin .neq 25 15) <|
        .ite 26
          (.ret [11])
          (.step (.cell 1 23) <|
          .step (.bin .lss 27 20) <|
          .ite 28
            (.ret [11])
            (.step (.ci .i64 1) <|
            .step (.bin .add 18 29) <|
            .tail 25 [13, 14, 16, 17, 30])))))
    (.step (.ci .i64 1) <|
    .ret [6])
/-- (postmark/table.Table).Check, function 21, the loop [0]. -/
def d38 : PDef := .tree 4 <|
  .step (.bin .lss 3 2) <|
  .ite 4
    (.step (.at 2 1 3) <|
    .step (.cell 0 5) <|
    .step (.cell 1 5) <|
    .step (.mk [6, 7]) <|
    .step (.call 15 [8] 0) <|
    .step (.ci .i64 0) <|
    .step (.bin .neq 9 10) <|
    .ite 11
      (.ret [10, 9])
      (.step (.call 6 [6] 0) <|
      .step (.bin .gtr 3 10) <|
      .ite 13
        (.step (.bin .eql 12 0) <|
        .ite 14
          (.step (.ci .i64 14) <|
          .ret [10, 15])
          (.step (.bin .lss 12 0) <|
          .ite 15
            (.step (.ci .i64 7) <|
            .ret [10, 16])
            (.step (.ci .i64 1) <|
            .step (.bin .add 3 16) <|
            .tail 38 [12, 1, 2, 17])))
        (.step (.ci .i64 1) <|
        .step (.bin .add 3 14) <|
        .tail 38 [12, 1, 2, 15])))
    (.step (.ci .i64 1) <|
    .ret [5])
/-- postmark/varint.Put, function 99, the loop [0]. -/
def d10 : PDef := .tree 4 <|
  .step (.bin .lss 3 2) <|
  .ite 4
    (.step (.ci .u64 127) <|
    .step (.bin .and 0 5) <|
    .step (.conv .u8 6) <|
    .step (.ci .u8 128) <|
    .step (.bin .or 7 8) <|
    .step (.idx 1 3) <|
    .step (.upd 1 0 1 10 [9]) <|
    .step (.ci .u64 7) <|
    .step (.bin .shr 0 12) <|
    .step (.ci .i64 1) <|
    .step (.bin .add 3 14) <|
    .tail 10 [13, 11, 2, 15])
    (.step (.ci .i64 0) <|
    .ret [5, 1])
/-- (postmark/table.Table).Get, function 20, the loop [0]. -/
def d36 : PDef := .tree 4 <|
  .step (.bin .lss 3 2) <|
  .ite 4
    (.step (.at 2 1 3) <|
    .step (.cell 0 5) <|
    .step (.cell 1 5) <|
    .step (.call 31 [6, 0] 0) <|
    .ite 8
      (.step (.ci .i64 0) <|
      .ret [9, 7])
      (.step (.ci .i64 1) <|
      .step (.bin .add 3 9) <|
      .tail 36 [0, 1, 2, 10]))
    (.step (.ci .i64 1) <|
    .ret [5])
/-- postmark/table.Of, function 17, the loop [0]. -/
def d14 : PDef := .tree 4 <|
  .step (.bin .lss 2 1) <|
  .ite 4
    (.step (.at 2 0 2) <|
    .step (.cell 0 5) <|
    .step (.cell 1 5) <|
    .step (.mk [6, 7]) <|
    .step (.call 15 [8] 0) <|
    .step (.ci .i64 0) <|
    .step (.bin .neq 9 10) <|
    .ite 11
      (.ret [10, 9])
      (.step (.call 6 [6] 0) <|
      .step (.mk [6, 7, 12]) <|
      .step (.ml [13]) <|
      .step (.app 3 48 3 14) <|
      .step (.ci .i64 1) <|
      .step (.bin .add 2 16) <|
      .tail 14 [0, 1, 17, 15]))
    (.step (.ci .i64 1) <|
    .ret [5, 3])
/-- (postmark/descr.Descr).Key, function 81, the loop [0]. -/
def d11 : PDef := .tree 4 <|
  .step (.bin .lss 2 1) <|
  .ite 4
    (.step (.at 2 0 2) <|
    .step (.cell 0 5) <|
    .step (.cell 1 5) <|
    .step (.mk [6, 7]) <|
    .step (.call 12 [8] 0) <|
    .step (.bytes 9) <|
    .step (.app 1 1 3 10) <|
    .step (.slen 9) <|
    .step (.ci .i64 1) <|
    .step (.bin .add 2 13) <|
    .tail 11 [0, 1, 14, 11])
    (.step (.ci .i64 0) <|
    .ret [5, 3])
/-- slices.EqualFunc[postmark/table.Table,postmark/table.Table,postmark/table.Row,postmark/table.Row], function 86, the loop [0]. -/
def d29 : PDef := .tree 4 <|
  .step (.bin .lss 3 2) <|
  .ite 4
    (.step (.at 2 1 3) <|
    .step (.cell 0 5) <|
    .step (.cell 1 5) <|
    .step (.at 2 0 3) <|
    .step (.cell 0 8) <|
    .step (.cell 1 8) <|
    .step (.mk [6, 7]) <|
    .step (.mk [9, 10]) <|
    .step (.call 30 [11, 12] 0) <|
    .step (.un .not 13) <|
    .ite 14
      (.step (.ci .i64 0) <|
      .ret [15])
      (.step (.ci .i64 1) <|
      .step (.bin .add 3 15) <|
      .tail 29 [0, 1, 2, 16]))
    (.step (.ci .i64 1) <|
    .ret [5])
def Ds : List PDef := [d0, d1, d2, d3, d4, d5, d6, d7, d8, d9, d10, d11, d12, d13, d14, d15, d16, d17, d18, d19, d20, d21, d22, d23, d24, d25, d26, d27, d28, d29, d30, d31, d32, d33, d34, d35, d36, d37, d38]
noncomputable abbrev TT : PProg := TofL Ds
end
end B
end Go.Proofs.YtamcdgfjjeldeaaGreatDoor
