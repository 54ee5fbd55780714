/- What functions and loops compute: trees of nodes, found by a driver. -/
import Derived.Test.YtamcdgfjjeldeaaGreatDoorAbsJ
import Derived.Test.YtamcdgfjjeldeaaGreatDoorAbsPl
import Derived.Test.YtamcdgfjjeldeaaGreatDoorAbsTold
namespace Go.Proofs.YtamcdgfjjeldeaaGreatDoor
open Go Go.Abs
set_option maxRecDepth 100000
set_option linter.unusedVariables false
set_option linter.unusedSimpArgs false
namespace F
noncomputable section
/-- postmark/varint.Put, function 99, plain functions []. -/
def d8 : PDef := .fn [.sc] [.sc] <|
  .step (.call 9 [0] 0) <|
  .step (.ci .u8 0) <|
  .step (.rep 1 1 2 1 1) <|
  .step (.len 3) <|
  .step (.ci .i64 0) <|
  .step (.call 11 [0, 3, 4, 5] 0) <|
  .step (.call 11 [0, 3, 4, 5] 1) <|
  .step (.len 7) <|
  .step (.ci .i64 1) <|
  .step (.bin .sub 8 9) <|
  .step (.idx 7 10) <|
  .step (.at 1 7 11) <|
  .step (.cell 0 12) <|
  .step (.ci .u8 127) <|
  .step (.bin .and 13 14) <|
  .step (.upd 1 0 7 11 [15]) <|
  .step (.str 16) <|
  .ret [17]
/-- slices.Clone[[]string,string] is told. -/
abbrev d23 : PDef := .prim (cloneP 16 1)
/-- slices.Compact[[]string,string], function 47, plain functions []. -/
def d24 : PDef := .fn [.sc] [.sc] <|
  .step (.len 0) <|
  .step (.ci .i64 2) <|
  .step (.bin .lss 1 2) <|
  .ite 3
    (.ret [0])
    (.step (.ci .i64 1) <|
    .step (.call 25 [0, 4] 0) <|
    .step (.call 25 [0, 4] 1) <|
    .ret [6])
/-- postmark/varint.Get, function 128, plain functions []. -/
def d17 : PDef := .fn [.sc] [.sc, .sc, .sc] <|
  .step (.slen 0) <|
  .step (.ci .i64 10) <|
  .step (.mm false 1 2) <|
  .step (.ci .u64 0) <|
  .step (.ci .i64 0) <|
  .step (.call 18 [0, 4, 3, 5] 0) <|
  .step (.bin .eql 6 5) <|
  .ite 7
    (.step (.call 18 [0, 4, 3, 5] 1) <|
    .step (.call 18 [0, 4, 3, 5] 2) <|
    .step (.call 18 [0, 4, 3, 5] 3) <|
    .ret [8, 9, 10])
    (.step (.call 18 [0, 4, 3, 5] 1) <|
    .step (.slen 8) <|
    .step (.bin .geq 9 2) <|
    .ite 10
      (.step (.ci .i64 3) <|
      .ret [4, 5, 11])
      (.step (.ci .i64 1) <|
      .ret [4, 5, 11]))
/-- slices.Equal[[]string,string], function 40, plain functions []. -/
def d19 : PDef := .fn [.sc, .sc] [.sc] <|
  .step (.len 0) <|
  .step (.len 1) <|
  .step (.bin .neq 2 3) <|
  .ite 4
    (.step (.cb false) <|
    .ret [5])
    (.step (.ci .i64 0) <|
    .step (.call 20 [0, 1, 2, 5] 0) <|
    .step (.bin .eql 6 5) <|
    .ite 7
      (.step (.cb false) <|
      .ret [8])
      (.step (.cb true) <|
      .ret [8]))
/-- postmark/varint.Size, function 129, plain functions []. -/
def d9 : PDef := .fn [.sc] [.sc] <|
  .step (.ci .i64 1) <|
  .step (.call 10 [0, 1] 0) <|
  .step (.call 10 [0, 1] 1) <|
  .ret [3]
/-- postmark/postmarklaw14.PrefixBack, function 7, plain functions []. -/
def d0 : PDef := .fn [.sc, .sc] [.sc] <|
  .step (.call 1 [0] 0) <|
  .step (.un .not 2) <|
  .ite 3
    (.step (.cb true) <|
    .ret [4])
    (.step (.slen 1) <|
    .step (.ci .i64 3000) <|
    .step (.bin .gtr 4 5) <|
    .ite 6
      (.step (.cb true) <|
      .ret [7])
      (.step (.call 3 [0] 0) <|
      .step (.call 3 [0] 1) <|
      .step (.ci .i64 0) <|
      .step (.bin .eql 8 9) <|
      .ite 10
        (.step (.call 13 [7] 0) <|
        .step (.call 13 [7] 1) <|
        .step (.bin .neq 12 9) <|
        .ite 13
          (.step (.cb false) <|
          .ret [14])
          (.step (.call 19 [11, 0] 0) <|
          .step (.un .not 14) <|
          .ite 15
            (.step (.cb false) <|
            .ret [16])
            (.step (.call 21 [0] 0) <|
            .step (.un .not 16) <|
            .ite 17
              (.step (.cb false) <|
              .ret [18])
              (.step (.call 13 [1] 0) <|
              .step (.call 13 [1] 1) <|
              .step (.bin .neq 19 9) <|
              .ite 20
                (.step (.len 18) <|
                .step (.bin .eql 21 9) <|
                .ret [22])
                (.step (.call 3 [18] 0) <|
                .step (.call 3 [18] 1) <|
                .step (.bin .eql 22 9) <|
                .ite 23
                  (.step (.bin .eql 21 1) <|
                  .ite 24
                    (.step (.call 21 [18] 0) <|
                    .ite 25
                      (.step (.call 23 [18] 0) <|
                      .step (.call 24 [26] 0) <|
                      .step (.len 27) <|
                      .step (.len 18) <|
                      .step (.bin .eql 28 29) <|
                      .ret [30])
                      (.step (.cb false) <|
                      .ret [26]))
                    (.step (.cb false) <|
                    .ret [25]))
                  (.step (.cb false) <|
                  .ret [24]))))))
        (.step (.call 13 [1] 0) <|
        .step (.call 13 [1] 1) <|
        .step (.bin .neq 12 9) <|
        .ite 13
          (.step (.len 11) <|
          .step (.bin .eql 14 9) <|
          .ret [15])
          (.step (.call 3 [11] 0) <|
          .step (.call 3 [11] 1) <|
          .step (.bin .eql 15 9) <|
          .ite 16
            (.step (.bin .eql 14 1) <|
            .ite 17
              (.step (.call 21 [11] 0) <|
              .ite 18
                (.step (.call 23 [11] 0) <|
                .step (.call 24 [19] 0) <|
                .step (.len 20) <|
                .step (.len 11) <|
                .step (.bin .eql 21 22) <|
                .ret [23])
                (.step (.cb false) <|
                .ret [19]))
              (.step (.cb false) <|
              .ret [18]))
            (.step (.cb false) <|
            .ret [17])))))
/-- postmark/prefix.All, function 35, plain functions []. -/
def d13 : PDef := .fn [.sc] [.sc, .sc] <|
  .step (.cs []) <|
  .step (.ci .i64 0) <|
  .step (.ml []) <|
  .step (.call 14 [3, 1, 0, 2] 0) <|
  .step (.bin .eql 4 2) <|
  .ite 5
    (.step (.call 14 [3, 1, 0, 2] 1) <|
    .ret [3, 6])
    (.step (.call 14 [3, 1, 0, 2] 1) <|
    .ret [6, 2])
/-- postmark/postmarklaw14.few, function 32, plain functions []. -/
def d1 : PDef := .fn [.sc] [.sc] <|
  .step (.len 0) <|
  .step (.ci .i64 0) <|
  .step (.call 2 [0, 1, 2] 0) <|
  .step (.bin .eql 3 2) <|
  .ite 4
    (.step (.cb false) <|
    .ret [5])
    (.step (.call 2 [0, 1, 2] 1) <|
    .step (.len 5) <|
    .step (.ci .i64 60) <|
    .step (.bin .leq 6 7) <|
    .ret [8])
/-- postmark/prefix.Put, function 33, plain functions []. -/
def d3 : PDef := .fn [.sc] [.sc, .sc] <|
  .step (.len 0) <|
  .step (.ci .i64 0) <|
  .step (.bin .lss 2 1) <|
  .ite 3
    (.step (.at 1 0 2) <|
    .step (.cell 0 4) <|
    .step (.cs []) <|
    .step (.call 5 [6, 5] 0) <|
    .step (.bytes 7) <|
    .step (.ml []) <|
    .step (.app 1 1 9 8) <|
    .step (.slen 7) <|
    .step (.ci .i64 1) <|
    .step (.call 12 [5, 0, 1, 12, 10] 0) <|
    .step (.bin .eql 13 2) <|
    .ite 14
      (.step (.ci .i64 7) <|
      .ret [6, 15])
      (.step (.call 12 [5, 0, 1, 12, 10] 1) <|
      .step (.len 15) <|
      .step (.str 15) <|
      .ret [17, 2]))
    (.step (.cs []) <|
    .ret [4, 2])
/-- slices.IsSorted[[]string,string], function 46, plain functions []. -/
def d21 : PDef := .fn [.sc] [.sc] <|
  .step (.len 0) <|
  .step (.ci .i64 1) <|
  .step (.bin .sub 1 2) <|
  .step (.call 22 [0, 3] 0) <|
  .step (.ci .i64 0) <|
  .step (.bin .eql 4 5) <|
  .ite 6
    (.step (.cb false) <|
    .ret [7])
    (.step (.cb true) <|
    .ret [7])
/-- postmark/prefix.Common, function 42, plain functions []. -/
def d6 : PDef := .fn [.sc, .sc] [.sc] <|
  .step (.ci .i64 0) <|
  .step (.call 7 [0, 1, 2] 0) <|
  .step (.call 7 [0, 1, 2] 1) <|
  .ret [4]
/-- postmark/prefix.One, function 44, plain functions []. -/
def d5 : PDef := .fn [.sc, .sc] [.sc] <|
  .step (.call 6 [0, 1] 0) <|
  .step (.conv .u64 2) <|
  .step (.call 8 [3] 0) <|
  .step (.slen 1) <|
  .step (.bin .sub 5 2) <|
  .step (.conv .u64 6) <|
  .step (.call 8 [7] 0) <|
  .step (.bin .add 4 8) <|
  .step (.ssub 1 2 5) <|
  .step (.bin .add 9 10) <|
  .ret [11]
/-- postmark/varint.Next, function 96, handed blocks, plain functions []. -/
def d16 : PDef := .tree 2 <|
  .step (.slen 0) <|
  .step (.ssub 0 1 2) <|
  .step (.call 17 [3] 0) <|
  .step (.call 17 [3] 1) <|
  .step (.call 17 [3] 2) <|
  .step (.ci .i64 0) <|
  .step (.bin .neq 6 7) <|
  .ite 8
    (.step (.ci .u64 0) <|
    .ret [7, 9, 6, 0, 1])
    (.step (.conv .u64 5) <|
    .step (.bin .sub 2 1) <|
    .step (.conv .u64 10) <|
    .step (.bin .gtr 9 11) <|
    .ite 12
      (.ret [7, 4, 7, 0, 1])
      (.step (.conv .i64 9) <|
      .step (.bin .add 1 13) <|
      .step (.ssub 0 1 14) <|
      .ret [7, 4, 7, 0, 14]))
/-- postmark/prefix.Next, function 38, handed blocks, plain functions []. -/
def d15 : PDef := .tree 4 <|
  .ite 2
    (.step (.call 16 [0, 3] 0) <|
    .step (.call 16 [0, 3] 1) <|
    .step (.call 16 [0, 3] 2) <|
    .step (.call 16 [0, 3] 3) <|
    .step (.call 16 [0, 3] 4) <|
    .step (.ci .i64 0) <|
    .step (.bin .neq 6 9) <|
    .ite 10
      (.step (.cs []) <|
      .ret [9, 11, 6, 7, 8])
      (.step (.ci .u64 0) <|
      .step (.bin .gtr 5 11) <|
      .ite 12
        (.step (.cs []) <|
        .step (.ci .i64 23) <|
        .ret [9, 13, 14, 7, 8])
        (.step (.call 16 [7, 8] 0) <|
        .step (.call 16 [7, 8] 1) <|
        .step (.call 16 [7, 8] 2) <|
        .step (.call 16 [7, 8] 3) <|
        .step (.call 16 [7, 8] 4) <|
        .step (.bin .neq 15 9) <|
        .ite 18
          (.step (.cs []) <|
          .ret [9, 19, 15, 16, 17])
          (.step (.slen 16) <|
          .step (.bin .sub 19 17) <|
          .step (.conv .u64 20) <|
          .step (.bin .gtr 14 21) <|
          .ite 22
            (.step (.cs []) <|
            .step (.ci .i64 1) <|
            .ret [9, 23, 24, 16, 17])
            (.step (.conv .i64 14) <|
            .step (.bin .add 17 23) <|
            .step (.ssub 16 17 24) <|
            .step (.cs []) <|
            .step (.ssub 26 9 5) <|
            .step (.bin .add 27 25) <|
            .step (.un .not 2) <|
            .ite 29
              (.step (.bin .leq 28 26) <|
              .ite 30
                (.step (.ci .i64 7) <|
                .ret [9, 26, 31, 16, 24])
                (.step (.call 6 [26, 28] 0) <|
                .step (.conv .i64 5) <|
                .step (.bin .gtr 31 32) <|
                .ite 33
                  (.step (.ci .i64 23) <|
                  .ret [9, 26, 34, 16, 24])
                  (.ret [9, 28, 9, 16, 24])))
              (.step (.call 6 [26, 28] 0) <|
              .step (.conv .i64 5) <|
              .step (.bin .gtr 30 31) <|
              .ite 32
                (.step (.ci .i64 23) <|
                .ret [9, 26, 33, 16, 24])
                (.ret [9, 28, 9, 16, 24])))))))
    (.step (.call 16 [0, 3] 0) <|
    .step (.call 16 [0, 3] 1) <|
    .step (.call 16 [0, 3] 2) <|
    .step (.call 16 [0, 3] 3) <|
    .step (.call 16 [0, 3] 4) <|
    .step (.ci .i64 0) <|
    .step (.bin .neq 6 9) <|
    .ite 10
      (.step (.cs []) <|
      .ret [9, 11, 6, 7, 8])
      (.step (.slen 1) <|
      .step (.conv .u64 11) <|
      .step (.bin .gtr 5 12) <|
      .ite 13
        (.step (.cs []) <|
        .step (.ci .i64 23) <|
        .ret [9, 14, 15, 7, 8])
        (.step (.call 16 [7, 8] 0) <|
        .step (.call 16 [7, 8] 1) <|
        .step (.call 16 [7, 8] 2) <|
        .step (.call 16 [7, 8] 3) <|
        .step (.call 16 [7, 8] 4) <|
        .step (.bin .neq 16 9) <|
        .ite 19
          (.step (.cs []) <|
          .ret [9, 20, 16, 17, 18])
          (.step (.slen 17) <|
          .step (.bin .sub 20 18) <|
          .step (.conv .u64 21) <|
          .step (.bin .gtr 15 22) <|
          .ite 23
            (.step (.cs []) <|
            .step (.ci .i64 1) <|
            .ret [9, 24, 25, 17, 18])
            (.step (.conv .i64 15) <|
            .step (.bin .add 18 24) <|
            .step (.ssub 17 18 25) <|
            .step (.ssub 1 9 5) <|
            .step (.bin .add 27 26) <|
            .step (.un .not 2) <|
            .ite 29
              (.step (.bin .leq 28 1) <|
              .ite 30
                (.step (.cs []) <|
                .step (.ci .i64 7) <|
                .ret [9, 31, 32, 17, 25])
                (.step (.call 6 [1, 28] 0) <|
                .step (.conv .i64 5) <|
                .step (.bin .gtr 31 32) <|
                .ite 33
                  (.step (.cs []) <|
                  .step (.ci .i64 23) <|
                  .ret [9, 34, 35, 17, 25])
                  (.ret [9, 28, 9, 17, 25])))
              (.step (.call 6 [1, 28] 0) <|
              .step (.conv .i64 5) <|
              .step (.bin .gtr 30 31) <|
              .ite 32
                (.step (.cs []) <|
                .step (.ci .i64 23) <|
                .ret [9, 33, 34, 17, 25])
                (.ret [9, 28, 9, 17, 25])))))))
/-- slices.IsSorted[[]string,string], function 46, the loop [0]. -/
def d22 : PDef := .tree 2 <|
  .step (.ci .i64 0) <|
  .step (.bin .gtr 1 2) <|
  .ite 3
    (.step (.at 1 0 1) <|
    .step (.cell 0 4) <|
    .step (.ci .i64 1) <|
    .step (.bin .sub 1 6) <|
    .step (.at 1 0 7) <|
    .step (.cell 0 8) <|
    .step (.bin .neq 5 5) <|
    .ite 10
      (.step (.bin .neq 9 9) <|
      .step (.un .not 11) <|
      .ite 12
        (.ret [2])
        (.step (.bin .lss 5 9) <|
        .ite 13
          (.ret [2])
          (.tail 22 [0, 7])))
      (.step (.bin .lss 5 9) <|
      .ite 11
        (.ret [2])
        (.tail 22 [0, 7])))
    (.step (.ci .i64 1) <|
    .ret [4])
/-- slices.Equal[[]string,string], function 40, the loop [0]. -/
def d20 : PDef := .tree 4 <|
  .step (.bin .lss 3 2) <|
  .ite 4
    (.step (.at 1 0 3) <|
    .step (.cell 0 5) <|
    .step (.at 1 1 3) <|
    .step (.cell 0 7) <|
    .step (.bin .neq 6 8) <|
    .ite 9
      (.step (.ci .i64 0) <|
      .ret [10])
      (.step (.ci .i64 1) <|
      .step (.bin .add 3 10) <|
      .tail 20 [0, 1, 2, 11]))
    (.step (.ci .i64 1) <|
    .ret [5])
/-- postmark/varint.Get, function 128, the loop [0]. -/
def d18 : PDef := .tree 4 <|
  .step (.bin .lss 3 2) <|
  .ite 4
    (.step (.sidx 0 3) <|
    .step (.ci .u8 127) <|
    .step (.bin .and 5 6) <|
    .step (.conv .u64 7) <|
    .step (.ci .i64 7) <|
    .step (.bin .mul 9 3) <|
    .step (.bin .shl 8 10) <|
    .step (.bin .or 1 11) <|
    .step (.ci .u8 128) <|
    .step (.bin .geq 5 13) <|
    .ite 14
      (.step (.ci .i64 1) <|
      .step (.bin .add 3 15) <|
      .tail 18 [0, 12, 2, 16])
      (.step (.ci .i64 9) <|
      .step (.bin .eql 3 15) <|
      .ite 16
        (.step (.ci .u8 1) <|
        .step (.bin .gtr 5 17) <|
        .ite 18
          (.step (.ci .u64 0) <|
          .step (.ci .i64 0) <|
          .step (.ci .i64 3) <|
          .ret [20, 19, 20, 21])
          (.step (.ci .i64 0) <|
          .step (.bin .gtr 3 19) <|
          .ite 20
            (.step (.ci .u8 0) <|
            .step (.bin .eql 5 21) <|
            .ite 22
              (.step (.ci .u64 0) <|
              .step (.ci .i64 2) <|
              .ret [19, 23, 19, 24])
              (.step (.ci .i64 1) <|
              .step (.bin .add 3 23) <|
              .ret [19, 12, 24, 19]))
            (.step (.ci .i64 1) <|
            .step (.bin .add 3 21) <|
            .ret [19, 12, 22, 19])))
        (.step (.ci .i64 0) <|
        .step (.bin .gtr 3 17) <|
        .ite 18
          (.step (.ci .u8 0) <|
          .step (.bin .eql 5 19) <|
          .ite 20
            (.step (.ci .u64 0) <|
            .step (.ci .i64 2) <|
            .ret [17, 21, 17, 22])
            (.step (.ci .i64 1) <|
            .step (.bin .add 3 21) <|
            .ret [17, 12, 22, 17]))
          (.step (.ci .i64 1) <|
          .step (.bin .add 3 19) <|
          .ret [17, 12, 20, 17]))))
    (.step (.ci .i64 1) <|
    .ret [5, 0])
/-- slices.Compact[[]string,string], function 47, the loop [0]. -/
def d25 : PDef := .tree 2 <|
  .step (.len 0) <|
  .step (.bin .lss 1 2) <|
  .ite 3
    (.step (.at 1 0 1) <|
    .step (.cell 0 4) <|
    .step (.ci .i64 1) <|
    .step (.bin .sub 1 6) <|
    .step (.at 1 0 7) <|
    .step (.cell 0 8) <|
    .step (.bin .eql 5 9) <|
    .ite 10
      (.step (.lsub 1 0 1 2) <|
      .step (.call 26 [0, 1, 11, 6] 0) <|
      .step (.call 26 [0, 1, 11, 6] 1) <|
      .step (.call 26 [0, 1, 11, 6] 2) <|
      .step (.len 13) <|
      .step (.lsub 1 13 14 15) <|
      .dead)
      (.step (.bin .add 1 6) <|
      .tail 25 [0, 11]))
    (.step (.ci .i64 0) <|
    .ret [4, 0])
/-- postmark/varint.Size, function 129, the loop [0]. -/
def d10 : PDef := .tree 2 <|
  .step (.ci .u64 128) <|
  .step (.bin .geq 0 2) <|
  .ite 3
    (.step (.ci .u64 7) <|
    .step (.bin .shr 0 4) <|
    .step (.ci .i64 1) <|
    .step (.bin .add 1 6) <|
    .tail 10 [5, 7])
    (.step (.ci .i64 0) <|
    .ret [4, 1])
/-- postmark/postmarklaw14.few, function 32, the loop [0]. -/
def d2 : PDef := .tree 3 <|
  .step (.bin .lss 2 1) <|
  .ite 3
    (.step (.at 1 0 2) <|
    .step (.cell 0 4) <|
    .step (.slen 5) <|
    .step (.ci .i64 300) <|
    .step (.bin .gtr 6 7) <|
    .ite 8
      (.step (.ci .i64 0) <|
      .ret [9])
      (.step (.ci .i64 1) <|
      .step (.bin .add 2 9) <|
      .tail 2 [0, 1, 10]))
    (.step (.ci .i64 1) <|
    .ret [4, 0])
/-- postmark/prefix.Put, function 33, the loop [0]. -/
def d12 : PDef := .tree 5 <|
  .step (.bin .lss 3 2) <|
  .ite 5
    (.step (.at 1 1 3) <|
    .step (.cell 0 6) <|
    .step (.ci .i64 0) <|
    .step (.bin .gtr 3 8) <|
    .ite 9
      (.step (.bin .leq 7 0) <|
      .ite 10
        (.ret [8])
        (.step (.call 5 [0, 7] 0) <|
        .step (.bytes 11) <|
        .step (.app 1 1 4 12) <|
        .step (.slen 11) <|
        .step (.ci .i64 1) <|
        .step (.bin .add 3 15) <|
        .tail 12 [7, 1, 2, 16, 13]))
      (.step (.call 5 [0, 7] 0) <|
      .step (.bytes 10) <|
      .step (.app 1 1 4 11) <|
      .step (.slen 10) <|
      .step (.ci .i64 1) <|
      .step (.bin .add 3 14) <|
      .tail 12 [7, 1, 2, 15, 12]))
    (.step (.ci .i64 1) <|
    .ret [6, 4])
/-- postmark/varint.Put, function 99, the loop [0]. -/
def d11 : PDef := .tree 4 <|
  .step (.bin .lss 3 2) <|
  .ite 4
    (.step (.ci .u64 127) <|
    .step (.bin .and 0 5) <|
    .step (.conv .u8 6) <|
    .step (.ci .u8 128) <|
    .step (.bin .or 7 8) <|
    .step (.idx 1 3) <|
    .step (.upd 1 0 1 10 [9]) <|
    .step (.ci .u64 7) <|
    .step (.bin .shr 0 12) <|
    .step (.ci .i64 1) <|
    .step (.bin .add 3 14) <|
    .tail 11 [13, 11, 2, 15])
    (.step (.ci .i64 0) <|
    .ret [5, 1])
/-- postmark/prefix.All, function 35, the loop [0]. -/
def d14 : PDef := .tree 4 <|
  .step (.slen 2) <|
  .step (.bin .sub 4 3) <|
  .step (.ci .i64 0) <|
  .step (.bin .gtr 5 6) <|
  .ite 7
    (.step (.len 0) <|
    .step (.bin .eql 8 6) <|
    .step (.call 15 [2, 1, 9, 3] 0) <|
    .step (.call 15 [2, 1, 9, 3] 1) <|
    .step (.call 15 [2, 1, 9, 3] 2) <|
    .step (.call 15 [2, 1, 9, 3] 3) <|
    .step (.call 15 [2, 1, 9, 3] 4) <|
    .step (.bin .neq 12 6) <|
    .ite 15
      (.ret [6, 12])
      (.step (.ml [11]) <|
      .step (.app 1 16 0 16) <|
      .tail 14 [17, 11, 13, 14]))
    (.step (.ci .i64 1) <|
    .ret [8, 0])
/-- postmark/prefix.Common, function 42, the loop [0]. -/
def d7 : PDef := .tree 3 <|
  .step (.slen 0) <|
  .step (.bin .lss 2 3) <|
  .ite 4
    (.step (.slen 1) <|
    .step (.bin .lss 2 5) <|
    .ite 6
      (.step (.sidx 0 2) <|
      .step (.sidx 1 2) <|
      .step (.bin .eql 7 8) <|
      .ite 9
        (.step (.ci .i64 1) <|
        .step (.bin .add 2 10) <|
        .tail 7 [0, 1, 11])
        (.step (.ci .i64 0) <|
        .ret [10, 2]))
      (.step (.ci .i64 0) <|
      .ret [7, 2]))
    (.step (.ci .i64 0) <|
    .ret [5, 2])
/-- slices.Compact[[]string,string], function 47, the loop [0, 0]. -/
def d26 : PDef := .tree 4 <|
  .step (.len 2) <|
  .step (.bin .lss 3 4) <|
  .ite 5
    (.step (.at 1 2 3) <|
    .step (.cell 0 6) <|
    .step (.ci .i64 1) <|
    .step (.bin .sub 3 8) <|
    .step (.at 1 2 9) <|
    .step (.cell 0 10) <|
    .step (.bin .neq 7 11) <|
    .ite 12
      (.step (.at 1 0 1) <|
      .dead)
      (.step (.bin .add 3 8) <|
      .tail 26 [0, 1, 2, 13]))
    (.step (.ci .i64 0) <|
    .ret [6, 0, 1])
def Ds : List PDef := [d0, d1, d2, d3, .prim fun _ => none, d5, d6, d7, d8, d9, d10, d11, d12, d13, d14, d15, d16, d17, d18, d19, d20, d21, d22, d23, d24, d25, d26]
noncomputable abbrev TT : PProg := TofL Ds
end
end F
end Go.Proofs.YtamcdgfjjeldeaaGreatDoor
