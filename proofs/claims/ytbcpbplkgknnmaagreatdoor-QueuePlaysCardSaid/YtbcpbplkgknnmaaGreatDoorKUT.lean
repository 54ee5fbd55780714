/- What functions and loops compute: trees of nodes, found by a driver. -/
import Derived.Test.YtbcpbplkgknnmaaGreatDoorAbsJ
import Derived.Test.YtbcpbplkgknnmaaGreatDoorAbsPl
import Derived.Test.YtbcpbplkgknnmaaGreatDoorAbsTold
import Derived.Test.YtbcpbplkgknnmaaGreatDoorAbsCloneO
namespace Go.Proofs.YtbcpbplkgknnmaaGreatDoor
open Go Go.Abs
set_option maxRecDepth 100000
set_option linter.unusedVariables false
set_option linter.unusedSimpArgs false
namespace U
noncomputable section
/-- postmark/postmarklaw21.QueuePlays, function 7, plain functions []. -/
def d1 : PDef := .fn [.sc] [.sc] <|
  .step (.len 0) <|
  .step (.ci .i64 80) <|
  .step (.bin .gtr 1 2) <|
  .ite 3
    (.step (.cb true) <|
    .ret [4])
    (.step (.ml []) <|
    .step (.ci .i64 0) <|
    .step (.ci .u64 0) <|
    .step (.call 2 [4, 0, 1, 5, 4, 6] 0) <|
    .step (.bin .eql 7 5) <|
    .ite 8
      (.step (.call 2 [4, 0, 1, 5, 4, 6] 1) <|
      .ret [9])
      (.step (.cb true) <|
      .ret [9]))
/-- postmark/postmarkref21.Put, function 58, plain functions []. -/
def d24 : PDef := .fn [.sc, .sc, .sc] [.sc] <|
  .step (.ci .i64 0) <|
  .step (.call 25 [0, 1, 2, 3] 0) <|
  .step (.call 25 [0, 1, 2, 3] 1) <|
  .step (.lsub 2 0 3 5) <|
  .step (.ml []) <|
  .step (.app 2 24 7 6) <|
  .step (.mk [1, 2]) <|
  .step (.ml [9]) <|
  .step (.app 2 24 8 10) <|
  .step (.len 0) <|
  .step (.lsub 2 0 5 12) <|
  .step (.app 2 24 11 13) <|
  .ret [14]
/-- slices.Clone[postmark/queue.items,postmark/queue.item] is told. -/
abbrev d0 : PDef := .prim (cloneP 32 3)
/-- slices.Equal[[]string,string], function 56, plain functions []. -/
def d17 : PDef := .fn [.sc, .sc] [.sc] <|
  .step (.len 0) <|
  .step (.len 1) <|
  .step (.bin .neq 2 3) <|
  .ite 4
    (.step (.cb false) <|
    .ret [5])
    (.step (.ci .i64 0) <|
    .step (.call 18 [0, 1, 2, 5] 0) <|
    .step (.bin .eql 6 5) <|
    .ite 7
      (.step (.cb false) <|
      .ret [8])
      (.step (.cb true) <|
      .ret [8]))
/-- postmark/postmarkref21.Due, function 55, plain functions []. -/
def d13 : PDef := .fn [.sc, .sc] [.sc, .sc] <|
  .step (.ci .i64 0) <|
  .step (.ml []) <|
  .step (.call 14 [0, 1, 3, 2] 0) <|
  .step (.call 14 [0, 1, 3, 2] 1) <|
  .step (.call 14 [0, 1, 3, 2] 2) <|
  .step (.len 0) <|
  .step (.lsub 2 0 6 7) <|
  .ret [8, 5]
/-- (*postmark/queue.Queue).Due, function 57, handed blocks, plain functions []. -/
def d21 : PDef := .tree 3 <|
  .step (.ml []) <|
  .step (.call 22 [0, 3, 1, 2] 0) <|
  .step (.call 22 [0, 3, 1, 2] 1) <|
  .step (.call 22 [0, 3, 1, 2] 2) <|
  .step (.ci .i64 0) <|
  .ret [7, 5, 6]
/-- (*postmark/queue.Queue).Put, function 53, handed blocks, plain functions []. -/
def d19 : PDef := .tree 4 <|
  .step (.len 1) <|
  .step (.ci .i64 0) <|
  .step (.call 20 [0, 1, 4, 5, 2, 3] 0) <|
  .step (.call 20 [0, 1, 4, 5, 2, 3] 1) <|
  .step (.call 20 [0, 1, 4, 5, 2, 3] 2) <|
  .ret [5, 7, 8]
/-- container/heap.down, function 202, handed blocks, plain functions []. -/
def d11 : PDef := .tree 4 <|
  .step (.call 12 [0, 1, 0, 2, 3] 0) <|
  .step (.call 12 [0, 1, 0, 2, 3] 1) <|
  .step (.call 12 [0, 1, 0, 2, 3] 2) <|
  .step (.bin .gtr 5 0) <|
  .step (.ci .i64 0) <|
  .ret [8, 7, 6]
/-- container/heap.Pop, function 137, handed blocks, plain functions []. -/
def d10 : PDef := .tree 2 <|
  .step (.len 0) <|
  .step (.ci .i64 1) <|
  .step (.bin .sub 2 3) <|
  .step (.idx 0 4) <|
  .step (.at 3 0 5) <|
  .step (.cell 0 6) <|
  .step (.cell 1 6) <|
  .step (.cell 2 6) <|
  .step (.ci .i64 0) <|
  .step (.idx 0 10) <|
  .step (.at 3 0 11) <|
  .step (.cell 0 12) <|
  .step (.cell 1 12) <|
  .step (.cell 2 12) <|
  .step (.upd 3 0 0 11 [7, 8, 9]) <|
  .step (.upd 3 0 16 5 [13, 14, 15]) <|
  .step (.call 11 [10, 4, 17, 1] 0) <|
  .step (.call 11 [10, 4, 17, 1] 1) <|
  .step (.call 11 [10, 4, 17, 1] 2) <|
  .step (.len 20) <|
  .step (.bin .sub 21 3) <|
  .step (.idx 20 22) <|
  .step (.at 3 20 23) <|
  .step (.cell 0 24) <|
  .step (.cell 1 24) <|
  .step (.cell 2 24) <|
  .step (.ci .u64 0) <|
  .step (.cs []) <|
  .step (.upd 3 0 20 23 [28, 28, 29]) <|
  .step (.lsub 3 30 10 22) <|
  .ret [10, 25, 26, 27, 31]
/-- (*postmark/queue.Queue).Pop, function 54, handed blocks, plain functions []. -/
def d9 : PDef := .tree 2 <|
  .step (.len 0) <|
  .step (.ci .i64 0) <|
  .step (.bin .eql 2 3) <|
  .ite 4
    (.step (.ci .u64 0) <|
    .step (.cs []) <|
    .step (.cb false) <|
    .ret [3, 5, 6, 7, 0])
    (.step (.call 10 [0, 1] 0) <|
    .step (.call 10 [0, 1] 1) <|
    .step (.call 10 [0, 1] 2) <|
    .step (.call 10 [0, 1] 3) <|
    .step (.call 10 [0, 1] 4) <|
    .step (.cb true) <|
    .ret [3, 6, 8, 10, 9])
/-- container/heap.Push, function 136, handed blocks, plain functions []. -/
def d8 : PDef := .tree 4 <|
  .step (.mk [0, 1, 2]) <|
  .step (.ml [4]) <|
  .step (.app 3 32 3 5) <|
  .step (.len 6) <|
  .step (.ci .i64 1) <|
  .step (.bin .sub 7 8) <|
  .step (.call 6 [9, 6, 1] 0) <|
  .step (.call 6 [9, 6, 1] 1) <|
  .step (.ci .i64 0) <|
  .ret [12, 11]
/-- container/heap.up, function 201, handed blocks, plain functions []. -/
def d6 : PDef := .tree 3 <|
  .step (.call 7 [0, 1, 2] 0) <|
  .step (.call 7 [0, 1, 2] 1) <|
  .step (.ci .i64 0) <|
  .ret [5, 4]
/-- postmark/postmarklaw21.QueuePlays, function 7, the loop [0, 0]. -/
def d23 : PDef := .tree 11 <|
  .step (.bin .lss 6 5) <|
  .ite 11
    (.step (.at 1 4 6) <|
    .step (.cell 0 12) <|
    .step (.call 24 [0, 8, 13] 0) <|
    .step (.ci .i64 1) <|
    .step (.bin .add 6 15) <|
    .tail 23 [14, 1, 2, 3, 4, 5, 16, 7, 8, 9, 10])
    (.step (.ci .i64 0) <|
    .ret [12, 0])
/-- (*postmark/queue.Queue).Due, function 57, the loop [0]. -/
def d22 : PDef := .tree 4 <|
  .step (.len 2) <|
  .step (.ci .i64 0) <|
  .step (.bin .eql 4 5) <|
  .ite 6
    (.ret [5, 1, 2])
    (.step (.idx 2 5) <|
    .step (.at 3 2 7) <|
    .step (.cell 0 8) <|
    .step (.bin .gtr 9 0) <|
    .ite 10
      (.ret [5, 1, 2])
      (.step (.call 9 [2, 3] 0) <|
      .step (.call 9 [2, 3] 1) <|
      .step (.call 9 [2, 3] 2) <|
      .step (.call 9 [2, 3] 3) <|
      .step (.call 9 [2, 3] 4) <|
      .step (.ml [13]) <|
      .step (.app 1 16 1 16) <|
      .tail 22 [0, 17, 15, 3]))
/-- (*postmark/queue.Queue).Put, function 53, the loop [0]. -/
def d20 : PDef := .tree 6 <|
  .step (.bin .lss 3 2) <|
  .ite 6
    (.step (.at 1 1 3) <|
    .step (.cell 0 7) <|
    .step (.call 8 [0, 5, 8, 4] 0) <|
    .step (.call 8 [0, 5, 8, 4] 1) <|
    .step (.ci .u64 1) <|
    .step (.bin .add 5 11) <|
    .step (.ci .i64 1) <|
    .step (.bin .add 3 13) <|
    .tail 20 [0, 1, 2, 14, 10, 12])
    (.step (.ci .i64 0) <|
    .ret [7, 4, 5])
/-- slices.Equal[[]string,string], function 56, the loop [0]. -/
def d18 : PDef := .tree 4 <|
  .step (.bin .lss 3 2) <|
  .ite 4
    (.step (.at 1 0 3) <|
    .step (.cell 0 5) <|
    .step (.at 1 1 3) <|
    .step (.cell 0 7) <|
    .step (.bin .neq 6 8) <|
    .ite 9
      (.step (.ci .i64 0) <|
      .ret [10])
      (.step (.ci .i64 1) <|
      .step (.bin .add 3 10) <|
      .tail 18 [0, 1, 2, 11]))
    (.step (.ci .i64 1) <|
    .ret [5])
/-- postmark/postmarkref21.Put, function 58, the loop [0]. -/
def d25 : PDef := .tree 4 <|
  .step (.len 0) <|
  .step (.bin .lss 3 4) <|
  .ite 5
    (.step (.at 2 0 3) <|
    .step (.cell 0 6) <|
    .step (.bin .leq 7 1) <|
    .ite 8
      (.step (.ci .i64 1) <|
      .step (.bin .add 3 9) <|
      .tail 25 [0, 1, 2, 10])
      (.step (.ci .i64 0) <|
      .ret [9, 3]))
    (.step (.ci .i64 0) <|
    .ret [6, 3])
/-- container/heap.down, function 202, the loop [0]. -/
def d12 : PDef := .tree 5 <|
  .step (.ci .i64 2) <|
  .step (.bin .mul 5 2) <|
  .step (.ci .i64 1) <|
  .step (.bin .add 6 7) <|
  .step (.bin .geq 8 1) <|
  .ite 9
    (.step (.ci .i64 0) <|
    .ret [10, 2, 3])
    (.step (.ci .i64 0) <|
    .step (.bin .lss 8 10) <|
    .ite 11
      (.ret [10, 2, 3])
      (.step (.bin .add 8 7) <|
      .step (.bin .lss 12 1) <|
      .ite 13
        (.step (.idx 3 12) <|
        .step (.at 3 3 14) <|
        .step (.cell 0 15) <|
        .step (.idx 3 8) <|
        .step (.at 3 3 17) <|
        .step (.cell 0 18) <|
        .step (.bin .neq 16 19) <|
        .ite 20
          (.step (.bin .lss 16 19) <|
          .ite 21
            (.step (.idx 3 2) <|
            .step (.at 3 3 22) <|
            .step (.cell 0 23) <|
            .step (.bin .neq 16 24) <|
            .ite 25
              (.step (.bin .lss 16 24) <|
              .step (.un .not 26) <|
              .ite 27
                (.ret [10, 2, 3])
                (.step (.cell 1 15) <|
                .step (.cell 2 15) <|
                .step (.cell 1 23) <|
                .step (.cell 2 23) <|
                .step (.upd 3 0 3 22 [16, 28, 29]) <|
                .step (.upd 3 0 32 14 [24, 30, 31]) <|
                .tail 12 [0, 1, 12, 33, 4]))
              (.step (.cell 1 15) <|
              .step (.cell 1 23) <|
              .step (.bin .lss 26 27) <|
              .step (.un .not 28) <|
              .ite 29
                (.ret [10, 2, 3])
                (.step (.cell 2 15) <|
                .step (.cell 2 23) <|
                .step (.upd 3 0 3 22 [16, 26, 30]) <|
                .step (.upd 3 0 32 14 [24, 27, 31]) <|
                .tail 12 [0, 1, 12, 33, 4])))
            (.step (.idx 3 2) <|
            .step (.at 3 3 22) <|
            .step (.cell 0 23) <|
            .step (.bin .neq 19 24) <|
            .ite 25
              (.step (.bin .lss 19 24) <|
              .step (.un .not 26) <|
              .ite 27
                (.ret [10, 2, 3])
                (.step (.cell 1 18) <|
                .step (.cell 2 18) <|
                .step (.cell 1 23) <|
                .step (.cell 2 23) <|
                .step (.upd 3 0 3 22 [19, 28, 29]) <|
                .step (.upd 3 0 32 17 [24, 30, 31]) <|
                .tail 12 [0, 1, 8, 33, 4]))
              (.step (.cell 1 18) <|
              .step (.cell 1 23) <|
              .step (.bin .lss 26 27) <|
              .step (.un .not 28) <|
              .ite 29
                (.ret [10, 2, 3])
                (.step (.cell 2 18) <|
                .step (.cell 2 23) <|
                .step (.upd 3 0 3 22 [19, 26, 30]) <|
                .step (.upd 3 0 32 17 [24, 27, 31]) <|
                .tail 12 [0, 1, 8, 33, 4]))))
          (.step (.cell 1 15) <|
          .step (.cell 1 18) <|
          .step (.bin .lss 21 22) <|
          .ite 23
            (.step (.idx 3 2) <|
            .step (.at 3 3 24) <|
            .step (.cell 0 25) <|
            .step (.bin .neq 16 26) <|
            .ite 27
              (.step (.bin .lss 16 26) <|
              .step (.un .not 28) <|
              .ite 29
                (.ret [10, 2, 3])
                (.step (.cell 2 15) <|
                .step (.cell 1 25) <|
                .step (.cell 2 25) <|
                .step (.upd 3 0 3 24 [16, 21, 30]) <|
                .step (.upd 3 0 33 14 [26, 31, 32]) <|
                .tail 12 [0, 1, 12, 34, 4]))
              (.step (.cell 1 25) <|
              .step (.bin .lss 21 28) <|
              .step (.un .not 29) <|
              .ite 30
                (.ret [10, 2, 3])
                (.step (.cell 2 15) <|
                .step (.cell 2 25) <|
                .step (.upd 3 0 3 24 [16, 21, 31]) <|
                .step (.upd 3 0 33 14 [26, 28, 32]) <|
                .tail 12 [0, 1, 12, 34, 4])))
            (.step (.idx 3 2) <|
            .step (.at 3 3 24) <|
            .step (.cell 0 25) <|
            .step (.bin .neq 19 26) <|
            .ite 27
              (.step (.bin .lss 19 26) <|
              .step (.un .not 28) <|
              .ite 29
                (.ret [10, 2, 3])
                (.step (.cell 2 18) <|
                .step (.cell 1 25) <|
                .step (.cell 2 25) <|
                .step (.upd 3 0 3 24 [19, 22, 30]) <|
                .step (.upd 3 0 33 17 [26, 31, 32]) <|
                .tail 12 [0, 1, 8, 34, 4]))
              (.step (.cell 1 25) <|
              .step (.bin .lss 22 28) <|
              .step (.un .not 29) <|
              .ite 30
                (.ret [10, 2, 3])
                (.step (.cell 2 18) <|
                .step (.cell 2 25) <|
                .step (.upd 3 0 3 24 [19, 22, 31]) <|
                .step (.upd 3 0 33 17 [26, 28, 32]) <|
                .tail 12 [0, 1, 8, 34, 4])))))
        (.step (.idx 3 8) <|
        .step (.at 3 3 14) <|
        .step (.cell 0 15) <|
        .step (.idx 3 2) <|
        .step (.at 3 3 17) <|
        .step (.cell 0 18) <|
        .step (.bin .neq 16 19) <|
        .ite 20
          (.step (.bin .lss 16 19) <|
          .step (.un .not 21) <|
          .ite 22
            (.ret [10, 2, 3])
            (.step (.cell 1 15) <|
            .step (.cell 2 15) <|
            .step (.cell 1 18) <|
            .step (.cell 2 18) <|
            .step (.upd 3 0 3 17 [16, 23, 24]) <|
            .step (.upd 3 0 27 14 [19, 25, 26]) <|
            .tail 12 [0, 1, 8, 28, 4]))
          (.step (.cell 1 15) <|
          .step (.cell 1 18) <|
          .step (.bin .lss 21 22) <|
          .step (.un .not 23) <|
          .ite 24
            (.ret [10, 2, 3])
            (.step (.cell 2 15) <|
            .step (.cell 2 18) <|
            .step (.upd 3 0 3 17 [16, 21, 25]) <|
            .step (.upd 3 0 27 14 [19, 22, 26]) <|
            .tail 12 [0, 1, 8, 28, 4])))))
/-- postmark/postmarklaw21.QueuePlays, function 7, the loop [0]. -/
def d2 : PDef := .tree 6 <|
  .step (.bin .lss 3 2) <|
  .ite 6
    (.step (.at 3 1 3) <|
    .step (.cell 0 7) <|
    .step (.cell 1 7) <|
    .step (.cell 2 7) <|
    .step (.len 10) <|
    .step (.ci .i64 10) <|
    .step (.bin .gtr 11 12) <|
    .ite 13
      (.step (.cb true) <|
      .step (.ci .i64 0) <|
      .ret [15, 14])
      (.step (.ci .u8 128) <|
      .step (.bin .geq 8 14) <|
      .ite 15
        (.step (.call 0 [4] 0) <|
        .step (.ci .u64 0) <|
        .step (.cs [122, 122]) <|
        .step (.ml [18]) <|
        .step (.call 19 [17, 19, 4, 5] 0) <|
        .step (.call 19 [17, 19, 4, 5] 1) <|
        .step (.call 19 [17, 19, 4, 5] 2) <|
        .step (.call 9 [21, 22] 0) <|
        .step (.call 9 [21, 22] 1) <|
        .step (.call 9 [21, 22] 2) <|
        .step (.call 9 [21, 22] 3) <|
        .step (.call 9 [21, 22] 4) <|
        .step (.ci .u8 4) <|
        .step (.bin .rem 8 28) <|
        .step (.ci .u8 2) <|
        .step (.bin .eql 29 30) <|
        .ite 31
          (.step (.call 13 [0, 9] 0) <|
          .step (.call 13 [0, 9] 1) <|
          .step (.call 21 [9, 16, 5] 0) <|
          .step (.call 21 [9, 16, 5] 1) <|
          .step (.call 21 [9, 16, 5] 2) <|
          .step (.call 17 [35, 33] 0) <|
          .step (.un .not 37) <|
          .ite 38
            (.step (.cb false) <|
            .step (.ci .i64 0) <|
            .ret [40, 39])
            (.step (.len 36) <|
            .step (.ci .i64 0) <|
            .step (.bin .eql 39 40) <|
            .ite 41
              (.step (.len 32) <|
              .step (.bin .neq 39 42) <|
              .ite 43
                (.step (.cb false) <|
                .ret [40, 44])
                (.step (.bin .gtr 42 40) <|
                .step (.cb false) <|
                .step (.binb .neq 45 44) <|
                .ite 46
                  (.ret [40, 45])
                  (.step (.ci .i64 1) <|
                  .step (.bin .add 3 47) <|
                  .tail 2 [32, 1, 2, 48, 36, 5])))
              (.step (.idx 36 40) <|
              .step (.at 3 36 42) <|
              .step (.cell 0 43) <|
              .step (.len 32) <|
              .step (.bin .neq 39 45) <|
              .ite 46
                (.step (.cb false) <|
                .ret [40, 47])
                (.step (.bin .gtr 45 40) <|
                .step (.cb true) <|
                .step (.binb .neq 48 47) <|
                .ite 49
                  (.step (.cb false) <|
                  .ret [40, 50])
                  (.step (.at 2 32 40) <|
                  .step (.cell 0 50) <|
                  .step (.bin .neq 44 51) <|
                  .ite 52
                    (.step (.cb false) <|
                    .ret [40, 53])
                    (.step (.ci .i64 1) <|
                    .step (.bin .add 3 53) <|
                    .tail 2 [32, 1, 2, 54, 36, 5]))))))
          (.step (.ci .u8 3) <|
          .step (.bin .eql 29 32) <|
          .ite 33
            (.step (.call 9 [16, 5] 0) <|
            .step (.call 9 [16, 5] 1) <|
            .step (.call 9 [16, 5] 2) <|
            .step (.call 9 [16, 5] 3) <|
            .step (.call 9 [16, 5] 4) <|
            .step (.len 0) <|
            .step (.ci .i64 0) <|
            .step (.bin .gtr 39 40) <|
            .step (.binb .neq 37 41) <|
            .ite 42
              (.step (.cb false) <|
              .ret [40, 43])
              (.ite 37
                (.step (.at 2 0 40) <|
                .step (.cell 0 43) <|
                .step (.bin .neq 35 44) <|
                .ite 45
                  (.step (.cb false) <|
                  .ret [40, 46])
                  (.step (.cell 1 43) <|
                  .step (.bin .neq 36 46) <|
                  .ite 47
                    (.step (.cb false) <|
                    .ret [40, 48])
                    (.step (.un .not 37) <|
                    .ite 48
                      (.step (.bin .neq 35 17) <|
                      .ite 49
                        (.step (.cb false) <|
                        .ret [40, 50])
                        (.step (.cs []) <|
                        .step (.bin .neq 36 50) <|
                        .ite 51
                          (.step (.cb false) <|
                          .ret [40, 52])
                          (.step (.ci .i64 1) <|
                          .step (.mm false 52 39) <|
                          .step (.lsub 2 0 53 39) <|
                          .step (.len 38) <|
                          .step (.bin .eql 55 40) <|
                          .ite 56
                            (.step (.len 54) <|
                            .step (.bin .neq 55 57) <|
                            .ite 58
                              (.step (.cb false) <|
                              .ret [40, 59])
                              (.step (.bin .gtr 57 40) <|
                              .step (.cb false) <|
                              .step (.binb .neq 60 59) <|
                              .ite 61
                                (.ret [40, 60])
                                (.step (.bin .add 3 52) <|
                                .tail 2 [54, 1, 2, 62, 38, 5])))
                            (.step (.idx 38 40) <|
                            .step (.at 3 38 57) <|
                            .step (.cell 0 58) <|
                            .step (.len 54) <|
                            .step (.bin .neq 55 60) <|
                            .ite 61
                              (.step (.cb false) <|
                              .ret [40, 62])
                              (.step (.bin .gtr 60 40) <|
                              .step (.cb true) <|
                              .step (.binb .neq 63 62) <|
                              .ite 64
                                (.step (.cb false) <|
                                .ret [40, 65])
                                (.step (.at 2 54 40) <|
                                .step (.cell 0 65) <|
                                .step (.bin .neq 59 66) <|
                                .ite 67
                                  (.step (.cb false) <|
                                  .ret [40, 68])
                                  (.step (.bin .add 3 52) <|
                                  .tail 2 [54, 1, 2, 68, 38, 5])))))))
                      (.step (.ci .i64 1) <|
                      .step (.mm false 49 39) <|
                      .step (.lsub 2 0 50 39) <|
                      .step (.len 38) <|
                      .step (.bin .eql 52 40) <|
                      .ite 53
                        (.step (.len 51) <|
                        .step (.bin .neq 52 54) <|
                        .ite 55
                          (.step (.cb false) <|
                          .ret [40, 56])
                          (.step (.bin .gtr 54 40) <|
                          .step (.cb false) <|
                          .step (.binb .neq 57 56) <|
                          .ite 58
                            (.ret [40, 57])
                            (.step (.bin .add 3 49) <|
                            .tail 2 [51, 1, 2, 59, 38, 5])))
                        (.step (.idx 38 40) <|
                        .step (.at 3 38 54) <|
                        .step (.cell 0 55) <|
                        .step (.len 51) <|
                        .step (.bin .neq 52 57) <|
                        .ite 58
                          (.step (.cb false) <|
                          .ret [40, 59])
                          (.step (.bin .gtr 57 40) <|
                          .step (.cb true) <|
                          .step (.binb .neq 60 59) <|
                          .ite 61
                            (.step (.cb false) <|
                            .ret [40, 62])
                            (.step (.at 2 51 40) <|
                            .step (.cell 0 62) <|
                            .step (.bin .neq 56 63) <|
                            .ite 64
                              (.step (.cb false) <|
                              .ret [40, 65])
                              (.step (.bin .add 3 49) <|
                              .tail 2 [51, 1, 2, 65, 38, 5]))))))))
                (.step (.un .not 37) <|
                .ite 43
                  (.step (.bin .neq 35 17) <|
                  .ite 44
                    (.step (.cb false) <|
                    .ret [40, 45])
                    (.step (.cs []) <|
                    .step (.bin .neq 36 45) <|
                    .ite 46
                      (.step (.cb false) <|
                      .ret [40, 47])
                      (.step (.ci .i64 1) <|
                      .step (.mm false 47 39) <|
                      .step (.lsub 2 0 48 39) <|
                      .step (.len 38) <|
                      .step (.bin .eql 50 40) <|
                      .ite 51
                        (.step (.len 49) <|
                        .step (.bin .neq 50 52) <|
                        .ite 53
                          (.step (.cb false) <|
                          .ret [40, 54])
                          (.step (.bin .gtr 52 40) <|
                          .step (.cb false) <|
                          .step (.binb .neq 55 54) <|
                          .ite 56
                            (.ret [40, 55])
                            (.step (.bin .add 3 47) <|
                            .tail 2 [49, 1, 2, 57, 38, 5])))
                        (.step (.idx 38 40) <|
                        .step (.at 3 38 52) <|
                        .step (.cell 0 53) <|
                        .step (.len 49) <|
                        .step (.bin .neq 50 55) <|
                        .ite 56
                          (.step (.cb false) <|
                          .ret [40, 57])
                          (.step (.bin .gtr 55 40) <|
                          .step (.cb true) <|
                          .step (.binb .neq 58 57) <|
                          .ite 59
                            (.step (.cb false) <|
                            .ret [40, 60])
                            (.step (.at 2 49 40) <|
                            .step (.cell 0 60) <|
                            .step (.bin .neq 54 61) <|
                            .ite 62
                              (.step (.cb false) <|
                              .ret [40, 63])
                              (.step (.bin .add 3 47) <|
                              .tail 2 [49, 1, 2, 63, 38, 5])))))))
                  (.step (.ci .i64 1) <|
                  .step (.mm false 44 39) <|
                  .step (.lsub 2 0 45 39) <|
                  .step (.len 38) <|
                  .step (.bin .eql 47 40) <|
                  .ite 48
                    (.step (.len 46) <|
                    .step (.bin .neq 47 49) <|
                    .ite 50
                      (.step (.cb false) <|
                      .ret [40, 51])
                      (.step (.bin .gtr 49 40) <|
                      .step (.cb false) <|
                      .step (.binb .neq 52 51) <|
                      .ite 53
                        (.ret [40, 52])
                        (.step (.bin .add 3 44) <|
                        .tail 2 [46, 1, 2, 54, 38, 5])))
                    (.step (.idx 38 40) <|
                    .step (.at 3 38 49) <|
                    .step (.cell 0 50) <|
                    .step (.len 46) <|
                    .step (.bin .neq 47 52) <|
                    .ite 53
                      (.step (.cb false) <|
                      .ret [40, 54])
                      (.step (.bin .gtr 52 40) <|
                      .step (.cb true) <|
                      .step (.binb .neq 55 54) <|
                      .ite 56
                        (.step (.cb false) <|
                        .ret [40, 57])
                        (.step (.at 2 46 40) <|
                        .step (.cell 0 57) <|
                        .step (.bin .neq 51 58) <|
                        .ite 59
                          (.step (.cb false) <|
                          .ret [40, 60])
                          (.step (.bin .add 3 44) <|
                          .tail 2 [46, 1, 2, 60, 38, 5]))))))))
            (.step (.call 19 [9, 10, 16, 5] 0) <|
            .step (.call 19 [9, 10, 16, 5] 1) <|
            .step (.call 19 [9, 10, 16, 5] 2) <|
            .step (.ci .i64 0) <|
            .step (.call 23 [0, 1, 2, 3, 10, 11, 37, 8, 9, 35, 36] 0) <|
            .step (.call 23 [0, 1, 2, 3, 10, 11, 37, 8, 9, 35, 36] 1) <|
            .step (.len 35) <|
            .step (.bin .eql 40 37) <|
            .ite 41
              (.step (.len 39) <|
              .step (.bin .neq 40 42) <|
              .ite 43
                (.step (.cb false) <|
                .ret [37, 44])
                (.step (.bin .gtr 42 37) <|
                .step (.cb false) <|
                .step (.binb .neq 45 44) <|
                .ite 46
                  (.ret [37, 45])
                  (.step (.ci .i64 1) <|
                  .step (.bin .add 3 47) <|
                  .tail 2 [39, 1, 2, 48, 35, 36])))
              (.step (.idx 35 37) <|
              .step (.at 3 35 42) <|
              .step (.cell 0 43) <|
              .step (.len 39) <|
              .step (.bin .neq 40 45) <|
              .ite 46
                (.step (.cb false) <|
                .ret [37, 47])
                (.step (.bin .gtr 45 37) <|
                .step (.cb true) <|
                .step (.binb .neq 48 47) <|
                .ite 49
                  (.step (.cb false) <|
                  .ret [37, 50])
                  (.step (.at 2 39 37) <|
                  .step (.cell 0 50) <|
                  .step (.bin .neq 44 51) <|
                  .ite 52
                    (.step (.cb false) <|
                    .ret [37, 53])
                    (.step (.ci .i64 1) <|
                    .step (.bin .add 3 53) <|
                    .tail 2 [39, 1, 2, 54, 35, 36])))))))
        (.step (.ci .u8 4) <|
        .step (.bin .rem 8 16) <|
        .step (.ci .u8 2) <|
        .step (.bin .eql 17 18) <|
        .ite 19
          (.step (.call 13 [0, 9] 0) <|
          .step (.call 13 [0, 9] 1) <|
          .step (.call 21 [9, 4, 5] 0) <|
          .step (.call 21 [9, 4, 5] 1) <|
          .step (.call 21 [9, 4, 5] 2) <|
          .step (.call 17 [23, 21] 0) <|
          .step (.un .not 25) <|
          .ite 26
            (.step (.cb false) <|
            .step (.ci .i64 0) <|
            .ret [28, 27])
            (.step (.len 24) <|
            .step (.ci .i64 0) <|
            .step (.bin .eql 27 28) <|
            .ite 29
              (.step (.len 20) <|
              .step (.bin .neq 27 30) <|
              .ite 31
                (.step (.cb false) <|
                .ret [28, 32])
                (.step (.bin .gtr 30 28) <|
                .step (.cb false) <|
                .step (.binb .neq 33 32) <|
                .ite 34
                  (.ret [28, 33])
                  (.step (.ci .i64 1) <|
                  .step (.bin .add 3 35) <|
                  .tail 2 [20, 1, 2, 36, 24, 5])))
              (.step (.idx 24 28) <|
              .step (.at 3 24 30) <|
              .step (.cell 0 31) <|
              .step (.len 20) <|
              .step (.bin .neq 27 33) <|
              .ite 34
                (.step (.cb false) <|
                .ret [28, 35])
                (.step (.bin .gtr 33 28) <|
                .step (.cb true) <|
                .step (.binb .neq 36 35) <|
                .ite 37
                  (.step (.cb false) <|
                  .ret [28, 38])
                  (.step (.at 2 20 28) <|
                  .step (.cell 0 38) <|
                  .step (.bin .neq 32 39) <|
                  .ite 40
                    (.step (.cb false) <|
                    .ret [28, 41])
                    (.step (.ci .i64 1) <|
                    .step (.bin .add 3 41) <|
                    .tail 2 [20, 1, 2, 42, 24, 5]))))))
          (.step (.ci .u8 3) <|
          .step (.bin .eql 17 20) <|
          .ite 21
            (.step (.call 9 [4, 5] 0) <|
            .step (.call 9 [4, 5] 1) <|
            .step (.call 9 [4, 5] 2) <|
            .step (.call 9 [4, 5] 3) <|
            .step (.call 9 [4, 5] 4) <|
            .step (.len 0) <|
            .step (.ci .i64 0) <|
            .step (.bin .gtr 27 28) <|
            .step (.binb .neq 25 29) <|
            .ite 30
              (.step (.cb false) <|
              .ret [28, 31])
              (.ite 25
                (.step (.at 2 0 28) <|
                .step (.cell 0 31) <|
                .step (.bin .neq 23 32) <|
                .ite 33
                  (.step (.cb false) <|
                  .ret [28, 34])
                  (.step (.cell 1 31) <|
                  .step (.bin .neq 24 34) <|
                  .ite 35
                    (.step (.cb false) <|
                    .ret [28, 36])
                    (.step (.un .not 25) <|
                    .ite 36
                      (.step (.ci .u64 0) <|
                      .step (.bin .neq 23 37) <|
                      .ite 38
                        (.step (.cb false) <|
                        .ret [28, 39])
                        (.step (.cs []) <|
                        .step (.bin .neq 24 39) <|
                        .ite 40
                          (.step (.cb false) <|
                          .ret [28, 41])
                          (.step (.ci .i64 1) <|
                          .step (.mm false 41 27) <|
                          .step (.lsub 2 0 42 27) <|
                          .step (.len 26) <|
                          .step (.bin .eql 44 28) <|
                          .ite 45
                            (.step (.len 43) <|
                            .step (.bin .neq 44 46) <|
                            .ite 47
                              (.step (.cb false) <|
                              .ret [28, 48])
                              (.step (.bin .gtr 46 28) <|
                              .step (.cb false) <|
                              .step (.binb .neq 49 48) <|
                              .ite 50
                                (.ret [28, 49])
                                (.step (.bin .add 3 41) <|
                                .tail 2 [43, 1, 2, 51, 26, 5])))
                            (.step (.idx 26 28) <|
                            .step (.at 3 26 46) <|
                            .step (.cell 0 47) <|
                            .step (.len 43) <|
                            .step (.bin .neq 44 49) <|
                            .ite 50
                              (.step (.cb false) <|
                              .ret [28, 51])
                              (.step (.bin .gtr 49 28) <|
                              .step (.cb true) <|
                              .step (.binb .neq 52 51) <|
                              .ite 53
                                (.step (.cb false) <|
                                .ret [28, 54])
                                (.step (.at 2 43 28) <|
                                .step (.cell 0 54) <|
                                .step (.bin .neq 48 55) <|
                                .ite 56
                                  (.step (.cb false) <|
                                  .ret [28, 57])
                                  (.step (.bin .add 3 41) <|
                                  .tail 2 [43, 1, 2, 57, 26, 5])))))))
                      (.step (.ci .i64 1) <|
                      .step (.mm false 37 27) <|
                      .step (.lsub 2 0 38 27) <|
                      .step (.len 26) <|
                      .step (.bin .eql 40 28) <|
                      .ite 41
                        (.step (.len 39) <|
                        .step (.bin .neq 40 42) <|
                        .ite 43
                          (.step (.cb false) <|
                          .ret [28, 44])
                          (.step (.bin .gtr 42 28) <|
                          .step (.cb false) <|
                          .step (.binb .neq 45 44) <|
                          .ite 46
                            (.ret [28, 45])
                            (.step (.bin .add 3 37) <|
                            .tail 2 [39, 1, 2, 47, 26, 5])))
                        (.step (.idx 26 28) <|
                        .step (.at 3 26 42) <|
                        .step (.cell 0 43) <|
                        .step (.len 39) <|
                        .step (.bin .neq 40 45) <|
                        .ite 46
                          (.step (.cb false) <|
                          .ret [28, 47])
                          (.step (.bin .gtr 45 28) <|
                          .step (.cb true) <|
                          .step (.binb .neq 48 47) <|
                          .ite 49
                            (.step (.cb false) <|
                            .ret [28, 50])
                            (.step (.at 2 39 28) <|
                            .step (.cell 0 50) <|
                            .step (.bin .neq 44 51) <|
                            .ite 52
                              (.step (.cb false) <|
                              .ret [28, 53])
                              (.step (.bin .add 3 37) <|
                              .tail 2 [39, 1, 2, 53, 26, 5]))))))))
                (.step (.un .not 25) <|
                .ite 31
                  (.step (.ci .u64 0) <|
                  .step (.bin .neq 23 32) <|
                  .ite 33
                    (.step (.cb false) <|
                    .ret [28, 34])
                    (.step (.cs []) <|
                    .step (.bin .neq 24 34) <|
                    .ite 35
                      (.step (.cb false) <|
                      .ret [28, 36])
                      (.step (.ci .i64 1) <|
                      .step (.mm false 36 27) <|
                      .step (.lsub 2 0 37 27) <|
                      .step (.len 26) <|
                      .step (.bin .eql 39 28) <|
                      .ite 40
                        (.step (.len 38) <|
                        .step (.bin .neq 39 41) <|
                        .ite 42
                          (.step (.cb false) <|
                          .ret [28, 43])
                          (.step (.bin .gtr 41 28) <|
                          .step (.cb false) <|
                          .step (.binb .neq 44 43) <|
                          .ite 45
                            (.ret [28, 44])
                            (.step (.bin .add 3 36) <|
                            .tail 2 [38, 1, 2, 46, 26, 5])))
                        (.step (.idx 26 28) <|
                        .step (.at 3 26 41) <|
                        .step (.cell 0 42) <|
                        .step (.len 38) <|
                        .step (.bin .neq 39 44) <|
                        .ite 45
                          (.step (.cb false) <|
                          .ret [28, 46])
                          (.step (.bin .gtr 44 28) <|
                          .step (.cb true) <|
                          .step (.binb .neq 47 46) <|
                          .ite 48
                            (.step (.cb false) <|
                            .ret [28, 49])
                            (.step (.at 2 38 28) <|
                            .step (.cell 0 49) <|
                            .step (.bin .neq 43 50) <|
                            .ite 51
                              (.step (.cb false) <|
                              .ret [28, 52])
                              (.step (.bin .add 3 36) <|
                              .tail 2 [38, 1, 2, 52, 26, 5])))))))
                  (.step (.ci .i64 1) <|
                  .step (.mm false 32 27) <|
                  .step (.lsub 2 0 33 27) <|
                  .step (.len 26) <|
                  .step (.bin .eql 35 28) <|
                  .ite 36
                    (.step (.len 34) <|
                    .step (.bin .neq 35 37) <|
                    .ite 38
                      (.step (.cb false) <|
                      .ret [28, 39])
                      (.step (.bin .gtr 37 28) <|
                      .step (.cb false) <|
                      .step (.binb .neq 40 39) <|
                      .ite 41
                        (.ret [28, 40])
                        (.step (.bin .add 3 32) <|
                        .tail 2 [34, 1, 2, 42, 26, 5])))
                    (.step (.idx 26 28) <|
                    .step (.at 3 26 37) <|
                    .step (.cell 0 38) <|
                    .step (.len 34) <|
                    .step (.bin .neq 35 40) <|
                    .ite 41
                      (.step (.cb false) <|
                      .ret [28, 42])
                      (.step (.bin .gtr 40 28) <|
                      .step (.cb true) <|
                      .step (.binb .neq 43 42) <|
                      .ite 44
                        (.step (.cb false) <|
                        .ret [28, 45])
                        (.step (.at 2 34 28) <|
                        .step (.cell 0 45) <|
                        .step (.bin .neq 39 46) <|
                        .ite 47
                          (.step (.cb false) <|
                          .ret [28, 48])
                          (.step (.bin .add 3 32) <|
                          .tail 2 [34, 1, 2, 48, 26, 5]))))))))
            (.step (.call 19 [9, 10, 4, 5] 0) <|
            .step (.call 19 [9, 10, 4, 5] 1) <|
            .step (.call 19 [9, 10, 4, 5] 2) <|
            .step (.ci .i64 0) <|
            .step (.call 23 [0, 1, 2, 3, 10, 11, 25, 8, 9, 23, 24] 0) <|
            .step (.call 23 [0, 1, 2, 3, 10, 11, 25, 8, 9, 23, 24] 1) <|
            .step (.len 23) <|
            .step (.bin .eql 28 25) <|
            .ite 29
              (.step (.len 27) <|
              .step (.bin .neq 28 30) <|
              .ite 31
                (.step (.cb false) <|
                .ret [25, 32])
                (.step (.bin .gtr 30 25) <|
                .step (.cb false) <|
                .step (.binb .neq 33 32) <|
                .ite 34
                  (.ret [25, 33])
                  (.step (.ci .i64 1) <|
                  .step (.bin .add 3 35) <|
                  .tail 2 [27, 1, 2, 36, 23, 24])))
              (.step (.idx 23 25) <|
              .step (.at 3 23 30) <|
              .step (.cell 0 31) <|
              .step (.len 27) <|
              .step (.bin .neq 28 33) <|
              .ite 34
                (.step (.cb false) <|
                .ret [25, 35])
                (.step (.bin .gtr 33 25) <|
                .step (.cb true) <|
                .step (.binb .neq 36 35) <|
                .ite 37
                  (.step (.cb false) <|
                  .ret [25, 38])
                  (.step (.at 2 27 25) <|
                  .step (.cell 0 38) <|
                  .step (.bin .neq 32 39) <|
                  .ite 40
                    (.step (.cb false) <|
                    .ret [25, 41])
                    (.step (.ci .i64 1) <|
                    .step (.bin .add 3 41) <|
                    .tail 2 [27, 1, 2, 42, 23, 24])))))))))
    (.step (.ci .i64 1) <|
    .ret [7])
/-- postmark/postmarkref21.Due, function 55, the loop [0]. -/
def d14 : PDef := .tree 4 <|
  .step (.len 0) <|
  .step (.bin .lss 3 4) <|
  .ite 5
    (.step (.at 2 0 3) <|
    .step (.cell 0 6) <|
    .step (.bin .leq 7 1) <|
    .ite 8
      (.step (.cell 1 6) <|
      .step (.ml [9]) <|
      .step (.app 1 16 2 10) <|
      .step (.ci .i64 1) <|
      .step (.bin .add 3 12) <|
      .tail 14 [0, 1, 11, 13])
      (.step (.ci .i64 0) <|
      .ret [9, 2, 3]))
    (.step (.ci .i64 0) <|
    .ret [6, 2, 3])
/-- container/heap.up, function 201, the loop [0]. -/
def d7 : PDef := .tree 3 <|
  .step (.ci .i64 1) <|
  .step (.bin .sub 0 3) <|
  .step (.ci .i64 2) <|
  .step (.bin .quo 4 5) <|
  .step (.bin .eql 6 0) <|
  .ite 7
    (.step (.ci .i64 0) <|
    .ret [8, 1])
    (.step (.idx 1 0) <|
    .step (.at 3 1 8) <|
    .step (.cell 0 9) <|
    .step (.idx 1 6) <|
    .step (.at 3 1 11) <|
    .step (.cell 0 12) <|
    .step (.bin .neq 10 13) <|
    .ite 14
      (.step (.bin .lss 10 13) <|
      .step (.un .not 15) <|
      .ite 16
        (.step (.ci .i64 0) <|
        .ret [17, 1])
        (.step (.cell 1 9) <|
        .step (.cell 2 9) <|
        .step (.cell 1 12) <|
        .step (.cell 2 12) <|
        .step (.upd 3 0 1 11 [10, 17, 18]) <|
        .step (.upd 3 0 21 8 [13, 19, 20]) <|
        .tail 7 [6, 22, 2]))
      (.step (.cell 1 9) <|
      .step (.cell 1 12) <|
      .step (.bin .lss 15 16) <|
      .step (.un .not 17) <|
      .ite 18
        (.step (.ci .i64 0) <|
        .ret [19, 1])
        (.step (.cell 2 9) <|
        .step (.cell 2 12) <|
        .step (.upd 3 0 1 11 [10, 15, 19]) <|
        .step (.upd 3 0 21 8 [13, 16, 20]) <|
        .tail 7 [6, 22, 2])))
def Ds : List PDef := [d0, d1, d2, .prim fun _ => none, .prim fun _ => none, .prim fun _ => none, d6, d7, d8, d9, d10, d11, d12, d13, d14, .prim fun _ => none, .prim fun _ => none, d17, d18, d19, d20, d21, d22, d23, d24, d25]
noncomputable abbrev TT : PProg := TofL Ds
end
end U
end Go.Proofs.YtbcpbplkgknnmaaGreatDoor
