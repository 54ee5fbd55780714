/- What functions and loops compute: trees of nodes, found by a driver. -/
import Derived.Test.YtckgelanagoenaaGreatDoorAbsJ
import Derived.Test.YtckgelanagoenaaGreatDoorAbsPl
import Derived.Test.YtckgelanagoenaaGreatDoorAbsTold
import Derived.Test.YtckgelanagoenaaGreatDoorAbsCloneO
namespace Go.Proofs.YtckgelanagoenaaGreatDoor
open Go Go.Abs
set_option maxRecDepth 100000
set_option linter.unusedVariables false
set_option linter.unusedSimpArgs false
namespace R
noncomputable section
/-- slices.Equal[[]string,string], function 16, plain functions []. -/
def d17 : PDef := .fn [.sc, .sc] [.sc] <|
  .step (.len 0) <|
  .step (.len 1) <|
  .step (.bin .neq 2 3) <|
  .ite 4
    (.step (.cb false) <|
    .ret [5])
    (.step (.ci .i64 0) <|
    .step (.call 18 [0, 1, 2, 5] 0) <|
    .step (.bin .eql 6 5) <|
    .ite 7
      (.step (.cb false) <|
      .ret [8])
      (.step (.cb true) <|
      .ret [8]))
/-- slices.Clone[postmark/queue.items,postmark/queue.item] is told. -/
abbrev d0 : PDef := .prim (cloneP 32 3)
/-- postmark/postmarklaw21.QueueParts, function 8, plain functions []. -/
def d1 : PDef := .fn [.sc, .sc, .sc] [.sc] <|
  .step (.len 0) <|
  .step (.ci .i64 80) <|
  .step (.bin .gtr 3 4) <|
  .ite 5
    (.step (.cb true) <|
    .ret [6])
    (.step (.ci .i64 0) <|
    .step (.ci .u64 0) <|
    .step (.ml []) <|
    .step (.call 2 [1, 2, 0, 3, 6, 8, 7] 0) <|
    .step (.call 2 [1, 2, 0, 3, 6, 8, 7] 1) <|
    .step (.call 2 [1, 2, 0, 3, 6, 8, 7] 2) <|
    .step (.call 0 [10] 0) <|
    .step (.mm false 1 2) <|
    .step (.call 11 [13, 10, 11] 0) <|
    .step (.call 11 [13, 10, 11] 1) <|
    .step (.call 11 [13, 10, 11] 2) <|
    .step (.mm true 1 2) <|
    .step (.call 11 [17, 16, 11] 0) <|
    .step (.call 11 [17, 16, 11] 1) <|
    .step (.call 11 [17, 16, 11] 2) <|
    .step (.app 1 16 15 19) <|
    .step (.call 11 [17, 12, 11] 0) <|
    .step (.call 11 [17, 12, 11] 1) <|
    .step (.call 11 [17, 12, 11] 2) <|
    .step (.call 17 [21, 23] 0) <|
    .ite 25
      (.step (.len 20) <|
      .step (.len 24) <|
      .step (.bin .eql 26 27) <|
      .ret [28])
      (.step (.cb false) <|
      .ret [26]))
/-- container/heap.down, function 158, handed blocks, plain functions []. -/
def d15 : PDef := .tree 4 <|
  .step (.call 16 [0, 1, 0, 2, 3] 0) <|
  .step (.call 16 [0, 1, 0, 2, 3] 1) <|
  .step (.call 16 [0, 1, 0, 2, 3] 2) <|
  .step (.bin .gtr 5 0) <|
  .step (.ci .i64 0) <|
  .ret [8, 7, 6]
/-- container/heap.Pop, function 112, handed blocks, plain functions []. -/
def d14 : PDef := .tree 2 <|
  .step (.len 0) <|
  .step (.ci .i64 1) <|
  .step (.bin .sub 2 3) <|
  .step (.idx 0 4) <|
  .step (.at 3 0 5) <|
  .step (.cell 0 6) <|
  .step (.cell 1 6) <|
  .step (.cell 2 6) <|
  .step (.ci .i64 0) <|
  .step (.idx 0 10) <|
  .step (.at 3 0 11) <|
  .step (.cell 0 12) <|
  .step (.cell 1 12) <|
  .step (.cell 2 12) <|
  .step (.upd 3 0 0 11 [7, 8, 9]) <|
  .step (.upd 3 0 16 5 [13, 14, 15]) <|
  .step (.call 15 [10, 4, 17, 1] 0) <|
  .step (.call 15 [10, 4, 17, 1] 1) <|
  .step (.call 15 [10, 4, 17, 1] 2) <|
  .step (.len 20) <|
  .step (.bin .sub 21 3) <|
  .step (.idx 20 22) <|
  .step (.at 3 20 23) <|
  .step (.cell 0 24) <|
  .step (.cell 1 24) <|
  .step (.cell 2 24) <|
  .step (.ci .u64 0) <|
  .step (.cs []) <|
  .step (.upd 3 0 20 23 [28, 28, 29]) <|
  .step (.lsub 3 30 10 22) <|
  .ret [10, 25, 26, 27, 31]
/-- (*postmark/queue.Queue).Pop, function 43, handed blocks, plain functions []. -/
def d13 : PDef := .tree 2 <|
  .step (.len 0) <|
  .step (.ci .i64 0) <|
  .step (.bin .eql 2 3) <|
  .ite 4
    (.step (.ci .u64 0) <|
    .step (.cs []) <|
    .step (.cb false) <|
    .ret [3, 5, 6, 7, 0])
    (.step (.call 14 [0, 1] 0) <|
    .step (.call 14 [0, 1] 1) <|
    .step (.call 14 [0, 1] 2) <|
    .step (.call 14 [0, 1] 3) <|
    .step (.call 14 [0, 1] 4) <|
    .step (.cb true) <|
    .ret [3, 6, 8, 10, 9])
/-- (*postmark/queue.Queue).Due, function 42, handed blocks, plain functions []. -/
def d11 : PDef := .tree 3 <|
  .step (.ml []) <|
  .step (.call 12 [0, 3, 1, 2] 0) <|
  .step (.call 12 [0, 3, 1, 2] 1) <|
  .step (.call 12 [0, 3, 1, 2] 2) <|
  .step (.ci .i64 0) <|
  .ret [7, 5, 6]
/-- (*postmark/queue.Queue).Put, function 41, handed blocks, plain functions []. -/
def d9 : PDef := .tree 4 <|
  .step (.len 1) <|
  .step (.ci .i64 0) <|
  .step (.call 10 [0, 1, 4, 5, 2, 3] 0) <|
  .step (.call 10 [0, 1, 4, 5, 2, 3] 1) <|
  .step (.call 10 [0, 1, 4, 5, 2, 3] 2) <|
  .ret [5, 7, 8]
/-- container/heap.Push, function 111, handed blocks, plain functions []. -/
def d8 : PDef := .tree 4 <|
  .step (.mk [0, 1, 2]) <|
  .step (.ml [4]) <|
  .step (.app 3 32 3 5) <|
  .step (.len 6) <|
  .step (.ci .i64 1) <|
  .step (.bin .sub 7 8) <|
  .step (.call 6 [9, 6, 1] 0) <|
  .step (.call 6 [9, 6, 1] 1) <|
  .step (.ci .i64 0) <|
  .ret [12, 11]
/-- container/heap.up, function 157, handed blocks, plain functions []. -/
def d6 : PDef := .tree 3 <|
  .step (.call 7 [0, 1, 2] 0) <|
  .step (.call 7 [0, 1, 2] 1) <|
  .step (.ci .i64 0) <|
  .ret [5, 4]
/-- container/heap.down, function 158, the loop [0]. -/
def d16 : PDef := .tree 5 <|
  .step (.ci .i64 2) <|
  .step (.bin .mul 5 2) <|
  .step (.ci .i64 1) <|
  .step (.bin .add 6 7) <|
  .step (.bin .geq 8 1) <|
  .ite 9
    (.step (.ci .i64 0) <|
    .ret [10, 2, 3])
    (.step (.ci .i64 0) <|
    .step (.bin .lss 8 10) <|
    .ite 11
      (.ret [10, 2, 3])
      (.step (.bin .add 8 7) <|
      .step (.bin .lss 12 1) <|
      .ite 13
        (.step (.idx 3 12) <|
        .step (.at 3 3 14) <|
        .step (.cell 0 15) <|
        .step (.idx 3 8) <|
        .step (.at 3 3 17) <|
        .step (.cell 0 18) <|
        .step (.bin .neq 16 19) <|
        .ite 20
          (.step (.bin .lss 16 19) <|
          .ite 21
            (.step (.idx 3 2) <|
            .step (.at 3 3 22) <|
            .step (.cell 0 23) <|
            .step (.bin .neq 16 24) <|
            .ite 25
              (.step (.bin .lss 16 24) <|
              .step (.un .not 26) <|
              .ite 27
                (.ret [10, 2, 3])
                (.step (.cell 1 15) <|
                .step (.cell 2 15) <|
                .step (.cell 1 23) <|
                .step (.cell 2 23) <|
                .step (.upd 3 0 3 22 [16, 28, 29]) <|
                .step (.upd 3 0 32 14 [24, 30, 31]) <|
                .tail 16 [0, 1, 12, 33, 4]))
              (.step (.cell 1 15) <|
              .step (.cell 1 23) <|
              .step (.bin .lss 26 27) <|
              .step (.un .not 28) <|
              .ite 29
                (.ret [10, 2, 3])
                (.step (.cell 2 15) <|
                .step (.cell 2 23) <|
                .step (.upd 3 0 3 22 [16, 26, 30]) <|
                .step (.upd 3 0 32 14 [24, 27, 31]) <|
                .tail 16 [0, 1, 12, 33, 4])))
            (.step (.idx 3 2) <|
            .step (.at 3 3 22) <|
            .step (.cell 0 23) <|
            .step (.bin .neq 19 24) <|
            .ite 25
              (.step (.bin .lss 19 24) <|
              .step (.un .not 26) <|
              .ite 27
                (.ret [10, 2, 3])
                (.step (.cell 1 18) <|
                .step (.cell 2 18) <|
                .step (.cell 1 23) <|
                .step (.cell 2 23) <|
                .step (.upd 3 0 3 22 [19, 28, 29]) <|
                .step (.upd 3 0 32 17 [24, 30, 31]) <|
                .tail 16 [0, 1, 8, 33, 4]))
              (.step (.cell 1 18) <|
              .step (.cell 1 23) <|
              .step (.bin .lss 26 27) <|
              .step (.un .not 28) <|
              .ite 29
                (.ret [10, 2, 3])
                (.step (.cell 2 18) <|
                .step (.cell 2 23) <|
                .step (.upd 3 0 3 22 [19, 26, 30]) <|
                .step (.upd 3 0 32 17 [24, 27, 31]) <|
                .tail 16 [0, 1, 8, 33, 4]))))
          (.step (.cell 1 15) <|
          .step (.cell 1 18) <|
          .step (.bin .lss 21 22) <|
          .ite 23
            (.step (.idx 3 2) <|
            .step (.at 3 3 24) <|
            .step (.cell 0 25) <|
            .step (.bin .neq 16 26) <|
            .ite 27
              (.step (.bin .lss 16 26) <|
              .step (.un .not 28) <|
              .ite 29
                (.ret [10, 2, 3])
                (.step (.cell 2 15) <|
                .step (.cell 1 25) <|
                .step (.cell 2 25) <|
                .step (.upd 3 0 3 24 [16, 21, 30]) <|
                .step (.upd 3 0 33 14 [26, 31, 32]) <|
                .tail 16 [0, 1, 12, 34, 4]))
              (.step (.cell 1 25) <|
              .step (.bin .lss 21 28) <|
              .step (.un .not 29) <|
              .ite 30
                (.ret [10, 2, 3])
                (.step (.cell 2 15) <|
                .step (.cell 2 25) <|
                .step (.upd 3 0 3 24 [16, 21, 31]) <|
                .step (.upd 3 0 33 14 [26, 28, 32]) <|
                .tail 16 [0, 1, 12, 34, 4])))
            (.step (.idx 3 2) <|
            .step (.at 3 3 24) <|
            .step (.cell 0 25) <|
            .step (.bin .neq 19 26) <|
            .ite 27
              (.step (.bin .lss 19 26) <|
              .step (.un .not 28) <|
              .ite 29
                (.ret [10, 2, 3])
                (.step (.cell 2 18) <|
                .step (.cell 1 25) <|
                .step (.cell 2 25) <|
                .step (.upd 3 0 3 24 [19, 22, 30]) <|
                .step (.upd 3 0 33 17 [26, 31, 32]) <|
                .tail 16 [0, 1, 8, 34, 4]))
              (.step (.cell 1 25) <|
              .step (.bin .lss 22 28) <|
              .step (.un .not 29) <|
              .ite 30
                (.ret [10, 2, 3])
                (.step (.cell 2 18) <|
                .step (.cell 2 25) <|
                .step (.upd 3 0 3 24 [19, 22, 31]) <|
                .step (.upd 3 0 33 17 [26, 28, 32]) <|
                .tail 16 [0, 1, 8, 34, 4])))))
        (.step (.idx 3 8) <|
        .step (.at 3 3 14) <|
        .step (.cell 0 15) <|
        .step (.idx 3 2) <|
        .step (.at 3 3 17) <|
        .step (.cell 0 18) <|
        .step (.bin .neq 16 19) <|
        .ite 20
          (.step (.bin .lss 16 19) <|
          .step (.un .not 21) <|
          .ite 22
            (.ret [10, 2, 3])
            (.step (.cell 1 15) <|
            .step (.cell 2 15) <|
            .step (.cell 1 18) <|
            .step (.cell 2 18) <|
            .step (.upd 3 0 3 17 [16, 23, 24]) <|
            .step (.upd 3 0 27 14 [19, 25, 26]) <|
            .tail 16 [0, 1, 8, 28, 4]))
          (.step (.cell 1 15) <|
          .step (.cell 1 18) <|
          .step (.bin .lss 21 22) <|
          .step (.un .not 23) <|
          .ite 24
            (.ret [10, 2, 3])
            (.step (.cell 2 15) <|
            .step (.cell 2 18) <|
            .step (.upd 3 0 3 17 [16, 21, 25]) <|
            .step (.upd 3 0 27 14 [19, 22, 26]) <|
            .tail 16 [0, 1, 8, 28, 4])))))
/-- slices.Equal[[]string,string], function 16, the loop [0]. -/
def d18 : PDef := .tree 4 <|
  .step (.bin .lss 3 2) <|
  .ite 4
    (.step (.at 1 0 3) <|
    .step (.cell 0 5) <|
    .step (.at 1 1 3) <|
    .step (.cell 0 7) <|
    .step (.bin .neq 6 8) <|
    .ite 9
      (.step (.ci .i64 0) <|
      .ret [10])
      (.step (.ci .i64 1) <|
      .step (.bin .add 3 10) <|
      .tail 18 [0, 1, 2, 11]))
    (.step (.ci .i64 1) <|
    .ret [5])
/-- (*postmark/queue.Queue).Put, function 41, the loop [0]. -/
def d10 : PDef := .tree 6 <|
  .step (.bin .lss 3 2) <|
  .ite 6
    (.step (.at 1 1 3) <|
    .step (.cell 0 7) <|
    .step (.call 8 [0, 5, 8, 4] 0) <|
    .step (.call 8 [0, 5, 8, 4] 1) <|
    .step (.ci .u64 1) <|
    .step (.bin .add 5 11) <|
    .step (.ci .i64 1) <|
    .step (.bin .add 3 13) <|
    .tail 10 [0, 1, 2, 14, 10, 12])
    (.step (.ci .i64 0) <|
    .ret [7, 4, 5])
/-- (*postmark/queue.Queue).Due, function 42, the loop [0]. -/
def d12 : PDef := .tree 4 <|
  .step (.len 2) <|
  .step (.ci .i64 0) <|
  .step (.bin .eql 4 5) <|
  .ite 6
    (.ret [5, 1, 2])
    (.step (.idx 2 5) <|
    .step (.at 3 2 7) <|
    .step (.cell 0 8) <|
    .step (.bin .gtr 9 0) <|
    .ite 10
      (.ret [5, 1, 2])
      (.step (.call 13 [2, 3] 0) <|
      .step (.call 13 [2, 3] 1) <|
      .step (.call 13 [2, 3] 2) <|
      .step (.call 13 [2, 3] 3) <|
      .step (.call 13 [2, 3] 4) <|
      .step (.ml [13]) <|
      .step (.app 1 16 1 16) <|
      .tail 12 [0, 17, 15, 3]))
/-- postmark/postmarklaw21.QueueParts, function 8, the loop [0]. -/
def d2 : PDef := .tree 7 <|
  .step (.bin .lss 4 3) <|
  .ite 7
    (.step (.at 1 2 4) <|
    .step (.cell 0 8) <|
    .step (.conv .u8 4) <|
    .step (.ml [10]) <|
    .step (.str 11) <|
    .step (.ml [12]) <|
    .step (.call 9 [9, 13, 5, 6] 0) <|
    .step (.call 9 [9, 13, 5, 6] 1) <|
    .step (.call 9 [9, 13, 5, 6] 2) <|
    .step (.ci .i64 1) <|
    .step (.bin .add 4 17) <|
    .tail 2 [0, 1, 2, 3, 18, 15, 16])
    (.step (.ci .i64 0) <|
    .ret [8, 5, 6])
/-- container/heap.up, function 157, the loop [0]. -/
def d7 : PDef := .tree 3 <|
  .step (.ci .i64 1) <|
  .step (.bin .sub 0 3) <|
  .step (.ci .i64 2) <|
  .step (.bin .quo 4 5) <|
  .step (.bin .eql 6 0) <|
  .ite 7
    (.step (.ci .i64 0) <|
    .ret [8, 1])
    (.step (.idx 1 0) <|
    .step (.at 3 1 8) <|
    .step (.cell 0 9) <|
    .step (.idx 1 6) <|
    .step (.at 3 1 11) <|
    .step (.cell 0 12) <|
    .step (.bin .neq 10 13) <|
    .ite 14
      (.step (.bin .lss 10 13) <|
      .step (.un .not 15) <|
      .ite 16
        (.step (.ci .i64 0) <|
        .ret [17, 1])
        (.step (.cell 1 9) <|
        .step (.cell 2 9) <|
        .step (.cell 1 12) <|
        .step (.cell 2 12) <|
        .step (.upd 3 0 1 11 [10, 17, 18]) <|
        .step (.upd 3 0 21 8 [13, 19, 20]) <|
        .tail 7 [6, 22, 2]))
      (.step (.cell 1 9) <|
      .step (.cell 1 12) <|
      .step (.bin .lss 15 16) <|
      .step (.un .not 17) <|
      .ite 18
        (.step (.ci .i64 0) <|
        .ret [19, 1])
        (.step (.cell 2 9) <|
        .step (.cell 2 12) <|
        .step (.upd 3 0 1 11 [10, 15, 19]) <|
        .step (.upd 3 0 21 8 [13, 16, 20]) <|
        .tail 7 [6, 22, 2])))
def Ds : List PDef := [d0, d1, d2, .prim fun _ => none, .prim fun _ => none, .prim fun _ => none, d6, d7, d8, d9, d10, d11, d12, d13, d14, d15, d16, d17, d18]
noncomputable abbrev TT : PProg := TofL Ds
end
end R
end Go.Proofs.YtckgelanagoenaaGreatDoor
