/- What functions and loops compute: trees of nodes, found by a driver. -/
import Derived.Test.YtckgelanagoenaaGreatDoorAbsJ
namespace Go.Proofs.YtckgelanagoenaaGreatDoor
open Go Go.Abs
set_option maxRecDepth 100000
set_option linter.unusedVariables false
set_option linter.unusedSimpArgs false
namespace HA
noncomputable section
/-- (postmark/agree.Range).Hello, function 52, plain functions []. -/
def d22 : PDef := .fn [.ag 2, .sc] [.ag 24] <|
  .step (.cell 0 0) <|
  .step (.cell 1 0) <|
  .step (.ci .i64 1) <|
  .step (.ci .u64 0) <|
  .step (.ci .i64 0) <|
  .step (.cb false) <|
  .step (.cs []) <|
  .step (.ml []) <|
  .step (.mk [4, 5, 2, 3, 5, 5, 5, 5, 5, 5, 5, 5, 5, 5, 5, 5, 6, 7, 1, 8, 8, 9, 9, 9]) <|
  .ret [10]
/-- (postmark/entry.Entry).Put, function 132, plain functions []. -/
def d12 : PDef := .fn [.ag 2] [.sc] <|
  .step (.cell 0 0) <|
  .step (.cell 1 0) <|
  .step (.slen 1) <|
  .step (.conv .u64 3) <|
  .step (.call 7 [4] 0) <|
  .step (.bin .add 5 1) <|
  .step (.slen 2) <|
  .step (.conv .u64 7) <|
  .step (.call 7 [8] 0) <|
  .step (.bin .add 6 9) <|
  .step (.bin .add 10 2) <|
  .ret [11]
/-- postmark/postmarklaw08.from, function 117, plain functions []. -/
def d17 : PDef := .fn [.sc, .sc] [.sc, .sc] <|
  .step (.ml []) <|
  .step (.call 18 [0, 1, 2] 0) <|
  .step (.call 18 [0, 1, 2] 1) <|
  .step (.call 18 [0, 1, 2] 2) <|
  .ret [5, 4]
/-- postmark/agree.OfHello, function 50, plain functions []. -/
def d19 : PDef := .fn [.ag 24] [.ag 2, .sc] <|
  .step (.cell 0 0) <|
  .step (.cell 1 0) <|
  .step (.cell 2 0) <|
  .step (.cell 3 0) <|
  .step (.cell 4 0) <|
  .step (.cell 5 0) <|
  .step (.cell 6 0) <|
  .step (.cell 7 0) <|
  .step (.cell 8 0) <|
  .step (.cell 9 0) <|
  .step (.cell 10 0) <|
  .step (.cell 11 0) <|
  .step (.cell 12 0) <|
  .step (.cell 13 0) <|
  .step (.cell 14 0) <|
  .step (.cell 15 0) <|
  .step (.cell 16 0) <|
  .step (.cell 17 0) <|
  .step (.cell 18 0) <|
  .step (.cell 19 0) <|
  .step (.cell 20 0) <|
  .step (.cell 21 0) <|
  .step (.cell 22 0) <|
  .step (.cell 23 0) <|
  .step (.ci .i64 1) <|
  .step (.bin .neq 1 25) <|
  .ite 26
    (.step (.ci .u64 0) <|
    .step (.ci .i64 15) <|
    .step (.mk [27, 27]) <|
    .ret [29, 28])
    (.step (.mk [3, 4]) <|
    .step (.call 20 [27] 0) <|
    .step (.ci .i64 0) <|
    .step (.bin .neq 28 29) <|
    .ite 30
      (.step (.ci .u64 0) <|
      .step (.mk [31, 31]) <|
      .ret [32, 28])
      (.ret [27, 29]))
/-- (postmark/postmarklaw18.Raw).Few, function 11, plain functions []. -/
def d1 : PDef := .fn [.ag 24] [.sc] <|
  .step (.cell 0 0) <|
  .step (.cell 1 0) <|
  .step (.cell 2 0) <|
  .step (.cell 3 0) <|
  .step (.cell 4 0) <|
  .step (.cell 5 0) <|
  .step (.cell 6 0) <|
  .step (.cell 7 0) <|
  .step (.cell 8 0) <|
  .step (.cell 9 0) <|
  .step (.cell 10 0) <|
  .step (.cell 11 0) <|
  .step (.cell 12 0) <|
  .step (.cell 13 0) <|
  .step (.cell 14 0) <|
  .step (.cell 15 0) <|
  .step (.cell 16 0) <|
  .step (.cell 17 0) <|
  .step (.cell 18 0) <|
  .step (.cell 19 0) <|
  .step (.cell 20 0) <|
  .step (.cell 21 0) <|
  .step (.cell 22 0) <|
  .step (.cell 23 0) <|
  .step (.slen 19) <|
  .step (.ci .i64 600) <|
  .step (.bin .leq 25 26) <|
  .ite 27
    (.step (.slen 20) <|
    .step (.bin .leq 28 26) <|
    .ite 29
      (.step (.slen 21) <|
      .step (.bin .leq 30 26) <|
      .ite 31
        (.step (.call 2 [22] 0) <|
        .ite 32
          (.step (.call 4 [23] 0) <|
          .ite 33
            (.step (.call 13 [24] 0) <|
            .ret [34])
            (.step (.cb false) <|
            .ret [34]))
          (.step (.cb false) <|
          .ret [33]))
        (.step (.cb false) <|
        .ret [32]))
      (.step (.cb false) <|
      .ret [30]))
    (.step (.cb false) <|
    .ret [28])
/-- (postmark/agree.Range).Check, function 53, plain functions []. -/
def d20 : PDef := .fn [.ag 2] [.sc] <|
  .step (.cell 0 0) <|
  .step (.cell 1 0) <|
  .step (.ci .u64 1) <|
  .step (.bin .lss 1 3) <|
  .ite 4
    (.step (.ci .i64 18) <|
    .ret [5])
    (.step (.bin .lss 2 1) <|
    .ite 5
      (.step (.ci .i64 18) <|
      .ret [6])
      (.step (.ci .u64 255) <|
      .step (.bin .gtr 2 6) <|
      .ite 7
        (.step (.ci .i64 18) <|
        .ret [8])
        (.step (.ci .i64 0) <|
        .ret [8])))
/-- postmark/varint.Put, function 93, plain functions []. -/
def d7 : PDef := .fn [.sc] [.sc] <|
  .step (.call 8 [0] 0) <|
  .step (.ci .u8 0) <|
  .step (.rep 1 1 2 1 1) <|
  .step (.len 3) <|
  .step (.ci .i64 0) <|
  .step (.call 10 [0, 3, 4, 5] 0) <|
  .step (.call 10 [0, 3, 4, 5] 1) <|
  .step (.len 7) <|
  .step (.ci .i64 1) <|
  .step (.bin .sub 8 9) <|
  .step (.idx 7 10) <|
  .step (.at 1 7 11) <|
  .step (.cell 0 12) <|
  .step (.ci .u8 127) <|
  .step (.bin .and 13 14) <|
  .step (.upd 1 0 7 11 [15]) <|
  .step (.str 16) <|
  .ret [17]
/-- (postmark/descr.Descr).Key, function 80, plain functions []. -/
def d6 : PDef := .fn [.sc] [.sc] <|
  .step (.len 0) <|
  .step (.conv .u64 1) <|
  .step (.call 7 [2] 0) <|
  .step (.bytes 3) <|
  .step (.ml []) <|
  .step (.app 1 1 5 4) <|
  .step (.slen 3) <|
  .step (.ci .i64 0) <|
  .step (.call 11 [0, 1, 8, 6] 0) <|
  .step (.call 11 [0, 1, 8, 6] 1) <|
  .step (.len 10) <|
  .step (.str 10) <|
  .ret [12]
/-- postmark/varint.Size, function 140, plain functions []. -/
def d8 : PDef := .fn [.sc] [.sc] <|
  .step (.ci .i64 1) <|
  .step (.call 9 [0, 1] 0) <|
  .step (.call 9 [0, 1] 1) <|
  .ret [3]
/-- postmark/postmarklaw08.Few, function 57, plain functions []. -/
def d13 : PDef := .fn [.sc] [.sc] <|
  .step (.len 0) <|
  .step (.ci .i64 0) <|
  .step (.call 14 [0, 1, 2] 0) <|
  .step (.bin .eql 3 2) <|
  .ite 4
    (.step (.cb false) <|
    .ret [5])
    (.step (.call 14 [0, 1, 2] 1) <|
    .step (.len 5) <|
    .step (.ci .i64 60) <|
    .step (.bin .leq 6 7) <|
    .ret [8])
/-- postmark/postmarkref23.Check, function 51, plain functions []. -/
def d21 : PDef := .fn [.sc, .sc] [.sc] <|
  .step (.ci .u64 0) <|
  .step (.bin .eql 0 2) <|
  .ite 3
    (.step (.ci .i64 18) <|
    .ret [4])
    (.step (.bin .gtr 0 1) <|
    .ite 4
      (.step (.ci .i64 18) <|
      .ret [5])
      (.step (.ci .u64 255) <|
      .step (.bin .gtr 1 5) <|
      .ite 6
        (.step (.ci .i64 18) <|
        .ret [7])
        (.step (.ci .i64 0) <|
        .ret [7])))
/-- postmark/postmarklaw08.Make, function 58, plain functions []. -/
def d16 : PDef := .fn [.sc] [.sc] <|
  .step (.ci .u8 0) <|
  .step (.call 17 [0, 1] 0) <|
  .step (.call 17 [0, 1] 1) <|
  .ret [2]
/-- postmark/postmarklaw23.AgreeHellos, function 9, plain functions []. -/
def d0 : PDef := .fn [.ag 24, .ag 2, .sc] [.sc] <|
  .step (.cell 0 0) <|
  .step (.cell 1 0) <|
  .step (.cell 2 0) <|
  .step (.cell 3 0) <|
  .step (.cell 4 0) <|
  .step (.cell 5 0) <|
  .step (.cell 6 0) <|
  .step (.cell 7 0) <|
  .step (.cell 8 0) <|
  .step (.cell 9 0) <|
  .step (.cell 10 0) <|
  .step (.cell 11 0) <|
  .step (.cell 12 0) <|
  .step (.cell 13 0) <|
  .step (.cell 14 0) <|
  .step (.cell 15 0) <|
  .step (.cell 16 0) <|
  .step (.cell 17 0) <|
  .step (.cell 18 0) <|
  .step (.cell 19 0) <|
  .step (.cell 20 0) <|
  .step (.cell 21 0) <|
  .step (.cell 22 0) <|
  .step (.cell 23 0) <|
  .step (.cell 0 1) <|
  .step (.cell 1 1) <|
  .step (.mk [3, 4, 5, 6, 7, 8, 9, 10, 11, 12, 13, 14, 15, 16, 17, 18, 19, 20, 21, 22, 23, 24, 25, 26]) <|
  .step (.call 1 [29] 0) <|
  .step (.un .not 30) <|
  .ite 31
    (.step (.cb true) <|
    .ret [32])
    (.step (.slen 2) <|
    .step (.ci .i64 600) <|
    .step (.bin .gtr 32 33) <|
    .ite 34
      (.step (.cb true) <|
      .ret [35])
      (.step (.call 15 [29] 0) <|
      .step (.cell 0 35) <|
      .step (.cell 1 35) <|
      .step (.cell 2 35) <|
      .step (.cell 3 35) <|
      .step (.cell 4 35) <|
      .step (.cell 5 35) <|
      .step (.cell 6 35) <|
      .step (.cell 7 35) <|
      .step (.cell 8 35) <|
      .step (.cell 9 35) <|
      .step (.cell 10 35) <|
      .step (.cell 11 35) <|
      .step (.cell 12 35) <|
      .step (.cell 13 35) <|
      .step (.cell 14 35) <|
      .step (.cell 15 35) <|
      .step (.cell 16 35) <|
      .step (.cell 17 35) <|
      .step (.cell 18 35) <|
      .step (.cell 19 35) <|
      .step (.cell 20 35) <|
      .step (.cell 21 35) <|
      .step (.cell 22 35) <|
      .step (.cell 23 35) <|
      .step (.mk [36, 37, 38, 39, 40, 41, 42, 43, 44, 45, 46, 47, 48, 49, 50, 51, 52, 53, 54, 55, 56, 57, 58, 59]) <|
      .step (.call 19 [60] 0) <|
      .step (.cell 0 61) <|
      .step (.cell 1 61) <|
      .step (.call 19 [60] 1) <|
      .step (.call 21 [38, 39] 0) <|
      .step (.ci .i64 1) <|
      .step (.bin .neq 36 66) <|
      .ite 67
        (.step (.mk [27, 28]) <|
        .step (.call 22 [68, 2] 0) <|
        .step (.cell 0 69) <|
        .step (.cell 1 69) <|
        .step (.cell 2 69) <|
        .step (.cell 3 69) <|
        .step (.cell 4 69) <|
        .step (.cell 5 69) <|
        .step (.cell 6 69) <|
        .step (.cell 7 69) <|
        .step (.cell 8 69) <|
        .step (.cell 9 69) <|
        .step (.cell 10 69) <|
        .step (.cell 11 69) <|
        .step (.cell 12 69) <|
        .step (.cell 13 69) <|
        .step (.cell 14 69) <|
        .step (.cell 15 69) <|
        .step (.cell 16 69) <|
        .step (.cell 17 69) <|
        .step (.cell 18 69) <|
        .step (.cell 19 69) <|
        .step (.cell 20 69) <|
        .step (.cell 21 69) <|
        .step (.cell 22 69) <|
        .step (.cell 23 69) <|
        .step (.mk [70, 71, 72, 73, 74, 75, 76, 77, 78, 79, 80, 81, 82, 83, 84, 85, 86, 87, 88, 89, 90, 91, 92, 93]) <|
        .step (.call 19 [94] 0) <|
        .step (.cell 0 95) <|
        .step (.cell 1 95) <|
        .step (.call 19 [94] 1) <|
        .step (.ci .i64 15) <|
        .step (.bin .neq 64 99) <|
        .ite 100
          (.step (.cb false) <|
          .ret [101])
          (.step (.ci .i64 0) <|
          .step (.bin .eql 64 101) <|
          .ite 102
            (.step (.mk [62, 63]) <|
            .step (.mk [38, 39]) <|
            .step (.binc .neq [0, 0] 103 104) <|
            .ite 105
              (.step (.cb false) <|
              .ret [106])
              (.step (.bin .neq 64 101) <|
              .step (.bin .eql 70 66) <|
              .ite 107
                (.step (.bin .eql 88 2) <|
                .ite 108
                  (.step (.bin .eql 72 27) <|
                  .ite 109
                    (.step (.bin .eql 73 28) <|
                    .ite 110
                      (.step (.call 20 [68] 0) <|
                      .step (.bin .eql 98 111) <|
                      .ite 112
                        (.step (.bin .eql 98 101) <|
                        .step (.mk [96, 97]) <|
                        .step (.binc .eql [0, 0] 114 68) <|
                        .ite 115
                          (.step (.binb .eql 113 113) <|
                          .ite 116
                            (.step (.cs []) <|
                            .step (.bin .eql 89 117) <|
                            .ite 118
                              (.step (.ci .u64 0) <|
                              .step (.bin .eql 75 119) <|
                              .ret [120])
                              (.step (.cb false) <|
                              .ret [119]))
                            (.step (.cb false) <|
                            .ret [117]))
                          (.step (.cb false) <|
                          .step (.binb .eql 113 116) <|
                          .ite 117
                            (.step (.cs []) <|
                            .step (.bin .eql 89 118) <|
                            .ite 119
                              (.step (.ci .u64 0) <|
                              .step (.bin .eql 75 120) <|
                              .ret [121])
                              (.ret [116]))
                            (.ret [116])))
                        (.step (.cb false) <|
                        .ret [113]))
                      (.step (.cb false) <|
                      .ret [111]))
                    (.step (.cb false) <|
                    .ret [110]))
                  (.step (.cb false) <|
                  .ret [109]))
                (.step (.cb false) <|
                .ret [108])))
            (.step (.bin .neq 64 101) <|
            .step (.mk [62, 63]) <|
            .step (.ci .u64 0) <|
            .step (.mk [105, 105]) <|
            .step (.binc .neq [0, 0] 104 106) <|
            .ite 107
              (.step (.cb false) <|
              .ret [108])
              (.step (.bin .eql 70 66) <|
              .ite 108
                (.step (.bin .eql 88 2) <|
                .ite 109
                  (.step (.bin .eql 72 27) <|
                  .ite 110
                    (.step (.bin .eql 73 28) <|
                    .ite 111
                      (.step (.call 20 [68] 0) <|
                      .step (.bin .eql 98 112) <|
                      .ite 113
                        (.step (.bin .eql 98 101) <|
                        .step (.mk [96, 97]) <|
                        .step (.binc .eql [0, 0] 115 68) <|
                        .ite 116
                          (.step (.binb .eql 114 114) <|
                          .ite 117
                            (.step (.cs []) <|
                            .step (.bin .eql 89 118) <|
                            .ite 119
                              (.step (.bin .eql 75 105) <|
                              .ret [120])
                              (.step (.cb false) <|
                              .ret [120]))
                            (.step (.cb false) <|
                            .ret [118]))
                          (.step (.cb false) <|
                          .step (.binb .eql 114 117) <|
                          .ite 118
                            (.step (.cs []) <|
                            .step (.bin .eql 89 119) <|
                            .ite 120
                              (.step (.bin .eql 75 105) <|
                              .ret [121])
                              (.ret [117]))
                            (.ret [117])))
                        (.step (.cb false) <|
                        .ret [114]))
                      (.step (.cb false) <|
                      .ret [112]))
                    (.step (.cb false) <|
                    .ret [111]))
                  (.step (.cb false) <|
                  .ret [110]))
                (.step (.cb false) <|
                .ret [109])))))
        (.step (.mk [27, 28]) <|
        .step (.call 22 [68, 2] 0) <|
        .step (.cell 0 69) <|
        .step (.cell 1 69) <|
        .step (.cell 2 69) <|
        .step (.cell 3 69) <|
        .step (.cell 4 69) <|
        .step (.cell 5 69) <|
        .step (.cell 6 69) <|
        .step (.cell 7 69) <|
        .step (.cell 8 69) <|
        .step (.cell 9 69) <|
        .step (.cell 10 69) <|
        .step (.cell 11 69) <|
        .step (.cell 12 69) <|
        .step (.cell 13 69) <|
        .step (.cell 14 69) <|
        .step (.cell 15 69) <|
        .step (.cell 16 69) <|
        .step (.cell 17 69) <|
        .step (.cell 18 69) <|
        .step (.cell 19 69) <|
        .step (.cell 20 69) <|
        .step (.cell 21 69) <|
        .step (.cell 22 69) <|
        .step (.cell 23 69) <|
        .step (.mk [70, 71, 72, 73, 74, 75, 76, 77, 78, 79, 80, 81, 82, 83, 84, 85, 86, 87, 88, 89, 90, 91, 92, 93]) <|
        .step (.call 19 [94] 0) <|
        .step (.cell 0 95) <|
        .step (.cell 1 95) <|
        .step (.call 19 [94] 1) <|
        .step (.bin .neq 64 65) <|
        .ite 99
          (.step (.cb false) <|
          .ret [100])
          (.step (.ci .i64 0) <|
          .step (.bin .eql 64 100) <|
          .ite 101
            (.step (.mk [62, 63]) <|
            .step (.mk [38, 39]) <|
            .step (.binc .neq [0, 0] 102 103) <|
            .ite 104
              (.step (.cb false) <|
              .ret [105])
              (.step (.bin .neq 64 100) <|
              .step (.bin .eql 70 66) <|
              .ite 106
                (.step (.bin .eql 88 2) <|
                .ite 107
                  (.step (.bin .eql 72 27) <|
                  .ite 108
                    (.step (.bin .eql 73 28) <|
                    .ite 109
                      (.step (.call 20 [68] 0) <|
                      .step (.bin .eql 98 110) <|
                      .ite 111
                        (.step (.bin .eql 98 100) <|
                        .step (.mk [96, 97]) <|
                        .step (.binc .eql [0, 0] 113 68) <|
                        .ite 114
                          (.step (.binb .eql 112 112) <|
                          .ite 115
                            (.step (.cs []) <|
                            .step (.bin .eql 89 116) <|
                            .ite 117
                              (.step (.ci .u64 0) <|
                              .step (.bin .eql 75 118) <|
                              .ret [119])
                              (.step (.cb false) <|
                              .ret [118]))
                            (.step (.cb false) <|
                            .ret [116]))
                          (.step (.cb false) <|
                          .step (.binb .eql 112 115) <|
                          .ite 116
                            (.step (.cs []) <|
                            .step (.bin .eql 89 117) <|
                            .ite 118
                              (.step (.ci .u64 0) <|
                              .step (.bin .eql 75 119) <|
                              .ret [120])
                              (.ret [115]))
                            (.ret [115])))
                        (.step (.cb false) <|
                        .ret [112]))
                      (.step (.cb false) <|
                      .ret [110]))
                    (.step (.cb false) <|
                    .ret [109]))
                  (.step (.cb false) <|
                  .ret [108]))
                (.step (.cb false) <|
                .ret [107])))
            (.step (.bin .neq 64 100) <|
            .step (.mk [62, 63]) <|
            .step (.ci .u64 0) <|
            .step (.mk [104, 104]) <|
            .step (.binc .neq [0, 0] 103 105) <|
            .ite 106
              (.step (.cb false) <|
              .ret [107])
              (.step (.bin .eql 70 66) <|
              .ite 107
                (.step (.bin .eql 88 2) <|
                .ite 108
                  (.step (.bin .eql 72 27) <|
                  .ite 109
                    (.step (.bin .eql 73 28) <|
                    .ite 110
                      (.step (.call 20 [68] 0) <|
                      .step (.bin .eql 98 111) <|
                      .ite 112
                        (.step (.bin .eql 98 100) <|
                        .step (.mk [96, 97]) <|
                        .step (.binc .eql [0, 0] 114 68) <|
                        .ite 115
                          (.step (.binb .eql 113 113) <|
                          .ite 116
                            (.step (.cs []) <|
                            .step (.bin .eql 89 117) <|
                            .ite 118
                              (.step (.bin .eql 75 104) <|
                              .ret [119])
                              (.step (.cb false) <|
                              .ret [119]))
                            (.step (.cb false) <|
                            .ret [117]))
                          (.step (.cb false) <|
                          .step (.binb .eql 113 116) <|
                          .ite 117
                            (.step (.cs []) <|
                            .step (.bin .eql 89 118) <|
                            .ite 119
                              (.step (.bin .eql 75 104) <|
                              .ret [120])
                              (.ret [116]))
                            (.ret [116])))
                        (.step (.cb false) <|
                        .ret [113]))
                      (.step (.cb false) <|
                      .ret [111]))
                    (.step (.cb false) <|
                    .ret [110]))
                  (.step (.cb false) <|
                  .ret [109]))
                (.step (.cb false) <|
                .ret [108])))))))
/-- (postmark/postmarklaw18.Raw).Make, function 12, plain functions []. -/
def d15 : PDef := .fn [.ag 24] [.ag 24] <|
  .step (.cell 0 0) <|
  .step (.cell 1 0) <|
  .step (.cell 2 0) <|
  .step (.cell 3 0) <|
  .step (.cell 4 0) <|
  .step (.cell 5 0) <|
  .step (.cell 6 0) <|
  .step (.cell 7 0) <|
  .step (.cell 8 0) <|
  .step (.cell 9 0) <|
  .step (.cell 10 0) <|
  .step (.cell 11 0) <|
  .step (.cell 12 0) <|
  .step (.cell 13 0) <|
  .step (.cell 14 0) <|
  .step (.cell 15 0) <|
  .step (.cell 16 0) <|
  .step (.cell 17 0) <|
  .step (.cell 18 0) <|
  .step (.cell 19 0) <|
  .step (.cell 20 0) <|
  .step (.cell 21 0) <|
  .step (.cell 22 0) <|
  .step (.cell 23 0) <|
  .step (.call 16 [24] 0) <|
  .step (.mk [1, 2, 3, 4, 5, 6, 7, 8, 9, 10, 11, 12, 13, 14, 15, 16, 17, 18, 19, 20, 21, 22, 23, 25]) <|
  .ret [26]
/-- postmark/postmarklaw12.Few, function 55, plain functions []. -/
def d2 : PDef := .fn [.sc] [.sc] <|
  .step (.len 0) <|
  .step (.ci .i64 0) <|
  .step (.call 3 [0, 1, 2] 0) <|
  .step (.bin .eql 3 2) <|
  .ite 4
    (.step (.cb false) <|
    .ret [5])
    (.step (.call 3 [0, 1, 2] 1) <|
    .step (.len 5) <|
    .step (.ci .i64 40) <|
    .step (.bin .leq 6 7) <|
    .ret [8])
/-- postmark/postmarklaw13.Few, function 56, plain functions []. -/
def d4 : PDef := .fn [.sc] [.sc] <|
  .step (.len 0) <|
  .step (.ci .i64 0) <|
  .step (.call 5 [0, 1, 2] 0) <|
  .step (.bin .eql 3 2) <|
  .ite 4
    (.step (.cb false) <|
    .ret [5])
    (.step (.call 5 [0, 1, 2] 1) <|
    .step (.len 5) <|
    .step (.ci .i64 300) <|
    .step (.bin .leq 6 7) <|
    .ret [8])
/-- postmark/varint.Put, function 93, the loop [0]. -/
def d10 : PDef := .tree 4 <|
  .step (.bin .lss 3 2) <|
  .ite 4
    (.step (.ci .u64 127) <|
    .step (.bin .and 0 5) <|
    .step (.conv .u8 6) <|
    .step (.ci .u8 128) <|
    .step (.bin .or 7 8) <|
    .step (.idx 1 3) <|
    .step (.upd 1 0 1 10 [9]) <|
    .step (.ci .u64 7) <|
    .step (.bin .shr 0 12) <|
    .step (.ci .i64 1) <|
    .step (.bin .add 3 14) <|
    .tail 10 [13, 11, 2, 15])
    (.step (.ci .i64 0) <|
    .ret [5, 1])
/-- postmark/postmarklaw13.Few, function 56, the loop [0]. -/
def d5 : PDef := .tree 3 <|
  .step (.bin .lss 2 1) <|
  .ite 3
    (.step (.at 2 0 2) <|
    .step (.cell 0 4) <|
    .step (.cell 1 4) <|
    .step (.len 5) <|
    .step (.ci .i64 18) <|
    .step (.bin .gtr 7 8) <|
    .ite 9
      (.step (.ci .i64 0) <|
      .ret [10])
      (.step (.call 2 [5] 0) <|
      .step (.un .not 10) <|
      .ite 11
        (.step (.ci .i64 0) <|
        .ret [12])
        (.step (.len 0) <|
        .step (.ci .i64 40) <|
        .step (.bin .gtr 12 13) <|
        .ite 14
          (.step (.call 6 [5] 0) <|
          .step (.slen 15) <|
          .step (.ci .i64 100) <|
          .step (.bin .gtr 16 17) <|
          .ite 18
            (.step (.ci .i64 0) <|
            .ret [19])
            (.step (.ci .i64 1) <|
            .step (.bin .add 2 19) <|
            .tail 5 [0, 1, 20]))
          (.step (.ci .i64 1) <|
          .step (.bin .add 2 15) <|
          .tail 5 [0, 1, 16]))))
    (.step (.ci .i64 1) <|
    .ret [4, 0])
/-- postmark/postmarklaw08.from, function 117, the loop [0]. -/
def d18 : PDef := .tree 3 <|
  .step (.len 0) <|
  .step (.ci .i64 0) <|
  .step (.bin .gtr 3 4) <|
  .ite 5
    (.step (.at 5 0 4) <|
    .step (.cell 0 6) <|
    .step (.bin .geq 7 1) <|
    .ite 8
      (.step (.cell 1 6) <|
      .step (.cell 2 6) <|
      .step (.cell 3 6) <|
      .step (.cell 4 6) <|
      .step (.conv .i64 10) <|
      .step (.ci .u8 255) <|
      .step (.bin .eql 7 14) <|
      .ite 15
        (.step (.ci .i64 1) <|
        .step (.lsub 5 0 16 3) <|
        .step (.ml []) <|
        .step (.mk [9, 13, 11, 12, 18]) <|
        .step (.ml [19]) <|
        .step (.app 5 64 2 20) <|
        .tail 18 [17, 1, 21])
        (.step (.ci .i64 1) <|
        .step (.lsub 5 0 16 3) <|
        .step (.ci .u8 1) <|
        .step (.bin .add 7 18) <|
        .step (.call 17 [17, 19] 0) <|
        .step (.call 17 [17, 19] 1) <|
        .step (.mk [9, 13, 11, 12, 20]) <|
        .step (.ml [22]) <|
        .step (.app 5 64 2 23) <|
        .tail 18 [21, 1, 24]))
      (.ret [4, 0, 2]))
    (.ret [4, 0, 2])
/-- postmark/postmarklaw12.Few, function 55, the loop [0]. -/
def d3 : PDef := .tree 3 <|
  .step (.bin .lss 2 1) <|
  .ite 3
    (.step (.at 2 0 2) <|
    .step (.cell 0 4) <|
    .step (.cell 1 4) <|
    .step (.slen 5) <|
    .step (.slen 6) <|
    .step (.bin .add 7 8) <|
    .step (.ci .i64 600) <|
    .step (.bin .gtr 9 10) <|
    .ite 11
      (.step (.ci .i64 0) <|
      .ret [12])
      (.step (.ci .i64 1) <|
      .step (.bin .add 2 12) <|
      .tail 3 [0, 1, 13]))
    (.step (.ci .i64 1) <|
    .ret [4, 0])
/-- postmark/varint.Size, function 140, the loop [0]. -/
def d9 : PDef := .tree 2 <|
  .step (.ci .u64 128) <|
  .step (.bin .geq 0 2) <|
  .ite 3
    (.step (.ci .u64 7) <|
    .step (.bin .shr 0 4) <|
    .step (.ci .i64 1) <|
    .step (.bin .add 1 6) <|
    .tail 9 [5, 7])
    (.step (.ci .i64 0) <|
    .ret [4, 1])
/-- postmark/postmarklaw08.Few, function 57, the loop [0]. -/
def d14 : PDef := .tree 3 <|
  .step (.bin .lss 2 1) <|
  .ite 3
    (.step (.at 5 0 2) <|
    .step (.cell 0 4) <|
    .step (.cell 1 4) <|
    .step (.cell 2 4) <|
    .step (.cell 3 4) <|
    .step (.cell 4 4) <|
    .step (.slen 9) <|
    .step (.ci .i64 300) <|
    .step (.bin .gtr 10 11) <|
    .ite 12
      (.step (.ci .i64 0) <|
      .ret [13])
      (.step (.ci .i64 1) <|
      .step (.bin .add 2 13) <|
      .tail 14 [0, 1, 14]))
    (.step (.ci .i64 1) <|
    .ret [4, 0])
/-- (postmark/descr.Descr).Key, function 80, the loop [0]. -/
def d11 : PDef := .tree 4 <|
  .step (.bin .lss 2 1) <|
  .ite 4
    (.step (.at 2 0 2) <|
    .step (.cell 0 5) <|
    .step (.cell 1 5) <|
    .step (.mk [6, 7]) <|
    .step (.call 12 [8] 0) <|
    .step (.bytes 9) <|
    .step (.app 1 1 3 10) <|
    .step (.slen 9) <|
    .step (.ci .i64 1) <|
    .step (.bin .add 2 13) <|
    .tail 11 [0, 1, 14, 11])
    (.step (.ci .i64 0) <|
    .ret [5, 3])
def Ds : List PDef := [d0, d1, d2, d3, d4, d5, d6, d7, d8, d9, d10, d11, d12, d13, d14, d15, d16, d17, d18, d19, d20, d21, d22]
noncomputable abbrev TT : PProg := TofL Ds
end
end HA
end Go.Proofs.YtckgelanagoenaaGreatDoor
