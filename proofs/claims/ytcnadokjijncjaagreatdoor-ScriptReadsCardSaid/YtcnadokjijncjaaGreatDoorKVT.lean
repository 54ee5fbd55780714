/- What functions and loops compute: trees of nodes, found by a driver. -/
import Derived.Test.YtcnadokjijncjaaGreatDoorAbsJ
import Derived.Test.YtcnadokjijncjaaGreatDoorAbsPl
import Derived.Test.YtcnadokjijncjaaGreatDoorAbsTold
import Derived.Test.YtcnadokjijncjaaGreatDoorAbsScr
namespace Go.Proofs.YtcnadokjijncjaaGreatDoor
open Go Go.Abs
set_option maxRecDepth 100000
set_option linter.unusedVariables false
set_option linter.unusedSimpArgs false
namespace V
noncomputable section
/-- postmark/postmarkref28.number, function 29, plain functions []. -/
def d25 : PDef := .fn [.sc, .sc] [.sc, .sc] <|
  .step (.cs []) <|
  .step (.bin .eql 0 2) <|
  .ite 3
    (.step (.ci .u64 0) <|
    .step (.ci .i64 23) <|
    .ret [4, 5])
    (.step (.slen 0) <|
    .step (.ci .i64 1) <|
    .step (.bin .gtr 4 5) <|
    .ite 6
      (.step (.ci .i64 0) <|
      .step (.sidx 0 7) <|
      .step (.ci .u8 48) <|
      .step (.bin .eql 8 9) <|
      .ite 10
        (.step (.ci .u64 0) <|
        .step (.ci .i64 23) <|
        .ret [11, 12])
        (.step (.call 26 [0, 1, 7] 0) <|
        .step (.bin .eql 11 7) <|
        .ite 12
          (.step (.ci .u64 0) <|
          .step (.ci .i64 23) <|
          .ret [13, 14])
          (.step (.ci .u64 0) <|
          .step (.call 27 [0, 1, 13, 7] 0) <|
          .step (.bin .eql 14 7) <|
          .ite 15
            (.step (.ci .i64 3) <|
            .ret [13, 16])
            (.step (.call 27 [0, 1, 13, 7] 1) <|
            .step (.bin .gtr 16 1) <|
            .ite 17
              (.step (.ci .i64 18) <|
              .ret [13, 18])
              (.ret [16, 7])))))
      (.step (.ci .i64 0) <|
      .step (.call 26 [0, 1, 7] 0) <|
      .step (.bin .eql 8 7) <|
      .ite 9
        (.step (.ci .u64 0) <|
        .step (.ci .i64 23) <|
        .ret [10, 11])
        (.step (.ci .u64 0) <|
        .step (.call 27 [0, 1, 10, 7] 0) <|
        .step (.bin .eql 11 7) <|
        .ite 12
          (.step (.ci .i64 3) <|
          .ret [10, 13])
          (.step (.call 27 [0, 1, 10, 7] 1) <|
          .step (.bin .gtr 13 1) <|
          .ite 14
            (.step (.ci .i64 18) <|
            .ret [10, 15])
            (.ret [13, 7])))))
/-- postmark/postmarkref28.cut, function 16, plain functions []. -/
def d18 : PDef := .fn [.sc, .sc] [.sc] <|
  .step (.ci .i64 0) <|
  .step (.ml []) <|
  .step (.call 19 [0, 1, 3, 2, 2] 0) <|
  .step (.call 19 [0, 1, 3, 2, 2] 1) <|
  .step (.call 19 [0, 1, 3, 2, 2] 2) <|
  .step (.slen 0) <|
  .step (.ssub 0 6 7) <|
  .step (.ml [8]) <|
  .step (.app 1 16 5 9) <|
  .ret [10]
/-- strings.FieldsFunc is told. -/
abbrev d4 : PDef := .prim fieldsP
/-- postmark/script.fate, function 26, plain functions []. -/
def d10 : PDef := .fn [.sc] [.ag 6, .sc] <|
  .step (.len 0) <|
  .step (.ci .i64 2) <|
  .step (.bin .eql 1 2) <|
  .ite 3
    (.step (.ci .i64 1) <|
    .step (.at 1 0 4) <|
    .step (.cell 0 5) <|
    .step (.cs [100, 114, 111, 112]) <|
    .step (.bin .eql 6 7) <|
    .ite 8
      (.step (.cb true) <|
      .step (.ci .u8 0) <|
      .step (.ci .i64 0) <|
      .step (.mk [9, 10, 10, 11, 11, 10]) <|
      .ret [12, 11])
      (.step (.ci .i64 6) <|
      .step (.bin .neq 1 9) <|
      .step (.cb false) <|
      .step (.ci .u8 0) <|
      .step (.ci .i64 0) <|
      .step (.ci .i64 23) <|
      .step (.mk [11, 12, 12, 13, 13, 12]) <|
      .ret [15, 14]))
    (.step (.ci .i64 6) <|
    .step (.bin .neq 1 4) <|
    .ite 5
      (.step (.cb false) <|
      .step (.ci .u8 0) <|
      .step (.ci .i64 0) <|
      .step (.ci .i64 23) <|
      .step (.mk [6, 7, 7, 8, 8, 7]) <|
      .ret [10, 9])
      (.step (.ci .i64 1) <|
      .step (.lsub 1 0 6 1) <|
      .step (.ci .u64 255) <|
      .step (.ci .u64 100000) <|
      .step (.ml [8, 8, 9, 9, 8]) <|
      .step (.call 6 [7, 10] 0) <|
      .step (.call 6 [7, 10] 1) <|
      .step (.ci .i64 0) <|
      .step (.bin .neq 12 13) <|
      .ite 14
        (.step (.cb false) <|
        .step (.ci .u8 0) <|
        .step (.mk [15, 16, 16, 13, 13, 16]) <|
        .ret [17, 12])
        (.step (.at 1 11 13) <|
        .step (.cell 0 15) <|
        .step (.conv .u8 16) <|
        .step (.at 1 11 6) <|
        .step (.cell 0 18) <|
        .step (.conv .u8 19) <|
        .step (.at 1 11 2) <|
        .step (.cell 0 21) <|
        .step (.conv .i64 22) <|
        .step (.ci .i64 3) <|
        .step (.at 1 11 24) <|
        .step (.cell 0 25) <|
        .step (.conv .i64 26) <|
        .step (.ci .i64 4) <|
        .step (.at 1 11 28) <|
        .step (.cell 0 29) <|
        .step (.conv .u8 30) <|
        .step (.cb false) <|
        .step (.mk [32, 17, 20, 23, 27, 31]) <|
        .ret [33, 13])))
/-- postmark/postmarklaw28.ScriptReads, function 3, plain functions []. -/
def d0 : PDef := .fn [.sc] [.sc] <|
  .step (.slen 0) <|
  .step (.ci .i64 8000) <|
  .step (.bin .gtr 1 2) <|
  .ite 3
    (.step (.cb true) <|
    .ret [4])
    (.step (.call 1 [0] 0) <|
    .step (.cell 0 4) <|
    .step (.cell 1 4) <|
    .step (.cell 2 4) <|
    .step (.cell 3 4) <|
    .step (.cell 4 4) <|
    .step (.cell 5 4) <|
    .step (.cell 6 4) <|
    .step (.call 1 [0] 1) <|
    .step (.call 1 [0] 2) <|
    .step (.call 17 [0] 0) <|
    .step (.cell 0 14) <|
    .step (.cell 1 14) <|
    .step (.cell 2 14) <|
    .step (.cell 3 14) <|
    .step (.cell 4 14) <|
    .step (.cell 5 14) <|
    .step (.cell 6 14) <|
    .step (.call 17 [0] 1) <|
    .step (.call 17 [0] 2) <|
    .step (.mk [5, 6, 7, 8, 9, 10, 11]) <|
    .step (.call 31 [24] 0) <|
    .step (.cell 0 25) <|
    .step (.cell 1 25) <|
    .step (.cell 2 25) <|
    .step (.cell 3 25) <|
    .step (.cell 4 25) <|
    .step (.cell 5 25) <|
    .step (.cell 6 25) <|
    .step (.mk [26, 27, 28, 29, 30, 31, 32]) <|
    .step (.mk [15, 16, 17, 18, 19, 20, 21]) <|
    .step (.call 35 [33, 34] 0) <|
    .ite 35
      (.step (.call 43 [32, 21] 0) <|
      .ite 36
        (.step (.bin .eql 12 22) <|
        .ite 37
          (.step (.bin .eql 13 23) <|
          .ret [38])
          (.step (.cb false) <|
          .ret [38]))
        (.step (.cb false) <|
        .ret [37]))
      (.step (.cb false) <|
      .ret [36]))
/-- postmark/postmarkref28.numbers, function 18, plain functions []. -/
def d23 : PDef := .fn [.sc, .sc] [.sc, .sc] <|
  .step (.len 0) <|
  .step (.len 1) <|
  .step (.bin .neq 2 3) <|
  .ite 4
    (.step (.ml []) <|
    .step (.ci .i64 23) <|
    .ret [5, 6])
    (.step (.ci .i64 0) <|
    .step (.ml []) <|
    .step (.call 24 [0, 1, 6, 2, 5] 0) <|
    .step (.bin .eql 7 5) <|
    .ite 8
      (.step (.call 24 [0, 1, 6, 2, 5] 1) <|
      .ret [6, 9])
      (.step (.call 24 [0, 1, 6, 2, 5] 1) <|
      .ret [9, 5]))
/-- postmark/postmarkref28.Same, function 7, plain functions []. -/
def d35 : PDef := .fn [.ag 7, .ag 7] [.sc] <|
  .step (.cell 0 0) <|
  .step (.cell 1 0) <|
  .step (.cell 2 0) <|
  .step (.cell 3 0) <|
  .step (.cell 4 0) <|
  .step (.cell 5 0) <|
  .step (.cell 6 0) <|
  .step (.cell 0 1) <|
  .step (.cell 1 1) <|
  .step (.cell 2 1) <|
  .step (.cell 3 1) <|
  .step (.cell 4 1) <|
  .step (.cell 5 1) <|
  .step (.cell 6 1) <|
  .step (.bin .neq 2 9) <|
  .ite 16
    (.step (.cb false) <|
    .ret [17])
    (.step (.bin .neq 3 10) <|
    .ite 17
      (.step (.cb false) <|
      .ret [18])
      (.step (.bin .neq 4 11) <|
      .ite 18
        (.step (.cb false) <|
        .ret [19])
        (.step (.bin .neq 5 12) <|
        .ite 19
          (.step (.cb false) <|
          .ret [20])
          (.step (.len 8) <|
          .step (.len 15) <|
          .step (.bin .neq 20 21) <|
          .ite 22
            (.step (.cb false) <|
            .ret [23])
            (.step (.call 36 [6, 13] 0) <|
            .step (.un .not 23) <|
            .ite 24
              (.step (.cb false) <|
              .ret [25])
              (.step (.call 36 [7, 14] 0) <|
              .step (.un .not 25) <|
              .ite 26
                (.step (.cb false) <|
                .ret [27])
                (.step (.ci .i64 0) <|
                .step (.call 38 [20, 27, 9, 10, 11, 12, 13, 14, 15, 2, 3, 4, 5, 6, 7, 8] 0) <|
                .step (.bin .eql 28 27) <|
                .ite 29
                  (.step (.cb false) <|
                  .ret [30])
                  (.step (.cb true) <|
                  .ret [30]))))))))
/-- postmark/postmarkref28.digits, function 32, plain functions []. -/
def d40 : PDef := .fn [.sc] [.sc] <|
  .step (.ci .i64 10) <|
  .step (.call 41 [0, 1] 0) <|
  .ret [2]
/-- strconv.Itoa is told. -/
abbrev d42 : PDef := .prim itoaP
/-- postmark/postmarkref28.words, function 17, plain functions []. -/
def d21 : PDef := .fn [.sc] [.sc] <|
  .step (.ci .u8 32) <|
  .step (.call 18 [0, 1] 0) <|
  .step (.len 2) <|
  .step (.ci .i64 0) <|
  .step (.ml []) <|
  .step (.call 22 [5, 2, 3, 4] 0) <|
  .step (.call 22 [5, 2, 3, 4] 1) <|
  .step (.len 7) <|
  .step (.bin .gtr 8 4) <|
  .ite 9
    (.step (.idx 7 4) <|
    .step (.at 1 7 10) <|
    .step (.cell 0 11) <|
    .step (.sidx 12 4) <|
    .step (.ci .u8 35) <|
    .step (.bin .eql 13 14) <|
    .ite 15
      (.ret [5])
      (.ret [7]))
    (.ret [7])
/-- slices.Equal[[]postmark/postmarkref28.Command,postmark/postmarkref28.Command], function 9, plain functions []. -/
def d43 : PDef := .fn [.sc, .sc] [.sc] <|
  .step (.len 0) <|
  .step (.len 1) <|
  .step (.bin .neq 2 3) <|
  .ite 4
    (.step (.cb false) <|
    .ret [5])
    (.step (.ci .i64 0) <|
    .step (.call 44 [0, 1, 2, 5] 0) <|
    .step (.bin .eql 6 5) <|
    .ite 7
      (.step (.cb false) <|
      .ret [8])
      (.step (.cb true) <|
      .ret [8]))
/-- strings.Split is told. -/
abbrev d2 : PDef := .prim splitP
/-- postmark/postmarkref28.command, function 20, plain functions []. -/
def d29 : PDef := .fn [.sc, .sc] [.ag 5, .sc] <|
  .step (.ci .u8 0) <|
  .step (.call 30 [0, 1, 2] 0) <|
  .step (.call 30 [0, 1, 2] 1) <|
  .step (.ci .u8 6) <|
  .step (.bin .eql 4 5) <|
  .ite 6
    (.step (.ci .i64 0) <|
    .step (.ci .u64 0) <|
    .step (.cs []) <|
    .step (.ci .i64 23) <|
    .step (.mk [7, 2, 7, 8, 9]) <|
    .ret [11, 10])
    (.step (.len 1) <|
    .step (.ci .i64 1) <|
    .step (.bin .sub 7 8) <|
    .step (.isi 4 0) <|
    .ite 10
      (.step (.ci .i64 3) <|
      .step (.bin .neq 9 11) <|
      .ite 12
        (.step (.ci .i64 0) <|
        .step (.ci .u64 0) <|
        .step (.cs []) <|
        .step (.ci .i64 23) <|
        .step (.mk [13, 2, 13, 14, 15]) <|
        .ret [17, 16])
        (.step (.ci .u8 3) <|
        .step (.bin .eql 4 13) <|
        .ite 14
          (.step (.at 1 1 8) <|
          .step (.cell 0 15) <|
          .step (.ci .u64 100000) <|
          .step (.call 25 [16, 17] 0) <|
          .step (.call 25 [16, 17] 1) <|
          .step (.ci .i64 0) <|
          .step (.cs []) <|
          .step (.mk [0, 4, 20, 18, 21]) <|
          .ret [22, 19])
          (.step (.ci .u8 5) <|
          .step (.bin .neq 4 15) <|
          .ite 16
            (.step (.at 1 1 8) <|
            .step (.cell 0 17) <|
            .step (.ci .u64 1) <|
            .step (.call 25 [18, 19] 0) <|
            .step (.call 25 [18, 19] 1) <|
            .step (.conv .i64 20) <|
            .step (.ci .i64 0) <|
            .step (.bin .eql 21 23) <|
            .ite 24
              (.step (.bin .eql 4 2) <|
              .ite 25
                (.step (.ci .i64 2) <|
                .step (.at 1 1 26) <|
                .step (.cell 0 27) <|
                .step (.slen 28) <|
                .step (.ci .i64 64) <|
                .step (.bin .gtr 29 30) <|
                .ite 31
                  (.step (.ci .u64 0) <|
                  .step (.ci .i64 13) <|
                  .step (.mk [0, 4, 22, 32, 28]) <|
                  .ret [34, 33])
                  (.step (.ci .u8 2) <|
                  .step (.bin .lss 4 32) <|
                  .ite 33
                    (.step (.at 1 1 9) <|
                    .step (.cell 0 34) <|
                    .step (.ci .u64 18446744073709551615) <|
                    .step (.call 25 [35, 36] 0) <|
                    .step (.call 25 [35, 36] 1) <|
                    .step (.mk [0, 4, 22, 37, 28]) <|
                    .ret [39, 38])
                    (.step (.ci .u64 0) <|
                    .step (.mk [0, 4, 22, 34, 28]) <|
                    .ret [35, 21])))
                (.step (.ci .u8 2) <|
                .step (.bin .lss 4 26) <|
                .ite 27
                  (.step (.at 1 1 9) <|
                  .step (.cell 0 28) <|
                  .step (.ci .u64 18446744073709551615) <|
                  .step (.call 25 [29, 30] 0) <|
                  .step (.call 25 [29, 30] 1) <|
                  .step (.cs []) <|
                  .step (.mk [0, 4, 22, 31, 33]) <|
                  .ret [34, 32])
                  (.step (.ci .u64 0) <|
                  .step (.cs []) <|
                  .step (.mk [0, 4, 22, 28, 29]) <|
                  .ret [30, 21])))
              (.step (.ci .u64 0) <|
              .step (.cs []) <|
              .step (.mk [0, 4, 22, 25, 26]) <|
              .ret [27, 21]))
            (.step (.bin .eql 4 2) <|
            .ite 17
              (.step (.ci .i64 2) <|
              .step (.at 1 1 18) <|
              .step (.cell 0 19) <|
              .step (.slen 20) <|
              .step (.ci .i64 64) <|
              .step (.bin .gtr 21 22) <|
              .ite 23
                (.step (.ci .i64 0) <|
                .step (.ci .u64 0) <|
                .step (.ci .i64 13) <|
                .step (.mk [0, 4, 24, 25, 20]) <|
                .ret [27, 26])
                (.step (.ci .u8 2) <|
                .step (.bin .lss 4 24) <|
                .ite 25
                  (.step (.at 1 1 9) <|
                  .step (.cell 0 26) <|
                  .step (.ci .u64 18446744073709551615) <|
                  .step (.call 25 [27, 28] 0) <|
                  .step (.call 25 [27, 28] 1) <|
                  .step (.ci .i64 0) <|
                  .step (.mk [0, 4, 31, 29, 20]) <|
                  .ret [32, 30])
                  (.step (.ci .i64 0) <|
                  .step (.ci .u64 0) <|
                  .step (.mk [0, 4, 26, 27, 20]) <|
                  .ret [28, 26])))
              (.step (.ci .u8 2) <|
              .step (.bin .lss 4 18) <|
              .ite 19
                (.step (.at 1 1 9) <|
                .step (.cell 0 20) <|
                .step (.ci .u64 18446744073709551615) <|
                .step (.call 25 [21, 22] 0) <|
                .step (.call 25 [21, 22] 1) <|
                .step (.ci .i64 0) <|
                .step (.cs []) <|
                .step (.mk [0, 4, 25, 23, 26]) <|
                .ret [27, 24])
                (.step (.ci .i64 0) <|
                .step (.ci .u64 0) <|
                .step (.cs []) <|
                .step (.mk [0, 4, 20, 21, 22]) <|
                .ret [23, 20]))))))
      (.step (.isi 4 1) <|
      .ite 11
        (.step (.ci .i64 2) <|
        .step (.bin .neq 9 12) <|
        .ite 13
          (.step (.ci .i64 0) <|
          .step (.ci .u64 0) <|
          .step (.cs []) <|
          .step (.ci .i64 23) <|
          .step (.mk [14, 2, 14, 15, 16]) <|
          .ret [18, 17])
          (.step (.ci .u8 3) <|
          .step (.bin .eql 4 14) <|
          .ite 15
            (.step (.at 1 1 8) <|
            .step (.cell 0 16) <|
            .step (.ci .u64 100000) <|
            .step (.call 25 [17, 18] 0) <|
            .step (.call 25 [17, 18] 1) <|
            .step (.ci .i64 0) <|
            .step (.cs []) <|
            .step (.mk [0, 4, 21, 19, 22]) <|
            .ret [23, 20])
            (.step (.ci .u8 5) <|
            .step (.bin .neq 4 16) <|
            .ite 17
              (.step (.at 1 1 8) <|
              .step (.cell 0 18) <|
              .step (.ci .u64 1) <|
              .step (.call 25 [19, 20] 0) <|
              .step (.call 25 [19, 20] 1) <|
              .step (.conv .i64 21) <|
              .step (.ci .i64 0) <|
              .step (.bin .eql 22 24) <|
              .ite 25
                (.step (.bin .eql 4 2) <|
                .ite 26
                  (.step (.at 1 1 12) <|
                  .step (.cell 0 27) <|
                  .step (.slen 28) <|
                  .step (.ci .i64 64) <|
                  .step (.bin .gtr 29 30) <|
                  .ite 31
                    (.step (.ci .u64 0) <|
                    .step (.ci .i64 13) <|
                    .step (.mk [0, 4, 23, 32, 28]) <|
                    .ret [34, 33])
                    (.step (.ci .u8 2) <|
                    .step (.bin .lss 4 32) <|
                    .ite 33
                      (.step (.at 1 1 9) <|
                      .step (.cell 0 34) <|
                      .step (.ci .u64 18446744073709551615) <|
                      .step (.call 25 [35, 36] 0) <|
                      .step (.call 25 [35, 36] 1) <|
                      .step (.mk [0, 4, 23, 37, 28]) <|
                      .ret [39, 38])
                      (.step (.ci .u64 0) <|
                      .step (.mk [0, 4, 23, 34, 28]) <|
                      .ret [35, 22])))
                  (.step (.ci .u8 2) <|
                  .step (.bin .lss 4 27) <|
                  .ite 28
                    (.step (.at 1 1 9) <|
                    .step (.cell 0 29) <|
                    .step (.ci .u64 18446744073709551615) <|
                    .step (.call 25 [30, 31] 0) <|
                    .step (.call 25 [30, 31] 1) <|
                    .step (.cs []) <|
                    .step (.mk [0, 4, 23, 32, 34]) <|
                    .ret [35, 33])
                    (.step (.ci .u64 0) <|
                    .step (.cs []) <|
                    .step (.mk [0, 4, 23, 29, 30]) <|
                    .ret [31, 22])))
                (.step (.ci .u64 0) <|
                .step (.cs []) <|
                .step (.mk [0, 4, 23, 26, 27]) <|
                .ret [28, 22]))
              (.step (.bin .eql 4 2) <|
              .ite 18
                (.step (.at 1 1 12) <|
                .step (.cell 0 19) <|
                .step (.slen 20) <|
                .step (.ci .i64 64) <|
                .step (.bin .gtr 21 22) <|
                .ite 23
                  (.step (.ci .i64 0) <|
                  .step (.ci .u64 0) <|
                  .step (.ci .i64 13) <|
                  .step (.mk [0, 4, 24, 25, 20]) <|
                  .ret [27, 26])
                  (.step (.ci .u8 2) <|
                  .step (.bin .lss 4 24) <|
                  .ite 25
                    (.step (.at 1 1 9) <|
                    .step (.cell 0 26) <|
                    .step (.ci .u64 18446744073709551615) <|
                    .step (.call 25 [27, 28] 0) <|
                    .step (.call 25 [27, 28] 1) <|
                    .step (.ci .i64 0) <|
                    .step (.mk [0, 4, 31, 29, 20]) <|
                    .ret [32, 30])
                    (.step (.ci .i64 0) <|
                    .step (.ci .u64 0) <|
                    .step (.mk [0, 4, 26, 27, 20]) <|
                    .ret [28, 26])))
                (.step (.ci .u8 2) <|
                .step (.bin .lss 4 19) <|
                .ite 20
                  (.step (.at 1 1 9) <|
                  .step (.cell 0 21) <|
                  .step (.ci .u64 18446744073709551615) <|
                  .step (.call 25 [22, 23] 0) <|
                  .step (.call 25 [22, 23] 1) <|
                  .step (.ci .i64 0) <|
                  .step (.cs []) <|
                  .step (.mk [0, 4, 26, 24, 27]) <|
                  .ret [28, 25])
                  (.step (.ci .i64 0) <|
                  .step (.ci .u64 0) <|
                  .step (.cs []) <|
                  .step (.mk [0, 4, 21, 22, 23]) <|
                  .ret [24, 21]))))))
        (.step (.isi 4 2) <|
        .ite 12
          (.step (.bin .neq 9 8) <|
          .ite 13
            (.step (.ci .i64 0) <|
            .step (.ci .u64 0) <|
            .step (.cs []) <|
            .step (.ci .i64 23) <|
            .step (.mk [14, 2, 14, 15, 16]) <|
            .ret [18, 17])
            (.step (.ci .u8 3) <|
            .step (.bin .eql 4 14) <|
            .ite 15
              (.step (.at 1 1 8) <|
              .step (.cell 0 16) <|
              .step (.ci .u64 100000) <|
              .step (.call 25 [17, 18] 0) <|
              .step (.call 25 [17, 18] 1) <|
              .step (.ci .i64 0) <|
              .step (.cs []) <|
              .step (.mk [0, 4, 21, 19, 22]) <|
              .ret [23, 20])
              (.step (.ci .u8 5) <|
              .step (.bin .neq 4 16) <|
              .ite 17
                (.step (.at 1 1 8) <|
                .step (.cell 0 18) <|
                .step (.ci .u64 1) <|
                .step (.call 25 [19, 20] 0) <|
                .step (.call 25 [19, 20] 1) <|
                .step (.conv .i64 21) <|
                .step (.ci .i64 0) <|
                .step (.bin .eql 22 24) <|
                .ite 25
                  (.step (.bin .eql 4 2) <|
                  .ite 26
                    (.step (.ci .i64 2) <|
                    .step (.at 1 1 27) <|
                    .step (.cell 0 28) <|
                    .step (.slen 29) <|
                    .step (.ci .i64 64) <|
                    .step (.bin .gtr 30 31) <|
                    .ite 32
                      (.step (.ci .u64 0) <|
                      .step (.ci .i64 13) <|
                      .step (.mk [0, 4, 23, 33, 29]) <|
                      .ret [35, 34])
                      (.step (.ci .u8 2) <|
                      .step (.bin .lss 4 33) <|
                      .ite 34
                        (.step (.at 1 1 9) <|
                        .step (.cell 0 35) <|
                        .step (.ci .u64 18446744073709551615) <|
                        .step (.call 25 [36, 37] 0) <|
                        .step (.call 25 [36, 37] 1) <|
                        .step (.mk [0, 4, 23, 38, 29]) <|
                        .ret [40, 39])
                        (.step (.ci .u64 0) <|
                        .step (.mk [0, 4, 23, 35, 29]) <|
                        .ret [36, 22])))
                    (.step (.ci .u8 2) <|
                    .step (.bin .lss 4 27) <|
                    .ite 28
                      (.step (.at 1 1 9) <|
                      .step (.cell 0 29) <|
                      .step (.ci .u64 18446744073709551615) <|
                      .step (.call 25 [30, 31] 0) <|
                      .step (.call 25 [30, 31] 1) <|
                      .step (.cs []) <|
                      .step (.mk [0, 4, 23, 32, 34]) <|
                      .ret [35, 33])
                      (.step (.ci .u64 0) <|
                      .step (.cs []) <|
                      .step (.mk [0, 4, 23, 29, 30]) <|
                      .ret [31, 22])))
                  (.step (.ci .u64 0) <|
                  .step (.cs []) <|
                  .step (.mk [0, 4, 23, 26, 27]) <|
                  .ret [28, 22]))
                (.step (.bin .eql 4 2) <|
                .ite 18
                  (.step (.ci .i64 2) <|
                  .step (.at 1 1 19) <|
                  .step (.cell 0 20) <|
                  .step (.slen 21) <|
                  .step (.ci .i64 64) <|
                  .step (.bin .gtr 22 23) <|
                  .ite 24
                    (.step (.ci .i64 0) <|
                    .step (.ci .u64 0) <|
                    .step (.ci .i64 13) <|
                    .step (.mk [0, 4, 25, 26, 21]) <|
                    .ret [28, 27])
                    (.step (.ci .u8 2) <|
                    .step (.bin .lss 4 25) <|
                    .ite 26
                      (.step (.at 1 1 9) <|
                      .step (.cell 0 27) <|
                      .step (.ci .u64 18446744073709551615) <|
                      .step (.call 25 [28, 29] 0) <|
                      .step (.call 25 [28, 29] 1) <|
                      .step (.ci .i64 0) <|
                      .step (.mk [0, 4, 32, 30, 21]) <|
                      .ret [33, 31])
                      (.step (.ci .i64 0) <|
                      .step (.ci .u64 0) <|
                      .step (.mk [0, 4, 27, 28, 21]) <|
                      .ret [29, 27])))
                  (.step (.ci .u8 2) <|
                  .step (.bin .lss 4 19) <|
                  .ite 20
                    (.step (.at 1 1 9) <|
                    .step (.cell 0 21) <|
                    .step (.ci .u64 18446744073709551615) <|
                    .step (.call 25 [22, 23] 0) <|
                    .step (.call 25 [22, 23] 1) <|
                    .step (.ci .i64 0) <|
                    .step (.cs []) <|
                    .step (.mk [0, 4, 26, 24, 27]) <|
                    .ret [28, 25])
                    (.step (.ci .i64 0) <|
                    .step (.ci .u64 0) <|
                    .step (.cs []) <|
                    .step (.mk [0, 4, 21, 22, 23]) <|
                    .ret [24, 21]))))))
          (.step (.isi 4 3) <|
          .ite 13
            (.step (.bin .neq 9 8) <|
            .ite 14
              (.step (.ci .i64 0) <|
              .step (.ci .u64 0) <|
              .step (.cs []) <|
              .step (.ci .i64 23) <|
              .step (.mk [15, 2, 15, 16, 17]) <|
              .ret [19, 18])
              (.step (.ci .u8 3) <|
              .step (.bin .eql 4 15) <|
              .ite 16
                (.step (.at 1 1 8) <|
                .step (.cell 0 17) <|
                .step (.ci .u64 100000) <|
                .step (.call 25 [18, 19] 0) <|
                .step (.call 25 [18, 19] 1) <|
                .step (.ci .i64 0) <|
                .step (.cs []) <|
                .step (.mk [0, 4, 22, 20, 23]) <|
                .ret [24, 21])
                (.step (.ci .u8 5) <|
                .step (.bin .neq 4 17) <|
                .ite 18
                  (.step (.at 1 1 8) <|
                  .step (.cell 0 19) <|
                  .step (.ci .u64 1) <|
                  .step (.call 25 [20, 21] 0) <|
                  .step (.call 25 [20, 21] 1) <|
                  .step (.conv .i64 22) <|
                  .step (.ci .i64 0) <|
                  .step (.bin .eql 23 25) <|
                  .ite 26
                    (.step (.bin .eql 4 2) <|
                    .ite 27
                      (.step (.ci .i64 2) <|
                      .step (.at 1 1 28) <|
                      .step (.cell 0 29) <|
                      .step (.slen 30) <|
                      .step (.ci .i64 64) <|
                      .step (.bin .gtr 31 32) <|
                      .ite 33
                        (.step (.ci .u64 0) <|
                        .step (.ci .i64 13) <|
                        .step (.mk [0, 4, 24, 34, 30]) <|
                        .ret [36, 35])
                        (.step (.ci .u8 2) <|
                        .step (.bin .lss 4 34) <|
                        .ite 35
                          (.step (.at 1 1 9) <|
                          .step (.cell 0 36) <|
                          .step (.ci .u64 18446744073709551615) <|
                          .step (.call 25 [37, 38] 0) <|
                          .step (.call 25 [37, 38] 1) <|
                          .step (.mk [0, 4, 24, 39, 30]) <|
                          .ret [41, 40])
                          (.step (.ci .u64 0) <|
                          .step (.mk [0, 4, 24, 36, 30]) <|
                          .ret [37, 23])))
                      (.step (.ci .u8 2) <|
                      .step (.bin .lss 4 28) <|
                      .ite 29
                        (.step (.at 1 1 9) <|
                        .step (.cell 0 30) <|
                        .step (.ci .u64 18446744073709551615) <|
                        .step (.call 25 [31, 32] 0) <|
                        .step (.call 25 [31, 32] 1) <|
                        .step (.cs []) <|
                        .step (.mk [0, 4, 24, 33, 35]) <|
                        .ret [36, 34])
                        (.step (.ci .u64 0) <|
                        .step (.cs []) <|
                        .step (.mk [0, 4, 24, 30, 31]) <|
                        .ret [32, 23])))
                    (.step (.ci .u64 0) <|
                    .step (.cs []) <|
                    .step (.mk [0, 4, 24, 27, 28]) <|
                    .ret [29, 23]))
                  (.step (.bin .eql 4 2) <|
                  .ite 19
                    (.step (.ci .i64 2) <|
                    .step (.at 1 1 20) <|
                    .step (.cell 0 21) <|
                    .step (.slen 22) <|
                    .step (.ci .i64 64) <|
                    .step (.bin .gtr 23 24) <|
                    .ite 25
                      (.step (.ci .i64 0) <|
                      .step (.ci .u64 0) <|
                      .step (.ci .i64 13) <|
                      .step (.mk [0, 4, 26, 27, 22]) <|
                      .ret [29, 28])
                      (.step (.ci .u8 2) <|
                      .step (.bin .lss 4 26) <|
                      .ite 27
                        (.step (.at 1 1 9) <|
                        .step (.cell 0 28) <|
                        .step (.ci .u64 18446744073709551615) <|
                        .step (.call 25 [29, 30] 0) <|
                        .step (.call 25 [29, 30] 1) <|
                        .step (.ci .i64 0) <|
                        .step (.mk [0, 4, 33, 31, 22]) <|
                        .ret [34, 32])
                        (.step (.ci .i64 0) <|
                        .step (.ci .u64 0) <|
                        .step (.mk [0, 4, 28, 29, 22]) <|
                        .ret [30, 28])))
                    (.step (.ci .u8 2) <|
                    .step (.bin .lss 4 20) <|
                    .ite 21
                      (.step (.at 1 1 9) <|
                      .step (.cell 0 22) <|
                      .step (.ci .u64 18446744073709551615) <|
                      .step (.call 25 [23, 24] 0) <|
                      .step (.call 25 [23, 24] 1) <|
                      .step (.ci .i64 0) <|
                      .step (.cs []) <|
                      .step (.mk [0, 4, 27, 25, 28]) <|
                      .ret [29, 26])
                      (.step (.ci .i64 0) <|
                      .step (.ci .u64 0) <|
                      .step (.cs []) <|
                      .step (.mk [0, 4, 22, 23, 24]) <|
                      .ret [25, 22]))))))
            (.step (.isi 4 4) <|
            .ite 14
              (.step (.bin .neq 9 8) <|
              .ite 15
                (.step (.ci .i64 0) <|
                .step (.ci .u64 0) <|
                .step (.cs []) <|
                .step (.ci .i64 23) <|
                .step (.mk [16, 2, 16, 17, 18]) <|
                .ret [20, 19])
                (.step (.ci .u8 3) <|
                .step (.bin .eql 4 16) <|
                .ite 17
                  (.step (.at 1 1 8) <|
                  .step (.cell 0 18) <|
                  .step (.ci .u64 100000) <|
                  .step (.call 25 [19, 20] 0) <|
                  .step (.call 25 [19, 20] 1) <|
                  .step (.ci .i64 0) <|
                  .step (.cs []) <|
                  .step (.mk [0, 4, 23, 21, 24]) <|
                  .ret [25, 22])
                  (.step (.ci .u8 5) <|
                  .step (.bin .neq 4 18) <|
                  .ite 19
                    (.step (.at 1 1 8) <|
                    .step (.cell 0 20) <|
                    .step (.ci .u64 1) <|
                    .step (.call 25 [21, 22] 0) <|
                    .step (.call 25 [21, 22] 1) <|
                    .step (.conv .i64 23) <|
                    .step (.ci .i64 0) <|
                    .step (.bin .eql 24 26) <|
                    .ite 27
                      (.step (.bin .eql 4 2) <|
                      .ite 28
                        (.step (.ci .i64 2) <|
                        .step (.at 1 1 29) <|
                        .step (.cell 0 30) <|
                        .step (.slen 31) <|
                        .step (.ci .i64 64) <|
                        .step (.bin .gtr 32 33) <|
                        .ite 34
                          (.step (.ci .u64 0) <|
                          .step (.ci .i64 13) <|
                          .step (.mk [0, 4, 25, 35, 31]) <|
                          .ret [37, 36])
                          (.step (.ci .u8 2) <|
                          .step (.bin .lss 4 35) <|
                          .ite 36
                            (.step (.at 1 1 9) <|
                            .step (.cell 0 37) <|
                            .step (.ci .u64 18446744073709551615) <|
                            .step (.call 25 [38, 39] 0) <|
                            .step (.call 25 [38, 39] 1) <|
                            .step (.mk [0, 4, 25, 40, 31]) <|
                            .ret [42, 41])
                            (.step (.ci .u64 0) <|
                            .step (.mk [0, 4, 25, 37, 31]) <|
                            .ret [38, 24])))
                        (.step (.ci .u8 2) <|
                        .step (.bin .lss 4 29) <|
                        .ite 30
                          (.step (.at 1 1 9) <|
                          .step (.cell 0 31) <|
                          .step (.ci .u64 18446744073709551615) <|
                          .step (.call 25 [32, 33] 0) <|
                          .step (.call 25 [32, 33] 1) <|
                          .step (.cs []) <|
                          .step (.mk [0, 4, 25, 34, 36]) <|
                          .ret [37, 35])
                          (.step (.ci .u64 0) <|
                          .step (.cs []) <|
                          .step (.mk [0, 4, 25, 31, 32]) <|
                          .ret [33, 24])))
                      (.step (.ci .u64 0) <|
                      .step (.cs []) <|
                      .step (.mk [0, 4, 25, 28, 29]) <|
                      .ret [30, 24]))
                    (.step (.bin .eql 4 2) <|
                    .ite 20
                      (.step (.ci .i64 2) <|
                      .step (.at 1 1 21) <|
                      .step (.cell 0 22) <|
                      .step (.slen 23) <|
                      .step (.ci .i64 64) <|
                      .step (.bin .gtr 24 25) <|
                      .ite 26
                        (.step (.ci .i64 0) <|
                        .step (.ci .u64 0) <|
                        .step (.ci .i64 13) <|
                        .step (.mk [0, 4, 27, 28, 23]) <|
                        .ret [30, 29])
                        (.step (.ci .u8 2) <|
                        .step (.bin .lss 4 27) <|
                        .ite 28
                          (.step (.at 1 1 9) <|
                          .step (.cell 0 29) <|
                          .step (.ci .u64 18446744073709551615) <|
                          .step (.call 25 [30, 31] 0) <|
                          .step (.call 25 [30, 31] 1) <|
                          .step (.ci .i64 0) <|
                          .step (.mk [0, 4, 34, 32, 23]) <|
                          .ret [35, 33])
                          (.step (.ci .i64 0) <|
                          .step (.ci .u64 0) <|
                          .step (.mk [0, 4, 29, 30, 23]) <|
                          .ret [31, 29])))
                      (.step (.ci .u8 2) <|
                      .step (.bin .lss 4 21) <|
                      .ite 22
                        (.step (.at 1 1 9) <|
                        .step (.cell 0 23) <|
                        .step (.ci .u64 18446744073709551615) <|
                        .step (.call 25 [24, 25] 0) <|
                        .step (.call 25 [24, 25] 1) <|
                        .step (.ci .i64 0) <|
                        .step (.cs []) <|
                        .step (.mk [0, 4, 28, 26, 29]) <|
                        .ret [30, 27])
                        (.step (.ci .i64 0) <|
                        .step (.ci .u64 0) <|
                        .step (.cs []) <|
                        .step (.mk [0, 4, 23, 24, 25]) <|
                        .ret [26, 23]))))))
              (.step (.isi 4 5) <|
              .ite 15
                (.step (.ci .i64 0) <|
                .step (.bin .neq 9 16) <|
                .ite 17
                  (.step (.ci .u64 0) <|
                  .step (.cs []) <|
                  .step (.ci .i64 23) <|
                  .step (.mk [16, 2, 16, 18, 19]) <|
                  .ret [21, 20])
                  (.step (.ci .u8 3) <|
                  .step (.bin .eql 4 18) <|
                  .ite 19
                    (.step (.at 1 1 8) <|
                    .step (.cell 0 20) <|
                    .step (.ci .u64 100000) <|
                    .step (.call 25 [21, 22] 0) <|
                    .step (.call 25 [21, 22] 1) <|
                    .step (.cs []) <|
                    .step (.mk [0, 4, 16, 23, 25]) <|
                    .ret [26, 24])
                    (.step (.ci .u8 5) <|
                    .step (.bin .neq 4 20) <|
                    .ite 21
                      (.step (.at 1 1 8) <|
                      .step (.cell 0 22) <|
                      .step (.ci .u64 1) <|
                      .step (.call 25 [23, 24] 0) <|
                      .step (.call 25 [23, 24] 1) <|
                      .step (.conv .i64 25) <|
                      .step (.bin .eql 26 16) <|
                      .ite 28
                        (.step (.bin .eql 4 2) <|
                        .ite 29
                          (.step (.ci .i64 2) <|
                          .step (.at 1 1 30) <|
                          .step (.cell 0 31) <|
                          .step (.slen 32) <|
                          .step (.ci .i64 64) <|
                          .step (.bin .gtr 33 34) <|
                          .ite 35
                            (.step (.ci .u64 0) <|
                            .step (.ci .i64 13) <|
                            .step (.mk [0, 4, 27, 36, 32]) <|
                            .ret [38, 37])
                            (.step (.ci .u8 2) <|
                            .step (.bin .lss 4 36) <|
                            .ite 37
                              (.step (.at 1 1 9) <|
                              .step (.cell 0 38) <|
                              .step (.ci .u64 18446744073709551615) <|
                              .step (.call 25 [39, 40] 0) <|
                              .step (.call 25 [39, 40] 1) <|
                              .step (.mk [0, 4, 27, 41, 32]) <|
                              .ret [43, 42])
                              (.step (.ci .u64 0) <|
                              .step (.mk [0, 4, 27, 38, 32]) <|
                              .ret [39, 26])))
                          (.step (.ci .u8 2) <|
                          .step (.bin .lss 4 30) <|
                          .ite 31
                            (.step (.at 1 1 9) <|
                            .step (.cell 0 32) <|
                            .step (.ci .u64 18446744073709551615) <|
                            .step (.call 25 [33, 34] 0) <|
                            .step (.call 25 [33, 34] 1) <|
                            .step (.cs []) <|
                            .step (.mk [0, 4, 27, 35, 37]) <|
                            .ret [38, 36])
                            (.step (.ci .u64 0) <|
                            .step (.cs []) <|
                            .step (.mk [0, 4, 27, 32, 33]) <|
                            .ret [34, 26])))
                        (.step (.ci .u64 0) <|
                        .step (.cs []) <|
                        .step (.mk [0, 4, 27, 29, 30]) <|
                        .ret [31, 26]))
                      (.step (.bin .eql 4 2) <|
                      .ite 22
                        (.step (.ci .i64 2) <|
                        .step (.at 1 1 23) <|
                        .step (.cell 0 24) <|
                        .step (.slen 25) <|
                        .step (.ci .i64 64) <|
                        .step (.bin .gtr 26 27) <|
                        .ite 28
                          (.step (.ci .u64 0) <|
                          .step (.ci .i64 13) <|
                          .step (.mk [0, 4, 16, 29, 25]) <|
                          .ret [31, 30])
                          (.step (.ci .u8 2) <|
                          .step (.bin .lss 4 29) <|
                          .ite 30
                            (.step (.at 1 1 9) <|
                            .step (.cell 0 31) <|
                            .step (.ci .u64 18446744073709551615) <|
                            .step (.call 25 [32, 33] 0) <|
                            .step (.call 25 [32, 33] 1) <|
                            .step (.mk [0, 4, 16, 34, 25]) <|
                            .ret [36, 35])
                            (.step (.ci .u64 0) <|
                            .step (.mk [0, 4, 16, 31, 25]) <|
                            .ret [32, 16])))
                        (.step (.ci .u8 2) <|
                        .step (.bin .lss 4 23) <|
                        .ite 24
                          (.step (.at 1 1 9) <|
                          .step (.cell 0 25) <|
                          .step (.ci .u64 18446744073709551615) <|
                          .step (.call 25 [26, 27] 0) <|
                          .step (.call 25 [26, 27] 1) <|
                          .step (.cs []) <|
                          .step (.mk [0, 4, 16, 28, 30]) <|
                          .ret [31, 29])
                          (.step (.ci .u64 0) <|
                          .step (.cs []) <|
                          .step (.mk [0, 4, 16, 25, 26]) <|
                          .ret [27, 16]))))))
                (.dead)))))))
/-- postmark/postmarklaw28.Of, function 8, plain functions []. -/
def d31 : PDef := .fn [.ag 7] [.ag 7] <|
  .step (.cell 0 0) <|
  .step (.cell 1 0) <|
  .step (.cell 2 0) <|
  .step (.cell 3 0) <|
  .step (.cell 4 0) <|
  .step (.cell 5 0) <|
  .step (.cell 6 0) <|
  .step (.call 32 [5] 0) <|
  .step (.call 32 [6] 0) <|
  .step (.len 7) <|
  .step (.ci .i64 0) <|
  .step (.ml []) <|
  .step (.call 34 [7, 10, 11, 1, 2, 3, 4, 8, 9, 12] 0) <|
  .step (.call 34 [7, 10, 11, 1, 2, 3, 4, 8, 9, 12] 1) <|
  .step (.mk [1, 2, 3, 4, 8, 9, 14]) <|
  .ret [15]
/-- strconv.FormatUint is told. -/
abbrev d41 : PDef := .prim fmtUP
/-- postmark/script.numbers, function 28, plain functions []. -/
def d6 : PDef := .fn [.sc, .sc] [.sc, .sc] <|
  .step (.len 1) <|
  .step (.ci .i64 0) <|
  .step (.ml []) <|
  .step (.call 7 [0, 4, 1, 2, 3] 0) <|
  .step (.bin .eql 5 3) <|
  .ite 6
    (.step (.call 7 [0, 4, 1, 2, 3] 1) <|
    .ret [4, 7])
    (.step (.call 7 [0, 4, 1, 2, 3] 1) <|
    .ret [7, 3])
/-- postmark/script.command, function 27, plain functions []. -/
def d11 : PDef := .fn [.sc] [.ag 5, .sc] <|
  .step (.ci .i64 0) <|
  .step (.at 1 0 1) <|
  .step (.cell 0 2) <|
  .step (.cs [97, 100, 100]) <|
  .step (.bin .eql 3 4) <|
  .ite 5
    (.step (.len 0) <|
    .step (.ci .i64 4) <|
    .step (.bin .eql 6 7) <|
    .ite 8
      (.step (.call 12 [0] 0) <|
      .step (.cell 0 9) <|
      .step (.cell 1 9) <|
      .step (.cell 2 9) <|
      .step (.cell 3 9) <|
      .step (.cell 4 9) <|
      .step (.call 12 [0] 1) <|
      .step (.mk [10, 11, 12, 13, 14]) <|
      .ret [16, 15])
      (.step (.cs [112, 117, 98, 108, 105, 115, 104]) <|
      .step (.bin .eql 3 9) <|
      .step (.cs [112, 111, 108, 108]) <|
      .step (.bin .eql 3 11) <|
      .step (.cs [115, 116, 101, 112]) <|
      .step (.bin .eql 3 13) <|
      .step (.cs [97, 108, 108]) <|
      .step (.bin .eql 3 15) <|
      .step (.cs [115, 104, 111, 119]) <|
      .step (.bin .eql 3 17) <|
      .step (.ci .u8 0) <|
      .step (.ci .u64 0) <|
      .step (.cs []) <|
      .step (.ci .i64 23) <|
      .step (.mk [1, 19, 1, 20, 21]) <|
      .ret [23, 22]))
    (.step (.cs [112, 117, 98, 108, 105, 115, 104]) <|
    .step (.bin .eql 3 6) <|
    .ite 7
      (.step (.len 0) <|
      .step (.ci .i64 3) <|
      .step (.bin .eql 8 9) <|
      .ite 10
        (.step (.ci .i64 1) <|
        .step (.lsub 1 0 11 8) <|
        .step (.ci .u64 1) <|
        .step (.ci .u64 18446744073709551615) <|
        .step (.ml [13, 14]) <|
        .step (.call 6 [12, 15] 0) <|
        .step (.call 6 [12, 15] 1) <|
        .step (.bin .eql 17 1) <|
        .ite 18
          (.step (.at 1 16 1) <|
          .step (.cell 0 19) <|
          .step (.conv .i64 20) <|
          .step (.at 1 16 11) <|
          .step (.cell 0 22) <|
          .step (.bin .neq 17 1) <|
          .step (.ci .u8 1) <|
          .step (.cs []) <|
          .step (.mk [1, 25, 21, 23, 26]) <|
          .ret [27, 1])
          (.step (.bin .neq 17 1) <|
          .step (.ci .u8 0) <|
          .step (.ci .u64 0) <|
          .step (.cs []) <|
          .step (.mk [1, 20, 1, 21, 22]) <|
          .ret [23, 17]))
        (.step (.cs [112, 111, 108, 108]) <|
        .step (.bin .eql 3 11) <|
        .step (.cs [115, 116, 101, 112]) <|
        .step (.bin .eql 3 13) <|
        .step (.cs [97, 108, 108]) <|
        .step (.bin .eql 3 15) <|
        .step (.cs [115, 104, 111, 119]) <|
        .step (.bin .eql 3 17) <|
        .step (.ci .u8 0) <|
        .step (.ci .u64 0) <|
        .step (.cs []) <|
        .step (.ci .i64 23) <|
        .step (.mk [1, 19, 1, 20, 21]) <|
        .ret [23, 22]))
      (.step (.cs [112, 111, 108, 108]) <|
      .step (.bin .eql 3 8) <|
      .ite 9
        (.step (.len 0) <|
        .step (.ci .i64 2) <|
        .step (.bin .eql 10 11) <|
        .ite 12
          (.step (.ci .i64 1) <|
          .step (.lsub 1 0 13 10) <|
          .step (.ci .u64 1) <|
          .step (.ml [15]) <|
          .step (.call 6 [14, 16] 0) <|
          .step (.call 6 [14, 16] 1) <|
          .step (.bin .eql 18 1) <|
          .ite 19
            (.step (.at 1 17 1) <|
            .step (.cell 0 20) <|
            .step (.conv .i64 21) <|
            .step (.bin .neq 18 1) <|
            .step (.ci .u8 2) <|
            .step (.ci .u64 0) <|
            .step (.cs []) <|
            .step (.mk [1, 24, 22, 25, 26]) <|
            .ret [27, 1])
            (.step (.bin .neq 18 1) <|
            .step (.ci .u8 0) <|
            .step (.ci .u64 0) <|
            .step (.cs []) <|
            .step (.mk [1, 21, 1, 22, 23]) <|
            .ret [24, 18]))
          (.step (.cs [115, 116, 101, 112]) <|
          .step (.bin .eql 3 13) <|
          .step (.cs [97, 108, 108]) <|
          .step (.bin .eql 3 15) <|
          .step (.cs [115, 104, 111, 119]) <|
          .step (.bin .eql 3 17) <|
          .step (.ci .u8 0) <|
          .step (.ci .u64 0) <|
          .step (.cs []) <|
          .step (.ci .i64 23) <|
          .step (.mk [1, 19, 1, 20, 21]) <|
          .ret [23, 22]))
        (.step (.cs [115, 116, 101, 112]) <|
        .step (.bin .eql 3 10) <|
        .ite 11
          (.step (.len 0) <|
          .step (.ci .i64 2) <|
          .step (.bin .eql 12 13) <|
          .ite 14
            (.step (.ci .i64 1) <|
            .step (.lsub 1 0 15 12) <|
            .step (.ci .u64 100000) <|
            .step (.ml [17]) <|
            .step (.call 6 [16, 18] 0) <|
            .step (.call 6 [16, 18] 1) <|
            .step (.bin .eql 20 1) <|
            .ite 21
              (.step (.at 1 19 1) <|
              .step (.cell 0 22) <|
              .step (.bin .neq 20 1) <|
              .step (.ci .u8 3) <|
              .step (.cs []) <|
              .step (.mk [1, 25, 1, 23, 26]) <|
              .ret [27, 1])
              (.step (.bin .neq 20 1) <|
              .step (.ci .u8 0) <|
              .step (.ci .u64 0) <|
              .step (.cs []) <|
              .step (.mk [1, 23, 1, 24, 25]) <|
              .ret [26, 20]))
            (.step (.cs [97, 108, 108]) <|
            .step (.bin .eql 3 15) <|
            .step (.cs [115, 104, 111, 119]) <|
            .step (.bin .eql 3 17) <|
            .step (.ci .u8 0) <|
            .step (.ci .u64 0) <|
            .step (.cs []) <|
            .step (.ci .i64 23) <|
            .step (.mk [1, 19, 1, 20, 21]) <|
            .ret [23, 22]))
          (.step (.cs [97, 108, 108]) <|
          .step (.bin .eql 3 12) <|
          .ite 13
            (.step (.len 0) <|
            .step (.ci .i64 1) <|
            .step (.bin .eql 14 15) <|
            .ite 16
              (.step (.ci .u8 5) <|
              .step (.ci .u64 0) <|
              .step (.cs []) <|
              .step (.mk [1, 17, 1, 18, 19]) <|
              .ret [20, 1])
              (.step (.cs [115, 104, 111, 119]) <|
              .step (.bin .eql 3 17) <|
              .step (.ci .u8 0) <|
              .step (.ci .u64 0) <|
              .step (.cs []) <|
              .step (.ci .i64 23) <|
              .step (.mk [1, 19, 1, 20, 21]) <|
              .ret [23, 22]))
            (.step (.cs [115, 104, 111, 119]) <|
            .step (.bin .eql 3 14) <|
            .ite 15
              (.step (.len 0) <|
              .step (.ci .i64 2) <|
              .step (.bin .eql 16 17) <|
              .ite 18
                (.step (.ci .i64 1) <|
                .step (.lsub 1 0 19 16) <|
                .step (.ci .u64 1) <|
                .step (.ml [21]) <|
                .step (.call 6 [20, 22] 0) <|
                .step (.call 6 [20, 22] 1) <|
                .step (.bin .eql 24 1) <|
                .ite 25
                  (.step (.at 1 23 1) <|
                  .step (.cell 0 26) <|
                  .step (.conv .i64 27) <|
                  .step (.bin .neq 24 1) <|
                  .step (.ci .u8 4) <|
                  .step (.ci .u64 0) <|
                  .step (.cs []) <|
                  .step (.mk [1, 30, 28, 31, 32]) <|
                  .ret [33, 1])
                  (.step (.bin .neq 24 1) <|
                  .step (.ci .u8 0) <|
                  .step (.ci .u64 0) <|
                  .step (.cs []) <|
                  .step (.mk [1, 27, 1, 28, 29]) <|
                  .ret [30, 24]))
                (.step (.ci .u8 0) <|
                .step (.ci .u64 0) <|
                .step (.cs []) <|
                .step (.ci .i64 23) <|
                .step (.mk [1, 19, 1, 20, 21]) <|
                .ret [23, 22]))
              (.step (.ci .u8 0) <|
              .step (.ci .u64 0) <|
              .step (.cs []) <|
              .step (.ci .i64 23) <|
              .step (.mk [1, 16, 1, 17, 18]) <|
              .ret [20, 19]))))))
/-- postmark/postmarkref28.Parse, function 6, plain functions []. -/
def d17 : PDef := .fn [.sc] [.ag 7, .sc, .sc] <|
  .step (.slen 0) <|
  .step (.ci .i64 65536) <|
  .step (.bin .gtr 1 2) <|
  .ite 3
    (.step (.ci .u64 0) <|
    .step (.ml []) <|
    .step (.ci .i64 0) <|
    .step (.ci .i64 4) <|
    .step (.mk [4, 4, 4, 4, 5, 5, 5]) <|
    .ret [8, 6, 7])
    (.step (.ci .u8 10) <|
    .step (.call 18 [0, 4] 0) <|
    .step (.len 5) <|
    .step (.cb false) <|
    .step (.ci .i64 0) <|
    .step (.ci .u64 0) <|
    .step (.ml []) <|
    .step (.call 20 [7, 5, 6, 8, 9, 9, 9, 9, 10, 10, 10] 0) <|
    .step (.bin .eql 11 8) <|
    .ite 12
      (.step (.call 20 [7, 5, 6, 8, 9, 9, 9, 9, 10, 10, 10] 1) <|
      .step (.call 20 [7, 5, 6, 8, 9, 9, 9, 9, 10, 10, 10] 2) <|
      .step (.mk [9, 9, 9, 9, 10, 10, 10]) <|
      .ret [15, 13, 14])
      (.step (.call 20 [7, 5, 6, 8, 9, 9, 9, 9, 10, 10, 10] 1) <|
      .step (.call 20 [7, 5, 6, 8, 9, 9, 9, 9, 10, 10, 10] 2) <|
      .step (.call 20 [7, 5, 6, 8, 9, 9, 9, 9, 10, 10, 10] 3) <|
      .step (.call 20 [7, 5, 6, 8, 9, 9, 9, 9, 10, 10, 10] 4) <|
      .step (.call 20 [7, 5, 6, 8, 9, 9, 9, 9, 10, 10, 10] 5) <|
      .step (.call 20 [7, 5, 6, 8, 9, 9, 9, 9, 10, 10, 10] 6) <|
      .step (.call 20 [7, 5, 6, 8, 9, 9, 9, 9, 10, 10, 10] 7) <|
      .step (.call 20 [7, 5, 6, 8, 9, 9, 9, 9, 10, 10, 10] 8) <|
      .step (.un .not 13) <|
      .ite 21
        (.step (.ci .i64 24) <|
        .step (.mk [9, 9, 9, 9, 10, 10, 10]) <|
        .ret [23, 8, 22])
        (.step (.mk [14, 15, 16, 17, 18, 19, 20]) <|
        .ret [22, 8, 8])))
/-- postmark/postmarkref28.fates, function 21, plain functions []. -/
def d36 : PDef := .fn [.sc, .sc] [.sc] <|
  .step (.len 0) <|
  .step (.len 1) <|
  .step (.bin .neq 2 3) <|
  .ite 4
    (.step (.cb false) <|
    .ret [5])
    (.step (.ci .i64 0) <|
    .step (.call 37 [0, 1, 2, 5] 0) <|
    .step (.bin .eql 6 5) <|
    .ite 7
      (.step (.cb false) <|
      .ret [8])
      (.step (.cb true) <|
      .ret [8]))
/-- postmark/postmarklaw22.Fates, function 23, plain functions []. -/
def d32 : PDef := .fn [.sc] [.sc] <|
  .step (.len 0) <|
  .step (.ci .i64 0) <|
  .step (.ml []) <|
  .step (.call 33 [3, 0, 1, 2] 0) <|
  .step (.call 33 [3, 0, 1, 2] 1) <|
  .ret [5]
/-- postmark/postmarkref28.Line, function 22, plain functions []. -/
def d39 : PDef := .fn [.ag 5] [.sc, .sc] <|
  .step (.cell 0 0) <|
  .step (.cell 1 0) <|
  .step (.cell 2 0) <|
  .step (.cell 3 0) <|
  .step (.cell 4 0) <|
  .step (.ci .u8 5) <|
  .step (.bin .gtr 2 6) <|
  .ite 7
    (.step (.cs []) <|
    .step (.ci .i64 23) <|
    .ret [8, 9])
    (.step (.isi 2 0) <|
    .ite 8
      (.step (.bin .eql 2 6) <|
      .ite 9
        (.step (.cs [97, 100, 100, 10]) <|
        .step (.ci .i64 0) <|
        .ret [10, 11])
        (.step (.ci .u8 3) <|
        .step (.bin .eql 2 10) <|
        .ite 11
          (.step (.ci .u64 100000) <|
          .step (.bin .gtr 4 12) <|
          .ite 13
            (.step (.cs []) <|
            .step (.ci .i64 18) <|
            .ret [14, 15])
            (.step (.call 40 [4] 0) <|
            .step (.cs [97, 100, 100, 32]) <|
            .step (.bin .add 15 14) <|
            .step (.cs [10]) <|
            .step (.bin .add 16 17) <|
            .step (.ci .i64 0) <|
            .ret [18, 19]))
          (.step (.ci .i64 0) <|
          .step (.bin .lss 3 12) <|
          .ite 13
            (.step (.cs []) <|
            .step (.ci .i64 18) <|
            .ret [14, 15])
            (.step (.ci .i64 1) <|
            .step (.bin .gtr 3 14) <|
            .ite 15
              (.step (.cs []) <|
              .step (.ci .i64 18) <|
              .ret [16, 17])
              (.step (.call 42 [3] 0) <|
              .step (.cs [97, 100, 100, 32]) <|
              .step (.bin .add 17 16) <|
              .step (.ci .u8 0) <|
              .step (.bin .eql 2 19) <|
              .ite 20
                (.step (.cs []) <|
                .step (.bin .eql 5 21) <|
                .ite 22
                  (.step (.ci .i64 23) <|
                  .ret [21, 23])
                  (.step (.ci .u8 32) <|
                  .step (.call 18 [5, 23] 0) <|
                  .step (.len 24) <|
                  .step (.bin .gtr 25 14) <|
                  .ite 26
                    (.step (.ci .i64 23) <|
                    .ret [21, 27])
                    (.step (.ci .u8 10) <|
                    .step (.call 18 [5, 27] 0) <|
                    .step (.len 28) <|
                    .step (.bin .gtr 29 14) <|
                    .ite 30
                      (.step (.ci .i64 23) <|
                      .ret [21, 31])
                      (.step (.slen 5) <|
                      .step (.ci .i64 64) <|
                      .step (.bin .gtr 31 32) <|
                      .ite 33
                        (.step (.ci .i64 13) <|
                        .ret [21, 34])
                        (.step (.cs [32]) <|
                        .step (.bin .add 18 34) <|
                        .step (.bin .add 35 5) <|
                        .step (.ci .u8 2) <|
                        .step (.bin .lss 2 37) <|
                        .ite 38
                          (.step (.bin .add 36 34) <|
                          .step (.call 40 [4] 0) <|
                          .step (.bin .add 39 40) <|
                          .step (.cs [10]) <|
                          .step (.bin .add 41 42) <|
                          .ret [43, 12])
                          (.step (.cs [10]) <|
                          .step (.bin .add 36 39) <|
                          .ret [40, 12]))))))
                (.step (.ci .u8 2) <|
                .step (.bin .lss 2 21) <|
                .ite 22
                  (.step (.cs [32]) <|
                  .step (.bin .add 18 23) <|
                  .step (.call 40 [4] 0) <|
                  .step (.bin .add 24 25) <|
                  .step (.cs [10]) <|
                  .step (.bin .add 26 27) <|
                  .ret [28, 12])
                  (.step (.cs [10]) <|
                  .step (.bin .add 18 23) <|
                  .ret [24, 12])))))))
      (.step (.isi 2 1) <|
      .ite 9
        (.step (.bin .eql 2 6) <|
        .ite 10
          (.step (.cs [112, 117, 98, 108, 105, 115, 104, 10]) <|
          .step (.ci .i64 0) <|
          .ret [11, 12])
          (.step (.ci .u8 3) <|
          .step (.bin .eql 2 11) <|
          .ite 12
            (.step (.ci .u64 100000) <|
            .step (.bin .gtr 4 13) <|
            .ite 14
              (.step (.cs []) <|
              .step (.ci .i64 18) <|
              .ret [15, 16])
              (.step (.call 40 [4] 0) <|
              .step (.cs [112, 117, 98, 108, 105, 115, 104, 32]) <|
              .step (.bin .add 16 15) <|
              .step (.cs [10]) <|
              .step (.bin .add 17 18) <|
              .step (.ci .i64 0) <|
              .ret [19, 20]))
            (.step (.ci .i64 0) <|
            .step (.bin .lss 3 13) <|
            .ite 14
              (.step (.cs []) <|
              .step (.ci .i64 18) <|
              .ret [15, 16])
              (.step (.ci .i64 1) <|
              .step (.bin .gtr 3 15) <|
              .ite 16
                (.step (.cs []) <|
                .step (.ci .i64 18) <|
                .ret [17, 18])
                (.step (.call 42 [3] 0) <|
                .step (.cs [112, 117, 98, 108, 105, 115, 104, 32]) <|
                .step (.bin .add 18 17) <|
                .step (.ci .u8 0) <|
                .step (.bin .eql 2 20) <|
                .ite 21
                  (.step (.cs []) <|
                  .step (.bin .eql 5 22) <|
                  .ite 23
                    (.step (.ci .i64 23) <|
                    .ret [22, 24])
                    (.step (.ci .u8 32) <|
                    .step (.call 18 [5, 24] 0) <|
                    .step (.len 25) <|
                    .step (.bin .gtr 26 15) <|
                    .ite 27
                      (.step (.ci .i64 23) <|
                      .ret [22, 28])
                      (.step (.ci .u8 10) <|
                      .step (.call 18 [5, 28] 0) <|
                      .step (.len 29) <|
                      .step (.bin .gtr 30 15) <|
                      .ite 31
                        (.step (.ci .i64 23) <|
                        .ret [22, 32])
                        (.step (.slen 5) <|
                        .step (.ci .i64 64) <|
                        .step (.bin .gtr 32 33) <|
                        .ite 34
                          (.step (.ci .i64 13) <|
                          .ret [22, 35])
                          (.step (.cs [32]) <|
                          .step (.bin .add 19 35) <|
                          .step (.bin .add 36 5) <|
                          .step (.ci .u8 2) <|
                          .step (.bin .lss 2 38) <|
                          .ite 39
                            (.step (.bin .add 37 35) <|
                            .step (.call 40 [4] 0) <|
                            .step (.bin .add 40 41) <|
                            .step (.cs [10]) <|
                            .step (.bin .add 42 43) <|
                            .ret [44, 13])
                            (.step (.cs [10]) <|
                            .step (.bin .add 37 40) <|
                            .ret [41, 13]))))))
                  (.step (.ci .u8 2) <|
                  .step (.bin .lss 2 22) <|
                  .ite 23
                    (.step (.cs [32]) <|
                    .step (.bin .add 19 24) <|
                    .step (.call 40 [4] 0) <|
                    .step (.bin .add 25 26) <|
                    .step (.cs [10]) <|
                    .step (.bin .add 27 28) <|
                    .ret [29, 13])
                    (.step (.cs [10]) <|
                    .step (.bin .add 19 24) <|
                    .ret [25, 13])))))))
        (.step (.isi 2 2) <|
        .ite 10
          (.step (.bin .eql 2 6) <|
          .ite 11
            (.step (.cs [112, 111, 108, 108, 10]) <|
            .step (.ci .i64 0) <|
            .ret [12, 13])
            (.step (.ci .u8 3) <|
            .step (.bin .eql 2 12) <|
            .ite 13
              (.step (.ci .u64 100000) <|
              .step (.bin .gtr 4 14) <|
              .ite 15
                (.step (.cs []) <|
                .step (.ci .i64 18) <|
                .ret [16, 17])
                (.step (.call 40 [4] 0) <|
                .step (.cs [112, 111, 108, 108, 32]) <|
                .step (.bin .add 17 16) <|
                .step (.cs [10]) <|
                .step (.bin .add 18 19) <|
                .step (.ci .i64 0) <|
                .ret [20, 21]))
              (.step (.ci .i64 0) <|
              .step (.bin .lss 3 14) <|
              .ite 15
                (.step (.cs []) <|
                .step (.ci .i64 18) <|
                .ret [16, 17])
                (.step (.ci .i64 1) <|
                .step (.bin .gtr 3 16) <|
                .ite 17
                  (.step (.cs []) <|
                  .step (.ci .i64 18) <|
                  .ret [18, 19])
                  (.step (.call 42 [3] 0) <|
                  .step (.cs [112, 111, 108, 108, 32]) <|
                  .step (.bin .add 19 18) <|
                  .step (.ci .u8 0) <|
                  .step (.bin .eql 2 21) <|
                  .ite 22
                    (.step (.cs []) <|
                    .step (.bin .eql 5 23) <|
                    .ite 24
                      (.step (.ci .i64 23) <|
                      .ret [23, 25])
                      (.step (.ci .u8 32) <|
                      .step (.call 18 [5, 25] 0) <|
                      .step (.len 26) <|
                      .step (.bin .gtr 27 16) <|
                      .ite 28
                        (.step (.ci .i64 23) <|
                        .ret [23, 29])
                        (.step (.ci .u8 10) <|
                        .step (.call 18 [5, 29] 0) <|
                        .step (.len 30) <|
                        .step (.bin .gtr 31 16) <|
                        .ite 32
                          (.step (.ci .i64 23) <|
                          .ret [23, 33])
                          (.step (.slen 5) <|
                          .step (.ci .i64 64) <|
                          .step (.bin .gtr 33 34) <|
                          .ite 35
                            (.step (.ci .i64 13) <|
                            .ret [23, 36])
                            (.step (.cs [32]) <|
                            .step (.bin .add 20 36) <|
                            .step (.bin .add 37 5) <|
                            .step (.ci .u8 2) <|
                            .step (.bin .lss 2 39) <|
                            .ite 40
                              (.step (.bin .add 38 36) <|
                              .step (.call 40 [4] 0) <|
                              .step (.bin .add 41 42) <|
                              .step (.cs [10]) <|
                              .step (.bin .add 43 44) <|
                              .ret [45, 14])
                              (.step (.cs [10]) <|
                              .step (.bin .add 38 41) <|
                              .ret [42, 14]))))))
                    (.step (.ci .u8 2) <|
                    .step (.bin .lss 2 23) <|
                    .ite 24
                      (.step (.cs [32]) <|
                      .step (.bin .add 20 25) <|
                      .step (.call 40 [4] 0) <|
                      .step (.bin .add 26 27) <|
                      .step (.cs [10]) <|
                      .step (.bin .add 28 29) <|
                      .ret [30, 14])
                      (.step (.cs [10]) <|
                      .step (.bin .add 20 25) <|
                      .ret [26, 14])))))))
          (.step (.isi 2 3) <|
          .ite 11
            (.step (.bin .eql 2 6) <|
            .ite 12
              (.step (.cs [115, 116, 101, 112, 10]) <|
              .step (.ci .i64 0) <|
              .ret [13, 14])
              (.step (.ci .u8 3) <|
              .step (.bin .eql 2 13) <|
              .ite 14
                (.step (.ci .u64 100000) <|
                .step (.bin .gtr 4 15) <|
                .ite 16
                  (.step (.cs []) <|
                  .step (.ci .i64 18) <|
                  .ret [17, 18])
                  (.step (.call 40 [4] 0) <|
                  .step (.cs [115, 116, 101, 112, 32]) <|
                  .step (.bin .add 18 17) <|
                  .step (.cs [10]) <|
                  .step (.bin .add 19 20) <|
                  .step (.ci .i64 0) <|
                  .ret [21, 22]))
                (.step (.ci .i64 0) <|
                .step (.bin .lss 3 15) <|
                .ite 16
                  (.step (.cs []) <|
                  .step (.ci .i64 18) <|
                  .ret [17, 18])
                  (.step (.ci .i64 1) <|
                  .step (.bin .gtr 3 17) <|
                  .ite 18
                    (.step (.cs []) <|
                    .step (.ci .i64 18) <|
                    .ret [19, 20])
                    (.step (.call 42 [3] 0) <|
                    .step (.cs [115, 116, 101, 112, 32]) <|
                    .step (.bin .add 20 19) <|
                    .step (.ci .u8 0) <|
                    .step (.bin .eql 2 22) <|
                    .ite 23
                      (.step (.cs []) <|
                      .step (.bin .eql 5 24) <|
                      .ite 25
                        (.step (.ci .i64 23) <|
                        .ret [24, 26])
                        (.step (.ci .u8 32) <|
                        .step (.call 18 [5, 26] 0) <|
                        .step (.len 27) <|
                        .step (.bin .gtr 28 17) <|
                        .ite 29
                          (.step (.ci .i64 23) <|
                          .ret [24, 30])
                          (.step (.ci .u8 10) <|
                          .step (.call 18 [5, 30] 0) <|
                          .step (.len 31) <|
                          .step (.bin .gtr 32 17) <|
                          .ite 33
                            (.step (.ci .i64 23) <|
                            .ret [24, 34])
                            (.step (.slen 5) <|
                            .step (.ci .i64 64) <|
                            .step (.bin .gtr 34 35) <|
                            .ite 36
                              (.step (.ci .i64 13) <|
                              .ret [24, 37])
                              (.step (.cs [32]) <|
                              .step (.bin .add 21 37) <|
                              .step (.bin .add 38 5) <|
                              .step (.ci .u8 2) <|
                              .step (.bin .lss 2 40) <|
                              .ite 41
                                (.step (.bin .add 39 37) <|
                                .step (.call 40 [4] 0) <|
                                .step (.bin .add 42 43) <|
                                .step (.cs [10]) <|
                                .step (.bin .add 44 45) <|
                                .ret [46, 15])
                                (.step (.cs [10]) <|
                                .step (.bin .add 39 42) <|
                                .ret [43, 15]))))))
                      (.step (.ci .u8 2) <|
                      .step (.bin .lss 2 24) <|
                      .ite 25
                        (.step (.cs [32]) <|
                        .step (.bin .add 21 26) <|
                        .step (.call 40 [4] 0) <|
                        .step (.bin .add 27 28) <|
                        .step (.cs [10]) <|
                        .step (.bin .add 29 30) <|
                        .ret [31, 15])
                        (.step (.cs [10]) <|
                        .step (.bin .add 21 26) <|
                        .ret [27, 15])))))))
            (.step (.isi 2 4) <|
            .ite 12
              (.step (.bin .eql 2 6) <|
              .ite 13
                (.step (.cs [115, 104, 111, 119, 10]) <|
                .step (.ci .i64 0) <|
                .ret [14, 15])
                (.step (.ci .u8 3) <|
                .step (.bin .eql 2 14) <|
                .ite 15
                  (.step (.ci .u64 100000) <|
                  .step (.bin .gtr 4 16) <|
                  .ite 17
                    (.step (.cs []) <|
                    .step (.ci .i64 18) <|
                    .ret [18, 19])
                    (.step (.call 40 [4] 0) <|
                    .step (.cs [115, 104, 111, 119, 32]) <|
                    .step (.bin .add 19 18) <|
                    .step (.cs [10]) <|
                    .step (.bin .add 20 21) <|
                    .step (.ci .i64 0) <|
                    .ret [22, 23]))
                  (.step (.ci .i64 0) <|
                  .step (.bin .lss 3 16) <|
                  .ite 17
                    (.step (.cs []) <|
                    .step (.ci .i64 18) <|
                    .ret [18, 19])
                    (.step (.ci .i64 1) <|
                    .step (.bin .gtr 3 18) <|
                    .ite 19
                      (.step (.cs []) <|
                      .step (.ci .i64 18) <|
                      .ret [20, 21])
                      (.step (.call 42 [3] 0) <|
                      .step (.cs [115, 104, 111, 119, 32]) <|
                      .step (.bin .add 21 20) <|
                      .step (.ci .u8 0) <|
                      .step (.bin .eql 2 23) <|
                      .ite 24
                        (.step (.cs []) <|
                        .step (.bin .eql 5 25) <|
                        .ite 26
                          (.step (.ci .i64 23) <|
                          .ret [25, 27])
                          (.step (.ci .u8 32) <|
                          .step (.call 18 [5, 27] 0) <|
                          .step (.len 28) <|
                          .step (.bin .gtr 29 18) <|
                          .ite 30
                            (.step (.ci .i64 23) <|
                            .ret [25, 31])
                            (.step (.ci .u8 10) <|
                            .step (.call 18 [5, 31] 0) <|
                            .step (.len 32) <|
                            .step (.bin .gtr 33 18) <|
                            .ite 34
                              (.step (.ci .i64 23) <|
                              .ret [25, 35])
                              (.step (.slen 5) <|
                              .step (.ci .i64 64) <|
                              .step (.bin .gtr 35 36) <|
                              .ite 37
                                (.step (.ci .i64 13) <|
                                .ret [25, 38])
                                (.step (.cs [32]) <|
                                .step (.bin .add 22 38) <|
                                .step (.bin .add 39 5) <|
                                .step (.ci .u8 2) <|
                                .step (.bin .lss 2 41) <|
                                .ite 42
                                  (.step (.bin .add 40 38) <|
                                  .step (.call 40 [4] 0) <|
                                  .step (.bin .add 43 44) <|
                                  .step (.cs [10]) <|
                                  .step (.bin .add 45 46) <|
                                  .ret [47, 16])
                                  (.step (.cs [10]) <|
                                  .step (.bin .add 40 43) <|
                                  .ret [44, 16]))))))
                        (.step (.ci .u8 2) <|
                        .step (.bin .lss 2 25) <|
                        .ite 26
                          (.step (.cs [32]) <|
                          .step (.bin .add 22 27) <|
                          .step (.call 40 [4] 0) <|
                          .step (.bin .add 28 29) <|
                          .step (.cs [10]) <|
                          .step (.bin .add 30 31) <|
                          .ret [32, 16])
                          (.step (.cs [10]) <|
                          .step (.bin .add 22 27) <|
                          .ret [28, 16])))))))
              (.step (.isi 2 5) <|
              .ite 13
                (.step (.bin .eql 2 6) <|
                .ite 14
                  (.step (.cs [97, 108, 108, 10]) <|
                  .step (.ci .i64 0) <|
                  .ret [15, 16])
                  (.step (.ci .u8 3) <|
                  .step (.bin .eql 2 15) <|
                  .ite 16
                    (.step (.ci .u64 100000) <|
                    .step (.bin .gtr 4 17) <|
                    .ite 18
                      (.step (.cs []) <|
                      .step (.ci .i64 18) <|
                      .ret [19, 20])
                      (.step (.call 40 [4] 0) <|
                      .step (.cs [97, 108, 108, 32]) <|
                      .step (.bin .add 20 19) <|
                      .step (.cs [10]) <|
                      .step (.bin .add 21 22) <|
                      .step (.ci .i64 0) <|
                      .ret [23, 24]))
                    (.step (.ci .i64 0) <|
                    .step (.bin .lss 3 17) <|
                    .ite 18
                      (.step (.cs []) <|
                      .step (.ci .i64 18) <|
                      .ret [19, 20])
                      (.step (.ci .i64 1) <|
                      .step (.bin .gtr 3 19) <|
                      .ite 20
                        (.step (.cs []) <|
                        .step (.ci .i64 18) <|
                        .ret [21, 22])
                        (.step (.call 42 [3] 0) <|
                        .step (.cs [97, 108, 108, 32]) <|
                        .step (.bin .add 22 21) <|
                        .step (.ci .u8 0) <|
                        .step (.bin .eql 2 24) <|
                        .ite 25
                          (.step (.cs []) <|
                          .step (.bin .eql 5 26) <|
                          .ite 27
                            (.step (.ci .i64 23) <|
                            .ret [26, 28])
                            (.step (.ci .u8 32) <|
                            .step (.call 18 [5, 28] 0) <|
                            .step (.len 29) <|
                            .step (.bin .gtr 30 19) <|
                            .ite 31
                              (.step (.ci .i64 23) <|
                              .ret [26, 32])
                              (.step (.ci .u8 10) <|
                              .step (.call 18 [5, 32] 0) <|
                              .step (.len 33) <|
                              .step (.bin .gtr 34 19) <|
                              .ite 35
                                (.step (.ci .i64 23) <|
                                .ret [26, 36])
                                (.step (.slen 5) <|
                                .step (.ci .i64 64) <|
                                .step (.bin .gtr 36 37) <|
                                .ite 38
                                  (.step (.ci .i64 13) <|
                                  .ret [26, 39])
                                  (.step (.cs [32]) <|
                                  .step (.bin .add 23 39) <|
                                  .step (.bin .add 40 5) <|
                                  .step (.ci .u8 2) <|
                                  .step (.bin .lss 2 42) <|
                                  .ite 43
                                    (.step (.bin .add 41 39) <|
                                    .step (.call 40 [4] 0) <|
                                    .step (.bin .add 44 45) <|
                                    .step (.cs [10]) <|
                                    .step (.bin .add 46 47) <|
                                    .ret [48, 17])
                                    (.step (.cs [10]) <|
                                    .step (.bin .add 41 44) <|
                                    .ret [45, 17]))))))
                          (.step (.ci .u8 2) <|
                          .step (.bin .lss 2 26) <|
                          .ite 27
                            (.step (.cs [32]) <|
                            .step (.bin .add 23 28) <|
                            .step (.call 40 [4] 0) <|
                            .step (.bin .add 29 30) <|
                            .step (.cs [10]) <|
                            .step (.bin .add 31 32) <|
                            .ret [33, 17])
                            (.step (.cs [10]) <|
                            .step (.bin .add 23 28) <|
                            .ret [29, 17])))))))
                (.dead)))))))
/-- postmark/postmarkref28.fate, function 19, plain functions []. -/
def d28 : PDef := .fn [.sc] [.ag 6, .sc] <|
  .step (.len 0) <|
  .step (.ci .i64 1) <|
  .step (.bin .eql 1 2) <|
  .ite 3
    (.step (.ci .i64 0) <|
    .step (.at 1 0 4) <|
    .step (.cell 0 5) <|
    .step (.cs [100, 114, 111, 112]) <|
    .step (.bin .eql 6 7) <|
    .ite 8
      (.step (.cb true) <|
      .step (.ci .u8 0) <|
      .step (.mk [9, 10, 10, 4, 4, 10]) <|
      .ret [11, 4])
      (.step (.ci .u64 255) <|
      .step (.ci .u64 100000) <|
      .step (.ml [9, 9, 10, 10, 9]) <|
      .step (.call 23 [0, 11] 0) <|
      .step (.call 23 [0, 11] 1) <|
      .step (.bin .neq 13 4) <|
      .ite 14
        (.step (.cb false) <|
        .step (.ci .u8 0) <|
        .step (.mk [15, 16, 16, 4, 4, 16]) <|
        .ret [17, 13])
        (.step (.at 1 12 4) <|
        .step (.cell 0 15) <|
        .step (.conv .u8 16) <|
        .step (.at 1 12 2) <|
        .step (.cell 0 18) <|
        .step (.conv .u8 19) <|
        .step (.ci .i64 2) <|
        .step (.at 1 12 21) <|
        .step (.cell 0 22) <|
        .step (.conv .i64 23) <|
        .step (.ci .i64 3) <|
        .step (.at 1 12 25) <|
        .step (.cell 0 26) <|
        .step (.conv .i64 27) <|
        .step (.ci .i64 4) <|
        .step (.at 1 12 29) <|
        .step (.cell 0 30) <|
        .step (.conv .u8 31) <|
        .step (.cb false) <|
        .step (.mk [33, 17, 20, 24, 28, 32]) <|
        .ret [34, 4])))
    (.step (.ci .u64 255) <|
    .step (.ci .u64 100000) <|
    .step (.ml [4, 4, 5, 5, 4]) <|
    .step (.call 23 [0, 6] 0) <|
    .step (.call 23 [0, 6] 1) <|
    .step (.ci .i64 0) <|
    .step (.bin .neq 8 9) <|
    .ite 10
      (.step (.cb false) <|
      .step (.ci .u8 0) <|
      .step (.mk [11, 12, 12, 9, 9, 12]) <|
      .ret [13, 8])
      (.step (.at 1 7 9) <|
      .step (.cell 0 11) <|
      .step (.conv .u8 12) <|
      .step (.at 1 7 2) <|
      .step (.cell 0 14) <|
      .step (.conv .u8 15) <|
      .step (.ci .i64 2) <|
      .step (.at 1 7 17) <|
      .step (.cell 0 18) <|
      .step (.conv .i64 19) <|
      .step (.ci .i64 3) <|
      .step (.at 1 7 21) <|
      .step (.cell 0 22) <|
      .step (.conv .i64 23) <|
      .step (.ci .i64 4) <|
      .step (.at 1 7 25) <|
      .step (.cell 0 26) <|
      .step (.conv .u8 27) <|
      .step (.cb false) <|
      .step (.mk [29, 13, 16, 20, 24, 28]) <|
      .ret [30, 9]))
/-- postmark/script.number is told. -/
abbrev d8 : PDef := .prim numberP
/-- postmark/script.Parse, function 5, plain functions []. -/
def d1 : PDef := .fn [.sc] [.ag 7, .sc, .sc] <|
  .step (.slen 0) <|
  .step (.ci .i64 65536) <|
  .step (.bin .gtr 1 2) <|
  .ite 3
    (.step (.ci .u64 0) <|
    .step (.ml []) <|
    .step (.ci .i64 0) <|
    .step (.ci .i64 4) <|
    .step (.mk [4, 4, 4, 4, 5, 5, 5]) <|
    .ret [8, 6, 7])
    (.step (.cs [10]) <|
    .step (.call 2 [0, 4] 0) <|
    .step (.len 5) <|
    .step (.cb false) <|
    .step (.ci .i64 0) <|
    .step (.ci .u64 0) <|
    .step (.ml []) <|
    .step (.call 3 [7, 5, 6, 8, 9, 9, 9, 9, 10, 10, 10] 0) <|
    .step (.bin .eql 11 8) <|
    .ite 12
      (.step (.call 3 [7, 5, 6, 8, 9, 9, 9, 9, 10, 10, 10] 1) <|
      .step (.call 3 [7, 5, 6, 8, 9, 9, 9, 9, 10, 10, 10] 2) <|
      .step (.mk [9, 9, 9, 9, 10, 10, 10]) <|
      .ret [15, 13, 14])
      (.step (.call 3 [7, 5, 6, 8, 9, 9, 9, 9, 10, 10, 10] 1) <|
      .step (.call 3 [7, 5, 6, 8, 9, 9, 9, 9, 10, 10, 10] 2) <|
      .step (.call 3 [7, 5, 6, 8, 9, 9, 9, 9, 10, 10, 10] 3) <|
      .step (.call 3 [7, 5, 6, 8, 9, 9, 9, 9, 10, 10, 10] 4) <|
      .step (.call 3 [7, 5, 6, 8, 9, 9, 9, 9, 10, 10, 10] 5) <|
      .step (.call 3 [7, 5, 6, 8, 9, 9, 9, 9, 10, 10, 10] 6) <|
      .step (.call 3 [7, 5, 6, 8, 9, 9, 9, 9, 10, 10, 10] 7) <|
      .step (.call 3 [7, 5, 6, 8, 9, 9, 9, 9, 10, 10, 10] 8) <|
      .step (.un .not 13) <|
      .ite 21
        (.step (.ci .i64 24) <|
        .step (.mk [9, 9, 9, 9, 10, 10, 10]) <|
        .ret [23, 8, 22])
        (.step (.mk [14, 15, 16, 17, 18, 19, 20]) <|
        .ret [22, 8, 8])))
/-- postmark/script.add, function 43, plain functions []. -/
def d12 : PDef := .fn [.sc] [.ag 5, .sc] <|
  .step (.ci .i64 1) <|
  .step (.ci .i64 2) <|
  .step (.lsub 1 0 1 2) <|
  .step (.ci .u64 1) <|
  .step (.ml [4]) <|
  .step (.call 6 [3, 5] 0) <|
  .step (.call 6 [3, 5] 1) <|
  .step (.ci .i64 0) <|
  .step (.bin .neq 7 8) <|
  .ite 9
    (.step (.ci .u8 0) <|
    .step (.ci .u64 0) <|
    .step (.cs []) <|
    .step (.mk [8, 10, 8, 11, 12]) <|
    .ret [13, 7])
    (.step (.at 1 0 2) <|
    .step (.cell 0 10) <|
    .step (.slen 11) <|
    .step (.ci .i64 64) <|
    .step (.bin .gtr 12 13) <|
    .ite 14
      (.step (.ci .u8 0) <|
      .step (.ci .u64 0) <|
      .step (.cs []) <|
      .step (.ci .i64 13) <|
      .step (.mk [8, 15, 8, 16, 17]) <|
      .ret [19, 18])
      (.step (.ci .i64 3) <|
      .step (.len 0) <|
      .step (.lsub 1 0 15 16) <|
      .step (.ci .u64 18446744073709551615) <|
      .step (.ml [18]) <|
      .step (.call 6 [17, 19] 0) <|
      .step (.call 6 [17, 19] 1) <|
      .step (.bin .neq 21 8) <|
      .ite 22
        (.step (.ci .u8 0) <|
        .step (.ci .u64 0) <|
        .step (.cs []) <|
        .step (.mk [8, 23, 8, 24, 25]) <|
        .ret [26, 21])
        (.step (.at 1 6 8) <|
        .step (.cell 0 23) <|
        .step (.conv .i64 24) <|
        .step (.at 1 20 8) <|
        .step (.cell 0 26) <|
        .step (.ci .u8 0) <|
        .step (.mk [8, 28, 25, 27, 11]) <|
        .ret [29, 8])))
/-- (*postmark/script.Script).pair, function 15, handed blocks, plain functions []. -/
def d16 : PDef := .tree 8 <|
  .step (.ci .i64 0) <|
  .step (.at 1 0 8) <|
  .step (.cell 0 9) <|
  .step (.cs [112, 97, 105, 114]) <|
  .step (.bin .neq 10 11) <|
  .ite 12
    (.step (.ci .i64 23) <|
    .ret [8, 13, 1, 2, 3, 4])
    (.step (.len 0) <|
    .step (.ci .i64 5) <|
    .step (.bin .neq 13 14) <|
    .ite 15
      (.step (.ci .i64 23) <|
      .ret [8, 16, 1, 2, 3, 4])
      (.step (.ci .i64 1) <|
      .step (.lsub 1 0 16 13) <|
      .step (.ci .u64 18446744073709551615) <|
      .step (.ml [18, 18, 18, 18]) <|
      .step (.call 6 [17, 19] 0) <|
      .step (.call 6 [17, 19] 1) <|
      .step (.bin .neq 21 8) <|
      .ite 22
        (.ret [8, 21, 1, 2, 3, 4])
        (.step (.at 1 20 8) <|
        .step (.cell 0 23) <|
        .step (.at 1 20 16) <|
        .step (.cell 0 25) <|
        .step (.ci .i64 2) <|
        .step (.at 1 20 27) <|
        .step (.cell 0 28) <|
        .step (.ci .i64 3) <|
        .step (.at 1 20 30) <|
        .step (.cell 0 31) <|
        .ret [8, 8, 24, 26, 29, 32])))
/-- (*postmark/script.Script).further, function 14, handed blocks, plain functions []. -/
def d15 : PDef := .tree 9 <|
  .step (.ci .i64 0) <|
  .step (.at 1 1 9) <|
  .step (.cell 0 10) <|
  .step (.cs [116, 104, 101, 114, 101]) <|
  .step (.bin .eql 11 12) <|
  .ite 13
    (.step (.call 10 [1] 0) <|
    .step (.cell 0 14) <|
    .step (.cell 1 14) <|
    .step (.cell 2 14) <|
    .step (.cell 3 14) <|
    .step (.cell 4 14) <|
    .step (.cell 5 14) <|
    .step (.call 10 [1] 1) <|
    .step (.bin .neq 21 9) <|
    .ite 22
      (.ret [9, 21, 6, 7, 8])
      (.step (.len 6) <|
      .step (.len 7) <|
      .step (.bin .add 23 24) <|
      .step (.ci .i64 200) <|
      .step (.bin .eql 25 26) <|
      .ite 27
        (.step (.ci .i64 13) <|
        .ret [9, 28, 6, 7, 8])
        (.step (.mk [15, 16, 17, 18, 19, 20]) <|
        .step (.ml [28]) <|
        .step (.app 6 32 6 29) <|
        .ret [9, 9, 30, 7, 8])))
    (.step (.cs [98, 97, 99, 107]) <|
    .step (.bin .eql 11 14) <|
    .ite 15
      (.step (.call 10 [1] 0) <|
      .step (.cell 0 16) <|
      .step (.cell 1 16) <|
      .step (.cell 2 16) <|
      .step (.cell 3 16) <|
      .step (.cell 4 16) <|
      .step (.cell 5 16) <|
      .step (.call 10 [1] 1) <|
      .step (.bin .neq 23 9) <|
      .ite 24
        (.ret [9, 23, 6, 7, 8])
        (.step (.len 6) <|
        .step (.len 7) <|
        .step (.bin .add 25 26) <|
        .step (.ci .i64 200) <|
        .step (.bin .eql 27 28) <|
        .ite 29
          (.step (.ci .i64 13) <|
          .ret [9, 30, 6, 7, 8])
          (.step (.mk [17, 18, 19, 20, 21, 22]) <|
          .step (.ml [30]) <|
          .step (.app 6 32 7 31) <|
          .ret [9, 9, 6, 32, 8])))
      (.step (.call 11 [1] 0) <|
      .step (.cell 0 16) <|
      .step (.cell 1 16) <|
      .step (.cell 2 16) <|
      .step (.cell 3 16) <|
      .step (.cell 4 16) <|
      .step (.call 11 [1] 1) <|
      .step (.bin .neq 22 9) <|
      .ite 23
        (.ret [9, 22, 6, 7, 8])
        (.step (.len 8) <|
        .step (.ci .i64 1000) <|
        .step (.bin .eql 24 25) <|
        .ite 26
          (.step (.ci .i64 13) <|
          .ret [9, 27, 6, 7, 8])
          (.step (.mk [0, 18, 19, 20, 21]) <|
          .step (.ml [27]) <|
          .step (.app 5 48 8 28) <|
          .ret [9, 9, 6, 7, 29]))))
/-- slices.Equal[[]postmark/postmarkref28.Command,postmark/postmarkref28.Command], function 9, the loop [0]. -/
def d44 : PDef := .tree 4 <|
  .step (.bin .lss 3 2) <|
  .ite 4
    (.step (.at 5 0 3) <|
    .step (.cell 0 5) <|
    .step (.cell 1 5) <|
    .step (.cell 2 5) <|
    .step (.cell 3 5) <|
    .step (.cell 4 5) <|
    .step (.at 5 1 3) <|
    .step (.cell 0 11) <|
    .step (.cell 1 11) <|
    .step (.cell 2 11) <|
    .step (.cell 3 11) <|
    .step (.cell 4 11) <|
    .step (.mk [6, 7, 8, 9, 10]) <|
    .step (.mk [12, 13, 14, 15, 16]) <|
    .step (.binc .neq [0, 0, 0, 0, 1] 17 18) <|
    .ite 19
      (.step (.ci .i64 0) <|
      .ret [20])
      (.step (.ci .i64 1) <|
      .step (.bin .add 3 20) <|
      .tail 44 [0, 1, 2, 21]))
    (.step (.ci .i64 1) <|
    .ret [5])
/-- postmark/postmarklaw22.Fates, function 23, the loop [0]. -/
def d33 : PDef := .tree 4 <|
  .step (.bin .lss 3 2) <|
  .ite 4
    (.step (.at 6 1 3) <|
    .step (.cell 0 5) <|
    .step (.cell 1 5) <|
    .step (.cell 2 5) <|
    .step (.cell 3 5) <|
    .step (.cell 4 5) <|
    .step (.cell 5 5) <|
    .step (.mk [6, 7, 8, 9, 10, 11]) <|
    .step (.ml [12]) <|
    .step (.app 6 32 0 13) <|
    .step (.ci .i64 1) <|
    .step (.bin .add 3 15) <|
    .tail 33 [14, 1, 2, 16])
    (.step (.ci .i64 0) <|
    .ret [5, 0])
/-- postmark/postmarkref28.numbers, function 18, the loop [0]. -/
def d24 : PDef := .tree 5 <|
  .step (.bin .lss 4 3) <|
  .ite 5
    (.step (.at 1 0 4) <|
    .step (.cell 0 6) <|
    .step (.at 1 1 4) <|
    .step (.cell 0 8) <|
    .step (.call 25 [7, 9] 0) <|
    .step (.call 25 [7, 9] 1) <|
    .step (.ci .i64 0) <|
    .step (.bin .neq 11 12) <|
    .ite 13
      (.ret [12, 11])
      (.step (.ml [10]) <|
      .step (.app 1 8 2 14) <|
      .step (.ci .i64 1) <|
      .step (.bin .add 4 16) <|
      .tail 24 [0, 1, 15, 3, 17]))
    (.step (.ci .i64 1) <|
    .ret [6, 2])
/-- postmark/postmarkref28.number, function 29, the loop [0]. -/
def d26 : PDef := .tree 3 <|
  .step (.slen 0) <|
  .step (.bin .lss 2 3) <|
  .ite 4
    (.step (.sidx 0 2) <|
    .step (.ci .u8 48) <|
    .step (.bin .lss 5 6) <|
    .ite 7
      (.step (.ci .i64 0) <|
      .ret [8])
      (.step (.ci .u8 57) <|
      .step (.bin .gtr 5 8) <|
      .ite 9
        (.step (.ci .i64 0) <|
        .ret [10])
        (.step (.ci .i64 1) <|
        .step (.bin .add 2 10) <|
        .tail 26 [0, 1, 11])))
    (.step (.ci .i64 1) <|
    .ret [5])
/-- postmark/postmarklaw28.Of, function 8, the loop [0]. -/
def d34 : PDef := .tree 10 <|
  .step (.bin .lss 2 1) <|
  .ite 10
    (.step (.at 5 0 2) <|
    .step (.cell 0 11) <|
    .step (.cell 1 11) <|
    .step (.cell 2 11) <|
    .step (.cell 3 11) <|
    .step (.cell 4 11) <|
    .step (.mk [12, 13, 14, 15, 16]) <|
    .step (.ml [17]) <|
    .step (.app 5 48 9 18) <|
    .step (.ci .i64 1) <|
    .step (.bin .add 2 20) <|
    .tail 34 [0, 1, 21, 3, 4, 5, 6, 7, 8, 19])
    (.step (.ci .i64 0) <|
    .ret [11, 9])
/-- postmark/postmarkref28.fates, function 21, the loop [0]. -/
def d37 : PDef := .tree 4 <|
  .step (.bin .lss 3 2) <|
  .ite 4
    (.step (.at 6 0 3) <|
    .step (.cell 0 5) <|
    .step (.cell 1 5) <|
    .step (.cell 2 5) <|
    .step (.cell 3 5) <|
    .step (.cell 4 5) <|
    .step (.cell 5 5) <|
    .ite 6
      (.step (.at 6 1 3) <|
      .step (.cell 0 12) <|
      .step (.cell 1 12) <|
      .step (.cell 2 12) <|
      .step (.cell 3 12) <|
      .step (.cell 4 12) <|
      .step (.cell 5 12) <|
      .ite 13
        (.step (.ci .i64 1) <|
        .step (.bin .add 3 19) <|
        .tail 37 [0, 1, 2, 20])
        (.step (.cb true) <|
        .step (.ci .u8 0) <|
        .step (.ci .i64 0) <|
        .step (.mk [19, 20, 20, 21, 21, 20]) <|
        .step (.cb false) <|
        .step (.mk [23, 14, 15, 16, 17, 18]) <|
        .step (.binc .neq [2, 0, 0, 0, 0, 0] 22 24) <|
        .ite 25
          (.ret [21])
          (.step (.ci .i64 1) <|
          .step (.bin .add 3 26) <|
          .tail 37 [0, 1, 2, 27])))
      (.step (.at 6 1 3) <|
      .step (.cell 0 12) <|
      .step (.cell 1 12) <|
      .step (.cell 2 12) <|
      .step (.cell 3 12) <|
      .step (.cell 4 12) <|
      .step (.cell 5 12) <|
      .ite 13
        (.step (.cb false) <|
        .step (.mk [19, 7, 8, 9, 10, 11]) <|
        .step (.cb true) <|
        .step (.ci .u8 0) <|
        .step (.ci .i64 0) <|
        .step (.mk [21, 22, 22, 23, 23, 22]) <|
        .step (.binc .neq [2, 0, 0, 0, 0, 0] 20 24) <|
        .ite 25
          (.ret [23])
          (.step (.ci .i64 1) <|
          .step (.bin .add 3 26) <|
          .tail 37 [0, 1, 2, 27]))
        (.step (.cb false) <|
        .step (.mk [19, 7, 8, 9, 10, 11]) <|
        .step (.mk [19, 14, 15, 16, 17, 18]) <|
        .step (.binc .neq [2, 0, 0, 0, 0, 0] 20 21) <|
        .ite 22
          (.step (.ci .i64 0) <|
          .ret [23])
          (.step (.ci .i64 1) <|
          .step (.bin .add 3 23) <|
          .tail 37 [0, 1, 2, 24]))))
    (.step (.ci .i64 1) <|
    .ret [5])
/-- postmark/script.Parse, function 5, the loop [0]. -/
def d3 : PDef := .tree 11 <|
  .step (.bin .lss 3 2) <|
  .ite 11
    (.step (.at 1 1 3) <|
    .step (.cell 0 12) <|
    .step (.call 4 [13] 0) <|
    .step (.len 14) <|
    .step (.ci .i64 0) <|
    .step (.bin .eql 15 16) <|
    .ite 17
      (.step (.ci .i64 1) <|
      .step (.bin .add 3 18) <|
      .tail 3 [0, 1, 2, 19, 4, 5, 6, 7, 8, 9, 10])
      (.step (.at 1 14 16) <|
      .step (.cell 0 18) <|
      .step (.sidx 19 16) <|
      .step (.ci .u8 35) <|
      .step (.bin .eql 20 21) <|
      .ite 22
        (.step (.ci .i64 1) <|
        .step (.bin .add 3 23) <|
        .tail 3 [0, 1, 2, 24, 4, 5, 6, 7, 8, 9, 10])
        (.ite 0
          (.step (.ci .i64 1) <|
          .step (.bin .add 3 23) <|
          .step (.call 15 [24, 14, 4, 5, 6, 7, 8, 9, 10] 0) <|
          .step (.call 15 [24, 14, 4, 5, 6, 7, 8, 9, 10] 1) <|
          .step (.call 15 [24, 14, 4, 5, 6, 7, 8, 9, 10] 2) <|
          .step (.call 15 [24, 14, 4, 5, 6, 7, 8, 9, 10] 3) <|
          .step (.call 15 [24, 14, 4, 5, 6, 7, 8, 9, 10] 4) <|
          .step (.bin .neq 26 16) <|
          .ite 30
            (.ret [16, 24, 26])
            (.tail 3 [0, 1, 2, 24, 4, 5, 6, 7, 27, 28, 29]))
          (.step (.call 16 [14, 4, 5, 6, 7, 8, 9, 10] 0) <|
          .step (.call 16 [14, 4, 5, 6, 7, 8, 9, 10] 1) <|
          .step (.call 16 [14, 4, 5, 6, 7, 8, 9, 10] 2) <|
          .step (.call 16 [14, 4, 5, 6, 7, 8, 9, 10] 3) <|
          .step (.call 16 [14, 4, 5, 6, 7, 8, 9, 10] 4) <|
          .step (.call 16 [14, 4, 5, 6, 7, 8, 9, 10] 5) <|
          .step (.bin .neq 24 16) <|
          .ite 29
            (.step (.ci .i64 1) <|
            .step (.bin .add 3 30) <|
            .ret [16, 31, 24])
            (.step (.ci .i64 1) <|
            .step (.bin .add 3 30) <|
            .step (.cb true) <|
            .tail 3 [32, 1, 2, 31, 25, 26, 27, 28, 8, 9, 10])))))
    (.step (.ci .i64 1) <|
    .ret [12, 0, 4, 5, 6, 7, 8, 9, 10])
/-- postmark/script.numbers, function 28, the loop [0]. -/
def d7 : PDef := .tree 5 <|
  .step (.bin .lss 4 3) <|
  .ite 5
    (.step (.at 1 2 4) <|
    .step (.cell 0 6) <|
    .step (.at 1 0 4) <|
    .step (.cell 0 8) <|
    .step (.call 8 [9] 0) <|
    .step (.call 8 [9] 1) <|
    .step (.ci .i64 0) <|
    .step (.bin .neq 11 12) <|
    .ite 13
      (.ret [12, 11])
      (.step (.bin .gtr 10 7) <|
      .ite 14
        (.step (.ci .i64 18) <|
        .ret [12, 15])
        (.step (.ml [10]) <|
        .step (.app 1 8 1 15) <|
        .step (.ci .i64 1) <|
        .step (.bin .add 4 17) <|
        .tail 7 [0, 16, 2, 3, 18])))
    (.step (.ci .i64 1) <|
    .ret [6, 1])
/-- postmark/postmarkref28.number, function 29, the loop [1]. -/
def d27 : PDef := .tree 4 <|
  .step (.slen 0) <|
  .step (.bin .lss 3 4) <|
  .ite 5
    (.step (.sidx 0 3) <|
    .step (.ci .u8 48) <|
    .step (.bin .sub 6 7) <|
    .step (.conv .u64 8) <|
    .step (.ci .u64 18446744073709551615) <|
    .step (.bin .sub 10 9) <|
    .step (.ci .u64 10) <|
    .step (.bin .quo 11 12) <|
    .step (.bin .gtr 2 13) <|
    .ite 14
      (.step (.ci .i64 0) <|
      .ret [15])
      (.step (.bin .mul 12 2) <|
      .step (.bin .add 15 9) <|
      .step (.ci .i64 1) <|
      .step (.bin .add 3 17) <|
      .tail 27 [0, 1, 16, 18]))
    (.step (.ci .i64 1) <|
    .ret [6, 2])
/-- postmark/postmarkref28.cut, function 16, the loop [0]. -/
def d19 : PDef := .tree 5 <|
  .step (.slen 0) <|
  .step (.bin .lss 4 5) <|
  .ite 6
    (.step (.sidx 0 4) <|
    .step (.bin .eql 7 1) <|
    .ite 8
      (.step (.ssub 0 3 4) <|
      .step (.ml [9]) <|
      .step (.app 1 16 2 10) <|
      .step (.ci .i64 1) <|
      .step (.bin .add 4 12) <|
      .tail 19 [0, 1, 11, 13, 13])
      (.step (.ci .i64 1) <|
      .step (.bin .add 4 9) <|
      .tail 19 [0, 1, 2, 3, 10]))
    (.step (.ci .i64 0) <|
    .ret [7, 2, 3])
/-- postmark/postmarkref28.Same, function 7, the loop [0]. -/
def d38 : PDef := .tree 16 <|
  .step (.bin .lss 1 0) <|
  .ite 16
    (.step (.at 5 15 1) <|
    .step (.cell 0 17) <|
    .step (.cell 1 17) <|
    .step (.cell 2 17) <|
    .step (.cell 3 17) <|
    .step (.cell 4 17) <|
    .step (.mk [18, 19, 20, 21, 22]) <|
    .step (.call 39 [23] 0) <|
    .step (.call 39 [23] 1) <|
    .step (.at 5 8 1) <|
    .step (.cell 0 26) <|
    .step (.cell 1 26) <|
    .step (.cell 2 26) <|
    .step (.cell 3 26) <|
    .step (.cell 4 26) <|
    .step (.mk [27, 28, 29, 30, 31]) <|
    .step (.call 39 [32] 0) <|
    .step (.call 39 [32] 1) <|
    .step (.bin .neq 24 33) <|
    .ite 35
      (.step (.ci .i64 0) <|
      .ret [36])
      (.step (.bin .neq 25 34) <|
      .ite 36
        (.step (.ci .i64 0) <|
        .ret [37])
        (.step (.ci .i64 1) <|
        .step (.bin .add 1 37) <|
        .tail 38 [0, 38, 2, 3, 4, 5, 6, 7, 8, 9, 10, 11, 12, 13, 14, 15])))
    (.step (.ci .i64 1) <|
    .ret [17])
/-- postmark/postmarkref28.words, function 17, the loop [0]. -/
def d22 : PDef := .tree 4 <|
  .step (.bin .lss 3 2) <|
  .ite 4
    (.step (.at 1 1 3) <|
    .step (.cell 0 5) <|
    .step (.cs []) <|
    .step (.bin .neq 6 7) <|
    .ite 8
      (.step (.ml [6]) <|
      .step (.app 1 16 0 9) <|
      .step (.ci .i64 1) <|
      .step (.bin .add 3 11) <|
      .tail 22 [10, 1, 2, 12])
      (.step (.ci .i64 1) <|
      .step (.bin .add 3 9) <|
      .tail 22 [0, 1, 2, 10]))
    (.step (.ci .i64 0) <|
    .ret [5, 0])
/-- postmark/postmarkref28.command, function 20, the loop [0]. -/
def d30 : PDef := .tree 3 <|
  .step (.ci .u8 6) <|
  .step (.bin .lss 2 3) <|
  .ite 4
    (.step (.isi 2 0) <|
    .ite 5
      (.step (.ci .i64 0) <|
      .step (.at 1 1 6) <|
      .step (.cell 0 7) <|
      .step (.cs [97, 100, 100]) <|
      .step (.bin .neq 9 8) <|
      .ite 10
        (.step (.ci .u8 1) <|
        .step (.bin .add 2 11) <|
        .tail 30 [0, 1, 12])
        (.ret [6, 2]))
      (.step (.isi 2 1) <|
      .ite 6
        (.step (.ci .i64 0) <|
        .step (.at 1 1 7) <|
        .step (.cell 0 8) <|
        .step (.cs [112, 117, 98, 108, 105, 115, 104]) <|
        .step (.bin .neq 10 9) <|
        .ite 11
          (.step (.ci .u8 1) <|
          .step (.bin .add 2 12) <|
          .tail 30 [0, 1, 13])
          (.ret [7, 2]))
        (.step (.isi 2 2) <|
        .ite 7
          (.step (.ci .i64 0) <|
          .step (.at 1 1 8) <|
          .step (.cell 0 9) <|
          .step (.cs [112, 111, 108, 108]) <|
          .step (.bin .neq 11 10) <|
          .ite 12
            (.step (.ci .u8 1) <|
            .step (.bin .add 2 13) <|
            .tail 30 [0, 1, 14])
            (.ret [8, 2]))
          (.step (.isi 2 3) <|
          .ite 8
            (.step (.ci .i64 0) <|
            .step (.at 1 1 9) <|
            .step (.cell 0 10) <|
            .step (.cs [115, 116, 101, 112]) <|
            .step (.bin .neq 12 11) <|
            .ite 13
              (.step (.ci .u8 1) <|
              .step (.bin .add 2 14) <|
              .tail 30 [0, 1, 15])
              (.ret [9, 2]))
            (.step (.isi 2 4) <|
            .ite 9
              (.step (.ci .i64 0) <|
              .step (.at 1 1 10) <|
              .step (.cell 0 11) <|
              .step (.cs [115, 104, 111, 119]) <|
              .step (.bin .neq 13 12) <|
              .ite 14
                (.step (.ci .u8 1) <|
                .step (.bin .add 2 15) <|
                .tail 30 [0, 1, 16])
                (.ret [10, 2]))
              (.step (.isi 2 5) <|
              .ite 10
                (.step (.ci .i64 0) <|
                .step (.at 1 1 11) <|
                .step (.cell 0 12) <|
                .step (.cs [97, 108, 108]) <|
                .step (.bin .neq 14 13) <|
                .ite 15
                  (.step (.ci .u8 1) <|
                  .step (.bin .add 2 16) <|
                  .tail 30 [0, 1, 17])
                  (.ret [11, 2]))
                (.dead)))))))
    (.step (.ci .i64 0) <|
    .ret [5, 2])
/-- postmark/postmarkref28.Parse, function 6, the loop [0]. -/
def d20 : PDef := .tree 11 <|
  .step (.bin .lss 3 2) <|
  .ite 11
    (.step (.at 1 1 3) <|
    .step (.cell 0 12) <|
    .step (.call 21 [13] 0) <|
    .step (.len 14) <|
    .step (.ci .i64 0) <|
    .step (.bin .eql 15 16) <|
    .ite 17
      (.step (.ci .i64 1) <|
      .step (.bin .add 3 18) <|
      .tail 20 [0, 1, 2, 19, 4, 5, 6, 7, 8, 9, 10])
      (.step (.un .not 0) <|
      .ite 18
        (.step (.ci .i64 1) <|
        .step (.lsub 1 14 19 15) <|
        .step (.ci .u64 18446744073709551615) <|
        .step (.ml [21, 21, 21, 21]) <|
        .step (.call 23 [20, 22] 0) <|
        .step (.call 23 [20, 22] 1) <|
        .step (.at 1 14 16) <|
        .step (.cell 0 25) <|
        .step (.cs [112, 97, 105, 114]) <|
        .step (.bin .neq 26 27) <|
        .ite 28
          (.step (.bin .add 3 19) <|
          .step (.ci .i64 23) <|
          .ret [16, 29, 30])
          (.step (.bin .eql 24 16) <|
          .ite 29
            (.step (.at 1 23 16) <|
            .step (.cell 0 30) <|
            .step (.at 1 23 19) <|
            .step (.cell 0 32) <|
            .step (.ci .i64 2) <|
            .step (.at 1 23 34) <|
            .step (.cell 0 35) <|
            .step (.ci .i64 3) <|
            .step (.at 1 23 37) <|
            .step (.cell 0 38) <|
            .step (.bin .neq 24 16) <|
            .step (.bin .add 3 19) <|
            .step (.cb true) <|
            .tail 20 [42, 1, 2, 41, 31, 33, 36, 39, 8, 9, 10])
            (.step (.bin .neq 24 16) <|
            .step (.bin .add 3 19) <|
            .ret [16, 31, 24])))
        (.step (.at 1 14 16) <|
        .step (.cell 0 19) <|
        .step (.cs [116, 104, 101, 114, 101]) <|
        .step (.bin .eql 20 21) <|
        .ite 22
          (.step (.ci .i64 1) <|
          .step (.lsub 1 14 23 15) <|
          .step (.call 28 [24] 0) <|
          .step (.cell 0 25) <|
          .step (.cell 1 25) <|
          .step (.cell 2 25) <|
          .step (.cell 3 25) <|
          .step (.cell 4 25) <|
          .step (.cell 5 25) <|
          .step (.call 28 [24] 1) <|
          .step (.bin .eql 32 16) <|
          .ite 33
            (.step (.len 8) <|
            .step (.len 9) <|
            .step (.bin .add 34 35) <|
            .step (.ci .i64 200) <|
            .step (.bin .eql 36 37) <|
            .ite 38
              (.step (.mk [26, 27, 28, 29, 30, 31]) <|
              .step (.ml [39]) <|
              .step (.app 6 32 8 40) <|
              .step (.bin .add 3 23) <|
              .step (.ci .i64 13) <|
              .ret [16, 42, 43])
              (.step (.mk [26, 27, 28, 29, 30, 31]) <|
              .step (.ml [39]) <|
              .step (.app 6 32 8 40) <|
              .step (.bin .neq 32 16) <|
              .step (.bin .add 3 23) <|
              .tail 20 [0, 1, 2, 43, 4, 5, 6, 7, 41, 9, 10]))
            (.step (.mk [26, 27, 28, 29, 30, 31]) <|
            .step (.ml [34]) <|
            .step (.app 6 32 8 35) <|
            .step (.bin .neq 32 16) <|
            .step (.bin .add 3 23) <|
            .ret [16, 38, 32]))
          (.step (.cs [98, 97, 99, 107]) <|
          .step (.bin .eql 20 23) <|
          .ite 24
            (.step (.ci .i64 1) <|
            .step (.lsub 1 14 25 15) <|
            .step (.call 28 [26] 0) <|
            .step (.cell 0 27) <|
            .step (.cell 1 27) <|
            .step (.cell 2 27) <|
            .step (.cell 3 27) <|
            .step (.cell 4 27) <|
            .step (.cell 5 27) <|
            .step (.call 28 [26] 1) <|
            .step (.bin .eql 34 16) <|
            .ite 35
              (.step (.len 8) <|
              .step (.len 9) <|
              .step (.bin .add 36 37) <|
              .step (.ci .i64 200) <|
              .step (.bin .eql 38 39) <|
              .ite 40
                (.step (.mk [28, 29, 30, 31, 32, 33]) <|
                .step (.ml [41]) <|
                .step (.app 6 32 9 42) <|
                .step (.bin .add 3 25) <|
                .step (.ci .i64 13) <|
                .ret [16, 44, 45])
                (.step (.mk [28, 29, 30, 31, 32, 33]) <|
                .step (.ml [41]) <|
                .step (.app 6 32 9 42) <|
                .step (.bin .neq 34 16) <|
                .step (.bin .add 3 25) <|
                .tail 20 [0, 1, 2, 45, 4, 5, 6, 7, 8, 43, 10]))
              (.step (.mk [28, 29, 30, 31, 32, 33]) <|
              .step (.ml [36]) <|
              .step (.app 6 32 9 37) <|
              .step (.bin .neq 34 16) <|
              .step (.bin .add 3 25) <|
              .ret [16, 40, 34]))
            (.step (.ci .i64 1) <|
            .step (.bin .add 3 25) <|
            .step (.call 29 [26, 14] 0) <|
            .step (.cell 0 27) <|
            .step (.cell 1 27) <|
            .step (.cell 2 27) <|
            .step (.cell 3 27) <|
            .step (.cell 4 27) <|
            .step (.call 29 [26, 14] 1) <|
            .step (.bin .eql 33 16) <|
            .ite 34
              (.step (.len 10) <|
              .step (.ci .i64 1000) <|
              .step (.bin .eql 35 36) <|
              .ite 37
                (.step (.mk [28, 29, 30, 31, 32]) <|
                .step (.ml [38]) <|
                .step (.app 5 48 10 39) <|
                .step (.ci .i64 13) <|
                .ret [16, 26, 41])
                (.step (.mk [28, 29, 30, 31, 32]) <|
                .step (.ml [38]) <|
                .step (.app 5 48 10 39) <|
                .step (.bin .neq 33 16) <|
                .tail 20 [0, 1, 2, 26, 4, 5, 6, 7, 8, 9, 40]))
              (.step (.mk [28, 29, 30, 31, 32]) <|
              .step (.ml [35]) <|
              .step (.app 5 48 10 36) <|
              .step (.bin .neq 33 16) <|
              .ret [16, 26, 33]))))))
    (.step (.ci .i64 1) <|
    .ret [12, 0, 4, 5, 6, 7, 8, 9, 10])
def Ds : List PDef := [d0, d1, d2, d3, d4, .prim fun _ => none, d6, d7, d8, .prim fun _ => none, d10, d11, d12, .prim fun _ => none, .prim fun _ => none, d15, d16, d17, d18, d19, d20, d21, d22, d23, d24, d25, d26, d27, d28, d29, d30, d31, d32, d33, d34, d35, d36, d37, d38, d39, d40, d41, d42, d43, d44]
noncomputable abbrev TT : PProg := TofL Ds
end
end V
end Go.Proofs.YtcnadokjijncjaaGreatDoor
