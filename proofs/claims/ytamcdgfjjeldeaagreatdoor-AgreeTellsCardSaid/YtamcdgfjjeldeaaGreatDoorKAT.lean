/- What functions and loops compute: trees of nodes, found by a driver. -/
import Derived.Test.YtamcdgfjjeldeaaGreatDoorAbsJ
namespace Go.Proofs.YtamcdgfjjeldeaaGreatDoor
open Go Go.Abs
set_option maxRecDepth 100000
set_option linter.unusedVariables false
set_option linter.unusedSimpArgs false
namespace A
/-- postmark/postmarklaw23.AgreeTells, function 13, plain functions []. -/
def d4 : PDef := .fn [.ag 2, .ag 2, .sc, .sc] [.sc] <|
  .step (.cell 0 0) <|
  .step (.cell 1 0) <|
  .step (.cell 0 1) <|
  .step (.cell 1 1) <|
  .step (.ci .u64 1000) <|
  .step (.bin .gtr 5 8) <|
  .ite 9
    (.step (.cb true) <|
    .ret [10])
    (.step (.bin .gtr 7 8) <|
    .ite 10
      (.step (.cb true) <|
      .ret [11])
      (.step (.len 2) <|
      .step (.ci .i64 10) <|
      .step (.bin .gtr 11 12) <|
      .ite 13
        (.step (.cb true) <|
        .ret [14])
        (.step (.ci .i64 0) <|
        .step (.ml []) <|
        .step (.call 5 [2, 3, 15, 15, 11, 14, 6, 7, 4, 5] 0) <|
        .step (.bin .eql 16 14) <|
        .ite 17
          (.step (.cb true) <|
          .ret [18])
          (.step (.call 5 [2, 3, 15, 15, 11, 14, 6, 7, 4, 5] 1) <|
          .step (.call 5 [2, 3, 15, 15, 11, 14, 6, 7, 4, 5] 2) <|
          .step (.call 5 [2, 3, 15, 15, 11, 14, 6, 7, 4, 5] 3) <|
          .step (.call 5 [2, 3, 15, 15, 11, 14, 6, 7, 4, 5] 4) <|
          .step (.call 5 [2, 3, 15, 15, 11, 14, 6, 7, 4, 5] 5) <|
          .step (.call 5 [2, 3, 15, 15, 11, 14, 6, 7, 4, 5] 6) <|
          .step (.call 5 [2, 3, 15, 15, 11, 14, 6, 7, 4, 5] 7) <|
          .step (.call 5 [2, 3, 15, 15, 11, 14, 6, 7, 4, 5] 8) <|
          .step (.mk [24, 25]) <|
          .step (.mk [22, 23]) <|
          .step (.call 1 [26, 27] 0) <|
          .step (.call 1 [26, 27] 1) <|
          .step (.ml [24, 22]) <|
          .step (.ml [25, 23]) <|
          .step (.call 6 [30, 31] 0) <|
          .step (.call 6 [30, 31] 1) <|
          .step (.call 2 [18] 0) <|
          .step (.call 2 [18] 1) <|
          .step (.call 6 [20, 21] 0) <|
          .step (.call 6 [20, 21] 1) <|
          .step (.ci .u64 1) <|
          .step (.bin .lss 24 38) <|
          .ite 39
            (.step (.ci .u64 0) <|
            .step (.bin .eql 24 40) <|
            .ite 41
              (.step (.bin .leq 24 19) <|
              .ite 42
                (.step (.bin .leq 19 25) <|
                .step (.binb .eql 43 43) <|
                .ite 44
                  (.step (.bin .eql 28 32) <|
                  .ite 45
                    (.step (.binb .eql 29 33) <|
                    .ite 46
                      (.step (.bin .eql 34 36) <|
                      .ite 47
                        (.step (.binb .eql 35 37) <|
                        .ret [48])
                        (.step (.cb false) <|
                        .ret [48]))
                      (.step (.cb false) <|
                      .ret [47]))
                    (.step (.cb false) <|
                    .ret [46]))
                  (.step (.cb false) <|
                  .ret [45]))
                (.step (.bin .eql 28 32) <|
                .ite 43
                  (.step (.binb .eql 29 33) <|
                  .ite 44
                    (.step (.bin .eql 34 36) <|
                    .ite 45
                      (.step (.binb .eql 35 37) <|
                      .ret [46])
                      (.step (.cb false) <|
                      .ret [46]))
                    (.step (.cb false) <|
                    .ret [45]))
                  (.step (.cb false) <|
                  .ret [44])))
              (.step (.bin .gtr 24 25) <|
              .ite 42
                (.step (.bin .leq 24 19) <|
                .ite 43
                  (.step (.bin .leq 19 25) <|
                  .step (.binb .eql 44 44) <|
                  .ite 45
                    (.step (.bin .eql 28 32) <|
                    .ite 46
                      (.step (.binb .eql 29 33) <|
                      .ite 47
                        (.step (.bin .eql 34 36) <|
                        .ite 48
                          (.step (.binb .eql 35 37) <|
                          .ret [49])
                          (.step (.cb false) <|
                          .ret [49]))
                        (.step (.cb false) <|
                        .ret [48]))
                      (.step (.cb false) <|
                      .ret [47]))
                    (.step (.cb false) <|
                    .ret [46]))
                  (.step (.bin .eql 28 32) <|
                  .ite 44
                    (.step (.binb .eql 29 33) <|
                    .ite 45
                      (.step (.bin .eql 34 36) <|
                      .ite 46
                        (.step (.binb .eql 35 37) <|
                        .ret [47])
                        (.step (.cb false) <|
                        .ret [47]))
                      (.step (.cb false) <|
                      .ret [46]))
                    (.step (.cb false) <|
                    .ret [45])))
                (.step (.ci .u64 255) <|
                .step (.bin .gtr 25 43) <|
                .ite 44
                  (.step (.bin .leq 24 19) <|
                  .ite 45
                    (.step (.bin .leq 19 25) <|
                    .step (.binb .eql 46 46) <|
                    .ite 47
                      (.step (.bin .eql 28 32) <|
                      .ite 48
                        (.step (.binb .eql 29 33) <|
                        .ite 49
                          (.step (.bin .eql 34 36) <|
                          .ite 50
                            (.step (.binb .eql 35 37) <|
                            .ret [51])
                            (.step (.cb false) <|
                            .ret [51]))
                          (.step (.cb false) <|
                          .ret [50]))
                        (.step (.cb false) <|
                        .ret [49]))
                      (.step (.cb false) <|
                      .ret [48]))
                    (.step (.bin .eql 28 32) <|
                    .ite 46
                      (.step (.binb .eql 29 33) <|
                      .ite 47
                        (.step (.bin .eql 34 36) <|
                        .ite 48
                          (.step (.binb .eql 35 37) <|
                          .ret [49])
                          (.step (.cb false) <|
                          .ret [49]))
                        (.step (.cb false) <|
                        .ret [48]))
                      (.step (.cb false) <|
                      .ret [47])))
                  (.step (.cb false) <|
                  .ret [45]))))
            (.step (.bin .lss 25 24) <|
            .ite 40
              (.step (.ci .u64 0) <|
              .step (.bin .eql 24 41) <|
              .ite 42
                (.step (.bin .leq 24 19) <|
                .ite 43
                  (.step (.bin .leq 19 25) <|
                  .step (.binb .eql 44 44) <|
                  .ite 45
                    (.step (.bin .eql 28 32) <|
                    .ite 46
                      (.step (.binb .eql 29 33) <|
                      .ite 47
                        (.step (.bin .eql 34 36) <|
                        .ite 48
                          (.step (.binb .eql 35 37) <|
                          .ret [49])
                          (.step (.cb false) <|
                          .ret [49]))
                        (.step (.cb false) <|
                        .ret [48]))
                      (.step (.cb false) <|
                      .ret [47]))
                    (.step (.cb false) <|
                    .ret [46]))
                  (.step (.bin .eql 28 32) <|
                  .ite 44
                    (.step (.binb .eql 29 33) <|
                    .ite 45
                      (.step (.bin .eql 34 36) <|
                      .ite 46
                        (.step (.binb .eql 35 37) <|
                        .ret [47])
                        (.step (.cb false) <|
                        .ret [47]))
                      (.step (.cb false) <|
                      .ret [46]))
                    (.step (.cb false) <|
                    .ret [45])))
                (.step (.bin .gtr 24 25) <|
                .ite 43
                  (.step (.bin .leq 24 19) <|
                  .ite 44
                    (.step (.bin .leq 19 25) <|
                    .step (.binb .eql 45 45) <|
                    .ite 46
                      (.step (.bin .eql 28 32) <|
                      .ite 47
                        (.step (.binb .eql 29 33) <|
                        .ite 48
                          (.step (.bin .eql 34 36) <|
                          .ite 49
                            (.step (.binb .eql 35 37) <|
                            .ret [50])
                            (.step (.cb false) <|
                            .ret [50]))
                          (.step (.cb false) <|
                          .ret [49]))
                        (.step (.cb false) <|
                        .ret [48]))
                      (.step (.cb false) <|
                      .ret [47]))
                    (.step (.bin .eql 28 32) <|
                    .ite 45
                      (.step (.binb .eql 29 33) <|
                      .ite 46
                        (.step (.bin .eql 34 36) <|
                        .ite 47
                          (.step (.binb .eql 35 37) <|
                          .ret [48])
                          (.step (.cb false) <|
                          .ret [48]))
                        (.step (.cb false) <|
                        .ret [47]))
                      (.step (.cb false) <|
                      .ret [46])))
                  (.step (.ci .u64 255) <|
                  .step (.bin .gtr 25 44) <|
                  .ite 45
                    (.step (.bin .leq 24 19) <|
                    .ite 46
                      (.step (.bin .leq 19 25) <|
                      .step (.binb .eql 47 47) <|
                      .ite 48
                        (.step (.bin .eql 28 32) <|
                        .ite 49
                          (.step (.binb .eql 29 33) <|
                          .ite 50
                            (.step (.bin .eql 34 36) <|
                            .ite 51
                              (.step (.binb .eql 35 37) <|
                              .ret [52])
                              (.step (.cb false) <|
                              .ret [52]))
                            (.step (.cb false) <|
                            .ret [51]))
                          (.step (.cb false) <|
                          .ret [50]))
                        (.step (.cb false) <|
                        .ret [49]))
                      (.step (.bin .eql 28 32) <|
                      .ite 47
                        (.step (.binb .eql 29 33) <|
                        .ite 48
                          (.step (.bin .eql 34 36) <|
                          .ite 49
                            (.step (.binb .eql 35 37) <|
                            .ret [50])
                            (.step (.cb false) <|
                            .ret [50]))
                          (.step (.cb false) <|
                          .ret [49]))
                        (.step (.cb false) <|
                        .ret [48])))
                    (.step (.cb false) <|
                    .ret [46]))))
              (.step (.ci .u64 255) <|
              .step (.bin .gtr 25 41) <|
              .ite 42
                (.step (.ci .u64 0) <|
                .step (.bin .eql 24 43) <|
                .ite 44
                  (.step (.bin .leq 24 19) <|
                  .ite 45
                    (.step (.bin .leq 19 25) <|
                    .step (.binb .eql 46 46) <|
                    .ite 47
                      (.step (.bin .eql 28 32) <|
                      .ite 48
                        (.step (.binb .eql 29 33) <|
                        .ite 49
                          (.step (.bin .eql 34 36) <|
                          .ite 50
                            (.step (.binb .eql 35 37) <|
                            .ret [51])
                            (.step (.cb false) <|
                            .ret [51]))
                          (.step (.cb false) <|
                          .ret [50]))
                        (.step (.cb false) <|
                        .ret [49]))
                      (.step (.cb false) <|
                      .ret [48]))
                    (.step (.bin .eql 28 32) <|
                    .ite 46
                      (.step (.binb .eql 29 33) <|
                      .ite 47
                        (.step (.bin .eql 34 36) <|
                        .ite 48
                          (.step (.binb .eql 35 37) <|
                          .ret [49])
                          (.step (.cb false) <|
                          .ret [49]))
                        (.step (.cb false) <|
                        .ret [48]))
                      (.step (.cb false) <|
                      .ret [47])))
                  (.step (.bin .gtr 24 25) <|
                  .ite 45
                    (.step (.bin .leq 24 19) <|
                    .ite 46
                      (.step (.bin .leq 19 25) <|
                      .step (.binb .eql 47 47) <|
                      .ite 48
                        (.step (.bin .eql 28 32) <|
                        .ite 49
                          (.step (.binb .eql 29 33) <|
                          .ite 50
                            (.step (.bin .eql 34 36) <|
                            .ite 51
                              (.step (.binb .eql 35 37) <|
                              .ret [52])
                              (.step (.cb false) <|
                              .ret [52]))
                            (.step (.cb false) <|
                            .ret [51]))
                          (.step (.cb false) <|
                          .ret [50]))
                        (.step (.cb false) <|
                        .ret [49]))
                      (.step (.bin .eql 28 32) <|
                      .ite 47
                        (.step (.binb .eql 29 33) <|
                        .ite 48
                          (.step (.bin .eql 34 36) <|
                          .ite 49
                            (.step (.binb .eql 35 37) <|
                            .ret [50])
                            (.step (.cb false) <|
                            .ret [50]))
                          (.step (.cb false) <|
                          .ret [49]))
                        (.step (.cb false) <|
                        .ret [48])))
                    (.step (.bin .leq 24 19) <|
                    .ite 46
                      (.step (.bin .leq 19 25) <|
                      .step (.binb .eql 47 47) <|
                      .ite 48
                        (.step (.bin .eql 28 32) <|
                        .ite 49
                          (.step (.binb .eql 29 33) <|
                          .ite 50
                            (.step (.bin .eql 34 36) <|
                            .ite 51
                              (.step (.binb .eql 35 37) <|
                              .ret [52])
                              (.step (.cb false) <|
                              .ret [52]))
                            (.step (.cb false) <|
                            .ret [51]))
                          (.step (.cb false) <|
                          .ret [50]))
                        (.step (.cb false) <|
                        .ret [49]))
                      (.step (.bin .eql 28 32) <|
                      .ite 47
                        (.step (.binb .eql 29 33) <|
                        .ite 48
                          (.step (.bin .eql 34 36) <|
                          .ite 49
                            (.step (.binb .eql 35 37) <|
                            .ret [50])
                            (.step (.cb false) <|
                            .ret [50]))
                          (.step (.cb false) <|
                          .ret [49]))
                        (.step (.cb false) <|
                        .ret [48])))))
                (.step (.ci .u64 0) <|
                .step (.bin .eql 24 43) <|
                .ite 44
                  (.step (.cb false) <|
                  .ret [45])
                  (.step (.bin .gtr 24 25) <|
                  .ite 45
                    (.step (.cb false) <|
                    .ret [46])
                    (.step (.bin .leq 24 19) <|
                    .ite 46
                      (.step (.bin .leq 19 25) <|
                      .step (.binb .eql 47 47) <|
                      .ite 48
                        (.step (.bin .eql 28 32) <|
                        .ite 49
                          (.step (.binb .eql 29 33) <|
                          .ite 50
                            (.step (.bin .eql 34 36) <|
                            .ite 51
                              (.step (.binb .eql 35 37) <|
                              .ret [52])
                              (.step (.cb false) <|
                              .ret [52]))
                            (.step (.cb false) <|
                            .ret [51]))
                          (.step (.cb false) <|
                          .ret [50]))
                        (.step (.cb false) <|
                        .ret [49]))
                      (.step (.bin .eql 28 32) <|
                      .ite 47
                        (.step (.binb .eql 29 33) <|
                        .ite 48
                          (.step (.bin .eql 34 36) <|
                          .ite 49
                            (.step (.binb .eql 35 37) <|
                            .ret [50])
                            (.step (.cb false) <|
                            .ret [50]))
                          (.step (.cb false) <|
                          .ret [49]))
                        (.step (.cb false) <|
                        .ret [48])))))))))))
/-- postmark/postmarklaw23.AgreeSame, function 14, plain functions []. -/
def d0 : PDef := .fn [.ag 2, .ag 2, .sc] [.sc] <|
  .step (.cell 0 0) <|
  .step (.cell 1 0) <|
  .step (.cell 0 1) <|
  .step (.cell 1 1) <|
  .step (.mk [3, 4]) <|
  .step (.mk [5, 6]) <|
  .step (.call 1 [7, 8] 0) <|
  .step (.call 1 [7, 8] 1) <|
  .step (.call 1 [8, 7] 0) <|
  .step (.call 1 [8, 7] 1) <|
  .step (.call 1 [7, 7] 0) <|
  .step (.call 1 [7, 7] 1) <|
  .step (.bin .neq 9 11) <|
  .ite 15
    (.step (.cb false) <|
    .ret [16])
    (.step (.binb .neq 10 12) <|
    .ite 16
      (.step (.cb false) <|
      .ret [17])
      (.ite 10
        (.step (.cb true) <|
        .step (.binb .neq 17 12) <|
        .ite 18
          (.step (.cb false) <|
          .ret [19])
          (.step (.bin .leq 3 9) <|
          .ite 19
            (.step (.bin .leq 9 4) <|
            .step (.un .not 20) <|
            .ite 21
              (.step (.cb false) <|
              .ret [22])
              (.step (.bin .leq 5 9) <|
              .ite 22
                (.step (.bin .leq 9 6) <|
                .step (.un .not 23) <|
                .ite 24
                  (.step (.cb false) <|
                  .ret [25])
                  (.step (.ci .u64 1) <|
                  .step (.bin .lss 3 25) <|
                  .ite 26
                    (.step (.bin .leq 3 2) <|
                    .ite 27
                      (.step (.bin .leq 2 4) <|
                      .step (.un .not 28) <|
                      .ite 29
                        (.ret [17])
                        (.step (.bin .leq 5 2) <|
                        .ite 30
                          (.step (.bin .leq 2 6) <|
                          .step (.un .not 31) <|
                          .ite 32
                            (.ret [17])
                            (.step (.bin .leq 2 9) <|
                            .ret [33]))
                          (.ret [17])))
                      (.ret [17]))
                    (.step (.bin .lss 4 3) <|
                    .ite 27
                      (.step (.bin .leq 3 2) <|
                      .ite 28
                        (.step (.bin .leq 2 4) <|
                        .step (.un .not 29) <|
                        .ite 30
                          (.ret [17])
                          (.step (.bin .leq 5 2) <|
                          .ite 31
                            (.step (.bin .leq 2 6) <|
                            .step (.un .not 32) <|
                            .ite 33
                              (.ret [17])
                              (.step (.bin .leq 2 9) <|
                              .ret [34]))
                            (.ret [17])))
                        (.ret [17]))
                      (.step (.ci .u64 255) <|
                      .step (.bin .gtr 4 28) <|
                      .ite 29
                        (.step (.bin .leq 3 2) <|
                        .ite 30
                          (.step (.bin .leq 2 4) <|
                          .step (.un .not 31) <|
                          .ite 32
                            (.ret [17])
                            (.step (.bin .leq 5 2) <|
                            .ite 33
                              (.step (.bin .leq 2 6) <|
                              .step (.un .not 34) <|
                              .ite 35
                                (.ret [17])
                                (.step (.bin .leq 2 9) <|
                                .ret [36]))
                              (.ret [17])))
                          (.ret [17]))
                        (.step (.un .not 14) <|
                        .ite 30
                          (.step (.cb false) <|
                          .ret [31])
                          (.step (.bin .neq 13 4) <|
                          .ite 31
                            (.step (.cb false) <|
                            .ret [32])
                            (.step (.bin .leq 3 2) <|
                            .ite 32
                              (.step (.bin .leq 2 4) <|
                              .step (.un .not 33) <|
                              .ite 34
                                (.ret [17])
                                (.step (.bin .leq 5 2) <|
                                .ite 35
                                  (.step (.bin .leq 2 6) <|
                                  .step (.un .not 36) <|
                                  .ite 37
                                    (.ret [17])
                                    (.step (.bin .leq 2 9) <|
                                    .ret [38]))
                                  (.ret [17])))
                              (.ret [17]))))))))
                (.step (.cb false) <|
                .ret [23])))
            (.step (.cb false) <|
            .ret [20])))
        (.step (.cb false) <|
        .step (.binb .neq 17 12) <|
        .ite 18
          (.ret [17])
          (.step (.ci .u64 1) <|
          .step (.bin .lss 3 19) <|
          .ite 20
            (.step (.bin .leq 3 2) <|
            .ite 21
              (.step (.bin .leq 2 4) <|
              .step (.un .not 22) <|
              .ite 23
                (.step (.cb true) <|
                .ret [24])
                (.step (.bin .leq 5 2) <|
                .ite 24
                  (.step (.bin .leq 2 6) <|
                  .step (.un .not 25) <|
                  .ite 26
                    (.step (.cb true) <|
                    .ret [27])
                    (.ret [17]))
                  (.step (.cb true) <|
                  .ret [25])))
              (.step (.cb true) <|
              .ret [22]))
            (.step (.bin .lss 4 3) <|
            .ite 21
              (.step (.bin .leq 3 2) <|
              .ite 22
                (.step (.bin .leq 2 4) <|
                .step (.un .not 23) <|
                .ite 24
                  (.step (.cb true) <|
                  .ret [25])
                  (.step (.bin .leq 5 2) <|
                  .ite 25
                    (.step (.bin .leq 2 6) <|
                    .step (.un .not 26) <|
                    .ite 27
                      (.step (.cb true) <|
                      .ret [28])
                      (.ret [17]))
                    (.step (.cb true) <|
                    .ret [26])))
                (.step (.cb true) <|
                .ret [23]))
              (.step (.ci .u64 255) <|
              .step (.bin .gtr 4 22) <|
              .ite 23
                (.step (.bin .leq 3 2) <|
                .ite 24
                  (.step (.bin .leq 2 4) <|
                  .step (.un .not 25) <|
                  .ite 26
                    (.step (.cb true) <|
                    .ret [27])
                    (.step (.bin .leq 5 2) <|
                    .ite 27
                      (.step (.bin .leq 2 6) <|
                      .step (.un .not 28) <|
                      .ite 29
                        (.step (.cb true) <|
                        .ret [30])
                        (.ret [17]))
                      (.step (.cb true) <|
                      .ret [28])))
                  (.step (.cb true) <|
                  .ret [25]))
                (.step (.un .not 14) <|
                .ite 24
                  (.ret [17])
                  (.step (.bin .neq 13 4) <|
                  .ite 25
                    (.ret [17])
                    (.step (.bin .leq 3 2) <|
                    .ite 26
                      (.step (.bin .leq 2 4) <|
                      .step (.un .not 27) <|
                      .ite 28
                        (.step (.cb true) <|
                        .ret [29])
                        (.step (.bin .leq 5 2) <|
                        .ite 29
                          (.step (.bin .leq 2 6) <|
                          .step (.un .not 30) <|
                          .ite 31
                            (.step (.cb true) <|
                            .ret [32])
                            (.ret [17]))
                          (.step (.cb true) <|
                          .ret [30])))
                      (.step (.cb true) <|
                      .ret [27]))))))))))
/-- postmark/agree.Common, function 73, plain functions []. -/
def d1 : PDef := .fn [.ag 2, .ag 2] [.sc, .sc] <|
  .step (.cell 0 0) <|
  .step (.cell 1 0) <|
  .step (.cell 0 1) <|
  .step (.cell 1 1) <|
  .step (.mk [2, 3]) <|
  .step (.mk [4, 5]) <|
  .step (.ml [6, 7]) <|
  .step (.call 2 [8] 0) <|
  .step (.call 2 [8] 1) <|
  .ret [9, 10]
/-- postmark/postmarkref23.Common, function 74, plain functions []. -/
def d6 : PDef := .fn [.sc, .sc] [.sc, .sc] <|
  .step (.ci .u64 1001) <|
  .step (.call 7 [0, 1, 2] 0) <|
  .step (.ci .i64 0) <|
  .step (.bin .eql 3 4) <|
  .ite 5
    (.step (.call 7 [0, 1, 2] 1) <|
    .step (.cb true) <|
    .ret [6, 7])
    (.step (.ci .u64 0) <|
    .step (.cb false) <|
    .ret [6, 7])
/-- postmark/agree.All, function 75, plain functions []. -/
def d2 : PDef := .fn [.sc] [.sc, .sc] <|
  .step (.len 0) <|
  .step (.ci .i64 0) <|
  .step (.bin .eql 1 2) <|
  .ite 3
    (.step (.ci .u64 0) <|
    .step (.cb false) <|
    .ret [4, 5])
    (.step (.at 2 0 2) <|
    .step (.cell 0 4) <|
    .step (.cell 1 4) <|
    .step (.ci .i64 1) <|
    .step (.lsub 2 0 7 1) <|
    .step (.len 8) <|
    .step (.call 3 [8, 9, 2, 5, 6] 0) <|
    .step (.call 3 [8, 9, 2, 5, 6] 1) <|
    .step (.call 3 [8, 9, 2, 5, 6] 2) <|
    .step (.bin .gtr 11 12) <|
    .ite 13
      (.step (.ci .u64 0) <|
      .step (.cb false) <|
      .ret [14, 15])
      (.step (.cb true) <|
      .ret [12, 14]))
/-- postmark/postmarkref23.Common, function 74, the loop [0]. -/
def d7 : PDef := .tree 3 <|
  .step (.ci .u64 0) <|
  .step (.bin .gtr 2 3) <|
  .ite 4
    (.step (.len 0) <|
    .step (.ci .i64 0) <|
    .step (.bin .gtr 5 6) <|
    .step (.call 8 [0, 1, 2, 7, 5, 6] 0) <|
    .step (.call 8 [0, 1, 2, 7, 5, 6] 1) <|
    .step (.call 8 [0, 1, 2, 7, 5, 6] 2) <|
    .step (.call 8 [0, 1, 2, 7, 5, 6] 3) <|
    .step (.call 8 [0, 1, 2, 7, 5, 6] 4) <|
    .ite 12
      (.step (.ci .u64 1) <|
      .step (.bin .sub 11 13) <|
      .ret [6, 14])
      (.step (.ci .u64 1) <|
      .step (.bin .sub 11 13) <|
      .tail 7 [9, 10, 14]))
    (.step (.ci .i64 1) <|
    .ret [5])
/-- postmark/agree.All, function 75, the loop [0]. -/
def d3 : PDef := .tree 5 <|
  .step (.bin .lss 2 1) <|
  .ite 5
    (.step (.at 2 0 2) <|
    .step (.cell 0 6) <|
    .step (.cell 1 6) <|
    .step (.mm true 3 7) <|
    .step (.mm false 4 8) <|
    .step (.ci .i64 1) <|
    .step (.bin .add 2 11) <|
    .tail 3 [0, 1, 12, 9, 10])
    (.step (.ci .i64 0) <|
    .ret [6, 3, 4])
/-- postmark/postmarkref23.Common, function 74, the loop [0, 0]. -/
def d8 : PDef := .tree 6 <|
  .step (.bin .lss 5 4) <|
  .ite 6
    (.ite 3
      (.step (.at 1 0 5) <|
      .step (.cell 0 7) <|
      .step (.at 1 1 5) <|
      .step (.cell 0 9) <|
      .step (.ci .u64 1) <|
      .step (.bin .sub 2 11) <|
      .step (.bin .leq 8 12) <|
      .ite 13
        (.step (.bin .leq 12 10) <|
        .step (.ci .i64 1) <|
        .step (.bin .add 5 15) <|
        .tail 8 [0, 1, 2, 14, 4, 16])
        (.step (.ci .i64 1) <|
        .step (.bin .add 5 14) <|
        .step (.cb false) <|
        .tail 8 [0, 1, 2, 16, 4, 15]))
      (.step (.ci .i64 1) <|
      .step (.bin .add 5 7) <|
      .step (.cb false) <|
      .tail 8 [0, 1, 2, 9, 4, 8]))
    (.step (.ci .i64 0) <|
    .ret [7, 0, 1, 2, 3])
/-- postmark/postmarklaw23.AgreeTells, function 13, the loop [0]. -/
def d5 : PDef := .tree 10 <|
  .step (.bin .lss 5 4) <|
  .ite 10
    (.step (.at 2 0 5) <|
    .step (.cell 0 11) <|
    .step (.cell 1 11) <|
    .step (.ci .u64 1000) <|
    .step (.bin .gtr 13 14) <|
    .ite 15
      (.step (.ci .i64 0) <|
      .ret [16])
      (.step (.ml [12]) <|
      .step (.app 1 8 2 16) <|
      .step (.ml [13]) <|
      .step (.app 1 8 3 18) <|
      .step (.ci .i64 1) <|
      .step (.bin .add 5 20) <|
      .tail 5 [0, 1, 17, 19, 4, 21, 6, 7, 8, 9]))
    (.step (.ci .i64 1) <|
    .ret [11, 0, 1, 2, 3, 6, 7, 8, 9])
def Ds : List PDef := [d0, d1, d2, d3, d4, d5, d6, d7, d8]
noncomputable abbrev TT : PProg := TofL Ds
end A
end Go.Proofs.YtamcdgfjjeldeaaGreatDoor
