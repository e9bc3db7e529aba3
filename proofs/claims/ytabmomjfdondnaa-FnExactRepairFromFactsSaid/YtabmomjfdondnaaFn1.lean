/- The program's functions, for the abstract machine: printed by gen.py. -/
import Derived.Test.YtabmomjfdondnaaHm28
import Derived.Test.YtabmomjfdondnaaProg
set_option linter.unusedVariables false
set_option maxRecDepth 100000
namespace Go.Proofs.YtabmomjfdondnaaH
open Go
/-- laws.FnExactRepairFromFacts -/
def B6 : CCode :=
  (.seq
   (.reg false [
     (0, ⟨some 2, .box 2 (.t 0), none, [], [0]⟩),
     (1, ⟨some 4, .mv (.c (.bool false)), none, [], [4]⟩)])
   (.seq
    (.seq
     (.reg false [
       (0, ⟨some 17, .mv (.t 1), none, [], []⟩),
       (1, ⟨some 18, .len (.t 17), none, [], [17]⟩),
       (2, ⟨some 19, .bin .gtr (.t 18) (.c (.int .i64 (1048576))), none, [], [18]⟩)])
     (.cond (.t 19)
      (.seq
       (.kill [1, 2, 19])
       (.seq
        (.reg false [
          (0, ⟨some 4, .mv (.c (.bool true)), none, [], []⟩)])
        .ret))
      (.seq
       (.kill [19])
       .skip)))
    (.seq
     (.reg false [
       (0, ⟨some 5, .mv (.c (.int .i64 (1048576))), none, [], []⟩)])
     (.seq
      (.reg false [
        (0, ⟨some 20, .ld 2 true (.t 2), none, [], []⟩),
        (1, ⟨some 21, .mv (.t 5), none, [], [5]⟩),
        (2, ⟨some 22, .call 37 [(.t 20), (.t 21)], none, [], [20, 21]⟩),
        (3, ⟨some 5, .mv (.t 22), none, [], [22]⟩)])
      (.seq
       (.seq
        (.reg false [
          (0, ⟨some 23, .mv (.t 5), none, [], [5]⟩),
          (1, ⟨some 24, .bin .lss (.t 23) (.c (.int .i64 (0))), none, [], [23]⟩)])
        (.cond (.t 24)
         (.seq
          (.kill [1, 2, 24])
          (.seq
           (.reg false [
             (0, ⟨some 4, .mv (.c (.bool true)), none, [], []⟩)])
           .ret))
         (.seq
          (.kill [24])
          .skip)))
       (.seq
        (.reg false [
          (0, ⟨some 26, .ld 2 true (.t 2), none, [], []⟩),
          (1, ⟨some 27, .call 39 [(.t 26)], none, [], [26]⟩),
          (2, ⟨some 28, .mv (.t 1), none, [], []⟩),
          (3, ⟨some 29, .call 40 [(.t 28)], none, [], [28]⟩),
          (4, ⟨some 30, .call 38 [(.t 27), (.t 29)], none, [], [27, 29]⟩),
          (5, ⟨some 25, .mv (.t 30), none, [], [30]⟩),
          (6, ⟨some 31, .ex (.t 25) 0, none, [], []⟩),
          (7, ⟨some 32, .ex (.t 25) 1, none, [], [25]⟩),
          (8, ⟨some 6, .mv (.t 31), none, [], [31]⟩),
          (9, ⟨some 7, .mv (.t 32), none, [], [32]⟩)])
        (.seq
         (.reg false [
           (0, ⟨some 33, .ld 2 true (.t 2), none, [], []⟩),
           (1, ⟨some 34, .call 39 [(.t 33)], none, [], [33]⟩),
           (2, ⟨some 8, .al [.nils, .nils], none, [], []⟩),
           (3, ⟨none, .st 2 (.t 8) (.t 34), none, [], [34]⟩)])
         (.seq
          (.reg false [
            (0, ⟨some 35, .mv (.t 1), none, [], []⟩),
            (1, ⟨some 36, .call 40 [(.t 35)], none, [], [35]⟩),
            (2, ⟨some 9, .mv (.t 36), none, [], [36]⟩)])
          (.seq
           (.reg false [
             (0, ⟨some 38, .ld 2 true (.t 8), none, [], []⟩),
             (1, ⟨some 39, .mv (.t 9), none, [], []⟩),
             (2, ⟨some 40, .call 41 [(.t 38), (.t 39)], none, [], [38, 39]⟩),
             (3, ⟨some 37, .mv (.t 40), none, [], [40]⟩),
             (4, ⟨some 41, .ex (.t 37) 0, none, [], []⟩),
             (5, ⟨some 42, .ex (.t 37) 1, none, [], [37]⟩),
             (6, ⟨some 10, .mv (.t 41), none, [], [41]⟩),
             (7, ⟨some 11, .mv (.t 42), none, [], [42]⟩)])
           (.seq
            (.seq
             (.reg false [
               (0, ⟨some 43, .mv (.t 10), none, [], []⟩),
               (1, ⟨some 44, .mv (.t 6), none, [], []⟩),
               (2, ⟨some 45, .call 42 [(.t 43), (.t 44)], none, [], [43, 44]⟩),
               (3, ⟨some 46, .not (.t 45), none, [], [45]⟩),
               (4, ⟨some 47, .mv (.t 46), none, [], [46]⟩),
               (5, ⟨some 48, .mv (.t 11), some (47, false), [], []⟩),
               (6, ⟨some 49, .mv (.t 7), some (47, false), [], []⟩),
               (7, ⟨some 50, .beq true (.t 48) (.t 49), some (47, false), [], [48, 49]⟩),
               (8, ⟨some 51, .pick (.t 47) (.c (.bool true)) (.t 50), none, [], [47, 50]⟩)])
             (.cond (.t 51)
              (.seq
               (.kill [1, 2, 6, 7, 8, 9, 10, 11, 51])
               (.seq
                (.reg false [
                  (0, ⟨some 4, .mv (.c (.bool false)), none, [], []⟩)])
                .ret))
              (.seq
               (.kill [51])
               .skip)))
            (.seq
             (.seq
              (.reg true [
                (0, ⟨some 52, .ld 2 true (.t 8), none, [], []⟩),
                (1, ⟨some 53, .ld 2 true (.t 2), none, [], []⟩),
                (2, ⟨some 54, .call 39 [(.t 53)], none, [(8, 2)], [53]⟩),
                (3, ⟨some 55, .call 43 [(.t 52), (.t 54)], none, [], [52, 54]⟩),
                (4, ⟨some 56, .not (.t 55), none, [], [55]⟩)])
              (.cond (.t 56)
               (.seq
                (.kill [1, 2, 6, 7, 8, 9, 10, 11, 56])
                (.seq
                 (.reg false [
                   (0, ⟨some 4, .mv (.c (.bool false)), none, [], []⟩)])
                 .ret))
               (.seq
                (.kill [56])
                .skip)))
             (.seq
              (.seq
               (.reg false [
                 (0, ⟨some 57, .mv (.t 9), none, [], []⟩),
                 (1, ⟨some 58, .mv (.t 1), none, [], []⟩),
                 (2, ⟨some 59, .call 40 [(.t 58)], none, [], [58]⟩),
                 (3, ⟨some 60, .call 42 [(.t 57), (.t 59)], none, [], [57, 59]⟩),
                 (4, ⟨some 61, .not (.t 60), none, [], [60]⟩)])
               (.cond (.t 61)
                (.seq
                 (.kill [1, 2, 6, 7, 8, 9, 10, 11, 61])
                 (.seq
                  (.reg false [
                    (0, ⟨some 4, .mv (.c (.bool false)), none, [], []⟩)])
                  .ret))
                (.seq
                 (.kill [61])
                 .skip)))
              (.seq
               (.reg false [
                 (0, ⟨some 12, .mv (.c (.int .i64 (1))), none, [], []⟩)])
               (.seq
                (.reg false [
                  (0, ⟨some 62, .ld 2 true (.t 8), none, [], []⟩),
                  (1, ⟨some 63, .mv (.t 12), none, [], [12]⟩),
                  (2, ⟨some 64, .call 44 [(.t 62), (.t 63)], none, [], [8, 62, 63]⟩),
                  (3, ⟨some 12, .mv (.t 64), none, [], [64]⟩)])
                (.seq
                 (.reg false [
                   (0, ⟨some 65, .mv (.t 9), none, [], [9]⟩),
                   (1, ⟨some 66, .mv (.t 12), none, [], [12]⟩),
                   (2, ⟨some 67, .call 45 [(.t 65), (.t 66)], none, [], [65, 66]⟩),
                   (3, ⟨some 12, .mv (.t 67), none, [], [67]⟩)])
                 (.seq
                  (.seq
                   (.reg false [
                     (0, ⟨some 68, .mv (.t 12), none, [], [12]⟩),
                     (1, ⟨some 69, .bin .lss (.t 68) (.c (.int .i64 (0))), none, [], [68]⟩),
                     (2, ⟨some 70, .mv (.t 69), none, [], [69]⟩),
                     (3, ⟨some 71, .mv (.t 10), some (70, false), [], []⟩),
                     (4, ⟨some 72, .mv (.t 6), some (70, false), [], []⟩),
                     (5, ⟨some 73, .call 42 [(.t 71), (.t 72)], some (70, false), [], [71, 72]⟩),
                     (6, ⟨some 74, .not (.t 73), some (70, false), [], [73]⟩),
                     (7, ⟨some 75, .pick (.t 70) (.c (.bool true)) (.t 74), none, [], [70, 74]⟩),
                     (8, ⟨some 76, .mv (.t 75), none, [], [75]⟩),
                     (9, ⟨some 77, .mv (.t 11), some (76, false), [], [11]⟩),
                     (10, ⟨some 78, .mv (.t 7), some (76, false), [], []⟩),
                     (11, ⟨some 79, .beq true (.t 77) (.t 78), some (76, false), [], [77, 78]⟩),
                     (12, ⟨some 80, .pick (.t 76) (.c (.bool true)) (.t 79), none, [], [76, 79]⟩)])
                   (.cond (.t 80)
                    (.seq
                     (.kill [1, 2, 6, 7, 10, 80])
                     (.seq
                      (.reg false [
                        (0, ⟨some 4, .mv (.c (.bool false)), none, [], []⟩)])
                      .ret))
                    (.seq
                     (.kill [80])
                     .skip)))
                  (.seq
                   (.reg false [
                     (0, ⟨some 13, .mv (.c (.int .i64 (1))), none, [], []⟩)])
                   (.seq
                    (.reg false [
                      (0, ⟨some 81, .mv (.t 10), none, [], []⟩),
                      (1, ⟨some 82, .mv (.t 13), none, [], [13]⟩),
                      (2, ⟨some 83, .call 45 [(.t 81), (.t 82)], none, [], [81, 82]⟩),
                      (3, ⟨some 13, .mv (.t 83), none, [], [83]⟩)])
                    (.seq
                     (.reg false [
                       (0, ⟨some 14, .mv (.c (.int .i64 (1))), none, [], []⟩)])
                     (.seq
                      (.reg false [
                        (0, ⟨some 84, .mv (.t 10), none, [], []⟩),
                        (1, ⟨some 85, .mv (.t 14), none, [], [14]⟩),
                        (2, ⟨some 86, .call 46 [(.t 84), (.t 85)], none, [], [84, 85]⟩),
                        (3, ⟨some 14, .mv (.t 86), none, [], [86]⟩)])
                      (.seq
                       (.seq
                        (.reg false [
                          (0, ⟨some 87, .mv (.t 14), none, [], []⟩),
                          (1, ⟨some 88, .bin .lss (.t 87) (.c (.int .i64 (0))), none, [], [87]⟩)])
                        (.cond (.t 88)
                         (.seq
                          (.kill [1, 2, 6, 7, 10, 13, 14, 88])
                          (.seq
                           (.reg false [
                             (0, ⟨some 4, .mv (.c (.bool false)), none, [], []⟩)])
                           .ret))
                         (.seq
                          (.kill [88])
                          .skip)))
                       (.seq
                        (.seq
                         (.reg false [
                           (0, ⟨some 89, .mv (.t 14), none, [], [14]⟩),
                           (1, ⟨some 90, .mv (.t 13), none, [], []⟩),
                           (2, ⟨some 91, .bin .neq (.t 89) (.t 90), none, [], [89, 90]⟩)])
                         (.cond (.t 91)
                          (.seq
                           (.kill [1, 2, 6, 7, 10, 13, 91])
                           (.seq
                            (.reg false [
                              (0, ⟨some 4, .mv (.c (.bool false)), none, [], []⟩)])
                            .ret))
                          (.seq
                           (.kill [91])
                           .skip)))
                        (.seq
                         (.reg false [
                           (0, ⟨some 93, .ld 2 true (.t 2), none, [], []⟩),
                           (1, ⟨some 94, .call 39 [(.t 93)], none, [], [2, 93]⟩),
                           (2, ⟨some 95, .mv (.t 1), none, [], [1]⟩),
                           (3, ⟨some 96, .call 40 [(.t 95)], none, [], [95]⟩),
                           (4, ⟨some 97, .call 41 [(.t 94), (.t 96)], none, [], [94, 96]⟩),
                           (5, ⟨some 92, .mv (.t 97), none, [], [97]⟩),
                           (6, ⟨some 98, .ex (.t 92) 0, none, [], []⟩),
                           (7, ⟨some 99, .ex (.t 92) 1, none, [], [92]⟩),
                           (8, ⟨some 15, .mv (.t 98), none, [], [98]⟩),
                           (9, ⟨some 16, .mv (.t 99), none, [], [99]⟩)])
                         (.seq
                          (.seq
                           (.reg false [
                             (0, ⟨some 100, .mv (.t 15), none, [], [15]⟩),
                             (1, ⟨some 101, .mv (.t 6), none, [], [6]⟩),
                             (2, ⟨some 102, .call 42 [(.t 100), (.t 101)], none, [], [100, 101]⟩),
                             (3, ⟨some 103, .not (.t 102), none, [], [102]⟩),
                             (4, ⟨some 104, .mv (.t 103), none, [], [103]⟩),
                             (5, ⟨some 105, .mv (.t 16), some (104, false), [], [16]⟩),
                             (6, ⟨some 106, .mv (.t 7), some (104, false), [], [7]⟩),
                             (7, ⟨some 107, .beq true (.t 105) (.t 106), some (104, false), [], [105, 106]⟩),
                             (8, ⟨some 108, .pick (.t 104) (.c (.bool true)) (.t 107), none, [], [104, 107]⟩)])
                           (.cond (.t 108)
                            (.seq
                             (.kill [10, 13, 108])
                             (.seq
                              (.reg false [
                                (0, ⟨some 4, .mv (.c (.bool false)), none, [], []⟩)])
                              .ret))
                            (.seq
                             (.kill [108])
                             .skip)))
                          (.seq
                           (.reg false [
                             (0, ⟨some 14, .mv (.c (.int .i64 (1))), none, [], []⟩)])
                           (.seq
                            (.reg false [
                              (0, ⟨some 109, .mv (.t 10), none, [], [10]⟩),
                              (1, ⟨some 110, .mv (.t 14), none, [], [14]⟩),
                              (2, ⟨some 111, .call 46 [(.t 109), (.t 110)], none, [], [109, 110]⟩),
                              (3, ⟨some 14, .mv (.t 111), none, [], [111]⟩)])
                            (.seq
                             (.seq
                              (.reg false [
                                (0, ⟨some 112, .mv (.t 14), none, [], []⟩),
                                (1, ⟨some 113, .bin .lss (.t 112) (.c (.int .i64 (0))), none, [], [112]⟩)])
                              (.cond (.t 113)
                               (.seq
                                (.kill [13, 14, 113])
                                (.seq
                                 (.reg false [
                                   (0, ⟨some 4, .mv (.c (.bool false)), none, [], []⟩)])
                                 .ret))
                               (.seq
                                (.kill [113])
                                .skip)))
                             (.seq
                              (.seq
                               (.reg false [
                                 (0, ⟨some 114, .mv (.t 14), none, [], [14]⟩),
                                 (1, ⟨some 115, .mv (.t 13), none, [], [13]⟩),
                                 (2, ⟨some 116, .bin .neq (.t 114) (.t 115), none, [], [114, 115]⟩)])
                               (.cond (.t 116)
                                (.seq
                                 (.kill [116])
                                 (.seq
                                  (.reg false [
                                    (0, ⟨some 4, .mv (.c (.bool false)), none, [], []⟩)])
                                  .ret))
                                (.seq
                                 (.kill [116])
                                 .skip)))
                              (.seq
                               (.reg false [
                                 (0, ⟨some 4, .mv (.c (.bool true)), none, [], []⟩)])
                               .ret)))))))))))))))))))))))))))))
def C6 : CFn := ⟨117, 2, [.t 4], B6⟩

/-- spec.IsValidDatabase -/
def L36_0 : CCode :=
  (.seq
   (.seq
    (.reg false [
      (0, ⟨some 4, .mv (.t 3), none, [], []⟩),
      (1, ⟨some 5, .fa 1 (.t 1), none, [], []⟩),
      (2, ⟨some 6, .ld 1 false (.t 5), none, [], [5]⟩),
      (3, ⟨some 7, .len (.t 6), none, [], [6]⟩),
      (4, ⟨some 8, .bin .lss (.t 4) (.t 7), none, [], [4, 7]⟩)])
    (.cond (.t 8)
     (.seq
      (.kill [8])
      .skip)
     (.seq
      (.kill [3, 8])
      (.exit 0))))
   (.seq
    (.block 1
     (.seq
      (.reg true [
        (0, ⟨some 11, .fa 0 (.t 1), none, [], []⟩),
        (1, ⟨some 12, .ld 1 false (.t 11), none, [], [11]⟩),
        (2, ⟨some 13, .fa 1 (.t 1), none, [], []⟩),
        (3, ⟨some 14, .ld 1 false (.t 13), none, [], [13]⟩),
        (4, ⟨some 15, .mv (.t 3), none, [], []⟩),
        (5, ⟨some 16, .ia 2 (.t 14) (.t 15), none, [], [14]⟩),
        (6, ⟨some 17, .ld 2 true (.t 16), none, [], [16]⟩),
        (7, ⟨some 18, .call 92 [(.t 12), (.t 17)], none, [], [12, 15, 17]⟩),
        (8, ⟨some 19, .not (.t 18), none, [], [18]⟩),
        (9, ⟨some 20, .mv (.t 19), none, [], [19]⟩),
        (10, ⟨some 21, .mv (.t 3), some (20, false), [], []⟩),
        (11, ⟨some 22, .bin .gtr (.t 21) (.c (.int .i64 (0))), some (20, false), [], [21]⟩),
        (12, ⟨some 23, .mv (.t 22), some (20, false), [], [22]⟩),
        (13, ⟨some 24, .fa 1 (.t 1), some (23, true), [], []⟩),
        (14, ⟨some 25, .ld 1 false (.t 24), some (23, true), [], [24]⟩),
        (15, ⟨some 26, .mv (.t 3), some (23, true), [], []⟩),
        (16, ⟨some 27, .bin .sub (.t 26) (.c (.int .i64 (1))), some (23, true), [], [26]⟩),
        (17, ⟨some 28, .ia 2 (.t 25) (.t 27), some (23, true), [], [25]⟩),
        (18, ⟨some 29, .ld 2 true (.t 28), some (23, true), [], [28]⟩),
        (19, ⟨some 30, .fa 1 (.t 1), some (23, true), [], []⟩),
        (20, ⟨some 31, .ld 1 false (.t 30), some (23, true), [], [30]⟩),
        (21, ⟨some 32, .mv (.t 3), some (23, true), [], []⟩),
        (22, ⟨some 33, .ia 2 (.t 31) (.t 32), some (23, true), [], [31]⟩),
        (23, ⟨some 34, .ld 2 true (.t 33), some (23, true), [], [33]⟩),
        (24, ⟨some 35, .call 93 [(.t 29), (.t 34)], some (23, true), [], [27, 29, 32, 34]⟩),
        (25, ⟨some 36, .bin .geq (.t 35) (.c (.int .i64 (0))), some (23, true), [], [35]⟩),
        (26, ⟨some 37, .pick (.t 23) (.t 36) (.c (.bool false)), some (20, false), [], [23, 36]⟩),
        (27, ⟨some 38, .pick (.t 20) (.c (.bool true)) (.t 37), none, [], [20, 37]⟩)])
      (.cond (.t 38)
       (.seq
        (.kill [1, 3, 38])
        (.seq
         (.reg false [
           (0, ⟨some 2, .mv (.c (.bool false)), none, [], []⟩)])
         .ret))
       (.seq
        (.kill [38])
        .skip))))
    (.reg false [
      (0, ⟨some 9, .mv (.t 3), none, [], [3]⟩),
      (1, ⟨some 10, .bin .add (.t 9) (.c (.int .i64 (1))), none, [], [9]⟩),
      (2, ⟨some 3, .mv (.t 10), none, [], [10]⟩)])))
def B36 : CCode :=
  (.seq
   (.reg false [
     (0, ⟨some 1, .box 2 (.t 0), none, [], [0]⟩),
     (1, ⟨some 2, .mv (.c (.bool false)), none, [], [2]⟩)])
   (.seq
    (.seq
     (.reg false [
       (0, ⟨some 3, .mv (.c (.int .i64 (0))), none, [], []⟩)])
     (.block 0
      (.loop L36_0)))
    (.seq
     (.reg false [
       (0, ⟨some 39, .fa 0 (.t 1), none, [], []⟩),
       (1, ⟨some 40, .ld 1 false (.t 39), none, [], [39]⟩),
       (2, ⟨some 41, .call 94 [(.t 40)], none, [], [40]⟩),
       (3, ⟨some 42, .mv (.t 41), none, [], [41]⟩),
       (4, ⟨some 43, .fa 1 (.t 1), some (42, true), [], []⟩),
       (5, ⟨some 44, .ld 1 false (.t 43), some (42, true), [], [43]⟩),
       (6, ⟨some 45, .len (.t 44), some (42, true), [], [1, 44]⟩),
       (7, ⟨some 46, .bin .leq (.t 45) (.c (.int .i64 (14))), some (42, true), [], [45]⟩),
       (8, ⟨some 47, .pick (.t 42) (.t 46) (.c (.bool false)), none, [], [42, 46]⟩),
       (9, ⟨some 2, .mv (.t 47), none, [], [47]⟩)])
     .ret)))
def C36 : CFn := ⟨48, 1, [.t 2], B36⟩

/-- laws.szDatabase -/
def B37 : CCode :=
  (.seq
   (.reg false [
     (0, ⟨some 2, .box 2 (.t 0), none, [], [0]⟩),
     (1, ⟨some 4, .mv (.c (.int .i64 (0))), none, [], [4]⟩)])
   (.seq
    (.reg false [
      (0, ⟨some 5, .fa 0 (.t 2), none, [], []⟩),
      (1, ⟨some 6, .ld 1 false (.t 5), none, [], [5]⟩),
      (2, ⟨some 7, .mv (.t 1), none, [], [1]⟩),
      (3, ⟨some 8, .call 47 [(.t 6), (.t 7)], none, [], [6, 7]⟩),
      (4, ⟨some 1, .mv (.t 8), none, [], [8]⟩)])
    (.seq
     (.seq
      (.reg false [
        (0, ⟨some 9, .mv (.t 1), none, [], []⟩),
        (1, ⟨some 10, .bin .lss (.t 9) (.c (.int .i64 (0))), none, [], [9]⟩)])
      (.cond (.t 10)
       (.seq
        (.kill [1, 2, 10])
        (.seq
         (.reg false [
           (0, ⟨some 4, .mv (.c (.int .i64 (-1))), none, [], []⟩)])
         .ret))
       (.seq
        (.kill [10])
        .skip)))
     (.seq
      (.reg false [
        (0, ⟨some 11, .fa 1 (.t 2), none, [], []⟩),
        (1, ⟨some 12, .ld 1 false (.t 11), none, [], [11]⟩),
        (2, ⟨some 13, .mv (.t 1), none, [], [1]⟩),
        (3, ⟨some 14, .call 95 [(.t 12), (.t 13)], none, [], [2, 12, 13]⟩),
        (4, ⟨some 1, .mv (.t 14), none, [], [14]⟩)])
      (.seq
       (.seq
        (.reg false [
          (0, ⟨some 15, .mv (.t 1), none, [], []⟩),
          (1, ⟨some 16, .bin .lss (.t 15) (.c (.int .i64 (0))), none, [], [15]⟩)])
        (.cond (.t 16)
         (.seq
          (.kill [1, 16])
          (.seq
           (.reg false [
             (0, ⟨some 4, .mv (.c (.int .i64 (-1))), none, [], []⟩)])
           .ret))
         (.seq
          (.kill [16])
          .skip)))
       (.seq
        (.reg false [
          (0, ⟨some 17, .mv (.t 1), none, [], [1]⟩),
          (1, ⟨some 4, .mv (.t 17), none, [], [17]⟩)])
        .ret))))))
def C37 : CFn := ⟨18, 2, [.t 4], B37⟩

/-- spec.RepairFromFacts -/
def L38_1 : CCode :=
  (.seq
   (.seq
    (.reg false [
      (0, ⟨some 30, .mv (.t 10), none, [], []⟩),
      (1, ⟨some 31, .mv (.t 7), none, [], []⟩),
      (2, ⟨some 32, .mv (.t 8), none, [], []⟩),
      (3, ⟨some 33, .ia 1 (.t 31) (.t 32), none, [], []⟩),
      (4, ⟨some 34, .ld 1 false (.t 33), none, [], [33]⟩),
      (5, ⟨some 35, .len (.t 34), none, [], [31, 32, 34]⟩),
      (6, ⟨some 36, .bin .lss (.t 30) (.t 35), none, [], [30, 35]⟩),
      (7, ⟨some 37, .mv (.t 36), none, [], [36]⟩),
      (8, ⟨some 38, .mv (.t 9), some (37, true), [], []⟩),
      (9, ⟨some 39, .not (.t 38), some (37, true), [], [38]⟩),
      (10, ⟨some 40, .pick (.t 37) (.t 39) (.c (.bool false)), none, [], [37, 39]⟩)])
    (.cond (.t 40)
     (.seq
      (.kill [40])
      .skip)
     (.seq
      (.kill [10, 40])
      (.exit 2))))
   (.seq
    (.block 3
     (.seq
      (.reg false [
        (0, ⟨some 43, .mv (.t 1), none, [], []⟩),
        (1, ⟨some 44, .mv (.t 7), none, [], []⟩),
        (2, ⟨some 45, .mv (.t 8), none, [], []⟩),
        (3, ⟨some 46, .ia 1 (.t 44) (.t 45), none, [], []⟩),
        (4, ⟨some 47, .ld 1 false (.t 46), none, [], [46]⟩),
        (5, ⟨some 48, .mv (.t 10), none, [], []⟩),
        (6, ⟨some 49, .ia 1 (.t 47) (.t 48), none, [], [47]⟩),
        (7, ⟨some 50, .ld 1 false (.t 49), none, [], [44, 45, 48, 49]⟩),
        (8, ⟨some 51, .call 98 [(.t 43), (.t 50)], none, [], [43, 50]⟩)])
      (.cond (.t 51)
       (.seq
        (.kill [9, 51])
        (.seq
         (.reg false [
           (0, ⟨some 52, .mv (.t 6), none, [], [6]⟩),
           (1, ⟨some 53, .mv (.t 7), none, [], []⟩),
           (2, ⟨some 54, .mv (.t 8), none, [], []⟩),
           (3, ⟨some 55, .ia 1 (.t 53) (.t 54), none, [], []⟩),
           (4, ⟨some 56, .ld 1 false (.t 55), none, [], [55]⟩),
           (5, ⟨some 57, .mv (.t 10), none, [], []⟩),
           (6, ⟨some 58, .ia 1 (.t 56) (.t 57), none, [], [56]⟩),
           (7, ⟨some 59, .ld 1 false (.t 58), none, [], [53, 54, 57, 58]⟩),
           (8, ⟨some 60, .bsl 1 1 [.int .i64 (0)] [(0, 1, (.t 59))], none, [], [59]⟩),
           (9, ⟨some 61, .app 1 8 (.t 52) (.t 60), none, [], [52, 60]⟩),
           (10, ⟨some 6, .mv (.t 61), none, [], [61]⟩)])
         (.reg false [
           (0, ⟨some 9, .mv (.c (.bool true)), none, [], []⟩)])))
       (.seq
        (.kill [51])
        .skip))))
    (.reg false [
      (0, ⟨some 41, .mv (.t 10), none, [], [10]⟩),
      (1, ⟨some 42, .bin .add (.t 41) (.c (.int .i64 (1))), none, [], [41]⟩),
      (2, ⟨some 10, .mv (.t 42), none, [], [42]⟩)])))
def L38_0 : CCode :=
  (.seq
   (.seq
    (.reg false [
      (0, ⟨some 24, .mv (.t 8), none, [], []⟩),
      (1, ⟨some 25, .mv (.t 7), none, [], []⟩),
      (2, ⟨some 26, .len (.t 25), none, [], [25]⟩),
      (3, ⟨some 27, .bin .lss (.t 24) (.t 26), none, [], [24, 26]⟩)])
    (.cond (.t 27)
     (.seq
      (.kill [27])
      .skip)
     (.seq
      (.kill [1, 7, 8, 27])
      (.exit 0))))
   (.seq
    (.block 1
     (.seq
      (.reg false [
        (0, ⟨some 9, .mv (.c (.bool false)), none, [], []⟩)])
      (.seq
       (.seq
        (.reg false [
          (0, ⟨some 10, .mv (.c (.int .i64 (0))), none, [], []⟩)])
        (.block 2
         (.loop L38_1)))
       (.seq
        (.reg false [
          (0, ⟨some 62, .mv (.t 9), none, [], [9]⟩),
          (1, ⟨some 63, .not (.t 62), none, [], [62]⟩)])
        (.cond (.t 63)
         (.seq
          (.kill [1, 6, 7, 8, 63])
          (.seq
           (.reg false [
             (0, ⟨some 64, .bsl 1 0 [.int .i64 (0)] [], none, [], []⟩),
             (1, ⟨some 4, .mv (.t 64), none, [], [64]⟩),
             (2, ⟨some 5, .mv (.c (.bool false)), none, [], []⟩)])
           .ret))
         (.seq
          (.kill [63])
          .skip))))))
    (.reg false [
      (0, ⟨some 28, .mv (.t 8), none, [], [8]⟩),
      (1, ⟨some 29, .bin .add (.t 28) (.c (.int .i64 (1))), none, [], [28]⟩),
      (2, ⟨some 8, .mv (.t 29), none, [], [29]⟩)])))
def B38 : CCode :=
  (.seq
   (.reg false [
     (0, ⟨some 2, .box 2 (.t 0), none, [], [0]⟩),
     (1, ⟨some 4, .mv (.c (.nils)), none, [], [4]⟩),
     (2, ⟨some 5, .mv (.c (.bool false)), none, [], [5]⟩)])
   (.seq
    (.seq
     (.reg false [
       (0, ⟨some 11, .ld 2 true (.t 2), none, [], []⟩),
       (1, ⟨some 12, .call 36 [(.t 11)], none, [], [11]⟩),
       (2, ⟨some 13, .not (.t 12), none, [], [12]⟩),
       (3, ⟨some 14, .mv (.t 13), none, [], [13]⟩),
       (4, ⟨some 15, .ld 2 true (.t 2), some (14, false), [], []⟩),
       (5, ⟨some 16, .mv (.t 1), some (14, false), [], []⟩),
       (6, ⟨some 17, .call 96 [(.t 15), (.t 16)], some (14, false), [], [15, 16]⟩),
       (7, ⟨some 18, .not (.t 17), some (14, false), [], [17]⟩),
       (8, ⟨some 19, .pick (.t 14) (.c (.bool true)) (.t 18), none, [], [14, 18]⟩)])
     (.cond (.t 19)
      (.seq
       (.kill [1, 2, 19])
       (.seq
        (.reg false [
          (0, ⟨some 20, .bsl 1 0 [.int .i64 (0)] [], none, [], []⟩),
          (1, ⟨some 4, .mv (.t 20), none, [], [20]⟩),
          (2, ⟨some 5, .mv (.c (.bool false)), none, [], []⟩)])
        .ret))
      (.seq
       (.kill [19])
       .skip)))
    (.seq
     (.reg false [
       (0, ⟨some 21, .bsl 1 0 [.int .i64 (0)] [], none, [], []⟩),
       (1, ⟨some 6, .mv (.t 21), none, [], [21]⟩)])
     (.seq
      (.reg false [
        (0, ⟨some 22, .ld 2 true (.t 2), none, [], []⟩),
        (1, ⟨some 23, .call 97 [(.t 22)], none, [], [2, 22]⟩),
        (2, ⟨some 7, .mv (.t 23), none, [], [23]⟩)])
      (.seq
       (.seq
        (.reg false [
          (0, ⟨some 8, .mv (.c (.int .i64 (0))), none, [], []⟩)])
        (.block 0
         (.loop L38_0)))
       (.seq
        (.reg false [
          (0, ⟨some 65, .mv (.t 6), none, [], [6]⟩),
          (1, ⟨some 66, .call 99 [(.t 65)], none, [], [65]⟩),
          (2, ⟨some 4, .mv (.t 66), none, [], [66]⟩),
          (3, ⟨some 5, .mv (.c (.bool true)), none, [], []⟩)])
        .ret))))))
def C38 : CFn := ⟨67, 2, [.t 4, .t 5], B38⟩

/-- laws.toDatabase -/
def B39 : CCode :=
  (.seq
   (.reg false [
     (0, ⟨some 1, .box 2 (.t 0), none, [], [0]⟩),
     (1, ⟨some 2, .al [.nils, .nils], none, [], []⟩)])
   (.seq
    (.reg false [
      (0, ⟨some 3, .al [.nils, .nils], none, [], []⟩)])
    (.seq
     (.reg false [
       (0, ⟨some 4, .fa 0 (.t 1), none, [], []⟩),
       (1, ⟨some 5, .ld 1 false (.t 4), none, [], [4]⟩),
       (2, ⟨some 6, .call 50 [(.t 5)], none, [], [5]⟩),
       (3, ⟨some 7, .fa 0 (.t 3), none, [], []⟩),
       (4, ⟨none, .st 1 (.t 7) (.t 6), none, [], [6, 7]⟩)])
     (.seq
      (.reg false [
        (0, ⟨some 8, .fa 1 (.t 1), none, [], []⟩),
        (1, ⟨some 9, .ld 1 false (.t 8), none, [], [8]⟩),
        (2, ⟨some 10, .call 100 [(.t 9)], none, [], [1, 9]⟩),
        (3, ⟨some 11, .fa 1 (.t 3), none, [], []⟩),
        (4, ⟨none, .st 1 (.t 11) (.t 10), none, [], [10, 11]⟩)])
      (.seq
       (.reg false [
         (0, ⟨some 12, .ld 2 true (.t 3), none, [], []⟩),
         (1, ⟨none, .st 2 (.t 2) (.t 12), none, [], [3, 12]⟩)])
       .ret)))))
def C39 : CFn := ⟨13, 1, [.m 2 2 true], B39⟩

/-- laws.toIntS -/
def L40_0 : CCode :=
  (.seq
   (.seq
    (.reg false [
      (0, ⟨some 8, .mv (.t 4), none, [], []⟩),
      (1, ⟨some 9, .mv (.t 0), none, [], []⟩),
      (2, ⟨some 10, .len (.t 9), none, [], [9]⟩),
      (3, ⟨some 11, .bin .lss (.t 8) (.t 10), none, [], [8, 10]⟩)])
    (.cond (.t 11)
     (.seq
      (.kill [11])
      .skip)
     (.seq
      (.kill [0, 4, 11])
      (.exit 0))))
   (.seq
    (.block 1
     (.reg false [
       (0, ⟨some 14, .mv (.t 3), none, [], []⟩),
       (1, ⟨some 15, .mv (.t 4), none, [], []⟩),
       (2, ⟨some 16, .mv (.t 0), none, [], []⟩),
       (3, ⟨some 17, .mv (.t 4), none, [], []⟩),
       (4, ⟨some 18, .ia 1 (.t 16) (.t 17), none, [], []⟩),
       (5, ⟨some 19, .ld 1 false (.t 18), none, [], [16, 17, 18]⟩),
       (6, ⟨some 20, .ia 1 (.t 14) (.t 15), none, [], []⟩),
       (7, ⟨none, .st 1 (.t 20) (.t 19), none, [], [14, 15, 19, 20]⟩)]))
    (.reg false [
      (0, ⟨some 12, .mv (.t 4), none, [], [4]⟩),
      (1, ⟨some 13, .bin .add (.t 12) (.c (.int .i64 (1))), none, [], [12]⟩),
      (2, ⟨some 4, .mv (.t 13), none, [], [13]⟩)])))
def B40 : CCode :=
  (.seq
   (.reg false [
     (0, ⟨some 2, .mv (.c (.nils)), none, [], [2]⟩)])
   (.seq
    (.reg false [
      (0, ⟨some 5, .mv (.t 0), none, [], []⟩),
      (1, ⟨some 6, .len (.t 5), none, [], [5]⟩),
      (2, ⟨some 7, .mk 1 8 [.int .i64 (0)] (.t 6) (.t 6), none, [], [6]⟩),
      (3, ⟨some 3, .mv (.t 7), none, [], [7]⟩)])
    (.seq
     (.seq
      (.reg false [
        (0, ⟨some 4, .mv (.c (.int .i64 (0))), none, [], []⟩)])
      (.block 0
       (.loop L40_0)))
     (.seq
      (.reg false [
        (0, ⟨some 21, .mv (.t 3), none, [], [3]⟩),
        (1, ⟨some 2, .mv (.t 21), none, [], [21]⟩)])
      .ret))))
def C40 : CFn := ⟨22, 1, [.t 2], B40⟩

/-- impl.RepairFromFacts -/
def L41_0 : CCode :=
  (.seq
   (.reg false [
     (0, ⟨some 26, .bin .lss (.t 25) (.t 24), none, [], []⟩)])
   (.seq
    (.cond (.t 26)
     (.seq
      (.kill [26])
      .skip)
     (.seq
      (.kill [3, 23, 24, 25, 26])
      (.exit 0)))
    (.seq
     (.block 1
      (.seq
       (.reg false [
         (0, ⟨some 27, .ia 1 (.t 23) (.t 25), none, [], []⟩),
         (1, ⟨some 28, .ld 1 false (.t 27), none, [], [27]⟩),
         (2, ⟨some 8, .mv (.t 28), none, [], [28]⟩)])
       (.seq
        (.reg false [
          (0, ⟨some 29, .mv (.t 8), none, [], []⟩),
          (1, ⟨some 30, .fn 104 [(.t 3)], none, [], []⟩),
          (2, ⟨some 31, .call 103 [(.t 29), (.t 30)], none, [], [29, 30]⟩),
          (3, ⟨some 9, .mv (.t 31), none, [], [31]⟩)])
        (.seq
         (.seq
          (.reg false [
            (0, ⟨some 32, .mv (.t 9), none, [], []⟩),
            (1, ⟨some 33, .bin .lss (.t 32) (.c (.int .i64 (0))), none, [], [32]⟩)])
          (.cond (.t 33)
           (.seq
            (.kill [3, 6, 8, 9, 23, 24, 25, 33])
            (.seq
             (.reg false [
               (0, ⟨some 4, .mv (.c (.nils)), none, [], []⟩),
               (1, ⟨some 5, .mv (.c (.bool false)), none, [], []⟩)])
             .ret))
           (.seq
            (.kill [33])
            .skip)))
         (.reg false [
           (0, ⟨some 34, .mv (.t 6), none, [], [6]⟩),
           (1, ⟨some 35, .mv (.t 8), none, [], [8]⟩),
           (2, ⟨some 36, .mv (.t 9), none, [], [9]⟩),
           (3, ⟨some 37, .ia 1 (.t 35) (.t 36), none, [], []⟩),
           (4, ⟨some 38, .ld 1 false (.t 37), none, [], [35, 36, 37]⟩),
           (5, ⟨some 39, .bsl 1 1 [.int .i64 (0)] [(0, 1, (.t 38))], none, [], [38]⟩),
           (6, ⟨some 40, .app 1 8 (.t 34) (.t 39), none, [], [34, 39]⟩),
           (7, ⟨some 6, .mv (.t 40), none, [], [40]⟩)])))))
     (.reg false [
       (0, ⟨some 41, .bin .add (.t 25) (.c (.int .i64 (1))), none, [], [25]⟩),
       (1, ⟨some 25, .mv (.t 41), none, [], [41]⟩)]))))
def B41 : CCode :=
  (.seq
   (.reg false [
     (0, ⟨some 2, .box 2 (.t 0), none, [], [0]⟩),
     (1, ⟨some 3, .box 1 (.t 1), none, [], [1]⟩),
     (2, ⟨some 4, .mv (.c (.nils)), none, [], [4]⟩),
     (3, ⟨some 5, .mv (.c (.bool false)), none, [], [5]⟩)])
   (.seq
    (.seq
     (.reg false [
       (0, ⟨some 10, .ld 2 true (.t 2), none, [], []⟩),
       (1, ⟨some 11, .call 86 [(.t 10)], none, [], [10]⟩),
       (2, ⟨some 12, .not (.t 11), none, [], [11]⟩),
       (3, ⟨some 13, .mv (.t 12), none, [], [12]⟩),
       (4, ⟨some 14, .ld 1 false (.t 3), some (13, false), [], []⟩),
       (5, ⟨some 15, .fa 1 (.t 2), some (13, false), [], []⟩),
       (6, ⟨some 16, .ld 1 false (.t 15), some (13, false), [], [15]⟩),
       (7, ⟨some 17, .len (.t 16), some (13, false), [], [16]⟩),
       (8, ⟨some 18, .call 101 [(.t 14), (.t 17)], some (13, false), [], [14, 17]⟩),
       (9, ⟨some 19, .not (.t 18), some (13, false), [], [18]⟩),
       (10, ⟨some 20, .pick (.t 13) (.c (.bool true)) (.t 19), none, [], [13, 19]⟩)])
     (.cond (.t 20)
      (.seq
       (.kill [2, 3, 20])
       (.seq
        (.reg false [
          (0, ⟨some 4, .mv (.c (.nils)), none, [], []⟩),
          (1, ⟨some 5, .mv (.c (.bool false)), none, [], []⟩)])
        .ret))
      (.seq
       (.kill [20])
       .skip)))
    (.seq
     (.reg false [
       (0, ⟨some 21, .bsl 1 0 [.int .i64 (0)] [], none, [], []⟩),
       (1, ⟨some 6, .mv (.t 21), none, [], [21]⟩)])
     (.seq
      (.seq
       (.reg false [
         (0, ⟨some 22, .ld 2 true (.t 2), none, [], []⟩),
         (1, ⟨some 23, .call 102 [(.t 22)], none, [], [2, 22]⟩),
         (2, ⟨some 24, .len (.t 23), none, [], []⟩),
         (3, ⟨some 25, .mv (.c (.int .i64 (0))), none, [], []⟩)])
       (.block 0
        (.loop L41_0)))
      (.seq
       (.reg false [
         (0, ⟨some 42, .mv (.t 6), none, [], [6]⟩),
         (1, ⟨some 4, .mv (.t 42), none, [], [42]⟩),
         (2, ⟨some 5, .mv (.c (.bool true)), none, [], []⟩)])
       .ret)))))
def C41 : CFn := ⟨43, 2, [.t 4, .t 5], B41⟩

/-- laws.eqIntS -/
def L42_0 : CCode :=
  (.seq
   (.seq
    (.reg false [
      (0, ⟨some 11, .mv (.t 5), none, [], []⟩),
      (1, ⟨some 12, .mv (.t 0), none, [], []⟩),
      (2, ⟨some 13, .len (.t 12), none, [], [12]⟩),
      (3, ⟨some 14, .bin .lss (.t 11) (.t 13), none, [], [11, 13]⟩)])
    (.cond (.t 14)
     (.seq
      (.kill [14])
      .skip)
     (.seq
      (.kill [0, 1, 5, 14])
      (.exit 0))))
   (.seq
    (.block 1
     (.seq
      (.reg true [
        (0, ⟨some 17, .mv (.t 0), none, [], []⟩),
        (1, ⟨some 18, .mv (.t 5), none, [], []⟩),
        (2, ⟨some 19, .ia 1 (.t 17) (.t 18), none, [], []⟩),
        (3, ⟨some 20, .ld 1 false (.t 19), none, [], [17, 18, 19]⟩),
        (4, ⟨some 21, .mv (.t 1), none, [], []⟩),
        (5, ⟨some 22, .mv (.t 5), none, [], []⟩),
        (6, ⟨some 23, .ia 1 (.t 21) (.t 22), none, [], []⟩),
        (7, ⟨some 24, .ld 1 false (.t 23), none, [], [21, 22, 23]⟩),
        (8, ⟨some 25, .bin .neq (.t 20) (.t 24), none, [], [20, 24]⟩)])
      (.cond (.t 25)
       (.seq
        (.kill [0, 1, 5, 25])
        (.seq
         (.reg false [
           (0, ⟨some 4, .mv (.c (.bool false)), none, [], []⟩)])
         .ret))
       (.seq
        (.kill [25])
        .skip))))
    (.reg false [
      (0, ⟨some 15, .mv (.t 5), none, [], [5]⟩),
      (1, ⟨some 16, .bin .add (.t 15) (.c (.int .i64 (1))), none, [], [15]⟩),
      (2, ⟨some 5, .mv (.t 16), none, [], [16]⟩)])))
def B42 : CCode :=
  (.seq
   (.reg false [
     (0, ⟨some 4, .mv (.c (.bool false)), none, [], [4]⟩)])
   (.seq
    (.seq
     (.reg false [
       (0, ⟨some 6, .mv (.t 0), none, [], []⟩),
       (1, ⟨some 7, .len (.t 6), none, [], [6]⟩),
       (2, ⟨some 8, .mv (.t 1), none, [], []⟩),
       (3, ⟨some 9, .len (.t 8), none, [], [8]⟩),
       (4, ⟨some 10, .bin .neq (.t 7) (.t 9), none, [], [7, 9]⟩)])
     (.cond (.t 10)
      (.seq
       (.kill [0, 1, 10])
       (.seq
        (.reg false [
          (0, ⟨some 4, .mv (.c (.bool false)), none, [], []⟩)])
        .ret))
      (.seq
       (.kill [10])
       .skip)))
    (.seq
     (.seq
      (.reg false [
        (0, ⟨some 5, .mv (.c (.int .i64 (0))), none, [], []⟩)])
      (.block 0
       (.loop L42_0)))
     (.seq
      (.reg false [
        (0, ⟨some 4, .mv (.c (.bool true)), none, [], []⟩)])
      .ret))))
def C42 : CFn := ⟨26, 2, [.t 4], B42⟩

/-- laws.eqDatabase -/
def B43 : CCode :=
  (.seq
   (.reg false [
     (0, ⟨some 2, .box 2 (.t 0), none, [], [0]⟩),
     (1, ⟨some 3, .box 2 (.t 1), none, [], [1]⟩),
     (2, ⟨some 4, .mv (.c (.bool false)), none, [], [4]⟩)])
   (.seq
    (.seq
     (.reg false [
       (0, ⟨some 5, .fa 0 (.t 2), none, [], []⟩),
       (1, ⟨some 6, .ld 1 false (.t 5), none, [], [5]⟩),
       (2, ⟨some 7, .fa 0 (.t 3), none, [], []⟩),
       (3, ⟨some 8, .ld 1 false (.t 7), none, [], [7]⟩),
       (4, ⟨some 9, .call 53 [(.t 6), (.t 8)], none, [], [6, 8]⟩),
       (5, ⟨some 10, .not (.t 9), none, [], [9]⟩)])
     (.cond (.t 10)
      (.seq
       (.kill [2, 3, 10])
       (.seq
        (.reg false [
          (0, ⟨some 4, .mv (.c (.bool false)), none, [], []⟩)])
        .ret))
      (.seq
       (.kill [10])
       .skip)))
    (.seq
     (.seq
      (.reg false [
        (0, ⟨some 11, .fa 1 (.t 2), none, [], []⟩),
        (1, ⟨some 12, .ld 1 false (.t 11), none, [], [11]⟩),
        (2, ⟨some 13, .fa 1 (.t 3), none, [], []⟩),
        (3, ⟨some 14, .ld 1 false (.t 13), none, [], [13]⟩),
        (4, ⟨some 15, .call 106 [(.t 12), (.t 14)], none, [], [2, 3, 12, 14]⟩),
        (5, ⟨some 16, .not (.t 15), none, [], [15]⟩)])
      (.cond (.t 16)
       (.seq
        (.kill [16])
        (.seq
         (.reg false [
           (0, ⟨some 4, .mv (.c (.bool false)), none, [], []⟩)])
         .ret))
       (.seq
        (.kill [16])
        .skip)))
     (.seq
      (.reg false [
        (0, ⟨some 4, .mv (.c (.bool true)), none, [], []⟩)])
      .ret))))
def C43 : CFn := ⟨17, 2, [.t 4], B43⟩

/-- laws.markDatabase -/
def B44 : CCode :=
  (.seq
   (.reg false [
     (0, ⟨some 2, .box 2 (.t 0), none, [], []⟩),
     (1, ⟨some 4, .mv (.c (.int .i64 (0))), none, [], [4]⟩)])
   (.seq
    (.reg false [
      (0, ⟨some 5, .fa 0 (.t 2), none, [], []⟩),
      (1, ⟨some 6, .ld 1 false (.t 5), none, [], [5]⟩),
      (2, ⟨some 7, .mv (.t 1), none, [], [1]⟩),
      (3, ⟨some 8, .call 107 [(.t 6), (.t 7)], none, [], [6, 7]⟩),
      (4, ⟨some 1, .mv (.t 8), none, [], [8]⟩)])
    (.seq
     (.reg false [
       (0, ⟨some 9, .fa 1 (.t 2), none, [], []⟩),
       (1, ⟨some 10, .ld 1 false (.t 9), none, [], [9]⟩),
       (2, ⟨some 11, .mv (.t 1), none, [], [1]⟩),
       (3, ⟨some 12, .call 108 [(.t 10), (.t 11)], none, [], [2, 10, 11]⟩),
       (4, ⟨some 1, .mv (.t 12), none, [], [12]⟩)])
     (.seq
      (.reg false [
        (0, ⟨some 13, .mv (.t 1), none, [], [1]⟩),
        (1, ⟨some 4, .mv (.t 13), none, [], [13]⟩)])
      .ret))))
def C44 : CFn := ⟨14, 2, [.t 4], B44⟩

/-- laws.markIntS -/
def L45_0 : CCode :=
  (.seq
   (.seq
    (.reg false [
      (0, ⟨some 6, .mv (.t 5), none, [], []⟩),
      (1, ⟨some 7, .mv (.t 0), none, [], []⟩),
      (2, ⟨some 8, .len (.t 7), none, [], [7]⟩),
      (3, ⟨some 9, .bin .lss (.t 6) (.t 8), none, [], [6, 8]⟩)])
    (.cond (.t 9)
     (.seq
      (.kill [9])
      .skip)
     (.seq
      (.kill [5, 9])
      (.exit 0))))
   (.seq
    (.block 1
     (.seq
      (.reg false [
        (0, ⟨some 12, .mv (.t 0), none, [], []⟩),
        (1, ⟨some 13, .mv (.t 5), none, [], []⟩),
        (2, ⟨some 14, .mv (.t 1), none, [], []⟩),
        (3, ⟨some 15, .ia 1 (.t 12) (.t 13), none, [], []⟩),
        (4, ⟨none, .st 1 (.t 15) (.t 14), none, [], [12, 13, 14, 15]⟩)])
      (.reg false [
        (0, ⟨some 16, .mv (.t 1), none, [], [1]⟩),
        (1, ⟨some 17, .bin .add (.t 16) (.c (.int .i64 (1))), none, [], [16]⟩),
        (2, ⟨some 1, .mv (.t 17), none, [], [17]⟩)])))
    (.reg false [
      (0, ⟨some 10, .mv (.t 5), none, [], [5]⟩),
      (1, ⟨some 11, .bin .add (.t 10) (.c (.int .i64 (1))), none, [], [10]⟩),
      (2, ⟨some 5, .mv (.t 11), none, [], [11]⟩)])))
def B45 : CCode :=
  (.seq
   (.reg false [
     (0, ⟨some 4, .mv (.c (.int .i64 (0))), none, [], [4]⟩)])
   (.seq
    (.seq
     (.reg false [
       (0, ⟨some 5, .mv (.c (.int .i64 (0))), none, [], []⟩)])
     (.block 0
      (.loop L45_0)))
    (.seq
     (.reg false [
       (0, ⟨some 18, .mv (.t 1), none, [], [1]⟩),
       (1, ⟨some 4, .mv (.t 18), none, [], [18]⟩)])
     .ret)))
def C45 : CFn := ⟨19, 2, [.t 4], B45⟩

/-- laws.heldIntS -/
def L46_0 : CCode :=
  (.seq
   (.seq
    (.reg false [
      (0, ⟨some 6, .mv (.t 5), none, [], []⟩),
      (1, ⟨some 7, .mv (.t 0), none, [], []⟩),
      (2, ⟨some 8, .len (.t 7), none, [], [7]⟩),
      (3, ⟨some 9, .bin .lss (.t 6) (.t 8), none, [], [6, 8]⟩)])
    (.cond (.t 9)
     (.seq
      (.kill [9])
      .skip)
     (.seq
      (.kill [0, 5, 9])
      (.exit 0))))
   (.seq
    (.block 1
     (.seq
      (.seq
       (.reg false [
         (0, ⟨some 12, .mv (.t 0), none, [], []⟩),
         (1, ⟨some 13, .mv (.t 5), none, [], []⟩),
         (2, ⟨some 14, .ia 1 (.t 12) (.t 13), none, [], []⟩),
         (3, ⟨some 15, .ld 1 false (.t 14), none, [], [12, 13, 14]⟩),
         (4, ⟨some 16, .mv (.t 1), none, [], []⟩),
         (5, ⟨some 17, .bin .neq (.t 15) (.t 16), none, [], [15, 16]⟩)])
       (.cond (.t 17)
        (.seq
         (.kill [0, 1, 5, 17])
         (.seq
          (.reg false [
            (0, ⟨some 4, .mv (.c (.int .i64 (-1))), none, [], []⟩)])
          .ret))
        (.seq
         (.kill [17])
         .skip)))
      (.reg false [
        (0, ⟨some 18, .mv (.t 1), none, [], [1]⟩),
        (1, ⟨some 19, .bin .add (.t 18) (.c (.int .i64 (1))), none, [], [18]⟩),
        (2, ⟨some 1, .mv (.t 19), none, [], [19]⟩)])))
    (.reg false [
      (0, ⟨some 10, .mv (.t 5), none, [], [5]⟩),
      (1, ⟨some 11, .bin .add (.t 10) (.c (.int .i64 (1))), none, [], [10]⟩),
      (2, ⟨some 5, .mv (.t 11), none, [], [11]⟩)])))
def B46 : CCode :=
  (.seq
   (.reg false [
     (0, ⟨some 4, .mv (.c (.int .i64 (0))), none, [], [4]⟩)])
   (.seq
    (.seq
     (.reg false [
       (0, ⟨some 5, .mv (.c (.int .i64 (0))), none, [], []⟩)])
     (.block 0
      (.loop L46_0)))
    (.seq
     (.reg false [
       (0, ⟨some 20, .mv (.t 1), none, [], [1]⟩),
       (1, ⟨some 4, .mv (.t 20), none, [], [20]⟩)])
     .ret)))
def C46 : CFn := ⟨21, 2, [.t 4], B46⟩

/-- laws.szRelationS -/
def L47_0 : CCode :=
  (.seq
   (.seq
    (.reg false [
      (0, ⟨some 12, .mv (.t 5), none, [], []⟩),
      (1, ⟨some 13, .mv (.t 0), none, [], []⟩),
      (2, ⟨some 14, .len (.t 13), none, [], [13]⟩),
      (3, ⟨some 15, .bin .lss (.t 12) (.t 14), none, [], [12, 14]⟩)])
    (.cond (.t 15)
     (.seq
      (.kill [15])
      .skip)
     (.seq
      (.kill [0, 5, 15])
      (.exit 0))))
   (.seq
    (.block 1
     (.seq
      (.reg false [
        (0, ⟨some 18, .mv (.t 0), none, [], []⟩),
        (1, ⟨some 19, .mv (.t 5), none, [], []⟩),
        (2, ⟨some 20, .ia 3 (.t 18) (.t 19), none, [], []⟩),
        (3, ⟨some 21, .ld 3 true (.t 20), none, [], [20]⟩),
        (4, ⟨some 22, .mv (.t 1), none, [], [1]⟩),
        (5, ⟨some 23, .call 109 [(.t 21), (.t 22)], none, [], [18, 19, 21, 22]⟩),
        (6, ⟨some 1, .mv (.t 23), none, [], [23]⟩)])
      (.seq
       (.reg false [
         (0, ⟨some 24, .mv (.t 1), none, [], []⟩),
         (1, ⟨some 25, .bin .lss (.t 24) (.c (.int .i64 (0))), none, [], [24]⟩)])
       (.cond (.t 25)
        (.seq
         (.kill [0, 1, 5, 25])
         (.seq
          (.reg false [
            (0, ⟨some 4, .mv (.c (.int .i64 (-1))), none, [], []⟩)])
          .ret))
        (.seq
         (.kill [25])
         .skip)))))
    (.reg false [
      (0, ⟨some 16, .mv (.t 5), none, [], [5]⟩),
      (1, ⟨some 17, .bin .add (.t 16) (.c (.int .i64 (1))), none, [], [16]⟩),
      (2, ⟨some 5, .mv (.t 17), none, [], [17]⟩)])))
def B47 : CCode :=
  (.seq
   (.reg false [
     (0, ⟨some 4, .mv (.c (.int .i64 (0))), none, [], [4]⟩)])
   (.seq
    (.reg false [
      (0, ⟨some 6, .mv (.t 1), none, [], [1]⟩),
      (1, ⟨some 7, .mv (.t 0), none, [], []⟩),
      (2, ⟨some 8, .len (.t 7), none, [], [7]⟩),
      (3, ⟨some 9, .bin .sub (.t 6) (.t 8), none, [], [6, 8]⟩),
      (4, ⟨some 1, .mv (.t 9), none, [], [9]⟩)])
    (.seq
     (.seq
      (.reg false [
        (0, ⟨some 10, .mv (.t 1), none, [], []⟩),
        (1, ⟨some 11, .bin .lss (.t 10) (.c (.int .i64 (0))), none, [], [10]⟩)])
      (.cond (.t 11)
       (.seq
        (.kill [0, 1, 11])
        (.seq
         (.reg false [
           (0, ⟨some 4, .mv (.c (.int .i64 (-1))), none, [], []⟩)])
         .ret))
       (.seq
        (.kill [11])
        .skip)))
     (.seq
      (.seq
       (.reg false [
         (0, ⟨some 5, .mv (.c (.int .i64 (0))), none, [], []⟩)])
       (.block 0
        (.loop L47_0)))
      (.seq
       (.reg false [
         (0, ⟨some 26, .mv (.t 1), none, [], [1]⟩),
         (1, ⟨some 4, .mv (.t 26), none, [], [26]⟩)])
       .ret)))))
def C47 : CFn := ⟨27, 2, [.t 4], B47⟩

/-- laws.toRelationS -/
def L50_0 : CCode :=
  (.seq
   (.seq
    (.reg false [
      (0, ⟨some 8, .mv (.t 4), none, [], []⟩),
      (1, ⟨some 9, .mv (.t 0), none, [], []⟩),
      (2, ⟨some 10, .len (.t 9), none, [], [9]⟩),
      (3, ⟨some 11, .bin .lss (.t 8) (.t 10), none, [], [8, 10]⟩)])
    (.cond (.t 11)
     (.seq
      (.kill [11])
      .skip)
     (.seq
      (.kill [0, 4, 11])
      (.exit 0))))
   (.seq
    (.block 1
     (.reg false [
       (0, ⟨some 14, .mv (.t 3), none, [], []⟩),
       (1, ⟨some 15, .mv (.t 4), none, [], []⟩),
       (2, ⟨some 16, .mv (.t 0), none, [], []⟩),
       (3, ⟨some 17, .mv (.t 4), none, [], []⟩),
       (4, ⟨some 18, .ia 3 (.t 16) (.t 17), none, [], []⟩),
       (5, ⟨some 19, .ld 3 true (.t 18), none, [], [18]⟩),
       (6, ⟨some 20, .call 114 [(.t 19)], none, [], [16, 17, 19]⟩),
       (7, ⟨some 21, .ia 3 (.t 14) (.t 15), none, [], []⟩),
       (8, ⟨none, .st 3 (.t 21) (.t 20), none, [], [14, 15, 20, 21]⟩)]))
    (.reg false [
      (0, ⟨some 12, .mv (.t 4), none, [], [4]⟩),
      (1, ⟨some 13, .bin .add (.t 12) (.c (.int .i64 (1))), none, [], [12]⟩),
      (2, ⟨some 4, .mv (.t 13), none, [], [13]⟩)])))
def B50 : CCode :=
  (.seq
   (.reg false [
     (0, ⟨some 2, .mv (.c (.nils)), none, [], [2]⟩)])
   (.seq
    (.reg false [
      (0, ⟨some 5, .mv (.t 0), none, [], []⟩),
      (1, ⟨some 6, .len (.t 5), none, [], [5]⟩),
      (2, ⟨some 7, .mk 3 32 [.str [], .int .i64 (0), .int .i64 (0)] (.t 6) (.t 6), none, [], [6]⟩),
      (3, ⟨some 3, .mv (.t 7), none, [], [7]⟩)])
    (.seq
     (.seq
      (.reg false [
        (0, ⟨some 4, .mv (.c (.int .i64 (0))), none, [], []⟩)])
      (.block 0
       (.loop L50_0)))
     (.seq
      (.reg false [
        (0, ⟨some 22, .mv (.t 3), none, [], [3]⟩),
        (1, ⟨some 2, .mv (.t 22), none, [], [22]⟩)])
      .ret))))
def C50 : CFn := ⟨23, 1, [.t 2], B50⟩

/-- laws.eqRelationS -/
def L53_0 : CCode :=
  (.seq
   (.seq
    (.reg false [
      (0, ⟨some 11, .mv (.t 5), none, [], []⟩),
      (1, ⟨some 12, .mv (.t 0), none, [], []⟩),
      (2, ⟨some 13, .len (.t 12), none, [], [12]⟩),
      (3, ⟨some 14, .bin .lss (.t 11) (.t 13), none, [], [11, 13]⟩)])
    (.cond (.t 14)
     (.seq
      (.kill [14])
      .skip)
     (.seq
      (.kill [0, 1, 5, 14])
      (.exit 0))))
   (.seq
    (.block 1
     (.seq
      (.reg true [
        (0, ⟨some 17, .mv (.t 0), none, [], []⟩),
        (1, ⟨some 18, .mv (.t 5), none, [], []⟩),
        (2, ⟨some 19, .ia 3 (.t 17) (.t 18), none, [], []⟩),
        (3, ⟨some 20, .ld 3 true (.t 19), none, [], [19]⟩),
        (4, ⟨some 21, .mv (.t 1), none, [], []⟩),
        (5, ⟨some 22, .mv (.t 5), none, [], []⟩),
        (6, ⟨some 23, .ia 3 (.t 21) (.t 22), none, [], []⟩),
        (7, ⟨some 24, .ld 3 true (.t 23), none, [], [23]⟩),
        (8, ⟨some 25, .call 121 [(.t 20), (.t 24)], none, [], [17, 18, 20, 21, 22, 24]⟩),
        (9, ⟨some 26, .not (.t 25), none, [], [25]⟩)])
      (.cond (.t 26)
       (.seq
        (.kill [0, 1, 5, 26])
        (.seq
         (.reg false [
           (0, ⟨some 4, .mv (.c (.bool false)), none, [], []⟩)])
         .ret))
       (.seq
        (.kill [26])
        .skip))))
    (.reg false [
      (0, ⟨some 15, .mv (.t 5), none, [], [5]⟩),
      (1, ⟨some 16, .bin .add (.t 15) (.c (.int .i64 (1))), none, [], [15]⟩),
      (2, ⟨some 5, .mv (.t 16), none, [], [16]⟩)])))
def B53 : CCode :=
  (.seq
   (.reg false [
     (0, ⟨some 4, .mv (.c (.bool false)), none, [], [4]⟩)])
   (.seq
    (.seq
     (.reg false [
       (0, ⟨some 6, .mv (.t 0), none, [], []⟩),
       (1, ⟨some 7, .len (.t 6), none, [], [6]⟩),
       (2, ⟨some 8, .mv (.t 1), none, [], []⟩),
       (3, ⟨some 9, .len (.t 8), none, [], [8]⟩),
       (4, ⟨some 10, .bin .neq (.t 7) (.t 9), none, [], [7, 9]⟩)])
     (.cond (.t 10)
      (.seq
       (.kill [0, 1, 10])
       (.seq
        (.reg false [
          (0, ⟨some 4, .mv (.c (.bool false)), none, [], []⟩)])
        .ret))
      (.seq
       (.kill [10])
       .skip)))
    (.seq
     (.seq
      (.reg false [
        (0, ⟨some 5, .mv (.c (.int .i64 (0))), none, [], []⟩)])
      (.block 0
       (.loop L53_0)))
     (.seq
      (.reg false [
        (0, ⟨some 4, .mv (.c (.bool true)), none, [], []⟩)])
      .ret))))
def C53 : CFn := ⟨27, 2, [.t 4], B53⟩

/-- laws.szIntS -/
def B64 : CCode :=
  (.seq
   (.reg false [
     (0, ⟨some 4, .mv (.c (.int .i64 (0))), none, [], [4]⟩)])
   (.seq
    (.reg false [
      (0, ⟨some 5, .mv (.t 1), none, [], [1]⟩),
      (1, ⟨some 6, .mv (.t 0), none, [], [0]⟩),
      (2, ⟨some 7, .len (.t 6), none, [], [6]⟩),
      (3, ⟨some 8, .bin .sub (.t 5) (.t 7), none, [], [5, 7]⟩),
      (4, ⟨some 1, .mv (.t 8), none, [], [8]⟩)])
    (.seq
     (.seq
      (.reg false [
        (0, ⟨some 9, .mv (.t 1), none, [], []⟩),
        (1, ⟨some 10, .bin .lss (.t 9) (.c (.int .i64 (0))), none, [], [9]⟩)])
      (.cond (.t 10)
       (.seq
        (.kill [1, 10])
        (.seq
         (.reg false [
           (0, ⟨some 4, .mv (.c (.int .i64 (-1))), none, [], []⟩)])
         .ret))
       (.seq
        (.kill [10])
        .skip)))
     (.seq
      (.reg false [
        (0, ⟨some 11, .mv (.t 1), none, [], [1]⟩),
        (1, ⟨some 4, .mv (.t 11), none, [], [11]⟩)])
      .ret))))
def C64 : CFn := ⟨12, 2, [.t 4], B64⟩

/-- spec.l1In -/
def B71 : CCode :=
  (.seq
   (.reg false [
     (0, ⟨some 6, .mv (.c (.bool false)), none, [], [6]⟩)])
   (.seq
    (.reg false [
      (0, ⟨some 7, .mv (.t 0), none, [], []⟩),
      (1, ⟨some 8, .mv (.t 1), none, [], [1]⟩),
      (2, ⟨some 9, .bin .geq (.t 7) (.t 8), none, [], [7, 8]⟩),
      (3, ⟨some 10, .mv (.t 9), none, [], [9]⟩),
      (4, ⟨some 11, .mv (.t 0), some (10, true), [], [0]⟩),
      (5, ⟨some 12, .mv (.t 2), some (10, true), [], [2]⟩),
      (6, ⟨some 13, .bin .leq (.t 11) (.t 12), some (10, true), [], [11, 12]⟩),
      (7, ⟨some 14, .pick (.t 10) (.t 13) (.c (.bool false)), none, [], [10, 13]⟩),
      (8, ⟨some 6, .mv (.t 14), none, [], [14]⟩)])
    .ret))
def C71 : CFn := ⟨15, 3, [.t 6], B71⟩

/-- slices.ContainsFunc[[]int,int] -/
def B74 : CCode :=
  (.seq
   (.reg false [
     (0, ⟨some 4, .mv (.c (.bool false)), none, [], [4]⟩)])
   (.seq
    (.reg false [
      (0, ⟨some 5, .mv (.t 0), none, [], [0]⟩),
      (1, ⟨some 6, .mv (.t 1), none, [], [1]⟩),
      (2, ⟨some 7, .call 103 [(.t 5), (.t 6)], none, [], [5, 6]⟩),
      (3, ⟨some 8, .bin .geq (.t 7) (.c (.int .i64 (0))), none, [], [7]⟩),
      (4, ⟨some 4, .mv (.t 8), none, [], [8]⟩)])
    .ret))
def C74 : CFn := ⟨9, 2, [.t 4], B74⟩

/-- impl.IsValidDatabase -/
def L86_0 : CCode :=
  (.seq
   (.reg false [
     (0, ⟨some 19, .bin .lss (.t 18) (.t 17), none, [], []⟩)])
   (.seq
    (.cond (.t 19)
     (.seq
      (.kill [19])
      .skip)
     (.seq
      (.kill [1, 16, 17, 18, 19])
      (.exit 0)))
    (.seq
     (.block 1
      (.seq
       (.reg false [
         (0, ⟨some 20, .mv (.t 18), none, [], []⟩),
         (1, ⟨some 21, .ia 2 (.t 16) (.t 18), none, [], []⟩),
         (2, ⟨some 22, .ld 2 true (.t 21), none, [], [21]⟩),
         (3, ⟨some 4, .al [.int .i64 (0), .nils], none, [], []⟩),
         (4, ⟨some 3, .mv (.t 20), none, [], [20]⟩),
         (5, ⟨none, .st 2 (.t 4) (.t 22), none, [], [22]⟩)])
       (.seq
        (.reg true [
          (0, ⟨some 23, .fa 0 (.t 1), none, [], []⟩),
          (1, ⟨some 24, .ld 1 false (.t 23), none, [], [23]⟩),
          (2, ⟨some 25, .ld 2 true (.t 4), none, [], []⟩),
          (3, ⟨some 26, .call 145 [(.t 24), (.t 25)], none, [], [24, 25]⟩),
          (4, ⟨some 27, .not (.t 26), none, [], [26]⟩),
          (5, ⟨some 28, .mv (.t 27), none, [], [27]⟩),
          (6, ⟨some 29, .mv (.t 3), some (28, false), [], []⟩),
          (7, ⟨some 30, .bin .gtr (.t 29) (.c (.int .i64 (0))), some (28, false), [], [29]⟩),
          (8, ⟨some 31, .mv (.t 30), some (28, false), [], [30]⟩),
          (9, ⟨some 32, .fa 1 (.t 1), some (31, true), [], []⟩),
          (10, ⟨some 33, .ld 1 false (.t 32), some (31, true), [], [32]⟩),
          (11, ⟨some 34, .mv (.t 3), some (31, true), [], [3]⟩),
          (12, ⟨some 35, .bin .sub (.t 34) (.c (.int .i64 (1))), some (31, true), [], [34]⟩),
          (13, ⟨some 36, .ia 2 (.t 33) (.t 35), some (31, true), [], [33]⟩),
          (14, ⟨some 37, .ld 2 true (.t 36), some (31, true), [], [36]⟩),
          (15, ⟨some 38, .ld 2 true (.t 4), some (31, true), [], []⟩),
          (16, ⟨some 39, .call 146 [(.t 37), (.t 38)], some (31, true), [], [4, 35, 37, 38]⟩),
          (17, ⟨some 40, .bin .geq (.t 39) (.c (.int .i64 (0))), some (31, true), [], [39]⟩),
          (18, ⟨some 41, .pick (.t 31) (.t 40) (.c (.bool false)), some (28, false), [], [31, 40]⟩),
          (19, ⟨some 42, .pick (.t 28) (.c (.bool true)) (.t 41), none, [], [28, 41]⟩)])
        (.cond (.t 42)
         (.seq
          (.kill [1, 16, 17, 18, 42])
          (.seq
           (.reg false [
             (0, ⟨some 2, .mv (.c (.bool false)), none, [], []⟩)])
           .ret))
         (.seq
          (.kill [42])
          .skip)))))
     (.reg false [
       (0, ⟨some 43, .bin .add (.t 18) (.c (.int .i64 (1))), none, [], [18]⟩),
       (1, ⟨some 18, .mv (.t 43), none, [], [43]⟩)]))))
def B86 : CCode :=
  (.seq
   (.reg false [
     (0, ⟨some 1, .box 2 (.t 0), none, [], [0]⟩),
     (1, ⟨some 2, .mv (.c (.bool false)), none, [], [2]⟩)])
   (.seq
    (.seq
     (.reg false [
       (0, ⟨some 5, .fa 0 (.t 1), none, [], []⟩),
       (1, ⟨some 6, .ld 1 false (.t 5), none, [], [5]⟩),
       (2, ⟨some 7, .call 116 [(.t 6)], none, [], [6]⟩),
       (3, ⟨some 8, .not (.t 7), none, [], [7]⟩),
       (4, ⟨some 9, .mv (.t 8), none, [], [8]⟩),
       (5, ⟨some 10, .fa 1 (.t 1), some (9, false), [], []⟩),
       (6, ⟨some 11, .ld 1 false (.t 10), some (9, false), [], [10]⟩),
       (7, ⟨some 12, .len (.t 11), some (9, false), [], [11]⟩),
       (8, ⟨some 13, .bin .gtr (.t 12) (.c (.int .i64 (14))), some (9, false), [], [12]⟩),
       (9, ⟨some 14, .pick (.t 9) (.c (.bool true)) (.t 13), none, [], [9, 13]⟩)])
     (.cond (.t 14)
      (.seq
       (.kill [1, 14])
       (.seq
        (.reg false [
          (0, ⟨some 2, .mv (.c (.bool false)), none, [], []⟩)])
        .ret))
      (.seq
       (.kill [14])
       .skip)))
    (.seq
     (.seq
      (.reg false [
        (0, ⟨some 15, .fa 1 (.t 1), none, [], []⟩),
        (1, ⟨some 16, .ld 1 false (.t 15), none, [], [15]⟩),
        (2, ⟨some 17, .len (.t 16), none, [], []⟩),
        (3, ⟨some 18, .mv (.c (.int .i64 (0))), none, [], []⟩)])
      (.block 0
       (.loop L86_0)))
     (.seq
      (.reg false [
        (0, ⟨some 2, .mv (.c (.bool true)), none, [], []⟩)])
      .ret))))
def C86 : CFn := ⟨44, 1, [.t 2], B86⟩

/-- impl.within -/
def B87 : CCode :=
  (.seq
   (.reg false [
     (0, ⟨some 6, .mv (.c (.bool false)), none, [], [6]⟩)])
   (.seq
    (.reg false [
      (0, ⟨some 7, .mv (.t 1), none, [], [1]⟩),
      (1, ⟨some 8, .mv (.t 0), none, [], []⟩),
      (2, ⟨some 9, .bin .leq (.t 7) (.t 8), none, [], [7, 8]⟩),
      (3, ⟨some 10, .mv (.t 9), none, [], [9]⟩),
      (4, ⟨some 11, .mv (.t 0), some (10, true), [], [0]⟩),
      (5, ⟨some 12, .mv (.t 2), some (10, true), [], [2]⟩),
      (6, ⟨some 13, .bin .leq (.t 11) (.t 12), some (10, true), [], [11, 12]⟩),
      (7, ⟨some 14, .pick (.t 10) (.t 13) (.c (.bool false)), none, [], [10, 13]⟩),
      (8, ⟨some 6, .mv (.t 14), none, [], [14]⟩)])
    .ret))
def C87 : CFn := ⟨15, 3, [.t 6], B87⟩

/-- spec.IsValidFact -/
def L92_0 : CCode :=
  (.seq
   (.seq
    (.reg false [
      (0, ⟨some 30, .mv (.t 5), none, [], []⟩),
      (1, ⟨some 31, .fa 1 (.t 3), none, [], []⟩),
      (2, ⟨some 32, .ld 1 false (.t 31), none, [], [31]⟩),
      (3, ⟨some 33, .len (.t 32), none, [], [32]⟩),
      (4, ⟨some 34, .bin .lss (.t 30) (.t 33), none, [], [30, 33]⟩)])
    (.cond (.t 34)
     (.seq
      (.kill [34])
      .skip)
     (.seq
      (.kill [3, 5, 34])
      (.exit 0))))
   (.seq
    (.block 1
     (.seq
      (.reg false [
        (0, ⟨some 37, .fa 1 (.t 3), none, [], []⟩),
        (1, ⟨some 38, .ld 1 false (.t 37), none, [], [37]⟩),
        (2, ⟨some 39, .mv (.t 5), none, [], []⟩),
        (3, ⟨some 40, .ia 1 (.t 38) (.t 39), none, [], [38]⟩),
        (4, ⟨some 41, .ld 1 false (.t 40), none, [], [39, 40]⟩),
        (5, ⟨some 42, .call 71 [(.t 41), (.c (.int .i64 (0))), (.c (.int .i64 (9)))], none, [], [41]⟩),
        (6, ⟨some 43, .not (.t 42), none, [], [42]⟩)])
      (.cond (.t 43)
       (.seq
        (.kill [3, 5, 43])
        (.seq
         (.reg false [
           (0, ⟨some 4, .mv (.c (.bool false)), none, [], []⟩)])
         .ret))
       (.seq
        (.kill [43])
        .skip))))
    (.reg false [
      (0, ⟨some 35, .mv (.t 5), none, [], [5]⟩),
      (1, ⟨some 36, .bin .add (.t 35) (.c (.int .i64 (1))), none, [], [35]⟩),
      (2, ⟨some 5, .mv (.t 36), none, [], [36]⟩)])))
def B92 : CCode :=
  (.seq
   (.reg false [
     (0, ⟨some 3, .box 2 (.t 1), none, [], [1]⟩),
     (1, ⟨some 4, .mv (.c (.bool false)), none, [], [4]⟩)])
   (.seq
    (.seq
     (.reg true [
       (0, ⟨some 6, .mv (.t 0), none, [], []⟩),
       (1, ⟨some 7, .call 94 [(.t 6)], none, [], [6]⟩),
       (2, ⟨some 8, .not (.t 7), none, [], [7]⟩),
       (3, ⟨some 9, .mv (.t 8), none, [], [8]⟩),
       (4, ⟨some 10, .fa 0 (.t 3), some (9, false), [], []⟩),
       (5, ⟨some 11, .ld 1 false (.t 10), some (9, false), [], [10]⟩),
       (6, ⟨some 12, .mv (.t 0), some (9, false), [], []⟩),
       (7, ⟨some 13, .len (.t 12), some (9, false), [], [12]⟩),
       (8, ⟨some 14, .bin .sub (.t 13) (.c (.int .i64 (1))), some (9, false), [], [13]⟩),
       (9, ⟨some 15, .call 71 [(.t 11), (.c (.int .i64 (0))), (.t 14)], some (9, false), [], [11, 14]⟩),
       (10, ⟨some 16, .not (.t 15), some (9, false), [], [15]⟩),
       (11, ⟨some 17, .pick (.t 9) (.c (.bool true)) (.t 16), none, [], [9, 16]⟩),
       (12, ⟨some 18, .mv (.t 17), none, [], [17]⟩),
       (13, ⟨some 19, .fa 1 (.t 3), some (18, false), [], []⟩),
       (14, ⟨some 20, .ld 1 false (.t 19), some (18, false), [], [19]⟩),
       (15, ⟨some 21, .len (.t 20), some (18, false), [], [20]⟩),
       (16, ⟨some 22, .mv (.t 0), some (18, false), [], [0]⟩),
       (17, ⟨some 23, .fa 0 (.t 3), some (18, false), [], []⟩),
       (18, ⟨some 24, .ld 1 false (.t 23), some (18, false), [], [23]⟩),
       (19, ⟨some 25, .ia 3 (.t 22) (.t 24), some (18, false), [], []⟩),
       (20, ⟨some 26, .fa 1 (.t 25), some (18, false), [], [25]⟩),
       (21, ⟨some 27, .ld 1 false (.t 26), some (18, false), [], [22, 24, 26]⟩),
       (22, ⟨some 28, .bin .neq (.t 21) (.t 27), some (18, false), [], [21, 27]⟩),
       (23, ⟨some 29, .pick (.t 18) (.c (.bool true)) (.t 28), none, [], [18, 28]⟩)])
     (.cond (.t 29)
      (.seq
       (.kill [3, 29])
       (.seq
        (.reg false [
          (0, ⟨some 4, .mv (.c (.bool false)), none, [], []⟩)])
        .ret))
      (.seq
       (.kill [29])
       .skip)))
    (.seq
     (.seq
      (.reg false [
        (0, ⟨some 5, .mv (.c (.int .i64 (0))), none, [], []⟩)])
      (.block 0
       (.loop L92_0)))
     (.seq
      (.reg false [
        (0, ⟨some 4, .mv (.c (.bool true)), none, [], []⟩)])
      .ret))))
def C92 : CFn := ⟨44, 2, [.t 4], B92⟩

/-- spec.CompareFacts -/
def B93 : CCode :=
  (.seq
   (.reg false [
     (0, ⟨some 2, .box 2 (.t 0), none, [], [0]⟩),
     (1, ⟨some 3, .box 2 (.t 1), none, [], [1]⟩),
     (2, ⟨some 4, .mv (.c (.int .i64 (0))), none, [], [4]⟩)])
   (.seq
    (.seq
     (.reg false [
       (0, ⟨some 5, .fa 0 (.t 2), none, [], []⟩),
       (1, ⟨some 6, .ld 1 false (.t 5), none, [], [5]⟩),
       (2, ⟨some 7, .fa 0 (.t 3), none, [], []⟩),
       (3, ⟨some 8, .ld 1 false (.t 7), none, [], [7]⟩),
       (4, ⟨some 9, .bin .lss (.t 6) (.t 8), none, [], [6, 8]⟩)])
     (.cond (.t 9)
      (.seq
       (.kill [2, 3, 9])
       (.seq
        (.reg false [
          (0, ⟨some 4, .mv (.c (.int .i64 (-1))), none, [], []⟩)])
        .ret))
      (.seq
       (.kill [9])
       .skip)))
    (.seq
     (.seq
      (.reg false [
        (0, ⟨some 10, .fa 0 (.t 2), none, [], []⟩),
        (1, ⟨some 11, .ld 1 false (.t 10), none, [], [10]⟩),
        (2, ⟨some 12, .fa 0 (.t 3), none, [], []⟩),
        (3, ⟨some 13, .ld 1 false (.t 12), none, [], [12]⟩),
        (4, ⟨some 14, .bin .gtr (.t 11) (.t 13), none, [], [11, 13]⟩)])
      (.cond (.t 14)
       (.seq
        (.kill [2, 3, 14])
        (.seq
         (.reg false [
           (0, ⟨some 4, .mv (.c (.int .i64 (1))), none, [], []⟩)])
         .ret))
       (.seq
        (.kill [14])
        .skip)))
     (.seq
      (.reg false [
        (0, ⟨some 15, .fa 1 (.t 2), none, [], []⟩),
        (1, ⟨some 16, .ld 1 false (.t 15), none, [], [15]⟩),
        (2, ⟨some 17, .fa 1 (.t 3), none, [], []⟩),
        (3, ⟨some 18, .ld 1 false (.t 17), none, [], [17]⟩),
        (4, ⟨some 19, .call 153 [(.t 16), (.t 18)], none, [], [2, 3, 16, 18]⟩),
        (5, ⟨some 4, .mv (.t 19), none, [], [19]⟩)])
      .ret))))
def C93 : CFn := ⟨20, 2, [.t 4], B93⟩

/-- spec.AreValidRelations -/
def L94_0 : CCode :=
  (.seq
   (.seq
    (.reg false [
      (0, ⟨some 4, .mv (.t 3), none, [], []⟩),
      (1, ⟨some 5, .mv (.t 0), none, [], []⟩),
      (2, ⟨some 6, .len (.t 5), none, [], [5]⟩),
      (3, ⟨some 7, .bin .lss (.t 4) (.t 6), none, [], [4, 6]⟩)])
    (.cond (.t 7)
     (.seq
      (.kill [7])
      .skip)
     (.seq
      (.kill [3, 7])
      (.exit 0))))
   (.seq
    (.block 1
     (.seq
      (.reg true [
        (0, ⟨some 10, .mv (.t 0), none, [], []⟩),
        (1, ⟨some 11, .mv (.t 3), none, [], []⟩),
        (2, ⟨some 12, .ia 3 (.t 10) (.t 11), none, [], []⟩),
        (3, ⟨some 13, .ld 3 true (.t 12), none, [], [12]⟩),
        (4, ⟨some 14, .call 154 [(.t 13)], none, [], [10, 11, 13]⟩),
        (5, ⟨some 15, .not (.t 14), none, [], [14]⟩),
        (6, ⟨some 16, .mv (.t 15), none, [], [15]⟩),
        (7, ⟨some 17, .mv (.t 3), some (16, false), [], []⟩),
        (8, ⟨some 18, .bin .gtr (.t 17) (.c (.int .i64 (0))), some (16, false), [], [17]⟩),
        (9, ⟨some 19, .mv (.t 18), some (16, false), [], [18]⟩),
        (10, ⟨some 20, .mv (.t 0), some (19, true), [], []⟩),
        (11, ⟨some 21, .mv (.t 3), some (19, true), [], []⟩),
        (12, ⟨some 22, .bin .sub (.t 21) (.c (.int .i64 (1))), some (19, true), [], [21]⟩),
        (13, ⟨some 23, .ia 3 (.t 20) (.t 22), some (19, true), [], []⟩),
        (14, ⟨some 24, .fa 0 (.t 23), some (19, true), [], [23]⟩),
        (15, ⟨some 25, .ld 1 false (.t 24), some (19, true), [], [20, 22, 24]⟩),
        (16, ⟨some 26, .mv (.t 0), some (19, true), [], []⟩),
        (17, ⟨some 27, .mv (.t 3), some (19, true), [], []⟩),
        (18, ⟨some 28, .ia 3 (.t 26) (.t 27), some (19, true), [], []⟩),
        (19, ⟨some 29, .fa 0 (.t 28), some (19, true), [], [28]⟩),
        (20, ⟨some 30, .ld 1 false (.t 29), some (19, true), [], [26, 27, 29]⟩),
        (21, ⟨some 31, .bin .geq (.t 25) (.t 30), some (19, true), [], [25, 30]⟩),
        (22, ⟨some 32, .pick (.t 19) (.t 31) (.c (.bool false)), some (16, false), [], [19, 31]⟩),
        (23, ⟨some 33, .pick (.t 16) (.c (.bool true)) (.t 32), none, [], [16, 32]⟩)])
      (.cond (.t 33)
       (.seq
        (.kill [0, 3, 33])
        (.seq
         (.reg false [
           (0, ⟨some 2, .mv (.c (.bool false)), none, [], []⟩)])
         .ret))
       (.seq
        (.kill [33])
        .skip))))
    (.reg false [
      (0, ⟨some 8, .mv (.t 3), none, [], [3]⟩),
      (1, ⟨some 9, .bin .add (.t 8) (.c (.int .i64 (1))), none, [], [8]⟩),
      (2, ⟨some 3, .mv (.t 9), none, [], [9]⟩)])))
def B94 : CCode :=
  (.seq
   (.reg false [
     (0, ⟨some 2, .mv (.c (.bool false)), none, [], [2]⟩)])
   (.seq
    (.seq
     (.reg false [
       (0, ⟨some 3, .mv (.c (.int .i64 (0))), none, [], []⟩)])
     (.block 0
      (.loop L94_0)))
    (.seq
     (.reg false [
       (0, ⟨some 34, .mv (.t 0), none, [], [0]⟩),
       (1, ⟨some 35, .len (.t 34), none, [], [34]⟩),
       (2, ⟨some 36, .bin .leq (.t 35) (.c (.int .i64 (4))), none, [], [35]⟩),
       (3, ⟨some 2, .mv (.t 36), none, [], [36]⟩)])
     .ret)))
def C94 : CFn := ⟨37, 1, [.t 2], B94⟩

/-- laws.szFactS -/
def L95_0 : CCode :=
  (.seq
   (.seq
    (.reg false [
      (0, ⟨some 12, .mv (.t 5), none, [], []⟩),
      (1, ⟨some 13, .mv (.t 0), none, [], []⟩),
      (2, ⟨some 14, .len (.t 13), none, [], [13]⟩),
      (3, ⟨some 15, .bin .lss (.t 12) (.t 14), none, [], [12, 14]⟩)])
    (.cond (.t 15)
     (.seq
      (.kill [15])
      .skip)
     (.seq
      (.kill [0, 5, 15])
      (.exit 0))))
   (.seq
    (.block 1
     (.seq
      (.reg false [
        (0, ⟨some 18, .mv (.t 0), none, [], []⟩),
        (1, ⟨some 19, .mv (.t 5), none, [], []⟩),
        (2, ⟨some 20, .ia 2 (.t 18) (.t 19), none, [], []⟩),
        (3, ⟨some 21, .ld 2 true (.t 20), none, [], [20]⟩),
        (4, ⟨some 22, .mv (.t 1), none, [], [1]⟩),
        (5, ⟨some 23, .call 155 [(.t 21), (.t 22)], none, [], [18, 19, 21, 22]⟩),
        (6, ⟨some 1, .mv (.t 23), none, [], [23]⟩)])
      (.seq
       (.reg false [
         (0, ⟨some 24, .mv (.t 1), none, [], []⟩),
         (1, ⟨some 25, .bin .lss (.t 24) (.c (.int .i64 (0))), none, [], [24]⟩)])
       (.cond (.t 25)
        (.seq
         (.kill [0, 1, 5, 25])
         (.seq
          (.reg false [
            (0, ⟨some 4, .mv (.c (.int .i64 (-1))), none, [], []⟩)])
          .ret))
        (.seq
         (.kill [25])
         .skip)))))
    (.reg false [
      (0, ⟨some 16, .mv (.t 5), none, [], [5]⟩),
      (1, ⟨some 17, .bin .add (.t 16) (.c (.int .i64 (1))), none, [], [16]⟩),
      (2, ⟨some 5, .mv (.t 17), none, [], [17]⟩)])))
def B95 : CCode :=
  (.seq
   (.reg false [
     (0, ⟨some 4, .mv (.c (.int .i64 (0))), none, [], [4]⟩)])
   (.seq
    (.reg false [
      (0, ⟨some 6, .mv (.t 1), none, [], [1]⟩),
      (1, ⟨some 7, .mv (.t 0), none, [], []⟩),
      (2, ⟨some 8, .len (.t 7), none, [], [7]⟩),
      (3, ⟨some 9, .bin .sub (.t 6) (.t 8), none, [], [6, 8]⟩),
      (4, ⟨some 1, .mv (.t 9), none, [], [9]⟩)])
    (.seq
     (.seq
      (.reg false [
        (0, ⟨some 10, .mv (.t 1), none, [], []⟩),
        (1, ⟨some 11, .bin .lss (.t 10) (.c (.int .i64 (0))), none, [], [10]⟩)])
      (.cond (.t 11)
       (.seq
        (.kill [0, 1, 11])
        (.seq
         (.reg false [
           (0, ⟨some 4, .mv (.c (.int .i64 (-1))), none, [], []⟩)])
         .ret))
       (.seq
        (.kill [11])
        .skip)))
     (.seq
      (.seq
       (.reg false [
         (0, ⟨some 5, .mv (.c (.int .i64 (0))), none, [], []⟩)])
       (.block 0
        (.loop L95_0)))
      (.seq
       (.reg false [
         (0, ⟨some 26, .mv (.t 1), none, [], [1]⟩),
         (1, ⟨some 4, .mv (.t 26), none, [], [26]⟩)])
       .ret)))))
def C95 : CFn := ⟨27, 2, [.t 4], B95⟩

/-- spec.l4Set -/
def L96_0 : CCode :=
  (.seq
   (.seq
    (.reg false [
      (0, ⟨some 6, .mv (.t 5), none, [], []⟩),
      (1, ⟨some 7, .mv (.t 1), none, [], []⟩),
      (2, ⟨some 8, .len (.t 7), none, [], [7]⟩),
      (3, ⟨some 9, .bin .lss (.t 6) (.t 8), none, [], [6, 8]⟩)])
    (.cond (.t 9)
     (.seq
      (.kill [9])
      .skip)
     (.seq
      (.kill [1, 2, 5, 9])
      (.exit 0))))
   (.seq
    (.block 1
     (.seq
      (.reg true [
        (0, ⟨some 12, .mv (.t 1), none, [], []⟩),
        (1, ⟨some 13, .mv (.t 5), none, [], []⟩),
        (2, ⟨some 14, .ia 1 (.t 12) (.t 13), none, [], []⟩),
        (3, ⟨some 15, .ld 1 false (.t 14), none, [], [12, 13, 14]⟩),
        (4, ⟨some 16, .fa 1 (.t 2), none, [], []⟩),
        (5, ⟨some 17, .ld 1 false (.t 16), none, [], [16]⟩),
        (6, ⟨some 18, .len (.t 17), none, [], [17]⟩),
        (7, ⟨some 19, .bin .sub (.t 18) (.c (.int .i64 (1))), none, [], [18]⟩),
        (8, ⟨some 20, .call 71 [(.t 15), (.c (.int .i64 (0))), (.t 19)], none, [], [15, 19]⟩),
        (9, ⟨some 21, .not (.t 20), none, [], [20]⟩),
        (10, ⟨some 22, .mv (.t 21), none, [], [21]⟩),
        (11, ⟨some 23, .mv (.t 5), some (22, false), [], []⟩),
        (12, ⟨some 24, .bin .gtr (.t 23) (.c (.int .i64 (0))), some (22, false), [], [23]⟩),
        (13, ⟨some 25, .mv (.t 24), some (22, false), [], [24]⟩),
        (14, ⟨some 26, .mv (.t 1), some (25, true), [], []⟩),
        (15, ⟨some 27, .mv (.t 5), some (25, true), [], []⟩),
        (16, ⟨some 28, .ia 1 (.t 26) (.t 27), some (25, true), [], []⟩),
        (17, ⟨some 29, .ld 1 false (.t 28), some (25, true), [], [26, 27, 28]⟩),
        (18, ⟨some 30, .mv (.t 1), some (25, true), [], []⟩),
        (19, ⟨some 31, .mv (.t 5), some (25, true), [], []⟩),
        (20, ⟨some 32, .bin .sub (.t 31) (.c (.int .i64 (1))), some (25, true), [], [31]⟩),
        (21, ⟨some 33, .ia 1 (.t 30) (.t 32), some (25, true), [], []⟩),
        (22, ⟨some 34, .ld 1 false (.t 33), some (25, true), [], [30, 32, 33]⟩),
        (23, ⟨some 35, .bin .leq (.t 29) (.t 34), some (25, true), [], [29, 34]⟩),
        (24, ⟨some 36, .pick (.t 25) (.t 35) (.c (.bool false)), some (22, false), [], [25, 35]⟩),
        (25, ⟨some 37, .pick (.t 22) (.c (.bool true)) (.t 36), none, [], [22, 36]⟩)])
      (.cond (.t 37)
       (.seq
        (.kill [1, 2, 5, 37])
        (.seq
         (.reg false [
           (0, ⟨some 4, .mv (.c (.bool false)), none, [], []⟩)])
         .ret))
       (.seq
        (.kill [37])
        .skip))))
    (.reg false [
      (0, ⟨some 10, .mv (.t 5), none, [], [5]⟩),
      (1, ⟨some 11, .bin .add (.t 10) (.c (.int .i64 (1))), none, [], [10]⟩),
      (2, ⟨some 5, .mv (.t 11), none, [], [11]⟩)])))
def B96 : CCode :=
  (.seq
   (.reg false [
     (0, ⟨some 2, .box 2 (.t 0), none, [], [0]⟩),
     (1, ⟨some 4, .mv (.c (.bool false)), none, [], [4]⟩)])
   (.seq
    (.seq
     (.reg false [
       (0, ⟨some 5, .mv (.c (.int .i64 (0))), none, [], []⟩)])
     (.block 0
      (.loop L96_0)))
    (.seq
     (.reg false [
       (0, ⟨some 4, .mv (.c (.bool true)), none, [], []⟩)])
     .ret)))
def C96 : CFn := ⟨38, 2, [.t 4], B96⟩

/-- spec.Blocks -/
def L97_0 : CCode :=
  (.seq
   (.seq
    (.reg false [
      (0, ⟨some 7, .mv (.t 4), none, [], []⟩),
      (1, ⟨some 8, .fa 1 (.t 1), none, [], []⟩),
      (2, ⟨some 9, .ld 1 false (.t 8), none, [], [8]⟩),
      (3, ⟨some 10, .len (.t 9), none, [], [9]⟩),
      (4, ⟨some 11, .bin .lss (.t 7) (.t 10), none, [], [7, 10]⟩),
      (5, ⟨some 12, .mv (.t 11), none, [], [11]⟩),
      (6, ⟨some 13, .ld 2 true (.t 1), some (12, true), [], []⟩),
      (7, ⟨some 14, .call 36 [(.t 13)], some (12, true), [], [13]⟩),
      (8, ⟨some 15, .pick (.t 12) (.t 14) (.c (.bool false)), none, [], [12, 14]⟩)])
    (.cond (.t 15)
     (.seq
      (.kill [15])
      .skip)
     (.seq
      (.kill [1, 4, 15])
      (.exit 0))))
   (.seq
    (.block 1
     (.seq
      (.reg false [
        (0, ⟨some 18, .ld 2 true (.t 1), none, [], []⟩),
        (1, ⟨some 19, .mv (.t 4), none, [], []⟩),
        (2, ⟨some 20, .call 156 [(.t 18), (.t 19)], none, [], [18, 19]⟩),
        (3, ⟨some 5, .mv (.t 20), none, [], [20]⟩)])
      (.seq
       (.reg false [
         (0, ⟨some 21, .mv (.t 5), none, [], []⟩),
         (1, ⟨some 22, .ia 1 (.t 21) (.c (.int .i64 (0))), none, [], []⟩),
         (2, ⟨some 23, .ld 1 false (.t 22), none, [], [21, 22]⟩),
         (3, ⟨some 24, .mv (.t 4), none, [], []⟩),
         (4, ⟨some 25, .bin .eql (.t 23) (.t 24), none, [], [23, 24]⟩)])
       (.cond (.t 25)
        (.seq
         (.kill [25])
         (.reg false [
           (0, ⟨some 26, .mv (.t 3), none, [], [3]⟩),
           (1, ⟨some 27, .mv (.t 5), none, [], [5]⟩),
           (2, ⟨some 28, .bsl 1 1 [.nils] [(0, 1, (.t 27))], none, [], [27]⟩),
           (3, ⟨some 29, .app 1 24 (.t 26) (.t 28), none, [], [26, 28]⟩),
           (4, ⟨some 3, .mv (.t 29), none, [], [29]⟩)]))
        (.seq
         (.kill [5, 25])
         .skip)))))
    (.reg false [
      (0, ⟨some 16, .mv (.t 4), none, [], [4]⟩),
      (1, ⟨some 17, .bin .add (.t 16) (.c (.int .i64 (1))), none, [], [16]⟩),
      (2, ⟨some 4, .mv (.t 17), none, [], [17]⟩)])))
def B97 : CCode :=
  (.seq
   (.reg false [
     (0, ⟨some 1, .box 2 (.t 0), none, [], [0]⟩),
     (1, ⟨some 2, .mv (.c (.nils)), none, [], [2]⟩)])
   (.seq
    (.reg false [
      (0, ⟨some 6, .bsl 1 0 [.nils] [], none, [], []⟩),
      (1, ⟨some 3, .mv (.t 6), none, [], [6]⟩)])
    (.seq
     (.seq
      (.reg false [
        (0, ⟨some 4, .mv (.c (.int .i64 (0))), none, [], []⟩)])
      (.block 0
       (.loop L97_0)))
     (.seq
      (.reg false [
        (0, ⟨some 30, .mv (.t 3), none, [], [3]⟩),
        (1, ⟨some 2, .mv (.t 30), none, [], [30]⟩)])
      .ret))))
def C97 : CFn := ⟨31, 1, [.t 2], B97⟩

/-- spec.l7Has -/
def L98_0 : CCode :=
  (.seq
   (.seq
    (.reg false [
      (0, ⟨some 6, .mv (.t 5), none, [], []⟩),
      (1, ⟨some 7, .mv (.t 0), none, [], []⟩),
      (2, ⟨some 8, .len (.t 7), none, [], [7]⟩),
      (3, ⟨some 9, .bin .lss (.t 6) (.t 8), none, [], [6, 8]⟩)])
    (.cond (.t 9)
     (.seq
      (.kill [9])
      .skip)
     (.seq
      (.kill [0, 1, 5, 9])
      (.exit 0))))
   (.seq
    (.block 1
     (.seq
      (.reg false [
        (0, ⟨some 12, .mv (.t 0), none, [], []⟩),
        (1, ⟨some 13, .mv (.t 5), none, [], []⟩),
        (2, ⟨some 14, .ia 1 (.t 12) (.t 13), none, [], []⟩),
        (3, ⟨some 15, .ld 1 false (.t 14), none, [], [12, 13, 14]⟩),
        (4, ⟨some 16, .mv (.t 1), none, [], []⟩),
        (5, ⟨some 17, .bin .eql (.t 15) (.t 16), none, [], [15, 16]⟩)])
      (.cond (.t 17)
       (.seq
        (.kill [0, 1, 5, 17])
        (.seq
         (.reg false [
           (0, ⟨some 4, .mv (.c (.bool true)), none, [], []⟩)])
         .ret))
       (.seq
        (.kill [17])
        .skip))))
    (.reg false [
      (0, ⟨some 10, .mv (.t 5), none, [], [5]⟩),
      (1, ⟨some 11, .bin .add (.t 10) (.c (.int .i64 (1))), none, [], [10]⟩),
      (2, ⟨some 5, .mv (.t 11), none, [], [11]⟩)])))
def B98 : CCode :=
  (.seq
   (.reg false [
     (0, ⟨some 4, .mv (.c (.bool false)), none, [], [4]⟩)])
   (.seq
    (.seq
     (.reg false [
       (0, ⟨some 5, .mv (.c (.int .i64 (0))), none, [], []⟩)])
     (.block 0
      (.loop L98_0)))
    (.seq
     (.reg false [
       (0, ⟨some 4, .mv (.c (.bool false)), none, [], []⟩)])
     .ret)))
def C98 : CFn := ⟨18, 2, [.t 4], B98⟩

/-- spec.l7Sorted -/
def L99_1 : CCode :=
  (.seq
   (.seq
    (.reg true [
      (0, ⟨some 15, .mv (.t 5), none, [], []⟩),
      (1, ⟨some 16, .bin .gtr (.t 15) (.c (.int .i64 (0))), none, [], [15]⟩),
      (2, ⟨some 17, .mv (.t 16), none, [], [16]⟩),
      (3, ⟨some 18, .mv (.t 3), some (17, true), [], []⟩),
      (4, ⟨some 19, .mv (.t 5), some (17, true), [], []⟩),
      (5, ⟨some 20, .bin .sub (.t 19) (.c (.int .i64 (1))), some (17, true), [], [19]⟩),
      (6, ⟨some 21, .ia 1 (.t 18) (.t 20), some (17, true), [], []⟩),
      (7, ⟨some 22, .ld 1 false (.t 21), some (17, true), [], [18, 20, 21]⟩),
      (8, ⟨some 23, .mv (.t 0), some (17, true), [], []⟩),
      (9, ⟨some 24, .mv (.t 4), some (17, true), [], []⟩),
      (10, ⟨some 25, .ia 1 (.t 23) (.t 24), some (17, true), [], []⟩),
      (11, ⟨some 26, .ld 1 false (.t 25), some (17, true), [], [23, 24, 25]⟩),
      (12, ⟨some 27, .bin .gtr (.t 22) (.t 26), some (17, true), [], [22, 26]⟩),
      (13, ⟨some 28, .pick (.t 17) (.t 27) (.c (.bool false)), none, [], [17, 27]⟩)])
    (.cond (.t 28)
     (.seq
      (.kill [28])
      .skip)
     (.seq
      (.kill [28])
      (.exit 2))))
   (.block 3
    (.reg false [
      (0, ⟨some 29, .mv (.t 5), none, [], [5]⟩),
      (1, ⟨some 30, .bin .sub (.t 29) (.c (.int .i64 (1))), none, [], [29]⟩),
      (2, ⟨some 5, .mv (.t 30), none, [], [30]⟩)])))
def L99_0 : CCode :=
  (.seq
   (.seq
    (.reg false [
      (0, ⟨some 7, .mv (.t 4), none, [], []⟩),
      (1, ⟨some 8, .mv (.t 0), none, [], []⟩),
      (2, ⟨some 9, .len (.t 8), none, [], [8]⟩),
      (3, ⟨some 10, .bin .lss (.t 7) (.t 9), none, [], [7, 9]⟩)])
    (.cond (.t 10)
     (.seq
      (.kill [10])
      .skip)
     (.seq
      (.kill [0, 4, 10])
      (.exit 0))))
   (.seq
    (.block 1
     (.seq
      (.reg false [
        (0, ⟨some 13, .mv (.t 3), none, [], []⟩),
        (1, ⟨some 14, .len (.t 13), none, [], [13]⟩),
        (2, ⟨some 5, .mv (.t 14), none, [], [14]⟩)])
      (.seq
       (.block 2
        (.loop L99_1))
       (.reg true [
         (0, ⟨some 31, .bsl 1 0 [.int .i64 (0)] [], none, [], []⟩),
         (1, ⟨some 32, .mv (.t 3), none, [], []⟩),
         (2, ⟨some 33, .mv (.t 5), none, [], []⟩),
         (3, ⟨some 34, .sls 1 (.t 32) none (some (.t 33)) none, none, [], [32, 33]⟩),
         (5, ⟨some 36, .mv (.t 0), none, [], []⟩),
         (6, ⟨some 37, .mv (.t 4), none, [], []⟩),
         (7, ⟨some 38, .ia 1 (.t 36) (.t 37), none, [], []⟩),
         (8, ⟨some 39, .ld 1 false (.t 38), none, [], []⟩),
         (9, ⟨some 40, .bsl 1 1 [.int .i64 (0)] [(0, 1, (.t 39))], none, [], [39]⟩),
         (11, ⟨some 42, .mv (.t 3), none, [], [3]⟩),
         (12, ⟨some 43, .mv (.t 5), none, [], [5]⟩),
         (13, ⟨some 44, .sls 1 (.t 42) (some (.t 43)) none none, none, [], [42, 43]⟩),
         (4, ⟨some 35, .app 1 8 (.t 31) (.t 34), none, [(38, 1)], [31, 34, 36, 37, 38]⟩),
         (10, ⟨some 41, .app 1 8 (.t 35) (.t 40), none, [], [35, 40]⟩),
         (14, ⟨some 45, .app 1 8 (.t 41) (.t 44), none, [], [41, 44]⟩),
         (15, ⟨some 3, .mv (.t 45), none, [], [45]⟩)]))))
    (.reg false [
      (0, ⟨some 11, .mv (.t 4), none, [], [4]⟩),
      (1, ⟨some 12, .bin .add (.t 11) (.c (.int .i64 (1))), none, [], [11]⟩),
      (2, ⟨some 4, .mv (.t 12), none, [], [12]⟩)])))
def B99 : CCode :=
  (.seq
   (.reg false [
     (0, ⟨some 2, .mv (.c (.nils)), none, [], [2]⟩)])
   (.seq
    (.reg false [
      (0, ⟨some 6, .bsl 1 0 [.int .i64 (0)] [], none, [], []⟩),
      (1, ⟨some 3, .mv (.t 6), none, [], [6]⟩)])
    (.seq
     (.seq
      (.reg false [
        (0, ⟨some 4, .mv (.c (.int .i64 (0))), none, [], []⟩)])
      (.block 0
       (.loop L99_0)))
     (.seq
      (.reg false [
        (0, ⟨some 46, .mv (.t 3), none, [], [3]⟩),
        (1, ⟨some 2, .mv (.t 46), none, [], [46]⟩)])
      .ret))))
def C99 : CFn := ⟨47, 1, [.t 2], B99⟩

/-- laws.toFactS -/
def L100_0 : CCode :=
  (.seq
   (.seq
    (.reg false [
      (0, ⟨some 8, .mv (.t 4), none, [], []⟩),
      (1, ⟨some 9, .mv (.t 0), none, [], []⟩),
      (2, ⟨some 10, .len (.t 9), none, [], [9]⟩),
      (3, ⟨some 11, .bin .lss (.t 8) (.t 10), none, [], [8, 10]⟩)])
    (.cond (.t 11)
     (.seq
      (.kill [11])
      .skip)
     (.seq
      (.kill [0, 4, 11])
      (.exit 0))))
   (.seq
    (.block 1
     (.reg false [
       (0, ⟨some 14, .mv (.t 3), none, [], []⟩),
       (1, ⟨some 15, .mv (.t 4), none, [], []⟩),
       (2, ⟨some 16, .mv (.t 0), none, [], []⟩),
       (3, ⟨some 17, .mv (.t 4), none, [], []⟩),
       (4, ⟨some 18, .ia 2 (.t 16) (.t 17), none, [], []⟩),
       (5, ⟨some 19, .ld 2 true (.t 18), none, [], [18]⟩),
       (6, ⟨some 20, .call 157 [(.t 19)], none, [], [16, 17, 19]⟩),
       (7, ⟨some 21, .ia 2 (.t 14) (.t 15), none, [], []⟩),
       (8, ⟨none, .st 2 (.t 21) (.t 20), none, [], [14, 15, 20, 21]⟩)]))
    (.reg false [
      (0, ⟨some 12, .mv (.t 4), none, [], [4]⟩),
      (1, ⟨some 13, .bin .add (.t 12) (.c (.int .i64 (1))), none, [], [12]⟩),
      (2, ⟨some 4, .mv (.t 13), none, [], [13]⟩)])))
def B100 : CCode :=
  (.seq
   (.reg false [
     (0, ⟨some 2, .mv (.c (.nils)), none, [], [2]⟩)])
   (.seq
    (.reg false [
      (0, ⟨some 5, .mv (.t 0), none, [], []⟩),
      (1, ⟨some 6, .len (.t 5), none, [], [5]⟩),
      (2, ⟨some 7, .mk 2 32 [.int .i64 (0), .nils] (.t 6) (.t 6), none, [], [6]⟩),
      (3, ⟨some 3, .mv (.t 7), none, [], [7]⟩)])
    (.seq
     (.seq
      (.reg false [
        (0, ⟨some 4, .mv (.c (.int .i64 (0))), none, [], []⟩)])
      (.block 0
       (.loop L100_0)))
     (.seq
      (.reg false [
        (0, ⟨some 22, .mv (.t 3), none, [], [3]⟩),
        (1, ⟨some 2, .mv (.t 22), none, [], [22]⟩)])
      .ret))))
def C100 : CFn := ⟨23, 1, [.t 2], B100⟩

/-- impl.areIndices -/
def L101_0 : CCode :=
  (.seq
   (.reg false [
     (0, ⟨some 10, .bin .lss (.t 9) (.t 8), none, [], []⟩)])
   (.seq
    (.cond (.t 10)
     (.seq
      (.kill [10])
      .skip)
     (.seq
      (.kill [0, 1, 7, 8, 9, 10])
      (.exit 0)))
    (.seq
     (.block 1
      (.seq
       (.reg false [
         (0, ⟨some 11, .mv (.t 9), none, [], []⟩),
         (1, ⟨some 12, .ia 1 (.t 7) (.t 9), none, [], []⟩),
         (2, ⟨some 13, .ld 1 false (.t 12), none, [], [12]⟩),
         (3, ⟨some 5, .mv (.t 11), none, [], [11]⟩),
         (4, ⟨some 6, .mv (.t 13), none, [], [13]⟩)])
       (.seq
        (.reg false [
          (0, ⟨some 14, .mv (.t 6), none, [], []⟩),
          (1, ⟨some 15, .mv (.t 1), none, [], []⟩),
          (2, ⟨some 16, .bin .sub (.t 15) (.c (.int .i64 (1))), none, [], [15]⟩),
          (3, ⟨some 17, .call 87 [(.t 14), (.c (.int .i64 (0))), (.t 16)], none, [], [14, 16]⟩),
          (4, ⟨some 18, .not (.t 17), none, [], [17]⟩),
          (5, ⟨some 19, .mv (.t 18), none, [], [18]⟩),
          (6, ⟨some 20, .mv (.t 5), some (19, false), [], []⟩),
          (7, ⟨some 21, .bin .gtr (.t 20) (.c (.int .i64 (0))), some (19, false), [], [20]⟩),
          (8, ⟨some 22, .mv (.t 21), some (19, false), [], [21]⟩),
          (9, ⟨some 23, .mv (.t 0), some (22, true), [], []⟩),
          (10, ⟨some 24, .mv (.t 5), some (22, true), [], [5]⟩),
          (11, ⟨some 25, .bin .sub (.t 24) (.c (.int .i64 (1))), some (22, true), [], [24]⟩),
          (12, ⟨some 26, .ia 1 (.t 23) (.t 25), some (22, true), [], []⟩),
          (13, ⟨some 27, .ld 1 false (.t 26), some (22, true), [], [23, 25, 26]⟩),
          (14, ⟨some 28, .mv (.t 6), some (22, true), [], [6]⟩),
          (15, ⟨some 29, .bin .geq (.t 27) (.t 28), some (22, true), [], [27, 28]⟩),
          (16, ⟨some 30, .pick (.t 22) (.t 29) (.c (.bool false)), some (19, false), [], [22, 29]⟩),
          (17, ⟨some 31, .pick (.t 19) (.c (.bool true)) (.t 30), none, [], [19, 30]⟩)])
        (.cond (.t 31)
         (.seq
          (.kill [0, 1, 7, 8, 9, 31])
          (.seq
           (.reg false [
             (0, ⟨some 4, .mv (.c (.bool false)), none, [], []⟩)])
           .ret))
         (.seq
          (.kill [31])
          .skip)))))
     (.reg false [
       (0, ⟨some 32, .bin .add (.t 9) (.c (.int .i64 (1))), none, [], [9]⟩),
       (1, ⟨some 9, .mv (.t 32), none, [], [32]⟩)]))))
def B101 : CCode :=
  (.seq
   (.reg false [
     (0, ⟨some 4, .mv (.c (.bool false)), none, [], [4]⟩)])
   (.seq
    (.seq
     (.reg false [
       (0, ⟨some 7, .mv (.t 0), none, [], []⟩),
       (1, ⟨some 8, .len (.t 7), none, [], []⟩),
       (2, ⟨some 9, .mv (.c (.int .i64 (0))), none, [], []⟩)])
     (.block 0
      (.loop L101_0)))
    (.seq
     (.reg false [
       (0, ⟨some 4, .mv (.c (.bool true)), none, [], []⟩)])
     .ret)))
def C101 : CFn := ⟨33, 2, [.t 4], B101⟩

/-- impl.blocks -/
def L102_0 : CCode :=
  (.seq
   (.reg false [
     (0, ⟨some 12, .bin .lss (.t 11) (.t 10), none, [], []⟩)])
   (.seq
    (.cond (.t 12)
     (.seq
      (.kill [12])
      .skip)
     (.seq
      (.kill [1, 9, 10, 11, 12])
      (.exit 0)))
    (.seq
     (.block 1
      (.seq
       (.reg false [
         (0, ⟨some 13, .mv (.t 11), none, [], []⟩),
         (1, ⟨some 14, .ia 2 (.t 9) (.t 11), none, [], []⟩),
         (2, ⟨some 15, .ld 2 true (.t 14), none, [], [14]⟩),
         (3, ⟨some 5, .al [.int .i64 (0), .nils], none, [], []⟩),
         (4, ⟨some 4, .mv (.t 13), none, [], [13]⟩),
         (5, ⟨none, .st 2 (.t 5) (.t 15), none, [], [15]⟩)])
       (.seq
        (.reg false [
          (0, ⟨some 16, .mv (.t 3), none, [], []⟩),
          (1, ⟨some 17, .len (.t 16), none, [], [16]⟩),
          (2, ⟨some 18, .bin .sub (.t 17) (.c (.int .i64 (1))), none, [], [17]⟩),
          (3, ⟨some 6, .mv (.t 18), none, [], [18]⟩)])
        (.seq
         (.reg true [
           (0, ⟨some 19, .mv (.t 6), none, [], []⟩),
           (1, ⟨some 20, .bin .geq (.t 19) (.c (.int .i64 (0))), none, [], [19]⟩),
           (2, ⟨some 21, .mv (.t 20), none, [], [20]⟩),
           (3, ⟨some 22, .fa 0 (.t 1), some (21, true), [], []⟩),
           (4, ⟨some 23, .ld 1 false (.t 22), some (21, true), [], [22]⟩),
           (5, ⟨some 24, .fa 1 (.t 1), some (21, true), [], []⟩),
           (6, ⟨some 25, .ld 1 false (.t 24), some (21, true), [], [24]⟩),
           (7, ⟨some 26, .mv (.t 3), some (21, true), [], []⟩),
           (8, ⟨some 27, .mv (.t 6), some (21, true), [], []⟩),
           (9, ⟨some 28, .ia 1 (.t 26) (.t 27), some (21, true), [], []⟩),
           (10, ⟨some 29, .ld 1 false (.t 28), some (21, true), [], [28]⟩),
           (11, ⟨some 30, .ia 1 (.t 29) (.c (.int .i64 (0))), some (21, true), [], [29]⟩),
           (12, ⟨some 31, .ld 1 false (.t 30), some (21, true), [], [26, 27, 30]⟩),
           (13, ⟨some 32, .ia 2 (.t 25) (.t 31), some (21, true), [], [25]⟩),
           (14, ⟨some 33, .ld 2 true (.t 32), some (21, true), [], [32]⟩),
           (15, ⟨some 34, .ld 2 true (.t 5), some (21, true), [], []⟩),
           (16, ⟨some 35, .call 149 [(.t 23), (.t 33), (.t 34)], some (21, true), [], [5, 23, 31, 33, 34]⟩),
           (17, ⟨some 36, .pick (.t 21) (.t 35) (.c (.bool false)), none, [], [21, 35]⟩)])
         (.cond (.t 36)
          (.seq
           (.kill [36])
           (.reg false [
             (0, ⟨some 37, .mv (.t 3), none, [], []⟩),
             (1, ⟨some 38, .mv (.t 6), none, [], []⟩),
             (2, ⟨some 39, .mv (.t 3), none, [], []⟩),
             (3, ⟨some 40, .mv (.t 6), none, [], [6]⟩),
             (4, ⟨some 41, .ia 1 (.t 39) (.t 40), none, [], []⟩),
             (5, ⟨some 42, .ld 1 false (.t 41), none, [], [41]⟩),
             (6, ⟨some 43, .mv (.t 4), none, [], [4]⟩),
             (7, ⟨some 44, .bsl 1 1 [.int .i64 (0)] [(0, 1, (.t 43))], none, [], [43]⟩),
             (8, ⟨some 45, .app 1 8 (.t 42) (.t 44), none, [], [39, 40, 42, 44]⟩),
             (9, ⟨some 46, .ia 1 (.t 37) (.t 38), none, [], []⟩),
             (10, ⟨none, .st 1 (.t 46) (.t 45), none, [], [37, 38, 45, 46]⟩)]))
          (.seq
           (.kill [6, 36])
           (.reg false [
             (0, ⟨some 47, .mv (.t 3), none, [], [3]⟩),
             (1, ⟨some 48, .mv (.t 4), none, [], [4]⟩),
             (2, ⟨some 49, .bsl 1 1 [.int .i64 (0)] [(0, 1, (.t 48))], none, [], [48]⟩),
             (3, ⟨some 50, .bsl 1 1 [.nils] [(0, 1, (.t 49))], none, [], [49]⟩),
             (4, ⟨some 51, .app 1 24 (.t 47) (.t 50), none, [], [47, 50]⟩),
             (5, ⟨some 3, .mv (.t 51), none, [], [51]⟩)])))))))
     (.reg false [
       (0, ⟨some 52, .bin .add (.t 11) (.c (.int .i64 (1))), none, [], [11]⟩),
       (1, ⟨some 11, .mv (.t 52), none, [], [52]⟩)]))))
def B102 : CCode :=
  (.seq
   (.reg false [
     (0, ⟨some 1, .box 2 (.t 0), none, [], [0]⟩),
     (1, ⟨some 2, .mv (.c (.nils)), none, [], [2]⟩)])
   (.seq
    (.reg false [
      (0, ⟨some 7, .bsl 1 0 [.nils] [], none, [], []⟩),
      (1, ⟨some 3, .mv (.t 7), none, [], [7]⟩)])
    (.seq
     (.seq
      (.reg false [
        (0, ⟨some 8, .fa 1 (.t 1), none, [], []⟩),
        (1, ⟨some 9, .ld 1 false (.t 8), none, [], [8]⟩),
        (2, ⟨some 10, .len (.t 9), none, [], []⟩),
        (3, ⟨some 11, .mv (.c (.int .i64 (0))), none, [], []⟩)])
      (.block 0
       (.loop L102_0)))
     (.seq
      (.reg false [
        (0, ⟨some 53, .mv (.t 3), none, [], [3]⟩),
        (1, ⟨some 2, .mv (.t 53), none, [], [53]⟩)])
      .ret))))
def C102 : CFn := ⟨54, 1, [.t 2], B102⟩

/-- slices.IndexFunc[[]int,int] -/
def L103_0 : CCode :=
  (.seq
   (.reg false [
     (0, ⟨some 9, .bin .lss (.t 8) (.t 7), none, [], []⟩)])
   (.seq
    (.cond (.t 9)
     (.seq
      (.kill [9])
      .skip)
     (.seq
      (.kill [0, 1, 7, 8, 9])
      (.exit 0)))
    (.seq
     (.block 1
      (.seq
       (.reg false [
         (0, ⟨some 10, .mv (.t 8), none, [], []⟩),
         (1, ⟨some 5, .mv (.t 10), none, [], [10]⟩)])
       (.seq
        (.reg false [
          (0, ⟨some 11, .mv (.t 1), none, [], []⟩),
          (1, ⟨some 12, .mv (.t 0), none, [], []⟩),
          (2, ⟨some 13, .mv (.t 5), none, [], []⟩),
          (3, ⟨some 14, .ia 1 (.t 12) (.t 13), none, [], []⟩),
          (4, ⟨some 15, .ld 1 false (.t 14), none, [], [12, 13, 14]⟩),
          (5, ⟨some 16, .callv (.t 11) [(.t 15)], none, [], [11, 15]⟩)])
        (.cond (.t 16)
         (.seq
          (.kill [0, 1, 7, 8, 16])
          (.seq
           (.reg false [
             (0, ⟨some 17, .mv (.t 5), none, [], [5]⟩),
             (1, ⟨some 4, .mv (.t 17), none, [], [17]⟩)])
           .ret))
         (.seq
          (.kill [5, 16])
          .skip)))))
     (.reg false [
       (0, ⟨some 18, .bin .add (.t 8) (.c (.int .i64 (1))), none, [], [8]⟩),
       (1, ⟨some 8, .mv (.t 18), none, [], [18]⟩)]))))
def B103 : CCode :=
  (.seq
   (.reg false [
     (0, ⟨some 4, .mv (.c (.int .i64 (0))), none, [], [4]⟩)])
   (.seq
    (.seq
     (.reg false [
       (0, ⟨some 6, .mv (.t 0), none, [], []⟩),
       (1, ⟨some 7, .len (.t 6), none, [], [6]⟩),
       (2, ⟨some 8, .mv (.c (.int .i64 (0))), none, [], []⟩)])
     (.block 0
      (.loop L103_0)))
    (.seq
     (.reg false [
       (0, ⟨some 4, .mv (.c (.int .i64 (-1))), none, [], []⟩)])
     .ret)))
def C103 : CFn := ⟨19, 2, [.t 4], B103⟩

/-- impl.RepairFromFacts$1 -/
def B104 : CCode :=
  (.seq
   (.reg false [
     (0, ⟨some 3, .mv (.c (.bool false)), none, [], [3]⟩)])
   (.seq
    (.reg false [
      (0, ⟨some 4, .ld 1 false (.t 1), none, [], []⟩),
      (1, ⟨some 5, .mv (.t 0), none, [], [0]⟩),
      (2, ⟨some 6, .call 105 [(.t 4), (.t 5)], none, [], [1, 4, 5]⟩),
      (3, ⟨some 3, .mv (.t 6), none, [], [6]⟩)])
    .ret))
def C104 : CFn := ⟨7, 2, [.t 3], B104⟩

/-- slices.Contains[[]int,int] -/
def B105 : CCode :=
  (.seq
   (.reg false [
     (0, ⟨some 4, .mv (.c (.bool false)), none, [], [4]⟩)])
   (.seq
    (.reg false [
      (0, ⟨some 5, .mv (.t 0), none, [], [0]⟩),
      (1, ⟨some 6, .mv (.t 1), none, [], [1]⟩),
      (2, ⟨some 7, .call 158 [(.t 5), (.t 6)], none, [], [5, 6]⟩),
      (3, ⟨some 8, .bin .geq (.t 7) (.c (.int .i64 (0))), none, [], [7]⟩),
      (4, ⟨some 4, .mv (.t 8), none, [], [8]⟩)])
    .ret))
def C105 : CFn := ⟨9, 2, [.t 4], B105⟩

/-- laws.eqFactS -/
def L106_0 : CCode :=
  (.seq
   (.seq
    (.reg false [
      (0, ⟨some 11, .mv (.t 5), none, [], []⟩),
      (1, ⟨some 12, .mv (.t 0), none, [], []⟩),
      (2, ⟨some 13, .len (.t 12), none, [], [12]⟩),
      (3, ⟨some 14, .bin .lss (.t 11) (.t 13), none, [], [11, 13]⟩)])
    (.cond (.t 14)
     (.seq
      (.kill [14])
      .skip)
     (.seq
      (.kill [0, 1, 5, 14])
      (.exit 0))))
   (.seq
    (.block 1
     (.seq
      (.reg true [
        (0, ⟨some 17, .mv (.t 0), none, [], []⟩),
        (1, ⟨some 18, .mv (.t 5), none, [], []⟩),
        (2, ⟨some 19, .ia 2 (.t 17) (.t 18), none, [], []⟩),
        (3, ⟨some 20, .ld 2 true (.t 19), none, [], [19]⟩),
        (4, ⟨some 21, .mv (.t 1), none, [], []⟩),
        (5, ⟨some 22, .mv (.t 5), none, [], []⟩),
        (6, ⟨some 23, .ia 2 (.t 21) (.t 22), none, [], []⟩),
        (7, ⟨some 24, .ld 2 true (.t 23), none, [], [23]⟩),
        (8, ⟨some 25, .call 159 [(.t 20), (.t 24)], none, [], [17, 18, 20, 21, 22, 24]⟩),
        (9, ⟨some 26, .not (.t 25), none, [], [25]⟩)])
      (.cond (.t 26)
       (.seq
        (.kill [0, 1, 5, 26])
        (.seq
         (.reg false [
           (0, ⟨some 4, .mv (.c (.bool false)), none, [], []⟩)])
         .ret))
       (.seq
        (.kill [26])
        .skip))))
    (.reg false [
      (0, ⟨some 15, .mv (.t 5), none, [], [5]⟩),
      (1, ⟨some 16, .bin .add (.t 15) (.c (.int .i64 (1))), none, [], [15]⟩),
      (2, ⟨some 5, .mv (.t 16), none, [], [16]⟩)])))
def B106 : CCode :=
  (.seq
   (.reg false [
     (0, ⟨some 4, .mv (.c (.bool false)), none, [], [4]⟩)])
   (.seq
    (.seq
     (.reg false [
       (0, ⟨some 6, .mv (.t 0), none, [], []⟩),
       (1, ⟨some 7, .len (.t 6), none, [], [6]⟩),
       (2, ⟨some 8, .mv (.t 1), none, [], []⟩),
       (3, ⟨some 9, .len (.t 8), none, [], [8]⟩),
       (4, ⟨some 10, .bin .neq (.t 7) (.t 9), none, [], [7, 9]⟩)])
     (.cond (.t 10)
      (.seq
       (.kill [0, 1, 10])
       (.seq
        (.reg false [
          (0, ⟨some 4, .mv (.c (.bool false)), none, [], []⟩)])
        .ret))
      (.seq
       (.kill [10])
       .skip)))
    (.seq
     (.seq
      (.reg false [
        (0, ⟨some 5, .mv (.c (.int .i64 (0))), none, [], []⟩)])
      (.block 0
       (.loop L106_0)))
     (.seq
      (.reg false [
        (0, ⟨some 4, .mv (.c (.bool true)), none, [], []⟩)])
      .ret))))
def C106 : CFn := ⟨27, 2, [.t 4], B106⟩

/-- laws.markRelationS -/
def L107_0 : CCode :=
  (.seq
   (.seq
    (.reg false [
      (0, ⟨some 6, .mv (.t 5), none, [], []⟩),
      (1, ⟨some 7, .mv (.t 0), none, [], []⟩),
      (2, ⟨some 8, .len (.t 7), none, [], [7]⟩),
      (3, ⟨some 9, .bin .lss (.t 6) (.t 8), none, [], [6, 8]⟩)])
    (.cond (.t 9)
     (.seq
      (.kill [9])
      .skip)
     (.seq
      (.kill [5, 9])
      (.exit 0))))
   (.seq
    (.block 1
     (.seq
      (.reg false [
        (0, ⟨some 12, .mv (.t 0), none, [], []⟩),
        (1, ⟨some 13, .mv (.t 5), none, [], []⟩),
        (2, ⟨some 14, .mv (.t 1), none, [], []⟩),
        (3, ⟨some 15, .call 160 [(.t 14)], none, [], [14]⟩),
        (4, ⟨some 16, .ia 3 (.t 12) (.t 13), none, [], []⟩),
        (5, ⟨some 17, .fa 0 (.t 16), none, [], [16]⟩),
        (6, ⟨none, .st 1 (.t 17) (.t 15), none, [], [12, 13, 15, 17]⟩)])
      (.seq
       (.reg false [
         (0, ⟨some 18, .mv (.t 1), none, [], [1]⟩),
         (1, ⟨some 19, .bin .add (.t 18) (.c (.int .i64 (1))), none, [], [18]⟩),
         (2, ⟨some 1, .mv (.t 19), none, [], [19]⟩)])
       (.seq
        (.reg false [
          (0, ⟨some 20, .mv (.t 0), none, [], []⟩),
          (1, ⟨some 21, .mv (.t 5), none, [], []⟩),
          (2, ⟨some 22, .mv (.t 1), none, [], []⟩),
          (3, ⟨some 23, .ia 3 (.t 20) (.t 21), none, [], []⟩),
          (4, ⟨some 24, .fa 1 (.t 23), none, [], [23]⟩),
          (5, ⟨none, .st 1 (.t 24) (.t 22), none, [], [20, 21, 22, 24]⟩)])
        (.seq
         (.reg false [
           (0, ⟨some 25, .mv (.t 1), none, [], [1]⟩),
           (1, ⟨some 26, .bin .add (.t 25) (.c (.int .i64 (1))), none, [], [25]⟩),
           (2, ⟨some 1, .mv (.t 26), none, [], [26]⟩)])
         (.seq
          (.reg false [
            (0, ⟨some 27, .mv (.t 0), none, [], []⟩),
            (1, ⟨some 28, .mv (.t 5), none, [], []⟩),
            (2, ⟨some 29, .mv (.t 1), none, [], []⟩),
            (3, ⟨some 30, .ia 3 (.t 27) (.t 28), none, [], []⟩),
            (4, ⟨some 31, .fa 2 (.t 30), none, [], [30]⟩),
            (5, ⟨none, .st 1 (.t 31) (.t 29), none, [], [27, 28, 29, 31]⟩)])
          (.reg false [
            (0, ⟨some 32, .mv (.t 1), none, [], [1]⟩),
            (1, ⟨some 33, .bin .add (.t 32) (.c (.int .i64 (1))), none, [], [32]⟩),
            (2, ⟨some 1, .mv (.t 33), none, [], [33]⟩)])))))))
    (.reg false [
      (0, ⟨some 10, .mv (.t 5), none, [], [5]⟩),
      (1, ⟨some 11, .bin .add (.t 10) (.c (.int .i64 (1))), none, [], [10]⟩),
      (2, ⟨some 5, .mv (.t 11), none, [], [11]⟩)])))
def B107 : CCode :=
  (.seq
   (.reg false [
     (0, ⟨some 4, .mv (.c (.int .i64 (0))), none, [], [4]⟩)])
   (.seq
    (.seq
     (.reg false [
       (0, ⟨some 5, .mv (.c (.int .i64 (0))), none, [], []⟩)])
     (.block 0
      (.loop L107_0)))
    (.seq
     (.reg false [
       (0, ⟨some 34, .mv (.t 1), none, [], [1]⟩),
       (1, ⟨some 4, .mv (.t 34), none, [], [34]⟩)])
     .ret)))
def C107 : CFn := ⟨35, 2, [.t 4], B107⟩

/-- laws.markFactS -/
def L108_0 : CCode :=
  (.seq
   (.seq
    (.reg false [
      (0, ⟨some 6, .mv (.t 5), none, [], []⟩),
      (1, ⟨some 7, .mv (.t 0), none, [], []⟩),
      (2, ⟨some 8, .len (.t 7), none, [], [7]⟩),
      (3, ⟨some 9, .bin .lss (.t 6) (.t 8), none, [], [6, 8]⟩)])
    (.cond (.t 9)
     (.seq
      (.kill [9])
      .skip)
     (.seq
      (.kill [5, 9])
      (.exit 0))))
   (.seq
    (.block 1
     (.seq
      (.reg false [
        (0, ⟨some 12, .mv (.t 0), none, [], []⟩),
        (1, ⟨some 13, .mv (.t 5), none, [], []⟩),
        (2, ⟨some 14, .mv (.t 1), none, [], []⟩),
        (3, ⟨some 15, .ia 2 (.t 12) (.t 13), none, [], []⟩),
        (4, ⟨some 16, .fa 0 (.t 15), none, [], [15]⟩),
        (5, ⟨none, .st 1 (.t 16) (.t 14), none, [], [12, 13, 14, 16]⟩)])
      (.seq
       (.reg false [
         (0, ⟨some 17, .mv (.t 1), none, [], [1]⟩),
         (1, ⟨some 18, .bin .add (.t 17) (.c (.int .i64 (1))), none, [], [17]⟩),
         (2, ⟨some 1, .mv (.t 18), none, [], [18]⟩)])
       (.reg false [
         (0, ⟨some 19, .mv (.t 0), none, [], []⟩),
         (1, ⟨some 20, .mv (.t 5), none, [], []⟩),
         (2, ⟨some 21, .ia 2 (.t 19) (.t 20), none, [], []⟩),
         (3, ⟨some 22, .fa 1 (.t 21), none, [], [21]⟩),
         (4, ⟨some 23, .ld 1 false (.t 22), none, [], [22]⟩),
         (5, ⟨some 24, .mv (.t 1), none, [], [1]⟩),
         (6, ⟨some 25, .call 45 [(.t 23), (.t 24)], none, [], [19, 20, 23, 24]⟩),
         (7, ⟨some 1, .mv (.t 25), none, [], [25]⟩)]))))
    (.reg false [
      (0, ⟨some 10, .mv (.t 5), none, [], [5]⟩),
      (1, ⟨some 11, .bin .add (.t 10) (.c (.int .i64 (1))), none, [], [10]⟩),
      (2, ⟨some 5, .mv (.t 11), none, [], [11]⟩)])))
def B108 : CCode :=
  (.seq
   (.reg false [
     (0, ⟨some 4, .mv (.c (.int .i64 (0))), none, [], [4]⟩)])
   (.seq
    (.seq
     (.reg false [
       (0, ⟨some 5, .mv (.c (.int .i64 (0))), none, [], []⟩)])
     (.block 0
      (.loop L108_0)))
    (.seq
     (.reg false [
       (0, ⟨some 26, .mv (.t 1), none, [], [1]⟩),
       (1, ⟨some 4, .mv (.t 26), none, [], [26]⟩)])
     .ret)))
def C108 : CFn := ⟨27, 2, [.t 4], B108⟩

/-- laws.szRelation -/
def B109 : CCode :=
  (.seq
   (.reg false [
     (0, ⟨some 2, .box 3 (.t 0), none, [], [0]⟩),
     (1, ⟨some 4, .mv (.c (.int .i64 (0))), none, [], [4]⟩)])
   (.seq
    (.reg false [
      (0, ⟨some 5, .mv (.t 1), none, [], [1]⟩),
      (1, ⟨some 6, .fa 0 (.t 2), none, [], []⟩),
      (2, ⟨some 7, .ld 1 false (.t 6), none, [], [2, 6]⟩),
      (3, ⟨some 8, .lens (.t 7), none, [], [7]⟩),
      (4, ⟨some 9, .bin .sub (.t 5) (.t 8), none, [], [5, 8]⟩),
      (5, ⟨some 1, .mv (.t 9), none, [], [9]⟩)])
    (.seq
     (.seq
      (.reg false [
        (0, ⟨some 10, .mv (.t 1), none, [], []⟩),
        (1, ⟨some 11, .bin .lss (.t 10) (.c (.int .i64 (0))), none, [], [10]⟩)])
      (.cond (.t 11)
       (.seq
        (.kill [1, 11])
        (.seq
         (.reg false [
           (0, ⟨some 4, .mv (.c (.int .i64 (-1))), none, [], []⟩)])
         .ret))
       (.seq
        (.kill [11])
        .skip)))
     (.seq
      (.reg false [
        (0, ⟨some 12, .mv (.t 1), none, [], [1]⟩),
        (1, ⟨some 4, .mv (.t 12), none, [], [12]⟩)])
      .ret))))
def C109 : CFn := ⟨13, 2, [.t 4], B109⟩

/-- laws.toRelation -/
def B114 : CCode :=
  (.seq
   (.reg false [
     (0, ⟨some 1, .box 3 (.t 0), none, [], [0]⟩),
     (1, ⟨some 2, .al [.str [], .int .i64 (0), .int .i64 (0)], none, [], []⟩)])
   (.seq
    (.reg false [
      (0, ⟨some 3, .al [.str [], .int .i64 (0), .int .i64 (0)], none, [], []⟩)])
    (.seq
     (.reg false [
       (0, ⟨some 4, .fa 0 (.t 1), none, [], []⟩),
       (1, ⟨some 5, .ld 1 false (.t 4), none, [], [4]⟩),
       (2, ⟨some 6, .fa 0 (.t 3), none, [], []⟩),
       (3, ⟨none, .st 1 (.t 6) (.t 5), none, [], [5, 6]⟩)])
     (.seq
      (.reg false [
        (0, ⟨some 7, .fa 1 (.t 1), none, [], []⟩),
        (1, ⟨some 8, .ld 1 false (.t 7), none, [], [7]⟩),
        (2, ⟨some 9, .fa 1 (.t 3), none, [], []⟩),
        (3, ⟨none, .st 1 (.t 9) (.t 8), none, [], [8, 9]⟩)])
      (.seq
       (.reg false [
         (0, ⟨some 10, .fa 2 (.t 1), none, [], []⟩),
         (1, ⟨some 11, .ld 1 false (.t 10), none, [], [1, 10]⟩),
         (2, ⟨some 12, .fa 2 (.t 3), none, [], []⟩),
         (3, ⟨none, .st 1 (.t 12) (.t 11), none, [], [11, 12]⟩)])
       (.seq
        (.reg false [
          (0, ⟨some 13, .ld 3 true (.t 3), none, [], []⟩),
          (1, ⟨none, .st 3 (.t 2) (.t 13), none, [], [3, 13]⟩)])
        .ret))))))
def C114 : CFn := ⟨14, 1, [.m 2 3 true], B114⟩

/-- impl.AreValidRelations -/
def L116_0 : CCode :=
  (.seq
   (.reg false [
     (0, ⟨some 8, .bin .lss (.t 7) (.t 6), none, [], []⟩)])
   (.seq
    (.cond (.t 8)
     (.seq
      (.kill [8])
      .skip)
     (.seq
      (.kill [5, 6, 7, 8])
      (.exit 0)))
    (.seq
     (.block 1
      (.seq
       (.reg false [
         (0, ⟨some 9, .mv (.t 7), none, [], []⟩),
         (1, ⟨some 10, .ia 3 (.t 5) (.t 7), none, [], []⟩),
         (2, ⟨some 11, .ld 3 true (.t 10), none, [], [10]⟩),
         (3, ⟨some 4, .al [.str [], .int .i64 (0), .int .i64 (0)], none, [], []⟩),
         (4, ⟨some 3, .mv (.t 9), none, [], [9]⟩),
         (5, ⟨none, .st 3 (.t 4) (.t 11), none, [], [11]⟩)])
       (.seq
        (.reg true [
          (0, ⟨some 12, .ld 3 true (.t 4), none, [], []⟩),
          (1, ⟨some 13, .call 163 [(.t 12)], none, [], [12]⟩),
          (2, ⟨some 14, .not (.t 13), none, [], [13]⟩),
          (3, ⟨some 15, .mv (.t 14), none, [], [14]⟩),
          (4, ⟨some 16, .mv (.t 3), some (15, false), [], []⟩),
          (5, ⟨some 17, .bin .gtr (.t 16) (.c (.int .i64 (0))), some (15, false), [], [16]⟩),
          (6, ⟨some 18, .mv (.t 17), some (15, false), [], [17]⟩),
          (7, ⟨some 19, .mv (.t 0), some (18, true), [], []⟩),
          (8, ⟨some 20, .mv (.t 3), some (18, true), [], [3]⟩),
          (9, ⟨some 21, .bin .sub (.t 20) (.c (.int .i64 (1))), some (18, true), [], [20]⟩),
          (10, ⟨some 22, .ia 3 (.t 19) (.t 21), some (18, true), [], []⟩),
          (11, ⟨some 23, .fa 0 (.t 22), some (18, true), [], [22]⟩),
          (12, ⟨some 24, .ld 1 false (.t 23), some (18, true), [], [19, 21, 23]⟩),
          (13, ⟨some 25, .fa 0 (.t 4), some (18, true), [], []⟩),
          (14, ⟨some 26, .ld 1 false (.t 25), some (18, true), [], [4, 25]⟩),
          (15, ⟨some 27, .bin .geq (.t 24) (.t 26), some (18, true), [], [24, 26]⟩),
          (16, ⟨some 28, .pick (.t 18) (.t 27) (.c (.bool false)), some (15, false), [], [18, 27]⟩),
          (17, ⟨some 29, .pick (.t 15) (.c (.bool true)) (.t 28), none, [], [15, 28]⟩)])
        (.cond (.t 29)
         (.seq
          (.kill [0, 5, 6, 7, 29])
          (.seq
           (.reg false [
             (0, ⟨some 2, .mv (.c (.bool false)), none, [], []⟩)])
           .ret))
         (.seq
          (.kill [29])
          .skip)))))
     (.reg false [
       (0, ⟨some 30, .bin .add (.t 7) (.c (.int .i64 (1))), none, [], [7]⟩),
       (1, ⟨some 7, .mv (.t 30), none, [], [30]⟩)]))))
def B116 : CCode :=
  (.seq
   (.reg false [
     (0, ⟨some 2, .mv (.c (.bool false)), none, [], [2]⟩)])
   (.seq
    (.seq
     (.reg false [
       (0, ⟨some 5, .mv (.t 0), none, [], []⟩),
       (1, ⟨some 6, .len (.t 5), none, [], []⟩),
       (2, ⟨some 7, .mv (.c (.int .i64 (0))), none, [], []⟩)])
     (.block 0
      (.loop L116_0)))
    (.seq
     (.reg false [
       (0, ⟨some 31, .mv (.t 0), none, [], [0]⟩),
       (1, ⟨some 32, .len (.t 31), none, [], [31]⟩),
       (2, ⟨some 33, .bin .leq (.t 32) (.c (.int .i64 (4))), none, [], [32]⟩),
       (3, ⟨some 2, .mv (.t 33), none, [], [33]⟩)])
     .ret)))
def C116 : CFn := ⟨34, 1, [.t 2], B116⟩

/-- laws.eqRelation -/
def B121 : CCode :=
  (.seq
   (.reg false [
     (0, ⟨some 2, .box 3 (.t 0), none, [], [0]⟩),
     (1, ⟨some 3, .box 3 (.t 1), none, [], [1]⟩),
     (2, ⟨some 4, .mv (.c (.bool false)), none, [], [4]⟩)])
   (.seq
    (.seq
     (.reg false [
       (0, ⟨some 5, .fa 0 (.t 2), none, [], []⟩),
       (1, ⟨some 6, .ld 1 false (.t 5), none, [], [5]⟩),
       (2, ⟨some 7, .fa 0 (.t 3), none, [], []⟩),
       (3, ⟨some 8, .ld 1 false (.t 7), none, [], [7]⟩),
       (4, ⟨some 9, .bin .neq (.t 6) (.t 8), none, [], [6, 8]⟩)])
     (.cond (.t 9)
      (.seq
       (.kill [2, 3, 9])
       (.seq
        (.reg false [
          (0, ⟨some 4, .mv (.c (.bool false)), none, [], []⟩)])
        .ret))
      (.seq
       (.kill [9])
       .skip)))
    (.seq
     (.seq
      (.reg false [
        (0, ⟨some 10, .fa 1 (.t 2), none, [], []⟩),
        (1, ⟨some 11, .ld 1 false (.t 10), none, [], [10]⟩),
        (2, ⟨some 12, .fa 1 (.t 3), none, [], []⟩),
        (3, ⟨some 13, .ld 1 false (.t 12), none, [], [12]⟩),
        (4, ⟨some 14, .bin .neq (.t 11) (.t 13), none, [], [11, 13]⟩)])
      (.cond (.t 14)
       (.seq
        (.kill [2, 3, 14])
        (.seq
         (.reg false [
           (0, ⟨some 4, .mv (.c (.bool false)), none, [], []⟩)])
         .ret))
       (.seq
        (.kill [14])
        .skip)))
     (.seq
      (.seq
       (.reg false [
         (0, ⟨some 15, .fa 2 (.t 2), none, [], []⟩),
         (1, ⟨some 16, .ld 1 false (.t 15), none, [], [2, 15]⟩),
         (2, ⟨some 17, .fa 2 (.t 3), none, [], []⟩),
         (3, ⟨some 18, .ld 1 false (.t 17), none, [], [3, 17]⟩),
         (4, ⟨some 19, .bin .neq (.t 16) (.t 18), none, [], [16, 18]⟩)])
       (.cond (.t 19)
        (.seq
         (.kill [19])
         (.seq
          (.reg false [
            (0, ⟨some 4, .mv (.c (.bool false)), none, [], []⟩)])
          .ret))
        (.seq
         (.kill [19])
         .skip)))
      (.seq
       (.reg false [
         (0, ⟨some 4, .mv (.c (.bool true)), none, [], []⟩)])
       .ret)))))
def C121 : CFn := ⟨20, 2, [.t 4], B121⟩

/-- impl.isFact -/
def B145 : CCode :=
  (.seq
   (.reg false [
     (0, ⟨some 3, .box 2 (.t 1), none, [], [1]⟩),
     (1, ⟨some 4, .mv (.c (.bool false)), none, [], [4]⟩)])
   (.seq
    (.reg true [
      (0, ⟨some 5, .fa 0 (.t 3), none, [], []⟩),
      (1, ⟨some 6, .ld 1 false (.t 5), none, [], [5]⟩),
      (2, ⟨some 7, .mv (.t 0), none, [], []⟩),
      (3, ⟨some 8, .len (.t 7), none, [], [7]⟩),
      (4, ⟨some 9, .bin .sub (.t 8) (.c (.int .i64 (1))), none, [], [8]⟩),
      (5, ⟨some 10, .call 87 [(.t 6), (.c (.int .i64 (0))), (.t 9)], none, [], [6, 9]⟩),
      (6, ⟨some 11, .mv (.t 10), none, [], [10]⟩),
      (7, ⟨some 12, .fa 1 (.t 3), some (11, true), [], []⟩),
      (8, ⟨some 13, .ld 1 false (.t 12), some (11, true), [], [12]⟩),
      (9, ⟨some 14, .len (.t 13), some (11, true), [], [13]⟩),
      (10, ⟨some 15, .mv (.t 0), some (11, true), [], [0]⟩),
      (11, ⟨some 16, .fa 0 (.t 3), some (11, true), [], []⟩),
      (12, ⟨some 17, .ld 1 false (.t 16), some (11, true), [], [16]⟩),
      (13, ⟨some 18, .ia 3 (.t 15) (.t 17), some (11, true), [], []⟩),
      (14, ⟨some 19, .fa 1 (.t 18), some (11, true), [], [18]⟩),
      (15, ⟨some 20, .ld 1 false (.t 19), some (11, true), [], [15, 17, 19]⟩),
      (16, ⟨some 21, .bin .eql (.t 14) (.t 20), some (11, true), [], [14, 20]⟩),
      (17, ⟨some 22, .pick (.t 11) (.t 21) (.c (.bool false)), none, [], [11, 21]⟩),
      (18, ⟨some 23, .mv (.t 22), none, [], [22]⟩),
      (19, ⟨some 24, .fa 1 (.t 3), some (23, true), [], []⟩),
      (20, ⟨some 25, .ld 1 false (.t 24), some (23, true), [], [24]⟩),
      (21, ⟨some 26, .call 179 [(.t 25)], some (23, true), [], [3, 25]⟩),
      (22, ⟨some 27, .pick (.t 23) (.t 26) (.c (.bool false)), none, [], [23, 26]⟩),
      (23, ⟨some 4, .mv (.t 27), none, [], [27]⟩)])
    .ret))
def C145 : CFn := ⟨28, 2, [.t 4], B145⟩

/-- impl.CompareFacts -/
def B146 : CCode :=
  (.seq
   (.reg false [
     (0, ⟨some 2, .box 2 (.t 0), none, [], [0]⟩),
     (1, ⟨some 3, .box 2 (.t 1), none, [], [1]⟩),
     (2, ⟨some 4, .mv (.c (.int .i64 (0))), none, [], [4]⟩)])
   (.seq
    (.seq
     (.reg false [
       (0, ⟨some 5, .fa 0 (.t 2), none, [], []⟩),
       (1, ⟨some 6, .ld 1 false (.t 5), none, [], [5]⟩),
       (2, ⟨some 7, .fa 0 (.t 3), none, [], []⟩),
       (3, ⟨some 8, .ld 1 false (.t 7), none, [], [7]⟩),
       (4, ⟨some 9, .bin .neq (.t 6) (.t 8), none, [], [6, 8]⟩)])
     (.cond (.t 9)
      (.seq
       (.kill [9])
       (.seq
        (.reg false [
          (0, ⟨some 10, .fa 0 (.t 2), none, [], []⟩),
          (1, ⟨some 11, .ld 1 false (.t 10), none, [], [2, 10]⟩),
          (2, ⟨some 12, .fa 0 (.t 3), none, [], []⟩),
          (3, ⟨some 13, .ld 1 false (.t 12), none, [], [3, 12]⟩),
          (4, ⟨some 14, .call 180 [(.t 11), (.t 13)], none, [], [11, 13]⟩),
          (5, ⟨some 4, .mv (.t 14), none, [], [14]⟩)])
        .ret))
      (.seq
       (.kill [9])
       .skip)))
    (.seq
     (.reg false [
       (0, ⟨some 15, .fa 1 (.t 2), none, [], []⟩),
       (1, ⟨some 16, .ld 1 false (.t 15), none, [], [15]⟩),
       (2, ⟨some 17, .fa 1 (.t 3), none, [], []⟩),
       (3, ⟨some 18, .ld 1 false (.t 17), none, [], [17]⟩),
       (4, ⟨some 19, .call 181 [(.t 16), (.t 18)], none, [], [2, 3, 16, 18]⟩),
       (5, ⟨some 4, .mv (.t 19), none, [], [19]⟩)])
     .ret)))
def C146 : CFn := ⟨20, 2, [.t 4], B146⟩

/-- impl.sameKey -/
def B149 : CCode :=
  (.seq
   (.reg false [
     (0, ⟨some 4, .box 2 (.t 1), none, [], [1]⟩),
     (1, ⟨some 5, .box 2 (.t 2), none, [], [2]⟩),
     (2, ⟨some 6, .mv (.c (.bool false)), none, [], [6]⟩)])
   (.seq
    (.seq
     (.reg false [
       (0, ⟨some 8, .fa 0 (.t 4), none, [], []⟩),
       (1, ⟨some 9, .ld 1 false (.t 8), none, [], [8]⟩),
       (2, ⟨some 10, .fa 0 (.t 5), none, [], []⟩),
       (3, ⟨some 11, .ld 1 false (.t 10), none, [], [10]⟩),
       (4, ⟨some 12, .bin .neq (.t 9) (.t 11), none, [], [9, 11]⟩)])
     (.cond (.t 12)
      (.seq
       (.kill [0, 4, 5, 12])
       (.seq
        (.reg false [
          (0, ⟨some 6, .mv (.c (.bool false)), none, [], []⟩)])
        .ret))
      (.seq
       (.kill [12])
       .skip)))
    (.seq
     (.reg false [
       (0, ⟨some 13, .mv (.t 0), none, [], [0]⟩),
       (1, ⟨some 14, .fa 0 (.t 4), none, [], []⟩),
       (2, ⟨some 15, .ld 1 false (.t 14), none, [], [14]⟩),
       (3, ⟨some 16, .ia 3 (.t 13) (.t 15), none, [], []⟩),
       (4, ⟨some 17, .fa 2 (.t 16), none, [], [16]⟩),
       (5, ⟨some 18, .ld 1 false (.t 17), none, [], [13, 15, 17]⟩),
       (6, ⟨some 7, .mv (.t 18), none, [], [18]⟩)])
     (.seq
      (.reg true [
        (0, ⟨some 19, .fa 1 (.t 4), none, [], []⟩),
        (1, ⟨some 20, .ld 1 false (.t 19), none, [], [19]⟩),
        (2, ⟨some 21, .mv (.t 7), none, [], []⟩),
        (3, ⟨some 22, .sls 1 (.t 20) none (some (.t 21)) none, none, [], [4, 20, 21]⟩),
        (4, ⟨some 23, .fa 1 (.t 5), none, [], []⟩),
        (5, ⟨some 24, .ld 1 false (.t 23), none, [], [23]⟩),
        (6, ⟨some 25, .mv (.t 7), none, [], [7]⟩),
        (7, ⟨some 26, .sls 1 (.t 24) none (some (.t 25)) none, none, [], [5, 24, 25]⟩),
        (8, ⟨some 27, .call 182 [(.t 22), (.t 26)], none, [], [22, 26]⟩),
        (9, ⟨some 6, .mv (.t 27), none, [], [27]⟩)])
      .ret))))
def C149 : CFn := ⟨28, 3, [.t 6], B149⟩

/-- spec.l3Ints -/
def L153_0 : CCode :=
  (.seq
   (.seq
    (.reg false [
      (0, ⟨some 6, .mv (.t 5), none, [], []⟩),
      (1, ⟨some 7, .mv (.t 0), none, [], []⟩),
      (2, ⟨some 8, .len (.t 7), none, [], [7]⟩),
      (3, ⟨some 9, .bin .lss (.t 6) (.t 8), none, [], [6, 8]⟩),
      (4, ⟨some 10, .mv (.t 9), none, [], [9]⟩),
      (5, ⟨some 11, .mv (.t 5), some (10, true), [], []⟩),
      (6, ⟨some 12, .mv (.t 1), some (10, true), [], []⟩),
      (7, ⟨some 13, .len (.t 12), some (10, true), [], [12]⟩),
      (8, ⟨some 14, .bin .lss (.t 11) (.t 13), some (10, true), [], [11, 13]⟩),
      (9, ⟨some 15, .pick (.t 10) (.t 14) (.c (.bool false)), none, [], [10, 14]⟩)])
    (.cond (.t 15)
     (.seq
      (.kill [15])
      .skip)
     (.seq
      (.kill [5, 15])
      (.exit 0))))
   (.seq
    (.block 1
     (.seq
      (.seq
       (.reg true [
         (0, ⟨some 18, .mv (.t 0), none, [], []⟩),
         (1, ⟨some 19, .mv (.t 5), none, [], []⟩),
         (2, ⟨some 20, .ia 1 (.t 18) (.t 19), none, [], []⟩),
         (3, ⟨some 21, .ld 1 false (.t 20), none, [], [18, 19, 20]⟩),
         (4, ⟨some 22, .mv (.t 1), none, [], []⟩),
         (5, ⟨some 23, .mv (.t 5), none, [], []⟩),
         (6, ⟨some 24, .ia 1 (.t 22) (.t 23), none, [], []⟩),
         (7, ⟨some 25, .ld 1 false (.t 24), none, [], [22, 23, 24]⟩),
         (8, ⟨some 26, .bin .lss (.t 21) (.t 25), none, [], [21, 25]⟩)])
       (.cond (.t 26)
        (.seq
         (.kill [0, 1, 5, 26])
         (.seq
          (.reg false [
            (0, ⟨some 4, .mv (.c (.int .i64 (-1))), none, [], []⟩)])
          .ret))
        (.seq
         (.kill [26])
         .skip)))
      (.seq
       (.reg true [
         (0, ⟨some 27, .mv (.t 0), none, [], []⟩),
         (1, ⟨some 28, .mv (.t 5), none, [], []⟩),
         (2, ⟨some 29, .ia 1 (.t 27) (.t 28), none, [], []⟩),
         (3, ⟨some 30, .ld 1 false (.t 29), none, [], [27, 28, 29]⟩),
         (4, ⟨some 31, .mv (.t 1), none, [], []⟩),
         (5, ⟨some 32, .mv (.t 5), none, [], []⟩),
         (6, ⟨some 33, .ia 1 (.t 31) (.t 32), none, [], []⟩),
         (7, ⟨some 34, .ld 1 false (.t 33), none, [], [31, 32, 33]⟩),
         (8, ⟨some 35, .bin .gtr (.t 30) (.t 34), none, [], [30, 34]⟩)])
       (.cond (.t 35)
        (.seq
         (.kill [0, 1, 5, 35])
         (.seq
          (.reg false [
            (0, ⟨some 4, .mv (.c (.int .i64 (1))), none, [], []⟩)])
          .ret))
        (.seq
         (.kill [35])
         .skip)))))
    (.reg false [
      (0, ⟨some 16, .mv (.t 5), none, [], [5]⟩),
      (1, ⟨some 17, .bin .add (.t 16) (.c (.int .i64 (1))), none, [], [16]⟩),
      (2, ⟨some 5, .mv (.t 17), none, [], [17]⟩)])))
def B153 : CCode :=
  (.seq
   (.reg false [
     (0, ⟨some 4, .mv (.c (.int .i64 (0))), none, [], [4]⟩)])
   (.seq
    (.seq
     (.reg false [
       (0, ⟨some 5, .mv (.c (.int .i64 (0))), none, [], []⟩)])
     (.block 0
      (.loop L153_0)))
    (.seq
     (.seq
      (.reg false [
        (0, ⟨some 36, .mv (.t 0), none, [], []⟩),
        (1, ⟨some 37, .len (.t 36), none, [], [36]⟩),
        (2, ⟨some 38, .mv (.t 1), none, [], []⟩),
        (3, ⟨some 39, .len (.t 38), none, [], [38]⟩),
        (4, ⟨some 40, .bin .lss (.t 37) (.t 39), none, [], [37, 39]⟩)])
      (.cond (.t 40)
       (.seq
        (.kill [0, 1, 40])
        (.seq
         (.reg false [
           (0, ⟨some 4, .mv (.c (.int .i64 (-1))), none, [], []⟩)])
         .ret))
       (.seq
        (.kill [40])
        .skip)))
     (.seq
      (.seq
       (.reg false [
         (0, ⟨some 41, .mv (.t 0), none, [], [0]⟩),
         (1, ⟨some 42, .len (.t 41), none, [], [41]⟩),
         (2, ⟨some 43, .mv (.t 1), none, [], [1]⟩),
         (3, ⟨some 44, .len (.t 43), none, [], [43]⟩),
         (4, ⟨some 45, .bin .gtr (.t 42) (.t 44), none, [], [42, 44]⟩)])
       (.cond (.t 45)
        (.seq
         (.kill [45])
         (.seq
          (.reg false [
            (0, ⟨some 4, .mv (.c (.int .i64 (1))), none, [], []⟩)])
          .ret))
        (.seq
         (.kill [45])
         .skip)))
      (.seq
       (.reg false [
         (0, ⟨some 4, .mv (.c (.int .i64 (0))), none, [], []⟩)])
       .ret)))))
def C153 : CFn := ⟨46, 2, [.t 4], B153⟩

/-- spec.IsValidRelation -/
def B154 : CCode :=
  (.seq
   (.reg false [
     (0, ⟨some 1, .box 3 (.t 0), none, [], [0]⟩),
     (1, ⟨some 2, .mv (.c (.bool false)), none, [], [2]⟩)])
   (.seq
    (.reg false [
      (0, ⟨some 3, .fa 0 (.t 1), none, [], []⟩),
      (1, ⟨some 4, .ld 1 false (.t 3), none, [], [3]⟩),
      (2, ⟨some 5, .lens (.t 4), none, [], [4]⟩),
      (3, ⟨some 6, .bin .eql (.t 5) (.c (.int .i64 (1))), none, [], [5]⟩),
      (4, ⟨some 7, .mv (.t 6), none, [], [6]⟩),
      (5, ⟨some 8, .fa 0 (.t 1), some (7, true), [], []⟩),
      (6, ⟨some 9, .ld 1 false (.t 8), some (7, true), [], [8]⟩),
      (7, ⟨some 10, .ix (.t 9) (.c (.int .i64 (0))), some (7, true), [], [9]⟩),
      (8, ⟨some 11, .bin .geq (.t 10) (.c (.int .u8 (97))), some (7, true), [], [10]⟩),
      (9, ⟨some 12, .pick (.t 7) (.t 11) (.c (.bool false)), none, [], [7, 11]⟩),
      (10, ⟨some 13, .mv (.t 12), none, [], [12]⟩),
      (11, ⟨some 14, .fa 0 (.t 1), some (13, true), [], []⟩),
      (12, ⟨some 15, .ld 1 false (.t 14), some (13, true), [], [14]⟩),
      (13, ⟨some 16, .ix (.t 15) (.c (.int .i64 (0))), some (13, true), [], [15]⟩),
      (14, ⟨some 17, .bin .leq (.t 16) (.c (.int .u8 (122))), some (13, true), [], [16]⟩),
      (15, ⟨some 18, .pick (.t 13) (.t 17) (.c (.bool false)), none, [], [13, 17]⟩),
      (16, ⟨some 19, .mv (.t 18), none, [], [18]⟩),
      (17, ⟨some 20, .fa 1 (.t 1), some (19, true), [], []⟩),
      (18, ⟨some 21, .ld 1 false (.t 20), some (19, true), [], [20]⟩),
      (19, ⟨some 22, .call 71 [(.t 21), (.c (.int .i64 (1))), (.c (.int .i64 (3)))], some (19, true), [], [21]⟩),
      (20, ⟨some 23, .pick (.t 19) (.t 22) (.c (.bool false)), none, [], [19, 22]⟩),
      (21, ⟨some 24, .mv (.t 23), none, [], [23]⟩),
      (22, ⟨some 25, .fa 2 (.t 1), some (24, true), [], []⟩),
      (23, ⟨some 26, .ld 1 false (.t 25), some (24, true), [], [25]⟩),
      (24, ⟨some 27, .fa 1 (.t 1), some (24, true), [], []⟩),
      (25, ⟨some 28, .ld 1 false (.t 27), some (24, true), [], [1, 27]⟩),
      (26, ⟨some 29, .call 71 [(.t 26), (.c (.int .i64 (0))), (.t 28)], some (24, true), [], [26, 28]⟩),
      (27, ⟨some 30, .pick (.t 24) (.t 29) (.c (.bool false)), none, [], [24, 29]⟩),
      (28, ⟨some 2, .mv (.t 30), none, [], [30]⟩)])
    .ret))
def C154 : CFn := ⟨31, 1, [.t 2], B154⟩

/-- laws.szFact -/
def B155 : CCode :=
  (.seq
   (.reg false [
     (0, ⟨some 2, .box 2 (.t 0), none, [], [0]⟩),
     (1, ⟨some 4, .mv (.c (.int .i64 (0))), none, [], [4]⟩)])
   (.seq
    (.reg false [
      (0, ⟨some 5, .fa 1 (.t 2), none, [], []⟩),
      (1, ⟨some 6, .ld 1 false (.t 5), none, [], [5]⟩),
      (2, ⟨some 7, .mv (.t 1), none, [], [1]⟩),
      (3, ⟨some 8, .call 64 [(.t 6), (.t 7)], none, [], [2, 6, 7]⟩),
      (4, ⟨some 1, .mv (.t 8), none, [], [8]⟩)])
    (.seq
     (.seq
      (.reg false [
        (0, ⟨some 9, .mv (.t 1), none, [], []⟩),
        (1, ⟨some 10, .bin .lss (.t 9) (.c (.int .i64 (0))), none, [], [9]⟩)])
      (.cond (.t 10)
       (.seq
        (.kill [1, 10])
        (.seq
         (.reg false [
           (0, ⟨some 4, .mv (.c (.int .i64 (-1))), none, [], []⟩)])
         .ret))
       (.seq
        (.kill [10])
        .skip)))
     (.seq
      (.reg false [
        (0, ⟨some 11, .mv (.t 1), none, [], [1]⟩),
        (1, ⟨some 4, .mv (.t 11), none, [], [11]⟩)])
      .ret))))
def C155 : CFn := ⟨12, 2, [.t 4], B155⟩

/-- spec.BlockOf -/
def L156_0 : CCode :=
  (.seq
   (.seq
    (.reg false [
      (0, ⟨some 8, .mv (.t 6), none, [], []⟩),
      (1, ⟨some 9, .fa 1 (.t 2), none, [], []⟩),
      (2, ⟨some 10, .ld 1 false (.t 9), none, [], [9]⟩),
      (3, ⟨some 11, .len (.t 10), none, [], [10]⟩),
      (4, ⟨some 12, .bin .lss (.t 8) (.t 11), none, [], [8, 11]⟩),
      (5, ⟨some 13, .mv (.t 12), none, [], [12]⟩),
      (6, ⟨some 14, .ld 2 true (.t 2), some (13, true), [], []⟩),
      (7, ⟨some 15, .call 36 [(.t 14)], some (13, true), [], [14]⟩),
      (8, ⟨some 16, .pick (.t 13) (.t 15) (.c (.bool false)), none, [], [13, 15]⟩),
      (9, ⟨some 17, .mv (.t 16), none, [], [16]⟩),
      (10, ⟨some 18, .mv (.t 1), some (17, true), [], []⟩),
      (11, ⟨some 19, .fa 1 (.t 2), some (17, true), [], []⟩),
      (12, ⟨some 20, .ld 1 false (.t 19), some (17, true), [], [19]⟩),
      (13, ⟨some 21, .len (.t 20), some (17, true), [], [20]⟩),
      (14, ⟨some 22, .bin .sub (.t 21) (.c (.int .i64 (1))), some (17, true), [], [21]⟩),
      (15, ⟨some 23, .call 71 [(.t 18), (.c (.int .i64 (0))), (.t 22)], some (17, true), [], [18, 22]⟩),
      (16, ⟨some 24, .pick (.t 17) (.t 23) (.c (.bool false)), none, [], [17, 23]⟩)])
    (.cond (.t 24)
     (.seq
      (.kill [24])
      .skip)
     (.seq
      (.kill [1, 2, 6, 24])
      (.exit 0))))
   (.seq
    (.block 1
     (.seq
      (.reg true [
        (0, ⟨some 27, .fa 0 (.t 2), none, [], []⟩),
        (1, ⟨some 28, .ld 1 false (.t 27), none, [], [27]⟩),
        (2, ⟨some 29, .fa 1 (.t 2), none, [], []⟩),
        (3, ⟨some 30, .ld 1 false (.t 29), none, [], [29]⟩),
        (4, ⟨some 31, .mv (.t 1), none, [], []⟩),
        (5, ⟨some 32, .ia 2 (.t 30) (.t 31), none, [], [30]⟩),
        (6, ⟨some 33, .ld 2 true (.t 32), none, [], [32]⟩),
        (7, ⟨some 34, .fa 1 (.t 2), none, [], []⟩),
        (8, ⟨some 35, .ld 1 false (.t 34), none, [], [34]⟩),
        (9, ⟨some 36, .mv (.t 6), none, [], []⟩),
        (10, ⟨some 37, .ia 2 (.t 35) (.t 36), none, [], [35]⟩),
        (11, ⟨some 38, .ld 2 true (.t 37), none, [], [37]⟩),
        (12, ⟨some 39, .call 183 [(.t 28), (.t 33), (.t 38)], none, [], [28, 31, 33, 36, 38]⟩)])
      (.cond (.t 39)
       (.seq
        (.kill [39])
        (.reg false [
          (0, ⟨some 40, .mv (.t 5), none, [], [5]⟩),
          (1, ⟨some 41, .mv (.t 6), none, [], []⟩),
          (2, ⟨some 42, .bsl 1 1 [.int .i64 (0)] [(0, 1, (.t 41))], none, [], [41]⟩),
          (3, ⟨some 43, .app 1 8 (.t 40) (.t 42), none, [], [40, 42]⟩),
          (4, ⟨some 5, .mv (.t 43), none, [], [43]⟩)]))
       (.seq
        (.kill [39])
        .skip))))
    (.reg false [
      (0, ⟨some 25, .mv (.t 6), none, [], [6]⟩),
      (1, ⟨some 26, .bin .add (.t 25) (.c (.int .i64 (1))), none, [], [25]⟩),
      (2, ⟨some 6, .mv (.t 26), none, [], [26]⟩)])))
def B156 : CCode :=
  (.seq
   (.reg false [
     (0, ⟨some 2, .box 2 (.t 0), none, [], [0]⟩),
     (1, ⟨some 4, .mv (.c (.nils)), none, [], [4]⟩)])
   (.seq
    (.reg false [
      (0, ⟨some 7, .bsl 1 0 [.int .i64 (0)] [], none, [], []⟩),
      (1, ⟨some 5, .mv (.t 7), none, [], [7]⟩)])
    (.seq
     (.seq
      (.reg false [
        (0, ⟨some 6, .mv (.c (.int .i64 (0))), none, [], []⟩)])
      (.block 0
       (.loop L156_0)))
     (.seq
      (.reg false [
        (0, ⟨some 44, .mv (.t 5), none, [], [5]⟩),
        (1, ⟨some 4, .mv (.t 44), none, [], [44]⟩)])
      .ret))))
def C156 : CFn := ⟨45, 2, [.t 4], B156⟩

/-- laws.toFact -/
def B157 : CCode :=
  (.seq
   (.reg false [
     (0, ⟨some 1, .box 2 (.t 0), none, [], [0]⟩),
     (1, ⟨some 2, .al [.int .i64 (0), .nils], none, [], []⟩)])
   (.seq
    (.reg false [
      (0, ⟨some 3, .al [.int .i64 (0), .nils], none, [], []⟩)])
    (.seq
     (.reg false [
       (0, ⟨some 4, .fa 0 (.t 1), none, [], []⟩),
       (1, ⟨some 5, .ld 1 false (.t 4), none, [], [4]⟩),
       (2, ⟨some 6, .fa 0 (.t 3), none, [], []⟩),
       (3, ⟨none, .st 1 (.t 6) (.t 5), none, [], [5, 6]⟩)])
     (.seq
      (.reg false [
        (0, ⟨some 7, .fa 1 (.t 1), none, [], []⟩),
        (1, ⟨some 8, .ld 1 false (.t 7), none, [], [7]⟩),
        (2, ⟨some 9, .call 40 [(.t 8)], none, [], [1, 8]⟩),
        (3, ⟨some 10, .fa 1 (.t 3), none, [], []⟩),
        (4, ⟨none, .st 1 (.t 10) (.t 9), none, [], [9, 10]⟩)])
      (.seq
       (.reg false [
         (0, ⟨some 11, .ld 2 true (.t 3), none, [], []⟩),
         (1, ⟨none, .st 2 (.t 2) (.t 11), none, [], [3, 11]⟩)])
       .ret)))))
def C157 : CFn := ⟨12, 1, [.m 2 2 true], B157⟩

/-- slices.Index[[]int,int] -/
def L158_0 : CCode :=
  (.seq
   (.reg false [
     (0, ⟨some 9, .bin .lss (.t 8) (.t 7), none, [], []⟩)])
   (.seq
    (.cond (.t 9)
     (.seq
      (.kill [9])
      .skip)
     (.seq
      (.kill [0, 1, 7, 8, 9])
      (.exit 0)))
    (.seq
     (.block 1
      (.seq
       (.reg false [
         (0, ⟨some 10, .mv (.t 8), none, [], []⟩),
         (1, ⟨some 5, .mv (.t 10), none, [], [10]⟩)])
       (.seq
        (.reg false [
          (0, ⟨some 11, .mv (.t 1), none, [], []⟩),
          (1, ⟨some 12, .mv (.t 0), none, [], []⟩),
          (2, ⟨some 13, .mv (.t 5), none, [], []⟩),
          (3, ⟨some 14, .ia 1 (.t 12) (.t 13), none, [], []⟩),
          (4, ⟨some 15, .ld 1 false (.t 14), none, [], [12, 13, 14]⟩),
          (5, ⟨some 16, .bin .eql (.t 11) (.t 15), none, [], [11, 15]⟩)])
        (.cond (.t 16)
         (.seq
          (.kill [0, 1, 7, 8, 16])
          (.seq
           (.reg false [
             (0, ⟨some 17, .mv (.t 5), none, [], [5]⟩),
             (1, ⟨some 4, .mv (.t 17), none, [], [17]⟩)])
           .ret))
         (.seq
          (.kill [5, 16])
          .skip)))))
     (.reg false [
       (0, ⟨some 18, .bin .add (.t 8) (.c (.int .i64 (1))), none, [], [8]⟩),
       (1, ⟨some 8, .mv (.t 18), none, [], [18]⟩)]))))
def B158 : CCode :=
  (.seq
   (.reg false [
     (0, ⟨some 4, .mv (.c (.int .i64 (0))), none, [], [4]⟩)])
   (.seq
    (.seq
     (.reg false [
       (0, ⟨some 6, .mv (.t 0), none, [], []⟩),
       (1, ⟨some 7, .len (.t 6), none, [], [6]⟩),
       (2, ⟨some 8, .mv (.c (.int .i64 (0))), none, [], []⟩)])
     (.block 0
      (.loop L158_0)))
    (.seq
     (.reg false [
       (0, ⟨some 4, .mv (.c (.int .i64 (-1))), none, [], []⟩)])
     .ret)))
def C158 : CFn := ⟨19, 2, [.t 4], B158⟩

/-- laws.eqFact -/
def B159 : CCode :=
  (.seq
   (.reg false [
     (0, ⟨some 2, .box 2 (.t 0), none, [], [0]⟩),
     (1, ⟨some 3, .box 2 (.t 1), none, [], [1]⟩),
     (2, ⟨some 4, .mv (.c (.bool false)), none, [], [4]⟩)])
   (.seq
    (.seq
     (.reg false [
       (0, ⟨some 5, .fa 0 (.t 2), none, [], []⟩),
       (1, ⟨some 6, .ld 1 false (.t 5), none, [], [5]⟩),
       (2, ⟨some 7, .fa 0 (.t 3), none, [], []⟩),
       (3, ⟨some 8, .ld 1 false (.t 7), none, [], [7]⟩),
       (4, ⟨some 9, .bin .neq (.t 6) (.t 8), none, [], [6, 8]⟩)])
     (.cond (.t 9)
      (.seq
       (.kill [2, 3, 9])
       (.seq
        (.reg false [
          (0, ⟨some 4, .mv (.c (.bool false)), none, [], []⟩)])
        .ret))
      (.seq
       (.kill [9])
       .skip)))
    (.seq
     (.seq
      (.reg false [
        (0, ⟨some 10, .fa 1 (.t 2), none, [], []⟩),
        (1, ⟨some 11, .ld 1 false (.t 10), none, [], [10]⟩),
        (2, ⟨some 12, .fa 1 (.t 3), none, [], []⟩),
        (3, ⟨some 13, .ld 1 false (.t 12), none, [], [12]⟩),
        (4, ⟨some 14, .call 42 [(.t 11), (.t 13)], none, [], [2, 3, 11, 13]⟩),
        (5, ⟨some 15, .not (.t 14), none, [], [14]⟩)])
      (.cond (.t 15)
       (.seq
        (.kill [15])
        (.seq
         (.reg false [
           (0, ⟨some 4, .mv (.c (.bool false)), none, [], []⟩)])
         .ret))
       (.seq
        (.kill [15])
        .skip)))
     (.seq
      (.reg false [
        (0, ⟨some 4, .mv (.c (.bool true)), none, [], []⟩)])
      .ret))))
def C159 : CFn := ⟨16, 2, [.t 4], B159⟩

/-- laws.markText -/
def L160_0 : CCode :=
  (.seq
   (.seq
    (.reg false [
      (0, ⟨some 6, .mv (.t 0), none, [], []⟩),
      (1, ⟨some 7, .bin .gtr (.t 6) (.c (.int .i64 (0))), none, [], [6]⟩)])
    (.cond (.t 7)
     (.seq
      (.kill [7])
      .skip)
     (.seq
      (.kill [0, 7])
      (.exit 0))))
   (.block 1
    (.seq
     (.reg false [
       (0, ⟨some 8, .mv (.t 0), none, [], []⟩),
       (1, ⟨some 9, .bin .rem (.t 8) (.c (.int .i64 (10))), none, [], [8]⟩),
       (2, ⟨some 10, .bin .add (.c (.int .i64 (48))) (.t 9), none, [], [9]⟩),
       (3, ⟨some 11, .conv .u8 (.t 10), none, [], [10]⟩),
       (4, ⟨some 12, .bsl 1 1 [.int .u8 (0)] [(0, 1, (.t 11))], none, [], [11]⟩),
       (5, ⟨some 13, .b2s (.t 12), none, [], [12]⟩),
       (6, ⟨some 14, .mv (.t 3), none, [], [3]⟩),
       (7, ⟨some 15, .bin .add (.t 13) (.t 14), none, [], [13, 14]⟩),
       (8, ⟨some 3, .mv (.t 15), none, [], [15]⟩)])
     (.reg false [
       (0, ⟨some 16, .mv (.t 0), none, [], [0]⟩),
       (1, ⟨some 17, .bin .quo (.t 16) (.c (.int .i64 (10))), none, [], [16]⟩),
       (2, ⟨some 0, .mv (.t 17), none, [], [17]⟩)]))))
def B160 : CCode :=
  (.seq
   (.reg false [
     (0, ⟨some 2, .mv (.c (.str [])), none, [], [2]⟩)])
   (.seq
    (.seq
     (.reg false [
       (0, ⟨some 4, .mv (.t 0), none, [], []⟩),
       (1, ⟨some 5, .bin .leq (.t 4) (.c (.int .i64 (0))), none, [], [4]⟩)])
     (.cond (.t 5)
      (.seq
       (.kill [0, 5])
       (.seq
        (.reg false [
          (0, ⟨some 2, .mv (.c (.str [109, 48])), none, [], []⟩)])
        .ret))
      (.seq
       (.kill [5])
       .skip)))
    (.seq
     (.reg false [
       (0, ⟨some 3, .mv (.c (.str [])), none, [], []⟩)])
     (.seq
      (.block 0
       (.loop L160_0))
      (.seq
       (.reg false [
         (0, ⟨some 18, .mv (.t 3), none, [], [3]⟩),
         (1, ⟨some 19, .bin .add (.c (.str [109])) (.t 18), none, [], [18]⟩),
         (2, ⟨some 2, .mv (.t 19), none, [], [19]⟩)])
       .ret)))))
def C160 : CFn := ⟨20, 1, [.t 2], B160⟩

/-- impl.IsValidRelation -/
def B163 : CCode :=
  (.seq
   (.reg false [
     (0, ⟨some 1, .box 3 (.t 0), none, [], [0]⟩),
     (1, ⟨some 2, .mv (.c (.bool false)), none, [], [2]⟩)])
   (.seq
    (.reg false [
      (0, ⟨some 3, .fa 0 (.t 1), none, [], []⟩),
      (1, ⟨some 4, .ld 1 false (.t 3), none, [], [3]⟩),
      (2, ⟨some 5, .lens (.t 4), none, [], [4]⟩),
      (3, ⟨some 6, .bin .eql (.t 5) (.c (.int .i64 (1))), none, [], [5]⟩),
      (4, ⟨some 7, .mv (.t 6), none, [], [6]⟩),
      (5, ⟨some 8, .fa 0 (.t 1), some (7, true), [], []⟩),
      (6, ⟨some 9, .ld 1 false (.t 8), some (7, true), [], [8]⟩),
      (7, ⟨some 10, .ix (.t 9) (.c (.int .i64 (0))), some (7, true), [], [9]⟩),
      (8, ⟨some 11, .bin .geq (.t 10) (.c (.int .u8 (97))), some (7, true), [], [10]⟩),
      (9, ⟨some 12, .pick (.t 7) (.t 11) (.c (.bool false)), none, [], [7, 11]⟩),
      (10, ⟨some 13, .mv (.t 12), none, [], [12]⟩),
      (11, ⟨some 14, .fa 0 (.t 1), some (13, true), [], []⟩),
      (12, ⟨some 15, .ld 1 false (.t 14), some (13, true), [], [14]⟩),
      (13, ⟨some 16, .ix (.t 15) (.c (.int .i64 (0))), some (13, true), [], [15]⟩),
      (14, ⟨some 17, .bin .leq (.t 16) (.c (.int .u8 (122))), some (13, true), [], [16]⟩),
      (15, ⟨some 18, .pick (.t 13) (.t 17) (.c (.bool false)), none, [], [13, 17]⟩),
      (16, ⟨some 19, .mv (.t 18), none, [], [18]⟩),
      (17, ⟨some 20, .fa 1 (.t 1), some (19, true), [], []⟩),
      (18, ⟨some 21, .ld 1 false (.t 20), some (19, true), [], [20]⟩),
      (19, ⟨some 22, .call 87 [(.t 21), (.c (.int .i64 (1))), (.c (.int .i64 (3)))], some (19, true), [], [21]⟩),
      (20, ⟨some 23, .pick (.t 19) (.t 22) (.c (.bool false)), none, [], [19, 22]⟩),
      (21, ⟨some 24, .mv (.t 23), none, [], [23]⟩),
      (22, ⟨some 25, .fa 2 (.t 1), some (24, true), [], []⟩),
      (23, ⟨some 26, .ld 1 false (.t 25), some (24, true), [], [25]⟩),
      (24, ⟨some 27, .fa 1 (.t 1), some (24, true), [], []⟩),
      (25, ⟨some 28, .ld 1 false (.t 27), some (24, true), [], [1, 27]⟩),
      (26, ⟨some 29, .call 87 [(.t 26), (.c (.int .i64 (0))), (.t 28)], some (24, true), [], [26, 28]⟩),
      (27, ⟨some 30, .pick (.t 24) (.t 29) (.c (.bool false)), none, [], [24, 29]⟩),
      (28, ⟨some 2, .mv (.t 30), none, [], [30]⟩)])
    .ret))
def C163 : CFn := ⟨31, 1, [.t 2], B163⟩

/-- impl.areValues -/
def B179 : CCode :=
  (.seq
   (.reg false [
     (0, ⟨some 2, .mv (.c (.bool false)), none, [], [2]⟩)])
   (.seq
    (.reg false [
      (0, ⟨some 3, .mv (.t 0), none, [], [0]⟩),
      (1, ⟨some 4, .call 74 [(.t 3), (.c (.fn 195 []))], none, [], [3]⟩),
      (2, ⟨some 5, .not (.t 4), none, [], [4]⟩),
      (3, ⟨some 2, .mv (.t 5), none, [], [5]⟩)])
    .ret))
def C179 : CFn := ⟨6, 1, [.t 2], B179⟩

/-- impl.compare -/
def B180 : CCode :=
  (.seq
   (.reg false [
     (0, ⟨some 4, .mv (.c (.int .i64 (0))), none, [], [4]⟩)])
   (.seq
    (.block 0
     (.seq
      (.reg false [
        (0, ⟨some 6, .mv (.t 0), none, [], []⟩),
        (1, ⟨some 7, .mv (.t 1), none, [], []⟩),
        (2, ⟨some 8, .bin .lss (.t 6) (.t 7), none, [], [6, 7]⟩),
        (3, ⟨some 5, .mv (.t 8), none, [], [8]⟩)])
      (.cond (.t 5)
       (.seq
        (.kill [0, 1, 5])
        (.seq
         (.reg false [
           (0, ⟨some 4, .mv (.c (.int .i64 (-1))), none, [], []⟩)])
         .ret))
       (.seq
        (.kill [5])
        (.seq
         (.reg false [
           (0, ⟨some 10, .mv (.t 0), none, [], [0]⟩),
           (1, ⟨some 11, .mv (.t 1), none, [], [1]⟩),
           (2, ⟨some 12, .bin .gtr (.t 10) (.t 11), none, [], [10, 11]⟩),
           (3, ⟨some 9, .mv (.t 12), none, [], [12]⟩)])
         (.cond (.t 9)
          (.seq
           (.kill [9])
           (.seq
            (.reg false [
              (0, ⟨some 4, .mv (.c (.int .i64 (1))), none, [], []⟩)])
            .ret))
          (.seq
           (.kill [9])
           .skip)))))))
    (.seq
     (.reg false [
       (0, ⟨some 4, .mv (.c (.int .i64 (0))), none, [], []⟩)])
     .ret)))
def C180 : CFn := ⟨13, 2, [.t 4], B180⟩

/-- slices.Compare[[]int,int] -/
def L181_0 : CCode :=
  (.seq
   (.reg false [
     (0, ⟨some 12, .bin .lss (.t 11) (.t 10), none, [], []⟩)])
   (.seq
    (.cond (.t 12)
     (.seq
      (.kill [12])
      .skip)
     (.seq
      (.kill [9, 10, 11, 12])
      (.exit 0)))
    (.seq
     (.block 1
      (.seq
       (.reg false [
         (0, ⟨some 13, .mv (.t 11), none, [], []⟩),
         (1, ⟨some 14, .ia 1 (.t 9) (.t 11), none, [], []⟩),
         (2, ⟨some 15, .ld 1 false (.t 14), none, [], [14]⟩),
         (3, ⟨some 5, .mv (.t 13), none, [], [13]⟩),
         (4, ⟨some 6, .mv (.t 15), none, [], [15]⟩)])
       (.seq
        (.seq
         (.reg false [
           (0, ⟨some 16, .mv (.t 5), none, [], []⟩),
           (1, ⟨some 17, .mv (.t 1), none, [], []⟩),
           (2, ⟨some 18, .len (.t 17), none, [], [17]⟩),
           (3, ⟨some 19, .bin .geq (.t 16) (.t 18), none, [], [16, 18]⟩)])
         (.cond (.t 19)
          (.seq
           (.kill [0, 1, 5, 6, 9, 10, 11, 19])
           (.seq
            (.reg false [
              (0, ⟨some 4, .mv (.c (.int .i64 (1))), none, [], []⟩)])
            .ret))
          (.seq
           (.kill [19])
           .skip)))
        (.seq
         (.reg false [
           (0, ⟨some 20, .mv (.t 1), none, [], []⟩),
           (1, ⟨some 21, .mv (.t 5), none, [], [5]⟩),
           (2, ⟨some 22, .ia 1 (.t 20) (.t 21), none, [], []⟩),
           (3, ⟨some 23, .ld 1 false (.t 22), none, [], [20, 21, 22]⟩),
           (4, ⟨some 7, .mv (.t 23), none, [], [23]⟩)])
         (.seq
          (.reg false [
            (0, ⟨some 24, .mv (.t 6), none, [], [6]⟩),
            (1, ⟨some 25, .mv (.t 7), none, [], [7]⟩),
            (2, ⟨some 26, .call 196 [(.t 24), (.t 25)], none, [], [24, 25]⟩),
            (3, ⟨some 8, .mv (.t 26), none, [], [26]⟩)])
          (.seq
           (.reg false [
             (0, ⟨some 27, .mv (.t 8), none, [], []⟩),
             (1, ⟨some 28, .bin .neq (.t 27) (.c (.int .i64 (0))), none, [], [27]⟩)])
           (.cond (.t 28)
            (.seq
             (.kill [0, 1, 9, 10, 11, 28])
             (.seq
              (.reg false [
                (0, ⟨some 29, .mv (.t 8), none, [], [8]⟩),
                (1, ⟨some 4, .mv (.t 29), none, [], [29]⟩)])
              .ret))
            (.seq
             (.kill [8, 28])
             .skip))))))))
     (.reg false [
       (0, ⟨some 30, .bin .add (.t 11) (.c (.int .i64 (1))), none, [], [11]⟩),
       (1, ⟨some 11, .mv (.t 30), none, [], [30]⟩)]))))
def B181 : CCode :=
  (.seq
   (.reg false [
     (0, ⟨some 4, .mv (.c (.int .i64 (0))), none, [], [4]⟩)])
   (.seq
    (.seq
     (.reg false [
       (0, ⟨some 9, .mv (.t 0), none, [], []⟩),
       (1, ⟨some 10, .len (.t 9), none, [], []⟩),
       (2, ⟨some 11, .mv (.c (.int .i64 (0))), none, [], []⟩)])
     (.block 0
      (.loop L181_0)))
    (.seq
     (.seq
      (.reg false [
        (0, ⟨some 31, .mv (.t 0), none, [], [0]⟩),
        (1, ⟨some 32, .len (.t 31), none, [], [31]⟩),
        (2, ⟨some 33, .mv (.t 1), none, [], [1]⟩),
        (3, ⟨some 34, .len (.t 33), none, [], [33]⟩),
        (4, ⟨some 35, .bin .lss (.t 32) (.t 34), none, [], [32, 34]⟩)])
      (.cond (.t 35)
       (.seq
        (.kill [35])
        (.seq
         (.reg false [
           (0, ⟨some 4, .mv (.c (.int .i64 (-1))), none, [], []⟩)])
         .ret))
       (.seq
        (.kill [35])
        .skip)))
     (.seq
      (.reg false [
        (0, ⟨some 4, .mv (.c (.int .i64 (0))), none, [], []⟩)])
      .ret))))
def C181 : CFn := ⟨36, 2, [.t 4], B181⟩

/-- slices.Equal[[]int,int] -/
def L182_0 : CCode :=
  (.seq
   (.reg false [
     (0, ⟨some 14, .bin .lss (.t 13) (.t 12), none, [], []⟩)])
   (.seq
    (.cond (.t 14)
     (.seq
      (.kill [14])
      .skip)
     (.seq
      (.kill [0, 1, 12, 13, 14])
      (.exit 0)))
    (.seq
     (.block 1
      (.seq
       (.reg false [
         (0, ⟨some 15, .mv (.t 13), none, [], []⟩),
         (1, ⟨some 5, .mv (.t 15), none, [], [15]⟩)])
       (.seq
        (.reg true [
          (0, ⟨some 16, .mv (.t 0), none, [], []⟩),
          (1, ⟨some 17, .mv (.t 5), none, [], []⟩),
          (2, ⟨some 18, .ia 1 (.t 16) (.t 17), none, [], []⟩),
          (3, ⟨some 19, .ld 1 false (.t 18), none, [], [16, 17, 18]⟩),
          (4, ⟨some 20, .mv (.t 1), none, [], []⟩),
          (5, ⟨some 21, .mv (.t 5), none, [], [5]⟩),
          (6, ⟨some 22, .ia 1 (.t 20) (.t 21), none, [], []⟩),
          (7, ⟨some 23, .ld 1 false (.t 22), none, [], [20, 21, 22]⟩),
          (8, ⟨some 24, .bin .neq (.t 19) (.t 23), none, [], [19, 23]⟩)])
        (.cond (.t 24)
         (.seq
          (.kill [0, 1, 12, 13, 24])
          (.seq
           (.reg false [
             (0, ⟨some 4, .mv (.c (.bool false)), none, [], []⟩)])
           .ret))
         (.seq
          (.kill [24])
          .skip)))))
     (.reg false [
       (0, ⟨some 25, .bin .add (.t 13) (.c (.int .i64 (1))), none, [], [13]⟩),
       (1, ⟨some 13, .mv (.t 25), none, [], [25]⟩)]))))
def B182 : CCode :=
  (.seq
   (.reg false [
     (0, ⟨some 4, .mv (.c (.bool false)), none, [], [4]⟩)])
   (.seq
    (.seq
     (.reg false [
       (0, ⟨some 6, .mv (.t 0), none, [], []⟩),
       (1, ⟨some 7, .len (.t 6), none, [], [6]⟩),
       (2, ⟨some 8, .mv (.t 1), none, [], []⟩),
       (3, ⟨some 9, .len (.t 8), none, [], [8]⟩),
       (4, ⟨some 10, .bin .neq (.t 7) (.t 9), none, [], [7, 9]⟩)])
     (.cond (.t 10)
      (.seq
       (.kill [0, 1, 10])
       (.seq
        (.reg false [
          (0, ⟨some 4, .mv (.c (.bool false)), none, [], []⟩)])
        .ret))
      (.seq
       (.kill [10])
       .skip)))
    (.seq
     (.seq
      (.reg false [
        (0, ⟨some 11, .mv (.t 0), none, [], []⟩),
        (1, ⟨some 12, .len (.t 11), none, [], [11]⟩),
        (2, ⟨some 13, .mv (.c (.int .i64 (0))), none, [], []⟩)])
      (.block 0
       (.loop L182_0)))
     (.seq
      (.reg false [
        (0, ⟨some 4, .mv (.c (.bool true)), none, [], []⟩)])
      .ret))))
def C182 : CFn := ⟨26, 2, [.t 4], B182⟩

/-- spec.HaveSameKey -/
def B183 : CCode :=
  (.seq
   (.reg false [
     (0, ⟨some 4, .box 2 (.t 1), none, [], [1]⟩),
     (1, ⟨some 5, .box 2 (.t 2), none, [], [2]⟩),
     (2, ⟨some 6, .mv (.c (.bool false)), none, [], [6]⟩)])
   (.seq
    (.reg true [
      (0, ⟨some 7, .mv (.t 0), none, [], []⟩),
      (1, ⟨some 8, .ld 2 true (.t 4), none, [], []⟩),
      (2, ⟨some 9, .call 92 [(.t 7), (.t 8)], none, [], [7, 8]⟩),
      (3, ⟨some 10, .mv (.t 9), none, [], [9]⟩),
      (4, ⟨some 11, .mv (.t 0), some (10, true), [], []⟩),
      (5, ⟨some 12, .ld 2 true (.t 5), some (10, true), [], []⟩),
      (6, ⟨some 13, .call 92 [(.t 11), (.t 12)], some (10, true), [], [11, 12]⟩),
      (7, ⟨some 14, .pick (.t 10) (.t 13) (.c (.bool false)), none, [], [10, 13]⟩),
      (8, ⟨some 15, .mv (.t 14), none, [], [14]⟩),
      (9, ⟨some 16, .fa 0 (.t 4), some (15, true), [], []⟩),
      (10, ⟨some 17, .ld 1 false (.t 16), some (15, true), [], [16]⟩),
      (11, ⟨some 18, .fa 0 (.t 5), some (15, true), [], []⟩),
      (12, ⟨some 19, .ld 1 false (.t 18), some (15, true), [], [18]⟩),
      (13, ⟨some 20, .bin .eql (.t 17) (.t 19), some (15, true), [], [17, 19]⟩),
      (14, ⟨some 21, .pick (.t 15) (.t 20) (.c (.bool false)), none, [], [15, 20]⟩),
      (15, ⟨some 22, .mv (.t 21), none, [], [21]⟩),
      (16, ⟨some 23, .mv (.t 0), some (22, true), [], []⟩),
      (17, ⟨some 24, .ld 2 true (.t 4), some (22, true), [], []⟩),
      (19, ⟨some 26, .mv (.t 0), some (22, true), [], [0]⟩),
      (20, ⟨some 27, .ld 2 true (.t 5), some (22, true), [], []⟩),
      (18, ⟨some 25, .call 197 [(.t 23), (.t 24)], some (22, true), [(5, 2)], [4, 23, 24]⟩),
      (21, ⟨some 28, .call 197 [(.t 26), (.t 27)], some (22, true), [], [5, 26, 27]⟩),
      (22, ⟨some 29, .call 153 [(.t 25), (.t 28)], some (22, true), [], [25, 28]⟩),
      (23, ⟨some 30, .bin .eql (.t 29) (.c (.int .i64 (0))), some (22, true), [], [29]⟩),
      (24, ⟨some 31, .pick (.t 22) (.t 30) (.c (.bool false)), none, [], [22, 30]⟩),
      (25, ⟨some 6, .mv (.t 31), none, [], [31]⟩)])
    .ret))
def C183 : CFn := ⟨32, 3, [.t 6], B183⟩

/-- impl.areValues$1 -/
def B195 : CCode :=
  (.seq
   (.reg false [
     (0, ⟨some 2, .mv (.c (.bool false)), none, [], [2]⟩)])
   (.seq
    (.reg false [
      (0, ⟨some 3, .mv (.t 0), none, [], [0]⟩),
      (1, ⟨some 4, .call 87 [(.t 3), (.c (.int .i64 (0))), (.c (.int .i64 (9)))], none, [], [3]⟩),
      (2, ⟨some 5, .not (.t 4), none, [], [4]⟩),
      (3, ⟨some 2, .mv (.t 5), none, [], [5]⟩)])
    .ret))
def C195 : CFn := ⟨6, 1, [.t 2], B195⟩

/-- cmp.Compare[int] -/
def B196 : CCode :=
  (.seq
   (.reg false [
     (0, ⟨some 4, .mv (.c (.int .i64 (0))), none, [], [4]⟩)])
   (.seq
    (.reg false [
      (0, ⟨some 7, .mv (.t 0), none, [], []⟩),
      (1, ⟨some 8, .call 203 [(.t 7)], none, [], [7]⟩),
      (2, ⟨some 5, .mv (.t 8), none, [], [8]⟩)])
    (.seq
     (.reg false [
       (0, ⟨some 9, .mv (.t 1), none, [], []⟩),
       (1, ⟨some 10, .call 203 [(.t 9)], none, [], [9]⟩),
       (2, ⟨some 6, .mv (.t 10), none, [], [10]⟩)])
     (.seq
      (.seq
       (.reg false [
         (0, ⟨some 11, .mv (.t 5), none, [], [5]⟩)])
       (.cond (.t 11)
        (.seq
         (.kill [0, 1, 11])
         (.seq
          (.seq
           (.reg false [
             (0, ⟨some 12, .mv (.t 6), none, [], [6]⟩)])
           (.cond (.t 12)
            (.seq
             (.kill [12])
             (.seq
              (.reg false [
                (0, ⟨some 4, .mv (.c (.int .i64 (0))), none, [], []⟩)])
              .ret))
            (.seq
             (.kill [12])
             .skip)))
          (.seq
           (.reg false [
             (0, ⟨some 4, .mv (.c (.int .i64 (-1))), none, [], []⟩)])
           .ret)))
        (.seq
         (.kill [11])
         .skip)))
      (.seq
       (.seq
        (.reg false [
          (0, ⟨some 13, .mv (.t 6), none, [], [6]⟩)])
        (.cond (.t 13)
         (.seq
          (.kill [0, 1, 13])
          (.seq
           (.reg false [
             (0, ⟨some 4, .mv (.c (.int .i64 (1))), none, [], []⟩)])
           .ret))
         (.seq
          (.kill [13])
          .skip)))
       (.seq
        (.seq
         (.reg false [
           (0, ⟨some 14, .mv (.t 0), none, [], []⟩),
           (1, ⟨some 15, .mv (.t 1), none, [], []⟩),
           (2, ⟨some 16, .bin .lss (.t 14) (.t 15), none, [], [14, 15]⟩)])
         (.cond (.t 16)
          (.seq
           (.kill [0, 1, 16])
           (.seq
            (.reg false [
              (0, ⟨some 4, .mv (.c (.int .i64 (-1))), none, [], []⟩)])
            .ret))
          (.seq
           (.kill [16])
           .skip)))
        (.seq
         (.seq
          (.reg false [
            (0, ⟨some 17, .mv (.t 0), none, [], [0]⟩),
            (1, ⟨some 18, .mv (.t 1), none, [], [1]⟩),
            (2, ⟨some 19, .bin .gtr (.t 17) (.t 18), none, [], [17, 18]⟩)])
          (.cond (.t 19)
           (.seq
            (.kill [19])
            (.seq
             (.reg false [
               (0, ⟨some 4, .mv (.c (.int .i64 (1))), none, [], []⟩)])
             .ret))
           (.seq
            (.kill [19])
            .skip)))
         (.seq
          (.reg false [
            (0, ⟨some 4, .mv (.c (.int .i64 (0))), none, [], []⟩)])
          .ret))))))))
def C196 : CFn := ⟨20, 2, [.t 4], B196⟩

/-- spec.KeyOf -/
def B197 : CCode :=
  (.seq
   (.reg false [
     (0, ⟨some 3, .box 2 (.t 1), none, [], [1]⟩),
     (1, ⟨some 4, .mv (.c (.nils)), none, [], [4]⟩)])
   (.seq
    (.seq
     (.reg false [
       (0, ⟨some 5, .mv (.t 0), none, [], []⟩),
       (1, ⟨some 6, .ld 2 true (.t 3), none, [], []⟩),
       (2, ⟨some 7, .call 92 [(.t 5), (.t 6)], none, [], [5, 6]⟩),
       (3, ⟨some 8, .not (.t 7), none, [], [7]⟩)])
     (.cond (.t 8)
      (.seq
       (.kill [0, 3, 8])
       (.seq
        (.reg false [
          (0, ⟨some 9, .bsl 1 0 [.int .i64 (0)] [], none, [], []⟩),
          (1, ⟨some 4, .mv (.t 9), none, [], [9]⟩)])
        .ret))
      (.seq
       (.kill [8])
       .skip)))
    (.seq
     (.reg true [
       (0, ⟨some 10, .bsl 1 0 [.int .i64 (0)] [], none, [], []⟩),
       (1, ⟨some 11, .fa 1 (.t 3), none, [], []⟩),
       (2, ⟨some 12, .ld 1 false (.t 11), none, [], [11]⟩),
       (3, ⟨some 13, .mv (.t 0), none, [], [0]⟩),
       (4, ⟨some 14, .fa 0 (.t 3), none, [], []⟩),
       (5, ⟨some 15, .ld 1 false (.t 14), none, [], [14]⟩),
       (6, ⟨some 16, .ia 3 (.t 13) (.t 15), none, [], []⟩),
       (7, ⟨some 17, .fa 2 (.t 16), none, [], [16]⟩),
       (8, ⟨some 18, .ld 1 false (.t 17), none, [], [13, 15, 17]⟩),
       (9, ⟨some 19, .sls 1 (.t 12) none (some (.t 18)) none, none, [], [3, 12, 18]⟩),
       (10, ⟨some 20, .app 1 8 (.t 10) (.t 19), none, [], [10, 19]⟩),
       (11, ⟨some 4, .mv (.t 20), none, [], [20]⟩)])
     .ret)))
def C197 : CFn := ⟨21, 2, [.t 4], B197⟩

/-- cmp.isNaN[int] -/
def B203 : CCode :=
  (.seq
   (.reg false [
     (0, ⟨some 2, .mv (.c (.bool false)), none, [], [2]⟩)])
   (.seq
    (.reg false [
      (0, ⟨some 3, .mv (.t 0), none, [], []⟩),
      (1, ⟨some 4, .mv (.t 0), none, [], [0]⟩),
      (2, ⟨some 5, .bin .neq (.t 3) (.t 4), none, [], [3, 4]⟩),
      (3, ⟨some 2, .mv (.t 5), none, [], [5]⟩)])
    .ret))
def C203 : CFn := ⟨6, 1, [.t 2], B203⟩

theorem chk6 : chkFn Go.Proofs.Try.prog 6 C6 = true := by kernel_rfl
theorem chk36 : chkFn Go.Proofs.Try.prog 36 C36 = true := by kernel_rfl
theorem chk37 : chkFn Go.Proofs.Try.prog 37 C37 = true := by kernel_rfl
theorem chk38 : chkFn Go.Proofs.Try.prog 38 C38 = true := by kernel_rfl
theorem chk39 : chkFn Go.Proofs.Try.prog 39 C39 = true := by kernel_rfl
theorem chk40 : chkFn Go.Proofs.Try.prog 40 C40 = true := by kernel_rfl
theorem chk41 : chkFn Go.Proofs.Try.prog 41 C41 = true := by kernel_rfl
theorem chk42 : chkFn Go.Proofs.Try.prog 42 C42 = true := by kernel_rfl
theorem chk43 : chkFn Go.Proofs.Try.prog 43 C43 = true := by kernel_rfl
theorem chk44 : chkFn Go.Proofs.Try.prog 44 C44 = true := by kernel_rfl
theorem chk45 : chkFn Go.Proofs.Try.prog 45 C45 = true := by kernel_rfl
theorem chk46 : chkFn Go.Proofs.Try.prog 46 C46 = true := by kernel_rfl
theorem chk47 : chkFn Go.Proofs.Try.prog 47 C47 = true := by kernel_rfl
theorem chk50 : chkFn Go.Proofs.Try.prog 50 C50 = true := by kernel_rfl
theorem chk53 : chkFn Go.Proofs.Try.prog 53 C53 = true := by kernel_rfl
theorem chk64 : chkFn Go.Proofs.Try.prog 64 C64 = true := by kernel_rfl
theorem chk71 : chkFn Go.Proofs.Try.prog 71 C71 = true := by kernel_rfl
theorem chk74 : chkFn Go.Proofs.Try.prog 74 C74 = true := by kernel_rfl
theorem chk86 : chkFn Go.Proofs.Try.prog 86 C86 = true := by kernel_rfl
theorem chk87 : chkFn Go.Proofs.Try.prog 87 C87 = true := by kernel_rfl
theorem chk92 : chkFn Go.Proofs.Try.prog 92 C92 = true := by kernel_rfl
theorem chk93 : chkFn Go.Proofs.Try.prog 93 C93 = true := by kernel_rfl
theorem chk94 : chkFn Go.Proofs.Try.prog 94 C94 = true := by kernel_rfl
theorem chk95 : chkFn Go.Proofs.Try.prog 95 C95 = true := by kernel_rfl
theorem chk96 : chkFn Go.Proofs.Try.prog 96 C96 = true := by kernel_rfl
theorem chk97 : chkFn Go.Proofs.Try.prog 97 C97 = true := by kernel_rfl
theorem chk98 : chkFn Go.Proofs.Try.prog 98 C98 = true := by kernel_rfl
theorem chk99 : chkFn Go.Proofs.Try.prog 99 C99 = true := by kernel_rfl
theorem chk100 : chkFn Go.Proofs.Try.prog 100 C100 = true := by kernel_rfl
theorem chk101 : chkFn Go.Proofs.Try.prog 101 C101 = true := by kernel_rfl
theorem chk102 : chkFn Go.Proofs.Try.prog 102 C102 = true := by kernel_rfl
theorem chk103 : chkFn Go.Proofs.Try.prog 103 C103 = true := by kernel_rfl
theorem chk104 : chkFn Go.Proofs.Try.prog 104 C104 = true := by kernel_rfl
theorem chk105 : chkFn Go.Proofs.Try.prog 105 C105 = true := by kernel_rfl
theorem chk106 : chkFn Go.Proofs.Try.prog 106 C106 = true := by kernel_rfl
theorem chk107 : chkFn Go.Proofs.Try.prog 107 C107 = true := by kernel_rfl
theorem chk108 : chkFn Go.Proofs.Try.prog 108 C108 = true := by kernel_rfl
theorem chk109 : chkFn Go.Proofs.Try.prog 109 C109 = true := by kernel_rfl
theorem chk114 : chkFn Go.Proofs.Try.prog 114 C114 = true := by kernel_rfl
theorem chk116 : chkFn Go.Proofs.Try.prog 116 C116 = true := by kernel_rfl
theorem chk121 : chkFn Go.Proofs.Try.prog 121 C121 = true := by kernel_rfl
theorem chk145 : chkFn Go.Proofs.Try.prog 145 C145 = true := by kernel_rfl
theorem chk146 : chkFn Go.Proofs.Try.prog 146 C146 = true := by kernel_rfl
theorem chk149 : chkFn Go.Proofs.Try.prog 149 C149 = true := by kernel_rfl
theorem chk153 : chkFn Go.Proofs.Try.prog 153 C153 = true := by kernel_rfl
theorem chk154 : chkFn Go.Proofs.Try.prog 154 C154 = true := by kernel_rfl
theorem chk155 : chkFn Go.Proofs.Try.prog 155 C155 = true := by kernel_rfl
theorem chk156 : chkFn Go.Proofs.Try.prog 156 C156 = true := by kernel_rfl
theorem chk157 : chkFn Go.Proofs.Try.prog 157 C157 = true := by kernel_rfl
theorem chk158 : chkFn Go.Proofs.Try.prog 158 C158 = true := by kernel_rfl
theorem chk159 : chkFn Go.Proofs.Try.prog 159 C159 = true := by kernel_rfl
theorem chk160 : chkFn Go.Proofs.Try.prog 160 C160 = true := by kernel_rfl
theorem chk163 : chkFn Go.Proofs.Try.prog 163 C163 = true := by kernel_rfl
theorem chk179 : chkFn Go.Proofs.Try.prog 179 C179 = true := by kernel_rfl
theorem chk180 : chkFn Go.Proofs.Try.prog 180 C180 = true := by kernel_rfl
theorem chk181 : chkFn Go.Proofs.Try.prog 181 C181 = true := by kernel_rfl
theorem chk182 : chkFn Go.Proofs.Try.prog 182 C182 = true := by kernel_rfl
theorem chk183 : chkFn Go.Proofs.Try.prog 183 C183 = true := by kernel_rfl
theorem chk195 : chkFn Go.Proofs.Try.prog 195 C195 = true := by kernel_rfl
theorem chk196 : chkFn Go.Proofs.Try.prog 196 C196 = true := by kernel_rfl
theorem chk197 : chkFn Go.Proofs.Try.prog 197 C197 = true := by kernel_rfl
theorem chk203 : chkFn Go.Proofs.Try.prog 203 C203 = true := by kernel_rfl
def Tab (f : Nat) : Option CFn :=
  match f with
  | 6 => some C6
  | 36 => some C36
  | 37 => some C37
  | 38 => some C38
  | 39 => some C39
  | 40 => some C40
  | 41 => some C41
  | 42 => some C42
  | 43 => some C43
  | 44 => some C44
  | 45 => some C45
  | 46 => some C46
  | 47 => some C47
  | 50 => some C50
  | 53 => some C53
  | 64 => some C64
  | 71 => some C71
  | 74 => some C74
  | 86 => some C86
  | 87 => some C87
  | 92 => some C92
  | 93 => some C93
  | 94 => some C94
  | 95 => some C95
  | 96 => some C96
  | 97 => some C97
  | 98 => some C98
  | 99 => some C99
  | 100 => some C100
  | 101 => some C101
  | 102 => some C102
  | 103 => some C103
  | 104 => some C104
  | 105 => some C105
  | 106 => some C106
  | 107 => some C107
  | 108 => some C108
  | 109 => some C109
  | 114 => some C114
  | 116 => some C116
  | 121 => some C121
  | 145 => some C145
  | 146 => some C146
  | 149 => some C149
  | 153 => some C153
  | 154 => some C154
  | 155 => some C155
  | 156 => some C156
  | 157 => some C157
  | 158 => some C158
  | 159 => some C159
  | 160 => some C160
  | 163 => some C163
  | 179 => some C179
  | 180 => some C180
  | 181 => some C181
  | 182 => some C182
  | 183 => some C183
  | 195 => some C195
  | 196 => some C196
  | 197 => some C197
  | 203 => some C203
  | _ => none
theorem tabOk : TabOk Go.Proofs.Try.prog Tab := by
  intro f cf h
  unfold Tab at h
  split at h <;> simp only [Option.some.injEq, reduceCtorEq] at h <;> subst h
  · exact chk6
  · exact chk36
  · exact chk37
  · exact chk38
  · exact chk39
  · exact chk40
  · exact chk41
  · exact chk42
  · exact chk43
  · exact chk44
  · exact chk45
  · exact chk46
  · exact chk47
  · exact chk50
  · exact chk53
  · exact chk64
  · exact chk71
  · exact chk74
  · exact chk86
  · exact chk87
  · exact chk92
  · exact chk93
  · exact chk94
  · exact chk95
  · exact chk96
  · exact chk97
  · exact chk98
  · exact chk99
  · exact chk100
  · exact chk101
  · exact chk102
  · exact chk103
  · exact chk104
  · exact chk105
  · exact chk106
  · exact chk107
  · exact chk108
  · exact chk109
  · exact chk114
  · exact chk116
  · exact chk121
  · exact chk145
  · exact chk146
  · exact chk149
  · exact chk153
  · exact chk154
  · exact chk155
  · exact chk156
  · exact chk157
  · exact chk158
  · exact chk159
  · exact chk160
  · exact chk163
  · exact chk179
  · exact chk180
  · exact chk181
  · exact chk182
  · exact chk183
  · exact chk195
  · exact chk196
  · exact chk197
  · exact chk203

end Go.Proofs.YtabmomjfdondnaaH
