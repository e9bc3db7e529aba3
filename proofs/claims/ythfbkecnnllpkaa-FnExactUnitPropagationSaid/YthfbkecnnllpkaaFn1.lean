/- The program's functions, for the abstract machine: printed by gen.py. -/
import Derived.Test.YthfbkecnnllpkaaHm28
import Derived.Test.YthfbkecnnllpkaaProg
set_option linter.unusedVariables false
set_option maxRecDepth 100000
namespace Go.Proofs.YthfbkecnnllpkaaH
open Go
/-- laws.FnExactUnitPropagation -/
def B11 : CCode :=
  (.seq
   (.reg false [
     (0, ⟨some 6, .mv (.c (.bool false)), none, [], [6]⟩)])
   (.seq
    (.seq
     (.reg false [
       (0, ⟨some 19, .mv (.t 2), none, [], []⟩),
       (1, ⟨some 20, .len (.t 19), none, [], [19]⟩),
       (2, ⟨some 21, .bin .gtr (.t 20) (.c (.int .i64 (1048576))), none, [], [20]⟩)])
     (.cond (.t 21)
      (.seq
       (.kill [0, 1, 2, 21])
       (.seq
        (.reg false [
          (0, ⟨some 6, .mv (.c (.bool true)), none, [], []⟩)])
        .ret))
      (.seq
       (.kill [21])
       .skip)))
    (.seq
     (.reg false [
       (0, ⟨some 7, .mv (.c (.int .i64 (1048576))), none, [], []⟩)])
     (.seq
      (.reg false [
        (0, ⟨some 22, .mv (.t 1), none, [], []⟩),
        (1, ⟨some 23, .mv (.t 7), none, [], [7]⟩),
        (2, ⟨some 24, .call 26 [(.t 22), (.t 23)], none, [], [22, 23]⟩),
        (3, ⟨some 7, .mv (.t 24), none, [], [24]⟩)])
      (.seq
       (.seq
        (.reg false [
          (0, ⟨some 25, .mv (.t 7), none, [], [7]⟩),
          (1, ⟨some 26, .bin .lss (.t 25) (.c (.int .i64 (0))), none, [], [25]⟩)])
        (.cond (.t 26)
         (.seq
          (.kill [0, 1, 2, 26])
          (.seq
           (.reg false [
             (0, ⟨some 6, .mv (.c (.bool true)), none, [], []⟩)])
           .ret))
         (.seq
          (.kill [26])
          .skip)))
       (.seq
        (.reg false [
          (0, ⟨some 28, .mv (.t 0), none, [], []⟩),
          (1, ⟨some 29, .mv (.t 1), none, [], []⟩),
          (2, ⟨some 30, .call 28 [(.t 29)], none, [], [29]⟩),
          (3, ⟨some 31, .mv (.t 2), none, [], []⟩),
          (4, ⟨some 32, .call 16 [(.t 31)], none, [], [31]⟩),
          (5, ⟨some 33, .call 43 [(.t 28), (.t 30), (.t 32)], none, [], [28, 30, 32]⟩),
          (6, ⟨some 27, .mv (.t 33), none, [], [33]⟩),
          (7, ⟨some 34, .ex (.t 27) 0, none, [], []⟩),
          (8, ⟨some 35, .ex (.t 27) 1, none, [], [27]⟩),
          (9, ⟨some 8, .mv (.t 34), none, [], [34]⟩),
          (10, ⟨some 9, .mv (.t 35), none, [], [35]⟩)])
        (.seq
         (.reg false [
           (0, ⟨some 36, .mv (.t 1), none, [], []⟩),
           (1, ⟨some 37, .call 28 [(.t 36)], none, [], [36]⟩),
           (2, ⟨some 10, .mv (.t 37), none, [], [37]⟩)])
         (.seq
          (.reg false [
            (0, ⟨some 38, .mv (.t 2), none, [], []⟩),
            (1, ⟨some 39, .call 16 [(.t 38)], none, [], [38]⟩),
            (2, ⟨some 11, .mv (.t 39), none, [], [39]⟩)])
          (.seq
           (.reg false [
             (0, ⟨some 41, .mv (.t 0), none, [], []⟩),
             (1, ⟨some 42, .mv (.t 10), none, [], []⟩),
             (2, ⟨some 43, .mv (.t 11), none, [], []⟩),
             (3, ⟨some 44, .call 44 [(.t 41), (.t 42), (.t 43)], none, [], [41, 42, 43]⟩),
             (4, ⟨some 40, .mv (.t 44), none, [], [44]⟩),
             (5, ⟨some 45, .ex (.t 40) 0, none, [], []⟩),
             (6, ⟨some 46, .ex (.t 40) 1, none, [], [40]⟩),
             (7, ⟨some 12, .mv (.t 45), none, [], [45]⟩),
             (8, ⟨some 13, .mv (.t 46), none, [], [46]⟩)])
           (.seq
            (.seq
             (.reg false [
               (0, ⟨some 47, .mv (.t 12), none, [], []⟩),
               (1, ⟨some 48, .mv (.t 8), none, [], []⟩),
               (2, ⟨some 49, .call 18 [(.t 47), (.t 48)], none, [], [47, 48]⟩),
               (3, ⟨some 50, .not (.t 49), none, [], [49]⟩),
               (4, ⟨some 51, .mv (.t 50), none, [], [50]⟩),
               (5, ⟨some 52, .mv (.t 13), some (51, false), [], []⟩),
               (6, ⟨some 53, .mv (.t 9), some (51, false), [], []⟩),
               (7, ⟨some 54, .beq true (.t 52) (.t 53), some (51, false), [], [52, 53]⟩),
               (8, ⟨some 55, .pick (.t 51) (.c (.bool true)) (.t 54), none, [], [51, 54]⟩)])
             (.cond (.t 55)
              (.seq
               (.kill [0, 1, 2, 8, 9, 10, 11, 12, 13, 55])
               (.seq
                (.reg false [
                  (0, ⟨some 6, .mv (.c (.bool false)), none, [], []⟩)])
                .ret))
              (.seq
               (.kill [55])
               .skip)))
            (.seq
             (.seq
              (.reg false [
                (0, ⟨some 56, .mv (.t 10), none, [], []⟩),
                (1, ⟨some 57, .mv (.t 1), none, [], []⟩),
                (2, ⟨some 58, .call 28 [(.t 57)], none, [], [57]⟩),
                (3, ⟨some 59, .call 30 [(.t 56), (.t 58)], none, [], [56, 58]⟩),
                (4, ⟨some 60, .not (.t 59), none, [], [59]⟩)])
              (.cond (.t 60)
               (.seq
                (.kill [0, 1, 2, 8, 9, 10, 11, 12, 13, 60])
                (.seq
                 (.reg false [
                   (0, ⟨some 6, .mv (.c (.bool false)), none, [], []⟩)])
                 .ret))
               (.seq
                (.kill [60])
                .skip)))
             (.seq
              (.seq
               (.reg false [
                 (0, ⟨some 61, .mv (.t 11), none, [], []⟩),
                 (1, ⟨some 62, .mv (.t 2), none, [], []⟩),
                 (2, ⟨some 63, .call 16 [(.t 62)], none, [], [62]⟩),
                 (3, ⟨some 64, .call 18 [(.t 61), (.t 63)], none, [], [61, 63]⟩),
                 (4, ⟨some 65, .not (.t 64), none, [], [64]⟩)])
               (.cond (.t 65)
                (.seq
                 (.kill [0, 1, 2, 8, 9, 10, 11, 12, 13, 65])
                 (.seq
                  (.reg false [
                    (0, ⟨some 6, .mv (.c (.bool false)), none, [], []⟩)])
                  .ret))
                (.seq
                 (.kill [65])
                 .skip)))
              (.seq
               (.reg false [
                 (0, ⟨some 14, .mv (.c (.int .i64 (1))), none, [], []⟩)])
               (.seq
                (.reg false [
                  (0, ⟨some 66, .mv (.t 10), none, [], [10]⟩),
                  (1, ⟨some 67, .mv (.t 14), none, [], [14]⟩),
                  (2, ⟨some 68, .call 37 [(.t 66), (.t 67)], none, [], [66, 67]⟩),
                  (3, ⟨some 14, .mv (.t 68), none, [], [68]⟩)])
                (.seq
                 (.reg false [
                   (0, ⟨some 69, .mv (.t 11), none, [], [11]⟩),
                   (1, ⟨some 70, .mv (.t 14), none, [], [14]⟩),
                   (2, ⟨some 71, .call 19 [(.t 69), (.t 70)], none, [], [69, 70]⟩),
                   (3, ⟨some 14, .mv (.t 71), none, [], [71]⟩)])
                 (.seq
                  (.seq
                   (.reg false [
                     (0, ⟨some 72, .mv (.t 14), none, [], [14]⟩),
                     (1, ⟨some 73, .bin .lss (.t 72) (.c (.int .i64 (0))), none, [], [72]⟩),
                     (2, ⟨some 74, .mv (.t 73), none, [], [73]⟩),
                     (3, ⟨some 75, .mv (.t 12), some (74, false), [], []⟩),
                     (4, ⟨some 76, .mv (.t 8), some (74, false), [], []⟩),
                     (5, ⟨some 77, .call 18 [(.t 75), (.t 76)], some (74, false), [], [75, 76]⟩),
                     (6, ⟨some 78, .not (.t 77), some (74, false), [], [77]⟩),
                     (7, ⟨some 79, .pick (.t 74) (.c (.bool true)) (.t 78), none, [], [74, 78]⟩),
                     (8, ⟨some 80, .mv (.t 79), none, [], [79]⟩),
                     (9, ⟨some 81, .mv (.t 13), some (80, false), [], [13]⟩),
                     (10, ⟨some 82, .mv (.t 9), some (80, false), [], []⟩),
                     (11, ⟨some 83, .beq true (.t 81) (.t 82), some (80, false), [], [81, 82]⟩),
                     (12, ⟨some 84, .pick (.t 80) (.c (.bool true)) (.t 83), none, [], [80, 83]⟩)])
                   (.cond (.t 84)
                    (.seq
                     (.kill [0, 1, 2, 8, 9, 12, 84])
                     (.seq
                      (.reg false [
                        (0, ⟨some 6, .mv (.c (.bool false)), none, [], []⟩)])
                      .ret))
                    (.seq
                     (.kill [84])
                     .skip)))
                  (.seq
                   (.reg false [
                     (0, ⟨some 15, .mv (.c (.int .i64 (1))), none, [], []⟩)])
                   (.seq
                    (.reg false [
                      (0, ⟨some 85, .mv (.t 12), none, [], []⟩),
                      (1, ⟨some 86, .mv (.t 15), none, [], [15]⟩),
                      (2, ⟨some 87, .call 19 [(.t 85), (.t 86)], none, [], [85, 86]⟩),
                      (3, ⟨some 15, .mv (.t 87), none, [], [87]⟩)])
                    (.seq
                     (.reg false [
                       (0, ⟨some 16, .mv (.c (.int .i64 (1))), none, [], []⟩)])
                     (.seq
                      (.reg false [
                        (0, ⟨some 88, .mv (.t 12), none, [], []⟩),
                        (1, ⟨some 89, .mv (.t 16), none, [], [16]⟩),
                        (2, ⟨some 90, .call 20 [(.t 88), (.t 89)], none, [], [88, 89]⟩),
                        (3, ⟨some 16, .mv (.t 90), none, [], [90]⟩)])
                      (.seq
                       (.seq
                        (.reg false [
                          (0, ⟨some 91, .mv (.t 16), none, [], []⟩),
                          (1, ⟨some 92, .bin .lss (.t 91) (.c (.int .i64 (0))), none, [], [91]⟩)])
                        (.cond (.t 92)
                         (.seq
                          (.kill [0, 1, 2, 8, 9, 12, 15, 16, 92])
                          (.seq
                           (.reg false [
                             (0, ⟨some 6, .mv (.c (.bool false)), none, [], []⟩)])
                           .ret))
                         (.seq
                          (.kill [92])
                          .skip)))
                       (.seq
                        (.seq
                         (.reg false [
                           (0, ⟨some 93, .mv (.t 16), none, [], [16]⟩),
                           (1, ⟨some 94, .mv (.t 15), none, [], []⟩),
                           (2, ⟨some 95, .bin .neq (.t 93) (.t 94), none, [], [93, 94]⟩)])
                         (.cond (.t 95)
                          (.seq
                           (.kill [0, 1, 2, 8, 9, 12, 15, 95])
                           (.seq
                            (.reg false [
                              (0, ⟨some 6, .mv (.c (.bool false)), none, [], []⟩)])
                            .ret))
                          (.seq
                           (.kill [95])
                           .skip)))
                        (.seq
                         (.reg false [
                           (0, ⟨some 97, .mv (.t 0), none, [], [0]⟩),
                           (1, ⟨some 98, .mv (.t 1), none, [], [1]⟩),
                           (2, ⟨some 99, .call 28 [(.t 98)], none, [], [98]⟩),
                           (3, ⟨some 100, .mv (.t 2), none, [], [2]⟩),
                           (4, ⟨some 101, .call 16 [(.t 100)], none, [], [100]⟩),
                           (5, ⟨some 102, .call 44 [(.t 97), (.t 99), (.t 101)], none, [], [97, 99, 101]⟩),
                           (6, ⟨some 96, .mv (.t 102), none, [], [102]⟩),
                           (7, ⟨some 103, .ex (.t 96) 0, none, [], []⟩),
                           (8, ⟨some 104, .ex (.t 96) 1, none, [], [96]⟩),
                           (9, ⟨some 17, .mv (.t 103), none, [], [103]⟩),
                           (10, ⟨some 18, .mv (.t 104), none, [], [104]⟩)])
                         (.seq
                          (.seq
                           (.reg false [
                             (0, ⟨some 105, .mv (.t 17), none, [], [17]⟩),
                             (1, ⟨some 106, .mv (.t 8), none, [], [8]⟩),
                             (2, ⟨some 107, .call 18 [(.t 105), (.t 106)], none, [], [105, 106]⟩),
                             (3, ⟨some 108, .not (.t 107), none, [], [107]⟩),
                             (4, ⟨some 109, .mv (.t 108), none, [], [108]⟩),
                             (5, ⟨some 110, .mv (.t 18), some (109, false), [], [18]⟩),
                             (6, ⟨some 111, .mv (.t 9), some (109, false), [], [9]⟩),
                             (7, ⟨some 112, .beq true (.t 110) (.t 111), some (109, false), [], [110, 111]⟩),
                             (8, ⟨some 113, .pick (.t 109) (.c (.bool true)) (.t 112), none, [], [109, 112]⟩)])
                           (.cond (.t 113)
                            (.seq
                             (.kill [12, 15, 113])
                             (.seq
                              (.reg false [
                                (0, ⟨some 6, .mv (.c (.bool false)), none, [], []⟩)])
                              .ret))
                            (.seq
                             (.kill [113])
                             .skip)))
                          (.seq
                           (.reg false [
                             (0, ⟨some 16, .mv (.c (.int .i64 (1))), none, [], []⟩)])
                           (.seq
                            (.reg false [
                              (0, ⟨some 114, .mv (.t 12), none, [], [12]⟩),
                              (1, ⟨some 115, .mv (.t 16), none, [], [16]⟩),
                              (2, ⟨some 116, .call 20 [(.t 114), (.t 115)], none, [], [114, 115]⟩),
                              (3, ⟨some 16, .mv (.t 116), none, [], [116]⟩)])
                            (.seq
                             (.seq
                              (.reg false [
                                (0, ⟨some 117, .mv (.t 16), none, [], []⟩),
                                (1, ⟨some 118, .bin .lss (.t 117) (.c (.int .i64 (0))), none, [], [117]⟩)])
                              (.cond (.t 118)
                               (.seq
                                (.kill [15, 16, 118])
                                (.seq
                                 (.reg false [
                                   (0, ⟨some 6, .mv (.c (.bool false)), none, [], []⟩)])
                                 .ret))
                               (.seq
                                (.kill [118])
                                .skip)))
                             (.seq
                              (.seq
                               (.reg false [
                                 (0, ⟨some 119, .mv (.t 16), none, [], [16]⟩),
                                 (1, ⟨some 120, .mv (.t 15), none, [], [15]⟩),
                                 (2, ⟨some 121, .bin .neq (.t 119) (.t 120), none, [], [119, 120]⟩)])
                               (.cond (.t 121)
                                (.seq
                                 (.kill [121])
                                 (.seq
                                  (.reg false [
                                    (0, ⟨some 6, .mv (.c (.bool false)), none, [], []⟩)])
                                  .ret))
                                (.seq
                                 (.kill [121])
                                 .skip)))
                              (.seq
                               (.reg false [
                                 (0, ⟨some 6, .mv (.c (.bool true)), none, [], []⟩)])
                               .ret)))))))))))))))))))))))))))))
def C11 : CFn := ⟨122, 3, [.t 6], B11⟩

/-- laws.toIntS -/
def L16_0 : CCode :=
  (.seq
   (.seq
    (.reg false [
      (0, ⟨some 8, .mv (.t 4), none, [], []⟩),
      (1, ⟨some 9, .mv (.t 0), none, [], []⟩),
      (2, ⟨some 10, .len (.t 9), none, [], [9]⟩),
      (3, ⟨some 11, .bin .lss (.t 8) (.t 10), none, [], [8, 10]⟩)])
    (.cond (.t 11)
     (.seq
      (.kill [11])
      .skip)
     (.seq
      (.kill [0, 4, 11])
      (.exit 0))))
   (.seq
    (.block 1
     (.reg false [
       (0, ⟨some 14, .mv (.t 3), none, [], []⟩),
       (1, ⟨some 15, .mv (.t 4), none, [], []⟩),
       (2, ⟨some 16, .mv (.t 0), none, [], []⟩),
       (3, ⟨some 17, .mv (.t 4), none, [], []⟩),
       (4, ⟨some 18, .ia 1 (.t 16) (.t 17), none, [], []⟩),
       (5, ⟨some 19, .ld 1 false (.t 18), none, [], [16, 17, 18]⟩),
       (6, ⟨some 20, .ia 1 (.t 14) (.t 15), none, [], []⟩),
       (7, ⟨none, .st 1 (.t 20) (.t 19), none, [], [14, 15, 19, 20]⟩)]))
    (.reg false [
      (0, ⟨some 12, .mv (.t 4), none, [], [4]⟩),
      (1, ⟨some 13, .bin .add (.t 12) (.c (.int .i64 (1))), none, [], [12]⟩),
      (2, ⟨some 4, .mv (.t 13), none, [], [13]⟩)])))
def B16 : CCode :=
  (.seq
   (.reg false [
     (0, ⟨some 2, .mv (.c (.nils)), none, [], [2]⟩)])
   (.seq
    (.reg false [
      (0, ⟨some 5, .mv (.t 0), none, [], []⟩),
      (1, ⟨some 6, .len (.t 5), none, [], [5]⟩),
      (2, ⟨some 7, .mk 1 8 [.int .i64 (0)] (.t 6) (.t 6), none, [], [6]⟩),
      (3, ⟨some 3, .mv (.t 7), none, [], [7]⟩)])
    (.seq
     (.seq
      (.reg false [
        (0, ⟨some 4, .mv (.c (.int .i64 (0))), none, [], []⟩)])
      (.block 0
       (.loop L16_0)))
     (.seq
      (.reg false [
        (0, ⟨some 21, .mv (.t 3), none, [], [3]⟩),
        (1, ⟨some 2, .mv (.t 21), none, [], [21]⟩)])
      .ret))))
def C16 : CFn := ⟨22, 1, [.t 2], B16⟩

/-- impl.NegateLiterals -/
def L17_0 : CCode :=
  (.seq
   (.reg false [
     (0, ⟨some 10, .bin .lss (.t 9) (.t 8), none, [], []⟩)])
   (.seq
    (.cond (.t 10)
     (.seq
      (.kill [10])
      .skip)
     (.seq
      (.kill [7, 8, 9, 10])
      (.exit 0)))
    (.seq
     (.block 1
      (.seq
       (.reg false [
         (0, ⟨some 11, .ia 1 (.t 7) (.t 9), none, [], []⟩),
         (1, ⟨some 12, .ld 1 false (.t 11), none, [], [11]⟩),
         (2, ⟨some 5, .mv (.t 12), none, [], [12]⟩)])
       (.reg false [
         (0, ⟨some 13, .mv (.t 3), none, [], [3]⟩),
         (1, ⟨some 14, .mv (.t 5), none, [], [5]⟩),
         (2, ⟨some 15, .neg (.t 14), none, [], [14]⟩),
         (3, ⟨some 16, .bsl 1 1 [.int .i64 (0)] [(0, 1, (.t 15))], none, [], [15]⟩),
         (4, ⟨some 17, .app 1 8 (.t 13) (.t 16), none, [], [13, 16]⟩),
         (5, ⟨some 3, .mv (.t 17), none, [], [17]⟩)])))
     (.reg false [
       (0, ⟨some 18, .bin .add (.t 9) (.c (.int .i64 (1))), none, [], [9]⟩),
       (1, ⟨some 9, .mv (.t 18), none, [], [18]⟩)]))))
def B17 : CCode :=
  (.seq
   (.reg false [
     (0, ⟨some 2, .mv (.c (.nils)), none, [], [2]⟩)])
   (.seq
    (.reg false [
      (0, ⟨some 6, .bsl 1 0 [.int .i64 (0)] [], none, [], []⟩),
      (1, ⟨some 3, .mv (.t 6), none, [], [6]⟩)])
    (.seq
     (.seq
      (.reg false [
        (0, ⟨some 7, .mv (.t 0), none, [], [0]⟩),
        (1, ⟨some 8, .len (.t 7), none, [], []⟩),
        (2, ⟨some 9, .mv (.c (.int .i64 (0))), none, [], []⟩)])
      (.block 0
       (.loop L17_0)))
     (.seq
      (.reg false [
        (0, ⟨some 19, .mv (.t 3), none, [], [3]⟩),
        (1, ⟨some 2, .mv (.t 19), none, [], [19]⟩)])
      .ret))))
def C17 : CFn := ⟨20, 1, [.t 2], B17⟩

/-- laws.eqIntS -/
def L18_0 : CCode :=
  (.seq
   (.seq
    (.reg false [
      (0, ⟨some 11, .mv (.t 5), none, [], []⟩),
      (1, ⟨some 12, .mv (.t 0), none, [], []⟩),
      (2, ⟨some 13, .len (.t 12), none, [], [12]⟩),
      (3, ⟨some 14, .bin .lss (.t 11) (.t 13), none, [], [11, 13]⟩)])
    (.cond (.t 14)
     (.seq
      (.kill [14])
      .skip)
     (.seq
      (.kill [0, 1, 5, 14])
      (.exit 0))))
   (.seq
    (.block 1
     (.seq
      (.reg true [
        (0, ⟨some 17, .mv (.t 0), none, [], []⟩),
        (1, ⟨some 18, .mv (.t 5), none, [], []⟩),
        (2, ⟨some 19, .ia 1 (.t 17) (.t 18), none, [], []⟩),
        (3, ⟨some 20, .ld 1 false (.t 19), none, [], [17, 18, 19]⟩),
        (4, ⟨some 21, .mv (.t 1), none, [], []⟩),
        (5, ⟨some 22, .mv (.t 5), none, [], []⟩),
        (6, ⟨some 23, .ia 1 (.t 21) (.t 22), none, [], []⟩),
        (7, ⟨some 24, .ld 1 false (.t 23), none, [], [21, 22, 23]⟩),
        (8, ⟨some 25, .bin .neq (.t 20) (.t 24), none, [], [20, 24]⟩)])
      (.cond (.t 25)
       (.seq
        (.kill [0, 1, 5, 25])
        (.seq
         (.reg false [
           (0, ⟨some 4, .mv (.c (.bool false)), none, [], []⟩)])
         .ret))
       (.seq
        (.kill [25])
        .skip))))
    (.reg false [
      (0, ⟨some 15, .mv (.t 5), none, [], [5]⟩),
      (1, ⟨some 16, .bin .add (.t 15) (.c (.int .i64 (1))), none, [], [15]⟩),
      (2, ⟨some 5, .mv (.t 16), none, [], [16]⟩)])))
def B18 : CCode :=
  (.seq
   (.reg false [
     (0, ⟨some 4, .mv (.c (.bool false)), none, [], [4]⟩)])
   (.seq
    (.seq
     (.reg false [
       (0, ⟨some 6, .mv (.t 0), none, [], []⟩),
       (1, ⟨some 7, .len (.t 6), none, [], [6]⟩),
       (2, ⟨some 8, .mv (.t 1), none, [], []⟩),
       (3, ⟨some 9, .len (.t 8), none, [], [8]⟩),
       (4, ⟨some 10, .bin .neq (.t 7) (.t 9), none, [], [7, 9]⟩)])
     (.cond (.t 10)
      (.seq
       (.kill [0, 1, 10])
       (.seq
        (.reg false [
          (0, ⟨some 4, .mv (.c (.bool false)), none, [], []⟩)])
        .ret))
      (.seq
       (.kill [10])
       .skip)))
    (.seq
     (.seq
      (.reg false [
        (0, ⟨some 5, .mv (.c (.int .i64 (0))), none, [], []⟩)])
      (.block 0
       (.loop L18_0)))
     (.seq
      (.reg false [
        (0, ⟨some 4, .mv (.c (.bool true)), none, [], []⟩)])
      .ret))))
def C18 : CFn := ⟨26, 2, [.t 4], B18⟩

/-- laws.markIntS -/
def L19_0 : CCode :=
  (.seq
   (.seq
    (.reg false [
      (0, ⟨some 6, .mv (.t 5), none, [], []⟩),
      (1, ⟨some 7, .mv (.t 0), none, [], []⟩),
      (2, ⟨some 8, .len (.t 7), none, [], [7]⟩),
      (3, ⟨some 9, .bin .lss (.t 6) (.t 8), none, [], [6, 8]⟩)])
    (.cond (.t 9)
     (.seq
      (.kill [9])
      .skip)
     (.seq
      (.kill [5, 9])
      (.exit 0))))
   (.seq
    (.block 1
     (.seq
      (.reg false [
        (0, ⟨some 12, .mv (.t 0), none, [], []⟩),
        (1, ⟨some 13, .mv (.t 5), none, [], []⟩),
        (2, ⟨some 14, .mv (.t 1), none, [], []⟩),
        (3, ⟨some 15, .ia 1 (.t 12) (.t 13), none, [], []⟩),
        (4, ⟨none, .st 1 (.t 15) (.t 14), none, [], [12, 13, 14, 15]⟩)])
      (.reg false [
        (0, ⟨some 16, .mv (.t 1), none, [], [1]⟩),
        (1, ⟨some 17, .bin .add (.t 16) (.c (.int .i64 (1))), none, [], [16]⟩),
        (2, ⟨some 1, .mv (.t 17), none, [], [17]⟩)])))
    (.reg false [
      (0, ⟨some 10, .mv (.t 5), none, [], [5]⟩),
      (1, ⟨some 11, .bin .add (.t 10) (.c (.int .i64 (1))), none, [], [10]⟩),
      (2, ⟨some 5, .mv (.t 11), none, [], [11]⟩)])))
def B19 : CCode :=
  (.seq
   (.reg false [
     (0, ⟨some 4, .mv (.c (.int .i64 (0))), none, [], [4]⟩)])
   (.seq
    (.seq
     (.reg false [
       (0, ⟨some 5, .mv (.c (.int .i64 (0))), none, [], []⟩)])
     (.block 0
      (.loop L19_0)))
    (.seq
     (.reg false [
       (0, ⟨some 18, .mv (.t 1), none, [], [1]⟩),
       (1, ⟨some 4, .mv (.t 18), none, [], [18]⟩)])
     .ret)))
def C19 : CFn := ⟨19, 2, [.t 4], B19⟩

/-- laws.heldIntS -/
def L20_0 : CCode :=
  (.seq
   (.seq
    (.reg false [
      (0, ⟨some 6, .mv (.t 5), none, [], []⟩),
      (1, ⟨some 7, .mv (.t 0), none, [], []⟩),
      (2, ⟨some 8, .len (.t 7), none, [], [7]⟩),
      (3, ⟨some 9, .bin .lss (.t 6) (.t 8), none, [], [6, 8]⟩)])
    (.cond (.t 9)
     (.seq
      (.kill [9])
      .skip)
     (.seq
      (.kill [0, 5, 9])
      (.exit 0))))
   (.seq
    (.block 1
     (.seq
      (.seq
       (.reg false [
         (0, ⟨some 12, .mv (.t 0), none, [], []⟩),
         (1, ⟨some 13, .mv (.t 5), none, [], []⟩),
         (2, ⟨some 14, .ia 1 (.t 12) (.t 13), none, [], []⟩),
         (3, ⟨some 15, .ld 1 false (.t 14), none, [], [12, 13, 14]⟩),
         (4, ⟨some 16, .mv (.t 1), none, [], []⟩),
         (5, ⟨some 17, .bin .neq (.t 15) (.t 16), none, [], [15, 16]⟩)])
       (.cond (.t 17)
        (.seq
         (.kill [0, 1, 5, 17])
         (.seq
          (.reg false [
            (0, ⟨some 4, .mv (.c (.int .i64 (-1))), none, [], []⟩)])
          .ret))
        (.seq
         (.kill [17])
         .skip)))
      (.reg false [
        (0, ⟨some 18, .mv (.t 1), none, [], [1]⟩),
        (1, ⟨some 19, .bin .add (.t 18) (.c (.int .i64 (1))), none, [], [18]⟩),
        (2, ⟨some 1, .mv (.t 19), none, [], [19]⟩)])))
    (.reg false [
      (0, ⟨some 10, .mv (.t 5), none, [], [5]⟩),
      (1, ⟨some 11, .bin .add (.t 10) (.c (.int .i64 (1))), none, [], [10]⟩),
      (2, ⟨some 5, .mv (.t 11), none, [], [11]⟩)])))
def B20 : CCode :=
  (.seq
   (.reg false [
     (0, ⟨some 4, .mv (.c (.int .i64 (0))), none, [], [4]⟩)])
   (.seq
    (.seq
     (.reg false [
       (0, ⟨some 5, .mv (.c (.int .i64 (0))), none, [], []⟩)])
     (.block 0
      (.loop L20_0)))
    (.seq
     (.reg false [
       (0, ⟨some 20, .mv (.t 1), none, [], [1]⟩),
       (1, ⟨some 4, .mv (.t 20), none, [], [20]⟩)])
     .ret)))
def C20 : CFn := ⟨21, 2, [.t 4], B20⟩

/-- laws.szIntSS -/
def L26_0 : CCode :=
  (.seq
   (.seq
    (.reg false [
      (0, ⟨some 12, .mv (.t 5), none, [], []⟩),
      (1, ⟨some 13, .mv (.t 0), none, [], []⟩),
      (2, ⟨some 14, .len (.t 13), none, [], [13]⟩),
      (3, ⟨some 15, .bin .lss (.t 12) (.t 14), none, [], [12, 14]⟩)])
    (.cond (.t 15)
     (.seq
      (.kill [15])
      .skip)
     (.seq
      (.kill [0, 5, 15])
      (.exit 0))))
   (.seq
    (.block 1
     (.seq
      (.reg false [
        (0, ⟨some 18, .mv (.t 0), none, [], []⟩),
        (1, ⟨some 19, .mv (.t 5), none, [], []⟩),
        (2, ⟨some 20, .ia 1 (.t 18) (.t 19), none, [], []⟩),
        (3, ⟨some 21, .ld 1 false (.t 20), none, [], [20]⟩),
        (4, ⟨some 22, .mv (.t 1), none, [], [1]⟩),
        (5, ⟨some 23, .call 51 [(.t 21), (.t 22)], none, [], [18, 19, 21, 22]⟩),
        (6, ⟨some 1, .mv (.t 23), none, [], [23]⟩)])
      (.seq
       (.reg false [
         (0, ⟨some 24, .mv (.t 1), none, [], []⟩),
         (1, ⟨some 25, .bin .lss (.t 24) (.c (.int .i64 (0))), none, [], [24]⟩)])
       (.cond (.t 25)
        (.seq
         (.kill [0, 1, 5, 25])
         (.seq
          (.reg false [
            (0, ⟨some 4, .mv (.c (.int .i64 (-1))), none, [], []⟩)])
          .ret))
        (.seq
         (.kill [25])
         .skip)))))
    (.reg false [
      (0, ⟨some 16, .mv (.t 5), none, [], [5]⟩),
      (1, ⟨some 17, .bin .add (.t 16) (.c (.int .i64 (1))), none, [], [16]⟩),
      (2, ⟨some 5, .mv (.t 17), none, [], [17]⟩)])))
def B26 : CCode :=
  (.seq
   (.reg false [
     (0, ⟨some 4, .mv (.c (.int .i64 (0))), none, [], [4]⟩)])
   (.seq
    (.reg false [
      (0, ⟨some 6, .mv (.t 1), none, [], [1]⟩),
      (1, ⟨some 7, .mv (.t 0), none, [], []⟩),
      (2, ⟨some 8, .len (.t 7), none, [], [7]⟩),
      (3, ⟨some 9, .bin .sub (.t 6) (.t 8), none, [], [6, 8]⟩),
      (4, ⟨some 1, .mv (.t 9), none, [], [9]⟩)])
    (.seq
     (.seq
      (.reg false [
        (0, ⟨some 10, .mv (.t 1), none, [], []⟩),
        (1, ⟨some 11, .bin .lss (.t 10) (.c (.int .i64 (0))), none, [], [10]⟩)])
      (.cond (.t 11)
       (.seq
        (.kill [0, 1, 11])
        (.seq
         (.reg false [
           (0, ⟨some 4, .mv (.c (.int .i64 (-1))), none, [], []⟩)])
         .ret))
       (.seq
        (.kill [11])
        .skip)))
     (.seq
      (.seq
       (.reg false [
         (0, ⟨some 5, .mv (.c (.int .i64 (0))), none, [], []⟩)])
       (.block 0
        (.loop L26_0)))
      (.seq
       (.reg false [
         (0, ⟨some 26, .mv (.t 1), none, [], [1]⟩),
         (1, ⟨some 4, .mv (.t 26), none, [], [26]⟩)])
       .ret)))))
def C26 : CFn := ⟨27, 2, [.t 4], B26⟩

/-- laws.toIntSS -/
def L28_0 : CCode :=
  (.seq
   (.seq
    (.reg false [
      (0, ⟨some 8, .mv (.t 4), none, [], []⟩),
      (1, ⟨some 9, .mv (.t 0), none, [], []⟩),
      (2, ⟨some 10, .len (.t 9), none, [], [9]⟩),
      (3, ⟨some 11, .bin .lss (.t 8) (.t 10), none, [], [8, 10]⟩)])
    (.cond (.t 11)
     (.seq
      (.kill [11])
      .skip)
     (.seq
      (.kill [0, 4, 11])
      (.exit 0))))
   (.seq
    (.block 1
     (.reg false [
       (0, ⟨some 14, .mv (.t 3), none, [], []⟩),
       (1, ⟨some 15, .mv (.t 4), none, [], []⟩),
       (2, ⟨some 16, .mv (.t 0), none, [], []⟩),
       (3, ⟨some 17, .mv (.t 4), none, [], []⟩),
       (4, ⟨some 18, .ia 1 (.t 16) (.t 17), none, [], []⟩),
       (5, ⟨some 19, .ld 1 false (.t 18), none, [], [18]⟩),
       (6, ⟨some 20, .call 16 [(.t 19)], none, [], [16, 17, 19]⟩),
       (7, ⟨some 21, .ia 1 (.t 14) (.t 15), none, [], []⟩),
       (8, ⟨none, .st 1 (.t 21) (.t 20), none, [], [14, 15, 20, 21]⟩)]))
    (.reg false [
      (0, ⟨some 12, .mv (.t 4), none, [], [4]⟩),
      (1, ⟨some 13, .bin .add (.t 12) (.c (.int .i64 (1))), none, [], [12]⟩),
      (2, ⟨some 4, .mv (.t 13), none, [], [13]⟩)])))
def B28 : CCode :=
  (.seq
   (.reg false [
     (0, ⟨some 2, .mv (.c (.nils)), none, [], [2]⟩)])
   (.seq
    (.reg false [
      (0, ⟨some 5, .mv (.t 0), none, [], []⟩),
      (1, ⟨some 6, .len (.t 5), none, [], [5]⟩),
      (2, ⟨some 7, .mk 1 24 [.nils] (.t 6) (.t 6), none, [], [6]⟩),
      (3, ⟨some 3, .mv (.t 7), none, [], [7]⟩)])
    (.seq
     (.seq
      (.reg false [
        (0, ⟨some 4, .mv (.c (.int .i64 (0))), none, [], []⟩)])
      (.block 0
       (.loop L28_0)))
     (.seq
      (.reg false [
        (0, ⟨some 22, .mv (.t 3), none, [], [3]⟩),
        (1, ⟨some 2, .mv (.t 22), none, [], [22]⟩)])
      .ret))))
def C28 : CFn := ⟨23, 1, [.t 2], B28⟩

/-- laws.eqIntSS -/
def L30_0 : CCode :=
  (.seq
   (.seq
    (.reg false [
      (0, ⟨some 11, .mv (.t 5), none, [], []⟩),
      (1, ⟨some 12, .mv (.t 0), none, [], []⟩),
      (2, ⟨some 13, .len (.t 12), none, [], [12]⟩),
      (3, ⟨some 14, .bin .lss (.t 11) (.t 13), none, [], [11, 13]⟩)])
    (.cond (.t 14)
     (.seq
      (.kill [14])
      .skip)
     (.seq
      (.kill [0, 1, 5, 14])
      (.exit 0))))
   (.seq
    (.block 1
     (.seq
      (.reg true [
        (0, ⟨some 17, .mv (.t 0), none, [], []⟩),
        (1, ⟨some 18, .mv (.t 5), none, [], []⟩),
        (2, ⟨some 19, .ia 1 (.t 17) (.t 18), none, [], []⟩),
        (3, ⟨some 20, .ld 1 false (.t 19), none, [], [19]⟩),
        (4, ⟨some 21, .mv (.t 1), none, [], []⟩),
        (5, ⟨some 22, .mv (.t 5), none, [], []⟩),
        (6, ⟨some 23, .ia 1 (.t 21) (.t 22), none, [], []⟩),
        (7, ⟨some 24, .ld 1 false (.t 23), none, [], [23]⟩),
        (8, ⟨some 25, .call 18 [(.t 20), (.t 24)], none, [], [17, 18, 20, 21, 22, 24]⟩),
        (9, ⟨some 26, .not (.t 25), none, [], [25]⟩)])
      (.cond (.t 26)
       (.seq
        (.kill [0, 1, 5, 26])
        (.seq
         (.reg false [
           (0, ⟨some 4, .mv (.c (.bool false)), none, [], []⟩)])
         .ret))
       (.seq
        (.kill [26])
        .skip))))
    (.reg false [
      (0, ⟨some 15, .mv (.t 5), none, [], [5]⟩),
      (1, ⟨some 16, .bin .add (.t 15) (.c (.int .i64 (1))), none, [], [15]⟩),
      (2, ⟨some 5, .mv (.t 16), none, [], [16]⟩)])))
def B30 : CCode :=
  (.seq
   (.reg false [
     (0, ⟨some 4, .mv (.c (.bool false)), none, [], [4]⟩)])
   (.seq
    (.seq
     (.reg false [
       (0, ⟨some 6, .mv (.t 0), none, [], []⟩),
       (1, ⟨some 7, .len (.t 6), none, [], [6]⟩),
       (2, ⟨some 8, .mv (.t 1), none, [], []⟩),
       (3, ⟨some 9, .len (.t 8), none, [], [8]⟩),
       (4, ⟨some 10, .bin .neq (.t 7) (.t 9), none, [], [7, 9]⟩)])
     (.cond (.t 10)
      (.seq
       (.kill [0, 1, 10])
       (.seq
        (.reg false [
          (0, ⟨some 4, .mv (.c (.bool false)), none, [], []⟩)])
        .ret))
      (.seq
       (.kill [10])
       .skip)))
    (.seq
     (.seq
      (.reg false [
        (0, ⟨some 5, .mv (.c (.int .i64 (0))), none, [], []⟩)])
      (.block 0
       (.loop L30_0)))
     (.seq
      (.reg false [
        (0, ⟨some 4, .mv (.c (.bool true)), none, [], []⟩)])
      .ret))))
def C30 : CFn := ⟨27, 2, [.t 4], B30⟩

/-- spec.AreValidClauses -/
def L33_0 : CCode :=
  (.seq
   (.seq
    (.reg false [
      (0, ⟨some 6, .mv (.t 5), none, [], []⟩),
      (1, ⟨some 7, .mv (.t 1), none, [], []⟩),
      (2, ⟨some 8, .len (.t 7), none, [], [7]⟩),
      (3, ⟨some 9, .bin .lss (.t 6) (.t 8), none, [], [6, 8]⟩)])
    (.cond (.t 9)
     (.seq
      (.kill [9])
      .skip)
     (.seq
      (.kill [5, 9])
      (.exit 0))))
   (.seq
    (.block 1
     (.seq
      (.reg false [
        (0, ⟨some 12, .mv (.t 0), none, [], []⟩),
        (1, ⟨some 13, .mv (.t 1), none, [], []⟩),
        (2, ⟨some 14, .mv (.t 5), none, [], []⟩),
        (3, ⟨some 15, .ia 1 (.t 13) (.t 14), none, [], []⟩),
        (4, ⟨some 16, .ld 1 false (.t 15), none, [], [15]⟩),
        (5, ⟨some 17, .call 60 [(.t 12), (.t 16)], none, [], [12, 13, 14, 16]⟩),
        (6, ⟨some 18, .not (.t 17), none, [], [17]⟩)])
      (.cond (.t 18)
       (.seq
        (.kill [0, 1, 5, 18])
        (.seq
         (.reg false [
           (0, ⟨some 4, .mv (.c (.bool false)), none, [], []⟩)])
         .ret))
       (.seq
        (.kill [18])
        .skip))))
    (.reg false [
      (0, ⟨some 10, .mv (.t 5), none, [], [5]⟩),
      (1, ⟨some 11, .bin .add (.t 10) (.c (.int .i64 (1))), none, [], [10]⟩),
      (2, ⟨some 5, .mv (.t 11), none, [], [11]⟩)])))
def B33 : CCode :=
  (.seq
   (.reg false [
     (0, ⟨some 4, .mv (.c (.bool false)), none, [], [4]⟩)])
   (.seq
    (.seq
     (.reg false [
       (0, ⟨some 5, .mv (.c (.int .i64 (0))), none, [], []⟩)])
     (.block 0
      (.loop L33_0)))
    (.seq
     (.reg false [
       (0, ⟨some 19, .mv (.t 0), none, [], [0]⟩),
       (1, ⟨some 20, .call 61 [(.t 19), (.c (.int .i64 (0))), (.c (.int .i64 (14)))], none, [], [19]⟩),
       (2, ⟨some 21, .mv (.t 20), none, [], [20]⟩),
       (3, ⟨some 22, .mv (.t 1), some (21, true), [], [1]⟩),
       (4, ⟨some 23, .len (.t 22), some (21, true), [], [22]⟩),
       (5, ⟨some 24, .bin .leq (.t 23) (.c (.int .i64 (400))), some (21, true), [], [23]⟩),
       (6, ⟨some 25, .pick (.t 21) (.t 24) (.c (.bool false)), none, [], [21, 24]⟩),
       (7, ⟨some 4, .mv (.t 25), none, [], [25]⟩)])
     .ret)))
def C33 : CFn := ⟨26, 2, [.t 4], B33⟩

/-- impl.AreValidClauses -/
def B34 : CCode :=
  (.seq
   (.reg false [
     (0, ⟨some 4, .mv (.c (.bool false)), none, [], [4]⟩)])
   (.seq
    (.reg false [
      (0, ⟨some 5, .mv (.t 1), none, [], []⟩),
      (1, ⟨some 6, .len (.t 5), none, [], [5]⟩),
      (2, ⟨some 7, .bin .leq (.t 6) (.c (.int .i64 (400))), none, [], [6]⟩),
      (3, ⟨some 8, .mv (.t 7), none, [], [7]⟩),
      (4, ⟨some 9, .mv (.t 0), some (8, true), [], [0]⟩),
      (5, ⟨some 10, .mv (.t 1), some (8, true), [], [1]⟩),
      (6, ⟨some 11, .call 62 [(.t 9), (.t 10)], some (8, true), [], [9, 10]⟩),
      (7, ⟨some 12, .pick (.t 8) (.t 11) (.c (.bool false)), none, [], [8, 11]⟩),
      (8, ⟨some 4, .mv (.t 12), none, [], [12]⟩)])
    .ret))
def C34 : CFn := ⟨13, 2, [.t 4], B34⟩

/-- laws.markIntSS -/
def L37_0 : CCode :=
  (.seq
   (.seq
    (.reg false [
      (0, ⟨some 6, .mv (.t 5), none, [], []⟩),
      (1, ⟨some 7, .mv (.t 0), none, [], []⟩),
      (2, ⟨some 8, .len (.t 7), none, [], [7]⟩),
      (3, ⟨some 9, .bin .lss (.t 6) (.t 8), none, [], [6, 8]⟩)])
    (.cond (.t 9)
     (.seq
      (.kill [9])
      .skip)
     (.seq
      (.kill [5, 9])
      (.exit 0))))
   (.seq
    (.block 1
     (.reg false [
       (0, ⟨some 12, .mv (.t 0), none, [], []⟩),
       (1, ⟨some 13, .mv (.t 5), none, [], []⟩),
       (2, ⟨some 14, .ia 1 (.t 12) (.t 13), none, [], []⟩),
       (3, ⟨some 15, .ld 1 false (.t 14), none, [], [14]⟩),
       (4, ⟨some 16, .mv (.t 1), none, [], [1]⟩),
       (5, ⟨some 17, .call 19 [(.t 15), (.t 16)], none, [], [12, 13, 15, 16]⟩),
       (6, ⟨some 1, .mv (.t 17), none, [], [17]⟩)]))
    (.reg false [
      (0, ⟨some 10, .mv (.t 5), none, [], [5]⟩),
      (1, ⟨some 11, .bin .add (.t 10) (.c (.int .i64 (1))), none, [], [10]⟩),
      (2, ⟨some 5, .mv (.t 11), none, [], [11]⟩)])))
def B37 : CCode :=
  (.seq
   (.reg false [
     (0, ⟨some 4, .mv (.c (.int .i64 (0))), none, [], [4]⟩)])
   (.seq
    (.seq
     (.reg false [
       (0, ⟨some 5, .mv (.c (.int .i64 (0))), none, [], []⟩)])
     (.block 0
      (.loop L37_0)))
    (.seq
     (.reg false [
       (0, ⟨some 18, .mv (.t 1), none, [], [1]⟩),
       (1, ⟨some 4, .mv (.t 18), none, [], [18]⟩)])
     .ret)))
def C37 : CFn := ⟨19, 2, [.t 4], B37⟩

/-- spec.UnitPropagation -/
def B43 : CCode :=
  (.seq
   (.reg false [
     (0, ⟨some 6, .mv (.c (.nils)), none, [], [6]⟩),
     (1, ⟨some 7, .mv (.c (.bool false)), none, [], [7]⟩)])
   (.seq
    (.seq
     (.reg false [
       (0, ⟨some 10, .mv (.t 0), none, [], []⟩),
       (1, ⟨some 11, .mv (.t 1), none, [], []⟩),
       (2, ⟨some 12, .call 33 [(.t 10), (.t 11)], none, [], [10, 11]⟩),
       (3, ⟨some 13, .not (.t 12), none, [], [12]⟩),
       (4, ⟨some 14, .mv (.t 13), none, [], [13]⟩),
       (5, ⟨some 15, .mv (.t 0), some (14, false), [], [0]⟩),
       (6, ⟨some 16, .mv (.t 2), some (14, false), [], []⟩),
       (7, ⟨some 17, .call 60 [(.t 15), (.t 16)], some (14, false), [], [15, 16]⟩),
       (8, ⟨some 18, .not (.t 17), some (14, false), [], [17]⟩),
       (9, ⟨some 19, .pick (.t 14) (.c (.bool true)) (.t 18), none, [], [14, 18]⟩)])
     (.cond (.t 19)
      (.seq
       (.kill [1, 19])
       (.seq
        (.reg false [
          (0, ⟨some 20, .bsl 1 0 [.int .i64 (0)] [], none, [], []⟩),
          (1, ⟨some 21, .mv (.t 2), none, [], [2]⟩),
          (2, ⟨some 22, .app 1 8 (.t 20) (.t 21), none, [], [20, 21]⟩),
          (3, ⟨some 6, .mv (.t 22), none, [], [22]⟩),
          (4, ⟨some 7, .mv (.c (.bool false)), none, [], []⟩)])
        .ret))
      (.seq
       (.kill [19])
       .skip)))
    (.seq
     (.reg false [
       (0, ⟨some 24, .mv (.t 1), none, [], [1]⟩),
       (1, ⟨some 25, .mv (.t 2), none, [], [2]⟩),
       (2, ⟨some 26, .call 65 [(.t 24), (.t 25)], none, [], [24, 25]⟩),
       (3, ⟨some 23, .mv (.t 26), none, [], [26]⟩),
       (4, ⟨some 27, .ex (.t 23) 0, none, [], []⟩),
       (5, ⟨some 28, .ex (.t 23) 1, none, [], [23]⟩),
       (6, ⟨some 8, .mv (.t 27), none, [], [27]⟩),
       (7, ⟨some 9, .mv (.t 28), none, [], [28]⟩)])
     (.seq
      (.reg false [
        (0, ⟨some 29, .mv (.t 8), none, [], [8]⟩),
        (1, ⟨some 30, .mv (.t 9), none, [], [9]⟩),
        (2, ⟨some 6, .mv (.t 29), none, [], [29]⟩),
        (3, ⟨some 7, .mv (.t 30), none, [], [30]⟩)])
      .ret))))
def C43 : CFn := ⟨31, 3, [.t 6, .t 7], B43⟩

/-- impl.UnitPropagation -/
def B44 : CCode :=
  (.seq
   (.reg false [
     (0, ⟨some 6, .mv (.c (.nils)), none, [], [6]⟩),
     (1, ⟨some 7, .mv (.c (.bool false)), none, [], [7]⟩)])
   (.seq
    (.seq
     (.reg false [
       (0, ⟨some 8, .mv (.t 0), none, [], []⟩),
       (1, ⟨some 9, .mv (.t 1), none, [], []⟩),
       (2, ⟨some 10, .call 34 [(.t 8), (.t 9)], none, [], [8, 9]⟩),
       (3, ⟨some 11, .not (.t 10), none, [], [10]⟩),
       (4, ⟨some 12, .mv (.t 11), none, [], [11]⟩),
       (5, ⟨some 13, .mv (.t 0), some (12, false), [], [0]⟩),
       (6, ⟨some 14, .mv (.t 2), some (12, false), [], []⟩),
       (7, ⟨some 15, .call 63 [(.t 13), (.t 14)], some (12, false), [], [13, 14]⟩),
       (8, ⟨some 16, .not (.t 15), some (12, false), [], [15]⟩),
       (9, ⟨some 17, .pick (.t 12) (.c (.bool true)) (.t 16), none, [], [12, 16]⟩)])
     (.cond (.t 17)
      (.seq
       (.kill [1, 17])
       (.seq
        (.reg false [
          (0, ⟨some 18, .bsl 1 0 [.int .i64 (0)] [], none, [], []⟩),
          (1, ⟨some 19, .mv (.t 2), none, [], [2]⟩),
          (2, ⟨some 20, .app 1 8 (.t 18) (.t 19), none, [], [18, 19]⟩),
          (3, ⟨some 6, .mv (.t 20), none, [], [20]⟩),
          (4, ⟨some 7, .mv (.c (.bool false)), none, [], []⟩)])
        .ret))
      (.seq
       (.kill [17])
       .skip)))
    (.seq
     (.reg false [
       (0, ⟨some 21, .mv (.t 1), none, [], [1]⟩),
       (1, ⟨some 22, .mv (.t 2), none, [], [2]⟩),
       (2, ⟨some 23, .call 64 [(.t 21), (.t 22)], none, [], [21, 22]⟩),
       (3, ⟨some 24, .ex (.t 23) 0, none, [], []⟩),
       (4, ⟨some 25, .ex (.t 23) 1, none, [], [23]⟩),
       (5, ⟨some 6, .mv (.t 24), none, [], [24]⟩),
       (6, ⟨some 7, .mv (.t 25), none, [], [25]⟩)])
     .ret)))
def C44 : CFn := ⟨26, 3, [.t 6, .t 7], B44⟩

/-- laws.szIntS -/
def B51 : CCode :=
  (.seq
   (.reg false [
     (0, ⟨some 4, .mv (.c (.int .i64 (0))), none, [], [4]⟩)])
   (.seq
    (.reg false [
      (0, ⟨some 5, .mv (.t 1), none, [], [1]⟩),
      (1, ⟨some 6, .mv (.t 0), none, [], [0]⟩),
      (2, ⟨some 7, .len (.t 6), none, [], [6]⟩),
      (3, ⟨some 8, .bin .sub (.t 5) (.t 7), none, [], [5, 7]⟩),
      (4, ⟨some 1, .mv (.t 8), none, [], [8]⟩)])
    (.seq
     (.seq
      (.reg false [
        (0, ⟨some 9, .mv (.t 1), none, [], []⟩),
        (1, ⟨some 10, .bin .lss (.t 9) (.c (.int .i64 (0))), none, [], [9]⟩)])
      (.cond (.t 10)
       (.seq
        (.kill [1, 10])
        (.seq
         (.reg false [
           (0, ⟨some 4, .mv (.c (.int .i64 (-1))), none, [], []⟩)])
         .ret))
       (.seq
        (.kill [10])
        .skip)))
     (.seq
      (.reg false [
        (0, ⟨some 11, .mv (.t 1), none, [], [1]⟩),
        (1, ⟨some 4, .mv (.t 11), none, [], [11]⟩)])
      .ret))))
def C51 : CFn := ⟨12, 2, [.t 4], B51⟩

/-- slices.ContainsFunc[[][]int,[]int] -/
def B53 : CCode :=
  (.seq
   (.reg false [
     (0, ⟨some 4, .mv (.c (.bool false)), none, [], [4]⟩)])
   (.seq
    (.reg false [
      (0, ⟨some 5, .mv (.t 0), none, [], [0]⟩),
      (1, ⟨some 6, .mv (.t 1), none, [], [1]⟩),
      (2, ⟨some 7, .call 71 [(.t 5), (.t 6)], none, [], [5, 6]⟩),
      (3, ⟨some 8, .bin .geq (.t 7) (.c (.int .i64 (0))), none, [], [7]⟩),
      (4, ⟨some 4, .mv (.t 8), none, [], [8]⟩)])
    .ret))
def C53 : CFn := ⟨9, 2, [.t 4], B53⟩

/-- slices.ContainsFunc[[]int,int] -/
def B57 : CCode :=
  (.seq
   (.reg false [
     (0, ⟨some 4, .mv (.c (.bool false)), none, [], [4]⟩)])
   (.seq
    (.reg false [
      (0, ⟨some 5, .mv (.t 0), none, [], [0]⟩),
      (1, ⟨some 6, .mv (.t 1), none, [], [1]⟩),
      (2, ⟨some 7, .call 74 [(.t 5), (.t 6)], none, [], [5, 6]⟩),
      (3, ⟨some 8, .bin .geq (.t 7) (.c (.int .i64 (0))), none, [], [7]⟩),
      (4, ⟨some 4, .mv (.t 8), none, [], [8]⟩)])
    .ret))
def C57 : CFn := ⟨9, 2, [.t 4], B57⟩

/-- spec.l20Clause -/
def L60_1 : CCode :=
  (.seq
   (.seq
    (.reg false [
      (0, ⟨some 42, .mv (.t 7), none, [], []⟩),
      (1, ⟨some 43, .mv (.t 5), none, [], []⟩),
      (2, ⟨some 44, .bin .lss (.t 42) (.t 43), none, [], [42, 43]⟩)])
    (.cond (.t 44)
     (.seq
      (.kill [44])
      .skip)
     (.seq
      (.kill [7, 44])
      (.exit 2))))
   (.seq
    (.block 3
     (.seq
      (.reg true [
        (0, ⟨some 47, .mv (.t 1), none, [], []⟩),
        (1, ⟨some 48, .mv (.t 7), none, [], []⟩),
        (2, ⟨some 49, .ia 1 (.t 47) (.t 48), none, [], []⟩),
        (3, ⟨some 50, .ld 1 false (.t 49), none, [], [47, 48, 49]⟩),
        (4, ⟨some 51, .mv (.t 1), none, [], []⟩),
        (5, ⟨some 52, .mv (.t 5), none, [], []⟩),
        (6, ⟨some 53, .ia 1 (.t 51) (.t 52), none, [], []⟩),
        (7, ⟨some 54, .ld 1 false (.t 53), none, [], [51, 52, 53]⟩),
        (8, ⟨some 55, .bin .eql (.t 50) (.t 54), none, [], [50, 54]⟩),
        (9, ⟨some 56, .mv (.t 55), none, [], [55]⟩),
        (10, ⟨some 57, .mv (.t 1), some (56, false), [], []⟩),
        (11, ⟨some 58, .mv (.t 7), some (56, false), [], []⟩),
        (12, ⟨some 59, .ia 1 (.t 57) (.t 58), some (56, false), [], []⟩),
        (13, ⟨some 60, .ld 1 false (.t 59), some (56, false), [], [57, 58, 59]⟩),
        (14, ⟨some 61, .mv (.t 1), some (56, false), [], []⟩),
        (15, ⟨some 62, .mv (.t 5), some (56, false), [], []⟩),
        (16, ⟨some 63, .ia 1 (.t 61) (.t 62), some (56, false), [], []⟩),
        (17, ⟨some 64, .ld 1 false (.t 63), some (56, false), [], [61, 62, 63]⟩),
        (18, ⟨some 65, .neg (.t 64), some (56, false), [], [64]⟩),
        (19, ⟨some 66, .bin .eql (.t 60) (.t 65), some (56, false), [], [60, 65]⟩),
        (20, ⟨some 67, .pick (.t 56) (.c (.bool true)) (.t 66), none, [], [56, 66]⟩)])
      (.cond (.t 67)
       (.seq
        (.kill [0, 1, 5, 7, 67])
        (.seq
         (.reg false [
           (0, ⟨some 4, .mv (.c (.bool false)), none, [], []⟩)])
         .ret))
       (.seq
        (.kill [67])
        .skip))))
    (.reg false [
      (0, ⟨some 45, .mv (.t 7), none, [], [7]⟩),
      (1, ⟨some 46, .bin .add (.t 45) (.c (.int .i64 (1))), none, [], [45]⟩),
      (2, ⟨some 7, .mv (.t 46), none, [], [46]⟩)])))
def L60_0 : CCode :=
  (.seq
   (.seq
    (.reg false [
      (0, ⟨some 8, .mv (.t 5), none, [], []⟩),
      (1, ⟨some 9, .mv (.t 1), none, [], []⟩),
      (2, ⟨some 10, .len (.t 9), none, [], [9]⟩),
      (3, ⟨some 11, .bin .lss (.t 8) (.t 10), none, [], [8, 10]⟩)])
    (.cond (.t 11)
     (.seq
      (.kill [11])
      .skip)
     (.seq
      (.kill [0, 1, 5, 11])
      (.exit 0))))
   (.seq
    (.block 1
     (.seq
      (.reg false [
        (0, ⟨some 14, .mv (.t 1), none, [], []⟩),
        (1, ⟨some 15, .mv (.t 5), none, [], []⟩),
        (2, ⟨some 16, .ia 1 (.t 14) (.t 15), none, [], []⟩),
        (3, ⟨some 17, .ld 1 false (.t 16), none, [], [14, 15, 16]⟩),
        (4, ⟨some 18, .max (.t 17) (.c (.int .i64 (0))), none, [], [17]⟩),
        (5, ⟨some 6, .mv (.t 18), none, [], [18]⟩)])
      (.seq
       (.seq
        (.reg false [
          (0, ⟨some 19, .mv (.t 1), none, [], []⟩),
          (1, ⟨some 20, .mv (.t 5), none, [], []⟩),
          (2, ⟨some 21, .ia 1 (.t 19) (.t 20), none, [], []⟩),
          (3, ⟨some 22, .ld 1 false (.t 21), none, [], [19, 20, 21]⟩),
          (4, ⟨some 23, .bin .lss (.t 22) (.c (.int .i64 (0))), none, [], [22]⟩),
          (5, ⟨some 24, .mv (.t 23), none, [], [23]⟩),
          (6, ⟨some 25, .mv (.t 1), some (24, true), [], []⟩),
          (7, ⟨some 26, .mv (.t 5), some (24, true), [], []⟩),
          (8, ⟨some 27, .ia 1 (.t 25) (.t 26), some (24, true), [], []⟩),
          (9, ⟨some 28, .ld 1 false (.t 27), some (24, true), [], [25, 26, 27]⟩),
          (10, ⟨some 29, .mv (.t 0), some (24, true), [], []⟩),
          (11, ⟨some 30, .neg (.t 29), some (24, true), [], [29]⟩),
          (12, ⟨some 31, .bin .geq (.t 28) (.t 30), some (24, true), [], [28, 30]⟩),
          (13, ⟨some 32, .pick (.t 24) (.t 31) (.c (.bool false)), none, [], [24, 31]⟩)])
        (.cond (.t 32)
         (.seq
          (.kill [6, 32])
          (.reg false [
            (0, ⟨some 33, .mv (.t 1), none, [], []⟩),
            (1, ⟨some 34, .mv (.t 5), none, [], []⟩),
            (2, ⟨some 35, .ia 1 (.t 33) (.t 34), none, [], []⟩),
            (3, ⟨some 36, .ld 1 false (.t 35), none, [], [33, 34, 35]⟩),
            (4, ⟨some 37, .neg (.t 36), none, [], [36]⟩),
            (5, ⟨some 6, .mv (.t 37), none, [], [37]⟩)]))
         (.seq
          (.kill [32])
          .skip)))
       (.seq
        (.seq
         (.reg false [
           (0, ⟨some 38, .mv (.t 6), none, [], [6]⟩),
           (1, ⟨some 39, .mv (.t 0), none, [], []⟩),
           (2, ⟨some 40, .call 61 [(.t 38), (.c (.int .i64 (1))), (.t 39)], none, [], [38, 39]⟩),
           (3, ⟨some 41, .not (.t 40), none, [], [40]⟩)])
         (.cond (.t 41)
          (.seq
           (.kill [0, 1, 5, 41])
           (.seq
            (.reg false [
              (0, ⟨some 4, .mv (.c (.bool false)), none, [], []⟩)])
            .ret))
          (.seq
           (.kill [41])
           .skip)))
        (.seq
         (.reg false [
           (0, ⟨some 7, .mv (.c (.int .i64 (0))), none, [], []⟩)])
         (.block 2
          (.loop L60_1)))))))
    (.reg false [
      (0, ⟨some 12, .mv (.t 5), none, [], [5]⟩),
      (1, ⟨some 13, .bin .add (.t 12) (.c (.int .i64 (1))), none, [], [12]⟩),
      (2, ⟨some 5, .mv (.t 13), none, [], [13]⟩)])))
def B60 : CCode :=
  (.seq
   (.reg false [
     (0, ⟨some 4, .mv (.c (.bool false)), none, [], [4]⟩)])
   (.seq
    (.seq
     (.reg false [
       (0, ⟨some 5, .mv (.c (.int .i64 (0))), none, [], []⟩)])
     (.block 0
      (.loop L60_0)))
    (.seq
     (.reg false [
       (0, ⟨some 4, .mv (.c (.bool true)), none, [], []⟩)])
     .ret)))
def C60 : CFn := ⟨68, 2, [.t 4], B60⟩

/-- spec.l1In -/
def B61 : CCode :=
  (.seq
   (.reg false [
     (0, ⟨some 6, .mv (.c (.bool false)), none, [], [6]⟩)])
   (.seq
    (.reg false [
      (0, ⟨some 7, .mv (.t 0), none, [], []⟩),
      (1, ⟨some 8, .mv (.t 1), none, [], [1]⟩),
      (2, ⟨some 9, .bin .geq (.t 7) (.t 8), none, [], [7, 8]⟩),
      (3, ⟨some 10, .mv (.t 9), none, [], [9]⟩),
      (4, ⟨some 11, .mv (.t 0), some (10, true), [], [0]⟩),
      (5, ⟨some 12, .mv (.t 2), some (10, true), [], [2]⟩),
      (6, ⟨some 13, .bin .leq (.t 11) (.t 12), some (10, true), [], [11, 12]⟩),
      (7, ⟨some 14, .pick (.t 10) (.t 13) (.c (.bool false)), none, [], [10, 13]⟩),
      (8, ⟨some 6, .mv (.t 14), none, [], [14]⟩)])
    .ret))
def C61 : CFn := ⟨15, 3, [.t 6], B61⟩

/-- impl.areClauses -/
def B62 : CCode :=
  (.seq
   (.reg false [
     (0, ⟨some 2, .box 1 (.t 0), none, [], [0]⟩),
     (1, ⟨some 4, .mv (.c (.bool false)), none, [], [4]⟩)])
   (.seq
    (.reg false [
      (0, ⟨some 5, .ld 1 false (.t 2), none, [], []⟩),
      (1, ⟨some 6, .call 75 [(.t 5), (.c (.int .i64 (0))), (.c (.int .i64 (14)))], none, [], [5]⟩),
      (2, ⟨some 7, .mv (.t 6), none, [], [6]⟩),
      (3, ⟨some 8, .mv (.t 1), some (7, true), [], [1]⟩),
      (4, ⟨some 9, .fn 76 [(.t 2)], some (7, true), [], []⟩),
      (5, ⟨some 10, .call 53 [(.t 8), (.t 9)], some (7, true), [], [2, 8, 9]⟩),
      (6, ⟨some 11, .not (.t 10), some (7, true), [], [10]⟩),
      (7, ⟨some 12, .pick (.t 7) (.t 11) (.c (.bool false)), none, [], [7, 11]⟩),
      (8, ⟨some 4, .mv (.t 12), none, [], [12]⟩)])
    .ret))
def C62 : CFn := ⟨13, 2, [.t 4], B62⟩

/-- impl.isClause -/
def L63_0 : CCode :=
  (.seq
   (.reg false [
     (0, ⟨some 10, .bin .lss (.t 9) (.t 8), none, [], []⟩)])
   (.seq
    (.cond (.t 10)
     (.seq
      (.kill [10])
      .skip)
     (.seq
      (.kill [0, 1, 7, 8, 9, 10])
      (.exit 0)))
    (.seq
     (.block 1
      (.seq
       (.reg false [
         (0, ⟨some 11, .mv (.t 9), none, [], []⟩),
         (1, ⟨some 12, .ia 1 (.t 7) (.t 9), none, [], []⟩),
         (2, ⟨some 13, .ld 1 false (.t 12), none, [], [12]⟩),
         (3, ⟨some 5, .mv (.t 11), none, [], [11]⟩),
         (4, ⟨some 6, .mv (.t 13), none, [], [13]⟩)])
       (.seq
        (.reg false [
          (0, ⟨some 14, .mv (.t 6), none, [], []⟩),
          (1, ⟨some 15, .bin .eql (.t 14) (.c (.int .i64 (0))), none, [], [14]⟩),
          (2, ⟨some 16, .mv (.t 15), none, [], [15]⟩),
          (3, ⟨some 17, .mv (.t 6), some (16, false), [], []⟩),
          (4, ⟨some 18, .mv (.t 0), some (16, false), [], []⟩),
          (5, ⟨some 19, .neg (.t 18), some (16, false), [], [18]⟩),
          (6, ⟨some 20, .mv (.t 0), some (16, false), [], []⟩),
          (7, ⟨some 21, .call 75 [(.t 17), (.t 19), (.t 20)], some (16, false), [], [17, 19, 20]⟩),
          (8, ⟨some 22, .not (.t 21), some (16, false), [], [21]⟩),
          (9, ⟨some 23, .pick (.t 16) (.c (.bool true)) (.t 22), none, [], [16, 22]⟩),
          (10, ⟨some 24, .mv (.t 23), none, [], [23]⟩),
          (11, ⟨some 25, .mv (.t 1), some (24, false), [], []⟩),
          (12, ⟨some 26, .mv (.t 5), some (24, false), [], []⟩),
          (13, ⟨some 27, .sls 1 (.t 25) none (some (.t 26)) none, some (24, false), [], [25, 26]⟩),
          (14, ⟨some 28, .mv (.t 6), some (24, false), [], []⟩),
          (15, ⟨some 29, .call 73 [(.t 27), (.t 28)], some (24, false), [], [27, 28]⟩),
          (16, ⟨some 30, .pick (.t 24) (.c (.bool true)) (.t 29), none, [], [24, 29]⟩),
          (17, ⟨some 31, .mv (.t 30), none, [], [30]⟩),
          (18, ⟨some 32, .mv (.t 1), some (31, false), [], []⟩),
          (19, ⟨some 33, .mv (.t 5), some (31, false), [], [5]⟩),
          (20, ⟨some 34, .sls 1 (.t 32) none (some (.t 33)) none, some (31, false), [], [32, 33]⟩),
          (21, ⟨some 35, .mv (.t 6), some (31, false), [], [6]⟩),
          (22, ⟨some 36, .neg (.t 35), some (31, false), [], [35]⟩),
          (23, ⟨some 37, .call 73 [(.t 34), (.t 36)], some (31, false), [], [34, 36]⟩),
          (24, ⟨some 38, .pick (.t 31) (.c (.bool true)) (.t 37), none, [], [31, 37]⟩)])
        (.cond (.t 38)
         (.seq
          (.kill [0, 1, 7, 8, 9, 38])
          (.seq
           (.reg false [
             (0, ⟨some 4, .mv (.c (.bool false)), none, [], []⟩)])
           .ret))
         (.seq
          (.kill [38])
          .skip)))))
     (.reg false [
       (0, ⟨some 39, .bin .add (.t 9) (.c (.int .i64 (1))), none, [], [9]⟩),
       (1, ⟨some 9, .mv (.t 39), none, [], [39]⟩)]))))
def B63 : CCode :=
  (.seq
   (.reg false [
     (0, ⟨some 4, .mv (.c (.bool false)), none, [], [4]⟩)])
   (.seq
    (.seq
     (.reg false [
       (0, ⟨some 7, .mv (.t 1), none, [], []⟩),
       (1, ⟨some 8, .len (.t 7), none, [], []⟩),
       (2, ⟨some 9, .mv (.c (.int .i64 (0))), none, [], []⟩)])
     (.block 0
      (.loop L63_0)))
    (.seq
     (.reg false [
       (0, ⟨some 4, .mv (.c (.bool true)), none, [], []⟩)])
     .ret)))
def C63 : CFn := ⟨40, 2, [.t 4], B63⟩

/-- impl.propagate -/
def L64_1 : CCode :=
  (.seq
   (.reg false [
     (0, ⟨some 17, .bin .lss (.t 16) (.t 15), none, [], []⟩)])
   (.seq
    (.cond (.t 17)
     (.seq
      (.kill [17])
      .skip)
     (.seq
      (.kill [14, 15, 16, 17])
      (.exit 2)))
    (.seq
     (.block 3
      (.seq
       (.reg false [
         (0, ⟨some 18, .ia 1 (.t 14) (.t 16), none, [], []⟩),
         (1, ⟨some 19, .ld 1 false (.t 18), none, [], [18]⟩),
         (2, ⟨some 9, .mv (.t 19), none, [], [19]⟩)])
       (.seq
        (.seq
         (.reg false [
           (0, ⟨some 20, .mv (.t 9), none, [], []⟩),
           (1, ⟨some 21, .fn 77 [(.t 6)], none, [], []⟩),
           (2, ⟨some 22, .call 57 [(.t 20), (.t 21)], none, [], [20, 21]⟩)])
         (.cond (.t 22)
          (.seq
           (.kill [9, 22])
           (.exit 3))
          (.seq
           (.kill [22])
           .skip)))
        (.seq
         (.reg false [
           (0, ⟨some 23, .mv (.t 9), none, [], [9]⟩),
           (1, ⟨some 24, .ld 1 false (.t 6), none, [], []⟩),
           (2, ⟨some 25, .call 17 [(.t 24)], none, [], [24]⟩),
           (3, ⟨some 26, .call 78 [(.t 23), (.t 25)], none, [], [23, 25]⟩),
           (4, ⟨some 10, .mv (.t 26), none, [], [26]⟩)])
         (.seq
          (.seq
           (.reg false [
             (0, ⟨some 27, .mv (.t 10), none, [], []⟩),
             (1, ⟨some 28, .len (.t 27), none, [], [27]⟩),
             (2, ⟨some 29, .bin .eql (.t 28) (.c (.int .i64 (0))), none, [], [28]⟩)])
           (.cond (.t 29)
            (.seq
             (.kill [0, 7, 10, 14, 15, 16, 29])
             (.seq
              (.reg false [
                (0, ⟨some 30, .ld 1 false (.t 6), none, [], []⟩),
                (1, ⟨some 4, .mv (.t 30), none, [], [30]⟩),
                (2, ⟨some 5, .mv (.c (.bool true)), none, [], []⟩)])
              .ret))
            (.seq
             (.kill [29])
             .skip)))
          (.seq
           (.reg false [
             (0, ⟨some 31, .mv (.t 10), none, [], []⟩),
             (1, ⟨some 32, .len (.t 31), none, [], [31]⟩),
             (2, ⟨some 33, .bin .eql (.t 32) (.c (.int .i64 (1))), none, [], [32]⟩)])
           (.cond (.t 33)
            (.seq
             (.kill [7, 14, 15, 16, 33])
             (.seq
              (.reg true [
                (0, ⟨some 34, .ld 1 false (.t 6), none, [], []⟩),
                (1, ⟨some 35, .mv (.t 10), none, [], [10]⟩),
                (2, ⟨some 36, .ia 1 (.t 35) (.c (.int .i64 (0))), none, [], []⟩),
                (3, ⟨some 37, .ld 1 false (.t 36), none, [], [35, 36]⟩),
                (4, ⟨some 38, .bsl 1 1 [.int .i64 (0)] [(0, 1, (.t 37))], none, [], [37]⟩),
                (5, ⟨some 39, .app 1 8 (.t 34) (.t 38), none, [], [34, 38]⟩),
                (6, ⟨none, .st 1 (.t 6) (.t 39), none, [], [39]⟩),
                (7, ⟨some 7, .mv (.c (.bool true)), none, [], []⟩)])
              (.exit 2)))
            (.seq
             (.kill [10, 33])
             .skip))))))))
     (.reg false [
       (0, ⟨some 40, .bin .add (.t 16) (.c (.int .i64 (1))), none, [], [16]⟩),
       (1, ⟨some 16, .mv (.t 40), none, [], [40]⟩)]))))
def L64_0 : CCode :=
  (.block 1
   (.seq
    (.reg false [
      (0, ⟨some 7, .mv (.c (.bool false)), none, [], []⟩)])
    (.seq
     (.seq
      (.reg false [
        (0, ⟨some 14, .mv (.t 0), none, [], []⟩),
        (1, ⟨some 15, .len (.t 14), none, [], []⟩),
        (2, ⟨some 16, .mv (.c (.int .i64 (0))), none, [], []⟩)])
      (.block 2
       (.loop L64_1)))
     (.seq
      (.reg false [
        (0, ⟨some 41, .mv (.t 7), none, [], [7]⟩),
        (1, ⟨some 42, .not (.t 41), none, [], [41]⟩)])
      (.cond (.t 42)
       (.seq
        (.kill [0, 42])
        (.seq
         (.reg false [
           (0, ⟨some 43, .ld 1 false (.t 6), none, [], []⟩),
           (1, ⟨some 4, .mv (.t 43), none, [], [43]⟩),
           (2, ⟨some 5, .mv (.c (.bool false)), none, [], []⟩)])
         .ret))
       (.seq
        (.kill [42])
        .skip))))))
def B64 : CCode :=
  (.seq
   (.reg false [
     (0, ⟨some 4, .mv (.c (.nils)), none, [], [4]⟩),
     (1, ⟨some 5, .mv (.c (.bool false)), none, [], [5]⟩)])
   (.seq
    (.reg false [
      (0, ⟨some 11, .bsl 1 0 [.int .i64 (0)] [], none, [], []⟩),
      (1, ⟨some 12, .mv (.t 1), none, [], [1]⟩),
      (2, ⟨some 13, .app 1 8 (.t 11) (.t 12), none, [], [11, 12]⟩),
      (3, ⟨some 6, .al [.nils], none, [], []⟩),
      (4, ⟨none, .st 1 (.t 6) (.t 13), none, [], [13]⟩)])
    (.block 0
     (.loop L64_0))))
def C64 : CFn := ⟨44, 2, [.t 4, .t 5], B64⟩

/-- spec.l21Units -/
def L65_1 : CCode :=
  (.seq
   (.seq
    (.reg false [
      (0, ⟨some 15, .mv (.t 8), none, [], []⟩),
      (1, ⟨some 16, .mv (.t 0), none, [], []⟩),
      (2, ⟨some 17, .len (.t 16), none, [], [16]⟩),
      (3, ⟨some 18, .bin .lss (.t 15) (.t 17), none, [], [15, 17]⟩),
      (4, ⟨some 19, .mv (.t 18), none, [], [18]⟩),
      (5, ⟨some 20, .mv (.t 7), some (19, true), [], []⟩),
      (6, ⟨some 21, .not (.t 20), some (19, true), [], [20]⟩),
      (7, ⟨some 22, .pick (.t 19) (.t 21) (.c (.bool false)), none, [], [19, 21]⟩)])
    (.cond (.t 22)
     (.seq
      (.kill [22])
      .skip)
     (.seq
      (.kill [8, 22])
      (.exit 2))))
   (.seq
    (.block 3
     (.seq
      (.reg false [
        (0, ⟨some 26, .mv (.t 0), none, [], []⟩),
        (1, ⟨some 27, .mv (.t 8), none, [], []⟩),
        (2, ⟨some 28, .ia 1 (.t 26) (.t 27), none, [], []⟩),
        (3, ⟨some 29, .ld 1 false (.t 28), none, [], [28]⟩),
        (4, ⟨some 30, .mv (.t 6), none, [], []⟩),
        (5, ⟨some 31, .call 79 [(.t 29), (.t 30)], none, [], [26, 27, 29, 30]⟩),
        (6, ⟨some 25, .mv (.t 31), none, [], [31]⟩),
        (7, ⟨some 32, .ex (.t 25) 0, none, [], []⟩),
        (8, ⟨some 33, .ex (.t 25) 1, none, [], [25]⟩),
        (9, ⟨some 9, .mv (.t 32), none, [], [32]⟩),
        (10, ⟨some 10, .mv (.t 33), none, [], [33]⟩)])
      (.seq
       (.seq
        (.reg false [
          (0, ⟨some 34, .mv (.t 10), none, [], [10]⟩)])
        (.cond (.t 34)
         (.seq
          (.kill [9, 34])
          (.exit 3))
         (.seq
          (.kill [34])
          .skip)))
       (.seq
        (.seq
         (.reg false [
           (0, ⟨some 35, .mv (.t 9), none, [], []⟩),
           (1, ⟨some 36, .len (.t 35), none, [], [35]⟩),
           (2, ⟨some 37, .bin .eql (.t 36) (.c (.int .i64 (0))), none, [], [36]⟩)])
         (.cond (.t 37)
          (.seq
           (.kill [0, 7, 8, 9, 37])
           (.seq
            (.reg false [
              (0, ⟨some 38, .mv (.t 6), none, [], [6]⟩),
              (1, ⟨some 4, .mv (.t 38), none, [], [38]⟩),
              (2, ⟨some 5, .mv (.c (.bool true)), none, [], []⟩)])
            .ret))
          (.seq
           (.kill [37])
           .skip)))
        (.seq
         (.reg false [
           (0, ⟨some 39, .mv (.t 9), none, [], []⟩),
           (1, ⟨some 40, .len (.t 39), none, [], [39]⟩),
           (2, ⟨some 41, .bin .eql (.t 40) (.c (.int .i64 (1))), none, [], [40]⟩)])
         (.cond (.t 41)
          (.seq
           (.kill [7, 41])
           (.seq
            (.reg false [
              (0, ⟨some 42, .mv (.t 6), none, [], [6]⟩),
              (1, ⟨some 43, .mv (.t 9), none, [], [9]⟩),
              (2, ⟨some 44, .ia 1 (.t 43) (.c (.int .i64 (0))), none, [], []⟩),
              (3, ⟨some 45, .ld 1 false (.t 44), none, [], [43, 44]⟩),
              (4, ⟨some 46, .bsl 1 1 [.int .i64 (0)] [(0, 1, (.t 45))], none, [], [45]⟩),
              (5, ⟨some 47, .app 1 8 (.t 42) (.t 46), none, [], [42, 46]⟩),
              (6, ⟨some 6, .mv (.t 47), none, [], [47]⟩)])
            (.reg false [
              (0, ⟨some 7, .mv (.c (.bool true)), none, [], []⟩)])))
          (.seq
           (.kill [9, 41])
           .skip)))))))
    (.reg false [
      (0, ⟨some 23, .mv (.t 8), none, [], [8]⟩),
      (1, ⟨some 24, .bin .add (.t 23) (.c (.int .i64 (1))), none, [], [23]⟩),
      (2, ⟨some 8, .mv (.t 24), none, [], [24]⟩)])))
def L65_0 : CCode :=
  (.seq
   (.seq
    (.reg false [
      (0, ⟨some 14, .mv (.t 7), none, [], [7]⟩)])
    (.cond (.t 14)
     (.seq
      (.kill [14])
      .skip)
     (.seq
      (.kill [0, 14])
      (.exit 0))))
   (.block 1
    (.seq
     (.reg false [
       (0, ⟨some 7, .mv (.c (.bool false)), none, [], []⟩)])
     (.seq
      (.reg false [
        (0, ⟨some 8, .mv (.c (.int .i64 (0))), none, [], []⟩)])
      (.block 2
       (.loop L65_1))))))
def B65 : CCode :=
  (.seq
   (.reg false [
     (0, ⟨some 4, .mv (.c (.nils)), none, [], [4]⟩),
     (1, ⟨some 5, .mv (.c (.bool false)), none, [], [5]⟩)])
   (.seq
    (.reg false [
      (0, ⟨some 11, .bsl 1 0 [.int .i64 (0)] [], none, [], []⟩),
      (1, ⟨some 12, .mv (.t 1), none, [], [1]⟩),
      (2, ⟨some 13, .app 1 8 (.t 11) (.t 12), none, [], [11, 12]⟩),
      (3, ⟨some 6, .mv (.t 13), none, [], [13]⟩)])
    (.seq
     (.seq
      (.reg false [
        (0, ⟨some 7, .mv (.c (.bool true)), none, [], []⟩)])
      (.block 0
       (.loop L65_0)))
     (.seq
      (.reg false [
        (0, ⟨some 48, .mv (.t 6), none, [], [6]⟩),
        (1, ⟨some 4, .mv (.t 48), none, [], [48]⟩),
        (2, ⟨some 5, .mv (.c (.bool false)), none, [], []⟩)])
      .ret))))
def C65 : CFn := ⟨49, 2, [.t 4, .t 5], B65⟩

/-- spec.l7Has -/
def L70_0 : CCode :=
  (.seq
   (.seq
    (.reg false [
      (0, ⟨some 6, .mv (.t 5), none, [], []⟩),
      (1, ⟨some 7, .mv (.t 0), none, [], []⟩),
      (2, ⟨some 8, .len (.t 7), none, [], [7]⟩),
      (3, ⟨some 9, .bin .lss (.t 6) (.t 8), none, [], [6, 8]⟩)])
    (.cond (.t 9)
     (.seq
      (.kill [9])
      .skip)
     (.seq
      (.kill [0, 1, 5, 9])
      (.exit 0))))
   (.seq
    (.block 1
     (.seq
      (.reg false [
        (0, ⟨some 12, .mv (.t 0), none, [], []⟩),
        (1, ⟨some 13, .mv (.t 5), none, [], []⟩),
        (2, ⟨some 14, .ia 1 (.t 12) (.t 13), none, [], []⟩),
        (3, ⟨some 15, .ld 1 false (.t 14), none, [], [12, 13, 14]⟩),
        (4, ⟨some 16, .mv (.t 1), none, [], []⟩),
        (5, ⟨some 17, .bin .eql (.t 15) (.t 16), none, [], [15, 16]⟩)])
      (.cond (.t 17)
       (.seq
        (.kill [0, 1, 5, 17])
        (.seq
         (.reg false [
           (0, ⟨some 4, .mv (.c (.bool true)), none, [], []⟩)])
         .ret))
       (.seq
        (.kill [17])
        .skip))))
    (.reg false [
      (0, ⟨some 10, .mv (.t 5), none, [], [5]⟩),
      (1, ⟨some 11, .bin .add (.t 10) (.c (.int .i64 (1))), none, [], [10]⟩),
      (2, ⟨some 5, .mv (.t 11), none, [], [11]⟩)])))
def B70 : CCode :=
  (.seq
   (.reg false [
     (0, ⟨some 4, .mv (.c (.bool false)), none, [], [4]⟩)])
   (.seq
    (.seq
     (.reg false [
       (0, ⟨some 5, .mv (.c (.int .i64 (0))), none, [], []⟩)])
     (.block 0
      (.loop L70_0)))
    (.seq
     (.reg false [
       (0, ⟨some 4, .mv (.c (.bool false)), none, [], []⟩)])
     .ret)))
def C70 : CFn := ⟨18, 2, [.t 4], B70⟩

/-- slices.IndexFunc[[][]int,[]int] -/
def L71_0 : CCode :=
  (.seq
   (.reg false [
     (0, ⟨some 9, .bin .lss (.t 8) (.t 7), none, [], []⟩)])
   (.seq
    (.cond (.t 9)
     (.seq
      (.kill [9])
      .skip)
     (.seq
      (.kill [0, 1, 7, 8, 9])
      (.exit 0)))
    (.seq
     (.block 1
      (.seq
       (.reg false [
         (0, ⟨some 10, .mv (.t 8), none, [], []⟩),
         (1, ⟨some 5, .mv (.t 10), none, [], [10]⟩)])
       (.seq
        (.reg false [
          (0, ⟨some 11, .mv (.t 1), none, [], []⟩),
          (1, ⟨some 12, .mv (.t 0), none, [], []⟩),
          (2, ⟨some 13, .mv (.t 5), none, [], []⟩),
          (3, ⟨some 14, .ia 1 (.t 12) (.t 13), none, [], []⟩),
          (4, ⟨some 15, .ld 1 false (.t 14), none, [], [14]⟩),
          (5, ⟨some 16, .callv (.t 11) [(.t 15)], none, [], [11, 12, 13, 15]⟩)])
        (.cond (.t 16)
         (.seq
          (.kill [0, 1, 7, 8, 16])
          (.seq
           (.reg false [
             (0, ⟨some 17, .mv (.t 5), none, [], [5]⟩),
             (1, ⟨some 4, .mv (.t 17), none, [], [17]⟩)])
           .ret))
         (.seq
          (.kill [5, 16])
          .skip)))))
     (.reg false [
       (0, ⟨some 18, .bin .add (.t 8) (.c (.int .i64 (1))), none, [], [8]⟩),
       (1, ⟨some 8, .mv (.t 18), none, [], [18]⟩)]))))
def B71 : CCode :=
  (.seq
   (.reg false [
     (0, ⟨some 4, .mv (.c (.int .i64 (0))), none, [], [4]⟩)])
   (.seq
    (.seq
     (.reg false [
       (0, ⟨some 6, .mv (.t 0), none, [], []⟩),
       (1, ⟨some 7, .len (.t 6), none, [], [6]⟩),
       (2, ⟨some 8, .mv (.c (.int .i64 (0))), none, [], []⟩)])
     (.block 0
      (.loop L71_0)))
    (.seq
     (.reg false [
       (0, ⟨some 4, .mv (.c (.int .i64 (-1))), none, [], []⟩)])
     .ret)))
def C71 : CFn := ⟨19, 2, [.t 4], B71⟩

/-- slices.Contains[[]int,int] -/
def B73 : CCode :=
  (.seq
   (.reg false [
     (0, ⟨some 4, .mv (.c (.bool false)), none, [], [4]⟩)])
   (.seq
    (.reg false [
      (0, ⟨some 5, .mv (.t 0), none, [], [0]⟩),
      (1, ⟨some 6, .mv (.t 1), none, [], [1]⟩),
      (2, ⟨some 7, .call 83 [(.t 5), (.t 6)], none, [], [5, 6]⟩),
      (3, ⟨some 8, .bin .geq (.t 7) (.c (.int .i64 (0))), none, [], [7]⟩),
      (4, ⟨some 4, .mv (.t 8), none, [], [8]⟩)])
    .ret))
def C73 : CFn := ⟨9, 2, [.t 4], B73⟩

/-- slices.IndexFunc[[]int,int] -/
def L74_0 : CCode :=
  (.seq
   (.reg false [
     (0, ⟨some 9, .bin .lss (.t 8) (.t 7), none, [], []⟩)])
   (.seq
    (.cond (.t 9)
     (.seq
      (.kill [9])
      .skip)
     (.seq
      (.kill [0, 1, 7, 8, 9])
      (.exit 0)))
    (.seq
     (.block 1
      (.seq
       (.reg false [
         (0, ⟨some 10, .mv (.t 8), none, [], []⟩),
         (1, ⟨some 5, .mv (.t 10), none, [], [10]⟩)])
       (.seq
        (.reg false [
          (0, ⟨some 11, .mv (.t 1), none, [], []⟩),
          (1, ⟨some 12, .mv (.t 0), none, [], []⟩),
          (2, ⟨some 13, .mv (.t 5), none, [], []⟩),
          (3, ⟨some 14, .ia 1 (.t 12) (.t 13), none, [], []⟩),
          (4, ⟨some 15, .ld 1 false (.t 14), none, [], [12, 13, 14]⟩),
          (5, ⟨some 16, .callv (.t 11) [(.t 15)], none, [], [11, 15]⟩)])
        (.cond (.t 16)
         (.seq
          (.kill [0, 1, 7, 8, 16])
          (.seq
           (.reg false [
             (0, ⟨some 17, .mv (.t 5), none, [], [5]⟩),
             (1, ⟨some 4, .mv (.t 17), none, [], [17]⟩)])
           .ret))
         (.seq
          (.kill [5, 16])
          .skip)))))
     (.reg false [
       (0, ⟨some 18, .bin .add (.t 8) (.c (.int .i64 (1))), none, [], [8]⟩),
       (1, ⟨some 8, .mv (.t 18), none, [], [18]⟩)]))))
def B74 : CCode :=
  (.seq
   (.reg false [
     (0, ⟨some 4, .mv (.c (.int .i64 (0))), none, [], [4]⟩)])
   (.seq
    (.seq
     (.reg false [
       (0, ⟨some 6, .mv (.t 0), none, [], []⟩),
       (1, ⟨some 7, .len (.t 6), none, [], [6]⟩),
       (2, ⟨some 8, .mv (.c (.int .i64 (0))), none, [], []⟩)])
     (.block 0
      (.loop L74_0)))
    (.seq
     (.reg false [
       (0, ⟨some 4, .mv (.c (.int .i64 (-1))), none, [], []⟩)])
     .ret)))
def C74 : CFn := ⟨19, 2, [.t 4], B74⟩

/-- impl.within -/
def B75 : CCode :=
  (.seq
   (.reg false [
     (0, ⟨some 6, .mv (.c (.bool false)), none, [], [6]⟩)])
   (.seq
    (.reg false [
      (0, ⟨some 7, .mv (.t 1), none, [], [1]⟩),
      (1, ⟨some 8, .mv (.t 0), none, [], []⟩),
      (2, ⟨some 9, .bin .leq (.t 7) (.t 8), none, [], [7, 8]⟩),
      (3, ⟨some 10, .mv (.t 9), none, [], [9]⟩),
      (4, ⟨some 11, .mv (.t 0), some (10, true), [], [0]⟩),
      (5, ⟨some 12, .mv (.t 2), some (10, true), [], [2]⟩),
      (6, ⟨some 13, .bin .leq (.t 11) (.t 12), some (10, true), [], [11, 12]⟩),
      (7, ⟨some 14, .pick (.t 10) (.t 13) (.c (.bool false)), none, [], [10, 13]⟩),
      (8, ⟨some 6, .mv (.t 14), none, [], [14]⟩)])
    .ret))
def C75 : CFn := ⟨15, 3, [.t 6], B75⟩

/-- impl.areClauses$1 -/
def B76 : CCode :=
  (.seq
   (.reg false [
     (0, ⟨some 3, .mv (.c (.bool false)), none, [], [3]⟩)])
   (.seq
    (.reg false [
      (0, ⟨some 4, .ld 1 false (.t 1), none, [], [1]⟩),
      (1, ⟨some 5, .mv (.t 0), none, [], [0]⟩),
      (2, ⟨some 6, .call 63 [(.t 4), (.t 5)], none, [], [4, 5]⟩),
      (3, ⟨some 7, .not (.t 6), none, [], [6]⟩),
      (4, ⟨some 3, .mv (.t 7), none, [], [7]⟩)])
    .ret))
def C76 : CFn := ⟨8, 2, [.t 3], B76⟩

/-- impl.propagate$1 -/
def B77 : CCode :=
  (.seq
   (.reg false [
     (0, ⟨some 3, .mv (.c (.bool false)), none, [], [3]⟩)])
   (.seq
    (.reg false [
      (0, ⟨some 4, .ld 1 false (.t 1), none, [], []⟩),
      (1, ⟨some 5, .mv (.t 0), none, [], [0]⟩),
      (2, ⟨some 6, .call 73 [(.t 4), (.t 5)], none, [], [1, 4, 5]⟩),
      (3, ⟨some 3, .mv (.t 6), none, [], [6]⟩)])
    .ret))
def C77 : CFn := ⟨7, 2, [.t 3], B77⟩

/-- impl.without -/
def L78_0 : CCode :=
  (.seq
   (.reg false [
     (0, ⟨some 12, .bin .lss (.t 11) (.t 10), none, [], []⟩)])
   (.seq
    (.cond (.t 12)
     (.seq
      (.kill [12])
      .skip)
     (.seq
      (.kill [1, 9, 10, 11, 12])
      (.exit 0)))
    (.seq
     (.block 1
      (.seq
       (.reg false [
         (0, ⟨some 13, .ia 1 (.t 9) (.t 11), none, [], []⟩),
         (1, ⟨some 14, .ld 1 false (.t 13), none, [], [13]⟩),
         (2, ⟨some 7, .mv (.t 14), none, [], [14]⟩)])
       (.seq
        (.reg false [
          (0, ⟨some 15, .mv (.t 1), none, [], []⟩),
          (1, ⟨some 16, .mv (.t 7), none, [], []⟩),
          (2, ⟨some 17, .call 73 [(.t 15), (.t 16)], none, [], [15, 16]⟩),
          (3, ⟨some 18, .not (.t 17), none, [], [17]⟩)])
        (.cond (.t 18)
         (.seq
          (.kill [18])
          (.reg false [
            (0, ⟨some 19, .mv (.t 5), none, [], [5]⟩),
            (1, ⟨some 20, .mv (.t 7), none, [], [7]⟩),
            (2, ⟨some 21, .bsl 1 1 [.int .i64 (0)] [(0, 1, (.t 20))], none, [], [20]⟩),
            (3, ⟨some 22, .app 1 8 (.t 19) (.t 21), none, [], [19, 21]⟩),
            (4, ⟨some 5, .mv (.t 22), none, [], [22]⟩)]))
         (.seq
          (.kill [7, 18])
          .skip)))))
     (.reg false [
       (0, ⟨some 23, .bin .add (.t 11) (.c (.int .i64 (1))), none, [], [11]⟩),
       (1, ⟨some 11, .mv (.t 23), none, [], [23]⟩)]))))
def B78 : CCode :=
  (.seq
   (.reg false [
     (0, ⟨some 4, .mv (.c (.nils)), none, [], [4]⟩)])
   (.seq
    (.reg false [
      (0, ⟨some 8, .bsl 1 0 [.int .i64 (0)] [], none, [], []⟩),
      (1, ⟨some 5, .mv (.t 8), none, [], [8]⟩)])
    (.seq
     (.seq
      (.reg false [
        (0, ⟨some 9, .mv (.t 0), none, [], [0]⟩),
        (1, ⟨some 10, .len (.t 9), none, [], []⟩),
        (2, ⟨some 11, .mv (.c (.int .i64 (0))), none, [], []⟩)])
      (.block 0
       (.loop L78_0)))
     (.seq
      (.reg false [
        (0, ⟨some 24, .mv (.t 5), none, [], [5]⟩),
        (1, ⟨some 4, .mv (.t 24), none, [], [24]⟩)])
      .ret))))
def C78 : CFn := ⟨25, 2, [.t 4], B78⟩

/-- spec.l21Left -/
def L79_0 : CCode :=
  (.seq
   (.seq
    (.reg false [
      (0, ⟨some 9, .mv (.t 7), none, [], []⟩),
      (1, ⟨some 10, .mv (.t 0), none, [], []⟩),
      (2, ⟨some 11, .len (.t 10), none, [], [10]⟩),
      (3, ⟨some 12, .bin .lss (.t 9) (.t 11), none, [], [9, 11]⟩)])
    (.cond (.t 12)
     (.seq
      (.kill [12])
      .skip)
     (.seq
      (.kill [0, 1, 7, 12])
      (.exit 0))))
   (.seq
    (.block 1
     (.seq
      (.seq
       (.reg false [
         (0, ⟨some 15, .mv (.t 1), none, [], []⟩),
         (1, ⟨some 16, .mv (.t 0), none, [], []⟩),
         (2, ⟨some 17, .mv (.t 7), none, [], []⟩),
         (3, ⟨some 18, .ia 1 (.t 16) (.t 17), none, [], []⟩),
         (4, ⟨some 19, .ld 1 false (.t 18), none, [], [16, 17, 18]⟩),
         (5, ⟨some 20, .call 70 [(.t 15), (.t 19)], none, [], [15, 19]⟩)])
       (.cond (.t 20)
        (.seq
         (.kill [0, 1, 7, 20])
         (.seq
          (.reg false [
            (0, ⟨some 21, .mv (.t 6), none, [], [6]⟩),
            (1, ⟨some 4, .mv (.t 21), none, [], [21]⟩),
            (2, ⟨some 5, .mv (.c (.bool true)), none, [], []⟩)])
          .ret))
        (.seq
         (.kill [20])
         .skip)))
      (.seq
       (.reg false [
         (0, ⟨some 22, .mv (.t 1), none, [], []⟩),
         (1, ⟨some 23, .mv (.t 0), none, [], []⟩),
         (2, ⟨some 24, .mv (.t 7), none, [], []⟩),
         (3, ⟨some 25, .ia 1 (.t 23) (.t 24), none, [], []⟩),
         (4, ⟨some 26, .ld 1 false (.t 25), none, [], [23, 24, 25]⟩),
         (5, ⟨some 27, .neg (.t 26), none, [], [26]⟩),
         (6, ⟨some 28, .call 70 [(.t 22), (.t 27)], none, [], [22, 27]⟩),
         (7, ⟨some 29, .not (.t 28), none, [], [28]⟩)])
       (.cond (.t 29)
        (.seq
         (.kill [29])
         (.reg false [
           (0, ⟨some 30, .mv (.t 6), none, [], [6]⟩),
           (1, ⟨some 31, .mv (.t 0), none, [], []⟩),
           (2, ⟨some 32, .mv (.t 7), none, [], []⟩),
           (3, ⟨some 33, .ia 1 (.t 31) (.t 32), none, [], []⟩),
           (4, ⟨some 34, .ld 1 false (.t 33), none, [], [31, 32, 33]⟩),
           (5, ⟨some 35, .bsl 1 1 [.int .i64 (0)] [(0, 1, (.t 34))], none, [], [34]⟩),
           (6, ⟨some 36, .app 1 8 (.t 30) (.t 35), none, [], [30, 35]⟩),
           (7, ⟨some 6, .mv (.t 36), none, [], [36]⟩)]))
        (.seq
         (.kill [29])
         .skip)))))
    (.reg false [
      (0, ⟨some 13, .mv (.t 7), none, [], [7]⟩),
      (1, ⟨some 14, .bin .add (.t 13) (.c (.int .i64 (1))), none, [], [13]⟩),
      (2, ⟨some 7, .mv (.t 14), none, [], [14]⟩)])))
def B79 : CCode :=
  (.seq
   (.reg false [
     (0, ⟨some 4, .mv (.c (.nils)), none, [], [4]⟩),
     (1, ⟨some 5, .mv (.c (.bool false)), none, [], [5]⟩)])
   (.seq
    (.reg false [
      (0, ⟨some 8, .bsl 1 0 [.int .i64 (0)] [], none, [], []⟩),
      (1, ⟨some 6, .mv (.t 8), none, [], [8]⟩)])
    (.seq
     (.seq
      (.reg false [
        (0, ⟨some 7, .mv (.c (.int .i64 (0))), none, [], []⟩)])
      (.block 0
       (.loop L79_0)))
     (.seq
      (.reg false [
        (0, ⟨some 37, .mv (.t 6), none, [], [6]⟩),
        (1, ⟨some 4, .mv (.t 37), none, [], [37]⟩),
        (2, ⟨some 5, .mv (.c (.bool false)), none, [], []⟩)])
      .ret))))
def C79 : CFn := ⟨38, 2, [.t 4, .t 5], B79⟩

/-- slices.Index[[]int,int] -/
def L83_0 : CCode :=
  (.seq
   (.reg false [
     (0, ⟨some 9, .bin .lss (.t 8) (.t 7), none, [], []⟩)])
   (.seq
    (.cond (.t 9)
     (.seq
      (.kill [9])
      .skip)
     (.seq
      (.kill [0, 1, 7, 8, 9])
      (.exit 0)))
    (.seq
     (.block 1
      (.seq
       (.reg false [
         (0, ⟨some 10, .mv (.t 8), none, [], []⟩),
         (1, ⟨some 5, .mv (.t 10), none, [], [10]⟩)])
       (.seq
        (.reg false [
          (0, ⟨some 11, .mv (.t 1), none, [], []⟩),
          (1, ⟨some 12, .mv (.t 0), none, [], []⟩),
          (2, ⟨some 13, .mv (.t 5), none, [], []⟩),
          (3, ⟨some 14, .ia 1 (.t 12) (.t 13), none, [], []⟩),
          (4, ⟨some 15, .ld 1 false (.t 14), none, [], [12, 13, 14]⟩),
          (5, ⟨some 16, .bin .eql (.t 11) (.t 15), none, [], [11, 15]⟩)])
        (.cond (.t 16)
         (.seq
          (.kill [0, 1, 7, 8, 16])
          (.seq
           (.reg false [
             (0, ⟨some 17, .mv (.t 5), none, [], [5]⟩),
             (1, ⟨some 4, .mv (.t 17), none, [], [17]⟩)])
           .ret))
         (.seq
          (.kill [5, 16])
          .skip)))))
     (.reg false [
       (0, ⟨some 18, .bin .add (.t 8) (.c (.int .i64 (1))), none, [], [8]⟩),
       (1, ⟨some 8, .mv (.t 18), none, [], [18]⟩)]))))
def B83 : CCode :=
  (.seq
   (.reg false [
     (0, ⟨some 4, .mv (.c (.int .i64 (0))), none, [], [4]⟩)])
   (.seq
    (.seq
     (.reg false [
       (0, ⟨some 6, .mv (.t 0), none, [], []⟩),
       (1, ⟨some 7, .len (.t 6), none, [], [6]⟩),
       (2, ⟨some 8, .mv (.c (.int .i64 (0))), none, [], []⟩)])
     (.block 0
      (.loop L83_0)))
    (.seq
     (.reg false [
       (0, ⟨some 4, .mv (.c (.int .i64 (-1))), none, [], []⟩)])
     .ret)))
def C83 : CFn := ⟨19, 2, [.t 4], B83⟩

theorem chk11 : chkFn Go.Proofs.Try.prog 11 C11 = true := by kernel_rfl
theorem chk16 : chkFn Go.Proofs.Try.prog 16 C16 = true := by kernel_rfl
theorem chk17 : chkFn Go.Proofs.Try.prog 17 C17 = true := by kernel_rfl
theorem chk18 : chkFn Go.Proofs.Try.prog 18 C18 = true := by kernel_rfl
theorem chk19 : chkFn Go.Proofs.Try.prog 19 C19 = true := by kernel_rfl
theorem chk20 : chkFn Go.Proofs.Try.prog 20 C20 = true := by kernel_rfl
theorem chk26 : chkFn Go.Proofs.Try.prog 26 C26 = true := by kernel_rfl
theorem chk28 : chkFn Go.Proofs.Try.prog 28 C28 = true := by kernel_rfl
theorem chk30 : chkFn Go.Proofs.Try.prog 30 C30 = true := by kernel_rfl
theorem chk33 : chkFn Go.Proofs.Try.prog 33 C33 = true := by kernel_rfl
theorem chk34 : chkFn Go.Proofs.Try.prog 34 C34 = true := by kernel_rfl
theorem chk37 : chkFn Go.Proofs.Try.prog 37 C37 = true := by kernel_rfl
theorem chk43 : chkFn Go.Proofs.Try.prog 43 C43 = true := by kernel_rfl
theorem chk44 : chkFn Go.Proofs.Try.prog 44 C44 = true := by kernel_rfl
theorem chk51 : chkFn Go.Proofs.Try.prog 51 C51 = true := by kernel_rfl
theorem chk53 : chkFn Go.Proofs.Try.prog 53 C53 = true := by kernel_rfl
theorem chk57 : chkFn Go.Proofs.Try.prog 57 C57 = true := by kernel_rfl
theorem chk60 : chkFn Go.Proofs.Try.prog 60 C60 = true := by kernel_rfl
theorem chk61 : chkFn Go.Proofs.Try.prog 61 C61 = true := by kernel_rfl
theorem chk62 : chkFn Go.Proofs.Try.prog 62 C62 = true := by kernel_rfl
theorem chk63 : chkFn Go.Proofs.Try.prog 63 C63 = true := by kernel_rfl
theorem chk64 : chkFn Go.Proofs.Try.prog 64 C64 = true := by kernel_rfl
theorem chk65 : chkFn Go.Proofs.Try.prog 65 C65 = true := by kernel_rfl
theorem chk70 : chkFn Go.Proofs.Try.prog 70 C70 = true := by kernel_rfl
theorem chk71 : chkFn Go.Proofs.Try.prog 71 C71 = true := by kernel_rfl
theorem chk73 : chkFn Go.Proofs.Try.prog 73 C73 = true := by kernel_rfl
theorem chk74 : chkFn Go.Proofs.Try.prog 74 C74 = true := by kernel_rfl
theorem chk75 : chkFn Go.Proofs.Try.prog 75 C75 = true := by kernel_rfl
theorem chk76 : chkFn Go.Proofs.Try.prog 76 C76 = true := by kernel_rfl
theorem chk77 : chkFn Go.Proofs.Try.prog 77 C77 = true := by kernel_rfl
theorem chk78 : chkFn Go.Proofs.Try.prog 78 C78 = true := by kernel_rfl
theorem chk79 : chkFn Go.Proofs.Try.prog 79 C79 = true := by kernel_rfl
theorem chk83 : chkFn Go.Proofs.Try.prog 83 C83 = true := by kernel_rfl
def Tab (f : Nat) : Option CFn :=
  match f with
  | 11 => some C11
  | 16 => some C16
  | 17 => some C17
  | 18 => some C18
  | 19 => some C19
  | 20 => some C20
  | 26 => some C26
  | 28 => some C28
  | 30 => some C30
  | 33 => some C33
  | 34 => some C34
  | 37 => some C37
  | 43 => some C43
  | 44 => some C44
  | 51 => some C51
  | 53 => some C53
  | 57 => some C57
  | 60 => some C60
  | 61 => some C61
  | 62 => some C62
  | 63 => some C63
  | 64 => some C64
  | 65 => some C65
  | 70 => some C70
  | 71 => some C71
  | 73 => some C73
  | 74 => some C74
  | 75 => some C75
  | 76 => some C76
  | 77 => some C77
  | 78 => some C78
  | 79 => some C79
  | 83 => some C83
  | _ => none
theorem tabOk : TabOk Go.Proofs.Try.prog Tab := by
  intro f cf h
  unfold Tab at h
  split at h <;> simp only [Option.some.injEq, reduceCtorEq] at h <;> subst h
  · exact chk11
  · exact chk16
  · exact chk17
  · exact chk18
  · exact chk19
  · exact chk20
  · exact chk26
  · exact chk28
  · exact chk30
  · exact chk33
  · exact chk34
  · exact chk37
  · exact chk43
  · exact chk44
  · exact chk51
  · exact chk53
  · exact chk57
  · exact chk60
  · exact chk61
  · exact chk62
  · exact chk63
  · exact chk64
  · exact chk65
  · exact chk70
  · exact chk71
  · exact chk73
  · exact chk74
  · exact chk75
  · exact chk76
  · exact chk77
  · exact chk78
  · exact chk79
  · exact chk83

end Go.Proofs.YthfbkecnnllpkaaH
