/- The program's functions, for the abstract machine: printed by gen.py. -/
import Derived.Test.YthfbkecnnllpkaaHm28
import Derived.Test.YthfbkecnnllpkaaProg
set_option linter.unusedVariables false
set_option maxRecDepth 100000
namespace Go.Proofs.YthfbkecnnllpkaaH
open Go
/-- laws.FnExactNegateLiterals -/
def B3 : CCode :=
  (.seq
   (.reg false [
     (0, ⟨some 2, .mv (.c (.bool false)), none, [], [2]⟩)])
   (.seq
    (.seq
     (.reg false [
       (0, ⟨some 10, .mv (.t 0), none, [], []⟩),
       (1, ⟨some 11, .len (.t 10), none, [], [10]⟩),
       (2, ⟨some 12, .bin .gtr (.t 11) (.c (.int .i64 (1048576))), none, [], [11]⟩)])
     (.cond (.t 12)
      (.seq
       (.kill [0, 12])
       (.seq
        (.reg false [
          (0, ⟨some 2, .mv (.c (.bool true)), none, [], []⟩)])
        .ret))
      (.seq
       (.kill [12])
       .skip)))
    (.seq
     (.reg false [
       (0, ⟨some 13, .mv (.t 0), none, [], []⟩),
       (1, ⟨some 14, .call 16 [(.t 13)], none, [], [13]⟩),
       (2, ⟨some 15, .call 15 [(.t 14)], none, [], [14]⟩),
       (3, ⟨some 3, .mv (.t 15), none, [], [15]⟩)])
     (.seq
      (.reg false [
        (0, ⟨some 16, .mv (.t 0), none, [], []⟩),
        (1, ⟨some 17, .call 16 [(.t 16)], none, [], [16]⟩),
        (2, ⟨some 4, .mv (.t 17), none, [], [17]⟩)])
      (.seq
       (.reg false [
         (0, ⟨some 18, .mv (.t 4), none, [], []⟩),
         (1, ⟨some 19, .call 17 [(.t 18)], none, [], [18]⟩),
         (2, ⟨some 5, .mv (.t 19), none, [], [19]⟩)])
       (.seq
        (.seq
         (.reg false [
           (0, ⟨some 20, .mv (.t 5), none, [], []⟩),
           (1, ⟨some 21, .mv (.t 3), none, [], []⟩),
           (2, ⟨some 22, .call 18 [(.t 20), (.t 21)], none, [], [20, 21]⟩),
           (3, ⟨some 23, .not (.t 22), none, [], [22]⟩)])
         (.cond (.t 23)
          (.seq
           (.kill [0, 3, 4, 5, 23])
           (.seq
            (.reg false [
              (0, ⟨some 2, .mv (.c (.bool false)), none, [], []⟩)])
            .ret))
          (.seq
           (.kill [23])
           .skip)))
        (.seq
         (.seq
          (.reg false [
            (0, ⟨some 24, .mv (.t 4), none, [], []⟩),
            (1, ⟨some 25, .mv (.t 0), none, [], []⟩),
            (2, ⟨some 26, .call 16 [(.t 25)], none, [], [25]⟩),
            (3, ⟨some 27, .call 18 [(.t 24), (.t 26)], none, [], [24, 26]⟩),
            (4, ⟨some 28, .not (.t 27), none, [], [27]⟩)])
          (.cond (.t 28)
           (.seq
            (.kill [0, 3, 4, 5, 28])
            (.seq
             (.reg false [
               (0, ⟨some 2, .mv (.c (.bool false)), none, [], []⟩)])
             .ret))
           (.seq
            (.kill [28])
            .skip)))
         (.seq
          (.reg false [
            (0, ⟨some 6, .mv (.c (.int .i64 (1))), none, [], []⟩)])
          (.seq
           (.reg false [
             (0, ⟨some 29, .mv (.t 4), none, [], [4]⟩),
             (1, ⟨some 30, .mv (.t 6), none, [], [6]⟩),
             (2, ⟨some 31, .call 19 [(.t 29), (.t 30)], none, [], [29, 30]⟩),
             (3, ⟨some 6, .mv (.t 31), none, [], [31]⟩)])
           (.seq
            (.seq
             (.reg false [
               (0, ⟨some 32, .mv (.t 6), none, [], [6]⟩),
               (1, ⟨some 33, .bin .lss (.t 32) (.c (.int .i64 (0))), none, [], [32]⟩),
               (2, ⟨some 34, .mv (.t 33), none, [], [33]⟩),
               (3, ⟨some 35, .mv (.t 5), some (34, false), [], []⟩),
               (4, ⟨some 36, .mv (.t 3), some (34, false), [], []⟩),
               (5, ⟨some 37, .call 18 [(.t 35), (.t 36)], some (34, false), [], [35, 36]⟩),
               (6, ⟨some 38, .not (.t 37), some (34, false), [], [37]⟩),
               (7, ⟨some 39, .pick (.t 34) (.c (.bool true)) (.t 38), none, [], [34, 38]⟩)])
             (.cond (.t 39)
              (.seq
               (.kill [0, 3, 5, 39])
               (.seq
                (.reg false [
                  (0, ⟨some 2, .mv (.c (.bool false)), none, [], []⟩)])
                .ret))
              (.seq
               (.kill [39])
               .skip)))
            (.seq
             (.reg false [
               (0, ⟨some 7, .mv (.c (.int .i64 (1))), none, [], []⟩)])
             (.seq
              (.reg false [
                (0, ⟨some 40, .mv (.t 5), none, [], []⟩),
                (1, ⟨some 41, .mv (.t 7), none, [], [7]⟩),
                (2, ⟨some 42, .call 19 [(.t 40), (.t 41)], none, [], [40, 41]⟩),
                (3, ⟨some 7, .mv (.t 42), none, [], [42]⟩)])
              (.seq
               (.reg false [
                 (0, ⟨some 8, .mv (.c (.int .i64 (1))), none, [], []⟩)])
               (.seq
                (.reg false [
                  (0, ⟨some 43, .mv (.t 5), none, [], []⟩),
                  (1, ⟨some 44, .mv (.t 8), none, [], [8]⟩),
                  (2, ⟨some 45, .call 20 [(.t 43), (.t 44)], none, [], [43, 44]⟩),
                  (3, ⟨some 8, .mv (.t 45), none, [], [45]⟩)])
                (.seq
                 (.seq
                  (.reg false [
                    (0, ⟨some 46, .mv (.t 8), none, [], []⟩),
                    (1, ⟨some 47, .bin .lss (.t 46) (.c (.int .i64 (0))), none, [], [46]⟩)])
                  (.cond (.t 47)
                   (.seq
                    (.kill [0, 3, 5, 7, 8, 47])
                    (.seq
                     (.reg false [
                       (0, ⟨some 2, .mv (.c (.bool false)), none, [], []⟩)])
                     .ret))
                   (.seq
                    (.kill [47])
                    .skip)))
                 (.seq
                  (.seq
                   (.reg false [
                     (0, ⟨some 48, .mv (.t 8), none, [], [8]⟩),
                     (1, ⟨some 49, .mv (.t 7), none, [], []⟩),
                     (2, ⟨some 50, .bin .neq (.t 48) (.t 49), none, [], [48, 49]⟩)])
                   (.cond (.t 50)
                    (.seq
                     (.kill [0, 3, 5, 7, 50])
                     (.seq
                      (.reg false [
                        (0, ⟨some 2, .mv (.c (.bool false)), none, [], []⟩)])
                      .ret))
                    (.seq
                     (.kill [50])
                     .skip)))
                  (.seq
                   (.reg false [
                     (0, ⟨some 51, .mv (.t 0), none, [], [0]⟩),
                     (1, ⟨some 52, .call 16 [(.t 51)], none, [], [51]⟩),
                     (2, ⟨some 53, .call 17 [(.t 52)], none, [], [52]⟩),
                     (3, ⟨some 9, .mv (.t 53), none, [], [53]⟩)])
                   (.seq
                    (.seq
                     (.reg false [
                       (0, ⟨some 54, .mv (.t 9), none, [], [9]⟩),
                       (1, ⟨some 55, .mv (.t 3), none, [], [3]⟩),
                       (2, ⟨some 56, .call 18 [(.t 54), (.t 55)], none, [], [54, 55]⟩),
                       (3, ⟨some 57, .not (.t 56), none, [], [56]⟩)])
                     (.cond (.t 57)
                      (.seq
                       (.kill [5, 7, 57])
                       (.seq
                        (.reg false [
                          (0, ⟨some 2, .mv (.c (.bool false)), none, [], []⟩)])
                        .ret))
                      (.seq
                       (.kill [57])
                       .skip)))
                    (.seq
                     (.reg false [
                       (0, ⟨some 8, .mv (.c (.int .i64 (1))), none, [], []⟩)])
                     (.seq
                      (.reg false [
                        (0, ⟨some 58, .mv (.t 5), none, [], [5]⟩),
                        (1, ⟨some 59, .mv (.t 8), none, [], [8]⟩),
                        (2, ⟨some 60, .call 20 [(.t 58), (.t 59)], none, [], [58, 59]⟩),
                        (3, ⟨some 8, .mv (.t 60), none, [], [60]⟩)])
                      (.seq
                       (.seq
                        (.reg false [
                          (0, ⟨some 61, .mv (.t 8), none, [], []⟩),
                          (1, ⟨some 62, .bin .lss (.t 61) (.c (.int .i64 (0))), none, [], [61]⟩)])
                        (.cond (.t 62)
                         (.seq
                          (.kill [7, 8, 62])
                          (.seq
                           (.reg false [
                             (0, ⟨some 2, .mv (.c (.bool false)), none, [], []⟩)])
                           .ret))
                         (.seq
                          (.kill [62])
                          .skip)))
                       (.seq
                        (.seq
                         (.reg false [
                           (0, ⟨some 63, .mv (.t 8), none, [], [8]⟩),
                           (1, ⟨some 64, .mv (.t 7), none, [], [7]⟩),
                           (2, ⟨some 65, .bin .neq (.t 63) (.t 64), none, [], [63, 64]⟩)])
                         (.cond (.t 65)
                          (.seq
                           (.kill [65])
                           (.seq
                            (.reg false [
                              (0, ⟨some 2, .mv (.c (.bool false)), none, [], []⟩)])
                            .ret))
                          (.seq
                           (.kill [65])
                           .skip)))
                        (.seq
                         (.reg false [
                           (0, ⟨some 2, .mv (.c (.bool true)), none, [], []⟩)])
                         .ret)))))))))))))))))))))))
def C3 : CFn := ⟨66, 1, [.t 2], B3⟩

/-- laws.FnExactTrueVariables -/
def B4 : CCode :=
  (.seq
   (.reg false [
     (0, ⟨some 2, .mv (.c (.bool false)), none, [], [2]⟩)])
   (.seq
    (.seq
     (.reg false [
       (0, ⟨some 10, .mv (.t 0), none, [], []⟩),
       (1, ⟨some 11, .len (.t 10), none, [], [10]⟩),
       (2, ⟨some 12, .bin .gtr (.t 11) (.c (.int .i64 (1048576))), none, [], [11]⟩)])
     (.cond (.t 12)
      (.seq
       (.kill [0, 12])
       (.seq
        (.reg false [
          (0, ⟨some 2, .mv (.c (.bool true)), none, [], []⟩)])
        .ret))
      (.seq
       (.kill [12])
       .skip)))
    (.seq
     (.reg false [
       (0, ⟨some 13, .mv (.t 0), none, [], []⟩),
       (1, ⟨some 14, .call 22 [(.t 13)], none, [], [13]⟩),
       (2, ⟨some 15, .call 21 [(.t 14)], none, [], [14]⟩),
       (3, ⟨some 3, .mv (.t 15), none, [], [15]⟩)])
     (.seq
      (.reg false [
        (0, ⟨some 16, .mv (.t 0), none, [], []⟩),
        (1, ⟨some 17, .call 22 [(.t 16)], none, [], [16]⟩),
        (2, ⟨some 4, .mv (.t 17), none, [], [17]⟩)])
      (.seq
       (.reg false [
         (0, ⟨some 18, .mv (.t 4), none, [], []⟩),
         (1, ⟨some 19, .call 23 [(.t 18)], none, [], [18]⟩),
         (2, ⟨some 5, .mv (.t 19), none, [], [19]⟩)])
       (.seq
        (.seq
         (.reg false [
           (0, ⟨some 20, .mv (.t 5), none, [], []⟩),
           (1, ⟨some 21, .mv (.t 3), none, [], []⟩),
           (2, ⟨some 22, .call 18 [(.t 20), (.t 21)], none, [], [20, 21]⟩),
           (3, ⟨some 23, .not (.t 22), none, [], [22]⟩)])
         (.cond (.t 23)
          (.seq
           (.kill [0, 3, 4, 5, 23])
           (.seq
            (.reg false [
              (0, ⟨some 2, .mv (.c (.bool false)), none, [], []⟩)])
            .ret))
          (.seq
           (.kill [23])
           .skip)))
        (.seq
         (.seq
          (.reg false [
            (0, ⟨some 24, .mv (.t 4), none, [], []⟩),
            (1, ⟨some 25, .mv (.t 0), none, [], []⟩),
            (2, ⟨some 26, .call 22 [(.t 25)], none, [], [25]⟩),
            (3, ⟨some 27, .call 24 [(.t 24), (.t 26)], none, [], [24, 26]⟩),
            (4, ⟨some 28, .not (.t 27), none, [], [27]⟩)])
          (.cond (.t 28)
           (.seq
            (.kill [0, 3, 4, 5, 28])
            (.seq
             (.reg false [
               (0, ⟨some 2, .mv (.c (.bool false)), none, [], []⟩)])
             .ret))
           (.seq
            (.kill [28])
            .skip)))
         (.seq
          (.reg false [
            (0, ⟨some 6, .mv (.c (.int .i64 (1))), none, [], []⟩)])
          (.seq
           (.reg false [
             (0, ⟨some 29, .mv (.t 4), none, [], [4]⟩),
             (1, ⟨some 30, .mv (.t 6), none, [], [6]⟩),
             (2, ⟨some 31, .call 25 [(.t 29), (.t 30)], none, [], [29, 30]⟩),
             (3, ⟨some 6, .mv (.t 31), none, [], [31]⟩)])
           (.seq
            (.seq
             (.reg false [
               (0, ⟨some 32, .mv (.t 6), none, [], [6]⟩),
               (1, ⟨some 33, .bin .lss (.t 32) (.c (.int .i64 (0))), none, [], [32]⟩),
               (2, ⟨some 34, .mv (.t 33), none, [], [33]⟩),
               (3, ⟨some 35, .mv (.t 5), some (34, false), [], []⟩),
               (4, ⟨some 36, .mv (.t 3), some (34, false), [], []⟩),
               (5, ⟨some 37, .call 18 [(.t 35), (.t 36)], some (34, false), [], [35, 36]⟩),
               (6, ⟨some 38, .not (.t 37), some (34, false), [], [37]⟩),
               (7, ⟨some 39, .pick (.t 34) (.c (.bool true)) (.t 38), none, [], [34, 38]⟩)])
             (.cond (.t 39)
              (.seq
               (.kill [0, 3, 5, 39])
               (.seq
                (.reg false [
                  (0, ⟨some 2, .mv (.c (.bool false)), none, [], []⟩)])
                .ret))
              (.seq
               (.kill [39])
               .skip)))
            (.seq
             (.reg false [
               (0, ⟨some 7, .mv (.c (.int .i64 (1))), none, [], []⟩)])
             (.seq
              (.reg false [
                (0, ⟨some 40, .mv (.t 5), none, [], []⟩),
                (1, ⟨some 41, .mv (.t 7), none, [], [7]⟩),
                (2, ⟨some 42, .call 19 [(.t 40), (.t 41)], none, [], [40, 41]⟩),
                (3, ⟨some 7, .mv (.t 42), none, [], [42]⟩)])
              (.seq
               (.reg false [
                 (0, ⟨some 8, .mv (.c (.int .i64 (1))), none, [], []⟩)])
               (.seq
                (.reg false [
                  (0, ⟨some 43, .mv (.t 5), none, [], []⟩),
                  (1, ⟨some 44, .mv (.t 8), none, [], [8]⟩),
                  (2, ⟨some 45, .call 20 [(.t 43), (.t 44)], none, [], [43, 44]⟩),
                  (3, ⟨some 8, .mv (.t 45), none, [], [45]⟩)])
                (.seq
                 (.seq
                  (.reg false [
                    (0, ⟨some 46, .mv (.t 8), none, [], []⟩),
                    (1, ⟨some 47, .bin .lss (.t 46) (.c (.int .i64 (0))), none, [], [46]⟩)])
                  (.cond (.t 47)
                   (.seq
                    (.kill [0, 3, 5, 7, 8, 47])
                    (.seq
                     (.reg false [
                       (0, ⟨some 2, .mv (.c (.bool false)), none, [], []⟩)])
                     .ret))
                   (.seq
                    (.kill [47])
                    .skip)))
                 (.seq
                  (.seq
                   (.reg false [
                     (0, ⟨some 48, .mv (.t 8), none, [], [8]⟩),
                     (1, ⟨some 49, .mv (.t 7), none, [], []⟩),
                     (2, ⟨some 50, .bin .neq (.t 48) (.t 49), none, [], [48, 49]⟩)])
                   (.cond (.t 50)
                    (.seq
                     (.kill [0, 3, 5, 7, 50])
                     (.seq
                      (.reg false [
                        (0, ⟨some 2, .mv (.c (.bool false)), none, [], []⟩)])
                      .ret))
                    (.seq
                     (.kill [50])
                     .skip)))
                  (.seq
                   (.reg false [
                     (0, ⟨some 51, .mv (.t 0), none, [], [0]⟩),
                     (1, ⟨some 52, .call 22 [(.t 51)], none, [], [51]⟩),
                     (2, ⟨some 53, .call 23 [(.t 52)], none, [], [52]⟩),
                     (3, ⟨some 9, .mv (.t 53), none, [], [53]⟩)])
                   (.seq
                    (.seq
                     (.reg false [
                       (0, ⟨some 54, .mv (.t 9), none, [], [9]⟩),
                       (1, ⟨some 55, .mv (.t 3), none, [], [3]⟩),
                       (2, ⟨some 56, .call 18 [(.t 54), (.t 55)], none, [], [54, 55]⟩),
                       (3, ⟨some 57, .not (.t 56), none, [], [56]⟩)])
                     (.cond (.t 57)
                      (.seq
                       (.kill [5, 7, 57])
                       (.seq
                        (.reg false [
                          (0, ⟨some 2, .mv (.c (.bool false)), none, [], []⟩)])
                        .ret))
                      (.seq
                       (.kill [57])
                       .skip)))
                    (.seq
                     (.reg false [
                       (0, ⟨some 8, .mv (.c (.int .i64 (1))), none, [], []⟩)])
                     (.seq
                      (.reg false [
                        (0, ⟨some 58, .mv (.t 5), none, [], [5]⟩),
                        (1, ⟨some 59, .mv (.t 8), none, [], [8]⟩),
                        (2, ⟨some 60, .call 20 [(.t 58), (.t 59)], none, [], [58, 59]⟩),
                        (3, ⟨some 8, .mv (.t 60), none, [], [60]⟩)])
                      (.seq
                       (.seq
                        (.reg false [
                          (0, ⟨some 61, .mv (.t 8), none, [], []⟩),
                          (1, ⟨some 62, .bin .lss (.t 61) (.c (.int .i64 (0))), none, [], [61]⟩)])
                        (.cond (.t 62)
                         (.seq
                          (.kill [7, 8, 62])
                          (.seq
                           (.reg false [
                             (0, ⟨some 2, .mv (.c (.bool false)), none, [], []⟩)])
                           .ret))
                         (.seq
                          (.kill [62])
                          .skip)))
                       (.seq
                        (.seq
                         (.reg false [
                           (0, ⟨some 63, .mv (.t 8), none, [], [8]⟩),
                           (1, ⟨some 64, .mv (.t 7), none, [], [7]⟩),
                           (2, ⟨some 65, .bin .neq (.t 63) (.t 64), none, [], [63, 64]⟩)])
                         (.cond (.t 65)
                          (.seq
                           (.kill [65])
                           (.seq
                            (.reg false [
                              (0, ⟨some 2, .mv (.c (.bool false)), none, [], []⟩)])
                            .ret))
                          (.seq
                           (.kill [65])
                           .skip)))
                        (.seq
                         (.reg false [
                           (0, ⟨some 2, .mv (.c (.bool true)), none, [], []⟩)])
                         .ret)))))))))))))))))))))))
def C4 : CFn := ⟨66, 1, [.t 2], B4⟩

/-- laws.FnExactIsCovered -/
def B5 : CCode :=
  (.seq
   (.reg false [
     (0, ⟨some 4, .mv (.c (.bool false)), none, [], [4]⟩)])
   (.seq
    (.seq
     (.reg false [
       (0, ⟨some 10, .mv (.t 1), none, [], []⟩),
       (1, ⟨some 11, .len (.t 10), none, [], [10]⟩),
       (2, ⟨some 12, .bin .gtr (.t 11) (.c (.int .i64 (1048576))), none, [], [11]⟩)])
     (.cond (.t 12)
      (.seq
       (.kill [0, 1, 12])
       (.seq
        (.reg false [
          (0, ⟨some 4, .mv (.c (.bool true)), none, [], []⟩)])
        .ret))
      (.seq
       (.kill [12])
       .skip)))
    (.seq
     (.reg false [
       (0, ⟨some 5, .mv (.c (.int .i64 (1048576))), none, [], []⟩)])
     (.seq
      (.reg false [
        (0, ⟨some 13, .mv (.t 0), none, [], []⟩),
        (1, ⟨some 14, .mv (.t 5), none, [], [5]⟩),
        (2, ⟨some 15, .call 26 [(.t 13), (.t 14)], none, [], [13, 14]⟩),
        (3, ⟨some 5, .mv (.t 15), none, [], [15]⟩)])
      (.seq
       (.seq
        (.reg false [
          (0, ⟨some 16, .mv (.t 5), none, [], [5]⟩),
          (1, ⟨some 17, .bin .lss (.t 16) (.c (.int .i64 (0))), none, [], [16]⟩)])
        (.cond (.t 17)
         (.seq
          (.kill [0, 1, 17])
          (.seq
           (.reg false [
             (0, ⟨some 4, .mv (.c (.bool true)), none, [], []⟩)])
           .ret))
         (.seq
          (.kill [17])
          .skip)))
       (.seq
        (.reg false [
          (0, ⟨some 18, .mv (.t 0), none, [], []⟩),
          (1, ⟨some 19, .call 28 [(.t 18)], none, [], [18]⟩),
          (2, ⟨some 20, .mv (.t 1), none, [], []⟩),
          (3, ⟨some 21, .call 16 [(.t 20)], none, [], [20]⟩),
          (4, ⟨some 22, .call 27 [(.t 19), (.t 21)], none, [], [19, 21]⟩),
          (5, ⟨some 6, .mv (.t 22), none, [], [22]⟩)])
        (.seq
         (.reg false [
           (0, ⟨some 23, .mv (.t 0), none, [], []⟩),
           (1, ⟨some 24, .call 28 [(.t 23)], none, [], [23]⟩),
           (2, ⟨some 7, .mv (.t 24), none, [], [24]⟩)])
         (.seq
          (.reg false [
            (0, ⟨some 25, .mv (.t 1), none, [], []⟩),
            (1, ⟨some 26, .call 16 [(.t 25)], none, [], [25]⟩),
            (2, ⟨some 8, .mv (.t 26), none, [], [26]⟩)])
          (.seq
           (.reg false [
             (0, ⟨some 27, .mv (.t 7), none, [], []⟩),
             (1, ⟨some 28, .mv (.t 8), none, [], []⟩),
             (2, ⟨some 29, .call 29 [(.t 27), (.t 28)], none, [], [27, 28]⟩),
             (3, ⟨some 9, .mv (.t 29), none, [], [29]⟩)])
           (.seq
            (.seq
             (.reg false [
               (0, ⟨some 30, .mv (.t 9), none, [], [9]⟩),
               (1, ⟨some 31, .mv (.t 6), none, [], [6]⟩),
               (2, ⟨some 32, .beq true (.t 30) (.t 31), none, [], [30, 31]⟩)])
             (.cond (.t 32)
              (.seq
               (.kill [0, 1, 7, 8, 32])
               (.seq
                (.reg false [
                  (0, ⟨some 4, .mv (.c (.bool false)), none, [], []⟩)])
                .ret))
              (.seq
               (.kill [32])
               .skip)))
            (.seq
             (.seq
              (.reg false [
                (0, ⟨some 33, .mv (.t 7), none, [], [7]⟩),
                (1, ⟨some 34, .mv (.t 0), none, [], [0]⟩),
                (2, ⟨some 35, .call 28 [(.t 34)], none, [], [34]⟩),
                (3, ⟨some 36, .call 30 [(.t 33), (.t 35)], none, [], [33, 35]⟩),
                (4, ⟨some 37, .not (.t 36), none, [], [36]⟩)])
              (.cond (.t 37)
               (.seq
                (.kill [1, 8, 37])
                (.seq
                 (.reg false [
                   (0, ⟨some 4, .mv (.c (.bool false)), none, [], []⟩)])
                 .ret))
               (.seq
                (.kill [37])
                .skip)))
             (.seq
              (.seq
               (.reg false [
                 (0, ⟨some 38, .mv (.t 8), none, [], [8]⟩),
                 (1, ⟨some 39, .mv (.t 1), none, [], [1]⟩),
                 (2, ⟨some 40, .call 16 [(.t 39)], none, [], [39]⟩),
                 (3, ⟨some 41, .call 18 [(.t 38), (.t 40)], none, [], [38, 40]⟩),
                 (4, ⟨some 42, .not (.t 41), none, [], [41]⟩)])
               (.cond (.t 42)
                (.seq
                 (.kill [42])
                 (.seq
                  (.reg false [
                    (0, ⟨some 4, .mv (.c (.bool false)), none, [], []⟩)])
                  .ret))
                (.seq
                 (.kill [42])
                 .skip)))
              (.seq
               (.reg false [
                 (0, ⟨some 4, .mv (.c (.bool true)), none, [], []⟩)])
               .ret)))))))))))))
def C5 : CFn := ⟨43, 2, [.t 4], B5⟩

/-- laws.FnExactSatisfiesClauses -/
def B6 : CCode :=
  (.seq
   (.reg false [
     (0, ⟨some 4, .mv (.c (.bool false)), none, [], [4]⟩)])
   (.seq
    (.seq
     (.reg false [
       (0, ⟨some 10, .mv (.t 1), none, [], []⟩),
       (1, ⟨some 11, .len (.t 10), none, [], [10]⟩),
       (2, ⟨some 12, .bin .gtr (.t 11) (.c (.int .i64 (1048576))), none, [], [11]⟩)])
     (.cond (.t 12)
      (.seq
       (.kill [0, 1, 12])
       (.seq
        (.reg false [
          (0, ⟨some 4, .mv (.c (.bool true)), none, [], []⟩)])
        .ret))
      (.seq
       (.kill [12])
       .skip)))
    (.seq
     (.reg false [
       (0, ⟨some 5, .mv (.c (.int .i64 (1048576))), none, [], []⟩)])
     (.seq
      (.reg false [
        (0, ⟨some 13, .mv (.t 0), none, [], []⟩),
        (1, ⟨some 14, .mv (.t 5), none, [], [5]⟩),
        (2, ⟨some 15, .call 26 [(.t 13), (.t 14)], none, [], [13, 14]⟩),
        (3, ⟨some 5, .mv (.t 15), none, [], [15]⟩)])
      (.seq
       (.seq
        (.reg false [
          (0, ⟨some 16, .mv (.t 5), none, [], [5]⟩),
          (1, ⟨some 17, .bin .lss (.t 16) (.c (.int .i64 (0))), none, [], [16]⟩)])
        (.cond (.t 17)
         (.seq
          (.kill [0, 1, 17])
          (.seq
           (.reg false [
             (0, ⟨some 4, .mv (.c (.bool true)), none, [], []⟩)])
           .ret))
         (.seq
          (.kill [17])
          .skip)))
       (.seq
        (.reg false [
          (0, ⟨some 18, .mv (.t 0), none, [], []⟩),
          (1, ⟨some 19, .call 28 [(.t 18)], none, [], [18]⟩),
          (2, ⟨some 20, .mv (.t 1), none, [], []⟩),
          (3, ⟨some 21, .call 22 [(.t 20)], none, [], [20]⟩),
          (4, ⟨some 22, .call 31 [(.t 19), (.t 21)], none, [], [19, 21]⟩),
          (5, ⟨some 6, .mv (.t 22), none, [], [22]⟩)])
        (.seq
         (.reg false [
           (0, ⟨some 23, .mv (.t 0), none, [], []⟩),
           (1, ⟨some 24, .call 28 [(.t 23)], none, [], [23]⟩),
           (2, ⟨some 7, .mv (.t 24), none, [], [24]⟩)])
         (.seq
          (.reg false [
            (0, ⟨some 25, .mv (.t 1), none, [], []⟩),
            (1, ⟨some 26, .call 22 [(.t 25)], none, [], [25]⟩),
            (2, ⟨some 8, .mv (.t 26), none, [], [26]⟩)])
          (.seq
           (.reg false [
             (0, ⟨some 27, .mv (.t 7), none, [], []⟩),
             (1, ⟨some 28, .mv (.t 8), none, [], []⟩),
             (2, ⟨some 29, .call 32 [(.t 27), (.t 28)], none, [], [27, 28]⟩),
             (3, ⟨some 9, .mv (.t 29), none, [], [29]⟩)])
           (.seq
            (.seq
             (.reg false [
               (0, ⟨some 30, .mv (.t 9), none, [], [9]⟩),
               (1, ⟨some 31, .mv (.t 6), none, [], [6]⟩),
               (2, ⟨some 32, .beq true (.t 30) (.t 31), none, [], [30, 31]⟩)])
             (.cond (.t 32)
              (.seq
               (.kill [0, 1, 7, 8, 32])
               (.seq
                (.reg false [
                  (0, ⟨some 4, .mv (.c (.bool false)), none, [], []⟩)])
                .ret))
              (.seq
               (.kill [32])
               .skip)))
            (.seq
             (.seq
              (.reg false [
                (0, ⟨some 33, .mv (.t 7), none, [], [7]⟩),
                (1, ⟨some 34, .mv (.t 0), none, [], [0]⟩),
                (2, ⟨some 35, .call 28 [(.t 34)], none, [], [34]⟩),
                (3, ⟨some 36, .call 30 [(.t 33), (.t 35)], none, [], [33, 35]⟩),
                (4, ⟨some 37, .not (.t 36), none, [], [36]⟩)])
              (.cond (.t 37)
               (.seq
                (.kill [1, 8, 37])
                (.seq
                 (.reg false [
                   (0, ⟨some 4, .mv (.c (.bool false)), none, [], []⟩)])
                 .ret))
               (.seq
                (.kill [37])
                .skip)))
             (.seq
              (.seq
               (.reg false [
                 (0, ⟨some 38, .mv (.t 8), none, [], [8]⟩),
                 (1, ⟨some 39, .mv (.t 1), none, [], [1]⟩),
                 (2, ⟨some 40, .call 22 [(.t 39)], none, [], [39]⟩),
                 (3, ⟨some 41, .call 24 [(.t 38), (.t 40)], none, [], [38, 40]⟩),
                 (4, ⟨some 42, .not (.t 41), none, [], [41]⟩)])
               (.cond (.t 42)
                (.seq
                 (.kill [42])
                 (.seq
                  (.reg false [
                    (0, ⟨some 4, .mv (.c (.bool false)), none, [], []⟩)])
                  .ret))
                (.seq
                 (.kill [42])
                 .skip)))
              (.seq
               (.reg false [
                 (0, ⟨some 4, .mv (.c (.bool true)), none, [], []⟩)])
               .ret)))))))))))))
def C6 : CFn := ⟨43, 2, [.t 4], B6⟩

/-- laws.FnExactAreValidClauses -/
def B7 : CCode :=
  (.seq
   (.reg false [
     (0, ⟨some 4, .mv (.c (.bool false)), none, [], [4]⟩)])
   (.seq
    (.reg false [
      (0, ⟨some 5, .mv (.c (.int .i64 (1048576))), none, [], []⟩)])
    (.seq
     (.reg false [
       (0, ⟨some 9, .mv (.t 1), none, [], []⟩),
       (1, ⟨some 10, .mv (.t 5), none, [], [5]⟩),
       (2, ⟨some 11, .call 26 [(.t 9), (.t 10)], none, [], [9, 10]⟩),
       (3, ⟨some 5, .mv (.t 11), none, [], [11]⟩)])
     (.seq
      (.seq
       (.reg false [
         (0, ⟨some 12, .mv (.t 5), none, [], [5]⟩),
         (1, ⟨some 13, .bin .lss (.t 12) (.c (.int .i64 (0))), none, [], [12]⟩)])
       (.cond (.t 13)
        (.seq
         (.kill [0, 1, 13])
         (.seq
          (.reg false [
            (0, ⟨some 4, .mv (.c (.bool true)), none, [], []⟩)])
          .ret))
        (.seq
         (.kill [13])
         .skip)))
      (.seq
       (.reg false [
         (0, ⟨some 14, .mv (.t 0), none, [], []⟩),
         (1, ⟨some 15, .mv (.t 1), none, [], []⟩),
         (2, ⟨some 16, .call 28 [(.t 15)], none, [], [15]⟩),
         (3, ⟨some 17, .call 33 [(.t 14), (.t 16)], none, [], [14, 16]⟩),
         (4, ⟨some 6, .mv (.t 17), none, [], [17]⟩)])
       (.seq
        (.reg false [
          (0, ⟨some 18, .mv (.t 1), none, [], []⟩),
          (1, ⟨some 19, .call 28 [(.t 18)], none, [], [18]⟩),
          (2, ⟨some 7, .mv (.t 19), none, [], [19]⟩)])
        (.seq
         (.reg false [
           (0, ⟨some 20, .mv (.t 0), none, [], [0]⟩),
           (1, ⟨some 21, .mv (.t 7), none, [], []⟩),
           (2, ⟨some 22, .call 34 [(.t 20), (.t 21)], none, [], [20, 21]⟩),
           (3, ⟨some 8, .mv (.t 22), none, [], [22]⟩)])
         (.seq
          (.seq
           (.reg false [
             (0, ⟨some 23, .mv (.t 8), none, [], [8]⟩),
             (1, ⟨some 24, .mv (.t 6), none, [], [6]⟩),
             (2, ⟨some 25, .beq true (.t 23) (.t 24), none, [], [23, 24]⟩)])
           (.cond (.t 25)
            (.seq
             (.kill [1, 7, 25])
             (.seq
              (.reg false [
                (0, ⟨some 4, .mv (.c (.bool false)), none, [], []⟩)])
              .ret))
            (.seq
             (.kill [25])
             .skip)))
          (.seq
           (.seq
            (.reg false [
              (0, ⟨some 26, .mv (.t 7), none, [], [7]⟩),
              (1, ⟨some 27, .mv (.t 1), none, [], [1]⟩),
              (2, ⟨some 28, .call 28 [(.t 27)], none, [], [27]⟩),
              (3, ⟨some 29, .call 30 [(.t 26), (.t 28)], none, [], [26, 28]⟩),
              (4, ⟨some 30, .not (.t 29), none, [], [29]⟩)])
            (.cond (.t 30)
             (.seq
              (.kill [30])
              (.seq
               (.reg false [
                 (0, ⟨some 4, .mv (.c (.bool false)), none, [], []⟩)])
               .ret))
             (.seq
              (.kill [30])
              .skip)))
           (.seq
            (.reg false [
              (0, ⟨some 4, .mv (.c (.bool true)), none, [], []⟩)])
            .ret))))))))))
def C7 : CFn := ⟨31, 2, [.t 4], B7⟩

/-- laws.FnExactMinimalSets -/
def B8 : CCode :=
  (.seq
   (.reg false [
     (0, ⟨some 2, .mv (.c (.bool false)), none, [], [2]⟩)])
   (.seq
    (.reg false [
      (0, ⟨some 3, .mv (.c (.int .i64 (1048576))), none, [], []⟩)])
    (.seq
     (.reg false [
       (0, ⟨some 11, .mv (.t 0), none, [], []⟩),
       (1, ⟨some 12, .mv (.t 3), none, [], [3]⟩),
       (2, ⟨some 13, .call 26 [(.t 11), (.t 12)], none, [], [11, 12]⟩),
       (3, ⟨some 3, .mv (.t 13), none, [], [13]⟩)])
     (.seq
      (.seq
       (.reg false [
         (0, ⟨some 14, .mv (.t 3), none, [], [3]⟩),
         (1, ⟨some 15, .bin .lss (.t 14) (.c (.int .i64 (0))), none, [], [14]⟩)])
       (.cond (.t 15)
        (.seq
         (.kill [0, 15])
         (.seq
          (.reg false [
            (0, ⟨some 2, .mv (.c (.bool true)), none, [], []⟩)])
          .ret))
        (.seq
         (.kill [15])
         .skip)))
      (.seq
       (.reg false [
         (0, ⟨some 16, .mv (.t 0), none, [], []⟩),
         (1, ⟨some 17, .call 28 [(.t 16)], none, [], [16]⟩),
         (2, ⟨some 18, .call 35 [(.t 17)], none, [], [17]⟩),
         (3, ⟨some 4, .mv (.t 18), none, [], [18]⟩)])
       (.seq
        (.reg false [
          (0, ⟨some 19, .mv (.t 0), none, [], []⟩),
          (1, ⟨some 20, .call 28 [(.t 19)], none, [], [19]⟩),
          (2, ⟨some 5, .mv (.t 20), none, [], [20]⟩)])
        (.seq
         (.reg false [
           (0, ⟨some 21, .mv (.t 5), none, [], []⟩),
           (1, ⟨some 22, .call 36 [(.t 21)], none, [], [21]⟩),
           (2, ⟨some 6, .mv (.t 22), none, [], [22]⟩)])
         (.seq
          (.seq
           (.reg false [
             (0, ⟨some 23, .mv (.t 6), none, [], []⟩),
             (1, ⟨some 24, .mv (.t 4), none, [], []⟩),
             (2, ⟨some 25, .call 30 [(.t 23), (.t 24)], none, [], [23, 24]⟩),
             (3, ⟨some 26, .not (.t 25), none, [], [25]⟩)])
           (.cond (.t 26)
            (.seq
             (.kill [0, 4, 5, 6, 26])
             (.seq
              (.reg false [
                (0, ⟨some 2, .mv (.c (.bool false)), none, [], []⟩)])
              .ret))
            (.seq
             (.kill [26])
             .skip)))
          (.seq
           (.seq
            (.reg false [
              (0, ⟨some 27, .mv (.t 5), none, [], []⟩),
              (1, ⟨some 28, .mv (.t 0), none, [], []⟩),
              (2, ⟨some 29, .call 28 [(.t 28)], none, [], [28]⟩),
              (3, ⟨some 30, .call 30 [(.t 27), (.t 29)], none, [], [27, 29]⟩),
              (4, ⟨some 31, .not (.t 30), none, [], [30]⟩)])
            (.cond (.t 31)
             (.seq
              (.kill [0, 4, 5, 6, 31])
              (.seq
               (.reg false [
                 (0, ⟨some 2, .mv (.c (.bool false)), none, [], []⟩)])
               .ret))
             (.seq
              (.kill [31])
              .skip)))
           (.seq
            (.reg false [
              (0, ⟨some 7, .mv (.c (.int .i64 (1))), none, [], []⟩)])
            (.seq
             (.reg false [
               (0, ⟨some 32, .mv (.t 5), none, [], [5]⟩),
               (1, ⟨some 33, .mv (.t 7), none, [], [7]⟩),
               (2, ⟨some 34, .call 37 [(.t 32), (.t 33)], none, [], [32, 33]⟩),
               (3, ⟨some 7, .mv (.t 34), none, [], [34]⟩)])
             (.seq
              (.seq
               (.reg false [
                 (0, ⟨some 35, .mv (.t 7), none, [], [7]⟩),
                 (1, ⟨some 36, .bin .lss (.t 35) (.c (.int .i64 (0))), none, [], [35]⟩),
                 (2, ⟨some 37, .mv (.t 36), none, [], [36]⟩),
                 (3, ⟨some 38, .mv (.t 6), some (37, false), [], []⟩),
                 (4, ⟨some 39, .mv (.t 4), some (37, false), [], []⟩),
                 (5, ⟨some 40, .call 30 [(.t 38), (.t 39)], some (37, false), [], [38, 39]⟩),
                 (6, ⟨some 41, .not (.t 40), some (37, false), [], [40]⟩),
                 (7, ⟨some 42, .pick (.t 37) (.c (.bool true)) (.t 41), none, [], [37, 41]⟩)])
               (.cond (.t 42)
                (.seq
                 (.kill [0, 4, 6, 42])
                 (.seq
                  (.reg false [
                    (0, ⟨some 2, .mv (.c (.bool false)), none, [], []⟩)])
                  .ret))
                (.seq
                 (.kill [42])
                 .skip)))
              (.seq
               (.reg false [
                 (0, ⟨some 8, .mv (.c (.int .i64 (1))), none, [], []⟩)])
               (.seq
                (.reg false [
                  (0, ⟨some 43, .mv (.t 6), none, [], []⟩),
                  (1, ⟨some 44, .mv (.t 8), none, [], [8]⟩),
                  (2, ⟨some 45, .call 37 [(.t 43), (.t 44)], none, [], [43, 44]⟩),
                  (3, ⟨some 8, .mv (.t 45), none, [], [45]⟩)])
                (.seq
                 (.reg false [
                   (0, ⟨some 9, .mv (.c (.int .i64 (1))), none, [], []⟩)])
                 (.seq
                  (.reg false [
                    (0, ⟨some 46, .mv (.t 6), none, [], []⟩),
                    (1, ⟨some 47, .mv (.t 9), none, [], [9]⟩),
                    (2, ⟨some 48, .call 38 [(.t 46), (.t 47)], none, [], [46, 47]⟩),
                    (3, ⟨some 9, .mv (.t 48), none, [], [48]⟩)])
                  (.seq
                   (.seq
                    (.reg false [
                      (0, ⟨some 49, .mv (.t 9), none, [], []⟩),
                      (1, ⟨some 50, .bin .lss (.t 49) (.c (.int .i64 (0))), none, [], [49]⟩)])
                    (.cond (.t 50)
                     (.seq
                      (.kill [0, 4, 6, 8, 9, 50])
                      (.seq
                       (.reg false [
                         (0, ⟨some 2, .mv (.c (.bool false)), none, [], []⟩)])
                       .ret))
                     (.seq
                      (.kill [50])
                      .skip)))
                   (.seq
                    (.seq
                     (.reg false [
                       (0, ⟨some 51, .mv (.t 9), none, [], [9]⟩),
                       (1, ⟨some 52, .mv (.t 8), none, [], []⟩),
                       (2, ⟨some 53, .bin .neq (.t 51) (.t 52), none, [], [51, 52]⟩)])
                     (.cond (.t 53)
                      (.seq
                       (.kill [0, 4, 6, 8, 53])
                       (.seq
                        (.reg false [
                          (0, ⟨some 2, .mv (.c (.bool false)), none, [], []⟩)])
                        .ret))
                      (.seq
                       (.kill [53])
                       .skip)))
                    (.seq
                     (.reg false [
                       (0, ⟨some 54, .mv (.t 0), none, [], [0]⟩),
                       (1, ⟨some 55, .call 28 [(.t 54)], none, [], [54]⟩),
                       (2, ⟨some 56, .call 36 [(.t 55)], none, [], [55]⟩),
                       (3, ⟨some 10, .mv (.t 56), none, [], [56]⟩)])
                     (.seq
                      (.seq
                       (.reg false [
                         (0, ⟨some 57, .mv (.t 10), none, [], [10]⟩),
                         (1, ⟨some 58, .mv (.t 4), none, [], [4]⟩),
                         (2, ⟨some 59, .call 30 [(.t 57), (.t 58)], none, [], [57, 58]⟩),
                         (3, ⟨some 60, .not (.t 59), none, [], [59]⟩)])
                       (.cond (.t 60)
                        (.seq
                         (.kill [6, 8, 60])
                         (.seq
                          (.reg false [
                            (0, ⟨some 2, .mv (.c (.bool false)), none, [], []⟩)])
                          .ret))
                        (.seq
                         (.kill [60])
                         .skip)))
                      (.seq
                       (.reg false [
                         (0, ⟨some 9, .mv (.c (.int .i64 (1))), none, [], []⟩)])
                       (.seq
                        (.reg false [
                          (0, ⟨some 61, .mv (.t 6), none, [], [6]⟩),
                          (1, ⟨some 62, .mv (.t 9), none, [], [9]⟩),
                          (2, ⟨some 63, .call 38 [(.t 61), (.t 62)], none, [], [61, 62]⟩),
                          (3, ⟨some 9, .mv (.t 63), none, [], [63]⟩)])
                        (.seq
                         (.seq
                          (.reg false [
                            (0, ⟨some 64, .mv (.t 9), none, [], []⟩),
                            (1, ⟨some 65, .bin .lss (.t 64) (.c (.int .i64 (0))), none, [], [64]⟩)])
                          (.cond (.t 65)
                           (.seq
                            (.kill [8, 9, 65])
                            (.seq
                             (.reg false [
                               (0, ⟨some 2, .mv (.c (.bool false)), none, [], []⟩)])
                             .ret))
                           (.seq
                            (.kill [65])
                            .skip)))
                         (.seq
                          (.seq
                           (.reg false [
                             (0, ⟨some 66, .mv (.t 9), none, [], [9]⟩),
                             (1, ⟨some 67, .mv (.t 8), none, [], [8]⟩),
                             (2, ⟨some 68, .bin .neq (.t 66) (.t 67), none, [], [66, 67]⟩)])
                           (.cond (.t 68)
                            (.seq
                             (.kill [68])
                             (.seq
                              (.reg false [
                                (0, ⟨some 2, .mv (.c (.bool false)), none, [], []⟩)])
                              .ret))
                            (.seq
                             (.kill [68])
                             .skip)))
                          (.seq
                           (.reg false [
                             (0, ⟨some 2, .mv (.c (.bool true)), none, [], []⟩)])
                           .ret)))))))))))))))))))))))))
def C8 : CFn := ⟨69, 1, [.t 2], B8⟩

/-- laws.FnExactCountModels -/
def B9 : CCode :=
  (.seq
   (.reg false [
     (0, ⟨some 4, .mv (.c (.bool false)), none, [], [4]⟩)])
   (.seq
    (.reg false [
      (0, ⟨some 5, .mv (.c (.int .i64 (1048576))), none, [], []⟩)])
    (.seq
     (.reg false [
       (0, ⟨some 9, .mv (.t 1), none, [], []⟩),
       (1, ⟨some 10, .mv (.t 5), none, [], [5]⟩),
       (2, ⟨some 11, .call 26 [(.t 9), (.t 10)], none, [], [9, 10]⟩),
       (3, ⟨some 5, .mv (.t 11), none, [], [11]⟩)])
     (.seq
      (.seq
       (.reg false [
         (0, ⟨some 12, .mv (.t 5), none, [], [5]⟩),
         (1, ⟨some 13, .bin .lss (.t 12) (.c (.int .i64 (0))), none, [], [12]⟩)])
       (.cond (.t 13)
        (.seq
         (.kill [0, 1, 13])
         (.seq
          (.reg false [
            (0, ⟨some 4, .mv (.c (.bool true)), none, [], []⟩)])
          .ret))
        (.seq
         (.kill [13])
         .skip)))
      (.seq
       (.reg false [
         (0, ⟨some 14, .mv (.t 0), none, [], []⟩),
         (1, ⟨some 15, .mv (.t 1), none, [], []⟩),
         (2, ⟨some 16, .call 28 [(.t 15)], none, [], [15]⟩),
         (3, ⟨some 17, .call 39 [(.t 14), (.t 16)], none, [], [14, 16]⟩),
         (4, ⟨some 6, .mv (.t 17), none, [], [17]⟩)])
       (.seq
        (.reg false [
          (0, ⟨some 18, .mv (.t 1), none, [], []⟩),
          (1, ⟨some 19, .call 28 [(.t 18)], none, [], [18]⟩),
          (2, ⟨some 7, .mv (.t 19), none, [], [19]⟩)])
        (.seq
         (.reg false [
           (0, ⟨some 20, .mv (.t 0), none, [], [0]⟩),
           (1, ⟨some 21, .mv (.t 7), none, [], []⟩),
           (2, ⟨some 22, .call 40 [(.t 20), (.t 21)], none, [], [20, 21]⟩),
           (3, ⟨some 8, .mv (.t 22), none, [], [22]⟩)])
         (.seq
          (.seq
           (.reg false [
             (0, ⟨some 23, .mv (.t 8), none, [], [8]⟩),
             (1, ⟨some 24, .mv (.t 6), none, [], [6]⟩),
             (2, ⟨some 25, .bin .neq (.t 23) (.t 24), none, [], [23, 24]⟩)])
           (.cond (.t 25)
            (.seq
             (.kill [1, 7, 25])
             (.seq
              (.reg false [
                (0, ⟨some 4, .mv (.c (.bool false)), none, [], []⟩)])
              .ret))
            (.seq
             (.kill [25])
             .skip)))
          (.seq
           (.seq
            (.reg false [
              (0, ⟨some 26, .mv (.t 7), none, [], [7]⟩),
              (1, ⟨some 27, .mv (.t 1), none, [], [1]⟩),
              (2, ⟨some 28, .call 28 [(.t 27)], none, [], [27]⟩),
              (3, ⟨some 29, .call 30 [(.t 26), (.t 28)], none, [], [26, 28]⟩),
              (4, ⟨some 30, .not (.t 29), none, [], [29]⟩)])
            (.cond (.t 30)
             (.seq
              (.kill [30])
              (.seq
               (.reg false [
                 (0, ⟨some 4, .mv (.c (.bool false)), none, [], []⟩)])
               .ret))
             (.seq
              (.kill [30])
              .skip)))
           (.seq
            (.reg false [
              (0, ⟨some 4, .mv (.c (.bool true)), none, [], []⟩)])
            .ret))))))))))
def C9 : CFn := ⟨31, 2, [.t 4], B9⟩

/-- laws.FnExactIsRUPClause -/
def B10 : CCode :=
  (.seq
   (.reg false [
     (0, ⟨some 6, .mv (.c (.bool false)), none, [], [6]⟩)])
   (.seq
    (.seq
     (.reg false [
       (0, ⟨some 12, .mv (.t 2), none, [], []⟩),
       (1, ⟨some 13, .len (.t 12), none, [], [12]⟩),
       (2, ⟨some 14, .bin .gtr (.t 13) (.c (.int .i64 (1048576))), none, [], [13]⟩)])
     (.cond (.t 14)
      (.seq
       (.kill [0, 1, 2, 14])
       (.seq
        (.reg false [
          (0, ⟨some 6, .mv (.c (.bool true)), none, [], []⟩)])
        .ret))
      (.seq
       (.kill [14])
       .skip)))
    (.seq
     (.reg false [
       (0, ⟨some 7, .mv (.c (.int .i64 (1048576))), none, [], []⟩)])
     (.seq
      (.reg false [
        (0, ⟨some 15, .mv (.t 1), none, [], []⟩),
        (1, ⟨some 16, .mv (.t 7), none, [], [7]⟩),
        (2, ⟨some 17, .call 26 [(.t 15), (.t 16)], none, [], [15, 16]⟩),
        (3, ⟨some 7, .mv (.t 17), none, [], [17]⟩)])
      (.seq
       (.seq
        (.reg false [
          (0, ⟨some 18, .mv (.t 7), none, [], [7]⟩),
          (1, ⟨some 19, .bin .lss (.t 18) (.c (.int .i64 (0))), none, [], [18]⟩)])
        (.cond (.t 19)
         (.seq
          (.kill [0, 1, 2, 19])
          (.seq
           (.reg false [
             (0, ⟨some 6, .mv (.c (.bool true)), none, [], []⟩)])
           .ret))
         (.seq
          (.kill [19])
          .skip)))
       (.seq
        (.reg false [
          (0, ⟨some 20, .mv (.t 0), none, [], []⟩),
          (1, ⟨some 21, .mv (.t 1), none, [], []⟩),
          (2, ⟨some 22, .call 28 [(.t 21)], none, [], [21]⟩),
          (3, ⟨some 23, .mv (.t 2), none, [], []⟩),
          (4, ⟨some 24, .call 16 [(.t 23)], none, [], [23]⟩),
          (5, ⟨some 25, .call 41 [(.t 20), (.t 22), (.t 24)], none, [], [20, 22, 24]⟩),
          (6, ⟨some 8, .mv (.t 25), none, [], [25]⟩)])
        (.seq
         (.reg false [
           (0, ⟨some 26, .mv (.t 1), none, [], []⟩),
           (1, ⟨some 27, .call 28 [(.t 26)], none, [], [26]⟩),
           (2, ⟨some 9, .mv (.t 27), none, [], [27]⟩)])
         (.seq
          (.reg false [
            (0, ⟨some 28, .mv (.t 2), none, [], []⟩),
            (1, ⟨some 29, .call 16 [(.t 28)], none, [], [28]⟩),
            (2, ⟨some 10, .mv (.t 29), none, [], [29]⟩)])
          (.seq
           (.reg false [
             (0, ⟨some 30, .mv (.t 0), none, [], [0]⟩),
             (1, ⟨some 31, .mv (.t 9), none, [], []⟩),
             (2, ⟨some 32, .mv (.t 10), none, [], []⟩),
             (3, ⟨some 33, .call 42 [(.t 30), (.t 31), (.t 32)], none, [], [30, 31, 32]⟩),
             (4, ⟨some 11, .mv (.t 33), none, [], [33]⟩)])
           (.seq
            (.seq
             (.reg false [
               (0, ⟨some 34, .mv (.t 11), none, [], [11]⟩),
               (1, ⟨some 35, .mv (.t 8), none, [], [8]⟩),
               (2, ⟨some 36, .beq true (.t 34) (.t 35), none, [], [34, 35]⟩)])
             (.cond (.t 36)
              (.seq
               (.kill [1, 2, 9, 10, 36])
               (.seq
                (.reg false [
                  (0, ⟨some 6, .mv (.c (.bool false)), none, [], []⟩)])
                .ret))
              (.seq
               (.kill [36])
               .skip)))
            (.seq
             (.seq
              (.reg false [
                (0, ⟨some 37, .mv (.t 9), none, [], [9]⟩),
                (1, ⟨some 38, .mv (.t 1), none, [], [1]⟩),
                (2, ⟨some 39, .call 28 [(.t 38)], none, [], [38]⟩),
                (3, ⟨some 40, .call 30 [(.t 37), (.t 39)], none, [], [37, 39]⟩),
                (4, ⟨some 41, .not (.t 40), none, [], [40]⟩)])
              (.cond (.t 41)
               (.seq
                (.kill [2, 10, 41])
                (.seq
                 (.reg false [
                   (0, ⟨some 6, .mv (.c (.bool false)), none, [], []⟩)])
                 .ret))
               (.seq
                (.kill [41])
                .skip)))
             (.seq
              (.seq
               (.reg false [
                 (0, ⟨some 42, .mv (.t 10), none, [], [10]⟩),
                 (1, ⟨some 43, .mv (.t 2), none, [], [2]⟩),
                 (2, ⟨some 44, .call 16 [(.t 43)], none, [], [43]⟩),
                 (3, ⟨some 45, .call 18 [(.t 42), (.t 44)], none, [], [42, 44]⟩),
                 (4, ⟨some 46, .not (.t 45), none, [], [45]⟩)])
               (.cond (.t 46)
                (.seq
                 (.kill [46])
                 (.seq
                  (.reg false [
                    (0, ⟨some 6, .mv (.c (.bool false)), none, [], []⟩)])
                  .ret))
                (.seq
                 (.kill [46])
                 .skip)))
              (.seq
               (.reg false [
                 (0, ⟨some 6, .mv (.c (.bool true)), none, [], []⟩)])
               .ret)))))))))))))
def C10 : CFn := ⟨47, 3, [.t 6], B10⟩

/-- laws.FnExactUnitPropagation -/
def B11 : CCode :=
  (.seq
   (.reg false [
     (0, ⟨some 6, .mv (.c (.bool false)), none, [], [6]⟩)])
   (.seq
    (.seq
     (.reg false [
       (0, ⟨some 19, .mv (.t 2), none, [], []⟩),
       (1, ⟨some 20, .len (.t 19), none, [], [19]⟩),
       (2, ⟨some 21, .bin .gtr (.t 20) (.c (.int .i64 (1048576))), none, [], [20]⟩)])
     (.cond (.t 21)
      (.seq
       (.kill [0, 1, 2, 21])
       (.seq
        (.reg false [
          (0, ⟨some 6, .mv (.c (.bool true)), none, [], []⟩)])
        .ret))
      (.seq
       (.kill [21])
       .skip)))
    (.seq
     (.reg false [
       (0, ⟨some 7, .mv (.c (.int .i64 (1048576))), none, [], []⟩)])
     (.seq
      (.reg false [
        (0, ⟨some 22, .mv (.t 1), none, [], []⟩),
        (1, ⟨some 23, .mv (.t 7), none, [], [7]⟩),
        (2, ⟨some 24, .call 26 [(.t 22), (.t 23)], none, [], [22, 23]⟩),
        (3, ⟨some 7, .mv (.t 24), none, [], [24]⟩)])
      (.seq
       (.seq
        (.reg false [
          (0, ⟨some 25, .mv (.t 7), none, [], [7]⟩),
          (1, ⟨some 26, .bin .lss (.t 25) (.c (.int .i64 (0))), none, [], [25]⟩)])
        (.cond (.t 26)
         (.seq
          (.kill [0, 1, 2, 26])
          (.seq
           (.reg false [
             (0, ⟨some 6, .mv (.c (.bool true)), none, [], []⟩)])
           .ret))
         (.seq
          (.kill [26])
          .skip)))
       (.seq
        (.reg false [
          (0, ⟨some 28, .mv (.t 0), none, [], []⟩),
          (1, ⟨some 29, .mv (.t 1), none, [], []⟩),
          (2, ⟨some 30, .call 28 [(.t 29)], none, [], [29]⟩),
          (3, ⟨some 31, .mv (.t 2), none, [], []⟩),
          (4, ⟨some 32, .call 16 [(.t 31)], none, [], [31]⟩),
          (5, ⟨some 33, .call 43 [(.t 28), (.t 30), (.t 32)], none, [], [28, 30, 32]⟩),
          (6, ⟨some 27, .mv (.t 33), none, [], [33]⟩),
          (7, ⟨some 34, .ex (.t 27) 0, none, [], []⟩),
          (8, ⟨some 35, .ex (.t 27) 1, none, [], [27]⟩),
          (9, ⟨some 8, .mv (.t 34), none, [], [34]⟩),
          (10, ⟨some 9, .mv (.t 35), none, [], [35]⟩)])
        (.seq
         (.reg false [
           (0, ⟨some 36, .mv (.t 1), none, [], []⟩),
           (1, ⟨some 37, .call 28 [(.t 36)], none, [], [36]⟩),
           (2, ⟨some 10, .mv (.t 37), none, [], [37]⟩)])
         (.seq
          (.reg false [
            (0, ⟨some 38, .mv (.t 2), none, [], []⟩),
            (1, ⟨some 39, .call 16 [(.t 38)], none, [], [38]⟩),
            (2, ⟨some 11, .mv (.t 39), none, [], [39]⟩)])
          (.seq
           (.reg false [
             (0, ⟨some 41, .mv (.t 0), none, [], []⟩),
             (1, ⟨some 42, .mv (.t 10), none, [], []⟩),
             (2, ⟨some 43, .mv (.t 11), none, [], []⟩),
             (3, ⟨some 44, .call 44 [(.t 41), (.t 42), (.t 43)], none, [], [41, 42, 43]⟩),
             (4, ⟨some 40, .mv (.t 44), none, [], [44]⟩),
             (5, ⟨some 45, .ex (.t 40) 0, none, [], []⟩),
             (6, ⟨some 46, .ex (.t 40) 1, none, [], [40]⟩),
             (7, ⟨some 12, .mv (.t 45), none, [], [45]⟩),
             (8, ⟨some 13, .mv (.t 46), none, [], [46]⟩)])
           (.seq
            (.seq
             (.reg false [
               (0, ⟨some 47, .mv (.t 12), none, [], []⟩),
               (1, ⟨some 48, .mv (.t 8), none, [], []⟩),
               (2, ⟨some 49, .call 18 [(.t 47), (.t 48)], none, [], [47, 48]⟩),
               (3, ⟨some 50, .not (.t 49), none, [], [49]⟩),
               (4, ⟨some 51, .mv (.t 50), none, [], [50]⟩),
               (5, ⟨some 52, .mv (.t 13), some (51, false), [], []⟩),
               (6, ⟨some 53, .mv (.t 9), some (51, false), [], []⟩),
               (7, ⟨some 54, .beq true (.t 52) (.t 53), some (51, false), [], [52, 53]⟩),
               (8, ⟨some 55, .pick (.t 51) (.c (.bool true)) (.t 54), none, [], [51, 54]⟩)])
             (.cond (.t 55)
              (.seq
               (.kill [0, 1, 2, 8, 9, 10, 11, 12, 13, 55])
               (.seq
                (.reg false [
                  (0, ⟨some 6, .mv (.c (.bool false)), none, [], []⟩)])
                .ret))
              (.seq
               (.kill [55])
               .skip)))
            (.seq
             (.seq
              (.reg false [
                (0, ⟨some 56, .mv (.t 10), none, [], []⟩),
                (1, ⟨some 57, .mv (.t 1), none, [], []⟩),
                (2, ⟨some 58, .call 28 [(.t 57)], none, [], [57]⟩),
                (3, ⟨some 59, .call 30 [(.t 56), (.t 58)], none, [], [56, 58]⟩),
                (4, ⟨some 60, .not (.t 59), none, [], [59]⟩)])
              (.cond (.t 60)
               (.seq
                (.kill [0, 1, 2, 8, 9, 10, 11, 12, 13, 60])
                (.seq
                 (.reg false [
                   (0, ⟨some 6, .mv (.c (.bool false)), none, [], []⟩)])
                 .ret))
               (.seq
                (.kill [60])
                .skip)))
             (.seq
              (.seq
               (.reg false [
                 (0, ⟨some 61, .mv (.t 11), none, [], []⟩),
                 (1, ⟨some 62, .mv (.t 2), none, [], []⟩),
                 (2, ⟨some 63, .call 16 [(.t 62)], none, [], [62]⟩),
                 (3, ⟨some 64, .call 18 [(.t 61), (.t 63)], none, [], [61, 63]⟩),
                 (4, ⟨some 65, .not (.t 64), none, [], [64]⟩)])
               (.cond (.t 65)
                (.seq
                 (.kill [0, 1, 2, 8, 9, 10, 11, 12, 13, 65])
                 (.seq
                  (.reg false [
                    (0, ⟨some 6, .mv (.c (.bool false)), none, [], []⟩)])
                  .ret))
                (.seq
                 (.kill [65])
                 .skip)))
              (.seq
               (.reg false [
                 (0, ⟨some 14, .mv (.c (.int .i64 (1))), none, [], []⟩)])
               (.seq
                (.reg false [
                  (0, ⟨some 66, .mv (.t 10), none, [], [10]⟩),
                  (1, ⟨some 67, .mv (.t 14), none, [], [14]⟩),
                  (2, ⟨some 68, .call 37 [(.t 66), (.t 67)], none, [], [66, 67]⟩),
                  (3, ⟨some 14, .mv (.t 68), none, [], [68]⟩)])
                (.seq
                 (.reg false [
                   (0, ⟨some 69, .mv (.t 11), none, [], [11]⟩),
                   (1, ⟨some 70, .mv (.t 14), none, [], [14]⟩),
                   (2, ⟨some 71, .call 19 [(.t 69), (.t 70)], none, [], [69, 70]⟩),
                   (3, ⟨some 14, .mv (.t 71), none, [], [71]⟩)])
                 (.seq
                  (.seq
                   (.reg false [
                     (0, ⟨some 72, .mv (.t 14), none, [], [14]⟩),
                     (1, ⟨some 73, .bin .lss (.t 72) (.c (.int .i64 (0))), none, [], [72]⟩),
                     (2, ⟨some 74, .mv (.t 73), none, [], [73]⟩),
                     (3, ⟨some 75, .mv (.t 12), some (74, false), [], []⟩),
                     (4, ⟨some 76, .mv (.t 8), some (74, false), [], []⟩),
                     (5, ⟨some 77, .call 18 [(.t 75), (.t 76)], some (74, false), [], [75, 76]⟩),
                     (6, ⟨some 78, .not (.t 77), some (74, false), [], [77]⟩),
                     (7, ⟨some 79, .pick (.t 74) (.c (.bool true)) (.t 78), none, [], [74, 78]⟩),
                     (8, ⟨some 80, .mv (.t 79), none, [], [79]⟩),
                     (9, ⟨some 81, .mv (.t 13), some (80, false), [], [13]⟩),
                     (10, ⟨some 82, .mv (.t 9), some (80, false), [], []⟩),
                     (11, ⟨some 83, .beq true (.t 81) (.t 82), some (80, false), [], [81, 82]⟩),
                     (12, ⟨some 84, .pick (.t 80) (.c (.bool true)) (.t 83), none, [], [80, 83]⟩)])
                   (.cond (.t 84)
                    (.seq
                     (.kill [0, 1, 2, 8, 9, 12, 84])
                     (.seq
                      (.reg false [
                        (0, ⟨some 6, .mv (.c (.bool false)), none, [], []⟩)])
                      .ret))
                    (.seq
                     (.kill [84])
                     .skip)))
                  (.seq
                   (.reg false [
                     (0, ⟨some 15, .mv (.c (.int .i64 (1))), none, [], []⟩)])
                   (.seq
                    (.reg false [
                      (0, ⟨some 85, .mv (.t 12), none, [], []⟩),
                      (1, ⟨some 86, .mv (.t 15), none, [], [15]⟩),
                      (2, ⟨some 87, .call 19 [(.t 85), (.t 86)], none, [], [85, 86]⟩),
                      (3, ⟨some 15, .mv (.t 87), none, [], [87]⟩)])
                    (.seq
                     (.reg false [
                       (0, ⟨some 16, .mv (.c (.int .i64 (1))), none, [], []⟩)])
                     (.seq
                      (.reg false [
                        (0, ⟨some 88, .mv (.t 12), none, [], []⟩),
                        (1, ⟨some 89, .mv (.t 16), none, [], [16]⟩),
                        (2, ⟨some 90, .call 20 [(.t 88), (.t 89)], none, [], [88, 89]⟩),
                        (3, ⟨some 16, .mv (.t 90), none, [], [90]⟩)])
                      (.seq
                       (.seq
                        (.reg false [
                          (0, ⟨some 91, .mv (.t 16), none, [], []⟩),
                          (1, ⟨some 92, .bin .lss (.t 91) (.c (.int .i64 (0))), none, [], [91]⟩)])
                        (.cond (.t 92)
                         (.seq
                          (.kill [0, 1, 2, 8, 9, 12, 15, 16, 92])
                          (.seq
                           (.reg false [
                             (0, ⟨some 6, .mv (.c (.bool false)), none, [], []⟩)])
                           .ret))
                         (.seq
                          (.kill [92])
                          .skip)))
                       (.seq
                        (.seq
                         (.reg false [
                           (0, ⟨some 93, .mv (.t 16), none, [], [16]⟩),
                           (1, ⟨some 94, .mv (.t 15), none, [], []⟩),
                           (2, ⟨some 95, .bin .neq (.t 93) (.t 94), none, [], [93, 94]⟩)])
                         (.cond (.t 95)
                          (.seq
                           (.kill [0, 1, 2, 8, 9, 12, 15, 95])
                           (.seq
                            (.reg false [
                              (0, ⟨some 6, .mv (.c (.bool false)), none, [], []⟩)])
                            .ret))
                          (.seq
                           (.kill [95])
                           .skip)))
                        (.seq
                         (.reg false [
                           (0, ⟨some 97, .mv (.t 0), none, [], [0]⟩),
                           (1, ⟨some 98, .mv (.t 1), none, [], [1]⟩),
                           (2, ⟨some 99, .call 28 [(.t 98)], none, [], [98]⟩),
                           (3, ⟨some 100, .mv (.t 2), none, [], [2]⟩),
                           (4, ⟨some 101, .call 16 [(.t 100)], none, [], [100]⟩),
                           (5, ⟨some 102, .call 44 [(.t 97), (.t 99), (.t 101)], none, [], [97, 99, 101]⟩),
                           (6, ⟨some 96, .mv (.t 102), none, [], [102]⟩),
                           (7, ⟨some 103, .ex (.t 96) 0, none, [], []⟩),
                           (8, ⟨some 104, .ex (.t 96) 1, none, [], [96]⟩),
                           (9, ⟨some 17, .mv (.t 103), none, [], [103]⟩),
                           (10, ⟨some 18, .mv (.t 104), none, [], [104]⟩)])
                         (.seq
                          (.seq
                           (.reg false [
                             (0, ⟨some 105, .mv (.t 17), none, [], [17]⟩),
                             (1, ⟨some 106, .mv (.t 8), none, [], [8]⟩),
                             (2, ⟨some 107, .call 18 [(.t 105), (.t 106)], none, [], [105, 106]⟩),
                             (3, ⟨some 108, .not (.t 107), none, [], [107]⟩),
                             (4, ⟨some 109, .mv (.t 108), none, [], [108]⟩),
                             (5, ⟨some 110, .mv (.t 18), some (109, false), [], [18]⟩),
                             (6, ⟨some 111, .mv (.t 9), some (109, false), [], [9]⟩),
                             (7, ⟨some 112, .beq true (.t 110) (.t 111), some (109, false), [], [110, 111]⟩),
                             (8, ⟨some 113, .pick (.t 109) (.c (.bool true)) (.t 112), none, [], [109, 112]⟩)])
                           (.cond (.t 113)
                            (.seq
                             (.kill [12, 15, 113])
                             (.seq
                              (.reg false [
                                (0, ⟨some 6, .mv (.c (.bool false)), none, [], []⟩)])
                              .ret))
                            (.seq
                             (.kill [113])
                             .skip)))
                          (.seq
                           (.reg false [
                             (0, ⟨some 16, .mv (.c (.int .i64 (1))), none, [], []⟩)])
                           (.seq
                            (.reg false [
                              (0, ⟨some 114, .mv (.t 12), none, [], [12]⟩),
                              (1, ⟨some 115, .mv (.t 16), none, [], [16]⟩),
                              (2, ⟨some 116, .call 20 [(.t 114), (.t 115)], none, [], [114, 115]⟩),
                              (3, ⟨some 16, .mv (.t 116), none, [], [116]⟩)])
                            (.seq
                             (.seq
                              (.reg false [
                                (0, ⟨some 117, .mv (.t 16), none, [], []⟩),
                                (1, ⟨some 118, .bin .lss (.t 117) (.c (.int .i64 (0))), none, [], [117]⟩)])
                              (.cond (.t 118)
                               (.seq
                                (.kill [15, 16, 118])
                                (.seq
                                 (.reg false [
                                   (0, ⟨some 6, .mv (.c (.bool false)), none, [], []⟩)])
                                 .ret))
                               (.seq
                                (.kill [118])
                                .skip)))
                             (.seq
                              (.seq
                               (.reg false [
                                 (0, ⟨some 119, .mv (.t 16), none, [], [16]⟩),
                                 (1, ⟨some 120, .mv (.t 15), none, [], [15]⟩),
                                 (2, ⟨some 121, .bin .neq (.t 119) (.t 120), none, [], [119, 120]⟩)])
                               (.cond (.t 121)
                                (.seq
                                 (.kill [121])
                                 (.seq
                                  (.reg false [
                                    (0, ⟨some 6, .mv (.c (.bool false)), none, [], []⟩)])
                                  .ret))
                                (.seq
                                 (.kill [121])
                                 .skip)))
                              (.seq
                               (.reg false [
                                 (0, ⟨some 6, .mv (.c (.bool true)), none, [], []⟩)])
                               .ret)))))))))))))))))))))))))))))
def C11 : CFn := ⟨122, 3, [.t 6], B11⟩

/-- laws.FnExactIsValidProof -/
def B12 : CCode :=
  (.seq
   (.reg false [
     (0, ⟨some 6, .mv (.c (.bool false)), none, [], [6]⟩)])
   (.seq
    (.reg false [
      (0, ⟨some 7, .mv (.c (.int .i64 (1048576))), none, [], []⟩)])
    (.seq
     (.reg false [
       (0, ⟨some 12, .mv (.t 1), none, [], []⟩),
       (1, ⟨some 13, .mv (.t 7), none, [], [7]⟩),
       (2, ⟨some 14, .call 26 [(.t 12), (.t 13)], none, [], [12, 13]⟩),
       (3, ⟨some 7, .mv (.t 14), none, [], [14]⟩)])
     (.seq
      (.seq
       (.reg false [
         (0, ⟨some 15, .mv (.t 7), none, [], []⟩),
         (1, ⟨some 16, .bin .lss (.t 15) (.c (.int .i64 (0))), none, [], [15]⟩)])
       (.cond (.t 16)
        (.seq
         (.kill [0, 1, 2, 7, 16])
         (.seq
          (.reg false [
            (0, ⟨some 6, .mv (.c (.bool true)), none, [], []⟩)])
          .ret))
        (.seq
         (.kill [16])
         .skip)))
      (.seq
       (.reg false [
         (0, ⟨some 17, .mv (.t 2), none, [], []⟩),
         (1, ⟨some 18, .mv (.t 7), none, [], [7]⟩),
         (2, ⟨some 19, .call 26 [(.t 17), (.t 18)], none, [], [17, 18]⟩),
         (3, ⟨some 7, .mv (.t 19), none, [], [19]⟩)])
       (.seq
        (.seq
         (.reg false [
           (0, ⟨some 20, .mv (.t 7), none, [], [7]⟩),
           (1, ⟨some 21, .bin .lss (.t 20) (.c (.int .i64 (0))), none, [], [20]⟩)])
         (.cond (.t 21)
          (.seq
           (.kill [0, 1, 2, 21])
           (.seq
            (.reg false [
              (0, ⟨some 6, .mv (.c (.bool true)), none, [], []⟩)])
            .ret))
          (.seq
           (.kill [21])
           .skip)))
        (.seq
         (.reg false [
           (0, ⟨some 22, .mv (.t 0), none, [], []⟩),
           (1, ⟨some 23, .mv (.t 1), none, [], []⟩),
           (2, ⟨some 24, .call 28 [(.t 23)], none, [], [23]⟩),
           (3, ⟨some 25, .mv (.t 2), none, [], []⟩),
           (4, ⟨some 26, .call 28 [(.t 25)], none, [], [25]⟩),
           (5, ⟨some 27, .call 45 [(.t 22), (.t 24), (.t 26)], none, [], [22, 24, 26]⟩),
           (6, ⟨some 8, .mv (.t 27), none, [], [27]⟩)])
         (.seq
          (.reg false [
            (0, ⟨some 28, .mv (.t 1), none, [], []⟩),
            (1, ⟨some 29, .call 28 [(.t 28)], none, [], [28]⟩),
            (2, ⟨some 9, .mv (.t 29), none, [], [29]⟩)])
          (.seq
           (.reg false [
             (0, ⟨some 30, .mv (.t 2), none, [], []⟩),
             (1, ⟨some 31, .call 28 [(.t 30)], none, [], [30]⟩),
             (2, ⟨some 10, .mv (.t 31), none, [], [31]⟩)])
           (.seq
            (.reg false [
              (0, ⟨some 32, .mv (.t 0), none, [], [0]⟩),
              (1, ⟨some 33, .mv (.t 9), none, [], []⟩),
              (2, ⟨some 34, .mv (.t 10), none, [], []⟩),
              (3, ⟨some 35, .call 46 [(.t 32), (.t 33), (.t 34)], none, [], [32, 33, 34]⟩),
              (4, ⟨some 11, .mv (.t 35), none, [], [35]⟩)])
            (.seq
             (.seq
              (.reg false [
                (0, ⟨some 36, .mv (.t 11), none, [], [11]⟩),
                (1, ⟨some 37, .mv (.t 8), none, [], [8]⟩),
                (2, ⟨some 38, .beq true (.t 36) (.t 37), none, [], [36, 37]⟩)])
              (.cond (.t 38)
               (.seq
                (.kill [1, 2, 9, 10, 38])
                (.seq
                 (.reg false [
                   (0, ⟨some 6, .mv (.c (.bool false)), none, [], []⟩)])
                 .ret))
               (.seq
                (.kill [38])
                .skip)))
             (.seq
              (.seq
               (.reg false [
                 (0, ⟨some 39, .mv (.t 9), none, [], [9]⟩),
                 (1, ⟨some 40, .mv (.t 1), none, [], [1]⟩),
                 (2, ⟨some 41, .call 28 [(.t 40)], none, [], [40]⟩),
                 (3, ⟨some 42, .call 30 [(.t 39), (.t 41)], none, [], [39, 41]⟩),
                 (4, ⟨some 43, .not (.t 42), none, [], [42]⟩)])
               (.cond (.t 43)
                (.seq
                 (.kill [2, 10, 43])
                 (.seq
                  (.reg false [
                    (0, ⟨some 6, .mv (.c (.bool false)), none, [], []⟩)])
                  .ret))
                (.seq
                 (.kill [43])
                 .skip)))
              (.seq
               (.seq
                (.reg false [
                  (0, ⟨some 44, .mv (.t 10), none, [], [10]⟩),
                  (1, ⟨some 45, .mv (.t 2), none, [], [2]⟩),
                  (2, ⟨some 46, .call 28 [(.t 45)], none, [], [45]⟩),
                  (3, ⟨some 47, .call 30 [(.t 44), (.t 46)], none, [], [44, 46]⟩),
                  (4, ⟨some 48, .not (.t 47), none, [], [47]⟩)])
                (.cond (.t 48)
                 (.seq
                  (.kill [48])
                  (.seq
                   (.reg false [
                     (0, ⟨some 6, .mv (.c (.bool false)), none, [], []⟩)])
                   .ret))
                 (.seq
                  (.kill [48])
                  .skip)))
               (.seq
                (.reg false [
                  (0, ⟨some 6, .mv (.c (.bool true)), none, [], []⟩)])
                .ret))))))))))))))
def C12 : CFn := ⟨49, 3, [.t 6], B12⟩

/-- laws.FnUnitPropagation -/
def L13_1 : CCode :=
  (.seq
   (.seq
    (.reg false [
      (0, ⟨some 81, .mv (.t 13), none, [], []⟩),
      (1, ⟨some 82, .mv (.t 3), none, [], []⟩),
      (2, ⟨some 83, .bin .lss (.t 81) (.t 82), none, [], [81, 82]⟩)])
    (.cond (.t 83)
     (.seq
      (.kill [83])
      .skip)
     (.seq
      (.kill [13, 83])
      (.exit 2))))
   (.seq
    (.block 3
     (.reg false [
       (0, ⟨some 86, .mv (.t 12), none, [], []⟩),
       (1, ⟨some 87, .mv (.t 13), none, [], []⟩),
       (2, ⟨some 88, .mv (.t 11), none, [], []⟩),
       (3, ⟨some 89, .mv (.t 13), none, [], []⟩),
       (4, ⟨some 90, .bin .shr (.t 88) (.t 89), none, [], [88, 89]⟩),
       (5, ⟨some 91, .bin .and (.t 90) (.c (.int .i64 (1))), none, [], [90]⟩),
       (6, ⟨some 92, .bin .eql (.t 91) (.c (.int .i64 (1))), none, [], [91]⟩),
       (7, ⟨some 93, .ia 1 (.t 86) (.t 87), none, [], [86, 87]⟩),
       (8, ⟨none, .st 1 (.t 93) (.t 92), none, [], [92, 93]⟩)]))
    (.reg false [
      (0, ⟨some 84, .mv (.t 13), none, [], [13]⟩),
      (1, ⟨some 85, .bin .add (.t 84) (.c (.int .i64 (1))), none, [], [84]⟩),
      (2, ⟨some 13, .mv (.t 85), none, [], [85]⟩)])))
def L13_2 : CCode :=
  (.seq
   (.seq
    (.reg false [
      (0, ⟨some 96, .mv (.t 16), none, [], []⟩),
      (1, ⟨some 97, .mv (.t 5), none, [], []⟩),
      (2, ⟨some 98, .len (.t 97), none, [], [97]⟩),
      (3, ⟨some 99, .bin .lss (.t 96) (.t 98), none, [], [96, 98]⟩)])
    (.cond (.t 99)
     (.seq
      (.kill [99])
      .skip)
     (.seq
      (.kill [16, 99])
      (.exit 4))))
   (.seq
    (.block 5
     (.reg false [
       (0, ⟨some 102, .mv (.t 14), none, [], [14]⟩),
       (1, ⟨some 103, .mv (.t 5), none, [], []⟩),
       (2, ⟨some 104, .mv (.t 16), none, [], []⟩),
       (3, ⟨some 105, .ia 1 (.t 103) (.t 104), none, [], [103, 104]⟩),
       (4, ⟨some 106, .ld 1 false (.t 105), none, [], [105]⟩),
       (5, ⟨some 107, .bsl 1 1 [.int .i64 (0)] [(0, 1, (.t 106))], none, [], [106]⟩),
       (6, ⟨some 108, .bsl 1 1 [.nils] [(0, 1, (.t 107))], none, [], [107]⟩),
       (7, ⟨some 109, .app 1 24 (.t 102) (.t 108), none, [], [102, 108]⟩),
       (8, ⟨some 14, .mv (.t 109), none, [], [109]⟩)]))
    (.reg false [
      (0, ⟨some 100, .mv (.t 16), none, [], [16]⟩),
      (1, ⟨some 101, .bin .add (.t 100) (.c (.int .i64 (1))), none, [], [100]⟩),
      (2, ⟨some 16, .mv (.t 101), none, [], [101]⟩)])))
def L13_3 : CCode :=
  (.seq
   (.seq
    (.reg false [
      (0, ⟨some 110, .mv (.t 17), none, [], []⟩),
      (1, ⟨some 111, .mv (.t 6), none, [], []⟩),
      (2, ⟨some 112, .len (.t 111), none, [], [111]⟩),
      (3, ⟨some 113, .bin .lss (.t 110) (.t 112), none, [], [110, 112]⟩)])
    (.cond (.t 113)
     (.seq
      (.kill [113])
      .skip)
     (.seq
      (.kill [17, 113])
      (.exit 6))))
   (.seq
    (.block 7
     (.reg false [
       (0, ⟨some 116, .mv (.t 15), none, [], [15]⟩),
       (1, ⟨some 117, .mv (.t 6), none, [], []⟩),
       (2, ⟨some 118, .mv (.t 17), none, [], []⟩),
       (3, ⟨some 119, .ia 1 (.t 117) (.t 118), none, [], [117, 118]⟩),
       (4, ⟨some 120, .ld 1 false (.t 119), none, [], [119]⟩),
       (5, ⟨some 121, .bsl 1 1 [.int .i64 (0)] [(0, 1, (.t 120))], none, [], [120]⟩),
       (6, ⟨some 122, .bsl 1 1 [.nils] [(0, 1, (.t 121))], none, [], [121]⟩),
       (7, ⟨some 123, .app 1 24 (.t 116) (.t 122), none, [], [116, 122]⟩),
       (8, ⟨some 15, .mv (.t 123), none, [], [123]⟩)]))
    (.reg false [
      (0, ⟨some 114, .mv (.t 17), none, [], [17]⟩),
      (1, ⟨some 115, .bin .add (.t 114) (.c (.int .i64 (1))), none, [], [114]⟩),
      (2, ⟨some 17, .mv (.t 115), none, [], [115]⟩)])))
def L13_0 : CCode :=
  (.seq
   (.seq
    (.reg false [
      (0, ⟨some 73, .mv (.t 11), none, [], []⟩),
      (1, ⟨some 74, .mv (.t 3), none, [], []⟩),
      (2, ⟨some 75, .bin .shl (.c (.int .i64 (1))) (.t 74), none, [], [74]⟩),
      (3, ⟨some 76, .bin .lss (.t 73) (.t 75), none, [], [73, 75]⟩)])
    (.cond (.t 76)
     (.seq
      (.kill [76])
      .skip)
     (.seq
      (.kill [3, 4, 7, 11, 76])
      (.exit 0))))
   (.seq
    (.block 1
     (.seq
      (.reg false [
        (0, ⟨some 79, .mv (.t 3), none, [], []⟩),
        (1, ⟨some 80, .mk 1 1 [.bool false] (.t 79) (.t 79), none, [], [79]⟩),
        (2, ⟨some 12, .mv (.t 80), none, [], [80]⟩)])
      (.seq
       (.seq
        (.reg false [
          (0, ⟨some 13, .mv (.c (.int .i64 (0))), none, [], []⟩)])
        (.block 2
         (.loop L13_1)))
       (.seq
        (.reg false [
          (0, ⟨some 94, .bsl 1 0 [.nils] [], none, [], []⟩),
          (1, ⟨some 14, .mv (.t 94), none, [], [94]⟩)])
        (.seq
         (.reg false [
           (0, ⟨some 95, .bsl 1 0 [.nils] [], none, [], []⟩),
           (1, ⟨some 15, .mv (.t 95), none, [], [95]⟩)])
         (.seq
          (.seq
           (.reg false [
             (0, ⟨some 16, .mv (.c (.int .i64 (0))), none, [], []⟩)])
           (.block 4
            (.loop L13_2)))
          (.seq
           (.seq
            (.reg false [
              (0, ⟨some 17, .mv (.c (.int .i64 (0))), none, [], []⟩)])
            (.block 6
             (.loop L13_3)))
           (.seq
            (.reg false [
              (0, ⟨some 124, .mv (.t 4), none, [], []⟩),
              (1, ⟨some 125, .mv (.t 12), none, [], []⟩),
              (2, ⟨some 126, .call 31 [(.t 124), (.t 125)], none, [], [124, 125]⟩),
              (3, ⟨some 127, .mv (.t 126), none, [], [126]⟩),
              (4, ⟨some 128, .mv (.t 14), some (127, true), [], [14]⟩),
              (5, ⟨some 129, .mv (.t 12), some (127, true), [], []⟩),
              (6, ⟨some 130, .call 31 [(.t 128), (.t 129)], some (127, true), [], [128, 129]⟩),
              (7, ⟨some 131, .pick (.t 127) (.t 130) (.c (.bool false)), none, [], [127, 130]⟩),
              (8, ⟨some 132, .mv (.t 131), none, [], [131]⟩),
              (9, ⟨some 133, .mv (.t 7), some (132, true), [], []⟩),
              (10, ⟨some 134, .mv (.t 133), some (132, true), [], [133]⟩),
              (11, ⟨some 135, .mv (.t 15), some (134, false), [], [15]⟩),
              (12, ⟨some 136, .mv (.t 12), some (134, false), [], [12]⟩),
              (13, ⟨some 137, .call 31 [(.t 135), (.t 136)], some (134, false), [], [135, 136]⟩),
              (14, ⟨some 138, .not (.t 137), some (134, false), [], [137]⟩),
              (15, ⟨some 139, .pick (.t 134) (.c (.bool true)) (.t 138), some (132, true), [], [134, 138]⟩),
              (16, ⟨some 140, .pick (.t 132) (.t 139) (.c (.bool false)), none, [], [132, 139]⟩)])
            (.cond (.t 140)
             (.seq
              (.kill [3, 4, 5, 6, 7, 11, 140])
              (.seq
               (.reg false [
                 (0, ⟨some 2, .mv (.c (.bool false)), none, [], []⟩)])
               .ret))
             (.seq
              (.kill [140])
              .skip))))))))))
    (.reg false [
      (0, ⟨some 77, .mv (.t 11), none, [], [11]⟩),
      (1, ⟨some 78, .bin .add (.t 77) (.c (.int .i64 (1))), none, [], [77]⟩),
      (2, ⟨some 11, .mv (.t 78), none, [], [78]⟩)])))
def B13 : CCode :=
  (.seq
   (.reg false [
     (0, ⟨some 2, .mv (.c (.bool false)), none, [], [2]⟩)])
   (.seq
    (.seq
     (.reg false [
       (0, ⟨some 18, .mv (.t 0), none, [], []⟩),
       (1, ⟨some 19, .call 47 [(.t 18)], none, [], [18]⟩)])
     (.cond (.t 19)
      (.seq
       (.kill [0, 19])
       (.seq
        (.reg false [
          (0, ⟨some 2, .mv (.c (.bool true)), none, [], []⟩)])
        .ret))
      (.seq
       (.kill [19])
       .skip)))
    (.seq
     (.reg false [
       (0, ⟨some 21, .mv (.t 0), none, [], [0]⟩),
       (1, ⟨some 22, .call 48 [(.t 21)], none, [], [21]⟩),
       (2, ⟨some 20, .mv (.t 22), none, [], [22]⟩),
       (3, ⟨some 23, .ex (.t 20) 0, none, [], []⟩),
       (4, ⟨some 24, .ex (.t 20) 1, none, [], []⟩),
       (5, ⟨some 25, .ex (.t 20) 2, none, [], [20]⟩),
       (6, ⟨some 3, .mv (.t 23), none, [], [23]⟩),
       (7, ⟨some 4, .mv (.t 24), none, [], [24]⟩),
       (8, ⟨some 5, .mv (.t 25), none, [], [25]⟩)])
     (.seq
      (.reg false [
        (0, ⟨some 27, .mv (.t 3), none, [], []⟩),
        (1, ⟨some 28, .mv (.t 4), none, [], []⟩),
        (2, ⟨some 29, .mv (.t 5), none, [], []⟩),
        (3, ⟨some 30, .call 44 [(.t 27), (.t 28), (.t 29)], none, [], [27, 28, 29]⟩),
        (4, ⟨some 26, .mv (.t 30), none, [], [30]⟩),
        (5, ⟨some 31, .ex (.t 26) 0, none, [], []⟩),
        (6, ⟨some 32, .ex (.t 26) 1, none, [], [26]⟩),
        (7, ⟨some 6, .mv (.t 31), none, [], [31]⟩),
        (8, ⟨some 7, .mv (.t 32), none, [], [32]⟩)])
      (.seq
       (.reg false [
         (0, ⟨some 34, .mv (.t 3), none, [], []⟩),
         (1, ⟨some 35, .mv (.t 4), none, [], []⟩),
         (2, ⟨some 36, .mv (.t 5), none, [], []⟩),
         (3, ⟨some 37, .call 43 [(.t 34), (.t 35), (.t 36)], none, [], [34, 35, 36]⟩),
         (4, ⟨some 33, .mv (.t 37), none, [], [37]⟩),
         (5, ⟨some 38, .ex (.t 33) 0, none, [], []⟩),
         (6, ⟨some 39, .ex (.t 33) 1, none, [], [33]⟩),
         (7, ⟨some 8, .mv (.t 38), none, [], [38]⟩),
         (8, ⟨some 9, .mv (.t 39), none, [], [39]⟩)])
       (.seq
        (.reg false [
          (0, ⟨some 40, .mv (.t 5), none, [], []⟩),
          (1, ⟨some 41, .call 17 [(.t 40)], none, [], [40]⟩),
          (2, ⟨some 10, .mv (.t 41), none, [], [41]⟩)])
        (.seq
         (.seq
          (.reg false [
            (0, ⟨some 42, .mv (.t 7), none, [], []⟩),
            (1, ⟨some 43, .mv (.t 9), none, [], [9]⟩),
            (2, ⟨some 44, .beq true (.t 42) (.t 43), none, [], [42, 43]⟩),
            (3, ⟨some 45, .mv (.t 44), none, [], [44]⟩),
            (4, ⟨some 46, .mv (.t 6), some (45, false), [], []⟩),
            (5, ⟨some 47, .mv (.t 8), some (45, false), [], [8]⟩),
            (6, ⟨some 48, .call 49 [(.t 46), (.t 47)], some (45, false), [], [46, 47]⟩),
            (7, ⟨some 49, .not (.t 48), some (45, false), [], [48]⟩),
            (8, ⟨some 50, .pick (.t 45) (.c (.bool true)) (.t 49), none, [], [45, 49]⟩),
            (9, ⟨some 51, .mv (.t 50), none, [], [50]⟩),
            (10, ⟨some 52, .mv (.t 10), some (51, false), [], [10]⟩),
            (11, ⟨some 53, .call 17 [(.t 52)], some (51, false), [], [52]⟩),
            (12, ⟨some 54, .mv (.t 5), some (51, false), [], []⟩),
            (13, ⟨some 55, .call 49 [(.t 53), (.t 54)], some (51, false), [], [53, 54]⟩),
            (14, ⟨some 56, .not (.t 55), some (51, false), [], [55]⟩),
            (15, ⟨some 57, .pick (.t 51) (.c (.bool true)) (.t 56), none, [], [51, 56]⟩),
            (16, ⟨some 58, .mv (.t 57), none, [], [57]⟩),
            (17, ⟨some 59, .mv (.t 3), some (58, false), [], []⟩),
            (18, ⟨some 60, .mv (.t 4), some (58, false), [], []⟩),
            (19, ⟨some 61, .call 34 [(.t 59), (.t 60)], some (58, false), [], [59, 60]⟩),
            (20, ⟨some 62, .mv (.t 3), some (58, false), [], []⟩),
            (21, ⟨some 63, .mv (.t 4), some (58, false), [], []⟩),
            (22, ⟨some 64, .call 33 [(.t 62), (.t 63)], some (58, false), [], [62, 63]⟩),
            (23, ⟨some 65, .beq true (.t 61) (.t 64), some (58, false), [], [61, 64]⟩),
            (24, ⟨some 66, .pick (.t 58) (.c (.bool true)) (.t 65), none, [], [58, 65]⟩)])
          (.cond (.t 66)
           (.seq
            (.kill [3, 4, 5, 6, 7, 66])
            (.seq
             (.reg false [
               (0, ⟨some 2, .mv (.c (.bool false)), none, [], []⟩)])
             .ret))
           (.seq
            (.kill [66])
            .skip)))
         (.seq
          (.seq
           (.reg false [
             (0, ⟨some 67, .mv (.t 3), none, [], []⟩),
             (1, ⟨some 68, .mv (.t 4), none, [], []⟩),
             (2, ⟨some 69, .call 33 [(.t 67), (.t 68)], none, [], [67, 68]⟩),
             (3, ⟨some 70, .not (.t 69), none, [], [69]⟩)])
           (.cond (.t 70)
            (.seq
             (.kill [3, 4, 5, 6, 70])
             (.seq
              (.reg false [
                (0, ⟨some 71, .mv (.t 7), none, [], [7]⟩),
                (1, ⟨some 72, .not (.t 71), none, [], [71]⟩),
                (2, ⟨some 2, .mv (.t 72), none, [], [72]⟩)])
              .ret))
            (.seq
             (.kill [70])
             .skip)))
          (.seq
           (.seq
            (.reg false [
              (0, ⟨some 11, .mv (.c (.int .i64 (0))), none, [], []⟩)])
            (.block 0
             (.loop L13_0)))
           (.seq
            (.reg false [
              (0, ⟨some 141, .mv (.t 6), none, [], [6]⟩),
              (1, ⟨some 142, .len (.t 141), none, [], [141]⟩),
              (2, ⟨some 143, .mv (.t 5), none, [], [5]⟩),
              (3, ⟨some 144, .len (.t 143), none, [], [143]⟩),
              (4, ⟨some 145, .bin .geq (.t 142) (.t 144), none, [], [142, 144]⟩),
              (5, ⟨some 2, .mv (.t 145), none, [], [145]⟩)])
            .ret))))))))))
def C13 : CFn := ⟨146, 1, [.t 2], B13⟩

/-- laws.FnRUP -/
def L14_1 : CCode :=
  (.seq
   (.seq
    (.reg false [
      (0, ⟨some 46, .mv (.t 9), none, [], []⟩),
      (1, ⟨some 47, .mv (.t 3), none, [], []⟩),
      (2, ⟨some 48, .bin .lss (.t 46) (.t 47), none, [], [46, 47]⟩)])
    (.cond (.t 48)
     (.seq
      (.kill [48])
      .skip)
     (.seq
      (.kill [9, 48])
      (.exit 2))))
   (.seq
    (.block 3
     (.reg false [
       (0, ⟨some 51, .mv (.t 8), none, [], []⟩),
       (1, ⟨some 52, .mv (.t 9), none, [], []⟩),
       (2, ⟨some 53, .mv (.t 7), none, [], []⟩),
       (3, ⟨some 54, .mv (.t 9), none, [], []⟩),
       (4, ⟨some 55, .bin .shr (.t 53) (.t 54), none, [], [53, 54]⟩),
       (5, ⟨some 56, .bin .and (.t 55) (.c (.int .i64 (1))), none, [], [55]⟩),
       (6, ⟨some 57, .bin .eql (.t 56) (.c (.int .i64 (1))), none, [], [56]⟩),
       (7, ⟨some 58, .ia 1 (.t 51) (.t 52), none, [], [51, 52]⟩),
       (8, ⟨none, .st 1 (.t 58) (.t 57), none, [], [57, 58]⟩)]))
    (.reg false [
      (0, ⟨some 49, .mv (.t 9), none, [], [9]⟩),
      (1, ⟨some 50, .bin .add (.t 49) (.c (.int .i64 (1))), none, [], [49]⟩),
      (2, ⟨some 9, .mv (.t 50), none, [], [50]⟩)])))
def L14_0 : CCode :=
  (.seq
   (.seq
    (.reg false [
      (0, ⟨some 38, .mv (.t 7), none, [], []⟩),
      (1, ⟨some 39, .mv (.t 3), none, [], []⟩),
      (2, ⟨some 40, .bin .shl (.c (.int .i64 (1))) (.t 39), none, [], [39]⟩),
      (3, ⟨some 41, .bin .lss (.t 38) (.t 40), none, [], [38, 40]⟩)])
    (.cond (.t 41)
     (.seq
      (.kill [41])
      .skip)
     (.seq
      (.kill [3, 4, 5, 7, 41])
      (.exit 0))))
   (.seq
    (.block 1
     (.seq
      (.reg false [
        (0, ⟨some 44, .mv (.t 3), none, [], []⟩),
        (1, ⟨some 45, .mk 1 1 [.bool false] (.t 44) (.t 44), none, [], [44]⟩),
        (2, ⟨some 8, .mv (.t 45), none, [], [45]⟩)])
      (.seq
       (.seq
        (.reg false [
          (0, ⟨some 9, .mv (.c (.int .i64 (0))), none, [], []⟩)])
        (.block 2
         (.loop L14_1)))
       (.seq
        (.reg false [
          (0, ⟨some 59, .mv (.t 4), none, [], []⟩),
          (1, ⟨some 60, .mv (.t 8), none, [], []⟩),
          (2, ⟨some 61, .call 31 [(.t 59), (.t 60)], none, [], [59, 60]⟩),
          (3, ⟨some 62, .mv (.t 61), none, [], [61]⟩),
          (4, ⟨some 63, .mv (.t 5), some (62, true), [], []⟩),
          (5, ⟨some 64, .bsl 1 1 [.nils] [(0, 1, (.t 63))], some (62, true), [], [63]⟩),
          (6, ⟨some 65, .mv (.t 8), some (62, true), [], [8]⟩),
          (7, ⟨some 66, .call 31 [(.t 64), (.t 65)], some (62, true), [], [64, 65]⟩),
          (8, ⟨some 67, .not (.t 66), some (62, true), [], [66]⟩),
          (9, ⟨some 68, .pick (.t 62) (.t 67) (.c (.bool false)), none, [], [62, 67]⟩)])
        (.cond (.t 68)
         (.seq
          (.kill [3, 4, 5, 7, 68])
          (.seq
           (.reg false [
             (0, ⟨some 2, .mv (.c (.bool false)), none, [], []⟩)])
           .ret))
         (.seq
          (.kill [68])
          .skip))))))
    (.reg false [
      (0, ⟨some 42, .mv (.t 7), none, [], [7]⟩),
      (1, ⟨some 43, .bin .add (.t 42) (.c (.int .i64 (1))), none, [], [42]⟩),
      (2, ⟨some 7, .mv (.t 43), none, [], [43]⟩)])))
def B14 : CCode :=
  (.seq
   (.reg false [
     (0, ⟨some 2, .mv (.c (.bool false)), none, [], [2]⟩)])
   (.seq
    (.seq
     (.reg false [
       (0, ⟨some 10, .mv (.t 0), none, [], []⟩),
       (1, ⟨some 11, .call 47 [(.t 10)], none, [], [10]⟩)])
     (.cond (.t 11)
      (.seq
       (.kill [0, 11])
       (.seq
        (.reg false [
          (0, ⟨some 2, .mv (.c (.bool true)), none, [], []⟩)])
        .ret))
      (.seq
       (.kill [11])
       .skip)))
    (.seq
     (.reg false [
       (0, ⟨some 13, .mv (.t 0), none, [], [0]⟩),
       (1, ⟨some 14, .call 50 [(.t 13)], none, [], [13]⟩),
       (2, ⟨some 12, .mv (.t 14), none, [], [14]⟩),
       (3, ⟨some 15, .ex (.t 12) 0, none, [], []⟩),
       (4, ⟨some 16, .ex (.t 12) 1, none, [], []⟩),
       (5, ⟨some 17, .ex (.t 12) 2, none, [], [12]⟩),
       (6, ⟨some 3, .mv (.t 15), none, [], [15]⟩),
       (7, ⟨some 4, .mv (.t 16), none, [], [16]⟩),
       (8, ⟨some 5, .mv (.t 17), none, [], [17]⟩)])
     (.seq
      (.reg false [
        (0, ⟨some 18, .mv (.t 3), none, [], []⟩),
        (1, ⟨some 19, .mv (.t 4), none, [], []⟩),
        (2, ⟨some 20, .mv (.t 5), none, [], []⟩),
        (3, ⟨some 21, .call 42 [(.t 18), (.t 19), (.t 20)], none, [], [18, 19, 20]⟩),
        (4, ⟨some 6, .mv (.t 21), none, [], [21]⟩)])
      (.seq
       (.seq
        (.reg false [
          (0, ⟨some 22, .mv (.t 6), none, [], []⟩),
          (1, ⟨some 23, .mv (.t 3), none, [], []⟩),
          (2, ⟨some 24, .mv (.t 4), none, [], []⟩),
          (3, ⟨some 25, .mv (.t 5), none, [], []⟩),
          (4, ⟨some 26, .call 41 [(.t 23), (.t 24), (.t 25)], none, [], [23, 24, 25]⟩),
          (5, ⟨some 27, .beq true (.t 22) (.t 26), none, [], [22, 26]⟩),
          (6, ⟨some 28, .mv (.t 27), none, [], [27]⟩),
          (7, ⟨some 29, .mv (.t 6), some (28, false), [], []⟩),
          (8, ⟨some 30, .not (.t 29), some (28, false), [], [29]⟩),
          (9, ⟨some 31, .pick (.t 28) (.c (.bool true)) (.t 30), none, [], [28, 30]⟩)])
        (.cond (.t 31)
         (.seq
          (.kill [31])
          (.seq
           (.reg false [
             (0, ⟨some 32, .mv (.t 6), none, [], [6]⟩),
             (1, ⟨some 33, .mv (.t 3), none, [], [3]⟩),
             (2, ⟨some 34, .mv (.t 4), none, [], [4]⟩),
             (3, ⟨some 35, .mv (.t 5), none, [], [5]⟩),
             (4, ⟨some 36, .call 41 [(.t 33), (.t 34), (.t 35)], none, [], [33, 34, 35]⟩),
             (5, ⟨some 37, .beq false (.t 32) (.t 36), none, [], [32, 36]⟩),
             (6, ⟨some 2, .mv (.t 37), none, [], [37]⟩)])
           .ret))
         (.seq
          (.kill [6, 31])
          .skip)))
       (.seq
        (.seq
         (.reg false [
           (0, ⟨some 7, .mv (.c (.int .i64 (0))), none, [], []⟩)])
         (.block 0
          (.loop L14_0)))
        (.seq
         (.reg false [
           (0, ⟨some 2, .mv (.c (.bool true)), none, [], []⟩)])
         .ret)))))))
def C14 : CFn := ⟨69, 1, [.t 2], B14⟩

/-- spec.NegateLiterals -/
def L15_0 : CCode :=
  (.seq
   (.seq
    (.reg false [
      (0, ⟨some 6, .mv (.t 4), none, [], []⟩),
      (1, ⟨some 7, .mv (.t 0), none, [], []⟩),
      (2, ⟨some 8, .len (.t 7), none, [], [7]⟩),
      (3, ⟨some 9, .bin .lss (.t 6) (.t 8), none, [], [6, 8]⟩)])
    (.cond (.t 9)
     (.seq
      (.kill [9])
      .skip)
     (.seq
      (.kill [0, 4, 9])
      (.exit 0))))
   (.seq
    (.block 1
     (.reg false [
       (0, ⟨some 12, .mv (.t 3), none, [], [3]⟩),
       (1, ⟨some 13, .mv (.t 0), none, [], []⟩),
       (2, ⟨some 14, .mv (.t 4), none, [], []⟩),
       (3, ⟨some 15, .ia 1 (.t 13) (.t 14), none, [], [13, 14]⟩),
       (4, ⟨some 16, .ld 1 false (.t 15), none, [], [15]⟩),
       (5, ⟨some 17, .neg (.t 16), none, [], [16]⟩),
       (6, ⟨some 18, .bsl 1 1 [.int .i64 (0)] [(0, 1, (.t 17))], none, [], [17]⟩),
       (7, ⟨some 19, .app 1 8 (.t 12) (.t 18), none, [], [12, 18]⟩),
       (8, ⟨some 3, .mv (.t 19), none, [], [19]⟩)]))
    (.reg false [
      (0, ⟨some 10, .mv (.t 4), none, [], [4]⟩),
      (1, ⟨some 11, .bin .add (.t 10) (.c (.int .i64 (1))), none, [], [10]⟩),
      (2, ⟨some 4, .mv (.t 11), none, [], [11]⟩)])))
def B15 : CCode :=
  (.seq
   (.reg false [
     (0, ⟨some 2, .mv (.c (.nils)), none, [], [2]⟩)])
   (.seq
    (.reg false [
      (0, ⟨some 5, .bsl 1 0 [.int .i64 (0)] [], none, [], []⟩),
      (1, ⟨some 3, .mv (.t 5), none, [], [5]⟩)])
    (.seq
     (.seq
      (.reg false [
        (0, ⟨some 4, .mv (.c (.int .i64 (0))), none, [], []⟩)])
      (.block 0
       (.loop L15_0)))
     (.seq
      (.reg false [
        (0, ⟨some 20, .mv (.t 3), none, [], [3]⟩),
        (1, ⟨some 2, .mv (.t 20), none, [], [20]⟩)])
      .ret))))
def C15 : CFn := ⟨21, 1, [.t 2], B15⟩

/-- laws.toIntS -/
def L16_0 : CCode :=
  (.seq
   (.seq
    (.reg false [
      (0, ⟨some 8, .mv (.t 4), none, [], []⟩),
      (1, ⟨some 9, .mv (.t 0), none, [], []⟩),
      (2, ⟨some 10, .len (.t 9), none, [], [9]⟩),
      (3, ⟨some 11, .bin .lss (.t 8) (.t 10), none, [], [8, 10]⟩)])
    (.cond (.t 11)
     (.seq
      (.kill [11])
      .skip)
     (.seq
      (.kill [0, 4, 11])
      (.exit 0))))
   (.seq
    (.block 1
     (.reg false [
       (0, ⟨some 14, .mv (.t 3), none, [], []⟩),
       (1, ⟨some 15, .mv (.t 4), none, [], []⟩),
       (2, ⟨some 16, .mv (.t 0), none, [], []⟩),
       (3, ⟨some 17, .mv (.t 4), none, [], []⟩),
       (4, ⟨some 18, .ia 1 (.t 16) (.t 17), none, [], [16, 17]⟩),
       (5, ⟨some 19, .ld 1 false (.t 18), none, [], [18]⟩),
       (6, ⟨some 20, .ia 1 (.t 14) (.t 15), none, [], [14, 15]⟩),
       (7, ⟨none, .st 1 (.t 20) (.t 19), none, [], [19, 20]⟩)]))
    (.reg false [
      (0, ⟨some 12, .mv (.t 4), none, [], [4]⟩),
      (1, ⟨some 13, .bin .add (.t 12) (.c (.int .i64 (1))), none, [], [12]⟩),
      (2, ⟨some 4, .mv (.t 13), none, [], [13]⟩)])))
def B16 : CCode :=
  (.seq
   (.reg false [
     (0, ⟨some 2, .mv (.c (.nils)), none, [], [2]⟩)])
   (.seq
    (.reg false [
      (0, ⟨some 5, .mv (.t 0), none, [], []⟩),
      (1, ⟨some 6, .len (.t 5), none, [], [5]⟩),
      (2, ⟨some 7, .mk 1 8 [.int .i64 (0)] (.t 6) (.t 6), none, [], [6]⟩),
      (3, ⟨some 3, .mv (.t 7), none, [], [7]⟩)])
    (.seq
     (.seq
      (.reg false [
        (0, ⟨some 4, .mv (.c (.int .i64 (0))), none, [], []⟩)])
      (.block 0
       (.loop L16_0)))
     (.seq
      (.reg false [
        (0, ⟨some 21, .mv (.t 3), none, [], [3]⟩),
        (1, ⟨some 2, .mv (.t 21), none, [], [21]⟩)])
      .ret))))
def C16 : CFn := ⟨22, 1, [.t 2], B16⟩

/-- impl.NegateLiterals -/
def L17_0 : CCode :=
  (.seq
   (.reg false [
     (0, ⟨some 10, .bin .lss (.t 9) (.t 8), none, [], []⟩)])
   (.seq
    (.cond (.t 10)
     (.seq
      (.kill [10])
      .skip)
     (.seq
      (.kill [7, 8, 9, 10])
      (.exit 0)))
    (.seq
     (.block 1
      (.seq
       (.reg false [
         (0, ⟨some 11, .ia 1 (.t 7) (.t 9), none, [], []⟩),
         (1, ⟨some 12, .ld 1 false (.t 11), none, [], [11]⟩),
         (2, ⟨some 5, .mv (.t 12), none, [], [12]⟩)])
       (.reg false [
         (0, ⟨some 13, .mv (.t 3), none, [], [3]⟩),
         (1, ⟨some 14, .mv (.t 5), none, [], [5]⟩),
         (2, ⟨some 15, .neg (.t 14), none, [], [14]⟩),
         (3, ⟨some 16, .bsl 1 1 [.int .i64 (0)] [(0, 1, (.t 15))], none, [], [15]⟩),
         (4, ⟨some 17, .app 1 8 (.t 13) (.t 16), none, [], [13, 16]⟩),
         (5, ⟨some 3, .mv (.t 17), none, [], [17]⟩)])))
     (.reg false [
       (0, ⟨some 18, .bin .add (.t 9) (.c (.int .i64 (1))), none, [], [9]⟩),
       (1, ⟨some 9, .mv (.t 18), none, [], [18]⟩)]))))
def B17 : CCode :=
  (.seq
   (.reg false [
     (0, ⟨some 2, .mv (.c (.nils)), none, [], [2]⟩)])
   (.seq
    (.reg false [
      (0, ⟨some 6, .bsl 1 0 [.int .i64 (0)] [], none, [], []⟩),
      (1, ⟨some 3, .mv (.t 6), none, [], [6]⟩)])
    (.seq
     (.seq
      (.reg false [
        (0, ⟨some 7, .mv (.t 0), none, [], [0]⟩),
        (1, ⟨some 8, .len (.t 7), none, [], []⟩),
        (2, ⟨some 9, .mv (.c (.int .i64 (0))), none, [], []⟩)])
      (.block 0
       (.loop L17_0)))
     (.seq
      (.reg false [
        (0, ⟨some 19, .mv (.t 3), none, [], [3]⟩),
        (1, ⟨some 2, .mv (.t 19), none, [], [19]⟩)])
      .ret))))
def C17 : CFn := ⟨20, 1, [.t 2], B17⟩

/-- laws.eqIntS -/
def L18_0 : CCode :=
  (.seq
   (.seq
    (.reg false [
      (0, ⟨some 11, .mv (.t 5), none, [], []⟩),
      (1, ⟨some 12, .mv (.t 0), none, [], []⟩),
      (2, ⟨some 13, .len (.t 12), none, [], [12]⟩),
      (3, ⟨some 14, .bin .lss (.t 11) (.t 13), none, [], [11, 13]⟩)])
    (.cond (.t 14)
     (.seq
      (.kill [14])
      .skip)
     (.seq
      (.kill [0, 1, 5, 14])
      (.exit 0))))
   (.seq
    (.block 1
     (.seq
      (.reg true [
        (0, ⟨some 17, .mv (.t 0), none, [], []⟩),
        (1, ⟨some 18, .mv (.t 5), none, [], []⟩),
        (2, ⟨some 19, .ia 1 (.t 17) (.t 18), none, [], [17, 18]⟩),
        (3, ⟨some 20, .ld 1 false (.t 19), none, [], [19]⟩),
        (4, ⟨some 21, .mv (.t 1), none, [], []⟩),
        (5, ⟨some 22, .mv (.t 5), none, [], []⟩),
        (6, ⟨some 23, .ia 1 (.t 21) (.t 22), none, [], [21, 22]⟩),
        (7, ⟨some 24, .ld 1 false (.t 23), none, [], [23]⟩),
        (8, ⟨some 25, .bin .neq (.t 20) (.t 24), none, [], [20, 24]⟩)])
      (.cond (.t 25)
       (.seq
        (.kill [0, 1, 5, 25])
        (.seq
         (.reg false [
           (0, ⟨some 4, .mv (.c (.bool false)), none, [], []⟩)])
         .ret))
       (.seq
        (.kill [25])
        .skip))))
    (.reg false [
      (0, ⟨some 15, .mv (.t 5), none, [], [5]⟩),
      (1, ⟨some 16, .bin .add (.t 15) (.c (.int .i64 (1))), none, [], [15]⟩),
      (2, ⟨some 5, .mv (.t 16), none, [], [16]⟩)])))
def B18 : CCode :=
  (.seq
   (.reg false [
     (0, ⟨some 4, .mv (.c (.bool false)), none, [], [4]⟩)])
   (.seq
    (.seq
     (.reg false [
       (0, ⟨some 6, .mv (.t 0), none, [], []⟩),
       (1, ⟨some 7, .len (.t 6), none, [], [6]⟩),
       (2, ⟨some 8, .mv (.t 1), none, [], []⟩),
       (3, ⟨some 9, .len (.t 8), none, [], [8]⟩),
       (4, ⟨some 10, .bin .neq (.t 7) (.t 9), none, [], [7, 9]⟩)])
     (.cond (.t 10)
      (.seq
       (.kill [0, 1, 10])
       (.seq
        (.reg false [
          (0, ⟨some 4, .mv (.c (.bool false)), none, [], []⟩)])
        .ret))
      (.seq
       (.kill [10])
       .skip)))
    (.seq
     (.seq
      (.reg false [
        (0, ⟨some 5, .mv (.c (.int .i64 (0))), none, [], []⟩)])
      (.block 0
       (.loop L18_0)))
     (.seq
      (.reg false [
        (0, ⟨some 4, .mv (.c (.bool true)), none, [], []⟩)])
      .ret))))
def C18 : CFn := ⟨26, 2, [.t 4], B18⟩

/-- laws.markIntS -/
def L19_0 : CCode :=
  (.seq
   (.seq
    (.reg false [
      (0, ⟨some 6, .mv (.t 5), none, [], []⟩),
      (1, ⟨some 7, .mv (.t 0), none, [], []⟩),
      (2, ⟨some 8, .len (.t 7), none, [], [7]⟩),
      (3, ⟨some 9, .bin .lss (.t 6) (.t 8), none, [], [6, 8]⟩)])
    (.cond (.t 9)
     (.seq
      (.kill [9])
      .skip)
     (.seq
      (.kill [5, 9])
      (.exit 0))))
   (.seq
    (.block 1
     (.seq
      (.reg false [
        (0, ⟨some 12, .mv (.t 0), none, [], []⟩),
        (1, ⟨some 13, .mv (.t 5), none, [], []⟩),
        (2, ⟨some 14, .mv (.t 1), none, [], []⟩),
        (3, ⟨some 15, .ia 1 (.t 12) (.t 13), none, [], [12, 13]⟩),
        (4, ⟨none, .st 1 (.t 15) (.t 14), none, [], [14, 15]⟩)])
      (.reg false [
        (0, ⟨some 16, .mv (.t 1), none, [], [1]⟩),
        (1, ⟨some 17, .bin .add (.t 16) (.c (.int .i64 (1))), none, [], [16]⟩),
        (2, ⟨some 1, .mv (.t 17), none, [], [17]⟩)])))
    (.reg false [
      (0, ⟨some 10, .mv (.t 5), none, [], [5]⟩),
      (1, ⟨some 11, .bin .add (.t 10) (.c (.int .i64 (1))), none, [], [10]⟩),
      (2, ⟨some 5, .mv (.t 11), none, [], [11]⟩)])))
def B19 : CCode :=
  (.seq
   (.reg false [
     (0, ⟨some 4, .mv (.c (.int .i64 (0))), none, [], [4]⟩)])
   (.seq
    (.seq
     (.reg false [
       (0, ⟨some 5, .mv (.c (.int .i64 (0))), none, [], []⟩)])
     (.block 0
      (.loop L19_0)))
    (.seq
     (.reg false [
       (0, ⟨some 18, .mv (.t 1), none, [], [1]⟩),
       (1, ⟨some 4, .mv (.t 18), none, [], [18]⟩)])
     .ret)))
def C19 : CFn := ⟨19, 2, [.t 4], B19⟩

/-- laws.heldIntS -/
def L20_0 : CCode :=
  (.seq
   (.seq
    (.reg false [
      (0, ⟨some 6, .mv (.t 5), none, [], []⟩),
      (1, ⟨some 7, .mv (.t 0), none, [], []⟩),
      (2, ⟨some 8, .len (.t 7), none, [], [7]⟩),
      (3, ⟨some 9, .bin .lss (.t 6) (.t 8), none, [], [6, 8]⟩)])
    (.cond (.t 9)
     (.seq
      (.kill [9])
      .skip)
     (.seq
      (.kill [0, 5, 9])
      (.exit 0))))
   (.seq
    (.block 1
     (.seq
      (.seq
       (.reg false [
         (0, ⟨some 12, .mv (.t 0), none, [], []⟩),
         (1, ⟨some 13, .mv (.t 5), none, [], []⟩),
         (2, ⟨some 14, .ia 1 (.t 12) (.t 13), none, [], [12, 13]⟩),
         (3, ⟨some 15, .ld 1 false (.t 14), none, [], [14]⟩),
         (4, ⟨some 16, .mv (.t 1), none, [], []⟩),
         (5, ⟨some 17, .bin .neq (.t 15) (.t 16), none, [], [15, 16]⟩)])
       (.cond (.t 17)
        (.seq
         (.kill [0, 1, 5, 17])
         (.seq
          (.reg false [
            (0, ⟨some 4, .mv (.c (.int .i64 (-1))), none, [], []⟩)])
          .ret))
        (.seq
         (.kill [17])
         .skip)))
      (.reg false [
        (0, ⟨some 18, .mv (.t 1), none, [], [1]⟩),
        (1, ⟨some 19, .bin .add (.t 18) (.c (.int .i64 (1))), none, [], [18]⟩),
        (2, ⟨some 1, .mv (.t 19), none, [], [19]⟩)])))
    (.reg false [
      (0, ⟨some 10, .mv (.t 5), none, [], [5]⟩),
      (1, ⟨some 11, .bin .add (.t 10) (.c (.int .i64 (1))), none, [], [10]⟩),
      (2, ⟨some 5, .mv (.t 11), none, [], [11]⟩)])))
def B20 : CCode :=
  (.seq
   (.reg false [
     (0, ⟨some 4, .mv (.c (.int .i64 (0))), none, [], [4]⟩)])
   (.seq
    (.seq
     (.reg false [
       (0, ⟨some 5, .mv (.c (.int .i64 (0))), none, [], []⟩)])
     (.block 0
      (.loop L20_0)))
    (.seq
     (.reg false [
       (0, ⟨some 20, .mv (.t 1), none, [], [1]⟩),
       (1, ⟨some 4, .mv (.t 20), none, [], [20]⟩)])
     .ret)))
def C20 : CFn := ⟨21, 2, [.t 4], B20⟩

/-- spec.TrueVariables -/
def L21_0 : CCode :=
  (.seq
   (.seq
    (.reg false [
      (0, ⟨some 6, .mv (.t 4), none, [], []⟩),
      (1, ⟨some 7, .mv (.t 0), none, [], []⟩),
      (2, ⟨some 8, .len (.t 7), none, [], [7]⟩),
      (3, ⟨some 9, .bin .lss (.t 6) (.t 8), none, [], [6, 8]⟩)])
    (.cond (.t 9)
     (.seq
      (.kill [9])
      .skip)
     (.seq
      (.kill [0, 4, 9])
      (.exit 0))))
   (.seq
    (.block 1
     (.seq
      (.reg false [
        (0, ⟨some 12, .mv (.t 0), none, [], []⟩),
        (1, ⟨some 13, .mv (.t 4), none, [], []⟩),
        (2, ⟨some 14, .ia 1 (.t 12) (.t 13), none, [], [12, 13]⟩),
        (3, ⟨some 15, .ld 1 false (.t 14), none, [], [14]⟩)])
      (.cond (.t 15)
       (.seq
        (.kill [15])
        (.reg false [
          (0, ⟨some 16, .mv (.t 3), none, [], [3]⟩),
          (1, ⟨some 17, .mv (.t 4), none, [], []⟩),
          (2, ⟨some 18, .bsl 1 1 [.int .i64 (0)] [(0, 1, (.t 17))], none, [], [17]⟩),
          (3, ⟨some 19, .app 1 8 (.t 16) (.t 18), none, [], [16, 18]⟩),
          (4, ⟨some 3, .mv (.t 19), none, [], [19]⟩)]))
       (.seq
        (.kill [15])
        .skip))))
    (.reg false [
      (0, ⟨some 10, .mv (.t 4), none, [], [4]⟩),
      (1, ⟨some 11, .bin .add (.t 10) (.c (.int .i64 (1))), none, [], [10]⟩),
      (2, ⟨some 4, .mv (.t 11), none, [], [11]⟩)])))
def B21 : CCode :=
  (.seq
   (.reg false [
     (0, ⟨some 2, .mv (.c (.nils)), none, [], [2]⟩)])
   (.seq
    (.reg false [
      (0, ⟨some 5, .bsl 1 0 [.int .i64 (0)] [], none, [], []⟩),
      (1, ⟨some 3, .mv (.t 5), none, [], [5]⟩)])
    (.seq
     (.seq
      (.reg false [
        (0, ⟨some 4, .mv (.c (.int .i64 (0))), none, [], []⟩)])
      (.block 0
       (.loop L21_0)))
     (.seq
      (.reg false [
        (0, ⟨some 20, .mv (.t 3), none, [], [3]⟩),
        (1, ⟨some 2, .mv (.t 20), none, [], [20]⟩)])
      .ret))))
def C21 : CFn := ⟨21, 1, [.t 2], B21⟩

/-- laws.toBoolS -/
def L22_0 : CCode :=
  (.seq
   (.seq
    (.reg false [
      (0, ⟨some 8, .mv (.t 4), none, [], []⟩),
      (1, ⟨some 9, .mv (.t 0), none, [], []⟩),
      (2, ⟨some 10, .len (.t 9), none, [], [9]⟩),
      (3, ⟨some 11, .bin .lss (.t 8) (.t 10), none, [], [8, 10]⟩)])
    (.cond (.t 11)
     (.seq
      (.kill [11])
      .skip)
     (.seq
      (.kill [0, 4, 11])
      (.exit 0))))
   (.seq
    (.block 1
     (.reg false [
       (0, ⟨some 14, .mv (.t 3), none, [], []⟩),
       (1, ⟨some 15, .mv (.t 4), none, [], []⟩),
       (2, ⟨some 16, .mv (.t 0), none, [], []⟩),
       (3, ⟨some 17, .mv (.t 4), none, [], []⟩),
       (4, ⟨some 18, .ia 1 (.t 16) (.t 17), none, [], [16, 17]⟩),
       (5, ⟨some 19, .ld 1 false (.t 18), none, [], [18]⟩),
       (6, ⟨some 20, .ia 1 (.t 14) (.t 15), none, [], [14, 15]⟩),
       (7, ⟨none, .st 1 (.t 20) (.t 19), none, [], [19, 20]⟩)]))
    (.reg false [
      (0, ⟨some 12, .mv (.t 4), none, [], [4]⟩),
      (1, ⟨some 13, .bin .add (.t 12) (.c (.int .i64 (1))), none, [], [12]⟩),
      (2, ⟨some 4, .mv (.t 13), none, [], [13]⟩)])))
def B22 : CCode :=
  (.seq
   (.reg false [
     (0, ⟨some 2, .mv (.c (.nils)), none, [], [2]⟩)])
   (.seq
    (.reg false [
      (0, ⟨some 5, .mv (.t 0), none, [], []⟩),
      (1, ⟨some 6, .len (.t 5), none, [], [5]⟩),
      (2, ⟨some 7, .mk 1 1 [.bool false] (.t 6) (.t 6), none, [], [6]⟩),
      (3, ⟨some 3, .mv (.t 7), none, [], [7]⟩)])
    (.seq
     (.seq
      (.reg false [
        (0, ⟨some 4, .mv (.c (.int .i64 (0))), none, [], []⟩)])
      (.block 0
       (.loop L22_0)))
     (.seq
      (.reg false [
        (0, ⟨some 21, .mv (.t 3), none, [], [3]⟩),
        (1, ⟨some 2, .mv (.t 21), none, [], [21]⟩)])
      .ret))))
def C22 : CFn := ⟨22, 1, [.t 2], B22⟩

/-- impl.TrueVariables -/
def L23_0 : CCode :=
  (.seq
   (.reg false [
     (0, ⟨some 10, .bin .lss (.t 9) (.t 8), none, [], []⟩)])
   (.seq
    (.cond (.t 10)
     (.seq
      (.kill [10])
      .skip)
     (.seq
      (.kill [7, 8, 9, 10])
      (.exit 0)))
    (.seq
     (.block 1
      (.seq
       (.reg false [
         (0, ⟨some 11, .mv (.t 9), none, [], []⟩),
         (1, ⟨some 12, .ia 1 (.t 7) (.t 9), none, [], []⟩),
         (2, ⟨some 13, .ld 1 false (.t 12), none, [], [12]⟩),
         (3, ⟨some 4, .mv (.t 11), none, [], [11]⟩),
         (4, ⟨some 5, .mv (.t 13), none, [], [13]⟩)])
       (.seq
        (.reg false [
          (0, ⟨some 14, .mv (.t 5), none, [], [5]⟩)])
        (.cond (.t 14)
         (.seq
          (.kill [14])
          (.reg false [
            (0, ⟨some 15, .mv (.t 3), none, [], [3]⟩),
            (1, ⟨some 16, .mv (.t 4), none, [], [4]⟩),
            (2, ⟨some 17, .bsl 1 1 [.int .i64 (0)] [(0, 1, (.t 16))], none, [], [16]⟩),
            (3, ⟨some 18, .app 1 8 (.t 15) (.t 17), none, [], [15, 17]⟩),
            (4, ⟨some 3, .mv (.t 18), none, [], [18]⟩)]))
         (.seq
          (.kill [4, 14])
          .skip)))))
     (.reg false [
       (0, ⟨some 19, .bin .add (.t 9) (.c (.int .i64 (1))), none, [], [9]⟩),
       (1, ⟨some 9, .mv (.t 19), none, [], [19]⟩)]))))
def B23 : CCode :=
  (.seq
   (.reg false [
     (0, ⟨some 2, .mv (.c (.nils)), none, [], [2]⟩)])
   (.seq
    (.reg false [
      (0, ⟨some 6, .bsl 1 0 [.int .i64 (0)] [], none, [], []⟩),
      (1, ⟨some 3, .mv (.t 6), none, [], [6]⟩)])
    (.seq
     (.seq
      (.reg false [
        (0, ⟨some 7, .mv (.t 0), none, [], [0]⟩),
        (1, ⟨some 8, .len (.t 7), none, [], []⟩),
        (2, ⟨some 9, .mv (.c (.int .i64 (0))), none, [], []⟩)])
      (.block 0
       (.loop L23_0)))
     (.seq
      (.reg false [
        (0, ⟨some 20, .mv (.t 3), none, [], [3]⟩),
        (1, ⟨some 2, .mv (.t 20), none, [], [20]⟩)])
      .ret))))
def C23 : CFn := ⟨21, 1, [.t 2], B23⟩

/-- laws.eqBoolS -/
def L24_0 : CCode :=
  (.seq
   (.seq
    (.reg false [
      (0, ⟨some 11, .mv (.t 5), none, [], []⟩),
      (1, ⟨some 12, .mv (.t 0), none, [], []⟩),
      (2, ⟨some 13, .len (.t 12), none, [], [12]⟩),
      (3, ⟨some 14, .bin .lss (.t 11) (.t 13), none, [], [11, 13]⟩)])
    (.cond (.t 14)
     (.seq
      (.kill [14])
      .skip)
     (.seq
      (.kill [0, 1, 5, 14])
      (.exit 0))))
   (.seq
    (.block 1
     (.seq
      (.reg true [
        (0, ⟨some 17, .mv (.t 0), none, [], []⟩),
        (1, ⟨some 18, .mv (.t 5), none, [], []⟩),
        (2, ⟨some 19, .ia 1 (.t 17) (.t 18), none, [], [17, 18]⟩),
        (3, ⟨some 20, .ld 1 false (.t 19), none, [], [19]⟩),
        (4, ⟨some 21, .mv (.t 1), none, [], []⟩),
        (5, ⟨some 22, .mv (.t 5), none, [], []⟩),
        (6, ⟨some 23, .ia 1 (.t 21) (.t 22), none, [], [21, 22]⟩),
        (7, ⟨some 24, .ld 1 false (.t 23), none, [], [23]⟩),
        (8, ⟨some 25, .beq true (.t 20) (.t 24), none, [], [20, 24]⟩)])
      (.cond (.t 25)
       (.seq
        (.kill [0, 1, 5, 25])
        (.seq
         (.reg false [
           (0, ⟨some 4, .mv (.c (.bool false)), none, [], []⟩)])
         .ret))
       (.seq
        (.kill [25])
        .skip))))
    (.reg false [
      (0, ⟨some 15, .mv (.t 5), none, [], [5]⟩),
      (1, ⟨some 16, .bin .add (.t 15) (.c (.int .i64 (1))), none, [], [15]⟩),
      (2, ⟨some 5, .mv (.t 16), none, [], [16]⟩)])))
def B24 : CCode :=
  (.seq
   (.reg false [
     (0, ⟨some 4, .mv (.c (.bool false)), none, [], [4]⟩)])
   (.seq
    (.seq
     (.reg false [
       (0, ⟨some 6, .mv (.t 0), none, [], []⟩),
       (1, ⟨some 7, .len (.t 6), none, [], [6]⟩),
       (2, ⟨some 8, .mv (.t 1), none, [], []⟩),
       (3, ⟨some 9, .len (.t 8), none, [], [8]⟩),
       (4, ⟨some 10, .bin .neq (.t 7) (.t 9), none, [], [7, 9]⟩)])
     (.cond (.t 10)
      (.seq
       (.kill [0, 1, 10])
       (.seq
        (.reg false [
          (0, ⟨some 4, .mv (.c (.bool false)), none, [], []⟩)])
        .ret))
      (.seq
       (.kill [10])
       .skip)))
    (.seq
     (.seq
      (.reg false [
        (0, ⟨some 5, .mv (.c (.int .i64 (0))), none, [], []⟩)])
      (.block 0
       (.loop L24_0)))
     (.seq
      (.reg false [
        (0, ⟨some 4, .mv (.c (.bool true)), none, [], []⟩)])
      .ret))))
def C24 : CFn := ⟨26, 2, [.t 4], B24⟩

/-- laws.markBoolS -/
def L25_0 : CCode :=
  (.seq
   (.seq
    (.reg false [
      (0, ⟨some 6, .mv (.t 5), none, [], []⟩),
      (1, ⟨some 7, .mv (.t 0), none, [], []⟩),
      (2, ⟨some 8, .len (.t 7), none, [], [7]⟩),
      (3, ⟨some 9, .bin .lss (.t 6) (.t 8), none, [], [6, 8]⟩)])
    (.cond (.t 9)
     (.seq
      (.kill [9])
      .skip)
     (.seq
      (.kill [5, 9])
      (.exit 0))))
   (.seq
    (.block 1
     (.seq
      (.reg false [
        (0, ⟨some 12, .mv (.t 0), none, [], []⟩),
        (1, ⟨some 13, .mv (.t 5), none, [], []⟩),
        (2, ⟨some 14, .mv (.t 1), none, [], []⟩),
        (3, ⟨some 15, .bin .rem (.t 14) (.c (.int .i64 (3))), none, [], [14]⟩),
        (4, ⟨some 16, .bin .eql (.t 15) (.c (.int .i64 (0))), none, [], [15]⟩),
        (5, ⟨some 17, .ia 1 (.t 12) (.t 13), none, [], [12, 13]⟩),
        (6, ⟨none, .st 1 (.t 17) (.t 16), none, [], [16, 17]⟩)])
      (.reg false [
        (0, ⟨some 18, .mv (.t 1), none, [], [1]⟩),
        (1, ⟨some 19, .bin .add (.t 18) (.c (.int .i64 (1))), none, [], [18]⟩),
        (2, ⟨some 1, .mv (.t 19), none, [], [19]⟩)])))
    (.reg false [
      (0, ⟨some 10, .mv (.t 5), none, [], [5]⟩),
      (1, ⟨some 11, .bin .add (.t 10) (.c (.int .i64 (1))), none, [], [10]⟩),
      (2, ⟨some 5, .mv (.t 11), none, [], [11]⟩)])))
def B25 : CCode :=
  (.seq
   (.reg false [
     (0, ⟨some 4, .mv (.c (.int .i64 (0))), none, [], [4]⟩)])
   (.seq
    (.seq
     (.reg false [
       (0, ⟨some 5, .mv (.c (.int .i64 (0))), none, [], []⟩)])
     (.block 0
      (.loop L25_0)))
    (.seq
     (.reg false [
       (0, ⟨some 20, .mv (.t 1), none, [], [1]⟩),
       (1, ⟨some 4, .mv (.t 20), none, [], [20]⟩)])
     .ret)))
def C25 : CFn := ⟨21, 2, [.t 4], B25⟩

/-- laws.szIntSS -/
def L26_0 : CCode :=
  (.seq
   (.seq
    (.reg false [
      (0, ⟨some 12, .mv (.t 5), none, [], []⟩),
      (1, ⟨some 13, .mv (.t 0), none, [], []⟩),
      (2, ⟨some 14, .len (.t 13), none, [], [13]⟩),
      (3, ⟨some 15, .bin .lss (.t 12) (.t 14), none, [], [12, 14]⟩)])
    (.cond (.t 15)
     (.seq
      (.kill [15])
      .skip)
     (.seq
      (.kill [0, 5, 15])
      (.exit 0))))
   (.seq
    (.block 1
     (.seq
      (.reg false [
        (0, ⟨some 18, .mv (.t 0), none, [], []⟩),
        (1, ⟨some 19, .mv (.t 5), none, [], []⟩),
        (2, ⟨some 20, .ia 1 (.t 18) (.t 19), none, [], [18, 19]⟩),
        (3, ⟨some 21, .ld 1 false (.t 20), none, [], [20]⟩),
        (4, ⟨some 22, .mv (.t 1), none, [], [1]⟩),
        (5, ⟨some 23, .call 51 [(.t 21), (.t 22)], none, [], [21, 22]⟩),
        (6, ⟨some 1, .mv (.t 23), none, [], [23]⟩)])
      (.seq
       (.reg false [
         (0, ⟨some 24, .mv (.t 1), none, [], []⟩),
         (1, ⟨some 25, .bin .lss (.t 24) (.c (.int .i64 (0))), none, [], [24]⟩)])
       (.cond (.t 25)
        (.seq
         (.kill [0, 1, 5, 25])
         (.seq
          (.reg false [
            (0, ⟨some 4, .mv (.c (.int .i64 (-1))), none, [], []⟩)])
          .ret))
        (.seq
         (.kill [25])
         .skip)))))
    (.reg false [
      (0, ⟨some 16, .mv (.t 5), none, [], [5]⟩),
      (1, ⟨some 17, .bin .add (.t 16) (.c (.int .i64 (1))), none, [], [16]⟩),
      (2, ⟨some 5, .mv (.t 17), none, [], [17]⟩)])))
def B26 : CCode :=
  (.seq
   (.reg false [
     (0, ⟨some 4, .mv (.c (.int .i64 (0))), none, [], [4]⟩)])
   (.seq
    (.reg false [
      (0, ⟨some 6, .mv (.t 1), none, [], [1]⟩),
      (1, ⟨some 7, .mv (.t 0), none, [], []⟩),
      (2, ⟨some 8, .len (.t 7), none, [], [7]⟩),
      (3, ⟨some 9, .bin .sub (.t 6) (.t 8), none, [], [6, 8]⟩),
      (4, ⟨some 1, .mv (.t 9), none, [], [9]⟩)])
    (.seq
     (.seq
      (.reg false [
        (0, ⟨some 10, .mv (.t 1), none, [], []⟩),
        (1, ⟨some 11, .bin .lss (.t 10) (.c (.int .i64 (0))), none, [], [10]⟩)])
      (.cond (.t 11)
       (.seq
        (.kill [0, 1, 11])
        (.seq
         (.reg false [
           (0, ⟨some 4, .mv (.c (.int .i64 (-1))), none, [], []⟩)])
         .ret))
       (.seq
        (.kill [11])
        .skip)))
     (.seq
      (.seq
       (.reg false [
         (0, ⟨some 5, .mv (.c (.int .i64 (0))), none, [], []⟩)])
       (.block 0
        (.loop L26_0)))
      (.seq
       (.reg false [
         (0, ⟨some 26, .mv (.t 1), none, [], [1]⟩),
         (1, ⟨some 4, .mv (.t 26), none, [], [26]⟩)])
       .ret)))))
def C26 : CFn := ⟨27, 2, [.t 4], B26⟩

/-- spec.IsCovered -/
def B27 : CCode :=
  (.seq
   (.reg false [
     (0, ⟨some 4, .mv (.c (.bool false)), none, [], [4]⟩)])
   (.seq
    (.reg false [
      (0, ⟨some 5, .mv (.t 0), none, [], [0]⟩),
      (1, ⟨some 6, .mv (.t 1), none, [], [1]⟩),
      (2, ⟨some 7, .call 52 [(.t 5), (.t 6)], none, [], [5, 6]⟩),
      (3, ⟨some 4, .mv (.t 7), none, [], [7]⟩)])
    .ret))
def C27 : CFn := ⟨8, 2, [.t 4], B27⟩

/-- laws.toIntSS -/
def L28_0 : CCode :=
  (.seq
   (.seq
    (.reg false [
      (0, ⟨some 8, .mv (.t 4), none, [], []⟩),
      (1, ⟨some 9, .mv (.t 0), none, [], []⟩),
      (2, ⟨some 10, .len (.t 9), none, [], [9]⟩),
      (3, ⟨some 11, .bin .lss (.t 8) (.t 10), none, [], [8, 10]⟩)])
    (.cond (.t 11)
     (.seq
      (.kill [11])
      .skip)
     (.seq
      (.kill [0, 4, 11])
      (.exit 0))))
   (.seq
    (.block 1
     (.reg false [
       (0, ⟨some 14, .mv (.t 3), none, [], []⟩),
       (1, ⟨some 15, .mv (.t 4), none, [], []⟩),
       (2, ⟨some 16, .mv (.t 0), none, [], []⟩),
       (3, ⟨some 17, .mv (.t 4), none, [], []⟩),
       (4, ⟨some 18, .ia 1 (.t 16) (.t 17), none, [], [16, 17]⟩),
       (5, ⟨some 19, .ld 1 false (.t 18), none, [], [18]⟩),
       (6, ⟨some 20, .call 16 [(.t 19)], none, [], [19]⟩),
       (7, ⟨some 21, .ia 1 (.t 14) (.t 15), none, [], [14, 15]⟩),
       (8, ⟨none, .st 1 (.t 21) (.t 20), none, [], [20, 21]⟩)]))
    (.reg false [
      (0, ⟨some 12, .mv (.t 4), none, [], [4]⟩),
      (1, ⟨some 13, .bin .add (.t 12) (.c (.int .i64 (1))), none, [], [12]⟩),
      (2, ⟨some 4, .mv (.t 13), none, [], [13]⟩)])))
def B28 : CCode :=
  (.seq
   (.reg false [
     (0, ⟨some 2, .mv (.c (.nils)), none, [], [2]⟩)])
   (.seq
    (.reg false [
      (0, ⟨some 5, .mv (.t 0), none, [], []⟩),
      (1, ⟨some 6, .len (.t 5), none, [], [5]⟩),
      (2, ⟨some 7, .mk 1 24 [.nils] (.t 6) (.t 6), none, [], [6]⟩),
      (3, ⟨some 3, .mv (.t 7), none, [], [7]⟩)])
    (.seq
     (.seq
      (.reg false [
        (0, ⟨some 4, .mv (.c (.int .i64 (0))), none, [], []⟩)])
      (.block 0
       (.loop L28_0)))
     (.seq
      (.reg false [
        (0, ⟨some 22, .mv (.t 3), none, [], [3]⟩),
        (1, ⟨some 2, .mv (.t 22), none, [], [22]⟩)])
      .ret))))
def C28 : CFn := ⟨23, 1, [.t 2], B28⟩

/-- impl.IsCovered -/
def B29 : CCode :=
  (.seq
   (.reg false [
     (0, ⟨some 3, .box 1 (.t 1), none, [], [1]⟩),
     (1, ⟨some 4, .mv (.c (.bool false)), none, [], [4]⟩)])
   (.seq
    (.reg false [
      (0, ⟨some 5, .mv (.t 0), none, [], [0]⟩),
      (1, ⟨some 6, .fn 54 [(.t 3)], none, [], [3]⟩),
      (2, ⟨some 7, .call 53 [(.t 5), (.t 6)], none, [], [5, 6]⟩),
      (3, ⟨some 4, .mv (.t 7), none, [], [7]⟩)])
    .ret))
def C29 : CFn := ⟨8, 2, [.t 4], B29⟩

/-- laws.eqIntSS -/
def L30_0 : CCode :=
  (.seq
   (.seq
    (.reg false [
      (0, ⟨some 11, .mv (.t 5), none, [], []⟩),
      (1, ⟨some 12, .mv (.t 0), none, [], []⟩),
      (2, ⟨some 13, .len (.t 12), none, [], [12]⟩),
      (3, ⟨some 14, .bin .lss (.t 11) (.t 13), none, [], [11, 13]⟩)])
    (.cond (.t 14)
     (.seq
      (.kill [14])
      .skip)
     (.seq
      (.kill [0, 1, 5, 14])
      (.exit 0))))
   (.seq
    (.block 1
     (.seq
      (.reg true [
        (0, ⟨some 17, .mv (.t 0), none, [], []⟩),
        (1, ⟨some 18, .mv (.t 5), none, [], []⟩),
        (2, ⟨some 19, .ia 1 (.t 17) (.t 18), none, [], [17, 18]⟩),
        (3, ⟨some 20, .ld 1 false (.t 19), none, [], [19]⟩),
        (4, ⟨some 21, .mv (.t 1), none, [], []⟩),
        (5, ⟨some 22, .mv (.t 5), none, [], []⟩),
        (6, ⟨some 23, .ia 1 (.t 21) (.t 22), none, [], [21, 22]⟩),
        (7, ⟨some 24, .ld 1 false (.t 23), none, [], [23]⟩),
        (8, ⟨some 25, .call 18 [(.t 20), (.t 24)], none, [], [20, 24]⟩),
        (9, ⟨some 26, .not (.t 25), none, [], [25]⟩)])
      (.cond (.t 26)
       (.seq
        (.kill [0, 1, 5, 26])
        (.seq
         (.reg false [
           (0, ⟨some 4, .mv (.c (.bool false)), none, [], []⟩)])
         .ret))
       (.seq
        (.kill [26])
        .skip))))
    (.reg false [
      (0, ⟨some 15, .mv (.t 5), none, [], [5]⟩),
      (1, ⟨some 16, .bin .add (.t 15) (.c (.int .i64 (1))), none, [], [15]⟩),
      (2, ⟨some 5, .mv (.t 16), none, [], [16]⟩)])))
def B30 : CCode :=
  (.seq
   (.reg false [
     (0, ⟨some 4, .mv (.c (.bool false)), none, [], [4]⟩)])
   (.seq
    (.seq
     (.reg false [
       (0, ⟨some 6, .mv (.t 0), none, [], []⟩),
       (1, ⟨some 7, .len (.t 6), none, [], [6]⟩),
       (2, ⟨some 8, .mv (.t 1), none, [], []⟩),
       (3, ⟨some 9, .len (.t 8), none, [], [8]⟩),
       (4, ⟨some 10, .bin .neq (.t 7) (.t 9), none, [], [7, 9]⟩)])
     (.cond (.t 10)
      (.seq
       (.kill [0, 1, 10])
       (.seq
        (.reg false [
          (0, ⟨some 4, .mv (.c (.bool false)), none, [], []⟩)])
        .ret))
      (.seq
       (.kill [10])
       .skip)))
    (.seq
     (.seq
      (.reg false [
        (0, ⟨some 5, .mv (.c (.int .i64 (0))), none, [], []⟩)])
      (.block 0
       (.loop L30_0)))
     (.seq
      (.reg false [
        (0, ⟨some 4, .mv (.c (.bool true)), none, [], []⟩)])
      .ret))))
def C30 : CFn := ⟨27, 2, [.t 4], B30⟩

/-- spec.SatisfiesClauses -/
def L31_1 : CCode :=
  (.seq
   (.seq
    (.reg false [
      (0, ⟨some 15, .mv (.t 7), none, [], []⟩),
      (1, ⟨some 16, .mv (.t 0), none, [], []⟩),
      (2, ⟨some 17, .mv (.t 5), none, [], []⟩),
      (3, ⟨some 18, .ia 1 (.t 16) (.t 17), none, [], [16, 17]⟩),
      (4, ⟨some 19, .ld 1 false (.t 18), none, [], [18]⟩),
      (5, ⟨some 20, .len (.t 19), none, [], [19]⟩),
      (6, ⟨some 21, .bin .lss (.t 15) (.t 20), none, [], [15, 20]⟩)])
    (.cond (.t 21)
     (.seq
      (.kill [21])
      .skip)
     (.seq
      (.kill [7, 21])
      (.exit 2))))
   (.seq
    (.block 3
     (.seq
      (.reg false [
        (0, ⟨some 24, .mv (.t 0), none, [], []⟩),
        (1, ⟨some 25, .mv (.t 5), none, [], []⟩),
        (2, ⟨some 26, .ia 1 (.t 24) (.t 25), none, [], [24, 25]⟩),
        (3, ⟨some 27, .ld 1 false (.t 26), none, [], [26]⟩),
        (4, ⟨some 28, .mv (.t 7), none, [], []⟩),
        (5, ⟨some 29, .ia 1 (.t 27) (.t 28), none, [], [27, 28]⟩),
        (6, ⟨some 30, .ld 1 false (.t 29), none, [], [29]⟩),
        (7, ⟨some 8, .mv (.t 30), none, [], [30]⟩)])
      (.reg false [
        (0, ⟨some 31, .mv (.t 6), none, [], [6]⟩),
        (1, ⟨some 32, .mv (.t 31), none, [], [31]⟩),
        (2, ⟨some 33, .mv (.t 8), some (32, false), [], []⟩),
        (3, ⟨some 34, .bin .gtr (.t 33) (.c (.int .i64 (0))), some (32, false), [], [33]⟩),
        (4, ⟨some 35, .mv (.t 34), some (32, false), [], [34]⟩),
        (5, ⟨some 36, .mv (.t 8), some (35, true), [], []⟩),
        (6, ⟨some 37, .mv (.t 1), some (35, true), [], []⟩),
        (7, ⟨some 38, .len (.t 37), some (35, true), [], [37]⟩),
        (8, ⟨some 39, .bin .leq (.t 36) (.t 38), some (35, true), [], [36, 38]⟩),
        (9, ⟨some 40, .pick (.t 35) (.t 39) (.c (.bool false)), some (32, false), [], [35, 39]⟩),
        (10, ⟨some 41, .mv (.t 40), some (32, false), [], [40]⟩),
        (11, ⟨some 42, .mv (.t 1), some (41, true), [], []⟩),
        (12, ⟨some 43, .mv (.t 8), some (41, true), [], []⟩),
        (13, ⟨some 44, .bin .sub (.t 43) (.c (.int .i64 (1))), some (41, true), [], [43]⟩),
        (14, ⟨some 45, .ia 1 (.t 42) (.t 44), some (41, true), [], [42, 44]⟩),
        (15, ⟨some 46, .ld 1 false (.t 45), some (41, true), [], [45]⟩),
        (16, ⟨some 47, .pick (.t 41) (.t 46) (.c (.bool false)), some (32, false), [], [41, 46]⟩),
        (17, ⟨some 48, .pick (.t 32) (.c (.bool true)) (.t 47), none, [], [32, 47]⟩),
        (18, ⟨some 49, .mv (.t 48), none, [], [48]⟩),
        (19, ⟨some 50, .mv (.t 8), some (49, false), [], []⟩),
        (20, ⟨some 51, .bin .lss (.t 50) (.c (.int .i64 (0))), some (49, false), [], [50]⟩),
        (21, ⟨some 52, .mv (.t 51), some (49, false), [], [51]⟩),
        (22, ⟨some 53, .mv (.t 8), some (52, true), [], []⟩),
        (23, ⟨some 54, .mv (.t 1), some (52, true), [], []⟩),
        (24, ⟨some 55, .len (.t 54), some (52, true), [], [54]⟩),
        (25, ⟨some 56, .neg (.t 55), some (52, true), [], [55]⟩),
        (26, ⟨some 57, .bin .geq (.t 53) (.t 56), some (52, true), [], [53, 56]⟩),
        (27, ⟨some 58, .pick (.t 52) (.t 57) (.c (.bool false)), some (49, false), [], [52, 57]⟩),
        (28, ⟨some 59, .mv (.t 58), some (49, false), [], [58]⟩),
        (29, ⟨some 60, .mv (.t 1), some (59, true), [], []⟩),
        (30, ⟨some 61, .mv (.t 8), some (59, true), [], [8]⟩),
        (31, ⟨some 62, .neg (.t 61), some (59, true), [], [61]⟩),
        (32, ⟨some 63, .bin .sub (.t 62) (.c (.int .i64 (1))), some (59, true), [], [62]⟩),
        (33, ⟨some 64, .ia 1 (.t 60) (.t 63), some (59, true), [], [60, 63]⟩),
        (34, ⟨some 65, .ld 1 false (.t 64), some (59, true), [], [64]⟩),
        (35, ⟨some 66, .not (.t 65), some (59, true), [], [65]⟩),
        (36, ⟨some 67, .pick (.t 59) (.t 66) (.c (.bool false)), some (49, false), [], [59, 66]⟩),
        (37, ⟨some 68, .pick (.t 49) (.c (.bool true)) (.t 67), none, [], [49, 67]⟩),
        (38, ⟨some 6, .mv (.t 68), none, [], [68]⟩)])))
    (.reg false [
      (0, ⟨some 22, .mv (.t 7), none, [], [7]⟩),
      (1, ⟨some 23, .bin .add (.t 22) (.c (.int .i64 (1))), none, [], [22]⟩),
      (2, ⟨some 7, .mv (.t 23), none, [], [23]⟩)])))
def L31_0 : CCode :=
  (.seq
   (.seq
    (.reg false [
      (0, ⟨some 9, .mv (.t 5), none, [], []⟩),
      (1, ⟨some 10, .mv (.t 0), none, [], []⟩),
      (2, ⟨some 11, .len (.t 10), none, [], [10]⟩),
      (3, ⟨some 12, .bin .lss (.t 9) (.t 11), none, [], [9, 11]⟩)])
    (.cond (.t 12)
     (.seq
      (.kill [12])
      .skip)
     (.seq
      (.kill [0, 1, 5, 12])
      (.exit 0))))
   (.seq
    (.block 1
     (.seq
      (.reg false [
        (0, ⟨some 6, .mv (.c (.bool false)), none, [], []⟩)])
      (.seq
       (.seq
        (.reg false [
          (0, ⟨some 7, .mv (.c (.int .i64 (0))), none, [], []⟩)])
        (.block 2
         (.loop L31_1)))
       (.seq
        (.reg false [
          (0, ⟨some 69, .mv (.t 6), none, [], [6]⟩),
          (1, ⟨some 70, .not (.t 69), none, [], [69]⟩)])
        (.cond (.t 70)
         (.seq
          (.kill [0, 1, 5, 70])
          (.seq
           (.reg false [
             (0, ⟨some 4, .mv (.c (.bool false)), none, [], []⟩)])
           .ret))
         (.seq
          (.kill [70])
          .skip))))))
    (.reg false [
      (0, ⟨some 13, .mv (.t 5), none, [], [5]⟩),
      (1, ⟨some 14, .bin .add (.t 13) (.c (.int .i64 (1))), none, [], [13]⟩),
      (2, ⟨some 5, .mv (.t 14), none, [], [14]⟩)])))
def B31 : CCode :=
  (.seq
   (.reg false [
     (0, ⟨some 4, .mv (.c (.bool false)), none, [], [4]⟩)])
   (.seq
    (.seq
     (.reg false [
       (0, ⟨some 5, .mv (.c (.int .i64 (0))), none, [], []⟩)])
     (.block 0
      (.loop L31_0)))
    (.seq
     (.reg false [
       (0, ⟨some 4, .mv (.c (.bool true)), none, [], []⟩)])
     .ret)))
def C31 : CFn := ⟨71, 2, [.t 4], B31⟩

/-- impl.SatisfiesClauses -/
def B32 : CCode :=
  (.seq
   (.reg false [
     (0, ⟨some 3, .box 1 (.t 1), none, [], [1]⟩),
     (1, ⟨some 4, .mv (.c (.bool false)), none, [], [4]⟩)])
   (.seq
    (.reg false [
      (0, ⟨some 5, .mv (.t 0), none, [], [0]⟩),
      (1, ⟨some 6, .fn 56 [(.t 3)], none, [], [3]⟩),
      (2, ⟨some 7, .call 53 [(.t 5), (.t 6)], none, [], [5, 6]⟩),
      (3, ⟨some 8, .not (.t 7), none, [], [7]⟩),
      (4, ⟨some 4, .mv (.t 8), none, [], [8]⟩)])
    .ret))
def C32 : CFn := ⟨9, 2, [.t 4], B32⟩

/-- spec.AreValidClauses -/
def L33_0 : CCode :=
  (.seq
   (.seq
    (.reg false [
      (0, ⟨some 6, .mv (.t 5), none, [], []⟩),
      (1, ⟨some 7, .mv (.t 1), none, [], []⟩),
      (2, ⟨some 8, .len (.t 7), none, [], [7]⟩),
      (3, ⟨some 9, .bin .lss (.t 6) (.t 8), none, [], [6, 8]⟩)])
    (.cond (.t 9)
     (.seq
      (.kill [9])
      .skip)
     (.seq
      (.kill [5, 9])
      (.exit 0))))
   (.seq
    (.block 1
     (.seq
      (.reg false [
        (0, ⟨some 12, .mv (.t 0), none, [], []⟩),
        (1, ⟨some 13, .mv (.t 1), none, [], []⟩),
        (2, ⟨some 14, .mv (.t 5), none, [], []⟩),
        (3, ⟨some 15, .ia 1 (.t 13) (.t 14), none, [], [13, 14]⟩),
        (4, ⟨some 16, .ld 1 false (.t 15), none, [], [15]⟩),
        (5, ⟨some 17, .call 60 [(.t 12), (.t 16)], none, [], [12, 16]⟩),
        (6, ⟨some 18, .not (.t 17), none, [], [17]⟩)])
      (.cond (.t 18)
       (.seq
        (.kill [0, 1, 5, 18])
        (.seq
         (.reg false [
           (0, ⟨some 4, .mv (.c (.bool false)), none, [], []⟩)])
         .ret))
       (.seq
        (.kill [18])
        .skip))))
    (.reg false [
      (0, ⟨some 10, .mv (.t 5), none, [], [5]⟩),
      (1, ⟨some 11, .bin .add (.t 10) (.c (.int .i64 (1))), none, [], [10]⟩),
      (2, ⟨some 5, .mv (.t 11), none, [], [11]⟩)])))
def B33 : CCode :=
  (.seq
   (.reg false [
     (0, ⟨some 4, .mv (.c (.bool false)), none, [], [4]⟩)])
   (.seq
    (.seq
     (.reg false [
       (0, ⟨some 5, .mv (.c (.int .i64 (0))), none, [], []⟩)])
     (.block 0
      (.loop L33_0)))
    (.seq
     (.reg false [
       (0, ⟨some 19, .mv (.t 0), none, [], [0]⟩),
       (1, ⟨some 20, .call 61 [(.t 19), (.c (.int .i64 (0))), (.c (.int .i64 (14)))], none, [], [19]⟩),
       (2, ⟨some 21, .mv (.t 20), none, [], [20]⟩),
       (3, ⟨some 22, .mv (.t 1), some (21, true), [], [1]⟩),
       (4, ⟨some 23, .len (.t 22), some (21, true), [], [22]⟩),
       (5, ⟨some 24, .bin .leq (.t 23) (.c (.int .i64 (400))), some (21, true), [], [23]⟩),
       (6, ⟨some 25, .pick (.t 21) (.t 24) (.c (.bool false)), none, [], [21, 24]⟩),
       (7, ⟨some 4, .mv (.t 25), none, [], [25]⟩)])
     .ret)))
def C33 : CFn := ⟨26, 2, [.t 4], B33⟩

/-- impl.AreValidClauses -/
def B34 : CCode :=
  (.seq
   (.reg false [
     (0, ⟨some 4, .mv (.c (.bool false)), none, [], [4]⟩)])
   (.seq
    (.reg false [
      (0, ⟨some 5, .mv (.t 1), none, [], []⟩),
      (1, ⟨some 6, .len (.t 5), none, [], [5]⟩),
      (2, ⟨some 7, .bin .leq (.t 6) (.c (.int .i64 (400))), none, [], [6]⟩),
      (3, ⟨some 8, .mv (.t 7), none, [], [7]⟩),
      (4, ⟨some 9, .mv (.t 0), some (8, true), [], [0]⟩),
      (5, ⟨some 10, .mv (.t 1), some (8, true), [], [1]⟩),
      (6, ⟨some 11, .call 62 [(.t 9), (.t 10)], some (8, true), [], [9, 10]⟩),
      (7, ⟨some 12, .pick (.t 8) (.t 11) (.c (.bool false)), none, [], [8, 11]⟩),
      (8, ⟨some 4, .mv (.t 12), none, [], [12]⟩)])
    .ret))
def C34 : CFn := ⟨13, 2, [.t 4], B34⟩

/-- spec.MinimalSets -/
def L35_1 : CCode :=
  (.seq
   (.seq
    (.reg false [
      (0, ⟨some 15, .mv (.t 6), none, [], []⟩),
      (1, ⟨some 16, .mv (.t 0), none, [], []⟩),
      (2, ⟨some 17, .len (.t 16), none, [], [16]⟩),
      (3, ⟨some 18, .bin .lss (.t 15) (.t 17), none, [], [15, 17]⟩)])
    (.cond (.t 18)
     (.seq
      (.kill [18])
      .skip)
     (.seq
      (.kill [6, 18])
      (.exit 2))))
   (.seq
    (.block 3
     (.seq
      (.reg true [
        (0, ⟨some 21, .mv (.t 0), none, [], []⟩),
        (1, ⟨some 22, .mv (.t 6), none, [], []⟩),
        (2, ⟨some 23, .ia 1 (.t 21) (.t 22), none, [], [21, 22]⟩),
        (3, ⟨some 24, .ld 1 false (.t 23), none, [], [23]⟩),
        (4, ⟨some 25, .len (.t 24), none, [], [24]⟩),
        (5, ⟨some 26, .mv (.t 0), none, [], []⟩),
        (6, ⟨some 27, .mv (.t 4), none, [], []⟩),
        (7, ⟨some 28, .ia 1 (.t 26) (.t 27), none, [], [26, 27]⟩),
        (8, ⟨some 29, .ld 1 false (.t 28), none, [], [28]⟩),
        (9, ⟨some 30, .len (.t 29), none, [], [29]⟩),
        (10, ⟨some 31, .bin .lss (.t 25) (.t 30), none, [], [25, 30]⟩),
        (11, ⟨some 32, .mv (.t 31), none, [], [31]⟩),
        (12, ⟨some 33, .mv (.t 6), some (32, false), [], []⟩),
        (13, ⟨some 34, .mv (.t 4), some (32, false), [], []⟩),
        (14, ⟨some 35, .bin .lss (.t 33) (.t 34), some (32, false), [], [33, 34]⟩),
        (15, ⟨some 36, .mv (.t 35), some (32, false), [], [35]⟩),
        (16, ⟨some 37, .mv (.t 0), some (36, true), [], []⟩),
        (17, ⟨some 38, .mv (.t 6), some (36, true), [], []⟩),
        (18, ⟨some 39, .ia 1 (.t 37) (.t 38), some (36, true), [], [37, 38]⟩),
        (19, ⟨some 40, .ld 1 false (.t 39), some (36, true), [], [39]⟩),
        (20, ⟨some 41, .len (.t 40), some (36, true), [], [40]⟩),
        (21, ⟨some 42, .mv (.t 0), some (36, true), [], []⟩),
        (22, ⟨some 43, .mv (.t 4), some (36, true), [], []⟩),
        (23, ⟨some 44, .ia 1 (.t 42) (.t 43), some (36, true), [], [42, 43]⟩),
        (24, ⟨some 45, .ld 1 false (.t 44), some (36, true), [], [44]⟩),
        (25, ⟨some 46, .len (.t 45), some (36, true), [], [45]⟩),
        (26, ⟨some 47, .bin .eql (.t 41) (.t 46), some (36, true), [], [41, 46]⟩),
        (27, ⟨some 48, .pick (.t 36) (.t 47) (.c (.bool false)), some (32, false), [], [36, 47]⟩),
        (28, ⟨some 49, .pick (.t 32) (.c (.bool true)) (.t 48), none, [], [32, 48]⟩),
        (29, ⟨some 7, .mv (.t 49), none, [], [49]⟩)])
      (.reg true [
        (0, ⟨some 50, .mv (.t 5), none, [], [5]⟩),
        (1, ⟨some 51, .mv (.t 50), none, [], [50]⟩),
        (2, ⟨some 52, .mv (.t 7), some (51, true), [], [7]⟩),
        (3, ⟨some 53, .mv (.t 52), some (51, true), [], [52]⟩),
        (4, ⟨some 54, .mv (.t 0), some (53, true), [], []⟩),
        (5, ⟨some 55, .mv (.t 6), some (53, true), [], []⟩),
        (6, ⟨some 56, .ia 1 (.t 54) (.t 55), some (53, true), [], [54, 55]⟩),
        (7, ⟨some 57, .ld 1 false (.t 56), some (53, true), [], [56]⟩),
        (8, ⟨some 58, .bsl 1 1 [.nils] [(0, 1, (.t 57))], some (53, true), [], [57]⟩),
        (9, ⟨some 59, .mv (.t 0), some (53, true), [], []⟩),
        (10, ⟨some 60, .mv (.t 4), some (53, true), [], []⟩),
        (11, ⟨some 61, .ia 1 (.t 59) (.t 60), some (53, true), [], [59, 60]⟩),
        (12, ⟨some 62, .ld 1 false (.t 61), some (53, true), [], [61]⟩),
        (13, ⟨some 63, .call 27 [(.t 58), (.t 62)], some (53, true), [], [58, 62]⟩),
        (14, ⟨some 64, .pick (.t 53) (.t 63) (.c (.bool false)), some (51, true), [], [53, 63]⟩),
        (15, ⟨some 65, .not (.t 64), some (51, true), [], [64]⟩),
        (16, ⟨some 66, .pick (.t 51) (.t 65) (.c (.bool false)), none, [], [51, 65]⟩),
        (17, ⟨some 5, .mv (.t 66), none, [], [66]⟩)])))
    (.reg false [
      (0, ⟨some 19, .mv (.t 6), none, [], [6]⟩),
      (1, ⟨some 20, .bin .add (.t 19) (.c (.int .i64 (1))), none, [], [19]⟩),
      (2, ⟨some 6, .mv (.t 20), none, [], [20]⟩)])))
def L35_0 : CCode :=
  (.seq
   (.seq
    (.reg false [
      (0, ⟨some 9, .mv (.t 4), none, [], []⟩),
      (1, ⟨some 10, .mv (.t 0), none, [], []⟩),
      (2, ⟨some 11, .len (.t 10), none, [], [10]⟩),
      (3, ⟨some 12, .bin .lss (.t 9) (.t 11), none, [], [9, 11]⟩)])
    (.cond (.t 12)
     (.seq
      (.kill [12])
      .skip)
     (.seq
      (.kill [0, 4, 12])
      (.exit 0))))
   (.seq
    (.block 1
     (.seq
      (.reg false [
        (0, ⟨some 5, .mv (.c (.bool true)), none, [], []⟩)])
      (.seq
       (.seq
        (.reg false [
          (0, ⟨some 6, .mv (.c (.int .i64 (0))), none, [], []⟩)])
        (.block 2
         (.loop L35_1)))
       (.seq
        (.reg false [
          (0, ⟨some 67, .mv (.t 5), none, [], [5]⟩)])
        (.cond (.t 67)
         (.seq
          (.kill [67])
          (.reg false [
            (0, ⟨some 68, .mv (.t 3), none, [], [3]⟩),
            (1, ⟨some 69, .bsl 1 0 [.int .i64 (0)] [], none, [], []⟩),
            (2, ⟨some 70, .mv (.t 0), none, [], []⟩),
            (3, ⟨some 71, .mv (.t 4), none, [], []⟩),
            (4, ⟨some 72, .ia 1 (.t 70) (.t 71), none, [], [70, 71]⟩),
            (5, ⟨some 73, .ld 1 false (.t 72), none, [], [72]⟩),
            (6, ⟨some 74, .app 1 8 (.t 69) (.t 73), none, [], [69, 73]⟩),
            (7, ⟨some 75, .bsl 1 1 [.nils] [(0, 1, (.t 74))], none, [], [74]⟩),
            (8, ⟨some 76, .app 1 24 (.t 68) (.t 75), none, [], [68, 75]⟩),
            (9, ⟨some 3, .mv (.t 76), none, [], [76]⟩)]))
         (.seq
          (.kill [67])
          .skip))))))
    (.reg false [
      (0, ⟨some 13, .mv (.t 4), none, [], [4]⟩),
      (1, ⟨some 14, .bin .add (.t 13) (.c (.int .i64 (1))), none, [], [13]⟩),
      (2, ⟨some 4, .mv (.t 14), none, [], [14]⟩)])))
def B35 : CCode :=
  (.seq
   (.reg false [
     (0, ⟨some 2, .mv (.c (.nils)), none, [], [2]⟩)])
   (.seq
    (.reg false [
      (0, ⟨some 8, .bsl 1 0 [.nils] [], none, [], []⟩),
      (1, ⟨some 3, .mv (.t 8), none, [], [8]⟩)])
    (.seq
     (.seq
      (.reg false [
        (0, ⟨some 4, .mv (.c (.int .i64 (0))), none, [], []⟩)])
      (.block 0
       (.loop L35_0)))
     (.seq
      (.reg false [
        (0, ⟨some 77, .mv (.t 3), none, [], [3]⟩),
        (1, ⟨some 2, .mv (.t 77), none, [], [77]⟩)])
      .ret))))
def C35 : CFn := ⟨78, 1, [.t 2], B35⟩

/-- impl.MinimalSets -/
def L36_1 : CCode :=
  (.seq
   (.reg false [
     (0, ⟨some 20, .bin .lss (.t 19) (.t 18), none, [], []⟩)])
   (.seq
    (.cond (.t 20)
     (.seq
      (.kill [20])
      .skip)
     (.seq
      (.kill [4, 17, 18, 19, 20])
      (.exit 2)))
    (.seq
     (.block 3
      (.seq
       (.reg false [
         (0, ⟨some 21, .mv (.t 19), none, [], []⟩),
         (1, ⟨some 22, .ia 1 (.t 17) (.t 19), none, [], []⟩),
         (2, ⟨some 23, .ld 1 false (.t 22), none, [], [22]⟩),
         (3, ⟨some 7, .mv (.t 21), none, [], [21]⟩),
         (4, ⟨some 8, .mv (.t 23), none, [], [23]⟩)])
       (.seq
        (.reg false [
          (0, ⟨some 24, .mv (.t 8), none, [], []⟩),
          (1, ⟨some 25, .len (.t 24), none, [], [24]⟩),
          (2, ⟨some 26, .mv (.t 5), none, [], []⟩),
          (3, ⟨some 27, .len (.t 26), none, [], [26]⟩),
          (4, ⟨some 28, .bin .lss (.t 25) (.t 27), none, [], [25, 27]⟩),
          (5, ⟨some 29, .mv (.t 28), none, [], [28]⟩),
          (6, ⟨some 30, .mv (.t 8), some (29, false), [], []⟩),
          (7, ⟨some 31, .len (.t 30), some (29, false), [], [30]⟩),
          (8, ⟨some 32, .mv (.t 5), some (29, false), [], []⟩),
          (9, ⟨some 33, .len (.t 32), some (29, false), [], [32]⟩),
          (10, ⟨some 34, .bin .eql (.t 31) (.t 33), some (29, false), [], [31, 33]⟩),
          (11, ⟨some 35, .mv (.t 34), some (29, false), [], [34]⟩),
          (12, ⟨some 36, .mv (.t 7), some (35, true), [], [7]⟩),
          (13, ⟨some 37, .mv (.t 4), some (35, true), [], []⟩),
          (14, ⟨some 38, .bin .lss (.t 36) (.t 37), some (35, true), [], [36, 37]⟩),
          (15, ⟨some 39, .pick (.t 35) (.t 38) (.c (.bool false)), some (29, false), [], [35, 38]⟩),
          (16, ⟨some 40, .pick (.t 29) (.c (.bool true)) (.t 39), none, [], [29, 39]⟩),
          (17, ⟨some 41, .mv (.t 40), none, [], [40]⟩),
          (18, ⟨some 42, .mv (.t 8), some (41, true), [], [8]⟩),
          (19, ⟨some 43, .mv (.t 5), some (41, true), [], []⟩),
          (20, ⟨some 44, .call 55 [(.t 42), (.t 43)], some (41, true), [], [42, 43]⟩),
          (21, ⟨some 45, .pick (.t 41) (.t 44) (.c (.bool false)), none, [], [41, 44]⟩)])
        (.cond (.t 45)
         (.seq
          (.kill [6, 45])
          (.reg false [
            (0, ⟨some 6, .mv (.c (.bool false)), none, [], []⟩)]))
         (.seq
          (.kill [45])
          .skip)))))
     (.reg false [
       (0, ⟨some 46, .bin .add (.t 19) (.c (.int .i64 (1))), none, [], [19]⟩),
       (1, ⟨some 19, .mv (.t 46), none, [], [46]⟩)]))))
def L36_0 : CCode :=
  (.seq
   (.reg false [
     (0, ⟨some 13, .bin .lss (.t 12) (.t 11), none, [], []⟩)])
   (.seq
    (.cond (.t 13)
     (.seq
      (.kill [13])
      .skip)
     (.seq
      (.kill [0, 10, 11, 12, 13])
      (.exit 0)))
    (.seq
     (.block 1
      (.seq
       (.reg false [
         (0, ⟨some 14, .mv (.t 12), none, [], []⟩),
         (1, ⟨some 15, .ia 1 (.t 10) (.t 12), none, [], []⟩),
         (2, ⟨some 16, .ld 1 false (.t 15), none, [], [15]⟩),
         (3, ⟨some 4, .mv (.t 14), none, [], [14]⟩),
         (4, ⟨some 5, .mv (.t 16), none, [], [16]⟩)])
       (.seq
        (.reg false [
          (0, ⟨some 6, .mv (.c (.bool true)), none, [], []⟩)])
        (.seq
         (.seq
          (.reg false [
            (0, ⟨some 17, .mv (.t 0), none, [], []⟩),
            (1, ⟨some 18, .len (.t 17), none, [], []⟩),
            (2, ⟨some 19, .mv (.c (.int .i64 (0))), none, [], []⟩)])
          (.block 2
           (.loop L36_1)))
         (.seq
          (.reg false [
            (0, ⟨some 47, .mv (.t 6), none, [], [6]⟩)])
          (.cond (.t 47)
           (.seq
            (.kill [47])
            (.reg false [
              (0, ⟨some 48, .mv (.t 3), none, [], [3]⟩),
              (1, ⟨some 49, .bsl 1 0 [.int .i64 (0)] [], none, [], []⟩),
              (2, ⟨some 50, .mv (.t 5), none, [], [5]⟩),
              (3, ⟨some 51, .app 1 8 (.t 49) (.t 50), none, [], [49, 50]⟩),
              (4, ⟨some 52, .bsl 1 1 [.nils] [(0, 1, (.t 51))], none, [], [51]⟩),
              (5, ⟨some 53, .app 1 24 (.t 48) (.t 52), none, [], [48, 52]⟩),
              (6, ⟨some 3, .mv (.t 53), none, [], [53]⟩)]))
           (.seq
            (.kill [5, 47])
            .skip)))))))
     (.reg false [
       (0, ⟨some 54, .bin .add (.t 12) (.c (.int .i64 (1))), none, [], [12]⟩),
       (1, ⟨some 12, .mv (.t 54), none, [], [54]⟩)]))))
def B36 : CCode :=
  (.seq
   (.reg false [
     (0, ⟨some 2, .mv (.c (.nils)), none, [], [2]⟩)])
   (.seq
    (.reg false [
      (0, ⟨some 9, .bsl 1 0 [.nils] [], none, [], []⟩),
      (1, ⟨some 3, .mv (.t 9), none, [], [9]⟩)])
    (.seq
     (.seq
      (.reg false [
        (0, ⟨some 10, .mv (.t 0), none, [], []⟩),
        (1, ⟨some 11, .len (.t 10), none, [], []⟩),
        (2, ⟨some 12, .mv (.c (.int .i64 (0))), none, [], []⟩)])
      (.block 0
       (.loop L36_0)))
     (.seq
      (.reg false [
        (0, ⟨some 55, .mv (.t 3), none, [], [3]⟩),
        (1, ⟨some 2, .mv (.t 55), none, [], [55]⟩)])
      .ret))))
def C36 : CFn := ⟨56, 1, [.t 2], B36⟩

/-- laws.markIntSS -/
def L37_0 : CCode :=
  (.seq
   (.seq
    (.reg false [
      (0, ⟨some 6, .mv (.t 5), none, [], []⟩),
      (1, ⟨some 7, .mv (.t 0), none, [], []⟩),
      (2, ⟨some 8, .len (.t 7), none, [], [7]⟩),
      (3, ⟨some 9, .bin .lss (.t 6) (.t 8), none, [], [6, 8]⟩)])
    (.cond (.t 9)
     (.seq
      (.kill [9])
      .skip)
     (.seq
      (.kill [5, 9])
      (.exit 0))))
   (.seq
    (.block 1
     (.reg false [
       (0, ⟨some 12, .mv (.t 0), none, [], []⟩),
       (1, ⟨some 13, .mv (.t 5), none, [], []⟩),
       (2, ⟨some 14, .ia 1 (.t 12) (.t 13), none, [], [12, 13]⟩),
       (3, ⟨some 15, .ld 1 false (.t 14), none, [], [14]⟩),
       (4, ⟨some 16, .mv (.t 1), none, [], [1]⟩),
       (5, ⟨some 17, .call 19 [(.t 15), (.t 16)], none, [], [15, 16]⟩),
       (6, ⟨some 1, .mv (.t 17), none, [], [17]⟩)]))
    (.reg false [
      (0, ⟨some 10, .mv (.t 5), none, [], [5]⟩),
      (1, ⟨some 11, .bin .add (.t 10) (.c (.int .i64 (1))), none, [], [10]⟩),
      (2, ⟨some 5, .mv (.t 11), none, [], [11]⟩)])))
def B37 : CCode :=
  (.seq
   (.reg false [
     (0, ⟨some 4, .mv (.c (.int .i64 (0))), none, [], [4]⟩)])
   (.seq
    (.seq
     (.reg false [
       (0, ⟨some 5, .mv (.c (.int .i64 (0))), none, [], []⟩)])
     (.block 0
      (.loop L37_0)))
    (.seq
     (.reg false [
       (0, ⟨some 18, .mv (.t 1), none, [], [1]⟩),
       (1, ⟨some 4, .mv (.t 18), none, [], [18]⟩)])
     .ret)))
def C37 : CFn := ⟨19, 2, [.t 4], B37⟩

/-- laws.heldIntSS -/
def L38_0 : CCode :=
  (.seq
   (.seq
    (.reg false [
      (0, ⟨some 6, .mv (.t 5), none, [], []⟩),
      (1, ⟨some 7, .mv (.t 0), none, [], []⟩),
      (2, ⟨some 8, .len (.t 7), none, [], [7]⟩),
      (3, ⟨some 9, .bin .lss (.t 6) (.t 8), none, [], [6, 8]⟩)])
    (.cond (.t 9)
     (.seq
      (.kill [9])
      .skip)
     (.seq
      (.kill [0, 5, 9])
      (.exit 0))))
   (.seq
    (.block 1
     (.seq
      (.reg false [
        (0, ⟨some 12, .mv (.t 0), none, [], []⟩),
        (1, ⟨some 13, .mv (.t 5), none, [], []⟩),
        (2, ⟨some 14, .ia 1 (.t 12) (.t 13), none, [], [12, 13]⟩),
        (3, ⟨some 15, .ld 1 false (.t 14), none, [], [14]⟩),
        (4, ⟨some 16, .mv (.t 1), none, [], [1]⟩),
        (5, ⟨some 17, .call 20 [(.t 15), (.t 16)], none, [], [15, 16]⟩),
        (6, ⟨some 1, .mv (.t 17), none, [], [17]⟩)])
      (.seq
       (.reg false [
         (0, ⟨some 18, .mv (.t 1), none, [], []⟩),
         (1, ⟨some 19, .bin .lss (.t 18) (.c (.int .i64 (0))), none, [], [18]⟩)])
       (.cond (.t 19)
        (.seq
         (.kill [0, 1, 5, 19])
         (.seq
          (.reg false [
            (0, ⟨some 4, .mv (.c (.int .i64 (-1))), none, [], []⟩)])
          .ret))
        (.seq
         (.kill [19])
         .skip)))))
    (.reg false [
      (0, ⟨some 10, .mv (.t 5), none, [], [5]⟩),
      (1, ⟨some 11, .bin .add (.t 10) (.c (.int .i64 (1))), none, [], [10]⟩),
      (2, ⟨some 5, .mv (.t 11), none, [], [11]⟩)])))
def B38 : CCode :=
  (.seq
   (.reg false [
     (0, ⟨some 4, .mv (.c (.int .i64 (0))), none, [], [4]⟩)])
   (.seq
    (.seq
     (.reg false [
       (0, ⟨some 5, .mv (.c (.int .i64 (0))), none, [], []⟩)])
     (.block 0
      (.loop L38_0)))
    (.seq
     (.reg false [
       (0, ⟨some 20, .mv (.t 1), none, [], [1]⟩),
       (1, ⟨some 4, .mv (.t 20), none, [], [20]⟩)])
     .ret)))
def C38 : CFn := ⟨21, 2, [.t 4], B38⟩

/-- spec.CountModels -/
def L39_1 : CCode :=
  (.seq
   (.seq
    (.reg false [
      (0, ⟨some 20, .mv (.t 8), none, [], []⟩),
      (1, ⟨some 21, .mv (.t 0), none, [], []⟩),
      (2, ⟨some 22, .bin .lss (.t 20) (.t 21), none, [], [20, 21]⟩)])
    (.cond (.t 22)
     (.seq
      (.kill [22])
      .skip)
     (.seq
      (.kill [8, 22])
      (.exit 2))))
   (.seq
    (.block 3
     (.reg false [
       (0, ⟨some 25, .mv (.t 7), none, [], [7]⟩),
       (1, ⟨some 26, .mv (.t 6), none, [], []⟩),
       (2, ⟨some 27, .mv (.t 8), none, [], []⟩),
       (3, ⟨some 28, .bin .shr (.t 26) (.t 27), none, [], [26, 27]⟩),
       (4, ⟨some 29, .bin .and (.t 28) (.c (.int .i64 (1))), none, [], [28]⟩),
       (5, ⟨some 30, .bin .eql (.t 29) (.c (.int .i64 (1))), none, [], [29]⟩),
       (6, ⟨some 31, .bsl 1 1 [.bool false] [(0, 1, (.t 30))], none, [], [30]⟩),
       (7, ⟨some 32, .app 1 1 (.t 25) (.t 31), none, [], [25, 31]⟩),
       (8, ⟨some 7, .mv (.t 32), none, [], [32]⟩)]))
    (.reg false [
      (0, ⟨some 23, .mv (.t 8), none, [], [8]⟩),
      (1, ⟨some 24, .bin .add (.t 23) (.c (.int .i64 (1))), none, [], [23]⟩),
      (2, ⟨some 8, .mv (.t 24), none, [], [24]⟩)])))
def L39_0 : CCode :=
  (.seq
   (.seq
    (.reg false [
      (0, ⟨some 13, .mv (.t 6), none, [], []⟩),
      (1, ⟨some 14, .mv (.t 0), none, [], []⟩),
      (2, ⟨some 15, .bin .shl (.c (.int .i64 (1))) (.t 14), none, [], [14]⟩),
      (3, ⟨some 16, .bin .lss (.t 13) (.t 15), none, [], [13, 15]⟩)])
    (.cond (.t 16)
     (.seq
      (.kill [16])
      .skip)
     (.seq
      (.kill [0, 1, 6, 16])
      (.exit 0))))
   (.seq
    (.block 1
     (.seq
      (.reg false [
        (0, ⟨some 19, .bsl 1 0 [.bool false] [], none, [], []⟩),
        (1, ⟨some 7, .mv (.t 19), none, [], [19]⟩)])
      (.seq
       (.seq
        (.reg false [
          (0, ⟨some 8, .mv (.c (.int .i64 (0))), none, [], []⟩)])
        (.block 2
         (.loop L39_1)))
       (.seq
        (.reg false [
          (0, ⟨some 33, .mv (.t 1), none, [], []⟩),
          (1, ⟨some 34, .mv (.t 7), none, [], [7]⟩),
          (2, ⟨some 35, .call 31 [(.t 33), (.t 34)], none, [], [33, 34]⟩)])
        (.cond (.t 35)
         (.seq
          (.kill [35])
          (.reg false [
            (0, ⟨some 36, .mv (.t 5), none, [], [5]⟩),
            (1, ⟨some 37, .bin .add (.t 36) (.c (.int .i64 (1))), none, [], [36]⟩),
            (2, ⟨some 5, .mv (.t 37), none, [], [37]⟩)]))
         (.seq
          (.kill [35])
          .skip))))))
    (.reg false [
      (0, ⟨some 17, .mv (.t 6), none, [], [6]⟩),
      (1, ⟨some 18, .bin .add (.t 17) (.c (.int .i64 (1))), none, [], [17]⟩),
      (2, ⟨some 6, .mv (.t 18), none, [], [18]⟩)])))
def B39 : CCode :=
  (.seq
   (.reg false [
     (0, ⟨some 4, .mv (.c (.int .i64 (0))), none, [], [4]⟩)])
   (.seq
    (.seq
     (.reg false [
       (0, ⟨some 9, .mv (.t 0), none, [], []⟩),
       (1, ⟨some 10, .mv (.t 1), none, [], []⟩),
       (2, ⟨some 11, .call 33 [(.t 9), (.t 10)], none, [], [9, 10]⟩),
       (3, ⟨some 12, .not (.t 11), none, [], [11]⟩)])
     (.cond (.t 12)
      (.seq
       (.kill [0, 1, 12])
       (.seq
        (.reg false [
          (0, ⟨some 4, .mv (.c (.int .i64 (0))), none, [], []⟩)])
        .ret))
      (.seq
       (.kill [12])
       .skip)))
    (.seq
     (.reg false [
       (0, ⟨some 5, .mv (.c (.int .i64 (0))), none, [], []⟩)])
     (.seq
      (.seq
       (.reg false [
         (0, ⟨some 6, .mv (.c (.int .i64 (0))), none, [], []⟩)])
       (.block 0
        (.loop L39_0)))
      (.seq
       (.reg false [
         (0, ⟨some 38, .mv (.t 5), none, [], [5]⟩),
         (1, ⟨some 4, .mv (.t 38), none, [], [38]⟩)])
       .ret)))))
def C39 : CFn := ⟨39, 2, [.t 4], B39⟩

/-- impl.CountModels -/
def L40_1 : CCode :=
  (.seq
   (.reg false [
     (0, ⟨some 23, .bin .lss (.t 22) (.t 21), none, [], []⟩)])
   (.seq
    (.cond (.t 23)
     (.seq
      (.kill [23])
      .skip)
     (.seq
      (.kill [7, 21, 22, 23])
      (.exit 2)))
    (.seq
     (.block 3
      (.seq
       (.reg false [
         (0, ⟨some 24, .mv (.t 22), none, [], []⟩),
         (1, ⟨some 8, .mv (.t 24), none, [], [24]⟩)])
       (.reg false [
         (0, ⟨some 25, .mv (.t 6), none, [], []⟩),
         (1, ⟨some 26, .mv (.t 8), none, [], []⟩),
         (2, ⟨some 27, .mv (.t 7), none, [], []⟩),
         (3, ⟨some 28, .mv (.t 8), none, [], [8]⟩),
         (4, ⟨some 29, .bin .shr (.t 27) (.t 28), none, [], [27, 28]⟩),
         (5, ⟨some 30, .bin .and (.t 29) (.c (.int .i64 (1))), none, [], [29]⟩),
         (6, ⟨some 31, .bin .eql (.t 30) (.c (.int .i64 (1))), none, [], [30]⟩),
         (7, ⟨some 32, .ia 1 (.t 25) (.t 26), none, [], [25, 26]⟩),
         (8, ⟨none, .st 1 (.t 32) (.t 31), none, [], [31, 32]⟩)])))
     (.reg false [
       (0, ⟨some 33, .bin .add (.t 22) (.c (.int .i64 (1))), none, [], [22]⟩),
       (1, ⟨some 22, .mv (.t 33), none, [], [33]⟩)]))))
def L40_0 : CCode :=
  (.seq
   (.reg false [
     (0, ⟨some 18, .bin .lss (.t 17) (.t 16), none, [], []⟩)])
   (.seq
    (.cond (.t 18)
     (.seq
      (.kill [18])
      .skip)
     (.seq
      (.kill [1, 6, 16, 17, 18])
      (.exit 0)))
    (.seq
     (.block 1
      (.seq
       (.reg false [
         (0, ⟨some 19, .mv (.t 17), none, [], []⟩),
         (1, ⟨some 7, .mv (.t 19), none, [], [19]⟩)])
       (.seq
        (.seq
         (.reg false [
           (0, ⟨some 20, .mv (.t 6), none, [], []⟩),
           (1, ⟨some 21, .len (.t 20), none, [], [20]⟩),
           (2, ⟨some 22, .mv (.c (.int .i64 (0))), none, [], []⟩)])
         (.block 2
          (.loop L40_1)))
        (.seq
         (.reg false [
           (0, ⟨some 34, .mv (.t 1), none, [], []⟩),
           (1, ⟨some 35, .mv (.t 6), none, [], []⟩),
           (2, ⟨some 36, .call 32 [(.t 34), (.t 35)], none, [], [34, 35]⟩)])
         (.cond (.t 36)
          (.seq
           (.kill [36])
           (.reg false [
             (0, ⟨some 37, .mv (.t 5), none, [], [5]⟩),
             (1, ⟨some 38, .bin .add (.t 37) (.c (.int .i64 (1))), none, [], [37]⟩),
             (2, ⟨some 5, .mv (.t 38), none, [], [38]⟩)]))
          (.seq
           (.kill [36])
           .skip))))))
     (.reg false [
       (0, ⟨some 39, .bin .add (.t 17) (.c (.int .i64 (1))), none, [], [17]⟩),
       (1, ⟨some 17, .mv (.t 39), none, [], [39]⟩)]))))
def B40 : CCode :=
  (.seq
   (.reg false [
     (0, ⟨some 4, .mv (.c (.int .i64 (0))), none, [], [4]⟩)])
   (.seq
    (.seq
     (.reg false [
       (0, ⟨some 9, .mv (.t 0), none, [], []⟩),
       (1, ⟨some 10, .mv (.t 1), none, [], []⟩),
       (2, ⟨some 11, .call 34 [(.t 9), (.t 10)], none, [], [9, 10]⟩),
       (3, ⟨some 12, .not (.t 11), none, [], [11]⟩)])
     (.cond (.t 12)
      (.seq
       (.kill [0, 1, 12])
       (.seq
        (.reg false [
          (0, ⟨some 4, .mv (.c (.int .i64 (0))), none, [], []⟩)])
        .ret))
      (.seq
       (.kill [12])
       .skip)))
    (.seq
     (.reg true [
       (0, ⟨some 13, .mv (.t 0), none, [], []⟩),
       (1, ⟨some 14, .mk 1 1 [.bool false] (.t 13) (.t 13), none, [], [13]⟩),
       (2, ⟨some 5, .mv (.c (.int .i64 (0))), none, [], []⟩),
       (3, ⟨some 6, .mv (.t 14), none, [], [14]⟩)])
     (.seq
      (.seq
       (.reg false [
         (0, ⟨some 15, .mv (.t 0), none, [], [0]⟩),
         (1, ⟨some 16, .bin .shl (.c (.int .i64 (1))) (.t 15), none, [], [15]⟩),
         (2, ⟨some 17, .mv (.c (.int .i64 (0))), none, [], []⟩)])
       (.block 0
        (.loop L40_0)))
      (.seq
       (.reg false [
         (0, ⟨some 40, .mv (.t 5), none, [], [5]⟩),
         (1, ⟨some 4, .mv (.t 40), none, [], [40]⟩)])
       .ret)))))
def C40 : CFn := ⟨41, 2, [.t 4], B40⟩

/-- spec.IsRUPClause -/
def B41 : CCode :=
  (.seq
   (.reg false [
     (0, ⟨some 6, .mv (.c (.bool false)), none, [], [6]⟩)])
   (.seq
    (.seq
     (.reg false [
       (0, ⟨some 9, .mv (.t 0), none, [], []⟩),
       (1, ⟨some 10, .mv (.t 1), none, [], []⟩),
       (2, ⟨some 11, .call 33 [(.t 9), (.t 10)], none, [], [9, 10]⟩),
       (3, ⟨some 12, .not (.t 11), none, [], [11]⟩),
       (4, ⟨some 13, .mv (.t 12), none, [], [12]⟩),
       (5, ⟨some 14, .mv (.t 0), some (13, false), [], []⟩),
       (6, ⟨some 15, .mv (.t 2), some (13, false), [], []⟩),
       (7, ⟨some 16, .call 60 [(.t 14), (.t 15)], some (13, false), [], [14, 15]⟩),
       (8, ⟨some 17, .not (.t 16), some (13, false), [], [16]⟩),
       (9, ⟨some 18, .pick (.t 13) (.c (.bool true)) (.t 17), none, [], [13, 17]⟩)])
     (.cond (.t 18)
      (.seq
       (.kill [0, 1, 2, 18])
       (.seq
        (.reg false [
          (0, ⟨some 6, .mv (.c (.bool false)), none, [], []⟩)])
        .ret))
      (.seq
       (.kill [18])
       .skip)))
    (.seq
     (.reg false [
       (0, ⟨some 20, .mv (.t 0), none, [], [0]⟩),
       (1, ⟨some 21, .mv (.t 1), none, [], [1]⟩),
       (2, ⟨some 22, .mv (.t 2), none, [], [2]⟩),
       (3, ⟨some 23, .call 15 [(.t 22)], none, [], [22]⟩),
       (4, ⟨some 24, .call 43 [(.t 20), (.t 21), (.t 23)], none, [], [20, 21, 23]⟩),
       (5, ⟨some 19, .mv (.t 24), none, [], [24]⟩),
       (6, ⟨some 25, .ex (.t 19) 0, none, [], []⟩),
       (7, ⟨some 26, .ex (.t 19) 1, none, [], [19]⟩),
       (8, ⟨some 7, .mv (.t 25), none, [], [7, 25]⟩),
       (9, ⟨some 8, .mv (.t 26), none, [], [26]⟩)])
     (.seq
      (.reg false [
        (0, ⟨some 27, .mv (.t 8), none, [], [8]⟩),
        (1, ⟨some 6, .mv (.t 27), none, [], [27]⟩)])
      .ret))))
def C41 : CFn := ⟨28, 3, [.t 6], B41⟩

/-- impl.IsRUPClause -/
def B42 : CCode :=
  (.seq
   (.reg false [
     (0, ⟨some 6, .mv (.c (.bool false)), none, [], [6]⟩)])
   (.seq
    (.seq
     (.reg false [
       (0, ⟨some 9, .mv (.t 0), none, [], []⟩),
       (1, ⟨some 10, .mv (.t 1), none, [], []⟩),
       (2, ⟨some 11, .call 34 [(.t 9), (.t 10)], none, [], [9, 10]⟩),
       (3, ⟨some 12, .not (.t 11), none, [], [11]⟩),
       (4, ⟨some 13, .mv (.t 12), none, [], [12]⟩),
       (5, ⟨some 14, .mv (.t 0), some (13, false), [], [0]⟩),
       (6, ⟨some 15, .mv (.t 2), some (13, false), [], []⟩),
       (7, ⟨some 16, .call 63 [(.t 14), (.t 15)], some (13, false), [], [14, 15]⟩),
       (8, ⟨some 17, .not (.t 16), some (13, false), [], [16]⟩),
       (9, ⟨some 18, .pick (.t 13) (.c (.bool true)) (.t 17), none, [], [13, 17]⟩)])
     (.cond (.t 18)
      (.seq
       (.kill [1, 2, 18])
       (.seq
        (.reg false [
          (0, ⟨some 6, .mv (.c (.bool false)), none, [], []⟩)])
        .ret))
      (.seq
       (.kill [18])
       .skip)))
    (.seq
     (.reg false [
       (0, ⟨some 20, .mv (.t 1), none, [], [1]⟩),
       (1, ⟨some 21, .mv (.t 2), none, [], [2]⟩),
       (2, ⟨some 22, .call 17 [(.t 21)], none, [], [21]⟩),
       (3, ⟨some 23, .call 64 [(.t 20), (.t 22)], none, [], [20, 22]⟩),
       (4, ⟨some 19, .mv (.t 23), none, [], [23]⟩),
       (5, ⟨some 24, .ex (.t 19) 0, none, [], []⟩),
       (6, ⟨some 25, .ex (.t 19) 1, none, [], [19]⟩),
       (7, ⟨some 7, .mv (.t 24), none, [], [7, 24]⟩),
       (8, ⟨some 8, .mv (.t 25), none, [], [25]⟩)])
     (.seq
      (.reg false [
        (0, ⟨some 26, .mv (.t 8), none, [], [8]⟩),
        (1, ⟨some 6, .mv (.t 26), none, [], [26]⟩)])
      .ret))))
def C42 : CFn := ⟨27, 3, [.t 6], B42⟩

/-- spec.UnitPropagation -/
def B43 : CCode :=
  (.seq
   (.reg false [
     (0, ⟨some 6, .mv (.c (.nils)), none, [], [6]⟩),
     (1, ⟨some 7, .mv (.c (.bool false)), none, [], [7]⟩)])
   (.seq
    (.seq
     (.reg false [
       (0, ⟨some 10, .mv (.t 0), none, [], []⟩),
       (1, ⟨some 11, .mv (.t 1), none, [], []⟩),
       (2, ⟨some 12, .call 33 [(.t 10), (.t 11)], none, [], [10, 11]⟩),
       (3, ⟨some 13, .not (.t 12), none, [], [12]⟩),
       (4, ⟨some 14, .mv (.t 13), none, [], [13]⟩),
       (5, ⟨some 15, .mv (.t 0), some (14, false), [], [0]⟩),
       (6, ⟨some 16, .mv (.t 2), some (14, false), [], []⟩),
       (7, ⟨some 17, .call 60 [(.t 15), (.t 16)], some (14, false), [], [15, 16]⟩),
       (8, ⟨some 18, .not (.t 17), some (14, false), [], [17]⟩),
       (9, ⟨some 19, .pick (.t 14) (.c (.bool true)) (.t 18), none, [], [14, 18]⟩)])
     (.cond (.t 19)
      (.seq
       (.kill [1, 19])
       (.seq
        (.reg false [
          (0, ⟨some 20, .bsl 1 0 [.int .i64 (0)] [], none, [], []⟩),
          (1, ⟨some 21, .mv (.t 2), none, [], [2]⟩),
          (2, ⟨some 22, .app 1 8 (.t 20) (.t 21), none, [], [20, 21]⟩),
          (3, ⟨some 6, .mv (.t 22), none, [], [22]⟩),
          (4, ⟨some 7, .mv (.c (.bool false)), none, [], []⟩)])
        .ret))
      (.seq
       (.kill [19])
       .skip)))
    (.seq
     (.reg false [
       (0, ⟨some 24, .mv (.t 1), none, [], [1]⟩),
       (1, ⟨some 25, .mv (.t 2), none, [], [2]⟩),
       (2, ⟨some 26, .call 65 [(.t 24), (.t 25)], none, [], [24, 25]⟩),
       (3, ⟨some 23, .mv (.t 26), none, [], [26]⟩),
       (4, ⟨some 27, .ex (.t 23) 0, none, [], []⟩),
       (5, ⟨some 28, .ex (.t 23) 1, none, [], [23]⟩),
       (6, ⟨some 8, .mv (.t 27), none, [], [27]⟩),
       (7, ⟨some 9, .mv (.t 28), none, [], [28]⟩)])
     (.seq
      (.reg false [
        (0, ⟨some 29, .mv (.t 8), none, [], [8]⟩),
        (1, ⟨some 30, .mv (.t 9), none, [], [9]⟩),
        (2, ⟨some 6, .mv (.t 29), none, [], [29]⟩),
        (3, ⟨some 7, .mv (.t 30), none, [], [30]⟩)])
      .ret))))
def C43 : CFn := ⟨31, 3, [.t 6, .t 7], B43⟩

/-- impl.UnitPropagation -/
def B44 : CCode :=
  (.seq
   (.reg false [
     (0, ⟨some 6, .mv (.c (.nils)), none, [], [6]⟩),
     (1, ⟨some 7, .mv (.c (.bool false)), none, [], [7]⟩)])
   (.seq
    (.seq
     (.reg false [
       (0, ⟨some 8, .mv (.t 0), none, [], []⟩),
       (1, ⟨some 9, .mv (.t 1), none, [], []⟩),
       (2, ⟨some 10, .call 34 [(.t 8), (.t 9)], none, [], [8, 9]⟩),
       (3, ⟨some 11, .not (.t 10), none, [], [10]⟩),
       (4, ⟨some 12, .mv (.t 11), none, [], [11]⟩),
       (5, ⟨some 13, .mv (.t 0), some (12, false), [], [0]⟩),
       (6, ⟨some 14, .mv (.t 2), some (12, false), [], []⟩),
       (7, ⟨some 15, .call 63 [(.t 13), (.t 14)], some (12, false), [], [13, 14]⟩),
       (8, ⟨some 16, .not (.t 15), some (12, false), [], [15]⟩),
       (9, ⟨some 17, .pick (.t 12) (.c (.bool true)) (.t 16), none, [], [12, 16]⟩)])
     (.cond (.t 17)
      (.seq
       (.kill [1, 17])
       (.seq
        (.reg false [
          (0, ⟨some 18, .bsl 1 0 [.int .i64 (0)] [], none, [], []⟩),
          (1, ⟨some 19, .mv (.t 2), none, [], [2]⟩),
          (2, ⟨some 20, .app 1 8 (.t 18) (.t 19), none, [], [18, 19]⟩),
          (3, ⟨some 6, .mv (.t 20), none, [], [20]⟩),
          (4, ⟨some 7, .mv (.c (.bool false)), none, [], []⟩)])
        .ret))
      (.seq
       (.kill [17])
       .skip)))
    (.seq
     (.reg false [
       (0, ⟨some 21, .mv (.t 1), none, [], [1]⟩),
       (1, ⟨some 22, .mv (.t 2), none, [], [2]⟩),
       (2, ⟨some 23, .call 64 [(.t 21), (.t 22)], none, [], [21, 22]⟩),
       (3, ⟨some 24, .ex (.t 23) 0, none, [], []⟩),
       (4, ⟨some 25, .ex (.t 23) 1, none, [], [23]⟩),
       (5, ⟨some 6, .mv (.t 24), none, [], [24]⟩),
       (6, ⟨some 7, .mv (.t 25), none, [], [25]⟩)])
     .ret)))
def C44 : CFn := ⟨26, 3, [.t 6, .t 7], B44⟩

/-- spec.IsValidProof -/
def L45_0 : CCode :=
  (.seq
   (.seq
    (.reg false [
      (0, ⟨some 33, .mv (.t 8), none, [], []⟩),
      (1, ⟨some 34, .mv (.t 2), none, [], []⟩),
      (2, ⟨some 35, .len (.t 34), none, [], [34]⟩),
      (3, ⟨some 36, .bin .lss (.t 33) (.t 35), none, [], [33, 35]⟩)])
    (.cond (.t 36)
     (.seq
      (.kill [36])
      .skip)
     (.seq
      (.kill [0, 2, 7, 8, 36])
      (.exit 0))))
   (.seq
    (.block 1
     (.seq
      (.seq
       (.reg false [
         (0, ⟨some 39, .mv (.t 0), none, [], []⟩),
         (1, ⟨some 40, .mv (.t 2), none, [], []⟩),
         (2, ⟨some 41, .mv (.t 8), none, [], []⟩),
         (3, ⟨some 42, .ia 1 (.t 40) (.t 41), none, [], [40, 41]⟩),
         (4, ⟨some 43, .ld 1 false (.t 42), none, [], [42]⟩),
         (5, ⟨some 44, .call 60 [(.t 39), (.t 43)], none, [], [39, 43]⟩),
         (6, ⟨some 45, .not (.t 44), none, [], [44]⟩)])
       (.cond (.t 45)
        (.seq
         (.kill [0, 2, 7, 8, 45])
         (.seq
          (.reg false [
            (0, ⟨some 6, .mv (.c (.bool false)), none, [], []⟩)])
          .ret))
        (.seq
         (.kill [45])
         .skip)))
      (.seq
       (.reg false [
         (0, ⟨some 47, .mv (.t 7), none, [], []⟩),
         (1, ⟨some 48, .mv (.t 2), none, [], []⟩),
         (2, ⟨some 49, .mv (.t 8), none, [], []⟩),
         (3, ⟨some 50, .ia 1 (.t 48) (.t 49), none, [], [48, 49]⟩),
         (4, ⟨some 51, .ld 1 false (.t 50), none, [], [50]⟩),
         (5, ⟨some 52, .call 15 [(.t 51)], none, [], [51]⟩),
         (6, ⟨some 53, .call 65 [(.t 47), (.t 52)], none, [], [47, 52]⟩),
         (7, ⟨some 46, .mv (.t 53), none, [], [53]⟩),
         (8, ⟨some 54, .ex (.t 46) 0, none, [], []⟩),
         (9, ⟨some 55, .ex (.t 46) 1, none, [], [46]⟩),
         (10, ⟨some 9, .mv (.t 54), none, [], [9, 54]⟩),
         (11, ⟨some 10, .mv (.t 55), none, [], [55]⟩)])
       (.seq
        (.seq
         (.reg false [
           (0, ⟨some 56, .mv (.t 10), none, [], [10]⟩),
           (1, ⟨some 57, .not (.t 56), none, [], [56]⟩)])
         (.cond (.t 57)
          (.seq
           (.kill [0, 2, 7, 8, 57])
           (.seq
            (.reg false [
              (0, ⟨some 6, .mv (.c (.bool false)), none, [], []⟩)])
            .ret))
          (.seq
           (.kill [57])
           .skip)))
        (.reg false [
          (0, ⟨some 58, .mv (.t 7), none, [], [7]⟩),
          (1, ⟨some 59, .mv (.t 2), none, [], []⟩),
          (2, ⟨some 60, .mv (.t 8), none, [], []⟩),
          (3, ⟨some 61, .ia 1 (.t 59) (.t 60), none, [], [59, 60]⟩),
          (4, ⟨some 62, .ld 1 false (.t 61), none, [], [61]⟩),
          (5, ⟨some 63, .bsl 1 1 [.nils] [(0, 1, (.t 62))], none, [], [62]⟩),
          (6, ⟨some 64, .app 1 24 (.t 58) (.t 63), none, [], [58, 63]⟩),
          (7, ⟨some 7, .mv (.t 64), none, [], [64]⟩)])))))
    (.reg false [
      (0, ⟨some 37, .mv (.t 8), none, [], [8]⟩),
      (1, ⟨some 38, .bin .add (.t 37) (.c (.int .i64 (1))), none, [], [37]⟩),
      (2, ⟨some 8, .mv (.t 38), none, [], [38]⟩)])))
def B45 : CCode :=
  (.seq
   (.reg false [
     (0, ⟨some 6, .mv (.c (.bool false)), none, [], [6]⟩)])
   (.seq
    (.seq
     (.reg false [
       (0, ⟨some 11, .mv (.t 0), none, [], []⟩),
       (1, ⟨some 12, .mv (.t 1), none, [], []⟩),
       (2, ⟨some 13, .call 33 [(.t 11), (.t 12)], none, [], [11, 12]⟩),
       (3, ⟨some 14, .not (.t 13), none, [], [13]⟩),
       (4, ⟨some 15, .mv (.t 14), none, [], [14]⟩),
       (5, ⟨some 16, .mv (.t 2), some (15, false), [], []⟩),
       (6, ⟨some 17, .len (.t 16), some (15, false), [], [16]⟩),
       (7, ⟨some 18, .bin .eql (.t 17) (.c (.int .i64 (0))), some (15, false), [], [17]⟩),
       (8, ⟨some 19, .pick (.t 15) (.c (.bool true)) (.t 18), none, [], [15, 18]⟩),
       (9, ⟨some 20, .mv (.t 19), none, [], [19]⟩),
       (10, ⟨some 21, .mv (.t 2), some (20, false), [], []⟩),
       (11, ⟨some 22, .mv (.t 2), some (20, false), [], []⟩),
       (12, ⟨some 23, .len (.t 22), some (20, false), [], [22]⟩),
       (13, ⟨some 24, .bin .sub (.t 23) (.c (.int .i64 (1))), some (20, false), [], [23]⟩),
       (14, ⟨some 25, .ia 1 (.t 21) (.t 24), some (20, false), [], [21, 24]⟩),
       (15, ⟨some 26, .ld 1 false (.t 25), some (20, false), [], [25]⟩),
       (16, ⟨some 27, .len (.t 26), some (20, false), [], [26]⟩),
       (17, ⟨some 28, .bin .gtr (.t 27) (.c (.int .i64 (0))), some (20, false), [], [27]⟩),
       (18, ⟨some 29, .pick (.t 20) (.c (.bool true)) (.t 28), none, [], [20, 28]⟩)])
     (.cond (.t 29)
      (.seq
       (.kill [0, 1, 2, 29])
       (.seq
        (.reg false [
          (0, ⟨some 6, .mv (.c (.bool false)), none, [], []⟩)])
        .ret))
      (.seq
       (.kill [29])
       .skip)))
    (.seq
     (.reg false [
       (0, ⟨some 30, .bsl 1 0 [.nils] [], none, [], []⟩),
       (1, ⟨some 31, .mv (.t 1), none, [], [1]⟩),
       (2, ⟨some 32, .app 1 24 (.t 30) (.t 31), none, [], [30, 31]⟩),
       (3, ⟨some 7, .mv (.t 32), none, [], [32]⟩)])
     (.seq
      (.seq
       (.reg false [
         (0, ⟨some 8, .mv (.c (.int .i64 (0))), none, [], []⟩)])
       (.block 0
        (.loop L45_0)))
      (.seq
       (.reg false [
         (0, ⟨some 6, .mv (.c (.bool true)), none, [], []⟩)])
       .ret)))))
def C45 : CFn := ⟨65, 3, [.t 6], B45⟩

/-- impl.IsValidProof -/
def L46_0 : CCode :=
  (.seq
   (.reg false [
     (0, ⟨some 32, .bin .lss (.t 31) (.t 30), none, [], []⟩)])
   (.seq
    (.cond (.t 32)
     (.seq
      (.kill [32])
      .skip)
     (.seq
      (.kill [7, 29, 30, 31, 32])
      (.exit 0)))
    (.seq
     (.block 1
      (.seq
       (.reg false [
         (0, ⟨some 33, .ia 1 (.t 29) (.t 31), none, [], []⟩),
         (1, ⟨some 34, .ld 1 false (.t 33), none, [], [33]⟩),
         (2, ⟨some 9, .mv (.t 34), none, [], [34]⟩)])
       (.seq
        (.seq
         (.reg false [
           (0, ⟨some 36, .mv (.t 7), none, [], []⟩),
           (1, ⟨some 37, .mv (.t 9), none, [], []⟩),
           (2, ⟨some 38, .call 17 [(.t 37)], none, [], [37]⟩),
           (3, ⟨some 39, .call 64 [(.t 36), (.t 38)], none, [], [36, 38]⟩),
           (4, ⟨some 35, .mv (.t 39), none, [], [39]⟩),
           (5, ⟨some 40, .ex (.t 35) 0, none, [], []⟩),
           (6, ⟨some 41, .ex (.t 35) 1, none, [], [35]⟩),
           (7, ⟨some 10, .mv (.t 40), none, [], [10, 40]⟩),
           (8, ⟨some 11, .mv (.t 41), none, [], [41]⟩)])
         (.seq
          (.reg false [
            (0, ⟨some 42, .mv (.t 11), none, [], [11]⟩),
            (1, ⟨some 43, .not (.t 42), none, [], [42]⟩)])
          (.cond (.t 43)
           (.seq
            (.kill [2, 7, 9, 29, 30, 31, 43])
            (.seq
             (.reg false [
               (0, ⟨some 6, .mv (.c (.bool false)), none, [], []⟩)])
             .ret))
           (.seq
            (.kill [43])
            .skip))))
        (.reg false [
          (0, ⟨some 44, .mv (.t 7), none, [], [7]⟩),
          (1, ⟨some 45, .mv (.t 9), none, [], [9]⟩),
          (2, ⟨some 46, .bsl 1 1 [.nils] [(0, 1, (.t 45))], none, [], [45]⟩),
          (3, ⟨some 47, .app 1 24 (.t 44) (.t 46), none, [], [44, 46]⟩),
          (4, ⟨some 7, .mv (.t 47), none, [], [47]⟩)]))))
     (.reg false [
       (0, ⟨some 48, .bin .add (.t 31) (.c (.int .i64 (1))), none, [], [31]⟩),
       (1, ⟨some 31, .mv (.t 48), none, [], [48]⟩)]))))
def B46 : CCode :=
  (.seq
   (.reg false [
     (0, ⟨some 6, .mv (.c (.bool false)), none, [], [6]⟩)])
   (.seq
    (.seq
     (.reg false [
       (0, ⟨some 12, .mv (.t 0), none, [], []⟩),
       (1, ⟨some 13, .mv (.t 1), none, [], []⟩),
       (2, ⟨some 14, .call 34 [(.t 12), (.t 13)], none, [], [12, 13]⟩),
       (3, ⟨some 15, .not (.t 14), none, [], [14]⟩),
       (4, ⟨some 16, .mv (.t 15), none, [], [15]⟩),
       (5, ⟨some 17, .mv (.t 2), some (16, false), [], []⟩),
       (6, ⟨some 18, .len (.t 17), some (16, false), [], [17]⟩),
       (7, ⟨some 19, .bin .eql (.t 18) (.c (.int .i64 (0))), some (16, false), [], [18]⟩),
       (8, ⟨some 20, .pick (.t 16) (.c (.bool true)) (.t 19), none, [], [16, 19]⟩),
       (9, ⟨some 21, .mv (.t 20), none, [], [20]⟩),
       (10, ⟨some 22, .mv (.t 0), some (21, false), [], [0]⟩),
       (11, ⟨some 23, .mv (.t 2), some (21, false), [], []⟩),
       (12, ⟨some 24, .call 62 [(.t 22), (.t 23)], some (21, false), [], [22, 23]⟩),
       (13, ⟨some 25, .not (.t 24), some (21, false), [], [24]⟩),
       (14, ⟨some 26, .pick (.t 21) (.c (.bool true)) (.t 25), none, [], [21, 25]⟩)])
     (.cond (.t 26)
      (.seq
       (.kill [1, 2, 26])
       (.seq
        (.reg false [
          (0, ⟨some 6, .mv (.c (.bool false)), none, [], []⟩)])
        .ret))
      (.seq
       (.kill [26])
       .skip)))
    (.seq
     (.reg false [
       (0, ⟨some 27, .mv (.t 1), none, [], [1]⟩),
       (1, ⟨some 28, .call 66 [(.t 27)], none, [], [27]⟩),
       (2, ⟨some 7, .mv (.t 28), none, [], [28]⟩)])
     (.seq
      (.seq
       (.reg false [
         (0, ⟨some 29, .mv (.t 2), none, [], []⟩),
         (1, ⟨some 30, .len (.t 29), none, [], []⟩),
         (2, ⟨some 31, .mv (.c (.int .i64 (0))), none, [], []⟩)])
       (.block 0
        (.loop L46_0)))
      (.seq
       (.reg false [
         (0, ⟨some 49, .mv (.t 2), none, [], []⟩),
         (1, ⟨some 50, .mv (.t 2), none, [], [2]⟩),
         (2, ⟨some 51, .len (.t 50), none, [], [50]⟩),
         (3, ⟨some 52, .bin .sub (.t 51) (.c (.int .i64 (1))), none, [], [51]⟩),
         (4, ⟨some 53, .ia 1 (.t 49) (.t 52), none, [], [49, 52]⟩),
         (5, ⟨some 54, .ld 1 false (.t 53), none, [], [53]⟩),
         (6, ⟨some 55, .len (.t 54), none, [], [54]⟩),
         (7, ⟨some 56, .bin .eql (.t 55) (.c (.int .i64 (0))), none, [], [55]⟩),
         (8, ⟨some 6, .mv (.t 56), none, [], [56]⟩)])
       .ret)))))
def C46 : CFn := ⟨57, 3, [.t 6], B46⟩

/-- laws.big -/
def B47 : CCode :=
  (.seq
   (.reg false [
     (0, ⟨some 2, .mv (.c (.bool false)), none, [], [2]⟩)])
   (.seq
    (.reg false [
      (0, ⟨some 3, .mv (.t 0), none, [], [0]⟩),
      (1, ⟨some 4, .len (.t 3), none, [], [3]⟩),
      (2, ⟨some 5, .bin .gtr (.t 4) (.c (.int .i64 (1048576))), none, [], [4]⟩),
      (3, ⟨some 2, .mv (.t 5), none, [], [5]⟩)])
    .ret))
def C47 : CFn := ⟨6, 1, [.t 2], B47⟩

/-- spec.DrawUnitPropagation -/
def B48 : CCode :=
  (.seq
   (.reg false [
     (0, ⟨some 2, .mv (.c (.int .i64 (0))), none, [], [2]⟩),
     (1, ⟨some 3, .mv (.c (.nils)), none, [], [3]⟩),
     (2, ⟨some 4, .mv (.c (.nils)), none, [], [4]⟩)])
   (.seq
    (.reg false [
      (0, ⟨some 8, .mv (.t 0), none, [], [0]⟩),
      (1, ⟨some 9, .call 67 [(.t 8)], none, [], [8]⟩),
      (2, ⟨some 5, .mv (.t 9), none, [], [9]⟩)])
    (.seq
     (.reg false [
       (0, ⟨some 11, .mv (.t 5), none, [], []⟩),
       (1, ⟨some 12, .call 68 [(.t 11)], none, [], [11]⟩),
       (2, ⟨some 10, .mv (.t 12), none, [], [12]⟩),
       (3, ⟨some 13, .ex (.t 10) 0, none, [], []⟩),
       (4, ⟨some 14, .ex (.t 10) 1, none, [], [10]⟩),
       (5, ⟨some 6, .mv (.t 13), none, [], [13]⟩),
       (6, ⟨some 7, .mv (.t 14), none, [], [14]⟩)])
     (.seq
      (.reg false [
        (0, ⟨some 15, .mv (.t 6), none, [], []⟩),
        (1, ⟨some 16, .mv (.t 7), none, [], [7]⟩),
        (2, ⟨some 17, .mv (.t 5), none, [], [5]⟩),
        (3, ⟨some 18, .mv (.t 6), none, [], [6]⟩),
        (4, ⟨some 19, .call 69 [(.t 17), (.t 18)], none, [], [17, 18]⟩),
        (5, ⟨some 2, .mv (.t 15), none, [], [15]⟩),
        (6, ⟨some 3, .mv (.t 16), none, [], [16]⟩),
        (7, ⟨some 4, .mv (.t 19), none, [], [19]⟩)])
      .ret))))
def C48 : CFn := ⟨20, 1, [.t 2, .t 3, .t 4], B48⟩

/-- laws.sameInts -/
def L49_0 : CCode :=
  (.seq
   (.seq
    (.reg false [
      (0, ⟨some 11, .mv (.t 5), none, [], []⟩),
      (1, ⟨some 12, .mv (.t 0), none, [], []⟩),
      (2, ⟨some 13, .len (.t 12), none, [], [12]⟩),
      (3, ⟨some 14, .bin .lss (.t 11) (.t 13), none, [], [11, 13]⟩)])
    (.cond (.t 14)
     (.seq
      (.kill [14])
      .skip)
     (.seq
      (.kill [0, 1, 5, 14])
      (.exit 0))))
   (.seq
    (.block 1
     (.seq
      (.reg true [
        (0, ⟨some 17, .mv (.t 0), none, [], []⟩),
        (1, ⟨some 18, .mv (.t 5), none, [], []⟩),
        (2, ⟨some 19, .ia 1 (.t 17) (.t 18), none, [], [17, 18]⟩),
        (3, ⟨some 20, .ld 1 false (.t 19), none, [], [19]⟩),
        (4, ⟨some 21, .mv (.t 1), none, [], []⟩),
        (5, ⟨some 22, .mv (.t 5), none, [], []⟩),
        (6, ⟨some 23, .ia 1 (.t 21) (.t 22), none, [], [21, 22]⟩),
        (7, ⟨some 24, .ld 1 false (.t 23), none, [], [23]⟩),
        (8, ⟨some 25, .bin .neq (.t 20) (.t 24), none, [], [20, 24]⟩)])
      (.cond (.t 25)
       (.seq
        (.kill [0, 1, 5, 25])
        (.seq
         (.reg false [
           (0, ⟨some 4, .mv (.c (.bool false)), none, [], []⟩)])
         .ret))
       (.seq
        (.kill [25])
        .skip))))
    (.reg false [
      (0, ⟨some 15, .mv (.t 5), none, [], [5]⟩),
      (1, ⟨some 16, .bin .add (.t 15) (.c (.int .i64 (1))), none, [], [15]⟩),
      (2, ⟨some 5, .mv (.t 16), none, [], [16]⟩)])))
def B49 : CCode :=
  (.seq
   (.reg false [
     (0, ⟨some 4, .mv (.c (.bool false)), none, [], [4]⟩)])
   (.seq
    (.seq
     (.reg false [
       (0, ⟨some 6, .mv (.t 0), none, [], []⟩),
       (1, ⟨some 7, .len (.t 6), none, [], [6]⟩),
       (2, ⟨some 8, .mv (.t 1), none, [], []⟩),
       (3, ⟨some 9, .len (.t 8), none, [], [8]⟩),
       (4, ⟨some 10, .bin .neq (.t 7) (.t 9), none, [], [7, 9]⟩)])
     (.cond (.t 10)
      (.seq
       (.kill [0, 1, 10])
       (.seq
        (.reg false [
          (0, ⟨some 4, .mv (.c (.bool false)), none, [], []⟩)])
        .ret))
      (.seq
       (.kill [10])
       .skip)))
    (.seq
     (.seq
      (.reg false [
        (0, ⟨some 5, .mv (.c (.int .i64 (0))), none, [], []⟩)])
      (.block 0
       (.loop L49_0)))
     (.seq
      (.reg false [
        (0, ⟨some 4, .mv (.c (.bool true)), none, [], []⟩)])
      .ret))))
def C49 : CFn := ⟨26, 2, [.t 4], B49⟩

/-- spec.DrawIsRUPClause -/
def B50 : CCode :=
  (.seq
   (.reg false [
     (0, ⟨some 2, .mv (.c (.int .i64 (0))), none, [], [2]⟩),
     (1, ⟨some 3, .mv (.c (.nils)), none, [], [3]⟩),
     (2, ⟨some 4, .mv (.c (.nils)), none, [], [4]⟩)])
   (.seq
    (.reg false [
      (0, ⟨some 5, .mv (.t 0), none, [], [0]⟩),
      (1, ⟨some 6, .call 48 [(.t 5)], none, [], [5]⟩),
      (2, ⟨some 7, .ex (.t 6) 0, none, [], []⟩),
      (3, ⟨some 8, .ex (.t 6) 1, none, [], []⟩),
      (4, ⟨some 9, .ex (.t 6) 2, none, [], [6]⟩),
      (5, ⟨some 2, .mv (.t 7), none, [], [7]⟩),
      (6, ⟨some 3, .mv (.t 8), none, [], [8]⟩),
      (7, ⟨some 4, .mv (.t 9), none, [], [9]⟩)])
    .ret))
def C50 : CFn := ⟨10, 1, [.t 2, .t 3, .t 4], B50⟩

/-- laws.szIntS -/
def B51 : CCode :=
  (.seq
   (.reg false [
     (0, ⟨some 4, .mv (.c (.int .i64 (0))), none, [], [4]⟩)])
   (.seq
    (.reg false [
      (0, ⟨some 5, .mv (.t 1), none, [], [1]⟩),
      (1, ⟨some 6, .mv (.t 0), none, [], [0]⟩),
      (2, ⟨some 7, .len (.t 6), none, [], [6]⟩),
      (3, ⟨some 8, .bin .sub (.t 5) (.t 7), none, [], [5, 7]⟩),
      (4, ⟨some 1, .mv (.t 8), none, [], [8]⟩)])
    (.seq
     (.seq
      (.reg false [
        (0, ⟨some 9, .mv (.t 1), none, [], []⟩),
        (1, ⟨some 10, .bin .lss (.t 9) (.c (.int .i64 (0))), none, [], [9]⟩)])
      (.cond (.t 10)
       (.seq
        (.kill [1, 10])
        (.seq
         (.reg false [
           (0, ⟨some 4, .mv (.c (.int .i64 (-1))), none, [], []⟩)])
         .ret))
       (.seq
        (.kill [10])
        .skip)))
     (.seq
      (.reg false [
        (0, ⟨some 11, .mv (.t 1), none, [], [1]⟩),
        (1, ⟨some 4, .mv (.t 11), none, [], [11]⟩)])
      .ret))))
def C51 : CFn := ⟨12, 2, [.t 4], B51⟩

/-- spec.l13Met -/
def L52_1 : CCode :=
  (.seq
   (.seq
    (.reg false [
      (0, ⟨some 14, .mv (.t 7), none, [], []⟩),
      (1, ⟨some 15, .mv (.t 0), none, [], []⟩),
      (2, ⟨some 16, .mv (.t 5), none, [], []⟩),
      (3, ⟨some 17, .ia 1 (.t 15) (.t 16), none, [], [15, 16]⟩),
      (4, ⟨some 18, .ld 1 false (.t 17), none, [], [17]⟩),
      (5, ⟨some 19, .len (.t 18), none, [], [18]⟩),
      (6, ⟨some 20, .bin .lss (.t 14) (.t 19), none, [], [14, 19]⟩)])
    (.cond (.t 20)
     (.seq
      (.kill [20])
      .skip)
     (.seq
      (.kill [7, 20])
      (.exit 2))))
   (.seq
    (.block 3
     (.reg false [
       (0, ⟨some 23, .mv (.t 6), none, [], [6]⟩),
       (1, ⟨some 24, .mv (.t 23), none, [], [23]⟩),
       (2, ⟨some 25, .mv (.t 1), some (24, true), [], []⟩),
       (3, ⟨some 26, .mv (.t 0), some (24, true), [], []⟩),
       (4, ⟨some 27, .mv (.t 5), some (24, true), [], []⟩),
       (5, ⟨some 28, .ia 1 (.t 26) (.t 27), some (24, true), [], [26, 27]⟩),
       (6, ⟨some 29, .ld 1 false (.t 28), some (24, true), [], [28]⟩),
       (7, ⟨some 30, .mv (.t 7), some (24, true), [], []⟩),
       (8, ⟨some 31, .ia 1 (.t 29) (.t 30), some (24, true), [], [29, 30]⟩),
       (9, ⟨some 32, .ld 1 false (.t 31), some (24, true), [], [31]⟩),
       (10, ⟨some 33, .call 70 [(.t 25), (.t 32)], some (24, true), [], [25, 32]⟩),
       (11, ⟨some 34, .pick (.t 24) (.t 33) (.c (.bool false)), none, [], [24, 33]⟩),
       (12, ⟨some 6, .mv (.t 34), none, [], [34]⟩)]))
    (.reg false [
      (0, ⟨some 21, .mv (.t 7), none, [], [7]⟩),
      (1, ⟨some 22, .bin .add (.t 21) (.c (.int .i64 (1))), none, [], [21]⟩),
      (2, ⟨some 7, .mv (.t 22), none, [], [22]⟩)])))
def L52_0 : CCode :=
  (.seq
   (.seq
    (.reg false [
      (0, ⟨some 8, .mv (.t 5), none, [], []⟩),
      (1, ⟨some 9, .mv (.t 0), none, [], []⟩),
      (2, ⟨some 10, .len (.t 9), none, [], [9]⟩),
      (3, ⟨some 11, .bin .lss (.t 8) (.t 10), none, [], [8, 10]⟩)])
    (.cond (.t 11)
     (.seq
      (.kill [11])
      .skip)
     (.seq
      (.kill [0, 1, 5, 11])
      (.exit 0))))
   (.seq
    (.block 1
     (.seq
      (.reg false [
        (0, ⟨some 6, .mv (.c (.bool true)), none, [], []⟩)])
      (.seq
       (.seq
        (.reg false [
          (0, ⟨some 7, .mv (.c (.int .i64 (0))), none, [], []⟩)])
        (.block 2
         (.loop L52_1)))
       (.seq
        (.reg false [
          (0, ⟨some 35, .mv (.t 6), none, [], [6]⟩)])
        (.cond (.t 35)
         (.seq
          (.kill [0, 1, 5, 35])
          (.seq
           (.reg false [
             (0, ⟨some 4, .mv (.c (.bool true)), none, [], []⟩)])
           .ret))
         (.seq
          (.kill [35])
          .skip))))))
    (.reg false [
      (0, ⟨some 12, .mv (.t 5), none, [], [5]⟩),
      (1, ⟨some 13, .bin .add (.t 12) (.c (.int .i64 (1))), none, [], [12]⟩),
      (2, ⟨some 5, .mv (.t 13), none, [], [13]⟩)])))
def B52 : CCode :=
  (.seq
   (.reg false [
     (0, ⟨some 4, .mv (.c (.bool false)), none, [], [4]⟩)])
   (.seq
    (.seq
     (.reg false [
       (0, ⟨some 5, .mv (.c (.int .i64 (0))), none, [], []⟩)])
     (.block 0
      (.loop L52_0)))
    (.seq
     (.reg false [
       (0, ⟨some 4, .mv (.c (.bool false)), none, [], []⟩)])
     .ret)))
def C52 : CFn := ⟨36, 2, [.t 4], B52⟩

/-- slices.ContainsFunc[[][]int,[]int] -/
def B53 : CCode :=
  (.seq
   (.reg false [
     (0, ⟨some 4, .mv (.c (.bool false)), none, [], [4]⟩)])
   (.seq
    (.reg false [
      (0, ⟨some 5, .mv (.t 0), none, [], [0]⟩),
      (1, ⟨some 6, .mv (.t 1), none, [], [1]⟩),
      (2, ⟨some 7, .call 71 [(.t 5), (.t 6)], none, [], [5, 6]⟩),
      (3, ⟨some 8, .bin .geq (.t 7) (.c (.int .i64 (0))), none, [], [7]⟩),
      (4, ⟨some 4, .mv (.t 8), none, [], [8]⟩)])
    .ret))
def C53 : CFn := ⟨9, 2, [.t 4], B53⟩

/-- impl.IsCovered$1 -/
def B54 : CCode :=
  (.seq
   (.reg false [
     (0, ⟨some 3, .mv (.c (.bool false)), none, [], [3]⟩)])
   (.seq
    (.reg false [
      (0, ⟨some 4, .mv (.t 0), none, [], [0]⟩),
      (1, ⟨some 5, .ld 1 false (.t 1), none, [], [1]⟩),
      (2, ⟨some 6, .call 55 [(.t 4), (.t 5)], none, [], [4, 5]⟩),
      (3, ⟨some 3, .mv (.t 6), none, [], [6]⟩)])
    .ret))
def C54 : CFn := ⟨7, 2, [.t 3], B54⟩

/-- impl.isSubset -/
def B55 : CCode :=
  (.seq
   (.reg false [
     (0, ⟨some 3, .box 1 (.t 1), none, [], [1]⟩),
     (1, ⟨some 4, .mv (.c (.bool false)), none, [], [4]⟩)])
   (.seq
    (.reg false [
      (0, ⟨some 5, .mv (.t 0), none, [], [0]⟩),
      (1, ⟨some 6, .fn 72 [(.t 3)], none, [], [3]⟩),
      (2, ⟨some 7, .call 57 [(.t 5), (.t 6)], none, [], [5, 6]⟩),
      (3, ⟨some 8, .not (.t 7), none, [], [7]⟩),
      (4, ⟨some 4, .mv (.t 8), none, [], [8]⟩)])
    .ret))
def C55 : CFn := ⟨9, 2, [.t 4], B55⟩

/-- impl.SatisfiesClauses$1 -/
def B56 : CCode :=
  (.seq
   (.reg false [
     (0, ⟨some 3, .mv (.c (.bool false)), none, [], [3]⟩)])
   (.seq
    (.reg false [
      (0, ⟨some 4, .mv (.t 0), none, [], [0]⟩),
      (1, ⟨some 5, .fn 58 [(.t 1)], none, [], [1]⟩),
      (2, ⟨some 6, .call 57 [(.t 4), (.t 5)], none, [], [4, 5]⟩),
      (3, ⟨some 7, .not (.t 6), none, [], [6]⟩),
      (4, ⟨some 3, .mv (.t 7), none, [], [7]⟩)])
    .ret))
def C56 : CFn := ⟨8, 2, [.t 3], B56⟩

/-- slices.ContainsFunc[[]int,int] -/
def B57 : CCode :=
  (.seq
   (.reg false [
     (0, ⟨some 4, .mv (.c (.bool false)), none, [], [4]⟩)])
   (.seq
    (.reg false [
      (0, ⟨some 5, .mv (.t 0), none, [], [0]⟩),
      (1, ⟨some 6, .mv (.t 1), none, [], [1]⟩),
      (2, ⟨some 7, .call 74 [(.t 5), (.t 6)], none, [], [5, 6]⟩),
      (3, ⟨some 8, .bin .geq (.t 7) (.c (.int .i64 (0))), none, [], [7]⟩),
      (4, ⟨some 4, .mv (.t 8), none, [], [8]⟩)])
    .ret))
def C57 : CFn := ⟨9, 2, [.t 4], B57⟩

/-- impl.SatisfiesClauses$1$1 -/
def B58 : CCode :=
  (.seq
   (.reg false [
     (0, ⟨some 3, .mv (.c (.bool false)), none, [], [3]⟩)])
   (.seq
    (.reg false [
      (0, ⟨some 4, .ld 1 false (.t 1), none, [], [1]⟩),
      (1, ⟨some 5, .mv (.t 0), none, [], [0]⟩),
      (2, ⟨some 6, .call 59 [(.t 4), (.t 5)], none, [], [4, 5]⟩),
      (3, ⟨some 3, .mv (.t 6), none, [], [6]⟩)])
    .ret))
def C58 : CFn := ⟨7, 2, [.t 3], B58⟩

/-- impl.isTrue -/
def B59 : CCode :=
  (.seq
   (.reg false [
     (0, ⟨some 4, .mv (.c (.bool false)), none, [], [4]⟩)])
   (.seq
    (.seq
     (.reg false [
       (0, ⟨some 5, .mv (.t 1), none, [], []⟩),
       (1, ⟨some 6, .bin .gtr (.t 5) (.c (.int .i64 (0))), none, [], [5]⟩)])
     (.cond (.t 6)
      (.seq
       (.kill [6])
       (.seq
        (.reg false [
          (0, ⟨some 7, .mv (.t 1), none, [], []⟩),
          (1, ⟨some 8, .mv (.t 0), none, [], []⟩),
          (2, ⟨some 9, .len (.t 8), none, [], [8]⟩),
          (3, ⟨some 10, .bin .leq (.t 7) (.t 9), none, [], [7, 9]⟩),
          (4, ⟨some 11, .mv (.t 10), none, [], [10]⟩),
          (5, ⟨some 12, .mv (.t 0), some (11, true), [], [0]⟩),
          (6, ⟨some 13, .mv (.t 1), some (11, true), [], [1]⟩),
          (7, ⟨some 14, .bin .sub (.t 13) (.c (.int .i64 (1))), some (11, true), [], [13]⟩),
          (8, ⟨some 15, .ia 1 (.t 12) (.t 14), some (11, true), [], [12, 14]⟩),
          (9, ⟨some 16, .ld 1 false (.t 15), some (11, true), [], [15]⟩),
          (10, ⟨some 17, .pick (.t 11) (.t 16) (.c (.bool false)), none, [], [11, 16]⟩),
          (11, ⟨some 4, .mv (.t 17), none, [], [17]⟩)])
        .ret))
      (.seq
       (.kill [6])
       .skip)))
    (.seq
     (.reg false [
       (0, ⟨some 18, .mv (.t 1), none, [], []⟩),
       (1, ⟨some 19, .bin .lss (.t 18) (.c (.int .i64 (0))), none, [], [18]⟩),
       (2, ⟨some 20, .mv (.t 19), none, [], [19]⟩),
       (3, ⟨some 21, .mv (.t 1), some (20, true), [], []⟩),
       (4, ⟨some 22, .mv (.t 0), some (20, true), [], []⟩),
       (5, ⟨some 23, .len (.t 22), some (20, true), [], [22]⟩),
       (6, ⟨some 24, .neg (.t 23), some (20, true), [], [23]⟩),
       (7, ⟨some 25, .bin .geq (.t 21) (.t 24), some (20, true), [], [21, 24]⟩),
       (8, ⟨some 26, .pick (.t 20) (.t 25) (.c (.bool false)), none, [], [20, 25]⟩),
       (9, ⟨some 27, .mv (.t 26), none, [], [26]⟩),
       (10, ⟨some 28, .mv (.t 0), some (27, true), [], [0]⟩),
       (11, ⟨some 29, .mv (.t 1), some (27, true), [], [1]⟩),
       (12, ⟨some 30, .neg (.t 29), some (27, true), [], [29]⟩),
       (13, ⟨some 31, .bin .sub (.t 30) (.c (.int .i64 (1))), some (27, true), [], [30]⟩),
       (14, ⟨some 32, .ia 1 (.t 28) (.t 31), some (27, true), [], [28, 31]⟩),
       (15, ⟨some 33, .ld 1 false (.t 32), some (27, true), [], [32]⟩),
       (16, ⟨some 34, .not (.t 33), some (27, true), [], [33]⟩),
       (17, ⟨some 35, .pick (.t 27) (.t 34) (.c (.bool false)), none, [], [27, 34]⟩),
       (18, ⟨some 4, .mv (.t 35), none, [], [35]⟩)])
     .ret)))
def C59 : CFn := ⟨36, 2, [.t 4], B59⟩

/-- spec.l20Clause -/
def L60_1 : CCode :=
  (.seq
   (.seq
    (.reg false [
      (0, ⟨some 42, .mv (.t 7), none, [], []⟩),
      (1, ⟨some 43, .mv (.t 5), none, [], []⟩),
      (2, ⟨some 44, .bin .lss (.t 42) (.t 43), none, [], [42, 43]⟩)])
    (.cond (.t 44)
     (.seq
      (.kill [44])
      .skip)
     (.seq
      (.kill [7, 44])
      (.exit 2))))
   (.seq
    (.block 3
     (.seq
      (.reg true [
        (0, ⟨some 47, .mv (.t 1), none, [], []⟩),
        (1, ⟨some 48, .mv (.t 7), none, [], []⟩),
        (2, ⟨some 49, .ia 1 (.t 47) (.t 48), none, [], [47, 48]⟩),
        (3, ⟨some 50, .ld 1 false (.t 49), none, [], [49]⟩),
        (4, ⟨some 51, .mv (.t 1), none, [], []⟩),
        (5, ⟨some 52, .mv (.t 5), none, [], []⟩),
        (6, ⟨some 53, .ia 1 (.t 51) (.t 52), none, [], [51, 52]⟩),
        (7, ⟨some 54, .ld 1 false (.t 53), none, [], [53]⟩),
        (8, ⟨some 55, .bin .eql (.t 50) (.t 54), none, [], [50, 54]⟩),
        (9, ⟨some 56, .mv (.t 55), none, [], [55]⟩),
        (10, ⟨some 57, .mv (.t 1), some (56, false), [], []⟩),
        (11, ⟨some 58, .mv (.t 7), some (56, false), [], []⟩),
        (12, ⟨some 59, .ia 1 (.t 57) (.t 58), some (56, false), [], [57, 58]⟩),
        (13, ⟨some 60, .ld 1 false (.t 59), some (56, false), [], [59]⟩),
        (14, ⟨some 61, .mv (.t 1), some (56, false), [], []⟩),
        (15, ⟨some 62, .mv (.t 5), some (56, false), [], []⟩),
        (16, ⟨some 63, .ia 1 (.t 61) (.t 62), some (56, false), [], [61, 62]⟩),
        (17, ⟨some 64, .ld 1 false (.t 63), some (56, false), [], [63]⟩),
        (18, ⟨some 65, .neg (.t 64), some (56, false), [], [64]⟩),
        (19, ⟨some 66, .bin .eql (.t 60) (.t 65), some (56, false), [], [60, 65]⟩),
        (20, ⟨some 67, .pick (.t 56) (.c (.bool true)) (.t 66), none, [], [56, 66]⟩)])
      (.cond (.t 67)
       (.seq
        (.kill [0, 1, 5, 7, 67])
        (.seq
         (.reg false [
           (0, ⟨some 4, .mv (.c (.bool false)), none, [], []⟩)])
         .ret))
       (.seq
        (.kill [67])
        .skip))))
    (.reg false [
      (0, ⟨some 45, .mv (.t 7), none, [], [7]⟩),
      (1, ⟨some 46, .bin .add (.t 45) (.c (.int .i64 (1))), none, [], [45]⟩),
      (2, ⟨some 7, .mv (.t 46), none, [], [46]⟩)])))
def L60_0 : CCode :=
  (.seq
   (.seq
    (.reg false [
      (0, ⟨some 8, .mv (.t 5), none, [], []⟩),
      (1, ⟨some 9, .mv (.t 1), none, [], []⟩),
      (2, ⟨some 10, .len (.t 9), none, [], [9]⟩),
      (3, ⟨some 11, .bin .lss (.t 8) (.t 10), none, [], [8, 10]⟩)])
    (.cond (.t 11)
     (.seq
      (.kill [11])
      .skip)
     (.seq
      (.kill [0, 1, 5, 11])
      (.exit 0))))
   (.seq
    (.block 1
     (.seq
      (.reg false [
        (0, ⟨some 14, .mv (.t 1), none, [], []⟩),
        (1, ⟨some 15, .mv (.t 5), none, [], []⟩),
        (2, ⟨some 16, .ia 1 (.t 14) (.t 15), none, [], [14, 15]⟩),
        (3, ⟨some 17, .ld 1 false (.t 16), none, [], [16]⟩),
        (4, ⟨some 18, .max (.t 17) (.c (.int .i64 (0))), none, [], [17]⟩),
        (5, ⟨some 6, .mv (.t 18), none, [], [18]⟩)])
      (.seq
       (.seq
        (.reg false [
          (0, ⟨some 19, .mv (.t 1), none, [], []⟩),
          (1, ⟨some 20, .mv (.t 5), none, [], []⟩),
          (2, ⟨some 21, .ia 1 (.t 19) (.t 20), none, [], [19, 20]⟩),
          (3, ⟨some 22, .ld 1 false (.t 21), none, [], [21]⟩),
          (4, ⟨some 23, .bin .lss (.t 22) (.c (.int .i64 (0))), none, [], [22]⟩),
          (5, ⟨some 24, .mv (.t 23), none, [], [23]⟩),
          (6, ⟨some 25, .mv (.t 1), some (24, true), [], []⟩),
          (7, ⟨some 26, .mv (.t 5), some (24, true), [], []⟩),
          (8, ⟨some 27, .ia 1 (.t 25) (.t 26), some (24, true), [], [25, 26]⟩),
          (9, ⟨some 28, .ld 1 false (.t 27), some (24, true), [], [27]⟩),
          (10, ⟨some 29, .mv (.t 0), some (24, true), [], []⟩),
          (11, ⟨some 30, .neg (.t 29), some (24, true), [], [29]⟩),
          (12, ⟨some 31, .bin .geq (.t 28) (.t 30), some (24, true), [], [28, 30]⟩),
          (13, ⟨some 32, .pick (.t 24) (.t 31) (.c (.bool false)), none, [], [24, 31]⟩)])
        (.cond (.t 32)
         (.seq
          (.kill [6, 32])
          (.reg false [
            (0, ⟨some 33, .mv (.t 1), none, [], []⟩),
            (1, ⟨some 34, .mv (.t 5), none, [], []⟩),
            (2, ⟨some 35, .ia 1 (.t 33) (.t 34), none, [], [33, 34]⟩),
            (3, ⟨some 36, .ld 1 false (.t 35), none, [], [35]⟩),
            (4, ⟨some 37, .neg (.t 36), none, [], [36]⟩),
            (5, ⟨some 6, .mv (.t 37), none, [], [37]⟩)]))
         (.seq
          (.kill [32])
          .skip)))
       (.seq
        (.seq
         (.reg false [
           (0, ⟨some 38, .mv (.t 6), none, [], [6]⟩),
           (1, ⟨some 39, .mv (.t 0), none, [], []⟩),
           (2, ⟨some 40, .call 61 [(.t 38), (.c (.int .i64 (1))), (.t 39)], none, [], [38, 39]⟩),
           (3, ⟨some 41, .not (.t 40), none, [], [40]⟩)])
         (.cond (.t 41)
          (.seq
           (.kill [0, 1, 5, 41])
           (.seq
            (.reg false [
              (0, ⟨some 4, .mv (.c (.bool false)), none, [], []⟩)])
            .ret))
          (.seq
           (.kill [41])
           .skip)))
        (.seq
         (.reg false [
           (0, ⟨some 7, .mv (.c (.int .i64 (0))), none, [], []⟩)])
         (.block 2
          (.loop L60_1)))))))
    (.reg false [
      (0, ⟨some 12, .mv (.t 5), none, [], [5]⟩),
      (1, ⟨some 13, .bin .add (.t 12) (.c (.int .i64 (1))), none, [], [12]⟩),
      (2, ⟨some 5, .mv (.t 13), none, [], [13]⟩)])))
def B60 : CCode :=
  (.seq
   (.reg false [
     (0, ⟨some 4, .mv (.c (.bool false)), none, [], [4]⟩)])
   (.seq
    (.seq
     (.reg false [
       (0, ⟨some 5, .mv (.c (.int .i64 (0))), none, [], []⟩)])
     (.block 0
      (.loop L60_0)))
    (.seq
     (.reg false [
       (0, ⟨some 4, .mv (.c (.bool true)), none, [], []⟩)])
     .ret)))
def C60 : CFn := ⟨68, 2, [.t 4], B60⟩

/-- spec.l1In -/
def B61 : CCode :=
  (.seq
   (.reg false [
     (0, ⟨some 6, .mv (.c (.bool false)), none, [], [6]⟩)])
   (.seq
    (.reg false [
      (0, ⟨some 7, .mv (.t 0), none, [], []⟩),
      (1, ⟨some 8, .mv (.t 1), none, [], [1]⟩),
      (2, ⟨some 9, .bin .geq (.t 7) (.t 8), none, [], [7, 8]⟩),
      (3, ⟨some 10, .mv (.t 9), none, [], [9]⟩),
      (4, ⟨some 11, .mv (.t 0), some (10, true), [], [0]⟩),
      (5, ⟨some 12, .mv (.t 2), some (10, true), [], [2]⟩),
      (6, ⟨some 13, .bin .leq (.t 11) (.t 12), some (10, true), [], [11, 12]⟩),
      (7, ⟨some 14, .pick (.t 10) (.t 13) (.c (.bool false)), none, [], [10, 13]⟩),
      (8, ⟨some 6, .mv (.t 14), none, [], [14]⟩)])
    .ret))
def C61 : CFn := ⟨15, 3, [.t 6], B61⟩

/-- impl.areClauses -/
def B62 : CCode :=
  (.seq
   (.reg false [
     (0, ⟨some 2, .box 1 (.t 0), none, [], [0]⟩),
     (1, ⟨some 4, .mv (.c (.bool false)), none, [], [4]⟩)])
   (.seq
    (.reg false [
      (0, ⟨some 5, .ld 1 false (.t 2), none, [], []⟩),
      (1, ⟨some 6, .call 75 [(.t 5), (.c (.int .i64 (0))), (.c (.int .i64 (14)))], none, [], [5]⟩),
      (2, ⟨some 7, .mv (.t 6), none, [], [6]⟩),
      (3, ⟨some 8, .mv (.t 1), some (7, true), [], [1]⟩),
      (4, ⟨some 9, .fn 76 [(.t 2)], some (7, true), [], [2]⟩),
      (5, ⟨some 10, .call 53 [(.t 8), (.t 9)], some (7, true), [], [8, 9]⟩),
      (6, ⟨some 11, .not (.t 10), some (7, true), [], [10]⟩),
      (7, ⟨some 12, .pick (.t 7) (.t 11) (.c (.bool false)), none, [], [7, 11]⟩),
      (8, ⟨some 4, .mv (.t 12), none, [], [12]⟩)])
    .ret))
def C62 : CFn := ⟨13, 2, [.t 4], B62⟩

/-- impl.isClause -/
def L63_0 : CCode :=
  (.seq
   (.reg false [
     (0, ⟨some 10, .bin .lss (.t 9) (.t 8), none, [], []⟩)])
   (.seq
    (.cond (.t 10)
     (.seq
      (.kill [10])
      .skip)
     (.seq
      (.kill [0, 1, 7, 8, 9, 10])
      (.exit 0)))
    (.seq
     (.block 1
      (.seq
       (.reg false [
         (0, ⟨some 11, .mv (.t 9), none, [], []⟩),
         (1, ⟨some 12, .ia 1 (.t 7) (.t 9), none, [], []⟩),
         (2, ⟨some 13, .ld 1 false (.t 12), none, [], [12]⟩),
         (3, ⟨some 5, .mv (.t 11), none, [], [11]⟩),
         (4, ⟨some 6, .mv (.t 13), none, [], [13]⟩)])
       (.seq
        (.reg false [
          (0, ⟨some 14, .mv (.t 6), none, [], []⟩),
          (1, ⟨some 15, .bin .eql (.t 14) (.c (.int .i64 (0))), none, [], [14]⟩),
          (2, ⟨some 16, .mv (.t 15), none, [], [15]⟩),
          (3, ⟨some 17, .mv (.t 6), some (16, false), [], []⟩),
          (4, ⟨some 18, .mv (.t 0), some (16, false), [], []⟩),
          (5, ⟨some 19, .neg (.t 18), some (16, false), [], [18]⟩),
          (6, ⟨some 20, .mv (.t 0), some (16, false), [], []⟩),
          (7, ⟨some 21, .call 75 [(.t 17), (.t 19), (.t 20)], some (16, false), [], [17, 19, 20]⟩),
          (8, ⟨some 22, .not (.t 21), some (16, false), [], [21]⟩),
          (9, ⟨some 23, .pick (.t 16) (.c (.bool true)) (.t 22), none, [], [16, 22]⟩),
          (10, ⟨some 24, .mv (.t 23), none, [], [23]⟩),
          (11, ⟨some 25, .mv (.t 1), some (24, false), [], []⟩),
          (12, ⟨some 26, .mv (.t 5), some (24, false), [], []⟩),
          (13, ⟨some 27, .sls 1 (.t 25) none (some (.t 26)) none, some (24, false), [], [25, 26]⟩),
          (14, ⟨some 28, .mv (.t 6), some (24, false), [], []⟩),
          (15, ⟨some 29, .call 73 [(.t 27), (.t 28)], some (24, false), [], [27, 28]⟩),
          (16, ⟨some 30, .pick (.t 24) (.c (.bool true)) (.t 29), none, [], [24, 29]⟩),
          (17, ⟨some 31, .mv (.t 30), none, [], [30]⟩),
          (18, ⟨some 32, .mv (.t 1), some (31, false), [], []⟩),
          (19, ⟨some 33, .mv (.t 5), some (31, false), [], [5]⟩),
          (20, ⟨some 34, .sls 1 (.t 32) none (some (.t 33)) none, some (31, false), [], [32, 33]⟩),
          (21, ⟨some 35, .mv (.t 6), some (31, false), [], [6]⟩),
          (22, ⟨some 36, .neg (.t 35), some (31, false), [], [35]⟩),
          (23, ⟨some 37, .call 73 [(.t 34), (.t 36)], some (31, false), [], [34, 36]⟩),
          (24, ⟨some 38, .pick (.t 31) (.c (.bool true)) (.t 37), none, [], [31, 37]⟩)])
        (.cond (.t 38)
         (.seq
          (.kill [0, 1, 7, 8, 9, 38])
          (.seq
           (.reg false [
             (0, ⟨some 4, .mv (.c (.bool false)), none, [], []⟩)])
           .ret))
         (.seq
          (.kill [38])
          .skip)))))
     (.reg false [
       (0, ⟨some 39, .bin .add (.t 9) (.c (.int .i64 (1))), none, [], [9]⟩),
       (1, ⟨some 9, .mv (.t 39), none, [], [39]⟩)]))))
def B63 : CCode :=
  (.seq
   (.reg false [
     (0, ⟨some 4, .mv (.c (.bool false)), none, [], [4]⟩)])
   (.seq
    (.seq
     (.reg false [
       (0, ⟨some 7, .mv (.t 1), none, [], []⟩),
       (1, ⟨some 8, .len (.t 7), none, [], []⟩),
       (2, ⟨some 9, .mv (.c (.int .i64 (0))), none, [], []⟩)])
     (.block 0
      (.loop L63_0)))
    (.seq
     (.reg false [
       (0, ⟨some 4, .mv (.c (.bool true)), none, [], []⟩)])
     .ret)))
def C63 : CFn := ⟨40, 2, [.t 4], B63⟩

/-- impl.propagate -/
def L64_1 : CCode :=
  (.seq
   (.reg false [
     (0, ⟨some 17, .bin .lss (.t 16) (.t 15), none, [], []⟩)])
   (.seq
    (.cond (.t 17)
     (.seq
      (.kill [17])
      .skip)
     (.seq
      (.kill [14, 15, 16, 17])
      (.exit 2)))
    (.seq
     (.block 3
      (.seq
       (.reg false [
         (0, ⟨some 18, .ia 1 (.t 14) (.t 16), none, [], []⟩),
         (1, ⟨some 19, .ld 1 false (.t 18), none, [], [18]⟩),
         (2, ⟨some 9, .mv (.t 19), none, [], [19]⟩)])
       (.seq
        (.seq
         (.reg false [
           (0, ⟨some 20, .mv (.t 9), none, [], []⟩),
           (1, ⟨some 21, .fn 77 [(.t 6)], none, [], []⟩),
           (2, ⟨some 22, .call 57 [(.t 20), (.t 21)], none, [], [20, 21]⟩)])
         (.cond (.t 22)
          (.seq
           (.kill [9, 22])
           (.exit 3))
          (.seq
           (.kill [22])
           .skip)))
        (.seq
         (.reg false [
           (0, ⟨some 23, .mv (.t 9), none, [], [9]⟩),
           (1, ⟨some 24, .ld 1 false (.t 6), none, [], []⟩),
           (2, ⟨some 25, .call 17 [(.t 24)], none, [], [24]⟩),
           (3, ⟨some 26, .call 78 [(.t 23), (.t 25)], none, [], [23, 25]⟩),
           (4, ⟨some 10, .mv (.t 26), none, [], [26]⟩)])
         (.seq
          (.seq
           (.reg false [
             (0, ⟨some 27, .mv (.t 10), none, [], []⟩),
             (1, ⟨some 28, .len (.t 27), none, [], [27]⟩),
             (2, ⟨some 29, .bin .eql (.t 28) (.c (.int .i64 (0))), none, [], [28]⟩)])
           (.cond (.t 29)
            (.seq
             (.kill [0, 7, 10, 14, 15, 16, 29])
             (.seq
              (.reg false [
                (0, ⟨some 30, .ld 1 false (.t 6), none, [], [6]⟩),
                (1, ⟨some 4, .mv (.t 30), none, [], [30]⟩),
                (2, ⟨some 5, .mv (.c (.bool true)), none, [], []⟩)])
              .ret))
            (.seq
             (.kill [29])
             .skip)))
          (.seq
           (.reg false [
             (0, ⟨some 31, .mv (.t 10), none, [], []⟩),
             (1, ⟨some 32, .len (.t 31), none, [], [31]⟩),
             (2, ⟨some 33, .bin .eql (.t 32) (.c (.int .i64 (1))), none, [], [32]⟩)])
           (.cond (.t 33)
            (.seq
             (.kill [7, 14, 15, 16, 33])
             (.seq
              (.reg true [
                (0, ⟨some 34, .ld 1 false (.t 6), none, [], []⟩),
                (1, ⟨some 35, .mv (.t 10), none, [], [10]⟩),
                (2, ⟨some 36, .ia 1 (.t 35) (.c (.int .i64 (0))), none, [], [35]⟩),
                (3, ⟨some 37, .ld 1 false (.t 36), none, [], [36]⟩),
                (4, ⟨some 38, .bsl 1 1 [.int .i64 (0)] [(0, 1, (.t 37))], none, [], [37]⟩),
                (5, ⟨some 39, .app 1 8 (.t 34) (.t 38), none, [], [34, 38]⟩),
                (6, ⟨none, .st 1 (.t 6) (.t 39), none, [], [39]⟩),
                (7, ⟨some 7, .mv (.c (.bool true)), none, [], []⟩)])
              (.exit 2)))
            (.seq
             (.kill [10, 33])
             .skip))))))))
     (.reg false [
       (0, ⟨some 40, .bin .add (.t 16) (.c (.int .i64 (1))), none, [], [16]⟩),
       (1, ⟨some 16, .mv (.t 40), none, [], [40]⟩)]))))
def L64_0 : CCode :=
  (.block 1
   (.seq
    (.reg false [
      (0, ⟨some 7, .mv (.c (.bool false)), none, [], []⟩)])
    (.seq
     (.seq
      (.reg false [
        (0, ⟨some 14, .mv (.t 0), none, [], []⟩),
        (1, ⟨some 15, .len (.t 14), none, [], []⟩),
        (2, ⟨some 16, .mv (.c (.int .i64 (0))), none, [], []⟩)])
      (.block 2
       (.loop L64_1)))
     (.seq
      (.reg false [
        (0, ⟨some 41, .mv (.t 7), none, [], [7]⟩),
        (1, ⟨some 42, .not (.t 41), none, [], [41]⟩)])
      (.cond (.t 42)
       (.seq
        (.kill [0, 42])
        (.seq
         (.reg false [
           (0, ⟨some 43, .ld 1 false (.t 6), none, [], [6]⟩),
           (1, ⟨some 4, .mv (.t 43), none, [], [43]⟩),
           (2, ⟨some 5, .mv (.c (.bool false)), none, [], []⟩)])
         .ret))
       (.seq
        (.kill [42])
        .skip))))))
def B64 : CCode :=
  (.seq
   (.reg false [
     (0, ⟨some 4, .mv (.c (.nils)), none, [], [4]⟩),
     (1, ⟨some 5, .mv (.c (.bool false)), none, [], [5]⟩)])
   (.seq
    (.reg false [
      (0, ⟨some 11, .bsl 1 0 [.int .i64 (0)] [], none, [], []⟩),
      (1, ⟨some 12, .mv (.t 1), none, [], [1]⟩),
      (2, ⟨some 13, .app 1 8 (.t 11) (.t 12), none, [], [11, 12]⟩),
      (3, ⟨some 6, .al [.nils], none, [], []⟩),
      (4, ⟨none, .st 1 (.t 6) (.t 13), none, [], [13]⟩)])
    (.block 0
     (.loop L64_0))))
def C64 : CFn := ⟨44, 2, [.t 4, .t 5], B64⟩

/-- spec.l21Units -/
def L65_1 : CCode :=
  (.seq
   (.seq
    (.reg false [
      (0, ⟨some 15, .mv (.t 8), none, [], []⟩),
      (1, ⟨some 16, .mv (.t 0), none, [], []⟩),
      (2, ⟨some 17, .len (.t 16), none, [], [16]⟩),
      (3, ⟨some 18, .bin .lss (.t 15) (.t 17), none, [], [15, 17]⟩),
      (4, ⟨some 19, .mv (.t 18), none, [], [18]⟩),
      (5, ⟨some 20, .mv (.t 7), some (19, true), [], []⟩),
      (6, ⟨some 21, .not (.t 20), some (19, true), [], [20]⟩),
      (7, ⟨some 22, .pick (.t 19) (.t 21) (.c (.bool false)), none, [], [19, 21]⟩)])
    (.cond (.t 22)
     (.seq
      (.kill [22])
      .skip)
     (.seq
      (.kill [8, 22])
      (.exit 2))))
   (.seq
    (.block 3
     (.seq
      (.reg false [
        (0, ⟨some 26, .mv (.t 0), none, [], []⟩),
        (1, ⟨some 27, .mv (.t 8), none, [], []⟩),
        (2, ⟨some 28, .ia 1 (.t 26) (.t 27), none, [], [26, 27]⟩),
        (3, ⟨some 29, .ld 1 false (.t 28), none, [], [28]⟩),
        (4, ⟨some 30, .mv (.t 6), none, [], []⟩),
        (5, ⟨some 31, .call 79 [(.t 29), (.t 30)], none, [], [29, 30]⟩),
        (6, ⟨some 25, .mv (.t 31), none, [], [31]⟩),
        (7, ⟨some 32, .ex (.t 25) 0, none, [], []⟩),
        (8, ⟨some 33, .ex (.t 25) 1, none, [], [25]⟩),
        (9, ⟨some 9, .mv (.t 32), none, [], [32]⟩),
        (10, ⟨some 10, .mv (.t 33), none, [], [33]⟩)])
      (.seq
       (.seq
        (.reg false [
          (0, ⟨some 34, .mv (.t 10), none, [], [10]⟩)])
        (.cond (.t 34)
         (.seq
          (.kill [9, 34])
          (.exit 3))
         (.seq
          (.kill [34])
          .skip)))
       (.seq
        (.seq
         (.reg false [
           (0, ⟨some 35, .mv (.t 9), none, [], []⟩),
           (1, ⟨some 36, .len (.t 35), none, [], [35]⟩),
           (2, ⟨some 37, .bin .eql (.t 36) (.c (.int .i64 (0))), none, [], [36]⟩)])
         (.cond (.t 37)
          (.seq
           (.kill [0, 7, 8, 9, 37])
           (.seq
            (.reg false [
              (0, ⟨some 38, .mv (.t 6), none, [], [6]⟩),
              (1, ⟨some 4, .mv (.t 38), none, [], [38]⟩),
              (2, ⟨some 5, .mv (.c (.bool true)), none, [], []⟩)])
            .ret))
          (.seq
           (.kill [37])
           .skip)))
        (.seq
         (.reg false [
           (0, ⟨some 39, .mv (.t 9), none, [], []⟩),
           (1, ⟨some 40, .len (.t 39), none, [], [39]⟩),
           (2, ⟨some 41, .bin .eql (.t 40) (.c (.int .i64 (1))), none, [], [40]⟩)])
         (.cond (.t 41)
          (.seq
           (.kill [7, 41])
           (.seq
            (.reg false [
              (0, ⟨some 42, .mv (.t 6), none, [], [6]⟩),
              (1, ⟨some 43, .mv (.t 9), none, [], [9]⟩),
              (2, ⟨some 44, .ia 1 (.t 43) (.c (.int .i64 (0))), none, [], [43]⟩),
              (3, ⟨some 45, .ld 1 false (.t 44), none, [], [44]⟩),
              (4, ⟨some 46, .bsl 1 1 [.int .i64 (0)] [(0, 1, (.t 45))], none, [], [45]⟩),
              (5, ⟨some 47, .app 1 8 (.t 42) (.t 46), none, [], [42, 46]⟩),
              (6, ⟨some 6, .mv (.t 47), none, [], [47]⟩)])
            (.reg false [
              (0, ⟨some 7, .mv (.c (.bool true)), none, [], []⟩)])))
          (.seq
           (.kill [9, 41])
           .skip)))))))
    (.reg false [
      (0, ⟨some 23, .mv (.t 8), none, [], [8]⟩),
      (1, ⟨some 24, .bin .add (.t 23) (.c (.int .i64 (1))), none, [], [23]⟩),
      (2, ⟨some 8, .mv (.t 24), none, [], [24]⟩)])))
def L65_0 : CCode :=
  (.seq
   (.seq
    (.reg false [
      (0, ⟨some 14, .mv (.t 7), none, [], [7]⟩)])
    (.cond (.t 14)
     (.seq
      (.kill [14])
      .skip)
     (.seq
      (.kill [0, 14])
      (.exit 0))))
   (.block 1
    (.seq
     (.reg false [
       (0, ⟨some 7, .mv (.c (.bool false)), none, [], []⟩)])
     (.seq
      (.reg false [
        (0, ⟨some 8, .mv (.c (.int .i64 (0))), none, [], []⟩)])
      (.block 2
       (.loop L65_1))))))
def B65 : CCode :=
  (.seq
   (.reg false [
     (0, ⟨some 4, .mv (.c (.nils)), none, [], [4]⟩),
     (1, ⟨some 5, .mv (.c (.bool false)), none, [], [5]⟩)])
   (.seq
    (.reg false [
      (0, ⟨some 11, .bsl 1 0 [.int .i64 (0)] [], none, [], []⟩),
      (1, ⟨some 12, .mv (.t 1), none, [], [1]⟩),
      (2, ⟨some 13, .app 1 8 (.t 11) (.t 12), none, [], [11, 12]⟩),
      (3, ⟨some 6, .mv (.t 13), none, [], [13]⟩)])
    (.seq
     (.seq
      (.reg false [
        (0, ⟨some 7, .mv (.c (.bool true)), none, [], []⟩)])
      (.block 0
       (.loop L65_0)))
     (.seq
      (.reg false [
        (0, ⟨some 48, .mv (.t 6), none, [], [6]⟩),
        (1, ⟨some 4, .mv (.t 48), none, [], [48]⟩),
        (2, ⟨some 5, .mv (.c (.bool false)), none, [], []⟩)])
      .ret))))
def C65 : CFn := ⟨49, 2, [.t 4, .t 5], B65⟩

/-- slices.Clone[[][]int,[]int] -/
def B66 : CCode :=
  (.seq
   (.reg false [
     (0, ⟨some 2, .mv (.c (.nils)), none, [], [2]⟩)])
   (.seq
    (.seq
     (.reg false [
       (0, ⟨some 3, .mv (.t 0), none, [], []⟩),
       (1, ⟨some 4, .isnil false (.t 3), none, [], [3]⟩)])
     (.cond (.t 4)
      (.seq
       (.kill [0, 4])
       (.seq
        (.reg false [
          (0, ⟨some 2, .mv (.c (.nils)), none, [], []⟩)])
        .ret))
      (.seq
       (.kill [4])
       .skip)))
    (.seq
     (.reg false [
       (0, ⟨some 5, .bsl 1 0 [.nils] [], none, [], []⟩),
       (1, ⟨some 6, .mv (.t 0), none, [], [0]⟩),
       (2, ⟨some 7, .app 1 24 (.t 5) (.t 6), none, [], [5, 6]⟩),
       (3, ⟨some 2, .mv (.t 7), none, [], [7]⟩)])
     .ret)))
def C66 : CFn := ⟨8, 1, [.t 2], B66⟩

/-- spec.l1New -/
def L67_0 : CCode :=
  (.seq
   (.seq
    (.reg false [
      (0, ⟨some 8, .mv (.t 4), none, [], []⟩),
      (1, ⟨some 9, .mv (.t 0), none, [], []⟩),
      (2, ⟨some 10, .len (.t 9), none, [], [9]⟩),
      (3, ⟨some 11, .bin .lss (.t 8) (.t 10), none, [], [8, 10]⟩),
      (4, ⟨some 12, .mv (.t 11), none, [], [11]⟩),
      (5, ⟨some 13, .mv (.t 4), some (12, true), [], []⟩),
      (6, ⟨some 14, .bin .lss (.t 13) (.c (.int .i64 (4000))), some (12, true), [], [13]⟩),
      (7, ⟨some 15, .pick (.t 12) (.t 14) (.c (.bool false)), none, [], [12, 14]⟩)])
    (.cond (.t 15)
     (.seq
      (.kill [15])
      .skip)
     (.seq
      (.kill [4, 15])
      (.exit 0))))
   (.seq
    (.block 1
     (.reg false [
       (0, ⟨some 18, .mv (.t 3), none, [], [3]⟩),
       (1, ⟨some 19, .bin .mul (.t 18) (.c (.int .i64 (131))), none, [], [18]⟩),
       (2, ⟨some 20, .mv (.t 0), none, [], []⟩),
       (3, ⟨some 21, .mv (.t 4), none, [], []⟩),
       (4, ⟨some 22, .ia 1 (.t 20) (.t 21), none, [], [20, 21]⟩),
       (5, ⟨some 23, .ld 1 false (.t 22), none, [], [22]⟩),
       (6, ⟨some 24, .conv .i64 (.t 23), none, [], [23]⟩),
       (7, ⟨some 25, .bin .add (.t 19) (.t 24), none, [], [19, 24]⟩),
       (8, ⟨some 26, .bin .add (.t 25) (.c (.int .i64 (7))), none, [], [25]⟩),
       (9, ⟨some 27, .bin .and (.t 26) (.c (.int .i64 (1073741823))), none, [], [26]⟩),
       (10, ⟨some 3, .mv (.t 27), none, [], [27]⟩)]))
    (.reg false [
      (0, ⟨some 16, .mv (.t 4), none, [], [4]⟩),
      (1, ⟨some 17, .bin .add (.t 16) (.c (.int .i64 (1))), none, [], [16]⟩),
      (2, ⟨some 4, .mv (.t 17), none, [], [17]⟩)])))
def B67 : CCode :=
  (.seq
   (.reg false [
     (0, ⟨some 2, .mv (.c (.nilp)), none, [], [2]⟩)])
   (.seq
    (.reg false [
      (0, ⟨some 5, .mv (.t 0), none, [], []⟩),
      (1, ⟨some 6, .len (.t 5), none, [], [5]⟩),
      (2, ⟨some 7, .bin .add (.c (.int .i64 (10101))) (.t 6), none, [], [6]⟩),
      (3, ⟨some 3, .mv (.t 7), none, [], [7]⟩)])
    (.seq
     (.seq
      (.reg false [
        (0, ⟨some 4, .mv (.c (.int .i64 (0))), none, [], []⟩)])
      (.block 0
       (.loop L67_0)))
     (.seq
      (.reg false [
        (0, ⟨some 28, .mv (.t 0), none, [], [0]⟩),
        (1, ⟨some 29, .mv (.t 3), none, [], [3]⟩),
        (2, ⟨some 30, .bld [.nils, .int .i64 (0), .int .i64 (0)] [(0, 1, (.t 28)), (2, 1, (.t 29))], none, [], [28, 29]⟩),
        (3, ⟨some 31, .box 3 (.t 30), none, [], [30]⟩),
        (4, ⟨some 2, .mv (.t 31), none, [], [31]⟩)])
      .ret))))
def C67 : CFn := ⟨32, 1, [.t 2], B67⟩

/-- spec.l20Cnf -/
def L68_1 : CCode :=
  (.seq
   (.seq
    (.reg false [
      (0, ⟨some 20, .mv (.t 8), none, [], []⟩),
      (1, ⟨some 21, .mv (.t 4), none, [], []⟩),
      (2, ⟨some 22, .bin .leq (.t 20) (.t 21), none, [], [20, 21]⟩)])
    (.cond (.t 22)
     (.seq
      (.kill [22])
      .skip)
     (.seq
      (.kill [8, 22])
      (.exit 2))))
   (.seq
    (.block 3
     (.seq
      (.reg false [
        (0, ⟨some 25, .mv (.t 0), none, [], []⟩),
        (1, ⟨some 26, .call 81 [(.t 25), (.c (.int .i64 (2)))], none, [], [25]⟩),
        (2, ⟨some 27, .mv (.t 26), none, [], [26]⟩),
        (3, ⟨some 28, .mv (.t 7), some (27, true), [], []⟩),
        (4, ⟨some 29, .len (.t 28), some (27, true), [], [28]⟩),
        (5, ⟨some 30, .bin .lss (.t 29) (.c (.int .i64 (3))), some (27, true), [], [29]⟩),
        (6, ⟨some 31, .pick (.t 27) (.t 30) (.c (.bool false)), none, [], [27, 30]⟩)])
      (.cond (.t 31)
       (.seq
        (.kill [31])
        (.reg false [
          (0, ⟨some 32, .mv (.t 7), none, [], [7]⟩),
          (1, ⟨some 33, .mv (.t 8), none, [], []⟩),
          (2, ⟨some 34, .mv (.t 0), none, [], []⟩),
          (3, ⟨some 35, .call 80 [(.t 34), (.c (.int .i64 (2)))], none, [], [34]⟩),
          (4, ⟨some 36, .bin .mul (.c (.int .i64 (2))) (.t 35), none, [], [35]⟩),
          (5, ⟨some 37, .bin .sub (.c (.int .i64 (1))) (.t 36), none, [], [36]⟩),
          (6, ⟨some 38, .bin .mul (.t 33) (.t 37), none, [], [33, 37]⟩),
          (7, ⟨some 39, .bsl 1 1 [.int .i64 (0)] [(0, 1, (.t 38))], none, [], [38]⟩),
          (8, ⟨some 40, .app 1 8 (.t 32) (.t 39), none, [], [32, 39]⟩),
          (9, ⟨some 7, .mv (.t 40), none, [], [40]⟩)]))
       (.seq
        (.kill [31])
        .skip))))
    (.reg false [
      (0, ⟨some 23, .mv (.t 8), none, [], [8]⟩),
      (1, ⟨some 24, .bin .add (.t 23) (.c (.int .i64 (1))), none, [], [23]⟩),
      (2, ⟨some 8, .mv (.t 24), none, [], [24]⟩)])))
def L68_0 : CCode :=
  (.seq
   (.seq
    (.reg false [
      (0, ⟨some 15, .mv (.t 6), none, [], []⟩),
      (1, ⟨some 16, .bin .gtr (.t 15) (.c (.int .i64 (0))), none, [], [15]⟩)])
    (.cond (.t 16)
     (.seq
      (.kill [16])
      .skip)
     (.seq
      (.kill [6, 16])
      (.exit 0))))
   (.seq
    (.block 1
     (.seq
      (.reg false [
        (0, ⟨some 19, .bsl 1 0 [.int .i64 (0)] [], none, [], []⟩),
        (1, ⟨some 7, .mv (.t 19), none, [], [19]⟩)])
      (.seq
       (.seq
        (.reg false [
          (0, ⟨some 8, .mv (.c (.int .i64 (1))), none, [], []⟩)])
        (.block 2
         (.loop L68_1)))
       (.reg false [
         (0, ⟨some 41, .mv (.t 5), none, [], [5]⟩),
         (1, ⟨some 42, .mv (.t 7), none, [], [7]⟩),
         (2, ⟨some 43, .bsl 1 1 [.nils] [(0, 1, (.t 42))], none, [], [42]⟩),
         (3, ⟨some 44, .app 1 24 (.t 41) (.t 43), none, [], [41, 43]⟩),
         (4, ⟨some 5, .mv (.t 44), none, [], [44]⟩)]))))
    (.reg false [
      (0, ⟨some 17, .mv (.t 6), none, [], [6]⟩),
      (1, ⟨some 18, .bin .sub (.t 17) (.c (.int .i64 (1))), none, [], [17]⟩),
      (2, ⟨some 6, .mv (.t 18), none, [], [18]⟩)])))
def B68 : CCode :=
  (.seq
   (.reg false [
     (0, ⟨some 2, .mv (.c (.int .i64 (0))), none, [], [2]⟩),
     (1, ⟨some 3, .mv (.c (.nils)), none, [], [3]⟩)])
   (.seq
    (.reg false [
      (0, ⟨some 9, .mv (.t 0), none, [], []⟩),
      (1, ⟨some 10, .call 80 [(.t 9), (.c (.int .i64 (5)))], none, [], [9]⟩),
      (2, ⟨some 11, .bin .add (.c (.int .i64 (1))) (.t 10), none, [], [10]⟩),
      (3, ⟨some 4, .mv (.t 11), none, [], [11]⟩)])
    (.seq
     (.reg false [
       (0, ⟨some 12, .bsl 1 0 [.nils] [], none, [], []⟩),
       (1, ⟨some 5, .mv (.t 12), none, [], [12]⟩)])
     (.seq
      (.seq
       (.reg false [
         (0, ⟨some 13, .mv (.t 0), none, [], []⟩),
         (1, ⟨some 14, .call 80 [(.t 13), (.c (.int .i64 (11)))], none, [], [13]⟩),
         (2, ⟨some 6, .mv (.t 14), none, [], [14]⟩)])
       (.block 0
        (.loop L68_0)))
      (.seq
       (.seq
        (.reg false [
          (0, ⟨some 45, .mv (.t 5), none, [], []⟩),
          (1, ⟨some 46, .len (.t 45), none, [], [45]⟩),
          (2, ⟨some 47, .bin .gtr (.t 46) (.c (.int .i64 (0))), none, [], [46]⟩),
          (3, ⟨some 48, .mv (.t 47), none, [], [47]⟩),
          (4, ⟨some 49, .mv (.t 0), some (48, true), [], []⟩),
          (5, ⟨some 50, .call 81 [(.t 49), (.c (.int .i64 (14)))], some (48, true), [], [49]⟩),
          (6, ⟨some 51, .pick (.t 48) (.t 50) (.c (.bool false)), none, [], [48, 50]⟩)])
        (.cond (.t 51)
         (.seq
          (.kill [51])
          (.reg true [
            (0, ⟨some 52, .mv (.t 5), none, [], []⟩),
            (1, ⟨some 53, .mv (.t 5), none, [], []⟩),
            (2, ⟨some 54, .ia 1 (.t 53) (.c (.int .i64 (0))), none, [], [53]⟩),
            (3, ⟨some 55, .ld 1 false (.t 54), none, [], [54]⟩),
            (4, ⟨some 56, .mv (.t 0), none, [], []⟩),
            (5, ⟨some 57, .bsl 1 5 [.int .i64 (0)] [(0, 1, (.c (.int .i64 (0)))), (1, 1, (.c (.int .i64 (6)))), (2, 1, (.c (.int .i64 (-7)))), (3, 1, (.c (.int .i64 (1)))), (4, 1, (.c (.int .i64 (-9223372036854775808))))], none, [], []⟩),
            (6, ⟨some 58, .call 82 [(.t 56), (.t 57)], none, [(54, 1)], [56, 57]⟩),
            (7, ⟨some 59, .bsl 1 1 [.int .i64 (0)] [(0, 1, (.t 58))], none, [], [58]⟩),
            (8, ⟨some 60, .app 1 8 (.t 55) (.t 59), none, [], [55, 59]⟩),
            (9, ⟨some 61, .ia 1 (.t 52) (.c (.int .i64 (0))), none, [], [52]⟩),
            (10, ⟨none, .st 1 (.t 61) (.t 60), none, [], [60, 61]⟩)]))
         (.seq
          (.kill [51])
          .skip)))
       (.seq
        (.reg false [
          (0, ⟨some 62, .mv (.t 4), none, [], [4]⟩),
          (1, ⟨some 63, .mv (.t 5), none, [], [5]⟩),
          (2, ⟨some 2, .mv (.t 62), none, [], [62]⟩),
          (3, ⟨some 3, .mv (.t 63), none, [], [63]⟩)])
        .ret))))))
def C68 : CFn := ⟨64, 1, [.t 2, .t 3], B68⟩

/-- spec.l21Set -/
def L69_0 : CCode :=
  (.seq
   (.seq
    (.reg false [
      (0, ⟨some 8, .mv (.t 6), none, [], []⟩),
      (1, ⟨some 9, .mv (.t 1), none, [], []⟩),
      (2, ⟨some 10, .bin .leq (.t 8) (.t 9), none, [], [8, 9]⟩)])
    (.cond (.t 10)
     (.seq
      (.kill [10])
      .skip)
     (.seq
      (.kill [1, 6, 10])
      (.exit 0))))
   (.seq
    (.block 1
     (.seq
      (.reg false [
        (0, ⟨some 13, .mv (.t 0), none, [], []⟩),
        (1, ⟨some 14, .call 81 [(.t 13), (.c (.int .i64 (3)))], none, [], [13]⟩)])
      (.cond (.t 14)
       (.seq
        (.kill [14])
        (.reg false [
          (0, ⟨some 15, .mv (.t 5), none, [], [5]⟩),
          (1, ⟨some 16, .mv (.t 6), none, [], []⟩),
          (2, ⟨some 17, .mv (.t 0), none, [], []⟩),
          (3, ⟨some 18, .call 80 [(.t 17), (.c (.int .i64 (2)))], none, [], [17]⟩),
          (4, ⟨some 19, .bin .mul (.c (.int .i64 (2))) (.t 18), none, [], [18]⟩),
          (5, ⟨some 20, .bin .sub (.c (.int .i64 (1))) (.t 19), none, [], [19]⟩),
          (6, ⟨some 21, .bin .mul (.t 16) (.t 20), none, [], [16, 20]⟩),
          (7, ⟨some 22, .bsl 1 1 [.int .i64 (0)] [(0, 1, (.t 21))], none, [], [21]⟩),
          (8, ⟨some 23, .app 1 8 (.t 15) (.t 22), none, [], [15, 22]⟩),
          (9, ⟨some 5, .mv (.t 23), none, [], [23]⟩)]))
       (.seq
        (.kill [14])
        .skip))))
    (.reg false [
      (0, ⟨some 11, .mv (.t 6), none, [], [6]⟩),
      (1, ⟨some 12, .bin .add (.t 11) (.c (.int .i64 (1))), none, [], [11]⟩),
      (2, ⟨some 6, .mv (.t 12), none, [], [12]⟩)])))
def B69 : CCode :=
  (.seq
   (.reg false [
     (0, ⟨some 4, .mv (.c (.nils)), none, [], [4]⟩)])
   (.seq
    (.reg false [
      (0, ⟨some 7, .bsl 1 0 [.int .i64 (0)] [], none, [], []⟩),
      (1, ⟨some 5, .mv (.t 7), none, [], [7]⟩)])
    (.seq
     (.seq
      (.reg false [
        (0, ⟨some 6, .mv (.c (.int .i64 (1))), none, [], []⟩)])
      (.block 0
       (.loop L69_0)))
     (.seq
      (.seq
       (.reg false [
         (0, ⟨some 24, .mv (.t 0), none, [], []⟩),
         (1, ⟨some 25, .call 81 [(.t 24), (.c (.int .i64 (14)))], none, [], [24]⟩)])
       (.cond (.t 25)
        (.seq
         (.kill [25])
         (.seq
          (.reg false [
            (0, ⟨some 26, .mv (.t 5), none, [], [5]⟩),
            (1, ⟨some 27, .mv (.t 0), none, [], []⟩),
            (2, ⟨some 28, .bsl 1 3 [.int .i64 (0)] [(0, 1, (.c (.int .i64 (0)))), (1, 1, (.c (.int .i64 (7)))), (2, 1, (.c (.int .i64 (-7))))], none, [], []⟩),
            (3, ⟨some 29, .call 82 [(.t 27), (.t 28)], none, [], [27, 28]⟩),
            (4, ⟨some 30, .bsl 1 1 [.int .i64 (0)] [(0, 1, (.t 29))], none, [], [29]⟩),
            (5, ⟨some 31, .app 1 8 (.t 26) (.t 30), none, [], [26, 30]⟩),
            (6, ⟨some 4, .mv (.t 31), none, [], [31]⟩)])
          .ret))
        (.seq
         (.kill [25])
         .skip)))
      (.seq
       (.reg false [
         (0, ⟨some 32, .mv (.t 5), none, [], [5]⟩),
         (1, ⟨some 4, .mv (.t 32), none, [], [32]⟩)])
       .ret)))))
def C69 : CFn := ⟨33, 2, [.t 4], B69⟩

/-- spec.l7Has -/
def L70_0 : CCode :=
  (.seq
   (.seq
    (.reg false [
      (0, ⟨some 6, .mv (.t 5), none, [], []⟩),
      (1, ⟨some 7, .mv (.t 0), none, [], []⟩),
      (2, ⟨some 8, .len (.t 7), none, [], [7]⟩),
      (3, ⟨some 9, .bin .lss (.t 6) (.t 8), none, [], [6, 8]⟩)])
    (.cond (.t 9)
     (.seq
      (.kill [9])
      .skip)
     (.seq
      (.kill [0, 1, 5, 9])
      (.exit 0))))
   (.seq
    (.block 1
     (.seq
      (.reg false [
        (0, ⟨some 12, .mv (.t 0), none, [], []⟩),
        (1, ⟨some 13, .mv (.t 5), none, [], []⟩),
        (2, ⟨some 14, .ia 1 (.t 12) (.t 13), none, [], [12, 13]⟩),
        (3, ⟨some 15, .ld 1 false (.t 14), none, [], [14]⟩),
        (4, ⟨some 16, .mv (.t 1), none, [], []⟩),
        (5, ⟨some 17, .bin .eql (.t 15) (.t 16), none, [], [15, 16]⟩)])
      (.cond (.t 17)
       (.seq
        (.kill [0, 1, 5, 17])
        (.seq
         (.reg false [
           (0, ⟨some 4, .mv (.c (.bool true)), none, [], []⟩)])
         .ret))
       (.seq
        (.kill [17])
        .skip))))
    (.reg false [
      (0, ⟨some 10, .mv (.t 5), none, [], [5]⟩),
      (1, ⟨some 11, .bin .add (.t 10) (.c (.int .i64 (1))), none, [], [10]⟩),
      (2, ⟨some 5, .mv (.t 11), none, [], [11]⟩)])))
def B70 : CCode :=
  (.seq
   (.reg false [
     (0, ⟨some 4, .mv (.c (.bool false)), none, [], [4]⟩)])
   (.seq
    (.seq
     (.reg false [
       (0, ⟨some 5, .mv (.c (.int .i64 (0))), none, [], []⟩)])
     (.block 0
      (.loop L70_0)))
    (.seq
     (.reg false [
       (0, ⟨some 4, .mv (.c (.bool false)), none, [], []⟩)])
     .ret)))
def C70 : CFn := ⟨18, 2, [.t 4], B70⟩

/-- slices.IndexFunc[[][]int,[]int] -/
def L71_0 : CCode :=
  (.seq
   (.reg false [
     (0, ⟨some 9, .bin .lss (.t 8) (.t 7), none, [], []⟩)])
   (.seq
    (.cond (.t 9)
     (.seq
      (.kill [9])
      .skip)
     (.seq
      (.kill [0, 1, 7, 8, 9])
      (.exit 0)))
    (.seq
     (.block 1
      (.seq
       (.reg false [
         (0, ⟨some 10, .mv (.t 8), none, [], []⟩),
         (1, ⟨some 5, .mv (.t 10), none, [], [10]⟩)])
       (.seq
        (.reg false [
          (0, ⟨some 11, .mv (.t 1), none, [], []⟩),
          (1, ⟨some 12, .mv (.t 0), none, [], []⟩),
          (2, ⟨some 13, .mv (.t 5), none, [], []⟩),
          (3, ⟨some 14, .ia 1 (.t 12) (.t 13), none, [], [12, 13]⟩),
          (4, ⟨some 15, .ld 1 false (.t 14), none, [], [14]⟩),
          (5, ⟨some 16, .callv (.t 11) [(.t 15)], none, [], [11, 15]⟩)])
        (.cond (.t 16)
         (.seq
          (.kill [0, 1, 7, 8, 16])
          (.seq
           (.reg false [
             (0, ⟨some 17, .mv (.t 5), none, [], [5]⟩),
             (1, ⟨some 4, .mv (.t 17), none, [], [17]⟩)])
           .ret))
         (.seq
          (.kill [5, 16])
          .skip)))))
     (.reg false [
       (0, ⟨some 18, .bin .add (.t 8) (.c (.int .i64 (1))), none, [], [8]⟩),
       (1, ⟨some 8, .mv (.t 18), none, [], [18]⟩)]))))
def B71 : CCode :=
  (.seq
   (.reg false [
     (0, ⟨some 4, .mv (.c (.int .i64 (0))), none, [], [4]⟩)])
   (.seq
    (.seq
     (.reg false [
       (0, ⟨some 6, .mv (.t 0), none, [], []⟩),
       (1, ⟨some 7, .len (.t 6), none, [], [6]⟩),
       (2, ⟨some 8, .mv (.c (.int .i64 (0))), none, [], []⟩)])
     (.block 0
      (.loop L71_0)))
    (.seq
     (.reg false [
       (0, ⟨some 4, .mv (.c (.int .i64 (-1))), none, [], []⟩)])
     .ret)))
def C71 : CFn := ⟨19, 2, [.t 4], B71⟩

/-- impl.isSubset$1 -/
def B72 : CCode :=
  (.seq
   (.reg false [
     (0, ⟨some 3, .mv (.c (.bool false)), none, [], [3]⟩)])
   (.seq
    (.reg false [
      (0, ⟨some 4, .ld 1 false (.t 1), none, [], [1]⟩),
      (1, ⟨some 5, .mv (.t 0), none, [], [0]⟩),
      (2, ⟨some 6, .call 73 [(.t 4), (.t 5)], none, [], [4, 5]⟩),
      (3, ⟨some 7, .not (.t 6), none, [], [6]⟩),
      (4, ⟨some 3, .mv (.t 7), none, [], [7]⟩)])
    .ret))
def C72 : CFn := ⟨8, 2, [.t 3], B72⟩

/-- slices.Contains[[]int,int] -/
def B73 : CCode :=
  (.seq
   (.reg false [
     (0, ⟨some 4, .mv (.c (.bool false)), none, [], [4]⟩)])
   (.seq
    (.reg false [
      (0, ⟨some 5, .mv (.t 0), none, [], [0]⟩),
      (1, ⟨some 6, .mv (.t 1), none, [], [1]⟩),
      (2, ⟨some 7, .call 83 [(.t 5), (.t 6)], none, [], [5, 6]⟩),
      (3, ⟨some 8, .bin .geq (.t 7) (.c (.int .i64 (0))), none, [], [7]⟩),
      (4, ⟨some 4, .mv (.t 8), none, [], [8]⟩)])
    .ret))
def C73 : CFn := ⟨9, 2, [.t 4], B73⟩

/-- slices.IndexFunc[[]int,int] -/
def L74_0 : CCode :=
  (.seq
   (.reg false [
     (0, ⟨some 9, .bin .lss (.t 8) (.t 7), none, [], []⟩)])
   (.seq
    (.cond (.t 9)
     (.seq
      (.kill [9])
      .skip)
     (.seq
      (.kill [0, 1, 7, 8, 9])
      (.exit 0)))
    (.seq
     (.block 1
      (.seq
       (.reg false [
         (0, ⟨some 10, .mv (.t 8), none, [], []⟩),
         (1, ⟨some 5, .mv (.t 10), none, [], [10]⟩)])
       (.seq
        (.reg false [
          (0, ⟨some 11, .mv (.t 1), none, [], []⟩),
          (1, ⟨some 12, .mv (.t 0), none, [], []⟩),
          (2, ⟨some 13, .mv (.t 5), none, [], []⟩),
          (3, ⟨some 14, .ia 1 (.t 12) (.t 13), none, [], [12, 13]⟩),
          (4, ⟨some 15, .ld 1 false (.t 14), none, [], [14]⟩),
          (5, ⟨some 16, .callv (.t 11) [(.t 15)], none, [], [11, 15]⟩)])
        (.cond (.t 16)
         (.seq
          (.kill [0, 1, 7, 8, 16])
          (.seq
           (.reg false [
             (0, ⟨some 17, .mv (.t 5), none, [], [5]⟩),
             (1, ⟨some 4, .mv (.t 17), none, [], [17]⟩)])
           .ret))
         (.seq
          (.kill [5, 16])
          .skip)))))
     (.reg false [
       (0, ⟨some 18, .bin .add (.t 8) (.c (.int .i64 (1))), none, [], [8]⟩),
       (1, ⟨some 8, .mv (.t 18), none, [], [18]⟩)]))))
def B74 : CCode :=
  (.seq
   (.reg false [
     (0, ⟨some 4, .mv (.c (.int .i64 (0))), none, [], [4]⟩)])
   (.seq
    (.seq
     (.reg false [
       (0, ⟨some 6, .mv (.t 0), none, [], []⟩),
       (1, ⟨some 7, .len (.t 6), none, [], [6]⟩),
       (2, ⟨some 8, .mv (.c (.int .i64 (0))), none, [], []⟩)])
     (.block 0
      (.loop L74_0)))
    (.seq
     (.reg false [
       (0, ⟨some 4, .mv (.c (.int .i64 (-1))), none, [], []⟩)])
     .ret)))
def C74 : CFn := ⟨19, 2, [.t 4], B74⟩

/-- impl.within -/
def B75 : CCode :=
  (.seq
   (.reg false [
     (0, ⟨some 6, .mv (.c (.bool false)), none, [], [6]⟩)])
   (.seq
    (.reg false [
      (0, ⟨some 7, .mv (.t 1), none, [], [1]⟩),
      (1, ⟨some 8, .mv (.t 0), none, [], []⟩),
      (2, ⟨some 9, .bin .leq (.t 7) (.t 8), none, [], [7, 8]⟩),
      (3, ⟨some 10, .mv (.t 9), none, [], [9]⟩),
      (4, ⟨some 11, .mv (.t 0), some (10, true), [], [0]⟩),
      (5, ⟨some 12, .mv (.t 2), some (10, true), [], [2]⟩),
      (6, ⟨some 13, .bin .leq (.t 11) (.t 12), some (10, true), [], [11, 12]⟩),
      (7, ⟨some 14, .pick (.t 10) (.t 13) (.c (.bool false)), none, [], [10, 13]⟩),
      (8, ⟨some 6, .mv (.t 14), none, [], [14]⟩)])
    .ret))
def C75 : CFn := ⟨15, 3, [.t 6], B75⟩

/-- impl.areClauses$1 -/
def B76 : CCode :=
  (.seq
   (.reg false [
     (0, ⟨some 3, .mv (.c (.bool false)), none, [], [3]⟩)])
   (.seq
    (.reg false [
      (0, ⟨some 4, .ld 1 false (.t 1), none, [], [1]⟩),
      (1, ⟨some 5, .mv (.t 0), none, [], [0]⟩),
      (2, ⟨some 6, .call 63 [(.t 4), (.t 5)], none, [], [4, 5]⟩),
      (3, ⟨some 7, .not (.t 6), none, [], [6]⟩),
      (4, ⟨some 3, .mv (.t 7), none, [], [7]⟩)])
    .ret))
def C76 : CFn := ⟨8, 2, [.t 3], B76⟩

/-- impl.propagate$1 -/
def B77 : CCode :=
  (.seq
   (.reg false [
     (0, ⟨some 3, .mv (.c (.bool false)), none, [], [3]⟩)])
   (.seq
    (.reg false [
      (0, ⟨some 4, .ld 1 false (.t 1), none, [], [1]⟩),
      (1, ⟨some 5, .mv (.t 0), none, [], [0]⟩),
      (2, ⟨some 6, .call 73 [(.t 4), (.t 5)], none, [], [4, 5]⟩),
      (3, ⟨some 3, .mv (.t 6), none, [], [6]⟩)])
    .ret))
def C77 : CFn := ⟨7, 2, [.t 3], B77⟩

/-- impl.without -/
def L78_0 : CCode :=
  (.seq
   (.reg false [
     (0, ⟨some 12, .bin .lss (.t 11) (.t 10), none, [], []⟩)])
   (.seq
    (.cond (.t 12)
     (.seq
      (.kill [12])
      .skip)
     (.seq
      (.kill [1, 9, 10, 11, 12])
      (.exit 0)))
    (.seq
     (.block 1
      (.seq
       (.reg false [
         (0, ⟨some 13, .ia 1 (.t 9) (.t 11), none, [], []⟩),
         (1, ⟨some 14, .ld 1 false (.t 13), none, [], [13]⟩),
         (2, ⟨some 7, .mv (.t 14), none, [], [14]⟩)])
       (.seq
        (.reg false [
          (0, ⟨some 15, .mv (.t 1), none, [], []⟩),
          (1, ⟨some 16, .mv (.t 7), none, [], []⟩),
          (2, ⟨some 17, .call 73 [(.t 15), (.t 16)], none, [], [15, 16]⟩),
          (3, ⟨some 18, .not (.t 17), none, [], [17]⟩)])
        (.cond (.t 18)
         (.seq
          (.kill [18])
          (.reg false [
            (0, ⟨some 19, .mv (.t 5), none, [], [5]⟩),
            (1, ⟨some 20, .mv (.t 7), none, [], [7]⟩),
            (2, ⟨some 21, .bsl 1 1 [.int .i64 (0)] [(0, 1, (.t 20))], none, [], [20]⟩),
            (3, ⟨some 22, .app 1 8 (.t 19) (.t 21), none, [], [19, 21]⟩),
            (4, ⟨some 5, .mv (.t 22), none, [], [22]⟩)]))
         (.seq
          (.kill [7, 18])
          .skip)))))
     (.reg false [
       (0, ⟨some 23, .bin .add (.t 11) (.c (.int .i64 (1))), none, [], [11]⟩),
       (1, ⟨some 11, .mv (.t 23), none, [], [23]⟩)]))))
def B78 : CCode :=
  (.seq
   (.reg false [
     (0, ⟨some 4, .mv (.c (.nils)), none, [], [4]⟩)])
   (.seq
    (.reg false [
      (0, ⟨some 8, .bsl 1 0 [.int .i64 (0)] [], none, [], []⟩),
      (1, ⟨some 5, .mv (.t 8), none, [], [8]⟩)])
    (.seq
     (.seq
      (.reg false [
        (0, ⟨some 9, .mv (.t 0), none, [], [0]⟩),
        (1, ⟨some 10, .len (.t 9), none, [], []⟩),
        (2, ⟨some 11, .mv (.c (.int .i64 (0))), none, [], []⟩)])
      (.block 0
       (.loop L78_0)))
     (.seq
      (.reg false [
        (0, ⟨some 24, .mv (.t 5), none, [], [5]⟩),
        (1, ⟨some 4, .mv (.t 24), none, [], [24]⟩)])
      .ret))))
def C78 : CFn := ⟨25, 2, [.t 4], B78⟩

/-- spec.l21Left -/
def L79_0 : CCode :=
  (.seq
   (.seq
    (.reg false [
      (0, ⟨some 9, .mv (.t 7), none, [], []⟩),
      (1, ⟨some 10, .mv (.t 0), none, [], []⟩),
      (2, ⟨some 11, .len (.t 10), none, [], [10]⟩),
      (3, ⟨some 12, .bin .lss (.t 9) (.t 11), none, [], [9, 11]⟩)])
    (.cond (.t 12)
     (.seq
      (.kill [12])
      .skip)
     (.seq
      (.kill [0, 1, 7, 12])
      (.exit 0))))
   (.seq
    (.block 1
     (.seq
      (.seq
       (.reg false [
         (0, ⟨some 15, .mv (.t 1), none, [], []⟩),
         (1, ⟨some 16, .mv (.t 0), none, [], []⟩),
         (2, ⟨some 17, .mv (.t 7), none, [], []⟩),
         (3, ⟨some 18, .ia 1 (.t 16) (.t 17), none, [], [16, 17]⟩),
         (4, ⟨some 19, .ld 1 false (.t 18), none, [], [18]⟩),
         (5, ⟨some 20, .call 70 [(.t 15), (.t 19)], none, [], [15, 19]⟩)])
       (.cond (.t 20)
        (.seq
         (.kill [0, 1, 7, 20])
         (.seq
          (.reg false [
            (0, ⟨some 21, .mv (.t 6), none, [], [6]⟩),
            (1, ⟨some 4, .mv (.t 21), none, [], [21]⟩),
            (2, ⟨some 5, .mv (.c (.bool true)), none, [], []⟩)])
          .ret))
        (.seq
         (.kill [20])
         .skip)))
      (.seq
       (.reg false [
         (0, ⟨some 22, .mv (.t 1), none, [], []⟩),
         (1, ⟨some 23, .mv (.t 0), none, [], []⟩),
         (2, ⟨some 24, .mv (.t 7), none, [], []⟩),
         (3, ⟨some 25, .ia 1 (.t 23) (.t 24), none, [], [23, 24]⟩),
         (4, ⟨some 26, .ld 1 false (.t 25), none, [], [25]⟩),
         (5, ⟨some 27, .neg (.t 26), none, [], [26]⟩),
         (6, ⟨some 28, .call 70 [(.t 22), (.t 27)], none, [], [22, 27]⟩),
         (7, ⟨some 29, .not (.t 28), none, [], [28]⟩)])
       (.cond (.t 29)
        (.seq
         (.kill [29])
         (.reg false [
           (0, ⟨some 30, .mv (.t 6), none, [], [6]⟩),
           (1, ⟨some 31, .mv (.t 0), none, [], []⟩),
           (2, ⟨some 32, .mv (.t 7), none, [], []⟩),
           (3, ⟨some 33, .ia 1 (.t 31) (.t 32), none, [], [31, 32]⟩),
           (4, ⟨some 34, .ld 1 false (.t 33), none, [], [33]⟩),
           (5, ⟨some 35, .bsl 1 1 [.int .i64 (0)] [(0, 1, (.t 34))], none, [], [34]⟩),
           (6, ⟨some 36, .app 1 8 (.t 30) (.t 35), none, [], [30, 35]⟩),
           (7, ⟨some 6, .mv (.t 36), none, [], [36]⟩)]))
        (.seq
         (.kill [29])
         .skip)))))
    (.reg false [
      (0, ⟨some 13, .mv (.t 7), none, [], [7]⟩),
      (1, ⟨some 14, .bin .add (.t 13) (.c (.int .i64 (1))), none, [], [13]⟩),
      (2, ⟨some 7, .mv (.t 14), none, [], [14]⟩)])))
def B79 : CCode :=
  (.seq
   (.reg false [
     (0, ⟨some 4, .mv (.c (.nils)), none, [], [4]⟩),
     (1, ⟨some 5, .mv (.c (.bool false)), none, [], [5]⟩)])
   (.seq
    (.reg false [
      (0, ⟨some 8, .bsl 1 0 [.int .i64 (0)] [], none, [], []⟩),
      (1, ⟨some 6, .mv (.t 8), none, [], [8]⟩)])
    (.seq
     (.seq
      (.reg false [
        (0, ⟨some 7, .mv (.c (.int .i64 (0))), none, [], []⟩)])
      (.block 0
       (.loop L79_0)))
     (.seq
      (.reg false [
        (0, ⟨some 37, .mv (.t 6), none, [], [6]⟩),
        (1, ⟨some 4, .mv (.t 37), none, [], [37]⟩),
        (2, ⟨some 5, .mv (.c (.bool false)), none, [], []⟩)])
      .ret))))
def C79 : CFn := ⟨38, 2, [.t 4, .t 5], B79⟩

/-- spec.l1Below -/
def B80 : CCode :=
  (.seq
   (.reg false [
     (0, ⟨some 4, .mv (.c (.int .i64 (0))), none, [], [4]⟩)])
   (.seq
    (.seq
     (.reg false [
       (0, ⟨some 9, .mv (.t 1), none, [], []⟩),
       (1, ⟨some 10, .bin .leq (.t 9) (.c (.int .i64 (0))), none, [], [9]⟩)])
     (.cond (.t 10)
      (.seq
       (.kill [1, 10])
       (.seq
        (.reg false [
          (0, ⟨some 4, .mv (.c (.int .i64 (0))), none, [], []⟩)])
        .ret))
      (.seq
       (.kill [10])
       .skip)))
    (.seq
     (.seq
      (.reg false [
        (0, ⟨some 11, .mv (.t 1), none, [], []⟩),
        (1, ⟨some 12, .bin .leq (.t 11) (.c (.int .i64 (256))), none, [], [11]⟩)])
      (.cond (.t 12)
       (.seq
        (.kill [12])
        (.seq
         (.reg false [
           (0, ⟨some 13, .mv (.t 0), none, [], []⟩),
           (1, ⟨some 14, .call 84 [(.t 13)], none, [], [13]⟩),
           (2, ⟨some 15, .mv (.t 1), none, [], [1]⟩),
           (3, ⟨some 16, .bin .rem (.t 14) (.t 15), none, [], [14, 15]⟩),
           (4, ⟨some 4, .mv (.t 16), none, [], [16]⟩)])
         .ret))
       (.seq
        (.kill [12])
        .skip)))
     (.seq
      (.reg false [
        (0, ⟨some 17, .mv (.t 0), none, [], []⟩),
        (1, ⟨some 18, .call 84 [(.t 17)], none, [], [17]⟩),
        (2, ⟨some 5, .mv (.t 18), none, [], [18]⟩)])
      (.seq
       (.reg false [
         (0, ⟨some 19, .mv (.t 0), none, [], []⟩),
         (1, ⟨some 20, .call 84 [(.t 19)], none, [], [19]⟩),
         (2, ⟨some 6, .mv (.t 20), none, [], [20]⟩)])
       (.seq
        (.reg false [
          (0, ⟨some 21, .mv (.t 0), none, [], []⟩),
          (1, ⟨some 22, .call 84 [(.t 21)], none, [], [21]⟩),
          (2, ⟨some 7, .mv (.t 22), none, [], [22]⟩)])
        (.seq
         (.reg false [
           (0, ⟨some 23, .mv (.t 0), none, [], []⟩),
           (1, ⟨some 24, .call 84 [(.t 23)], none, [], [23]⟩),
           (2, ⟨some 8, .mv (.t 24), none, [], [24]⟩)])
         (.seq
          (.reg false [
            (0, ⟨some 25, .mv (.t 5), none, [], [5]⟩),
            (1, ⟨some 26, .bin .mul (.t 25) (.c (.int .i64 (16777216))), none, [], [25]⟩),
            (2, ⟨some 27, .mv (.t 6), none, [], [6]⟩),
            (3, ⟨some 28, .bin .mul (.t 27) (.c (.int .i64 (65536))), none, [], [27]⟩),
            (4, ⟨some 29, .bin .add (.t 26) (.t 28), none, [], [26, 28]⟩),
            (5, ⟨some 30, .mv (.t 7), none, [], [7]⟩),
            (6, ⟨some 31, .bin .mul (.t 30) (.c (.int .i64 (256))), none, [], [30]⟩),
            (7, ⟨some 32, .bin .add (.t 29) (.t 31), none, [], [29, 31]⟩),
            (8, ⟨some 33, .mv (.t 8), none, [], [8]⟩),
            (9, ⟨some 34, .bin .add (.t 32) (.t 33), none, [], [32, 33]⟩),
            (10, ⟨some 35, .mv (.t 1), none, [], [1]⟩),
            (11, ⟨some 36, .bin .rem (.t 34) (.t 35), none, [], [34, 35]⟩),
            (12, ⟨some 4, .mv (.t 36), none, [], [36]⟩)])
          .ret))))))))
def C80 : CFn := ⟨37, 2, [.t 4], B80⟩

/-- spec.l1Once -/
def B81 : CCode :=
  (.seq
   (.reg false [
     (0, ⟨some 4, .mv (.c (.bool false)), none, [], [4]⟩)])
   (.seq
    (.reg false [
      (0, ⟨some 5, .mv (.t 0), none, [], []⟩),
      (1, ⟨some 6, .mv (.t 1), none, [], [1]⟩),
      (2, ⟨some 7, .call 80 [(.t 5), (.t 6)], none, [], [5, 6]⟩),
      (3, ⟨some 8, .bin .eql (.t 7) (.c (.int .i64 (0))), none, [], [7]⟩),
      (4, ⟨some 4, .mv (.t 8), none, [], [8]⟩)])
    .ret))
def C81 : CFn := ⟨9, 2, [.t 4], B81⟩

/-- spec.l1PickInt -/
def B82 : CCode :=
  (.seq
   (.reg false [
     (0, ⟨some 4, .mv (.c (.int .i64 (0))), none, [], [4]⟩)])
   (.seq
    (.reg false [
      (0, ⟨some 5, .mv (.t 1), none, [], []⟩),
      (1, ⟨some 6, .mv (.t 0), none, [], []⟩),
      (2, ⟨some 7, .mv (.t 1), none, [], [1]⟩),
      (3, ⟨some 8, .len (.t 7), none, [], [7]⟩),
      (4, ⟨some 9, .call 80 [(.t 6), (.t 8)], none, [], [6, 8]⟩),
      (5, ⟨some 10, .ia 1 (.t 5) (.t 9), none, [], [5, 9]⟩),
      (6, ⟨some 11, .ld 1 false (.t 10), none, [], [10]⟩),
      (7, ⟨some 4, .mv (.t 11), none, [], [11]⟩)])
    .ret))
def C82 : CFn := ⟨12, 2, [.t 4], B82⟩

/-- slices.Index[[]int,int] -/
def L83_0 : CCode :=
  (.seq
   (.reg false [
     (0, ⟨some 9, .bin .lss (.t 8) (.t 7), none, [], []⟩)])
   (.seq
    (.cond (.t 9)
     (.seq
      (.kill [9])
      .skip)
     (.seq
      (.kill [0, 1, 7, 8, 9])
      (.exit 0)))
    (.seq
     (.block 1
      (.seq
       (.reg false [
         (0, ⟨some 10, .mv (.t 8), none, [], []⟩),
         (1, ⟨some 5, .mv (.t 10), none, [], [10]⟩)])
       (.seq
        (.reg false [
          (0, ⟨some 11, .mv (.t 1), none, [], []⟩),
          (1, ⟨some 12, .mv (.t 0), none, [], []⟩),
          (2, ⟨some 13, .mv (.t 5), none, [], []⟩),
          (3, ⟨some 14, .ia 1 (.t 12) (.t 13), none, [], [12, 13]⟩),
          (4, ⟨some 15, .ld 1 false (.t 14), none, [], [14]⟩),
          (5, ⟨some 16, .bin .eql (.t 11) (.t 15), none, [], [11, 15]⟩)])
        (.cond (.t 16)
         (.seq
          (.kill [0, 1, 7, 8, 16])
          (.seq
           (.reg false [
             (0, ⟨some 17, .mv (.t 5), none, [], [5]⟩),
             (1, ⟨some 4, .mv (.t 17), none, [], [17]⟩)])
           .ret))
         (.seq
          (.kill [5, 16])
          .skip)))))
     (.reg false [
       (0, ⟨some 18, .bin .add (.t 8) (.c (.int .i64 (1))), none, [], [8]⟩),
       (1, ⟨some 8, .mv (.t 18), none, [], [18]⟩)]))))
def B83 : CCode :=
  (.seq
   (.reg false [
     (0, ⟨some 4, .mv (.c (.int .i64 (0))), none, [], [4]⟩)])
   (.seq
    (.seq
     (.reg false [
       (0, ⟨some 6, .mv (.t 0), none, [], []⟩),
       (1, ⟨some 7, .len (.t 6), none, [], [6]⟩),
       (2, ⟨some 8, .mv (.c (.int .i64 (0))), none, [], []⟩)])
     (.block 0
      (.loop L83_0)))
    (.seq
     (.reg false [
       (0, ⟨some 4, .mv (.c (.int .i64 (-1))), none, [], []⟩)])
     .ret)))
def C83 : CFn := ⟨19, 2, [.t 4], B83⟩

/-- spec.l1Byte -/
def B84 : CCode :=
  (.seq
   (.reg false [
     (0, ⟨some 2, .mv (.c (.int .i64 (0))), none, [], [2]⟩)])
   (.seq
    (.reg false [
      (0, ⟨some 4, .mv (.t 0), none, [], []⟩),
      (1, ⟨some 5, .mv (.t 0), none, [], []⟩),
      (2, ⟨some 6, .nc (.t 5), none, [], [5]⟩),
      (3, ⟨some 7, .fa 2 (.t 6), none, [], [6]⟩),
      (4, ⟨some 8, .ld 1 false (.t 7), none, [], [7]⟩),
      (5, ⟨some 9, .bin .mul (.t 8) (.c (.int .i64 (6364136223846793005))), none, [], [8]⟩),
      (6, ⟨some 10, .bin .add (.t 9) (.c (.int .i64 (1442695040888963407))), none, [], [9]⟩),
      (7, ⟨some 11, .nc (.t 4), none, [], [4]⟩),
      (8, ⟨some 12, .fa 2 (.t 11), none, [], [11]⟩),
      (9, ⟨none, .st 1 (.t 12) (.t 10), none, [], [10, 12]⟩)])
    (.seq
     (.reg true [
       (0, ⟨some 13, .mv (.t 0), none, [], []⟩),
       (1, ⟨some 14, .nc (.t 13), none, [], [13]⟩),
       (2, ⟨some 15, .fa 2 (.t 14), none, [], [14]⟩),
       (3, ⟨some 16, .ld 1 false (.t 15), none, [], [15]⟩),
       (4, ⟨some 17, .bin .shr (.t 16) (.c (.int .u64 (33))), none, [], [16]⟩),
       (5, ⟨some 18, .mv (.t 0), none, [], []⟩),
       (6, ⟨some 19, .nc (.t 18), none, [], [18]⟩),
       (7, ⟨some 20, .fa 2 (.t 19), none, [], [19]⟩),
       (8, ⟨some 21, .ld 1 false (.t 20), none, [], [20]⟩),
       (9, ⟨some 22, .bin .shr (.t 21) (.c (.int .u64 (45))), none, [], [21]⟩),
       (10, ⟨some 23, .bin .xor (.t 17) (.t 22), none, [], [17, 22]⟩),
       (11, ⟨some 24, .bin .and (.t 23) (.c (.int .i64 (255))), none, [], [23]⟩),
       (12, ⟨some 3, .mv (.t 24), none, [], [24]⟩)])
     (.seq
      (.seq
       (.reg true [
         (0, ⟨some 25, .mv (.t 0), none, [], []⟩),
         (1, ⟨some 26, .nc (.t 25), none, [], [25]⟩),
         (2, ⟨some 27, .fa 1 (.t 26), none, [], [26]⟩),
         (3, ⟨some 28, .ld 1 false (.t 27), none, [], [27]⟩),
         (4, ⟨some 29, .mv (.t 0), none, [], []⟩),
         (5, ⟨some 30, .nc (.t 29), none, [], [29]⟩),
         (6, ⟨some 31, .fa 0 (.t 30), none, [], [30]⟩),
         (7, ⟨some 32, .ld 1 false (.t 31), none, [], [31]⟩),
         (8, ⟨some 33, .len (.t 32), none, [], [32]⟩),
         (9, ⟨some 34, .bin .lss (.t 28) (.t 33), none, [], [28, 33]⟩)])
       (.cond (.t 34)
        (.seq
         (.kill [34])
         (.seq
          (.reg true [
            (0, ⟨some 35, .mv (.t 3), none, [], [3]⟩),
            (1, ⟨some 36, .mv (.t 0), none, [], []⟩),
            (2, ⟨some 37, .nc (.t 36), none, [], [36]⟩),
            (3, ⟨some 38, .fa 0 (.t 37), none, [], [37]⟩),
            (4, ⟨some 39, .ld 1 false (.t 38), none, [], [38]⟩),
            (5, ⟨some 40, .mv (.t 0), none, [], []⟩),
            (6, ⟨some 41, .nc (.t 40), none, [], [40]⟩),
            (7, ⟨some 42, .fa 1 (.t 41), none, [], [41]⟩),
            (8, ⟨some 43, .ld 1 false (.t 42), none, [], [42]⟩),
            (9, ⟨some 44, .ia 1 (.t 39) (.t 43), none, [], [39, 43]⟩),
            (10, ⟨some 45, .ld 1 false (.t 44), none, [], [44]⟩),
            (11, ⟨some 46, .conv .i64 (.t 45), none, [], [45]⟩),
            (12, ⟨some 47, .bin .add (.t 35) (.t 46), none, [], [35, 46]⟩),
            (13, ⟨some 48, .bin .and (.t 47) (.c (.int .i64 (255))), none, [], [47]⟩),
            (14, ⟨some 3, .mv (.t 48), none, [], [48]⟩)])
          (.reg false [
            (0, ⟨some 49, .mv (.t 0), none, [], []⟩),
            (1, ⟨some 50, .mv (.t 0), none, [], []⟩),
            (2, ⟨some 51, .nc (.t 50), none, [], [50]⟩),
            (3, ⟨some 52, .fa 1 (.t 51), none, [], [51]⟩),
            (4, ⟨some 53, .ld 1 false (.t 52), none, [], [52]⟩),
            (5, ⟨some 54, .bin .add (.t 53) (.c (.int .i64 (1))), none, [], [53]⟩),
            (6, ⟨some 55, .nc (.t 49), none, [], [49]⟩),
            (7, ⟨some 56, .fa 1 (.t 55), none, [], [55]⟩),
            (8, ⟨none, .st 1 (.t 56) (.t 54), none, [], [54, 56]⟩)])))
        (.seq
         (.kill [34])
         .skip)))
      (.seq
       (.reg false [
         (0, ⟨some 57, .mv (.t 3), none, [], [3]⟩),
         (1, ⟨some 2, .mv (.t 57), none, [], [57]⟩)])
       .ret)))))
def C84 : CFn := ⟨58, 1, [.t 2], B84⟩

theorem chk3 : chkFn Go.Proofs.Try.prog 3 C3 = true := by kernel_rfl
theorem chk4 : chkFn Go.Proofs.Try.prog 4 C4 = true := by kernel_rfl
theorem chk5 : chkFn Go.Proofs.Try.prog 5 C5 = true := by kernel_rfl
theorem chk6 : chkFn Go.Proofs.Try.prog 6 C6 = true := by kernel_rfl
theorem chk7 : chkFn Go.Proofs.Try.prog 7 C7 = true := by kernel_rfl
theorem chk8 : chkFn Go.Proofs.Try.prog 8 C8 = true := by kernel_rfl
theorem chk9 : chkFn Go.Proofs.Try.prog 9 C9 = true := by kernel_rfl
theorem chk10 : chkFn Go.Proofs.Try.prog 10 C10 = true := by kernel_rfl
theorem chk11 : chkFn Go.Proofs.Try.prog 11 C11 = true := by kernel_rfl
theorem chk12 : chkFn Go.Proofs.Try.prog 12 C12 = true := by kernel_rfl
theorem chk13 : chkFn Go.Proofs.Try.prog 13 C13 = true := by kernel_rfl
theorem chk14 : chkFn Go.Proofs.Try.prog 14 C14 = true := by kernel_rfl
theorem chk15 : chkFn Go.Proofs.Try.prog 15 C15 = true := by kernel_rfl
theorem chk16 : chkFn Go.Proofs.Try.prog 16 C16 = true := by kernel_rfl
theorem chk17 : chkFn Go.Proofs.Try.prog 17 C17 = true := by kernel_rfl
theorem chk18 : chkFn Go.Proofs.Try.prog 18 C18 = true := by kernel_rfl
theorem chk19 : chkFn Go.Proofs.Try.prog 19 C19 = true := by kernel_rfl
theorem chk20 : chkFn Go.Proofs.Try.prog 20 C20 = true := by kernel_rfl
theorem chk21 : chkFn Go.Proofs.Try.prog 21 C21 = true := by kernel_rfl
theorem chk22 : chkFn Go.Proofs.Try.prog 22 C22 = true := by kernel_rfl
theorem chk23 : chkFn Go.Proofs.Try.prog 23 C23 = true := by kernel_rfl
theorem chk24 : chkFn Go.Proofs.Try.prog 24 C24 = true := by kernel_rfl
theorem chk25 : chkFn Go.Proofs.Try.prog 25 C25 = true := by kernel_rfl
theorem chk26 : chkFn Go.Proofs.Try.prog 26 C26 = true := by kernel_rfl
theorem chk27 : chkFn Go.Proofs.Try.prog 27 C27 = true := by kernel_rfl
theorem chk28 : chkFn Go.Proofs.Try.prog 28 C28 = true := by kernel_rfl
theorem chk29 : chkFn Go.Proofs.Try.prog 29 C29 = true := by kernel_rfl
theorem chk30 : chkFn Go.Proofs.Try.prog 30 C30 = true := by kernel_rfl
theorem chk31 : chkFn Go.Proofs.Try.prog 31 C31 = true := by kernel_rfl
theorem chk32 : chkFn Go.Proofs.Try.prog 32 C32 = true := by kernel_rfl
theorem chk33 : chkFn Go.Proofs.Try.prog 33 C33 = true := by kernel_rfl
theorem chk34 : chkFn Go.Proofs.Try.prog 34 C34 = true := by kernel_rfl
theorem chk35 : chkFn Go.Proofs.Try.prog 35 C35 = true := by kernel_rfl
theorem chk36 : chkFn Go.Proofs.Try.prog 36 C36 = true := by kernel_rfl
theorem chk37 : chkFn Go.Proofs.Try.prog 37 C37 = true := by kernel_rfl
theorem chk38 : chkFn Go.Proofs.Try.prog 38 C38 = true := by kernel_rfl
theorem chk39 : chkFn Go.Proofs.Try.prog 39 C39 = true := by kernel_rfl
theorem chk40 : chkFn Go.Proofs.Try.prog 40 C40 = true := by kernel_rfl
theorem chk41 : chkFn Go.Proofs.Try.prog 41 C41 = true := by kernel_rfl
theorem chk42 : chkFn Go.Proofs.Try.prog 42 C42 = true := by kernel_rfl
theorem chk43 : chkFn Go.Proofs.Try.prog 43 C43 = true := by kernel_rfl
theorem chk44 : chkFn Go.Proofs.Try.prog 44 C44 = true := by kernel_rfl
theorem chk45 : chkFn Go.Proofs.Try.prog 45 C45 = true := by kernel_rfl
theorem chk46 : chkFn Go.Proofs.Try.prog 46 C46 = true := by kernel_rfl
theorem chk47 : chkFn Go.Proofs.Try.prog 47 C47 = true := by kernel_rfl
theorem chk48 : chkFn Go.Proofs.Try.prog 48 C48 = true := by kernel_rfl
theorem chk49 : chkFn Go.Proofs.Try.prog 49 C49 = true := by kernel_rfl
theorem chk50 : chkFn Go.Proofs.Try.prog 50 C50 = true := by kernel_rfl
theorem chk51 : chkFn Go.Proofs.Try.prog 51 C51 = true := by kernel_rfl
theorem chk52 : chkFn Go.Proofs.Try.prog 52 C52 = true := by kernel_rfl
theorem chk53 : chkFn Go.Proofs.Try.prog 53 C53 = true := by kernel_rfl
theorem chk54 : chkFn Go.Proofs.Try.prog 54 C54 = true := by kernel_rfl
theorem chk55 : chkFn Go.Proofs.Try.prog 55 C55 = true := by kernel_rfl
theorem chk56 : chkFn Go.Proofs.Try.prog 56 C56 = true := by kernel_rfl
theorem chk57 : chkFn Go.Proofs.Try.prog 57 C57 = true := by kernel_rfl
theorem chk58 : chkFn Go.Proofs.Try.prog 58 C58 = true := by kernel_rfl
theorem chk59 : chkFn Go.Proofs.Try.prog 59 C59 = true := by kernel_rfl
theorem chk60 : chkFn Go.Proofs.Try.prog 60 C60 = true := by kernel_rfl
theorem chk61 : chkFn Go.Proofs.Try.prog 61 C61 = true := by kernel_rfl
theorem chk62 : chkFn Go.Proofs.Try.prog 62 C62 = true := by kernel_rfl
theorem chk63 : chkFn Go.Proofs.Try.prog 63 C63 = true := by kernel_rfl
theorem chk64 : chkFn Go.Proofs.Try.prog 64 C64 = true := by kernel_rfl
theorem chk65 : chkFn Go.Proofs.Try.prog 65 C65 = true := by kernel_rfl
theorem chk66 : chkFn Go.Proofs.Try.prog 66 C66 = true := by kernel_rfl
theorem chk67 : chkFn Go.Proofs.Try.prog 67 C67 = true := by kernel_rfl
theorem chk68 : chkFn Go.Proofs.Try.prog 68 C68 = true := by kernel_rfl
theorem chk69 : chkFn Go.Proofs.Try.prog 69 C69 = true := by kernel_rfl
theorem chk70 : chkFn Go.Proofs.Try.prog 70 C70 = true := by kernel_rfl
theorem chk71 : chkFn Go.Proofs.Try.prog 71 C71 = true := by kernel_rfl
theorem chk72 : chkFn Go.Proofs.Try.prog 72 C72 = true := by kernel_rfl
theorem chk73 : chkFn Go.Proofs.Try.prog 73 C73 = true := by kernel_rfl
theorem chk74 : chkFn Go.Proofs.Try.prog 74 C74 = true := by kernel_rfl
theorem chk75 : chkFn Go.Proofs.Try.prog 75 C75 = true := by kernel_rfl
theorem chk76 : chkFn Go.Proofs.Try.prog 76 C76 = true := by kernel_rfl
theorem chk77 : chkFn Go.Proofs.Try.prog 77 C77 = true := by kernel_rfl
theorem chk78 : chkFn Go.Proofs.Try.prog 78 C78 = true := by kernel_rfl
theorem chk79 : chkFn Go.Proofs.Try.prog 79 C79 = true := by kernel_rfl
theorem chk80 : chkFn Go.Proofs.Try.prog 80 C80 = true := by kernel_rfl
theorem chk81 : chkFn Go.Proofs.Try.prog 81 C81 = true := by kernel_rfl
theorem chk82 : chkFn Go.Proofs.Try.prog 82 C82 = true := by kernel_rfl
theorem chk83 : chkFn Go.Proofs.Try.prog 83 C83 = true := by kernel_rfl
theorem chk84 : chkFn Go.Proofs.Try.prog 84 C84 = true := by kernel_rfl
def Tab (f : Nat) : Option CFn :=
  match f with
  | 3 => some C3
  | 4 => some C4
  | 5 => some C5
  | 6 => some C6
  | 7 => some C7
  | 8 => some C8
  | 9 => some C9
  | 10 => some C10
  | 11 => some C11
  | 12 => some C12
  | 13 => some C13
  | 14 => some C14
  | 15 => some C15
  | 16 => some C16
  | 17 => some C17
  | 18 => some C18
  | 19 => some C19
  | 20 => some C20
  | 21 => some C21
  | 22 => some C22
  | 23 => some C23
  | 24 => some C24
  | 25 => some C25
  | 26 => some C26
  | 27 => some C27
  | 28 => some C28
  | 29 => some C29
  | 30 => some C30
  | 31 => some C31
  | 32 => some C32
  | 33 => some C33
  | 34 => some C34
  | 35 => some C35
  | 36 => some C36
  | 37 => some C37
  | 38 => some C38
  | 39 => some C39
  | 40 => some C40
  | 41 => some C41
  | 42 => some C42
  | 43 => some C43
  | 44 => some C44
  | 45 => some C45
  | 46 => some C46
  | 47 => some C47
  | 48 => some C48
  | 49 => some C49
  | 50 => some C50
  | 51 => some C51
  | 52 => some C52
  | 53 => some C53
  | 54 => some C54
  | 55 => some C55
  | 56 => some C56
  | 57 => some C57
  | 58 => some C58
  | 59 => some C59
  | 60 => some C60
  | 61 => some C61
  | 62 => some C62
  | 63 => some C63
  | 64 => some C64
  | 65 => some C65
  | 66 => some C66
  | 67 => some C67
  | 68 => some C68
  | 69 => some C69
  | 70 => some C70
  | 71 => some C71
  | 72 => some C72
  | 73 => some C73
  | 74 => some C74
  | 75 => some C75
  | 76 => some C76
  | 77 => some C77
  | 78 => some C78
  | 79 => some C79
  | 80 => some C80
  | 81 => some C81
  | 82 => some C82
  | 83 => some C83
  | 84 => some C84
  | _ => none
theorem tabOk : TabOk Go.Proofs.Try.prog Tab := by
  intro f cf h
  unfold Tab at h
  split at h <;> simp only [Option.some.injEq, reduceCtorEq] at h <;> subst h
  · exact chk3
  · exact chk4
  · exact chk5
  · exact chk6
  · exact chk7
  · exact chk8
  · exact chk9
  · exact chk10
  · exact chk11
  · exact chk12
  · exact chk13
  · exact chk14
  · exact chk15
  · exact chk16
  · exact chk17
  · exact chk18
  · exact chk19
  · exact chk20
  · exact chk21
  · exact chk22
  · exact chk23
  · exact chk24
  · exact chk25
  · exact chk26
  · exact chk27
  · exact chk28
  · exact chk29
  · exact chk30
  · exact chk31
  · exact chk32
  · exact chk33
  · exact chk34
  · exact chk35
  · exact chk36
  · exact chk37
  · exact chk38
  · exact chk39
  · exact chk40
  · exact chk41
  · exact chk42
  · exact chk43
  · exact chk44
  · exact chk45
  · exact chk46
  · exact chk47
  · exact chk48
  · exact chk49
  · exact chk50
  · exact chk51
  · exact chk52
  · exact chk53
  · exact chk54
  · exact chk55
  · exact chk56
  · exact chk57
  · exact chk58
  · exact chk59
  · exact chk60
  · exact chk61
  · exact chk62
  · exact chk63
  · exact chk64
  · exact chk65
  · exact chk66
  · exact chk67
  · exact chk68
  · exact chk69
  · exact chk70
  · exact chk71
  · exact chk72
  · exact chk73
  · exact chk74
  · exact chk75
  · exact chk76
  · exact chk77
  · exact chk78
  · exact chk79
  · exact chk80
  · exact chk81
  · exact chk82
  · exact chk83
  · exact chk84

end Go.Proofs.YthfbkecnnllpkaaH
