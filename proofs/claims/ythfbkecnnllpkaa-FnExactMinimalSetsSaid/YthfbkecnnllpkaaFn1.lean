/- The program's functions, for the abstract machine: printed by gen.py. -/
import Derived.Test.YthfbkecnnllpkaaHm28
import Derived.Test.YthfbkecnnllpkaaProg
set_option linter.unusedVariables false
set_option maxRecDepth 100000
namespace Go.Proofs.YthfbkecnnllpkaaH
open Go
/-- laws.FnExactMinimalSets -/
def B8 : CCode :=
  (.seq
   (.reg false [
     (0, ⟨some 2, .mv (.c (.bool false)), none, [], [2]⟩)])
   (.seq
    (.reg false [
      (0, ⟨some 3, .mv (.c (.int .i64 (1048576))), none, [], []⟩)])
    (.seq
     (.reg false [
       (0, ⟨some 11, .mv (.t 0), none, [], []⟩),
       (1, ⟨some 12, .mv (.t 3), none, [], [3]⟩),
       (2, ⟨some 13, .call 26 [(.t 11), (.t 12)], none, [], [11, 12]⟩),
       (3, ⟨some 3, .mv (.t 13), none, [], [13]⟩)])
     (.seq
      (.seq
       (.reg false [
         (0, ⟨some 14, .mv (.t 3), none, [], [3]⟩),
         (1, ⟨some 15, .bin .lss (.t 14) (.c (.int .i64 (0))), none, [], [14]⟩)])
       (.cond (.t 15)
        (.seq
         (.kill [0, 15])
         (.seq
          (.reg false [
            (0, ⟨some 2, .mv (.c (.bool true)), none, [], []⟩)])
          .ret))
        (.seq
         (.kill [15])
         .skip)))
      (.seq
       (.reg false [
         (0, ⟨some 16, .mv (.t 0), none, [], []⟩),
         (1, ⟨some 17, .call 28 [(.t 16)], none, [], [16]⟩),
         (2, ⟨some 18, .call 35 [(.t 17)], none, [], [17]⟩),
         (3, ⟨some 4, .mv (.t 18), none, [], [18]⟩)])
       (.seq
        (.reg false [
          (0, ⟨some 19, .mv (.t 0), none, [], []⟩),
          (1, ⟨some 20, .call 28 [(.t 19)], none, [], [19]⟩),
          (2, ⟨some 5, .mv (.t 20), none, [], [20]⟩)])
        (.seq
         (.reg false [
           (0, ⟨some 21, .mv (.t 5), none, [], []⟩),
           (1, ⟨some 22, .call 36 [(.t 21)], none, [], [21]⟩),
           (2, ⟨some 6, .mv (.t 22), none, [], [22]⟩)])
         (.seq
          (.seq
           (.reg false [
             (0, ⟨some 23, .mv (.t 6), none, [], []⟩),
             (1, ⟨some 24, .mv (.t 4), none, [], []⟩),
             (2, ⟨some 25, .call 30 [(.t 23), (.t 24)], none, [], [23, 24]⟩),
             (3, ⟨some 26, .not (.t 25), none, [], [25]⟩)])
           (.cond (.t 26)
            (.seq
             (.kill [0, 4, 5, 6, 26])
             (.seq
              (.reg false [
                (0, ⟨some 2, .mv (.c (.bool false)), none, [], []⟩)])
              .ret))
            (.seq
             (.kill [26])
             .skip)))
          (.seq
           (.seq
            (.reg false [
              (0, ⟨some 27, .mv (.t 5), none, [], []⟩),
              (1, ⟨some 28, .mv (.t 0), none, [], []⟩),
              (2, ⟨some 29, .call 28 [(.t 28)], none, [], [28]⟩),
              (3, ⟨some 30, .call 30 [(.t 27), (.t 29)], none, [], [27, 29]⟩),
              (4, ⟨some 31, .not (.t 30), none, [], [30]⟩)])
            (.cond (.t 31)
             (.seq
              (.kill [0, 4, 5, 6, 31])
              (.seq
               (.reg false [
                 (0, ⟨some 2, .mv (.c (.bool false)), none, [], []⟩)])
               .ret))
             (.seq
              (.kill [31])
              .skip)))
           (.seq
            (.reg false [
              (0, ⟨some 7, .mv (.c (.int .i64 (1))), none, [], []⟩)])
            (.seq
             (.reg false [
               (0, ⟨some 32, .mv (.t 5), none, [], [5]⟩),
               (1, ⟨some 33, .mv (.t 7), none, [], [7]⟩),
               (2, ⟨some 34, .call 37 [(.t 32), (.t 33)], none, [], [32, 33]⟩),
               (3, ⟨some 7, .mv (.t 34), none, [], [34]⟩)])
             (.seq
              (.seq
               (.reg false [
                 (0, ⟨some 35, .mv (.t 7), none, [], [7]⟩),
                 (1, ⟨some 36, .bin .lss (.t 35) (.c (.int .i64 (0))), none, [], [35]⟩),
                 (2, ⟨some 37, .mv (.t 36), none, [], [36]⟩),
                 (3, ⟨some 38, .mv (.t 6), some (37, false), [], []⟩),
                 (4, ⟨some 39, .mv (.t 4), some (37, false), [], []⟩),
                 (5, ⟨some 40, .call 30 [(.t 38), (.t 39)], some (37, false), [], [38, 39]⟩),
                 (6, ⟨some 41, .not (.t 40), some (37, false), [], [40]⟩),
                 (7, ⟨some 42, .pick (.t 37) (.c (.bool true)) (.t 41), none, [], [37, 41]⟩)])
               (.cond (.t 42)
                (.seq
                 (.kill [0, 4, 6, 42])
                 (.seq
                  (.reg false [
                    (0, ⟨some 2, .mv (.c (.bool false)), none, [], []⟩)])
                  .ret))
                (.seq
                 (.kill [42])
                 .skip)))
              (.seq
               (.reg false [
                 (0, ⟨some 8, .mv (.c (.int .i64 (1))), none, [], []⟩)])
               (.seq
                (.reg false [
                  (0, ⟨some 43, .mv (.t 6), none, [], []⟩),
                  (1, ⟨some 44, .mv (.t 8), none, [], [8]⟩),
                  (2, ⟨some 45, .call 37 [(.t 43), (.t 44)], none, [], [43, 44]⟩),
                  (3, ⟨some 8, .mv (.t 45), none, [], [45]⟩)])
                (.seq
                 (.reg false [
                   (0, ⟨some 9, .mv (.c (.int .i64 (1))), none, [], []⟩)])
                 (.seq
                  (.reg false [
                    (0, ⟨some 46, .mv (.t 6), none, [], []⟩),
                    (1, ⟨some 47, .mv (.t 9), none, [], [9]⟩),
                    (2, ⟨some 48, .call 38 [(.t 46), (.t 47)], none, [], [46, 47]⟩),
                    (3, ⟨some 9, .mv (.t 48), none, [], [48]⟩)])
                  (.seq
                   (.seq
                    (.reg false [
                      (0, ⟨some 49, .mv (.t 9), none, [], []⟩),
                      (1, ⟨some 50, .bin .lss (.t 49) (.c (.int .i64 (0))), none, [], [49]⟩)])
                    (.cond (.t 50)
                     (.seq
                      (.kill [0, 4, 6, 8, 9, 50])
                      (.seq
                       (.reg false [
                         (0, ⟨some 2, .mv (.c (.bool false)), none, [], []⟩)])
                       .ret))
                     (.seq
                      (.kill [50])
                      .skip)))
                   (.seq
                    (.seq
                     (.reg false [
                       (0, ⟨some 51, .mv (.t 9), none, [], [9]⟩),
                       (1, ⟨some 52, .mv (.t 8), none, [], []⟩),
                       (2, ⟨some 53, .bin .neq (.t 51) (.t 52), none, [], [51, 52]⟩)])
                     (.cond (.t 53)
                      (.seq
                       (.kill [0, 4, 6, 8, 53])
                       (.seq
                        (.reg false [
                          (0, ⟨some 2, .mv (.c (.bool false)), none, [], []⟩)])
                        .ret))
                      (.seq
                       (.kill [53])
                       .skip)))
                    (.seq
                     (.reg false [
                       (0, ⟨some 54, .mv (.t 0), none, [], [0]⟩),
                       (1, ⟨some 55, .call 28 [(.t 54)], none, [], [54]⟩),
                       (2, ⟨some 56, .call 36 [(.t 55)], none, [], [55]⟩),
                       (3, ⟨some 10, .mv (.t 56), none, [], [56]⟩)])
                     (.seq
                      (.seq
                       (.reg false [
                         (0, ⟨some 57, .mv (.t 10), none, [], [10]⟩),
                         (1, ⟨some 58, .mv (.t 4), none, [], [4]⟩),
                         (2, ⟨some 59, .call 30 [(.t 57), (.t 58)], none, [], [57, 58]⟩),
                         (3, ⟨some 60, .not (.t 59), none, [], [59]⟩)])
                       (.cond (.t 60)
                        (.seq
                         (.kill [6, 8, 60])
                         (.seq
                          (.reg false [
                            (0, ⟨some 2, .mv (.c (.bool false)), none, [], []⟩)])
                          .ret))
                        (.seq
                         (.kill [60])
                         .skip)))
                      (.seq
                       (.reg false [
                         (0, ⟨some 9, .mv (.c (.int .i64 (1))), none, [], []⟩)])
                       (.seq
                        (.reg false [
                          (0, ⟨some 61, .mv (.t 6), none, [], [6]⟩),
                          (1, ⟨some 62, .mv (.t 9), none, [], [9]⟩),
                          (2, ⟨some 63, .call 38 [(.t 61), (.t 62)], none, [], [61, 62]⟩),
                          (3, ⟨some 9, .mv (.t 63), none, [], [63]⟩)])
                        (.seq
                         (.seq
                          (.reg false [
                            (0, ⟨some 64, .mv (.t 9), none, [], []⟩),
                            (1, ⟨some 65, .bin .lss (.t 64) (.c (.int .i64 (0))), none, [], [64]⟩)])
                          (.cond (.t 65)
                           (.seq
                            (.kill [8, 9, 65])
                            (.seq
                             (.reg false [
                               (0, ⟨some 2, .mv (.c (.bool false)), none, [], []⟩)])
                             .ret))
                           (.seq
                            (.kill [65])
                            .skip)))
                         (.seq
                          (.seq
                           (.reg false [
                             (0, ⟨some 66, .mv (.t 9), none, [], [9]⟩),
                             (1, ⟨some 67, .mv (.t 8), none, [], [8]⟩),
                             (2, ⟨some 68, .bin .neq (.t 66) (.t 67), none, [], [66, 67]⟩)])
                           (.cond (.t 68)
                            (.seq
                             (.kill [68])
                             (.seq
                              (.reg false [
                                (0, ⟨some 2, .mv (.c (.bool false)), none, [], []⟩)])
                              .ret))
                            (.seq
                             (.kill [68])
                             .skip)))
                          (.seq
                           (.reg false [
                             (0, ⟨some 2, .mv (.c (.bool true)), none, [], []⟩)])
                           .ret)))))))))))))))))))))))))
def C8 : CFn := ⟨69, 1, [.t 2], B8⟩

/-- laws.toIntS -/
def L16_0 : CCode :=
  (.seq
   (.seq
    (.reg false [
      (0, ⟨some 8, .mv (.t 4), none, [], []⟩),
      (1, ⟨some 9, .mv (.t 0), none, [], []⟩),
      (2, ⟨some 10, .len (.t 9), none, [], [9]⟩),
      (3, ⟨some 11, .bin .lss (.t 8) (.t 10), none, [], [8, 10]⟩)])
    (.cond (.t 11)
     (.seq
      (.kill [11])
      .skip)
     (.seq
      (.kill [0, 4, 11])
      (.exit 0))))
   (.seq
    (.block 1
     (.reg false [
       (0, ⟨some 14, .mv (.t 3), none, [], []⟩),
       (1, ⟨some 15, .mv (.t 4), none, [], []⟩),
       (2, ⟨some 16, .mv (.t 0), none, [], []⟩),
       (3, ⟨some 17, .mv (.t 4), none, [], []⟩),
       (4, ⟨some 18, .ia 1 (.t 16) (.t 17), none, [], []⟩),
       (5, ⟨some 19, .ld 1 false (.t 18), none, [], [16, 17, 18]⟩),
       (6, ⟨some 20, .ia 1 (.t 14) (.t 15), none, [], []⟩),
       (7, ⟨none, .st 1 (.t 20) (.t 19), none, [], [14, 15, 19, 20]⟩)]))
    (.reg false [
      (0, ⟨some 12, .mv (.t 4), none, [], [4]⟩),
      (1, ⟨some 13, .bin .add (.t 12) (.c (.int .i64 (1))), none, [], [12]⟩),
      (2, ⟨some 4, .mv (.t 13), none, [], [13]⟩)])))
def B16 : CCode :=
  (.seq
   (.reg false [
     (0, ⟨some 2, .mv (.c (.nils)), none, [], [2]⟩)])
   (.seq
    (.reg false [
      (0, ⟨some 5, .mv (.t 0), none, [], []⟩),
      (1, ⟨some 6, .len (.t 5), none, [], [5]⟩),
      (2, ⟨some 7, .mk 1 8 [.int .i64 (0)] (.t 6) (.t 6), none, [], [6]⟩),
      (3, ⟨some 3, .mv (.t 7), none, [], [7]⟩)])
    (.seq
     (.seq
      (.reg false [
        (0, ⟨some 4, .mv (.c (.int .i64 (0))), none, [], []⟩)])
      (.block 0
       (.loop L16_0)))
     (.seq
      (.reg false [
        (0, ⟨some 21, .mv (.t 3), none, [], [3]⟩),
        (1, ⟨some 2, .mv (.t 21), none, [], [21]⟩)])
      .ret))))
def C16 : CFn := ⟨22, 1, [.t 2], B16⟩

/-- laws.eqIntS -/
def L18_0 : CCode :=
  (.seq
   (.seq
    (.reg false [
      (0, ⟨some 11, .mv (.t 5), none, [], []⟩),
      (1, ⟨some 12, .mv (.t 0), none, [], []⟩),
      (2, ⟨some 13, .len (.t 12), none, [], [12]⟩),
      (3, ⟨some 14, .bin .lss (.t 11) (.t 13), none, [], [11, 13]⟩)])
    (.cond (.t 14)
     (.seq
      (.kill [14])
      .skip)
     (.seq
      (.kill [0, 1, 5, 14])
      (.exit 0))))
   (.seq
    (.block 1
     (.seq
      (.reg true [
        (0, ⟨some 17, .mv (.t 0), none, [], []⟩),
        (1, ⟨some 18, .mv (.t 5), none, [], []⟩),
        (2, ⟨some 19, .ia 1 (.t 17) (.t 18), none, [], []⟩),
        (3, ⟨some 20, .ld 1 false (.t 19), none, [], [17, 18, 19]⟩),
        (4, ⟨some 21, .mv (.t 1), none, [], []⟩),
        (5, ⟨some 22, .mv (.t 5), none, [], []⟩),
        (6, ⟨some 23, .ia 1 (.t 21) (.t 22), none, [], []⟩),
        (7, ⟨some 24, .ld 1 false (.t 23), none, [], [21, 22, 23]⟩),
        (8, ⟨some 25, .bin .neq (.t 20) (.t 24), none, [], [20, 24]⟩)])
      (.cond (.t 25)
       (.seq
        (.kill [0, 1, 5, 25])
        (.seq
         (.reg false [
           (0, ⟨some 4, .mv (.c (.bool false)), none, [], []⟩)])
         .ret))
       (.seq
        (.kill [25])
        .skip))))
    (.reg false [
      (0, ⟨some 15, .mv (.t 5), none, [], [5]⟩),
      (1, ⟨some 16, .bin .add (.t 15) (.c (.int .i64 (1))), none, [], [15]⟩),
      (2, ⟨some 5, .mv (.t 16), none, [], [16]⟩)])))
def B18 : CCode :=
  (.seq
   (.reg false [
     (0, ⟨some 4, .mv (.c (.bool false)), none, [], [4]⟩)])
   (.seq
    (.seq
     (.reg false [
       (0, ⟨some 6, .mv (.t 0), none, [], []⟩),
       (1, ⟨some 7, .len (.t 6), none, [], [6]⟩),
       (2, ⟨some 8, .mv (.t 1), none, [], []⟩),
       (3, ⟨some 9, .len (.t 8), none, [], [8]⟩),
       (4, ⟨some 10, .bin .neq (.t 7) (.t 9), none, [], [7, 9]⟩)])
     (.cond (.t 10)
      (.seq
       (.kill [0, 1, 10])
       (.seq
        (.reg false [
          (0, ⟨some 4, .mv (.c (.bool false)), none, [], []⟩)])
        .ret))
      (.seq
       (.kill [10])
       .skip)))
    (.seq
     (.seq
      (.reg false [
        (0, ⟨some 5, .mv (.c (.int .i64 (0))), none, [], []⟩)])
      (.block 0
       (.loop L18_0)))
     (.seq
      (.reg false [
        (0, ⟨some 4, .mv (.c (.bool true)), none, [], []⟩)])
      .ret))))
def C18 : CFn := ⟨26, 2, [.t 4], B18⟩

/-- laws.markIntS -/
def L19_0 : CCode :=
  (.seq
   (.seq
    (.reg false [
      (0, ⟨some 6, .mv (.t 5), none, [], []⟩),
      (1, ⟨some 7, .mv (.t 0), none, [], []⟩),
      (2, ⟨some 8, .len (.t 7), none, [], [7]⟩),
      (3, ⟨some 9, .bin .lss (.t 6) (.t 8), none, [], [6, 8]⟩)])
    (.cond (.t 9)
     (.seq
      (.kill [9])
      .skip)
     (.seq
      (.kill [5, 9])
      (.exit 0))))
   (.seq
    (.block 1
     (.seq
      (.reg false [
        (0, ⟨some 12, .mv (.t 0), none, [], []⟩),
        (1, ⟨some 13, .mv (.t 5), none, [], []⟩),
        (2, ⟨some 14, .mv (.t 1), none, [], []⟩),
        (3, ⟨some 15, .ia 1 (.t 12) (.t 13), none, [], []⟩),
        (4, ⟨none, .st 1 (.t 15) (.t 14), none, [], [12, 13, 14, 15]⟩)])
      (.reg false [
        (0, ⟨some 16, .mv (.t 1), none, [], [1]⟩),
        (1, ⟨some 17, .bin .add (.t 16) (.c (.int .i64 (1))), none, [], [16]⟩),
        (2, ⟨some 1, .mv (.t 17), none, [], [17]⟩)])))
    (.reg false [
      (0, ⟨some 10, .mv (.t 5), none, [], [5]⟩),
      (1, ⟨some 11, .bin .add (.t 10) (.c (.int .i64 (1))), none, [], [10]⟩),
      (2, ⟨some 5, .mv (.t 11), none, [], [11]⟩)])))
def B19 : CCode :=
  (.seq
   (.reg false [
     (0, ⟨some 4, .mv (.c (.int .i64 (0))), none, [], [4]⟩)])
   (.seq
    (.seq
     (.reg false [
       (0, ⟨some 5, .mv (.c (.int .i64 (0))), none, [], []⟩)])
     (.block 0
      (.loop L19_0)))
    (.seq
     (.reg false [
       (0, ⟨some 18, .mv (.t 1), none, [], [1]⟩),
       (1, ⟨some 4, .mv (.t 18), none, [], [18]⟩)])
     .ret)))
def C19 : CFn := ⟨19, 2, [.t 4], B19⟩

/-- laws.heldIntS -/
def L20_0 : CCode :=
  (.seq
   (.seq
    (.reg false [
      (0, ⟨some 6, .mv (.t 5), none, [], []⟩),
      (1, ⟨some 7, .mv (.t 0), none, [], []⟩),
      (2, ⟨some 8, .len (.t 7), none, [], [7]⟩),
      (3, ⟨some 9, .bin .lss (.t 6) (.t 8), none, [], [6, 8]⟩)])
    (.cond (.t 9)
     (.seq
      (.kill [9])
      .skip)
     (.seq
      (.kill [0, 5, 9])
      (.exit 0))))
   (.seq
    (.block 1
     (.seq
      (.seq
       (.reg false [
         (0, ⟨some 12, .mv (.t 0), none, [], []⟩),
         (1, ⟨some 13, .mv (.t 5), none, [], []⟩),
         (2, ⟨some 14, .ia 1 (.t 12) (.t 13), none, [], []⟩),
         (3, ⟨some 15, .ld 1 false (.t 14), none, [], [12, 13, 14]⟩),
         (4, ⟨some 16, .mv (.t 1), none, [], []⟩),
         (5, ⟨some 17, .bin .neq (.t 15) (.t 16), none, [], [15, 16]⟩)])
       (.cond (.t 17)
        (.seq
         (.kill [0, 1, 5, 17])
         (.seq
          (.reg false [
            (0, ⟨some 4, .mv (.c (.int .i64 (-1))), none, [], []⟩)])
          .ret))
        (.seq
         (.kill [17])
         .skip)))
      (.reg false [
        (0, ⟨some 18, .mv (.t 1), none, [], [1]⟩),
        (1, ⟨some 19, .bin .add (.t 18) (.c (.int .i64 (1))), none, [], [18]⟩),
        (2, ⟨some 1, .mv (.t 19), none, [], [19]⟩)])))
    (.reg false [
      (0, ⟨some 10, .mv (.t 5), none, [], [5]⟩),
      (1, ⟨some 11, .bin .add (.t 10) (.c (.int .i64 (1))), none, [], [10]⟩),
      (2, ⟨some 5, .mv (.t 11), none, [], [11]⟩)])))
def B20 : CCode :=
  (.seq
   (.reg false [
     (0, ⟨some 4, .mv (.c (.int .i64 (0))), none, [], [4]⟩)])
   (.seq
    (.seq
     (.reg false [
       (0, ⟨some 5, .mv (.c (.int .i64 (0))), none, [], []⟩)])
     (.block 0
      (.loop L20_0)))
    (.seq
     (.reg false [
       (0, ⟨some 20, .mv (.t 1), none, [], [1]⟩),
       (1, ⟨some 4, .mv (.t 20), none, [], [20]⟩)])
     .ret)))
def C20 : CFn := ⟨21, 2, [.t 4], B20⟩

/-- laws.szIntSS -/
def L26_0 : CCode :=
  (.seq
   (.seq
    (.reg false [
      (0, ⟨some 12, .mv (.t 5), none, [], []⟩),
      (1, ⟨some 13, .mv (.t 0), none, [], []⟩),
      (2, ⟨some 14, .len (.t 13), none, [], [13]⟩),
      (3, ⟨some 15, .bin .lss (.t 12) (.t 14), none, [], [12, 14]⟩)])
    (.cond (.t 15)
     (.seq
      (.kill [15])
      .skip)
     (.seq
      (.kill [0, 5, 15])
      (.exit 0))))
   (.seq
    (.block 1
     (.seq
      (.reg false [
        (0, ⟨some 18, .mv (.t 0), none, [], []⟩),
        (1, ⟨some 19, .mv (.t 5), none, [], []⟩),
        (2, ⟨some 20, .ia 1 (.t 18) (.t 19), none, [], []⟩),
        (3, ⟨some 21, .ld 1 false (.t 20), none, [], [20]⟩),
        (4, ⟨some 22, .mv (.t 1), none, [], [1]⟩),
        (5, ⟨some 23, .call 51 [(.t 21), (.t 22)], none, [], [18, 19, 21, 22]⟩),
        (6, ⟨some 1, .mv (.t 23), none, [], [23]⟩)])
      (.seq
       (.reg false [
         (0, ⟨some 24, .mv (.t 1), none, [], []⟩),
         (1, ⟨some 25, .bin .lss (.t 24) (.c (.int .i64 (0))), none, [], [24]⟩)])
       (.cond (.t 25)
        (.seq
         (.kill [0, 1, 5, 25])
         (.seq
          (.reg false [
            (0, ⟨some 4, .mv (.c (.int .i64 (-1))), none, [], []⟩)])
          .ret))
        (.seq
         (.kill [25])
         .skip)))))
    (.reg false [
      (0, ⟨some 16, .mv (.t 5), none, [], [5]⟩),
      (1, ⟨some 17, .bin .add (.t 16) (.c (.int .i64 (1))), none, [], [16]⟩),
      (2, ⟨some 5, .mv (.t 17), none, [], [17]⟩)])))
def B26 : CCode :=
  (.seq
   (.reg false [
     (0, ⟨some 4, .mv (.c (.int .i64 (0))), none, [], [4]⟩)])
   (.seq
    (.reg false [
      (0, ⟨some 6, .mv (.t 1), none, [], [1]⟩),
      (1, ⟨some 7, .mv (.t 0), none, [], []⟩),
      (2, ⟨some 8, .len (.t 7), none, [], [7]⟩),
      (3, ⟨some 9, .bin .sub (.t 6) (.t 8), none, [], [6, 8]⟩),
      (4, ⟨some 1, .mv (.t 9), none, [], [9]⟩)])
    (.seq
     (.seq
      (.reg false [
        (0, ⟨some 10, .mv (.t 1), none, [], []⟩),
        (1, ⟨some 11, .bin .lss (.t 10) (.c (.int .i64 (0))), none, [], [10]⟩)])
      (.cond (.t 11)
       (.seq
        (.kill [0, 1, 11])
        (.seq
         (.reg false [
           (0, ⟨some 4, .mv (.c (.int .i64 (-1))), none, [], []⟩)])
         .ret))
       (.seq
        (.kill [11])
        .skip)))
     (.seq
      (.seq
       (.reg false [
         (0, ⟨some 5, .mv (.c (.int .i64 (0))), none, [], []⟩)])
       (.block 0
        (.loop L26_0)))
      (.seq
       (.reg false [
         (0, ⟨some 26, .mv (.t 1), none, [], [1]⟩),
         (1, ⟨some 4, .mv (.t 26), none, [], [26]⟩)])
       .ret)))))
def C26 : CFn := ⟨27, 2, [.t 4], B26⟩

/-- spec.IsCovered -/
def B27 : CCode :=
  (.seq
   (.reg false [
     (0, ⟨some 4, .mv (.c (.bool false)), none, [], [4]⟩)])
   (.seq
    (.reg false [
      (0, ⟨some 5, .mv (.t 0), none, [], [0]⟩),
      (1, ⟨some 6, .mv (.t 1), none, [], [1]⟩),
      (2, ⟨some 7, .call 52 [(.t 5), (.t 6)], none, [], [5, 6]⟩),
      (3, ⟨some 4, .mv (.t 7), none, [], [7]⟩)])
    .ret))
def C27 : CFn := ⟨8, 2, [.t 4], B27⟩

/-- laws.toIntSS -/
def L28_0 : CCode :=
  (.seq
   (.seq
    (.reg false [
      (0, ⟨some 8, .mv (.t 4), none, [], []⟩),
      (1, ⟨some 9, .mv (.t 0), none, [], []⟩),
      (2, ⟨some 10, .len (.t 9), none, [], [9]⟩),
      (3, ⟨some 11, .bin .lss (.t 8) (.t 10), none, [], [8, 10]⟩)])
    (.cond (.t 11)
     (.seq
      (.kill [11])
      .skip)
     (.seq
      (.kill [0, 4, 11])
      (.exit 0))))
   (.seq
    (.block 1
     (.reg false [
       (0, ⟨some 14, .mv (.t 3), none, [], []⟩),
       (1, ⟨some 15, .mv (.t 4), none, [], []⟩),
       (2, ⟨some 16, .mv (.t 0), none, [], []⟩),
       (3, ⟨some 17, .mv (.t 4), none, [], []⟩),
       (4, ⟨some 18, .ia 1 (.t 16) (.t 17), none, [], []⟩),
       (5, ⟨some 19, .ld 1 false (.t 18), none, [], [18]⟩),
       (6, ⟨some 20, .call 16 [(.t 19)], none, [], [16, 17, 19]⟩),
       (7, ⟨some 21, .ia 1 (.t 14) (.t 15), none, [], []⟩),
       (8, ⟨none, .st 1 (.t 21) (.t 20), none, [], [14, 15, 20, 21]⟩)]))
    (.reg false [
      (0, ⟨some 12, .mv (.t 4), none, [], [4]⟩),
      (1, ⟨some 13, .bin .add (.t 12) (.c (.int .i64 (1))), none, [], [12]⟩),
      (2, ⟨some 4, .mv (.t 13), none, [], [13]⟩)])))
def B28 : CCode :=
  (.seq
   (.reg false [
     (0, ⟨some 2, .mv (.c (.nils)), none, [], [2]⟩)])
   (.seq
    (.reg false [
      (0, ⟨some 5, .mv (.t 0), none, [], []⟩),
      (1, ⟨some 6, .len (.t 5), none, [], [5]⟩),
      (2, ⟨some 7, .mk 1 24 [.nils] (.t 6) (.t 6), none, [], [6]⟩),
      (3, ⟨some 3, .mv (.t 7), none, [], [7]⟩)])
    (.seq
     (.seq
      (.reg false [
        (0, ⟨some 4, .mv (.c (.int .i64 (0))), none, [], []⟩)])
      (.block 0
       (.loop L28_0)))
     (.seq
      (.reg false [
        (0, ⟨some 22, .mv (.t 3), none, [], [3]⟩),
        (1, ⟨some 2, .mv (.t 22), none, [], [22]⟩)])
      .ret))))
def C28 : CFn := ⟨23, 1, [.t 2], B28⟩

/-- laws.eqIntSS -/
def L30_0 : CCode :=
  (.seq
   (.seq
    (.reg false [
      (0, ⟨some 11, .mv (.t 5), none, [], []⟩),
      (1, ⟨some 12, .mv (.t 0), none, [], []⟩),
      (2, ⟨some 13, .len (.t 12), none, [], [12]⟩),
      (3, ⟨some 14, .bin .lss (.t 11) (.t 13), none, [], [11, 13]⟩)])
    (.cond (.t 14)
     (.seq
      (.kill [14])
      .skip)
     (.seq
      (.kill [0, 1, 5, 14])
      (.exit 0))))
   (.seq
    (.block 1
     (.seq
      (.reg true [
        (0, ⟨some 17, .mv (.t 0), none, [], []⟩),
        (1, ⟨some 18, .mv (.t 5), none, [], []⟩),
        (2, ⟨some 19, .ia 1 (.t 17) (.t 18), none, [], []⟩),
        (3, ⟨some 20, .ld 1 false (.t 19), none, [], [19]⟩),
        (4, ⟨some 21, .mv (.t 1), none, [], []⟩),
        (5, ⟨some 22, .mv (.t 5), none, [], []⟩),
        (6, ⟨some 23, .ia 1 (.t 21) (.t 22), none, [], []⟩),
        (7, ⟨some 24, .ld 1 false (.t 23), none, [], [23]⟩),
        (8, ⟨some 25, .call 18 [(.t 20), (.t 24)], none, [], [17, 18, 20, 21, 22, 24]⟩),
        (9, ⟨some 26, .not (.t 25), none, [], [25]⟩)])
      (.cond (.t 26)
       (.seq
        (.kill [0, 1, 5, 26])
        (.seq
         (.reg false [
           (0, ⟨some 4, .mv (.c (.bool false)), none, [], []⟩)])
         .ret))
       (.seq
        (.kill [26])
        .skip))))
    (.reg false [
      (0, ⟨some 15, .mv (.t 5), none, [], [5]⟩),
      (1, ⟨some 16, .bin .add (.t 15) (.c (.int .i64 (1))), none, [], [15]⟩),
      (2, ⟨some 5, .mv (.t 16), none, [], [16]⟩)])))
def B30 : CCode :=
  (.seq
   (.reg false [
     (0, ⟨some 4, .mv (.c (.bool false)), none, [], [4]⟩)])
   (.seq
    (.seq
     (.reg false [
       (0, ⟨some 6, .mv (.t 0), none, [], []⟩),
       (1, ⟨some 7, .len (.t 6), none, [], [6]⟩),
       (2, ⟨some 8, .mv (.t 1), none, [], []⟩),
       (3, ⟨some 9, .len (.t 8), none, [], [8]⟩),
       (4, ⟨some 10, .bin .neq (.t 7) (.t 9), none, [], [7, 9]⟩)])
     (.cond (.t 10)
      (.seq
       (.kill [0, 1, 10])
       (.seq
        (.reg false [
          (0, ⟨some 4, .mv (.c (.bool false)), none, [], []⟩)])
        .ret))
      (.seq
       (.kill [10])
       .skip)))
    (.seq
     (.seq
      (.reg false [
        (0, ⟨some 5, .mv (.c (.int .i64 (0))), none, [], []⟩)])
      (.block 0
       (.loop L30_0)))
     (.seq
      (.reg false [
        (0, ⟨some 4, .mv (.c (.bool true)), none, [], []⟩)])
      .ret))))
def C30 : CFn := ⟨27, 2, [.t 4], B30⟩

/-- spec.MinimalSets -/
def L35_1 : CCode :=
  (.seq
   (.seq
    (.reg false [
      (0, ⟨some 15, .mv (.t 6), none, [], []⟩),
      (1, ⟨some 16, .mv (.t 0), none, [], []⟩),
      (2, ⟨some 17, .len (.t 16), none, [], [16]⟩),
      (3, ⟨some 18, .bin .lss (.t 15) (.t 17), none, [], [15, 17]⟩)])
    (.cond (.t 18)
     (.seq
      (.kill [18])
      .skip)
     (.seq
      (.kill [6, 18])
      (.exit 2))))
   (.seq
    (.block 3
     (.seq
      (.reg true [
        (0, ⟨some 21, .mv (.t 0), none, [], []⟩),
        (1, ⟨some 22, .mv (.t 6), none, [], []⟩),
        (2, ⟨some 23, .ia 1 (.t 21) (.t 22), none, [], []⟩),
        (3, ⟨some 24, .ld 1 false (.t 23), none, [], [23]⟩),
        (4, ⟨some 25, .len (.t 24), none, [], [21, 22, 24]⟩),
        (5, ⟨some 26, .mv (.t 0), none, [], []⟩),
        (6, ⟨some 27, .mv (.t 4), none, [], []⟩),
        (7, ⟨some 28, .ia 1 (.t 26) (.t 27), none, [], []⟩),
        (8, ⟨some 29, .ld 1 false (.t 28), none, [], [28]⟩),
        (9, ⟨some 30, .len (.t 29), none, [], [26, 27, 29]⟩),
        (10, ⟨some 31, .bin .lss (.t 25) (.t 30), none, [], [25, 30]⟩),
        (11, ⟨some 32, .mv (.t 31), none, [], [31]⟩),
        (12, ⟨some 33, .mv (.t 6), some (32, false), [], []⟩),
        (13, ⟨some 34, .mv (.t 4), some (32, false), [], []⟩),
        (14, ⟨some 35, .bin .lss (.t 33) (.t 34), some (32, false), [], [33, 34]⟩),
        (15, ⟨some 36, .mv (.t 35), some (32, false), [], [35]⟩),
        (16, ⟨some 37, .mv (.t 0), some (36, true), [], []⟩),
        (17, ⟨some 38, .mv (.t 6), some (36, true), [], []⟩),
        (18, ⟨some 39, .ia 1 (.t 37) (.t 38), some (36, true), [], []⟩),
        (19, ⟨some 40, .ld 1 false (.t 39), some (36, true), [], [39]⟩),
        (20, ⟨some 41, .len (.t 40), some (36, true), [], [37, 38, 40]⟩),
        (21, ⟨some 42, .mv (.t 0), some (36, true), [], []⟩),
        (22, ⟨some 43, .mv (.t 4), some (36, true), [], []⟩),
        (23, ⟨some 44, .ia 1 (.t 42) (.t 43), some (36, true), [], []⟩),
        (24, ⟨some 45, .ld 1 false (.t 44), some (36, true), [], [44]⟩),
        (25, ⟨some 46, .len (.t 45), some (36, true), [], [42, 43, 45]⟩),
        (26, ⟨some 47, .bin .eql (.t 41) (.t 46), some (36, true), [], [41, 46]⟩),
        (27, ⟨some 48, .pick (.t 36) (.t 47) (.c (.bool false)), some (32, false), [], [36, 47]⟩),
        (28, ⟨some 49, .pick (.t 32) (.c (.bool true)) (.t 48), none, [], [32, 48]⟩),
        (29, ⟨some 7, .mv (.t 49), none, [], [49]⟩)])
      (.reg true [
        (0, ⟨some 50, .mv (.t 5), none, [], [5]⟩),
        (1, ⟨some 51, .mv (.t 50), none, [], [50]⟩),
        (2, ⟨some 52, .mv (.t 7), some (51, true), [], [7]⟩),
        (3, ⟨some 53, .mv (.t 52), some (51, true), [], [52]⟩),
        (4, ⟨some 54, .mv (.t 0), some (53, true), [], []⟩),
        (5, ⟨some 55, .mv (.t 6), some (53, true), [], []⟩),
        (6, ⟨some 56, .ia 1 (.t 54) (.t 55), some (53, true), [], []⟩),
        (7, ⟨some 57, .ld 1 false (.t 56), some (53, true), [], [56]⟩),
        (8, ⟨some 58, .bsl 1 1 [.nils] [(0, 1, (.t 57))], some (53, true), [], [54, 55, 57]⟩),
        (9, ⟨some 59, .mv (.t 0), some (53, true), [], []⟩),
        (10, ⟨some 60, .mv (.t 4), some (53, true), [], []⟩),
        (11, ⟨some 61, .ia 1 (.t 59) (.t 60), some (53, true), [], []⟩),
        (12, ⟨some 62, .ld 1 false (.t 61), some (53, true), [], [61]⟩),
        (13, ⟨some 63, .call 27 [(.t 58), (.t 62)], some (53, true), [], [58, 59, 60, 62]⟩),
        (14, ⟨some 64, .pick (.t 53) (.t 63) (.c (.bool false)), some (51, true), [], [53, 63]⟩),
        (15, ⟨some 65, .not (.t 64), some (51, true), [], [64]⟩),
        (16, ⟨some 66, .pick (.t 51) (.t 65) (.c (.bool false)), none, [], [51, 65]⟩),
        (17, ⟨some 5, .mv (.t 66), none, [], [66]⟩)])))
    (.reg false [
      (0, ⟨some 19, .mv (.t 6), none, [], [6]⟩),
      (1, ⟨some 20, .bin .add (.t 19) (.c (.int .i64 (1))), none, [], [19]⟩),
      (2, ⟨some 6, .mv (.t 20), none, [], [20]⟩)])))
def L35_0 : CCode :=
  (.seq
   (.seq
    (.reg false [
      (0, ⟨some 9, .mv (.t 4), none, [], []⟩),
      (1, ⟨some 10, .mv (.t 0), none, [], []⟩),
      (2, ⟨some 11, .len (.t 10), none, [], [10]⟩),
      (3, ⟨some 12, .bin .lss (.t 9) (.t 11), none, [], [9, 11]⟩)])
    (.cond (.t 12)
     (.seq
      (.kill [12])
      .skip)
     (.seq
      (.kill [0, 4, 12])
      (.exit 0))))
   (.seq
    (.block 1
     (.seq
      (.reg false [
        (0, ⟨some 5, .mv (.c (.bool true)), none, [], []⟩)])
      (.seq
       (.seq
        (.reg false [
          (0, ⟨some 6, .mv (.c (.int .i64 (0))), none, [], []⟩)])
        (.block 2
         (.loop L35_1)))
       (.seq
        (.reg false [
          (0, ⟨some 67, .mv (.t 5), none, [], [5]⟩)])
        (.cond (.t 67)
         (.seq
          (.kill [67])
          (.reg false [
            (0, ⟨some 68, .mv (.t 3), none, [], [3]⟩),
            (1, ⟨some 69, .bsl 1 0 [.int .i64 (0)] [], none, [], []⟩),
            (2, ⟨some 70, .mv (.t 0), none, [], []⟩),
            (3, ⟨some 71, .mv (.t 4), none, [], []⟩),
            (4, ⟨some 72, .ia 1 (.t 70) (.t 71), none, [], []⟩),
            (5, ⟨some 73, .ld 1 false (.t 72), none, [], [72]⟩),
            (6, ⟨some 74, .app 1 8 (.t 69) (.t 73), none, [], [69, 70, 71, 73]⟩),
            (7, ⟨some 75, .bsl 1 1 [.nils] [(0, 1, (.t 74))], none, [], [74]⟩),
            (8, ⟨some 76, .app 1 24 (.t 68) (.t 75), none, [], [68, 75]⟩),
            (9, ⟨some 3, .mv (.t 76), none, [], [76]⟩)]))
         (.seq
          (.kill [67])
          .skip))))))
    (.reg false [
      (0, ⟨some 13, .mv (.t 4), none, [], [4]⟩),
      (1, ⟨some 14, .bin .add (.t 13) (.c (.int .i64 (1))), none, [], [13]⟩),
      (2, ⟨some 4, .mv (.t 14), none, [], [14]⟩)])))
def B35 : CCode :=
  (.seq
   (.reg false [
     (0, ⟨some 2, .mv (.c (.nils)), none, [], [2]⟩)])
   (.seq
    (.reg false [
      (0, ⟨some 8, .bsl 1 0 [.nils] [], none, [], []⟩),
      (1, ⟨some 3, .mv (.t 8), none, [], [8]⟩)])
    (.seq
     (.seq
      (.reg false [
        (0, ⟨some 4, .mv (.c (.int .i64 (0))), none, [], []⟩)])
      (.block 0
       (.loop L35_0)))
     (.seq
      (.reg false [
        (0, ⟨some 77, .mv (.t 3), none, [], [3]⟩),
        (1, ⟨some 2, .mv (.t 77), none, [], [77]⟩)])
      .ret))))
def C35 : CFn := ⟨78, 1, [.t 2], B35⟩

/-- impl.MinimalSets -/
def L36_1 : CCode :=
  (.seq
   (.reg false [
     (0, ⟨some 20, .bin .lss (.t 19) (.t 18), none, [], []⟩)])
   (.seq
    (.cond (.t 20)
     (.seq
      (.kill [20])
      .skip)
     (.seq
      (.kill [4, 17, 18, 19, 20])
      (.exit 2)))
    (.seq
     (.block 3
      (.seq
       (.reg false [
         (0, ⟨some 21, .mv (.t 19), none, [], []⟩),
         (1, ⟨some 22, .ia 1 (.t 17) (.t 19), none, [], []⟩),
         (2, ⟨some 23, .ld 1 false (.t 22), none, [], [22]⟩),
         (3, ⟨some 7, .mv (.t 21), none, [], [21]⟩),
         (4, ⟨some 8, .mv (.t 23), none, [], [23]⟩)])
       (.seq
        (.reg false [
          (0, ⟨some 24, .mv (.t 8), none, [], []⟩),
          (1, ⟨some 25, .len (.t 24), none, [], [24]⟩),
          (2, ⟨some 26, .mv (.t 5), none, [], []⟩),
          (3, ⟨some 27, .len (.t 26), none, [], [26]⟩),
          (4, ⟨some 28, .bin .lss (.t 25) (.t 27), none, [], [25, 27]⟩),
          (5, ⟨some 29, .mv (.t 28), none, [], [28]⟩),
          (6, ⟨some 30, .mv (.t 8), some (29, false), [], []⟩),
          (7, ⟨some 31, .len (.t 30), some (29, false), [], [30]⟩),
          (8, ⟨some 32, .mv (.t 5), some (29, false), [], []⟩),
          (9, ⟨some 33, .len (.t 32), some (29, false), [], [32]⟩),
          (10, ⟨some 34, .bin .eql (.t 31) (.t 33), some (29, false), [], [31, 33]⟩),
          (11, ⟨some 35, .mv (.t 34), some (29, false), [], [34]⟩),
          (12, ⟨some 36, .mv (.t 7), some (35, true), [], [7]⟩),
          (13, ⟨some 37, .mv (.t 4), some (35, true), [], []⟩),
          (14, ⟨some 38, .bin .lss (.t 36) (.t 37), some (35, true), [], [36, 37]⟩),
          (15, ⟨some 39, .pick (.t 35) (.t 38) (.c (.bool false)), some (29, false), [], [35, 38]⟩),
          (16, ⟨some 40, .pick (.t 29) (.c (.bool true)) (.t 39), none, [], [29, 39]⟩),
          (17, ⟨some 41, .mv (.t 40), none, [], [40]⟩),
          (18, ⟨some 42, .mv (.t 8), some (41, true), [], [8]⟩),
          (19, ⟨some 43, .mv (.t 5), some (41, true), [], []⟩),
          (20, ⟨some 44, .call 55 [(.t 42), (.t 43)], some (41, true), [], [42, 43]⟩),
          (21, ⟨some 45, .pick (.t 41) (.t 44) (.c (.bool false)), none, [], [41, 44]⟩)])
        (.cond (.t 45)
         (.seq
          (.kill [6, 45])
          (.reg false [
            (0, ⟨some 6, .mv (.c (.bool false)), none, [], []⟩)]))
         (.seq
          (.kill [45])
          .skip)))))
     (.reg false [
       (0, ⟨some 46, .bin .add (.t 19) (.c (.int .i64 (1))), none, [], [19]⟩),
       (1, ⟨some 19, .mv (.t 46), none, [], [46]⟩)]))))
def L36_0 : CCode :=
  (.seq
   (.reg false [
     (0, ⟨some 13, .bin .lss (.t 12) (.t 11), none, [], []⟩)])
   (.seq
    (.cond (.t 13)
     (.seq
      (.kill [13])
      .skip)
     (.seq
      (.kill [0, 10, 11, 12, 13])
      (.exit 0)))
    (.seq
     (.block 1
      (.seq
       (.reg false [
         (0, ⟨some 14, .mv (.t 12), none, [], []⟩),
         (1, ⟨some 15, .ia 1 (.t 10) (.t 12), none, [], []⟩),
         (2, ⟨some 16, .ld 1 false (.t 15), none, [], [15]⟩),
         (3, ⟨some 4, .mv (.t 14), none, [], [14]⟩),
         (4, ⟨some 5, .mv (.t 16), none, [], [16]⟩)])
       (.seq
        (.reg false [
          (0, ⟨some 6, .mv (.c (.bool true)), none, [], []⟩)])
        (.seq
         (.seq
          (.reg false [
            (0, ⟨some 17, .mv (.t 0), none, [], []⟩),
            (1, ⟨some 18, .len (.t 17), none, [], []⟩),
            (2, ⟨some 19, .mv (.c (.int .i64 (0))), none, [], []⟩)])
          (.block 2
           (.loop L36_1)))
         (.seq
          (.reg false [
            (0, ⟨some 47, .mv (.t 6), none, [], [6]⟩)])
          (.cond (.t 47)
           (.seq
            (.kill [47])
            (.reg false [
              (0, ⟨some 48, .mv (.t 3), none, [], [3]⟩),
              (1, ⟨some 49, .bsl 1 0 [.int .i64 (0)] [], none, [], []⟩),
              (2, ⟨some 50, .mv (.t 5), none, [], [5]⟩),
              (3, ⟨some 51, .app 1 8 (.t 49) (.t 50), none, [], [49, 50]⟩),
              (4, ⟨some 52, .bsl 1 1 [.nils] [(0, 1, (.t 51))], none, [], [51]⟩),
              (5, ⟨some 53, .app 1 24 (.t 48) (.t 52), none, [], [48, 52]⟩),
              (6, ⟨some 3, .mv (.t 53), none, [], [53]⟩)]))
           (.seq
            (.kill [5, 47])
            .skip)))))))
     (.reg false [
       (0, ⟨some 54, .bin .add (.t 12) (.c (.int .i64 (1))), none, [], [12]⟩),
       (1, ⟨some 12, .mv (.t 54), none, [], [54]⟩)]))))
def B36 : CCode :=
  (.seq
   (.reg false [
     (0, ⟨some 2, .mv (.c (.nils)), none, [], [2]⟩)])
   (.seq
    (.reg false [
      (0, ⟨some 9, .bsl 1 0 [.nils] [], none, [], []⟩),
      (1, ⟨some 3, .mv (.t 9), none, [], [9]⟩)])
    (.seq
     (.seq
      (.reg false [
        (0, ⟨some 10, .mv (.t 0), none, [], []⟩),
        (1, ⟨some 11, .len (.t 10), none, [], []⟩),
        (2, ⟨some 12, .mv (.c (.int .i64 (0))), none, [], []⟩)])
      (.block 0
       (.loop L36_0)))
     (.seq
      (.reg false [
        (0, ⟨some 55, .mv (.t 3), none, [], [3]⟩),
        (1, ⟨some 2, .mv (.t 55), none, [], [55]⟩)])
      .ret))))
def C36 : CFn := ⟨56, 1, [.t 2], B36⟩

/-- laws.markIntSS -/
def L37_0 : CCode :=
  (.seq
   (.seq
    (.reg false [
      (0, ⟨some 6, .mv (.t 5), none, [], []⟩),
      (1, ⟨some 7, .mv (.t 0), none, [], []⟩),
      (2, ⟨some 8, .len (.t 7), none, [], [7]⟩),
      (3, ⟨some 9, .bin .lss (.t 6) (.t 8), none, [], [6, 8]⟩)])
    (.cond (.t 9)
     (.seq
      (.kill [9])
      .skip)
     (.seq
      (.kill [5, 9])
      (.exit 0))))
   (.seq
    (.block 1
     (.reg false [
       (0, ⟨some 12, .mv (.t 0), none, [], []⟩),
       (1, ⟨some 13, .mv (.t 5), none, [], []⟩),
       (2, ⟨some 14, .ia 1 (.t 12) (.t 13), none, [], []⟩),
       (3, ⟨some 15, .ld 1 false (.t 14), none, [], [14]⟩),
       (4, ⟨some 16, .mv (.t 1), none, [], [1]⟩),
       (5, ⟨some 17, .call 19 [(.t 15), (.t 16)], none, [], [12, 13, 15, 16]⟩),
       (6, ⟨some 1, .mv (.t 17), none, [], [17]⟩)]))
    (.reg false [
      (0, ⟨some 10, .mv (.t 5), none, [], [5]⟩),
      (1, ⟨some 11, .bin .add (.t 10) (.c (.int .i64 (1))), none, [], [10]⟩),
      (2, ⟨some 5, .mv (.t 11), none, [], [11]⟩)])))
def B37 : CCode :=
  (.seq
   (.reg false [
     (0, ⟨some 4, .mv (.c (.int .i64 (0))), none, [], [4]⟩)])
   (.seq
    (.seq
     (.reg false [
       (0, ⟨some 5, .mv (.c (.int .i64 (0))), none, [], []⟩)])
     (.block 0
      (.loop L37_0)))
    (.seq
     (.reg false [
       (0, ⟨some 18, .mv (.t 1), none, [], [1]⟩),
       (1, ⟨some 4, .mv (.t 18), none, [], [18]⟩)])
     .ret)))
def C37 : CFn := ⟨19, 2, [.t 4], B37⟩

/-- laws.heldIntSS -/
def L38_0 : CCode :=
  (.seq
   (.seq
    (.reg false [
      (0, ⟨some 6, .mv (.t 5), none, [], []⟩),
      (1, ⟨some 7, .mv (.t 0), none, [], []⟩),
      (2, ⟨some 8, .len (.t 7), none, [], [7]⟩),
      (3, ⟨some 9, .bin .lss (.t 6) (.t 8), none, [], [6, 8]⟩)])
    (.cond (.t 9)
     (.seq
      (.kill [9])
      .skip)
     (.seq
      (.kill [0, 5, 9])
      (.exit 0))))
   (.seq
    (.block 1
     (.seq
      (.reg false [
        (0, ⟨some 12, .mv (.t 0), none, [], []⟩),
        (1, ⟨some 13, .mv (.t 5), none, [], []⟩),
        (2, ⟨some 14, .ia 1 (.t 12) (.t 13), none, [], []⟩),
        (3, ⟨some 15, .ld 1 false (.t 14), none, [], [14]⟩),
        (4, ⟨some 16, .mv (.t 1), none, [], [1]⟩),
        (5, ⟨some 17, .call 20 [(.t 15), (.t 16)], none, [], [12, 13, 15, 16]⟩),
        (6, ⟨some 1, .mv (.t 17), none, [], [17]⟩)])
      (.seq
       (.reg false [
         (0, ⟨some 18, .mv (.t 1), none, [], []⟩),
         (1, ⟨some 19, .bin .lss (.t 18) (.c (.int .i64 (0))), none, [], [18]⟩)])
       (.cond (.t 19)
        (.seq
         (.kill [0, 1, 5, 19])
         (.seq
          (.reg false [
            (0, ⟨some 4, .mv (.c (.int .i64 (-1))), none, [], []⟩)])
          .ret))
        (.seq
         (.kill [19])
         .skip)))))
    (.reg false [
      (0, ⟨some 10, .mv (.t 5), none, [], [5]⟩),
      (1, ⟨some 11, .bin .add (.t 10) (.c (.int .i64 (1))), none, [], [10]⟩),
      (2, ⟨some 5, .mv (.t 11), none, [], [11]⟩)])))
def B38 : CCode :=
  (.seq
   (.reg false [
     (0, ⟨some 4, .mv (.c (.int .i64 (0))), none, [], [4]⟩)])
   (.seq
    (.seq
     (.reg false [
       (0, ⟨some 5, .mv (.c (.int .i64 (0))), none, [], []⟩)])
     (.block 0
      (.loop L38_0)))
    (.seq
     (.reg false [
       (0, ⟨some 20, .mv (.t 1), none, [], [1]⟩),
       (1, ⟨some 4, .mv (.t 20), none, [], [20]⟩)])
     .ret)))
def C38 : CFn := ⟨21, 2, [.t 4], B38⟩

/-- laws.szIntS -/
def B51 : CCode :=
  (.seq
   (.reg false [
     (0, ⟨some 4, .mv (.c (.int .i64 (0))), none, [], [4]⟩)])
   (.seq
    (.reg false [
      (0, ⟨some 5, .mv (.t 1), none, [], [1]⟩),
      (1, ⟨some 6, .mv (.t 0), none, [], [0]⟩),
      (2, ⟨some 7, .len (.t 6), none, [], [6]⟩),
      (3, ⟨some 8, .bin .sub (.t 5) (.t 7), none, [], [5, 7]⟩),
      (4, ⟨some 1, .mv (.t 8), none, [], [8]⟩)])
    (.seq
     (.seq
      (.reg false [
        (0, ⟨some 9, .mv (.t 1), none, [], []⟩),
        (1, ⟨some 10, .bin .lss (.t 9) (.c (.int .i64 (0))), none, [], [9]⟩)])
      (.cond (.t 10)
       (.seq
        (.kill [1, 10])
        (.seq
         (.reg false [
           (0, ⟨some 4, .mv (.c (.int .i64 (-1))), none, [], []⟩)])
         .ret))
       (.seq
        (.kill [10])
        .skip)))
     (.seq
      (.reg false [
        (0, ⟨some 11, .mv (.t 1), none, [], [1]⟩),
        (1, ⟨some 4, .mv (.t 11), none, [], [11]⟩)])
      .ret))))
def C51 : CFn := ⟨12, 2, [.t 4], B51⟩

/-- spec.l13Met -/
def L52_1 : CCode :=
  (.seq
   (.seq
    (.reg false [
      (0, ⟨some 14, .mv (.t 7), none, [], []⟩),
      (1, ⟨some 15, .mv (.t 0), none, [], []⟩),
      (2, ⟨some 16, .mv (.t 5), none, [], []⟩),
      (3, ⟨some 17, .ia 1 (.t 15) (.t 16), none, [], []⟩),
      (4, ⟨some 18, .ld 1 false (.t 17), none, [], [17]⟩),
      (5, ⟨some 19, .len (.t 18), none, [], [15, 16, 18]⟩),
      (6, ⟨some 20, .bin .lss (.t 14) (.t 19), none, [], [14, 19]⟩)])
    (.cond (.t 20)
     (.seq
      (.kill [20])
      .skip)
     (.seq
      (.kill [7, 20])
      (.exit 2))))
   (.seq
    (.block 3
     (.reg false [
       (0, ⟨some 23, .mv (.t 6), none, [], [6]⟩),
       (1, ⟨some 24, .mv (.t 23), none, [], [23]⟩),
       (2, ⟨some 25, .mv (.t 1), some (24, true), [], []⟩),
       (3, ⟨some 26, .mv (.t 0), some (24, true), [], []⟩),
       (4, ⟨some 27, .mv (.t 5), some (24, true), [], []⟩),
       (5, ⟨some 28, .ia 1 (.t 26) (.t 27), some (24, true), [], []⟩),
       (6, ⟨some 29, .ld 1 false (.t 28), some (24, true), [], [28]⟩),
       (7, ⟨some 30, .mv (.t 7), some (24, true), [], []⟩),
       (8, ⟨some 31, .ia 1 (.t 29) (.t 30), some (24, true), [], [29]⟩),
       (9, ⟨some 32, .ld 1 false (.t 31), some (24, true), [], [26, 27, 30, 31]⟩),
       (10, ⟨some 33, .call 70 [(.t 25), (.t 32)], some (24, true), [], [25, 32]⟩),
       (11, ⟨some 34, .pick (.t 24) (.t 33) (.c (.bool false)), none, [], [24, 33]⟩),
       (12, ⟨some 6, .mv (.t 34), none, [], [34]⟩)]))
    (.reg false [
      (0, ⟨some 21, .mv (.t 7), none, [], [7]⟩),
      (1, ⟨some 22, .bin .add (.t 21) (.c (.int .i64 (1))), none, [], [21]⟩),
      (2, ⟨some 7, .mv (.t 22), none, [], [22]⟩)])))
def L52_0 : CCode :=
  (.seq
   (.seq
    (.reg false [
      (0, ⟨some 8, .mv (.t 5), none, [], []⟩),
      (1, ⟨some 9, .mv (.t 0), none, [], []⟩),
      (2, ⟨some 10, .len (.t 9), none, [], [9]⟩),
      (3, ⟨some 11, .bin .lss (.t 8) (.t 10), none, [], [8, 10]⟩)])
    (.cond (.t 11)
     (.seq
      (.kill [11])
      .skip)
     (.seq
      (.kill [0, 1, 5, 11])
      (.exit 0))))
   (.seq
    (.block 1
     (.seq
      (.reg false [
        (0, ⟨some 6, .mv (.c (.bool true)), none, [], []⟩)])
      (.seq
       (.seq
        (.reg false [
          (0, ⟨some 7, .mv (.c (.int .i64 (0))), none, [], []⟩)])
        (.block 2
         (.loop L52_1)))
       (.seq
        (.reg false [
          (0, ⟨some 35, .mv (.t 6), none, [], [6]⟩)])
        (.cond (.t 35)
         (.seq
          (.kill [0, 1, 5, 35])
          (.seq
           (.reg false [
             (0, ⟨some 4, .mv (.c (.bool true)), none, [], []⟩)])
           .ret))
         (.seq
          (.kill [35])
          .skip))))))
    (.reg false [
      (0, ⟨some 12, .mv (.t 5), none, [], [5]⟩),
      (1, ⟨some 13, .bin .add (.t 12) (.c (.int .i64 (1))), none, [], [12]⟩),
      (2, ⟨some 5, .mv (.t 13), none, [], [13]⟩)])))
def B52 : CCode :=
  (.seq
   (.reg false [
     (0, ⟨some 4, .mv (.c (.bool false)), none, [], [4]⟩)])
   (.seq
    (.seq
     (.reg false [
       (0, ⟨some 5, .mv (.c (.int .i64 (0))), none, [], []⟩)])
     (.block 0
      (.loop L52_0)))
    (.seq
     (.reg false [
       (0, ⟨some 4, .mv (.c (.bool false)), none, [], []⟩)])
     .ret)))
def C52 : CFn := ⟨36, 2, [.t 4], B52⟩

/-- impl.isSubset -/
def B55 : CCode :=
  (.seq
   (.reg false [
     (0, ⟨some 3, .box 1 (.t 1), none, [], [1]⟩),
     (1, ⟨some 4, .mv (.c (.bool false)), none, [], [4]⟩)])
   (.seq
    (.reg false [
      (0, ⟨some 5, .mv (.t 0), none, [], [0]⟩),
      (1, ⟨some 6, .fn 72 [(.t 3)], none, [], []⟩),
      (2, ⟨some 7, .call 57 [(.t 5), (.t 6)], none, [], [3, 5, 6]⟩),
      (3, ⟨some 8, .not (.t 7), none, [], [7]⟩),
      (4, ⟨some 4, .mv (.t 8), none, [], [8]⟩)])
    .ret))
def C55 : CFn := ⟨9, 2, [.t 4], B55⟩

/-- slices.ContainsFunc[[]int,int] -/
def B57 : CCode :=
  (.seq
   (.reg false [
     (0, ⟨some 4, .mv (.c (.bool false)), none, [], [4]⟩)])
   (.seq
    (.reg false [
      (0, ⟨some 5, .mv (.t 0), none, [], [0]⟩),
      (1, ⟨some 6, .mv (.t 1), none, [], [1]⟩),
      (2, ⟨some 7, .call 74 [(.t 5), (.t 6)], none, [], [5, 6]⟩),
      (3, ⟨some 8, .bin .geq (.t 7) (.c (.int .i64 (0))), none, [], [7]⟩),
      (4, ⟨some 4, .mv (.t 8), none, [], [8]⟩)])
    .ret))
def C57 : CFn := ⟨9, 2, [.t 4], B57⟩

/-- spec.l7Has -/
def L70_0 : CCode :=
  (.seq
   (.seq
    (.reg false [
      (0, ⟨some 6, .mv (.t 5), none, [], []⟩),
      (1, ⟨some 7, .mv (.t 0), none, [], []⟩),
      (2, ⟨some 8, .len (.t 7), none, [], [7]⟩),
      (3, ⟨some 9, .bin .lss (.t 6) (.t 8), none, [], [6, 8]⟩)])
    (.cond (.t 9)
     (.seq
      (.kill [9])
      .skip)
     (.seq
      (.kill [0, 1, 5, 9])
      (.exit 0))))
   (.seq
    (.block 1
     (.seq
      (.reg false [
        (0, ⟨some 12, .mv (.t 0), none, [], []⟩),
        (1, ⟨some 13, .mv (.t 5), none, [], []⟩),
        (2, ⟨some 14, .ia 1 (.t 12) (.t 13), none, [], []⟩),
        (3, ⟨some 15, .ld 1 false (.t 14), none, [], [12, 13, 14]⟩),
        (4, ⟨some 16, .mv (.t 1), none, [], []⟩),
        (5, ⟨some 17, .bin .eql (.t 15) (.t 16), none, [], [15, 16]⟩)])
      (.cond (.t 17)
       (.seq
        (.kill [0, 1, 5, 17])
        (.seq
         (.reg false [
           (0, ⟨some 4, .mv (.c (.bool true)), none, [], []⟩)])
         .ret))
       (.seq
        (.kill [17])
        .skip))))
    (.reg false [
      (0, ⟨some 10, .mv (.t 5), none, [], [5]⟩),
      (1, ⟨some 11, .bin .add (.t 10) (.c (.int .i64 (1))), none, [], [10]⟩),
      (2, ⟨some 5, .mv (.t 11), none, [], [11]⟩)])))
def B70 : CCode :=
  (.seq
   (.reg false [
     (0, ⟨some 4, .mv (.c (.bool false)), none, [], [4]⟩)])
   (.seq
    (.seq
     (.reg false [
       (0, ⟨some 5, .mv (.c (.int .i64 (0))), none, [], []⟩)])
     (.block 0
      (.loop L70_0)))
    (.seq
     (.reg false [
       (0, ⟨some 4, .mv (.c (.bool false)), none, [], []⟩)])
     .ret)))
def C70 : CFn := ⟨18, 2, [.t 4], B70⟩

/-- impl.isSubset$1 -/
def B72 : CCode :=
  (.seq
   (.reg false [
     (0, ⟨some 3, .mv (.c (.bool false)), none, [], [3]⟩)])
   (.seq
    (.reg false [
      (0, ⟨some 4, .ld 1 false (.t 1), none, [], []⟩),
      (1, ⟨some 5, .mv (.t 0), none, [], [0]⟩),
      (2, ⟨some 6, .call 73 [(.t 4), (.t 5)], none, [], [1, 4, 5]⟩),
      (3, ⟨some 7, .not (.t 6), none, [], [6]⟩),
      (4, ⟨some 3, .mv (.t 7), none, [], [7]⟩)])
    .ret))
def C72 : CFn := ⟨8, 2, [.t 3], B72⟩

/-- slices.Contains[[]int,int] -/
def B73 : CCode :=
  (.seq
   (.reg false [
     (0, ⟨some 4, .mv (.c (.bool false)), none, [], [4]⟩)])
   (.seq
    (.reg false [
      (0, ⟨some 5, .mv (.t 0), none, [], [0]⟩),
      (1, ⟨some 6, .mv (.t 1), none, [], [1]⟩),
      (2, ⟨some 7, .call 83 [(.t 5), (.t 6)], none, [], [5, 6]⟩),
      (3, ⟨some 8, .bin .geq (.t 7) (.c (.int .i64 (0))), none, [], [7]⟩),
      (4, ⟨some 4, .mv (.t 8), none, [], [8]⟩)])
    .ret))
def C73 : CFn := ⟨9, 2, [.t 4], B73⟩

/-- slices.IndexFunc[[]int,int] -/
def L74_0 : CCode :=
  (.seq
   (.reg false [
     (0, ⟨some 9, .bin .lss (.t 8) (.t 7), none, [], []⟩)])
   (.seq
    (.cond (.t 9)
     (.seq
      (.kill [9])
      .skip)
     (.seq
      (.kill [0, 1, 7, 8, 9])
      (.exit 0)))
    (.seq
     (.block 1
      (.seq
       (.reg false [
         (0, ⟨some 10, .mv (.t 8), none, [], []⟩),
         (1, ⟨some 5, .mv (.t 10), none, [], [10]⟩)])
       (.seq
        (.reg false [
          (0, ⟨some 11, .mv (.t 1), none, [], []⟩),
          (1, ⟨some 12, .mv (.t 0), none, [], []⟩),
          (2, ⟨some 13, .mv (.t 5), none, [], []⟩),
          (3, ⟨some 14, .ia 1 (.t 12) (.t 13), none, [], []⟩),
          (4, ⟨some 15, .ld 1 false (.t 14), none, [], [12, 13, 14]⟩),
          (5, ⟨some 16, .callv (.t 11) [(.t 15)], none, [], [11, 15]⟩)])
        (.cond (.t 16)
         (.seq
          (.kill [0, 1, 7, 8, 16])
          (.seq
           (.reg false [
             (0, ⟨some 17, .mv (.t 5), none, [], [5]⟩),
             (1, ⟨some 4, .mv (.t 17), none, [], [17]⟩)])
           .ret))
         (.seq
          (.kill [5, 16])
          .skip)))))
     (.reg false [
       (0, ⟨some 18, .bin .add (.t 8) (.c (.int .i64 (1))), none, [], [8]⟩),
       (1, ⟨some 8, .mv (.t 18), none, [], [18]⟩)]))))
def B74 : CCode :=
  (.seq
   (.reg false [
     (0, ⟨some 4, .mv (.c (.int .i64 (0))), none, [], [4]⟩)])
   (.seq
    (.seq
     (.reg false [
       (0, ⟨some 6, .mv (.t 0), none, [], []⟩),
       (1, ⟨some 7, .len (.t 6), none, [], [6]⟩),
       (2, ⟨some 8, .mv (.c (.int .i64 (0))), none, [], []⟩)])
     (.block 0
      (.loop L74_0)))
    (.seq
     (.reg false [
       (0, ⟨some 4, .mv (.c (.int .i64 (-1))), none, [], []⟩)])
     .ret)))
def C74 : CFn := ⟨19, 2, [.t 4], B74⟩

/-- slices.Index[[]int,int] -/
def L83_0 : CCode :=
  (.seq
   (.reg false [
     (0, ⟨some 9, .bin .lss (.t 8) (.t 7), none, [], []⟩)])
   (.seq
    (.cond (.t 9)
     (.seq
      (.kill [9])
      .skip)
     (.seq
      (.kill [0, 1, 7, 8, 9])
      (.exit 0)))
    (.seq
     (.block 1
      (.seq
       (.reg false [
         (0, ⟨some 10, .mv (.t 8), none, [], []⟩),
         (1, ⟨some 5, .mv (.t 10), none, [], [10]⟩)])
       (.seq
        (.reg false [
          (0, ⟨some 11, .mv (.t 1), none, [], []⟩),
          (1, ⟨some 12, .mv (.t 0), none, [], []⟩),
          (2, ⟨some 13, .mv (.t 5), none, [], []⟩),
          (3, ⟨some 14, .ia 1 (.t 12) (.t 13), none, [], []⟩),
          (4, ⟨some 15, .ld 1 false (.t 14), none, [], [12, 13, 14]⟩),
          (5, ⟨some 16, .bin .eql (.t 11) (.t 15), none, [], [11, 15]⟩)])
        (.cond (.t 16)
         (.seq
          (.kill [0, 1, 7, 8, 16])
          (.seq
           (.reg false [
             (0, ⟨some 17, .mv (.t 5), none, [], [5]⟩),
             (1, ⟨some 4, .mv (.t 17), none, [], [17]⟩)])
           .ret))
         (.seq
          (.kill [5, 16])
          .skip)))))
     (.reg false [
       (0, ⟨some 18, .bin .add (.t 8) (.c (.int .i64 (1))), none, [], [8]⟩),
       (1, ⟨some 8, .mv (.t 18), none, [], [18]⟩)]))))
def B83 : CCode :=
  (.seq
   (.reg false [
     (0, ⟨some 4, .mv (.c (.int .i64 (0))), none, [], [4]⟩)])
   (.seq
    (.seq
     (.reg false [
       (0, ⟨some 6, .mv (.t 0), none, [], []⟩),
       (1, ⟨some 7, .len (.t 6), none, [], [6]⟩),
       (2, ⟨some 8, .mv (.c (.int .i64 (0))), none, [], []⟩)])
     (.block 0
      (.loop L83_0)))
    (.seq
     (.reg false [
       (0, ⟨some 4, .mv (.c (.int .i64 (-1))), none, [], []⟩)])
     .ret)))
def C83 : CFn := ⟨19, 2, [.t 4], B83⟩

theorem chk8 : chkFn Go.Proofs.Try.prog 8 C8 = true := by kernel_rfl
theorem chk16 : chkFn Go.Proofs.Try.prog 16 C16 = true := by kernel_rfl
theorem chk18 : chkFn Go.Proofs.Try.prog 18 C18 = true := by kernel_rfl
theorem chk19 : chkFn Go.Proofs.Try.prog 19 C19 = true := by kernel_rfl
theorem chk20 : chkFn Go.Proofs.Try.prog 20 C20 = true := by kernel_rfl
theorem chk26 : chkFn Go.Proofs.Try.prog 26 C26 = true := by kernel_rfl
theorem chk27 : chkFn Go.Proofs.Try.prog 27 C27 = true := by kernel_rfl
theorem chk28 : chkFn Go.Proofs.Try.prog 28 C28 = true := by kernel_rfl
theorem chk30 : chkFn Go.Proofs.Try.prog 30 C30 = true := by kernel_rfl
theorem chk35 : chkFn Go.Proofs.Try.prog 35 C35 = true := by kernel_rfl
theorem chk36 : chkFn Go.Proofs.Try.prog 36 C36 = true := by kernel_rfl
theorem chk37 : chkFn Go.Proofs.Try.prog 37 C37 = true := by kernel_rfl
theorem chk38 : chkFn Go.Proofs.Try.prog 38 C38 = true := by kernel_rfl
theorem chk51 : chkFn Go.Proofs.Try.prog 51 C51 = true := by kernel_rfl
theorem chk52 : chkFn Go.Proofs.Try.prog 52 C52 = true := by kernel_rfl
theorem chk55 : chkFn Go.Proofs.Try.prog 55 C55 = true := by kernel_rfl
theorem chk57 : chkFn Go.Proofs.Try.prog 57 C57 = true := by kernel_rfl
theorem chk70 : chkFn Go.Proofs.Try.prog 70 C70 = true := by kernel_rfl
theorem chk72 : chkFn Go.Proofs.Try.prog 72 C72 = true := by kernel_rfl
theorem chk73 : chkFn Go.Proofs.Try.prog 73 C73 = true := by kernel_rfl
theorem chk74 : chkFn Go.Proofs.Try.prog 74 C74 = true := by kernel_rfl
theorem chk83 : chkFn Go.Proofs.Try.prog 83 C83 = true := by kernel_rfl
def Tab (f : Nat) : Option CFn :=
  match f with
  | 8 => some C8
  | 16 => some C16
  | 18 => some C18
  | 19 => some C19
  | 20 => some C20
  | 26 => some C26
  | 27 => some C27
  | 28 => some C28
  | 30 => some C30
  | 35 => some C35
  | 36 => some C36
  | 37 => some C37
  | 38 => some C38
  | 51 => some C51
  | 52 => some C52
  | 55 => some C55
  | 57 => some C57
  | 70 => some C70
  | 72 => some C72
  | 73 => some C73
  | 74 => some C74
  | 83 => some C83
  | _ => none
theorem tabOk : TabOk Go.Proofs.Try.prog Tab := by
  intro f cf h
  unfold Tab at h
  split at h <;> simp only [Option.some.injEq, reduceCtorEq] at h <;> subst h
  · exact chk8
  · exact chk16
  · exact chk18
  · exact chk19
  · exact chk20
  · exact chk26
  · exact chk27
  · exact chk28
  · exact chk30
  · exact chk35
  · exact chk36
  · exact chk37
  · exact chk38
  · exact chk51
  · exact chk52
  · exact chk55
  · exact chk57
  · exact chk70
  · exact chk72
  · exact chk73
  · exact chk74
  · exact chk83

end Go.Proofs.YthfbkecnnllpkaaH
