/- The program's functions, for the abstract machine: printed by gen.py. -/
import Derived.Test.YthfbkecnnllpkaaHm28
import Derived.Test.YthfbkecnnllpkaaProg
set_option linter.unusedVariables false
set_option maxRecDepth 100000
namespace Go.Proofs.YthfbkecnnllpkaaH
open Go
/-- laws.FnExactCountModels -/
def B9 : CCode :=
  (.seq
   (.reg false [
     (0, ⟨some 4, .mv (.c (.bool false)), none, [], [4]⟩)])
   (.seq
    (.reg false [
      (0, ⟨some 5, .mv (.c (.int .i64 (1048576))), none, [], []⟩)])
    (.seq
     (.reg false [
       (0, ⟨some 9, .mv (.t 1), none, [], []⟩),
       (1, ⟨some 10, .mv (.t 5), none, [], [5]⟩),
       (2, ⟨some 11, .call 26 [(.t 9), (.t 10)], none, [], [9, 10]⟩),
       (3, ⟨some 5, .mv (.t 11), none, [], [11]⟩)])
     (.seq
      (.seq
       (.reg false [
         (0, ⟨some 12, .mv (.t 5), none, [], [5]⟩),
         (1, ⟨some 13, .bin .lss (.t 12) (.c (.int .i64 (0))), none, [], [12]⟩)])
       (.cond (.t 13)
        (.seq
         (.kill [0, 1, 13])
         (.seq
          (.reg false [
            (0, ⟨some 4, .mv (.c (.bool true)), none, [], []⟩)])
          .ret))
        (.seq
         (.kill [13])
         .skip)))
      (.seq
       (.reg false [
         (0, ⟨some 14, .mv (.t 0), none, [], []⟩),
         (1, ⟨some 15, .mv (.t 1), none, [], []⟩),
         (2, ⟨some 16, .call 28 [(.t 15)], none, [], [15]⟩),
         (3, ⟨some 17, .call 39 [(.t 14), (.t 16)], none, [], [14, 16]⟩),
         (4, ⟨some 6, .mv (.t 17), none, [], [17]⟩)])
       (.seq
        (.reg false [
          (0, ⟨some 18, .mv (.t 1), none, [], []⟩),
          (1, ⟨some 19, .call 28 [(.t 18)], none, [], [18]⟩),
          (2, ⟨some 7, .mv (.t 19), none, [], [19]⟩)])
        (.seq
         (.reg false [
           (0, ⟨some 20, .mv (.t 0), none, [], [0]⟩),
           (1, ⟨some 21, .mv (.t 7), none, [], []⟩),
           (2, ⟨some 22, .call 40 [(.t 20), (.t 21)], none, [], [20, 21]⟩),
           (3, ⟨some 8, .mv (.t 22), none, [], [22]⟩)])
         (.seq
          (.seq
           (.reg false [
             (0, ⟨some 23, .mv (.t 8), none, [], [8]⟩),
             (1, ⟨some 24, .mv (.t 6), none, [], [6]⟩),
             (2, ⟨some 25, .bin .neq (.t 23) (.t 24), none, [], [23, 24]⟩)])
           (.cond (.t 25)
            (.seq
             (.kill [1, 7, 25])
             (.seq
              (.reg false [
                (0, ⟨some 4, .mv (.c (.bool false)), none, [], []⟩)])
              .ret))
            (.seq
             (.kill [25])
             .skip)))
          (.seq
           (.seq
            (.reg false [
              (0, ⟨some 26, .mv (.t 7), none, [], [7]⟩),
              (1, ⟨some 27, .mv (.t 1), none, [], [1]⟩),
              (2, ⟨some 28, .call 28 [(.t 27)], none, [], [27]⟩),
              (3, ⟨some 29, .call 30 [(.t 26), (.t 28)], none, [], [26, 28]⟩),
              (4, ⟨some 30, .not (.t 29), none, [], [29]⟩)])
            (.cond (.t 30)
             (.seq
              (.kill [30])
              (.seq
               (.reg false [
                 (0, ⟨some 4, .mv (.c (.bool false)), none, [], []⟩)])
               .ret))
             (.seq
              (.kill [30])
              .skip)))
           (.seq
            (.reg false [
              (0, ⟨some 4, .mv (.c (.bool true)), none, [], []⟩)])
            .ret))))))))))
def C9 : CFn := ⟨31, 2, [.t 4], B9⟩

/-- laws.toIntS -/
def L16_0 : CCode :=
  (.seq
   (.seq
    (.reg false [
      (0, ⟨some 8, .mv (.t 4), none, [], []⟩),
      (1, ⟨some 9, .mv (.t 0), none, [], []⟩),
      (2, ⟨some 10, .len (.t 9), none, [], [9]⟩),
      (3, ⟨some 11, .bin .lss (.t 8) (.t 10), none, [], [8, 10]⟩)])
    (.cond (.t 11)
     (.seq
      (.kill [11])
      .skip)
     (.seq
      (.kill [0, 4, 11])
      (.exit 0))))
   (.seq
    (.block 1
     (.reg false [
       (0, ⟨some 14, .mv (.t 3), none, [], []⟩),
       (1, ⟨some 15, .mv (.t 4), none, [], []⟩),
       (2, ⟨some 16, .mv (.t 0), none, [], []⟩),
       (3, ⟨some 17, .mv (.t 4), none, [], []⟩),
       (4, ⟨some 18, .ia 1 (.t 16) (.t 17), none, [], []⟩),
       (5, ⟨some 19, .ld 1 false (.t 18), none, [], [16, 17, 18]⟩),
       (6, ⟨some 20, .ia 1 (.t 14) (.t 15), none, [], []⟩),
       (7, ⟨none, .st 1 (.t 20) (.t 19), none, [], [14, 15, 19, 20]⟩)]))
    (.reg false [
      (0, ⟨some 12, .mv (.t 4), none, [], [4]⟩),
      (1, ⟨some 13, .bin .add (.t 12) (.c (.int .i64 (1))), none, [], [12]⟩),
      (2, ⟨some 4, .mv (.t 13), none, [], [13]⟩)])))
def B16 : CCode :=
  (.seq
   (.reg false [
     (0, ⟨some 2, .mv (.c (.nils)), none, [], [2]⟩)])
   (.seq
    (.reg false [
      (0, ⟨some 5, .mv (.t 0), none, [], []⟩),
      (1, ⟨some 6, .len (.t 5), none, [], [5]⟩),
      (2, ⟨some 7, .mk 1 8 [.int .i64 (0)] (.t 6) (.t 6), none, [], [6]⟩),
      (3, ⟨some 3, .mv (.t 7), none, [], [7]⟩)])
    (.seq
     (.seq
      (.reg false [
        (0, ⟨some 4, .mv (.c (.int .i64 (0))), none, [], []⟩)])
      (.block 0
       (.loop L16_0)))
     (.seq
      (.reg false [
        (0, ⟨some 21, .mv (.t 3), none, [], [3]⟩),
        (1, ⟨some 2, .mv (.t 21), none, [], [21]⟩)])
      .ret))))
def C16 : CFn := ⟨22, 1, [.t 2], B16⟩

/-- laws.eqIntS -/
def L18_0 : CCode :=
  (.seq
   (.seq
    (.reg false [
      (0, ⟨some 11, .mv (.t 5), none, [], []⟩),
      (1, ⟨some 12, .mv (.t 0), none, [], []⟩),
      (2, ⟨some 13, .len (.t 12), none, [], [12]⟩),
      (3, ⟨some 14, .bin .lss (.t 11) (.t 13), none, [], [11, 13]⟩)])
    (.cond (.t 14)
     (.seq
      (.kill [14])
      .skip)
     (.seq
      (.kill [0, 1, 5, 14])
      (.exit 0))))
   (.seq
    (.block 1
     (.seq
      (.reg true [
        (0, ⟨some 17, .mv (.t 0), none, [], []⟩),
        (1, ⟨some 18, .mv (.t 5), none, [], []⟩),
        (2, ⟨some 19, .ia 1 (.t 17) (.t 18), none, [], []⟩),
        (3, ⟨some 20, .ld 1 false (.t 19), none, [], [17, 18, 19]⟩),
        (4, ⟨some 21, .mv (.t 1), none, [], []⟩),
        (5, ⟨some 22, .mv (.t 5), none, [], []⟩),
        (6, ⟨some 23, .ia 1 (.t 21) (.t 22), none, [], []⟩),
        (7, ⟨some 24, .ld 1 false (.t 23), none, [], [21, 22, 23]⟩),
        (8, ⟨some 25, .bin .neq (.t 20) (.t 24), none, [], [20, 24]⟩)])
      (.cond (.t 25)
       (.seq
        (.kill [0, 1, 5, 25])
        (.seq
         (.reg false [
           (0, ⟨some 4, .mv (.c (.bool false)), none, [], []⟩)])
         .ret))
       (.seq
        (.kill [25])
        .skip))))
    (.reg false [
      (0, ⟨some 15, .mv (.t 5), none, [], [5]⟩),
      (1, ⟨some 16, .bin .add (.t 15) (.c (.int .i64 (1))), none, [], [15]⟩),
      (2, ⟨some 5, .mv (.t 16), none, [], [16]⟩)])))
def B18 : CCode :=
  (.seq
   (.reg false [
     (0, ⟨some 4, .mv (.c (.bool false)), none, [], [4]⟩)])
   (.seq
    (.seq
     (.reg false [
       (0, ⟨some 6, .mv (.t 0), none, [], []⟩),
       (1, ⟨some 7, .len (.t 6), none, [], [6]⟩),
       (2, ⟨some 8, .mv (.t 1), none, [], []⟩),
       (3, ⟨some 9, .len (.t 8), none, [], [8]⟩),
       (4, ⟨some 10, .bin .neq (.t 7) (.t 9), none, [], [7, 9]⟩)])
     (.cond (.t 10)
      (.seq
       (.kill [0, 1, 10])
       (.seq
        (.reg false [
          (0, ⟨some 4, .mv (.c (.bool false)), none, [], []⟩)])
        .ret))
      (.seq
       (.kill [10])
       .skip)))
    (.seq
     (.seq
      (.reg false [
        (0, ⟨some 5, .mv (.c (.int .i64 (0))), none, [], []⟩)])
      (.block 0
       (.loop L18_0)))
     (.seq
      (.reg false [
        (0, ⟨some 4, .mv (.c (.bool true)), none, [], []⟩)])
      .ret))))
def C18 : CFn := ⟨26, 2, [.t 4], B18⟩

/-- laws.szIntSS -/
def L26_0 : CCode :=
  (.seq
   (.seq
    (.reg false [
      (0, ⟨some 12, .mv (.t 5), none, [], []⟩),
      (1, ⟨some 13, .mv (.t 0), none, [], []⟩),
      (2, ⟨some 14, .len (.t 13), none, [], [13]⟩),
      (3, ⟨some 15, .bin .lss (.t 12) (.t 14), none, [], [12, 14]⟩)])
    (.cond (.t 15)
     (.seq
      (.kill [15])
      .skip)
     (.seq
      (.kill [0, 5, 15])
      (.exit 0))))
   (.seq
    (.block 1
     (.seq
      (.reg false [
        (0, ⟨some 18, .mv (.t 0), none, [], []⟩),
        (1, ⟨some 19, .mv (.t 5), none, [], []⟩),
        (2, ⟨some 20, .ia 1 (.t 18) (.t 19), none, [], []⟩),
        (3, ⟨some 21, .ld 1 false (.t 20), none, [], [20]⟩),
        (4, ⟨some 22, .mv (.t 1), none, [], [1]⟩),
        (5, ⟨some 23, .call 51 [(.t 21), (.t 22)], none, [], [18, 19, 21, 22]⟩),
        (6, ⟨some 1, .mv (.t 23), none, [], [23]⟩)])
      (.seq
       (.reg false [
         (0, ⟨some 24, .mv (.t 1), none, [], []⟩),
         (1, ⟨some 25, .bin .lss (.t 24) (.c (.int .i64 (0))), none, [], [24]⟩)])
       (.cond (.t 25)
        (.seq
         (.kill [0, 1, 5, 25])
         (.seq
          (.reg false [
            (0, ⟨some 4, .mv (.c (.int .i64 (-1))), none, [], []⟩)])
          .ret))
        (.seq
         (.kill [25])
         .skip)))))
    (.reg false [
      (0, ⟨some 16, .mv (.t 5), none, [], [5]⟩),
      (1, ⟨some 17, .bin .add (.t 16) (.c (.int .i64 (1))), none, [], [16]⟩),
      (2, ⟨some 5, .mv (.t 17), none, [], [17]⟩)])))
def B26 : CCode :=
  (.seq
   (.reg false [
     (0, ⟨some 4, .mv (.c (.int .i64 (0))), none, [], [4]⟩)])
   (.seq
    (.reg false [
      (0, ⟨some 6, .mv (.t 1), none, [], [1]⟩),
      (1, ⟨some 7, .mv (.t 0), none, [], []⟩),
      (2, ⟨some 8, .len (.t 7), none, [], [7]⟩),
      (3, ⟨some 9, .bin .sub (.t 6) (.t 8), none, [], [6, 8]⟩),
      (4, ⟨some 1, .mv (.t 9), none, [], [9]⟩)])
    (.seq
     (.seq
      (.reg false [
        (0, ⟨some 10, .mv (.t 1), none, [], []⟩),
        (1, ⟨some 11, .bin .lss (.t 10) (.c (.int .i64 (0))), none, [], [10]⟩)])
      (.cond (.t 11)
       (.seq
        (.kill [0, 1, 11])
        (.seq
         (.reg false [
           (0, ⟨some 4, .mv (.c (.int .i64 (-1))), none, [], []⟩)])
         .ret))
       (.seq
        (.kill [11])
        .skip)))
     (.seq
      (.seq
       (.reg false [
         (0, ⟨some 5, .mv (.c (.int .i64 (0))), none, [], []⟩)])
       (.block 0
        (.loop L26_0)))
      (.seq
       (.reg false [
         (0, ⟨some 26, .mv (.t 1), none, [], [1]⟩),
         (1, ⟨some 4, .mv (.t 26), none, [], [26]⟩)])
       .ret)))))
def C26 : CFn := ⟨27, 2, [.t 4], B26⟩

/-- laws.toIntSS -/
def L28_0 : CCode :=
  (.seq
   (.seq
    (.reg false [
      (0, ⟨some 8, .mv (.t 4), none, [], []⟩),
      (1, ⟨some 9, .mv (.t 0), none, [], []⟩),
      (2, ⟨some 10, .len (.t 9), none, [], [9]⟩),
      (3, ⟨some 11, .bin .lss (.t 8) (.t 10), none, [], [8, 10]⟩)])
    (.cond (.t 11)
     (.seq
      (.kill [11])
      .skip)
     (.seq
      (.kill [0, 4, 11])
      (.exit 0))))
   (.seq
    (.block 1
     (.reg false [
       (0, ⟨some 14, .mv (.t 3), none, [], []⟩),
       (1, ⟨some 15, .mv (.t 4), none, [], []⟩),
       (2, ⟨some 16, .mv (.t 0), none, [], []⟩),
       (3, ⟨some 17, .mv (.t 4), none, [], []⟩),
       (4, ⟨some 18, .ia 1 (.t 16) (.t 17), none, [], []⟩),
       (5, ⟨some 19, .ld 1 false (.t 18), none, [], [18]⟩),
       (6, ⟨some 20, .call 16 [(.t 19)], none, [], [16, 17, 19]⟩),
       (7, ⟨some 21, .ia 1 (.t 14) (.t 15), none, [], []⟩),
       (8, ⟨none, .st 1 (.t 21) (.t 20), none, [], [14, 15, 20, 21]⟩)]))
    (.reg false [
      (0, ⟨some 12, .mv (.t 4), none, [], [4]⟩),
      (1, ⟨some 13, .bin .add (.t 12) (.c (.int .i64 (1))), none, [], [12]⟩),
      (2, ⟨some 4, .mv (.t 13), none, [], [13]⟩)])))
def B28 : CCode :=
  (.seq
   (.reg false [
     (0, ⟨some 2, .mv (.c (.nils)), none, [], [2]⟩)])
   (.seq
    (.reg false [
      (0, ⟨some 5, .mv (.t 0), none, [], []⟩),
      (1, ⟨some 6, .len (.t 5), none, [], [5]⟩),
      (2, ⟨some 7, .mk 1 24 [.nils] (.t 6) (.t 6), none, [], [6]⟩),
      (3, ⟨some 3, .mv (.t 7), none, [], [7]⟩)])
    (.seq
     (.seq
      (.reg false [
        (0, ⟨some 4, .mv (.c (.int .i64 (0))), none, [], []⟩)])
      (.block 0
       (.loop L28_0)))
     (.seq
      (.reg false [
        (0, ⟨some 22, .mv (.t 3), none, [], [3]⟩),
        (1, ⟨some 2, .mv (.t 22), none, [], [22]⟩)])
      .ret))))
def C28 : CFn := ⟨23, 1, [.t 2], B28⟩

/-- laws.eqIntSS -/
def L30_0 : CCode :=
  (.seq
   (.seq
    (.reg false [
      (0, ⟨some 11, .mv (.t 5), none, [], []⟩),
      (1, ⟨some 12, .mv (.t 0), none, [], []⟩),
      (2, ⟨some 13, .len (.t 12), none, [], [12]⟩),
      (3, ⟨some 14, .bin .lss (.t 11) (.t 13), none, [], [11, 13]⟩)])
    (.cond (.t 14)
     (.seq
      (.kill [14])
      .skip)
     (.seq
      (.kill [0, 1, 5, 14])
      (.exit 0))))
   (.seq
    (.block 1
     (.seq
      (.reg true [
        (0, ⟨some 17, .mv (.t 0), none, [], []⟩),
        (1, ⟨some 18, .mv (.t 5), none, [], []⟩),
        (2, ⟨some 19, .ia 1 (.t 17) (.t 18), none, [], []⟩),
        (3, ⟨some 20, .ld 1 false (.t 19), none, [], [19]⟩),
        (4, ⟨some 21, .mv (.t 1), none, [], []⟩),
        (5, ⟨some 22, .mv (.t 5), none, [], []⟩),
        (6, ⟨some 23, .ia 1 (.t 21) (.t 22), none, [], []⟩),
        (7, ⟨some 24, .ld 1 false (.t 23), none, [], [23]⟩),
        (8, ⟨some 25, .call 18 [(.t 20), (.t 24)], none, [], [17, 18, 20, 21, 22, 24]⟩),
        (9, ⟨some 26, .not (.t 25), none, [], [25]⟩)])
      (.cond (.t 26)
       (.seq
        (.kill [0, 1, 5, 26])
        (.seq
         (.reg false [
           (0, ⟨some 4, .mv (.c (.bool false)), none, [], []⟩)])
         .ret))
       (.seq
        (.kill [26])
        .skip))))
    (.reg false [
      (0, ⟨some 15, .mv (.t 5), none, [], [5]⟩),
      (1, ⟨some 16, .bin .add (.t 15) (.c (.int .i64 (1))), none, [], [15]⟩),
      (2, ⟨some 5, .mv (.t 16), none, [], [16]⟩)])))
def B30 : CCode :=
  (.seq
   (.reg false [
     (0, ⟨some 4, .mv (.c (.bool false)), none, [], [4]⟩)])
   (.seq
    (.seq
     (.reg false [
       (0, ⟨some 6, .mv (.t 0), none, [], []⟩),
       (1, ⟨some 7, .len (.t 6), none, [], [6]⟩),
       (2, ⟨some 8, .mv (.t 1), none, [], []⟩),
       (3, ⟨some 9, .len (.t 8), none, [], [8]⟩),
       (4, ⟨some 10, .bin .neq (.t 7) (.t 9), none, [], [7, 9]⟩)])
     (.cond (.t 10)
      (.seq
       (.kill [0, 1, 10])
       (.seq
        (.reg false [
          (0, ⟨some 4, .mv (.c (.bool false)), none, [], []⟩)])
        .ret))
      (.seq
       (.kill [10])
       .skip)))
    (.seq
     (.seq
      (.reg false [
        (0, ⟨some 5, .mv (.c (.int .i64 (0))), none, [], []⟩)])
      (.block 0
       (.loop L30_0)))
     (.seq
      (.reg false [
        (0, ⟨some 4, .mv (.c (.bool true)), none, [], []⟩)])
      .ret))))
def C30 : CFn := ⟨27, 2, [.t 4], B30⟩

/-- spec.SatisfiesClauses -/
def L31_1 : CCode :=
  (.seq
   (.seq
    (.reg false [
      (0, ⟨some 15, .mv (.t 7), none, [], []⟩),
      (1, ⟨some 16, .mv (.t 0), none, [], []⟩),
      (2, ⟨some 17, .mv (.t 5), none, [], []⟩),
      (3, ⟨some 18, .ia 1 (.t 16) (.t 17), none, [], []⟩),
      (4, ⟨some 19, .ld 1 false (.t 18), none, [], [18]⟩),
      (5, ⟨some 20, .len (.t 19), none, [], [16, 17, 19]⟩),
      (6, ⟨some 21, .bin .lss (.t 15) (.t 20), none, [], [15, 20]⟩)])
    (.cond (.t 21)
     (.seq
      (.kill [21])
      .skip)
     (.seq
      (.kill [7, 21])
      (.exit 2))))
   (.seq
    (.block 3
     (.seq
      (.reg false [
        (0, ⟨some 24, .mv (.t 0), none, [], []⟩),
        (1, ⟨some 25, .mv (.t 5), none, [], []⟩),
        (2, ⟨some 26, .ia 1 (.t 24) (.t 25), none, [], []⟩),
        (3, ⟨some 27, .ld 1 false (.t 26), none, [], [26]⟩),
        (4, ⟨some 28, .mv (.t 7), none, [], []⟩),
        (5, ⟨some 29, .ia 1 (.t 27) (.t 28), none, [], [27]⟩),
        (6, ⟨some 30, .ld 1 false (.t 29), none, [], [24, 25, 28, 29]⟩),
        (7, ⟨some 8, .mv (.t 30), none, [], [30]⟩)])
      (.reg false [
        (0, ⟨some 31, .mv (.t 6), none, [], [6]⟩),
        (1, ⟨some 32, .mv (.t 31), none, [], [31]⟩),
        (2, ⟨some 33, .mv (.t 8), some (32, false), [], []⟩),
        (3, ⟨some 34, .bin .gtr (.t 33) (.c (.int .i64 (0))), some (32, false), [], [33]⟩),
        (4, ⟨some 35, .mv (.t 34), some (32, false), [], [34]⟩),
        (5, ⟨some 36, .mv (.t 8), some (35, true), [], []⟩),
        (6, ⟨some 37, .mv (.t 1), some (35, true), [], []⟩),
        (7, ⟨some 38, .len (.t 37), some (35, true), [], [37]⟩),
        (8, ⟨some 39, .bin .leq (.t 36) (.t 38), some (35, true), [], [36, 38]⟩),
        (9, ⟨some 40, .pick (.t 35) (.t 39) (.c (.bool false)), some (32, false), [], [35, 39]⟩),
        (10, ⟨some 41, .mv (.t 40), some (32, false), [], [40]⟩),
        (11, ⟨some 42, .mv (.t 1), some (41, true), [], []⟩),
        (12, ⟨some 43, .mv (.t 8), some (41, true), [], []⟩),
        (13, ⟨some 44, .bin .sub (.t 43) (.c (.int .i64 (1))), some (41, true), [], [43]⟩),
        (14, ⟨some 45, .ia 1 (.t 42) (.t 44), some (41, true), [], []⟩),
        (15, ⟨some 46, .ld 1 false (.t 45), some (41, true), [], [42, 44, 45]⟩),
        (16, ⟨some 47, .pick (.t 41) (.t 46) (.c (.bool false)), some (32, false), [], [41, 46]⟩),
        (17, ⟨some 48, .pick (.t 32) (.c (.bool true)) (.t 47), none, [], [32, 47]⟩),
        (18, ⟨some 49, .mv (.t 48), none, [], [48]⟩),
        (19, ⟨some 50, .mv (.t 8), some (49, false), [], []⟩),
        (20, ⟨some 51, .bin .lss (.t 50) (.c (.int .i64 (0))), some (49, false), [], [50]⟩),
        (21, ⟨some 52, .mv (.t 51), some (49, false), [], [51]⟩),
        (22, ⟨some 53, .mv (.t 8), some (52, true), [], []⟩),
        (23, ⟨some 54, .mv (.t 1), some (52, true), [], []⟩),
        (24, ⟨some 55, .len (.t 54), some (52, true), [], [54]⟩),
        (25, ⟨some 56, .neg (.t 55), some (52, true), [], [55]⟩),
        (26, ⟨some 57, .bin .geq (.t 53) (.t 56), some (52, true), [], [53, 56]⟩),
        (27, ⟨some 58, .pick (.t 52) (.t 57) (.c (.bool false)), some (49, false), [], [52, 57]⟩),
        (28, ⟨some 59, .mv (.t 58), some (49, false), [], [58]⟩),
        (29, ⟨some 60, .mv (.t 1), some (59, true), [], []⟩),
        (30, ⟨some 61, .mv (.t 8), some (59, true), [], [8]⟩),
        (31, ⟨some 62, .neg (.t 61), some (59, true), [], [61]⟩),
        (32, ⟨some 63, .bin .sub (.t 62) (.c (.int .i64 (1))), some (59, true), [], [62]⟩),
        (33, ⟨some 64, .ia 1 (.t 60) (.t 63), some (59, true), [], []⟩),
        (34, ⟨some 65, .ld 1 false (.t 64), some (59, true), [], [60, 63, 64]⟩),
        (35, ⟨some 66, .not (.t 65), some (59, true), [], [65]⟩),
        (36, ⟨some 67, .pick (.t 59) (.t 66) (.c (.bool false)), some (49, false), [], [59, 66]⟩),
        (37, ⟨some 68, .pick (.t 49) (.c (.bool true)) (.t 67), none, [], [49, 67]⟩),
        (38, ⟨some 6, .mv (.t 68), none, [], [68]⟩)])))
    (.reg false [
      (0, ⟨some 22, .mv (.t 7), none, [], [7]⟩),
      (1, ⟨some 23, .bin .add (.t 22) (.c (.int .i64 (1))), none, [], [22]⟩),
      (2, ⟨some 7, .mv (.t 23), none, [], [23]⟩)])))
def L31_0 : CCode :=
  (.seq
   (.seq
    (.reg false [
      (0, ⟨some 9, .mv (.t 5), none, [], []⟩),
      (1, ⟨some 10, .mv (.t 0), none, [], []⟩),
      (2, ⟨some 11, .len (.t 10), none, [], [10]⟩),
      (3, ⟨some 12, .bin .lss (.t 9) (.t 11), none, [], [9, 11]⟩)])
    (.cond (.t 12)
     (.seq
      (.kill [12])
      .skip)
     (.seq
      (.kill [0, 1, 5, 12])
      (.exit 0))))
   (.seq
    (.block 1
     (.seq
      (.reg false [
        (0, ⟨some 6, .mv (.c (.bool false)), none, [], []⟩)])
      (.seq
       (.seq
        (.reg false [
          (0, ⟨some 7, .mv (.c (.int .i64 (0))), none, [], []⟩)])
        (.block 2
         (.loop L31_1)))
       (.seq
        (.reg false [
          (0, ⟨some 69, .mv (.t 6), none, [], [6]⟩),
          (1, ⟨some 70, .not (.t 69), none, [], [69]⟩)])
        (.cond (.t 70)
         (.seq
          (.kill [0, 1, 5, 70])
          (.seq
           (.reg false [
             (0, ⟨some 4, .mv (.c (.bool false)), none, [], []⟩)])
           .ret))
         (.seq
          (.kill [70])
          .skip))))))
    (.reg false [
      (0, ⟨some 13, .mv (.t 5), none, [], [5]⟩),
      (1, ⟨some 14, .bin .add (.t 13) (.c (.int .i64 (1))), none, [], [13]⟩),
      (2, ⟨some 5, .mv (.t 14), none, [], [14]⟩)])))
def B31 : CCode :=
  (.seq
   (.reg false [
     (0, ⟨some 4, .mv (.c (.bool false)), none, [], [4]⟩)])
   (.seq
    (.seq
     (.reg false [
       (0, ⟨some 5, .mv (.c (.int .i64 (0))), none, [], []⟩)])
     (.block 0
      (.loop L31_0)))
    (.seq
     (.reg false [
       (0, ⟨some 4, .mv (.c (.bool true)), none, [], []⟩)])
     .ret)))
def C31 : CFn := ⟨71, 2, [.t 4], B31⟩

/-- impl.SatisfiesClauses -/
def B32 : CCode :=
  (.seq
   (.reg false [
     (0, ⟨some 3, .box 1 (.t 1), none, [], [1]⟩),
     (1, ⟨some 4, .mv (.c (.bool false)), none, [], [4]⟩)])
   (.seq
    (.reg false [
      (0, ⟨some 5, .mv (.t 0), none, [], [0]⟩),
      (1, ⟨some 6, .fn 56 [(.t 3)], none, [], []⟩),
      (2, ⟨some 7, .call 53 [(.t 5), (.t 6)], none, [], [3, 5, 6]⟩),
      (3, ⟨some 8, .not (.t 7), none, [], [7]⟩),
      (4, ⟨some 4, .mv (.t 8), none, [], [8]⟩)])
    .ret))
def C32 : CFn := ⟨9, 2, [.t 4], B32⟩

/-- spec.AreValidClauses -/
def L33_0 : CCode :=
  (.seq
   (.seq
    (.reg false [
      (0, ⟨some 6, .mv (.t 5), none, [], []⟩),
      (1, ⟨some 7, .mv (.t 1), none, [], []⟩),
      (2, ⟨some 8, .len (.t 7), none, [], [7]⟩),
      (3, ⟨some 9, .bin .lss (.t 6) (.t 8), none, [], [6, 8]⟩)])
    (.cond (.t 9)
     (.seq
      (.kill [9])
      .skip)
     (.seq
      (.kill [5, 9])
      (.exit 0))))
   (.seq
    (.block 1
     (.seq
      (.reg false [
        (0, ⟨some 12, .mv (.t 0), none, [], []⟩),
        (1, ⟨some 13, .mv (.t 1), none, [], []⟩),
        (2, ⟨some 14, .mv (.t 5), none, [], []⟩),
        (3, ⟨some 15, .ia 1 (.t 13) (.t 14), none, [], []⟩),
        (4, ⟨some 16, .ld 1 false (.t 15), none, [], [15]⟩),
        (5, ⟨some 17, .call 60 [(.t 12), (.t 16)], none, [], [12, 13, 14, 16]⟩),
        (6, ⟨some 18, .not (.t 17), none, [], [17]⟩)])
      (.cond (.t 18)
       (.seq
        (.kill [0, 1, 5, 18])
        (.seq
         (.reg false [
           (0, ⟨some 4, .mv (.c (.bool false)), none, [], []⟩)])
         .ret))
       (.seq
        (.kill [18])
        .skip))))
    (.reg false [
      (0, ⟨some 10, .mv (.t 5), none, [], [5]⟩),
      (1, ⟨some 11, .bin .add (.t 10) (.c (.int .i64 (1))), none, [], [10]⟩),
      (2, ⟨some 5, .mv (.t 11), none, [], [11]⟩)])))
def B33 : CCode :=
  (.seq
   (.reg false [
     (0, ⟨some 4, .mv (.c (.bool false)), none, [], [4]⟩)])
   (.seq
    (.seq
     (.reg false [
       (0, ⟨some 5, .mv (.c (.int .i64 (0))), none, [], []⟩)])
     (.block 0
      (.loop L33_0)))
    (.seq
     (.reg false [
       (0, ⟨some 19, .mv (.t 0), none, [], [0]⟩),
       (1, ⟨some 20, .call 61 [(.t 19), (.c (.int .i64 (0))), (.c (.int .i64 (14)))], none, [], [19]⟩),
       (2, ⟨some 21, .mv (.t 20), none, [], [20]⟩),
       (3, ⟨some 22, .mv (.t 1), some (21, true), [], [1]⟩),
       (4, ⟨some 23, .len (.t 22), some (21, true), [], [22]⟩),
       (5, ⟨some 24, .bin .leq (.t 23) (.c (.int .i64 (400))), some (21, true), [], [23]⟩),
       (6, ⟨some 25, .pick (.t 21) (.t 24) (.c (.bool false)), none, [], [21, 24]⟩),
       (7, ⟨some 4, .mv (.t 25), none, [], [25]⟩)])
     .ret)))
def C33 : CFn := ⟨26, 2, [.t 4], B33⟩

/-- impl.AreValidClauses -/
def B34 : CCode :=
  (.seq
   (.reg false [
     (0, ⟨some 4, .mv (.c (.bool false)), none, [], [4]⟩)])
   (.seq
    (.reg false [
      (0, ⟨some 5, .mv (.t 1), none, [], []⟩),
      (1, ⟨some 6, .len (.t 5), none, [], [5]⟩),
      (2, ⟨some 7, .bin .leq (.t 6) (.c (.int .i64 (400))), none, [], [6]⟩),
      (3, ⟨some 8, .mv (.t 7), none, [], [7]⟩),
      (4, ⟨some 9, .mv (.t 0), some (8, true), [], [0]⟩),
      (5, ⟨some 10, .mv (.t 1), some (8, true), [], [1]⟩),
      (6, ⟨some 11, .call 62 [(.t 9), (.t 10)], some (8, true), [], [9, 10]⟩),
      (7, ⟨some 12, .pick (.t 8) (.t 11) (.c (.bool false)), none, [], [8, 11]⟩),
      (8, ⟨some 4, .mv (.t 12), none, [], [12]⟩)])
    .ret))
def C34 : CFn := ⟨13, 2, [.t 4], B34⟩

/-- spec.CountModels -/
def L39_1 : CCode :=
  (.seq
   (.seq
    (.reg false [
      (0, ⟨some 20, .mv (.t 8), none, [], []⟩),
      (1, ⟨some 21, .mv (.t 0), none, [], []⟩),
      (2, ⟨some 22, .bin .lss (.t 20) (.t 21), none, [], [20, 21]⟩)])
    (.cond (.t 22)
     (.seq
      (.kill [22])
      .skip)
     (.seq
      (.kill [8, 22])
      (.exit 2))))
   (.seq
    (.block 3
     (.reg false [
       (0, ⟨some 25, .mv (.t 7), none, [], [7]⟩),
       (1, ⟨some 26, .mv (.t 6), none, [], []⟩),
       (2, ⟨some 27, .mv (.t 8), none, [], []⟩),
       (3, ⟨some 28, .bin .shr (.t 26) (.t 27), none, [], [26, 27]⟩),
       (4, ⟨some 29, .bin .and (.t 28) (.c (.int .i64 (1))), none, [], [28]⟩),
       (5, ⟨some 30, .bin .eql (.t 29) (.c (.int .i64 (1))), none, [], [29]⟩),
       (6, ⟨some 31, .bsl 1 1 [.bool false] [(0, 1, (.t 30))], none, [], [30]⟩),
       (7, ⟨some 32, .app 1 1 (.t 25) (.t 31), none, [], [25, 31]⟩),
       (8, ⟨some 7, .mv (.t 32), none, [], [32]⟩)]))
    (.reg false [
      (0, ⟨some 23, .mv (.t 8), none, [], [8]⟩),
      (1, ⟨some 24, .bin .add (.t 23) (.c (.int .i64 (1))), none, [], [23]⟩),
      (2, ⟨some 8, .mv (.t 24), none, [], [24]⟩)])))
def L39_0 : CCode :=
  (.seq
   (.seq
    (.reg false [
      (0, ⟨some 13, .mv (.t 6), none, [], []⟩),
      (1, ⟨some 14, .mv (.t 0), none, [], []⟩),
      (2, ⟨some 15, .bin .shl (.c (.int .i64 (1))) (.t 14), none, [], [14]⟩),
      (3, ⟨some 16, .bin .lss (.t 13) (.t 15), none, [], [13, 15]⟩)])
    (.cond (.t 16)
     (.seq
      (.kill [16])
      .skip)
     (.seq
      (.kill [0, 1, 6, 16])
      (.exit 0))))
   (.seq
    (.block 1
     (.seq
      (.reg false [
        (0, ⟨some 19, .bsl 1 0 [.bool false] [], none, [], []⟩),
        (1, ⟨some 7, .mv (.t 19), none, [], [19]⟩)])
      (.seq
       (.seq
        (.reg false [
          (0, ⟨some 8, .mv (.c (.int .i64 (0))), none, [], []⟩)])
        (.block 2
         (.loop L39_1)))
       (.seq
        (.reg false [
          (0, ⟨some 33, .mv (.t 1), none, [], []⟩),
          (1, ⟨some 34, .mv (.t 7), none, [], [7]⟩),
          (2, ⟨some 35, .call 31 [(.t 33), (.t 34)], none, [], [33, 34]⟩)])
        (.cond (.t 35)
         (.seq
          (.kill [35])
          (.reg false [
            (0, ⟨some 36, .mv (.t 5), none, [], [5]⟩),
            (1, ⟨some 37, .bin .add (.t 36) (.c (.int .i64 (1))), none, [], [36]⟩),
            (2, ⟨some 5, .mv (.t 37), none, [], [37]⟩)]))
         (.seq
          (.kill [35])
          .skip))))))
    (.reg false [
      (0, ⟨some 17, .mv (.t 6), none, [], [6]⟩),
      (1, ⟨some 18, .bin .add (.t 17) (.c (.int .i64 (1))), none, [], [17]⟩),
      (2, ⟨some 6, .mv (.t 18), none, [], [18]⟩)])))
def B39 : CCode :=
  (.seq
   (.reg false [
     (0, ⟨some 4, .mv (.c (.int .i64 (0))), none, [], [4]⟩)])
   (.seq
    (.seq
     (.reg false [
       (0, ⟨some 9, .mv (.t 0), none, [], []⟩),
       (1, ⟨some 10, .mv (.t 1), none, [], []⟩),
       (2, ⟨some 11, .call 33 [(.t 9), (.t 10)], none, [], [9, 10]⟩),
       (3, ⟨some 12, .not (.t 11), none, [], [11]⟩)])
     (.cond (.t 12)
      (.seq
       (.kill [0, 1, 12])
       (.seq
        (.reg false [
          (0, ⟨some 4, .mv (.c (.int .i64 (0))), none, [], []⟩)])
        .ret))
      (.seq
       (.kill [12])
       .skip)))
    (.seq
     (.reg false [
       (0, ⟨some 5, .mv (.c (.int .i64 (0))), none, [], []⟩)])
     (.seq
      (.seq
       (.reg false [
         (0, ⟨some 6, .mv (.c (.int .i64 (0))), none, [], []⟩)])
       (.block 0
        (.loop L39_0)))
      (.seq
       (.reg false [
         (0, ⟨some 38, .mv (.t 5), none, [], [5]⟩),
         (1, ⟨some 4, .mv (.t 38), none, [], [38]⟩)])
       .ret)))))
def C39 : CFn := ⟨39, 2, [.t 4], B39⟩

/-- impl.CountModels -/
def L40_1 : CCode :=
  (.seq
   (.reg false [
     (0, ⟨some 23, .bin .lss (.t 22) (.t 21), none, [], []⟩)])
   (.seq
    (.cond (.t 23)
     (.seq
      (.kill [23])
      .skip)
     (.seq
      (.kill [7, 21, 22, 23])
      (.exit 2)))
    (.seq
     (.block 3
      (.seq
       (.reg false [
         (0, ⟨some 24, .mv (.t 22), none, [], []⟩),
         (1, ⟨some 8, .mv (.t 24), none, [], [24]⟩)])
       (.reg false [
         (0, ⟨some 25, .mv (.t 6), none, [], []⟩),
         (1, ⟨some 26, .mv (.t 8), none, [], []⟩),
         (2, ⟨some 27, .mv (.t 7), none, [], []⟩),
         (3, ⟨some 28, .mv (.t 8), none, [], [8]⟩),
         (4, ⟨some 29, .bin .shr (.t 27) (.t 28), none, [], [27, 28]⟩),
         (5, ⟨some 30, .bin .and (.t 29) (.c (.int .i64 (1))), none, [], [29]⟩),
         (6, ⟨some 31, .bin .eql (.t 30) (.c (.int .i64 (1))), none, [], [30]⟩),
         (7, ⟨some 32, .ia 1 (.t 25) (.t 26), none, [], []⟩),
         (8, ⟨none, .st 1 (.t 32) (.t 31), none, [], [25, 26, 31, 32]⟩)])))
     (.reg false [
       (0, ⟨some 33, .bin .add (.t 22) (.c (.int .i64 (1))), none, [], [22]⟩),
       (1, ⟨some 22, .mv (.t 33), none, [], [33]⟩)]))))
def L40_0 : CCode :=
  (.seq
   (.reg false [
     (0, ⟨some 18, .bin .lss (.t 17) (.t 16), none, [], []⟩)])
   (.seq
    (.cond (.t 18)
     (.seq
      (.kill [18])
      .skip)
     (.seq
      (.kill [1, 6, 16, 17, 18])
      (.exit 0)))
    (.seq
     (.block 1
      (.seq
       (.reg false [
         (0, ⟨some 19, .mv (.t 17), none, [], []⟩),
         (1, ⟨some 7, .mv (.t 19), none, [], [19]⟩)])
       (.seq
        (.seq
         (.reg false [
           (0, ⟨some 20, .mv (.t 6), none, [], []⟩),
           (1, ⟨some 21, .len (.t 20), none, [], [20]⟩),
           (2, ⟨some 22, .mv (.c (.int .i64 (0))), none, [], []⟩)])
         (.block 2
          (.loop L40_1)))
        (.seq
         (.reg false [
           (0, ⟨some 34, .mv (.t 1), none, [], []⟩),
           (1, ⟨some 35, .mv (.t 6), none, [], []⟩),
           (2, ⟨some 36, .call 32 [(.t 34), (.t 35)], none, [], [34, 35]⟩)])
         (.cond (.t 36)
          (.seq
           (.kill [36])
           (.reg false [
             (0, ⟨some 37, .mv (.t 5), none, [], [5]⟩),
             (1, ⟨some 38, .bin .add (.t 37) (.c (.int .i64 (1))), none, [], [37]⟩),
             (2, ⟨some 5, .mv (.t 38), none, [], [38]⟩)]))
          (.seq
           (.kill [36])
           .skip))))))
     (.reg false [
       (0, ⟨some 39, .bin .add (.t 17) (.c (.int .i64 (1))), none, [], [17]⟩),
       (1, ⟨some 17, .mv (.t 39), none, [], [39]⟩)]))))
def B40 : CCode :=
  (.seq
   (.reg false [
     (0, ⟨some 4, .mv (.c (.int .i64 (0))), none, [], [4]⟩)])
   (.seq
    (.seq
     (.reg false [
       (0, ⟨some 9, .mv (.t 0), none, [], []⟩),
       (1, ⟨some 10, .mv (.t 1), none, [], []⟩),
       (2, ⟨some 11, .call 34 [(.t 9), (.t 10)], none, [], [9, 10]⟩),
       (3, ⟨some 12, .not (.t 11), none, [], [11]⟩)])
     (.cond (.t 12)
      (.seq
       (.kill [0, 1, 12])
       (.seq
        (.reg false [
          (0, ⟨some 4, .mv (.c (.int .i64 (0))), none, [], []⟩)])
        .ret))
      (.seq
       (.kill [12])
       .skip)))
    (.seq
     (.reg true [
       (0, ⟨some 13, .mv (.t 0), none, [], []⟩),
       (1, ⟨some 14, .mk 1 1 [.bool false] (.t 13) (.t 13), none, [], [13]⟩),
       (2, ⟨some 5, .mv (.c (.int .i64 (0))), none, [], []⟩),
       (3, ⟨some 6, .mv (.t 14), none, [], [14]⟩)])
     (.seq
      (.seq
       (.reg false [
         (0, ⟨some 15, .mv (.t 0), none, [], [0]⟩),
         (1, ⟨some 16, .bin .shl (.c (.int .i64 (1))) (.t 15), none, [], [15]⟩),
         (2, ⟨some 17, .mv (.c (.int .i64 (0))), none, [], []⟩)])
       (.block 0
        (.loop L40_0)))
      (.seq
       (.reg false [
         (0, ⟨some 40, .mv (.t 5), none, [], [5]⟩),
         (1, ⟨some 4, .mv (.t 40), none, [], [40]⟩)])
       .ret)))))
def C40 : CFn := ⟨41, 2, [.t 4], B40⟩

/-- laws.szIntS -/
def B51 : CCode :=
  (.seq
   (.reg false [
     (0, ⟨some 4, .mv (.c (.int .i64 (0))), none, [], [4]⟩)])
   (.seq
    (.reg false [
      (0, ⟨some 5, .mv (.t 1), none, [], [1]⟩),
      (1, ⟨some 6, .mv (.t 0), none, [], [0]⟩),
      (2, ⟨some 7, .len (.t 6), none, [], [6]⟩),
      (3, ⟨some 8, .bin .sub (.t 5) (.t 7), none, [], [5, 7]⟩),
      (4, ⟨some 1, .mv (.t 8), none, [], [8]⟩)])
    (.seq
     (.seq
      (.reg false [
        (0, ⟨some 9, .mv (.t 1), none, [], []⟩),
        (1, ⟨some 10, .bin .lss (.t 9) (.c (.int .i64 (0))), none, [], [9]⟩)])
      (.cond (.t 10)
       (.seq
        (.kill [1, 10])
        (.seq
         (.reg false [
           (0, ⟨some 4, .mv (.c (.int .i64 (-1))), none, [], []⟩)])
         .ret))
       (.seq
        (.kill [10])
        .skip)))
     (.seq
      (.reg false [
        (0, ⟨some 11, .mv (.t 1), none, [], [1]⟩),
        (1, ⟨some 4, .mv (.t 11), none, [], [11]⟩)])
      .ret))))
def C51 : CFn := ⟨12, 2, [.t 4], B51⟩

/-- slices.ContainsFunc[[][]int,[]int] -/
def B53 : CCode :=
  (.seq
   (.reg false [
     (0, ⟨some 4, .mv (.c (.bool false)), none, [], [4]⟩)])
   (.seq
    (.reg false [
      (0, ⟨some 5, .mv (.t 0), none, [], [0]⟩),
      (1, ⟨some 6, .mv (.t 1), none, [], [1]⟩),
      (2, ⟨some 7, .call 71 [(.t 5), (.t 6)], none, [], [5, 6]⟩),
      (3, ⟨some 8, .bin .geq (.t 7) (.c (.int .i64 (0))), none, [], [7]⟩),
      (4, ⟨some 4, .mv (.t 8), none, [], [8]⟩)])
    .ret))
def C53 : CFn := ⟨9, 2, [.t 4], B53⟩

/-- impl.SatisfiesClauses$1 -/
def B56 : CCode :=
  (.seq
   (.reg false [
     (0, ⟨some 3, .mv (.c (.bool false)), none, [], [3]⟩)])
   (.seq
    (.reg false [
      (0, ⟨some 4, .mv (.t 0), none, [], [0]⟩),
      (1, ⟨some 5, .fn 58 [(.t 1)], none, [], []⟩),
      (2, ⟨some 6, .call 57 [(.t 4), (.t 5)], none, [], [1, 4, 5]⟩),
      (3, ⟨some 7, .not (.t 6), none, [], [6]⟩),
      (4, ⟨some 3, .mv (.t 7), none, [], [7]⟩)])
    .ret))
def C56 : CFn := ⟨8, 2, [.t 3], B56⟩

/-- slices.ContainsFunc[[]int,int] -/
def B57 : CCode :=
  (.seq
   (.reg false [
     (0, ⟨some 4, .mv (.c (.bool false)), none, [], [4]⟩)])
   (.seq
    (.reg false [
      (0, ⟨some 5, .mv (.t 0), none, [], [0]⟩),
      (1, ⟨some 6, .mv (.t 1), none, [], [1]⟩),
      (2, ⟨some 7, .call 74 [(.t 5), (.t 6)], none, [], [5, 6]⟩),
      (3, ⟨some 8, .bin .geq (.t 7) (.c (.int .i64 (0))), none, [], [7]⟩),
      (4, ⟨some 4, .mv (.t 8), none, [], [8]⟩)])
    .ret))
def C57 : CFn := ⟨9, 2, [.t 4], B57⟩

/-- impl.SatisfiesClauses$1$1 -/
def B58 : CCode :=
  (.seq
   (.reg false [
     (0, ⟨some 3, .mv (.c (.bool false)), none, [], [3]⟩)])
   (.seq
    (.reg false [
      (0, ⟨some 4, .ld 1 false (.t 1), none, [], []⟩),
      (1, ⟨some 5, .mv (.t 0), none, [], [0]⟩),
      (2, ⟨some 6, .call 59 [(.t 4), (.t 5)], none, [], [1, 4, 5]⟩),
      (3, ⟨some 3, .mv (.t 6), none, [], [6]⟩)])
    .ret))
def C58 : CFn := ⟨7, 2, [.t 3], B58⟩

/-- impl.isTrue -/
def B59 : CCode :=
  (.seq
   (.reg false [
     (0, ⟨some 4, .mv (.c (.bool false)), none, [], [4]⟩)])
   (.seq
    (.seq
     (.reg false [
       (0, ⟨some 5, .mv (.t 1), none, [], []⟩),
       (1, ⟨some 6, .bin .gtr (.t 5) (.c (.int .i64 (0))), none, [], [5]⟩)])
     (.cond (.t 6)
      (.seq
       (.kill [6])
       (.seq
        (.reg false [
          (0, ⟨some 7, .mv (.t 1), none, [], []⟩),
          (1, ⟨some 8, .mv (.t 0), none, [], []⟩),
          (2, ⟨some 9, .len (.t 8), none, [], [8]⟩),
          (3, ⟨some 10, .bin .leq (.t 7) (.t 9), none, [], [7, 9]⟩),
          (4, ⟨some 11, .mv (.t 10), none, [], [10]⟩),
          (5, ⟨some 12, .mv (.t 0), some (11, true), [], [0]⟩),
          (6, ⟨some 13, .mv (.t 1), some (11, true), [], [1]⟩),
          (7, ⟨some 14, .bin .sub (.t 13) (.c (.int .i64 (1))), some (11, true), [], [13]⟩),
          (8, ⟨some 15, .ia 1 (.t 12) (.t 14), some (11, true), [], []⟩),
          (9, ⟨some 16, .ld 1 false (.t 15), some (11, true), [], [12, 14, 15]⟩),
          (10, ⟨some 17, .pick (.t 11) (.t 16) (.c (.bool false)), none, [], [11, 16]⟩),
          (11, ⟨some 4, .mv (.t 17), none, [], [17]⟩)])
        .ret))
      (.seq
       (.kill [6])
       .skip)))
    (.seq
     (.reg false [
       (0, ⟨some 18, .mv (.t 1), none, [], []⟩),
       (1, ⟨some 19, .bin .lss (.t 18) (.c (.int .i64 (0))), none, [], [18]⟩),
       (2, ⟨some 20, .mv (.t 19), none, [], [19]⟩),
       (3, ⟨some 21, .mv (.t 1), some (20, true), [], []⟩),
       (4, ⟨some 22, .mv (.t 0), some (20, true), [], []⟩),
       (5, ⟨some 23, .len (.t 22), some (20, true), [], [22]⟩),
       (6, ⟨some 24, .neg (.t 23), some (20, true), [], [23]⟩),
       (7, ⟨some 25, .bin .geq (.t 21) (.t 24), some (20, true), [], [21, 24]⟩),
       (8, ⟨some 26, .pick (.t 20) (.t 25) (.c (.bool false)), none, [], [20, 25]⟩),
       (9, ⟨some 27, .mv (.t 26), none, [], [26]⟩),
       (10, ⟨some 28, .mv (.t 0), some (27, true), [], [0]⟩),
       (11, ⟨some 29, .mv (.t 1), some (27, true), [], [1]⟩),
       (12, ⟨some 30, .neg (.t 29), some (27, true), [], [29]⟩),
       (13, ⟨some 31, .bin .sub (.t 30) (.c (.int .i64 (1))), some (27, true), [], [30]⟩),
       (14, ⟨some 32, .ia 1 (.t 28) (.t 31), some (27, true), [], []⟩),
       (15, ⟨some 33, .ld 1 false (.t 32), some (27, true), [], [28, 31, 32]⟩),
       (16, ⟨some 34, .not (.t 33), some (27, true), [], [33]⟩),
       (17, ⟨some 35, .pick (.t 27) (.t 34) (.c (.bool false)), none, [], [27, 34]⟩),
       (18, ⟨some 4, .mv (.t 35), none, [], [35]⟩)])
     .ret)))
def C59 : CFn := ⟨36, 2, [.t 4], B59⟩

/-- spec.l20Clause -/
def L60_1 : CCode :=
  (.seq
   (.seq
    (.reg false [
      (0, ⟨some 42, .mv (.t 7), none, [], []⟩),
      (1, ⟨some 43, .mv (.t 5), none, [], []⟩),
      (2, ⟨some 44, .bin .lss (.t 42) (.t 43), none, [], [42, 43]⟩)])
    (.cond (.t 44)
     (.seq
      (.kill [44])
      .skip)
     (.seq
      (.kill [7, 44])
      (.exit 2))))
   (.seq
    (.block 3
     (.seq
      (.reg true [
        (0, ⟨some 47, .mv (.t 1), none, [], []⟩),
        (1, ⟨some 48, .mv (.t 7), none, [], []⟩),
        (2, ⟨some 49, .ia 1 (.t 47) (.t 48), none, [], []⟩),
        (3, ⟨some 50, .ld 1 false (.t 49), none, [], [47, 48, 49]⟩),
        (4, ⟨some 51, .mv (.t 1), none, [], []⟩),
        (5, ⟨some 52, .mv (.t 5), none, [], []⟩),
        (6, ⟨some 53, .ia 1 (.t 51) (.t 52), none, [], []⟩),
        (7, ⟨some 54, .ld 1 false (.t 53), none, [], [51, 52, 53]⟩),
        (8, ⟨some 55, .bin .eql (.t 50) (.t 54), none, [], [50, 54]⟩),
        (9, ⟨some 56, .mv (.t 55), none, [], [55]⟩),
        (10, ⟨some 57, .mv (.t 1), some (56, false), [], []⟩),
        (11, ⟨some 58, .mv (.t 7), some (56, false), [], []⟩),
        (12, ⟨some 59, .ia 1 (.t 57) (.t 58), some (56, false), [], []⟩),
        (13, ⟨some 60, .ld 1 false (.t 59), some (56, false), [], [57, 58, 59]⟩),
        (14, ⟨some 61, .mv (.t 1), some (56, false), [], []⟩),
        (15, ⟨some 62, .mv (.t 5), some (56, false), [], []⟩),
        (16, ⟨some 63, .ia 1 (.t 61) (.t 62), some (56, false), [], []⟩),
        (17, ⟨some 64, .ld 1 false (.t 63), some (56, false), [], [61, 62, 63]⟩),
        (18, ⟨some 65, .neg (.t 64), some (56, false), [], [64]⟩),
        (19, ⟨some 66, .bin .eql (.t 60) (.t 65), some (56, false), [], [60, 65]⟩),
        (20, ⟨some 67, .pick (.t 56) (.c (.bool true)) (.t 66), none, [], [56, 66]⟩)])
      (.cond (.t 67)
       (.seq
        (.kill [0, 1, 5, 7, 67])
        (.seq
         (.reg false [
           (0, ⟨some 4, .mv (.c (.bool false)), none, [], []⟩)])
         .ret))
       (.seq
        (.kill [67])
        .skip))))
    (.reg false [
      (0, ⟨some 45, .mv (.t 7), none, [], [7]⟩),
      (1, ⟨some 46, .bin .add (.t 45) (.c (.int .i64 (1))), none, [], [45]⟩),
      (2, ⟨some 7, .mv (.t 46), none, [], [46]⟩)])))
def L60_0 : CCode :=
  (.seq
   (.seq
    (.reg false [
      (0, ⟨some 8, .mv (.t 5), none, [], []⟩),
      (1, ⟨some 9, .mv (.t 1), none, [], []⟩),
      (2, ⟨some 10, .len (.t 9), none, [], [9]⟩),
      (3, ⟨some 11, .bin .lss (.t 8) (.t 10), none, [], [8, 10]⟩)])
    (.cond (.t 11)
     (.seq
      (.kill [11])
      .skip)
     (.seq
      (.kill [0, 1, 5, 11])
      (.exit 0))))
   (.seq
    (.block 1
     (.seq
      (.reg false [
        (0, ⟨some 14, .mv (.t 1), none, [], []⟩),
        (1, ⟨some 15, .mv (.t 5), none, [], []⟩),
        (2, ⟨some 16, .ia 1 (.t 14) (.t 15), none, [], []⟩),
        (3, ⟨some 17, .ld 1 false (.t 16), none, [], [14, 15, 16]⟩),
        (4, ⟨some 18, .max (.t 17) (.c (.int .i64 (0))), none, [], [17]⟩),
        (5, ⟨some 6, .mv (.t 18), none, [], [18]⟩)])
      (.seq
       (.seq
        (.reg false [
          (0, ⟨some 19, .mv (.t 1), none, [], []⟩),
          (1, ⟨some 20, .mv (.t 5), none, [], []⟩),
          (2, ⟨some 21, .ia 1 (.t 19) (.t 20), none, [], []⟩),
          (3, ⟨some 22, .ld 1 false (.t 21), none, [], [19, 20, 21]⟩),
          (4, ⟨some 23, .bin .lss (.t 22) (.c (.int .i64 (0))), none, [], [22]⟩),
          (5, ⟨some 24, .mv (.t 23), none, [], [23]⟩),
          (6, ⟨some 25, .mv (.t 1), some (24, true), [], []⟩),
          (7, ⟨some 26, .mv (.t 5), some (24, true), [], []⟩),
          (8, ⟨some 27, .ia 1 (.t 25) (.t 26), some (24, true), [], []⟩),
          (9, ⟨some 28, .ld 1 false (.t 27), some (24, true), [], [25, 26, 27]⟩),
          (10, ⟨some 29, .mv (.t 0), some (24, true), [], []⟩),
          (11, ⟨some 30, .neg (.t 29), some (24, true), [], [29]⟩),
          (12, ⟨some 31, .bin .geq (.t 28) (.t 30), some (24, true), [], [28, 30]⟩),
          (13, ⟨some 32, .pick (.t 24) (.t 31) (.c (.bool false)), none, [], [24, 31]⟩)])
        (.cond (.t 32)
         (.seq
          (.kill [6, 32])
          (.reg false [
            (0, ⟨some 33, .mv (.t 1), none, [], []⟩),
            (1, ⟨some 34, .mv (.t 5), none, [], []⟩),
            (2, ⟨some 35, .ia 1 (.t 33) (.t 34), none, [], []⟩),
            (3, ⟨some 36, .ld 1 false (.t 35), none, [], [33, 34, 35]⟩),
            (4, ⟨some 37, .neg (.t 36), none, [], [36]⟩),
            (5, ⟨some 6, .mv (.t 37), none, [], [37]⟩)]))
         (.seq
          (.kill [32])
          .skip)))
       (.seq
        (.seq
         (.reg false [
           (0, ⟨some 38, .mv (.t 6), none, [], [6]⟩),
           (1, ⟨some 39, .mv (.t 0), none, [], []⟩),
           (2, ⟨some 40, .call 61 [(.t 38), (.c (.int .i64 (1))), (.t 39)], none, [], [38, 39]⟩),
           (3, ⟨some 41, .not (.t 40), none, [], [40]⟩)])
         (.cond (.t 41)
          (.seq
           (.kill [0, 1, 5, 41])
           (.seq
            (.reg false [
              (0, ⟨some 4, .mv (.c (.bool false)), none, [], []⟩)])
            .ret))
          (.seq
           (.kill [41])
           .skip)))
        (.seq
         (.reg false [
           (0, ⟨some 7, .mv (.c (.int .i64 (0))), none, [], []⟩)])
         (.block 2
          (.loop L60_1)))))))
    (.reg false [
      (0, ⟨some 12, .mv (.t 5), none, [], [5]⟩),
      (1, ⟨some 13, .bin .add (.t 12) (.c (.int .i64 (1))), none, [], [12]⟩),
      (2, ⟨some 5, .mv (.t 13), none, [], [13]⟩)])))
def B60 : CCode :=
  (.seq
   (.reg false [
     (0, ⟨some 4, .mv (.c (.bool false)), none, [], [4]⟩)])
   (.seq
    (.seq
     (.reg false [
       (0, ⟨some 5, .mv (.c (.int .i64 (0))), none, [], []⟩)])
     (.block 0
      (.loop L60_0)))
    (.seq
     (.reg false [
       (0, ⟨some 4, .mv (.c (.bool true)), none, [], []⟩)])
     .ret)))
def C60 : CFn := ⟨68, 2, [.t 4], B60⟩

/-- spec.l1In -/
def B61 : CCode :=
  (.seq
   (.reg false [
     (0, ⟨some 6, .mv (.c (.bool false)), none, [], [6]⟩)])
   (.seq
    (.reg false [
      (0, ⟨some 7, .mv (.t 0), none, [], []⟩),
      (1, ⟨some 8, .mv (.t 1), none, [], [1]⟩),
      (2, ⟨some 9, .bin .geq (.t 7) (.t 8), none, [], [7, 8]⟩),
      (3, ⟨some 10, .mv (.t 9), none, [], [9]⟩),
      (4, ⟨some 11, .mv (.t 0), some (10, true), [], [0]⟩),
      (5, ⟨some 12, .mv (.t 2), some (10, true), [], [2]⟩),
      (6, ⟨some 13, .bin .leq (.t 11) (.t 12), some (10, true), [], [11, 12]⟩),
      (7, ⟨some 14, .pick (.t 10) (.t 13) (.c (.bool false)), none, [], [10, 13]⟩),
      (8, ⟨some 6, .mv (.t 14), none, [], [14]⟩)])
    .ret))
def C61 : CFn := ⟨15, 3, [.t 6], B61⟩

/-- impl.areClauses -/
def B62 : CCode :=
  (.seq
   (.reg false [
     (0, ⟨some 2, .box 1 (.t 0), none, [], [0]⟩),
     (1, ⟨some 4, .mv (.c (.bool false)), none, [], [4]⟩)])
   (.seq
    (.reg false [
      (0, ⟨some 5, .ld 1 false (.t 2), none, [], []⟩),
      (1, ⟨some 6, .call 75 [(.t 5), (.c (.int .i64 (0))), (.c (.int .i64 (14)))], none, [], [5]⟩),
      (2, ⟨some 7, .mv (.t 6), none, [], [6]⟩),
      (3, ⟨some 8, .mv (.t 1), some (7, true), [], [1]⟩),
      (4, ⟨some 9, .fn 76 [(.t 2)], some (7, true), [], []⟩),
      (5, ⟨some 10, .call 53 [(.t 8), (.t 9)], some (7, true), [], [2, 8, 9]⟩),
      (6, ⟨some 11, .not (.t 10), some (7, true), [], [10]⟩),
      (7, ⟨some 12, .pick (.t 7) (.t 11) (.c (.bool false)), none, [], [7, 11]⟩),
      (8, ⟨some 4, .mv (.t 12), none, [], [12]⟩)])
    .ret))
def C62 : CFn := ⟨13, 2, [.t 4], B62⟩

/-- impl.isClause -/
def L63_0 : CCode :=
  (.seq
   (.reg false [
     (0, ⟨some 10, .bin .lss (.t 9) (.t 8), none, [], []⟩)])
   (.seq
    (.cond (.t 10)
     (.seq
      (.kill [10])
      .skip)
     (.seq
      (.kill [0, 1, 7, 8, 9, 10])
      (.exit 0)))
    (.seq
     (.block 1
      (.seq
       (.reg false [
         (0, ⟨some 11, .mv (.t 9), none, [], []⟩),
         (1, ⟨some 12, .ia 1 (.t 7) (.t 9), none, [], []⟩),
         (2, ⟨some 13, .ld 1 false (.t 12), none, [], [12]⟩),
         (3, ⟨some 5, .mv (.t 11), none, [], [11]⟩),
         (4, ⟨some 6, .mv (.t 13), none, [], [13]⟩)])
       (.seq
        (.reg false [
          (0, ⟨some 14, .mv (.t 6), none, [], []⟩),
          (1, ⟨some 15, .bin .eql (.t 14) (.c (.int .i64 (0))), none, [], [14]⟩),
          (2, ⟨some 16, .mv (.t 15), none, [], [15]⟩),
          (3, ⟨some 17, .mv (.t 6), some (16, false), [], []⟩),
          (4, ⟨some 18, .mv (.t 0), some (16, false), [], []⟩),
          (5, ⟨some 19, .neg (.t 18), some (16, false), [], [18]⟩),
          (6, ⟨some 20, .mv (.t 0), some (16, false), [], []⟩),
          (7, ⟨some 21, .call 75 [(.t 17), (.t 19), (.t 20)], some (16, false), [], [17, 19, 20]⟩),
          (8, ⟨some 22, .not (.t 21), some (16, false), [], [21]⟩),
          (9, ⟨some 23, .pick (.t 16) (.c (.bool true)) (.t 22), none, [], [16, 22]⟩),
          (10, ⟨some 24, .mv (.t 23), none, [], [23]⟩),
          (11, ⟨some 25, .mv (.t 1), some (24, false), [], []⟩),
          (12, ⟨some 26, .mv (.t 5), some (24, false), [], []⟩),
          (13, ⟨some 27, .sls 1 (.t 25) none (some (.t 26)) none, some (24, false), [], [25, 26]⟩),
          (14, ⟨some 28, .mv (.t 6), some (24, false), [], []⟩),
          (15, ⟨some 29, .call 73 [(.t 27), (.t 28)], some (24, false), [], [27, 28]⟩),
          (16, ⟨some 30, .pick (.t 24) (.c (.bool true)) (.t 29), none, [], [24, 29]⟩),
          (17, ⟨some 31, .mv (.t 30), none, [], [30]⟩),
          (18, ⟨some 32, .mv (.t 1), some (31, false), [], []⟩),
          (19, ⟨some 33, .mv (.t 5), some (31, false), [], [5]⟩),
          (20, ⟨some 34, .sls 1 (.t 32) none (some (.t 33)) none, some (31, false), [], [32, 33]⟩),
          (21, ⟨some 35, .mv (.t 6), some (31, false), [], [6]⟩),
          (22, ⟨some 36, .neg (.t 35), some (31, false), [], [35]⟩),
          (23, ⟨some 37, .call 73 [(.t 34), (.t 36)], some (31, false), [], [34, 36]⟩),
          (24, ⟨some 38, .pick (.t 31) (.c (.bool true)) (.t 37), none, [], [31, 37]⟩)])
        (.cond (.t 38)
         (.seq
          (.kill [0, 1, 7, 8, 9, 38])
          (.seq
           (.reg false [
             (0, ⟨some 4, .mv (.c (.bool false)), none, [], []⟩)])
           .ret))
         (.seq
          (.kill [38])
          .skip)))))
     (.reg false [
       (0, ⟨some 39, .bin .add (.t 9) (.c (.int .i64 (1))), none, [], [9]⟩),
       (1, ⟨some 9, .mv (.t 39), none, [], [39]⟩)]))))
def B63 : CCode :=
  (.seq
   (.reg false [
     (0, ⟨some 4, .mv (.c (.bool false)), none, [], [4]⟩)])
   (.seq
    (.seq
     (.reg false [
       (0, ⟨some 7, .mv (.t 1), none, [], []⟩),
       (1, ⟨some 8, .len (.t 7), none, [], []⟩),
       (2, ⟨some 9, .mv (.c (.int .i64 (0))), none, [], []⟩)])
     (.block 0
      (.loop L63_0)))
    (.seq
     (.reg false [
       (0, ⟨some 4, .mv (.c (.bool true)), none, [], []⟩)])
     .ret)))
def C63 : CFn := ⟨40, 2, [.t 4], B63⟩

/-- slices.IndexFunc[[][]int,[]int] -/
def L71_0 : CCode :=
  (.seq
   (.reg false [
     (0, ⟨some 9, .bin .lss (.t 8) (.t 7), none, [], []⟩)])
   (.seq
    (.cond (.t 9)
     (.seq
      (.kill [9])
      .skip)
     (.seq
      (.kill [0, 1, 7, 8, 9])
      (.exit 0)))
    (.seq
     (.block 1
      (.seq
       (.reg false [
         (0, ⟨some 10, .mv (.t 8), none, [], []⟩),
         (1, ⟨some 5, .mv (.t 10), none, [], [10]⟩)])
       (.seq
        (.reg false [
          (0, ⟨some 11, .mv (.t 1), none, [], []⟩),
          (1, ⟨some 12, .mv (.t 0), none, [], []⟩),
          (2, ⟨some 13, .mv (.t 5), none, [], []⟩),
          (3, ⟨some 14, .ia 1 (.t 12) (.t 13), none, [], []⟩),
          (4, ⟨some 15, .ld 1 false (.t 14), none, [], [14]⟩),
          (5, ⟨some 16, .callv (.t 11) [(.t 15)], none, [], [11, 12, 13, 15]⟩)])
        (.cond (.t 16)
         (.seq
          (.kill [0, 1, 7, 8, 16])
          (.seq
           (.reg false [
             (0, ⟨some 17, .mv (.t 5), none, [], [5]⟩),
             (1, ⟨some 4, .mv (.t 17), none, [], [17]⟩)])
           .ret))
         (.seq
          (.kill [5, 16])
          .skip)))))
     (.reg false [
       (0, ⟨some 18, .bin .add (.t 8) (.c (.int .i64 (1))), none, [], [8]⟩),
       (1, ⟨some 8, .mv (.t 18), none, [], [18]⟩)]))))
def B71 : CCode :=
  (.seq
   (.reg false [
     (0, ⟨some 4, .mv (.c (.int .i64 (0))), none, [], [4]⟩)])
   (.seq
    (.seq
     (.reg false [
       (0, ⟨some 6, .mv (.t 0), none, [], []⟩),
       (1, ⟨some 7, .len (.t 6), none, [], [6]⟩),
       (2, ⟨some 8, .mv (.c (.int .i64 (0))), none, [], []⟩)])
     (.block 0
      (.loop L71_0)))
    (.seq
     (.reg false [
       (0, ⟨some 4, .mv (.c (.int .i64 (-1))), none, [], []⟩)])
     .ret)))
def C71 : CFn := ⟨19, 2, [.t 4], B71⟩

/-- slices.Contains[[]int,int] -/
def B73 : CCode :=
  (.seq
   (.reg false [
     (0, ⟨some 4, .mv (.c (.bool false)), none, [], [4]⟩)])
   (.seq
    (.reg false [
      (0, ⟨some 5, .mv (.t 0), none, [], [0]⟩),
      (1, ⟨some 6, .mv (.t 1), none, [], [1]⟩),
      (2, ⟨some 7, .call 83 [(.t 5), (.t 6)], none, [], [5, 6]⟩),
      (3, ⟨some 8, .bin .geq (.t 7) (.c (.int .i64 (0))), none, [], [7]⟩),
      (4, ⟨some 4, .mv (.t 8), none, [], [8]⟩)])
    .ret))
def C73 : CFn := ⟨9, 2, [.t 4], B73⟩

/-- slices.IndexFunc[[]int,int] -/
def L74_0 : CCode :=
  (.seq
   (.reg false [
     (0, ⟨some 9, .bin .lss (.t 8) (.t 7), none, [], []⟩)])
   (.seq
    (.cond (.t 9)
     (.seq
      (.kill [9])
      .skip)
     (.seq
      (.kill [0, 1, 7, 8, 9])
      (.exit 0)))
    (.seq
     (.block 1
      (.seq
       (.reg false [
         (0, ⟨some 10, .mv (.t 8), none, [], []⟩),
         (1, ⟨some 5, .mv (.t 10), none, [], [10]⟩)])
       (.seq
        (.reg false [
          (0, ⟨some 11, .mv (.t 1), none, [], []⟩),
          (1, ⟨some 12, .mv (.t 0), none, [], []⟩),
          (2, ⟨some 13, .mv (.t 5), none, [], []⟩),
          (3, ⟨some 14, .ia 1 (.t 12) (.t 13), none, [], []⟩),
          (4, ⟨some 15, .ld 1 false (.t 14), none, [], [12, 13, 14]⟩),
          (5, ⟨some 16, .callv (.t 11) [(.t 15)], none, [], [11, 15]⟩)])
        (.cond (.t 16)
         (.seq
          (.kill [0, 1, 7, 8, 16])
          (.seq
           (.reg false [
             (0, ⟨some 17, .mv (.t 5), none, [], [5]⟩),
             (1, ⟨some 4, .mv (.t 17), none, [], [17]⟩)])
           .ret))
         (.seq
          (.kill [5, 16])
          .skip)))))
     (.reg false [
       (0, ⟨some 18, .bin .add (.t 8) (.c (.int .i64 (1))), none, [], [8]⟩),
       (1, ⟨some 8, .mv (.t 18), none, [], [18]⟩)]))))
def B74 : CCode :=
  (.seq
   (.reg false [
     (0, ⟨some 4, .mv (.c (.int .i64 (0))), none, [], [4]⟩)])
   (.seq
    (.seq
     (.reg false [
       (0, ⟨some 6, .mv (.t 0), none, [], []⟩),
       (1, ⟨some 7, .len (.t 6), none, [], [6]⟩),
       (2, ⟨some 8, .mv (.c (.int .i64 (0))), none, [], []⟩)])
     (.block 0
      (.loop L74_0)))
    (.seq
     (.reg false [
       (0, ⟨some 4, .mv (.c (.int .i64 (-1))), none, [], []⟩)])
     .ret)))
def C74 : CFn := ⟨19, 2, [.t 4], B74⟩

/-- impl.within -/
def B75 : CCode :=
  (.seq
   (.reg false [
     (0, ⟨some 6, .mv (.c (.bool false)), none, [], [6]⟩)])
   (.seq
    (.reg false [
      (0, ⟨some 7, .mv (.t 1), none, [], [1]⟩),
      (1, ⟨some 8, .mv (.t 0), none, [], []⟩),
      (2, ⟨some 9, .bin .leq (.t 7) (.t 8), none, [], [7, 8]⟩),
      (3, ⟨some 10, .mv (.t 9), none, [], [9]⟩),
      (4, ⟨some 11, .mv (.t 0), some (10, true), [], [0]⟩),
      (5, ⟨some 12, .mv (.t 2), some (10, true), [], [2]⟩),
      (6, ⟨some 13, .bin .leq (.t 11) (.t 12), some (10, true), [], [11, 12]⟩),
      (7, ⟨some 14, .pick (.t 10) (.t 13) (.c (.bool false)), none, [], [10, 13]⟩),
      (8, ⟨some 6, .mv (.t 14), none, [], [14]⟩)])
    .ret))
def C75 : CFn := ⟨15, 3, [.t 6], B75⟩

/-- impl.areClauses$1 -/
def B76 : CCode :=
  (.seq
   (.reg false [
     (0, ⟨some 3, .mv (.c (.bool false)), none, [], [3]⟩)])
   (.seq
    (.reg false [
      (0, ⟨some 4, .ld 1 false (.t 1), none, [], [1]⟩),
      (1, ⟨some 5, .mv (.t 0), none, [], [0]⟩),
      (2, ⟨some 6, .call 63 [(.t 4), (.t 5)], none, [], [4, 5]⟩),
      (3, ⟨some 7, .not (.t 6), none, [], [6]⟩),
      (4, ⟨some 3, .mv (.t 7), none, [], [7]⟩)])
    .ret))
def C76 : CFn := ⟨8, 2, [.t 3], B76⟩

/-- slices.Index[[]int,int] -/
def L83_0 : CCode :=
  (.seq
   (.reg false [
     (0, ⟨some 9, .bin .lss (.t 8) (.t 7), none, [], []⟩)])
   (.seq
    (.cond (.t 9)
     (.seq
      (.kill [9])
      .skip)
     (.seq
      (.kill [0, 1, 7, 8, 9])
      (.exit 0)))
    (.seq
     (.block 1
      (.seq
       (.reg false [
         (0, ⟨some 10, .mv (.t 8), none, [], []⟩),
         (1, ⟨some 5, .mv (.t 10), none, [], [10]⟩)])
       (.seq
        (.reg false [
          (0, ⟨some 11, .mv (.t 1), none, [], []⟩),
          (1, ⟨some 12, .mv (.t 0), none, [], []⟩),
          (2, ⟨some 13, .mv (.t 5), none, [], []⟩),
          (3, ⟨some 14, .ia 1 (.t 12) (.t 13), none, [], []⟩),
          (4, ⟨some 15, .ld 1 false (.t 14), none, [], [12, 13, 14]⟩),
          (5, ⟨some 16, .bin .eql (.t 11) (.t 15), none, [], [11, 15]⟩)])
        (.cond (.t 16)
         (.seq
          (.kill [0, 1, 7, 8, 16])
          (.seq
           (.reg false [
             (0, ⟨some 17, .mv (.t 5), none, [], [5]⟩),
             (1, ⟨some 4, .mv (.t 17), none, [], [17]⟩)])
           .ret))
         (.seq
          (.kill [5, 16])
          .skip)))))
     (.reg false [
       (0, ⟨some 18, .bin .add (.t 8) (.c (.int .i64 (1))), none, [], [8]⟩),
       (1, ⟨some 8, .mv (.t 18), none, [], [18]⟩)]))))
def B83 : CCode :=
  (.seq
   (.reg false [
     (0, ⟨some 4, .mv (.c (.int .i64 (0))), none, [], [4]⟩)])
   (.seq
    (.seq
     (.reg false [
       (0, ⟨some 6, .mv (.t 0), none, [], []⟩),
       (1, ⟨some 7, .len (.t 6), none, [], [6]⟩),
       (2, ⟨some 8, .mv (.c (.int .i64 (0))), none, [], []⟩)])
     (.block 0
      (.loop L83_0)))
    (.seq
     (.reg false [
       (0, ⟨some 4, .mv (.c (.int .i64 (-1))), none, [], []⟩)])
     .ret)))
def C83 : CFn := ⟨19, 2, [.t 4], B83⟩

theorem chk9 : chkFn Go.Proofs.Try.prog 9 C9 = true := by kernel_rfl
theorem chk16 : chkFn Go.Proofs.Try.prog 16 C16 = true := by kernel_rfl
theorem chk18 : chkFn Go.Proofs.Try.prog 18 C18 = true := by kernel_rfl
theorem chk26 : chkFn Go.Proofs.Try.prog 26 C26 = true := by kernel_rfl
theorem chk28 : chkFn Go.Proofs.Try.prog 28 C28 = true := by kernel_rfl
theorem chk30 : chkFn Go.Proofs.Try.prog 30 C30 = true := by kernel_rfl
theorem chk31 : chkFn Go.Proofs.Try.prog 31 C31 = true := by kernel_rfl
theorem chk32 : chkFn Go.Proofs.Try.prog 32 C32 = true := by kernel_rfl
theorem chk33 : chkFn Go.Proofs.Try.prog 33 C33 = true := by kernel_rfl
theorem chk34 : chkFn Go.Proofs.Try.prog 34 C34 = true := by kernel_rfl
theorem chk39 : chkFn Go.Proofs.Try.prog 39 C39 = true := by kernel_rfl
theorem chk40 : chkFn Go.Proofs.Try.prog 40 C40 = true := by kernel_rfl
theorem chk51 : chkFn Go.Proofs.Try.prog 51 C51 = true := by kernel_rfl
theorem chk53 : chkFn Go.Proofs.Try.prog 53 C53 = true := by kernel_rfl
theorem chk56 : chkFn Go.Proofs.Try.prog 56 C56 = true := by kernel_rfl
theorem chk57 : chkFn Go.Proofs.Try.prog 57 C57 = true := by kernel_rfl
theorem chk58 : chkFn Go.Proofs.Try.prog 58 C58 = true := by kernel_rfl
theorem chk59 : chkFn Go.Proofs.Try.prog 59 C59 = true := by kernel_rfl
theorem chk60 : chkFn Go.Proofs.Try.prog 60 C60 = true := by kernel_rfl
theorem chk61 : chkFn Go.Proofs.Try.prog 61 C61 = true := by kernel_rfl
theorem chk62 : chkFn Go.Proofs.Try.prog 62 C62 = true := by kernel_rfl
theorem chk63 : chkFn Go.Proofs.Try.prog 63 C63 = true := by kernel_rfl
theorem chk71 : chkFn Go.Proofs.Try.prog 71 C71 = true := by kernel_rfl
theorem chk73 : chkFn Go.Proofs.Try.prog 73 C73 = true := by kernel_rfl
theorem chk74 : chkFn Go.Proofs.Try.prog 74 C74 = true := by kernel_rfl
theorem chk75 : chkFn Go.Proofs.Try.prog 75 C75 = true := by kernel_rfl
theorem chk76 : chkFn Go.Proofs.Try.prog 76 C76 = true := by kernel_rfl
theorem chk83 : chkFn Go.Proofs.Try.prog 83 C83 = true := by kernel_rfl
def Tab (f : Nat) : Option CFn :=
  match f with
  | 9 => some C9
  | 16 => some C16
  | 18 => some C18
  | 26 => some C26
  | 28 => some C28
  | 30 => some C30
  | 31 => some C31
  | 32 => some C32
  | 33 => some C33
  | 34 => some C34
  | 39 => some C39
  | 40 => some C40
  | 51 => some C51
  | 53 => some C53
  | 56 => some C56
  | 57 => some C57
  | 58 => some C58
  | 59 => some C59
  | 60 => some C60
  | 61 => some C61
  | 62 => some C62
  | 63 => some C63
  | 71 => some C71
  | 73 => some C73
  | 74 => some C74
  | 75 => some C75
  | 76 => some C76
  | 83 => some C83
  | _ => none
theorem tabOk : TabOk Go.Proofs.Try.prog Tab := by
  intro f cf h
  unfold Tab at h
  split at h <;> simp only [Option.some.injEq, reduceCtorEq] at h <;> subst h
  · exact chk9
  · exact chk16
  · exact chk18
  · exact chk26
  · exact chk28
  · exact chk30
  · exact chk31
  · exact chk32
  · exact chk33
  · exact chk34
  · exact chk39
  · exact chk40
  · exact chk51
  · exact chk53
  · exact chk56
  · exact chk57
  · exact chk58
  · exact chk59
  · exact chk60
  · exact chk61
  · exact chk62
  · exact chk63
  · exact chk71
  · exact chk73
  · exact chk74
  · exact chk75
  · exact chk76
  · exact chk83

end Go.Proofs.YthfbkecnnllpkaaH
