/- The program's functions, for the abstract machine: printed by gen.py. -/
import Derived.Test.YthfbkecnnllpkaaHm28
import Derived.Test.YthfbkecnnllpkaaProg
set_option linter.unusedVariables false
set_option maxRecDepth 100000
namespace Go.Proofs.YthfbkecnnllpkaaH
open Go
/-- laws.FnExactIsCovered -/
def B5 : CCode :=
  (.seq
   (.reg false [
     (0, ⟨some 4, .mv (.c (.bool false)), none, [], [4]⟩)])
   (.seq
    (.seq
     (.reg false [
       (0, ⟨some 10, .mv (.t 1), none, [], []⟩),
       (1, ⟨some 11, .len (.t 10), none, [], [10]⟩),
       (2, ⟨some 12, .bin .gtr (.t 11) (.c (.int .i64 (1048576))), none, [], [11]⟩)])
     (.cond (.t 12)
      (.seq
       (.kill [0, 1, 12])
       (.seq
        (.reg false [
          (0, ⟨some 4, .mv (.c (.bool true)), none, [], []⟩)])
        .ret))
      (.seq
       (.kill [12])
       .skip)))
    (.seq
     (.reg false [
       (0, ⟨some 5, .mv (.c (.int .i64 (1048576))), none, [], []⟩)])
     (.seq
      (.reg false [
        (0, ⟨some 13, .mv (.t 0), none, [], []⟩),
        (1, ⟨some 14, .mv (.t 5), none, [], [5]⟩),
        (2, ⟨some 15, .call 26 [(.t 13), (.t 14)], none, [], [13, 14]⟩),
        (3, ⟨some 5, .mv (.t 15), none, [], [15]⟩)])
      (.seq
       (.seq
        (.reg false [
          (0, ⟨some 16, .mv (.t 5), none, [], [5]⟩),
          (1, ⟨some 17, .bin .lss (.t 16) (.c (.int .i64 (0))), none, [], [16]⟩)])
        (.cond (.t 17)
         (.seq
          (.kill [0, 1, 17])
          (.seq
           (.reg false [
             (0, ⟨some 4, .mv (.c (.bool true)), none, [], []⟩)])
           .ret))
         (.seq
          (.kill [17])
          .skip)))
       (.seq
        (.reg false [
          (0, ⟨some 18, .mv (.t 0), none, [], []⟩),
          (1, ⟨some 19, .call 28 [(.t 18)], none, [], [18]⟩),
          (2, ⟨some 20, .mv (.t 1), none, [], []⟩),
          (3, ⟨some 21, .call 16 [(.t 20)], none, [], [20]⟩),
          (4, ⟨some 22, .call 27 [(.t 19), (.t 21)], none, [], [19, 21]⟩),
          (5, ⟨some 6, .mv (.t 22), none, [], [22]⟩)])
        (.seq
         (.reg false [
           (0, ⟨some 23, .mv (.t 0), none, [], []⟩),
           (1, ⟨some 24, .call 28 [(.t 23)], none, [], [23]⟩),
           (2, ⟨some 7, .mv (.t 24), none, [], [24]⟩)])
         (.seq
          (.reg false [
            (0, ⟨some 25, .mv (.t 1), none, [], []⟩),
            (1, ⟨some 26, .call 16 [(.t 25)], none, [], [25]⟩),
            (2, ⟨some 8, .mv (.t 26), none, [], [26]⟩)])
          (.seq
           (.reg false [
             (0, ⟨some 27, .mv (.t 7), none, [], []⟩),
             (1, ⟨some 28, .mv (.t 8), none, [], []⟩),
             (2, ⟨some 29, .call 29 [(.t 27), (.t 28)], none, [], [27, 28]⟩),
             (3, ⟨some 9, .mv (.t 29), none, [], [29]⟩)])
           (.seq
            (.seq
             (.reg false [
               (0, ⟨some 30, .mv (.t 9), none, [], [9]⟩),
               (1, ⟨some 31, .mv (.t 6), none, [], [6]⟩),
               (2, ⟨some 32, .beq true (.t 30) (.t 31), none, [], [30, 31]⟩)])
             (.cond (.t 32)
              (.seq
               (.kill [0, 1, 7, 8, 32])
               (.seq
                (.reg false [
                  (0, ⟨some 4, .mv (.c (.bool false)), none, [], []⟩)])
                .ret))
              (.seq
               (.kill [32])
               .skip)))
            (.seq
             (.seq
              (.reg false [
                (0, ⟨some 33, .mv (.t 7), none, [], [7]⟩),
                (1, ⟨some 34, .mv (.t 0), none, [], [0]⟩),
                (2, ⟨some 35, .call 28 [(.t 34)], none, [], [34]⟩),
                (3, ⟨some 36, .call 30 [(.t 33), (.t 35)], none, [], [33, 35]⟩),
                (4, ⟨some 37, .not (.t 36), none, [], [36]⟩)])
              (.cond (.t 37)
               (.seq
                (.kill [1, 8, 37])
                (.seq
                 (.reg false [
                   (0, ⟨some 4, .mv (.c (.bool false)), none, [], []⟩)])
                 .ret))
               (.seq
                (.kill [37])
                .skip)))
             (.seq
              (.seq
               (.reg false [
                 (0, ⟨some 38, .mv (.t 8), none, [], [8]⟩),
                 (1, ⟨some 39, .mv (.t 1), none, [], [1]⟩),
                 (2, ⟨some 40, .call 16 [(.t 39)], none, [], [39]⟩),
                 (3, ⟨some 41, .call 18 [(.t 38), (.t 40)], none, [], [38, 40]⟩),
                 (4, ⟨some 42, .not (.t 41), none, [], [41]⟩)])
               (.cond (.t 42)
                (.seq
                 (.kill [42])
                 (.seq
                  (.reg false [
                    (0, ⟨some 4, .mv (.c (.bool false)), none, [], []⟩)])
                  .ret))
                (.seq
                 (.kill [42])
                 .skip)))
              (.seq
               (.reg false [
                 (0, ⟨some 4, .mv (.c (.bool true)), none, [], []⟩)])
               .ret)))))))))))))
def C5 : CFn := ⟨43, 2, [.t 4], B5⟩

/-- laws.toIntS -/
def L16_0 : CCode :=
  (.seq
   (.seq
    (.reg false [
      (0, ⟨some 8, .mv (.t 4), none, [], []⟩),
      (1, ⟨some 9, .mv (.t 0), none, [], []⟩),
      (2, ⟨some 10, .len (.t 9), none, [], [9]⟩),
      (3, ⟨some 11, .bin .lss (.t 8) (.t 10), none, [], [8, 10]⟩)])
    (.cond (.t 11)
     (.seq
      (.kill [11])
      .skip)
     (.seq
      (.kill [0, 4, 11])
      (.exit 0))))
   (.seq
    (.block 1
     (.reg false [
       (0, ⟨some 14, .mv (.t 3), none, [], []⟩),
       (1, ⟨some 15, .mv (.t 4), none, [], []⟩),
       (2, ⟨some 16, .mv (.t 0), none, [], []⟩),
       (3, ⟨some 17, .mv (.t 4), none, [], []⟩),
       (4, ⟨some 18, .ia 1 (.t 16) (.t 17), none, [], []⟩),
       (5, ⟨some 19, .ld 1 false (.t 18), none, [], [16, 17, 18]⟩),
       (6, ⟨some 20, .ia 1 (.t 14) (.t 15), none, [], []⟩),
       (7, ⟨none, .st 1 (.t 20) (.t 19), none, [], [14, 15, 19, 20]⟩)]))
    (.reg false [
      (0, ⟨some 12, .mv (.t 4), none, [], [4]⟩),
      (1, ⟨some 13, .bin .add (.t 12) (.c (.int .i64 (1))), none, [], [12]⟩),
      (2, ⟨some 4, .mv (.t 13), none, [], [13]⟩)])))
def B16 : CCode :=
  (.seq
   (.reg false [
     (0, ⟨some 2, .mv (.c (.nils)), none, [], [2]⟩)])
   (.seq
    (.reg false [
      (0, ⟨some 5, .mv (.t 0), none, [], []⟩),
      (1, ⟨some 6, .len (.t 5), none, [], [5]⟩),
      (2, ⟨some 7, .mk 1 8 [.int .i64 (0)] (.t 6) (.t 6), none, [], [6]⟩),
      (3, ⟨some 3, .mv (.t 7), none, [], [7]⟩)])
    (.seq
     (.seq
      (.reg false [
        (0, ⟨some 4, .mv (.c (.int .i64 (0))), none, [], []⟩)])
      (.block 0
       (.loop L16_0)))
     (.seq
      (.reg false [
        (0, ⟨some 21, .mv (.t 3), none, [], [3]⟩),
        (1, ⟨some 2, .mv (.t 21), none, [], [21]⟩)])
      .ret))))
def C16 : CFn := ⟨22, 1, [.t 2], B16⟩

/-- laws.eqIntS -/
def L18_0 : CCode :=
  (.seq
   (.seq
    (.reg false [
      (0, ⟨some 11, .mv (.t 5), none, [], []⟩),
      (1, ⟨some 12, .mv (.t 0), none, [], []⟩),
      (2, ⟨some 13, .len (.t 12), none, [], [12]⟩),
      (3, ⟨some 14, .bin .lss (.t 11) (.t 13), none, [], [11, 13]⟩)])
    (.cond (.t 14)
     (.seq
      (.kill [14])
      .skip)
     (.seq
      (.kill [0, 1, 5, 14])
      (.exit 0))))
   (.seq
    (.block 1
     (.seq
      (.reg true [
        (0, ⟨some 17, .mv (.t 0), none, [], []⟩),
        (1, ⟨some 18, .mv (.t 5), none, [], []⟩),
        (2, ⟨some 19, .ia 1 (.t 17) (.t 18), none, [], []⟩),
        (3, ⟨some 20, .ld 1 false (.t 19), none, [], [17, 18, 19]⟩),
        (4, ⟨some 21, .mv (.t 1), none, [], []⟩),
        (5, ⟨some 22, .mv (.t 5), none, [], []⟩),
        (6, ⟨some 23, .ia 1 (.t 21) (.t 22), none, [], []⟩),
        (7, ⟨some 24, .ld 1 false (.t 23), none, [], [21, 22, 23]⟩),
        (8, ⟨some 25, .bin .neq (.t 20) (.t 24), none, [], [20, 24]⟩)])
      (.cond (.t 25)
       (.seq
        (.kill [0, 1, 5, 25])
        (.seq
         (.reg false [
           (0, ⟨some 4, .mv (.c (.bool false)), none, [], []⟩)])
         .ret))
       (.seq
        (.kill [25])
        .skip))))
    (.reg false [
      (0, ⟨some 15, .mv (.t 5), none, [], [5]⟩),
      (1, ⟨some 16, .bin .add (.t 15) (.c (.int .i64 (1))), none, [], [15]⟩),
      (2, ⟨some 5, .mv (.t 16), none, [], [16]⟩)])))
def B18 : CCode :=
  (.seq
   (.reg false [
     (0, ⟨some 4, .mv (.c (.bool false)), none, [], [4]⟩)])
   (.seq
    (.seq
     (.reg false [
       (0, ⟨some 6, .mv (.t 0), none, [], []⟩),
       (1, ⟨some 7, .len (.t 6), none, [], [6]⟩),
       (2, ⟨some 8, .mv (.t 1), none, [], []⟩),
       (3, ⟨some 9, .len (.t 8), none, [], [8]⟩),
       (4, ⟨some 10, .bin .neq (.t 7) (.t 9), none, [], [7, 9]⟩)])
     (.cond (.t 10)
      (.seq
       (.kill [0, 1, 10])
       (.seq
        (.reg false [
          (0, ⟨some 4, .mv (.c (.bool false)), none, [], []⟩)])
        .ret))
      (.seq
       (.kill [10])
       .skip)))
    (.seq
     (.seq
      (.reg false [
        (0, ⟨some 5, .mv (.c (.int .i64 (0))), none, [], []⟩)])
      (.block 0
       (.loop L18_0)))
     (.seq
      (.reg false [
        (0, ⟨some 4, .mv (.c (.bool true)), none, [], []⟩)])
      .ret))))
def C18 : CFn := ⟨26, 2, [.t 4], B18⟩

/-- laws.szIntSS -/
def L26_0 : CCode :=
  (.seq
   (.seq
    (.reg false [
      (0, ⟨some 12, .mv (.t 5), none, [], []⟩),
      (1, ⟨some 13, .mv (.t 0), none, [], []⟩),
      (2, ⟨some 14, .len (.t 13), none, [], [13]⟩),
      (3, ⟨some 15, .bin .lss (.t 12) (.t 14), none, [], [12, 14]⟩)])
    (.cond (.t 15)
     (.seq
      (.kill [15])
      .skip)
     (.seq
      (.kill [0, 5, 15])
      (.exit 0))))
   (.seq
    (.block 1
     (.seq
      (.reg false [
        (0, ⟨some 18, .mv (.t 0), none, [], []⟩),
        (1, ⟨some 19, .mv (.t 5), none, [], []⟩),
        (2, ⟨some 20, .ia 1 (.t 18) (.t 19), none, [], []⟩),
        (3, ⟨some 21, .ld 1 false (.t 20), none, [], [20]⟩),
        (4, ⟨some 22, .mv (.t 1), none, [], [1]⟩),
        (5, ⟨some 23, .call 51 [(.t 21), (.t 22)], none, [], [18, 19, 21, 22]⟩),
        (6, ⟨some 1, .mv (.t 23), none, [], [23]⟩)])
      (.seq
       (.reg false [
         (0, ⟨some 24, .mv (.t 1), none, [], []⟩),
         (1, ⟨some 25, .bin .lss (.t 24) (.c (.int .i64 (0))), none, [], [24]⟩)])
       (.cond (.t 25)
        (.seq
         (.kill [0, 1, 5, 25])
         (.seq
          (.reg false [
            (0, ⟨some 4, .mv (.c (.int .i64 (-1))), none, [], []⟩)])
          .ret))
        (.seq
         (.kill [25])
         .skip)))))
    (.reg false [
      (0, ⟨some 16, .mv (.t 5), none, [], [5]⟩),
      (1, ⟨some 17, .bin .add (.t 16) (.c (.int .i64 (1))), none, [], [16]⟩),
      (2, ⟨some 5, .mv (.t 17), none, [], [17]⟩)])))
def B26 : CCode :=
  (.seq
   (.reg false [
     (0, ⟨some 4, .mv (.c (.int .i64 (0))), none, [], [4]⟩)])
   (.seq
    (.reg false [
      (0, ⟨some 6, .mv (.t 1), none, [], [1]⟩),
      (1, ⟨some 7, .mv (.t 0), none, [], []⟩),
      (2, ⟨some 8, .len (.t 7), none, [], [7]⟩),
      (3, ⟨some 9, .bin .sub (.t 6) (.t 8), none, [], [6, 8]⟩),
      (4, ⟨some 1, .mv (.t 9), none, [], [9]⟩)])
    (.seq
     (.seq
      (.reg false [
        (0, ⟨some 10, .mv (.t 1), none, [], []⟩),
        (1, ⟨some 11, .bin .lss (.t 10) (.c (.int .i64 (0))), none, [], [10]⟩)])
      (.cond (.t 11)
       (.seq
        (.kill [0, 1, 11])
        (.seq
         (.reg false [
           (0, ⟨some 4, .mv (.c (.int .i64 (-1))), none, [], []⟩)])
         .ret))
       (.seq
        (.kill [11])
        .skip)))
     (.seq
      (.seq
       (.reg false [
         (0, ⟨some 5, .mv (.c (.int .i64 (0))), none, [], []⟩)])
       (.block 0
        (.loop L26_0)))
      (.seq
       (.reg false [
         (0, ⟨some 26, .mv (.t 1), none, [], [1]⟩),
         (1, ⟨some 4, .mv (.t 26), none, [], [26]⟩)])
       .ret)))))
def C26 : CFn := ⟨27, 2, [.t 4], B26⟩

/-- spec.IsCovered -/
def B27 : CCode :=
  (.seq
   (.reg false [
     (0, ⟨some 4, .mv (.c (.bool false)), none, [], [4]⟩)])
   (.seq
    (.reg false [
      (0, ⟨some 5, .mv (.t 0), none, [], [0]⟩),
      (1, ⟨some 6, .mv (.t 1), none, [], [1]⟩),
      (2, ⟨some 7, .call 52 [(.t 5), (.t 6)], none, [], [5, 6]⟩),
      (3, ⟨some 4, .mv (.t 7), none, [], [7]⟩)])
    .ret))
def C27 : CFn := ⟨8, 2, [.t 4], B27⟩

/-- laws.toIntSS -/
def L28_0 : CCode :=
  (.seq
   (.seq
    (.reg false [
      (0, ⟨some 8, .mv (.t 4), none, [], []⟩),
      (1, ⟨some 9, .mv (.t 0), none, [], []⟩),
      (2, ⟨some 10, .len (.t 9), none, [], [9]⟩),
      (3, ⟨some 11, .bin .lss (.t 8) (.t 10), none, [], [8, 10]⟩)])
    (.cond (.t 11)
     (.seq
      (.kill [11])
      .skip)
     (.seq
      (.kill [0, 4, 11])
      (.exit 0))))
   (.seq
    (.block 1
     (.reg false [
       (0, ⟨some 14, .mv (.t 3), none, [], []⟩),
       (1, ⟨some 15, .mv (.t 4), none, [], []⟩),
       (2, ⟨some 16, .mv (.t 0), none, [], []⟩),
       (3, ⟨some 17, .mv (.t 4), none, [], []⟩),
       (4, ⟨some 18, .ia 1 (.t 16) (.t 17), none, [], []⟩),
       (5, ⟨some 19, .ld 1 false (.t 18), none, [], [18]⟩),
       (6, ⟨some 20, .call 16 [(.t 19)], none, [], [16, 17, 19]⟩),
       (7, ⟨some 21, .ia 1 (.t 14) (.t 15), none, [], []⟩),
       (8, ⟨none, .st 1 (.t 21) (.t 20), none, [], [14, 15, 20, 21]⟩)]))
    (.reg false [
      (0, ⟨some 12, .mv (.t 4), none, [], [4]⟩),
      (1, ⟨some 13, .bin .add (.t 12) (.c (.int .i64 (1))), none, [], [12]⟩),
      (2, ⟨some 4, .mv (.t 13), none, [], [13]⟩)])))
def B28 : CCode :=
  (.seq
   (.reg false [
     (0, ⟨some 2, .mv (.c (.nils)), none, [], [2]⟩)])
   (.seq
    (.reg false [
      (0, ⟨some 5, .mv (.t 0), none, [], []⟩),
      (1, ⟨some 6, .len (.t 5), none, [], [5]⟩),
      (2, ⟨some 7, .mk 1 24 [.nils] (.t 6) (.t 6), none, [], [6]⟩),
      (3, ⟨some 3, .mv (.t 7), none, [], [7]⟩)])
    (.seq
     (.seq
      (.reg false [
        (0, ⟨some 4, .mv (.c (.int .i64 (0))), none, [], []⟩)])
      (.block 0
       (.loop L28_0)))
     (.seq
      (.reg false [
        (0, ⟨some 22, .mv (.t 3), none, [], [3]⟩),
        (1, ⟨some 2, .mv (.t 22), none, [], [22]⟩)])
      .ret))))
def C28 : CFn := ⟨23, 1, [.t 2], B28⟩

/-- impl.IsCovered -/
def B29 : CCode :=
  (.seq
   (.reg false [
     (0, ⟨some 3, .box 1 (.t 1), none, [], [1]⟩),
     (1, ⟨some 4, .mv (.c (.bool false)), none, [], [4]⟩)])
   (.seq
    (.reg false [
      (0, ⟨some 5, .mv (.t 0), none, [], [0]⟩),
      (1, ⟨some 6, .fn 54 [(.t 3)], none, [], []⟩),
      (2, ⟨some 7, .call 53 [(.t 5), (.t 6)], none, [], [3, 5, 6]⟩),
      (3, ⟨some 4, .mv (.t 7), none, [], [7]⟩)])
    .ret))
def C29 : CFn := ⟨8, 2, [.t 4], B29⟩

/-- laws.eqIntSS -/
def L30_0 : CCode :=
  (.seq
   (.seq
    (.reg false [
      (0, ⟨some 11, .mv (.t 5), none, [], []⟩),
      (1, ⟨some 12, .mv (.t 0), none, [], []⟩),
      (2, ⟨some 13, .len (.t 12), none, [], [12]⟩),
      (3, ⟨some 14, .bin .lss (.t 11) (.t 13), none, [], [11, 13]⟩)])
    (.cond (.t 14)
     (.seq
      (.kill [14])
      .skip)
     (.seq
      (.kill [0, 1, 5, 14])
      (.exit 0))))
   (.seq
    (.block 1
     (.seq
      (.reg true [
        (0, ⟨some 17, .mv (.t 0), none, [], []⟩),
        (1, ⟨some 18, .mv (.t 5), none, [], []⟩),
        (2, ⟨some 19, .ia 1 (.t 17) (.t 18), none, [], []⟩),
        (3, ⟨some 20, .ld 1 false (.t 19), none, [], [19]⟩),
        (4, ⟨some 21, .mv (.t 1), none, [], []⟩),
        (5, ⟨some 22, .mv (.t 5), none, [], []⟩),
        (6, ⟨some 23, .ia 1 (.t 21) (.t 22), none, [], []⟩),
        (7, ⟨some 24, .ld 1 false (.t 23), none, [], [23]⟩),
        (8, ⟨some 25, .call 18 [(.t 20), (.t 24)], none, [], [17, 18, 20, 21, 22, 24]⟩),
        (9, ⟨some 26, .not (.t 25), none, [], [25]⟩)])
      (.cond (.t 26)
       (.seq
        (.kill [0, 1, 5, 26])
        (.seq
         (.reg false [
           (0, ⟨some 4, .mv (.c (.bool false)), none, [], []⟩)])
         .ret))
       (.seq
        (.kill [26])
        .skip))))
    (.reg false [
      (0, ⟨some 15, .mv (.t 5), none, [], [5]⟩),
      (1, ⟨some 16, .bin .add (.t 15) (.c (.int .i64 (1))), none, [], [15]⟩),
      (2, ⟨some 5, .mv (.t 16), none, [], [16]⟩)])))
def B30 : CCode :=
  (.seq
   (.reg false [
     (0, ⟨some 4, .mv (.c (.bool false)), none, [], [4]⟩)])
   (.seq
    (.seq
     (.reg false [
       (0, ⟨some 6, .mv (.t 0), none, [], []⟩),
       (1, ⟨some 7, .len (.t 6), none, [], [6]⟩),
       (2, ⟨some 8, .mv (.t 1), none, [], []⟩),
       (3, ⟨some 9, .len (.t 8), none, [], [8]⟩),
       (4, ⟨some 10, .bin .neq (.t 7) (.t 9), none, [], [7, 9]⟩)])
     (.cond (.t 10)
      (.seq
       (.kill [0, 1, 10])
       (.seq
        (.reg false [
          (0, ⟨some 4, .mv (.c (.bool false)), none, [], []⟩)])
        .ret))
      (.seq
       (.kill [10])
       .skip)))
    (.seq
     (.seq
      (.reg false [
        (0, ⟨some 5, .mv (.c (.int .i64 (0))), none, [], []⟩)])
      (.block 0
       (.loop L30_0)))
     (.seq
      (.reg false [
        (0, ⟨some 4, .mv (.c (.bool true)), none, [], []⟩)])
      .ret))))
def C30 : CFn := ⟨27, 2, [.t 4], B30⟩

/-- laws.szIntS -/
def B51 : CCode :=
  (.seq
   (.reg false [
     (0, ⟨some 4, .mv (.c (.int .i64 (0))), none, [], [4]⟩)])
   (.seq
    (.reg false [
      (0, ⟨some 5, .mv (.t 1), none, [], [1]⟩),
      (1, ⟨some 6, .mv (.t 0), none, [], [0]⟩),
      (2, ⟨some 7, .len (.t 6), none, [], [6]⟩),
      (3, ⟨some 8, .bin .sub (.t 5) (.t 7), none, [], [5, 7]⟩),
      (4, ⟨some 1, .mv (.t 8), none, [], [8]⟩)])
    (.seq
     (.seq
      (.reg false [
        (0, ⟨some 9, .mv (.t 1), none, [], []⟩),
        (1, ⟨some 10, .bin .lss (.t 9) (.c (.int .i64 (0))), none, [], [9]⟩)])
      (.cond (.t 10)
       (.seq
        (.kill [1, 10])
        (.seq
         (.reg false [
           (0, ⟨some 4, .mv (.c (.int .i64 (-1))), none, [], []⟩)])
         .ret))
       (.seq
        (.kill [10])
        .skip)))
     (.seq
      (.reg false [
        (0, ⟨some 11, .mv (.t 1), none, [], [1]⟩),
        (1, ⟨some 4, .mv (.t 11), none, [], [11]⟩)])
      .ret))))
def C51 : CFn := ⟨12, 2, [.t 4], B51⟩

/-- spec.l13Met -/
def L52_1 : CCode :=
  (.seq
   (.seq
    (.reg false [
      (0, ⟨some 14, .mv (.t 7), none, [], []⟩),
      (1, ⟨some 15, .mv (.t 0), none, [], []⟩),
      (2, ⟨some 16, .mv (.t 5), none, [], []⟩),
      (3, ⟨some 17, .ia 1 (.t 15) (.t 16), none, [], []⟩),
      (4, ⟨some 18, .ld 1 false (.t 17), none, [], [17]⟩),
      (5, ⟨some 19, .len (.t 18), none, [], [15, 16, 18]⟩),
      (6, ⟨some 20, .bin .lss (.t 14) (.t 19), none, [], [14, 19]⟩)])
    (.cond (.t 20)
     (.seq
      (.kill [20])
      .skip)
     (.seq
      (.kill [7, 20])
      (.exit 2))))
   (.seq
    (.block 3
     (.reg false [
       (0, ⟨some 23, .mv (.t 6), none, [], [6]⟩),
       (1, ⟨some 24, .mv (.t 23), none, [], [23]⟩),
       (2, ⟨some 25, .mv (.t 1), some (24, true), [], []⟩),
       (3, ⟨some 26, .mv (.t 0), some (24, true), [], []⟩),
       (4, ⟨some 27, .mv (.t 5), some (24, true), [], []⟩),
       (5, ⟨some 28, .ia 1 (.t 26) (.t 27), some (24, true), [], []⟩),
       (6, ⟨some 29, .ld 1 false (.t 28), some (24, true), [], [28]⟩),
       (7, ⟨some 30, .mv (.t 7), some (24, true), [], []⟩),
       (8, ⟨some 31, .ia 1 (.t 29) (.t 30), some (24, true), [], [29]⟩),
       (9, ⟨some 32, .ld 1 false (.t 31), some (24, true), [], [26, 27, 30, 31]⟩),
       (10, ⟨some 33, .call 70 [(.t 25), (.t 32)], some (24, true), [], [25, 32]⟩),
       (11, ⟨some 34, .pick (.t 24) (.t 33) (.c (.bool false)), none, [], [24, 33]⟩),
       (12, ⟨some 6, .mv (.t 34), none, [], [34]⟩)]))
    (.reg false [
      (0, ⟨some 21, .mv (.t 7), none, [], [7]⟩),
      (1, ⟨some 22, .bin .add (.t 21) (.c (.int .i64 (1))), none, [], [21]⟩),
      (2, ⟨some 7, .mv (.t 22), none, [], [22]⟩)])))
def L52_0 : CCode :=
  (.seq
   (.seq
    (.reg false [
      (0, ⟨some 8, .mv (.t 5), none, [], []⟩),
      (1, ⟨some 9, .mv (.t 0), none, [], []⟩),
      (2, ⟨some 10, .len (.t 9), none, [], [9]⟩),
      (3, ⟨some 11, .bin .lss (.t 8) (.t 10), none, [], [8, 10]⟩)])
    (.cond (.t 11)
     (.seq
      (.kill [11])
      .skip)
     (.seq
      (.kill [0, 1, 5, 11])
      (.exit 0))))
   (.seq
    (.block 1
     (.seq
      (.reg false [
        (0, ⟨some 6, .mv (.c (.bool true)), none, [], []⟩)])
      (.seq
       (.seq
        (.reg false [
          (0, ⟨some 7, .mv (.c (.int .i64 (0))), none, [], []⟩)])
        (.block 2
         (.loop L52_1)))
       (.seq
        (.reg false [
          (0, ⟨some 35, .mv (.t 6), none, [], [6]⟩)])
        (.cond (.t 35)
         (.seq
          (.kill [0, 1, 5, 35])
          (.seq
           (.reg false [
             (0, ⟨some 4, .mv (.c (.bool true)), none, [], []⟩)])
           .ret))
         (.seq
          (.kill [35])
          .skip))))))
    (.reg false [
      (0, ⟨some 12, .mv (.t 5), none, [], [5]⟩),
      (1, ⟨some 13, .bin .add (.t 12) (.c (.int .i64 (1))), none, [], [12]⟩),
      (2, ⟨some 5, .mv (.t 13), none, [], [13]⟩)])))
def B52 : CCode :=
  (.seq
   (.reg false [
     (0, ⟨some 4, .mv (.c (.bool false)), none, [], [4]⟩)])
   (.seq
    (.seq
     (.reg false [
       (0, ⟨some 5, .mv (.c (.int .i64 (0))), none, [], []⟩)])
     (.block 0
      (.loop L52_0)))
    (.seq
     (.reg false [
       (0, ⟨some 4, .mv (.c (.bool false)), none, [], []⟩)])
     .ret)))
def C52 : CFn := ⟨36, 2, [.t 4], B52⟩

/-- slices.ContainsFunc[[][]int,[]int] -/
def B53 : CCode :=
  (.seq
   (.reg false [
     (0, ⟨some 4, .mv (.c (.bool false)), none, [], [4]⟩)])
   (.seq
    (.reg false [
      (0, ⟨some 5, .mv (.t 0), none, [], [0]⟩),
      (1, ⟨some 6, .mv (.t 1), none, [], [1]⟩),
      (2, ⟨some 7, .call 71 [(.t 5), (.t 6)], none, [], [5, 6]⟩),
      (3, ⟨some 8, .bin .geq (.t 7) (.c (.int .i64 (0))), none, [], [7]⟩),
      (4, ⟨some 4, .mv (.t 8), none, [], [8]⟩)])
    .ret))
def C53 : CFn := ⟨9, 2, [.t 4], B53⟩

/-- impl.IsCovered$1 -/
def B54 : CCode :=
  (.seq
   (.reg false [
     (0, ⟨some 3, .mv (.c (.bool false)), none, [], [3]⟩)])
   (.seq
    (.reg false [
      (0, ⟨some 4, .mv (.t 0), none, [], [0]⟩),
      (1, ⟨some 5, .ld 1 false (.t 1), none, [], []⟩),
      (2, ⟨some 6, .call 55 [(.t 4), (.t 5)], none, [], [1, 4, 5]⟩),
      (3, ⟨some 3, .mv (.t 6), none, [], [6]⟩)])
    .ret))
def C54 : CFn := ⟨7, 2, [.t 3], B54⟩

/-- impl.isSubset -/
def B55 : CCode :=
  (.seq
   (.reg false [
     (0, ⟨some 3, .box 1 (.t 1), none, [], [1]⟩),
     (1, ⟨some 4, .mv (.c (.bool false)), none, [], [4]⟩)])
   (.seq
    (.reg false [
      (0, ⟨some 5, .mv (.t 0), none, [], [0]⟩),
      (1, ⟨some 6, .fn 72 [(.t 3)], none, [], []⟩),
      (2, ⟨some 7, .call 57 [(.t 5), (.t 6)], none, [], [3, 5, 6]⟩),
      (3, ⟨some 8, .not (.t 7), none, [], [7]⟩),
      (4, ⟨some 4, .mv (.t 8), none, [], [8]⟩)])
    .ret))
def C55 : CFn := ⟨9, 2, [.t 4], B55⟩

/-- slices.ContainsFunc[[]int,int] -/
def B57 : CCode :=
  (.seq
   (.reg false [
     (0, ⟨some 4, .mv (.c (.bool false)), none, [], [4]⟩)])
   (.seq
    (.reg false [
      (0, ⟨some 5, .mv (.t 0), none, [], [0]⟩),
      (1, ⟨some 6, .mv (.t 1), none, [], [1]⟩),
      (2, ⟨some 7, .call 74 [(.t 5), (.t 6)], none, [], [5, 6]⟩),
      (3, ⟨some 8, .bin .geq (.t 7) (.c (.int .i64 (0))), none, [], [7]⟩),
      (4, ⟨some 4, .mv (.t 8), none, [], [8]⟩)])
    .ret))
def C57 : CFn := ⟨9, 2, [.t 4], B57⟩

/-- spec.l7Has -/
def L70_0 : CCode :=
  (.seq
   (.seq
    (.reg false [
      (0, ⟨some 6, .mv (.t 5), none, [], []⟩),
      (1, ⟨some 7, .mv (.t 0), none, [], []⟩),
      (2, ⟨some 8, .len (.t 7), none, [], [7]⟩),
      (3, ⟨some 9, .bin .lss (.t 6) (.t 8), none, [], [6, 8]⟩)])
    (.cond (.t 9)
     (.seq
      (.kill [9])
      .skip)
     (.seq
      (.kill [0, 1, 5, 9])
      (.exit 0))))
   (.seq
    (.block 1
     (.seq
      (.reg false [
        (0, ⟨some 12, .mv (.t 0), none, [], []⟩),
        (1, ⟨some 13, .mv (.t 5), none, [], []⟩),
        (2, ⟨some 14, .ia 1 (.t 12) (.t 13), none, [], []⟩),
        (3, ⟨some 15, .ld 1 false (.t 14), none, [], [12, 13, 14]⟩),
        (4, ⟨some 16, .mv (.t 1), none, [], []⟩),
        (5, ⟨some 17, .bin .eql (.t 15) (.t 16), none, [], [15, 16]⟩)])
      (.cond (.t 17)
       (.seq
        (.kill [0, 1, 5, 17])
        (.seq
         (.reg false [
           (0, ⟨some 4, .mv (.c (.bool true)), none, [], []⟩)])
         .ret))
       (.seq
        (.kill [17])
        .skip))))
    (.reg false [
      (0, ⟨some 10, .mv (.t 5), none, [], [5]⟩),
      (1, ⟨some 11, .bin .add (.t 10) (.c (.int .i64 (1))), none, [], [10]⟩),
      (2, ⟨some 5, .mv (.t 11), none, [], [11]⟩)])))
def B70 : CCode :=
  (.seq
   (.reg false [
     (0, ⟨some 4, .mv (.c (.bool false)), none, [], [4]⟩)])
   (.seq
    (.seq
     (.reg false [
       (0, ⟨some 5, .mv (.c (.int .i64 (0))), none, [], []⟩)])
     (.block 0
      (.loop L70_0)))
    (.seq
     (.reg false [
       (0, ⟨some 4, .mv (.c (.bool false)), none, [], []⟩)])
     .ret)))
def C70 : CFn := ⟨18, 2, [.t 4], B70⟩

/-- slices.IndexFunc[[][]int,[]int] -/
def L71_0 : CCode :=
  (.seq
   (.reg false [
     (0, ⟨some 9, .bin .lss (.t 8) (.t 7), none, [], []⟩)])
   (.seq
    (.cond (.t 9)
     (.seq
      (.kill [9])
      .skip)
     (.seq
      (.kill [0, 1, 7, 8, 9])
      (.exit 0)))
    (.seq
     (.block 1
      (.seq
       (.reg false [
         (0, ⟨some 10, .mv (.t 8), none, [], []⟩),
         (1, ⟨some 5, .mv (.t 10), none, [], [10]⟩)])
       (.seq
        (.reg false [
          (0, ⟨some 11, .mv (.t 1), none, [], []⟩),
          (1, ⟨some 12, .mv (.t 0), none, [], []⟩),
          (2, ⟨some 13, .mv (.t 5), none, [], []⟩),
          (3, ⟨some 14, .ia 1 (.t 12) (.t 13), none, [], []⟩),
          (4, ⟨some 15, .ld 1 false (.t 14), none, [], [14]⟩),
          (5, ⟨some 16, .callv (.t 11) [(.t 15)], none, [], [11, 12, 13, 15]⟩)])
        (.cond (.t 16)
         (.seq
          (.kill [0, 1, 7, 8, 16])
          (.seq
           (.reg false [
             (0, ⟨some 17, .mv (.t 5), none, [], [5]⟩),
             (1, ⟨some 4, .mv (.t 17), none, [], [17]⟩)])
           .ret))
         (.seq
          (.kill [5, 16])
          .skip)))))
     (.reg false [
       (0, ⟨some 18, .bin .add (.t 8) (.c (.int .i64 (1))), none, [], [8]⟩),
       (1, ⟨some 8, .mv (.t 18), none, [], [18]⟩)]))))
def B71 : CCode :=
  (.seq
   (.reg false [
     (0, ⟨some 4, .mv (.c (.int .i64 (0))), none, [], [4]⟩)])
   (.seq
    (.seq
     (.reg false [
       (0, ⟨some 6, .mv (.t 0), none, [], []⟩),
       (1, ⟨some 7, .len (.t 6), none, [], [6]⟩),
       (2, ⟨some 8, .mv (.c (.int .i64 (0))), none, [], []⟩)])
     (.block 0
      (.loop L71_0)))
    (.seq
     (.reg false [
       (0, ⟨some 4, .mv (.c (.int .i64 (-1))), none, [], []⟩)])
     .ret)))
def C71 : CFn := ⟨19, 2, [.t 4], B71⟩

/-- impl.isSubset$1 -/
def B72 : CCode :=
  (.seq
   (.reg false [
     (0, ⟨some 3, .mv (.c (.bool false)), none, [], [3]⟩)])
   (.seq
    (.reg false [
      (0, ⟨some 4, .ld 1 false (.t 1), none, [], []⟩),
      (1, ⟨some 5, .mv (.t 0), none, [], [0]⟩),
      (2, ⟨some 6, .call 73 [(.t 4), (.t 5)], none, [], [1, 4, 5]⟩),
      (3, ⟨some 7, .not (.t 6), none, [], [6]⟩),
      (4, ⟨some 3, .mv (.t 7), none, [], [7]⟩)])
    .ret))
def C72 : CFn := ⟨8, 2, [.t 3], B72⟩

/-- slices.Contains[[]int,int] -/
def B73 : CCode :=
  (.seq
   (.reg false [
     (0, ⟨some 4, .mv (.c (.bool false)), none, [], [4]⟩)])
   (.seq
    (.reg false [
      (0, ⟨some 5, .mv (.t 0), none, [], [0]⟩),
      (1, ⟨some 6, .mv (.t 1), none, [], [1]⟩),
      (2, ⟨some 7, .call 83 [(.t 5), (.t 6)], none, [], [5, 6]⟩),
      (3, ⟨some 8, .bin .geq (.t 7) (.c (.int .i64 (0))), none, [], [7]⟩),
      (4, ⟨some 4, .mv (.t 8), none, [], [8]⟩)])
    .ret))
def C73 : CFn := ⟨9, 2, [.t 4], B73⟩

/-- slices.IndexFunc[[]int,int] -/
def L74_0 : CCode :=
  (.seq
   (.reg false [
     (0, ⟨some 9, .bin .lss (.t 8) (.t 7), none, [], []⟩)])
   (.seq
    (.cond (.t 9)
     (.seq
      (.kill [9])
      .skip)
     (.seq
      (.kill [0, 1, 7, 8, 9])
      (.exit 0)))
    (.seq
     (.block 1
      (.seq
       (.reg false [
         (0, ⟨some 10, .mv (.t 8), none, [], []⟩),
         (1, ⟨some 5, .mv (.t 10), none, [], [10]⟩)])
       (.seq
        (.reg false [
          (0, ⟨some 11, .mv (.t 1), none, [], []⟩),
          (1, ⟨some 12, .mv (.t 0), none, [], []⟩),
          (2, ⟨some 13, .mv (.t 5), none, [], []⟩),
          (3, ⟨some 14, .ia 1 (.t 12) (.t 13), none, [], []⟩),
          (4, ⟨some 15, .ld 1 false (.t 14), none, [], [12, 13, 14]⟩),
          (5, ⟨some 16, .callv (.t 11) [(.t 15)], none, [], [11, 15]⟩)])
        (.cond (.t 16)
         (.seq
          (.kill [0, 1, 7, 8, 16])
          (.seq
           (.reg false [
             (0, ⟨some 17, .mv (.t 5), none, [], [5]⟩),
             (1, ⟨some 4, .mv (.t 17), none, [], [17]⟩)])
           .ret))
         (.seq
          (.kill [5, 16])
          .skip)))))
     (.reg false [
       (0, ⟨some 18, .bin .add (.t 8) (.c (.int .i64 (1))), none, [], [8]⟩),
       (1, ⟨some 8, .mv (.t 18), none, [], [18]⟩)]))))
def B74 : CCode :=
  (.seq
   (.reg false [
     (0, ⟨some 4, .mv (.c (.int .i64 (0))), none, [], [4]⟩)])
   (.seq
    (.seq
     (.reg false [
       (0, ⟨some 6, .mv (.t 0), none, [], []⟩),
       (1, ⟨some 7, .len (.t 6), none, [], [6]⟩),
       (2, ⟨some 8, .mv (.c (.int .i64 (0))), none, [], []⟩)])
     (.block 0
      (.loop L74_0)))
    (.seq
     (.reg false [
       (0, ⟨some 4, .mv (.c (.int .i64 (-1))), none, [], []⟩)])
     .ret)))
def C74 : CFn := ⟨19, 2, [.t 4], B74⟩

/-- slices.Index[[]int,int] -/
def L83_0 : CCode :=
  (.seq
   (.reg false [
     (0, ⟨some 9, .bin .lss (.t 8) (.t 7), none, [], []⟩)])
   (.seq
    (.cond (.t 9)
     (.seq
      (.kill [9])
      .skip)
     (.seq
      (.kill [0, 1, 7, 8, 9])
      (.exit 0)))
    (.seq
     (.block 1
      (.seq
       (.reg false [
         (0, ⟨some 10, .mv (.t 8), none, [], []⟩),
         (1, ⟨some 5, .mv (.t 10), none, [], [10]⟩)])
       (.seq
        (.reg false [
          (0, ⟨some 11, .mv (.t 1), none, [], []⟩),
          (1, ⟨some 12, .mv (.t 0), none, [], []⟩),
          (2, ⟨some 13, .mv (.t 5), none, [], []⟩),
          (3, ⟨some 14, .ia 1 (.t 12) (.t 13), none, [], []⟩),
          (4, ⟨some 15, .ld 1 false (.t 14), none, [], [12, 13, 14]⟩),
          (5, ⟨some 16, .bin .eql (.t 11) (.t 15), none, [], [11, 15]⟩)])
        (.cond (.t 16)
         (.seq
          (.kill [0, 1, 7, 8, 16])
          (.seq
           (.reg false [
             (0, ⟨some 17, .mv (.t 5), none, [], [5]⟩),
             (1, ⟨some 4, .mv (.t 17), none, [], [17]⟩)])
           .ret))
         (.seq
          (.kill [5, 16])
          .skip)))))
     (.reg false [
       (0, ⟨some 18, .bin .add (.t 8) (.c (.int .i64 (1))), none, [], [8]⟩),
       (1, ⟨some 8, .mv (.t 18), none, [], [18]⟩)]))))
def B83 : CCode :=
  (.seq
   (.reg false [
     (0, ⟨some 4, .mv (.c (.int .i64 (0))), none, [], [4]⟩)])
   (.seq
    (.seq
     (.reg false [
       (0, ⟨some 6, .mv (.t 0), none, [], []⟩),
       (1, ⟨some 7, .len (.t 6), none, [], [6]⟩),
       (2, ⟨some 8, .mv (.c (.int .i64 (0))), none, [], []⟩)])
     (.block 0
      (.loop L83_0)))
    (.seq
     (.reg false [
       (0, ⟨some 4, .mv (.c (.int .i64 (-1))), none, [], []⟩)])
     .ret)))
def C83 : CFn := ⟨19, 2, [.t 4], B83⟩

theorem chk5 : chkFn Go.Proofs.Try.prog 5 C5 = true := by kernel_rfl
theorem chk16 : chkFn Go.Proofs.Try.prog 16 C16 = true := by kernel_rfl
theorem chk18 : chkFn Go.Proofs.Try.prog 18 C18 = true := by kernel_rfl
theorem chk26 : chkFn Go.Proofs.Try.prog 26 C26 = true := by kernel_rfl
theorem chk27 : chkFn Go.Proofs.Try.prog 27 C27 = true := by kernel_rfl
theorem chk28 : chkFn Go.Proofs.Try.prog 28 C28 = true := by kernel_rfl
theorem chk29 : chkFn Go.Proofs.Try.prog 29 C29 = true := by kernel_rfl
theorem chk30 : chkFn Go.Proofs.Try.prog 30 C30 = true := by kernel_rfl
theorem chk51 : chkFn Go.Proofs.Try.prog 51 C51 = true := by kernel_rfl
theorem chk52 : chkFn Go.Proofs.Try.prog 52 C52 = true := by kernel_rfl
theorem chk53 : chkFn Go.Proofs.Try.prog 53 C53 = true := by kernel_rfl
theorem chk54 : chkFn Go.Proofs.Try.prog 54 C54 = true := by kernel_rfl
theorem chk55 : chkFn Go.Proofs.Try.prog 55 C55 = true := by kernel_rfl
theorem chk57 : chkFn Go.Proofs.Try.prog 57 C57 = true := by kernel_rfl
theorem chk70 : chkFn Go.Proofs.Try.prog 70 C70 = true := by kernel_rfl
theorem chk71 : chkFn Go.Proofs.Try.prog 71 C71 = true := by kernel_rfl
theorem chk72 : chkFn Go.Proofs.Try.prog 72 C72 = true := by kernel_rfl
theorem chk73 : chkFn Go.Proofs.Try.prog 73 C73 = true := by kernel_rfl
theorem chk74 : chkFn Go.Proofs.Try.prog 74 C74 = true := by kernel_rfl
theorem chk83 : chkFn Go.Proofs.Try.prog 83 C83 = true := by kernel_rfl
def Tab (f : Nat) : Option CFn :=
  match f with
  | 5 => some C5
  | 16 => some C16
  | 18 => some C18
  | 26 => some C26
  | 27 => some C27
  | 28 => some C28
  | 29 => some C29
  | 30 => some C30
  | 51 => some C51
  | 52 => some C52
  | 53 => some C53
  | 54 => some C54
  | 55 => some C55
  | 57 => some C57
  | 70 => some C70
  | 71 => some C71
  | 72 => some C72
  | 73 => some C73
  | 74 => some C74
  | 83 => some C83
  | _ => none
theorem tabOk : TabOk Go.Proofs.Try.prog Tab := by
  intro f cf h
  unfold Tab at h
  split at h <;> simp only [Option.some.injEq, reduceCtorEq] at h <;> subst h
  · exact chk5
  · exact chk16
  · exact chk18
  · exact chk26
  · exact chk27
  · exact chk28
  · exact chk29
  · exact chk30
  · exact chk51
  · exact chk52
  · exact chk53
  · exact chk54
  · exact chk55
  · exact chk57
  · exact chk70
  · exact chk71
  · exact chk72
  · exact chk73
  · exact chk74
  · exact chk83

end Go.Proofs.YthfbkecnnllpkaaH
