/- The program's functions, for the abstract machine: printed by gen.py. -/
import Derived.Test.YthfbkecnnllpkaaHm28
import Derived.Test.YthfbkecnnllpkaaProg
set_option linter.unusedVariables false
set_option maxRecDepth 100000
namespace Go.Proofs.YthfbkecnnllpkaaH
open Go
/-- laws.FnExactIsValidProof -/
def B12 : CCode :=
  (.seq
   (.reg false [
     (0, ⟨some 6, .mv (.c (.bool false)), none, [], [6]⟩)])
   (.seq
    (.reg false [
      (0, ⟨some 7, .mv (.c (.int .i64 (1048576))), none, [], []⟩)])
    (.seq
     (.reg false [
       (0, ⟨some 12, .mv (.t 1), none, [], []⟩),
       (1, ⟨some 13, .mv (.t 7), none, [], [7]⟩),
       (2, ⟨some 14, .call 26 [(.t 12), (.t 13)], none, [], [12, 13]⟩),
       (3, ⟨some 7, .mv (.t 14), none, [], [14]⟩)])
     (.seq
      (.seq
       (.reg false [
         (0, ⟨some 15, .mv (.t 7), none, [], []⟩),
         (1, ⟨some 16, .bin .lss (.t 15) (.c (.int .i64 (0))), none, [], [15]⟩)])
       (.cond (.t 16)
        (.seq
         (.kill [0, 1, 2, 7, 16])
         (.seq
          (.reg false [
            (0, ⟨some 6, .mv (.c (.bool true)), none, [], []⟩)])
          .ret))
        (.seq
         (.kill [16])
         .skip)))
      (.seq
       (.reg false [
         (0, ⟨some 17, .mv (.t 2), none, [], []⟩),
         (1, ⟨some 18, .mv (.t 7), none, [], [7]⟩),
         (2, ⟨some 19, .call 26 [(.t 17), (.t 18)], none, [], [17, 18]⟩),
         (3, ⟨some 7, .mv (.t 19), none, [], [19]⟩)])
       (.seq
        (.seq
         (.reg false [
           (0, ⟨some 20, .mv (.t 7), none, [], [7]⟩),
           (1, ⟨some 21, .bin .lss (.t 20) (.c (.int .i64 (0))), none, [], [20]⟩)])
         (.cond (.t 21)
          (.seq
           (.kill [0, 1, 2, 21])
           (.seq
            (.reg false [
              (0, ⟨some 6, .mv (.c (.bool true)), none, [], []⟩)])
            .ret))
          (.seq
           (.kill [21])
           .skip)))
        (.seq
         (.reg false [
           (0, ⟨some 22, .mv (.t 0), none, [], []⟩),
           (1, ⟨some 23, .mv (.t 1), none, [], []⟩),
           (2, ⟨some 24, .call 28 [(.t 23)], none, [], [23]⟩),
           (3, ⟨some 25, .mv (.t 2), none, [], []⟩),
           (4, ⟨some 26, .call 28 [(.t 25)], none, [], [25]⟩),
           (5, ⟨some 27, .call 45 [(.t 22), (.t 24), (.t 26)], none, [], [22, 24, 26]⟩),
           (6, ⟨some 8, .mv (.t 27), none, [], [27]⟩)])
         (.seq
          (.reg false [
            (0, ⟨some 28, .mv (.t 1), none, [], []⟩),
            (1, ⟨some 29, .call 28 [(.t 28)], none, [], [28]⟩),
            (2, ⟨some 9, .mv (.t 29), none, [], [29]⟩)])
          (.seq
           (.reg false [
             (0, ⟨some 30, .mv (.t 2), none, [], []⟩),
             (1, ⟨some 31, .call 28 [(.t 30)], none, [], [30]⟩),
             (2, ⟨some 10, .mv (.t 31), none, [], [31]⟩)])
           (.seq
            (.reg false [
              (0, ⟨some 32, .mv (.t 0), none, [], [0]⟩),
              (1, ⟨some 33, .mv (.t 9), none, [], []⟩),
              (2, ⟨some 34, .mv (.t 10), none, [], []⟩),
              (3, ⟨some 35, .call 46 [(.t 32), (.t 33), (.t 34)], none, [], [32, 33, 34]⟩),
              (4, ⟨some 11, .mv (.t 35), none, [], [35]⟩)])
            (.seq
             (.seq
              (.reg false [
                (0, ⟨some 36, .mv (.t 11), none, [], [11]⟩),
                (1, ⟨some 37, .mv (.t 8), none, [], [8]⟩),
                (2, ⟨some 38, .beq true (.t 36) (.t 37), none, [], [36, 37]⟩)])
              (.cond (.t 38)
               (.seq
                (.kill [1, 2, 9, 10, 38])
                (.seq
                 (.reg false [
                   (0, ⟨some 6, .mv (.c (.bool false)), none, [], []⟩)])
                 .ret))
               (.seq
                (.kill [38])
                .skip)))
             (.seq
              (.seq
               (.reg false [
                 (0, ⟨some 39, .mv (.t 9), none, [], [9]⟩),
                 (1, ⟨some 40, .mv (.t 1), none, [], [1]⟩),
                 (2, ⟨some 41, .call 28 [(.t 40)], none, [], [40]⟩),
                 (3, ⟨some 42, .call 30 [(.t 39), (.t 41)], none, [], [39, 41]⟩),
                 (4, ⟨some 43, .not (.t 42), none, [], [42]⟩)])
               (.cond (.t 43)
                (.seq
                 (.kill [2, 10, 43])
                 (.seq
                  (.reg false [
                    (0, ⟨some 6, .mv (.c (.bool false)), none, [], []⟩)])
                  .ret))
                (.seq
                 (.kill [43])
                 .skip)))
              (.seq
               (.seq
                (.reg false [
                  (0, ⟨some 44, .mv (.t 10), none, [], [10]⟩),
                  (1, ⟨some 45, .mv (.t 2), none, [], [2]⟩),
                  (2, ⟨some 46, .call 28 [(.t 45)], none, [], [45]⟩),
                  (3, ⟨some 47, .call 30 [(.t 44), (.t 46)], none, [], [44, 46]⟩),
                  (4, ⟨some 48, .not (.t 47), none, [], [47]⟩)])
                (.cond (.t 48)
                 (.seq
                  (.kill [48])
                  (.seq
                   (.reg false [
                     (0, ⟨some 6, .mv (.c (.bool false)), none, [], []⟩)])
                   .ret))
                 (.seq
                  (.kill [48])
                  .skip)))
               (.seq
                (.reg false [
                  (0, ⟨some 6, .mv (.c (.bool true)), none, [], []⟩)])
                .ret))))))))))))))
def C12 : CFn := ⟨49, 3, [.t 6], B12⟩

/-- spec.NegateLiterals -/
def L15_0 : CCode :=
  (.seq
   (.seq
    (.reg false [
      (0, ⟨some 6, .mv (.t 4), none, [], []⟩),
      (1, ⟨some 7, .mv (.t 0), none, [], []⟩),
      (2, ⟨some 8, .len (.t 7), none, [], [7]⟩),
      (3, ⟨some 9, .bin .lss (.t 6) (.t 8), none, [], [6, 8]⟩)])
    (.cond (.t 9)
     (.seq
      (.kill [9])
      .skip)
     (.seq
      (.kill [0, 4, 9])
      (.exit 0))))
   (.seq
    (.block 1
     (.reg false [
       (0, ⟨some 12, .mv (.t 3), none, [], [3]⟩),
       (1, ⟨some 13, .mv (.t 0), none, [], []⟩),
       (2, ⟨some 14, .mv (.t 4), none, [], []⟩),
       (3, ⟨some 15, .ia 1 (.t 13) (.t 14), none, [], []⟩),
       (4, ⟨some 16, .ld 1 false (.t 15), none, [], [13, 14, 15]⟩),
       (5, ⟨some 17, .neg (.t 16), none, [], [16]⟩),
       (6, ⟨some 18, .bsl 1 1 [.int .i64 (0)] [(0, 1, (.t 17))], none, [], [17]⟩),
       (7, ⟨some 19, .app 1 8 (.t 12) (.t 18), none, [], [12, 18]⟩),
       (8, ⟨some 3, .mv (.t 19), none, [], [19]⟩)]))
    (.reg false [
      (0, ⟨some 10, .mv (.t 4), none, [], [4]⟩),
      (1, ⟨some 11, .bin .add (.t 10) (.c (.int .i64 (1))), none, [], [10]⟩),
      (2, ⟨some 4, .mv (.t 11), none, [], [11]⟩)])))
def B15 : CCode :=
  (.seq
   (.reg false [
     (0, ⟨some 2, .mv (.c (.nils)), none, [], [2]⟩)])
   (.seq
    (.reg false [
      (0, ⟨some 5, .bsl 1 0 [.int .i64 (0)] [], none, [], []⟩),
      (1, ⟨some 3, .mv (.t 5), none, [], [5]⟩)])
    (.seq
     (.seq
      (.reg false [
        (0, ⟨some 4, .mv (.c (.int .i64 (0))), none, [], []⟩)])
      (.block 0
       (.loop L15_0)))
     (.seq
      (.reg false [
        (0, ⟨some 20, .mv (.t 3), none, [], [3]⟩),
        (1, ⟨some 2, .mv (.t 20), none, [], [20]⟩)])
      .ret))))
def C15 : CFn := ⟨21, 1, [.t 2], B15⟩

/-- laws.toIntS -/
def L16_0 : CCode :=
  (.seq
   (.seq
    (.reg false [
      (0, ⟨some 8, .mv (.t 4), none, [], []⟩),
      (1, ⟨some 9, .mv (.t 0), none, [], []⟩),
      (2, ⟨some 10, .len (.t 9), none, [], [9]⟩),
      (3, ⟨some 11, .bin .lss (.t 8) (.t 10), none, [], [8, 10]⟩)])
    (.cond (.t 11)
     (.seq
      (.kill [11])
      .skip)
     (.seq
      (.kill [0, 4, 11])
      (.exit 0))))
   (.seq
    (.block 1
     (.reg false [
       (0, ⟨some 14, .mv (.t 3), none, [], []⟩),
       (1, ⟨some 15, .mv (.t 4), none, [], []⟩),
       (2, ⟨some 16, .mv (.t 0), none, [], []⟩),
       (3, ⟨some 17, .mv (.t 4), none, [], []⟩),
       (4, ⟨some 18, .ia 1 (.t 16) (.t 17), none, [], []⟩),
       (5, ⟨some 19, .ld 1 false (.t 18), none, [], [16, 17, 18]⟩),
       (6, ⟨some 20, .ia 1 (.t 14) (.t 15), none, [], []⟩),
       (7, ⟨none, .st 1 (.t 20) (.t 19), none, [], [14, 15, 19, 20]⟩)]))
    (.reg false [
      (0, ⟨some 12, .mv (.t 4), none, [], [4]⟩),
      (1, ⟨some 13, .bin .add (.t 12) (.c (.int .i64 (1))), none, [], [12]⟩),
      (2, ⟨some 4, .mv (.t 13), none, [], [13]⟩)])))
def B16 : CCode :=
  (.seq
   (.reg false [
     (0, ⟨some 2, .mv (.c (.nils)), none, [], [2]⟩)])
   (.seq
    (.reg false [
      (0, ⟨some 5, .mv (.t 0), none, [], []⟩),
      (1, ⟨some 6, .len (.t 5), none, [], [5]⟩),
      (2, ⟨some 7, .mk 1 8 [.int .i64 (0)] (.t 6) (.t 6), none, [], [6]⟩),
      (3, ⟨some 3, .mv (.t 7), none, [], [7]⟩)])
    (.seq
     (.seq
      (.reg false [
        (0, ⟨some 4, .mv (.c (.int .i64 (0))), none, [], []⟩)])
      (.block 0
       (.loop L16_0)))
     (.seq
      (.reg false [
        (0, ⟨some 21, .mv (.t 3), none, [], [3]⟩),
        (1, ⟨some 2, .mv (.t 21), none, [], [21]⟩)])
      .ret))))
def C16 : CFn := ⟨22, 1, [.t 2], B16⟩

/-- impl.NegateLiterals -/
def L17_0 : CCode :=
  (.seq
   (.reg false [
     (0, ⟨some 10, .bin .lss (.t 9) (.t 8), none, [], []⟩)])
   (.seq
    (.cond (.t 10)
     (.seq
      (.kill [10])
      .skip)
     (.seq
      (.kill [7, 8, 9, 10])
      (.exit 0)))
    (.seq
     (.block 1
      (.seq
       (.reg false [
         (0, ⟨some 11, .ia 1 (.t 7) (.t 9), none, [], []⟩),
         (1, ⟨some 12, .ld 1 false (.t 11), none, [], [11]⟩),
         (2, ⟨some 5, .mv (.t 12), none, [], [12]⟩)])
       (.reg false [
         (0, ⟨some 13, .mv (.t 3), none, [], [3]⟩),
         (1, ⟨some 14, .mv (.t 5), none, [], [5]⟩),
         (2, ⟨some 15, .neg (.t 14), none, [], [14]⟩),
         (3, ⟨some 16, .bsl 1 1 [.int .i64 (0)] [(0, 1, (.t 15))], none, [], [15]⟩),
         (4, ⟨some 17, .app 1 8 (.t 13) (.t 16), none, [], [13, 16]⟩),
         (5, ⟨some 3, .mv (.t 17), none, [], [17]⟩)])))
     (.reg false [
       (0, ⟨some 18, .bin .add (.t 9) (.c (.int .i64 (1))), none, [], [9]⟩),
       (1, ⟨some 9, .mv (.t 18), none, [], [18]⟩)]))))
def B17 : CCode :=
  (.seq
   (.reg false [
     (0, ⟨some 2, .mv (.c (.nils)), none, [], [2]⟩)])
   (.seq
    (.reg false [
      (0, ⟨some 6, .bsl 1 0 [.int .i64 (0)] [], none, [], []⟩),
      (1, ⟨some 3, .mv (.t 6), none, [], [6]⟩)])
    (.seq
     (.seq
      (.reg false [
        (0, ⟨some 7, .mv (.t 0), none, [], [0]⟩),
        (1, ⟨some 8, .len (.t 7), none, [], []⟩),
        (2, ⟨some 9, .mv (.c (.int .i64 (0))), none, [], []⟩)])
      (.block 0
       (.loop L17_0)))
     (.seq
      (.reg false [
        (0, ⟨some 19, .mv (.t 3), none, [], [3]⟩),
        (1, ⟨some 2, .mv (.t 19), none, [], [19]⟩)])
      .ret))))
def C17 : CFn := ⟨20, 1, [.t 2], B17⟩

/-- laws.eqIntS -/
def L18_0 : CCode :=
  (.seq
   (.seq
    (.reg false [
      (0, ⟨some 11, .mv (.t 5), none, [], []⟩),
      (1, ⟨some 12, .mv (.t 0), none, [], []⟩),
      (2, ⟨some 13, .len (.t 12), none, [], [12]⟩),
      (3, ⟨some 14, .bin .lss (.t 11) (.t 13), none, [], [11, 13]⟩)])
    (.cond (.t 14)
     (.seq
      (.kill [14])
      .skip)
     (.seq
      (.kill [0, 1, 5, 14])
      (.exit 0))))
   (.seq
    (.block 1
     (.seq
      (.reg true [
        (0, ⟨some 17, .mv (.t 0), none, [], []⟩),
        (1, ⟨some 18, .mv (.t 5), none, [], []⟩),
        (2, ⟨some 19, .ia 1 (.t 17) (.t 18), none, [], []⟩),
        (3, ⟨some 20, .ld 1 false (.t 19), none, [], [17, 18, 19]⟩),
        (4, ⟨some 21, .mv (.t 1), none, [], []⟩),
        (5, ⟨some 22, .mv (.t 5), none, [], []⟩),
        (6, ⟨some 23, .ia 1 (.t 21) (.t 22), none, [], []⟩),
        (7, ⟨some 24, .ld 1 false (.t 23), none, [], [21, 22, 23]⟩),
        (8, ⟨some 25, .bin .neq (.t 20) (.t 24), none, [], [20, 24]⟩)])
      (.cond (.t 25)
       (.seq
        (.kill [0, 1, 5, 25])
        (.seq
         (.reg false [
           (0, ⟨some 4, .mv (.c (.bool false)), none, [], []⟩)])
         .ret))
       (.seq
        (.kill [25])
        .skip))))
    (.reg false [
      (0, ⟨some 15, .mv (.t 5), none, [], [5]⟩),
      (1, ⟨some 16, .bin .add (.t 15) (.c (.int .i64 (1))), none, [], [15]⟩),
      (2, ⟨some 5, .mv (.t 16), none, [], [16]⟩)])))
def B18 : CCode :=
  (.seq
   (.reg false [
     (0, ⟨some 4, .mv (.c (.bool false)), none, [], [4]⟩)])
   (.seq
    (.seq
     (.reg false [
       (0, ⟨some 6, .mv (.t 0), none, [], []⟩),
       (1, ⟨some 7, .len (.t 6), none, [], [6]⟩),
       (2, ⟨some 8, .mv (.t 1), none, [], []⟩),
       (3, ⟨some 9, .len (.t 8), none, [], [8]⟩),
       (4, ⟨some 10, .bin .neq (.t 7) (.t 9), none, [], [7, 9]⟩)])
     (.cond (.t 10)
      (.seq
       (.kill [0, 1, 10])
       (.seq
        (.reg false [
          (0, ⟨some 4, .mv (.c (.bool false)), none, [], []⟩)])
        .ret))
      (.seq
       (.kill [10])
       .skip)))
    (.seq
     (.seq
      (.reg false [
        (0, ⟨some 5, .mv (.c (.int .i64 (0))), none, [], []⟩)])
      (.block 0
       (.loop L18_0)))
     (.seq
      (.reg false [
        (0, ⟨some 4, .mv (.c (.bool true)), none, [], []⟩)])
      .ret))))
def C18 : CFn := ⟨26, 2, [.t 4], B18⟩

/-- laws.szIntSS -/
def L26_0 : CCode :=
  (.seq
   (.seq
    (.reg false [
      (0, ⟨some 12, .mv (.t 5), none, [], []⟩),
      (1, ⟨some 13, .mv (.t 0), none, [], []⟩),
      (2, ⟨some 14, .len (.t 13), none, [], [13]⟩),
      (3, ⟨some 15, .bin .lss (.t 12) (.t 14), none, [], [12, 14]⟩)])
    (.cond (.t 15)
     (.seq
      (.kill [15])
      .skip)
     (.seq
      (.kill [0, 5, 15])
      (.exit 0))))
   (.seq
    (.block 1
     (.seq
      (.reg false [
        (0, ⟨some 18, .mv (.t 0), none, [], []⟩),
        (1, ⟨some 19, .mv (.t 5), none, [], []⟩),
        (2, ⟨some 20, .ia 1 (.t 18) (.t 19), none, [], []⟩),
        (3, ⟨some 21, .ld 1 false (.t 20), none, [], [20]⟩),
        (4, ⟨some 22, .mv (.t 1), none, [], [1]⟩),
        (5, ⟨some 23, .call 51 [(.t 21), (.t 22)], none, [], [18, 19, 21, 22]⟩),
        (6, ⟨some 1, .mv (.t 23), none, [], [23]⟩)])
      (.seq
       (.reg false [
         (0, ⟨some 24, .mv (.t 1), none, [], []⟩),
         (1, ⟨some 25, .bin .lss (.t 24) (.c (.int .i64 (0))), none, [], [24]⟩)])
       (.cond (.t 25)
        (.seq
         (.kill [0, 1, 5, 25])
         (.seq
          (.reg false [
            (0, ⟨some 4, .mv (.c (.int .i64 (-1))), none, [], []⟩)])
          .ret))
        (.seq
         (.kill [25])
         .skip)))))
    (.reg false [
      (0, ⟨some 16, .mv (.t 5), none, [], [5]⟩),
      (1, ⟨some 17, .bin .add (.t 16) (.c (.int .i64 (1))), none, [], [16]⟩),
      (2, ⟨some 5, .mv (.t 17), none, [], [17]⟩)])))
def B26 : CCode :=
  (.seq
   (.reg false [
     (0, ⟨some 4, .mv (.c (.int .i64 (0))), none, [], [4]⟩)])
   (.seq
    (.reg false [
      (0, ⟨some 6, .mv (.t 1), none, [], [1]⟩),
      (1, ⟨some 7, .mv (.t 0), none, [], []⟩),
      (2, ⟨some 8, .len (.t 7), none, [], [7]⟩),
      (3, ⟨some 9, .bin .sub (.t 6) (.t 8), none, [], [6, 8]⟩),
      (4, ⟨some 1, .mv (.t 9), none, [], [9]⟩)])
    (.seq
     (.seq
      (.reg false [
        (0, ⟨some 10, .mv (.t 1), none, [], []⟩),
        (1, ⟨some 11, .bin .lss (.t 10) (.c (.int .i64 (0))), none, [], [10]⟩)])
      (.cond (.t 11)
       (.seq
        (.kill [0, 1, 11])
        (.seq
         (.reg false [
           (0, ⟨some 4, .mv (.c (.int .i64 (-1))), none, [], []⟩)])
         .ret))
       (.seq
        (.kill [11])
        .skip)))
     (.seq
      (.seq
       (.reg false [
         (0, ⟨some 5, .mv (.c (.int .i64 (0))), none, [], []⟩)])
       (.block 0
        (.loop L26_0)))
      (.seq
       (.reg false [
         (0, ⟨some 26, .mv (.t 1), none, [], [1]⟩),
         (1, ⟨some 4, .mv (.t 26), none, [], [26]⟩)])
       .ret)))))
def C26 : CFn := ⟨27, 2, [.t 4], B26⟩

/-- laws.toIntSS -/
def L28_0 : CCode :=
  (.seq
   (.seq
    (.reg false [
      (0, ⟨some 8, .mv (.t 4), none, [], []⟩),
      (1, ⟨some 9, .mv (.t 0), none, [], []⟩),
      (2, ⟨some 10, .len (.t 9), none, [], [9]⟩),
      (3, ⟨some 11, .bin .lss (.t 8) (.t 10), none, [], [8, 10]⟩)])
    (.cond (.t 11)
     (.seq
      (.kill [11])
      .skip)
     (.seq
      (.kill [0, 4, 11])
      (.exit 0))))
   (.seq
    (.block 1
     (.reg false [
       (0, ⟨some 14, .mv (.t 3), none, [], []⟩),
       (1, ⟨some 15, .mv (.t 4), none, [], []⟩),
       (2, ⟨some 16, .mv (.t 0), none, [], []⟩),
       (3, ⟨some 17, .mv (.t 4), none, [], []⟩),
       (4, ⟨some 18, .ia 1 (.t 16) (.t 17), none, [], []⟩),
       (5, ⟨some 19, .ld 1 false (.t 18), none, [], [18]⟩),
       (6, ⟨some 20, .call 16 [(.t 19)], none, [], [16, 17, 19]⟩),
       (7, ⟨some 21, .ia 1 (.t 14) (.t 15), none, [], []⟩),
       (8, ⟨none, .st 1 (.t 21) (.t 20), none, [], [14, 15, 20, 21]⟩)]))
    (.reg false [
      (0, ⟨some 12, .mv (.t 4), none, [], [4]⟩),
      (1, ⟨some 13, .bin .add (.t 12) (.c (.int .i64 (1))), none, [], [12]⟩),
      (2, ⟨some 4, .mv (.t 13), none, [], [13]⟩)])))
def B28 : CCode :=
  (.seq
   (.reg false [
     (0, ⟨some 2, .mv (.c (.nils)), none, [], [2]⟩)])
   (.seq
    (.reg false [
      (0, ⟨some 5, .mv (.t 0), none, [], []⟩),
      (1, ⟨some 6, .len (.t 5), none, [], [5]⟩),
      (2, ⟨some 7, .mk 1 24 [.nils] (.t 6) (.t 6), none, [], [6]⟩),
      (3, ⟨some 3, .mv (.t 7), none, [], [7]⟩)])
    (.seq
     (.seq
      (.reg false [
        (0, ⟨some 4, .mv (.c (.int .i64 (0))), none, [], []⟩)])
      (.block 0
       (.loop L28_0)))
     (.seq
      (.reg false [
        (0, ⟨some 22, .mv (.t 3), none, [], [3]⟩),
        (1, ⟨some 2, .mv (.t 22), none, [], [22]⟩)])
      .ret))))
def C28 : CFn := ⟨23, 1, [.t 2], B28⟩

/-- laws.eqIntSS -/
def L30_0 : CCode :=
  (.seq
   (.seq
    (.reg false [
      (0, ⟨some 11, .mv (.t 5), none, [], []⟩),
      (1, ⟨some 12, .mv (.t 0), none, [], []⟩),
      (2, ⟨some 13, .len (.t 12), none, [], [12]⟩),
      (3, ⟨some 14, .bin .lss (.t 11) (.t 13), none, [], [11, 13]⟩)])
    (.cond (.t 14)
     (.seq
      (.kill [14])
      .skip)
     (.seq
      (.kill [0, 1, 5, 14])
      (.exit 0))))
   (.seq
    (.block 1
     (.seq
      (.reg true [
        (0, ⟨some 17, .mv (.t 0), none, [], []⟩),
        (1, ⟨some 18, .mv (.t 5), none, [], []⟩),
        (2, ⟨some 19, .ia 1 (.t 17) (.t 18), none, [], []⟩),
        (3, ⟨some 20, .ld 1 false (.t 19), none, [], [19]⟩),
        (4, ⟨some 21, .mv (.t 1), none, [], []⟩),
        (5, ⟨some 22, .mv (.t 5), none, [], []⟩),
        (6, ⟨some 23, .ia 1 (.t 21) (.t 22), none, [], []⟩),
        (7, ⟨some 24, .ld 1 false (.t 23), none, [], [23]⟩),
        (8, ⟨some 25, .call 18 [(.t 20), (.t 24)], none, [], [17, 18, 20, 21, 22, 24]⟩),
        (9, ⟨some 26, .not (.t 25), none, [], [25]⟩)])
      (.cond (.t 26)
       (.seq
        (.kill [0, 1, 5, 26])
        (.seq
         (.reg false [
           (0, ⟨some 4, .mv (.c (.bool false)), none, [], []⟩)])
         .ret))
       (.seq
        (.kill [26])
        .skip))))
    (.reg false [
      (0, ⟨some 15, .mv (.t 5), none, [], [5]⟩),
      (1, ⟨some 16, .bin .add (.t 15) (.c (.int .i64 (1))), none, [], [15]⟩),
      (2, ⟨some 5, .mv (.t 16), none, [], [16]⟩)])))
def B30 : CCode :=
  (.seq
   (.reg false [
     (0, ⟨some 4, .mv (.c (.bool false)), none, [], [4]⟩)])
   (.seq
    (.seq
     (.reg false [
       (0, ⟨some 6, .mv (.t 0), none, [], []⟩),
       (1, ⟨some 7, .len (.t 6), none, [], [6]⟩),
       (2, ⟨some 8, .mv (.t 1), none, [], []⟩),
       (3, ⟨some 9, .len (.t 8), none, [], [8]⟩),
       (4, ⟨some 10, .bin .neq (.t 7) (.t 9), none, [], [7, 9]⟩)])
     (.cond (.t 10)
      (.seq
       (.kill [0, 1, 10])
       (.seq
        (.reg false [
          (0, ⟨some 4, .mv (.c (.bool false)), none, [], []⟩)])
        .ret))
      (.seq
       (.kill [10])
       .skip)))
    (.seq
     (.seq
      (.reg false [
        (0, ⟨some 5, .mv (.c (.int .i64 (0))), none, [], []⟩)])
      (.block 0
       (.loop L30_0)))
     (.seq
      (.reg false [
        (0, ⟨some 4, .mv (.c (.bool true)), none, [], []⟩)])
      .ret))))
def C30 : CFn := ⟨27, 2, [.t 4], B30⟩

/-- spec.AreValidClauses -/
def L33_0 : CCode :=
  (.seq
   (.seq
    (.reg false [
      (0, ⟨some 6, .mv (.t 5), none, [], []⟩),
      (1, ⟨some 7, .mv (.t 1), none, [], []⟩),
      (2, ⟨some 8, .len (.t 7), none, [], [7]⟩),
      (3, ⟨some 9, .bin .lss (.t 6) (.t 8), none, [], [6, 8]⟩)])
    (.cond (.t 9)
     (.seq
      (.kill [9])
      .skip)
     (.seq
      (.kill [5, 9])
      (.exit 0))))
   (.seq
    (.block 1
     (.seq
      (.reg false [
        (0, ⟨some 12, .mv (.t 0), none, [], []⟩),
        (1, ⟨some 13, .mv (.t 1), none, [], []⟩),
        (2, ⟨some 14, .mv (.t 5), none, [], []⟩),
        (3, ⟨some 15, .ia 1 (.t 13) (.t 14), none, [], []⟩),
        (4, ⟨some 16, .ld 1 false (.t 15), none, [], [15]⟩),
        (5, ⟨some 17, .call 60 [(.t 12), (.t 16)], none, [], [12, 13, 14, 16]⟩),
        (6, ⟨some 18, .not (.t 17), none, [], [17]⟩)])
      (.cond (.t 18)
       (.seq
        (.kill [0, 1, 5, 18])
        (.seq
         (.reg false [
           (0, ⟨some 4, .mv (.c (.bool false)), none, [], []⟩)])
         .ret))
       (.seq
        (.kill [18])
        .skip))))
    (.reg false [
      (0, ⟨some 10, .mv (.t 5), none, [], [5]⟩),
      (1, ⟨some 11, .bin .add (.t 10) (.c (.int .i64 (1))), none, [], [10]⟩),
      (2, ⟨some 5, .mv (.t 11), none, [], [11]⟩)])))
def B33 : CCode :=
  (.seq
   (.reg false [
     (0, ⟨some 4, .mv (.c (.bool false)), none, [], [4]⟩)])
   (.seq
    (.seq
     (.reg false [
       (0, ⟨some 5, .mv (.c (.int .i64 (0))), none, [], []⟩)])
     (.block 0
      (.loop L33_0)))
    (.seq
     (.reg false [
       (0, ⟨some 19, .mv (.t 0), none, [], [0]⟩),
       (1, ⟨some 20, .call 61 [(.t 19), (.c (.int .i64 (0))), (.c (.int .i64 (14)))], none, [], [19]⟩),
       (2, ⟨some 21, .mv (.t 20), none, [], [20]⟩),
       (3, ⟨some 22, .mv (.t 1), some (21, true), [], [1]⟩),
       (4, ⟨some 23, .len (.t 22), some (21, true), [], [22]⟩),
       (5, ⟨some 24, .bin .leq (.t 23) (.c (.int .i64 (400))), some (21, true), [], [23]⟩),
       (6, ⟨some 25, .pick (.t 21) (.t 24) (.c (.bool false)), none, [], [21, 24]⟩),
       (7, ⟨some 4, .mv (.t 25), none, [], [25]⟩)])
     .ret)))
def C33 : CFn := ⟨26, 2, [.t 4], B33⟩

/-- impl.AreValidClauses -/
def B34 : CCode :=
  (.seq
   (.reg false [
     (0, ⟨some 4, .mv (.c (.bool false)), none, [], [4]⟩)])
   (.seq
    (.reg false [
      (0, ⟨some 5, .mv (.t 1), none, [], []⟩),
      (1, ⟨some 6, .len (.t 5), none, [], [5]⟩),
      (2, ⟨some 7, .bin .leq (.t 6) (.c (.int .i64 (400))), none, [], [6]⟩),
      (3, ⟨some 8, .mv (.t 7), none, [], [7]⟩),
      (4, ⟨some 9, .mv (.t 0), some (8, true), [], [0]⟩),
      (5, ⟨some 10, .mv (.t 1), some (8, true), [], [1]⟩),
      (6, ⟨some 11, .call 62 [(.t 9), (.t 10)], some (8, true), [], [9, 10]⟩),
      (7, ⟨some 12, .pick (.t 8) (.t 11) (.c (.bool false)), none, [], [8, 11]⟩),
      (8, ⟨some 4, .mv (.t 12), none, [], [12]⟩)])
    .ret))
def C34 : CFn := ⟨13, 2, [.t 4], B34⟩

/-- spec.IsValidProof -/
def L45_0 : CCode :=
  (.seq
   (.seq
    (.reg false [
      (0, ⟨some 33, .mv (.t 8), none, [], []⟩),
      (1, ⟨some 34, .mv (.t 2), none, [], []⟩),
      (2, ⟨some 35, .len (.t 34), none, [], [34]⟩),
      (3, ⟨some 36, .bin .lss (.t 33) (.t 35), none, [], [33, 35]⟩)])
    (.cond (.t 36)
     (.seq
      (.kill [36])
      .skip)
     (.seq
      (.kill [0, 2, 7, 8, 36])
      (.exit 0))))
   (.seq
    (.block 1
     (.seq
      (.seq
       (.reg false [
         (0, ⟨some 39, .mv (.t 0), none, [], []⟩),
         (1, ⟨some 40, .mv (.t 2), none, [], []⟩),
         (2, ⟨some 41, .mv (.t 8), none, [], []⟩),
         (3, ⟨some 42, .ia 1 (.t 40) (.t 41), none, [], []⟩),
         (4, ⟨some 43, .ld 1 false (.t 42), none, [], [42]⟩),
         (5, ⟨some 44, .call 60 [(.t 39), (.t 43)], none, [], [39, 40, 41, 43]⟩),
         (6, ⟨some 45, .not (.t 44), none, [], [44]⟩)])
       (.cond (.t 45)
        (.seq
         (.kill [0, 2, 7, 8, 45])
         (.seq
          (.reg false [
            (0, ⟨some 6, .mv (.c (.bool false)), none, [], []⟩)])
          .ret))
        (.seq
         (.kill [45])
         .skip)))
      (.seq
       (.reg false [
         (0, ⟨some 47, .mv (.t 7), none, [], []⟩),
         (1, ⟨some 48, .mv (.t 2), none, [], []⟩),
         (2, ⟨some 49, .mv (.t 8), none, [], []⟩),
         (3, ⟨some 50, .ia 1 (.t 48) (.t 49), none, [], []⟩),
         (4, ⟨some 51, .ld 1 false (.t 50), none, [], [50]⟩),
         (5, ⟨some 52, .call 15 [(.t 51)], none, [], [48, 49, 51]⟩),
         (6, ⟨some 53, .call 65 [(.t 47), (.t 52)], none, [], [47, 52]⟩),
         (7, ⟨some 46, .mv (.t 53), none, [], [53]⟩),
         (8, ⟨some 54, .ex (.t 46) 0, none, [], []⟩),
         (9, ⟨some 55, .ex (.t 46) 1, none, [], [46]⟩),
         (10, ⟨some 9, .mv (.t 54), none, [], [9, 54]⟩),
         (11, ⟨some 10, .mv (.t 55), none, [], [55]⟩)])
       (.seq
        (.seq
         (.reg false [
           (0, ⟨some 56, .mv (.t 10), none, [], [10]⟩),
           (1, ⟨some 57, .not (.t 56), none, [], [56]⟩)])
         (.cond (.t 57)
          (.seq
           (.kill [0, 2, 7, 8, 57])
           (.seq
            (.reg false [
              (0, ⟨some 6, .mv (.c (.bool false)), none, [], []⟩)])
            .ret))
          (.seq
           (.kill [57])
           .skip)))
        (.reg false [
          (0, ⟨some 58, .mv (.t 7), none, [], [7]⟩),
          (1, ⟨some 59, .mv (.t 2), none, [], []⟩),
          (2, ⟨some 60, .mv (.t 8), none, [], []⟩),
          (3, ⟨some 61, .ia 1 (.t 59) (.t 60), none, [], []⟩),
          (4, ⟨some 62, .ld 1 false (.t 61), none, [], [61]⟩),
          (5, ⟨some 63, .bsl 1 1 [.nils] [(0, 1, (.t 62))], none, [], [59, 60, 62]⟩),
          (6, ⟨some 64, .app 1 24 (.t 58) (.t 63), none, [], [58, 63]⟩),
          (7, ⟨some 7, .mv (.t 64), none, [], [64]⟩)])))))
    (.reg false [
      (0, ⟨some 37, .mv (.t 8), none, [], [8]⟩),
      (1, ⟨some 38, .bin .add (.t 37) (.c (.int .i64 (1))), none, [], [37]⟩),
      (2, ⟨some 8, .mv (.t 38), none, [], [38]⟩)])))
def B45 : CCode :=
  (.seq
   (.reg false [
     (0, ⟨some 6, .mv (.c (.bool false)), none, [], [6]⟩)])
   (.seq
    (.seq
     (.reg false [
       (0, ⟨some 11, .mv (.t 0), none, [], []⟩),
       (1, ⟨some 12, .mv (.t 1), none, [], []⟩),
       (2, ⟨some 13, .call 33 [(.t 11), (.t 12)], none, [], [11, 12]⟩),
       (3, ⟨some 14, .not (.t 13), none, [], [13]⟩),
       (4, ⟨some 15, .mv (.t 14), none, [], [14]⟩),
       (5, ⟨some 16, .mv (.t 2), some (15, false), [], []⟩),
       (6, ⟨some 17, .len (.t 16), some (15, false), [], [16]⟩),
       (7, ⟨some 18, .bin .eql (.t 17) (.c (.int .i64 (0))), some (15, false), [], [17]⟩),
       (8, ⟨some 19, .pick (.t 15) (.c (.bool true)) (.t 18), none, [], [15, 18]⟩),
       (9, ⟨some 20, .mv (.t 19), none, [], [19]⟩),
       (10, ⟨some 21, .mv (.t 2), some (20, false), [], []⟩),
       (11, ⟨some 22, .mv (.t 2), some (20, false), [], []⟩),
       (12, ⟨some 23, .len (.t 22), some (20, false), [], [22]⟩),
       (13, ⟨some 24, .bin .sub (.t 23) (.c (.int .i64 (1))), some (20, false), [], [23]⟩),
       (14, ⟨some 25, .ia 1 (.t 21) (.t 24), some (20, false), [], []⟩),
       (15, ⟨some 26, .ld 1 false (.t 25), some (20, false), [], [25]⟩),
       (16, ⟨some 27, .len (.t 26), some (20, false), [], [21, 24, 26]⟩),
       (17, ⟨some 28, .bin .gtr (.t 27) (.c (.int .i64 (0))), some (20, false), [], [27]⟩),
       (18, ⟨some 29, .pick (.t 20) (.c (.bool true)) (.t 28), none, [], [20, 28]⟩)])
     (.cond (.t 29)
      (.seq
       (.kill [0, 1, 2, 29])
       (.seq
        (.reg false [
          (0, ⟨some 6, .mv (.c (.bool false)), none, [], []⟩)])
        .ret))
      (.seq
       (.kill [29])
       .skip)))
    (.seq
     (.reg false [
       (0, ⟨some 30, .bsl 1 0 [.nils] [], none, [], []⟩),
       (1, ⟨some 31, .mv (.t 1), none, [], [1]⟩),
       (2, ⟨some 32, .app 1 24 (.t 30) (.t 31), none, [], [30, 31]⟩),
       (3, ⟨some 7, .mv (.t 32), none, [], [32]⟩)])
     (.seq
      (.seq
       (.reg false [
         (0, ⟨some 8, .mv (.c (.int .i64 (0))), none, [], []⟩)])
       (.block 0
        (.loop L45_0)))
      (.seq
       (.reg false [
         (0, ⟨some 6, .mv (.c (.bool true)), none, [], []⟩)])
       .ret)))))
def C45 : CFn := ⟨65, 3, [.t 6], B45⟩

/-- impl.IsValidProof -/
def L46_0 : CCode :=
  (.seq
   (.reg false [
     (0, ⟨some 32, .bin .lss (.t 31) (.t 30), none, [], []⟩)])
   (.seq
    (.cond (.t 32)
     (.seq
      (.kill [32])
      .skip)
     (.seq
      (.kill [7, 29, 30, 31, 32])
      (.exit 0)))
    (.seq
     (.block 1
      (.seq
       (.reg false [
         (0, ⟨some 33, .ia 1 (.t 29) (.t 31), none, [], []⟩),
         (1, ⟨some 34, .ld 1 false (.t 33), none, [], [33]⟩),
         (2, ⟨some 9, .mv (.t 34), none, [], [34]⟩)])
       (.seq
        (.seq
         (.reg false [
           (0, ⟨some 36, .mv (.t 7), none, [], []⟩),
           (1, ⟨some 37, .mv (.t 9), none, [], []⟩),
           (2, ⟨some 38, .call 17 [(.t 37)], none, [], [37]⟩),
           (3, ⟨some 39, .call 64 [(.t 36), (.t 38)], none, [], [36, 38]⟩),
           (4, ⟨some 35, .mv (.t 39), none, [], [39]⟩),
           (5, ⟨some 40, .ex (.t 35) 0, none, [], []⟩),
           (6, ⟨some 41, .ex (.t 35) 1, none, [], [35]⟩),
           (7, ⟨some 10, .mv (.t 40), none, [], [10, 40]⟩),
           (8, ⟨some 11, .mv (.t 41), none, [], [41]⟩)])
         (.seq
          (.reg false [
            (0, ⟨some 42, .mv (.t 11), none, [], [11]⟩),
            (1, ⟨some 43, .not (.t 42), none, [], [42]⟩)])
          (.cond (.t 43)
           (.seq
            (.kill [2, 7, 9, 29, 30, 31, 43])
            (.seq
             (.reg false [
               (0, ⟨some 6, .mv (.c (.bool false)), none, [], []⟩)])
             .ret))
           (.seq
            (.kill [43])
            .skip))))
        (.reg false [
          (0, ⟨some 44, .mv (.t 7), none, [], [7]⟩),
          (1, ⟨some 45, .mv (.t 9), none, [], [9]⟩),
          (2, ⟨some 46, .bsl 1 1 [.nils] [(0, 1, (.t 45))], none, [], [45]⟩),
          (3, ⟨some 47, .app 1 24 (.t 44) (.t 46), none, [], [44, 46]⟩),
          (4, ⟨some 7, .mv (.t 47), none, [], [47]⟩)]))))
     (.reg false [
       (0, ⟨some 48, .bin .add (.t 31) (.c (.int .i64 (1))), none, [], [31]⟩),
       (1, ⟨some 31, .mv (.t 48), none, [], [48]⟩)]))))
def B46 : CCode :=
  (.seq
   (.reg false [
     (0, ⟨some 6, .mv (.c (.bool false)), none, [], [6]⟩)])
   (.seq
    (.seq
     (.reg false [
       (0, ⟨some 12, .mv (.t 0), none, [], []⟩),
       (1, ⟨some 13, .mv (.t 1), none, [], []⟩),
       (2, ⟨some 14, .call 34 [(.t 12), (.t 13)], none, [], [12, 13]⟩),
       (3, ⟨some 15, .not (.t 14), none, [], [14]⟩),
       (4, ⟨some 16, .mv (.t 15), none, [], [15]⟩),
       (5, ⟨some 17, .mv (.t 2), some (16, false), [], []⟩),
       (6, ⟨some 18, .len (.t 17), some (16, false), [], [17]⟩),
       (7, ⟨some 19, .bin .eql (.t 18) (.c (.int .i64 (0))), some (16, false), [], [18]⟩),
       (8, ⟨some 20, .pick (.t 16) (.c (.bool true)) (.t 19), none, [], [16, 19]⟩),
       (9, ⟨some 21, .mv (.t 20), none, [], [20]⟩),
       (10, ⟨some 22, .mv (.t 0), some (21, false), [], [0]⟩),
       (11, ⟨some 23, .mv (.t 2), some (21, false), [], []⟩),
       (12, ⟨some 24, .call 62 [(.t 22), (.t 23)], some (21, false), [], [22, 23]⟩),
       (13, ⟨some 25, .not (.t 24), some (21, false), [], [24]⟩),
       (14, ⟨some 26, .pick (.t 21) (.c (.bool true)) (.t 25), none, [], [21, 25]⟩)])
     (.cond (.t 26)
      (.seq
       (.kill [1, 2, 26])
       (.seq
        (.reg false [
          (0, ⟨some 6, .mv (.c (.bool false)), none, [], []⟩)])
        .ret))
      (.seq
       (.kill [26])
       .skip)))
    (.seq
     (.reg false [
       (0, ⟨some 27, .mv (.t 1), none, [], [1]⟩),
       (1, ⟨some 28, .call 66 [(.t 27)], none, [], [27]⟩),
       (2, ⟨some 7, .mv (.t 28), none, [], [28]⟩)])
     (.seq
      (.seq
       (.reg false [
         (0, ⟨some 29, .mv (.t 2), none, [], []⟩),
         (1, ⟨some 30, .len (.t 29), none, [], []⟩),
         (2, ⟨some 31, .mv (.c (.int .i64 (0))), none, [], []⟩)])
       (.block 0
        (.loop L46_0)))
      (.seq
       (.reg false [
         (0, ⟨some 49, .mv (.t 2), none, [], []⟩),
         (1, ⟨some 50, .mv (.t 2), none, [], [2]⟩),
         (2, ⟨some 51, .len (.t 50), none, [], [50]⟩),
         (3, ⟨some 52, .bin .sub (.t 51) (.c (.int .i64 (1))), none, [], [51]⟩),
         (4, ⟨some 53, .ia 1 (.t 49) (.t 52), none, [], []⟩),
         (5, ⟨some 54, .ld 1 false (.t 53), none, [], [53]⟩),
         (6, ⟨some 55, .len (.t 54), none, [], [49, 52, 54]⟩),
         (7, ⟨some 56, .bin .eql (.t 55) (.c (.int .i64 (0))), none, [], [55]⟩),
         (8, ⟨some 6, .mv (.t 56), none, [], [56]⟩)])
       .ret)))))
def C46 : CFn := ⟨57, 3, [.t 6], B46⟩

/-- laws.szIntS -/
def B51 : CCode :=
  (.seq
   (.reg false [
     (0, ⟨some 4, .mv (.c (.int .i64 (0))), none, [], [4]⟩)])
   (.seq
    (.reg false [
      (0, ⟨some 5, .mv (.t 1), none, [], [1]⟩),
      (1, ⟨some 6, .mv (.t 0), none, [], [0]⟩),
      (2, ⟨some 7, .len (.t 6), none, [], [6]⟩),
      (3, ⟨some 8, .bin .sub (.t 5) (.t 7), none, [], [5, 7]⟩),
      (4, ⟨some 1, .mv (.t 8), none, [], [8]⟩)])
    (.seq
     (.seq
      (.reg false [
        (0, ⟨some 9, .mv (.t 1), none, [], []⟩),
        (1, ⟨some 10, .bin .lss (.t 9) (.c (.int .i64 (0))), none, [], [9]⟩)])
      (.cond (.t 10)
       (.seq
        (.kill [1, 10])
        (.seq
         (.reg false [
           (0, ⟨some 4, .mv (.c (.int .i64 (-1))), none, [], []⟩)])
         .ret))
       (.seq
        (.kill [10])
        .skip)))
     (.seq
      (.reg false [
        (0, ⟨some 11, .mv (.t 1), none, [], [1]⟩),
        (1, ⟨some 4, .mv (.t 11), none, [], [11]⟩)])
      .ret))))
def C51 : CFn := ⟨12, 2, [.t 4], B51⟩

/-- slices.ContainsFunc[[][]int,[]int] -/
def B53 : CCode :=
  (.seq
   (.reg false [
     (0, ⟨some 4, .mv (.c (.bool false)), none, [], [4]⟩)])
   (.seq
    (.reg false [
      (0, ⟨some 5, .mv (.t 0), none, [], [0]⟩),
      (1, ⟨some 6, .mv (.t 1), none, [], [1]⟩),
      (2, ⟨some 7, .call 71 [(.t 5), (.t 6)], none, [], [5, 6]⟩),
      (3, ⟨some 8, .bin .geq (.t 7) (.c (.int .i64 (0))), none, [], [7]⟩),
      (4, ⟨some 4, .mv (.t 8), none, [], [8]⟩)])
    .ret))
def C53 : CFn := ⟨9, 2, [.t 4], B53⟩

/-- slices.ContainsFunc[[]int,int] -/
def B57 : CCode :=
  (.seq
   (.reg false [
     (0, ⟨some 4, .mv (.c (.bool false)), none, [], [4]⟩)])
   (.seq
    (.reg false [
      (0, ⟨some 5, .mv (.t 0), none, [], [0]⟩),
      (1, ⟨some 6, .mv (.t 1), none, [], [1]⟩),
      (2, ⟨some 7, .call 74 [(.t 5), (.t 6)], none, [], [5, 6]⟩),
      (3, ⟨some 8, .bin .geq (.t 7) (.c (.int .i64 (0))), none, [], [7]⟩),
      (4, ⟨some 4, .mv (.t 8), none, [], [8]⟩)])
    .ret))
def C57 : CFn := ⟨9, 2, [.t 4], B57⟩

/-- spec.l20Clause -/
def L60_1 : CCode :=
  (.seq
   (.seq
    (.reg false [
      (0, ⟨some 42, .mv (.t 7), none, [], []⟩),
      (1, ⟨some 43, .mv (.t 5), none, [], []⟩),
      (2, ⟨some 44, .bin .lss (.t 42) (.t 43), none, [], [42, 43]⟩)])
    (.cond (.t 44)
     (.seq
      (.kill [44])
      .skip)
     (.seq
      (.kill [7, 44])
      (.exit 2))))
   (.seq
    (.block 3
     (.seq
      (.reg true [
        (0, ⟨some 47, .mv (.t 1), none, [], []⟩),
        (1, ⟨some 48, .mv (.t 7), none, [], []⟩),
        (2, ⟨some 49, .ia 1 (.t 47) (.t 48), none, [], []⟩),
        (3, ⟨some 50, .ld 1 false (.t 49), none, [], [47, 48, 49]⟩),
        (4, ⟨some 51, .mv (.t 1), none, [], []⟩),
        (5, ⟨some 52, .mv (.t 5), none, [], []⟩),
        (6, ⟨some 53, .ia 1 (.t 51) (.t 52), none, [], []⟩),
        (7, ⟨some 54, .ld 1 false (.t 53), none, [], [51, 52, 53]⟩),
        (8, ⟨some 55, .bin .eql (.t 50) (.t 54), none, [], [50, 54]⟩),
        (9, ⟨some 56, .mv (.t 55), none, [], [55]⟩),
        (10, ⟨some 57, .mv (.t 1), some (56, false), [], []⟩),
        (11, ⟨some 58, .mv (.t 7), some (56, false), [], []⟩),
        (12, ⟨some 59, .ia 1 (.t 57) (.t 58), some (56, false), [], []⟩),
        (13, ⟨some 60, .ld 1 false (.t 59), some (56, false), [], [57, 58, 59]⟩),
        (14, ⟨some 61, .mv (.t 1), some (56, false), [], []⟩),
        (15, ⟨some 62, .mv (.t 5), some (56, false), [], []⟩),
        (16, ⟨some 63, .ia 1 (.t 61) (.t 62), some (56, false), [], []⟩),
        (17, ⟨some 64, .ld 1 false (.t 63), some (56, false), [], [61, 62, 63]⟩),
        (18, ⟨some 65, .neg (.t 64), some (56, false), [], [64]⟩),
        (19, ⟨some 66, .bin .eql (.t 60) (.t 65), some (56, false), [], [60, 65]⟩),
        (20, ⟨some 67, .pick (.t 56) (.c (.bool true)) (.t 66), none, [], [56, 66]⟩)])
      (.cond (.t 67)
       (.seq
        (.kill [0, 1, 5, 7, 67])
        (.seq
         (.reg false [
           (0, ⟨some 4, .mv (.c (.bool false)), none, [], []⟩)])
         .ret))
       (.seq
        (.kill [67])
        .skip))))
    (.reg false [
      (0, ⟨some 45, .mv (.t 7), none, [], [7]⟩),
      (1, ⟨some 46, .bin .add (.t 45) (.c (.int .i64 (1))), none, [], [45]⟩),
      (2, ⟨some 7, .mv (.t 46), none, [], [46]⟩)])))
def L60_0 : CCode :=
  (.seq
   (.seq
    (.reg false [
      (0, ⟨some 8, .mv (.t 5), none, [], []⟩),
      (1, ⟨some 9, .mv (.t 1), none, [], []⟩),
      (2, ⟨some 10, .len (.t 9), none, [], [9]⟩),
      (3, ⟨some 11, .bin .lss (.t 8) (.t 10), none, [], [8, 10]⟩)])
    (.cond (.t 11)
     (.seq
      (.kill [11])
      .skip)
     (.seq
      (.kill [0, 1, 5, 11])
      (.exit 0))))
   (.seq
    (.block 1
     (.seq
      (.reg false [
        (0, ⟨some 14, .mv (.t 1), none, [], []⟩),
        (1, ⟨some 15, .mv (.t 5), none, [], []⟩),
        (2, ⟨some 16, .ia 1 (.t 14) (.t 15), none, [], []⟩),
        (3, ⟨some 17, .ld 1 false (.t 16), none, [], [14, 15, 16]⟩),
        (4, ⟨some 18, .max (.t 17) (.c (.int .i64 (0))), none, [], [17]⟩),
        (5, ⟨some 6, .mv (.t 18), none, [], [18]⟩)])
      (.seq
       (.seq
        (.reg false [
          (0, ⟨some 19, .mv (.t 1), none, [], []⟩),
          (1, ⟨some 20, .mv (.t 5), none, [], []⟩),
          (2, ⟨some 21, .ia 1 (.t 19) (.t 20), none, [], []⟩),
          (3, ⟨some 22, .ld 1 false (.t 21), none, [], [19, 20, 21]⟩),
          (4, ⟨some 23, .bin .lss (.t 22) (.c (.int .i64 (0))), none, [], [22]⟩),
          (5, ⟨some 24, .mv (.t 23), none, [], [23]⟩),
          (6, ⟨some 25, .mv (.t 1), some (24, true), [], []⟩),
          (7, ⟨some 26, .mv (.t 5), some (24, true), [], []⟩),
          (8, ⟨some 27, .ia 1 (.t 25) (.t 26), some (24, true), [], []⟩),
          (9, ⟨some 28, .ld 1 false (.t 27), some (24, true), [], [25, 26, 27]⟩),
          (10, ⟨some 29, .mv (.t 0), some (24, true), [], []⟩),
          (11, ⟨some 30, .neg (.t 29), some (24, true), [], [29]⟩),
          (12, ⟨some 31, .bin .geq (.t 28) (.t 30), some (24, true), [], [28, 30]⟩),
          (13, ⟨some 32, .pick (.t 24) (.t 31) (.c (.bool false)), none, [], [24, 31]⟩)])
        (.cond (.t 32)
         (.seq
          (.kill [6, 32])
          (.reg false [
            (0, ⟨some 33, .mv (.t 1), none, [], []⟩),
            (1, ⟨some 34, .mv (.t 5), none, [], []⟩),
            (2, ⟨some 35, .ia 1 (.t 33) (.t 34), none, [], []⟩),
            (3, ⟨some 36, .ld 1 false (.t 35), none, [], [33, 34, 35]⟩),
            (4, ⟨some 37, .neg (.t 36), none, [], [36]⟩),
            (5, ⟨some 6, .mv (.t 37), none, [], [37]⟩)]))
         (.seq
          (.kill [32])
          .skip)))
       (.seq
        (.seq
         (.reg false [
           (0, ⟨some 38, .mv (.t 6), none, [], [6]⟩),
           (1, ⟨some 39, .mv (.t 0), none, [], []⟩),
           (2, ⟨some 40, .call 61 [(.t 38), (.c (.int .i64 (1))), (.t 39)], none, [], [38, 39]⟩),
           (3, ⟨some 41, .not (.t 40), none, [], [40]⟩)])
         (.cond (.t 41)
          (.seq
           (.kill [0, 1, 5, 41])
           (.seq
            (.reg false [
              (0, ⟨some 4, .mv (.c (.bool false)), none, [], []⟩)])
            .ret))
          (.seq
           (.kill [41])
           .skip)))
        (.seq
         (.reg false [
           (0, ⟨some 7, .mv (.c (.int .i64 (0))), none, [], []⟩)])
         (.block 2
          (.loop L60_1)))))))
    (.reg false [
      (0, ⟨some 12, .mv (.t 5), none, [], [5]⟩),
      (1, ⟨some 13, .bin .add (.t 12) (.c (.int .i64 (1))), none, [], [12]⟩),
      (2, ⟨some 5, .mv (.t 13), none, [], [13]⟩)])))
def B60 : CCode :=
  (.seq
   (.reg false [
     (0, ⟨some 4, .mv (.c (.bool false)), none, [], [4]⟩)])
   (.seq
    (.seq
     (.reg false [
       (0, ⟨some 5, .mv (.c (.int .i64 (0))), none, [], []⟩)])
     (.block 0
      (.loop L60_0)))
    (.seq
     (.reg false [
       (0, ⟨some 4, .mv (.c (.bool true)), none, [], []⟩)])
     .ret)))
def C60 : CFn := ⟨68, 2, [.t 4], B60⟩

/-- spec.l1In -/
def B61 : CCode :=
  (.seq
   (.reg false [
     (0, ⟨some 6, .mv (.c (.bool false)), none, [], [6]⟩)])
   (.seq
    (.reg false [
      (0, ⟨some 7, .mv (.t 0), none, [], []⟩),
      (1, ⟨some 8, .mv (.t 1), none, [], [1]⟩),
      (2, ⟨some 9, .bin .geq (.t 7) (.t 8), none, [], [7, 8]⟩),
      (3, ⟨some 10, .mv (.t 9), none, [], [9]⟩),
      (4, ⟨some 11, .mv (.t 0), some (10, true), [], [0]⟩),
      (5, ⟨some 12, .mv (.t 2), some (10, true), [], [2]⟩),
      (6, ⟨some 13, .bin .leq (.t 11) (.t 12), some (10, true), [], [11, 12]⟩),
      (7, ⟨some 14, .pick (.t 10) (.t 13) (.c (.bool false)), none, [], [10, 13]⟩),
      (8, ⟨some 6, .mv (.t 14), none, [], [14]⟩)])
    .ret))
def C61 : CFn := ⟨15, 3, [.t 6], B61⟩

/-- impl.areClauses -/
def B62 : CCode :=
  (.seq
   (.reg false [
     (0, ⟨some 2, .box 1 (.t 0), none, [], [0]⟩),
     (1, ⟨some 4, .mv (.c (.bool false)), none, [], [4]⟩)])
   (.seq
    (.reg false [
      (0, ⟨some 5, .ld 1 false (.t 2), none, [], []⟩),
      (1, ⟨some 6, .call 75 [(.t 5), (.c (.int .i64 (0))), (.c (.int .i64 (14)))], none, [], [5]⟩),
      (2, ⟨some 7, .mv (.t 6), none, [], [6]⟩),
      (3, ⟨some 8, .mv (.t 1), some (7, true), [], [1]⟩),
      (4, ⟨some 9, .fn 76 [(.t 2)], some (7, true), [], []⟩),
      (5, ⟨some 10, .call 53 [(.t 8), (.t 9)], some (7, true), [], [2, 8, 9]⟩),
      (6, ⟨some 11, .not (.t 10), some (7, true), [], [10]⟩),
      (7, ⟨some 12, .pick (.t 7) (.t 11) (.c (.bool false)), none, [], [7, 11]⟩),
      (8, ⟨some 4, .mv (.t 12), none, [], [12]⟩)])
    .ret))
def C62 : CFn := ⟨13, 2, [.t 4], B62⟩

/-- impl.isClause -/
def L63_0 : CCode :=
  (.seq
   (.reg false [
     (0, ⟨some 10, .bin .lss (.t 9) (.t 8), none, [], []⟩)])
   (.seq
    (.cond (.t 10)
     (.seq
      (.kill [10])
      .skip)
     (.seq
      (.kill [0, 1, 7, 8, 9, 10])
      (.exit 0)))
    (.seq
     (.block 1
      (.seq
       (.reg false [
         (0, ⟨some 11, .mv (.t 9), none, [], []⟩),
         (1, ⟨some 12, .ia 1 (.t 7) (.t 9), none, [], []⟩),
         (2, ⟨some 13, .ld 1 false (.t 12), none, [], [12]⟩),
         (3, ⟨some 5, .mv (.t 11), none, [], [11]⟩),
         (4, ⟨some 6, .mv (.t 13), none, [], [13]⟩)])
       (.seq
        (.reg false [
          (0, ⟨some 14, .mv (.t 6), none, [], []⟩),
          (1, ⟨some 15, .bin .eql (.t 14) (.c (.int .i64 (0))), none, [], [14]⟩),
          (2, ⟨some 16, .mv (.t 15), none, [], [15]⟩),
          (3, ⟨some 17, .mv (.t 6), some (16, false), [], []⟩),
          (4, ⟨some 18, .mv (.t 0), some (16, false), [], []⟩),
          (5, ⟨some 19, .neg (.t 18), some (16, false), [], [18]⟩),
          (6, ⟨some 20, .mv (.t 0), some (16, false), [], []⟩),
          (7, ⟨some 21, .call 75 [(.t 17), (.t 19), (.t 20)], some (16, false), [], [17, 19, 20]⟩),
          (8, ⟨some 22, .not (.t 21), some (16, false), [], [21]⟩),
          (9, ⟨some 23, .pick (.t 16) (.c (.bool true)) (.t 22), none, [], [16, 22]⟩),
          (10, ⟨some 24, .mv (.t 23), none, [], [23]⟩),
          (11, ⟨some 25, .mv (.t 1), some (24, false), [], []⟩),
          (12, ⟨some 26, .mv (.t 5), some (24, false), [], []⟩),
          (13, ⟨some 27, .sls 1 (.t 25) none (some (.t 26)) none, some (24, false), [], [25, 26]⟩),
          (14, ⟨some 28, .mv (.t 6), some (24, false), [], []⟩),
          (15, ⟨some 29, .call 73 [(.t 27), (.t 28)], some (24, false), [], [27, 28]⟩),
          (16, ⟨some 30, .pick (.t 24) (.c (.bool true)) (.t 29), none, [], [24, 29]⟩),
          (17, ⟨some 31, .mv (.t 30), none, [], [30]⟩),
          (18, ⟨some 32, .mv (.t 1), some (31, false), [], []⟩),
          (19, ⟨some 33, .mv (.t 5), some (31, false), [], [5]⟩),
          (20, ⟨some 34, .sls 1 (.t 32) none (some (.t 33)) none, some (31, false), [], [32, 33]⟩),
          (21, ⟨some 35, .mv (.t 6), some (31, false), [], [6]⟩),
          (22, ⟨some 36, .neg (.t 35), some (31, false), [], [35]⟩),
          (23, ⟨some 37, .call 73 [(.t 34), (.t 36)], some (31, false), [], [34, 36]⟩),
          (24, ⟨some 38, .pick (.t 31) (.c (.bool true)) (.t 37), none, [], [31, 37]⟩)])
        (.cond (.t 38)
         (.seq
          (.kill [0, 1, 7, 8, 9, 38])
          (.seq
           (.reg false [
             (0, ⟨some 4, .mv (.c (.bool false)), none, [], []⟩)])
           .ret))
         (.seq
          (.kill [38])
          .skip)))))
     (.reg false [
       (0, ⟨some 39, .bin .add (.t 9) (.c (.int .i64 (1))), none, [], [9]⟩),
       (1, ⟨some 9, .mv (.t 39), none, [], [39]⟩)]))))
def B63 : CCode :=
  (.seq
   (.reg false [
     (0, ⟨some 4, .mv (.c (.bool false)), none, [], [4]⟩)])
   (.seq
    (.seq
     (.reg false [
       (0, ⟨some 7, .mv (.t 1), none, [], []⟩),
       (1, ⟨some 8, .len (.t 7), none, [], []⟩),
       (2, ⟨some 9, .mv (.c (.int .i64 (0))), none, [], []⟩)])
     (.block 0
      (.loop L63_0)))
    (.seq
     (.reg false [
       (0, ⟨some 4, .mv (.c (.bool true)), none, [], []⟩)])
     .ret)))
def C63 : CFn := ⟨40, 2, [.t 4], B63⟩

/-- impl.propagate -/
def L64_1 : CCode :=
  (.seq
   (.reg false [
     (0, ⟨some 17, .bin .lss (.t 16) (.t 15), none, [], []⟩)])
   (.seq
    (.cond (.t 17)
     (.seq
      (.kill [17])
      .skip)
     (.seq
      (.kill [14, 15, 16, 17])
      (.exit 2)))
    (.seq
     (.block 3
      (.seq
       (.reg false [
         (0, ⟨some 18, .ia 1 (.t 14) (.t 16), none, [], []⟩),
         (1, ⟨some 19, .ld 1 false (.t 18), none, [], [18]⟩),
         (2, ⟨some 9, .mv (.t 19), none, [], [19]⟩)])
       (.seq
        (.seq
         (.reg false [
           (0, ⟨some 20, .mv (.t 9), none, [], []⟩),
           (1, ⟨some 21, .fn 77 [(.t 6)], none, [], []⟩),
           (2, ⟨some 22, .call 57 [(.t 20), (.t 21)], none, [], [20, 21]⟩)])
         (.cond (.t 22)
          (.seq
           (.kill [9, 22])
           (.exit 3))
          (.seq
           (.kill [22])
           .skip)))
        (.seq
         (.reg false [
           (0, ⟨some 23, .mv (.t 9), none, [], [9]⟩),
           (1, ⟨some 24, .ld 1 false (.t 6), none, [], []⟩),
           (2, ⟨some 25, .call 17 [(.t 24)], none, [], [24]⟩),
           (3, ⟨some 26, .call 78 [(.t 23), (.t 25)], none, [], [23, 25]⟩),
           (4, ⟨some 10, .mv (.t 26), none, [], [26]⟩)])
         (.seq
          (.seq
           (.reg false [
             (0, ⟨some 27, .mv (.t 10), none, [], []⟩),
             (1, ⟨some 28, .len (.t 27), none, [], [27]⟩),
             (2, ⟨some 29, .bin .eql (.t 28) (.c (.int .i64 (0))), none, [], [28]⟩)])
           (.cond (.t 29)
            (.seq
             (.kill [0, 7, 10, 14, 15, 16, 29])
             (.seq
              (.reg false [
                (0, ⟨some 30, .ld 1 false (.t 6), none, [], []⟩),
                (1, ⟨some 4, .mv (.t 30), none, [], [30]⟩),
                (2, ⟨some 5, .mv (.c (.bool true)), none, [], []⟩)])
              .ret))
            (.seq
             (.kill [29])
             .skip)))
          (.seq
           (.reg false [
             (0, ⟨some 31, .mv (.t 10), none, [], []⟩),
             (1, ⟨some 32, .len (.t 31), none, [], [31]⟩),
             (2, ⟨some 33, .bin .eql (.t 32) (.c (.int .i64 (1))), none, [], [32]⟩)])
           (.cond (.t 33)
            (.seq
             (.kill [7, 14, 15, 16, 33])
             (.seq
              (.reg true [
                (0, ⟨some 34, .ld 1 false (.t 6), none, [], []⟩),
                (1, ⟨some 35, .mv (.t 10), none, [], [10]⟩),
                (2, ⟨some 36, .ia 1 (.t 35) (.c (.int .i64 (0))), none, [], []⟩),
                (3, ⟨some 37, .ld 1 false (.t 36), none, [], [35, 36]⟩),
                (4, ⟨some 38, .bsl 1 1 [.int .i64 (0)] [(0, 1, (.t 37))], none, [], [37]⟩),
                (5, ⟨some 39, .app 1 8 (.t 34) (.t 38), none, [], [34, 38]⟩),
                (6, ⟨none, .st 1 (.t 6) (.t 39), none, [], [39]⟩),
                (7, ⟨some 7, .mv (.c (.bool true)), none, [], []⟩)])
              (.exit 2)))
            (.seq
             (.kill [10, 33])
             .skip))))))))
     (.reg false [
       (0, ⟨some 40, .bin .add (.t 16) (.c (.int .i64 (1))), none, [], [16]⟩),
       (1, ⟨some 16, .mv (.t 40), none, [], [40]⟩)]))))
def L64_0 : CCode :=
  (.block 1
   (.seq
    (.reg false [
      (0, ⟨some 7, .mv (.c (.bool false)), none, [], []⟩)])
    (.seq
     (.seq
      (.reg false [
        (0, ⟨some 14, .mv (.t 0), none, [], []⟩),
        (1, ⟨some 15, .len (.t 14), none, [], []⟩),
        (2, ⟨some 16, .mv (.c (.int .i64 (0))), none, [], []⟩)])
      (.block 2
       (.loop L64_1)))
     (.seq
      (.reg false [
        (0, ⟨some 41, .mv (.t 7), none, [], [7]⟩),
        (1, ⟨some 42, .not (.t 41), none, [], [41]⟩)])
      (.cond (.t 42)
       (.seq
        (.kill [0, 42])
        (.seq
         (.reg false [
           (0, ⟨some 43, .ld 1 false (.t 6), none, [], []⟩),
           (1, ⟨some 4, .mv (.t 43), none, [], [43]⟩),
           (2, ⟨some 5, .mv (.c (.bool false)), none, [], []⟩)])
         .ret))
       (.seq
        (.kill [42])
        .skip))))))
def B64 : CCode :=
  (.seq
   (.reg false [
     (0, ⟨some 4, .mv (.c (.nils)), none, [], [4]⟩),
     (1, ⟨some 5, .mv (.c (.bool false)), none, [], [5]⟩)])
   (.seq
    (.reg false [
      (0, ⟨some 11, .bsl 1 0 [.int .i64 (0)] [], none, [], []⟩),
      (1, ⟨some 12, .mv (.t 1), none, [], [1]⟩),
      (2, ⟨some 13, .app 1 8 (.t 11) (.t 12), none, [], [11, 12]⟩),
      (3, ⟨some 6, .al [.nils], none, [], []⟩),
      (4, ⟨none, .st 1 (.t 6) (.t 13), none, [], [13]⟩)])
    (.block 0
     (.loop L64_0))))
def C64 : CFn := ⟨44, 2, [.t 4, .t 5], B64⟩

/-- spec.l21Units -/
def L65_1 : CCode :=
  (.seq
   (.seq
    (.reg false [
      (0, ⟨some 15, .mv (.t 8), none, [], []⟩),
      (1, ⟨some 16, .mv (.t 0), none, [], []⟩),
      (2, ⟨some 17, .len (.t 16), none, [], [16]⟩),
      (3, ⟨some 18, .bin .lss (.t 15) (.t 17), none, [], [15, 17]⟩),
      (4, ⟨some 19, .mv (.t 18), none, [], [18]⟩),
      (5, ⟨some 20, .mv (.t 7), some (19, true), [], []⟩),
      (6, ⟨some 21, .not (.t 20), some (19, true), [], [20]⟩),
      (7, ⟨some 22, .pick (.t 19) (.t 21) (.c (.bool false)), none, [], [19, 21]⟩)])
    (.cond (.t 22)
     (.seq
      (.kill [22])
      .skip)
     (.seq
      (.kill [8, 22])
      (.exit 2))))
   (.seq
    (.block 3
     (.seq
      (.reg false [
        (0, ⟨some 26, .mv (.t 0), none, [], []⟩),
        (1, ⟨some 27, .mv (.t 8), none, [], []⟩),
        (2, ⟨some 28, .ia 1 (.t 26) (.t 27), none, [], []⟩),
        (3, ⟨some 29, .ld 1 false (.t 28), none, [], [28]⟩),
        (4, ⟨some 30, .mv (.t 6), none, [], []⟩),
        (5, ⟨some 31, .call 79 [(.t 29), (.t 30)], none, [], [26, 27, 29, 30]⟩),
        (6, ⟨some 25, .mv (.t 31), none, [], [31]⟩),
        (7, ⟨some 32, .ex (.t 25) 0, none, [], []⟩),
        (8, ⟨some 33, .ex (.t 25) 1, none, [], [25]⟩),
        (9, ⟨some 9, .mv (.t 32), none, [], [32]⟩),
        (10, ⟨some 10, .mv (.t 33), none, [], [33]⟩)])
      (.seq
       (.seq
        (.reg false [
          (0, ⟨some 34, .mv (.t 10), none, [], [10]⟩)])
        (.cond (.t 34)
         (.seq
          (.kill [9, 34])
          (.exit 3))
         (.seq
          (.kill [34])
          .skip)))
       (.seq
        (.seq
         (.reg false [
           (0, ⟨some 35, .mv (.t 9), none, [], []⟩),
           (1, ⟨some 36, .len (.t 35), none, [], [35]⟩),
           (2, ⟨some 37, .bin .eql (.t 36) (.c (.int .i64 (0))), none, [], [36]⟩)])
         (.cond (.t 37)
          (.seq
           (.kill [0, 7, 8, 9, 37])
           (.seq
            (.reg false [
              (0, ⟨some 38, .mv (.t 6), none, [], [6]⟩),
              (1, ⟨some 4, .mv (.t 38), none, [], [38]⟩),
              (2, ⟨some 5, .mv (.c (.bool true)), none, [], []⟩)])
            .ret))
          (.seq
           (.kill [37])
           .skip)))
        (.seq
         (.reg false [
           (0, ⟨some 39, .mv (.t 9), none, [], []⟩),
           (1, ⟨some 40, .len (.t 39), none, [], [39]⟩),
           (2, ⟨some 41, .bin .eql (.t 40) (.c (.int .i64 (1))), none, [], [40]⟩)])
         (.cond (.t 41)
          (.seq
           (.kill [7, 41])
           (.seq
            (.reg false [
              (0, ⟨some 42, .mv (.t 6), none, [], [6]⟩),
              (1, ⟨some 43, .mv (.t 9), none, [], [9]⟩),
              (2, ⟨some 44, .ia 1 (.t 43) (.c (.int .i64 (0))), none, [], []⟩),
              (3, ⟨some 45, .ld 1 false (.t 44), none, [], [43, 44]⟩),
              (4, ⟨some 46, .bsl 1 1 [.int .i64 (0)] [(0, 1, (.t 45))], none, [], [45]⟩),
              (5, ⟨some 47, .app 1 8 (.t 42) (.t 46), none, [], [42, 46]⟩),
              (6, ⟨some 6, .mv (.t 47), none, [], [47]⟩)])
            (.reg false [
              (0, ⟨some 7, .mv (.c (.bool true)), none, [], []⟩)])))
          (.seq
           (.kill [9, 41])
           .skip)))))))
    (.reg false [
      (0, ⟨some 23, .mv (.t 8), none, [], [8]⟩),
      (1, ⟨some 24, .bin .add (.t 23) (.c (.int .i64 (1))), none, [], [23]⟩),
      (2, ⟨some 8, .mv (.t 24), none, [], [24]⟩)])))
def L65_0 : CCode :=
  (.seq
   (.seq
    (.reg false [
      (0, ⟨some 14, .mv (.t 7), none, [], [7]⟩)])
    (.cond (.t 14)
     (.seq
      (.kill [14])
      .skip)
     (.seq
      (.kill [0, 14])
      (.exit 0))))
   (.block 1
    (.seq
     (.reg false [
       (0, ⟨some 7, .mv (.c (.bool false)), none, [], []⟩)])
     (.seq
      (.reg false [
        (0, ⟨some 8, .mv (.c (.int .i64 (0))), none, [], []⟩)])
      (.block 2
       (.loop L65_1))))))
def B65 : CCode :=
  (.seq
   (.reg false [
     (0, ⟨some 4, .mv (.c (.nils)), none, [], [4]⟩),
     (1, ⟨some 5, .mv (.c (.bool false)), none, [], [5]⟩)])
   (.seq
    (.reg false [
      (0, ⟨some 11, .bsl 1 0 [.int .i64 (0)] [], none, [], []⟩),
      (1, ⟨some 12, .mv (.t 1), none, [], [1]⟩),
      (2, ⟨some 13, .app 1 8 (.t 11) (.t 12), none, [], [11, 12]⟩),
      (3, ⟨some 6, .mv (.t 13), none, [], [13]⟩)])
    (.seq
     (.seq
      (.reg false [
        (0, ⟨some 7, .mv (.c (.bool true)), none, [], []⟩)])
      (.block 0
       (.loop L65_0)))
     (.seq
      (.reg false [
        (0, ⟨some 48, .mv (.t 6), none, [], [6]⟩),
        (1, ⟨some 4, .mv (.t 48), none, [], [48]⟩),
        (2, ⟨some 5, .mv (.c (.bool false)), none, [], []⟩)])
      .ret))))
def C65 : CFn := ⟨49, 2, [.t 4, .t 5], B65⟩

/-- slices.Clone[[][]int,[]int] -/
def B66 : CCode :=
  (.seq
   (.reg false [
     (0, ⟨some 2, .mv (.c (.nils)), none, [], [2]⟩)])
   (.seq
    (.seq
     (.reg false [
       (0, ⟨some 3, .mv (.t 0), none, [], []⟩),
       (1, ⟨some 4, .isnil false (.t 3), none, [], [3]⟩)])
     (.cond (.t 4)
      (.seq
       (.kill [0, 4])
       (.seq
        (.reg false [
          (0, ⟨some 2, .mv (.c (.nils)), none, [], []⟩)])
        .ret))
      (.seq
       (.kill [4])
       .skip)))
    (.seq
     (.reg false [
       (0, ⟨some 5, .bsl 1 0 [.nils] [], none, [], []⟩),
       (1, ⟨some 6, .mv (.t 0), none, [], [0]⟩),
       (2, ⟨some 7, .app 1 24 (.t 5) (.t 6), none, [], [5, 6]⟩),
       (3, ⟨some 2, .mv (.t 7), none, [], [7]⟩)])
     .ret)))
def C66 : CFn := ⟨8, 1, [.t 2], B66⟩

/-- spec.l7Has -/
def L70_0 : CCode :=
  (.seq
   (.seq
    (.reg false [
      (0, ⟨some 6, .mv (.t 5), none, [], []⟩),
      (1, ⟨some 7, .mv (.t 0), none, [], []⟩),
      (2, ⟨some 8, .len (.t 7), none, [], [7]⟩),
      (3, ⟨some 9, .bin .lss (.t 6) (.t 8), none, [], [6, 8]⟩)])
    (.cond (.t 9)
     (.seq
      (.kill [9])
      .skip)
     (.seq
      (.kill [0, 1, 5, 9])
      (.exit 0))))
   (.seq
    (.block 1
     (.seq
      (.reg false [
        (0, ⟨some 12, .mv (.t 0), none, [], []⟩),
        (1, ⟨some 13, .mv (.t 5), none, [], []⟩),
        (2, ⟨some 14, .ia 1 (.t 12) (.t 13), none, [], []⟩),
        (3, ⟨some 15, .ld 1 false (.t 14), none, [], [12, 13, 14]⟩),
        (4, ⟨some 16, .mv (.t 1), none, [], []⟩),
        (5, ⟨some 17, .bin .eql (.t 15) (.t 16), none, [], [15, 16]⟩)])
      (.cond (.t 17)
       (.seq
        (.kill [0, 1, 5, 17])
        (.seq
         (.reg false [
           (0, ⟨some 4, .mv (.c (.bool true)), none, [], []⟩)])
         .ret))
       (.seq
        (.kill [17])
        .skip))))
    (.reg false [
      (0, ⟨some 10, .mv (.t 5), none, [], [5]⟩),
      (1, ⟨some 11, .bin .add (.t 10) (.c (.int .i64 (1))), none, [], [10]⟩),
      (2, ⟨some 5, .mv (.t 11), none, [], [11]⟩)])))
def B70 : CCode :=
  (.seq
   (.reg false [
     (0, ⟨some 4, .mv (.c (.bool false)), none, [], [4]⟩)])
   (.seq
    (.seq
     (.reg false [
       (0, ⟨some 5, .mv (.c (.int .i64 (0))), none, [], []⟩)])
     (.block 0
      (.loop L70_0)))
    (.seq
     (.reg false [
       (0, ⟨some 4, .mv (.c (.bool false)), none, [], []⟩)])
     .ret)))
def C70 : CFn := ⟨18, 2, [.t 4], B70⟩

/-- slices.IndexFunc[[][]int,[]int] -/
def L71_0 : CCode :=
  (.seq
   (.reg false [
     (0, ⟨some 9, .bin .lss (.t 8) (.t 7), none, [], []⟩)])
   (.seq
    (.cond (.t 9)
     (.seq
      (.kill [9])
      .skip)
     (.seq
      (.kill [0, 1, 7, 8, 9])
      (.exit 0)))
    (.seq
     (.block 1
      (.seq
       (.reg false [
         (0, ⟨some 10, .mv (.t 8), none, [], []⟩),
         (1, ⟨some 5, .mv (.t 10), none, [], [10]⟩)])
       (.seq
        (.reg false [
          (0, ⟨some 11, .mv (.t 1), none, [], []⟩),
          (1, ⟨some 12, .mv (.t 0), none, [], []⟩),
          (2, ⟨some 13, .mv (.t 5), none, [], []⟩),
          (3, ⟨some 14, .ia 1 (.t 12) (.t 13), none, [], []⟩),
          (4, ⟨some 15, .ld 1 false (.t 14), none, [], [14]⟩),
          (5, ⟨some 16, .callv (.t 11) [(.t 15)], none, [], [11, 12, 13, 15]⟩)])
        (.cond (.t 16)
         (.seq
          (.kill [0, 1, 7, 8, 16])
          (.seq
           (.reg false [
             (0, ⟨some 17, .mv (.t 5), none, [], [5]⟩),
             (1, ⟨some 4, .mv (.t 17), none, [], [17]⟩)])
           .ret))
         (.seq
          (.kill [5, 16])
          .skip)))))
     (.reg false [
       (0, ⟨some 18, .bin .add (.t 8) (.c (.int .i64 (1))), none, [], [8]⟩),
       (1, ⟨some 8, .mv (.t 18), none, [], [18]⟩)]))))
def B71 : CCode :=
  (.seq
   (.reg false [
     (0, ⟨some 4, .mv (.c (.int .i64 (0))), none, [], [4]⟩)])
   (.seq
    (.seq
     (.reg false [
       (0, ⟨some 6, .mv (.t 0), none, [], []⟩),
       (1, ⟨some 7, .len (.t 6), none, [], [6]⟩),
       (2, ⟨some 8, .mv (.c (.int .i64 (0))), none, [], []⟩)])
     (.block 0
      (.loop L71_0)))
    (.seq
     (.reg false [
       (0, ⟨some 4, .mv (.c (.int .i64 (-1))), none, [], []⟩)])
     .ret)))
def C71 : CFn := ⟨19, 2, [.t 4], B71⟩

/-- slices.Contains[[]int,int] -/
def B73 : CCode :=
  (.seq
   (.reg false [
     (0, ⟨some 4, .mv (.c (.bool false)), none, [], [4]⟩)])
   (.seq
    (.reg false [
      (0, ⟨some 5, .mv (.t 0), none, [], [0]⟩),
      (1, ⟨some 6, .mv (.t 1), none, [], [1]⟩),
      (2, ⟨some 7, .call 83 [(.t 5), (.t 6)], none, [], [5, 6]⟩),
      (3, ⟨some 8, .bin .geq (.t 7) (.c (.int .i64 (0))), none, [], [7]⟩),
      (4, ⟨some 4, .mv (.t 8), none, [], [8]⟩)])
    .ret))
def C73 : CFn := ⟨9, 2, [.t 4], B73⟩

/-- slices.IndexFunc[[]int,int] -/
def L74_0 : CCode :=
  (.seq
   (.reg false [
     (0, ⟨some 9, .bin .lss (.t 8) (.t 7), none, [], []⟩)])
   (.seq
    (.cond (.t 9)
     (.seq
      (.kill [9])
      .skip)
     (.seq
      (.kill [0, 1, 7, 8, 9])
      (.exit 0)))
    (.seq
     (.block 1
      (.seq
       (.reg false [
         (0, ⟨some 10, .mv (.t 8), none, [], []⟩),
         (1, ⟨some 5, .mv (.t 10), none, [], [10]⟩)])
       (.seq
        (.reg false [
          (0, ⟨some 11, .mv (.t 1), none, [], []⟩),
          (1, ⟨some 12, .mv (.t 0), none, [], []⟩),
          (2, ⟨some 13, .mv (.t 5), none, [], []⟩),
          (3, ⟨some 14, .ia 1 (.t 12) (.t 13), none, [], []⟩),
          (4, ⟨some 15, .ld 1 false (.t 14), none, [], [12, 13, 14]⟩),
          (5, ⟨some 16, .callv (.t 11) [(.t 15)], none, [], [11, 15]⟩)])
        (.cond (.t 16)
         (.seq
          (.kill [0, 1, 7, 8, 16])
          (.seq
           (.reg false [
             (0, ⟨some 17, .mv (.t 5), none, [], [5]⟩),
             (1, ⟨some 4, .mv (.t 17), none, [], [17]⟩)])
           .ret))
         (.seq
          (.kill [5, 16])
          .skip)))))
     (.reg false [
       (0, ⟨some 18, .bin .add (.t 8) (.c (.int .i64 (1))), none, [], [8]⟩),
       (1, ⟨some 8, .mv (.t 18), none, [], [18]⟩)]))))
def B74 : CCode :=
  (.seq
   (.reg false [
     (0, ⟨some 4, .mv (.c (.int .i64 (0))), none, [], [4]⟩)])
   (.seq
    (.seq
     (.reg false [
       (0, ⟨some 6, .mv (.t 0), none, [], []⟩),
       (1, ⟨some 7, .len (.t 6), none, [], [6]⟩),
       (2, ⟨some 8, .mv (.c (.int .i64 (0))), none, [], []⟩)])
     (.block 0
      (.loop L74_0)))
    (.seq
     (.reg false [
       (0, ⟨some 4, .mv (.c (.int .i64 (-1))), none, [], []⟩)])
     .ret)))
def C74 : CFn := ⟨19, 2, [.t 4], B74⟩

/-- impl.within -/
def B75 : CCode :=
  (.seq
   (.reg false [
     (0, ⟨some 6, .mv (.c (.bool false)), none, [], [6]⟩)])
   (.seq
    (.reg false [
      (0, ⟨some 7, .mv (.t 1), none, [], [1]⟩),
      (1, ⟨some 8, .mv (.t 0), none, [], []⟩),
      (2, ⟨some 9, .bin .leq (.t 7) (.t 8), none, [], [7, 8]⟩),
      (3, ⟨some 10, .mv (.t 9), none, [], [9]⟩),
      (4, ⟨some 11, .mv (.t 0), some (10, true), [], [0]⟩),
      (5, ⟨some 12, .mv (.t 2), some (10, true), [], [2]⟩),
      (6, ⟨some 13, .bin .leq (.t 11) (.t 12), some (10, true), [], [11, 12]⟩),
      (7, ⟨some 14, .pick (.t 10) (.t 13) (.c (.bool false)), none, [], [10, 13]⟩),
      (8, ⟨some 6, .mv (.t 14), none, [], [14]⟩)])
    .ret))
def C75 : CFn := ⟨15, 3, [.t 6], B75⟩

/-- impl.areClauses$1 -/
def B76 : CCode :=
  (.seq
   (.reg false [
     (0, ⟨some 3, .mv (.c (.bool false)), none, [], [3]⟩)])
   (.seq
    (.reg false [
      (0, ⟨some 4, .ld 1 false (.t 1), none, [], [1]⟩),
      (1, ⟨some 5, .mv (.t 0), none, [], [0]⟩),
      (2, ⟨some 6, .call 63 [(.t 4), (.t 5)], none, [], [4, 5]⟩),
      (3, ⟨some 7, .not (.t 6), none, [], [6]⟩),
      (4, ⟨some 3, .mv (.t 7), none, [], [7]⟩)])
    .ret))
def C76 : CFn := ⟨8, 2, [.t 3], B76⟩

/-- impl.propagate$1 -/
def B77 : CCode :=
  (.seq
   (.reg false [
     (0, ⟨some 3, .mv (.c (.bool false)), none, [], [3]⟩)])
   (.seq
    (.reg false [
      (0, ⟨some 4, .ld 1 false (.t 1), none, [], []⟩),
      (1, ⟨some 5, .mv (.t 0), none, [], [0]⟩),
      (2, ⟨some 6, .call 73 [(.t 4), (.t 5)], none, [], [1, 4, 5]⟩),
      (3, ⟨some 3, .mv (.t 6), none, [], [6]⟩)])
    .ret))
def C77 : CFn := ⟨7, 2, [.t 3], B77⟩

/-- impl.without -/
def L78_0 : CCode :=
  (.seq
   (.reg false [
     (0, ⟨some 12, .bin .lss (.t 11) (.t 10), none, [], []⟩)])
   (.seq
    (.cond (.t 12)
     (.seq
      (.kill [12])
      .skip)
     (.seq
      (.kill [1, 9, 10, 11, 12])
      (.exit 0)))
    (.seq
     (.block 1
      (.seq
       (.reg false [
         (0, ⟨some 13, .ia 1 (.t 9) (.t 11), none, [], []⟩),
         (1, ⟨some 14, .ld 1 false (.t 13), none, [], [13]⟩),
         (2, ⟨some 7, .mv (.t 14), none, [], [14]⟩)])
       (.seq
        (.reg false [
          (0, ⟨some 15, .mv (.t 1), none, [], []⟩),
          (1, ⟨some 16, .mv (.t 7), none, [], []⟩),
          (2, ⟨some 17, .call 73 [(.t 15), (.t 16)], none, [], [15, 16]⟩),
          (3, ⟨some 18, .not (.t 17), none, [], [17]⟩)])
        (.cond (.t 18)
         (.seq
          (.kill [18])
          (.reg false [
            (0, ⟨some 19, .mv (.t 5), none, [], [5]⟩),
            (1, ⟨some 20, .mv (.t 7), none, [], [7]⟩),
            (2, ⟨some 21, .bsl 1 1 [.int .i64 (0)] [(0, 1, (.t 20))], none, [], [20]⟩),
            (3, ⟨some 22, .app 1 8 (.t 19) (.t 21), none, [], [19, 21]⟩),
            (4, ⟨some 5, .mv (.t 22), none, [], [22]⟩)]))
         (.seq
          (.kill [7, 18])
          .skip)))))
     (.reg false [
       (0, ⟨some 23, .bin .add (.t 11) (.c (.int .i64 (1))), none, [], [11]⟩),
       (1, ⟨some 11, .mv (.t 23), none, [], [23]⟩)]))))
def B78 : CCode :=
  (.seq
   (.reg false [
     (0, ⟨some 4, .mv (.c (.nils)), none, [], [4]⟩)])
   (.seq
    (.reg false [
      (0, ⟨some 8, .bsl 1 0 [.int .i64 (0)] [], none, [], []⟩),
      (1, ⟨some 5, .mv (.t 8), none, [], [8]⟩)])
    (.seq
     (.seq
      (.reg false [
        (0, ⟨some 9, .mv (.t 0), none, [], [0]⟩),
        (1, ⟨some 10, .len (.t 9), none, [], []⟩),
        (2, ⟨some 11, .mv (.c (.int .i64 (0))), none, [], []⟩)])
      (.block 0
       (.loop L78_0)))
     (.seq
      (.reg false [
        (0, ⟨some 24, .mv (.t 5), none, [], [5]⟩),
        (1, ⟨some 4, .mv (.t 24), none, [], [24]⟩)])
      .ret))))
def C78 : CFn := ⟨25, 2, [.t 4], B78⟩

/-- spec.l21Left -/
def L79_0 : CCode :=
  (.seq
   (.seq
    (.reg false [
      (0, ⟨some 9, .mv (.t 7), none, [], []⟩),
      (1, ⟨some 10, .mv (.t 0), none, [], []⟩),
      (2, ⟨some 11, .len (.t 10), none, [], [10]⟩),
      (3, ⟨some 12, .bin .lss (.t 9) (.t 11), none, [], [9, 11]⟩)])
    (.cond (.t 12)
     (.seq
      (.kill [12])
      .skip)
     (.seq
      (.kill [0, 1, 7, 12])
      (.exit 0))))
   (.seq
    (.block 1
     (.seq
      (.seq
       (.reg false [
         (0, ⟨some 15, .mv (.t 1), none, [], []⟩),
         (1, ⟨some 16, .mv (.t 0), none, [], []⟩),
         (2, ⟨some 17, .mv (.t 7), none, [], []⟩),
         (3, ⟨some 18, .ia 1 (.t 16) (.t 17), none, [], []⟩),
         (4, ⟨some 19, .ld 1 false (.t 18), none, [], [16, 17, 18]⟩),
         (5, ⟨some 20, .call 70 [(.t 15), (.t 19)], none, [], [15, 19]⟩)])
       (.cond (.t 20)
        (.seq
         (.kill [0, 1, 7, 20])
         (.seq
          (.reg false [
            (0, ⟨some 21, .mv (.t 6), none, [], [6]⟩),
            (1, ⟨some 4, .mv (.t 21), none, [], [21]⟩),
            (2, ⟨some 5, .mv (.c (.bool true)), none, [], []⟩)])
          .ret))
        (.seq
         (.kill [20])
         .skip)))
      (.seq
       (.reg false [
         (0, ⟨some 22, .mv (.t 1), none, [], []⟩),
         (1, ⟨some 23, .mv (.t 0), none, [], []⟩),
         (2, ⟨some 24, .mv (.t 7), none, [], []⟩),
         (3, ⟨some 25, .ia 1 (.t 23) (.t 24), none, [], []⟩),
         (4, ⟨some 26, .ld 1 false (.t 25), none, [], [23, 24, 25]⟩),
         (5, ⟨some 27, .neg (.t 26), none, [], [26]⟩),
         (6, ⟨some 28, .call 70 [(.t 22), (.t 27)], none, [], [22, 27]⟩),
         (7, ⟨some 29, .not (.t 28), none, [], [28]⟩)])
       (.cond (.t 29)
        (.seq
         (.kill [29])
         (.reg false [
           (0, ⟨some 30, .mv (.t 6), none, [], [6]⟩),
           (1, ⟨some 31, .mv (.t 0), none, [], []⟩),
           (2, ⟨some 32, .mv (.t 7), none, [], []⟩),
           (3, ⟨some 33, .ia 1 (.t 31) (.t 32), none, [], []⟩),
           (4, ⟨some 34, .ld 1 false (.t 33), none, [], [31, 32, 33]⟩),
           (5, ⟨some 35, .bsl 1 1 [.int .i64 (0)] [(0, 1, (.t 34))], none, [], [34]⟩),
           (6, ⟨some 36, .app 1 8 (.t 30) (.t 35), none, [], [30, 35]⟩),
           (7, ⟨some 6, .mv (.t 36), none, [], [36]⟩)]))
        (.seq
         (.kill [29])
         .skip)))))
    (.reg false [
      (0, ⟨some 13, .mv (.t 7), none, [], [7]⟩),
      (1, ⟨some 14, .bin .add (.t 13) (.c (.int .i64 (1))), none, [], [13]⟩),
      (2, ⟨some 7, .mv (.t 14), none, [], [14]⟩)])))
def B79 : CCode :=
  (.seq
   (.reg false [
     (0, ⟨some 4, .mv (.c (.nils)), none, [], [4]⟩),
     (1, ⟨some 5, .mv (.c (.bool false)), none, [], [5]⟩)])
   (.seq
    (.reg false [
      (0, ⟨some 8, .bsl 1 0 [.int .i64 (0)] [], none, [], []⟩),
      (1, ⟨some 6, .mv (.t 8), none, [], [8]⟩)])
    (.seq
     (.seq
      (.reg false [
        (0, ⟨some 7, .mv (.c (.int .i64 (0))), none, [], []⟩)])
      (.block 0
       (.loop L79_0)))
     (.seq
      (.reg false [
        (0, ⟨some 37, .mv (.t 6), none, [], [6]⟩),
        (1, ⟨some 4, .mv (.t 37), none, [], [37]⟩),
        (2, ⟨some 5, .mv (.c (.bool false)), none, [], []⟩)])
      .ret))))
def C79 : CFn := ⟨38, 2, [.t 4, .t 5], B79⟩

/-- slices.Index[[]int,int] -/
def L83_0 : CCode :=
  (.seq
   (.reg false [
     (0, ⟨some 9, .bin .lss (.t 8) (.t 7), none, [], []⟩)])
   (.seq
    (.cond (.t 9)
     (.seq
      (.kill [9])
      .skip)
     (.seq
      (.kill [0, 1, 7, 8, 9])
      (.exit 0)))
    (.seq
     (.block 1
      (.seq
       (.reg false [
         (0, ⟨some 10, .mv (.t 8), none, [], []⟩),
         (1, ⟨some 5, .mv (.t 10), none, [], [10]⟩)])
       (.seq
        (.reg false [
          (0, ⟨some 11, .mv (.t 1), none, [], []⟩),
          (1, ⟨some 12, .mv (.t 0), none, [], []⟩),
          (2, ⟨some 13, .mv (.t 5), none, [], []⟩),
          (3, ⟨some 14, .ia 1 (.t 12) (.t 13), none, [], []⟩),
          (4, ⟨some 15, .ld 1 false (.t 14), none, [], [12, 13, 14]⟩),
          (5, ⟨some 16, .bin .eql (.t 11) (.t 15), none, [], [11, 15]⟩)])
        (.cond (.t 16)
         (.seq
          (.kill [0, 1, 7, 8, 16])
          (.seq
           (.reg false [
             (0, ⟨some 17, .mv (.t 5), none, [], [5]⟩),
             (1, ⟨some 4, .mv (.t 17), none, [], [17]⟩)])
           .ret))
         (.seq
          (.kill [5, 16])
          .skip)))))
     (.reg false [
       (0, ⟨some 18, .bin .add (.t 8) (.c (.int .i64 (1))), none, [], [8]⟩),
       (1, ⟨some 8, .mv (.t 18), none, [], [18]⟩)]))))
def B83 : CCode :=
  (.seq
   (.reg false [
     (0, ⟨some 4, .mv (.c (.int .i64 (0))), none, [], [4]⟩)])
   (.seq
    (.seq
     (.reg false [
       (0, ⟨some 6, .mv (.t 0), none, [], []⟩),
       (1, ⟨some 7, .len (.t 6), none, [], [6]⟩),
       (2, ⟨some 8, .mv (.c (.int .i64 (0))), none, [], []⟩)])
     (.block 0
      (.loop L83_0)))
    (.seq
     (.reg false [
       (0, ⟨some 4, .mv (.c (.int .i64 (-1))), none, [], []⟩)])
     .ret)))
def C83 : CFn := ⟨19, 2, [.t 4], B83⟩

theorem chk12 : chkFn Go.Proofs.Try.prog 12 C12 = true := by kernel_rfl
theorem chk15 : chkFn Go.Proofs.Try.prog 15 C15 = true := by kernel_rfl
theorem chk16 : chkFn Go.Proofs.Try.prog 16 C16 = true := by kernel_rfl
theorem chk17 : chkFn Go.Proofs.Try.prog 17 C17 = true := by kernel_rfl
theorem chk18 : chkFn Go.Proofs.Try.prog 18 C18 = true := by kernel_rfl
theorem chk26 : chkFn Go.Proofs.Try.prog 26 C26 = true := by kernel_rfl
theorem chk28 : chkFn Go.Proofs.Try.prog 28 C28 = true := by kernel_rfl
theorem chk30 : chkFn Go.Proofs.Try.prog 30 C30 = true := by kernel_rfl
theorem chk33 : chkFn Go.Proofs.Try.prog 33 C33 = true := by kernel_rfl
theorem chk34 : chkFn Go.Proofs.Try.prog 34 C34 = true := by kernel_rfl
theorem chk45 : chkFn Go.Proofs.Try.prog 45 C45 = true := by kernel_rfl
theorem chk46 : chkFn Go.Proofs.Try.prog 46 C46 = true := by kernel_rfl
theorem chk51 : chkFn Go.Proofs.Try.prog 51 C51 = true := by kernel_rfl
theorem chk53 : chkFn Go.Proofs.Try.prog 53 C53 = true := by kernel_rfl
theorem chk57 : chkFn Go.Proofs.Try.prog 57 C57 = true := by kernel_rfl
theorem chk60 : chkFn Go.Proofs.Try.prog 60 C60 = true := by kernel_rfl
theorem chk61 : chkFn Go.Proofs.Try.prog 61 C61 = true := by kernel_rfl
theorem chk62 : chkFn Go.Proofs.Try.prog 62 C62 = true := by kernel_rfl
theorem chk63 : chkFn Go.Proofs.Try.prog 63 C63 = true := by kernel_rfl
theorem chk64 : chkFn Go.Proofs.Try.prog 64 C64 = true := by kernel_rfl
theorem chk65 : chkFn Go.Proofs.Try.prog 65 C65 = true := by kernel_rfl
theorem chk66 : chkFn Go.Proofs.Try.prog 66 C66 = true := by kernel_rfl
theorem chk70 : chkFn Go.Proofs.Try.prog 70 C70 = true := by kernel_rfl
theorem chk71 : chkFn Go.Proofs.Try.prog 71 C71 = true := by kernel_rfl
theorem chk73 : chkFn Go.Proofs.Try.prog 73 C73 = true := by kernel_rfl
theorem chk74 : chkFn Go.Proofs.Try.prog 74 C74 = true := by kernel_rfl
theorem chk75 : chkFn Go.Proofs.Try.prog 75 C75 = true := by kernel_rfl
theorem chk76 : chkFn Go.Proofs.Try.prog 76 C76 = true := by kernel_rfl
theorem chk77 : chkFn Go.Proofs.Try.prog 77 C77 = true := by kernel_rfl
theorem chk78 : chkFn Go.Proofs.Try.prog 78 C78 = true := by kernel_rfl
theorem chk79 : chkFn Go.Proofs.Try.prog 79 C79 = true := by kernel_rfl
theorem chk83 : chkFn Go.Proofs.Try.prog 83 C83 = true := by kernel_rfl
def Tab (f : Nat) : Option CFn :=
  match f with
  | 12 => some C12
  | 15 => some C15
  | 16 => some C16
  | 17 => some C17
  | 18 => some C18
  | 26 => some C26
  | 28 => some C28
  | 30 => some C30
  | 33 => some C33
  | 34 => some C34
  | 45 => some C45
  | 46 => some C46
  | 51 => some C51
  | 53 => some C53
  | 57 => some C57
  | 60 => some C60
  | 61 => some C61
  | 62 => some C62
  | 63 => some C63
  | 64 => some C64
  | 65 => some C65
  | 66 => some C66
  | 70 => some C70
  | 71 => some C71
  | 73 => some C73
  | 74 => some C74
  | 75 => some C75
  | 76 => some C76
  | 77 => some C77
  | 78 => some C78
  | 79 => some C79
  | 83 => some C83
  | _ => none
theorem tabOk : TabOk Go.Proofs.Try.prog Tab := by
  intro f cf h
  unfold Tab at h
  split at h <;> simp only [Option.some.injEq, reduceCtorEq] at h <;> subst h
  · exact chk12
  · exact chk15
  · exact chk16
  · exact chk17
  · exact chk18
  · exact chk26
  · exact chk28
  · exact chk30
  · exact chk33
  · exact chk34
  · exact chk45
  · exact chk46
  · exact chk51
  · exact chk53
  · exact chk57
  · exact chk60
  · exact chk61
  · exact chk62
  · exact chk63
  · exact chk64
  · exact chk65
  · exact chk66
  · exact chk70
  · exact chk71
  · exact chk73
  · exact chk74
  · exact chk75
  · exact chk76
  · exact chk77
  · exact chk78
  · exact chk79
  · exact chk83

end Go.Proofs.YthfbkecnnllpkaaH
