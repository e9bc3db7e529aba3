import Derived.Test.YtabmomjfdondnaaX3
import Derived.Test.YtabmomjfdondnaaProg
set_option linter.unusedVariables false
set_option maxRecDepth 100000
namespace Go.Proofs.YtabmomjfdondnaaH
open Go
def B8 : CCode :=
  (.seq
   (.reg false [
     (0, ⟨some 4, .mv (.c (.bool false)), none, [], [4]⟩)])
   (.seq
    (.reg false [
      (0, ⟨some 5, .mv (.c (.int .i64 (1048576))), none, [], []⟩)])
    (.seq
     (.reg false [
       (0, ⟨some 10, .mv (.t 0), none, [], []⟩),
       (1, ⟨some 11, .mv (.t 5), none, [], [5]⟩),
       (2, ⟨some 12, .call 47 [(.t 10), (.t 11)], none, [], [10, 11]⟩),
       (3, ⟨some 5, .mv (.t 12), none, [], [12]⟩)])
     (.seq
      (.seq
       (.reg false [
         (0, ⟨some 13, .mv (.t 5), none, [], []⟩),
         (1, ⟨some 14, .bin .lss (.t 13) (.c (.int .i64 (0))), none, [], [13]⟩)])
       (.cond (.t 14)
        (.seq
         (.kill [0, 1, 5, 14])
         (.seq
          (.reg false [
            (0, ⟨some 4, .mv (.c (.bool true)), none, [], []⟩)])
          .ret))
        (.seq
         (.kill [14])
         .skip)))
      (.seq
       (.reg false [
         (0, ⟨some 15, .mv (.t 1), none, [], []⟩),
         (1, ⟨some 16, .mv (.t 5), none, [], [5]⟩),
         (2, ⟨some 17, .call 48 [(.t 15), (.t 16)], none, [], [15, 16]⟩),
         (3, ⟨some 5, .mv (.t 17), none, [], [17]⟩)])
       (.seq
        (.seq
         (.reg false [
           (0, ⟨some 18, .mv (.t 5), none, [], [5]⟩),
           (1, ⟨some 19, .bin .lss (.t 18) (.c (.int .i64 (0))), none, [], [18]⟩)])
         (.cond (.t 19)
          (.seq
           (.kill [0, 1, 19])
           (.seq
            (.reg false [
              (0, ⟨some 4, .mv (.c (.bool true)), none, [], []⟩)])
            .ret))
          (.seq
           (.kill [19])
           .skip)))
        (.seq
         (.reg false [
           (0, ⟨some 20, .mv (.t 0), none, [], []⟩),
           (1, ⟨some 21, .call 50 [(.t 20)], none, [], [20]⟩),
           (2, ⟨some 22, .mv (.t 1), none, [], []⟩),
           (3, ⟨some 23, .call 51 [(.t 22)], none, [], [22]⟩),
           (4, ⟨some 24, .call 49 [(.t 21), (.t 23)], none, [], [21, 23]⟩),
           (5, ⟨some 6, .mv (.t 24), none, [], [24]⟩)])
         (.seq
          (.reg false [
            (0, ⟨some 25, .mv (.t 0), none, [], []⟩),
            (1, ⟨some 26, .call 50 [(.t 25)], none, [], [25]⟩),
            (2, ⟨some 7, .mv (.t 26), none, [], [26]⟩)])
          (.seq
           (.reg false [
             (0, ⟨some 27, .mv (.t 1), none, [], []⟩),
             (1, ⟨some 28, .call 51 [(.t 27)], none, [], [27]⟩),
             (2, ⟨some 8, .mv (.t 28), none, [], [28]⟩)])
           (.seq
            (.reg false [
              (0, ⟨some 29, .mv (.t 7), none, [], []⟩),
              (1, ⟨some 30, .mv (.t 8), none, [], []⟩),
              (2, ⟨some 31, .call 52 [(.t 29), (.t 30)], none, [], [29, 30]⟩),
              (3, ⟨some 9, .mv (.t 31), none, [], [31]⟩)])
            (.seq
             (.seq
              (.reg false [
                (0, ⟨some 32, .mv (.t 9), none, [], [9]⟩),
                (1, ⟨some 33, .mv (.t 6), none, [], [6]⟩),
                (2, ⟨some 34, .beq true (.t 32) (.t 33), none, [], [32, 33]⟩)])
              (.cond (.t 34)
               (.seq
                (.kill [0, 1, 7, 8, 34])
                (.seq
                 (.reg false [
                   (0, ⟨some 4, .mv (.c (.bool false)), none, [], []⟩)])
                 .ret))
               (.seq
                (.kill [34])
                .skip)))
             (.seq
              (.seq
               (.reg false [
                 (0, ⟨some 35, .mv (.t 7), none, [], [7]⟩),
                 (1, ⟨some 36, .mv (.t 0), none, [], [0]⟩),
                 (2, ⟨some 37, .call 50 [(.t 36)], none, [], [36]⟩),
                 (3, ⟨some 38, .call 53 [(.t 35), (.t 37)], none, [], [35, 37]⟩),
                 (4, ⟨some 39, .not (.t 38), none, [], [38]⟩)])
               (.cond (.t 39)
                (.seq
                 (.kill [1, 8, 39])
                 (.seq
                  (.reg false [
                    (0, ⟨some 4, .mv (.c (.bool false)), none, [], []⟩)])
                  .ret))
                (.seq
                 (.kill [39])
                 .skip)))
              (.seq
               (.seq
                (.reg false [
                  (0, ⟨some 40, .mv (.t 8), none, [], [8]⟩),
                  (1, ⟨some 41, .mv (.t 1), none, [], [1]⟩),
                  (2, ⟨some 42, .call 51 [(.t 41)], none, [], [41]⟩),
                  (3, ⟨some 43, .call 54 [(.t 40), (.t 42)], none, [], [40, 42]⟩),
                  (4, ⟨some 44, .not (.t 43), none, [], [43]⟩)])
                (.cond (.t 44)
                 (.seq
                  (.kill [44])
                  (.seq
                   (.reg false [
                     (0, ⟨some 4, .mv (.c (.bool false)), none, [], []⟩)])
                   .ret))
                 (.seq
                  (.kill [44])
                  .skip)))
               (.seq
                (.reg false [
                  (0, ⟨some 4, .mv (.c (.bool true)), none, [], []⟩)])
                .ret))))))))))))))
def C8 : CFn := ⟨45, 2, [.t 4], B8⟩

def L40_0 : CCode :=
  (.seq
   (.seq
    (.reg false [
      (0, ⟨some 8, .mv (.t 4), none, [], []⟩),
      (1, ⟨some 9, .mv (.t 0), none, [], []⟩),
      (2, ⟨some 10, .len (.t 9), none, [], [9]⟩),
      (3, ⟨some 11, .bin .lss (.t 8) (.t 10), none, [], [8, 10]⟩)])
    (.cond (.t 11)
     (.seq
      (.kill [11])
      .skip)
     (.seq
      (.kill [0, 4, 11])
      (.exit 0))))
   (.seq
    (.block 1
     (.reg false [
       (0, ⟨some 14, .mv (.t 3), none, [], []⟩),
       (1, ⟨some 15, .mv (.t 4), none, [], []⟩),
       (2, ⟨some 16, .mv (.t 0), none, [], []⟩),
       (3, ⟨some 17, .mv (.t 4), none, [], []⟩),
       (4, ⟨some 18, .ia 1 (.t 16) (.t 17), none, [], []⟩),
       (5, ⟨some 19, .ld 1 false (.t 18), none, [], [16, 17, 18]⟩),
       (6, ⟨some 20, .ia 1 (.t 14) (.t 15), none, [], []⟩),
       (7, ⟨none, .st 1 (.t 20) (.t 19), none, [], [14, 15, 19, 20]⟩)]))
    (.reg false [
      (0, ⟨some 12, .mv (.t 4), none, [], [4]⟩),
      (1, ⟨some 13, .bin .add (.t 12) (.c (.int .i64 (1))), none, [], [12]⟩),
      (2, ⟨some 4, .mv (.t 13), none, [], [13]⟩)])))
def B40 : CCode :=
  (.seq
   (.reg false [
     (0, ⟨some 2, .mv (.c (.nils)), none, [], [2]⟩)])
   (.seq
    (.reg false [
      (0, ⟨some 5, .mv (.t 0), none, [], []⟩),
      (1, ⟨some 6, .len (.t 5), none, [], [5]⟩),
      (2, ⟨some 7, .mk 1 8 [.int .i64 (0)] (.t 6) (.t 6), none, [], [6]⟩),
      (3, ⟨some 3, .mv (.t 7), none, [], [7]⟩)])
    (.seq
     (.seq
      (.reg false [
        (0, ⟨some 4, .mv (.c (.int .i64 (0))), none, [], []⟩)])
      (.block 0
       (.loop L40_0)))
     (.seq
      (.reg false [
        (0, ⟨some 21, .mv (.t 3), none, [], [3]⟩),
        (1, ⟨some 2, .mv (.t 21), none, [], [21]⟩)])
      .ret))))
def C40 : CFn := ⟨22, 1, [.t 2], B40⟩

def L42_0 : CCode :=
  (.seq
   (.seq
    (.reg false [
      (0, ⟨some 11, .mv (.t 5), none, [], []⟩),
      (1, ⟨some 12, .mv (.t 0), none, [], []⟩),
      (2, ⟨some 13, .len (.t 12), none, [], [12]⟩),
      (3, ⟨some 14, .bin .lss (.t 11) (.t 13), none, [], [11, 13]⟩)])
    (.cond (.t 14)
     (.seq
      (.kill [14])
      .skip)
     (.seq
      (.kill [0, 1, 5, 14])
      (.exit 0))))
   (.seq
    (.block 1
     (.seq
      (.reg true [
        (0, ⟨some 17, .mv (.t 0), none, [], []⟩),
        (1, ⟨some 18, .mv (.t 5), none, [], []⟩),
        (2, ⟨some 19, .ia 1 (.t 17) (.t 18), none, [], []⟩),
        (3, ⟨some 20, .ld 1 false (.t 19), none, [], [17, 18, 19]⟩),
        (4, ⟨some 21, .mv (.t 1), none, [], []⟩),
        (5, ⟨some 22, .mv (.t 5), none, [], []⟩),
        (6, ⟨some 23, .ia 1 (.t 21) (.t 22), none, [], []⟩),
        (7, ⟨some 24, .ld 1 false (.t 23), none, [], [21, 22, 23]⟩),
        (8, ⟨some 25, .bin .neq (.t 20) (.t 24), none, [], [20, 24]⟩)])
      (.cond (.t 25)
       (.seq
        (.kill [0, 1, 5, 25])
        (.seq
         (.reg false [
           (0, ⟨some 4, .mv (.c (.bool false)), none, [], []⟩)])
         .ret))
       (.seq
        (.kill [25])
        .skip))))
    (.reg false [
      (0, ⟨some 15, .mv (.t 5), none, [], [5]⟩),
      (1, ⟨some 16, .bin .add (.t 15) (.c (.int .i64 (1))), none, [], [15]⟩),
      (2, ⟨some 5, .mv (.t 16), none, [], [16]⟩)])))
def B42 : CCode :=
  (.seq
   (.reg false [
     (0, ⟨some 4, .mv (.c (.bool false)), none, [], [4]⟩)])
   (.seq
    (.seq
     (.reg false [
       (0, ⟨some 6, .mv (.t 0), none, [], []⟩),
       (1, ⟨some 7, .len (.t 6), none, [], [6]⟩),
       (2, ⟨some 8, .mv (.t 1), none, [], []⟩),
       (3, ⟨some 9, .len (.t 8), none, [], [8]⟩),
       (4, ⟨some 10, .bin .neq (.t 7) (.t 9), none, [], [7, 9]⟩)])
     (.cond (.t 10)
      (.seq
       (.kill [0, 1, 10])
       (.seq
        (.reg false [
          (0, ⟨some 4, .mv (.c (.bool false)), none, [], []⟩)])
        .ret))
      (.seq
       (.kill [10])
       .skip)))
    (.seq
     (.seq
      (.reg false [
        (0, ⟨some 5, .mv (.c (.int .i64 (0))), none, [], []⟩)])
      (.block 0
       (.loop L42_0)))
     (.seq
      (.reg false [
        (0, ⟨some 4, .mv (.c (.bool true)), none, [], []⟩)])
      .ret))))
def C42 : CFn := ⟨26, 2, [.t 4], B42⟩

def L47_0 : CCode :=
  (.seq
   (.seq
    (.reg false [
      (0, ⟨some 12, .mv (.t 5), none, [], []⟩),
      (1, ⟨some 13, .mv (.t 0), none, [], []⟩),
      (2, ⟨some 14, .len (.t 13), none, [], [13]⟩),
      (3, ⟨some 15, .bin .lss (.t 12) (.t 14), none, [], [12, 14]⟩)])
    (.cond (.t 15)
     (.seq
      (.kill [15])
      .skip)
     (.seq
      (.kill [0, 5, 15])
      (.exit 0))))
   (.seq
    (.block 1
     (.seq
      (.reg false [
        (0, ⟨some 18, .mv (.t 0), none, [], []⟩),
        (1, ⟨some 19, .mv (.t 5), none, [], []⟩),
        (2, ⟨some 20, .ia 3 (.t 18) (.t 19), none, [], []⟩),
        (3, ⟨some 21, .ld 3 true (.t 20), none, [], [20]⟩),
        (4, ⟨some 22, .mv (.t 1), none, [], [1]⟩),
        (5, ⟨some 23, .call 109 [(.t 21), (.t 22)], none, [], [18, 19, 21, 22]⟩),
        (6, ⟨some 1, .mv (.t 23), none, [], [23]⟩)])
      (.seq
       (.reg false [
         (0, ⟨some 24, .mv (.t 1), none, [], []⟩),
         (1, ⟨some 25, .bin .lss (.t 24) (.c (.int .i64 (0))), none, [], [24]⟩)])
       (.cond (.t 25)
        (.seq
         (.kill [0, 1, 5, 25])
         (.seq
          (.reg false [
            (0, ⟨some 4, .mv (.c (.int .i64 (-1))), none, [], []⟩)])
          .ret))
        (.seq
         (.kill [25])
         .skip)))))
    (.reg false [
      (0, ⟨some 16, .mv (.t 5), none, [], [5]⟩),
      (1, ⟨some 17, .bin .add (.t 16) (.c (.int .i64 (1))), none, [], [16]⟩),
      (2, ⟨some 5, .mv (.t 17), none, [], [17]⟩)])))
def B47 : CCode :=
  (.seq
   (.reg false [
     (0, ⟨some 4, .mv (.c (.int .i64 (0))), none, [], [4]⟩)])
   (.seq
    (.reg false [
      (0, ⟨some 6, .mv (.t 1), none, [], [1]⟩),
      (1, ⟨some 7, .mv (.t 0), none, [], []⟩),
      (2, ⟨some 8, .len (.t 7), none, [], [7]⟩),
      (3, ⟨some 9, .bin .sub (.t 6) (.t 8), none, [], [6, 8]⟩),
      (4, ⟨some 1, .mv (.t 9), none, [], [9]⟩)])
    (.seq
     (.seq
      (.reg false [
        (0, ⟨some 10, .mv (.t 1), none, [], []⟩),
        (1, ⟨some 11, .bin .lss (.t 10) (.c (.int .i64 (0))), none, [], [10]⟩)])
      (.cond (.t 11)
       (.seq
        (.kill [0, 1, 11])
        (.seq
         (.reg false [
           (0, ⟨some 4, .mv (.c (.int .i64 (-1))), none, [], []⟩)])
         .ret))
       (.seq
        (.kill [11])
        .skip)))
     (.seq
      (.seq
       (.reg false [
         (0, ⟨some 5, .mv (.c (.int .i64 (0))), none, [], []⟩)])
       (.block 0
        (.loop L47_0)))
      (.seq
       (.reg false [
         (0, ⟨some 26, .mv (.t 1), none, [], [1]⟩),
         (1, ⟨some 4, .mv (.t 26), none, [], [26]⟩)])
       .ret)))))
def C47 : CFn := ⟨27, 2, [.t 4], B47⟩

def L48_0 : CCode :=
  (.seq
   (.seq
    (.reg false [
      (0, ⟨some 12, .mv (.t 5), none, [], []⟩),
      (1, ⟨some 13, .mv (.t 0), none, [], []⟩),
      (2, ⟨some 14, .len (.t 13), none, [], [13]⟩),
      (3, ⟨some 15, .bin .lss (.t 12) (.t 14), none, [], [12, 14]⟩)])
    (.cond (.t 15)
     (.seq
      (.kill [15])
      .skip)
     (.seq
      (.kill [0, 5, 15])
      (.exit 0))))
   (.seq
    (.block 1
     (.seq
      (.reg false [
        (0, ⟨some 18, .mv (.t 0), none, [], []⟩),
        (1, ⟨some 19, .mv (.t 5), none, [], []⟩),
        (2, ⟨some 20, .ia 4 (.t 18) (.t 19), none, [], []⟩),
        (3, ⟨some 21, .ld 4 true (.t 20), none, [], [20]⟩),
        (4, ⟨some 22, .mv (.t 1), none, [], [1]⟩),
        (5, ⟨some 23, .call 110 [(.t 21), (.t 22)], none, [], [18, 19, 21, 22]⟩),
        (6, ⟨some 1, .mv (.t 23), none, [], [23]⟩)])
      (.seq
       (.reg false [
         (0, ⟨some 24, .mv (.t 1), none, [], []⟩),
         (1, ⟨some 25, .bin .lss (.t 24) (.c (.int .i64 (0))), none, [], [24]⟩)])
       (.cond (.t 25)
        (.seq
         (.kill [0, 1, 5, 25])
         (.seq
          (.reg false [
            (0, ⟨some 4, .mv (.c (.int .i64 (-1))), none, [], []⟩)])
          .ret))
        (.seq
         (.kill [25])
         .skip)))))
    (.reg false [
      (0, ⟨some 16, .mv (.t 5), none, [], [5]⟩),
      (1, ⟨some 17, .bin .add (.t 16) (.c (.int .i64 (1))), none, [], [16]⟩),
      (2, ⟨some 5, .mv (.t 17), none, [], [17]⟩)])))
def B48 : CCode :=
  (.seq
   (.reg false [
     (0, ⟨some 4, .mv (.c (.int .i64 (0))), none, [], [4]⟩)])
   (.seq
    (.reg false [
      (0, ⟨some 6, .mv (.t 1), none, [], [1]⟩),
      (1, ⟨some 7, .mv (.t 0), none, [], []⟩),
      (2, ⟨some 8, .len (.t 7), none, [], [7]⟩),
      (3, ⟨some 9, .bin .sub (.t 6) (.t 8), none, [], [6, 8]⟩),
      (4, ⟨some 1, .mv (.t 9), none, [], [9]⟩)])
    (.seq
     (.seq
      (.reg false [
        (0, ⟨some 10, .mv (.t 1), none, [], []⟩),
        (1, ⟨some 11, .bin .lss (.t 10) (.c (.int .i64 (0))), none, [], [10]⟩)])
      (.cond (.t 11)
       (.seq
        (.kill [0, 1, 11])
        (.seq
         (.reg false [
           (0, ⟨some 4, .mv (.c (.int .i64 (-1))), none, [], []⟩)])
         .ret))
       (.seq
        (.kill [11])
        .skip)))
     (.seq
      (.seq
       (.reg false [
         (0, ⟨some 5, .mv (.c (.int .i64 (0))), none, [], []⟩)])
       (.block 0
        (.loop L48_0)))
      (.seq
       (.reg false [
         (0, ⟨some 26, .mv (.t 1), none, [], [1]⟩),
         (1, ⟨some 4, .mv (.t 26), none, [], [26]⟩)])
       .ret)))))
def C48 : CFn := ⟨27, 2, [.t 4], B48⟩

def L49_1 : CCode :=
  (.seq
   (.seq
    (.reg false [
      (0, ⟨some 43, .mv (.t 7), none, [], []⟩),
      (1, ⟨some 44, .fa 1 (.t 6), none, [], []⟩),
      (2, ⟨some 45, .ld 1 false (.t 44), none, [], [44]⟩),
      (3, ⟨some 46, .len (.t 45), none, [], [45]⟩),
      (4, ⟨some 47, .bin .lss (.t 43) (.t 46), none, [], [43, 46]⟩)])
    (.cond (.t 47)
     (.seq
      (.kill [47])
      .skip)
     (.seq
      (.kill [7, 47])
      (.exit 2))))
   (.seq
    (.block 3
     (.seq
      (.reg false [
        (0, ⟨some 50, .fa 1 (.t 6), none, [], []⟩),
        (1, ⟨some 51, .ld 1 false (.t 50), none, [], [50]⟩),
        (2, ⟨some 52, .mv (.t 7), none, [], []⟩),
        (3, ⟨some 53, .ia 1 (.t 51) (.t 52), none, [], [51]⟩),
        (4, ⟨some 54, .ld 1 false (.t 53), none, [], [52, 53]⟩),
        (5, ⟨some 55, .call 71 [(.t 54), (.c (.int .i64 (-10))), (.c (.int .i64 (3)))], none, [], [54]⟩),
        (6, ⟨some 56, .not (.t 55), none, [], [55]⟩)])
      (.cond (.t 56)
       (.seq
        (.kill [0, 1, 5, 6, 7, 56])
        (.seq
         (.reg false [
           (0, ⟨some 4, .mv (.c (.bool false)), none, [], []⟩)])
         .ret))
       (.seq
        (.kill [56])
        .skip))))
    (.reg false [
      (0, ⟨some 48, .mv (.t 7), none, [], [7]⟩),
      (1, ⟨some 49, .bin .add (.t 48) (.c (.int .i64 (1))), none, [], [48]⟩),
      (2, ⟨some 7, .mv (.t 49), none, [], [49]⟩)])))
def L49_0 : CCode :=
  (.seq
   (.seq
    (.reg false [
      (0, ⟨some 8, .mv (.t 5), none, [], []⟩),
      (1, ⟨some 9, .mv (.t 1), none, [], []⟩),
      (2, ⟨some 10, .len (.t 9), none, [], [9]⟩),
      (3, ⟨some 11, .bin .lss (.t 8) (.t 10), none, [], [8, 10]⟩)])
    (.cond (.t 11)
     (.seq
      (.kill [11])
      .skip)
     (.seq
      (.kill [0, 5, 11])
      (.exit 0))))
   (.seq
    (.block 1
     (.seq
      (.reg false [
        (0, ⟨some 14, .mv (.t 1), none, [], []⟩),
        (1, ⟨some 15, .mv (.t 5), none, [], []⟩),
        (2, ⟨some 16, .ia 4 (.t 14) (.t 15), none, [], []⟩),
        (3, ⟨some 17, .fa 0 (.t 16), none, [], [16]⟩),
        (4, ⟨some 18, .ld 2 true (.t 17), none, [], [17]⟩),
        (5, ⟨some 6, .al [.int .i64 (0), .nils], none, [], []⟩),
        (6, ⟨none, .st 2 (.t 6) (.t 18), none, [], [14, 15, 18]⟩)])
      (.seq
       (.seq
        (.reg true [
          (0, ⟨some 19, .mv (.t 0), none, [], []⟩),
          (1, ⟨some 20, .call 94 [(.t 19)], none, [], [19]⟩),
          (2, ⟨some 21, .not (.t 20), none, [], [20]⟩),
          (3, ⟨some 22, .mv (.t 21), none, [], [21]⟩),
          (4, ⟨some 23, .fa 0 (.t 6), some (22, false), [], []⟩),
          (5, ⟨some 24, .ld 1 false (.t 23), some (22, false), [], [23]⟩),
          (6, ⟨some 25, .mv (.t 0), some (22, false), [], []⟩),
          (7, ⟨some 26, .len (.t 25), some (22, false), [], [25]⟩),
          (8, ⟨some 27, .bin .sub (.t 26) (.c (.int .i64 (1))), some (22, false), [], [26]⟩),
          (9, ⟨some 28, .call 71 [(.t 24), (.c (.int .i64 (0))), (.t 27)], some (22, false), [], [24, 27]⟩),
          (10, ⟨some 29, .not (.t 28), some (22, false), [], [28]⟩),
          (11, ⟨some 30, .pick (.t 22) (.c (.bool true)) (.t 29), none, [], [22, 29]⟩),
          (12, ⟨some 31, .mv (.t 30), none, [], [30]⟩),
          (13, ⟨some 32, .fa 1 (.t 6), some (31, false), [], []⟩),
          (14, ⟨some 33, .ld 1 false (.t 32), some (31, false), [], [32]⟩),
          (15, ⟨some 34, .len (.t 33), some (31, false), [], [33]⟩),
          (16, ⟨some 35, .mv (.t 0), some (31, false), [], []⟩),
          (17, ⟨some 36, .fa 0 (.t 6), some (31, false), [], []⟩),
          (18, ⟨some 37, .ld 1 false (.t 36), some (31, false), [], [36]⟩),
          (19, ⟨some 38, .ia 3 (.t 35) (.t 37), some (31, false), [], []⟩),
          (20, ⟨some 39, .fa 1 (.t 38), some (31, false), [], [38]⟩),
          (21, ⟨some 40, .ld 1 false (.t 39), some (31, false), [], [35, 37, 39]⟩),
          (22, ⟨some 41, .bin .neq (.t 34) (.t 40), some (31, false), [], [34, 40]⟩),
          (23, ⟨some 42, .pick (.t 31) (.c (.bool true)) (.t 41), none, [], [31, 41]⟩)])
        (.cond (.t 42)
         (.seq
          (.kill [0, 1, 5, 6, 42])
          (.seq
           (.reg false [
             (0, ⟨some 4, .mv (.c (.bool false)), none, [], []⟩)])
           .ret))
         (.seq
          (.kill [42])
          .skip)))
       (.seq
        (.seq
         (.reg false [
           (0, ⟨some 7, .mv (.c (.int .i64 (0))), none, [], []⟩)])
         (.block 2
          (.loop L49_1)))
        (.seq
         (.reg true [
           (0, ⟨some 57, .mv (.t 0), none, [], []⟩),
           (1, ⟨some 58, .ld 2 true (.t 6), none, [], []⟩),
           (3, ⟨some 60, .mv (.t 1), none, [], []⟩),
           (4, ⟨some 61, .mv (.t 5), none, [], []⟩),
           (5, ⟨some 62, .ia 4 (.t 60) (.t 61), none, [], []⟩),
           (6, ⟨some 63, .fa 2 (.t 62), none, [], [62]⟩),
           (7, ⟨some 64, .ld 1 false (.t 63), none, [], []⟩),
           (2, ⟨some 59, .call 112 [(.t 57), (.t 58)], none, [(63, 1)], [57, 58, 63]⟩),
           (8, ⟨some 65, .call 111 [(.t 59), (.t 64)], none, [], [59, 60, 61, 64]⟩),
           (9, ⟨some 66, .not (.t 65), none, [], [65]⟩),
           (10, ⟨some 67, .mv (.t 66), none, [], [66]⟩),
           (11, ⟨some 68, .ld 2 true (.t 6), some (67, false), [], []⟩),
           (13, ⟨some 70, .mv (.t 1), some (67, false), [], []⟩),
           (14, ⟨some 71, .mv (.t 5), some (67, false), [], []⟩),
           (15, ⟨some 72, .ia 4 (.t 70) (.t 71), some (67, false), [], []⟩),
           (16, ⟨some 73, .fa 3 (.t 72), some (67, false), [], [72]⟩),
           (17, ⟨some 74, .ld 1 false (.t 73), some (67, false), [], []⟩),
           (12, ⟨some 69, .call 113 [(.t 68)], some (67, false), [(73, 1)], [6, 68, 73]⟩),
           (18, ⟨some 75, .call 111 [(.t 69), (.t 74)], some (67, false), [], [69, 70, 71, 74]⟩),
           (19, ⟨some 76, .not (.t 75), some (67, false), [], [75]⟩),
           (20, ⟨some 77, .pick (.t 67) (.c (.bool true)) (.t 76), none, [], [67, 76]⟩)])
         (.cond (.t 77)
          (.seq
           (.kill [0, 1, 5, 77])
           (.seq
            (.reg false [
              (0, ⟨some 4, .mv (.c (.bool false)), none, [], []⟩)])
            .ret))
          (.seq
           (.kill [77])
           .skip)))))))
    (.reg false [
      (0, ⟨some 12, .mv (.t 5), none, [], [5]⟩),
      (1, ⟨some 13, .bin .add (.t 12) (.c (.int .i64 (1))), none, [], [12]⟩),
      (2, ⟨some 5, .mv (.t 13), none, [], [13]⟩)])))
def B49 : CCode :=
  (.seq
   (.reg false [
     (0, ⟨some 4, .mv (.c (.bool false)), none, [], [4]⟩)])
   (.seq
    (.seq
     (.reg false [
       (0, ⟨some 5, .mv (.c (.int .i64 (0))), none, [], []⟩)])
     (.block 0
      (.loop L49_0)))
    (.seq
     (.reg false [
       (0, ⟨some 78, .mv (.t 1), none, [], [1]⟩),
       (1, ⟨some 79, .len (.t 78), none, [], [78]⟩),
       (2, ⟨some 80, .bin .leq (.t 79) (.c (.int .i64 (3))), none, [], [79]⟩),
       (3, ⟨some 4, .mv (.t 80), none, [], [80]⟩)])
     .ret)))
def C49 : CFn := ⟨81, 2, [.t 4], B49⟩

def L50_0 : CCode :=
  (.seq
   (.seq
    (.reg false [
      (0, ⟨some 8, .mv (.t 4), none, [], []⟩),
      (1, ⟨some 9, .mv (.t 0), none, [], []⟩),
      (2, ⟨some 10, .len (.t 9), none, [], [9]⟩),
      (3, ⟨some 11, .bin .lss (.t 8) (.t 10), none, [], [8, 10]⟩)])
    (.cond (.t 11)
     (.seq
      (.kill [11])
      .skip)
     (.seq
      (.kill [0, 4, 11])
      (.exit 0))))
   (.seq
    (.block 1
     (.reg false [
       (0, ⟨some 14, .mv (.t 3), none, [], []⟩),
       (1, ⟨some 15, .mv (.t 4), none, [], []⟩),
       (2, ⟨some 16, .mv (.t 0), none, [], []⟩),
       (3, ⟨some 17, .mv (.t 4), none, [], []⟩),
       (4, ⟨some 18, .ia 3 (.t 16) (.t 17), none, [], []⟩),
       (5, ⟨some 19, .ld 3 true (.t 18), none, [], [18]⟩),
       (6, ⟨some 20, .call 114 [(.t 19)], none, [], [16, 17, 19]⟩),
       (7, ⟨some 21, .ia 3 (.t 14) (.t 15), none, [], []⟩),
       (8, ⟨none, .st 3 (.t 21) (.t 20), none, [], [14, 15, 20, 21]⟩)]))
    (.reg false [
      (0, ⟨some 12, .mv (.t 4), none, [], [4]⟩),
      (1, ⟨some 13, .bin .add (.t 12) (.c (.int .i64 (1))), none, [], [12]⟩),
      (2, ⟨some 4, .mv (.t 13), none, [], [13]⟩)])))
def B50 : CCode :=
  (.seq
   (.reg false [
     (0, ⟨some 2, .mv (.c (.nils)), none, [], [2]⟩)])
   (.seq
    (.reg false [
      (0, ⟨some 5, .mv (.t 0), none, [], []⟩),
      (1, ⟨some 6, .len (.t 5), none, [], [5]⟩),
      (2, ⟨some 7, .mk 3 32 [.str [], .int .i64 (0), .int .i64 (0)] (.t 6) (.t 6), none, [], [6]⟩),
      (3, ⟨some 3, .mv (.t 7), none, [], [7]⟩)])
    (.seq
     (.seq
      (.reg false [
        (0, ⟨some 4, .mv (.c (.int .i64 (0))), none, [], []⟩)])
      (.block 0
       (.loop L50_0)))
     (.seq
      (.reg false [
        (0, ⟨some 22, .mv (.t 3), none, [], [3]⟩),
        (1, ⟨some 2, .mv (.t 22), none, [], [22]⟩)])
      .ret))))
def C50 : CFn := ⟨23, 1, [.t 2], B50⟩

def L51_0 : CCode :=
  (.seq
   (.seq
    (.reg false [
      (0, ⟨some 8, .mv (.t 4), none, [], []⟩),
      (1, ⟨some 9, .mv (.t 0), none, [], []⟩),
      (2, ⟨some 10, .len (.t 9), none, [], [9]⟩),
      (3, ⟨some 11, .bin .lss (.t 8) (.t 10), none, [], [8, 10]⟩)])
    (.cond (.t 11)
     (.seq
      (.kill [11])
      .skip)
     (.seq
      (.kill [0, 4, 11])
      (.exit 0))))
   (.seq
    (.block 1
     (.reg false [
       (0, ⟨some 14, .mv (.t 3), none, [], []⟩),
       (1, ⟨some 15, .mv (.t 4), none, [], []⟩),
       (2, ⟨some 16, .mv (.t 0), none, [], []⟩),
       (3, ⟨some 17, .mv (.t 4), none, [], []⟩),
       (4, ⟨some 18, .ia 4 (.t 16) (.t 17), none, [], []⟩),
       (5, ⟨some 19, .ld 4 true (.t 18), none, [], [18]⟩),
       (6, ⟨some 20, .call 115 [(.t 19)], none, [], [16, 17, 19]⟩),
       (7, ⟨some 21, .ia 4 (.t 14) (.t 15), none, [], []⟩),
       (8, ⟨none, .st 4 (.t 21) (.t 20), none, [], [14, 15, 20, 21]⟩)]))
    (.reg false [
      (0, ⟨some 12, .mv (.t 4), none, [], [4]⟩),
      (1, ⟨some 13, .bin .add (.t 12) (.c (.int .i64 (1))), none, [], [12]⟩),
      (2, ⟨some 4, .mv (.t 13), none, [], [13]⟩)])))
def B51 : CCode :=
  (.seq
   (.reg false [
     (0, ⟨some 2, .mv (.c (.nils)), none, [], [2]⟩)])
   (.seq
    (.reg false [
      (0, ⟨some 5, .mv (.t 0), none, [], []⟩),
      (1, ⟨some 6, .len (.t 5), none, [], [5]⟩),
      (2, ⟨some 7, .mk 4 80 [.int .i64 (0), .nils, .nils, .nils] (.t 6) (.t 6), none, [], [6]⟩),
      (3, ⟨some 3, .mv (.t 7), none, [], [7]⟩)])
    (.seq
     (.seq
      (.reg false [
        (0, ⟨some 4, .mv (.c (.int .i64 (0))), none, [], []⟩)])
      (.block 0
       (.loop L51_0)))
     (.seq
      (.reg false [
        (0, ⟨some 22, .mv (.t 3), none, [], [3]⟩),
        (1, ⟨some 2, .mv (.t 22), none, [], [22]⟩)])
      .ret))))
def C51 : CFn := ⟨23, 1, [.t 2], B51⟩

def L52_0 : CCode :=
  (.seq
   (.reg false [
     (0, ⟨some 11, .bin .lss (.t 10) (.t 9), none, [], []⟩)])
   (.seq
    (.cond (.t 11)
     (.seq
      (.kill [11])
      .skip)
     (.seq
      (.kill [0, 8, 9, 10, 11])
      (.exit 0)))
    (.seq
     (.block 1
      (.seq
       (.reg false [
         (0, ⟨some 12, .mv (.t 10), none, [], []⟩),
         (1, ⟨some 13, .ia 4 (.t 8) (.t 10), none, [], []⟩),
         (2, ⟨some 14, .ld 4 true (.t 13), none, [], [13]⟩),
         (3, ⟨some 6, .al [.int .i64 (0), .nils, .nils, .nils], none, [], []⟩),
         (4, ⟨some 5, .mv (.t 12), none, [], [12]⟩),
         (5, ⟨none, .st 4 (.t 6) (.t 14), none, [], [14]⟩)])
       (.seq
        (.reg false [
          (0, ⟨some 15, .fa 0 (.t 6), none, [], []⟩),
          (1, ⟨some 16, .ld 2 true (.t 15), none, [], [15]⟩),
          (2, ⟨some 7, .al [.int .i64 (0), .nils], none, [], []⟩),
          (3, ⟨none, .st 2 (.t 7) (.t 16), none, [], [16]⟩)])
        (.seq
         (.seq
          (.reg true [
            (0, ⟨some 17, .mv (.t 5), none, [], [5]⟩),
            (1, ⟨some 18, .bin .geq (.t 17) (.c (.int .i64 (3))), none, [], [17]⟩),
            (2, ⟨some 19, .mv (.t 18), none, [], [18]⟩),
            (3, ⟨some 20, .mv (.t 0), some (19, false), [], []⟩),
            (4, ⟨some 21, .call 116 [(.t 20)], some (19, false), [], [20]⟩),
            (5, ⟨some 22, .not (.t 21), some (19, false), [], [21]⟩),
            (6, ⟨some 23, .pick (.t 19) (.c (.bool true)) (.t 22), none, [], [19, 22]⟩),
            (7, ⟨some 24, .mv (.t 23), none, [], [23]⟩),
            (8, ⟨some 25, .fa 0 (.t 7), some (24, false), [], []⟩),
            (9, ⟨some 26, .ld 1 false (.t 25), some (24, false), [], [25]⟩),
            (10, ⟨some 27, .mv (.t 0), some (24, false), [], []⟩),
            (11, ⟨some 28, .len (.t 27), some (24, false), [], [27]⟩),
            (12, ⟨some 29, .bin .sub (.t 28) (.c (.int .i64 (1))), some (24, false), [], [28]⟩),
            (13, ⟨some 30, .call 87 [(.t 26), (.c (.int .i64 (0))), (.t 29)], some (24, false), [], [26, 29]⟩),
            (14, ⟨some 31, .not (.t 30), some (24, false), [], [30]⟩),
            (15, ⟨some 32, .pick (.t 24) (.c (.bool true)) (.t 31), none, [], [24, 31]⟩),
            (16, ⟨some 33, .mv (.t 32), none, [], [32]⟩),
            (17, ⟨some 34, .fa 1 (.t 7), some (33, false), [], []⟩),
            (18, ⟨some 35, .ld 1 false (.t 34), some (33, false), [], [34]⟩),
            (19, ⟨some 36, .len (.t 35), some (33, false), [], [35]⟩),
            (20, ⟨some 37, .mv (.t 0), some (33, false), [], []⟩),
            (21, ⟨some 38, .fa 0 (.t 7), some (33, false), [], []⟩),
            (22, ⟨some 39, .ld 1 false (.t 38), some (33, false), [], [38]⟩),
            (23, ⟨some 40, .ia 3 (.t 37) (.t 39), some (33, false), [], []⟩),
            (24, ⟨some 41, .fa 1 (.t 40), some (33, false), [], [40]⟩),
            (25, ⟨some 42, .ld 1 false (.t 41), some (33, false), [], [37, 39, 41]⟩),
            (26, ⟨some 43, .bin .neq (.t 36) (.t 42), some (33, false), [], [36, 42]⟩),
            (27, ⟨some 44, .pick (.t 33) (.c (.bool true)) (.t 43), none, [], [33, 43]⟩)])
          (.cond (.t 44)
           (.seq
            (.kill [0, 6, 7, 8, 9, 10, 44])
            (.seq
             (.reg false [
               (0, ⟨some 4, .mv (.c (.bool false)), none, [], []⟩)])
             .ret))
           (.seq
            (.kill [44])
            .skip)))
         (.seq
          (.seq
           (.reg false [
             (0, ⟨some 45, .fa 1 (.t 7), none, [], []⟩),
             (1, ⟨some 46, .ld 1 false (.t 45), none, [], [45]⟩),
             (2, ⟨some 47, .call 74 [(.t 46), (.c (.fn 117 []))], none, [], [46]⟩)])
           (.cond (.t 47)
            (.seq
             (.kill [0, 6, 7, 8, 9, 10, 47])
             (.seq
              (.reg false [
                (0, ⟨some 4, .mv (.c (.bool false)), none, [], []⟩)])
              .ret))
            (.seq
             (.kill [47])
             .skip)))
          (.seq
           (.reg true [
             (0, ⟨some 48, .fa 2 (.t 6), none, [], []⟩),
             (1, ⟨some 49, .ld 1 false (.t 48), none, [], []⟩),
             (2, ⟨some 50, .mv (.t 0), none, [], []⟩),
             (3, ⟨some 51, .ld 2 true (.t 7), none, [], []⟩),
             (4, ⟨some 52, .call 119 [(.t 50), (.t 51)], none, [(48, 1)], [48, 50, 51]⟩),
             (5, ⟨some 53, .call 118 [(.t 49), (.t 52)], none, [], [49, 52]⟩),
             (6, ⟨some 54, .not (.t 53), none, [], [53]⟩),
             (7, ⟨some 55, .mv (.t 54), none, [], [54]⟩),
             (8, ⟨some 56, .fa 3 (.t 6), some (55, false), [], []⟩),
             (9, ⟨some 57, .ld 1 false (.t 56), some (55, false), [], []⟩),
             (10, ⟨some 58, .ld 2 true (.t 7), some (55, false), [], []⟩),
             (11, ⟨some 59, .call 120 [(.t 58)], some (55, false), [(56, 1)], [7, 56, 58]⟩),
             (12, ⟨some 60, .call 118 [(.t 57), (.t 59)], some (55, false), [], [6, 57, 59]⟩),
             (13, ⟨some 61, .not (.t 60), some (55, false), [], [60]⟩),
             (14, ⟨some 62, .pick (.t 55) (.c (.bool true)) (.t 61), none, [], [55, 61]⟩)])
           (.cond (.t 62)
            (.seq
             (.kill [0, 8, 9, 10, 62])
             (.seq
              (.reg false [
                (0, ⟨some 4, .mv (.c (.bool false)), none, [], []⟩)])
              .ret))
            (.seq
             (.kill [62])
             .skip))))))))
     (.reg false [
       (0, ⟨some 63, .bin .add (.t 10) (.c (.int .i64 (1))), none, [], [10]⟩),
       (1, ⟨some 10, .mv (.t 63), none, [], [63]⟩)]))))
def B52 : CCode :=
  (.seq
   (.reg false [
     (0, ⟨some 4, .mv (.c (.bool false)), none, [], [4]⟩)])
   (.seq
    (.seq
     (.reg false [
       (0, ⟨some 8, .mv (.t 1), none, [], [1]⟩),
       (1, ⟨some 9, .len (.t 8), none, [], []⟩),
       (2, ⟨some 10, .mv (.c (.int .i64 (0))), none, [], []⟩)])
     (.block 0
      (.loop L52_0)))
    (.seq
     (.reg false [
       (0, ⟨some 4, .mv (.c (.bool true)), none, [], []⟩)])
     .ret)))
def C52 : CFn := ⟨64, 2, [.t 4], B52⟩

def L53_0 : CCode :=
  (.seq
   (.seq
    (.reg false [
      (0, ⟨some 11, .mv (.t 5), none, [], []⟩),
      (1, ⟨some 12, .mv (.t 0), none, [], []⟩),
      (2, ⟨some 13, .len (.t 12), none, [], [12]⟩),
      (3, ⟨some 14, .bin .lss (.t 11) (.t 13), none, [], [11, 13]⟩)])
    (.cond (.t 14)
     (.seq
      (.kill [14])
      .skip)
     (.seq
      (.kill [0, 1, 5, 14])
      (.exit 0))))
   (.seq
    (.block 1
     (.seq
      (.reg true [
        (0, ⟨some 17, .mv (.t 0), none, [], []⟩),
        (1, ⟨some 18, .mv (.t 5), none, [], []⟩),
        (2, ⟨some 19, .ia 3 (.t 17) (.t 18), none, [], []⟩),
        (3, ⟨some 20, .ld 3 true (.t 19), none, [], [19]⟩),
        (4, ⟨some 21, .mv (.t 1), none, [], []⟩),
        (5, ⟨some 22, .mv (.t 5), none, [], []⟩),
        (6, ⟨some 23, .ia 3 (.t 21) (.t 22), none, [], []⟩),
        (7, ⟨some 24, .ld 3 true (.t 23), none, [], [23]⟩),
        (8, ⟨some 25, .call 121 [(.t 20), (.t 24)], none, [], [17, 18, 20, 21, 22, 24]⟩),
        (9, ⟨some 26, .not (.t 25), none, [], [25]⟩)])
      (.cond (.t 26)
       (.seq
        (.kill [0, 1, 5, 26])
        (.seq
         (.reg false [
           (0, ⟨some 4, .mv (.c (.bool false)), none, [], []⟩)])
         .ret))
       (.seq
        (.kill [26])
        .skip))))
    (.reg false [
      (0, ⟨some 15, .mv (.t 5), none, [], [5]⟩),
      (1, ⟨some 16, .bin .add (.t 15) (.c (.int .i64 (1))), none, [], [15]⟩),
      (2, ⟨some 5, .mv (.t 16), none, [], [16]⟩)])))
def B53 : CCode :=
  (.seq
   (.reg false [
     (0, ⟨some 4, .mv (.c (.bool false)), none, [], [4]⟩)])
   (.seq
    (.seq
     (.reg false [
       (0, ⟨some 6, .mv (.t 0), none, [], []⟩),
       (1, ⟨some 7, .len (.t 6), none, [], [6]⟩),
       (2, ⟨some 8, .mv (.t 1), none, [], []⟩),
       (3, ⟨some 9, .len (.t 8), none, [], [8]⟩),
       (4, ⟨some 10, .bin .neq (.t 7) (.t 9), none, [], [7, 9]⟩)])
     (.cond (.t 10)
      (.seq
       (.kill [0, 1, 10])
       (.seq
        (.reg false [
          (0, ⟨some 4, .mv (.c (.bool false)), none, [], []⟩)])
        .ret))
      (.seq
       (.kill [10])
       .skip)))
    (.seq
     (.seq
      (.reg false [
        (0, ⟨some 5, .mv (.c (.int .i64 (0))), none, [], []⟩)])
      (.block 0
       (.loop L53_0)))
     (.seq
      (.reg false [
        (0, ⟨some 4, .mv (.c (.bool true)), none, [], []⟩)])
      .ret))))
def C53 : CFn := ⟨27, 2, [.t 4], B53⟩

def L54_0 : CCode :=
  (.seq
   (.seq
    (.reg false [
      (0, ⟨some 11, .mv (.t 5), none, [], []⟩),
      (1, ⟨some 12, .mv (.t 0), none, [], []⟩),
      (2, ⟨some 13, .len (.t 12), none, [], [12]⟩),
      (3, ⟨some 14, .bin .lss (.t 11) (.t 13), none, [], [11, 13]⟩)])
    (.cond (.t 14)
     (.seq
      (.kill [14])
      .skip)
     (.seq
      (.kill [0, 1, 5, 14])
      (.exit 0))))
   (.seq
    (.block 1
     (.seq
      (.reg true [
        (0, ⟨some 17, .mv (.t 0), none, [], []⟩),
        (1, ⟨some 18, .mv (.t 5), none, [], []⟩),
        (2, ⟨some 19, .ia 4 (.t 17) (.t 18), none, [], []⟩),
        (3, ⟨some 20, .ld 4 true (.t 19), none, [], [19]⟩),
        (4, ⟨some 21, .mv (.t 1), none, [], []⟩),
        (5, ⟨some 22, .mv (.t 5), none, [], []⟩),
        (6, ⟨some 23, .ia 4 (.t 21) (.t 22), none, [], []⟩),
        (7, ⟨some 24, .ld 4 true (.t 23), none, [], [23]⟩),
        (8, ⟨some 25, .call 122 [(.t 20), (.t 24)], none, [], [17, 18, 20, 21, 22, 24]⟩),
        (9, ⟨some 26, .not (.t 25), none, [], [25]⟩)])
      (.cond (.t 26)
       (.seq
        (.kill [0, 1, 5, 26])
        (.seq
         (.reg false [
           (0, ⟨some 4, .mv (.c (.bool false)), none, [], []⟩)])
         .ret))
       (.seq
        (.kill [26])
        .skip))))
    (.reg false [
      (0, ⟨some 15, .mv (.t 5), none, [], [5]⟩),
      (1, ⟨some 16, .bin .add (.t 15) (.c (.int .i64 (1))), none, [], [15]⟩),
      (2, ⟨some 5, .mv (.t 16), none, [], [16]⟩)])))
def B54 : CCode :=
  (.seq
   (.reg false [
     (0, ⟨some 4, .mv (.c (.bool false)), none, [], [4]⟩)])
   (.seq
    (.seq
     (.reg false [
       (0, ⟨some 6, .mv (.t 0), none, [], []⟩),
       (1, ⟨some 7, .len (.t 6), none, [], [6]⟩),
       (2, ⟨some 8, .mv (.t 1), none, [], []⟩),
       (3, ⟨some 9, .len (.t 8), none, [], [8]⟩),
       (4, ⟨some 10, .bin .neq (.t 7) (.t 9), none, [], [7, 9]⟩)])
     (.cond (.t 10)
      (.seq
       (.kill [0, 1, 10])
       (.seq
        (.reg false [
          (0, ⟨some 4, .mv (.c (.bool false)), none, [], []⟩)])
        .ret))
      (.seq
       (.kill [10])
       .skip)))
    (.seq
     (.seq
      (.reg false [
        (0, ⟨some 5, .mv (.c (.int .i64 (0))), none, [], []⟩)])
      (.block 0
       (.loop L54_0)))
     (.seq
      (.reg false [
        (0, ⟨some 4, .mv (.c (.bool true)), none, [], []⟩)])
      .ret))))
def C54 : CFn := ⟨27, 2, [.t 4], B54⟩

def B64 : CCode :=
  (.seq
   (.reg false [
     (0, ⟨some 4, .mv (.c (.int .i64 (0))), none, [], [4]⟩)])
   (.seq
    (.reg false [
      (0, ⟨some 5, .mv (.t 1), none, [], [1]⟩),
      (1, ⟨some 6, .mv (.t 0), none, [], [0]⟩),
      (2, ⟨some 7, .len (.t 6), none, [], [6]⟩),
      (3, ⟨some 8, .bin .sub (.t 5) (.t 7), none, [], [5, 7]⟩),
      (4, ⟨some 1, .mv (.t 8), none, [], [8]⟩)])
    (.seq
     (.seq
      (.reg false [
        (0, ⟨some 9, .mv (.t 1), none, [], []⟩),
        (1, ⟨some 10, .bin .lss (.t 9) (.c (.int .i64 (0))), none, [], [9]⟩)])
      (.cond (.t 10)
       (.seq
        (.kill [1, 10])
        (.seq
         (.reg false [
           (0, ⟨some 4, .mv (.c (.int .i64 (-1))), none, [], []⟩)])
         .ret))
       (.seq
        (.kill [10])
        .skip)))
     (.seq
      (.reg false [
        (0, ⟨some 11, .mv (.t 1), none, [], [1]⟩),
        (1, ⟨some 4, .mv (.t 11), none, [], [11]⟩)])
      .ret))))
def C64 : CFn := ⟨12, 2, [.t 4], B64⟩

def B71 : CCode :=
  (.seq
   (.reg false [
     (0, ⟨some 6, .mv (.c (.bool false)), none, [], [6]⟩)])
   (.seq
    (.reg false [
      (0, ⟨some 7, .mv (.t 0), none, [], []⟩),
      (1, ⟨some 8, .mv (.t 1), none, [], [1]⟩),
      (2, ⟨some 9, .bin .geq (.t 7) (.t 8), none, [], [7, 8]⟩),
      (3, ⟨some 10, .mv (.t 9), none, [], [9]⟩),
      (4, ⟨some 11, .mv (.t 0), some (10, true), [], [0]⟩),
      (5, ⟨some 12, .mv (.t 2), some (10, true), [], [2]⟩),
      (6, ⟨some 13, .bin .leq (.t 11) (.t 12), some (10, true), [], [11, 12]⟩),
      (7, ⟨some 14, .pick (.t 10) (.t 13) (.c (.bool false)), none, [], [10, 13]⟩),
      (8, ⟨some 6, .mv (.t 14), none, [], [14]⟩)])
    .ret))
def C71 : CFn := ⟨15, 3, [.t 6], B71⟩

def B74 : CCode :=
  (.seq
   (.reg false [
     (0, ⟨some 4, .mv (.c (.bool false)), none, [], [4]⟩)])
   (.seq
    (.reg false [
      (0, ⟨some 5, .mv (.t 0), none, [], [0]⟩),
      (1, ⟨some 6, .mv (.t 1), none, [], [1]⟩),
      (2, ⟨some 7, .call 103 [(.t 5), (.t 6)], none, [], [5, 6]⟩),
      (3, ⟨some 8, .bin .geq (.t 7) (.c (.int .i64 (0))), none, [], [7]⟩),
      (4, ⟨some 4, .mv (.t 8), none, [], [8]⟩)])
    .ret))
def C74 : CFn := ⟨9, 2, [.t 4], B74⟩

def B87 : CCode :=
  (.seq
   (.reg false [
     (0, ⟨some 6, .mv (.c (.bool false)), none, [], [6]⟩)])
   (.seq
    (.reg false [
      (0, ⟨some 7, .mv (.t 1), none, [], [1]⟩),
      (1, ⟨some 8, .mv (.t 0), none, [], []⟩),
      (2, ⟨some 9, .bin .leq (.t 7) (.t 8), none, [], [7, 8]⟩),
      (3, ⟨some 10, .mv (.t 9), none, [], [9]⟩),
      (4, ⟨some 11, .mv (.t 0), some (10, true), [], [0]⟩),
      (5, ⟨some 12, .mv (.t 2), some (10, true), [], [2]⟩),
      (6, ⟨some 13, .bin .leq (.t 11) (.t 12), some (10, true), [], [11, 12]⟩),
      (7, ⟨some 14, .pick (.t 10) (.t 13) (.c (.bool false)), none, [], [10, 13]⟩),
      (8, ⟨some 6, .mv (.t 14), none, [], [14]⟩)])
    .ret))
def C87 : CFn := ⟨15, 3, [.t 6], B87⟩

def L94_0 : CCode :=
  (.seq
   (.seq
    (.reg false [
      (0, ⟨some 4, .mv (.t 3), none, [], []⟩),
      (1, ⟨some 5, .mv (.t 0), none, [], []⟩),
      (2, ⟨some 6, .len (.t 5), none, [], [5]⟩),
      (3, ⟨some 7, .bin .lss (.t 4) (.t 6), none, [], [4, 6]⟩)])
    (.cond (.t 7)
     (.seq
      (.kill [7])
      .skip)
     (.seq
      (.kill [3, 7])
      (.exit 0))))
   (.seq
    (.block 1
     (.seq
      (.reg true [
        (0, ⟨some 10, .mv (.t 0), none, [], []⟩),
        (1, ⟨some 11, .mv (.t 3), none, [], []⟩),
        (2, ⟨some 12, .ia 3 (.t 10) (.t 11), none, [], []⟩),
        (3, ⟨some 13, .ld 3 true (.t 12), none, [], [12]⟩),
        (4, ⟨some 14, .call 154 [(.t 13)], none, [], [10, 11, 13]⟩),
        (5, ⟨some 15, .not (.t 14), none, [], [14]⟩),
        (6, ⟨some 16, .mv (.t 15), none, [], [15]⟩),
        (7, ⟨some 17, .mv (.t 3), some (16, false), [], []⟩),
        (8, ⟨some 18, .bin .gtr (.t 17) (.c (.int .i64 (0))), some (16, false), [], [17]⟩),
        (9, ⟨some 19, .mv (.t 18), some (16, false), [], [18]⟩),
        (10, ⟨some 20, .mv (.t 0), some (19, true), [], []⟩),
        (11, ⟨some 21, .mv (.t 3), some (19, true), [], []⟩),
        (12, ⟨some 22, .bin .sub (.t 21) (.c (.int .i64 (1))), some (19, true), [], [21]⟩),
        (13, ⟨some 23, .ia 3 (.t 20) (.t 22), some (19, true), [], []⟩),
        (14, ⟨some 24, .fa 0 (.t 23), some (19, true), [], [23]⟩),
        (15, ⟨some 25, .ld 1 false (.t 24), some (19, true), [], [20, 22, 24]⟩),
        (16, ⟨some 26, .mv (.t 0), some (19, true), [], []⟩),
        (17, ⟨some 27, .mv (.t 3), some (19, true), [], []⟩),
        (18, ⟨some 28, .ia 3 (.t 26) (.t 27), some (19, true), [], []⟩),
        (19, ⟨some 29, .fa 0 (.t 28), some (19, true), [], [28]⟩),
        (20, ⟨some 30, .ld 1 false (.t 29), some (19, true), [], [26, 27, 29]⟩),
        (21, ⟨some 31, .bin .geq (.t 25) (.t 30), some (19, true), [], [25, 30]⟩),
        (22, ⟨some 32, .pick (.t 19) (.t 31) (.c (.bool false)), some (16, false), [], [19, 31]⟩),
        (23, ⟨some 33, .pick (.t 16) (.c (.bool true)) (.t 32), none, [], [16, 32]⟩)])
      (.cond (.t 33)
       (.seq
        (.kill [0, 3, 33])
        (.seq
         (.reg false [
           (0, ⟨some 2, .mv (.c (.bool false)), none, [], []⟩)])
         .ret))
       (.seq
        (.kill [33])
        .skip))))
    (.reg false [
      (0, ⟨some 8, .mv (.t 3), none, [], [3]⟩),
      (1, ⟨some 9, .bin .add (.t 8) (.c (.int .i64 (1))), none, [], [8]⟩),
      (2, ⟨some 3, .mv (.t 9), none, [], [9]⟩)])))
def B94 : CCode :=
  (.seq
   (.reg false [
     (0, ⟨some 2, .mv (.c (.bool false)), none, [], [2]⟩)])
   (.seq
    (.seq
     (.reg false [
       (0, ⟨some 3, .mv (.c (.int .i64 (0))), none, [], []⟩)])
     (.block 0
      (.loop L94_0)))
    (.seq
     (.reg false [
       (0, ⟨some 34, .mv (.t 0), none, [], [0]⟩),
       (1, ⟨some 35, .len (.t 34), none, [], [34]⟩),
       (2, ⟨some 36, .bin .leq (.t 35) (.c (.int .i64 (4))), none, [], [35]⟩),
       (3, ⟨some 2, .mv (.t 36), none, [], [36]⟩)])
     .ret)))
def C94 : CFn := ⟨37, 1, [.t 2], B94⟩

def L98_0 : CCode :=
  (.seq
   (.seq
    (.reg false [
      (0, ⟨some 6, .mv (.t 5), none, [], []⟩),
      (1, ⟨some 7, .mv (.t 0), none, [], []⟩),
      (2, ⟨some 8, .len (.t 7), none, [], [7]⟩),
      (3, ⟨some 9, .bin .lss (.t 6) (.t 8), none, [], [6, 8]⟩)])
    (.cond (.t 9)
     (.seq
      (.kill [9])
      .skip)
     (.seq
      (.kill [0, 1, 5, 9])
      (.exit 0))))
   (.seq
    (.block 1
     (.seq
      (.reg false [
        (0, ⟨some 12, .mv (.t 0), none, [], []⟩),
        (1, ⟨some 13, .mv (.t 5), none, [], []⟩),
        (2, ⟨some 14, .ia 1 (.t 12) (.t 13), none, [], []⟩),
        (3, ⟨some 15, .ld 1 false (.t 14), none, [], [12, 13, 14]⟩),
        (4, ⟨some 16, .mv (.t 1), none, [], []⟩),
        (5, ⟨some 17, .bin .eql (.t 15) (.t 16), none, [], [15, 16]⟩)])
      (.cond (.t 17)
       (.seq
        (.kill [0, 1, 5, 17])
        (.seq
         (.reg false [
           (0, ⟨some 4, .mv (.c (.bool true)), none, [], []⟩)])
         .ret))
       (.seq
        (.kill [17])
        .skip))))
    (.reg false [
      (0, ⟨some 10, .mv (.t 5), none, [], [5]⟩),
      (1, ⟨some 11, .bin .add (.t 10) (.c (.int .i64 (1))), none, [], [10]⟩),
      (2, ⟨some 5, .mv (.t 11), none, [], [11]⟩)])))
def B98 : CCode :=
  (.seq
   (.reg false [
     (0, ⟨some 4, .mv (.c (.bool false)), none, [], [4]⟩)])
   (.seq
    (.seq
     (.reg false [
       (0, ⟨some 5, .mv (.c (.int .i64 (0))), none, [], []⟩)])
     (.block 0
      (.loop L98_0)))
    (.seq
     (.reg false [
       (0, ⟨some 4, .mv (.c (.bool false)), none, [], []⟩)])
     .ret)))
def C98 : CFn := ⟨18, 2, [.t 4], B98⟩

def L103_0 : CCode :=
  (.seq
   (.reg false [
     (0, ⟨some 9, .bin .lss (.t 8) (.t 7), none, [], []⟩)])
   (.seq
    (.cond (.t 9)
     (.seq
      (.kill [9])
      .skip)
     (.seq
      (.kill [0, 1, 7, 8, 9])
      (.exit 0)))
    (.seq
     (.block 1
      (.seq
       (.reg false [
         (0, ⟨some 10, .mv (.t 8), none, [], []⟩),
         (1, ⟨some 5, .mv (.t 10), none, [], [10]⟩)])
       (.seq
        (.reg false [
          (0, ⟨some 11, .mv (.t 1), none, [], []⟩),
          (1, ⟨some 12, .mv (.t 0), none, [], []⟩),
          (2, ⟨some 13, .mv (.t 5), none, [], []⟩),
          (3, ⟨some 14, .ia 1 (.t 12) (.t 13), none, [], []⟩),
          (4, ⟨some 15, .ld 1 false (.t 14), none, [], [12, 13, 14]⟩),
          (5, ⟨some 16, .callv (.t 11) [(.t 15)], none, [], [11, 15]⟩)])
        (.cond (.t 16)
         (.seq
          (.kill [0, 1, 7, 8, 16])
          (.seq
           (.reg false [
             (0, ⟨some 17, .mv (.t 5), none, [], [5]⟩),
             (1, ⟨some 4, .mv (.t 17), none, [], [17]⟩)])
           .ret))
         (.seq
          (.kill [5, 16])
          .skip)))))
     (.reg false [
       (0, ⟨some 18, .bin .add (.t 8) (.c (.int .i64 (1))), none, [], [8]⟩),
       (1, ⟨some 8, .mv (.t 18), none, [], [18]⟩)]))))
def B103 : CCode :=
  (.seq
   (.reg false [
     (0, ⟨some 4, .mv (.c (.int .i64 (0))), none, [], [4]⟩)])
   (.seq
    (.seq
     (.reg false [
       (0, ⟨some 6, .mv (.t 0), none, [], []⟩),
       (1, ⟨some 7, .len (.t 6), none, [], [6]⟩),
       (2, ⟨some 8, .mv (.c (.int .i64 (0))), none, [], []⟩)])
     (.block 0
      (.loop L103_0)))
    (.seq
     (.reg false [
       (0, ⟨some 4, .mv (.c (.int .i64 (-1))), none, [], []⟩)])
     .ret)))
def C103 : CFn := ⟨19, 2, [.t 4], B103⟩

def B105 : CCode :=
  (.seq
   (.reg false [
     (0, ⟨some 4, .mv (.c (.bool false)), none, [], [4]⟩)])
   (.seq
    (.reg false [
      (0, ⟨some 5, .mv (.t 0), none, [], [0]⟩),
      (1, ⟨some 6, .mv (.t 1), none, [], [1]⟩),
      (2, ⟨some 7, .call 158 [(.t 5), (.t 6)], none, [], [5, 6]⟩),
      (3, ⟨some 8, .bin .geq (.t 7) (.c (.int .i64 (0))), none, [], [7]⟩),
      (4, ⟨some 4, .mv (.t 8), none, [], [8]⟩)])
    .ret))
def C105 : CFn := ⟨9, 2, [.t 4], B105⟩

def B109 : CCode :=
  (.seq
   (.reg false [
     (0, ⟨some 2, .box 3 (.t 0), none, [], [0]⟩),
     (1, ⟨some 4, .mv (.c (.int .i64 (0))), none, [], [4]⟩)])
   (.seq
    (.reg false [
      (0, ⟨some 5, .mv (.t 1), none, [], [1]⟩),
      (1, ⟨some 6, .fa 0 (.t 2), none, [], []⟩),
      (2, ⟨some 7, .ld 1 false (.t 6), none, [], [2, 6]⟩),
      (3, ⟨some 8, .lens (.t 7), none, [], [7]⟩),
      (4, ⟨some 9, .bin .sub (.t 5) (.t 8), none, [], [5, 8]⟩),
      (5, ⟨some 1, .mv (.t 9), none, [], [9]⟩)])
    (.seq
     (.seq
      (.reg false [
        (0, ⟨some 10, .mv (.t 1), none, [], []⟩),
        (1, ⟨some 11, .bin .lss (.t 10) (.c (.int .i64 (0))), none, [], [10]⟩)])
      (.cond (.t 11)
       (.seq
        (.kill [1, 11])
        (.seq
         (.reg false [
           (0, ⟨some 4, .mv (.c (.int .i64 (-1))), none, [], []⟩)])
         .ret))
       (.seq
        (.kill [11])
        .skip)))
     (.seq
      (.reg false [
        (0, ⟨some 12, .mv (.t 1), none, [], [1]⟩),
        (1, ⟨some 4, .mv (.t 12), none, [], [12]⟩)])
      .ret))))
def C109 : CFn := ⟨13, 2, [.t 4], B109⟩

def B110 : CCode :=
  (.seq
   (.reg false [
     (0, ⟨some 2, .box 4 (.t 0), none, [], [0]⟩),
     (1, ⟨some 4, .mv (.c (.int .i64 (0))), none, [], [4]⟩)])
   (.seq
    (.reg false [
      (0, ⟨some 5, .fa 0 (.t 2), none, [], []⟩),
      (1, ⟨some 6, .ld 2 true (.t 5), none, [], [5]⟩),
      (2, ⟨some 7, .mv (.t 1), none, [], [1]⟩),
      (3, ⟨some 8, .call 161 [(.t 6), (.t 7)], none, [], [6, 7]⟩),
      (4, ⟨some 1, .mv (.t 8), none, [], [8]⟩)])
    (.seq
     (.seq
      (.reg false [
        (0, ⟨some 9, .mv (.t 1), none, [], []⟩),
        (1, ⟨some 10, .bin .lss (.t 9) (.c (.int .i64 (0))), none, [], [9]⟩)])
      (.cond (.t 10)
       (.seq
        (.kill [1, 2, 10])
        (.seq
         (.reg false [
           (0, ⟨some 4, .mv (.c (.int .i64 (-1))), none, [], []⟩)])
         .ret))
       (.seq
        (.kill [10])
        .skip)))
     (.seq
      (.reg false [
        (0, ⟨some 11, .fa 2 (.t 2), none, [], []⟩),
        (1, ⟨some 12, .ld 1 false (.t 11), none, [], [11]⟩),
        (2, ⟨some 13, .mv (.t 1), none, [], [1]⟩),
        (3, ⟨some 14, .call 64 [(.t 12), (.t 13)], none, [], [12, 13]⟩),
        (4, ⟨some 1, .mv (.t 14), none, [], [14]⟩)])
      (.seq
       (.seq
        (.reg false [
          (0, ⟨some 15, .mv (.t 1), none, [], []⟩),
          (1, ⟨some 16, .bin .lss (.t 15) (.c (.int .i64 (0))), none, [], [15]⟩)])
        (.cond (.t 16)
         (.seq
          (.kill [1, 2, 16])
          (.seq
           (.reg false [
             (0, ⟨some 4, .mv (.c (.int .i64 (-1))), none, [], []⟩)])
           .ret))
         (.seq
          (.kill [16])
          .skip)))
       (.seq
        (.reg false [
          (0, ⟨some 17, .fa 3 (.t 2), none, [], []⟩),
          (1, ⟨some 18, .ld 1 false (.t 17), none, [], [17]⟩),
          (2, ⟨some 19, .mv (.t 1), none, [], [1]⟩),
          (3, ⟨some 20, .call 64 [(.t 18), (.t 19)], none, [], [2, 18, 19]⟩),
          (4, ⟨some 1, .mv (.t 20), none, [], [20]⟩)])
        (.seq
         (.seq
          (.reg false [
            (0, ⟨some 21, .mv (.t 1), none, [], []⟩),
            (1, ⟨some 22, .bin .lss (.t 21) (.c (.int .i64 (0))), none, [], [21]⟩)])
          (.cond (.t 22)
           (.seq
            (.kill [1, 22])
            (.seq
             (.reg false [
               (0, ⟨some 4, .mv (.c (.int .i64 (-1))), none, [], []⟩)])
             .ret))
           (.seq
            (.kill [22])
            .skip)))
         (.seq
          (.reg false [
            (0, ⟨some 23, .mv (.t 1), none, [], [1]⟩),
            (1, ⟨some 4, .mv (.t 23), none, [], [23]⟩)])
          .ret))))))))
def C110 : CFn := ⟨24, 2, [.t 4], B110⟩

def L111_0 : CCode :=
  (.seq
   (.seq
    (.reg false [
      (0, ⟨some 6, .mv (.t 5), none, [], []⟩),
      (1, ⟨some 7, .mv (.t 1), none, [], []⟩),
      (2, ⟨some 8, .len (.t 7), none, [], [7]⟩),
      (3, ⟨some 9, .bin .lss (.t 6) (.t 8), none, [], [6, 8]⟩)])
    (.cond (.t 9)
     (.seq
      (.kill [9])
      .skip)
     (.seq
      (.kill [0, 1, 5, 9])
      (.exit 0))))
   (.seq
    (.block 1
     (.seq
      (.reg false [
        (0, ⟨some 12, .mv (.t 0), none, [], []⟩),
        (1, ⟨some 13, .mv (.t 1), none, [], []⟩),
        (2, ⟨some 14, .mv (.t 5), none, [], []⟩),
        (3, ⟨some 15, .ia 1 (.t 13) (.t 14), none, [], []⟩),
        (4, ⟨some 16, .ld 1 false (.t 15), none, [], [13, 14, 15]⟩),
        (5, ⟨some 17, .call 98 [(.t 12), (.t 16)], none, [], [12, 16]⟩),
        (6, ⟨some 18, .not (.t 17), none, [], [17]⟩)])
      (.cond (.t 18)
       (.seq
        (.kill [0, 1, 5, 18])
        (.seq
         (.reg false [
           (0, ⟨some 4, .mv (.c (.bool false)), none, [], []⟩)])
         .ret))
       (.seq
        (.kill [18])
        .skip))))
    (.reg false [
      (0, ⟨some 10, .mv (.t 5), none, [], [5]⟩),
      (1, ⟨some 11, .bin .add (.t 10) (.c (.int .i64 (1))), none, [], [10]⟩),
      (2, ⟨some 5, .mv (.t 11), none, [], [11]⟩)])))
def B111 : CCode :=
  (.seq
   (.reg false [
     (0, ⟨some 4, .mv (.c (.bool false)), none, [], [4]⟩)])
   (.seq
    (.seq
     (.reg false [
       (0, ⟨some 5, .mv (.c (.int .i64 (0))), none, [], []⟩)])
     (.block 0
      (.loop L111_0)))
    (.seq
     (.reg false [
       (0, ⟨some 4, .mv (.c (.bool true)), none, [], []⟩)])
     .ret)))
def C111 : CFn := ⟨19, 2, [.t 4], B111⟩

def B112 : CCode :=
  (.seq
   (.reg false [
     (0, ⟨some 3, .box 2 (.t 1), none, [], [1]⟩),
     (1, ⟨some 4, .mv (.c (.nils)), none, [], [4]⟩)])
   (.seq
    (.seq
     (.reg true [
       (0, ⟨some 5, .fa 0 (.t 3), none, [], []⟩),
       (1, ⟨some 6, .ld 1 false (.t 5), none, [], [5]⟩),
       (2, ⟨some 7, .mv (.t 0), none, [], []⟩),
       (3, ⟨some 8, .len (.t 7), none, [], [7]⟩),
       (4, ⟨some 9, .bin .sub (.t 8) (.c (.int .i64 (1))), none, [], [8]⟩),
       (5, ⟨some 10, .call 71 [(.t 6), (.c (.int .i64 (0))), (.t 9)], none, [], [6, 9]⟩),
       (6, ⟨some 11, .not (.t 10), none, [], [10]⟩),
       (7, ⟨some 12, .mv (.t 11), none, [], [11]⟩),
       (8, ⟨some 13, .mv (.t 0), some (12, false), [], []⟩),
       (9, ⟨some 14, .fa 0 (.t 3), some (12, false), [], []⟩),
       (10, ⟨some 15, .ld 1 false (.t 14), some (12, false), [], [14]⟩),
       (11, ⟨some 16, .ia 3 (.t 13) (.t 15), some (12, false), [], []⟩),
       (12, ⟨some 17, .fa 2 (.t 16), some (12, false), [], [16]⟩),
       (13, ⟨some 18, .ld 1 false (.t 17), some (12, false), [], [13, 15, 17]⟩),
       (14, ⟨some 19, .fa 1 (.t 3), some (12, false), [], []⟩),
       (15, ⟨some 20, .ld 1 false (.t 19), some (12, false), [], [19]⟩),
       (16, ⟨some 21, .len (.t 20), some (12, false), [], [20]⟩),
       (17, ⟨some 22, .call 71 [(.t 18), (.c (.int .i64 (0))), (.t 21)], some (12, false), [], [18, 21]⟩),
       (18, ⟨some 23, .not (.t 22), some (12, false), [], [22]⟩),
       (19, ⟨some 24, .pick (.t 12) (.c (.bool true)) (.t 23), none, [], [12, 23]⟩)])
     (.cond (.t 24)
      (.seq
       (.kill [0, 3, 24])
       (.seq
        (.reg false [
          (0, ⟨some 25, .bsl 1 0 [.int .i64 (0)] [], none, [], []⟩),
          (1, ⟨some 4, .mv (.t 25), none, [], [25]⟩)])
        .ret))
      (.seq
       (.kill [24])
       .skip)))
    (.seq
     (.reg true [
       (0, ⟨some 26, .fa 1 (.t 3), none, [], []⟩),
       (1, ⟨some 27, .ld 1 false (.t 26), none, [], [26]⟩),
       (2, ⟨some 28, .mv (.t 0), none, [], [0]⟩),
       (3, ⟨some 29, .fa 0 (.t 3), none, [], []⟩),
       (4, ⟨some 30, .ld 1 false (.t 29), none, [], [29]⟩),
       (5, ⟨some 31, .ia 3 (.t 28) (.t 30), none, [], []⟩),
       (6, ⟨some 32, .fa 2 (.t 31), none, [], [31]⟩),
       (7, ⟨some 33, .ld 1 false (.t 32), none, [], [28, 30, 32]⟩),
       (8, ⟨some 34, .sls 1 (.t 27) none (some (.t 33)) none, none, [], [3, 27, 33]⟩),
       (9, ⟨some 35, .bld [.int .i64 (0), .nils] [(1, 1, (.t 34))], none, [], [34]⟩),
       (10, ⟨some 36, .call 113 [(.t 35)], none, [], [35]⟩),
       (11, ⟨some 4, .mv (.t 36), none, [], [36]⟩)])
     .ret)))
def C112 : CFn := ⟨37, 2, [.t 4], B112⟩

def L113_0 : CCode :=
  (.seq
   (.seq
    (.reg false [
      (0, ⟨some 6, .mv (.t 4), none, [], []⟩),
      (1, ⟨some 7, .bin .lss (.t 6) (.c (.int .i64 (4))), none, [], [6]⟩)])
    (.cond (.t 7)
     (.seq
      (.kill [7])
      .skip)
     (.seq
      (.kill [1, 4, 7])
      (.exit 0))))
   (.seq
    (.block 1
     (.seq
      (.reg false [
        (0, ⟨some 10, .fa 1 (.t 1), none, [], []⟩),
        (1, ⟨some 11, .ld 1 false (.t 10), none, [], [10]⟩),
        (2, ⟨some 12, .mv (.t 4), none, [], []⟩),
        (3, ⟨some 13, .call 98 [(.t 11), (.t 12)], none, [], [11, 12]⟩)])
      (.cond (.t 13)
       (.seq
        (.kill [13])
        (.reg false [
          (0, ⟨some 14, .mv (.t 3), none, [], [3]⟩),
          (1, ⟨some 15, .mv (.t 4), none, [], []⟩),
          (2, ⟨some 16, .bsl 1 1 [.int .i64 (0)] [(0, 1, (.t 15))], none, [], [15]⟩),
          (3, ⟨some 17, .app 1 8 (.t 14) (.t 16), none, [], [14, 16]⟩),
          (4, ⟨some 3, .mv (.t 17), none, [], [17]⟩)]))
       (.seq
        (.kill [13])
        .skip))))
    (.reg false [
      (0, ⟨some 8, .mv (.t 4), none, [], [4]⟩),
      (1, ⟨some 9, .bin .add (.t 8) (.c (.int .i64 (1))), none, [], [8]⟩),
      (2, ⟨some 4, .mv (.t 9), none, [], [9]⟩)])))
def B113 : CCode :=
  (.seq
   (.reg false [
     (0, ⟨some 1, .box 2 (.t 0), none, [], [0]⟩),
     (1, ⟨some 2, .mv (.c (.nils)), none, [], [2]⟩)])
   (.seq
    (.reg false [
      (0, ⟨some 5, .bsl 1 0 [.int .i64 (0)] [], none, [], []⟩),
      (1, ⟨some 3, .mv (.t 5), none, [], [5]⟩)])
    (.seq
     (.seq
      (.reg false [
        (0, ⟨some 4, .mv (.c (.int .i64 (0))), none, [], []⟩)])
      (.block 0
       (.loop L113_0)))
     (.seq
      (.reg false [
        (0, ⟨some 18, .mv (.t 3), none, [], [3]⟩),
        (1, ⟨some 2, .mv (.t 18), none, [], [18]⟩)])
      .ret))))
def C113 : CFn := ⟨19, 1, [.t 2], B113⟩

def B114 : CCode :=
  (.seq
   (.reg false [
     (0, ⟨some 1, .box 3 (.t 0), none, [], [0]⟩),
     (1, ⟨some 2, .al [.str [], .int .i64 (0), .int .i64 (0)], none, [], []⟩)])
   (.seq
    (.reg false [
      (0, ⟨some 3, .al [.str [], .int .i64 (0), .int .i64 (0)], none, [], []⟩)])
    (.seq
     (.reg false [
       (0, ⟨some 4, .fa 0 (.t 1), none, [], []⟩),
       (1, ⟨some 5, .ld 1 false (.t 4), none, [], [4]⟩),
       (2, ⟨some 6, .fa 0 (.t 3), none, [], []⟩),
       (3, ⟨none, .st 1 (.t 6) (.t 5), none, [], [5, 6]⟩)])
     (.seq
      (.reg false [
        (0, ⟨some 7, .fa 1 (.t 1), none, [], []⟩),
        (1, ⟨some 8, .ld 1 false (.t 7), none, [], [7]⟩),
        (2, ⟨some 9, .fa 1 (.t 3), none, [], []⟩),
        (3, ⟨none, .st 1 (.t 9) (.t 8), none, [], [8, 9]⟩)])
      (.seq
       (.reg false [
         (0, ⟨some 10, .fa 2 (.t 1), none, [], []⟩),
         (1, ⟨some 11, .ld 1 false (.t 10), none, [], [1, 10]⟩),
         (2, ⟨some 12, .fa 2 (.t 3), none, [], []⟩),
         (3, ⟨none, .st 1 (.t 12) (.t 11), none, [], [11, 12]⟩)])
       (.seq
        (.reg false [
          (0, ⟨some 13, .ld 3 true (.t 3), none, [], []⟩),
          (1, ⟨none, .st 3 (.t 2) (.t 13), none, [], [3, 13]⟩)])
        .ret))))))
def C114 : CFn := ⟨14, 1, [.m 2 3 true], B114⟩

def B115 : CCode :=
  (.seq
   (.reg false [
     (0, ⟨some 1, .box 4 (.t 0), none, [], [0]⟩),
     (1, ⟨some 2, .al [.int .i64 (0), .nils, .nils, .nils], none, [], []⟩)])
   (.seq
    (.reg false [
      (0, ⟨some 3, .al [.int .i64 (0), .nils, .nils, .nils], none, [], []⟩)])
    (.seq
     (.reg false [
       (0, ⟨some 4, .fa 0 (.t 1), none, [], []⟩),
       (1, ⟨some 5, .ld 2 true (.t 4), none, [], [4]⟩),
       (2, ⟨some 6, .call 162 [(.t 5)], none, [], [5]⟩),
       (3, ⟨some 7, .fa 0 (.t 3), none, [], []⟩),
       (4, ⟨none, .st 2 (.t 7) (.t 6), none, [], [6, 7]⟩)])
     (.seq
      (.reg false [
        (0, ⟨some 8, .fa 2 (.t 1), none, [], []⟩),
        (1, ⟨some 9, .ld 1 false (.t 8), none, [], [8]⟩),
        (2, ⟨some 10, .call 40 [(.t 9)], none, [], [9]⟩),
        (3, ⟨some 11, .fa 2 (.t 3), none, [], []⟩),
        (4, ⟨none, .st 1 (.t 11) (.t 10), none, [], [10, 11]⟩)])
      (.seq
       (.reg false [
         (0, ⟨some 12, .fa 3 (.t 1), none, [], []⟩),
         (1, ⟨some 13, .ld 1 false (.t 12), none, [], [12]⟩),
         (2, ⟨some 14, .call 40 [(.t 13)], none, [], [1, 13]⟩),
         (3, ⟨some 15, .fa 3 (.t 3), none, [], []⟩),
         (4, ⟨none, .st 1 (.t 15) (.t 14), none, [], [14, 15]⟩)])
       (.seq
        (.reg false [
          (0, ⟨some 16, .ld 4 true (.t 3), none, [], []⟩),
          (1, ⟨none, .st 4 (.t 2) (.t 16), none, [], [3, 16]⟩)])
        .ret))))))
def C115 : CFn := ⟨17, 1, [.m 2 4 true], B115⟩

def L116_0 : CCode :=
  (.seq
   (.reg false [
     (0, ⟨some 8, .bin .lss (.t 7) (.t 6), none, [], []⟩)])
   (.seq
    (.cond (.t 8)
     (.seq
      (.kill [8])
      .skip)
     (.seq
      (.kill [5, 6, 7, 8])
      (.exit 0)))
    (.seq
     (.block 1
      (.seq
       (.reg false [
         (0, ⟨some 9, .mv (.t 7), none, [], []⟩),
         (1, ⟨some 10, .ia 3 (.t 5) (.t 7), none, [], []⟩),
         (2, ⟨some 11, .ld 3 true (.t 10), none, [], [10]⟩),
         (3, ⟨some 4, .al [.str [], .int .i64 (0), .int .i64 (0)], none, [], []⟩),
         (4, ⟨some 3, .mv (.t 9), none, [], [9]⟩),
         (5, ⟨none, .st 3 (.t 4) (.t 11), none, [], [11]⟩)])
       (.seq
        (.reg true [
          (0, ⟨some 12, .ld 3 true (.t 4), none, [], []⟩),
          (1, ⟨some 13, .call 163 [(.t 12)], none, [], [12]⟩),
          (2, ⟨some 14, .not (.t 13), none, [], [13]⟩),
          (3, ⟨some 15, .mv (.t 14), none, [], [14]⟩),
          (4, ⟨some 16, .mv (.t 3), some (15, false), [], []⟩),
          (5, ⟨some 17, .bin .gtr (.t 16) (.c (.int .i64 (0))), some (15, false), [], [16]⟩),
          (6, ⟨some 18, .mv (.t 17), some (15, false), [], [17]⟩),
          (7, ⟨some 19, .mv (.t 0), some (18, true), [], []⟩),
          (8, ⟨some 20, .mv (.t 3), some (18, true), [], [3]⟩),
          (9, ⟨some 21, .bin .sub (.t 20) (.c (.int .i64 (1))), some (18, true), [], [20]⟩),
          (10, ⟨some 22, .ia 3 (.t 19) (.t 21), some (18, true), [], []⟩),
          (11, ⟨some 23, .fa 0 (.t 22), some (18, true), [], [22]⟩),
          (12, ⟨some 24, .ld 1 false (.t 23), some (18, true), [], [19, 21, 23]⟩),
          (13, ⟨some 25, .fa 0 (.t 4), some (18, true), [], []⟩),
          (14, ⟨some 26, .ld 1 false (.t 25), some (18, true), [], [4, 25]⟩),
          (15, ⟨some 27, .bin .geq (.t 24) (.t 26), some (18, true), [], [24, 26]⟩),
          (16, ⟨some 28, .pick (.t 18) (.t 27) (.c (.bool false)), some (15, false), [], [18, 27]⟩),
          (17, ⟨some 29, .pick (.t 15) (.c (.bool true)) (.t 28), none, [], [15, 28]⟩)])
        (.cond (.t 29)
         (.seq
          (.kill [0, 5, 6, 7, 29])
          (.seq
           (.reg false [
             (0, ⟨some 2, .mv (.c (.bool false)), none, [], []⟩)])
           .ret))
         (.seq
          (.kill [29])
          .skip)))))
     (.reg false [
       (0, ⟨some 30, .bin .add (.t 7) (.c (.int .i64 (1))), none, [], [7]⟩),
       (1, ⟨some 7, .mv (.t 30), none, [], [30]⟩)]))))
def B116 : CCode :=
  (.seq
   (.reg false [
     (0, ⟨some 2, .mv (.c (.bool false)), none, [], [2]⟩)])
   (.seq
    (.seq
     (.reg false [
       (0, ⟨some 5, .mv (.t 0), none, [], []⟩),
       (1, ⟨some 6, .len (.t 5), none, [], []⟩),
       (2, ⟨some 7, .mv (.c (.int .i64 (0))), none, [], []⟩)])
     (.block 0
      (.loop L116_0)))
    (.seq
     (.reg false [
       (0, ⟨some 31, .mv (.t 0), none, [], [0]⟩),
       (1, ⟨some 32, .len (.t 31), none, [], [31]⟩),
       (2, ⟨some 33, .bin .leq (.t 32) (.c (.int .i64 (4))), none, [], [32]⟩),
       (3, ⟨some 2, .mv (.t 33), none, [], [33]⟩)])
     .ret)))
def C116 : CFn := ⟨34, 1, [.t 2], B116⟩

def B117 : CCode :=
  (.seq
   (.reg false [
     (0, ⟨some 2, .mv (.c (.bool false)), none, [], [2]⟩)])
   (.seq
    (.reg false [
      (0, ⟨some 3, .mv (.t 0), none, [], [0]⟩),
      (1, ⟨some 4, .call 87 [(.t 3), (.c (.int .i64 (-10))), (.c (.int .i64 (3)))], none, [], [3]⟩),
      (2, ⟨some 5, .not (.t 4), none, [], [4]⟩),
      (3, ⟨some 2, .mv (.t 5), none, [], [5]⟩)])
    .ret))
def C117 : CFn := ⟨6, 1, [.t 2], B117⟩

def B118 : CCode :=
  (.seq
   (.reg false [
     (0, ⟨some 3, .box 1 (.t 1), none, [], [1]⟩),
     (1, ⟨some 4, .mv (.c (.bool false)), none, [], [4]⟩)])
   (.seq
    (.reg false [
      (0, ⟨some 5, .mv (.t 0), none, [], [0]⟩),
      (1, ⟨some 6, .fn 164 [(.t 3)], none, [], []⟩),
      (2, ⟨some 7, .call 74 [(.t 5), (.t 6)], none, [], [3, 5, 6]⟩),
      (3, ⟨some 8, .not (.t 7), none, [], [7]⟩),
      (4, ⟨some 4, .mv (.t 8), none, [], [8]⟩)])
    .ret))
def C118 : CFn := ⟨9, 2, [.t 4], B118⟩

def B119 : CCode :=
  (.seq
   (.reg false [
     (0, ⟨some 3, .box 2 (.t 1), none, [], [1]⟩),
     (1, ⟨some 4, .mv (.c (.nils)), none, [], [4]⟩)])
   (.seq
    (.seq
     (.reg true [
       (0, ⟨some 5, .fa 0 (.t 3), none, [], []⟩),
       (1, ⟨some 6, .ld 1 false (.t 5), none, [], [5]⟩),
       (2, ⟨some 7, .mv (.t 0), none, [], []⟩),
       (3, ⟨some 8, .len (.t 7), none, [], [7]⟩),
       (4, ⟨some 9, .bin .sub (.t 8) (.c (.int .i64 (1))), none, [], [8]⟩),
       (5, ⟨some 10, .call 87 [(.t 6), (.c (.int .i64 (0))), (.t 9)], none, [], [6, 9]⟩),
       (6, ⟨some 11, .not (.t 10), none, [], [10]⟩),
       (7, ⟨some 12, .mv (.t 11), none, [], [11]⟩),
       (8, ⟨some 13, .mv (.t 0), some (12, false), [], []⟩),
       (9, ⟨some 14, .fa 0 (.t 3), some (12, false), [], []⟩),
       (10, ⟨some 15, .ld 1 false (.t 14), some (12, false), [], [14]⟩),
       (11, ⟨some 16, .ia 3 (.t 13) (.t 15), some (12, false), [], []⟩),
       (12, ⟨some 17, .fa 2 (.t 16), some (12, false), [], [16]⟩),
       (13, ⟨some 18, .ld 1 false (.t 17), some (12, false), [], [13, 15, 17]⟩),
       (14, ⟨some 19, .fa 1 (.t 3), some (12, false), [], []⟩),
       (15, ⟨some 20, .ld 1 false (.t 19), some (12, false), [], [19]⟩),
       (16, ⟨some 21, .len (.t 20), some (12, false), [], [20]⟩),
       (17, ⟨some 22, .call 87 [(.t 18), (.c (.int .i64 (0))), (.t 21)], some (12, false), [], [18, 21]⟩),
       (18, ⟨some 23, .not (.t 22), some (12, false), [], [22]⟩),
       (19, ⟨some 24, .pick (.t 12) (.c (.bool true)) (.t 23), none, [], [12, 23]⟩)])
     (.cond (.t 24)
      (.seq
       (.kill [0, 3, 24])
       (.seq
        (.reg false [
          (0, ⟨some 4, .mv (.c (.nils)), none, [], []⟩)])
        .ret))
      (.seq
       (.kill [24])
       .skip)))
    (.seq
     (.reg true [
       (0, ⟨some 25, .fa 1 (.t 3), none, [], []⟩),
       (1, ⟨some 26, .ld 1 false (.t 25), none, [], [25]⟩),
       (2, ⟨some 27, .mv (.t 0), none, [], [0]⟩),
       (3, ⟨some 28, .fa 0 (.t 3), none, [], []⟩),
       (4, ⟨some 29, .ld 1 false (.t 28), none, [], [28]⟩),
       (5, ⟨some 30, .ia 3 (.t 27) (.t 29), none, [], []⟩),
       (6, ⟨some 31, .fa 2 (.t 30), none, [], [30]⟩),
       (7, ⟨some 32, .ld 1 false (.t 31), none, [], [27, 29, 31]⟩),
       (8, ⟨some 33, .sls 1 (.t 26) none (some (.t 32)) none, none, [], [3, 26, 32]⟩),
       (9, ⟨some 34, .bld [.int .i64 (0), .nils] [(1, 1, (.t 33))], none, [], [33]⟩),
       (10, ⟨some 35, .call 120 [(.t 34)], none, [], [34]⟩),
       (11, ⟨some 4, .mv (.t 35), none, [], [35]⟩)])
     .ret)))
def C119 : CFn := ⟨36, 2, [.t 4], B119⟩

def L120_0 : CCode :=
  (.seq
   (.reg false [
     (0, ⟨some 11, .bin .lss (.t 10) (.t 9), none, [], []⟩)])
   (.seq
    (.cond (.t 11)
     (.seq
      (.kill [11])
      .skip)
     (.seq
      (.kill [1, 8, 9, 10, 11])
      (.exit 0)))
    (.seq
     (.block 1
      (.seq
       (.reg false [
         (0, ⟨some 12, .ia 1 (.t 8) (.t 10), none, [], []⟩),
         (1, ⟨some 13, .ld 1 false (.t 12), none, [], [12]⟩),
         (2, ⟨some 5, .mv (.t 13), none, [], [13]⟩)])
       (.seq
        (.reg false [
          (0, ⟨some 14, .mv (.t 5), none, [], []⟩),
          (1, ⟨some 15, .call 87 [(.t 14), (.c (.int .i64 (0))), (.c (.int .i64 (3)))], none, [], [14]⟩)])
        (.cond (.t 15)
         (.seq
          (.kill [15])
          (.reg false [
            (0, ⟨some 16, .mv (.t 3), none, [], [3]⟩),
            (1, ⟨some 17, .mv (.t 5), none, [], [5]⟩),
            (2, ⟨some 18, .bsl 1 1 [.int .i64 (0)] [(0, 1, (.t 17))], none, [], [17]⟩),
            (3, ⟨some 19, .app 1 8 (.t 16) (.t 18), none, [], [16, 18]⟩),
            (4, ⟨some 3, .mv (.t 19), none, [], [19]⟩)]))
         (.seq
          (.kill [5, 15])
          .skip)))))
     (.reg false [
       (0, ⟨some 20, .bin .add (.t 10) (.c (.int .i64 (1))), none, [], [10]⟩),
       (1, ⟨some 10, .mv (.t 20), none, [], [20]⟩)]))))
def B120 : CCode :=
  (.seq
   (.reg false [
     (0, ⟨some 1, .box 2 (.t 0), none, [], [0]⟩),
     (1, ⟨some 2, .mv (.c (.nils)), none, [], [2]⟩)])
   (.seq
    (.reg false [
      (0, ⟨some 6, .bsl 1 0 [.int .i64 (0)] [], none, [], []⟩),
      (1, ⟨some 3, .mv (.t 6), none, [], [6]⟩)])
    (.seq
     (.seq
      (.reg false [
        (0, ⟨some 7, .fa 1 (.t 1), none, [], []⟩),
        (1, ⟨some 8, .ld 1 false (.t 7), none, [], [7]⟩),
        (2, ⟨some 9, .len (.t 8), none, [], []⟩),
        (3, ⟨some 10, .mv (.c (.int .i64 (0))), none, [], []⟩)])
      (.block 0
       (.loop L120_0)))
     (.seq
      (.reg false [
        (0, ⟨some 21, .mv (.t 3), none, [], [3]⟩),
        (1, ⟨some 22, .call 165 [(.t 21), (.c (.nils))], none, [], [21]⟩),
        (2, ⟨some 2, .mv (.t 22), none, [], [22]⟩)])
      .ret))))
def C120 : CFn := ⟨23, 1, [.t 2], B120⟩

def B121 : CCode :=
  (.seq
   (.reg false [
     (0, ⟨some 2, .box 3 (.t 0), none, [], [0]⟩),
     (1, ⟨some 3, .box 3 (.t 1), none, [], [1]⟩),
     (2, ⟨some 4, .mv (.c (.bool false)), none, [], [4]⟩)])
   (.seq
    (.seq
     (.reg false [
       (0, ⟨some 5, .fa 0 (.t 2), none, [], []⟩),
       (1, ⟨some 6, .ld 1 false (.t 5), none, [], [5]⟩),
       (2, ⟨some 7, .fa 0 (.t 3), none, [], []⟩),
       (3, ⟨some 8, .ld 1 false (.t 7), none, [], [7]⟩),
       (4, ⟨some 9, .bin .neq (.t 6) (.t 8), none, [], [6, 8]⟩)])
     (.cond (.t 9)
      (.seq
       (.kill [2, 3, 9])
       (.seq
        (.reg false [
          (0, ⟨some 4, .mv (.c (.bool false)), none, [], []⟩)])
        .ret))
      (.seq
       (.kill [9])
       .skip)))
    (.seq
     (.seq
      (.reg false [
        (0, ⟨some 10, .fa 1 (.t 2), none, [], []⟩),
        (1, ⟨some 11, .ld 1 false (.t 10), none, [], [10]⟩),
        (2, ⟨some 12, .fa 1 (.t 3), none, [], []⟩),
        (3, ⟨some 13, .ld 1 false (.t 12), none, [], [12]⟩),
        (4, ⟨some 14, .bin .neq (.t 11) (.t 13), none, [], [11, 13]⟩)])
      (.cond (.t 14)
       (.seq
        (.kill [2, 3, 14])
        (.seq
         (.reg false [
           (0, ⟨some 4, .mv (.c (.bool false)), none, [], []⟩)])
         .ret))
       (.seq
        (.kill [14])
        .skip)))
     (.seq
      (.seq
       (.reg false [
         (0, ⟨some 15, .fa 2 (.t 2), none, [], []⟩),
         (1, ⟨some 16, .ld 1 false (.t 15), none, [], [2, 15]⟩),
         (2, ⟨some 17, .fa 2 (.t 3), none, [], []⟩),
         (3, ⟨some 18, .ld 1 false (.t 17), none, [], [3, 17]⟩),
         (4, ⟨some 19, .bin .neq (.t 16) (.t 18), none, [], [16, 18]⟩)])
       (.cond (.t 19)
        (.seq
         (.kill [19])
         (.seq
          (.reg false [
            (0, ⟨some 4, .mv (.c (.bool false)), none, [], []⟩)])
          .ret))
        (.seq
         (.kill [19])
         .skip)))
      (.seq
       (.reg false [
         (0, ⟨some 4, .mv (.c (.bool true)), none, [], []⟩)])
       .ret)))))
def C121 : CFn := ⟨20, 2, [.t 4], B121⟩

def B122 : CCode :=
  (.seq
   (.reg false [
     (0, ⟨some 2, .box 4 (.t 0), none, [], [0]⟩),
     (1, ⟨some 3, .box 4 (.t 1), none, [], [1]⟩),
     (2, ⟨some 4, .mv (.c (.bool false)), none, [], [4]⟩)])
   (.seq
    (.seq
     (.reg false [
       (0, ⟨some 5, .fa 0 (.t 2), none, [], []⟩),
       (1, ⟨some 6, .ld 2 true (.t 5), none, [], [5]⟩),
       (2, ⟨some 7, .fa 0 (.t 3), none, [], []⟩),
       (3, ⟨some 8, .ld 2 true (.t 7), none, [], [7]⟩),
       (4, ⟨some 9, .call 166 [(.t 6), (.t 8)], none, [], [6, 8]⟩),
       (5, ⟨some 10, .not (.t 9), none, [], [9]⟩)])
     (.cond (.t 10)
      (.seq
       (.kill [2, 3, 10])
       (.seq
        (.reg false [
          (0, ⟨some 4, .mv (.c (.bool false)), none, [], []⟩)])
        .ret))
      (.seq
       (.kill [10])
       .skip)))
    (.seq
     (.seq
      (.reg false [
        (0, ⟨some 11, .fa 2 (.t 2), none, [], []⟩),
        (1, ⟨some 12, .ld 1 false (.t 11), none, [], [11]⟩),
        (2, ⟨some 13, .fa 2 (.t 3), none, [], []⟩),
        (3, ⟨some 14, .ld 1 false (.t 13), none, [], [13]⟩),
        (4, ⟨some 15, .call 42 [(.t 12), (.t 14)], none, [], [12, 14]⟩),
        (5, ⟨some 16, .not (.t 15), none, [], [15]⟩)])
      (.cond (.t 16)
       (.seq
        (.kill [2, 3, 16])
        (.seq
         (.reg false [
           (0, ⟨some 4, .mv (.c (.bool false)), none, [], []⟩)])
         .ret))
       (.seq
        (.kill [16])
        .skip)))
     (.seq
      (.seq
       (.reg false [
         (0, ⟨some 17, .fa 3 (.t 2), none, [], []⟩),
         (1, ⟨some 18, .ld 1 false (.t 17), none, [], [17]⟩),
         (2, ⟨some 19, .fa 3 (.t 3), none, [], []⟩),
         (3, ⟨some 20, .ld 1 false (.t 19), none, [], [19]⟩),
         (4, ⟨some 21, .call 42 [(.t 18), (.t 20)], none, [], [2, 3, 18, 20]⟩),
         (5, ⟨some 22, .not (.t 21), none, [], [21]⟩)])
       (.cond (.t 22)
        (.seq
         (.kill [22])
         (.seq
          (.reg false [
            (0, ⟨some 4, .mv (.c (.bool false)), none, [], []⟩)])
          .ret))
        (.seq
         (.kill [22])
         .skip)))
      (.seq
       (.reg false [
         (0, ⟨some 4, .mv (.c (.bool true)), none, [], []⟩)])
       .ret)))))
def C122 : CFn := ⟨23, 2, [.t 4], B122⟩

def B154 : CCode :=
  (.seq
   (.reg false [
     (0, ⟨some 1, .box 3 (.t 0), none, [], [0]⟩),
     (1, ⟨some 2, .mv (.c (.bool false)), none, [], [2]⟩)])
   (.seq
    (.reg false [
      (0, ⟨some 3, .fa 0 (.t 1), none, [], []⟩),
      (1, ⟨some 4, .ld 1 false (.t 3), none, [], [3]⟩),
      (2, ⟨some 5, .lens (.t 4), none, [], [4]⟩),
      (3, ⟨some 6, .bin .eql (.t 5) (.c (.int .i64 (1))), none, [], [5]⟩),
      (4, ⟨some 7, .mv (.t 6), none, [], [6]⟩),
      (5, ⟨some 8, .fa 0 (.t 1), some (7, true), [], []⟩),
      (6, ⟨some 9, .ld 1 false (.t 8), some (7, true), [], [8]⟩),
      (7, ⟨some 10, .ix (.t 9) (.c (.int .i64 (0))), some (7, true), [], [9]⟩),
      (8, ⟨some 11, .bin .geq (.t 10) (.c (.int .u8 (97))), some (7, true), [], [10]⟩),
      (9, ⟨some 12, .pick (.t 7) (.t 11) (.c (.bool false)), none, [], [7, 11]⟩),
      (10, ⟨some 13, .mv (.t 12), none, [], [12]⟩),
      (11, ⟨some 14, .fa 0 (.t 1), some (13, true), [], []⟩),
      (12, ⟨some 15, .ld 1 false (.t 14), some (13, true), [], [14]⟩),
      (13, ⟨some 16, .ix (.t 15) (.c (.int .i64 (0))), some (13, true), [], [15]⟩),
      (14, ⟨some 17, .bin .leq (.t 16) (.c (.int .u8 (122))), some (13, true), [], [16]⟩),
      (15, ⟨some 18, .pick (.t 13) (.t 17) (.c (.bool false)), none, [], [13, 17]⟩),
      (16, ⟨some 19, .mv (.t 18), none, [], [18]⟩),
      (17, ⟨some 20, .fa 1 (.t 1), some (19, true), [], []⟩),
      (18, ⟨some 21, .ld 1 false (.t 20), some (19, true), [], [20]⟩),
      (19, ⟨some 22, .call 71 [(.t 21), (.c (.int .i64 (1))), (.c (.int .i64 (3)))], some (19, true), [], [21]⟩),
      (20, ⟨some 23, .pick (.t 19) (.t 22) (.c (.bool false)), none, [], [19, 22]⟩),
      (21, ⟨some 24, .mv (.t 23), none, [], [23]⟩),
      (22, ⟨some 25, .fa 2 (.t 1), some (24, true), [], []⟩),
      (23, ⟨some 26, .ld 1 false (.t 25), some (24, true), [], [25]⟩),
      (24, ⟨some 27, .fa 1 (.t 1), some (24, true), [], []⟩),
      (25, ⟨some 28, .ld 1 false (.t 27), some (24, true), [], [1, 27]⟩),
      (26, ⟨some 29, .call 71 [(.t 26), (.c (.int .i64 (0))), (.t 28)], some (24, true), [], [26, 28]⟩),
      (27, ⟨some 30, .pick (.t 24) (.t 29) (.c (.bool false)), none, [], [24, 29]⟩),
      (28, ⟨some 2, .mv (.t 30), none, [], [30]⟩)])
    .ret))
def C154 : CFn := ⟨31, 1, [.t 2], B154⟩

def L158_0 : CCode :=
  (.seq
   (.reg false [
     (0, ⟨some 9, .bin .lss (.t 8) (.t 7), none, [], []⟩)])
   (.seq
    (.cond (.t 9)
     (.seq
      (.kill [9])
      .skip)
     (.seq
      (.kill [0, 1, 7, 8, 9])
      (.exit 0)))
    (.seq
     (.block 1
      (.seq
       (.reg false [
         (0, ⟨some 10, .mv (.t 8), none, [], []⟩),
         (1, ⟨some 5, .mv (.t 10), none, [], [10]⟩)])
       (.seq
        (.reg false [
          (0, ⟨some 11, .mv (.t 1), none, [], []⟩),
          (1, ⟨some 12, .mv (.t 0), none, [], []⟩),
          (2, ⟨some 13, .mv (.t 5), none, [], []⟩),
          (3, ⟨some 14, .ia 1 (.t 12) (.t 13), none, [], []⟩),
          (4, ⟨some 15, .ld 1 false (.t 14), none, [], [12, 13, 14]⟩),
          (5, ⟨some 16, .bin .eql (.t 11) (.t 15), none, [], [11, 15]⟩)])
        (.cond (.t 16)
         (.seq
          (.kill [0, 1, 7, 8, 16])
          (.seq
           (.reg false [
             (0, ⟨some 17, .mv (.t 5), none, [], [5]⟩),
             (1, ⟨some 4, .mv (.t 17), none, [], [17]⟩)])
           .ret))
         (.seq
          (.kill [5, 16])
          .skip)))))
     (.reg false [
       (0, ⟨some 18, .bin .add (.t 8) (.c (.int .i64 (1))), none, [], [8]⟩),
       (1, ⟨some 8, .mv (.t 18), none, [], [18]⟩)]))))
def B158 : CCode :=
  (.seq
   (.reg false [
     (0, ⟨some 4, .mv (.c (.int .i64 (0))), none, [], [4]⟩)])
   (.seq
    (.seq
     (.reg false [
       (0, ⟨some 6, .mv (.t 0), none, [], []⟩),
       (1, ⟨some 7, .len (.t 6), none, [], [6]⟩),
       (2, ⟨some 8, .mv (.c (.int .i64 (0))), none, [], []⟩)])
     (.block 0
      (.loop L158_0)))
    (.seq
     (.reg false [
       (0, ⟨some 4, .mv (.c (.int .i64 (-1))), none, [], []⟩)])
     .ret)))
def C158 : CFn := ⟨19, 2, [.t 4], B158⟩

def B161 : CCode :=
  (.seq
   (.reg false [
     (0, ⟨some 2, .box 2 (.t 0), none, [], [0]⟩),
     (1, ⟨some 4, .mv (.c (.int .i64 (0))), none, [], [4]⟩)])
   (.seq
    (.reg false [
      (0, ⟨some 5, .fa 1 (.t 2), none, [], []⟩),
      (1, ⟨some 6, .ld 1 false (.t 5), none, [], [5]⟩),
      (2, ⟨some 7, .mv (.t 1), none, [], [1]⟩),
      (3, ⟨some 8, .call 64 [(.t 6), (.t 7)], none, [], [2, 6, 7]⟩),
      (4, ⟨some 1, .mv (.t 8), none, [], [8]⟩)])
    (.seq
     (.seq
      (.reg false [
        (0, ⟨some 9, .mv (.t 1), none, [], []⟩),
        (1, ⟨some 10, .bin .lss (.t 9) (.c (.int .i64 (0))), none, [], [9]⟩)])
      (.cond (.t 10)
       (.seq
        (.kill [1, 10])
        (.seq
         (.reg false [
           (0, ⟨some 4, .mv (.c (.int .i64 (-1))), none, [], []⟩)])
         .ret))
       (.seq
        (.kill [10])
        .skip)))
     (.seq
      (.reg false [
        (0, ⟨some 11, .mv (.t 1), none, [], [1]⟩),
        (1, ⟨some 4, .mv (.t 11), none, [], [11]⟩)])
      .ret))))
def C161 : CFn := ⟨12, 2, [.t 4], B161⟩

def B162 : CCode :=
  (.seq
   (.reg false [
     (0, ⟨some 1, .box 2 (.t 0), none, [], [0]⟩),
     (1, ⟨some 2, .al [.int .i64 (0), .nils], none, [], []⟩)])
   (.seq
    (.reg false [
      (0, ⟨some 3, .al [.int .i64 (0), .nils], none, [], []⟩)])
    (.seq
     (.reg false [
       (0, ⟨some 4, .fa 0 (.t 1), none, [], []⟩),
       (1, ⟨some 5, .ld 1 false (.t 4), none, [], [4]⟩),
       (2, ⟨some 6, .fa 0 (.t 3), none, [], []⟩),
       (3, ⟨none, .st 1 (.t 6) (.t 5), none, [], [5, 6]⟩)])
     (.seq
      (.reg false [
        (0, ⟨some 7, .fa 1 (.t 1), none, [], []⟩),
        (1, ⟨some 8, .ld 1 false (.t 7), none, [], [7]⟩),
        (2, ⟨some 9, .call 40 [(.t 8)], none, [], [1, 8]⟩),
        (3, ⟨some 10, .fa 1 (.t 3), none, [], []⟩),
        (4, ⟨none, .st 1 (.t 10) (.t 9), none, [], [9, 10]⟩)])
      (.seq
       (.reg false [
         (0, ⟨some 11, .ld 2 true (.t 3), none, [], []⟩),
         (1, ⟨none, .st 2 (.t 2) (.t 11), none, [], [3, 11]⟩)])
       .ret)))))
def C162 : CFn := ⟨12, 1, [.m 2 2 true], B162⟩

def B163 : CCode :=
  (.seq
   (.reg false [
     (0, ⟨some 1, .box 3 (.t 0), none, [], [0]⟩),
     (1, ⟨some 2, .mv (.c (.bool false)), none, [], [2]⟩)])
   (.seq
    (.reg false [
      (0, ⟨some 3, .fa 0 (.t 1), none, [], []⟩),
      (1, ⟨some 4, .ld 1 false (.t 3), none, [], [3]⟩),
      (2, ⟨some 5, .lens (.t 4), none, [], [4]⟩),
      (3, ⟨some 6, .bin .eql (.t 5) (.c (.int .i64 (1))), none, [], [5]⟩),
      (4, ⟨some 7, .mv (.t 6), none, [], [6]⟩),
      (5, ⟨some 8, .fa 0 (.t 1), some (7, true), [], []⟩),
      (6, ⟨some 9, .ld 1 false (.t 8), some (7, true), [], [8]⟩),
      (7, ⟨some 10, .ix (.t 9) (.c (.int .i64 (0))), some (7, true), [], [9]⟩),
      (8, ⟨some 11, .bin .geq (.t 10) (.c (.int .u8 (97))), some (7, true), [], [10]⟩),
      (9, ⟨some 12, .pick (.t 7) (.t 11) (.c (.bool false)), none, [], [7, 11]⟩),
      (10, ⟨some 13, .mv (.t 12), none, [], [12]⟩),
      (11, ⟨some 14, .fa 0 (.t 1), some (13, true), [], []⟩),
      (12, ⟨some 15, .ld 1 false (.t 14), some (13, true), [], [14]⟩),
      (13, ⟨some 16, .ix (.t 15) (.c (.int .i64 (0))), some (13, true), [], [15]⟩),
      (14, ⟨some 17, .bin .leq (.t 16) (.c (.int .u8 (122))), some (13, true), [], [16]⟩),
      (15, ⟨some 18, .pick (.t 13) (.t 17) (.c (.bool false)), none, [], [13, 17]⟩),
      (16, ⟨some 19, .mv (.t 18), none, [], [18]⟩),
      (17, ⟨some 20, .fa 1 (.t 1), some (19, true), [], []⟩),
      (18, ⟨some 21, .ld 1 false (.t 20), some (19, true), [], [20]⟩),
      (19, ⟨some 22, .call 87 [(.t 21), (.c (.int .i64 (1))), (.c (.int .i64 (3)))], some (19, true), [], [21]⟩),
      (20, ⟨some 23, .pick (.t 19) (.t 22) (.c (.bool false)), none, [], [19, 22]⟩),
      (21, ⟨some 24, .mv (.t 23), none, [], [23]⟩),
      (22, ⟨some 25, .fa 2 (.t 1), some (24, true), [], []⟩),
      (23, ⟨some 26, .ld 1 false (.t 25), some (24, true), [], [25]⟩),
      (24, ⟨some 27, .fa 1 (.t 1), some (24, true), [], []⟩),
      (25, ⟨some 28, .ld 1 false (.t 27), some (24, true), [], [1, 27]⟩),
      (26, ⟨some 29, .call 87 [(.t 26), (.c (.int .i64 (0))), (.t 28)], some (24, true), [], [26, 28]⟩),
      (27, ⟨some 30, .pick (.t 24) (.t 29) (.c (.bool false)), none, [], [24, 29]⟩),
      (28, ⟨some 2, .mv (.t 30), none, [], [30]⟩)])
    .ret))
def C163 : CFn := ⟨31, 1, [.t 2], B163⟩

def B164 : CCode :=
  (.seq
   (.reg false [
     (0, ⟨some 3, .mv (.c (.bool false)), none, [], [3]⟩)])
   (.seq
    (.reg false [
      (0, ⟨some 4, .ld 1 false (.t 1), none, [], []⟩),
      (1, ⟨some 5, .mv (.t 0), none, [], [0]⟩),
      (2, ⟨some 6, .call 105 [(.t 4), (.t 5)], none, [], [1, 4, 5]⟩),
      (3, ⟨some 7, .not (.t 6), none, [], [6]⟩),
      (4, ⟨some 3, .mv (.t 7), none, [], [7]⟩)])
    .ret))
def C164 : CFn := ⟨8, 2, [.t 3], B164⟩

def B165 : CCode :=
  (.seq
   (.reg false [
     (0, ⟨some 4, .mv (.c (.nils)), none, [], [4]⟩)])
   (.seq
    (.reg false [
      (0, ⟨some 6, .mv (.t 0), none, [], [0]⟩),
      (1, ⟨some 7, .mv (.t 1), none, [], [1]⟩),
      (2, ⟨some 8, .bsl 1 2 [.nils] [(0, 1, (.t 6)), (1, 1, (.t 7))], none, [], [6, 7]⟩),
      (3, ⟨some 9, .call 184 [(.t 8)], none, [], [8]⟩),
      (4, ⟨some 5, .mv (.t 9), none, [], [9]⟩)])
    (.seq
     (.reg false [
       (0, ⟨some 10, .mv (.t 5), none, [], []⟩),
       (1, ⟨some 11, .call 185 [(.t 10)], none, [], [10, 11]⟩)])
     (.seq
      (.reg false [
        (0, ⟨some 12, .mv (.t 5), none, [], [5]⟩),
        (1, ⟨some 13, .call 186 [(.t 12)], none, [], [12]⟩),
        (2, ⟨some 4, .mv (.t 13), none, [], [13]⟩)])
      .ret))))
def C165 : CFn := ⟨14, 2, [.t 4], B165⟩

def B166 : CCode :=
  (.seq
   (.reg false [
     (0, ⟨some 2, .box 2 (.t 0), none, [], [0]⟩),
     (1, ⟨some 3, .box 2 (.t 1), none, [], [1]⟩),
     (2, ⟨some 4, .mv (.c (.bool false)), none, [], [4]⟩)])
   (.seq
    (.seq
     (.reg false [
       (0, ⟨some 5, .fa 0 (.t 2), none, [], []⟩),
       (1, ⟨some 6, .ld 1 false (.t 5), none, [], [5]⟩),
       (2, ⟨some 7, .fa 0 (.t 3), none, [], []⟩),
       (3, ⟨some 8, .ld 1 false (.t 7), none, [], [7]⟩),
       (4, ⟨some 9, .bin .neq (.t 6) (.t 8), none, [], [6, 8]⟩)])
     (.cond (.t 9)
      (.seq
       (.kill [2, 3, 9])
       (.seq
        (.reg false [
          (0, ⟨some 4, .mv (.c (.bool false)), none, [], []⟩)])
        .ret))
      (.seq
       (.kill [9])
       .skip)))
    (.seq
     (.seq
      (.reg false [
        (0, ⟨some 10, .fa 1 (.t 2), none, [], []⟩),
        (1, ⟨some 11, .ld 1 false (.t 10), none, [], [10]⟩),
        (2, ⟨some 12, .fa 1 (.t 3), none, [], []⟩),
        (3, ⟨some 13, .ld 1 false (.t 12), none, [], [12]⟩),
        (4, ⟨some 14, .call 42 [(.t 11), (.t 13)], none, [], [2, 3, 11, 13]⟩),
        (5, ⟨some 15, .not (.t 14), none, [], [14]⟩)])
      (.cond (.t 15)
       (.seq
        (.kill [15])
        (.seq
         (.reg false [
           (0, ⟨some 4, .mv (.c (.bool false)), none, [], []⟩)])
         .ret))
       (.seq
        (.kill [15])
        .skip)))
     (.seq
      (.reg false [
        (0, ⟨some 4, .mv (.c (.bool true)), none, [], []⟩)])
      .ret))))
def C166 : CFn := ⟨16, 2, [.t 4], B166⟩

def L184_0 : CCode :=
  (.seq
   (.reg false [
     (0, ⟨some 12, .bin .lss (.t 11) (.t 10), none, [], []⟩)])
   (.seq
    (.cond (.t 12)
     (.seq
      (.kill [12])
      .skip)
     (.seq
      (.kill [9, 10, 11, 12])
      (.exit 0)))
    (.seq
     (.block 1
      (.seq
       (.reg false [
         (0, ⟨some 13, .ia 1 (.t 9) (.t 11), none, [], []⟩),
         (1, ⟨some 14, .ld 1 false (.t 13), none, [], [13]⟩),
         (2, ⟨some 5, .mv (.t 14), none, [], [14]⟩)])
       (.seq
        (.reg false [
          (0, ⟨some 15, .mv (.t 3), none, [], [3]⟩),
          (1, ⟨some 16, .mv (.t 5), none, [], [5]⟩),
          (2, ⟨some 17, .len (.t 16), none, [], [16]⟩),
          (3, ⟨some 18, .bin .add (.t 15) (.t 17), none, [], [15, 17]⟩),
          (4, ⟨some 3, .mv (.t 18), none, [], [18]⟩)])
        (.seq
         (.reg false [
           (0, ⟨some 19, .mv (.t 3), none, [], []⟩),
           (1, ⟨some 20, .bin .lss (.t 19) (.c (.int .i64 (0))), none, [], [19]⟩)])
         (.cond (.t 20)
          (.seq
           (.kill [20])
           (.reg false [
             (0, ⟨some 21, .fail, none, [], [21]⟩),
             (1, ⟨none, .fail, none, [], []⟩)]))
          (.seq
           (.kill [20])
           .skip))))))
     (.reg false [
       (0, ⟨some 22, .bin .add (.t 11) (.c (.int .i64 (1))), none, [], [11]⟩),
       (1, ⟨some 11, .mv (.t 22), none, [], [22]⟩)]))))
def L184_1 : CCode :=
  (.seq
   (.reg false [
     (0, ⟨some 28, .bin .lss (.t 27) (.t 26), none, [], []⟩)])
   (.seq
    (.cond (.t 28)
     (.seq
      (.kill [28])
      .skip)
     (.seq
      (.kill [25, 26, 27, 28])
      (.exit 2)))
    (.seq
     (.block 3
      (.seq
       (.reg false [
         (0, ⟨some 29, .ia 1 (.t 25) (.t 27), none, [], []⟩),
         (1, ⟨some 30, .ld 1 false (.t 29), none, [], [29]⟩),
         (2, ⟨some 8, .mv (.t 30), none, [], [30]⟩)])
       (.reg false [
         (0, ⟨some 31, .mv (.t 6), none, [], [6]⟩),
         (1, ⟨some 32, .mv (.t 8), none, [], [8]⟩),
         (2, ⟨some 33, .app 1 8 (.t 31) (.t 32), none, [], [31, 32]⟩),
         (3, ⟨some 6, .mv (.t 33), none, [], [33]⟩)])))
     (.reg false [
       (0, ⟨some 34, .bin .add (.t 27) (.c (.int .i64 (1))), none, [], [27]⟩),
       (1, ⟨some 27, .mv (.t 34), none, [], [34]⟩)]))))
def B184 : CCode :=
  (.seq
   (.reg false [
     (0, ⟨some 2, .mv (.c (.nils)), none, [], [2]⟩)])
   (.seq
    (.reg false [
      (0, ⟨some 3, .mv (.c (.int .i64 (0))), none, [], []⟩)])
    (.seq
     (.seq
      (.reg false [
        (0, ⟨some 9, .mv (.t 0), none, [], []⟩),
        (1, ⟨some 10, .len (.t 9), none, [], []⟩),
        (2, ⟨some 11, .mv (.c (.int .i64 (0))), none, [], []⟩)])
      (.block 0
       (.loop L184_0)))
     (.seq
      (.reg false [
        (0, ⟨some 23, .mv (.t 3), none, [], [3]⟩),
        (1, ⟨some 24, .call 198 [(.c (.nils)), (.t 23)], none, [], [23]⟩),
        (2, ⟨some 6, .mv (.t 24), none, [], [24]⟩)])
      (.seq
       (.seq
        (.reg false [
          (0, ⟨some 25, .mv (.t 0), none, [], [0]⟩),
          (1, ⟨some 26, .len (.t 25), none, [], []⟩),
          (2, ⟨some 27, .mv (.c (.int .i64 (0))), none, [], []⟩)])
        (.block 2
         (.loop L184_1)))
       (.seq
        (.reg false [
          (0, ⟨some 35, .mv (.t 6), none, [], [6]⟩),
          (1, ⟨some 2, .mv (.t 35), none, [], [35]⟩)])
        .ret))))))
def C184 : CFn := ⟨36, 1, [.t 2], B184⟩

def B185 : CCode :=
  (.seq
   (.reg false [
     (0, ⟨some 3, .mv (.t 0), none, [], []⟩),
     (1, ⟨some 4, .len (.t 3), none, [], [3]⟩),
     (2, ⟨some 2, .mv (.t 4), none, [], [4]⟩)])
   (.reg false [
     (0, ⟨some 5, .mv (.t 0), none, [], []⟩),
     (1, ⟨some 6, .mv (.t 2), none, [], []⟩),
     (2, ⟨some 7, .mv (.t 2), none, [], [2]⟩),
     (3, ⟨some 8, .conv .u64 (.t 7), none, [], [7]⟩),
     (4, ⟨some 9, .call 200 [(.t 8)], none, [], [8]⟩),
     (5, ⟨some 10, .call 199 [(.t 5), (.c (.int .i64 (0))), (.t 6), (.t 9)], none, [], [5, 6, 9, 10]⟩)]))
def C185 : CFn := ⟨11, 1, [], B185⟩

def L186_1 : CCode :=
  (.seq
   (.seq
    (.reg false [
      (0, ⟨some 29, .mv (.t 5), none, [], []⟩),
      (1, ⟨some 30, .mv (.t 4), none, [], []⟩),
      (2, ⟨some 31, .len (.t 30), none, [], [30]⟩),
      (3, ⟨some 32, .bin .lss (.t 29) (.t 31), none, [], [29, 31]⟩)])
    (.cond (.t 32)
     (.seq
      (.kill [32])
      .skip)
     (.seq
      (.kill [4, 5, 32])
      (.exit 2))))
   (.seq
    (.block 3
     (.seq
      (.reg true [
        (0, ⟨some 35, .mv (.t 4), none, [], []⟩),
        (1, ⟨some 36, .mv (.t 5), none, [], []⟩),
        (2, ⟨some 37, .ia 1 (.t 35) (.t 36), none, [], []⟩),
        (3, ⟨some 38, .ld 1 false (.t 37), none, [], [35, 36, 37]⟩),
        (4, ⟨some 39, .mv (.t 4), none, [], []⟩),
        (5, ⟨some 40, .mv (.t 5), none, [], []⟩),
        (6, ⟨some 41, .bin .sub (.t 40) (.c (.int .i64 (1))), none, [], [40]⟩),
        (7, ⟨some 42, .ia 1 (.t 39) (.t 41), none, [], []⟩),
        (8, ⟨some 43, .ld 1 false (.t 42), none, [], [39, 41, 42]⟩),
        (9, ⟨some 44, .bin .neq (.t 38) (.t 43), none, [], [38, 43]⟩)])
      (.cond (.t 44)
       (.seq
        (.kill [44])
        (.seq
         (.reg false [
           (0, ⟨some 45, .mv (.t 0), none, [], []⟩),
           (1, ⟨some 46, .mv (.t 3), none, [], []⟩),
           (2, ⟨some 47, .mv (.t 4), none, [], []⟩),
           (3, ⟨some 48, .mv (.t 5), none, [], []⟩),
           (4, ⟨some 49, .ia 1 (.t 47) (.t 48), none, [], []⟩),
           (5, ⟨some 50, .ld 1 false (.t 49), none, [], [47, 48, 49]⟩),
           (6, ⟨some 51, .ia 1 (.t 45) (.t 46), none, [], []⟩),
           (7, ⟨none, .st 1 (.t 51) (.t 50), none, [], [45, 46, 50, 51]⟩)])
         (.reg false [
           (0, ⟨some 52, .mv (.t 3), none, [], [3]⟩),
           (1, ⟨some 53, .bin .add (.t 52) (.c (.int .i64 (1))), none, [], [52]⟩),
           (2, ⟨some 3, .mv (.t 53), none, [], [53]⟩)])))
       (.seq
        (.kill [44])
        .skip))))
    (.reg false [
      (0, ⟨some 33, .mv (.t 5), none, [], [5]⟩),
      (1, ⟨some 34, .bin .add (.t 33) (.c (.int .i64 (1))), none, [], [33]⟩),
      (2, ⟨some 5, .mv (.t 34), none, [], [34]⟩)])))
def L186_0 : CCode :=
  (.seq
   (.seq
    (.reg false [
      (0, ⟨some 10, .mv (.t 3), none, [], []⟩),
      (1, ⟨some 11, .mv (.t 0), none, [], []⟩),
      (2, ⟨some 12, .len (.t 11), none, [], [11]⟩),
      (3, ⟨some 13, .bin .lss (.t 10) (.t 12), none, [], [10, 12]⟩)])
    (.cond (.t 13)
     (.seq
      (.kill [13])
      .skip)
     (.seq
      (.kill [3, 13])
      (.exit 0))))
   (.seq
    (.block 1
     (.seq
      (.reg true [
        (0, ⟨some 16, .mv (.t 0), none, [], []⟩),
        (1, ⟨some 17, .mv (.t 3), none, [], []⟩),
        (2, ⟨some 18, .ia 1 (.t 16) (.t 17), none, [], []⟩),
        (3, ⟨some 19, .ld 1 false (.t 18), none, [], [16, 17, 18]⟩),
        (4, ⟨some 20, .mv (.t 0), none, [], []⟩),
        (5, ⟨some 21, .mv (.t 3), none, [], []⟩),
        (6, ⟨some 22, .bin .sub (.t 21) (.c (.int .i64 (1))), none, [], [21]⟩),
        (7, ⟨some 23, .ia 1 (.t 20) (.t 22), none, [], []⟩),
        (8, ⟨some 24, .ld 1 false (.t 23), none, [], [20, 22, 23]⟩),
        (9, ⟨some 25, .bin .eql (.t 19) (.t 24), none, [], [19, 24]⟩)])
      (.cond (.t 25)
       (.seq
        (.kill [25])
        (.seq
         (.reg false [
           (0, ⟨some 26, .mv (.t 0), none, [], []⟩),
           (1, ⟨some 27, .mv (.t 3), none, [], []⟩),
           (2, ⟨some 28, .sls 1 (.t 26) (some (.t 27)) none none, none, [], [26, 27]⟩),
           (3, ⟨some 4, .mv (.t 28), none, [], [28]⟩)])
         (.seq
          (.seq
           (.reg false [
             (0, ⟨some 5, .mv (.c (.int .i64 (1))), none, [], []⟩)])
           (.block 2
            (.loop L186_1)))
          (.seq
           (.reg false [
             (0, ⟨some 54, .mv (.t 0), none, [], []⟩),
             (1, ⟨some 55, .mv (.t 3), none, [], []⟩),
             (2, ⟨some 56, .sls 1 (.t 54) (some (.t 55)) none none, none, [], [54, 55]⟩),
             (3, ⟨none, .clr 1 [.int .i64 (0)] (.t 56), none, [], [56]⟩)])
           (.seq
            (.reg false [
              (0, ⟨some 57, .mv (.t 0), none, [], []⟩),
              (1, ⟨some 58, .mv (.t 3), none, [], [3]⟩),
              (2, ⟨some 59, .sls 1 (.t 57) none (some (.t 58)) none, none, [], [57, 58]⟩),
              (3, ⟨some 2, .mv (.t 59), none, [], [59]⟩)])
            .ret)))))
       (.seq
        (.kill [25])
        .skip))))
    (.reg false [
      (0, ⟨some 14, .mv (.t 3), none, [], [3]⟩),
      (1, ⟨some 15, .bin .add (.t 14) (.c (.int .i64 (1))), none, [], [14]⟩),
      (2, ⟨some 3, .mv (.t 15), none, [], [15]⟩)])))
def B186 : CCode :=
  (.seq
   (.reg false [
     (0, ⟨some 2, .mv (.c (.nils)), none, [], [2]⟩)])
   (.seq
    (.seq
     (.reg false [
       (0, ⟨some 6, .mv (.t 0), none, [], []⟩),
       (1, ⟨some 7, .len (.t 6), none, [], [6]⟩),
       (2, ⟨some 8, .bin .lss (.t 7) (.c (.int .i64 (2))), none, [], [7]⟩)])
     (.cond (.t 8)
      (.seq
       (.kill [8])
       (.seq
        (.reg false [
          (0, ⟨some 9, .mv (.t 0), none, [], []⟩),
          (1, ⟨some 2, .mv (.t 9), none, [], [9]⟩)])
        .ret))
      (.seq
       (.kill [8])
       .skip)))
    (.seq
     (.seq
      (.reg false [
        (0, ⟨some 3, .mv (.c (.int .i64 (1))), none, [], []⟩)])
      (.block 0
       (.loop L186_0)))
     (.seq
      (.reg false [
        (0, ⟨some 60, .mv (.t 0), none, [], []⟩),
        (1, ⟨some 2, .mv (.t 60), none, [], [60]⟩)])
      .ret))))
def C186 : CFn := ⟨61, 1, [.t 2], B186⟩

def B198 : CCode :=
  (.seq
   (.reg false [
     (0, ⟨some 4, .mv (.c (.nils)), none, [], [4]⟩)])
   (.seq
    (.seq
     (.reg false [
       (0, ⟨some 5, .mv (.t 1), none, [], []⟩),
       (1, ⟨some 6, .bin .lss (.t 5) (.c (.int .i64 (0))), none, [], [5]⟩)])
     (.cond (.t 6)
      (.seq
       (.kill [6])
       (.reg false [
         (0, ⟨some 7, .fail, none, [], [7]⟩),
         (1, ⟨none, .fail, none, [], []⟩)]))
      (.seq
       (.kill [6])
       .skip)))
    (.seq
     (.seq
      (.reg false [
        (0, ⟨some 8, .mv (.t 1), none, [], [1]⟩),
        (1, ⟨some 9, .mv (.t 0), none, [], []⟩),
        (2, ⟨some 10, .cap (.t 9), none, [], [9]⟩),
        (3, ⟨some 11, .mv (.t 0), none, [], []⟩),
        (4, ⟨some 12, .len (.t 11), none, [], [11]⟩),
        (5, ⟨some 13, .bin .sub (.t 10) (.t 12), none, [], [10, 12]⟩),
        (6, ⟨some 14, .bin .sub (.t 8) (.t 13), none, [], [8, 13]⟩),
        (7, ⟨some 1, .mv (.t 14), none, [], [14]⟩)])
      (.seq
       (.reg false [
         (0, ⟨some 15, .mv (.t 1), none, [], []⟩),
         (1, ⟨some 16, .bin .gtr (.t 15) (.c (.int .i64 (0))), none, [], [15]⟩)])
       (.cond (.t 16)
        (.seq
         (.kill [16])
         (.reg false [
           (0, ⟨some 17, .mv (.t 0), none, [], []⟩),
           (1, ⟨some 18, .mv (.t 0), none, [], []⟩),
           (2, ⟨some 19, .cap (.t 18), none, [], [18]⟩),
           (3, ⟨some 20, .sls 1 (.t 17) none (some (.t 19)) none, none, [], [17, 19]⟩),
           (4, ⟨some 21, .mv (.t 1), none, [], [1]⟩),
           (5, ⟨some 22, .appm 1 8 [.int .i64 (0)] (.t 20) (.t 21), none, [], [20, 21]⟩),
           (6, ⟨some 23, .mv (.t 0), none, [], [0]⟩),
           (7, ⟨some 24, .len (.t 23), none, [], [23]⟩),
           (8, ⟨some 25, .sls 1 (.t 22) none (some (.t 24)) none, none, [], [22, 24]⟩),
           (9, ⟨some 0, .mv (.t 25), none, [], [25]⟩)]))
        (.seq
         (.kill [1, 16])
         .skip))))
     (.seq
      (.reg false [
        (0, ⟨some 26, .mv (.t 0), none, [], [0]⟩),
        (1, ⟨some 4, .mv (.t 26), none, [], [26]⟩)])
      .ret))))
def C198 : CFn := ⟨27, 2, [.t 4], B198⟩

def L199_0 : CCode :=
  (.block 1
   (.seq
    (.reg false [
      (0, ⟨some 19, .mv (.t 2), none, [], []⟩),
      (1, ⟨some 20, .mv (.t 1), none, [], []⟩),
      (2, ⟨some 21, .bin .sub (.t 19) (.t 20), none, [], [19, 20]⟩),
      (3, ⟨some 10, .mv (.t 21), none, [], [21]⟩)])
    (.seq
     (.seq
      (.reg false [
        (0, ⟨some 22, .mv (.t 10), none, [], []⟩),
        (1, ⟨some 23, .bin .leq (.t 22) (.c (.int .i64 (12))), none, [], [22]⟩)])
      (.cond (.t 23)
       (.seq
        (.kill [3, 8, 9, 10, 23])
        (.seq
         (.reg false [
           (0, ⟨some 24, .mv (.t 0), none, [], []⟩),
           (1, ⟨some 25, .mv (.t 1), none, [], [1]⟩),
           (2, ⟨some 26, .mv (.t 2), none, [], [2]⟩),
           (3, ⟨some 27, .call 204 [(.t 24), (.t 25), (.t 26)], none, [], [24, 25, 26, 27]⟩)])
         .ret))
       (.seq
        (.kill [23])
        .skip)))
     (.seq
      (.seq
       (.reg false [
         (0, ⟨some 28, .mv (.t 3), none, [], []⟩),
         (1, ⟨some 29, .bin .eql (.t 28) (.c (.int .i64 (0))), none, [], [28]⟩)])
       (.cond (.t 29)
        (.seq
         (.kill [3, 8, 9, 10, 29])
         (.seq
          (.reg false [
            (0, ⟨some 30, .mv (.t 0), none, [], []⟩),
            (1, ⟨some 31, .mv (.t 1), none, [], [1]⟩),
            (2, ⟨some 32, .mv (.t 2), none, [], [2]⟩),
            (3, ⟨some 33, .call 205 [(.t 30), (.t 31), (.t 32)], none, [], [30, 31, 32, 33]⟩)])
          .ret))
        (.seq
         (.kill [29])
         .skip)))
      (.seq
       (.seq
        (.reg false [
          (0, ⟨some 34, .mv (.t 8), none, [], []⟩),
          (1, ⟨some 35, .not (.t 34), none, [], [34]⟩)])
        (.cond (.t 35)
         (.seq
          (.kill [35])
          (.seq
           (.reg false [
             (0, ⟨some 36, .mv (.t 0), none, [], []⟩),
             (1, ⟨some 37, .mv (.t 1), none, [], []⟩),
             (2, ⟨some 38, .mv (.t 2), none, [], []⟩),
             (3, ⟨some 39, .call 206 [(.t 36), (.t 37), (.t 38)], none, [], [36, 37, 38, 39]⟩)])
           (.reg false [
             (0, ⟨some 40, .mv (.t 3), none, [], [3]⟩),
             (1, ⟨some 41, .bin .sub (.t 40) (.c (.int .i64 (1))), none, [], [40]⟩),
             (2, ⟨some 3, .mv (.t 41), none, [], [41]⟩)])))
         (.seq
          (.kill [35])
          .skip)))
       (.seq
        (.reg false [
          (0, ⟨some 43, .mv (.t 0), none, [], []⟩),
          (1, ⟨some 44, .mv (.t 1), none, [], []⟩),
          (2, ⟨some 45, .mv (.t 2), none, [], []⟩),
          (3, ⟨some 46, .call 207 [(.t 43), (.t 44), (.t 45)], none, [], [43, 44, 45]⟩),
          (4, ⟨some 42, .mv (.t 46), none, [], [46]⟩),
          (5, ⟨some 47, .ex (.t 42) 0, none, [], []⟩),
          (6, ⟨some 48, .ex (.t 42) 1, none, [], [42]⟩),
          (7, ⟨some 11, .mv (.t 47), none, [], [47]⟩),
          (8, ⟨some 12, .mv (.t 48), none, [], [48]⟩)])
        (.seq
         (.seq
          (.reg false [
            (0, ⟨some 49, .mv (.t 12), none, [], []⟩),
            (1, ⟨some 50, .bin .eql (.t 49) (.c (.int .i64 (2))), none, [], [49]⟩)])
          (.cond (.t 50)
           (.seq
            (.kill [12, 50])
            (.seq
             (.reg false [
               (0, ⟨some 51, .mv (.t 0), none, [], []⟩),
               (1, ⟨some 52, .mv (.t 1), none, [], []⟩),
               (2, ⟨some 53, .mv (.t 2), none, [], []⟩),
               (3, ⟨some 54, .call 208 [(.t 51), (.t 52), (.t 53)], none, [], [51, 52, 53, 54]⟩)])
             (.seq
              (.reg false [
                (0, ⟨some 55, .mv (.t 2), none, [], []⟩),
                (1, ⟨some 56, .bin .sub (.t 55) (.c (.int .i64 (1))), none, [], [55]⟩),
                (2, ⟨some 57, .mv (.t 11), none, [], [11]⟩),
                (3, ⟨some 58, .mv (.t 1), none, [], []⟩),
                (4, ⟨some 59, .bin .sub (.t 57) (.t 58), none, [], [57, 58]⟩),
                (5, ⟨some 60, .bin .sub (.t 56) (.t 59), none, [], [56, 59]⟩),
                (6, ⟨some 11, .mv (.t 60), none, [], [60]⟩)])
              (.reg false [
                (0, ⟨some 12, .mv (.c (.int .i64 (1))), none, [], []⟩)]))))
           (.seq
            (.kill [50])
            .skip)))
         (.seq
          (.seq
           (.reg false [
             (0, ⟨some 61, .mv (.t 8), none, [], []⟩),
             (1, ⟨some 62, .mv (.t 61), none, [], [61]⟩),
             (2, ⟨some 63, .mv (.t 9), some (62, true), [], []⟩),
             (3, ⟨some 64, .pick (.t 62) (.t 63) (.c (.bool false)), none, [], [62, 63]⟩),
             (4, ⟨some 65, .mv (.t 64), none, [], [64]⟩),
             (5, ⟨some 66, .mv (.t 12), some (65, true), [], [12]⟩),
             (6, ⟨some 67, .bin .eql (.t 66) (.c (.int .i64 (1))), some (65, true), [], [66]⟩),
             (7, ⟨some 68, .pick (.t 65) (.t 67) (.c (.bool false)), none, [], [65, 67]⟩)])
           (.cond (.t 68)
            (.seq
             (.kill [68])
             (.seq
              (.reg false [
                (0, ⟨some 69, .mv (.t 0), none, [], []⟩),
                (1, ⟨some 70, .mv (.t 1), none, [], []⟩),
                (2, ⟨some 71, .mv (.t 2), none, [], []⟩),
                (3, ⟨some 72, .call 209 [(.t 69), (.t 70), (.t 71)], none, [], [69, 70, 71]⟩)])
              (.cond (.t 72)
               (.seq
                (.kill [1, 2, 3, 8, 9, 10, 11, 72])
                .ret)
               (.seq
                (.kill [72])
                .skip))))
            (.seq
             (.kill [68])
             .skip)))
          (.seq
           (.seq
            (.reg true [
              (0, ⟨some 73, .mv (.t 1), none, [], []⟩),
              (1, ⟨some 74, .bin .gtr (.t 73) (.c (.int .i64 (0))), none, [], [73]⟩),
              (2, ⟨some 75, .mv (.t 74), none, [], [74]⟩),
              (3, ⟨some 76, .mv (.t 0), some (75, true), [], []⟩),
              (4, ⟨some 77, .mv (.t 1), some (75, true), [], []⟩),
              (5, ⟨some 78, .bin .sub (.t 77) (.c (.int .i64 (1))), some (75, true), [], [77]⟩),
              (6, ⟨some 79, .ia 1 (.t 76) (.t 78), some (75, true), [], []⟩),
              (7, ⟨some 80, .ld 1 false (.t 79), some (75, true), [], [76, 78, 79]⟩),
              (8, ⟨some 81, .mv (.t 0), some (75, true), [], []⟩),
              (9, ⟨some 82, .mv (.t 11), some (75, true), [], []⟩),
              (10, ⟨some 83, .ia 1 (.t 81) (.t 82), some (75, true), [], []⟩),
              (11, ⟨some 84, .ld 1 false (.t 83), some (75, true), [], [81, 82, 83]⟩),
              (12, ⟨some 85, .call 210 [(.t 80), (.t 84)], some (75, true), [], [80, 84]⟩),
              (13, ⟨some 86, .not (.t 85), some (75, true), [], [85]⟩),
              (14, ⟨some 87, .pick (.t 75) (.t 86) (.c (.bool false)), none, [], [75, 86]⟩)])
            (.cond (.t 87)
             (.seq
              (.kill [10, 87])
              (.seq
               (.reg false [
                 (0, ⟨some 88, .mv (.t 0), none, [], []⟩),
                 (1, ⟨some 89, .mv (.t 1), none, [], [1]⟩),
                 (2, ⟨some 90, .mv (.t 2), none, [], []⟩),
                 (3, ⟨some 91, .mv (.t 11), none, [], [11]⟩),
                 (4, ⟨some 92, .call 211 [(.t 88), (.t 89), (.t 90), (.t 91)], none, [], [88, 89, 90, 91]⟩),
                 (5, ⟨some 13, .mv (.t 92), none, [], [92]⟩)])
               (.seq
                (.reg false [
                  (0, ⟨some 93, .mv (.t 13), none, [], [13]⟩),
                  (1, ⟨some 1, .mv (.t 93), none, [], [93]⟩)])
                (.exit 1))))
             (.seq
              (.kill [8, 9, 87])
              .skip)))
           (.seq
            (.reg false [
              (0, ⟨some 95, .mv (.t 0), none, [], []⟩),
              (1, ⟨some 96, .mv (.t 1), none, [], []⟩),
              (2, ⟨some 97, .mv (.t 2), none, [], []⟩),
              (3, ⟨some 98, .mv (.t 11), none, [], [11]⟩),
              (4, ⟨some 99, .call 212 [(.t 95), (.t 96), (.t 97), (.t 98)], none, [], [95, 96, 97, 98]⟩),
              (5, ⟨some 94, .mv (.t 99), none, [], [99]⟩),
              (6, ⟨some 100, .ex (.t 94) 0, none, [], []⟩),
              (7, ⟨some 101, .ex (.t 94) 1, none, [], [94]⟩),
              (8, ⟨some 14, .mv (.t 100), none, [], [100]⟩),
              (9, ⟨some 15, .mv (.t 101), none, [], [101]⟩)])
            (.seq
             (.reg false [
               (0, ⟨some 102, .mv (.t 15), none, [], [15]⟩),
               (1, ⟨some 9, .mv (.t 102), none, [], [102]⟩)])
             (.seq
              (.reg false [
                (0, ⟨some 103, .mv (.t 14), none, [], []⟩),
                (1, ⟨some 104, .mv (.t 1), none, [], []⟩),
                (2, ⟨some 105, .bin .sub (.t 103) (.t 104), none, [], [103, 104]⟩),
                (3, ⟨some 106, .mv (.t 2), none, [], []⟩),
                (4, ⟨some 107, .mv (.t 14), none, [], []⟩),
                (5, ⟨some 108, .bin .sub (.t 106) (.t 107), none, [], [106, 107]⟩),
                (6, ⟨some 16, .mv (.t 105), none, [], [105]⟩),
                (7, ⟨some 17, .mv (.t 108), none, [], [108]⟩)])
              (.seq
               (.reg false [
                 (0, ⟨some 109, .mv (.t 10), none, [], [10]⟩),
                 (1, ⟨some 110, .bin .quo (.t 109) (.c (.int .i64 (8))), none, [], [109]⟩),
                 (2, ⟨some 18, .mv (.t 110), none, [], [110]⟩)])
               (.seq
                (.reg false [
                  (0, ⟨some 111, .mv (.t 16), none, [], []⟩),
                  (1, ⟨some 112, .mv (.t 17), none, [], []⟩),
                  (2, ⟨some 113, .bin .lss (.t 111) (.t 112), none, [], [111, 112]⟩)])
                (.cond (.t 113)
                 (.seq
                  (.kill [17, 113])
                  (.seq
                   (.reg false [
                     (0, ⟨some 114, .mv (.t 16), none, [], [16]⟩),
                     (1, ⟨some 115, .mv (.t 18), none, [], [18]⟩),
                     (2, ⟨some 116, .bin .geq (.t 114) (.t 115), none, [], [114, 115]⟩),
                     (3, ⟨some 8, .mv (.t 116), none, [], [116]⟩)])
                   (.seq
                    (.reg false [
                      (0, ⟨some 117, .mv (.t 0), none, [], []⟩),
                      (1, ⟨some 118, .mv (.t 1), none, [], [1]⟩),
                      (2, ⟨some 119, .mv (.t 14), none, [], []⟩),
                      (3, ⟨some 120, .mv (.t 3), none, [], []⟩),
                      (4, ⟨some 121, .call 199 [(.t 117), (.t 118), (.t 119), (.t 120)], none, [], [117, 118, 119, 120, 121]⟩)])
                    (.reg false [
                      (0, ⟨some 122, .mv (.t 14), none, [], [14]⟩),
                      (1, ⟨some 123, .bin .add (.t 122) (.c (.int .i64 (1))), none, [], [122]⟩),
                      (2, ⟨some 1, .mv (.t 123), none, [], [123]⟩)]))))
                 (.seq
                  (.kill [16, 113])
                  (.seq
                   (.reg false [
                     (0, ⟨some 124, .mv (.t 17), none, [], [17]⟩),
                     (1, ⟨some 125, .mv (.t 18), none, [], [18]⟩),
                     (2, ⟨some 126, .bin .geq (.t 124) (.t 125), none, [], [124, 125]⟩),
                     (3, ⟨some 8, .mv (.t 126), none, [], [126]⟩)])
                   (.seq
                    (.reg false [
                      (0, ⟨some 127, .mv (.t 0), none, [], []⟩),
                      (1, ⟨some 128, .mv (.t 14), none, [], []⟩),
                      (2, ⟨some 129, .bin .add (.t 128) (.c (.int .i64 (1))), none, [], [128]⟩),
                      (3, ⟨some 130, .mv (.t 2), none, [], [2]⟩),
                      (4, ⟨some 131, .mv (.t 3), none, [], []⟩),
                      (5, ⟨some 132, .call 199 [(.t 127), (.t 129), (.t 130), (.t 131)], none, [], [127, 129, 130, 131, 132]⟩)])
                    (.reg false [
                      (0, ⟨some 133, .mv (.t 14), none, [], [14]⟩),
                      (1, ⟨some 2, .mv (.t 133), none, [], [133]⟩)])))))))))))))))))))
def B199 : CCode :=
  (.seq
   (.reg false [
     (0, ⟨some 8, .mv (.c (.bool true)), none, [], []⟩)])
   (.seq
    (.reg false [
      (0, ⟨some 9, .mv (.c (.bool true)), none, [], []⟩)])
    (.block 0
     (.loop L199_0))))
def C199 : CFn := ⟨134, 4, [], B199⟩

def B200 : CCode :=
  (.seq
   (.reg false [
     (0, ⟨some 2, .mv (.c (.int .i64 (0))), none, [], [2]⟩)])
   (.seq
    (.cond (.c (.bool false))
     (.seq
      (.reg false [
        (0, ⟨some 3, .mv (.t 0), none, [], [0]⟩),
        (1, ⟨some 4, .conv .u32 (.t 3), none, [], [3]⟩),
        (2, ⟨some 5, .call 213 [(.t 4)], none, [], [4]⟩),
        (3, ⟨some 2, .mv (.t 5), none, [], [5]⟩)])
      .ret)
     .skip)
    (.seq
     (.reg false [
       (0, ⟨some 6, .mv (.t 0), none, [], [0]⟩),
       (1, ⟨some 7, .call 214 [(.t 6)], none, [], [6]⟩),
       (2, ⟨some 2, .mv (.t 7), none, [], [7]⟩)])
     .ret)))
def C200 : CFn := ⟨8, 1, [.t 2], B200⟩

def B203 : CCode :=
  (.seq
   (.reg false [
     (0, ⟨some 2, .mv (.c (.bool false)), none, [], [2]⟩)])
   (.seq
    (.reg false [
      (0, ⟨some 3, .mv (.t 0), none, [], []⟩),
      (1, ⟨some 4, .mv (.t 0), none, [], [0]⟩),
      (2, ⟨some 5, .bin .neq (.t 3) (.t 4), none, [], [3, 4]⟩),
      (3, ⟨some 2, .mv (.t 5), none, [], [5]⟩)])
    .ret))
def C203 : CFn := ⟨6, 1, [.t 2], B203⟩

def L204_1 : CCode :=
  (.seq
   (.seq
    (.reg true [
      (0, ⟨some 16, .mv (.t 7), none, [], []⟩),
      (1, ⟨some 17, .mv (.t 1), none, [], []⟩),
      (2, ⟨some 18, .bin .gtr (.t 16) (.t 17), none, [], [16, 17]⟩),
      (3, ⟨some 19, .mv (.t 18), none, [], [18]⟩),
      (4, ⟨some 20, .mv (.t 0), some (19, true), [], []⟩),
      (5, ⟨some 21, .mv (.t 7), some (19, true), [], []⟩),
      (6, ⟨some 22, .ia 1 (.t 20) (.t 21), some (19, true), [], []⟩),
      (7, ⟨some 23, .ld 1 false (.t 22), some (19, true), [], [20, 21, 22]⟩),
      (8, ⟨some 24, .mv (.t 0), some (19, true), [], []⟩),
      (9, ⟨some 25, .mv (.t 7), some (19, true), [], []⟩),
      (10, ⟨some 26, .bin .sub (.t 25) (.c (.int .i64 (1))), some (19, true), [], [25]⟩),
      (11, ⟨some 27, .ia 1 (.t 24) (.t 26), some (19, true), [], []⟩),
      (12, ⟨some 28, .ld 1 false (.t 27), some (19, true), [], [24, 26, 27]⟩),
      (13, ⟨some 29, .call 210 [(.t 23), (.t 28)], some (19, true), [], [23, 28]⟩),
      (14, ⟨some 30, .pick (.t 19) (.t 29) (.c (.bool false)), none, [], [19, 29]⟩)])
    (.cond (.t 30)
     (.seq
      (.kill [30])
      .skip)
     (.seq
      (.kill [7, 30])
      (.exit 2))))
   (.seq
    (.block 3
     (.reg true [
       (0, ⟨some 33, .mv (.t 0), none, [], []⟩),
       (1, ⟨some 34, .mv (.t 7), none, [], []⟩),
       (2, ⟨some 35, .mv (.t 0), none, [], []⟩),
       (3, ⟨some 36, .mv (.t 7), none, [], []⟩),
       (4, ⟨some 37, .bin .sub (.t 36) (.c (.int .i64 (1))), none, [], [36]⟩),
       (5, ⟨some 38, .mv (.t 0), none, [], []⟩),
       (6, ⟨some 39, .mv (.t 7), none, [], []⟩),
       (7, ⟨some 40, .bin .sub (.t 39) (.c (.int .i64 (1))), none, [], [39]⟩),
       (8, ⟨some 41, .ia 1 (.t 38) (.t 40), none, [], []⟩),
       (9, ⟨some 42, .ld 1 false (.t 41), none, [], [38, 40, 41]⟩),
       (10, ⟨some 43, .mv (.t 0), none, [], []⟩),
       (11, ⟨some 44, .mv (.t 7), none, [], []⟩),
       (12, ⟨some 45, .ia 1 (.t 43) (.t 44), none, [], []⟩),
       (13, ⟨some 46, .ld 1 false (.t 45), none, [], [43, 44, 45]⟩),
       (14, ⟨some 47, .ia 1 (.t 33) (.t 34), none, [], []⟩),
       (15, ⟨none, .st 1 (.t 47) (.t 42), none, [], [33, 34, 42, 47]⟩),
       (16, ⟨some 48, .ia 1 (.t 35) (.t 37), none, [], []⟩),
       (17, ⟨none, .st 1 (.t 48) (.t 46), none, [], [35, 37, 46, 48]⟩)]))
    (.reg false [
      (0, ⟨some 31, .mv (.t 7), none, [], [7]⟩),
      (1, ⟨some 32, .bin .sub (.t 31) (.c (.int .i64 (1))), none, [], [31]⟩),
      (2, ⟨some 7, .mv (.t 32), none, [], [32]⟩)])))
def L204_0 : CCode :=
  (.seq
   (.seq
    (.reg false [
      (0, ⟨some 10, .mv (.t 6), none, [], []⟩),
      (1, ⟨some 11, .mv (.t 2), none, [], []⟩),
      (2, ⟨some 12, .bin .lss (.t 10) (.t 11), none, [], [10, 11]⟩)])
    (.cond (.t 12)
     (.seq
      (.kill [12])
      .skip)
     (.seq
      (.kill [1, 2, 6, 12])
      (.exit 0))))
   (.seq
    (.block 1
     (.seq
      (.reg false [
        (0, ⟨some 15, .mv (.t 6), none, [], []⟩),
        (1, ⟨some 7, .mv (.t 15), none, [], [15]⟩)])
      (.block 2
       (.loop L204_1))))
    (.reg false [
      (0, ⟨some 13, .mv (.t 6), none, [], [6]⟩),
      (1, ⟨some 14, .bin .add (.t 13) (.c (.int .i64 (1))), none, [], [13]⟩),
      (2, ⟨some 6, .mv (.t 14), none, [], [14]⟩)])))
def B204 : CCode :=
  (.seq
   (.reg false [
     (0, ⟨some 8, .mv (.t 1), none, [], []⟩),
     (1, ⟨some 9, .bin .add (.t 8) (.c (.int .i64 (1))), none, [], [8]⟩),
     (2, ⟨some 6, .mv (.t 9), none, [], [9]⟩)])
   (.block 0
    (.loop L204_0)))
def C204 : CFn := ⟨49, 3, [], B204⟩

def L205_0 : CCode :=
  (.seq
   (.seq
    (.reg false [
      (0, ⟨some 18, .mv (.t 9), none, [], []⟩),
      (1, ⟨some 19, .bin .geq (.t 18) (.c (.int .i64 (0))), none, [], [18]⟩)])
    (.cond (.t 19)
     (.seq
      (.kill [19])
      .skip)
     (.seq
      (.kill [9, 19])
      (.exit 0))))
   (.seq
    (.block 1
     (.reg false [
       (0, ⟨some 22, .mv (.t 0), none, [], []⟩),
       (1, ⟨some 23, .mv (.t 9), none, [], []⟩),
       (2, ⟨some 24, .mv (.t 8), none, [], []⟩),
       (3, ⟨some 25, .mv (.t 6), none, [], []⟩),
       (4, ⟨some 26, .call 215 [(.t 22), (.t 23), (.t 24), (.t 25)], none, [], [22, 23, 24, 25, 26]⟩)]))
    (.reg false [
      (0, ⟨some 20, .mv (.t 9), none, [], [9]⟩),
      (1, ⟨some 21, .bin .sub (.t 20) (.c (.int .i64 (1))), none, [], [20]⟩),
      (2, ⟨some 9, .mv (.t 21), none, [], [21]⟩)])))
def L205_1 : CCode :=
  (.seq
   (.seq
    (.reg false [
      (0, ⟨some 29, .mv (.t 10), none, [], []⟩),
      (1, ⟨some 30, .bin .geq (.t 29) (.c (.int .i64 (0))), none, [], [29]⟩)])
    (.cond (.t 30)
     (.seq
      (.kill [30])
      .skip)
     (.seq
      (.kill [6, 7, 10, 30])
      (.exit 2))))
   (.seq
    (.block 3
     (.seq
      (.reg true [
        (0, ⟨some 33, .mv (.t 0), none, [], []⟩),
        (1, ⟨some 34, .mv (.t 6), none, [], []⟩),
        (2, ⟨some 35, .mv (.t 0), none, [], []⟩),
        (3, ⟨some 36, .mv (.t 6), none, [], []⟩),
        (4, ⟨some 37, .mv (.t 10), none, [], []⟩),
        (5, ⟨some 38, .bin .add (.t 36) (.t 37), none, [], [36, 37]⟩),
        (6, ⟨some 39, .mv (.t 0), none, [], []⟩),
        (7, ⟨some 40, .mv (.t 6), none, [], []⟩),
        (8, ⟨some 41, .mv (.t 10), none, [], []⟩),
        (9, ⟨some 42, .bin .add (.t 40) (.t 41), none, [], [40, 41]⟩),
        (10, ⟨some 43, .ia 1 (.t 39) (.t 42), none, [], []⟩),
        (11, ⟨some 44, .ld 1 false (.t 43), none, [], [39, 42, 43]⟩),
        (12, ⟨some 45, .mv (.t 0), none, [], []⟩),
        (13, ⟨some 46, .mv (.t 6), none, [], []⟩),
        (14, ⟨some 47, .ia 1 (.t 45) (.t 46), none, [], []⟩),
        (15, ⟨some 48, .ld 1 false (.t 47), none, [], [45, 46, 47]⟩),
        (16, ⟨some 49, .ia 1 (.t 33) (.t 34), none, [], []⟩),
        (17, ⟨none, .st 1 (.t 49) (.t 44), none, [], [33, 34, 44, 49]⟩),
        (18, ⟨some 50, .ia 1 (.t 35) (.t 38), none, [], []⟩),
        (19, ⟨none, .st 1 (.t 50) (.t 48), none, [], [35, 38, 48, 50]⟩)])
      (.reg false [
        (0, ⟨some 51, .mv (.t 0), none, [], []⟩),
        (1, ⟨some 52, .mv (.t 7), none, [], []⟩),
        (2, ⟨some 53, .mv (.t 10), none, [], []⟩),
        (3, ⟨some 54, .mv (.t 6), none, [], []⟩),
        (4, ⟨some 55, .call 215 [(.t 51), (.t 52), (.t 53), (.t 54)], none, [], [51, 52, 53, 54, 55]⟩)])))
    (.reg false [
      (0, ⟨some 31, .mv (.t 10), none, [], [10]⟩),
      (1, ⟨some 32, .bin .sub (.t 31) (.c (.int .i64 (1))), none, [], [31]⟩),
      (2, ⟨some 10, .mv (.t 32), none, [], [32]⟩)])))
def B205 : CCode :=
  (.seq
   (.reg false [
     (0, ⟨some 11, .mv (.t 1), none, [], []⟩),
     (1, ⟨some 6, .mv (.t 11), none, [], [11]⟩)])
   (.seq
    (.reg false [
      (0, ⟨some 7, .mv (.c (.int .i64 (0))), none, [], []⟩)])
    (.seq
     (.reg false [
       (0, ⟨some 12, .mv (.t 2), none, [], [2]⟩),
       (1, ⟨some 13, .mv (.t 1), none, [], [1]⟩),
       (2, ⟨some 14, .bin .sub (.t 12) (.t 13), none, [], [12, 13]⟩),
       (3, ⟨some 8, .mv (.t 14), none, [], [14]⟩)])
     (.seq
      (.seq
       (.reg false [
         (0, ⟨some 15, .mv (.t 8), none, [], []⟩),
         (1, ⟨some 16, .bin .sub (.t 15) (.c (.int .i64 (1))), none, [], [15]⟩),
         (2, ⟨some 17, .bin .quo (.t 16) (.c (.int .i64 (2))), none, [], [16]⟩),
         (3, ⟨some 9, .mv (.t 17), none, [], [17]⟩)])
       (.block 0
        (.loop L205_0)))
      (.seq
       (.reg false [
         (0, ⟨some 27, .mv (.t 8), none, [], [8]⟩),
         (1, ⟨some 28, .bin .sub (.t 27) (.c (.int .i64 (1))), none, [], [27]⟩),
         (2, ⟨some 10, .mv (.t 28), none, [], [28]⟩)])
       (.block 2
        (.loop L205_1)))))))
def C205 : CFn := ⟨56, 3, [], B205⟩

def L206_0 : CCode :=
  (.seq
   (.seq
    (.reg false [
      (0, ⟨some 26, .mv (.t 9), none, [], []⟩),
      (1, ⟨some 27, .mv (.t 1), none, [], []⟩),
      (2, ⟨some 28, .mv (.t 6), none, [], []⟩),
      (3, ⟨some 29, .bin .quo (.t 28) (.c (.int .i64 (4))), none, [], [28]⟩),
      (4, ⟨some 30, .bin .mul (.t 29) (.c (.int .i64 (2))), none, [], [29]⟩),
      (5, ⟨some 31, .bin .add (.t 27) (.t 30), none, [], [27, 30]⟩),
      (6, ⟨some 32, .bin .add (.t 31) (.c (.int .i64 (1))), none, [], [31]⟩),
      (7, ⟨some 33, .bin .leq (.t 26) (.t 32), none, [], [26, 32]⟩)])
    (.cond (.t 33)
     (.seq
      (.kill [33])
      .skip)
     (.seq
      (.kill [1, 6, 7, 8, 9, 33])
      (.exit 0))))
   (.seq
    (.block 1
     (.seq
      (.reg false [
        (0, ⟨some 36, .call 217 [(.t 7)], none, [], []⟩),
        (1, ⟨some 37, .mv (.t 8), none, [], []⟩),
        (2, ⟨some 38, .bin .sub (.t 37) (.c (.int .u64 (1))), none, [], [37]⟩),
        (3, ⟨some 39, .bin .and (.t 36) (.t 38), none, [], [36, 38]⟩),
        (4, ⟨some 40, .conv .i64 (.t 39), none, [], [39]⟩),
        (5, ⟨some 10, .mv (.t 40), none, [], [40]⟩)])
      (.seq
       (.seq
        (.reg false [
          (0, ⟨some 41, .mv (.t 10), none, [], []⟩),
          (1, ⟨some 42, .mv (.t 6), none, [], []⟩),
          (2, ⟨some 43, .bin .geq (.t 41) (.t 42), none, [], [41, 42]⟩)])
        (.cond (.t 43)
         (.seq
          (.kill [43])
          (.reg false [
            (0, ⟨some 44, .mv (.t 10), none, [], [10]⟩),
            (1, ⟨some 45, .mv (.t 6), none, [], []⟩),
            (2, ⟨some 46, .bin .sub (.t 44) (.t 45), none, [], [44, 45]⟩),
            (3, ⟨some 10, .mv (.t 46), none, [], [46]⟩)]))
         (.seq
          (.kill [43])
          .skip)))
       (.reg true [
         (0, ⟨some 47, .mv (.t 0), none, [], []⟩),
         (1, ⟨some 48, .mv (.t 9), none, [], []⟩),
         (2, ⟨some 49, .mv (.t 0), none, [], []⟩),
         (3, ⟨some 50, .mv (.t 1), none, [], []⟩),
         (4, ⟨some 51, .mv (.t 10), none, [], []⟩),
         (5, ⟨some 52, .bin .add (.t 50) (.t 51), none, [], [50, 51]⟩),
         (6, ⟨some 53, .mv (.t 0), none, [], []⟩),
         (7, ⟨some 54, .mv (.t 1), none, [], []⟩),
         (8, ⟨some 55, .mv (.t 10), none, [], [10]⟩),
         (9, ⟨some 56, .bin .add (.t 54) (.t 55), none, [], [54, 55]⟩),
         (10, ⟨some 57, .ia 1 (.t 53) (.t 56), none, [], []⟩),
         (11, ⟨some 58, .ld 1 false (.t 57), none, [], [53, 56, 57]⟩),
         (12, ⟨some 59, .mv (.t 0), none, [], []⟩),
         (13, ⟨some 60, .mv (.t 9), none, [], []⟩),
         (14, ⟨some 61, .ia 1 (.t 59) (.t 60), none, [], []⟩),
         (15, ⟨some 62, .ld 1 false (.t 61), none, [], [59, 60, 61]⟩),
         (16, ⟨some 63, .ia 1 (.t 47) (.t 48), none, [], []⟩),
         (17, ⟨none, .st 1 (.t 63) (.t 58), none, [], [47, 48, 58, 63]⟩),
         (18, ⟨some 64, .ia 1 (.t 49) (.t 52), none, [], []⟩),
         (19, ⟨none, .st 1 (.t 64) (.t 62), none, [], [49, 52, 62, 64]⟩)]))))
    (.reg false [
      (0, ⟨some 34, .mv (.t 9), none, [], [9]⟩),
      (1, ⟨some 35, .bin .add (.t 34) (.c (.int .i64 (1))), none, [], [34]⟩),
      (2, ⟨some 9, .mv (.t 35), none, [], [35]⟩)])))
def B206 : CCode :=
  (.seq
   (.reg false [
     (0, ⟨some 11, .mv (.t 2), none, [], [2]⟩),
     (1, ⟨some 12, .mv (.t 1), none, [], []⟩),
     (2, ⟨some 13, .bin .sub (.t 11) (.t 12), none, [], [11, 12]⟩),
     (3, ⟨some 6, .mv (.t 13), none, [], [13]⟩)])
   (.seq
    (.reg false [
      (0, ⟨some 14, .mv (.t 6), none, [], []⟩),
      (1, ⟨some 15, .bin .geq (.t 14) (.c (.int .i64 (8))), none, [], [14]⟩)])
    (.cond (.t 15)
     (.seq
      (.kill [15])
      (.seq
       (.reg false [
         (0, ⟨some 16, .mv (.t 6), none, [], []⟩),
         (1, ⟨some 17, .conv .u64 (.t 16), none, [], [16]⟩),
         (2, ⟨some 7, .al [.int .u64 (0)], none, [], []⟩),
         (3, ⟨none, .st 1 (.t 7) (.t 17), none, [], [17]⟩)])
       (.seq
        (.reg false [
          (0, ⟨some 18, .mv (.t 6), none, [], []⟩),
          (1, ⟨some 19, .call 216 [(.t 18)], none, [], [18]⟩),
          (2, ⟨some 8, .mv (.t 19), none, [], [19]⟩)])
        (.seq
         (.reg false [
           (0, ⟨some 20, .mv (.t 1), none, [], []⟩),
           (1, ⟨some 21, .mv (.t 6), none, [], []⟩),
           (2, ⟨some 22, .bin .quo (.t 21) (.c (.int .i64 (4))), none, [], [21]⟩),
           (3, ⟨some 23, .bin .mul (.t 22) (.c (.int .i64 (2))), none, [], [22]⟩),
           (4, ⟨some 24, .bin .add (.t 20) (.t 23), none, [], [20, 23]⟩),
           (5, ⟨some 25, .bin .sub (.t 24) (.c (.int .i64 (1))), none, [], [24]⟩),
           (6, ⟨some 9, .mv (.t 25), none, [], [25]⟩)])
         (.block 0
          (.loop L206_0))))))
     (.seq
      (.kill [1, 6, 15])
      .skip))))
def C206 : CFn := ⟨65, 3, [], B206⟩

def B207 : CCode :=
  (.seq
   (.reg false [
     (0, ⟨some 6, .mv (.c (.int .i64 (0))), none, [], [6]⟩),
     (1, ⟨some 7, .mv (.c (.int .i64 (0))), none, [], [7]⟩)])
   (.seq
    (.reg false [
      (0, ⟨some 13, .mv (.t 2), none, [], [2]⟩),
      (1, ⟨some 14, .mv (.t 1), none, [], []⟩),
      (2, ⟨some 15, .bin .sub (.t 13) (.t 14), none, [], [13, 14]⟩),
      (3, ⟨some 8, .mv (.t 15), none, [], [15]⟩)])
    (.seq
     (.reg false [
       (0, ⟨some 9, .al [.int .i64 (0)], none, [], []⟩)])
     (.seq
      (.reg false [
        (0, ⟨some 16, .mv (.t 1), none, [], []⟩),
        (1, ⟨some 17, .mv (.t 8), none, [], []⟩),
        (2, ⟨some 18, .bin .quo (.t 17) (.c (.int .i64 (4))), none, [], [17]⟩),
        (3, ⟨some 19, .bin .mul (.t 18) (.c (.int .i64 (1))), none, [], [18]⟩),
        (4, ⟨some 20, .bin .add (.t 16) (.t 19), none, [], [16, 19]⟩),
        (5, ⟨some 10, .mv (.t 20), none, [], [20]⟩)])
      (.seq
       (.reg false [
         (0, ⟨some 21, .mv (.t 1), none, [], []⟩),
         (1, ⟨some 22, .mv (.t 8), none, [], []⟩),
         (2, ⟨some 23, .bin .quo (.t 22) (.c (.int .i64 (4))), none, [], [22]⟩),
         (3, ⟨some 24, .bin .mul (.t 23) (.c (.int .i64 (2))), none, [], [23]⟩),
         (4, ⟨some 25, .bin .add (.t 21) (.t 24), none, [], [21, 24]⟩),
         (5, ⟨some 11, .mv (.t 25), none, [], [25]⟩)])
       (.seq
        (.reg false [
          (0, ⟨some 26, .mv (.t 1), none, [], [1]⟩),
          (1, ⟨some 27, .mv (.t 8), none, [], []⟩),
          (2, ⟨some 28, .bin .quo (.t 27) (.c (.int .i64 (4))), none, [], [27]⟩),
          (3, ⟨some 29, .bin .mul (.t 28) (.c (.int .i64 (3))), none, [], [28]⟩),
          (4, ⟨some 30, .bin .add (.t 26) (.t 29), none, [], [26, 29]⟩),
          (5, ⟨some 12, .mv (.t 30), none, [], [30]⟩)])
        (.seq
         (.seq
          (.reg false [
            (0, ⟨some 31, .mv (.t 8), none, [], []⟩),
            (1, ⟨some 32, .bin .geq (.t 31) (.c (.int .i64 (8))), none, [], [31]⟩)])
          (.cond (.t 32)
           (.seq
            (.kill [32])
            (.seq
             (.seq
              (.reg false [
                (0, ⟨some 33, .mv (.t 8), none, [], [8]⟩),
                (1, ⟨some 34, .bin .geq (.t 33) (.c (.int .i64 (50))), none, [], [33]⟩)])
              (.cond (.t 34)
               (.seq
                (.kill [34])
                (.seq
                 (.reg false [
                   (0, ⟨some 35, .mv (.t 0), none, [], []⟩),
                   (1, ⟨some 36, .mv (.t 10), none, [], [10]⟩),
                   (2, ⟨some 37, .call 218 [(.t 35), (.t 36), (.t 9)], none, [], [35, 36]⟩),
                   (3, ⟨some 10, .mv (.t 37), none, [], [37]⟩)])
                 (.seq
                  (.reg false [
                    (0, ⟨some 38, .mv (.t 0), none, [], []⟩),
                    (1, ⟨some 39, .mv (.t 11), none, [], [11]⟩),
                    (2, ⟨some 40, .call 218 [(.t 38), (.t 39), (.t 9)], none, [], [38, 39]⟩),
                    (3, ⟨some 11, .mv (.t 40), none, [], [40]⟩)])
                  (.reg false [
                    (0, ⟨some 41, .mv (.t 0), none, [], []⟩),
                    (1, ⟨some 42, .mv (.t 12), none, [], [12]⟩),
                    (2, ⟨some 43, .call 218 [(.t 41), (.t 42), (.t 9)], none, [], [41, 42]⟩),
                    (3, ⟨some 12, .mv (.t 43), none, [], [43]⟩)]))))
               (.seq
                (.kill [34])
                .skip)))
             (.reg false [
               (0, ⟨some 44, .mv (.t 0), none, [], [0]⟩),
               (1, ⟨some 45, .mv (.t 10), none, [], [10]⟩),
               (2, ⟨some 46, .mv (.t 11), none, [], [11]⟩),
               (3, ⟨some 47, .mv (.t 12), none, [], [12]⟩),
               (4, ⟨some 48, .call 219 [(.t 44), (.t 45), (.t 46), (.t 47), (.t 9)], none, [], [44, 45, 46, 47]⟩),
               (5, ⟨some 11, .mv (.t 48), none, [], [48]⟩)])))
           (.seq
            (.kill [0, 8, 10, 12, 32])
            .skip)))
         (.seq
          (.reg false [
            (0, ⟨some 49, .ld 1 false (.t 9), none, [], [9]⟩)])
          (.block 0
           (.seq
            (.reg false [
              (0, ⟨some 52, .bin .eql (.t 49) (.c (.int .i64 (0))), none, [], []⟩),
              (1, ⟨some 51, .mv (.t 52), none, [], [52]⟩)])
            (.cond (.t 51)
             (.seq
              (.kill [49, 51])
              (.seq
               (.reg false [
                 (0, ⟨some 53, .mv (.t 11), none, [], [11]⟩),
                 (1, ⟨some 6, .mv (.t 53), none, [], [53]⟩),
                 (2, ⟨some 7, .mv (.c (.int .i64 (1))), none, [], []⟩)])
               .ret))
             (.seq
              (.kill [51])
              (.seq
               (.reg false [
                 (0, ⟨some 55, .bin .eql (.t 49) (.c (.int .i64 (12))), none, [], [49]⟩),
                 (1, ⟨some 54, .mv (.t 55), none, [], [55]⟩)])
               (.cond (.t 54)
                (.seq
                 (.kill [54])
                 (.seq
                  (.reg false [
                    (0, ⟨some 56, .mv (.t 11), none, [], [11]⟩),
                    (1, ⟨some 6, .mv (.t 56), none, [], [56]⟩),
                    (2, ⟨some 7, .mv (.c (.int .i64 (2))), none, [], []⟩)])
                  .ret))
                (.seq
                 (.kill [54])
                 (.seq
                  (.reg false [
                    (0, ⟨some 50, .mv (.t 11), none, [], [11]⟩),
                    (1, ⟨some 6, .mv (.t 50), none, [], [50]⟩),
                    (2, ⟨some 7, .mv (.c (.int .i64 (0))), none, [], []⟩)])
                  .ret))))))))))))))))
def C207 : CFn := ⟨57, 3, [.t 6, .t 7], B207⟩

def L208_0 : CCode :=
  (.seq
   (.seq
    (.reg false [
      (0, ⟨some 11, .mv (.t 6), none, [], []⟩),
      (1, ⟨some 12, .mv (.t 7), none, [], []⟩),
      (2, ⟨some 13, .bin .lss (.t 11) (.t 12), none, [], [11, 12]⟩)])
    (.cond (.t 13)
     (.seq
      (.kill [13])
      .skip)
     (.seq
      (.kill [6, 7, 13])
      (.exit 0))))
   (.block 1
    (.seq
     (.reg true [
       (0, ⟨some 14, .mv (.t 0), none, [], []⟩),
       (1, ⟨some 15, .mv (.t 6), none, [], []⟩),
       (2, ⟨some 16, .mv (.t 0), none, [], []⟩),
       (3, ⟨some 17, .mv (.t 7), none, [], []⟩),
       (4, ⟨some 18, .mv (.t 0), none, [], []⟩),
       (5, ⟨some 19, .mv (.t 7), none, [], []⟩),
       (6, ⟨some 20, .ia 1 (.t 18) (.t 19), none, [], []⟩),
       (7, ⟨some 21, .ld 1 false (.t 20), none, [], [18, 19, 20]⟩),
       (8, ⟨some 22, .mv (.t 0), none, [], []⟩),
       (9, ⟨some 23, .mv (.t 6), none, [], []⟩),
       (10, ⟨some 24, .ia 1 (.t 22) (.t 23), none, [], []⟩),
       (11, ⟨some 25, .ld 1 false (.t 24), none, [], [22, 23, 24]⟩),
       (12, ⟨some 26, .ia 1 (.t 14) (.t 15), none, [], []⟩),
       (13, ⟨none, .st 1 (.t 26) (.t 21), none, [], [14, 15, 21, 26]⟩),
       (14, ⟨some 27, .ia 1 (.t 16) (.t 17), none, [], []⟩),
       (15, ⟨none, .st 1 (.t 27) (.t 25), none, [], [16, 17, 25, 27]⟩)])
     (.seq
      (.reg false [
        (0, ⟨some 28, .mv (.t 6), none, [], [6]⟩),
        (1, ⟨some 29, .bin .add (.t 28) (.c (.int .i64 (1))), none, [], [28]⟩),
        (2, ⟨some 6, .mv (.t 29), none, [], [29]⟩)])
      (.reg false [
        (0, ⟨some 30, .mv (.t 7), none, [], [7]⟩),
        (1, ⟨some 31, .bin .sub (.t 30) (.c (.int .i64 (1))), none, [], [30]⟩),
        (2, ⟨some 7, .mv (.t 31), none, [], [31]⟩)])))))
def B208 : CCode :=
  (.seq
   (.reg false [
     (0, ⟨some 8, .mv (.t 1), none, [], [1]⟩),
     (1, ⟨some 6, .mv (.t 8), none, [], [8]⟩)])
   (.seq
    (.reg false [
      (0, ⟨some 9, .mv (.t 2), none, [], [2]⟩),
      (1, ⟨some 10, .bin .sub (.t 9) (.c (.int .i64 (1))), none, [], [9]⟩),
      (2, ⟨some 7, .mv (.t 10), none, [], [10]⟩)])
    (.block 0
     (.loop L208_0))))
def C208 : CFn := ⟨32, 3, [], B208⟩

def L209_1 : CCode :=
  (.seq
   (.seq
    (.reg true [
      (0, ⟨some 17, .mv (.t 7), none, [], []⟩),
      (1, ⟨some 18, .mv (.t 2), none, [], []⟩),
      (2, ⟨some 19, .bin .lss (.t 17) (.t 18), none, [], [17, 18]⟩),
      (3, ⟨some 20, .mv (.t 19), none, [], [19]⟩),
      (4, ⟨some 21, .mv (.t 0), some (20, true), [], []⟩),
      (5, ⟨some 22, .mv (.t 7), some (20, true), [], []⟩),
      (6, ⟨some 23, .ia 1 (.t 21) (.t 22), some (20, true), [], []⟩),
      (7, ⟨some 24, .ld 1 false (.t 23), some (20, true), [], [21, 22, 23]⟩),
      (8, ⟨some 25, .mv (.t 0), some (20, true), [], []⟩),
      (9, ⟨some 26, .mv (.t 7), some (20, true), [], []⟩),
      (10, ⟨some 27, .bin .sub (.t 26) (.c (.int .i64 (1))), some (20, true), [], [26]⟩),
      (11, ⟨some 28, .ia 1 (.t 25) (.t 27), some (20, true), [], []⟩),
      (12, ⟨some 29, .ld 1 false (.t 28), some (20, true), [], [25, 27, 28]⟩),
      (13, ⟨some 30, .call 210 [(.t 24), (.t 29)], some (20, true), [], [24, 29]⟩),
      (14, ⟨some 31, .not (.t 30), some (20, true), [], [30]⟩),
      (15, ⟨some 32, .pick (.t 20) (.t 31) (.c (.bool false)), none, [], [20, 31]⟩)])
    (.cond (.t 32)
     (.seq
      (.kill [32])
      .skip)
     (.seq
      (.kill [32])
      (.exit 2))))
   (.block 3
    (.reg false [
      (0, ⟨some 33, .mv (.t 7), none, [], [7]⟩),
      (1, ⟨some 34, .bin .add (.t 33) (.c (.int .i64 (1))), none, [], [33]⟩),
      (2, ⟨some 7, .mv (.t 34), none, [], [34]⟩)])))
def L209_2 : CCode :=
  (.seq
   (.seq
    (.reg false [
      (0, ⟨some 64, .mv (.t 9), none, [], []⟩),
      (1, ⟨some 65, .bin .geq (.t 64) (.c (.int .i64 (1))), none, [], [64]⟩)])
    (.cond (.t 65)
     (.seq
      (.kill [65])
      .skip)
     (.seq
      (.kill [9, 65])
      (.exit 4))))
   (.seq
    (.block 5
     (.seq
      (.seq
       (.reg true [
         (0, ⟨some 68, .mv (.t 0), none, [], []⟩),
         (1, ⟨some 69, .mv (.t 9), none, [], []⟩),
         (2, ⟨some 70, .ia 1 (.t 68) (.t 69), none, [], []⟩),
         (3, ⟨some 71, .ld 1 false (.t 70), none, [], [68, 69, 70]⟩),
         (4, ⟨some 72, .mv (.t 0), none, [], []⟩),
         (5, ⟨some 73, .mv (.t 9), none, [], []⟩),
         (6, ⟨some 74, .bin .sub (.t 73) (.c (.int .i64 (1))), none, [], [73]⟩),
         (7, ⟨some 75, .ia 1 (.t 72) (.t 74), none, [], []⟩),
         (8, ⟨some 76, .ld 1 false (.t 75), none, [], [72, 74, 75]⟩),
         (9, ⟨some 77, .call 210 [(.t 71), (.t 76)], none, [], [71, 76]⟩),
         (10, ⟨some 78, .not (.t 77), none, [], [77]⟩)])
       (.cond (.t 78)
        (.seq
         (.kill [9, 78])
         (.exit 4))
        (.seq
         (.kill [78])
         .skip)))
      (.reg true [
        (0, ⟨some 79, .mv (.t 0), none, [], []⟩),
        (1, ⟨some 80, .mv (.t 9), none, [], []⟩),
        (2, ⟨some 81, .mv (.t 0), none, [], []⟩),
        (3, ⟨some 82, .mv (.t 9), none, [], []⟩),
        (4, ⟨some 83, .bin .sub (.t 82) (.c (.int .i64 (1))), none, [], [82]⟩),
        (5, ⟨some 84, .mv (.t 0), none, [], []⟩),
        (6, ⟨some 85, .mv (.t 9), none, [], []⟩),
        (7, ⟨some 86, .bin .sub (.t 85) (.c (.int .i64 (1))), none, [], [85]⟩),
        (8, ⟨some 87, .ia 1 (.t 84) (.t 86), none, [], []⟩),
        (9, ⟨some 88, .ld 1 false (.t 87), none, [], [84, 86, 87]⟩),
        (10, ⟨some 89, .mv (.t 0), none, [], []⟩),
        (11, ⟨some 90, .mv (.t 9), none, [], []⟩),
        (12, ⟨some 91, .ia 1 (.t 89) (.t 90), none, [], []⟩),
        (13, ⟨some 92, .ld 1 false (.t 91), none, [], [89, 90, 91]⟩),
        (14, ⟨some 93, .ia 1 (.t 79) (.t 80), none, [], []⟩),
        (15, ⟨none, .st 1 (.t 93) (.t 88), none, [], [79, 80, 88, 93]⟩),
        (16, ⟨some 94, .ia 1 (.t 81) (.t 83), none, [], []⟩),
        (17, ⟨none, .st 1 (.t 94) (.t 92), none, [], [81, 83, 92, 94]⟩)])))
    (.reg false [
      (0, ⟨some 66, .mv (.t 9), none, [], [9]⟩),
      (1, ⟨some 67, .bin .sub (.t 66) (.c (.int .i64 (1))), none, [], [66]⟩),
      (2, ⟨some 9, .mv (.t 67), none, [], [67]⟩)])))
def L209_3 : CCode :=
  (.seq
   (.seq
    (.reg false [
      (0, ⟨some 101, .mv (.t 10), none, [], []⟩),
      (1, ⟨some 102, .mv (.t 2), none, [], []⟩),
      (2, ⟨some 103, .bin .lss (.t 101) (.t 102), none, [], [101, 102]⟩)])
    (.cond (.t 103)
     (.seq
      (.kill [103])
      .skip)
     (.seq
      (.kill [10, 103])
      (.exit 6))))
   (.seq
    (.block 7
     (.seq
      (.seq
       (.reg true [
         (0, ⟨some 106, .mv (.t 0), none, [], []⟩),
         (1, ⟨some 107, .mv (.t 10), none, [], []⟩),
         (2, ⟨some 108, .ia 1 (.t 106) (.t 107), none, [], []⟩),
         (3, ⟨some 109, .ld 1 false (.t 108), none, [], [106, 107, 108]⟩),
         (4, ⟨some 110, .mv (.t 0), none, [], []⟩),
         (5, ⟨some 111, .mv (.t 10), none, [], []⟩),
         (6, ⟨some 112, .bin .sub (.t 111) (.c (.int .i64 (1))), none, [], [111]⟩),
         (7, ⟨some 113, .ia 1 (.t 110) (.t 112), none, [], []⟩),
         (8, ⟨some 114, .ld 1 false (.t 113), none, [], [110, 112, 113]⟩),
         (9, ⟨some 115, .call 210 [(.t 109), (.t 114)], none, [], [109, 114]⟩),
         (10, ⟨some 116, .not (.t 115), none, [], [115]⟩)])
       (.cond (.t 116)
        (.seq
         (.kill [10, 116])
         (.exit 6))
        (.seq
         (.kill [116])
         .skip)))
      (.reg true [
        (0, ⟨some 117, .mv (.t 0), none, [], []⟩),
        (1, ⟨some 118, .mv (.t 10), none, [], []⟩),
        (2, ⟨some 119, .mv (.t 0), none, [], []⟩),
        (3, ⟨some 120, .mv (.t 10), none, [], []⟩),
        (4, ⟨some 121, .bin .sub (.t 120) (.c (.int .i64 (1))), none, [], [120]⟩),
        (5, ⟨some 122, .mv (.t 0), none, [], []⟩),
        (6, ⟨some 123, .mv (.t 10), none, [], []⟩),
        (7, ⟨some 124, .bin .sub (.t 123) (.c (.int .i64 (1))), none, [], [123]⟩),
        (8, ⟨some 125, .ia 1 (.t 122) (.t 124), none, [], []⟩),
        (9, ⟨some 126, .ld 1 false (.t 125), none, [], [122, 124, 125]⟩),
        (10, ⟨some 127, .mv (.t 0), none, [], []⟩),
        (11, ⟨some 128, .mv (.t 10), none, [], []⟩),
        (12, ⟨some 129, .ia 1 (.t 127) (.t 128), none, [], []⟩),
        (13, ⟨some 130, .ld 1 false (.t 129), none, [], [127, 128, 129]⟩),
        (14, ⟨some 131, .ia 1 (.t 117) (.t 118), none, [], []⟩),
        (15, ⟨none, .st 1 (.t 131) (.t 126), none, [], [117, 118, 126, 131]⟩),
        (16, ⟨some 132, .ia 1 (.t 119) (.t 121), none, [], []⟩),
        (17, ⟨none, .st 1 (.t 132) (.t 130), none, [], [119, 121, 130, 132]⟩)])))
    (.reg false [
      (0, ⟨some 104, .mv (.t 10), none, [], [10]⟩),
      (1, ⟨some 105, .bin .add (.t 104) (.c (.int .i64 (1))), none, [], [104]⟩),
      (2, ⟨some 10, .mv (.t 105), none, [], [105]⟩)])))
def L209_0 : CCode :=
  (.seq
   (.seq
    (.reg false [
      (0, ⟨some 13, .mv (.t 8), none, [], []⟩),
      (1, ⟨some 14, .bin .lss (.t 13) (.c (.int .i64 (5))), none, [], [13]⟩)])
    (.cond (.t 14)
     (.seq
      (.kill [14])
      .skip)
     (.seq
      (.kill [1, 2, 7, 8, 14])
      (.exit 0))))
   (.seq
    (.block 1
     (.seq
      (.block 2
       (.loop L209_1))
      (.seq
       (.seq
        (.reg false [
          (0, ⟨some 35, .mv (.t 7), none, [], []⟩),
          (1, ⟨some 36, .mv (.t 2), none, [], []⟩),
          (2, ⟨some 37, .bin .eql (.t 35) (.t 36), none, [], [35, 36]⟩)])
        (.cond (.t 37)
         (.seq
          (.kill [1, 2, 7, 8, 37])
          (.seq
           (.reg false [
             (0, ⟨some 6, .mv (.c (.bool true)), none, [], []⟩)])
           .ret))
         (.seq
          (.kill [37])
          .skip)))
       (.seq
        (.seq
         (.reg false [
           (0, ⟨some 38, .mv (.t 2), none, [], []⟩),
           (1, ⟨some 39, .mv (.t 1), none, [], []⟩),
           (2, ⟨some 40, .bin .sub (.t 38) (.t 39), none, [], [38, 39]⟩),
           (3, ⟨some 41, .bin .lss (.t 40) (.c (.int .i64 (50))), none, [], [40]⟩)])
         (.cond (.t 41)
          (.seq
           (.kill [1, 2, 7, 8, 41])
           (.seq
            (.reg false [
              (0, ⟨some 6, .mv (.c (.bool false)), none, [], []⟩)])
            .ret))
          (.seq
           (.kill [41])
           .skip)))
        (.seq
         (.reg true [
           (0, ⟨some 42, .mv (.t 0), none, [], []⟩),
           (1, ⟨some 43, .mv (.t 7), none, [], []⟩),
           (2, ⟨some 44, .mv (.t 0), none, [], []⟩),
           (3, ⟨some 45, .mv (.t 7), none, [], []⟩),
           (4, ⟨some 46, .bin .sub (.t 45) (.c (.int .i64 (1))), none, [], [45]⟩),
           (5, ⟨some 47, .mv (.t 0), none, [], []⟩),
           (6, ⟨some 48, .mv (.t 7), none, [], []⟩),
           (7, ⟨some 49, .bin .sub (.t 48) (.c (.int .i64 (1))), none, [], [48]⟩),
           (8, ⟨some 50, .ia 1 (.t 47) (.t 49), none, [], []⟩),
           (9, ⟨some 51, .ld 1 false (.t 50), none, [], [47, 49, 50]⟩),
           (10, ⟨some 52, .mv (.t 0), none, [], []⟩),
           (11, ⟨some 53, .mv (.t 7), none, [], []⟩),
           (12, ⟨some 54, .ia 1 (.t 52) (.t 53), none, [], []⟩),
           (13, ⟨some 55, .ld 1 false (.t 54), none, [], [52, 53, 54]⟩),
           (14, ⟨some 56, .ia 1 (.t 42) (.t 43), none, [], []⟩),
           (15, ⟨none, .st 1 (.t 56) (.t 51), none, [], [42, 43, 51, 56]⟩),
           (16, ⟨some 57, .ia 1 (.t 44) (.t 46), none, [], []⟩),
           (17, ⟨none, .st 1 (.t 57) (.t 55), none, [], [44, 46, 55, 57]⟩)])
         (.seq
          (.seq
           (.reg false [
             (0, ⟨some 58, .mv (.t 7), none, [], []⟩),
             (1, ⟨some 59, .mv (.t 1), none, [], []⟩),
             (2, ⟨some 60, .bin .sub (.t 58) (.t 59), none, [], [58, 59]⟩),
             (3, ⟨some 61, .bin .geq (.t 60) (.c (.int .i64 (2))), none, [], [60]⟩)])
           (.cond (.t 61)
            (.seq
             (.kill [61])
             (.seq
              (.reg false [
                (0, ⟨some 62, .mv (.t 7), none, [], []⟩),
                (1, ⟨some 63, .bin .sub (.t 62) (.c (.int .i64 (1))), none, [], [62]⟩),
                (2, ⟨some 9, .mv (.t 63), none, [], [63]⟩)])
              (.block 4
               (.loop L209_2))))
            (.seq
             (.kill [61])
             .skip)))
          (.seq
           (.reg false [
             (0, ⟨some 95, .mv (.t 2), none, [], []⟩),
             (1, ⟨some 96, .mv (.t 7), none, [], []⟩),
             (2, ⟨some 97, .bin .sub (.t 95) (.t 96), none, [], [95, 96]⟩),
             (3, ⟨some 98, .bin .geq (.t 97) (.c (.int .i64 (2))), none, [], [97]⟩)])
           (.cond (.t 98)
            (.seq
             (.kill [98])
             (.seq
              (.reg false [
                (0, ⟨some 99, .mv (.t 7), none, [], []⟩),
                (1, ⟨some 100, .bin .add (.t 99) (.c (.int .i64 (1))), none, [], [99]⟩),
                (2, ⟨some 10, .mv (.t 100), none, [], [100]⟩)])
              (.block 6
               (.loop L209_3))))
            (.seq
             (.kill [98])
             .skip)))))))))
    (.reg false [
      (0, ⟨some 15, .mv (.t 8), none, [], [8]⟩),
      (1, ⟨some 16, .bin .add (.t 15) (.c (.int .i64 (1))), none, [], [15]⟩),
      (2, ⟨some 8, .mv (.t 16), none, [], [16]⟩)])))
def B209 : CCode :=
  (.seq
   (.reg false [
     (0, ⟨some 6, .mv (.c (.bool false)), none, [], [6]⟩)])
   (.seq
    (.reg false [
      (0, ⟨some 11, .mv (.t 1), none, [], []⟩),
      (1, ⟨some 12, .bin .add (.t 11) (.c (.int .i64 (1))), none, [], [11]⟩),
      (2, ⟨some 7, .mv (.t 12), none, [], [12]⟩)])
    (.seq
     (.seq
      (.reg false [
        (0, ⟨some 8, .mv (.c (.int .i64 (0))), none, [], []⟩)])
      (.block 0
       (.loop L209_0)))
     (.seq
      (.reg false [
        (0, ⟨some 6, .mv (.c (.bool false)), none, [], []⟩)])
      .ret))))
def C209 : CFn := ⟨133, 3, [.t 6], B209⟩

def B210 : CCode :=
  (.seq
   (.reg false [
     (0, ⟨some 4, .mv (.c (.bool false)), none, [], [4]⟩)])
   (.seq
    (.reg false [
      (0, ⟨some 5, .mv (.t 0), none, [], []⟩),
      (1, ⟨some 6, .call 203 [(.t 5)], none, [], [5]⟩),
      (2, ⟨some 7, .mv (.t 6), none, [], [6]⟩),
      (3, ⟨some 8, .mv (.t 1), some (7, true), [], []⟩),
      (4, ⟨some 9, .call 203 [(.t 8)], some (7, true), [], [8]⟩),
      (5, ⟨some 10, .not (.t 9), some (7, true), [], [9]⟩),
      (6, ⟨some 11, .pick (.t 7) (.t 10) (.c (.bool false)), none, [], [7, 10]⟩),
      (7, ⟨some 12, .mv (.t 11), none, [], [11]⟩),
      (8, ⟨some 13, .mv (.t 0), some (12, false), [], [0]⟩),
      (9, ⟨some 14, .mv (.t 1), some (12, false), [], [1]⟩),
      (10, ⟨some 15, .bin .lss (.t 13) (.t 14), some (12, false), [], [13, 14]⟩),
      (11, ⟨some 16, .pick (.t 12) (.c (.bool true)) (.t 15), none, [], [12, 15]⟩),
      (12, ⟨some 4, .mv (.t 16), none, [], [16]⟩)])
    .ret))
def C210 : CFn := ⟨17, 2, [.t 4], B210⟩

def L211_1 : CCode :=
  (.seq
   (.seq
    (.reg true [
      (0, ⟨some 29, .mv (.t 9), none, [], []⟩),
      (1, ⟨some 30, .mv (.t 10), none, [], []⟩),
      (2, ⟨some 31, .bin .leq (.t 29) (.t 30), none, [], [29, 30]⟩),
      (3, ⟨some 32, .mv (.t 31), none, [], [31]⟩),
      (4, ⟨some 33, .mv (.t 0), some (32, true), [], []⟩),
      (5, ⟨some 34, .mv (.t 1), some (32, true), [], []⟩),
      (6, ⟨some 35, .ia 1 (.t 33) (.t 34), some (32, true), [], []⟩),
      (7, ⟨some 36, .ld 1 false (.t 35), some (32, true), [], [33, 34, 35]⟩),
      (8, ⟨some 37, .mv (.t 0), some (32, true), [], []⟩),
      (9, ⟨some 38, .mv (.t 9), some (32, true), [], []⟩),
      (10, ⟨some 39, .ia 1 (.t 37) (.t 38), some (32, true), [], []⟩),
      (11, ⟨some 40, .ld 1 false (.t 39), some (32, true), [], [37, 38, 39]⟩),
      (12, ⟨some 41, .call 210 [(.t 36), (.t 40)], some (32, true), [], [36, 40]⟩),
      (13, ⟨some 42, .not (.t 41), some (32, true), [], [41]⟩),
      (14, ⟨some 43, .pick (.t 32) (.t 42) (.c (.bool false)), none, [], [32, 42]⟩)])
    (.cond (.t 43)
     (.seq
      (.kill [43])
      .skip)
     (.seq
      (.kill [43])
      (.exit 2))))
   (.block 3
    (.reg false [
      (0, ⟨some 44, .mv (.t 9), none, [], [9]⟩),
      (1, ⟨some 45, .bin .add (.t 44) (.c (.int .i64 (1))), none, [], [44]⟩),
      (2, ⟨some 9, .mv (.t 45), none, [], [45]⟩)])))
def L211_2 : CCode :=
  (.seq
   (.seq
    (.reg true [
      (0, ⟨some 46, .mv (.t 9), none, [], []⟩),
      (1, ⟨some 47, .mv (.t 10), none, [], []⟩),
      (2, ⟨some 48, .bin .leq (.t 46) (.t 47), none, [], [46, 47]⟩),
      (3, ⟨some 49, .mv (.t 48), none, [], [48]⟩),
      (4, ⟨some 50, .mv (.t 0), some (49, true), [], []⟩),
      (5, ⟨some 51, .mv (.t 1), some (49, true), [], []⟩),
      (6, ⟨some 52, .ia 1 (.t 50) (.t 51), some (49, true), [], []⟩),
      (7, ⟨some 53, .ld 1 false (.t 52), some (49, true), [], [50, 51, 52]⟩),
      (8, ⟨some 54, .mv (.t 0), some (49, true), [], []⟩),
      (9, ⟨some 55, .mv (.t 10), some (49, true), [], []⟩),
      (10, ⟨some 56, .ia 1 (.t 54) (.t 55), some (49, true), [], []⟩),
      (11, ⟨some 57, .ld 1 false (.t 56), some (49, true), [], [54, 55, 56]⟩),
      (12, ⟨some 58, .call 210 [(.t 53), (.t 57)], some (49, true), [], [53, 57]⟩),
      (13, ⟨some 59, .pick (.t 49) (.t 58) (.c (.bool false)), none, [], [49, 58]⟩)])
    (.cond (.t 59)
     (.seq
      (.kill [59])
      .skip)
     (.seq
      (.kill [59])
      (.exit 4))))
   (.block 5
    (.reg false [
      (0, ⟨some 60, .mv (.t 10), none, [], [10]⟩),
      (1, ⟨some 61, .bin .sub (.t 60) (.c (.int .i64 (1))), none, [], [60]⟩),
      (2, ⟨some 10, .mv (.t 61), none, [], [61]⟩)])))
def L211_0 : CCode :=
  (.block 1
   (.seq
    (.block 2
     (.loop L211_1))
    (.seq
     (.block 4
      (.loop L211_2))
     (.seq
      (.seq
       (.reg false [
         (0, ⟨some 62, .mv (.t 9), none, [], []⟩),
         (1, ⟨some 63, .mv (.t 10), none, [], []⟩),
         (2, ⟨some 64, .bin .gtr (.t 62) (.t 63), none, [], [62, 63]⟩)])
       (.cond (.t 64)
        (.seq
         (.kill [1, 10, 64])
         (.exit 0))
        (.seq
         (.kill [64])
         .skip)))
      (.seq
       (.reg true [
         (0, ⟨some 65, .mv (.t 0), none, [], []⟩),
         (1, ⟨some 66, .mv (.t 9), none, [], []⟩),
         (2, ⟨some 67, .mv (.t 0), none, [], []⟩),
         (3, ⟨some 68, .mv (.t 10), none, [], []⟩),
         (4, ⟨some 69, .mv (.t 0), none, [], []⟩),
         (5, ⟨some 70, .mv (.t 10), none, [], []⟩),
         (6, ⟨some 71, .ia 1 (.t 69) (.t 70), none, [], []⟩),
         (7, ⟨some 72, .ld 1 false (.t 71), none, [], [69, 70, 71]⟩),
         (8, ⟨some 73, .mv (.t 0), none, [], []⟩),
         (9, ⟨some 74, .mv (.t 9), none, [], []⟩),
         (10, ⟨some 75, .ia 1 (.t 73) (.t 74), none, [], []⟩),
         (11, ⟨some 76, .ld 1 false (.t 75), none, [], [73, 74, 75]⟩),
         (12, ⟨some 77, .ia 1 (.t 65) (.t 66), none, [], []⟩),
         (13, ⟨none, .st 1 (.t 77) (.t 72), none, [], [65, 66, 72, 77]⟩),
         (14, ⟨some 78, .ia 1 (.t 67) (.t 68), none, [], []⟩),
         (15, ⟨none, .st 1 (.t 78) (.t 76), none, [], [67, 68, 76, 78]⟩)])
       (.seq
        (.reg false [
          (0, ⟨some 79, .mv (.t 9), none, [], [9]⟩),
          (1, ⟨some 80, .bin .add (.t 79) (.c (.int .i64 (1))), none, [], [79]⟩),
          (2, ⟨some 9, .mv (.t 80), none, [], [80]⟩)])
        (.reg false [
          (0, ⟨some 81, .mv (.t 10), none, [], [10]⟩),
          (1, ⟨some 82, .bin .sub (.t 81) (.c (.int .i64 (1))), none, [], [81]⟩),
          (2, ⟨some 10, .mv (.t 82), none, [], [82]⟩)])))))))
def B211 : CCode :=
  (.seq
   (.reg false [
     (0, ⟨some 8, .mv (.c (.int .i64 (0))), none, [], [8]⟩)])
   (.seq
    (.reg true [
      (0, ⟨some 11, .mv (.t 0), none, [], []⟩),
      (1, ⟨some 12, .mv (.t 1), none, [], []⟩),
      (2, ⟨some 13, .mv (.t 0), none, [], []⟩),
      (3, ⟨some 14, .mv (.t 3), none, [], []⟩),
      (4, ⟨some 15, .mv (.t 0), none, [], []⟩),
      (5, ⟨some 16, .mv (.t 3), none, [], [3]⟩),
      (6, ⟨some 17, .ia 1 (.t 15) (.t 16), none, [], []⟩),
      (7, ⟨some 18, .ld 1 false (.t 17), none, [], [15, 16, 17]⟩),
      (8, ⟨some 19, .mv (.t 0), none, [], []⟩),
      (9, ⟨some 20, .mv (.t 1), none, [], []⟩),
      (10, ⟨some 21, .ia 1 (.t 19) (.t 20), none, [], []⟩),
      (11, ⟨some 22, .ld 1 false (.t 21), none, [], [19, 20, 21]⟩),
      (12, ⟨some 23, .ia 1 (.t 11) (.t 12), none, [], []⟩),
      (13, ⟨none, .st 1 (.t 23) (.t 18), none, [], [11, 12, 18, 23]⟩),
      (14, ⟨some 24, .ia 1 (.t 13) (.t 14), none, [], []⟩),
      (15, ⟨none, .st 1 (.t 24) (.t 22), none, [], [13, 14, 22, 24]⟩)])
    (.seq
     (.reg false [
       (0, ⟨some 25, .mv (.t 1), none, [], []⟩),
       (1, ⟨some 26, .bin .add (.t 25) (.c (.int .i64 (1))), none, [], [25]⟩),
       (2, ⟨some 27, .mv (.t 2), none, [], [2]⟩),
       (3, ⟨some 28, .bin .sub (.t 27) (.c (.int .i64 (1))), none, [], [27]⟩),
       (4, ⟨some 9, .mv (.t 26), none, [], [26]⟩),
       (5, ⟨some 10, .mv (.t 28), none, [], [28]⟩)])
     (.seq
      (.block 0
       (.loop L211_0))
      (.seq
       (.reg false [
         (0, ⟨some 83, .mv (.t 9), none, [], [9]⟩),
         (1, ⟨some 8, .mv (.t 83), none, [], [83]⟩)])
       .ret)))))
def C211 : CFn := ⟨84, 4, [.t 8], B211⟩

def L212_0 : CCode :=
  (.seq
   (.seq
    (.reg true [
      (0, ⟨some 30, .mv (.t 10), none, [], []⟩),
      (1, ⟨some 31, .mv (.t 11), none, [], []⟩),
      (2, ⟨some 32, .bin .leq (.t 30) (.t 31), none, [], [30, 31]⟩),
      (3, ⟨some 33, .mv (.t 32), none, [], [32]⟩),
      (4, ⟨some 34, .mv (.t 0), some (33, true), [], []⟩),
      (5, ⟨some 35, .mv (.t 10), some (33, true), [], []⟩),
      (6, ⟨some 36, .ia 1 (.t 34) (.t 35), some (33, true), [], []⟩),
      (7, ⟨some 37, .ld 1 false (.t 36), some (33, true), [], [34, 35, 36]⟩),
      (8, ⟨some 38, .mv (.t 0), some (33, true), [], []⟩),
      (9, ⟨some 39, .mv (.t 1), some (33, true), [], []⟩),
      (10, ⟨some 40, .ia 1 (.t 38) (.t 39), some (33, true), [], []⟩),
      (11, ⟨some 41, .ld 1 false (.t 40), some (33, true), [], [38, 39, 40]⟩),
      (12, ⟨some 42, .call 210 [(.t 37), (.t 41)], some (33, true), [], [37, 41]⟩),
      (13, ⟨some 43, .pick (.t 33) (.t 42) (.c (.bool false)), none, [], [33, 42]⟩)])
    (.cond (.t 43)
     (.seq
      (.kill [43])
      .skip)
     (.seq
      (.kill [43])
      (.exit 0))))
   (.block 1
    (.reg false [
      (0, ⟨some 44, .mv (.t 10), none, [], [10]⟩),
      (1, ⟨some 45, .bin .add (.t 44) (.c (.int .i64 (1))), none, [], [44]⟩),
      (2, ⟨some 10, .mv (.t 45), none, [], [45]⟩)])))
def L212_1 : CCode :=
  (.seq
   (.seq
    (.reg true [
      (0, ⟨some 46, .mv (.t 10), none, [], []⟩),
      (1, ⟨some 47, .mv (.t 11), none, [], []⟩),
      (2, ⟨some 48, .bin .leq (.t 46) (.t 47), none, [], [46, 47]⟩),
      (3, ⟨some 49, .mv (.t 48), none, [], [48]⟩),
      (4, ⟨some 50, .mv (.t 0), some (49, true), [], []⟩),
      (5, ⟨some 51, .mv (.t 11), some (49, true), [], []⟩),
      (6, ⟨some 52, .ia 1 (.t 50) (.t 51), some (49, true), [], []⟩),
      (7, ⟨some 53, .ld 1 false (.t 52), some (49, true), [], [50, 51, 52]⟩),
      (8, ⟨some 54, .mv (.t 0), some (49, true), [], []⟩),
      (9, ⟨some 55, .mv (.t 1), some (49, true), [], []⟩),
      (10, ⟨some 56, .ia 1 (.t 54) (.t 55), some (49, true), [], []⟩),
      (11, ⟨some 57, .ld 1 false (.t 56), some (49, true), [], [54, 55, 56]⟩),
      (12, ⟨some 58, .call 210 [(.t 53), (.t 57)], some (49, true), [], [53, 57]⟩),
      (13, ⟨some 59, .not (.t 58), some (49, true), [], [58]⟩),
      (14, ⟨some 60, .pick (.t 49) (.t 59) (.c (.bool false)), none, [], [49, 59]⟩)])
    (.cond (.t 60)
     (.seq
      (.kill [60])
      .skip)
     (.seq
      (.kill [60])
      (.exit 2))))
   (.block 3
    (.reg false [
      (0, ⟨some 61, .mv (.t 11), none, [], [11]⟩),
      (1, ⟨some 62, .bin .sub (.t 61) (.c (.int .i64 (1))), none, [], [61]⟩),
      (2, ⟨some 11, .mv (.t 62), none, [], [62]⟩)])))
def L212_3 : CCode :=
  (.seq
   (.seq
    (.reg true [
      (0, ⟨some 99, .mv (.t 10), none, [], []⟩),
      (1, ⟨some 100, .mv (.t 11), none, [], []⟩),
      (2, ⟨some 101, .bin .leq (.t 99) (.t 100), none, [], [99, 100]⟩),
      (3, ⟨some 102, .mv (.t 101), none, [], [101]⟩),
      (4, ⟨some 103, .mv (.t 0), some (102, true), [], []⟩),
      (5, ⟨some 104, .mv (.t 10), some (102, true), [], []⟩),
      (6, ⟨some 105, .ia 1 (.t 103) (.t 104), some (102, true), [], []⟩),
      (7, ⟨some 106, .ld 1 false (.t 105), some (102, true), [], [103, 104, 105]⟩),
      (8, ⟨some 107, .mv (.t 0), some (102, true), [], []⟩),
      (9, ⟨some 108, .mv (.t 1), some (102, true), [], []⟩),
      (10, ⟨some 109, .ia 1 (.t 107) (.t 108), some (102, true), [], []⟩),
      (11, ⟨some 110, .ld 1 false (.t 109), some (102, true), [], [107, 108, 109]⟩),
      (12, ⟨some 111, .call 210 [(.t 106), (.t 110)], some (102, true), [], [106, 110]⟩),
      (13, ⟨some 112, .pick (.t 102) (.t 111) (.c (.bool false)), none, [], [102, 111]⟩)])
    (.cond (.t 112)
     (.seq
      (.kill [112])
      .skip)
     (.seq
      (.kill [112])
      (.exit 6))))
   (.block 7
    (.reg false [
      (0, ⟨some 113, .mv (.t 10), none, [], [10]⟩),
      (1, ⟨some 114, .bin .add (.t 113) (.c (.int .i64 (1))), none, [], [113]⟩),
      (2, ⟨some 10, .mv (.t 114), none, [], [114]⟩)])))
def L212_4 : CCode :=
  (.seq
   (.seq
    (.reg true [
      (0, ⟨some 115, .mv (.t 10), none, [], []⟩),
      (1, ⟨some 116, .mv (.t 11), none, [], []⟩),
      (2, ⟨some 117, .bin .leq (.t 115) (.t 116), none, [], [115, 116]⟩),
      (3, ⟨some 118, .mv (.t 117), none, [], [117]⟩),
      (4, ⟨some 119, .mv (.t 0), some (118, true), [], []⟩),
      (5, ⟨some 120, .mv (.t 11), some (118, true), [], []⟩),
      (6, ⟨some 121, .ia 1 (.t 119) (.t 120), some (118, true), [], []⟩),
      (7, ⟨some 122, .ld 1 false (.t 121), some (118, true), [], [119, 120, 121]⟩),
      (8, ⟨some 123, .mv (.t 0), some (118, true), [], []⟩),
      (9, ⟨some 124, .mv (.t 1), some (118, true), [], []⟩),
      (10, ⟨some 125, .ia 1 (.t 123) (.t 124), some (118, true), [], []⟩),
      (11, ⟨some 126, .ld 1 false (.t 125), some (118, true), [], [123, 124, 125]⟩),
      (12, ⟨some 127, .call 210 [(.t 122), (.t 126)], some (118, true), [], [122, 126]⟩),
      (13, ⟨some 128, .not (.t 127), some (118, true), [], [127]⟩),
      (14, ⟨some 129, .pick (.t 118) (.t 128) (.c (.bool false)), none, [], [118, 128]⟩)])
    (.cond (.t 129)
     (.seq
      (.kill [129])
      .skip)
     (.seq
      (.kill [129])
      (.exit 8))))
   (.block 9
    (.reg false [
      (0, ⟨some 130, .mv (.t 11), none, [], [11]⟩),
      (1, ⟨some 131, .bin .sub (.t 130) (.c (.int .i64 (1))), none, [], [130]⟩),
      (2, ⟨some 11, .mv (.t 131), none, [], [131]⟩)])))
def L212_2 : CCode :=
  (.block 5
   (.seq
    (.block 6
     (.loop L212_3))
    (.seq
     (.block 8
      (.loop L212_4))
     (.seq
      (.seq
       (.reg false [
         (0, ⟨some 132, .mv (.t 10), none, [], []⟩),
         (1, ⟨some 133, .mv (.t 11), none, [], []⟩),
         (2, ⟨some 134, .bin .gtr (.t 132) (.t 133), none, [], [132, 133]⟩)])
       (.cond (.t 134)
        (.seq
         (.kill [10, 134])
         (.exit 4))
        (.seq
         (.kill [134])
         .skip)))
      (.seq
       (.reg true [
         (0, ⟨some 135, .mv (.t 0), none, [], []⟩),
         (1, ⟨some 136, .mv (.t 10), none, [], []⟩),
         (2, ⟨some 137, .mv (.t 0), none, [], []⟩),
         (3, ⟨some 138, .mv (.t 11), none, [], []⟩),
         (4, ⟨some 139, .mv (.t 0), none, [], []⟩),
         (5, ⟨some 140, .mv (.t 11), none, [], []⟩),
         (6, ⟨some 141, .ia 1 (.t 139) (.t 140), none, [], []⟩),
         (7, ⟨some 142, .ld 1 false (.t 141), none, [], [139, 140, 141]⟩),
         (8, ⟨some 143, .mv (.t 0), none, [], []⟩),
         (9, ⟨some 144, .mv (.t 10), none, [], []⟩),
         (10, ⟨some 145, .ia 1 (.t 143) (.t 144), none, [], []⟩),
         (11, ⟨some 146, .ld 1 false (.t 145), none, [], [143, 144, 145]⟩),
         (12, ⟨some 147, .ia 1 (.t 135) (.t 136), none, [], []⟩),
         (13, ⟨none, .st 1 (.t 147) (.t 142), none, [], [135, 136, 142, 147]⟩),
         (14, ⟨some 148, .ia 1 (.t 137) (.t 138), none, [], []⟩),
         (15, ⟨none, .st 1 (.t 148) (.t 146), none, [], [137, 138, 146, 148]⟩)])
       (.seq
        (.reg false [
          (0, ⟨some 149, .mv (.t 10), none, [], [10]⟩),
          (1, ⟨some 150, .bin .add (.t 149) (.c (.int .i64 (1))), none, [], [149]⟩),
          (2, ⟨some 10, .mv (.t 150), none, [], [150]⟩)])
        (.reg false [
          (0, ⟨some 151, .mv (.t 11), none, [], [11]⟩),
          (1, ⟨some 152, .bin .sub (.t 151) (.c (.int .i64 (1))), none, [], [151]⟩),
          (2, ⟨some 11, .mv (.t 152), none, [], [152]⟩)])))))))
def B212 : CCode :=
  (.seq
   (.reg false [
     (0, ⟨some 8, .mv (.c (.int .i64 (0))), none, [], [8]⟩),
     (1, ⟨some 9, .mv (.c (.bool false)), none, [], [9]⟩)])
   (.seq
    (.reg true [
      (0, ⟨some 12, .mv (.t 0), none, [], []⟩),
      (1, ⟨some 13, .mv (.t 1), none, [], []⟩),
      (2, ⟨some 14, .mv (.t 0), none, [], []⟩),
      (3, ⟨some 15, .mv (.t 3), none, [], []⟩),
      (4, ⟨some 16, .mv (.t 0), none, [], []⟩),
      (5, ⟨some 17, .mv (.t 3), none, [], [3]⟩),
      (6, ⟨some 18, .ia 1 (.t 16) (.t 17), none, [], []⟩),
      (7, ⟨some 19, .ld 1 false (.t 18), none, [], [16, 17, 18]⟩),
      (8, ⟨some 20, .mv (.t 0), none, [], []⟩),
      (9, ⟨some 21, .mv (.t 1), none, [], []⟩),
      (10, ⟨some 22, .ia 1 (.t 20) (.t 21), none, [], []⟩),
      (11, ⟨some 23, .ld 1 false (.t 22), none, [], [20, 21, 22]⟩),
      (12, ⟨some 24, .ia 1 (.t 12) (.t 13), none, [], []⟩),
      (13, ⟨none, .st 1 (.t 24) (.t 19), none, [], [12, 13, 19, 24]⟩),
      (14, ⟨some 25, .ia 1 (.t 14) (.t 15), none, [], []⟩),
      (15, ⟨none, .st 1 (.t 25) (.t 23), none, [], [14, 15, 23, 25]⟩)])
    (.seq
     (.reg false [
       (0, ⟨some 26, .mv (.t 1), none, [], []⟩),
       (1, ⟨some 27, .bin .add (.t 26) (.c (.int .i64 (1))), none, [], [26]⟩),
       (2, ⟨some 28, .mv (.t 2), none, [], [2]⟩),
       (3, ⟨some 29, .bin .sub (.t 28) (.c (.int .i64 (1))), none, [], [28]⟩),
       (4, ⟨some 10, .mv (.t 27), none, [], [27]⟩),
       (5, ⟨some 11, .mv (.t 29), none, [], [29]⟩)])
     (.seq
      (.block 0
       (.loop L212_0))
      (.seq
       (.block 2
        (.loop L212_1))
       (.seq
        (.seq
         (.reg false [
           (0, ⟨some 63, .mv (.t 10), none, [], []⟩),
           (1, ⟨some 64, .mv (.t 11), none, [], []⟩),
           (2, ⟨some 65, .bin .gtr (.t 63) (.t 64), none, [], [63, 64]⟩)])
         (.cond (.t 65)
          (.seq
           (.kill [10, 65])
           (.seq
            (.reg true [
              (0, ⟨some 66, .mv (.t 0), none, [], []⟩),
              (1, ⟨some 67, .mv (.t 11), none, [], []⟩),
              (2, ⟨some 68, .mv (.t 0), none, [], []⟩),
              (3, ⟨some 69, .mv (.t 1), none, [], []⟩),
              (4, ⟨some 70, .mv (.t 0), none, [], []⟩),
              (5, ⟨some 71, .mv (.t 1), none, [], [1]⟩),
              (6, ⟨some 72, .ia 1 (.t 70) (.t 71), none, [], []⟩),
              (7, ⟨some 73, .ld 1 false (.t 72), none, [], [70, 71, 72]⟩),
              (8, ⟨some 74, .mv (.t 0), none, [], []⟩),
              (9, ⟨some 75, .mv (.t 11), none, [], []⟩),
              (10, ⟨some 76, .ia 1 (.t 74) (.t 75), none, [], []⟩),
              (11, ⟨some 77, .ld 1 false (.t 76), none, [], [74, 75, 76]⟩),
              (12, ⟨some 78, .ia 1 (.t 66) (.t 67), none, [], []⟩),
              (13, ⟨none, .st 1 (.t 78) (.t 73), none, [], [66, 67, 73, 78]⟩),
              (14, ⟨some 79, .ia 1 (.t 68) (.t 69), none, [], []⟩),
              (15, ⟨none, .st 1 (.t 79) (.t 77), none, [], [68, 69, 77, 79]⟩)])
            (.seq
             (.reg false [
               (0, ⟨some 80, .mv (.t 11), none, [], [11]⟩),
               (1, ⟨some 8, .mv (.t 80), none, [], [80]⟩),
               (2, ⟨some 9, .mv (.c (.bool true)), none, [], []⟩)])
             .ret)))
          (.seq
           (.kill [65])
           .skip)))
        (.seq
         (.reg true [
           (0, ⟨some 81, .mv (.t 0), none, [], []⟩),
           (1, ⟨some 82, .mv (.t 10), none, [], []⟩),
           (2, ⟨some 83, .mv (.t 0), none, [], []⟩),
           (3, ⟨some 84, .mv (.t 11), none, [], []⟩),
           (4, ⟨some 85, .mv (.t 0), none, [], []⟩),
           (5, ⟨some 86, .mv (.t 11), none, [], []⟩),
           (6, ⟨some 87, .ia 1 (.t 85) (.t 86), none, [], []⟩),
           (7, ⟨some 88, .ld 1 false (.t 87), none, [], [85, 86, 87]⟩),
           (8, ⟨some 89, .mv (.t 0), none, [], []⟩),
           (9, ⟨some 90, .mv (.t 10), none, [], []⟩),
           (10, ⟨some 91, .ia 1 (.t 89) (.t 90), none, [], []⟩),
           (11, ⟨some 92, .ld 1 false (.t 91), none, [], [89, 90, 91]⟩),
           (12, ⟨some 93, .ia 1 (.t 81) (.t 82), none, [], []⟩),
           (13, ⟨none, .st 1 (.t 93) (.t 88), none, [], [81, 82, 88, 93]⟩),
           (14, ⟨some 94, .ia 1 (.t 83) (.t 84), none, [], []⟩),
           (15, ⟨none, .st 1 (.t 94) (.t 92), none, [], [83, 84, 92, 94]⟩)])
         (.seq
          (.reg false [
            (0, ⟨some 95, .mv (.t 10), none, [], [10]⟩),
            (1, ⟨some 96, .bin .add (.t 95) (.c (.int .i64 (1))), none, [], [95]⟩),
            (2, ⟨some 10, .mv (.t 96), none, [], [96]⟩)])
          (.seq
           (.reg false [
             (0, ⟨some 97, .mv (.t 11), none, [], [11]⟩),
             (1, ⟨some 98, .bin .sub (.t 97) (.c (.int .i64 (1))), none, [], [97]⟩),
             (2, ⟨some 11, .mv (.t 98), none, [], [98]⟩)])
           (.seq
            (.block 4
             (.loop L212_2))
            (.seq
             (.reg true [
               (0, ⟨some 153, .mv (.t 0), none, [], []⟩),
               (1, ⟨some 154, .mv (.t 11), none, [], []⟩),
               (2, ⟨some 155, .mv (.t 0), none, [], []⟩),
               (3, ⟨some 156, .mv (.t 1), none, [], []⟩),
               (4, ⟨some 157, .mv (.t 0), none, [], []⟩),
               (5, ⟨some 158, .mv (.t 1), none, [], [1]⟩),
               (6, ⟨some 159, .ia 1 (.t 157) (.t 158), none, [], []⟩),
               (7, ⟨some 160, .ld 1 false (.t 159), none, [], [157, 158, 159]⟩),
               (8, ⟨some 161, .mv (.t 0), none, [], []⟩),
               (9, ⟨some 162, .mv (.t 11), none, [], []⟩),
               (10, ⟨some 163, .ia 1 (.t 161) (.t 162), none, [], []⟩),
               (11, ⟨some 164, .ld 1 false (.t 163), none, [], [161, 162, 163]⟩),
               (12, ⟨some 165, .ia 1 (.t 153) (.t 154), none, [], []⟩),
               (13, ⟨none, .st 1 (.t 165) (.t 160), none, [], [153, 154, 160, 165]⟩),
               (14, ⟨some 166, .ia 1 (.t 155) (.t 156), none, [], []⟩),
               (15, ⟨none, .st 1 (.t 166) (.t 164), none, [], [155, 156, 164, 166]⟩)])
             (.seq
              (.reg false [
                (0, ⟨some 167, .mv (.t 11), none, [], [11]⟩),
                (1, ⟨some 8, .mv (.t 167), none, [], [167]⟩),
                (2, ⟨some 9, .mv (.c (.bool false)), none, [], []⟩)])
              .ret))))))))))))
def C212 : CFn := ⟨168, 4, [.t 8, .t 9], B212⟩

def B214 : CCode :=
  (.seq
   (.reg false [
     (0, ⟨some 2, .mv (.c (.int .i64 (0))), none, [], []⟩)])
   (.seq
    (.seq
     (.reg false [
       (0, ⟨some 3, .mv (.t 0), none, [], []⟩),
       (1, ⟨some 4, .bin .geq (.t 3) (.c (.int .u64 (4294967296))), none, [], [3]⟩)])
     (.cond (.t 4)
      (.seq
       (.kill [2, 4])
       (.seq
        (.reg false [
          (0, ⟨some 5, .mv (.t 0), none, [], [0]⟩),
          (1, ⟨some 6, .bin .shr (.t 5) (.c (.int .u64 (32))), none, [], [5]⟩),
          (2, ⟨some 0, .mv (.t 6), none, [], [6]⟩)])
        (.reg false [
          (0, ⟨some 2, .mv (.c (.int .i64 (32))), none, [], []⟩)])))
      (.seq
       (.kill [4])
       .skip)))
    (.seq
     (.seq
      (.reg false [
        (0, ⟨some 7, .mv (.t 0), none, [], []⟩),
        (1, ⟨some 8, .bin .geq (.t 7) (.c (.int .u64 (65536))), none, [], [7]⟩)])
      (.cond (.t 8)
       (.seq
        (.kill [8])
        (.seq
         (.reg false [
           (0, ⟨some 9, .mv (.t 0), none, [], [0]⟩),
           (1, ⟨some 10, .bin .shr (.t 9) (.c (.int .u64 (16))), none, [], [9]⟩),
           (2, ⟨some 0, .mv (.t 10), none, [], [10]⟩)])
         (.reg false [
           (0, ⟨some 11, .mv (.t 2), none, [], [2]⟩),
           (1, ⟨some 12, .bin .add (.t 11) (.c (.int .i64 (16))), none, [], [11]⟩),
           (2, ⟨some 2, .mv (.t 12), none, [], [12]⟩)])))
       (.seq
        (.kill [8])
        .skip)))
     (.seq
      (.seq
       (.reg false [
         (0, ⟨some 13, .mv (.t 0), none, [], []⟩),
         (1, ⟨some 14, .bin .geq (.t 13) (.c (.int .u64 (256))), none, [], [13]⟩)])
       (.cond (.t 14)
        (.seq
         (.kill [14])
         (.seq
          (.reg false [
            (0, ⟨some 15, .mv (.t 0), none, [], [0]⟩),
            (1, ⟨some 16, .bin .shr (.t 15) (.c (.int .u64 (8))), none, [], [15]⟩),
            (2, ⟨some 0, .mv (.t 16), none, [], [16]⟩)])
          (.reg false [
            (0, ⟨some 17, .mv (.t 2), none, [], [2]⟩),
            (1, ⟨some 18, .bin .add (.t 17) (.c (.int .i64 (8))), none, [], [17]⟩),
            (2, ⟨some 2, .mv (.t 18), none, [], [18]⟩)])))
        (.seq
         (.kill [14])
         .skip)))
      (.seq
       (.reg false [
         (0, ⟨some 19, .mv (.t 2), none, [], [2]⟩),
         (1, ⟨some 20, .mv (.t 0), none, [], [0]⟩),
         (2, ⟨some 21, .conv .u8 (.t 20), none, [], [20]⟩),
         (3, ⟨some 22, .ix (.c (.str [0, 1, 2, 2, 3, 3, 3, 3, 4, 4, 4, 4, 4, 4, 4, 4, 5, 5, 5, 5, 5, 5, 5, 5, 5, 5, 5, 5, 5, 5, 5, 5, 6, 6, 6, 6, 6, 6, 6, 6, 6, 6, 6, 6, 6, 6, 6, 6, 6, 6, 6, 6, 6, 6, 6, 6, 6, 6, 6, 6, 6, 6, 6, 6, 7, 7, 7, 7, 7, 7, 7, 7, 7, 7, 7, 7, 7, 7, 7, 7, 7, 7, 7, 7, 7, 7, 7, 7, 7, 7, 7, 7, 7, 7, 7, 7, 7, 7, 7, 7, 7, 7, 7, 7, 7, 7, 7, 7, 7, 7, 7, 7, 7, 7, 7, 7, 7, 7, 7, 7, 7, 7, 7, 7, 7, 7, 7, 7, 8, 8, 8, 8, 8, 8, 8, 8, 8, 8, 8, 8, 8, 8, 8, 8, 8, 8, 8, 8, 8, 8, 8, 8, 8, 8, 8, 8, 8, 8, 8, 8, 8, 8, 8, 8, 8, 8, 8, 8, 8, 8, 8, 8, 8, 8, 8, 8, 8, 8, 8, 8, 8, 8, 8, 8, 8, 8, 8, 8, 8, 8, 8, 8, 8, 8, 8, 8, 8, 8, 8, 8, 8, 8, 8, 8, 8, 8, 8, 8, 8, 8, 8, 8, 8, 8, 8, 8, 8, 8, 8, 8, 8, 8, 8, 8, 8, 8, 8, 8, 8, 8, 8, 8, 8, 8, 8, 8, 8, 8, 8, 8, 8, 8, 8, 8, 8, 8, 8, 8, 8, 8, 8, 8, 8, 8, 8, 8])) (.t 21), none, [], [21]⟩),
         (4, ⟨some 23, .conv .i64 (.t 22), none, [], [22]⟩),
         (5, ⟨some 24, .bin .add (.t 19) (.t 23), none, [], [19, 23]⟩),
         (6, ⟨some 2, .mv (.t 24), none, [], [24]⟩)])
       .ret)))))
def C214 : CFn := ⟨25, 1, [.t 2], B214⟩

def L215_0 : CCode :=
  (.block 1
   (.seq
    (.reg false [
      (0, ⟨some 11, .mv (.t 8), none, [], []⟩),
      (1, ⟨some 12, .bin .mul (.c (.int .i64 (2))) (.t 11), none, [], [11]⟩),
      (2, ⟨some 13, .bin .add (.t 12) (.c (.int .i64 (1))), none, [], [12]⟩),
      (3, ⟨some 9, .mv (.t 13), none, [], [13]⟩)])
    (.seq
     (.seq
      (.reg false [
        (0, ⟨some 14, .mv (.t 9), none, [], []⟩),
        (1, ⟨some 15, .mv (.t 2), none, [], []⟩),
        (2, ⟨some 16, .bin .geq (.t 14) (.t 15), none, [], [14, 15]⟩)])
      (.cond (.t 16)
       (.seq
        (.kill [2, 3, 8, 9, 16])
        (.exit 0))
       (.seq
        (.kill [16])
        .skip)))
     (.seq
      (.seq
       (.reg true [
         (0, ⟨some 17, .mv (.t 9), none, [], []⟩),
         (1, ⟨some 18, .bin .add (.t 17) (.c (.int .i64 (1))), none, [], [17]⟩),
         (2, ⟨some 19, .mv (.t 2), none, [], []⟩),
         (3, ⟨some 20, .bin .lss (.t 18) (.t 19), none, [], [18, 19]⟩),
         (4, ⟨some 21, .mv (.t 20), none, [], [20]⟩),
         (5, ⟨some 22, .mv (.t 0), some (21, true), [], []⟩),
         (6, ⟨some 23, .mv (.t 3), some (21, true), [], []⟩),
         (7, ⟨some 24, .mv (.t 9), some (21, true), [], []⟩),
         (8, ⟨some 25, .bin .add (.t 23) (.t 24), some (21, true), [], [23, 24]⟩),
         (9, ⟨some 26, .ia 1 (.t 22) (.t 25), some (21, true), [], []⟩),
         (10, ⟨some 27, .ld 1 false (.t 26), some (21, true), [], [22, 25, 26]⟩),
         (11, ⟨some 28, .mv (.t 0), some (21, true), [], []⟩),
         (12, ⟨some 29, .mv (.t 3), some (21, true), [], []⟩),
         (13, ⟨some 30, .mv (.t 9), some (21, true), [], []⟩),
         (14, ⟨some 31, .bin .add (.t 29) (.t 30), some (21, true), [], [29, 30]⟩),
         (15, ⟨some 32, .bin .add (.t 31) (.c (.int .i64 (1))), some (21, true), [], [31]⟩),
         (16, ⟨some 33, .ia 1 (.t 28) (.t 32), some (21, true), [], []⟩),
         (17, ⟨some 34, .ld 1 false (.t 33), some (21, true), [], [28, 32, 33]⟩),
         (18, ⟨some 35, .call 210 [(.t 27), (.t 34)], some (21, true), [], [27, 34]⟩),
         (19, ⟨some 36, .pick (.t 21) (.t 35) (.c (.bool false)), none, [], [21, 35]⟩)])
       (.cond (.t 36)
        (.seq
         (.kill [36])
         (.reg false [
           (0, ⟨some 37, .mv (.t 9), none, [], [9]⟩),
           (1, ⟨some 38, .bin .add (.t 37) (.c (.int .i64 (1))), none, [], [37]⟩),
           (2, ⟨some 9, .mv (.t 38), none, [], [38]⟩)]))
        (.seq
         (.kill [36])
         .skip)))
      (.seq
       (.seq
        (.reg true [
          (0, ⟨some 39, .mv (.t 0), none, [], []⟩),
          (1, ⟨some 40, .mv (.t 3), none, [], []⟩),
          (2, ⟨some 41, .mv (.t 8), none, [], []⟩),
          (3, ⟨some 42, .bin .add (.t 40) (.t 41), none, [], [40, 41]⟩),
          (4, ⟨some 43, .ia 1 (.t 39) (.t 42), none, [], []⟩),
          (5, ⟨some 44, .ld 1 false (.t 43), none, [], [39, 42, 43]⟩),
          (6, ⟨some 45, .mv (.t 0), none, [], []⟩),
          (7, ⟨some 46, .mv (.t 3), none, [], []⟩),
          (8, ⟨some 47, .mv (.t 9), none, [], []⟩),
          (9, ⟨some 48, .bin .add (.t 46) (.t 47), none, [], [46, 47]⟩),
          (10, ⟨some 49, .ia 1 (.t 45) (.t 48), none, [], []⟩),
          (11, ⟨some 50, .ld 1 false (.t 49), none, [], [45, 48, 49]⟩),
          (12, ⟨some 51, .call 210 [(.t 44), (.t 50)], none, [], [44, 50]⟩),
          (13, ⟨some 52, .not (.t 51), none, [], [51]⟩)])
        (.cond (.t 52)
         (.seq
          (.kill [2, 3, 8, 9, 52])
          .ret)
         (.seq
          (.kill [52])
          .skip)))
       (.seq
        (.reg true [
          (0, ⟨some 53, .mv (.t 0), none, [], []⟩),
          (1, ⟨some 54, .mv (.t 3), none, [], []⟩),
          (2, ⟨some 55, .mv (.t 8), none, [], []⟩),
          (3, ⟨some 56, .bin .add (.t 54) (.t 55), none, [], [54, 55]⟩),
          (4, ⟨some 57, .mv (.t 0), none, [], []⟩),
          (5, ⟨some 58, .mv (.t 3), none, [], []⟩),
          (6, ⟨some 59, .mv (.t 9), none, [], []⟩),
          (7, ⟨some 60, .bin .add (.t 58) (.t 59), none, [], [58, 59]⟩),
          (8, ⟨some 61, .mv (.t 0), none, [], []⟩),
          (9, ⟨some 62, .mv (.t 3), none, [], []⟩),
          (10, ⟨some 63, .mv (.t 9), none, [], []⟩),
          (11, ⟨some 64, .bin .add (.t 62) (.t 63), none, [], [62, 63]⟩),
          (12, ⟨some 65, .ia 1 (.t 61) (.t 64), none, [], []⟩),
          (13, ⟨some 66, .ld 1 false (.t 65), none, [], [61, 64, 65]⟩),
          (14, ⟨some 67, .mv (.t 0), none, [], []⟩),
          (15, ⟨some 68, .mv (.t 3), none, [], []⟩),
          (16, ⟨some 69, .mv (.t 8), none, [], [8]⟩),
          (17, ⟨some 70, .bin .add (.t 68) (.t 69), none, [], [68, 69]⟩),
          (18, ⟨some 71, .ia 1 (.t 67) (.t 70), none, [], []⟩),
          (19, ⟨some 72, .ld 1 false (.t 71), none, [], [67, 70, 71]⟩),
          (20, ⟨some 73, .ia 1 (.t 53) (.t 56), none, [], []⟩),
          (21, ⟨none, .st 1 (.t 73) (.t 66), none, [], [53, 56, 66, 73]⟩),
          (22, ⟨some 74, .ia 1 (.t 57) (.t 60), none, [], []⟩),
          (23, ⟨none, .st 1 (.t 74) (.t 72), none, [], [57, 60, 72, 74]⟩)])
        (.reg false [
          (0, ⟨some 75, .mv (.t 9), none, [], [9]⟩),
          (1, ⟨some 8, .mv (.t 75), none, [], [75]⟩)])))))))
def B215 : CCode :=
  (.seq
   (.reg false [
     (0, ⟨some 10, .mv (.t 1), none, [], [1]⟩),
     (1, ⟨some 8, .mv (.t 10), none, [], [10]⟩)])
   (.block 0
    (.loop L215_0)))
def C215 : CFn := ⟨76, 4, [], B215⟩

def B216 : CCode :=
  (.seq
   (.reg false [
     (0, ⟨some 2, .mv (.c (.int .u64 (0))), none, [], [2]⟩)])
   (.seq
    (.reg false [
      (0, ⟨some 3, .mv (.t 0), none, [], [0]⟩),
      (1, ⟨some 4, .conv .u64 (.t 3), none, [], [3]⟩),
      (2, ⟨some 5, .call 200 [(.t 4)], none, [], [4]⟩),
      (3, ⟨some 6, .bin .shl (.c (.int .u64 (1))) (.t 5), none, [], [5]⟩),
      (4, ⟨some 2, .mv (.t 6), none, [], [6]⟩)])
    .ret))
def C216 : CFn := ⟨7, 1, [.t 2], B216⟩

def B217 : CCode :=
  (.seq
   (.reg false [
     (0, ⟨some 2, .mv (.c (.int .u64 (0))), none, [], [2]⟩)])
   (.seq
    (.reg true [
      (0, ⟨some 3, .mv (.t 0), none, [], []⟩),
      (1, ⟨some 4, .nc (.t 3), none, [], []⟩),
      (2, ⟨some 5, .ld 1 false (.t 4), none, [], [4]⟩),
      (3, ⟨some 6, .mv (.t 0), none, [], []⟩),
      (4, ⟨some 7, .nc (.t 6), none, [], []⟩),
      (5, ⟨some 8, .ld 1 false (.t 7), none, [], [6, 7]⟩),
      (6, ⟨some 9, .bin .shl (.t 8) (.c (.int .u64 (13))), none, [], [8]⟩),
      (7, ⟨some 10, .bin .xor (.t 5) (.t 9), none, [], [5, 9]⟩),
      (8, ⟨some 11, .nc (.t 3), none, [], []⟩),
      (9, ⟨none, .st 1 (.t 11) (.t 10), none, [], [3, 10, 11]⟩)])
    (.seq
     (.reg true [
       (0, ⟨some 12, .mv (.t 0), none, [], []⟩),
       (1, ⟨some 13, .nc (.t 12), none, [], []⟩),
       (2, ⟨some 14, .ld 1 false (.t 13), none, [], [13]⟩),
       (3, ⟨some 15, .mv (.t 0), none, [], []⟩),
       (4, ⟨some 16, .nc (.t 15), none, [], []⟩),
       (5, ⟨some 17, .ld 1 false (.t 16), none, [], [15, 16]⟩),
       (6, ⟨some 18, .bin .shr (.t 17) (.c (.int .u64 (7))), none, [], [17]⟩),
       (7, ⟨some 19, .bin .xor (.t 14) (.t 18), none, [], [14, 18]⟩),
       (8, ⟨some 20, .nc (.t 12), none, [], []⟩),
       (9, ⟨none, .st 1 (.t 20) (.t 19), none, [], [12, 19, 20]⟩)])
     (.seq
      (.reg true [
        (0, ⟨some 21, .mv (.t 0), none, [], []⟩),
        (1, ⟨some 22, .nc (.t 21), none, [], []⟩),
        (2, ⟨some 23, .ld 1 false (.t 22), none, [], [22]⟩),
        (3, ⟨some 24, .mv (.t 0), none, [], []⟩),
        (4, ⟨some 25, .nc (.t 24), none, [], []⟩),
        (5, ⟨some 26, .ld 1 false (.t 25), none, [], [24, 25]⟩),
        (6, ⟨some 27, .bin .shl (.t 26) (.c (.int .u64 (17))), none, [], [26]⟩),
        (7, ⟨some 28, .bin .xor (.t 23) (.t 27), none, [], [23, 27]⟩),
        (8, ⟨some 29, .nc (.t 21), none, [], []⟩),
        (9, ⟨none, .st 1 (.t 29) (.t 28), none, [], [21, 28, 29]⟩)])
      (.seq
       (.reg false [
         (0, ⟨some 30, .mv (.t 0), none, [], []⟩),
         (1, ⟨some 31, .nc (.t 30), none, [], []⟩),
         (2, ⟨some 32, .ld 1 false (.t 31), none, [], [30, 31]⟩),
         (3, ⟨some 2, .mv (.t 32), none, [], [32]⟩)])
       .ret)))))
def C217 : CFn := ⟨33, 1, [.t 2], B217⟩

def B218 : CCode :=
  (.seq
   (.reg false [
     (0, ⟨some 6, .mv (.c (.int .i64 (0))), none, [], [6]⟩)])
   (.seq
    (.reg false [
      (0, ⟨some 7, .mv (.t 0), none, [], [0]⟩),
      (1, ⟨some 8, .mv (.t 1), none, [], []⟩),
      (2, ⟨some 9, .bin .sub (.t 8) (.c (.int .i64 (1))), none, [], [8]⟩),
      (3, ⟨some 10, .mv (.t 1), none, [], []⟩),
      (4, ⟨some 11, .mv (.t 1), none, [], [1]⟩),
      (5, ⟨some 12, .bin .add (.t 11) (.c (.int .i64 (1))), none, [], [11]⟩),
      (6, ⟨some 13, .mv (.t 2), none, [], []⟩),
      (7, ⟨some 14, .call 219 [(.t 7), (.t 9), (.t 10), (.t 12), (.t 13)], none, [], [7, 9, 10, 12, 13]⟩),
      (8, ⟨some 6, .mv (.t 14), none, [], [14]⟩)])
    .ret))
def C218 : CFn := ⟨15, 3, [.t 6], B218⟩

def B219 : CCode :=
  (.seq
   (.reg false [
     (0, ⟨some 10, .mv (.c (.int .i64 (0))), none, [], [10]⟩)])
   (.seq
    (.reg false [
      (0, ⟨some 12, .mv (.t 0), none, [], []⟩),
      (1, ⟨some 13, .mv (.t 1), none, [], [1]⟩),
      (2, ⟨some 14, .mv (.t 2), none, [], [2]⟩),
      (3, ⟨some 15, .mv (.t 4), none, [], []⟩),
      (4, ⟨some 16, .call 220 [(.t 12), (.t 13), (.t 14), (.t 15)], none, [], [12, 13, 14, 15]⟩),
      (5, ⟨some 11, .mv (.t 16), none, [], [16]⟩),
      (6, ⟨some 17, .ex (.t 11) 0, none, [], []⟩),
      (7, ⟨some 18, .ex (.t 11) 1, none, [], [11]⟩),
      (8, ⟨some 1, .mv (.t 17), none, [], [17]⟩),
      (9, ⟨some 2, .mv (.t 18), none, [], [18]⟩)])
    (.seq
     (.reg false [
       (0, ⟨some 20, .mv (.t 0), none, [], []⟩),
       (1, ⟨some 21, .mv (.t 2), none, [], [2]⟩),
       (2, ⟨some 22, .mv (.t 3), none, [], [3]⟩),
       (3, ⟨some 23, .mv (.t 4), none, [], []⟩),
       (4, ⟨some 24, .call 220 [(.t 20), (.t 21), (.t 22), (.t 23)], none, [], [20, 21, 22, 23]⟩),
       (5, ⟨some 19, .mv (.t 24), none, [], [24]⟩),
       (6, ⟨some 25, .ex (.t 19) 0, none, [], []⟩),
       (7, ⟨some 26, .ex (.t 19) 1, none, [], [19]⟩),
       (8, ⟨some 2, .mv (.t 25), none, [], [25]⟩),
       (9, ⟨some 3, .mv (.t 26), none, [], [3, 26]⟩)])
     (.seq
      (.reg false [
        (0, ⟨some 28, .mv (.t 0), none, [], [0]⟩),
        (1, ⟨some 29, .mv (.t 1), none, [], [1]⟩),
        (2, ⟨some 30, .mv (.t 2), none, [], [2]⟩),
        (3, ⟨some 31, .mv (.t 4), none, [], []⟩),
        (4, ⟨some 32, .call 220 [(.t 28), (.t 29), (.t 30), (.t 31)], none, [], [28, 29, 30, 31]⟩),
        (5, ⟨some 27, .mv (.t 32), none, [], [32]⟩),
        (6, ⟨some 33, .ex (.t 27) 0, none, [], []⟩),
        (7, ⟨some 34, .ex (.t 27) 1, none, [], [27]⟩),
        (8, ⟨some 1, .mv (.t 33), none, [], [1, 33]⟩),
        (9, ⟨some 2, .mv (.t 34), none, [], [34]⟩)])
      (.seq
       (.reg false [
         (0, ⟨some 35, .mv (.t 2), none, [], [2]⟩),
         (1, ⟨some 10, .mv (.t 35), none, [], [35]⟩)])
       .ret)))))
def C219 : CFn := ⟨36, 5, [.t 10], B219⟩

def B220 : CCode :=
  (.seq
   (.reg false [
     (0, ⟨some 8, .mv (.c (.int .i64 (0))), none, [], [8]⟩),
     (1, ⟨some 9, .mv (.c (.int .i64 (0))), none, [], [9]⟩)])
   (.seq
    (.seq
     (.reg true [
       (0, ⟨some 10, .mv (.t 0), none, [], []⟩),
       (1, ⟨some 11, .mv (.t 2), none, [], []⟩),
       (2, ⟨some 12, .ia 1 (.t 10) (.t 11), none, [], []⟩),
       (3, ⟨some 13, .ld 1 false (.t 12), none, [], [10, 11, 12]⟩),
       (4, ⟨some 14, .mv (.t 0), none, [], [0]⟩),
       (5, ⟨some 15, .mv (.t 1), none, [], []⟩),
       (6, ⟨some 16, .ia 1 (.t 14) (.t 15), none, [], []⟩),
       (7, ⟨some 17, .ld 1 false (.t 16), none, [], [14, 15, 16]⟩),
       (8, ⟨some 18, .call 210 [(.t 13), (.t 17)], none, [], [13, 17]⟩)])
     (.cond (.t 18)
      (.seq
       (.kill [18])
       (.seq
        (.reg false [
          (0, ⟨some 19, .mv (.t 3), none, [], []⟩),
          (1, ⟨some 20, .nc (.t 19), none, [], []⟩),
          (2, ⟨some 21, .ld 1 false (.t 20), none, [], [20]⟩),
          (3, ⟨some 22, .bin .add (.t 21) (.c (.int .i64 (1))), none, [], [21]⟩),
          (4, ⟨some 23, .nc (.t 19), none, [], []⟩),
          (5, ⟨none, .st 1 (.t 23) (.t 22), none, [], [19, 22, 23]⟩)])
        (.seq
         (.reg false [
           (0, ⟨some 24, .mv (.t 2), none, [], [2]⟩),
           (1, ⟨some 25, .mv (.t 1), none, [], [1]⟩),
           (2, ⟨some 8, .mv (.t 24), none, [], [24]⟩),
           (3, ⟨some 9, .mv (.t 25), none, [], [25]⟩)])
         .ret)))
      (.seq
       (.kill [18])
       .skip)))
    (.seq
     (.reg false [
       (0, ⟨some 26, .mv (.t 1), none, [], [1]⟩),
       (1, ⟨some 27, .mv (.t 2), none, [], [2]⟩),
       (2, ⟨some 8, .mv (.t 26), none, [], [26]⟩),
       (3, ⟨some 9, .mv (.t 27), none, [], [27]⟩)])
     .ret)))
def C220 : CFn := ⟨28, 4, [.t 8, .t 9], B220⟩

theorem chk8 : chkFn Go.Proofs.Try.prog 8 C8 = true := by kernel_rfl
theorem chk40 : chkFn Go.Proofs.Try.prog 40 C40 = true := by kernel_rfl
theorem chk42 : chkFn Go.Proofs.Try.prog 42 C42 = true := by kernel_rfl
theorem chk47 : chkFn Go.Proofs.Try.prog 47 C47 = true := by kernel_rfl
theorem chk48 : chkFn Go.Proofs.Try.prog 48 C48 = true := by kernel_rfl
theorem chk49 : chkFn Go.Proofs.Try.prog 49 C49 = true := by kernel_rfl
theorem chk50 : chkFn Go.Proofs.Try.prog 50 C50 = true := by kernel_rfl
theorem chk51 : chkFn Go.Proofs.Try.prog 51 C51 = true := by kernel_rfl
theorem chk52 : chkFn Go.Proofs.Try.prog 52 C52 = true := by kernel_rfl
theorem chk53 : chkFn Go.Proofs.Try.prog 53 C53 = true := by kernel_rfl
theorem chk54 : chkFn Go.Proofs.Try.prog 54 C54 = true := by kernel_rfl
theorem chk64 : chkFn Go.Proofs.Try.prog 64 C64 = true := by kernel_rfl
theorem chk71 : chkFn Go.Proofs.Try.prog 71 C71 = true := by kernel_rfl
theorem chk74 : chkFn Go.Proofs.Try.prog 74 C74 = true := by kernel_rfl
theorem chk87 : chkFn Go.Proofs.Try.prog 87 C87 = true := by kernel_rfl
theorem chk94 : chkFn Go.Proofs.Try.prog 94 C94 = true := by kernel_rfl
theorem chk98 : chkFn Go.Proofs.Try.prog 98 C98 = true := by kernel_rfl
theorem chk103 : chkFn Go.Proofs.Try.prog 103 C103 = true := by kernel_rfl
theorem chk105 : chkFn Go.Proofs.Try.prog 105 C105 = true := by kernel_rfl
theorem chk109 : chkFn Go.Proofs.Try.prog 109 C109 = true := by kernel_rfl
theorem chk110 : chkFn Go.Proofs.Try.prog 110 C110 = true := by kernel_rfl
theorem chk111 : chkFn Go.Proofs.Try.prog 111 C111 = true := by kernel_rfl
theorem chk112 : chkFn Go.Proofs.Try.prog 112 C112 = true := by kernel_rfl
theorem chk113 : chkFn Go.Proofs.Try.prog 113 C113 = true := by kernel_rfl
theorem chk114 : chkFn Go.Proofs.Try.prog 114 C114 = true := by kernel_rfl
theorem chk115 : chkFn Go.Proofs.Try.prog 115 C115 = true := by kernel_rfl
theorem chk116 : chkFn Go.Proofs.Try.prog 116 C116 = true := by kernel_rfl
theorem chk117 : chkFn Go.Proofs.Try.prog 117 C117 = true := by kernel_rfl
theorem chk118 : chkFn Go.Proofs.Try.prog 118 C118 = true := by kernel_rfl
theorem chk119 : chkFn Go.Proofs.Try.prog 119 C119 = true := by kernel_rfl
theorem chk120 : chkFn Go.Proofs.Try.prog 120 C120 = true := by kernel_rfl
theorem chk121 : chkFn Go.Proofs.Try.prog 121 C121 = true := by kernel_rfl
theorem chk122 : chkFn Go.Proofs.Try.prog 122 C122 = true := by kernel_rfl
theorem chk154 : chkFn Go.Proofs.Try.prog 154 C154 = true := by kernel_rfl
theorem chk158 : chkFn Go.Proofs.Try.prog 158 C158 = true := by kernel_rfl
theorem chk161 : chkFn Go.Proofs.Try.prog 161 C161 = true := by kernel_rfl
theorem chk162 : chkFn Go.Proofs.Try.prog 162 C162 = true := by kernel_rfl
theorem chk163 : chkFn Go.Proofs.Try.prog 163 C163 = true := by kernel_rfl
theorem chk164 : chkFn Go.Proofs.Try.prog 164 C164 = true := by kernel_rfl
theorem chk165 : chkFn Go.Proofs.Try.prog 165 C165 = true := by kernel_rfl
theorem chk166 : chkFn Go.Proofs.Try.prog 166 C166 = true := by kernel_rfl
theorem chk184 : chkFn Go.Proofs.Try.prog 184 C184 = true := by kernel_rfl
theorem chk185 : chkFn Go.Proofs.Try.prog 185 C185 = true := by kernel_rfl
theorem chk186 : chkFn Go.Proofs.Try.prog 186 C186 = true := by kernel_rfl
theorem chk198 : chkFn Go.Proofs.Try.prog 198 C198 = true := by kernel_rfl
theorem chk199 : chkFn Go.Proofs.Try.prog 199 C199 = true := by kernel_rfl
theorem chk200 : chkFn Go.Proofs.Try.prog 200 C200 = true := by kernel_rfl
theorem chk203 : chkFn Go.Proofs.Try.prog 203 C203 = true := by kernel_rfl
theorem chk204 : chkFn Go.Proofs.Try.prog 204 C204 = true := by kernel_rfl
theorem chk205 : chkFn Go.Proofs.Try.prog 205 C205 = true := by kernel_rfl
theorem chk206 : chkFn Go.Proofs.Try.prog 206 C206 = true := by kernel_rfl
theorem chk207 : chkFn Go.Proofs.Try.prog 207 C207 = true := by kernel_rfl
theorem chk208 : chkFn Go.Proofs.Try.prog 208 C208 = true := by kernel_rfl
theorem chk209 : chkFn Go.Proofs.Try.prog 209 C209 = true := by kernel_rfl
theorem chk210 : chkFn Go.Proofs.Try.prog 210 C210 = true := by kernel_rfl
theorem chk211 : chkFn Go.Proofs.Try.prog 211 C211 = true := by kernel_rfl
theorem chk212 : chkFn Go.Proofs.Try.prog 212 C212 = true := by kernel_rfl
theorem chk214 : chkFn Go.Proofs.Try.prog 214 C214 = true := by kernel_rfl
theorem chk215 : chkFn Go.Proofs.Try.prog 215 C215 = true := by kernel_rfl
theorem chk216 : chkFn Go.Proofs.Try.prog 216 C216 = true := by kernel_rfl
theorem chk217 : chkFn Go.Proofs.Try.prog 217 C217 = true := by kernel_rfl
theorem chk218 : chkFn Go.Proofs.Try.prog 218 C218 = true := by kernel_rfl
theorem chk219 : chkFn Go.Proofs.Try.prog 219 C219 = true := by kernel_rfl
theorem chk220 : chkFn Go.Proofs.Try.prog 220 C220 = true := by kernel_rfl
def Tab (f : Nat) : Option CFn :=
  match f with
  | 8 => some C8
  | 40 => some C40
  | 42 => some C42
  | 47 => some C47
  | 48 => some C48
  | 49 => some C49
  | 50 => some C50
  | 51 => some C51
  | 52 => some C52
  | 53 => some C53
  | 54 => some C54
  | 64 => some C64
  | 71 => some C71
  | 74 => some C74
  | 87 => some C87
  | 94 => some C94
  | 98 => some C98
  | 103 => some C103
  | 105 => some C105
  | 109 => some C109
  | 110 => some C110
  | 111 => some C111
  | 112 => some C112
  | 113 => some C113
  | 114 => some C114
  | 115 => some C115
  | 116 => some C116
  | 117 => some C117
  | 118 => some C118
  | 119 => some C119
  | 120 => some C120
  | 121 => some C121
  | 122 => some C122
  | 154 => some C154
  | 158 => some C158
  | 161 => some C161
  | 162 => some C162
  | 163 => some C163
  | 164 => some C164
  | 165 => some C165
  | 166 => some C166
  | 184 => some C184
  | 185 => some C185
  | 186 => some C186
  | 198 => some C198
  | 199 => some C199
  | 200 => some C200
  | 203 => some C203
  | 204 => some C204
  | 205 => some C205
  | 206 => some C206
  | 207 => some C207
  | 208 => some C208
  | 209 => some C209
  | 210 => some C210
  | 211 => some C211
  | 212 => some C212
  | 214 => some C214
  | 215 => some C215
  | 216 => some C216
  | 217 => some C217
  | 218 => some C218
  | 219 => some C219
  | 220 => some C220
  | _ => none
theorem tabOk : TabOk Go.Proofs.Try.prog Tab := by
  intro f cf h
  unfold Tab at h
  split at h <;> simp only [Option.some.injEq, reduceCtorEq] at h <;> subst h
  · exact chk8
  · exact chk40
  · exact chk42
  · exact chk47
  · exact chk48
  · exact chk49
  · exact chk50
  · exact chk51
  · exact chk52
  · exact chk53
  · exact chk54
  · exact chk64
  · exact chk71
  · exact chk74
  · exact chk87
  · exact chk94
  · exact chk98
  · exact chk103
  · exact chk105
  · exact chk109
  · exact chk110
  · exact chk111
  · exact chk112
  · exact chk113
  · exact chk114
  · exact chk115
  · exact chk116
  · exact chk117
  · exact chk118
  · exact chk119
  · exact chk120
  · exact chk121
  · exact chk122
  · exact chk154
  · exact chk158
  · exact chk161
  · exact chk162
  · exact chk163
  · exact chk164
  · exact chk165
  · exact chk166
  · exact chk184
  · exact chk185
  · exact chk186
  · exact chk198
  · exact chk199
  · exact chk200
  · exact chk203
  · exact chk204
  · exact chk205
  · exact chk206
  · exact chk207
  · exact chk208
  · exact chk209
  · exact chk210
  · exact chk211
  · exact chk212
  · exact chk214
  · exact chk215
  · exact chk216
  · exact chk217
  · exact chk218
  · exact chk219
  · exact chk220

end Go.Proofs.YtabmomjfdondnaaH
