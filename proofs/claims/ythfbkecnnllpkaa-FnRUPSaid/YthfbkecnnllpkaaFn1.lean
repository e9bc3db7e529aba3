/- The program's functions, for the abstract machine: printed by gen.py. -/
import Derived.Test.YthfbkecnnllpkaaHm28
import Derived.Test.YthfbkecnnllpkaaProg
set_option linter.unusedVariables false
set_option maxRecDepth 100000
namespace Go.Proofs.YthfbkecnnllpkaaH
open Go
/-- laws.FnRUP -/
def L14_1 : CCode :=
  (.seq
   (.seq
    (.reg false [
      (0, ⟨some 46, .mv (.t 9), none, [], []⟩),
      (1, ⟨some 47, .mv (.t 3), none, [], []⟩),
      (2, ⟨some 48, .bin .lss (.t 46) (.t 47), none, [], [46, 47]⟩)])
    (.cond (.t 48)
     (.seq
      (.kill [48])
      .skip)
     (.seq
      (.kill [9, 48])
      (.exit 2))))
   (.seq
    (.block 3
     (.reg false [
       (0, ⟨some 51, .mv (.t 8), none, [], []⟩),
       (1, ⟨some 52, .mv (.t 9), none, [], []⟩),
       (2, ⟨some 53, .mv (.t 7), none, [], []⟩),
       (3, ⟨some 54, .mv (.t 9), none, [], []⟩),
       (4, ⟨some 55, .bin .shr (.t 53) (.t 54), none, [], [53, 54]⟩),
       (5, ⟨some 56, .bin .and (.t 55) (.c (.int .i64 (1))), none, [], [55]⟩),
       (6, ⟨some 57, .bin .eql (.t 56) (.c (.int .i64 (1))), none, [], [56]⟩),
       (7, ⟨some 58, .ia 1 (.t 51) (.t 52), none, [], []⟩),
       (8, ⟨none, .st 1 (.t 58) (.t 57), none, [], [51, 52, 57, 58]⟩)]))
    (.reg false [
      (0, ⟨some 49, .mv (.t 9), none, [], [9]⟩),
      (1, ⟨some 50, .bin .add (.t 49) (.c (.int .i64 (1))), none, [], [49]⟩),
      (2, ⟨some 9, .mv (.t 50), none, [], [50]⟩)])))
def L14_0 : CCode :=
  (.seq
   (.seq
    (.reg false [
      (0, ⟨some 38, .mv (.t 7), none, [], []⟩),
      (1, ⟨some 39, .mv (.t 3), none, [], []⟩),
      (2, ⟨some 40, .bin .shl (.c (.int .i64 (1))) (.t 39), none, [], [39]⟩),
      (3, ⟨some 41, .bin .lss (.t 38) (.t 40), none, [], [38, 40]⟩)])
    (.cond (.t 41)
     (.seq
      (.kill [41])
      .skip)
     (.seq
      (.kill [3, 4, 5, 7, 41])
      (.exit 0))))
   (.seq
    (.block 1
     (.seq
      (.reg false [
        (0, ⟨some 44, .mv (.t 3), none, [], []⟩),
        (1, ⟨some 45, .mk 1 1 [.bool false] (.t 44) (.t 44), none, [], [44]⟩),
        (2, ⟨some 8, .mv (.t 45), none, [], [45]⟩)])
      (.seq
       (.seq
        (.reg false [
          (0, ⟨some 9, .mv (.c (.int .i64 (0))), none, [], []⟩)])
        (.block 2
         (.loop L14_1)))
       (.seq
        (.reg false [
          (0, ⟨some 59, .mv (.t 4), none, [], []⟩),
          (1, ⟨some 60, .mv (.t 8), none, [], []⟩),
          (2, ⟨some 61, .call 31 [(.t 59), (.t 60)], none, [], [59, 60]⟩),
          (3, ⟨some 62, .mv (.t 61), none, [], [61]⟩),
          (4, ⟨some 63, .mv (.t 5), some (62, true), [], []⟩),
          (5, ⟨some 64, .bsl 1 1 [.nils] [(0, 1, (.t 63))], some (62, true), [], [63]⟩),
          (6, ⟨some 65, .mv (.t 8), some (62, true), [], [8]⟩),
          (7, ⟨some 66, .call 31 [(.t 64), (.t 65)], some (62, true), [], [64, 65]⟩),
          (8, ⟨some 67, .not (.t 66), some (62, true), [], [66]⟩),
          (9, ⟨some 68, .pick (.t 62) (.t 67) (.c (.bool false)), none, [], [62, 67]⟩)])
        (.cond (.t 68)
         (.seq
          (.kill [3, 4, 5, 7, 68])
          (.seq
           (.reg false [
             (0, ⟨some 2, .mv (.c (.bool false)), none, [], []⟩)])
           .ret))
         (.seq
          (.kill [68])
          .skip))))))
    (.reg false [
      (0, ⟨some 42, .mv (.t 7), none, [], [7]⟩),
      (1, ⟨some 43, .bin .add (.t 42) (.c (.int .i64 (1))), none, [], [42]⟩),
      (2, ⟨some 7, .mv (.t 43), none, [], [43]⟩)])))
def B14 : CCode :=
  (.seq
   (.reg false [
     (0, ⟨some 2, .mv (.c (.bool false)), none, [], [2]⟩)])
   (.seq
    (.seq
     (.reg false [
       (0, ⟨some 10, .mv (.t 0), none, [], []⟩),
       (1, ⟨some 11, .call 47 [(.t 10)], none, [], [10]⟩)])
     (.cond (.t 11)
      (.seq
       (.kill [0, 11])
       (.seq
        (.reg false [
          (0, ⟨some 2, .mv (.c (.bool true)), none, [], []⟩)])
        .ret))
      (.seq
       (.kill [11])
       .skip)))
    (.seq
     (.reg false [
       (0, ⟨some 13, .mv (.t 0), none, [], [0]⟩),
       (1, ⟨some 14, .call 50 [(.t 13)], none, [], [13]⟩),
       (2, ⟨some 12, .mv (.t 14), none, [], [14]⟩),
       (3, ⟨some 15, .ex (.t 12) 0, none, [], []⟩),
       (4, ⟨some 16, .ex (.t 12) 1, none, [], []⟩),
       (5, ⟨some 17, .ex (.t 12) 2, none, [], [12]⟩),
       (6, ⟨some 3, .mv (.t 15), none, [], [15]⟩),
       (7, ⟨some 4, .mv (.t 16), none, [], [16]⟩),
       (8, ⟨some 5, .mv (.t 17), none, [], [17]⟩)])
     (.seq
      (.reg false [
        (0, ⟨some 18, .mv (.t 3), none, [], []⟩),
        (1, ⟨some 19, .mv (.t 4), none, [], []⟩),
        (2, ⟨some 20, .mv (.t 5), none, [], []⟩),
        (3, ⟨some 21, .call 42 [(.t 18), (.t 19), (.t 20)], none, [], [18, 19, 20]⟩),
        (4, ⟨some 6, .mv (.t 21), none, [], [21]⟩)])
      (.seq
       (.seq
        (.reg false [
          (0, ⟨some 22, .mv (.t 6), none, [], []⟩),
          (1, ⟨some 23, .mv (.t 3), none, [], []⟩),
          (2, ⟨some 24, .mv (.t 4), none, [], []⟩),
          (3, ⟨some 25, .mv (.t 5), none, [], []⟩),
          (4, ⟨some 26, .call 41 [(.t 23), (.t 24), (.t 25)], none, [], [23, 24, 25]⟩),
          (5, ⟨some 27, .beq true (.t 22) (.t 26), none, [], [22, 26]⟩),
          (6, ⟨some 28, .mv (.t 27), none, [], [27]⟩),
          (7, ⟨some 29, .mv (.t 6), some (28, false), [], []⟩),
          (8, ⟨some 30, .not (.t 29), some (28, false), [], [29]⟩),
          (9, ⟨some 31, .pick (.t 28) (.c (.bool true)) (.t 30), none, [], [28, 30]⟩)])
        (.cond (.t 31)
         (.seq
          (.kill [31])
          (.seq
           (.reg false [
             (0, ⟨some 32, .mv (.t 6), none, [], [6]⟩),
             (1, ⟨some 33, .mv (.t 3), none, [], [3]⟩),
             (2, ⟨some 34, .mv (.t 4), none, [], [4]⟩),
             (3, ⟨some 35, .mv (.t 5), none, [], [5]⟩),
             (4, ⟨some 36, .call 41 [(.t 33), (.t 34), (.t 35)], none, [], [33, 34, 35]⟩),
             (5, ⟨some 37, .beq false (.t 32) (.t 36), none, [], [32, 36]⟩),
             (6, ⟨some 2, .mv (.t 37), none, [], [37]⟩)])
           .ret))
         (.seq
          (.kill [6, 31])
          .skip)))
       (.seq
        (.seq
         (.reg false [
           (0, ⟨some 7, .mv (.c (.int .i64 (0))), none, [], []⟩)])
         (.block 0
          (.loop L14_0)))
        (.seq
         (.reg false [
           (0, ⟨some 2, .mv (.c (.bool true)), none, [], []⟩)])
         .ret)))))))
def C14 : CFn := ⟨69, 1, [.t 2], B14⟩

/-- spec.NegateLiterals -/
def L15_0 : CCode :=
  (.seq
   (.seq
    (.reg false [
      (0, ⟨some 6, .mv (.t 4), none, [], []⟩),
      (1, ⟨some 7, .mv (.t 0), none, [], []⟩),
      (2, ⟨some 8, .len (.t 7), none, [], [7]⟩),
      (3, ⟨some 9, .bin .lss (.t 6) (.t 8), none, [], [6, 8]⟩)])
    (.cond (.t 9)
     (.seq
      (.kill [9])
      .skip)
     (.seq
      (.kill [0, 4, 9])
      (.exit 0))))
   (.seq
    (.block 1
     (.reg false [
       (0, ⟨some 12, .mv (.t 3), none, [], [3]⟩),
       (1, ⟨some 13, .mv (.t 0), none, [], []⟩),
       (2, ⟨some 14, .mv (.t 4), none, [], []⟩),
       (3, ⟨some 15, .ia 1 (.t 13) (.t 14), none, [], []⟩),
       (4, ⟨some 16, .ld 1 false (.t 15), none, [], [13, 14, 15]⟩),
       (5, ⟨some 17, .neg (.t 16), none, [], [16]⟩),
       (6, ⟨some 18, .bsl 1 1 [.int .i64 (0)] [(0, 1, (.t 17))], none, [], [17]⟩),
       (7, ⟨some 19, .app 1 8 (.t 12) (.t 18), none, [], [12, 18]⟩),
       (8, ⟨some 3, .mv (.t 19), none, [], [19]⟩)]))
    (.reg false [
      (0, ⟨some 10, .mv (.t 4), none, [], [4]⟩),
      (1, ⟨some 11, .bin .add (.t 10) (.c (.int .i64 (1))), none, [], [10]⟩),
      (2, ⟨some 4, .mv (.t 11), none, [], [11]⟩)])))
def B15 : CCode :=
  (.seq
   (.reg false [
     (0, ⟨some 2, .mv (.c (.nils)), none, [], [2]⟩)])
   (.seq
    (.reg false [
      (0, ⟨some 5, .bsl 1 0 [.int .i64 (0)] [], none, [], []⟩),
      (1, ⟨some 3, .mv (.t 5), none, [], [5]⟩)])
    (.seq
     (.seq
      (.reg false [
        (0, ⟨some 4, .mv (.c (.int .i64 (0))), none, [], []⟩)])
      (.block 0
       (.loop L15_0)))
     (.seq
      (.reg false [
        (0, ⟨some 20, .mv (.t 3), none, [], [3]⟩),
        (1, ⟨some 2, .mv (.t 20), none, [], [20]⟩)])
      .ret))))
def C15 : CFn := ⟨21, 1, [.t 2], B15⟩

/-- impl.NegateLiterals -/
def L17_0 : CCode :=
  (.seq
   (.reg false [
     (0, ⟨some 10, .bin .lss (.t 9) (.t 8), none, [], []⟩)])
   (.seq
    (.cond (.t 10)
     (.seq
      (.kill [10])
      .skip)
     (.seq
      (.kill [7, 8, 9, 10])
      (.exit 0)))
    (.seq
     (.block 1
      (.seq
       (.reg false [
         (0, ⟨some 11, .ia 1 (.t 7) (.t 9), none, [], []⟩),
         (1, ⟨some 12, .ld 1 false (.t 11), none, [], [11]⟩),
         (2, ⟨some 5, .mv (.t 12), none, [], [12]⟩)])
       (.reg false [
         (0, ⟨some 13, .mv (.t 3), none, [], [3]⟩),
         (1, ⟨some 14, .mv (.t 5), none, [], [5]⟩),
         (2, ⟨some 15, .neg (.t 14), none, [], [14]⟩),
         (3, ⟨some 16, .bsl 1 1 [.int .i64 (0)] [(0, 1, (.t 15))], none, [], [15]⟩),
         (4, ⟨some 17, .app 1 8 (.t 13) (.t 16), none, [], [13, 16]⟩),
         (5, ⟨some 3, .mv (.t 17), none, [], [17]⟩)])))
     (.reg false [
       (0, ⟨some 18, .bin .add (.t 9) (.c (.int .i64 (1))), none, [], [9]⟩),
       (1, ⟨some 9, .mv (.t 18), none, [], [18]⟩)]))))
def B17 : CCode :=
  (.seq
   (.reg false [
     (0, ⟨some 2, .mv (.c (.nils)), none, [], [2]⟩)])
   (.seq
    (.reg false [
      (0, ⟨some 6, .bsl 1 0 [.int .i64 (0)] [], none, [], []⟩),
      (1, ⟨some 3, .mv (.t 6), none, [], [6]⟩)])
    (.seq
     (.seq
      (.reg false [
        (0, ⟨some 7, .mv (.t 0), none, [], [0]⟩),
        (1, ⟨some 8, .len (.t 7), none, [], []⟩),
        (2, ⟨some 9, .mv (.c (.int .i64 (0))), none, [], []⟩)])
      (.block 0
       (.loop L17_0)))
     (.seq
      (.reg false [
        (0, ⟨some 19, .mv (.t 3), none, [], [3]⟩),
        (1, ⟨some 2, .mv (.t 19), none, [], [19]⟩)])
      .ret))))
def C17 : CFn := ⟨20, 1, [.t 2], B17⟩

/-- spec.SatisfiesClauses -/
def L31_1 : CCode :=
  (.seq
   (.seq
    (.reg false [
      (0, ⟨some 15, .mv (.t 7), none, [], []⟩),
      (1, ⟨some 16, .mv (.t 0), none, [], []⟩),
      (2, ⟨some 17, .mv (.t 5), none, [], []⟩),
      (3, ⟨some 18, .ia 1 (.t 16) (.t 17), none, [], []⟩),
      (4, ⟨some 19, .ld 1 false (.t 18), none, [], [18]⟩),
      (5, ⟨some 20, .len (.t 19), none, [], [16, 17, 19]⟩),
      (6, ⟨some 21, .bin .lss (.t 15) (.t 20), none, [], [15, 20]⟩)])
    (.cond (.t 21)
     (.seq
      (.kill [21])
      .skip)
     (.seq
      (.kill [7, 21])
      (.exit 2))))
   (.seq
    (.block 3
     (.seq
      (.reg false [
        (0, ⟨some 24, .mv (.t 0), none, [], []⟩),
        (1, ⟨some 25, .mv (.t 5), none, [], []⟩),
        (2, ⟨some 26, .ia 1 (.t 24) (.t 25), none, [], []⟩),
        (3, ⟨some 27, .ld 1 false (.t 26), none, [], [26]⟩),
        (4, ⟨some 28, .mv (.t 7), none, [], []⟩),
        (5, ⟨some 29, .ia 1 (.t 27) (.t 28), none, [], [27]⟩),
        (6, ⟨some 30, .ld 1 false (.t 29), none, [], [24, 25, 28, 29]⟩),
        (7, ⟨some 8, .mv (.t 30), none, [], [30]⟩)])
      (.reg false [
        (0, ⟨some 31, .mv (.t 6), none, [], [6]⟩),
        (1, ⟨some 32, .mv (.t 31), none, [], [31]⟩),
        (2, ⟨some 33, .mv (.t 8), some (32, false), [], []⟩),
        (3, ⟨some 34, .bin .gtr (.t 33) (.c (.int .i64 (0))), some (32, false), [], [33]⟩),
        (4, ⟨some 35, .mv (.t 34), some (32, false), [], [34]⟩),
        (5, ⟨some 36, .mv (.t 8), some (35, true), [], []⟩),
        (6, ⟨some 37, .mv (.t 1), some (35, true), [], []⟩),
        (7, ⟨some 38, .len (.t 37), some (35, true), [], [37]⟩),
        (8, ⟨some 39, .bin .leq (.t 36) (.t 38), some (35, true), [], [36, 38]⟩),
        (9, ⟨some 40, .pick (.t 35) (.t 39) (.c (.bool false)), some (32, false), [], [35, 39]⟩),
        (10, ⟨some 41, .mv (.t 40), some (32, false), [], [40]⟩),
        (11, ⟨some 42, .mv (.t 1), some (41, true), [], []⟩),
        (12, ⟨some 43, .mv (.t 8), some (41, true), [], []⟩),
        (13, ⟨some 44, .bin .sub (.t 43) (.c (.int .i64 (1))), some (41, true), [], [43]⟩),
        (14, ⟨some 45, .ia 1 (.t 42) (.t 44), some (41, true), [], []⟩),
        (15, ⟨some 46, .ld 1 false (.t 45), some (41, true), [], [42, 44, 45]⟩),
        (16, ⟨some 47, .pick (.t 41) (.t 46) (.c (.bool false)), some (32, false), [], [41, 46]⟩),
        (17, ⟨some 48, .pick (.t 32) (.c (.bool true)) (.t 47), none, [], [32, 47]⟩),
        (18, ⟨some 49, .mv (.t 48), none, [], [48]⟩),
        (19, ⟨some 50, .mv (.t 8), some (49, false), [], []⟩),
        (20, ⟨some 51, .bin .lss (.t 50) (.c (.int .i64 (0))), some (49, false), [], [50]⟩),
        (21, ⟨some 52, .mv (.t 51), some (49, false), [], [51]⟩),
        (22, ⟨some 53, .mv (.t 8), some (52, true), [], []⟩),
        (23, ⟨some 54, .mv (.t 1), some (52, true), [], []⟩),
        (24, ⟨some 55, .len (.t 54), some (52, true), [], [54]⟩),
        (25, ⟨some 56, .neg (.t 55), some (52, true), [], [55]⟩),
        (26, ⟨some 57, .bin .geq (.t 53) (.t 56), some (52, true), [], [53, 56]⟩),
        (27, ⟨some 58, .pick (.t 52) (.t 57) (.c (.bool false)), some (49, false), [], [52, 57]⟩),
        (28, ⟨some 59, .mv (.t 58), some (49, false), [], [58]⟩),
        (29, ⟨some 60, .mv (.t 1), some (59, true), [], []⟩),
        (30, ⟨some 61, .mv (.t 8), some (59, true), [], [8]⟩),
        (31, ⟨some 62, .neg (.t 61), some (59, true), [], [61]⟩),
        (32, ⟨some 63, .bin .sub (.t 62) (.c (.int .i64 (1))), some (59, true), [], [62]⟩),
        (33, ⟨some 64, .ia 1 (.t 60) (.t 63), some (59, true), [], []⟩),
        (34, ⟨some 65, .ld 1 false (.t 64), some (59, true), [], [60, 63, 64]⟩),
        (35, ⟨some 66, .not (.t 65), some (59, true), [], [65]⟩),
        (36, ⟨some 67, .pick (.t 59) (.t 66) (.c (.bool false)), some (49, false), [], [59, 66]⟩),
        (37, ⟨some 68, .pick (.t 49) (.c (.bool true)) (.t 67), none, [], [49, 67]⟩),
        (38, ⟨some 6, .mv (.t 68), none, [], [68]⟩)])))
    (.reg false [
      (0, ⟨some 22, .mv (.t 7), none, [], [7]⟩),
      (1, ⟨some 23, .bin .add (.t 22) (.c (.int .i64 (1))), none, [], [22]⟩),
      (2, ⟨some 7, .mv (.t 23), none, [], [23]⟩)])))
def L31_0 : CCode :=
  (.seq
   (.seq
    (.reg false [
      (0, ⟨some 9, .mv (.t 5), none, [], []⟩),
      (1, ⟨some 10, .mv (.t 0), none, [], []⟩),
      (2, ⟨some 11, .len (.t 10), none, [], [10]⟩),
      (3, ⟨some 12, .bin .lss (.t 9) (.t 11), none, [], [9, 11]⟩)])
    (.cond (.t 12)
     (.seq
      (.kill [12])
      .skip)
     (.seq
      (.kill [0, 1, 5, 12])
      (.exit 0))))
   (.seq
    (.block 1
     (.seq
      (.reg false [
        (0, ⟨some 6, .mv (.c (.bool false)), none, [], []⟩)])
      (.seq
       (.seq
        (.reg false [
          (0, ⟨some 7, .mv (.c (.int .i64 (0))), none, [], []⟩)])
        (.block 2
         (.loop L31_1)))
       (.seq
        (.reg false [
          (0, ⟨some 69, .mv (.t 6), none, [], [6]⟩),
          (1, ⟨some 70, .not (.t 69), none, [], [69]⟩)])
        (.cond (.t 70)
         (.seq
          (.kill [0, 1, 5, 70])
          (.seq
           (.reg false [
             (0, ⟨some 4, .mv (.c (.bool false)), none, [], []⟩)])
           .ret))
         (.seq
          (.kill [70])
          .skip))))))
    (.reg false [
      (0, ⟨some 13, .mv (.t 5), none, [], [5]⟩),
      (1, ⟨some 14, .bin .add (.t 13) (.c (.int .i64 (1))), none, [], [13]⟩),
      (2, ⟨some 5, .mv (.t 14), none, [], [14]⟩)])))
def B31 : CCode :=
  (.seq
   (.reg false [
     (0, ⟨some 4, .mv (.c (.bool false)), none, [], [4]⟩)])
   (.seq
    (.seq
     (.reg false [
       (0, ⟨some 5, .mv (.c (.int .i64 (0))), none, [], []⟩)])
     (.block 0
      (.loop L31_0)))
    (.seq
     (.reg false [
       (0, ⟨some 4, .mv (.c (.bool true)), none, [], []⟩)])
     .ret)))
def C31 : CFn := ⟨71, 2, [.t 4], B31⟩

/-- spec.AreValidClauses -/
def L33_0 : CCode :=
  (.seq
   (.seq
    (.reg false [
      (0, ⟨some 6, .mv (.t 5), none, [], []⟩),
      (1, ⟨some 7, .mv (.t 1), none, [], []⟩),
      (2, ⟨some 8, .len (.t 7), none, [], [7]⟩),
      (3, ⟨some 9, .bin .lss (.t 6) (.t 8), none, [], [6, 8]⟩)])
    (.cond (.t 9)
     (.seq
      (.kill [9])
      .skip)
     (.seq
      (.kill [5, 9])
      (.exit 0))))
   (.seq
    (.block 1
     (.seq
      (.reg false [
        (0, ⟨some 12, .mv (.t 0), none, [], []⟩),
        (1, ⟨some 13, .mv (.t 1), none, [], []⟩),
        (2, ⟨some 14, .mv (.t 5), none, [], []⟩),
        (3, ⟨some 15, .ia 1 (.t 13) (.t 14), none, [], []⟩),
        (4, ⟨some 16, .ld 1 false (.t 15), none, [], [15]⟩),
        (5, ⟨some 17, .call 60 [(.t 12), (.t 16)], none, [], [12, 13, 14, 16]⟩),
        (6, ⟨some 18, .not (.t 17), none, [], [17]⟩)])
      (.cond (.t 18)
       (.seq
        (.kill [0, 1, 5, 18])
        (.seq
         (.reg false [
           (0, ⟨some 4, .mv (.c (.bool false)), none, [], []⟩)])
         .ret))
       (.seq
        (.kill [18])
        .skip))))
    (.reg false [
      (0, ⟨some 10, .mv (.t 5), none, [], [5]⟩),
      (1, ⟨some 11, .bin .add (.t 10) (.c (.int .i64 (1))), none, [], [10]⟩),
      (2, ⟨some 5, .mv (.t 11), none, [], [11]⟩)])))
def B33 : CCode :=
  (.seq
   (.reg false [
     (0, ⟨some 4, .mv (.c (.bool false)), none, [], [4]⟩)])
   (.seq
    (.seq
     (.reg false [
       (0, ⟨some 5, .mv (.c (.int .i64 (0))), none, [], []⟩)])
     (.block 0
      (.loop L33_0)))
    (.seq
     (.reg false [
       (0, ⟨some 19, .mv (.t 0), none, [], [0]⟩),
       (1, ⟨some 20, .call 61 [(.t 19), (.c (.int .i64 (0))), (.c (.int .i64 (14)))], none, [], [19]⟩),
       (2, ⟨some 21, .mv (.t 20), none, [], [20]⟩),
       (3, ⟨some 22, .mv (.t 1), some (21, true), [], [1]⟩),
       (4, ⟨some 23, .len (.t 22), some (21, true), [], [22]⟩),
       (5, ⟨some 24, .bin .leq (.t 23) (.c (.int .i64 (400))), some (21, true), [], [23]⟩),
       (6, ⟨some 25, .pick (.t 21) (.t 24) (.c (.bool false)), none, [], [21, 24]⟩),
       (7, ⟨some 4, .mv (.t 25), none, [], [25]⟩)])
     .ret)))
def C33 : CFn := ⟨26, 2, [.t 4], B33⟩

/-- impl.AreValidClauses -/
def B34 : CCode :=
  (.seq
   (.reg false [
     (0, ⟨some 4, .mv (.c (.bool false)), none, [], [4]⟩)])
   (.seq
    (.reg false [
      (0, ⟨some 5, .mv (.t 1), none, [], []⟩),
      (1, ⟨some 6, .len (.t 5), none, [], [5]⟩),
      (2, ⟨some 7, .bin .leq (.t 6) (.c (.int .i64 (400))), none, [], [6]⟩),
      (3, ⟨some 8, .mv (.t 7), none, [], [7]⟩),
      (4, ⟨some 9, .mv (.t 0), some (8, true), [], [0]⟩),
      (5, ⟨some 10, .mv (.t 1), some (8, true), [], [1]⟩),
      (6, ⟨some 11, .call 62 [(.t 9), (.t 10)], some (8, true), [], [9, 10]⟩),
      (7, ⟨some 12, .pick (.t 8) (.t 11) (.c (.bool false)), none, [], [8, 11]⟩),
      (8, ⟨some 4, .mv (.t 12), none, [], [12]⟩)])
    .ret))
def C34 : CFn := ⟨13, 2, [.t 4], B34⟩

/-- spec.IsRUPClause -/
def B41 : CCode :=
  (.seq
   (.reg false [
     (0, ⟨some 6, .mv (.c (.bool false)), none, [], [6]⟩)])
   (.seq
    (.seq
     (.reg false [
       (0, ⟨some 9, .mv (.t 0), none, [], []⟩),
       (1, ⟨some 10, .mv (.t 1), none, [], []⟩),
       (2, ⟨some 11, .call 33 [(.t 9), (.t 10)], none, [], [9, 10]⟩),
       (3, ⟨some 12, .not (.t 11), none, [], [11]⟩),
       (4, ⟨some 13, .mv (.t 12), none, [], [12]⟩),
       (5, ⟨some 14, .mv (.t 0), some (13, false), [], []⟩),
       (6, ⟨some 15, .mv (.t 2), some (13, false), [], []⟩),
       (7, ⟨some 16, .call 60 [(.t 14), (.t 15)], some (13, false), [], [14, 15]⟩),
       (8, ⟨some 17, .not (.t 16), some (13, false), [], [16]⟩),
       (9, ⟨some 18, .pick (.t 13) (.c (.bool true)) (.t 17), none, [], [13, 17]⟩)])
     (.cond (.t 18)
      (.seq
       (.kill [0, 1, 2, 18])
       (.seq
        (.reg false [
          (0, ⟨some 6, .mv (.c (.bool false)), none, [], []⟩)])
        .ret))
      (.seq
       (.kill [18])
       .skip)))
    (.seq
     (.reg false [
       (0, ⟨some 20, .mv (.t 0), none, [], [0]⟩),
       (1, ⟨some 21, .mv (.t 1), none, [], [1]⟩),
       (2, ⟨some 22, .mv (.t 2), none, [], [2]⟩),
       (3, ⟨some 23, .call 15 [(.t 22)], none, [], [22]⟩),
       (4, ⟨some 24, .call 43 [(.t 20), (.t 21), (.t 23)], none, [], [20, 21, 23]⟩),
       (5, ⟨some 19, .mv (.t 24), none, [], [24]⟩),
       (6, ⟨some 25, .ex (.t 19) 0, none, [], []⟩),
       (7, ⟨some 26, .ex (.t 19) 1, none, [], [19]⟩),
       (8, ⟨some 7, .mv (.t 25), none, [], [7, 25]⟩),
       (9, ⟨some 8, .mv (.t 26), none, [], [26]⟩)])
     (.seq
      (.reg false [
        (0, ⟨some 27, .mv (.t 8), none, [], [8]⟩),
        (1, ⟨some 6, .mv (.t 27), none, [], [27]⟩)])
      .ret))))
def C41 : CFn := ⟨28, 3, [.t 6], B41⟩

/-- impl.IsRUPClause -/
def B42 : CCode :=
  (.seq
   (.reg false [
     (0, ⟨some 6, .mv (.c (.bool false)), none, [], [6]⟩)])
   (.seq
    (.seq
     (.reg false [
       (0, ⟨some 9, .mv (.t 0), none, [], []⟩),
       (1, ⟨some 10, .mv (.t 1), none, [], []⟩),
       (2, ⟨some 11, .call 34 [(.t 9), (.t 10)], none, [], [9, 10]⟩),
       (3, ⟨some 12, .not (.t 11), none, [], [11]⟩),
       (4, ⟨some 13, .mv (.t 12), none, [], [12]⟩),
       (5, ⟨some 14, .mv (.t 0), some (13, false), [], [0]⟩),
       (6, ⟨some 15, .mv (.t 2), some (13, false), [], []⟩),
       (7, ⟨some 16, .call 63 [(.t 14), (.t 15)], some (13, false), [], [14, 15]⟩),
       (8, ⟨some 17, .not (.t 16), some (13, false), [], [16]⟩),
       (9, ⟨some 18, .pick (.t 13) (.c (.bool true)) (.t 17), none, [], [13, 17]⟩)])
     (.cond (.t 18)
      (.seq
       (.kill [1, 2, 18])
       (.seq
        (.reg false [
          (0, ⟨some 6, .mv (.c (.bool false)), none, [], []⟩)])
        .ret))
      (.seq
       (.kill [18])
       .skip)))
    (.seq
     (.reg false [
       (0, ⟨some 20, .mv (.t 1), none, [], [1]⟩),
       (1, ⟨some 21, .mv (.t 2), none, [], [2]⟩),
       (2, ⟨some 22, .call 17 [(.t 21)], none, [], [21]⟩),
       (3, ⟨some 23, .call 64 [(.t 20), (.t 22)], none, [], [20, 22]⟩),
       (4, ⟨some 19, .mv (.t 23), none, [], [23]⟩),
       (5, ⟨some 24, .ex (.t 19) 0, none, [], []⟩),
       (6, ⟨some 25, .ex (.t 19) 1, none, [], [19]⟩),
       (7, ⟨some 7, .mv (.t 24), none, [], [7, 24]⟩),
       (8, ⟨some 8, .mv (.t 25), none, [], [25]⟩)])
     (.seq
      (.reg false [
        (0, ⟨some 26, .mv (.t 8), none, [], [8]⟩),
        (1, ⟨some 6, .mv (.t 26), none, [], [26]⟩)])
      .ret))))
def C42 : CFn := ⟨27, 3, [.t 6], B42⟩

/-- spec.UnitPropagation -/
def B43 : CCode :=
  (.seq
   (.reg false [
     (0, ⟨some 6, .mv (.c (.nils)), none, [], [6]⟩),
     (1, ⟨some 7, .mv (.c (.bool false)), none, [], [7]⟩)])
   (.seq
    (.seq
     (.reg false [
       (0, ⟨some 10, .mv (.t 0), none, [], []⟩),
       (1, ⟨some 11, .mv (.t 1), none, [], []⟩),
       (2, ⟨some 12, .call 33 [(.t 10), (.t 11)], none, [], [10, 11]⟩),
       (3, ⟨some 13, .not (.t 12), none, [], [12]⟩),
       (4, ⟨some 14, .mv (.t 13), none, [], [13]⟩),
       (5, ⟨some 15, .mv (.t 0), some (14, false), [], [0]⟩),
       (6, ⟨some 16, .mv (.t 2), some (14, false), [], []⟩),
       (7, ⟨some 17, .call 60 [(.t 15), (.t 16)], some (14, false), [], [15, 16]⟩),
       (8, ⟨some 18, .not (.t 17), some (14, false), [], [17]⟩),
       (9, ⟨some 19, .pick (.t 14) (.c (.bool true)) (.t 18), none, [], [14, 18]⟩)])
     (.cond (.t 19)
      (.seq
       (.kill [1, 19])
       (.seq
        (.reg false [
          (0, ⟨some 20, .bsl 1 0 [.int .i64 (0)] [], none, [], []⟩),
          (1, ⟨some 21, .mv (.t 2), none, [], [2]⟩),
          (2, ⟨some 22, .app 1 8 (.t 20) (.t 21), none, [], [20, 21]⟩),
          (3, ⟨some 6, .mv (.t 22), none, [], [22]⟩),
          (4, ⟨some 7, .mv (.c (.bool false)), none, [], []⟩)])
        .ret))
      (.seq
       (.kill [19])
       .skip)))
    (.seq
     (.reg false [
       (0, ⟨some 24, .mv (.t 1), none, [], [1]⟩),
       (1, ⟨some 25, .mv (.t 2), none, [], [2]⟩),
       (2, ⟨some 26, .call 65 [(.t 24), (.t 25)], none, [], [24, 25]⟩),
       (3, ⟨some 23, .mv (.t 26), none, [], [26]⟩),
       (4, ⟨some 27, .ex (.t 23) 0, none, [], []⟩),
       (5, ⟨some 28, .ex (.t 23) 1, none, [], [23]⟩),
       (6, ⟨some 8, .mv (.t 27), none, [], [27]⟩),
       (7, ⟨some 9, .mv (.t 28), none, [], [28]⟩)])
     (.seq
      (.reg false [
        (0, ⟨some 29, .mv (.t 8), none, [], [8]⟩),
        (1, ⟨some 30, .mv (.t 9), none, [], [9]⟩),
        (2, ⟨some 6, .mv (.t 29), none, [], [29]⟩),
        (3, ⟨some 7, .mv (.t 30), none, [], [30]⟩)])
      .ret))))
def C43 : CFn := ⟨31, 3, [.t 6, .t 7], B43⟩

/-- laws.big -/
def B47 : CCode :=
  (.seq
   (.reg false [
     (0, ⟨some 2, .mv (.c (.bool false)), none, [], [2]⟩)])
   (.seq
    (.reg false [
      (0, ⟨some 3, .mv (.t 0), none, [], [0]⟩),
      (1, ⟨some 4, .len (.t 3), none, [], [3]⟩),
      (2, ⟨some 5, .bin .gtr (.t 4) (.c (.int .i64 (1048576))), none, [], [4]⟩),
      (3, ⟨some 2, .mv (.t 5), none, [], [5]⟩)])
    .ret))
def C47 : CFn := ⟨6, 1, [.t 2], B47⟩

/-- spec.DrawUnitPropagation -/
def B48 : CCode :=
  (.seq
   (.reg false [
     (0, ⟨some 2, .mv (.c (.int .i64 (0))), none, [], [2]⟩),
     (1, ⟨some 3, .mv (.c (.nils)), none, [], [3]⟩),
     (2, ⟨some 4, .mv (.c (.nils)), none, [], [4]⟩)])
   (.seq
    (.reg false [
      (0, ⟨some 8, .mv (.t 0), none, [], [0]⟩),
      (1, ⟨some 9, .call 67 [(.t 8)], none, [], [8]⟩),
      (2, ⟨some 5, .mv (.t 9), none, [], [9]⟩)])
    (.seq
     (.reg false [
       (0, ⟨some 11, .mv (.t 5), none, [], []⟩),
       (1, ⟨some 12, .call 68 [(.t 11)], none, [], [11]⟩),
       (2, ⟨some 10, .mv (.t 12), none, [], [12]⟩),
       (3, ⟨some 13, .ex (.t 10) 0, none, [], []⟩),
       (4, ⟨some 14, .ex (.t 10) 1, none, [], [10]⟩),
       (5, ⟨some 6, .mv (.t 13), none, [], [13]⟩),
       (6, ⟨some 7, .mv (.t 14), none, [], [14]⟩)])
     (.seq
      (.reg false [
        (0, ⟨some 15, .mv (.t 6), none, [], []⟩),
        (1, ⟨some 16, .mv (.t 7), none, [], [7]⟩),
        (2, ⟨some 17, .mv (.t 5), none, [], [5]⟩),
        (3, ⟨some 18, .mv (.t 6), none, [], [6]⟩),
        (4, ⟨some 19, .call 69 [(.t 17), (.t 18)], none, [], [17, 18]⟩),
        (5, ⟨some 2, .mv (.t 15), none, [], [15]⟩),
        (6, ⟨some 3, .mv (.t 16), none, [], [16]⟩),
        (7, ⟨some 4, .mv (.t 19), none, [], [19]⟩)])
      .ret))))
def C48 : CFn := ⟨20, 1, [.t 2, .t 3, .t 4], B48⟩

/-- spec.DrawIsRUPClause -/
def B50 : CCode :=
  (.seq
   (.reg false [
     (0, ⟨some 2, .mv (.c (.int .i64 (0))), none, [], [2]⟩),
     (1, ⟨some 3, .mv (.c (.nils)), none, [], [3]⟩),
     (2, ⟨some 4, .mv (.c (.nils)), none, [], [4]⟩)])
   (.seq
    (.reg false [
      (0, ⟨some 5, .mv (.t 0), none, [], [0]⟩),
      (1, ⟨some 6, .call 48 [(.t 5)], none, [], [5]⟩),
      (2, ⟨some 7, .ex (.t 6) 0, none, [], []⟩),
      (3, ⟨some 8, .ex (.t 6) 1, none, [], []⟩),
      (4, ⟨some 9, .ex (.t 6) 2, none, [], [6]⟩),
      (5, ⟨some 2, .mv (.t 7), none, [], [7]⟩),
      (6, ⟨some 3, .mv (.t 8), none, [], [8]⟩),
      (7, ⟨some 4, .mv (.t 9), none, [], [9]⟩)])
    .ret))
def C50 : CFn := ⟨10, 1, [.t 2, .t 3, .t 4], B50⟩

/-- slices.ContainsFunc[[][]int,[]int] -/
def B53 : CCode :=
  (.seq
   (.reg false [
     (0, ⟨some 4, .mv (.c (.bool false)), none, [], [4]⟩)])
   (.seq
    (.reg false [
      (0, ⟨some 5, .mv (.t 0), none, [], [0]⟩),
      (1, ⟨some 6, .mv (.t 1), none, [], [1]⟩),
      (2, ⟨some 7, .call 71 [(.t 5), (.t 6)], none, [], [5, 6]⟩),
      (3, ⟨some 8, .bin .geq (.t 7) (.c (.int .i64 (0))), none, [], [7]⟩),
      (4, ⟨some 4, .mv (.t 8), none, [], [8]⟩)])
    .ret))
def C53 : CFn := ⟨9, 2, [.t 4], B53⟩

/-- slices.ContainsFunc[[]int,int] -/
def B57 : CCode :=
  (.seq
   (.reg false [
     (0, ⟨some 4, .mv (.c (.bool false)), none, [], [4]⟩)])
   (.seq
    (.reg false [
      (0, ⟨some 5, .mv (.t 0), none, [], [0]⟩),
      (1, ⟨some 6, .mv (.t 1), none, [], [1]⟩),
      (2, ⟨some 7, .call 74 [(.t 5), (.t 6)], none, [], [5, 6]⟩),
      (3, ⟨some 8, .bin .geq (.t 7) (.c (.int .i64 (0))), none, [], [7]⟩),
      (4, ⟨some 4, .mv (.t 8), none, [], [8]⟩)])
    .ret))
def C57 : CFn := ⟨9, 2, [.t 4], B57⟩

/-- spec.l20Clause -/
def L60_1 : CCode :=
  (.seq
   (.seq
    (.reg false [
      (0, ⟨some 42, .mv (.t 7), none, [], []⟩),
      (1, ⟨some 43, .mv (.t 5), none, [], []⟩),
      (2, ⟨some 44, .bin .lss (.t 42) (.t 43), none, [], [42, 43]⟩)])
    (.cond (.t 44)
     (.seq
      (.kill [44])
      .skip)
     (.seq
      (.kill [7, 44])
      (.exit 2))))
   (.seq
    (.block 3
     (.seq
      (.reg true [
        (0, ⟨some 47, .mv (.t 1), none, [], []⟩),
        (1, ⟨some 48, .mv (.t 7), none, [], []⟩),
        (2, ⟨some 49, .ia 1 (.t 47) (.t 48), none, [], []⟩),
        (3, ⟨some 50, .ld 1 false (.t 49), none, [], [47, 48, 49]⟩),
        (4, ⟨some 51, .mv (.t 1), none, [], []⟩),
        (5, ⟨some 52, .mv (.t 5), none, [], []⟩),
        (6, ⟨some 53, .ia 1 (.t 51) (.t 52), none, [], []⟩),
        (7, ⟨some 54, .ld 1 false (.t 53), none, [], [51, 52, 53]⟩),
        (8, ⟨some 55, .bin .eql (.t 50) (.t 54), none, [], [50, 54]⟩),
        (9, ⟨some 56, .mv (.t 55), none, [], [55]⟩),
        (10, ⟨some 57, .mv (.t 1), some (56, false), [], []⟩),
        (11, ⟨some 58, .mv (.t 7), some (56, false), [], []⟩),
        (12, ⟨some 59, .ia 1 (.t 57) (.t 58), some (56, false), [], []⟩),
        (13, ⟨some 60, .ld 1 false (.t 59), some (56, false), [], [57, 58, 59]⟩),
        (14, ⟨some 61, .mv (.t 1), some (56, false), [], []⟩),
        (15, ⟨some 62, .mv (.t 5), some (56, false), [], []⟩),
        (16, ⟨some 63, .ia 1 (.t 61) (.t 62), some (56, false), [], []⟩),
        (17, ⟨some 64, .ld 1 false (.t 63), some (56, false), [], [61, 62, 63]⟩),
        (18, ⟨some 65, .neg (.t 64), some (56, false), [], [64]⟩),
        (19, ⟨some 66, .bin .eql (.t 60) (.t 65), some (56, false), [], [60, 65]⟩),
        (20, ⟨some 67, .pick (.t 56) (.c (.bool true)) (.t 66), none, [], [56, 66]⟩)])
      (.cond (.t 67)
       (.seq
        (.kill [0, 1, 5, 7, 67])
        (.seq
         (.reg false [
           (0, ⟨some 4, .mv (.c (.bool false)), none, [], []⟩)])
         .ret))
       (.seq
        (.kill [67])
        .skip))))
    (.reg false [
      (0, ⟨some 45, .mv (.t 7), none, [], [7]⟩),
      (1, ⟨some 46, .bin .add (.t 45) (.c (.int .i64 (1))), none, [], [45]⟩),
      (2, ⟨some 7, .mv (.t 46), none, [], [46]⟩)])))
def L60_0 : CCode :=
  (.seq
   (.seq
    (.reg false [
      (0, ⟨some 8, .mv (.t 5), none, [], []⟩),
      (1, ⟨some 9, .mv (.t 1), none, [], []⟩),
      (2, ⟨some 10, .len (.t 9), none, [], [9]⟩),
      (3, ⟨some 11, .bin .lss (.t 8) (.t 10), none, [], [8, 10]⟩)])
    (.cond (.t 11)
     (.seq
      (.kill [11])
      .skip)
     (.seq
      (.kill [0, 1, 5, 11])
      (.exit 0))))
   (.seq
    (.block 1
     (.seq
      (.reg false [
        (0, ⟨some 14, .mv (.t 1), none, [], []⟩),
        (1, ⟨some 15, .mv (.t 5), none, [], []⟩),
        (2, ⟨some 16, .ia 1 (.t 14) (.t 15), none, [], []⟩),
        (3, ⟨some 17, .ld 1 false (.t 16), none, [], [14, 15, 16]⟩),
        (4, ⟨some 18, .max (.t 17) (.c (.int .i64 (0))), none, [], [17]⟩),
        (5, ⟨some 6, .mv (.t 18), none, [], [18]⟩)])
      (.seq
       (.seq
        (.reg false [
          (0, ⟨some 19, .mv (.t 1), none, [], []⟩),
          (1, ⟨some 20, .mv (.t 5), none, [], []⟩),
          (2, ⟨some 21, .ia 1 (.t 19) (.t 20), none, [], []⟩),
          (3, ⟨some 22, .ld 1 false (.t 21), none, [], [19, 20, 21]⟩),
          (4, ⟨some 23, .bin .lss (.t 22) (.c (.int .i64 (0))), none, [], [22]⟩),
          (5, ⟨some 24, .mv (.t 23), none, [], [23]⟩),
          (6, ⟨some 25, .mv (.t 1), some (24, true), [], []⟩),
          (7, ⟨some 26, .mv (.t 5), some (24, true), [], []⟩),
          (8, ⟨some 27, .ia 1 (.t 25) (.t 26), some (24, true), [], []⟩),
          (9, ⟨some 28, .ld 1 false (.t 27), some (24, true), [], [25, 26, 27]⟩),
          (10, ⟨some 29, .mv (.t 0), some (24, true), [], []⟩),
          (11, ⟨some 30, .neg (.t 29), some (24, true), [], [29]⟩),
          (12, ⟨some 31, .bin .geq (.t 28) (.t 30), some (24, true), [], [28, 30]⟩),
          (13, ⟨some 32, .pick (.t 24) (.t 31) (.c (.bool false)), none, [], [24, 31]⟩)])
        (.cond (.t 32)
         (.seq
          (.kill [6, 32])
          (.reg false [
            (0, ⟨some 33, .mv (.t 1), none, [], []⟩),
            (1, ⟨some 34, .mv (.t 5), none, [], []⟩),
            (2, ⟨some 35, .ia 1 (.t 33) (.t 34), none, [], []⟩),
            (3, ⟨some 36, .ld 1 false (.t 35), none, [], [33, 34, 35]⟩),
            (4, ⟨some 37, .neg (.t 36), none, [], [36]⟩),
            (5, ⟨some 6, .mv (.t 37), none, [], [37]⟩)]))
         (.seq
          (.kill [32])
          .skip)))
       (.seq
        (.seq
         (.reg false [
           (0, ⟨some 38, .mv (.t 6), none, [], [6]⟩),
           (1, ⟨some 39, .mv (.t 0), none, [], []⟩),
           (2, ⟨some 40, .call 61 [(.t 38), (.c (.int .i64 (1))), (.t 39)], none, [], [38, 39]⟩),
           (3, ⟨some 41, .not (.t 40), none, [], [40]⟩)])
         (.cond (.t 41)
          (.seq
           (.kill [0, 1, 5, 41])
           (.seq
            (.reg false [
              (0, ⟨some 4, .mv (.c (.bool false)), none, [], []⟩)])
            .ret))
          (.seq
           (.kill [41])
           .skip)))
        (.seq
         (.reg false [
           (0, ⟨some 7, .mv (.c (.int .i64 (0))), none, [], []⟩)])
         (.block 2
          (.loop L60_1)))))))
    (.reg false [
      (0, ⟨some 12, .mv (.t 5), none, [], [5]⟩),
      (1, ⟨some 13, .bin .add (.t 12) (.c (.int .i64 (1))), none, [], [12]⟩),
      (2, ⟨some 5, .mv (.t 13), none, [], [13]⟩)])))
def B60 : CCode :=
  (.seq
   (.reg false [
     (0, ⟨some 4, .mv (.c (.bool false)), none, [], [4]⟩)])
   (.seq
    (.seq
     (.reg false [
       (0, ⟨some 5, .mv (.c (.int .i64 (0))), none, [], []⟩)])
     (.block 0
      (.loop L60_0)))
    (.seq
     (.reg false [
       (0, ⟨some 4, .mv (.c (.bool true)), none, [], []⟩)])
     .ret)))
def C60 : CFn := ⟨68, 2, [.t 4], B60⟩

/-- spec.l1In -/
def B61 : CCode :=
  (.seq
   (.reg false [
     (0, ⟨some 6, .mv (.c (.bool false)), none, [], [6]⟩)])
   (.seq
    (.reg false [
      (0, ⟨some 7, .mv (.t 0), none, [], []⟩),
      (1, ⟨some 8, .mv (.t 1), none, [], [1]⟩),
      (2, ⟨some 9, .bin .geq (.t 7) (.t 8), none, [], [7, 8]⟩),
      (3, ⟨some 10, .mv (.t 9), none, [], [9]⟩),
      (4, ⟨some 11, .mv (.t 0), some (10, true), [], [0]⟩),
      (5, ⟨some 12, .mv (.t 2), some (10, true), [], [2]⟩),
      (6, ⟨some 13, .bin .leq (.t 11) (.t 12), some (10, true), [], [11, 12]⟩),
      (7, ⟨some 14, .pick (.t 10) (.t 13) (.c (.bool false)), none, [], [10, 13]⟩),
      (8, ⟨some 6, .mv (.t 14), none, [], [14]⟩)])
    .ret))
def C61 : CFn := ⟨15, 3, [.t 6], B61⟩

/-- impl.areClauses -/
def B62 : CCode :=
  (.seq
   (.reg false [
     (0, ⟨some 2, .box 1 (.t 0), none, [], [0]⟩),
     (1, ⟨some 4, .mv (.c (.bool false)), none, [], [4]⟩)])
   (.seq
    (.reg false [
      (0, ⟨some 5, .ld 1 false (.t 2), none, [], []⟩),
      (1, ⟨some 6, .call 75 [(.t 5), (.c (.int .i64 (0))), (.c (.int .i64 (14)))], none, [], [5]⟩),
      (2, ⟨some 7, .mv (.t 6), none, [], [6]⟩),
      (3, ⟨some 8, .mv (.t 1), some (7, true), [], [1]⟩),
      (4, ⟨some 9, .fn 76 [(.t 2)], some (7, true), [], []⟩),
      (5, ⟨some 10, .call 53 [(.t 8), (.t 9)], some (7, true), [], [2, 8, 9]⟩),
      (6, ⟨some 11, .not (.t 10), some (7, true), [], [10]⟩),
      (7, ⟨some 12, .pick (.t 7) (.t 11) (.c (.bool false)), none, [], [7, 11]⟩),
      (8, ⟨some 4, .mv (.t 12), none, [], [12]⟩)])
    .ret))
def C62 : CFn := ⟨13, 2, [.t 4], B62⟩

/-- impl.isClause -/
def L63_0 : CCode :=
  (.seq
   (.reg false [
     (0, ⟨some 10, .bin .lss (.t 9) (.t 8), none, [], []⟩)])
   (.seq
    (.cond (.t 10)
     (.seq
      (.kill [10])
      .skip)
     (.seq
      (.kill [0, 1, 7, 8, 9, 10])
      (.exit 0)))
    (.seq
     (.block 1
      (.seq
       (.reg false [
         (0, ⟨some 11, .mv (.t 9), none, [], []⟩),
         (1, ⟨some 12, .ia 1 (.t 7) (.t 9), none, [], []⟩),
         (2, ⟨some 13, .ld 1 false (.t 12), none, [], [12]⟩),
         (3, ⟨some 5, .mv (.t 11), none, [], [11]⟩),
         (4, ⟨some 6, .mv (.t 13), none, [], [13]⟩)])
       (.seq
        (.reg false [
          (0, ⟨some 14, .mv (.t 6), none, [], []⟩),
          (1, ⟨some 15, .bin .eql (.t 14) (.c (.int .i64 (0))), none, [], [14]⟩),
          (2, ⟨some 16, .mv (.t 15), none, [], [15]⟩),
          (3, ⟨some 17, .mv (.t 6), some (16, false), [], []⟩),
          (4, ⟨some 18, .mv (.t 0), some (16, false), [], []⟩),
          (5, ⟨some 19, .neg (.t 18), some (16, false), [], [18]⟩),
          (6, ⟨some 20, .mv (.t 0), some (16, false), [], []⟩),
          (7, ⟨some 21, .call 75 [(.t 17), (.t 19), (.t 20)], some (16, false), [], [17, 19, 20]⟩),
          (8, ⟨some 22, .not (.t 21), some (16, false), [], [21]⟩),
          (9, ⟨some 23, .pick (.t 16) (.c (.bool true)) (.t 22), none, [], [16, 22]⟩),
          (10, ⟨some 24, .mv (.t 23), none, [], [23]⟩),
          (11, ⟨some 25, .mv (.t 1), some (24, false), [], []⟩),
          (12, ⟨some 26, .mv (.t 5), some (24, false), [], []⟩),
          (13, ⟨some 27, .sls 1 (.t 25) none (some (.t 26)) none, some (24, false), [], [25, 26]⟩),
          (14, ⟨some 28, .mv (.t 6), some (24, false), [], []⟩),
          (15, ⟨some 29, .call 73 [(.t 27), (.t 28)], some (24, false), [], [27, 28]⟩),
          (16, ⟨some 30, .pick (.t 24) (.c (.bool true)) (.t 29), none, [], [24, 29]⟩),
          (17, ⟨some 31, .mv (.t 30), none, [], [30]⟩),
          (18, ⟨some 32, .mv (.t 1), some (31, false), [], []⟩),
          (19, ⟨some 33, .mv (.t 5), some (31, false), [], [5]⟩),
          (20, ⟨some 34, .sls 1 (.t 32) none (some (.t 33)) none, some (31, false), [], [32, 33]⟩),
          (21, ⟨some 35, .mv (.t 6), some (31, false), [], [6]⟩),
          (22, ⟨some 36, .neg (.t 35), some (31, false), [], [35]⟩),
          (23, ⟨some 37, .call 73 [(.t 34), (.t 36)], some (31, false), [], [34, 36]⟩),
          (24, ⟨some 38, .pick (.t 31) (.c (.bool true)) (.t 37), none, [], [31, 37]⟩)])
        (.cond (.t 38)
         (.seq
          (.kill [0, 1, 7, 8, 9, 38])
          (.seq
           (.reg false [
             (0, ⟨some 4, .mv (.c (.bool false)), none, [], []⟩)])
           .ret))
         (.seq
          (.kill [38])
          .skip)))))
     (.reg false [
       (0, ⟨some 39, .bin .add (.t 9) (.c (.int .i64 (1))), none, [], [9]⟩),
       (1, ⟨some 9, .mv (.t 39), none, [], [39]⟩)]))))
def B63 : CCode :=
  (.seq
   (.reg false [
     (0, ⟨some 4, .mv (.c (.bool false)), none, [], [4]⟩)])
   (.seq
    (.seq
     (.reg false [
       (0, ⟨some 7, .mv (.t 1), none, [], []⟩),
       (1, ⟨some 8, .len (.t 7), none, [], []⟩),
       (2, ⟨some 9, .mv (.c (.int .i64 (0))), none, [], []⟩)])
     (.block 0
      (.loop L63_0)))
    (.seq
     (.reg false [
       (0, ⟨some 4, .mv (.c (.bool true)), none, [], []⟩)])
     .ret)))
def C63 : CFn := ⟨40, 2, [.t 4], B63⟩

/-- impl.propagate -/
def L64_1 : CCode :=
  (.seq
   (.reg false [
     (0, ⟨some 17, .bin .lss (.t 16) (.t 15), none, [], []⟩)])
   (.seq
    (.cond (.t 17)
     (.seq
      (.kill [17])
      .skip)
     (.seq
      (.kill [14, 15, 16, 17])
      (.exit 2)))
    (.seq
     (.block 3
      (.seq
       (.reg false [
         (0, ⟨some 18, .ia 1 (.t 14) (.t 16), none, [], []⟩),
         (1, ⟨some 19, .ld 1 false (.t 18), none, [], [18]⟩),
         (2, ⟨some 9, .mv (.t 19), none, [], [19]⟩)])
       (.seq
        (.seq
         (.reg false [
           (0, ⟨some 20, .mv (.t 9), none, [], []⟩),
           (1, ⟨some 21, .fn 77 [(.t 6)], none, [], []⟩),
           (2, ⟨some 22, .call 57 [(.t 20), (.t 21)], none, [], [20, 21]⟩)])
         (.cond (.t 22)
          (.seq
           (.kill [9, 22])
           (.exit 3))
          (.seq
           (.kill [22])
           .skip)))
        (.seq
         (.reg false [
           (0, ⟨some 23, .mv (.t 9), none, [], [9]⟩),
           (1, ⟨some 24, .ld 1 false (.t 6), none, [], []⟩),
           (2, ⟨some 25, .call 17 [(.t 24)], none, [], [24]⟩),
           (3, ⟨some 26, .call 78 [(.t 23), (.t 25)], none, [], [23, 25]⟩),
           (4, ⟨some 10, .mv (.t 26), none, [], [26]⟩)])
         (.seq
          (.seq
           (.reg false [
             (0, ⟨some 27, .mv (.t 10), none, [], []⟩),
             (1, ⟨some 28, .len (.t 27), none, [], [27]⟩),
             (2, ⟨some 29, .bin .eql (.t 28) (.c (.int .i64 (0))), none, [], [28]⟩)])
           (.cond (.t 29)
            (.seq
             (.kill [0, 7, 10, 14, 15, 16, 29])
             (.seq
              (.reg false [
                (0, ⟨some 30, .ld 1 false (.t 6), none, [], []⟩),
                (1, ⟨some 4, .mv (.t 30), none, [], [30]⟩),
                (2, ⟨some 5, .mv (.c (.bool true)), none, [], []⟩)])
              .ret))
            (.seq
             (.kill [29])
             .skip)))
          (.seq
           (.reg false [
             (0, ⟨some 31, .mv (.t 10), none, [], []⟩),
             (1, ⟨some 32, .len (.t 31), none, [], [31]⟩),
             (2, ⟨some 33, .bin .eql (.t 32) (.c (.int .i64 (1))), none, [], [32]⟩)])
           (.cond (.t 33)
            (.seq
             (.kill [7, 14, 15, 16, 33])
             (.seq
              (.reg true [
                (0, ⟨some 34, .ld 1 false (.t 6), none, [], []⟩),
                (1, ⟨some 35, .mv (.t 10), none, [], [10]⟩),
                (2, ⟨some 36, .ia 1 (.t 35) (.c (.int .i64 (0))), none, [], []⟩),
                (3, ⟨some 37, .ld 1 false (.t 36), none, [], [35, 36]⟩),
                (4, ⟨some 38, .bsl 1 1 [.int .i64 (0)] [(0, 1, (.t 37))], none, [], [37]⟩),
                (5, ⟨some 39, .app 1 8 (.t 34) (.t 38), none, [], [34, 38]⟩),
                (6, ⟨none, .st 1 (.t 6) (.t 39), none, [], [39]⟩),
                (7, ⟨some 7, .mv (.c (.bool true)), none, [], []⟩)])
              (.exit 2)))
            (.seq
             (.kill [10, 33])
             .skip))))))))
     (.reg false [
       (0, ⟨some 40, .bin .add (.t 16) (.c (.int .i64 (1))), none, [], [16]⟩),
       (1, ⟨some 16, .mv (.t 40), none, [], [40]⟩)]))))
def L64_0 : CCode :=
  (.block 1
   (.seq
    (.reg false [
      (0, ⟨some 7, .mv (.c (.bool false)), none, [], []⟩)])
    (.seq
     (.seq
      (.reg false [
        (0, ⟨some 14, .mv (.t 0), none, [], []⟩),
        (1, ⟨some 15, .len (.t 14), none, [], []⟩),
        (2, ⟨some 16, .mv (.c (.int .i64 (0))), none, [], []⟩)])
      (.block 2
       (.loop L64_1)))
     (.seq
      (.reg false [
        (0, ⟨some 41, .mv (.t 7), none, [], [7]⟩),
        (1, ⟨some 42, .not (.t 41), none, [], [41]⟩)])
      (.cond (.t 42)
       (.seq
        (.kill [0, 42])
        (.seq
         (.reg false [
           (0, ⟨some 43, .ld 1 false (.t 6), none, [], []⟩),
           (1, ⟨some 4, .mv (.t 43), none, [], [43]⟩),
           (2, ⟨some 5, .mv (.c (.bool false)), none, [], []⟩)])
         .ret))
       (.seq
        (.kill [42])
        .skip))))))
def B64 : CCode :=
  (.seq
   (.reg false [
     (0, ⟨some 4, .mv (.c (.nils)), none, [], [4]⟩),
     (1, ⟨some 5, .mv (.c (.bool false)), none, [], [5]⟩)])
   (.seq
    (.reg false [
      (0, ⟨some 11, .bsl 1 0 [.int .i64 (0)] [], none, [], []⟩),
      (1, ⟨some 12, .mv (.t 1), none, [], [1]⟩),
      (2, ⟨some 13, .app 1 8 (.t 11) (.t 12), none, [], [11, 12]⟩),
      (3, ⟨some 6, .al [.nils], none, [], []⟩),
      (4, ⟨none, .st 1 (.t 6) (.t 13), none, [], [13]⟩)])
    (.block 0
     (.loop L64_0))))
def C64 : CFn := ⟨44, 2, [.t 4, .t 5], B64⟩

/-- spec.l21Units -/
def L65_1 : CCode :=
  (.seq
   (.seq
    (.reg false [
      (0, ⟨some 15, .mv (.t 8), none, [], []⟩),
      (1, ⟨some 16, .mv (.t 0), none, [], []⟩),
      (2, ⟨some 17, .len (.t 16), none, [], [16]⟩),
      (3, ⟨some 18, .bin .lss (.t 15) (.t 17), none, [], [15, 17]⟩),
      (4, ⟨some 19, .mv (.t 18), none, [], [18]⟩),
      (5, ⟨some 20, .mv (.t 7), some (19, true), [], []⟩),
      (6, ⟨some 21, .not (.t 20), some (19, true), [], [20]⟩),
      (7, ⟨some 22, .pick (.t 19) (.t 21) (.c (.bool false)), none, [], [19, 21]⟩)])
    (.cond (.t 22)
     (.seq
      (.kill [22])
      .skip)
     (.seq
      (.kill [8, 22])
      (.exit 2))))
   (.seq
    (.block 3
     (.seq
      (.reg false [
        (0, ⟨some 26, .mv (.t 0), none, [], []⟩),
        (1, ⟨some 27, .mv (.t 8), none, [], []⟩),
        (2, ⟨some 28, .ia 1 (.t 26) (.t 27), none, [], []⟩),
        (3, ⟨some 29, .ld 1 false (.t 28), none, [], [28]⟩),
        (4, ⟨some 30, .mv (.t 6), none, [], []⟩),
        (5, ⟨some 31, .call 79 [(.t 29), (.t 30)], none, [], [26, 27, 29, 30]⟩),
        (6, ⟨some 25, .mv (.t 31), none, [], [31]⟩),
        (7, ⟨some 32, .ex (.t 25) 0, none, [], []⟩),
        (8, ⟨some 33, .ex (.t 25) 1, none, [], [25]⟩),
        (9, ⟨some 9, .mv (.t 32), none, [], [32]⟩),
        (10, ⟨some 10, .mv (.t 33), none, [], [33]⟩)])
      (.seq
       (.seq
        (.reg false [
          (0, ⟨some 34, .mv (.t 10), none, [], [10]⟩)])
        (.cond (.t 34)
         (.seq
          (.kill [9, 34])
          (.exit 3))
         (.seq
          (.kill [34])
          .skip)))
       (.seq
        (.seq
         (.reg false [
           (0, ⟨some 35, .mv (.t 9), none, [], []⟩),
           (1, ⟨some 36, .len (.t 35), none, [], [35]⟩),
           (2, ⟨some 37, .bin .eql (.t 36) (.c (.int .i64 (0))), none, [], [36]⟩)])
         (.cond (.t 37)
          (.seq
           (.kill [0, 7, 8, 9, 37])
           (.seq
            (.reg false [
              (0, ⟨some 38, .mv (.t 6), none, [], [6]⟩),
              (1, ⟨some 4, .mv (.t 38), none, [], [38]⟩),
              (2, ⟨some 5, .mv (.c (.bool true)), none, [], []⟩)])
            .ret))
          (.seq
           (.kill [37])
           .skip)))
        (.seq
         (.reg false [
           (0, ⟨some 39, .mv (.t 9), none, [], []⟩),
           (1, ⟨some 40, .len (.t 39), none, [], [39]⟩),
           (2, ⟨some 41, .bin .eql (.t 40) (.c (.int .i64 (1))), none, [], [40]⟩)])
         (.cond (.t 41)
          (.seq
           (.kill [7, 41])
           (.seq
            (.reg false [
              (0, ⟨some 42, .mv (.t 6), none, [], [6]⟩),
              (1, ⟨some 43, .mv (.t 9), none, [], [9]⟩),
              (2, ⟨some 44, .ia 1 (.t 43) (.c (.int .i64 (0))), none, [], []⟩),
              (3, ⟨some 45, .ld 1 false (.t 44), none, [], [43, 44]⟩),
              (4, ⟨some 46, .bsl 1 1 [.int .i64 (0)] [(0, 1, (.t 45))], none, [], [45]⟩),
              (5, ⟨some 47, .app 1 8 (.t 42) (.t 46), none, [], [42, 46]⟩),
              (6, ⟨some 6, .mv (.t 47), none, [], [47]⟩)])
            (.reg false [
              (0, ⟨some 7, .mv (.c (.bool true)), none, [], []⟩)])))
          (.seq
           (.kill [9, 41])
           .skip)))))))
    (.reg false [
      (0, ⟨some 23, .mv (.t 8), none, [], [8]⟩),
      (1, ⟨some 24, .bin .add (.t 23) (.c (.int .i64 (1))), none, [], [23]⟩),
      (2, ⟨some 8, .mv (.t 24), none, [], [24]⟩)])))
def L65_0 : CCode :=
  (.seq
   (.seq
    (.reg false [
      (0, ⟨some 14, .mv (.t 7), none, [], [7]⟩)])
    (.cond (.t 14)
     (.seq
      (.kill [14])
      .skip)
     (.seq
      (.kill [0, 14])
      (.exit 0))))
   (.block 1
    (.seq
     (.reg false [
       (0, ⟨some 7, .mv (.c (.bool false)), none, [], []⟩)])
     (.seq
      (.reg false [
        (0, ⟨some 8, .mv (.c (.int .i64 (0))), none, [], []⟩)])
      (.block 2
       (.loop L65_1))))))
def B65 : CCode :=
  (.seq
   (.reg false [
     (0, ⟨some 4, .mv (.c (.nils)), none, [], [4]⟩),
     (1, ⟨some 5, .mv (.c (.bool false)), none, [], [5]⟩)])
   (.seq
    (.reg false [
      (0, ⟨some 11, .bsl 1 0 [.int .i64 (0)] [], none, [], []⟩),
      (1, ⟨some 12, .mv (.t 1), none, [], [1]⟩),
      (2, ⟨some 13, .app 1 8 (.t 11) (.t 12), none, [], [11, 12]⟩),
      (3, ⟨some 6, .mv (.t 13), none, [], [13]⟩)])
    (.seq
     (.seq
      (.reg false [
        (0, ⟨some 7, .mv (.c (.bool true)), none, [], []⟩)])
      (.block 0
       (.loop L65_0)))
     (.seq
      (.reg false [
        (0, ⟨some 48, .mv (.t 6), none, [], [6]⟩),
        (1, ⟨some 4, .mv (.t 48), none, [], [48]⟩),
        (2, ⟨some 5, .mv (.c (.bool false)), none, [], []⟩)])
      .ret))))
def C65 : CFn := ⟨49, 2, [.t 4, .t 5], B65⟩

/-- spec.l1New -/
def L67_0 : CCode :=
  (.seq
   (.seq
    (.reg false [
      (0, ⟨some 8, .mv (.t 4), none, [], []⟩),
      (1, ⟨some 9, .mv (.t 0), none, [], []⟩),
      (2, ⟨some 10, .len (.t 9), none, [], [9]⟩),
      (3, ⟨some 11, .bin .lss (.t 8) (.t 10), none, [], [8, 10]⟩),
      (4, ⟨some 12, .mv (.t 11), none, [], [11]⟩),
      (5, ⟨some 13, .mv (.t 4), some (12, true), [], []⟩),
      (6, ⟨some 14, .bin .lss (.t 13) (.c (.int .i64 (4000))), some (12, true), [], [13]⟩),
      (7, ⟨some 15, .pick (.t 12) (.t 14) (.c (.bool false)), none, [], [12, 14]⟩)])
    (.cond (.t 15)
     (.seq
      (.kill [15])
      .skip)
     (.seq
      (.kill [4, 15])
      (.exit 0))))
   (.seq
    (.block 1
     (.reg false [
       (0, ⟨some 18, .mv (.t 3), none, [], [3]⟩),
       (1, ⟨some 19, .bin .mul (.t 18) (.c (.int .i64 (131))), none, [], [18]⟩),
       (2, ⟨some 20, .mv (.t 0), none, [], []⟩),
       (3, ⟨some 21, .mv (.t 4), none, [], []⟩),
       (4, ⟨some 22, .ia 1 (.t 20) (.t 21), none, [], []⟩),
       (5, ⟨some 23, .ld 1 false (.t 22), none, [], [20, 21, 22]⟩),
       (6, ⟨some 24, .conv .i64 (.t 23), none, [], [23]⟩),
       (7, ⟨some 25, .bin .add (.t 19) (.t 24), none, [], [19, 24]⟩),
       (8, ⟨some 26, .bin .add (.t 25) (.c (.int .i64 (7))), none, [], [25]⟩),
       (9, ⟨some 27, .bin .and (.t 26) (.c (.int .i64 (1073741823))), none, [], [26]⟩),
       (10, ⟨some 3, .mv (.t 27), none, [], [27]⟩)]))
    (.reg false [
      (0, ⟨some 16, .mv (.t 4), none, [], [4]⟩),
      (1, ⟨some 17, .bin .add (.t 16) (.c (.int .i64 (1))), none, [], [16]⟩),
      (2, ⟨some 4, .mv (.t 17), none, [], [17]⟩)])))
def B67 : CCode :=
  (.seq
   (.reg false [
     (0, ⟨some 2, .mv (.c (.nilp)), none, [], [2]⟩)])
   (.seq
    (.reg false [
      (0, ⟨some 5, .mv (.t 0), none, [], []⟩),
      (1, ⟨some 6, .len (.t 5), none, [], [5]⟩),
      (2, ⟨some 7, .bin .add (.c (.int .i64 (10101))) (.t 6), none, [], [6]⟩),
      (3, ⟨some 3, .mv (.t 7), none, [], [7]⟩)])
    (.seq
     (.seq
      (.reg false [
        (0, ⟨some 4, .mv (.c (.int .i64 (0))), none, [], []⟩)])
      (.block 0
       (.loop L67_0)))
     (.seq
      (.reg false [
        (0, ⟨some 28, .mv (.t 0), none, [], [0]⟩),
        (1, ⟨some 29, .mv (.t 3), none, [], [3]⟩),
        (2, ⟨some 30, .bld [.nils, .int .i64 (0), .int .i64 (0)] [(0, 1, (.t 28)), (2, 1, (.t 29))], none, [], [28, 29]⟩),
        (3, ⟨some 31, .box 3 (.t 30), none, [], [30]⟩),
        (4, ⟨some 2, .mv (.t 31), none, [], [31]⟩)])
      .ret))))
def C67 : CFn := ⟨32, 1, [.t 2], B67⟩

/-- spec.l20Cnf -/
def L68_1 : CCode :=
  (.seq
   (.seq
    (.reg false [
      (0, ⟨some 20, .mv (.t 8), none, [], []⟩),
      (1, ⟨some 21, .mv (.t 4), none, [], []⟩),
      (2, ⟨some 22, .bin .leq (.t 20) (.t 21), none, [], [20, 21]⟩)])
    (.cond (.t 22)
     (.seq
      (.kill [22])
      .skip)
     (.seq
      (.kill [8, 22])
      (.exit 2))))
   (.seq
    (.block 3
     (.seq
      (.reg false [
        (0, ⟨some 25, .mv (.t 0), none, [], []⟩),
        (1, ⟨some 26, .call 81 [(.t 25), (.c (.int .i64 (2)))], none, [], [25]⟩),
        (2, ⟨some 27, .mv (.t 26), none, [], [26]⟩),
        (3, ⟨some 28, .mv (.t 7), some (27, true), [], []⟩),
        (4, ⟨some 29, .len (.t 28), some (27, true), [], [28]⟩),
        (5, ⟨some 30, .bin .lss (.t 29) (.c (.int .i64 (3))), some (27, true), [], [29]⟩),
        (6, ⟨some 31, .pick (.t 27) (.t 30) (.c (.bool false)), none, [], [27, 30]⟩)])
      (.cond (.t 31)
       (.seq
        (.kill [31])
        (.reg false [
          (0, ⟨some 32, .mv (.t 7), none, [], [7]⟩),
          (1, ⟨some 33, .mv (.t 8), none, [], []⟩),
          (2, ⟨some 34, .mv (.t 0), none, [], []⟩),
          (3, ⟨some 35, .call 80 [(.t 34), (.c (.int .i64 (2)))], none, [], [34]⟩),
          (4, ⟨some 36, .bin .mul (.c (.int .i64 (2))) (.t 35), none, [], [35]⟩),
          (5, ⟨some 37, .bin .sub (.c (.int .i64 (1))) (.t 36), none, [], [36]⟩),
          (6, ⟨some 38, .bin .mul (.t 33) (.t 37), none, [], [33, 37]⟩),
          (7, ⟨some 39, .bsl 1 1 [.int .i64 (0)] [(0, 1, (.t 38))], none, [], [38]⟩),
          (8, ⟨some 40, .app 1 8 (.t 32) (.t 39), none, [], [32, 39]⟩),
          (9, ⟨some 7, .mv (.t 40), none, [], [40]⟩)]))
       (.seq
        (.kill [31])
        .skip))))
    (.reg false [
      (0, ⟨some 23, .mv (.t 8), none, [], [8]⟩),
      (1, ⟨some 24, .bin .add (.t 23) (.c (.int .i64 (1))), none, [], [23]⟩),
      (2, ⟨some 8, .mv (.t 24), none, [], [24]⟩)])))
def L68_0 : CCode :=
  (.seq
   (.seq
    (.reg false [
      (0, ⟨some 15, .mv (.t 6), none, [], []⟩),
      (1, ⟨some 16, .bin .gtr (.t 15) (.c (.int .i64 (0))), none, [], [15]⟩)])
    (.cond (.t 16)
     (.seq
      (.kill [16])
      .skip)
     (.seq
      (.kill [6, 16])
      (.exit 0))))
   (.seq
    (.block 1
     (.seq
      (.reg false [
        (0, ⟨some 19, .bsl 1 0 [.int .i64 (0)] [], none, [], []⟩),
        (1, ⟨some 7, .mv (.t 19), none, [], [19]⟩)])
      (.seq
       (.seq
        (.reg false [
          (0, ⟨some 8, .mv (.c (.int .i64 (1))), none, [], []⟩)])
        (.block 2
         (.loop L68_1)))
       (.reg false [
         (0, ⟨some 41, .mv (.t 5), none, [], [5]⟩),
         (1, ⟨some 42, .mv (.t 7), none, [], [7]⟩),
         (2, ⟨some 43, .bsl 1 1 [.nils] [(0, 1, (.t 42))], none, [], [42]⟩),
         (3, ⟨some 44, .app 1 24 (.t 41) (.t 43), none, [], [41, 43]⟩),
         (4, ⟨some 5, .mv (.t 44), none, [], [44]⟩)]))))
    (.reg false [
      (0, ⟨some 17, .mv (.t 6), none, [], [6]⟩),
      (1, ⟨some 18, .bin .sub (.t 17) (.c (.int .i64 (1))), none, [], [17]⟩),
      (2, ⟨some 6, .mv (.t 18), none, [], [18]⟩)])))
def B68 : CCode :=
  (.seq
   (.reg false [
     (0, ⟨some 2, .mv (.c (.int .i64 (0))), none, [], [2]⟩),
     (1, ⟨some 3, .mv (.c (.nils)), none, [], [3]⟩)])
   (.seq
    (.reg false [
      (0, ⟨some 9, .mv (.t 0), none, [], []⟩),
      (1, ⟨some 10, .call 80 [(.t 9), (.c (.int .i64 (5)))], none, [], [9]⟩),
      (2, ⟨some 11, .bin .add (.c (.int .i64 (1))) (.t 10), none, [], [10]⟩),
      (3, ⟨some 4, .mv (.t 11), none, [], [11]⟩)])
    (.seq
     (.reg false [
       (0, ⟨some 12, .bsl 1 0 [.nils] [], none, [], []⟩),
       (1, ⟨some 5, .mv (.t 12), none, [], [12]⟩)])
     (.seq
      (.seq
       (.reg false [
         (0, ⟨some 13, .mv (.t 0), none, [], []⟩),
         (1, ⟨some 14, .call 80 [(.t 13), (.c (.int .i64 (11)))], none, [], [13]⟩),
         (2, ⟨some 6, .mv (.t 14), none, [], [14]⟩)])
       (.block 0
        (.loop L68_0)))
      (.seq
       (.seq
        (.reg false [
          (0, ⟨some 45, .mv (.t 5), none, [], []⟩),
          (1, ⟨some 46, .len (.t 45), none, [], [45]⟩),
          (2, ⟨some 47, .bin .gtr (.t 46) (.c (.int .i64 (0))), none, [], [46]⟩),
          (3, ⟨some 48, .mv (.t 47), none, [], [47]⟩),
          (4, ⟨some 49, .mv (.t 0), some (48, true), [], []⟩),
          (5, ⟨some 50, .call 81 [(.t 49), (.c (.int .i64 (14)))], some (48, true), [], [49]⟩),
          (6, ⟨some 51, .pick (.t 48) (.t 50) (.c (.bool false)), none, [], [48, 50]⟩)])
        (.cond (.t 51)
         (.seq
          (.kill [51])
          (.reg true [
            (0, ⟨some 52, .mv (.t 5), none, [], []⟩),
            (1, ⟨some 53, .mv (.t 5), none, [], []⟩),
            (2, ⟨some 54, .ia 1 (.t 53) (.c (.int .i64 (0))), none, [], []⟩),
            (3, ⟨some 55, .ld 1 false (.t 54), none, [], []⟩),
            (4, ⟨some 56, .mv (.t 0), none, [], []⟩),
            (5, ⟨some 57, .bsl 1 5 [.int .i64 (0)] [(0, 1, (.c (.int .i64 (0)))), (1, 1, (.c (.int .i64 (6)))), (2, 1, (.c (.int .i64 (-7)))), (3, 1, (.c (.int .i64 (1)))), (4, 1, (.c (.int .i64 (-9223372036854775808))))], none, [], []⟩),
            (6, ⟨some 58, .call 82 [(.t 56), (.t 57)], none, [(54, 1)], [54, 56, 57]⟩),
            (7, ⟨some 59, .bsl 1 1 [.int .i64 (0)] [(0, 1, (.t 58))], none, [], [58]⟩),
            (8, ⟨some 60, .app 1 8 (.t 55) (.t 59), none, [], [53, 55, 59]⟩),
            (9, ⟨some 61, .ia 1 (.t 52) (.c (.int .i64 (0))), none, [], []⟩),
            (10, ⟨none, .st 1 (.t 61) (.t 60), none, [], [52, 60, 61]⟩)]))
         (.seq
          (.kill [51])
          .skip)))
       (.seq
        (.reg false [
          (0, ⟨some 62, .mv (.t 4), none, [], [4]⟩),
          (1, ⟨some 63, .mv (.t 5), none, [], [5]⟩),
          (2, ⟨some 2, .mv (.t 62), none, [], [62]⟩),
          (3, ⟨some 3, .mv (.t 63), none, [], [63]⟩)])
        .ret))))))
def C68 : CFn := ⟨64, 1, [.t 2, .t 3], B68⟩

/-- spec.l21Set -/
def L69_0 : CCode :=
  (.seq
   (.seq
    (.reg false [
      (0, ⟨some 8, .mv (.t 6), none, [], []⟩),
      (1, ⟨some 9, .mv (.t 1), none, [], []⟩),
      (2, ⟨some 10, .bin .leq (.t 8) (.t 9), none, [], [8, 9]⟩)])
    (.cond (.t 10)
     (.seq
      (.kill [10])
      .skip)
     (.seq
      (.kill [1, 6, 10])
      (.exit 0))))
   (.seq
    (.block 1
     (.seq
      (.reg false [
        (0, ⟨some 13, .mv (.t 0), none, [], []⟩),
        (1, ⟨some 14, .call 81 [(.t 13), (.c (.int .i64 (3)))], none, [], [13]⟩)])
      (.cond (.t 14)
       (.seq
        (.kill [14])
        (.reg false [
          (0, ⟨some 15, .mv (.t 5), none, [], [5]⟩),
          (1, ⟨some 16, .mv (.t 6), none, [], []⟩),
          (2, ⟨some 17, .mv (.t 0), none, [], []⟩),
          (3, ⟨some 18, .call 80 [(.t 17), (.c (.int .i64 (2)))], none, [], [17]⟩),
          (4, ⟨some 19, .bin .mul (.c (.int .i64 (2))) (.t 18), none, [], [18]⟩),
          (5, ⟨some 20, .bin .sub (.c (.int .i64 (1))) (.t 19), none, [], [19]⟩),
          (6, ⟨some 21, .bin .mul (.t 16) (.t 20), none, [], [16, 20]⟩),
          (7, ⟨some 22, .bsl 1 1 [.int .i64 (0)] [(0, 1, (.t 21))], none, [], [21]⟩),
          (8, ⟨some 23, .app 1 8 (.t 15) (.t 22), none, [], [15, 22]⟩),
          (9, ⟨some 5, .mv (.t 23), none, [], [23]⟩)]))
       (.seq
        (.kill [14])
        .skip))))
    (.reg false [
      (0, ⟨some 11, .mv (.t 6), none, [], [6]⟩),
      (1, ⟨some 12, .bin .add (.t 11) (.c (.int .i64 (1))), none, [], [11]⟩),
      (2, ⟨some 6, .mv (.t 12), none, [], [12]⟩)])))
def B69 : CCode :=
  (.seq
   (.reg false [
     (0, ⟨some 4, .mv (.c (.nils)), none, [], [4]⟩)])
   (.seq
    (.reg false [
      (0, ⟨some 7, .bsl 1 0 [.int .i64 (0)] [], none, [], []⟩),
      (1, ⟨some 5, .mv (.t 7), none, [], [7]⟩)])
    (.seq
     (.seq
      (.reg false [
        (0, ⟨some 6, .mv (.c (.int .i64 (1))), none, [], []⟩)])
      (.block 0
       (.loop L69_0)))
     (.seq
      (.seq
       (.reg false [
         (0, ⟨some 24, .mv (.t 0), none, [], []⟩),
         (1, ⟨some 25, .call 81 [(.t 24), (.c (.int .i64 (14)))], none, [], [24]⟩)])
       (.cond (.t 25)
        (.seq
         (.kill [25])
         (.seq
          (.reg false [
            (0, ⟨some 26, .mv (.t 5), none, [], [5]⟩),
            (1, ⟨some 27, .mv (.t 0), none, [], []⟩),
            (2, ⟨some 28, .bsl 1 3 [.int .i64 (0)] [(0, 1, (.c (.int .i64 (0)))), (1, 1, (.c (.int .i64 (7)))), (2, 1, (.c (.int .i64 (-7))))], none, [], []⟩),
            (3, ⟨some 29, .call 82 [(.t 27), (.t 28)], none, [], [27, 28]⟩),
            (4, ⟨some 30, .bsl 1 1 [.int .i64 (0)] [(0, 1, (.t 29))], none, [], [29]⟩),
            (5, ⟨some 31, .app 1 8 (.t 26) (.t 30), none, [], [26, 30]⟩),
            (6, ⟨some 4, .mv (.t 31), none, [], [31]⟩)])
          .ret))
        (.seq
         (.kill [25])
         .skip)))
      (.seq
       (.reg false [
         (0, ⟨some 32, .mv (.t 5), none, [], [5]⟩),
         (1, ⟨some 4, .mv (.t 32), none, [], [32]⟩)])
       .ret)))))
def C69 : CFn := ⟨33, 2, [.t 4], B69⟩

/-- spec.l7Has -/
def L70_0 : CCode :=
  (.seq
   (.seq
    (.reg false [
      (0, ⟨some 6, .mv (.t 5), none, [], []⟩),
      (1, ⟨some 7, .mv (.t 0), none, [], []⟩),
      (2, ⟨some 8, .len (.t 7), none, [], [7]⟩),
      (3, ⟨some 9, .bin .lss (.t 6) (.t 8), none, [], [6, 8]⟩)])
    (.cond (.t 9)
     (.seq
      (.kill [9])
      .skip)
     (.seq
      (.kill [0, 1, 5, 9])
      (.exit 0))))
   (.seq
    (.block 1
     (.seq
      (.reg false [
        (0, ⟨some 12, .mv (.t 0), none, [], []⟩),
        (1, ⟨some 13, .mv (.t 5), none, [], []⟩),
        (2, ⟨some 14, .ia 1 (.t 12) (.t 13), none, [], []⟩),
        (3, ⟨some 15, .ld 1 false (.t 14), none, [], [12, 13, 14]⟩),
        (4, ⟨some 16, .mv (.t 1), none, [], []⟩),
        (5, ⟨some 17, .bin .eql (.t 15) (.t 16), none, [], [15, 16]⟩)])
      (.cond (.t 17)
       (.seq
        (.kill [0, 1, 5, 17])
        (.seq
         (.reg false [
           (0, ⟨some 4, .mv (.c (.bool true)), none, [], []⟩)])
         .ret))
       (.seq
        (.kill [17])
        .skip))))
    (.reg false [
      (0, ⟨some 10, .mv (.t 5), none, [], [5]⟩),
      (1, ⟨some 11, .bin .add (.t 10) (.c (.int .i64 (1))), none, [], [10]⟩),
      (2, ⟨some 5, .mv (.t 11), none, [], [11]⟩)])))
def B70 : CCode :=
  (.seq
   (.reg false [
     (0, ⟨some 4, .mv (.c (.bool false)), none, [], [4]⟩)])
   (.seq
    (.seq
     (.reg false [
       (0, ⟨some 5, .mv (.c (.int .i64 (0))), none, [], []⟩)])
     (.block 0
      (.loop L70_0)))
    (.seq
     (.reg false [
       (0, ⟨some 4, .mv (.c (.bool false)), none, [], []⟩)])
     .ret)))
def C70 : CFn := ⟨18, 2, [.t 4], B70⟩

/-- slices.IndexFunc[[][]int,[]int] -/
def L71_0 : CCode :=
  (.seq
   (.reg false [
     (0, ⟨some 9, .bin .lss (.t 8) (.t 7), none, [], []⟩)])
   (.seq
    (.cond (.t 9)
     (.seq
      (.kill [9])
      .skip)
     (.seq
      (.kill [0, 1, 7, 8, 9])
      (.exit 0)))
    (.seq
     (.block 1
      (.seq
       (.reg false [
         (0, ⟨some 10, .mv (.t 8), none, [], []⟩),
         (1, ⟨some 5, .mv (.t 10), none, [], [10]⟩)])
       (.seq
        (.reg false [
          (0, ⟨some 11, .mv (.t 1), none, [], []⟩),
          (1, ⟨some 12, .mv (.t 0), none, [], []⟩),
          (2, ⟨some 13, .mv (.t 5), none, [], []⟩),
          (3, ⟨some 14, .ia 1 (.t 12) (.t 13), none, [], []⟩),
          (4, ⟨some 15, .ld 1 false (.t 14), none, [], [14]⟩),
          (5, ⟨some 16, .callv (.t 11) [(.t 15)], none, [], [11, 12, 13, 15]⟩)])
        (.cond (.t 16)
         (.seq
          (.kill [0, 1, 7, 8, 16])
          (.seq
           (.reg false [
             (0, ⟨some 17, .mv (.t 5), none, [], [5]⟩),
             (1, ⟨some 4, .mv (.t 17), none, [], [17]⟩)])
           .ret))
         (.seq
          (.kill [5, 16])
          .skip)))))
     (.reg false [
       (0, ⟨some 18, .bin .add (.t 8) (.c (.int .i64 (1))), none, [], [8]⟩),
       (1, ⟨some 8, .mv (.t 18), none, [], [18]⟩)]))))
def B71 : CCode :=
  (.seq
   (.reg false [
     (0, ⟨some 4, .mv (.c (.int .i64 (0))), none, [], [4]⟩)])
   (.seq
    (.seq
     (.reg false [
       (0, ⟨some 6, .mv (.t 0), none, [], []⟩),
       (1, ⟨some 7, .len (.t 6), none, [], [6]⟩),
       (2, ⟨some 8, .mv (.c (.int .i64 (0))), none, [], []⟩)])
     (.block 0
      (.loop L71_0)))
    (.seq
     (.reg false [
       (0, ⟨some 4, .mv (.c (.int .i64 (-1))), none, [], []⟩)])
     .ret)))
def C71 : CFn := ⟨19, 2, [.t 4], B71⟩

/-- slices.Contains[[]int,int] -/
def B73 : CCode :=
  (.seq
   (.reg false [
     (0, ⟨some 4, .mv (.c (.bool false)), none, [], [4]⟩)])
   (.seq
    (.reg false [
      (0, ⟨some 5, .mv (.t 0), none, [], [0]⟩),
      (1, ⟨some 6, .mv (.t 1), none, [], [1]⟩),
      (2, ⟨some 7, .call 83 [(.t 5), (.t 6)], none, [], [5, 6]⟩),
      (3, ⟨some 8, .bin .geq (.t 7) (.c (.int .i64 (0))), none, [], [7]⟩),
      (4, ⟨some 4, .mv (.t 8), none, [], [8]⟩)])
    .ret))
def C73 : CFn := ⟨9, 2, [.t 4], B73⟩

/-- slices.IndexFunc[[]int,int] -/
def L74_0 : CCode :=
  (.seq
   (.reg false [
     (0, ⟨some 9, .bin .lss (.t 8) (.t 7), none, [], []⟩)])
   (.seq
    (.cond (.t 9)
     (.seq
      (.kill [9])
      .skip)
     (.seq
      (.kill [0, 1, 7, 8, 9])
      (.exit 0)))
    (.seq
     (.block 1
      (.seq
       (.reg false [
         (0, ⟨some 10, .mv (.t 8), none, [], []⟩),
         (1, ⟨some 5, .mv (.t 10), none, [], [10]⟩)])
       (.seq
        (.reg false [
          (0, ⟨some 11, .mv (.t 1), none, [], []⟩),
          (1, ⟨some 12, .mv (.t 0), none, [], []⟩),
          (2, ⟨some 13, .mv (.t 5), none, [], []⟩),
          (3, ⟨some 14, .ia 1 (.t 12) (.t 13), none, [], []⟩),
          (4, ⟨some 15, .ld 1 false (.t 14), none, [], [12, 13, 14]⟩),
          (5, ⟨some 16, .callv (.t 11) [(.t 15)], none, [], [11, 15]⟩)])
        (.cond (.t 16)
         (.seq
          (.kill [0, 1, 7, 8, 16])
          (.seq
           (.reg false [
             (0, ⟨some 17, .mv (.t 5), none, [], [5]⟩),
             (1, ⟨some 4, .mv (.t 17), none, [], [17]⟩)])
           .ret))
         (.seq
          (.kill [5, 16])
          .skip)))))
     (.reg false [
       (0, ⟨some 18, .bin .add (.t 8) (.c (.int .i64 (1))), none, [], [8]⟩),
       (1, ⟨some 8, .mv (.t 18), none, [], [18]⟩)]))))
def B74 : CCode :=
  (.seq
   (.reg false [
     (0, ⟨some 4, .mv (.c (.int .i64 (0))), none, [], [4]⟩)])
   (.seq
    (.seq
     (.reg false [
       (0, ⟨some 6, .mv (.t 0), none, [], []⟩),
       (1, ⟨some 7, .len (.t 6), none, [], [6]⟩),
       (2, ⟨some 8, .mv (.c (.int .i64 (0))), none, [], []⟩)])
     (.block 0
      (.loop L74_0)))
    (.seq
     (.reg false [
       (0, ⟨some 4, .mv (.c (.int .i64 (-1))), none, [], []⟩)])
     .ret)))
def C74 : CFn := ⟨19, 2, [.t 4], B74⟩

/-- impl.within -/
def B75 : CCode :=
  (.seq
   (.reg false [
     (0, ⟨some 6, .mv (.c (.bool false)), none, [], [6]⟩)])
   (.seq
    (.reg false [
      (0, ⟨some 7, .mv (.t 1), none, [], [1]⟩),
      (1, ⟨some 8, .mv (.t 0), none, [], []⟩),
      (2, ⟨some 9, .bin .leq (.t 7) (.t 8), none, [], [7, 8]⟩),
      (3, ⟨some 10, .mv (.t 9), none, [], [9]⟩),
      (4, ⟨some 11, .mv (.t 0), some (10, true), [], [0]⟩),
      (5, ⟨some 12, .mv (.t 2), some (10, true), [], [2]⟩),
      (6, ⟨some 13, .bin .leq (.t 11) (.t 12), some (10, true), [], [11, 12]⟩),
      (7, ⟨some 14, .pick (.t 10) (.t 13) (.c (.bool false)), none, [], [10, 13]⟩),
      (8, ⟨some 6, .mv (.t 14), none, [], [14]⟩)])
    .ret))
def C75 : CFn := ⟨15, 3, [.t 6], B75⟩

/-- impl.areClauses$1 -/
def B76 : CCode :=
  (.seq
   (.reg false [
     (0, ⟨some 3, .mv (.c (.bool false)), none, [], [3]⟩)])
   (.seq
    (.reg false [
      (0, ⟨some 4, .ld 1 false (.t 1), none, [], [1]⟩),
      (1, ⟨some 5, .mv (.t 0), none, [], [0]⟩),
      (2, ⟨some 6, .call 63 [(.t 4), (.t 5)], none, [], [4, 5]⟩),
      (3, ⟨some 7, .not (.t 6), none, [], [6]⟩),
      (4, ⟨some 3, .mv (.t 7), none, [], [7]⟩)])
    .ret))
def C76 : CFn := ⟨8, 2, [.t 3], B76⟩

/-- impl.propagate$1 -/
def B77 : CCode :=
  (.seq
   (.reg false [
     (0, ⟨some 3, .mv (.c (.bool false)), none, [], [3]⟩)])
   (.seq
    (.reg false [
      (0, ⟨some 4, .ld 1 false (.t 1), none, [], []⟩),
      (1, ⟨some 5, .mv (.t 0), none, [], [0]⟩),
      (2, ⟨some 6, .call 73 [(.t 4), (.t 5)], none, [], [1, 4, 5]⟩),
      (3, ⟨some 3, .mv (.t 6), none, [], [6]⟩)])
    .ret))
def C77 : CFn := ⟨7, 2, [.t 3], B77⟩

/-- impl.without -/
def L78_0 : CCode :=
  (.seq
   (.reg false [
     (0, ⟨some 12, .bin .lss (.t 11) (.t 10), none, [], []⟩)])
   (.seq
    (.cond (.t 12)
     (.seq
      (.kill [12])
      .skip)
     (.seq
      (.kill [1, 9, 10, 11, 12])
      (.exit 0)))
    (.seq
     (.block 1
      (.seq
       (.reg false [
         (0, ⟨some 13, .ia 1 (.t 9) (.t 11), none, [], []⟩),
         (1, ⟨some 14, .ld 1 false (.t 13), none, [], [13]⟩),
         (2, ⟨some 7, .mv (.t 14), none, [], [14]⟩)])
       (.seq
        (.reg false [
          (0, ⟨some 15, .mv (.t 1), none, [], []⟩),
          (1, ⟨some 16, .mv (.t 7), none, [], []⟩),
          (2, ⟨some 17, .call 73 [(.t 15), (.t 16)], none, [], [15, 16]⟩),
          (3, ⟨some 18, .not (.t 17), none, [], [17]⟩)])
        (.cond (.t 18)
         (.seq
          (.kill [18])
          (.reg false [
            (0, ⟨some 19, .mv (.t 5), none, [], [5]⟩),
            (1, ⟨some 20, .mv (.t 7), none, [], [7]⟩),
            (2, ⟨some 21, .bsl 1 1 [.int .i64 (0)] [(0, 1, (.t 20))], none, [], [20]⟩),
            (3, ⟨some 22, .app 1 8 (.t 19) (.t 21), none, [], [19, 21]⟩),
            (4, ⟨some 5, .mv (.t 22), none, [], [22]⟩)]))
         (.seq
          (.kill [7, 18])
          .skip)))))
     (.reg false [
       (0, ⟨some 23, .bin .add (.t 11) (.c (.int .i64 (1))), none, [], [11]⟩),
       (1, ⟨some 11, .mv (.t 23), none, [], [23]⟩)]))))
def B78 : CCode :=
  (.seq
   (.reg false [
     (0, ⟨some 4, .mv (.c (.nils)), none, [], [4]⟩)])
   (.seq
    (.reg false [
      (0, ⟨some 8, .bsl 1 0 [.int .i64 (0)] [], none, [], []⟩),
      (1, ⟨some 5, .mv (.t 8), none, [], [8]⟩)])
    (.seq
     (.seq
      (.reg false [
        (0, ⟨some 9, .mv (.t 0), none, [], [0]⟩),
        (1, ⟨some 10, .len (.t 9), none, [], []⟩),
        (2, ⟨some 11, .mv (.c (.int .i64 (0))), none, [], []⟩)])
      (.block 0
       (.loop L78_0)))
     (.seq
      (.reg false [
        (0, ⟨some 24, .mv (.t 5), none, [], [5]⟩),
        (1, ⟨some 4, .mv (.t 24), none, [], [24]⟩)])
      .ret))))
def C78 : CFn := ⟨25, 2, [.t 4], B78⟩

/-- spec.l21Left -/
def L79_0 : CCode :=
  (.seq
   (.seq
    (.reg false [
      (0, ⟨some 9, .mv (.t 7), none, [], []⟩),
      (1, ⟨some 10, .mv (.t 0), none, [], []⟩),
      (2, ⟨some 11, .len (.t 10), none, [], [10]⟩),
      (3, ⟨some 12, .bin .lss (.t 9) (.t 11), none, [], [9, 11]⟩)])
    (.cond (.t 12)
     (.seq
      (.kill [12])
      .skip)
     (.seq
      (.kill [0, 1, 7, 12])
      (.exit 0))))
   (.seq
    (.block 1
     (.seq
      (.seq
       (.reg false [
         (0, ⟨some 15, .mv (.t 1), none, [], []⟩),
         (1, ⟨some 16, .mv (.t 0), none, [], []⟩),
         (2, ⟨some 17, .mv (.t 7), none, [], []⟩),
         (3, ⟨some 18, .ia 1 (.t 16) (.t 17), none, [], []⟩),
         (4, ⟨some 19, .ld 1 false (.t 18), none, [], [16, 17, 18]⟩),
         (5, ⟨some 20, .call 70 [(.t 15), (.t 19)], none, [], [15, 19]⟩)])
       (.cond (.t 20)
        (.seq
         (.kill [0, 1, 7, 20])
         (.seq
          (.reg false [
            (0, ⟨some 21, .mv (.t 6), none, [], [6]⟩),
            (1, ⟨some 4, .mv (.t 21), none, [], [21]⟩),
            (2, ⟨some 5, .mv (.c (.bool true)), none, [], []⟩)])
          .ret))
        (.seq
         (.kill [20])
         .skip)))
      (.seq
       (.reg false [
         (0, ⟨some 22, .mv (.t 1), none, [], []⟩),
         (1, ⟨some 23, .mv (.t 0), none, [], []⟩),
         (2, ⟨some 24, .mv (.t 7), none, [], []⟩),
         (3, ⟨some 25, .ia 1 (.t 23) (.t 24), none, [], []⟩),
         (4, ⟨some 26, .ld 1 false (.t 25), none, [], [23, 24, 25]⟩),
         (5, ⟨some 27, .neg (.t 26), none, [], [26]⟩),
         (6, ⟨some 28, .call 70 [(.t 22), (.t 27)], none, [], [22, 27]⟩),
         (7, ⟨some 29, .not (.t 28), none, [], [28]⟩)])
       (.cond (.t 29)
        (.seq
         (.kill [29])
         (.reg false [
           (0, ⟨some 30, .mv (.t 6), none, [], [6]⟩),
           (1, ⟨some 31, .mv (.t 0), none, [], []⟩),
           (2, ⟨some 32, .mv (.t 7), none, [], []⟩),
           (3, ⟨some 33, .ia 1 (.t 31) (.t 32), none, [], []⟩),
           (4, ⟨some 34, .ld 1 false (.t 33), none, [], [31, 32, 33]⟩),
           (5, ⟨some 35, .bsl 1 1 [.int .i64 (0)] [(0, 1, (.t 34))], none, [], [34]⟩),
           (6, ⟨some 36, .app 1 8 (.t 30) (.t 35), none, [], [30, 35]⟩),
           (7, ⟨some 6, .mv (.t 36), none, [], [36]⟩)]))
        (.seq
         (.kill [29])
         .skip)))))
    (.reg false [
      (0, ⟨some 13, .mv (.t 7), none, [], [7]⟩),
      (1, ⟨some 14, .bin .add (.t 13) (.c (.int .i64 (1))), none, [], [13]⟩),
      (2, ⟨some 7, .mv (.t 14), none, [], [14]⟩)])))
def B79 : CCode :=
  (.seq
   (.reg false [
     (0, ⟨some 4, .mv (.c (.nils)), none, [], [4]⟩),
     (1, ⟨some 5, .mv (.c (.bool false)), none, [], [5]⟩)])
   (.seq
    (.reg false [
      (0, ⟨some 8, .bsl 1 0 [.int .i64 (0)] [], none, [], []⟩),
      (1, ⟨some 6, .mv (.t 8), none, [], [8]⟩)])
    (.seq
     (.seq
      (.reg false [
        (0, ⟨some 7, .mv (.c (.int .i64 (0))), none, [], []⟩)])
      (.block 0
       (.loop L79_0)))
     (.seq
      (.reg false [
        (0, ⟨some 37, .mv (.t 6), none, [], [6]⟩),
        (1, ⟨some 4, .mv (.t 37), none, [], [37]⟩),
        (2, ⟨some 5, .mv (.c (.bool false)), none, [], []⟩)])
      .ret))))
def C79 : CFn := ⟨38, 2, [.t 4, .t 5], B79⟩

/-- spec.l1Below -/
def B80 : CCode :=
  (.seq
   (.reg false [
     (0, ⟨some 4, .mv (.c (.int .i64 (0))), none, [], [4]⟩)])
   (.seq
    (.seq
     (.reg false [
       (0, ⟨some 9, .mv (.t 1), none, [], []⟩),
       (1, ⟨some 10, .bin .leq (.t 9) (.c (.int .i64 (0))), none, [], [9]⟩)])
     (.cond (.t 10)
      (.seq
       (.kill [1, 10])
       (.seq
        (.reg false [
          (0, ⟨some 4, .mv (.c (.int .i64 (0))), none, [], []⟩)])
        .ret))
      (.seq
       (.kill [10])
       .skip)))
    (.seq
     (.seq
      (.reg false [
        (0, ⟨some 11, .mv (.t 1), none, [], []⟩),
        (1, ⟨some 12, .bin .leq (.t 11) (.c (.int .i64 (256))), none, [], [11]⟩)])
      (.cond (.t 12)
       (.seq
        (.kill [12])
        (.seq
         (.reg false [
           (0, ⟨some 13, .mv (.t 0), none, [], []⟩),
           (1, ⟨some 14, .call 84 [(.t 13)], none, [], [13]⟩),
           (2, ⟨some 15, .mv (.t 1), none, [], [1]⟩),
           (3, ⟨some 16, .bin .rem (.t 14) (.t 15), none, [], [14, 15]⟩),
           (4, ⟨some 4, .mv (.t 16), none, [], [16]⟩)])
         .ret))
       (.seq
        (.kill [12])
        .skip)))
     (.seq
      (.reg false [
        (0, ⟨some 17, .mv (.t 0), none, [], []⟩),
        (1, ⟨some 18, .call 84 [(.t 17)], none, [], [17]⟩),
        (2, ⟨some 5, .mv (.t 18), none, [], [18]⟩)])
      (.seq
       (.reg false [
         (0, ⟨some 19, .mv (.t 0), none, [], []⟩),
         (1, ⟨some 20, .call 84 [(.t 19)], none, [], [19]⟩),
         (2, ⟨some 6, .mv (.t 20), none, [], [20]⟩)])
       (.seq
        (.reg false [
          (0, ⟨some 21, .mv (.t 0), none, [], []⟩),
          (1, ⟨some 22, .call 84 [(.t 21)], none, [], [21]⟩),
          (2, ⟨some 7, .mv (.t 22), none, [], [22]⟩)])
        (.seq
         (.reg false [
           (0, ⟨some 23, .mv (.t 0), none, [], []⟩),
           (1, ⟨some 24, .call 84 [(.t 23)], none, [], [23]⟩),
           (2, ⟨some 8, .mv (.t 24), none, [], [24]⟩)])
         (.seq
          (.reg false [
            (0, ⟨some 25, .mv (.t 5), none, [], [5]⟩),
            (1, ⟨some 26, .bin .mul (.t 25) (.c (.int .i64 (16777216))), none, [], [25]⟩),
            (2, ⟨some 27, .mv (.t 6), none, [], [6]⟩),
            (3, ⟨some 28, .bin .mul (.t 27) (.c (.int .i64 (65536))), none, [], [27]⟩),
            (4, ⟨some 29, .bin .add (.t 26) (.t 28), none, [], [26, 28]⟩),
            (5, ⟨some 30, .mv (.t 7), none, [], [7]⟩),
            (6, ⟨some 31, .bin .mul (.t 30) (.c (.int .i64 (256))), none, [], [30]⟩),
            (7, ⟨some 32, .bin .add (.t 29) (.t 31), none, [], [29, 31]⟩),
            (8, ⟨some 33, .mv (.t 8), none, [], [8]⟩),
            (9, ⟨some 34, .bin .add (.t 32) (.t 33), none, [], [32, 33]⟩),
            (10, ⟨some 35, .mv (.t 1), none, [], [1]⟩),
            (11, ⟨some 36, .bin .rem (.t 34) (.t 35), none, [], [34, 35]⟩),
            (12, ⟨some 4, .mv (.t 36), none, [], [36]⟩)])
          .ret))))))))
def C80 : CFn := ⟨37, 2, [.t 4], B80⟩

/-- spec.l1Once -/
def B81 : CCode :=
  (.seq
   (.reg false [
     (0, ⟨some 4, .mv (.c (.bool false)), none, [], [4]⟩)])
   (.seq
    (.reg false [
      (0, ⟨some 5, .mv (.t 0), none, [], []⟩),
      (1, ⟨some 6, .mv (.t 1), none, [], [1]⟩),
      (2, ⟨some 7, .call 80 [(.t 5), (.t 6)], none, [], [5, 6]⟩),
      (3, ⟨some 8, .bin .eql (.t 7) (.c (.int .i64 (0))), none, [], [7]⟩),
      (4, ⟨some 4, .mv (.t 8), none, [], [8]⟩)])
    .ret))
def C81 : CFn := ⟨9, 2, [.t 4], B81⟩

/-- spec.l1PickInt -/
def B82 : CCode :=
  (.seq
   (.reg false [
     (0, ⟨some 4, .mv (.c (.int .i64 (0))), none, [], [4]⟩)])
   (.seq
    (.reg false [
      (0, ⟨some 5, .mv (.t 1), none, [], []⟩),
      (1, ⟨some 6, .mv (.t 0), none, [], []⟩),
      (2, ⟨some 7, .mv (.t 1), none, [], [1]⟩),
      (3, ⟨some 8, .len (.t 7), none, [], [7]⟩),
      (4, ⟨some 9, .call 80 [(.t 6), (.t 8)], none, [], [6, 8]⟩),
      (5, ⟨some 10, .ia 1 (.t 5) (.t 9), none, [], []⟩),
      (6, ⟨some 11, .ld 1 false (.t 10), none, [], [5, 9, 10]⟩),
      (7, ⟨some 4, .mv (.t 11), none, [], [11]⟩)])
    .ret))
def C82 : CFn := ⟨12, 2, [.t 4], B82⟩

/-- slices.Index[[]int,int] -/
def L83_0 : CCode :=
  (.seq
   (.reg false [
     (0, ⟨some 9, .bin .lss (.t 8) (.t 7), none, [], []⟩)])
   (.seq
    (.cond (.t 9)
     (.seq
      (.kill [9])
      .skip)
     (.seq
      (.kill [0, 1, 7, 8, 9])
      (.exit 0)))
    (.seq
     (.block 1
      (.seq
       (.reg false [
         (0, ⟨some 10, .mv (.t 8), none, [], []⟩),
         (1, ⟨some 5, .mv (.t 10), none, [], [10]⟩)])
       (.seq
        (.reg false [
          (0, ⟨some 11, .mv (.t 1), none, [], []⟩),
          (1, ⟨some 12, .mv (.t 0), none, [], []⟩),
          (2, ⟨some 13, .mv (.t 5), none, [], []⟩),
          (3, ⟨some 14, .ia 1 (.t 12) (.t 13), none, [], []⟩),
          (4, ⟨some 15, .ld 1 false (.t 14), none, [], [12, 13, 14]⟩),
          (5, ⟨some 16, .bin .eql (.t 11) (.t 15), none, [], [11, 15]⟩)])
        (.cond (.t 16)
         (.seq
          (.kill [0, 1, 7, 8, 16])
          (.seq
           (.reg false [
             (0, ⟨some 17, .mv (.t 5), none, [], [5]⟩),
             (1, ⟨some 4, .mv (.t 17), none, [], [17]⟩)])
           .ret))
         (.seq
          (.kill [5, 16])
          .skip)))))
     (.reg false [
       (0, ⟨some 18, .bin .add (.t 8) (.c (.int .i64 (1))), none, [], [8]⟩),
       (1, ⟨some 8, .mv (.t 18), none, [], [18]⟩)]))))
def B83 : CCode :=
  (.seq
   (.reg false [
     (0, ⟨some 4, .mv (.c (.int .i64 (0))), none, [], [4]⟩)])
   (.seq
    (.seq
     (.reg false [
       (0, ⟨some 6, .mv (.t 0), none, [], []⟩),
       (1, ⟨some 7, .len (.t 6), none, [], [6]⟩),
       (2, ⟨some 8, .mv (.c (.int .i64 (0))), none, [], []⟩)])
     (.block 0
      (.loop L83_0)))
    (.seq
     (.reg false [
       (0, ⟨some 4, .mv (.c (.int .i64 (-1))), none, [], []⟩)])
     .ret)))
def C83 : CFn := ⟨19, 2, [.t 4], B83⟩

/-- spec.l1Byte -/
def B84 : CCode :=
  (.seq
   (.reg false [
     (0, ⟨some 2, .mv (.c (.int .i64 (0))), none, [], [2]⟩)])
   (.seq
    (.reg false [
      (0, ⟨some 4, .mv (.t 0), none, [], []⟩),
      (1, ⟨some 5, .mv (.t 0), none, [], []⟩),
      (2, ⟨some 6, .nc (.t 5), none, [], []⟩),
      (3, ⟨some 7, .fa 2 (.t 6), none, [], [6]⟩),
      (4, ⟨some 8, .ld 1 false (.t 7), none, [], [5, 7]⟩),
      (5, ⟨some 9, .bin .mul (.t 8) (.c (.int .i64 (6364136223846793005))), none, [], [8]⟩),
      (6, ⟨some 10, .bin .add (.t 9) (.c (.int .i64 (1442695040888963407))), none, [], [9]⟩),
      (7, ⟨some 11, .nc (.t 4), none, [], []⟩),
      (8, ⟨some 12, .fa 2 (.t 11), none, [], [11]⟩),
      (9, ⟨none, .st 1 (.t 12) (.t 10), none, [], [4, 10, 12]⟩)])
    (.seq
     (.reg true [
       (0, ⟨some 13, .mv (.t 0), none, [], []⟩),
       (1, ⟨some 14, .nc (.t 13), none, [], []⟩),
       (2, ⟨some 15, .fa 2 (.t 14), none, [], [14]⟩),
       (3, ⟨some 16, .ld 1 false (.t 15), none, [], [13, 15]⟩),
       (4, ⟨some 17, .bin .shr (.t 16) (.c (.int .u64 (33))), none, [], [16]⟩),
       (5, ⟨some 18, .mv (.t 0), none, [], []⟩),
       (6, ⟨some 19, .nc (.t 18), none, [], []⟩),
       (7, ⟨some 20, .fa 2 (.t 19), none, [], [19]⟩),
       (8, ⟨some 21, .ld 1 false (.t 20), none, [], [18, 20]⟩),
       (9, ⟨some 22, .bin .shr (.t 21) (.c (.int .u64 (45))), none, [], [21]⟩),
       (10, ⟨some 23, .bin .xor (.t 17) (.t 22), none, [], [17, 22]⟩),
       (11, ⟨some 24, .bin .and (.t 23) (.c (.int .i64 (255))), none, [], [23]⟩),
       (12, ⟨some 3, .mv (.t 24), none, [], [24]⟩)])
     (.seq
      (.seq
       (.reg true [
         (0, ⟨some 25, .mv (.t 0), none, [], []⟩),
         (1, ⟨some 26, .nc (.t 25), none, [], []⟩),
         (2, ⟨some 27, .fa 1 (.t 26), none, [], [26]⟩),
         (3, ⟨some 28, .ld 1 false (.t 27), none, [], [25, 27]⟩),
         (4, ⟨some 29, .mv (.t 0), none, [], []⟩),
         (5, ⟨some 30, .nc (.t 29), none, [], []⟩),
         (6, ⟨some 31, .fa 0 (.t 30), none, [], [30]⟩),
         (7, ⟨some 32, .ld 1 false (.t 31), none, [], [31]⟩),
         (8, ⟨some 33, .len (.t 32), none, [], [29, 32]⟩),
         (9, ⟨some 34, .bin .lss (.t 28) (.t 33), none, [], [28, 33]⟩)])
       (.cond (.t 34)
        (.seq
         (.kill [34])
         (.seq
          (.reg true [
            (0, ⟨some 35, .mv (.t 3), none, [], [3]⟩),
            (1, ⟨some 36, .mv (.t 0), none, [], []⟩),
            (2, ⟨some 37, .nc (.t 36), none, [], []⟩),
            (3, ⟨some 38, .fa 0 (.t 37), none, [], [37]⟩),
            (4, ⟨some 39, .ld 1 false (.t 38), none, [], [38]⟩),
            (5, ⟨some 40, .mv (.t 0), none, [], []⟩),
            (6, ⟨some 41, .nc (.t 40), none, [], []⟩),
            (7, ⟨some 42, .fa 1 (.t 41), none, [], [41]⟩),
            (8, ⟨some 43, .ld 1 false (.t 42), none, [], [40, 42]⟩),
            (9, ⟨some 44, .ia 1 (.t 39) (.t 43), none, [], [39]⟩),
            (10, ⟨some 45, .ld 1 false (.t 44), none, [], [36, 43, 44]⟩),
            (11, ⟨some 46, .conv .i64 (.t 45), none, [], [45]⟩),
            (12, ⟨some 47, .bin .add (.t 35) (.t 46), none, [], [35, 46]⟩),
            (13, ⟨some 48, .bin .and (.t 47) (.c (.int .i64 (255))), none, [], [47]⟩),
            (14, ⟨some 3, .mv (.t 48), none, [], [48]⟩)])
          (.reg false [
            (0, ⟨some 49, .mv (.t 0), none, [], []⟩),
            (1, ⟨some 50, .mv (.t 0), none, [], []⟩),
            (2, ⟨some 51, .nc (.t 50), none, [], []⟩),
            (3, ⟨some 52, .fa 1 (.t 51), none, [], [51]⟩),
            (4, ⟨some 53, .ld 1 false (.t 52), none, [], [50, 52]⟩),
            (5, ⟨some 54, .bin .add (.t 53) (.c (.int .i64 (1))), none, [], [53]⟩),
            (6, ⟨some 55, .nc (.t 49), none, [], []⟩),
            (7, ⟨some 56, .fa 1 (.t 55), none, [], [55]⟩),
            (8, ⟨none, .st 1 (.t 56) (.t 54), none, [], [49, 54, 56]⟩)])))
        (.seq
         (.kill [34])
         .skip)))
      (.seq
       (.reg false [
         (0, ⟨some 57, .mv (.t 3), none, [], [3]⟩),
         (1, ⟨some 2, .mv (.t 57), none, [], [57]⟩)])
       .ret)))))
def C84 : CFn := ⟨58, 1, [.t 2], B84⟩

theorem chk14 : chkFn Go.Proofs.Try.prog 14 C14 = true := by kernel_rfl
theorem chk15 : chkFn Go.Proofs.Try.prog 15 C15 = true := by kernel_rfl
theorem chk17 : chkFn Go.Proofs.Try.prog 17 C17 = true := by kernel_rfl
theorem chk31 : chkFn Go.Proofs.Try.prog 31 C31 = true := by kernel_rfl
theorem chk33 : chkFn Go.Proofs.Try.prog 33 C33 = true := by kernel_rfl
theorem chk34 : chkFn Go.Proofs.Try.prog 34 C34 = true := by kernel_rfl
theorem chk41 : chkFn Go.Proofs.Try.prog 41 C41 = true := by kernel_rfl
theorem chk42 : chkFn Go.Proofs.Try.prog 42 C42 = true := by kernel_rfl
theorem chk43 : chkFn Go.Proofs.Try.prog 43 C43 = true := by kernel_rfl
theorem chk47 : chkFn Go.Proofs.Try.prog 47 C47 = true := by kernel_rfl
theorem chk48 : chkFn Go.Proofs.Try.prog 48 C48 = true := by kernel_rfl
theorem chk50 : chkFn Go.Proofs.Try.prog 50 C50 = true := by kernel_rfl
theorem chk53 : chkFn Go.Proofs.Try.prog 53 C53 = true := by kernel_rfl
theorem chk57 : chkFn Go.Proofs.Try.prog 57 C57 = true := by kernel_rfl
theorem chk60 : chkFn Go.Proofs.Try.prog 60 C60 = true := by kernel_rfl
theorem chk61 : chkFn Go.Proofs.Try.prog 61 C61 = true := by kernel_rfl
theorem chk62 : chkFn Go.Proofs.Try.prog 62 C62 = true := by kernel_rfl
theorem chk63 : chkFn Go.Proofs.Try.prog 63 C63 = true := by kernel_rfl
theorem chk64 : chkFn Go.Proofs.Try.prog 64 C64 = true := by kernel_rfl
theorem chk65 : chkFn Go.Proofs.Try.prog 65 C65 = true := by kernel_rfl
theorem chk67 : chkFn Go.Proofs.Try.prog 67 C67 = true := by kernel_rfl
theorem chk68 : chkFn Go.Proofs.Try.prog 68 C68 = true := by kernel_rfl
theorem chk69 : chkFn Go.Proofs.Try.prog 69 C69 = true := by kernel_rfl
theorem chk70 : chkFn Go.Proofs.Try.prog 70 C70 = true := by kernel_rfl
theorem chk71 : chkFn Go.Proofs.Try.prog 71 C71 = true := by kernel_rfl
theorem chk73 : chkFn Go.Proofs.Try.prog 73 C73 = true := by kernel_rfl
theorem chk74 : chkFn Go.Proofs.Try.prog 74 C74 = true := by kernel_rfl
theorem chk75 : chkFn Go.Proofs.Try.prog 75 C75 = true := by kernel_rfl
theorem chk76 : chkFn Go.Proofs.Try.prog 76 C76 = true := by kernel_rfl
theorem chk77 : chkFn Go.Proofs.Try.prog 77 C77 = true := by kernel_rfl
theorem chk78 : chkFn Go.Proofs.Try.prog 78 C78 = true := by kernel_rfl
theorem chk79 : chkFn Go.Proofs.Try.prog 79 C79 = true := by kernel_rfl
theorem chk80 : chkFn Go.Proofs.Try.prog 80 C80 = true := by kernel_rfl
theorem chk81 : chkFn Go.Proofs.Try.prog 81 C81 = true := by kernel_rfl
theorem chk82 : chkFn Go.Proofs.Try.prog 82 C82 = true := by kernel_rfl
theorem chk83 : chkFn Go.Proofs.Try.prog 83 C83 = true := by kernel_rfl
theorem chk84 : chkFn Go.Proofs.Try.prog 84 C84 = true := by kernel_rfl
def Tab (f : Nat) : Option CFn :=
  match f with
  | 14 => some C14
  | 15 => some C15
  | 17 => some C17
  | 31 => some C31
  | 33 => some C33
  | 34 => some C34
  | 41 => some C41
  | 42 => some C42
  | 43 => some C43
  | 47 => some C47
  | 48 => some C48
  | 50 => some C50
  | 53 => some C53
  | 57 => some C57
  | 60 => some C60
  | 61 => some C61
  | 62 => some C62
  | 63 => some C63
  | 64 => some C64
  | 65 => some C65
  | 67 => some C67
  | 68 => some C68
  | 69 => some C69
  | 70 => some C70
  | 71 => some C71
  | 73 => some C73
  | 74 => some C74
  | 75 => some C75
  | 76 => some C76
  | 77 => some C77
  | 78 => some C78
  | 79 => some C79
  | 80 => some C80
  | 81 => some C81
  | 82 => some C82
  | 83 => some C83
  | 84 => some C84
  | _ => none
theorem tabOk : TabOk Go.Proofs.Try.prog Tab := by
  intro f cf h
  unfold Tab at h
  split at h <;> simp only [Option.some.injEq, reduceCtorEq] at h <;> subst h
  · exact chk14
  · exact chk15
  · exact chk17
  · exact chk31
  · exact chk33
  · exact chk34
  · exact chk41
  · exact chk42
  · exact chk43
  · exact chk47
  · exact chk48
  · exact chk50
  · exact chk53
  · exact chk57
  · exact chk60
  · exact chk61
  · exact chk62
  · exact chk63
  · exact chk64
  · exact chk65
  · exact chk67
  · exact chk68
  · exact chk69
  · exact chk70
  · exact chk71
  · exact chk73
  · exact chk74
  · exact chk75
  · exact chk76
  · exact chk77
  · exact chk78
  · exact chk79
  · exact chk80
  · exact chk81
  · exact chk82
  · exact chk83
  · exact chk84

end Go.Proofs.YthfbkecnnllpkaaH
