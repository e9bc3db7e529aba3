import Derived.Test.YtjmemfggbhkofaaGreatX4
import Derived.Test.YtjmemfggbhkofaaGreatProg
set_option linter.unusedVariables false
set_option maxRecDepth 100000
namespace Go.Proofs.YtjmemfggbhkofaaGreatH
open Go
@[simp] abbrev oP (d : Nat) (p : COp) (k : List Nat) : COper := ⟨some d, p, none, [], k⟩
@[simp] abbrev oT (d a : Nat) (k : List Nat) : COper := ⟨some d, .mv (.t a), none, [], k⟩
@[simp] abbrev oG (d : Nat) (p : COp) (g : Nat) (b : Bool) (k : List Nat) : COper := ⟨some d, p, some (g, b), [], k⟩
@[simp] abbrev oL (d w a : Nat) (k : List Nat) : COper := ⟨some d, .ld w false (.t a), none, [], k⟩
@[simp] abbrev oM (d w a : Nat) (k : List Nat) : COper := ⟨some d, .ld w true (.t a), none, [], k⟩
@[simp] abbrev oF (d i a : Nat) (k : List Nat) : COper := ⟨some d, .fa i (.t a), none, [], k⟩
@[simp] abbrev oI (d w a b : Nat) (k : List Nat) : COper := ⟨some d, .ia w (.t a) (.t b), none, [], k⟩
@[simp] abbrev oB (d : Nat) (o : BinOp) (a b : Nat) (k : List Nat) : COper := ⟨some d, .bin o (.t a) (.t b), none, [], k⟩
@[simp] abbrev oC (d : Nat) (o : BinOp) (a : Nat) (n : Int) (k : List Nat) : COper := ⟨some d, .bin o (.t a) (.c (.int .i64 n)), none, [], k⟩
@[simp] abbrev oN (d a : Nat) (k : List Nat) : COper := ⟨some d, .len (.t a), none, [], k⟩
@[simp] abbrev oZ (d : Nat) (n : Int) (k : List Nat) : COper := ⟨some d, .mv (.c (.int .i64 n)), none, [], k⟩
@[simp] abbrev oY (d : Nat) (b : Bool) (k : List Nat) : COper := ⟨some d, .mv (.c (.bool b)), none, [], k⟩
abbrev sR (l : List (Nat × COper)) (c : CCode) : CCode := .seq (.reg false l) c
abbrev sK (l : List Nat) (c : CCode) : CCode := .seq (.kill l) c
abbrev B6 : CCode := (sR [(0,oP 2 (.box 2 (.t 0)) [0]),(1,oP 3 (.box 3 (.t 1)) [1]),(2,oY 4 false [4])] (sR [(0,oZ 5 1048576 [])] (sR [(0,oM 14 2 2 []),(1,oT 15 5 [5]),(2,oP 16 (.call 26 [.t 14,.t 15]) [14,15]),(3,oT 5
16 [16])] (.seq (sR [(0,oT 17 5 []),(1,oC 18 .lss 17 0 [17])] (.cond (.t 18) (sK [2,3,5,18] (sR [(0,oY 4 true [])] .ret)) (sK [18] .skip))) (sR [(0,oM 19 3 3 []),(1,oT 20 5 [5]),(2,oP 21 (.call 27 [.t 19,.t 20])
[19,20]),(3,oT 5 21 [21])] (.seq (sR [(0,oT 22 5 [5]),(1,oC 23 .lss 22 0 [22])] (.cond (.t 23) (sK [2,3,23] (sR [(0,oY 4 true [])] .ret)) (sK [23] .skip))) (.seq (.reg true [(0,oM 24 2 2 []),(2,oM 26 3 3 []),(5,oP 6
(.al [.nils,.nils]) []),(1,⟨some 25,.call 28 [.t 24],none,[(3,3)],[24]⟩),(3,oP 27 (.call 29 [.t 26]) [26]),(4,oP 28 (.call 14 [.t 25,.t 27]) [25,27]),(6,⟨none,.st 2 (.t 6) (.t 28),none,[],[28]⟩)]) (sR [(0,oM 29 2 2
[]),(1,oP 30 (.call 28 [.t 29]) [29]),(2,oP 7 (.al [.nils,.nils]) []),(3,⟨none,.st 2 (.t 7) (.t 30),none,[],[30]⟩)] (sR [(0,oM 31 3 3 []),(1,oP 32 (.call 29 [.t 31]) [31]),(2,oP 8 (.al [.int .i64 (0),.nils,.nils])
[]),(3,⟨none,.st 3 (.t 8) (.t 32),none,[],[32]⟩)] (sR [(0,oM 33 2 7 []),(1,oM 34 3 8 []),(2,oP 35 (.call 10 [.t 33,.t 34]) [33,34]),(3,oP 9 (.al [.nils,.nils]) []),(4,⟨none,.st 2 (.t 9) (.t 35),none,[],[35]⟩)] (.seq (sR
[(0,oM 36 2 9 []),(1,oM 37 2 6 []),(2,oP 38 (.call 30 [.t 36,.t 37]) [36,37]),(3,oP 39 (.not (.t 38)) [38])] (.cond (.t 39) (sK [2,3,6,7,8,9,39] (sR [(0,oY 4 false [])] .ret)) (sK [39] .skip))) (.seq (.seq (.reg true
[(0,oM 40 2 7 []),(1,oM 41 2 2 []),(2,⟨some 42,.call 28 [.t 41],none,[(7,2)],[41]⟩),(3,oP 43 (.call 30 [.t 40,.t 42]) [40,42]),(4,oP 44 (.not (.t 43)) [43])]) (.cond (.t 44) (sK [2,3,6,7,8,9,44] (sR [(0,oY 4 false [])]
.ret)) (sK [44] .skip))) (.seq (.seq (.reg true [(0,oM 45 3 8 []),(1,oM 46 3 3 []),(2,⟨some 47,.call 29 [.t 46],none,[(8,3)],[46]⟩),(3,oP 48 (.call 31 [.t 45,.t 47]) [45,47]),(4,oP 49 (.not (.t 48)) [48])]) (.cond (.t
49) (sK [2,3,6,7,8,9,49] (sR [(0,oY 4 false [])] .ret)) (sK [49] .skip))) (sR [(0,oZ 10 1 [])] (sR [(0,oM 50 2 7 []),(1,oT 51 10 [10]),(2,oP 52 (.call 32 [.t 50,.t 51]) [7,50,51]),(3,oT 10 52 [52])] (sR [(0,oM 53 3 8
[]),(1,oT 54 10 [10]),(2,oP 55 (.call 33 [.t 53,.t 54]) [8,53,54]),(3,oT 10 55 [55])] (.seq (sR [(0,oT 56 10 [10]),(1,oC 57 .lss 56 0 [56]),(2,oT 58 57 [57]),(3,oG 59 (.ld 2 true (.t 9)) 58 false []),(4,oG 60 (.ld 2
true (.t 6)) 58 false []),(5,oG 61 (.call 30 [.t 59,.t 60]) 58 false [59,60]),(6,oG 62 (.not (.t 61)) 58 false [61]),(7,oP 63 (.pick (.t 58) (.c (.bool true)) (.t 62)) [58,62])] (.cond (.t 63) (sK [2,3,6,9,63] (sR
[(0,oY 4 false [])] .ret)) (sK [63] .skip))) (sR [(0,oZ 11 1 [])] (sR [(0,oM 64 2 9 []),(1,oT 65 11 [11]),(2,oP 66 (.call 32 [.t 64,.t 65]) [64,65]),(3,oT 11 66 [66])] (sR [(0,oZ 12 1 [])] (sR [(0,oM 67 2 9 []),(1,oT 68
12 [12]),(2,oP 69 (.call 34 [.t 67,.t 68]) [67,68]),(3,oT 12 69 [69])] (.seq (sR [(0,oT 70 12 []),(1,oC 71 .lss 70 0 [70])] (.cond (.t 71) (sK [2,3,6,9,11,12,71] (sR [(0,oY 4 false [])] .ret)) (sK [71] .skip))) (.seq
(sR [(0,oT 72 12 [12]),(1,oT 73 11 []),(2,oB 74 .neq 72 73 [72,73])] (.cond (.t 74) (sK [2,3,6,9,11,74] (sR [(0,oY 4 false [])] .ret)) (sK [74] .skip))) (.seq (.reg true [(0,oM 75 2 2 []),(2,oM 77 3 3 []),(5,oP 13 (.al
[.nils,.nils]) []),(1,⟨some 76,.call 28 [.t 75],none,[(3,3)],[2,75]⟩),(3,oP 78 (.call 29 [.t 77]) [3,77]),(4,oP 79 (.call 10 [.t 76,.t 78]) [76,78]),(6,⟨none,.st 2 (.t 13) (.t 79),none,[],[79]⟩)]) (.seq (sR [(0,oM 80 2
13 []),(1,oM 81 2 6 []),(2,oP 82 (.call 30 [.t 80,.t 81]) [6,13,80,81]),(3,oP 83 (.not (.t 82)) [82])] (.cond (.t 83) (sK [9,11,83] (sR [(0,oY 4 false [])] .ret)) (sK [83] .skip))) (sR [(0,oZ 12 1 [])] (sR [(0,oM 84 2 9
[]),(1,oT 85 12 [12]),(2,oP 86 (.call 34 [.t 84,.t 85]) [9,84,85]),(3,oT 12 86 [86])] (.seq (sR [(0,oT 87 12 []),(1,oC 88 .lss 87 0 [87])] (.cond (.t 88) (sK [11,12,88] (sR [(0,oY 4 false [])] .ret)) (sK [88] .skip)))
(.seq (sR [(0,oT 89 12 [12]),(1,oT 90 11 [11]),(2,oB 91 .neq 89 90 [89,90])] (.cond (.t 91) (sK [91] (sR [(0,oY 4 false [])] .ret)) (sK [91] .skip))) (sR [(0,oY 4 true [])] .ret))))))))))))))))))))))))))))))
def C6 : CFn := ⟨92,2,[.t 4],B6⟩
abbrev L10_0 : CCode := (.seq (sR [(0,oT 13 6 [6])] (.cond (.t 13) (sK [13] .skip) (sK [3,13] (.exit 0)))) (.block 1 (.reg false [(0,oM 15 2 5 []),(1,oM 16 3 3 []),(2,oP 17 (.call 11 [.t 15,.t 16]) [15,16]),(3,oT 14 17
[17]),(4,oP 18 (.ex (.t 14) 0) []),(5,oP 19 (.ex (.t 14) 1) [14]),(6,⟨none,.st 2 (.t 5) (.t 18),none,[],[18]⟩),(7,oT 6 19 [19])])))
abbrev B10 : CCode := (sR [(0,oP 2 (.box 2 (.t 0)) [0]),(1,oP 3 (.box 3 (.t 1)) [1]),(2,oP 4 (.al [.nils,.nils]) [])] (sR [(0,oM 8 2 2 []),(1,oM 9 3 3 []),(2,oP 10 (.call 11 [.t 8,.t 9]) [2,8,9]),(3,oT 7 10 [10]),(4,oP
11 (.ex (.t 7) 0) []),(5,oP 12 (.ex (.t 7) 1) [7]),(6,oP 5 (.al [.nils,.nils]) []),(7,⟨none,.st 2 (.t 5) (.t 11),none,[],[11]⟩),(8,oT 6 12 [12])] (.seq (.block 0 (.loop L10_0)) (sR [(0,oM 20 2 5 []),(1,⟨none,.st 2 (.t
4) (.t 20),none,[],[5,20]⟩)] .ret))))
def C10 : CFn := ⟨21,2,[.m 4 2 true],B10⟩
abbrev L11_0 : CCode := (sR [(0,oB 22 .lss 21 20 [])] (.seq (.cond (.t 22) (sK [22] .skip) (sK [20,21,22] (.exit 0))) (.seq (.block 1 (sR [(0,oT 23 21 []),(1,oT 8 23 [23])] (.reg false [(0,oT 24 7 [7]),(1,oT 25 8
[8]),(2,oP 26 (.bsl 1 1 [.int .i64 (0)] [(0,1,(.t 25))]) [25]),(3,oP 27 (.app 1 8 (.t 24) (.t 26)) [24,26]),(4,oT 7 27 [27])]))) (.reg false [(0,oC 28 .add 21 1 [21]),(1,oT 21 28 [28])]))))
abbrev B11 : CCode := (sR [(0,oP 2 (.box 2 (.t 0)) [0]),(1,oP 3 (.box 3 (.t 1)) [1]),(2,oP 4 (.al [.nils,.nils]) []),(3,oY 5 false [5])] (sR [(0,oM 9 2 2 []),(1,oM 10 3 3 []),(2,oP 11 (.call 16 [.t 9,.t 10])
[3,9,10]),(3,oT 6 11 [11])] (.seq (sR [(0,oT 12 6 []),(1,oN 13 12 [12]),(2,oC 14 .eql 13 0 [13])] (.cond (.t 14) (sK [6,14] (sR [(0,oM 15 2 2 []),(1,oP 16 (.call 36 [.t 15]) [2,15]),(2,⟨none,.st 2 (.t 4) (.t
16),none,[],[16]⟩),(3,oY 5 false [])] .ret)) (sK [14] .skip))) (sR [(0,oP 17 (.bsl 1 0 [.int .i64 (0)] []) []),(1,oT 7 17 [17])] (.seq (sR [(0,oF 18 1 2 []),(1,oL 19 1 18 [18]),(2,oN 20 19 [19]),(3,oZ 21 0 [])] (.block
0 (.loop L11_0))) (.seq (.reg true [(0,oM 29 2 2 []),(1,oT 30 7 [7]),(2,oM 31 2 2 []),(3,oT 32 6 [6]),(4,oP 33 (.ia 1 (.t 32) (.c (.int .i64 0))) []),(5,oL 34 1 33 [32,33]),(6,⟨some 35,.call 39 [.t 31,.t
34],none,[(2,2)],[31,34]⟩),(7,⟨some 36,.call 38 [.t 30,.t 35],none,[(2,2)],[30,35]⟩),(8,oP 37 (.call 37 [.t 29,.t 36]) [2,29,36]),(9,oP 38 (.ex (.t 37) 0) []),(10,oP 39 (.ex (.t 37) 1) [37]),(11,⟨none,.st 2 (.t 4) (.t
38),none,[],[38]⟩),(12,oT 5 39 [39])]) .ret))))))
def C11 : CFn := ⟨40,2,[.m 4 2 true,.t 5],B11⟩
abbrev L12_0 : CCode := (.seq (sR [(0,oT 26 9 []),(1,oF 27 1 2 []),(2,oL 28 1 27 [27]),(3,oN 29 28 [28]),(4,oB 30 .lss 26 29 [26,29])] (.cond (.t 30) (sK [30] .skip) (sK [7,9,30] (.exit 0)))) (.seq (.block 1 (sR [(0,oT
33 7 []),(1,oT 34 9 []),(2,oP 35 (.call 42 [.t 33,.t 34]) [33,34]),(3,oP 36 (.not (.t 35)) [35])] (.cond (.t 36) (sK [36] (.reg false [(0,oT 37 8 [8]),(1,oT 38 9 []),(2,oP 39 (.bsl 1 1 [.int .i64 (0)] [(0,1,(.t 38))])
[38]),(3,oP 40 (.app 1 8 (.t 37) (.t 39)) [37,39]),(4,oT 8 40 [40])])) (sK [36] .skip)))) (.reg false [(0,oT 31 9 [9]),(1,oC 32 .add 31 1 [31]),(2,oT 9 32 [32])])))
abbrev B12 : CCode := (sR [(0,oP 2 (.box 2 (.t 0)) [0]),(1,oP 3 (.box 3 (.t 1)) [1]),(2,oP 4 (.al [.nils,.nils]) []),(3,oY 5 false [5])] (sR [(0,oM 12 2 2 []),(1,oM 13 3 3 []),(2,oP 14 (.call 17 [.t 12,.t 13])
[3,12,13]),(3,oT 6 14 [14])] (.seq (sR [(0,oT 15 6 []),(1,oN 16 15 [15]),(2,oC 17 .eql 16 0 [16])] (.cond (.t 17) (sK [6,17] (sR [(0,oM 18 2 2 []),(1,oP 19 (.call 40 [.t 18]) [2,18]),(2,⟨none,.st 2 (.t 4) (.t
19),none,[],[19]⟩),(3,oY 5 false [])] .ret)) (sK [17] .skip))) (.seq (.reg true [(0,oM 20 2 2 []),(1,oT 21 6 [6]),(2,oP 22 (.ia 1 (.t 21) (.c (.int .i64 0))) []),(3,oL 23 1 22 [21,22]),(4,oP 24 (.call 41 [.t 20,.t 23])
[20,23]),(5,oT 7 24 [24])]) (sR [(0,oP 25 (.bsl 1 0 [.int .i64 (0)] []) []),(1,oT 8 25 [25])] (.seq (sR [(0,oZ 9 0 [])] (.block 0 (.loop L12_0))) (sR [(0,oM 42 2 2 []),(1,oT 43 8 [8]),(2,oP 44 (.call 43 [.t 42,.t 43])
[2,42,43]),(3,oT 41 44 [44]),(4,oP 45 (.ex (.t 41) 0) []),(5,oP 46 (.ex (.t 41) 1) [41]),(6,oP 10 (.al [.nils,.nils]) []),(7,⟨none,.st 2 (.t 10) (.t 45),none,[],[45]⟩),(8,oT 11 46 [11,46])] (sR [(0,oM 47 2 10
[]),(1,⟨none,.st 2 (.t 4) (.t 47),none,[],[10,47]⟩),(2,oY 5 true [])] .ret))))))))
def C12 : CFn := ⟨48,2,[.m 4 2 true,.t 5],B12⟩
abbrev L14_0 : CCode := (.block 1 (sR [(0,oM 11 2 5 []),(1,oM 12 3 3 []),(2,oP 13 (.call 12 [.t 11,.t 12]) [11,12]),(3,oT 10 13 [13]),(4,oP 14 (.ex (.t 10) 0) []),(5,oP 15 (.ex (.t 10) 1) [10]),(6,oP 6 (.al
[.nils,.nils]) []),(7,⟨none,.st 2 (.t 6) (.t 14),none,[],[14]⟩),(8,oT 7 15 [15])] (.seq (sR [(0,oT 16 7 [7]),(1,oP 17 (.not (.t 16)) [16])] (.cond (.t 17) (sK [3,6,17] (sR [(0,oM 18 2 5 []),(1,⟨none,.st 2 (.t 4) (.t
18),none,[],[5,18]⟩)] .ret)) (sK [17] .skip))) (.reg false [(0,oM 19 2 6 []),(1,⟨none,.st 2 (.t 5) (.t 19),none,[],[6,19]⟩)]))))
abbrev B14 : CCode := (sR [(0,oP 2 (.box 2 (.t 0)) [0]),(1,oP 3 (.box 3 (.t 1)) [1]),(2,oP 4 (.al [.nils,.nils]) [])] (sR [(0,oM 8 2 2 []),(1,oP 9 (.call 40 [.t 8]) [2,8]),(2,oP 5 (.al [.nils,.nils]) []),(3,⟨none,.st 2
(.t 5) (.t 9),none,[],[9]⟩)] (.block 0 (.loop L14_0))))
def C14 : CFn := ⟨20,2,[.m 4 2 true],B14⟩
abbrev L16_0 : CCode := (sR [(0,oB 21 .lss 20 19 [])] (.seq (.cond (.t 21) (sK [21] .skip) (sK [6,19,20,21] (.exit 0))) (.seq (.block 1 (sR [(0,oT 22 20 []),(1,oT 7 22 [22])] (sR [(0,oT 23 6 []),(1,oT 24 7 []),(2,oP 25
(.call 47 [.t 23,.t 24]) [23,24]),(3,oP 26 (.not (.t 25)) [25])] (.cond (.t 26) (sK [26] (.reg false [(0,oT 27 5 [5]),(1,oT 28 7 [7]),(2,oP 29 (.bsl 1 1 [.int .i64 (0)] [(0,1,(.t 28))]) [28]),(3,oP 30 (.app 1 8 (.t 27)
(.t 29)) [27,29]),(4,oT 5 30 [30])])) (sK [7,26] .skip))))) (.reg false [(0,oC 31 .add 20 1 [20]),(1,oT 20 31 [31])]))))
abbrev B16 : CCode := (sR [(0,oP 2 (.box 2 (.t 0)) [0]),(1,oP 3 (.box 3 (.t 1)) [1]),(2,oP 4 (.mv (.c (.nils))) [4])] (sR [(0,oP 8 (.bsl 1 0 [.int .i64 (0)] []) []),(1,oT 5 8 [8])] (.seq (sR [(0,oM 9 2 2 []),(1,oM 10 3
3 []),(2,oP 11 (.call 45 [.t 9,.t 10]) [9,10]),(3,oP 12 (.not (.t 11)) [11])] (.cond (.t 12) (sK [2,3,12] (sR [(0,oT 13 5 [5]),(1,oT 4 13 [13])] .ret)) (sK [12] .skip))) (sR [(0,oM 14 2 2 []),(1,oM 15 3 3 []),(2,oP 16
(.call 46 [.t 14,.t 15]) [3,14,15]),(3,oT 6 16 [16])] (.seq (sR [(0,oF 17 1 2 []),(1,oL 18 1 17 [17]),(2,oN 19 18 [2,18]),(3,oZ 20 0 [])] (.block 0 (.loop L16_0))) (sR [(0,oT 32 5 [5]),(1,oT 4 32 [32])] .ret))))))
def C16 : CFn := ⟨33,2,[.t 4],B16⟩
abbrev L17_0 : CCode := (.seq (sR [(0,oT 12 7 []),(1,oF 13 1 2 []),(2,oL 14 1 13 [13]),(3,oN 15 14 [14]),(4,oB 16 .lss 12 15 [12,15]),(5,oT 17 16 [16]),(6,oG 18 (.ld 2 true (.t 2)) 17 true []),(7,oG 19 (.ld 3 true (.t
3)) 17 true []),(8,oG 20 (.call 18 [.t 18,.t 19]) 17 true [18,19]),(9,oP 21 (.pick (.t 17) (.t 20) (.c (.bool false))) [17,20])] (.cond (.t 21) (sK [21] .skip) (sK [2,3,6,7,21] (.exit 0)))) (.seq (.block 1 (sR [(0,oT 24
6 []),(1,oT 25 7 []),(2,oP 26 (.call 42 [.t 24,.t 25]) [24,25]),(3,oP 27 (.not (.t 26)) [26])] (.cond (.t 27) (sK [27] (.reg false [(0,oT 28 5 [5]),(1,oT 29 7 []),(2,oP 30 (.bsl 1 1 [.int .i64 (0)] [(0,1,(.t 29))])
[29]),(3,oP 31 (.app 1 8 (.t 28) (.t 30)) [28,30]),(4,oT 5 31 [31])])) (sK [27] .skip)))) (.reg false [(0,oT 22 7 [7]),(1,oC 23 .add 22 1 [22]),(2,oT 7 23 [23])])))
abbrev B17 : CCode := (sR [(0,oP 2 (.box 2 (.t 0)) [0]),(1,oP 3 (.box 3 (.t 1)) [1]),(2,oP 4 (.mv (.c (.nils))) [4])] (sR [(0,oP 8 (.bsl 1 0 [.int .i64 (0)] []) []),(1,oT 5 8 [8])] (sR [(0,oM 9 2 2 []),(1,oM 10 3 3
[]),(2,oP 11 (.call 48 [.t 9,.t 10]) [9,10]),(3,oT 6 11 [11])] (.seq (sR [(0,oZ 7 0 [])] (.block 0 (.loop L17_0))) (sR [(0,oT 32 5 [5]),(1,oT 4 32 [32])] .ret)))))
def C17 : CFn := ⟨33,2,[.t 4],B17⟩
abbrev B18 : CCode := (sR [(0,oP 2 (.box 2 (.t 0)) [0]),(1,oP 3 (.box 3 (.t 1)) [1]),(2,oY 4 false [4])] (sR [(0,oM 5 2 2 []),(1,oP 6 (.call 49 [.t 5]) [5]),(2,oT 7 6 [6]),(3,oG 8 (.fa 0 (.t 2)) 7 true []),(4,oG 9 (.ld
1 false (.t 8)) 7 true [8]),(5,oG 10 (.ld 3 true (.t 3)) 7 true []),(6,oG 11 (.call 50 [.t 9,.t 10]) 7 true [2,3,9,10]),(7,oP 12 (.pick (.t 7) (.t 11) (.c (.bool false))) [7,11]),(8,oT 4 12 [12])] .ret))
def C18 : CFn := ⟨13,2,[.t 4],B18⟩
abbrev B26 : CCode := (sR [(0,oP 2 (.box 2 (.t 0)) [0]),(1,oZ 4 0 [4])] (sR [(0,oF 5 0 2 []),(1,oL 6 1 5 [5]),(2,oT 7 1 [1]),(3,oP 8 (.call 65 [.t 6,.t 7]) [6,7]),(4,oT 1 8 [8])] (.seq (sR [(0,oT 9 1 []),(1,oC 10 .lss 9
0 [9])] (.cond (.t 10) (sK [1,2,10] (sR [(0,oZ 4 (-1) [])] .ret)) (sK [10] .skip))) (sR [(0,oF 11 1 2 []),(1,oL 12 1 11 [11]),(2,oT 13 1 [1]),(3,oP 14 (.call 66 [.t 12,.t 13]) [2,12,13]),(4,oT 1 14 [14])] (.seq (sR
[(0,oT 15 1 []),(1,oC 16 .lss 15 0 [15])] (.cond (.t 16) (sK [1,16] (sR [(0,oZ 4 (-1) [])] .ret)) (sK [16] .skip))) (sR [(0,oT 17 1 [1]),(1,oT 4 17 [17])] .ret))))))
def C26 : CFn := ⟨18,2,[.t 4],B26⟩
abbrev B27 : CCode := (sR [(0,oP 2 (.box 3 (.t 0)) [0]),(1,oZ 4 0 [4])] (sR [(0,oF 5 1 2 []),(1,oL 6 1 5 [5]),(2,oT 7 1 [1]),(3,oP 8 (.call 67 [.t 6,.t 7]) [6,7]),(4,oT 1 8 [8])] (.seq (sR [(0,oT 9 1 []),(1,oC 10 .lss 9
0 [9])] (.cond (.t 10) (sK [1,2,10] (sR [(0,oZ 4 (-1) [])] .ret)) (sK [10] .skip))) (sR [(0,oF 11 2 2 []),(1,oL 12 1 11 [11]),(2,oT 13 1 [1]),(3,oP 14 (.call 68 [.t 12,.t 13]) [2,12,13]),(4,oT 1 14 [14])] (.seq (sR
[(0,oT 15 1 []),(1,oC 16 .lss 15 0 [15])] (.cond (.t 16) (sK [1,16] (sR [(0,oZ 4 (-1) [])] .ret)) (sK [16] .skip))) (sR [(0,oT 17 1 [1]),(1,oT 4 17 [17])] .ret))))))
def C27 : CFn := ⟨18,2,[.t 4],B27⟩
abbrev B28 : CCode := (sR [(0,oP 1 (.box 2 (.t 0)) [0]),(1,oP 2 (.al [.nils,.nils]) [])] (sR [(0,oP 3 (.al [.nils,.nils]) [])] (sR [(0,oF 4 0 1 []),(1,oL 5 1 4 [4]),(2,oP 6 (.call 69 [.t 5]) [5]),(3,oF 7 0 3
[]),(4,⟨none,.st 1 (.t 7) (.t 6),none,[],[6,7]⟩)] (sR [(0,oF 8 1 1 []),(1,oL 9 1 8 [8]),(2,oP 10 (.call 70 [.t 9]) [1,9]),(3,oF 11 1 3 []),(4,⟨none,.st 1 (.t 11) (.t 10),none,[],[10,11]⟩)] (sR [(0,oM 12 2 3
[]),(1,⟨none,.st 2 (.t 2) (.t 12),none,[],[3,12]⟩)] .ret)))))
def C28 : CFn := ⟨13,1,[.m 2 2 true],B28⟩
abbrev B29 : CCode := (sR [(0,oP 1 (.box 3 (.t 0)) [0]),(1,oP 2 (.al [.int .i64 (0),.nils,.nils]) [])] (sR [(0,oP 3 (.al [.int .i64 (0),.nils,.nils]) [])] (sR [(0,oF 4 0 1 []),(1,oL 5 1 4 [4]),(2,oF 6 0 3
[]),(3,⟨none,.st 1 (.t 6) (.t 5),none,[],[5,6]⟩)] (sR [(0,oF 7 1 1 []),(1,oL 8 1 7 [7]),(2,oP 9 (.call 71 [.t 8]) [8]),(3,oF 10 1 3 []),(4,⟨none,.st 1 (.t 10) (.t 9),none,[],[9,10]⟩)] (sR [(0,oF 11 2 1 []),(1,oL 12 1 11
[11]),(2,oP 13 (.call 72 [.t 12]) [1,12]),(3,oF 14 2 3 []),(4,⟨none,.st 1 (.t 14) (.t 13),none,[],[13,14]⟩)] (sR [(0,oM 15 3 3 []),(1,⟨none,.st 3 (.t 2) (.t 15),none,[],[3,15]⟩)] .ret))))))
def C29 : CFn := ⟨16,1,[.m 2 3 true],B29⟩
abbrev B30 : CCode := (sR [(0,oP 2 (.box 2 (.t 0)) [0]),(1,oP 3 (.box 2 (.t 1)) [1]),(2,oY 4 false [4])] (.seq (sR [(0,oF 5 0 2 []),(1,oL 6 1 5 [5]),(2,oF 7 0 3 []),(3,oL 8 1 7 [7]),(4,oP 9 (.call 73 [.t 6,.t 8])
[6,8]),(5,oP 10 (.not (.t 9)) [9])] (.cond (.t 10) (sK [2,3,10] (sR [(0,oY 4 false [])] .ret)) (sK [10] .skip))) (.seq (sR [(0,oF 11 1 2 []),(1,oL 12 1 11 [11]),(2,oF 13 1 3 []),(3,oL 14 1 13 [13]),(4,oP 15 (.call 74
[.t 12,.t 14]) [2,3,12,14]),(5,oP 16 (.not (.t 15)) [15])] (.cond (.t 16) (sK [16] (sR [(0,oY 4 false [])] .ret)) (sK [16] .skip))) (sR [(0,oY 4 true [])] .ret))))
def C30 : CFn := ⟨17,2,[.t 4],B30⟩
abbrev B31 : CCode := (sR [(0,oP 2 (.box 3 (.t 0)) [0]),(1,oP 3 (.box 3 (.t 1)) [1]),(2,oY 4 false [4])] (.seq (sR [(0,oF 5 0 2 []),(1,oL 6 1 5 [5]),(2,oF 7 0 3 []),(3,oL 8 1 7 [7]),(4,oB 9 .neq 6 8 [6,8])] (.cond (.t
9) (sK [2,3,9] (sR [(0,oY 4 false [])] .ret)) (sK [9] .skip))) (.seq (sR [(0,oF 10 1 2 []),(1,oL 11 1 10 [10]),(2,oF 12 1 3 []),(3,oL 13 1 12 [12]),(4,oP 14 (.call 75 [.t 11,.t 13]) [11,13]),(5,oP 15 (.not (.t 14))
[14])] (.cond (.t 15) (sK [2,3,15] (sR [(0,oY 4 false [])] .ret)) (sK [15] .skip))) (.seq (sR [(0,oF 16 2 2 []),(1,oL 17 1 16 [16]),(2,oF 18 2 3 []),(3,oL 19 1 18 [18]),(4,oP 20 (.call 76 [.t 17,.t 19])
[2,3,17,19]),(5,oP 21 (.not (.t 20)) [20])] (.cond (.t 21) (sK [21] (sR [(0,oY 4 false [])] .ret)) (sK [21] .skip))) (sR [(0,oY 4 true [])] .ret)))))
def C31 : CFn := ⟨22,2,[.t 4],B31⟩
abbrev B32 : CCode := (sR [(0,oP 2 (.box 2 (.t 0)) []),(1,oZ 4 0 [4])] (sR [(0,oF 5 0 2 []),(1,oL 6 1 5 [5]),(2,oT 7 1 [1]),(3,oP 8 (.call 77 [.t 6,.t 7]) [6,7]),(4,oT 1 8 [8])] (sR [(0,oF 9 1 2 []),(1,oL 10 1 9
[9]),(2,oT 11 1 [1]),(3,oP 12 (.call 78 [.t 10,.t 11]) [2,10,11]),(4,oT 1 12 [12])] (sR [(0,oT 13 1 [1]),(1,oT 4 13 [13])] .ret))))
def C32 : CFn := ⟨14,2,[.t 4],B32⟩
abbrev B33 : CCode := (sR [(0,oP 2 (.box 3 (.t 0)) []),(1,oZ 4 0 [4])] (sR [(0,oF 5 1 2 []),(1,oL 6 1 5 [5]),(2,oT 7 1 [1]),(3,oP 8 (.call 79 [.t 6,.t 7]) [6,7]),(4,oT 1 8 [8])] (sR [(0,oF 9 2 2 []),(1,oL 10 1 9
[9]),(2,oT 11 1 [1]),(3,oP 12 (.call 80 [.t 10,.t 11]) [2,10,11]),(4,oT 1 12 [12])] (sR [(0,oT 13 1 [1]),(1,oT 4 13 [13])] .ret))))
def C33 : CFn := ⟨14,2,[.t 4],B33⟩
abbrev B34 : CCode := (sR [(0,oP 2 (.box 2 (.t 0)) [0]),(1,oZ 4 0 [4])] (sR [(0,oF 5 0 2 []),(1,oL 6 1 5 [5]),(2,oT 7 1 [1]),(3,oP 8 (.call 81 [.t 6,.t 7]) [6,7]),(4,oT 1 8 [8])] (.seq (sR [(0,oT 9 1 []),(1,oC 10 .lss 9
0 [9])] (.cond (.t 10) (sK [1,2,10] (sR [(0,oZ 4 (-1) [])] .ret)) (sK [10] .skip))) (sR [(0,oF 11 1 2 []),(1,oL 12 1 11 [11]),(2,oT 13 1 [1]),(3,oP 14 (.call 82 [.t 12,.t 13]) [2,12,13]),(4,oT 1 14 [14])] (.seq (sR
[(0,oT 15 1 []),(1,oC 16 .lss 15 0 [15])] (.cond (.t 16) (sK [1,16] (sR [(0,oZ 4 (-1) [])] .ret)) (sK [16] .skip))) (sR [(0,oT 17 1 [1]),(1,oT 4 17 [17])] .ret))))))
def C34 : CFn := ⟨18,2,[.t 4],B34⟩
abbrev L36_0 : CCode := (sR [(0,oB 16 .lss 15 14 [])] (.seq (.cond (.t 16) (sK [16] .skip) (sK [1,13,14,15,16] (.exit 0))) (.seq (.block 1 (sR [(0,oI 17 2 13 15 []),(1,oM 18 2 17 [17]),(2,oP 5 (.al [.int .i64
(0),.nils]) []),(3,⟨none,.st 2 (.t 5) (.t 18),none,[],[18]⟩)] (.reg true [(0,oF 19 1 3 []),(1,oL 20 1 19 []),(2,oF 21 0 5 []),(3,oL 22 1 21 []),(4,oP 23 (.bsl 1 0 [.int .i64 (0)] []) []),(5,oF 24 1 5 []),(6,oL 25 1 24
[24]),(7,⟨some 26,.app 1 8 (.t 23) (.t 25),none,[(19,1),(21,1)],[5,19,21,23,25]⟩),(8,oP 27 (.bld [.int .i64 (0),.nils] [(0,1,(.t 22)),(1,1,(.t 26))]) [22,26]),(9,oP 28 (.bsl 2 1 [.int .i64 (0),.nils] [(0,2,(.t 27))])
[27]),(10,oP 29 (.app 2 32 (.t 20) (.t 28)) [20,28]),(11,oF 30 1 3 []),(12,⟨none,.st 1 (.t 30) (.t 29),none,[],[29,30]⟩)]))) (.reg false [(0,oC 31 .add 15 1 [15]),(1,oT 15 31 [31])]))))
abbrev B36 : CCode := (sR [(0,oP 1 (.box 2 (.t 0)) [0]),(1,oP 2 (.al [.nils,.nils]) [])] (sR [(0,oP 6 (.bsl 3 0 [.str [],.int .i64 (0),.int .i64 (0)] []) []),(1,oF 7 0 1 []),(2,oL 8 1 7 [7]),(3,oP 9 (.app 3 32 (.t 6)
(.t 8)) [6,8]),(4,oP 10 (.bsl 2 0 [.int .i64 (0),.nils] []) []),(5,oP 11 (.bld [.nils,.nils] [(0,1,(.t 9)),(1,1,(.t 10))]) [9,10]),(6,oP 3 (.al [.nils,.nils]) []),(7,⟨none,.st 2 (.t 3) (.t 11),none,[],[11]⟩)] (.seq (sR
[(0,oF 12 1 1 []),(1,oL 13 1 12 [12]),(2,oN 14 13 []),(3,oZ 15 0 [])] (.block 0 (.loop L36_0))) (sR [(0,oM 32 2 3 []),(1,⟨none,.st 2 (.t 2) (.t 32),none,[],[3,32]⟩)] .ret))))
def C36 : CFn := ⟨33,1,[.m 2 2 true],B36⟩
abbrev L37_0 : CCode := (sR [(0,oB 30 .lss 29 28 [])] (.seq (.cond (.t 30) (sK [30] .skip) (sK [6,27,28,29,30] (.exit 0))) (.seq (.block 1 (sR [(0,oI 31 1 27 29 []),(1,oL 32 1 31 [31]),(2,oT 9 32 [32])] (.reg true
[(0,oF 33 1 7 []),(1,oL 34 1 33 [33]),(2,oF 35 1 6 []),(3,oL 36 1 35 [35]),(4,oT 37 9 [9]),(5,oI 38 2 36 37 [36]),(6,oM 39 2 38 [38]),(7,oP 40 (.bsl 2 1 [.int .i64 (0),.nils] [(0,2,(.t 39))]) [37,39]),(8,oP 41 (.app 2
32 (.t 34) (.t 40)) [34,40]),(9,oF 42 1 7 []),(10,⟨none,.st 1 (.t 42) (.t 41),none,[],[41,42]⟩)]))) (.reg false [(0,oC 43 .add 29 1 [29]),(1,oT 29 43 [43])]))))
abbrev B37 : CCode := (sR [(0,oP 2 (.box 2 (.t 0)) [0]),(1,oP 4 (.al [.nils,.nils]) []),(2,oY 5 false [5])] (.seq (sR [(0,oM 10 2 2 []),(1,oP 11 (.call 84 [.t 10]) [10]),(2,oP 12 (.not (.t 11)) [11]),(3,oT 13 12
[12]),(4,oG 14 (.mv (.t 1)) 13 false []),(5,oG 15 (.fa 1 (.t 2)) 13 false []),(6,oG 16 (.ld 1 false (.t 15)) 13 false [15]),(7,oG 17 (.len (.t 16)) 13 false [16]),(8,oG 18 (.call 85 [.t 14,.t 17]) 13 false
[14,17]),(9,oG 19 (.not (.t 18)) 13 false [18]),(10,oP 20 (.pick (.t 13) (.c (.bool true)) (.t 19)) [13,19])] (.cond (.t 20) (sK [1,2,20] (sR [(0,oP 21 (.bld [.nils,.nils] []) []),(1,⟨none,.st 2 (.t 4) (.t
21),none,[],[21]⟩),(2,oY 5 false [])] .ret)) (sK [20] .skip))) (sR [(0,oM 22 2 2 []),(1,oP 23 (.call 36 [.t 22]) [2,22]),(2,oP 6 (.al [.nils,.nils]) []),(3,⟨none,.st 2 (.t 6) (.t 23),none,[],[23]⟩)] (sR [(0,oF 24 0 6
[]),(1,oL 25 1 24 [24]),(2,oP 26 (.bld [.nils,.nils] [(0,1,(.t 25))]) [25]),(3,oP 7 (.al [.nils,.nils]) []),(4,⟨none,.st 2 (.t 7) (.t 26),none,[],[26]⟩)] (.seq (sR [(0,oT 27 1 [1]),(1,oN 28 27 []),(2,oZ 29 0 [])]
(.block 0 (.loop L37_0))) (sR [(0,oM 44 2 7 []),(1,⟨none,.st 2 (.t 4) (.t 44),none,[],[7,44]⟩),(2,oY 5 true [])] .ret))))))
def C37 : CFn := ⟨45,2,[.m 4 2 true,.t 5],B37⟩
abbrev L38_0 : CCode := (sR [(0,oB 12 .lss 11 10 [])] (.seq (.cond (.t 12) (sK [12] .skip) (sK [1,9,10,11,12] (.exit 0))) (.seq (.block 1 (sR [(0,oI 13 1 9 11 []),(1,oL 14 1 13 [13]),(2,oT 7 14 [14])] (sR [(0,oT 15 1
[]),(1,oT 16 7 []),(2,oP 17 (.call 47 [.t 15,.t 16]) [15,16]),(3,oP 18 (.not (.t 17)) [17])] (.cond (.t 18) (sK [18] (.reg false [(0,oT 19 5 [5]),(1,oT 20 7 [7]),(2,oP 21 (.bsl 1 1 [.int .i64 (0)] [(0,1,(.t 20))])
[20]),(3,oP 22 (.app 1 8 (.t 19) (.t 21)) [19,21]),(4,oT 5 22 [22])])) (sK [7,18] .skip))))) (.reg false [(0,oC 23 .add 11 1 [11]),(1,oT 11 23 [23])]))))
abbrev B38 : CCode := (sR [(0,oP 4 (.mv (.c (.nils))) [4])] (sR [(0,oP 8 (.bsl 1 0 [.int .i64 (0)] []) []),(1,oT 5 8 [8])] (.seq (sR [(0,oT 9 0 [0]),(1,oN 10 9 []),(2,oZ 11 0 [])] (.block 0 (.loop L38_0))) (sR [(0,oT 24
5 [5]),(1,oT 4 24 [24])] .ret))))
def C38 : CFn := ⟨25,2,[.t 4],B38⟩
abbrev L39_0 : CCode := (sR [(0,oB 11 .lss 10 9 [])] (.seq (.cond (.t 11) (sK [11] .skip) (sK [1,8,9,10,11] (.exit 0))) (.seq (.block 1 (sR [(0,oI 12 1 8 10 []),(1,oL 13 1 12 [12]),(2,oT 6 13 [13])] (sR [(0,oT 14 6
[]),(1,oT 15 1 []),(2,oP 16 (.call 47 [.t 14,.t 15]) [14,15])] (.cond (.t 16) (sK [1,9,16] (sR [(0,oT 17 6 [6]),(1,oT 4 17 [17])] .ret)) (sK [6,16] .skip))))) (.reg false [(0,oC 18 .add 10 1 [10]),(1,oT 10 18 [18])]))))
abbrev B39 : CCode := (sR [(0,oP 2 (.box 2 (.t 0)) [0]),(1,oP 4 (.mv (.c (.nils))) [4])] (.seq (sR [(0,oM 7 2 2 []),(1,oP 8 (.call 86 [.t 7]) [2,7]),(2,oN 9 8 []),(3,oZ 10 0 [])] (.block 0 (.loop L39_0))) (sR [(0,oP 4
(.mv (.c (.nils))) [])] .ret)))
def C39 : CFn := ⟨19,2,[.t 4],B39⟩
abbrev L40_0 : CCode := (.seq (sR [(0,oT 10 4 []),(1,oF 11 1 1 []),(2,oL 12 1 11 [11]),(3,oN 13 12 [12]),(4,oB 14 .lss 10 13 [10,13])] (.cond (.t 14) (sK [14] .skip) (sK [1,4,14] (.exit 0)))) (.seq (.block 1 (.reg true
[(0,oF 17 1 3 []),(1,oL 18 1 17 []),(2,oF 19 1 1 []),(3,oL 20 1 19 []),(4,oT 21 4 []),(5,oI 22 2 20 21 [20]),(6,oF 23 0 22 [22]),(7,oL 24 1 23 []),(8,oP 25 (.bsl 1 0 [.int .i64 (0)] []) []),(9,oF 26 1 1 []),(10,oL 27 1
26 [26]),(11,oT 28 4 []),(12,oI 29 2 27 28 [27]),(13,oF 30 1 29 [29]),(14,oL 31 1 30 [30]),(15,⟨some 32,.app 1 8 (.t 25) (.t 31),none,[(17,1),(19,1),(23,1)],[17,19,21,23,25,28,31]⟩),(16,oP 33 (.bld [.int .i64 (0),.nils]
[(0,1,(.t 24)),(1,1,(.t 32))]) [24,32]),(17,oP 34 (.bsl 2 1 [.int .i64 (0),.nils] [(0,2,(.t 33))]) [33]),(18,oP 35 (.app 2 32 (.t 18) (.t 34)) [18,34]),(19,oF 36 1 3 []),(20,⟨none,.st 1 (.t 36) (.t
35),none,[],[35,36]⟩)])) (.reg false [(0,oT 15 4 [4]),(1,oC 16 .add 15 1 [15]),(2,oT 4 16 [16])])))
abbrev B40 : CCode := (sR [(0,oP 1 (.box 2 (.t 0)) [0]),(1,oP 2 (.al [.nils,.nils]) [])] (sR [(0,oP 5 (.bsl 3 0 [.str [],.int .i64 (0),.int .i64 (0)] []) []),(1,oF 6 0 1 []),(2,oL 7 1 6 [6]),(3,oP 8 (.app 3 32 (.t 5)
(.t 7)) [5,7]),(4,oP 9 (.bld [.nils,.nils] [(0,1,(.t 8))]) [8]),(5,oP 3 (.al [.nils,.nils]) []),(6,⟨none,.st 2 (.t 3) (.t 9),none,[],[9]⟩)] (.seq (sR [(0,oZ 4 0 [])] (.block 0 (.loop L40_0))) (sR [(0,oM 37 2 3
[]),(1,⟨none,.st 2 (.t 2) (.t 37),none,[],[3,37]⟩)] .ret))))
def C40 : CFn := ⟨38,1,[.m 2 2 true],B40⟩
abbrev L41_0 : CCode := (.seq (sR [(0,oT 8 6 []),(1,oF 9 1 2 []),(2,oL 10 1 9 [9]),(3,oN 11 10 [10]),(4,oB 12 .lss 8 11 [8,11]),(5,oT 13 12 [12]),(6,oG 14 (.ld 2 true (.t 2)) 13 true []),(7,oG 15 (.call 49 [.t 14]) 13
true [14]),(8,oP 16 (.pick (.t 13) (.t 15) (.c (.bool false))) [13,15]),(9,oT 17 16 [16]),(10,oG 18 (.mv (.t 1)) 17 true []),(11,oG 19 (.fa 1 (.t 2)) 17 true []),(12,oG 20 (.ld 1 false (.t 19)) 17 true [19]),(13,oG 21
(.len (.t 20)) 17 true [20]),(14,oG 22 (.bin .sub (.t 21) (.c (.int .i64 1))) 17 true [21]),(15,oG 23 (.call 87 [.t 18,(.c (.int .i64 0)),.t 22]) 17 true [18,22]),(16,oP 24 (.pick (.t 17) (.t 23) (.c (.bool false)))
[17,23])] (.cond (.t 24) (sK [24] .skip) (sK [1,2,6,24] (.exit 0)))) (.seq (.block 1 (.seq (.reg true [(0,oF 27 0 2 []),(1,oL 28 1 27 [27]),(2,oF 29 1 2 []),(3,oL 30 1 29 [29]),(4,oT 31 1 []),(5,oI 32 2 30 31
[30]),(6,oM 33 2 32 [32]),(7,oF 34 1 2 []),(8,oL 35 1 34 [34]),(9,oT 36 6 []),(10,oI 37 2 35 36 [35]),(11,oM 38 2 37 [37]),(12,oP 39 (.call 88 [.t 28,.t 33,.t 38]) [28,31,33,36,38])]) (.cond (.t 39) (sK [39] (.reg false
[(0,oT 40 5 [5]),(1,oT 41 6 []),(2,oP 42 (.bsl 1 1 [.int .i64 (0)] [(0,1,(.t 41))]) [41]),(3,oP 43 (.app 1 8 (.t 40) (.t 42)) [40,42]),(4,oT 5 43 [43])])) (sK [39] .skip)))) (.reg false [(0,oT 25 6 [6]),(1,oC 26 .add 25
1 [25]),(2,oT 6 26 [26])])))
abbrev B41 : CCode := (sR [(0,oP 2 (.box 2 (.t 0)) [0]),(1,oP 4 (.mv (.c (.nils))) [4])] (sR [(0,oP 7 (.bsl 1 0 [.int .i64 (0)] []) []),(1,oT 5 7 [7])] (.seq (sR [(0,oZ 6 0 [])] (.block 0 (.loop L41_0))) (sR [(0,oT 44 5
[5]),(1,oT 4 44 [44])] .ret))))
def C41 : CFn := ⟨45,2,[.t 4],B41⟩
abbrev L42_0 : CCode := (.seq (sR [(0,oT 6 5 []),(1,oT 7 0 []),(2,oN 8 7 [7]),(3,oB 9 .lss 6 8 [6,8])] (.cond (.t 9) (sK [9] .skip) (sK [0,1,5,9] (.exit 0)))) (.seq (.block 1 (sR [(0,oT 12 0 []),(1,oT 13 5 []),(2,oI 14
1 12 13 []),(3,oL 15 1 14 [12,13,14]),(4,oT 16 1 []),(5,oB 17 .eql 15 16 [15,16])] (.cond (.t 17) (sK [0,1,5,17] (sR [(0,oY 4 true [])] .ret)) (sK [17] .skip)))) (.reg false [(0,oT 10 5 [5]),(1,oC 11 .add 10 1
[10]),(2,oT 5 11 [11])])))
abbrev B42 : CCode := (sR [(0,oY 4 false [4])] (.seq (sR [(0,oZ 5 0 [])] (.block 0 (.loop L42_0))) (sR [(0,oY 4 false [])] .ret)))
def C42 : CFn := ⟨18,2,[.t 4],B42⟩
abbrev L43_0 : CCode := (.seq (sR [(0,oT 24 7 []),(1,oT 25 1 []),(2,oN 26 25 [25]),(3,oB 27 .lss 24 26 [24,26])] (.cond (.t 27) (sK [27] .skip) (sK [1,2,7,27] (.exit 0)))) (.seq (.block 1 (.seq (.reg true [(0,oF 30 1 2
[]),(1,oL 31 1 30 [30]),(2,oT 32 1 []),(3,oT 33 7 []),(4,oI 34 1 32 33 []),(5,oL 35 1 34 [32,33,34]),(6,oI 36 2 31 35 [31]),(7,oM 37 2 36 [36]),(8,oP 8 (.al [.int .i64 (0),.nils]) []),(9,⟨none,.st 2 (.t 8) (.t
37),none,[],[35,37]⟩)]) (.reg true [(0,oF 38 1 6 []),(1,oL 39 1 38 []),(2,oF 40 0 8 []),(3,oL 41 1 40 []),(4,oP 42 (.bsl 1 0 [.int .i64 (0)] []) []),(5,oF 43 1 8 []),(6,oL 44 1 43 [43]),(7,⟨some 45,.app 1 8 (.t 42) (.t
44),none,[(38,1),(40,1)],[8,38,40,42,44]⟩),(8,oP 46 (.bld [.int .i64 (0),.nils] [(0,1,(.t 41)),(1,1,(.t 45))]) [41,45]),(9,oP 47 (.bsl 2 1 [.int .i64 (0),.nils] [(0,2,(.t 46))]) [46]),(10,oP 48 (.app 2 32 (.t 39) (.t
47)) [39,47]),(11,oF 49 1 6 []),(12,⟨none,.st 1 (.t 49) (.t 48),none,[],[48,49]⟩)]))) (.reg false [(0,oT 28 7 [7]),(1,oC 29 .add 28 1 [28]),(2,oT 7 29 [29])])))
abbrev B43 : CCode := (sR [(0,oP 2 (.box 2 (.t 0)) [0]),(1,oP 4 (.al [.nils,.nils]) []),(2,oY 5 false [5])] (.seq (sR [(0,oM 9 2 2 []),(1,oP 10 (.call 49 [.t 9]) [9]),(2,oP 11 (.not (.t 10)) [10]),(3,oT 12 11
[11]),(4,oG 13 (.ld 2 true (.t 2)) 12 false []),(5,oG 14 (.mv (.t 1)) 12 false []),(6,oG 15 (.call 89 [.t 13,.t 14]) 12 false [13,14]),(7,oG 16 (.not (.t 15)) 12 false [15]),(8,oP 17 (.pick (.t 12) (.c (.bool true)) (.t
16)) [12,16])] (.cond (.t 17) (sK [1,2,17] (sR [(0,oP 18 (.bld [.nils,.nils] []) []),(1,⟨none,.st 2 (.t 4) (.t 18),none,[],[18]⟩),(2,oY 5 false [])] .ret)) (sK [17] .skip))) (sR [(0,oP 19 (.bsl 3 0 [.str [],.int .i64
(0),.int .i64 (0)] []) []),(1,oF 20 0 2 []),(2,oL 21 1 20 [20]),(3,oP 22 (.app 3 32 (.t 19) (.t 21)) [19,21]),(4,oP 23 (.bld [.nils,.nils] [(0,1,(.t 22))]) [22]),(5,oP 6 (.al [.nils,.nils]) []),(6,⟨none,.st 2 (.t 6) (.t
23),none,[],[23]⟩)] (.seq (sR [(0,oZ 7 0 [])] (.block 0 (.loop L43_0))) (sR [(0,oM 50 2 6 []),(1,⟨none,.st 2 (.t 4) (.t 50),none,[],[6,50]⟩),(2,oY 5 true [])] .ret)))))
def C43 : CFn := ⟨51,2,[.m 4 2 true,.t 5],B43⟩
abbrev B44 : CCode := (sR [(0,oP 2 (.box 2 (.t 0)) [0]),(1,oP 3 (.box 2 (.t 1)) [1]),(2,oZ 4 0 [4])] (.seq (sR [(0,oF 5 0 2 []),(1,oL 6 1 5 [5]),(2,oF 7 0 3 []),(3,oL 8 1 7 [7]),(4,oB 9 .lss 6 8 [6,8])] (.cond (.t 9)
(sK [2,3,9] (sR [(0,oZ 4 (-1) [])] .ret)) (sK [9] .skip))) (.seq (sR [(0,oF 10 0 2 []),(1,oL 11 1 10 [10]),(2,oF 12 0 3 []),(3,oL 13 1 12 [12]),(4,oB 14 .gtr 11 13 [11,13])] (.cond (.t 14) (sK [2,3,14] (sR [(0,oZ 4 1
[])] .ret)) (sK [14] .skip))) (sR [(0,oF 15 1 2 []),(1,oL 16 1 15 [15]),(2,oF 17 1 3 []),(3,oL 18 1 17 [17]),(4,oP 19 (.call 90 [.t 16,.t 18]) [2,3,16,18]),(5,oT 4 19 [19])] .ret))))
def C44 : CFn := ⟨20,2,[.t 4],B44⟩
abbrev B45 : CCode := (sR [(0,oP 2 (.box 2 (.t 0)) [0]),(1,oP 3 (.box 3 (.t 1)) [1]),(2,oY 4 false [4])] (sR [(0,oM 5 2 2 []),(1,oP 6 (.call 84 [.t 5]) [5]),(2,oT 7 6 [6]),(3,oG 8 (.fa 0 (.t 2)) 7 true []),(4,oG 9 (.ld
1 false (.t 8)) 7 true [8]),(5,oG 10 (.ld 3 true (.t 3)) 7 true []),(6,oG 11 (.call 91 [.t 9,.t 10]) 7 true [2,3,9,10]),(7,oP 12 (.pick (.t 7) (.t 11) (.c (.bool false))) [7,11]),(8,oT 4 12 [12])] .ret))
def C45 : CFn := ⟨13,2,[.t 4],B45⟩
abbrev L46_0 : CCode := (sR [(0,oB 14 .lss 13 12 [])] (.seq (.cond (.t 14) (sK [14] .skip) (sK [11,12,13,14] (.exit 0))) (.seq (.block 1 (sR [(0,oI 15 1 11 13 []),(1,oL 16 1 15 [15]),(2,oT 7 16 [16])] (.reg false [(0,oT
17 5 [5]),(1,oT 18 7 [7]),(2,oP 19 (.call 92 [.t 17,.t 18]) [17,18]),(3,oT 5 19 [19])]))) (.reg false [(0,oC 20 .add 13 1 [13]),(1,oT 13 20 [20])]))))
abbrev B46 : CCode := (sR [(0,oP 2 (.box 2 (.t 0)) [0]),(1,oP 3 (.box 3 (.t 1)) [1]),(2,oP 4 (.mv (.c (.nils))) [4])] (sR [(0,oP 8 (.bsl 1 0 [.int .i64 (0)] []) []),(1,oT 5 8 [8])] (.seq (sR [(0,oM 9 2 2 []),(1,oM 10 3
3 []),(2,oP 11 (.call 55 [.t 9,.t 10]) [2,3,9,10]),(3,oN 12 11 []),(4,oZ 13 0 [])] (.block 0 (.loop L46_0))) (sR [(0,oT 21 5 [5]),(1,oT 4 21 [21])] .ret))))
def C46 : CFn := ⟨22,2,[.t 4],B46⟩
abbrev B47 : CCode := (sR [(0,oY 4 false [4])] (sR [(0,oT 5 0 [0]),(1,oT 6 1 [1]),(2,oP 7 (.call 93 [.t 5,.t 6]) [5,6]),(3,oC 8 .geq 7 0 [7]),(4,oT 4 8 [8])] .ret))
def C47 : CFn := ⟨9,2,[.t 4],B47⟩
abbrev L48_1 : CCode := (.seq (sR [(0,oT 21 9 []),(1,oT 22 6 []),(2,oN 23 22 [22]),(3,oB 24 .lss 21 23 [21,23])] (.cond (.t 24) (sK [24] .skip) (sK [9,24] (.exit 2)))) (.seq (.block 3 (.reg false [(0,oT 27 8 [8]),(1,oT
28 27 [27]),(2,oG 29 (.mv (.t 6)) 28 false []),(3,oG 30 (.mv (.t 9)) 28 false []),(4,oG 31 (.ia 1 (.t 29) (.t 30)) 28 false []),(5,oG 32 (.ld 1 false (.t 31)) 28 false [31]),(6,oG 33 (.mv (.t 7)) 28 false []),(7,oG 34
(.call 42 [.t 32,.t 33]) 28 false [29,30,32,33]),(8,oP 35 (.pick (.t 28) (.c (.bool true)) (.t 34)) [28,34]),(9,oT 8 35 [35])])) (.reg false [(0,oT 25 9 [9]),(1,oC 26 .add 25 1 [25]),(2,oT 9 26 [26])])))
abbrev L48_0 : CCode := (.seq (sR [(0,oT 14 7 []),(1,oF 15 1 2 []),(2,oL 16 1 15 [15]),(3,oN 17 16 [16]),(4,oB 18 .lss 14 17 [14,17])] (.cond (.t 18) (sK [18] .skip) (sK [2,6,7,18] (.exit 0)))) (.seq (.block 1 (sR
[(0,oY 8 false [])] (.seq (sR [(0,oZ 9 0 [])] (.block 2 (.loop L48_1))) (sR [(0,oT 36 8 [8])] (.cond (.t 36) (sK [36] (.reg false [(0,oT 37 5 [5]),(1,oT 38 7 []),(2,oP 39 (.bsl 1 1 [.int .i64 (0)] [(0,1,(.t 38))])
[38]),(3,oP 40 (.app 1 8 (.t 37) (.t 39)) [37,39]),(4,oT 5 40 [40])])) (sK [36] .skip)))))) (.reg false [(0,oT 19 7 [7]),(1,oC 20 .add 19 1 [19]),(2,oT 7 20 [20])])))
abbrev B48 : CCode := (sR [(0,oP 2 (.box 2 (.t 0)) [0]),(1,oP 3 (.box 3 (.t 1)) [1]),(2,oP 4 (.mv (.c (.nils))) [4])] (sR [(0,oP 10 (.bsl 1 0 [.int .i64 (0)] []) []),(1,oT 5 10 [10])] (sR [(0,oM 11 2 2 []),(1,oM 12 3 3
[]),(2,oP 13 (.call 62 [.t 11,.t 12]) [3,11,12]),(3,oT 6 13 [13])] (.seq (sR [(0,oZ 7 0 [])] (.block 0 (.loop L48_0))) (sR [(0,oT 41 5 [5]),(1,oT 4 41 [41])] .ret)))))
def C48 : CFn := ⟨42,2,[.t 4],B48⟩
abbrev L49_0 : CCode := (.seq (sR [(0,oT 4 3 []),(1,oF 5 1 1 []),(2,oL 6 1 5 [5]),(3,oN 7 6 [6]),(4,oB 8 .lss 4 7 [4,7])] (.cond (.t 8) (sK [8] .skip) (sK [3,8] (.exit 0)))) (.seq (.block 1 (.seq (.reg true [(0,oF 11 0
1 []),(1,oL 12 1 11 [11]),(2,oF 13 1 1 []),(3,oL 14 1 13 [13]),(4,oT 15 3 []),(5,oI 16 2 14 15 [14]),(6,oM 17 2 16 [16]),(7,oP 18 (.call 94 [.t 12,.t 17]) [12,15,17]),(8,oP 19 (.not (.t 18)) [18]),(9,oT 20 19
[19]),(10,oG 21 (.mv (.t 3)) 20 false []),(11,oG 22 (.bin .gtr (.t 21) (.c (.int .i64 0))) 20 false [21]),(12,oG 23 (.mv (.t 22)) 20 false [22]),(13,oG 24 (.fa 1 (.t 1)) 23 true []),(14,oG 25 (.ld 1 false (.t 24)) 23
true [24]),(15,oG 26 (.mv (.t 3)) 23 true []),(16,oG 27 (.bin .sub (.t 26) (.c (.int .i64 1))) 23 true [26]),(17,oG 28 (.ia 2 (.t 25) (.t 27)) 23 true [25]),(18,oG 29 (.ld 2 true (.t 28)) 23 true [28]),(19,oG 30 (.fa 1
(.t 1)) 23 true []),(20,oG 31 (.ld 1 false (.t 30)) 23 true [30]),(21,oG 32 (.mv (.t 3)) 23 true []),(22,oG 33 (.ia 2 (.t 31) (.t 32)) 23 true [31]),(23,oG 34 (.ld 2 true (.t 33)) 23 true [33]),(24,oG 35 (.call 44 [.t
29,.t 34]) 23 true [27,29,32,34]),(25,oG 36 (.bin .geq (.t 35) (.c (.int .i64 0))) 23 true [35]),(26,oG 37 (.pick (.t 23) (.t 36) (.c (.bool false))) 20 false [23,36]),(27,oP 38 (.pick (.t 20) (.c (.bool true)) (.t 37))
[20,37])]) (.cond (.t 38) (sK [1,3,38] (sR [(0,oY 2 false [])] .ret)) (sK [38] .skip)))) (.reg false [(0,oT 9 3 [3]),(1,oC 10 .add 9 1 [9]),(2,oT 3 10 [10])])))
abbrev B49 : CCode := (sR [(0,oP 1 (.box 2 (.t 0)) [0]),(1,oY 2 false [2])] (.seq (sR [(0,oZ 3 0 [])] (.block 0 (.loop L49_0))) (sR [(0,oF 39 0 1 []),(1,oL 40 1 39 [39]),(2,oP 41 (.call 95 [.t 40]) [40]),(3,oT 42 41
[41]),(4,oG 43 (.fa 1 (.t 1)) 42 true []),(5,oG 44 (.ld 1 false (.t 43)) 42 true [43]),(6,oG 45 (.len (.t 44)) 42 true [1,44]),(7,oG 46 (.bin .leq (.t 45) (.c (.int .i64 14))) 42 true [45]),(8,oP 47 (.pick (.t 42) (.t
46) (.c (.bool false))) [42,46]),(9,oT 2 47 [47])] .ret)))
def C49 : CFn := ⟨48,1,[.t 2],B49⟩
abbrev L50_3 : CCode := (.seq (sR [(0,oT 60 8 []),(1,oT 61 6 []),(2,oB 62 .lss 60 61 [60,61])] (.cond (.t 62) (sK [62] .skip) (sK [8,62] (.exit 2)))) (.seq (.block 3 (.seq (.reg true [(0,oF 65 1 3 []),(1,oL 66 1 65
[65]),(2,oT 67 8 []),(3,oI 68 2 66 67 [66]),(4,oF 69 0 68 [68]),(5,oL 70 1 69 [67,69]),(6,oF 71 0 7 []),(7,oL 72 1 71 [71]),(8,oB 73 .eql 70 72 [70,72])]) (.cond (.t 73) (sK [0,3,5,6,7,8,73] (sR [(0,oY 4 false [])]
.ret)) (sK [73] .skip)))) (.reg false [(0,oT 63 8 [8]),(1,oC 64 .add 63 1 [63]),(2,oT 8 64 [64])])))
abbrev L50_4 : CCode := (.seq (sR [(0,oT 74 9 []),(1,oF 75 1 7 []),(2,oL 76 1 75 [75]),(3,oN 77 76 [76]),(4,oB 78 .lss 74 77 [74,77])] (.cond (.t 78) (sK [78] .skip) (sK [7,9,78] (.exit 4)))) (.seq (.block 5 (.seq (.seq
(.reg true [(0,oF 81 1 7 []),(1,oL 82 1 81 [81]),(2,oT 83 9 []),(3,oI 84 1 82 83 [82]),(4,oL 85 1 84 [83,84]),(5,oF 86 0 3 []),(6,oL 87 1 86 [86]),(7,oC 88 .sub 87 1 [87]),(8,oP 89 (.call 87 [.t 85,(.c (.int .i64
(-10))),.t 88]) [85,88]),(9,oP 90 (.not (.t 89)) [89])]) (.cond (.t 90) (sK [0,3,5,6,7,9,90] (sR [(0,oY 4 false [])] .ret)) (sK [90] .skip))) (sR [(0,oF 91 1 7 []),(1,oL 92 1 91 [91]),(2,oT 93 9 []),(3,oI 94 1 92 93
[92]),(4,oL 95 1 94 [93,94]),(5,oC 96 .geq 95 0 [95])] (.cond (.t 96) (sK [96] (.reg false [(0,oT 97 5 []),(1,oF 98 1 7 []),(2,oL 99 1 98 [98]),(3,oT 100 9 []),(4,oI 101 1 99 100 [99]),(5,oL 102 1 101 [100,101]),(6,oI
103 1 97 102 []),(7,⟨none,.st 1 (.t 103) (.c (.bool true)),none,[],[97,102,103]⟩)])) (sK [96] .skip))))) (.reg false [(0,oT 79 9 [9]),(1,oC 80 .add 79 1 [79]),(2,oT 9 80 [80])])))
abbrev L50_0 : CCode := (.seq (sR [(0,oT 29 6 []),(1,oF 30 1 3 []),(2,oL 31 1 30 [30]),(3,oN 32 31 [31]),(4,oB 33 .lss 29 32 [29,32])] (.cond (.t 33) (sK [33] .skip) (sK [0,6,33] (.exit 0)))) (.seq (.block 1 (sR [(0,oF
36 1 3 []),(1,oL 37 1 36 [36]),(2,oT 38 6 []),(3,oI 39 2 37 38 [37]),(4,oM 40 2 39 [39]),(5,oP 7 (.al [.int .i64 (0),.nils]) []),(6,⟨none,.st 2 (.t 7) (.t 40),none,[],[38,40]⟩)] (.seq (.seq (.reg true [(0,oF 41 0 7
[]),(1,oL 42 1 41 [41]),(2,oT 43 0 []),(3,oN 44 43 [43]),(4,oC 45 .sub 44 1 [44]),(5,oP 46 (.call 87 [.t 42,(.c (.int .i64 0)),.t 45]) [42,45]),(6,oP 47 (.not (.t 46)) [46]),(7,oT 48 47 [47]),(8,oG 49 (.fa 1 (.t 7)) 48
false []),(9,oG 50 (.ld 1 false (.t 49)) 48 false [49]),(10,oG 51 (.len (.t 50)) 48 false [50]),(11,oG 52 (.mv (.t 0)) 48 false []),(12,oG 53 (.fa 0 (.t 7)) 48 false []),(13,oG 54 (.ld 1 false (.t 53)) 48 false
[53]),(14,oG 55 (.ia 3 (.t 52) (.t 54)) 48 false []),(15,oG 56 (.fa 1 (.t 55)) 48 false [55]),(16,oG 57 (.ld 1 false (.t 56)) 48 false [52,54,56]),(17,oG 58 (.bin .neq (.t 51) (.t 57)) 48 false [51,57]),(18,oP 59 (.pick
(.t 48) (.c (.bool true)) (.t 58)) [48,58])]) (.cond (.t 59) (sK [0,3,5,6,7,59] (sR [(0,oY 4 false [])] .ret)) (sK [59] .skip))) (.seq (sR [(0,oZ 8 0 [])] (.block 2 (.loop L50_3))) (sR [(0,oZ 9 0 [])] (.block 4 (.loop
L50_4))))))) (.reg false [(0,oT 34 6 [6]),(1,oC 35 .add 34 1 [34]),(2,oT 6 35 [35])])))
abbrev L50_1 : CCode := (.seq (sR [(0,oT 104 10 []),(1,oF 105 0 3 []),(2,oL 106 1 105 [105]),(3,oB 107 .lss 104 106 [104,106])] (.cond (.t 107) (sK [107] .skip) (sK [5,10,107] (.exit 6)))) (.seq (.block 7 (sR [(0,oT 110
5 []),(1,oT 111 10 []),(2,oI 112 1 110 111 []),(3,oL 113 1 112 [110,111,112]),(4,oP 114 (.not (.t 113)) [113])] (.cond (.t 114) (sK [3,5,10,114] (sR [(0,oY 4 false [])] .ret)) (sK [114] .skip)))) (.reg false [(0,oT 108
10 [10]),(1,oC 109 .add 108 1 [108]),(2,oT 10 109 [109])])))
abbrev L50_2 : CCode := (.seq (sR [(0,oT 115 11 []),(1,oF 116 2 3 []),(2,oL 117 1 116 [116]),(3,oN 118 117 [117]),(4,oB 119 .lss 115 118 [115,118])] (.cond (.t 119) (sK [119] .skip) (sK [3,11,119] (.exit 8)))) (.seq
(.block 9 (.seq (.reg true [(0,oF 122 2 3 []),(1,oL 123 1 122 [122]),(2,oT 124 11 []),(3,oI 125 1 123 124 [123]),(4,oL 126 1 125 [124,125]),(5,oF 127 0 3 []),(6,oL 128 1 127 [127]),(7,oC 129 .sub 128 1 [128]),(8,oP 130
(.call 87 [.t 126,(.c (.int .i64 0)),.t 129]) [126,129]),(9,oP 131 (.not (.t 130)) [130]),(10,oT 132 131 [131]),(11,oG 133 (.mv (.t 11)) 132 false []),(12,oG 134 (.bin .gtr (.t 133) (.c (.int .i64 0))) 132 false
[133]),(13,oG 135 (.mv (.t 134)) 132 false [134]),(14,oG 136 (.fa 2 (.t 3)) 135 true []),(15,oG 137 (.ld 1 false (.t 136)) 135 true [136]),(16,oG 138 (.mv (.t 11)) 135 true []),(17,oG 139 (.ia 1 (.t 137) (.t 138)) 135
true [137]),(18,oG 140 (.ld 1 false (.t 139)) 135 true [138,139]),(19,oG 141 (.fa 2 (.t 3)) 135 true []),(20,oG 142 (.ld 1 false (.t 141)) 135 true [141]),(21,oG 143 (.mv (.t 11)) 135 true []),(22,oG 144 (.bin .sub (.t
143) (.c (.int .i64 1))) 135 true [143]),(23,oG 145 (.ia 1 (.t 142) (.t 144)) 135 true [142]),(24,oG 146 (.ld 1 false (.t 145)) 135 true [144,145]),(25,oG 147 (.bin .leq (.t 140) (.t 146)) 135 true [140,146]),(26,oG 148
(.pick (.t 135) (.t 147) (.c (.bool false))) 132 false [135,147]),(27,oP 149 (.pick (.t 132) (.c (.bool true)) (.t 148)) [132,148])]) (.cond (.t 149) (sK [3,11,149] (sR [(0,oY 4 false [])] .ret)) (sK [149] .skip))))
(.reg false [(0,oT 120 11 [11]),(1,oC 121 .add 120 1 [120]),(2,oT 11 121 [121])])))
abbrev B50 : CCode := (sR [(0,oP 3 (.box 3 (.t 1)) [1]),(1,oY 4 false [4])] (.seq (sR [(0,oT 12 0 []),(1,oP 13 (.call 95 [.t 12]) [12]),(2,oP 14 (.not (.t 13)) [13]),(3,oT 15 14 [14]),(4,oG 16 (.fa 0 (.t 3)) 15 false
[]),(5,oG 17 (.ld 1 false (.t 16)) 15 false [16]),(6,oG 18 (.call 87 [.t 17,(.c (.int .i64 0)),(.c (.int .i64 4))]) 15 false [17]),(7,oG 19 (.not (.t 18)) 15 false [18]),(8,oP 20 (.pick (.t 15) (.c (.bool true)) (.t
19)) [15,19]),(9,oT 21 20 [20]),(10,oG 22 (.fa 1 (.t 3)) 21 false []),(11,oG 23 (.ld 1 false (.t 22)) 21 false [22]),(12,oG 24 (.len (.t 23)) 21 false [23]),(13,oG 25 (.call 87 [.t 24,(.c (.int .i64 1)),(.c (.int .i64
3))]) 21 false [24]),(14,oG 26 (.not (.t 25)) 21 false [25]),(15,oP 27 (.pick (.t 21) (.c (.bool true)) (.t 26)) [21,26])] (.cond (.t 27) (sK [0,3,27] (sR [(0,oY 4 false [])] .ret)) (sK [27] .skip))) (sR [(0,oP 28 (.mk
1 1 [.bool false] (.c (.int .i64 4)) (.c (.int .i64 4))) []),(1,oT 5 28 [28])] (.seq (sR [(0,oZ 6 0 [])] (.block 0 (.loop L50_0))) (.seq (sR [(0,oZ 10 0 [])] (.block 6 (.loop L50_1))) (.seq (sR [(0,oZ 11 0 [])] (.block
8 (.loop L50_2))) (sR [(0,oY 4 true [])] .ret)))))))
def C50 : CFn := ⟨150,2,[.t 4],B50⟩
abbrev L55_0 : CCode := (sR [(0,oB 14 .lss 13 12 [])] (.seq (.cond (.t 14) (sK [14] .skip) (sK [11,12,13,14] (.exit 0))) (.seq (.block 1 (sR [(0,oI 15 2 11 13 []),(1,oM 16 2 15 [15]),(2,oP 7 (.al [.nils,.nils])
[]),(3,⟨none,.st 2 (.t 7) (.t 16),none,[],[16]⟩)] (sR [(0,oF 17 1 7 []),(1,oL 18 1 17 [17]),(2,oP 19 (.call 107 [.t 18]) [18,19])] (.reg false [(0,oT 20 5 [5]),(1,oF 21 1 7 []),(2,oL 22 1 21 [21]),(3,oP 23 (.bsl 1 1
[.nils] [(0,1,(.t 22))]) [7,22]),(4,oP 24 (.app 1 24 (.t 20) (.t 23)) [20,23]),(5,oT 5 24 [24])])))) (.reg false [(0,oC 25 .add 13 1 [13]),(1,oT 13 25 [25])]))))
abbrev B55 : CCode := (sR [(0,oP 2 (.box 2 (.t 0)) [0]),(1,oP 3 (.box 3 (.t 1)) [1]),(2,oP 4 (.mv (.c (.nils))) [4])] (sR [(0,oP 8 (.bsl 1 0 [.nils] []) []),(1,oT 5 8 [8])] (.seq (sR [(0,oM 9 2 2 []),(1,oM 10 3 3
[]),(2,oP 11 (.call 106 [.t 9,.t 10]) [2,3,9,10]),(3,oN 12 11 []),(4,oZ 13 0 [])] (.block 0 (.loop L55_0))) (sR [(0,oT 26 5 [5]),(1,oT 4 26 [26])] .ret))))
def C55 : CFn := ⟨27,2,[.t 4],B55⟩
abbrev L56_0 : CCode := (sR [(0,oB 12 .lss 11 10 [])] (.seq (.cond (.t 12) (sK [12] .skip) (sK [1,9,10,11,12] (.exit 0))) (.seq (.block 1 (sR [(0,oT 13 11 []),(1,oI 14 2 9 11 []),(2,oM 15 2 14 [14]),(3,oP 5 (.al [.int
.i64 (0),.nils]) []),(4,oT 4 13 [13]),(5,⟨none,.st 2 (.t 5) (.t 15),none,[],[15]⟩)] (sR [(0,oT 16 3 []),(1,oN 17 16 [16]),(2,oC 18 .sub 17 1 [17]),(3,oT 6 18 [18])] (.seq (.reg true [(0,oT 19 6 []),(1,oC 20 .geq 19 0
[19]),(2,oT 21 20 [20]),(3,oG 22 (.fa 0 (.t 1)) 21 true []),(4,oG 23 (.ld 1 false (.t 22)) 21 true [22]),(5,oG 24 (.fa 1 (.t 1)) 21 true []),(6,oG 25 (.ld 1 false (.t 24)) 21 true [24]),(7,oG 26 (.mv (.t 3)) 21 true
[]),(8,oG 27 (.mv (.t 6)) 21 true []),(9,oG 28 (.ia 1 (.t 26) (.t 27)) 21 true []),(10,oG 29 (.ld 1 false (.t 28)) 21 true [28]),(11,oG 30 (.ia 1 (.t 29) (.c (.int .i64 0))) 21 true [29]),(12,oG 31 (.ld 1 false (.t 30))
21 true [26,27,30]),(13,oG 32 (.ia 2 (.t 25) (.t 31)) 21 true [25]),(14,oG 33 (.ld 2 true (.t 32)) 21 true [32]),(15,oG 34 (.ld 2 true (.t 5)) 21 true []),(16,oG 35 (.call 108 [.t 23,.t 33,.t 34]) 21 true
[5,23,31,33,34]),(17,oP 36 (.pick (.t 21) (.t 35) (.c (.bool false))) [21,35])]) (.cond (.t 36) (sK [36] (.reg false [(0,oT 37 3 []),(1,oT 38 6 []),(2,oT 39 3 []),(3,oT 40 6 [6]),(4,oI 41 1 39 40 []),(5,oL 42 1 41
[41]),(6,oT 43 4 [4]),(7,oP 44 (.bsl 1 1 [.int .i64 (0)] [(0,1,(.t 43))]) [43]),(8,oP 45 (.app 1 8 (.t 42) (.t 44)) [39,40,42,44]),(9,oI 46 1 37 38 []),(10,⟨none,.st 1 (.t 46) (.t 45),none,[],[37,38,45,46]⟩)])) (sK
[6,36] (.reg false [(0,oT 47 3 [3]),(1,oT 48 4 [4]),(2,oP 49 (.bsl 1 1 [.int .i64 (0)] [(0,1,(.t 48))]) [48]),(3,oP 50 (.bsl 1 1 [.nils] [(0,1,(.t 49))]) [49]),(4,oP 51 (.app 1 24 (.t 47) (.t 50)) [47,50]),(5,oT 3 51
[51])]))))))) (.reg false [(0,oC 52 .add 11 1 [11]),(1,oT 11 52 [52])]))))
abbrev B56 : CCode := (sR [(0,oP 1 (.box 2 (.t 0)) [0]),(1,oP 2 (.mv (.c (.nils))) [2])] (sR [(0,oP 7 (.bsl 1 0 [.nils] []) []),(1,oT 3 7 [7])] (.seq (sR [(0,oF 8 1 1 []),(1,oL 9 1 8 [8]),(2,oN 10 9 []),(3,oZ 11 0 [])]
(.block 0 (.loop L56_0))) (sR [(0,oT 53 3 [3]),(1,oT 2 53 [53])] .ret))))
def C56 : CFn := ⟨54,1,[.t 2],B56⟩
abbrev B59 : CCode := (sR [(0,oY 6 false [6])] (sR [(0,oT 7 1 [1]),(1,oT 8 0 []),(2,oB 9 .leq 7 8 [7,8]),(3,oT 10 9 [9]),(4,oG 11 (.mv (.t 0)) 10 true [0]),(5,oG 12 (.mv (.t 2)) 10 true [2]),(6,oG 13 (.bin .leq (.t 11)
(.t 12)) 10 true [11,12]),(7,oP 14 (.pick (.t 10) (.t 13) (.c (.bool false))) [10,13]),(8,oT 6 14 [14])] .ret))
def C59 : CFn := ⟨15,3,[.t 6],B59⟩
abbrev L62_0 : CCode := (.seq (sR [(0,oT 13 7 []),(1,oT 14 6 []),(2,oN 15 14 [14]),(3,oB 16 .lss 13 15 [13,15])] (.cond (.t 16) (sK [16] .skip) (sK [2,6,7,16] (.exit 0)))) (.seq (.block 1 (sR [(0,oT 19 6 []),(1,oT 20 7
[]),(2,oI 21 2 19 20 []),(3,oF 22 1 21 [21]),(4,oL 23 1 22 [22]),(5,oP 24 (.call 113 [.t 23]) [19,20,23]),(6,oT 8 24 [24])] (sR [(0,oM 25 2 2 []),(1,oT 26 8 []),(2,oP 27 (.call 114 [.t 25,.t 26]) [25,26])] (.cond (.t
27) (sK [27] (.reg false [(0,oT 28 5 [5]),(1,oT 29 8 [8]),(2,oP 30 (.bsl 1 1 [.nils] [(0,1,(.t 29))]) [29]),(3,oP 31 (.app 1 24 (.t 28) (.t 30)) [28,30]),(4,oT 5 31 [31])])) (sK [8,27] .skip))))) (.reg false [(0,oT 17 7
[7]),(1,oC 18 .add 17 1 [17]),(2,oT 7 18 [18])])))
abbrev B62 : CCode := (sR [(0,oP 2 (.box 2 (.t 0)) [0]),(1,oP 3 (.box 3 (.t 1)) [1]),(2,oP 4 (.mv (.c (.nils))) [4])] (sR [(0,oP 9 (.bsl 1 0 [.nils] []) []),(1,oT 5 9 [9])] (sR [(0,oM 10 2 2 []),(1,oM 11 3 3 []),(2,oP
12 (.call 112 [.t 10,.t 11]) [3,10,11]),(3,oT 6 12 [12])] (.seq (sR [(0,oZ 7 0 [])] (.block 0 (.loop L62_0))) (sR [(0,oT 32 5 [5]),(1,oT 4 32 [32])] .ret)))))
def C62 : CFn := ⟨33,2,[.t 4],B62⟩
abbrev L63_0 : CCode := (.seq (sR [(0,oT 7 4 []),(1,oF 8 1 1 []),(2,oL 9 1 8 [8]),(3,oN 10 9 [9]),(4,oB 11 .lss 7 10 [7,10]),(5,oT 12 11 [11]),(6,oG 13 (.ld 2 true (.t 1)) 12 true []),(7,oG 14 (.call 49 [.t 13]) 12 true
[13]),(8,oP 15 (.pick (.t 12) (.t 14) (.c (.bool false))) [12,14])] (.cond (.t 15) (sK [15] .skip) (sK [1,4,15] (.exit 0)))) (.seq (.block 1 (sR [(0,oM 18 2 1 []),(1,oT 19 4 []),(2,oP 20 (.call 41 [.t 18,.t 19])
[18,19]),(3,oT 5 20 [20])] (sR [(0,oT 21 5 []),(1,oP 22 (.ia 1 (.t 21) (.c (.int .i64 0))) []),(2,oL 23 1 22 [21,22]),(3,oT 24 4 []),(4,oB 25 .eql 23 24 [23,24])] (.cond (.t 25) (sK [25] (.reg false [(0,oT 26 3
[3]),(1,oT 27 5 [5]),(2,oP 28 (.bsl 1 1 [.nils] [(0,1,(.t 27))]) [27]),(3,oP 29 (.app 1 24 (.t 26) (.t 28)) [26,28]),(4,oT 3 29 [29])])) (sK [5,25] .skip))))) (.reg false [(0,oT 16 4 [4]),(1,oC 17 .add 16 1 [16]),(2,oT
4 17 [17])])))
abbrev B63 : CCode := (sR [(0,oP 1 (.box 2 (.t 0)) [0]),(1,oP 2 (.mv (.c (.nils))) [2])] (sR [(0,oP 6 (.bsl 1 0 [.nils] []) []),(1,oT 3 6 [6])] (.seq (sR [(0,oZ 4 0 [])] (.block 0 (.loop L63_0))) (sR [(0,oT 30 3
[3]),(1,oT 2 30 [30])] .ret))))
def C63 : CFn := ⟨31,1,[.t 2],B63⟩
abbrev L65_0 : CCode := (.seq (sR [(0,oT 12 5 []),(1,oT 13 0 []),(2,oN 14 13 [13]),(3,oB 15 .lss 12 14 [12,14])] (.cond (.t 15) (sK [15] .skip) (sK [0,5,15] (.exit 0)))) (.seq (.block 1 (sR [(0,oT 18 0 []),(1,oT 19 5
[]),(2,oI 20 3 18 19 []),(3,oM 21 3 20 [20]),(4,oT 22 1 [1]),(5,oP 23 (.call 116 [.t 21,.t 22]) [18,19,21,22]),(6,oT 1 23 [23])] (sR [(0,oT 24 1 []),(1,oC 25 .lss 24 0 [24])] (.cond (.t 25) (sK [0,1,5,25] (sR [(0,oZ 4
(-1) [])] .ret)) (sK [25] .skip))))) (.reg false [(0,oT 16 5 [5]),(1,oC 17 .add 16 1 [16]),(2,oT 5 17 [17])])))
abbrev B65 : CCode := (sR [(0,oZ 4 0 [4])] (sR [(0,oT 6 1 [1]),(1,oT 7 0 []),(2,oN 8 7 [7]),(3,oB 9 .sub 6 8 [6,8]),(4,oT 1 9 [9])] (.seq (sR [(0,oT 10 1 []),(1,oC 11 .lss 10 0 [10])] (.cond (.t 11) (sK [0,1,11] (sR
[(0,oZ 4 (-1) [])] .ret)) (sK [11] .skip))) (.seq (sR [(0,oZ 5 0 [])] (.block 0 (.loop L65_0))) (sR [(0,oT 26 1 [1]),(1,oT 4 26 [26])] .ret)))))
def C65 : CFn := ⟨27,2,[.t 4],B65⟩
abbrev L66_0 : CCode := (.seq (sR [(0,oT 12 5 []),(1,oT 13 0 []),(2,oN 14 13 [13]),(3,oB 15 .lss 12 14 [12,14])] (.cond (.t 15) (sK [15] .skip) (sK [0,5,15] (.exit 0)))) (.seq (.block 1 (sR [(0,oT 18 0 []),(1,oT 19 5
[]),(2,oI 20 2 18 19 []),(3,oM 21 2 20 [20]),(4,oT 22 1 [1]),(5,oP 23 (.call 117 [.t 21,.t 22]) [18,19,21,22]),(6,oT 1 23 [23])] (sR [(0,oT 24 1 []),(1,oC 25 .lss 24 0 [24])] (.cond (.t 25) (sK [0,1,5,25] (sR [(0,oZ 4
(-1) [])] .ret)) (sK [25] .skip))))) (.reg false [(0,oT 16 5 [5]),(1,oC 17 .add 16 1 [16]),(2,oT 5 17 [17])])))
abbrev B66 : CCode := (sR [(0,oZ 4 0 [4])] (sR [(0,oT 6 1 [1]),(1,oT 7 0 []),(2,oN 8 7 [7]),(3,oB 9 .sub 6 8 [6,8]),(4,oT 1 9 [9])] (.seq (sR [(0,oT 10 1 []),(1,oC 11 .lss 10 0 [10])] (.cond (.t 11) (sK [0,1,11] (sR
[(0,oZ 4 (-1) [])] .ret)) (sK [11] .skip))) (.seq (sR [(0,oZ 5 0 [])] (.block 0 (.loop L66_0))) (sR [(0,oT 26 1 [1]),(1,oT 4 26 [26])] .ret)))))
def C66 : CFn := ⟨27,2,[.t 4],B66⟩
abbrev L67_0 : CCode := (.seq (sR [(0,oT 12 5 []),(1,oT 13 0 []),(2,oN 14 13 [13]),(3,oB 15 .lss 12 14 [12,14])] (.cond (.t 15) (sK [15] .skip) (sK [0,5,15] (.exit 0)))) (.seq (.block 1 (sR [(0,oT 18 0 []),(1,oT 19 5
[]),(2,oI 20 2 18 19 []),(3,oM 21 2 20 [20]),(4,oT 22 1 [1]),(5,oP 23 (.call 118 [.t 21,.t 22]) [18,19,21,22]),(6,oT 1 23 [23])] (sR [(0,oT 24 1 []),(1,oC 25 .lss 24 0 [24])] (.cond (.t 25) (sK [0,1,5,25] (sR [(0,oZ 4
(-1) [])] .ret)) (sK [25] .skip))))) (.reg false [(0,oT 16 5 [5]),(1,oC 17 .add 16 1 [16]),(2,oT 5 17 [17])])))
abbrev B67 : CCode := (sR [(0,oZ 4 0 [4])] (sR [(0,oT 6 1 [1]),(1,oT 7 0 []),(2,oN 8 7 [7]),(3,oB 9 .sub 6 8 [6,8]),(4,oT 1 9 [9])] (.seq (sR [(0,oT 10 1 []),(1,oC 11 .lss 10 0 [10])] (.cond (.t 11) (sK [0,1,11] (sR
[(0,oZ 4 (-1) [])] .ret)) (sK [11] .skip))) (.seq (sR [(0,oZ 5 0 [])] (.block 0 (.loop L67_0))) (sR [(0,oT 26 1 [1]),(1,oT 4 26 [26])] .ret)))))
def C67 : CFn := ⟨27,2,[.t 4],B67⟩
abbrev B68 : CCode := (sR [(0,oZ 4 0 [4])] (sR [(0,oT 5 1 [1]),(1,oT 6 0 [0]),(2,oN 7 6 [6]),(3,oB 8 .sub 5 7 [5,7]),(4,oT 1 8 [8])] (.seq (sR [(0,oT 9 1 []),(1,oC 10 .lss 9 0 [9])] (.cond (.t 10) (sK [1,10] (sR [(0,oZ
4 (-1) [])] .ret)) (sK [10] .skip))) (sR [(0,oT 11 1 [1]),(1,oT 4 11 [11])] .ret))))
def C68 : CFn := ⟨12,2,[.t 4],B68⟩
abbrev L69_0 : CCode := (.seq (sR [(0,oT 8 4 []),(1,oT 9 0 []),(2,oN 10 9 [9]),(3,oB 11 .lss 8 10 [8,10])] (.cond (.t 11) (sK [11] .skip) (sK [0,4,11] (.exit 0)))) (.seq (.block 1 (.reg false [(0,oT 14 3 []),(1,oT 15 4
[]),(2,oT 16 0 []),(3,oT 17 4 []),(4,oI 18 3 16 17 []),(5,oM 19 3 18 [18]),(6,oP 20 (.call 119 [.t 19]) [16,17,19]),(7,oI 21 3 14 15 []),(8,⟨none,.st 3 (.t 21) (.t 20),none,[],[14,15,20,21]⟩)])) (.reg false [(0,oT 12 4
[4]),(1,oC 13 .add 12 1 [12]),(2,oT 4 13 [13])])))
abbrev B69 : CCode := (sR [(0,oP 2 (.mv (.c (.nils))) [2])] (sR [(0,oT 5 0 []),(1,oN 6 5 [5]),(2,oP 7 (.mk 3 32 [.str [],.int .i64 (0),.int .i64 (0)] (.t 6) (.t 6)) [6]),(3,oT 3 7 [7])] (.seq (sR [(0,oZ 4 0 [])] (.block
0 (.loop L69_0))) (sR [(0,oT 22 3 [3]),(1,oT 2 22 [22])] .ret))))
def C69 : CFn := ⟨23,1,[.t 2],B69⟩
abbrev L70_0 : CCode := (.seq (sR [(0,oT 8 4 []),(1,oT 9 0 []),(2,oN 10 9 [9]),(3,oB 11 .lss 8 10 [8,10])] (.cond (.t 11) (sK [11] .skip) (sK [0,4,11] (.exit 0)))) (.seq (.block 1 (.reg false [(0,oT 14 3 []),(1,oT 15 4
[]),(2,oT 16 0 []),(3,oT 17 4 []),(4,oI 18 2 16 17 []),(5,oM 19 2 18 [18]),(6,oP 20 (.call 120 [.t 19]) [16,17,19]),(7,oI 21 2 14 15 []),(8,⟨none,.st 2 (.t 21) (.t 20),none,[],[14,15,20,21]⟩)])) (.reg false [(0,oT 12 4
[4]),(1,oC 13 .add 12 1 [12]),(2,oT 4 13 [13])])))
abbrev B70 : CCode := (sR [(0,oP 2 (.mv (.c (.nils))) [2])] (sR [(0,oT 5 0 []),(1,oN 6 5 [5]),(2,oP 7 (.mk 2 32 [.int .i64 (0),.nils] (.t 6) (.t 6)) [6]),(3,oT 3 7 [7])] (.seq (sR [(0,oZ 4 0 [])] (.block 0 (.loop
L70_0))) (sR [(0,oT 22 3 [3]),(1,oT 2 22 [22])] .ret))))
def C70 : CFn := ⟨23,1,[.t 2],B70⟩
abbrev L71_0 : CCode := (.seq (sR [(0,oT 8 4 []),(1,oT 9 0 []),(2,oN 10 9 [9]),(3,oB 11 .lss 8 10 [8,10])] (.cond (.t 11) (sK [11] .skip) (sK [0,4,11] (.exit 0)))) (.seq (.block 1 (.reg false [(0,oT 14 3 []),(1,oT 15 4
[]),(2,oT 16 0 []),(3,oT 17 4 []),(4,oI 18 2 16 17 []),(5,oM 19 2 18 [18]),(6,oP 20 (.call 121 [.t 19]) [16,17,19]),(7,oI 21 2 14 15 []),(8,⟨none,.st 2 (.t 21) (.t 20),none,[],[14,15,20,21]⟩)])) (.reg false [(0,oT 12 4
[4]),(1,oC 13 .add 12 1 [12]),(2,oT 4 13 [13])])))
abbrev B71 : CCode := (sR [(0,oP 2 (.mv (.c (.nils))) [2])] (sR [(0,oT 5 0 []),(1,oN 6 5 [5]),(2,oP 7 (.mk 2 32 [.int .i64 (0),.nils] (.t 6) (.t 6)) [6]),(3,oT 3 7 [7])] (.seq (sR [(0,oZ 4 0 [])] (.block 0 (.loop
L71_0))) (sR [(0,oT 22 3 [3]),(1,oT 2 22 [22])] .ret))))
def C71 : CFn := ⟨23,1,[.t 2],B71⟩
abbrev L72_0 : CCode := (.seq (sR [(0,oT 8 4 []),(1,oT 9 0 []),(2,oN 10 9 [9]),(3,oB 11 .lss 8 10 [8,10])] (.cond (.t 11) (sK [11] .skip) (sK [0,4,11] (.exit 0)))) (.seq (.block 1 (.reg false [(0,oT 14 3 []),(1,oT 15 4
[]),(2,oT 16 0 []),(3,oT 17 4 []),(4,oI 18 1 16 17 []),(5,oL 19 1 18 [16,17,18]),(6,oI 20 1 14 15 []),(7,⟨none,.st 1 (.t 20) (.t 19),none,[],[14,15,19,20]⟩)])) (.reg false [(0,oT 12 4 [4]),(1,oC 13 .add 12 1 [12]),(2,oT
4 13 [13])])))
abbrev B72 : CCode := (sR [(0,oP 2 (.mv (.c (.nils))) [2])] (sR [(0,oT 5 0 []),(1,oN 6 5 [5]),(2,oP 7 (.mk 1 8 [.int .i64 (0)] (.t 6) (.t 6)) [6]),(3,oT 3 7 [7])] (.seq (sR [(0,oZ 4 0 [])] (.block 0 (.loop L72_0))) (sR
[(0,oT 21 3 [3]),(1,oT 2 21 [21])] .ret))))
def C72 : CFn := ⟨22,1,[.t 2],B72⟩
abbrev L73_0 : CCode := (.seq (sR [(0,oT 11 5 []),(1,oT 12 0 []),(2,oN 13 12 [12]),(3,oB 14 .lss 11 13 [11,13])] (.cond (.t 14) (sK [14] .skip) (sK [0,1,5,14] (.exit 0)))) (.seq (.block 1 (.seq (.reg true [(0,oT 17 0
[]),(1,oT 18 5 []),(2,oI 19 3 17 18 []),(3,oM 20 3 19 [19]),(4,oT 21 1 []),(5,oT 22 5 []),(6,oI 23 3 21 22 []),(7,oM 24 3 23 [23]),(8,oP 25 (.call 122 [.t 20,.t 24]) [17,18,20,21,22,24]),(9,oP 26 (.not (.t 25)) [25])])
(.cond (.t 26) (sK [0,1,5,26] (sR [(0,oY 4 false [])] .ret)) (sK [26] .skip)))) (.reg false [(0,oT 15 5 [5]),(1,oC 16 .add 15 1 [15]),(2,oT 5 16 [16])])))
abbrev B73 : CCode := (sR [(0,oY 4 false [4])] (.seq (sR [(0,oT 6 0 []),(1,oN 7 6 [6]),(2,oT 8 1 []),(3,oN 9 8 [8]),(4,oB 10 .neq 7 9 [7,9])] (.cond (.t 10) (sK [0,1,10] (sR [(0,oY 4 false [])] .ret)) (sK [10] .skip)))
(.seq (sR [(0,oZ 5 0 [])] (.block 0 (.loop L73_0))) (sR [(0,oY 4 true [])] .ret))))
def C73 : CFn := ⟨27,2,[.t 4],B73⟩
abbrev L74_0 : CCode := (.seq (sR [(0,oT 11 5 []),(1,oT 12 0 []),(2,oN 13 12 [12]),(3,oB 14 .lss 11 13 [11,13])] (.cond (.t 14) (sK [14] .skip) (sK [0,1,5,14] (.exit 0)))) (.seq (.block 1 (.seq (.reg true [(0,oT 17 0
[]),(1,oT 18 5 []),(2,oI 19 2 17 18 []),(3,oM 20 2 19 [19]),(4,oT 21 1 []),(5,oT 22 5 []),(6,oI 23 2 21 22 []),(7,oM 24 2 23 [23]),(8,oP 25 (.call 123 [.t 20,.t 24]) [17,18,20,21,22,24]),(9,oP 26 (.not (.t 25)) [25])])
(.cond (.t 26) (sK [0,1,5,26] (sR [(0,oY 4 false [])] .ret)) (sK [26] .skip)))) (.reg false [(0,oT 15 5 [5]),(1,oC 16 .add 15 1 [15]),(2,oT 5 16 [16])])))
abbrev B74 : CCode := (sR [(0,oY 4 false [4])] (.seq (sR [(0,oT 6 0 []),(1,oN 7 6 [6]),(2,oT 8 1 []),(3,oN 9 8 [8]),(4,oB 10 .neq 7 9 [7,9])] (.cond (.t 10) (sK [0,1,10] (sR [(0,oY 4 false [])] .ret)) (sK [10] .skip)))
(.seq (sR [(0,oZ 5 0 [])] (.block 0 (.loop L74_0))) (sR [(0,oY 4 true [])] .ret))))
def C74 : CFn := ⟨27,2,[.t 4],B74⟩
abbrev L75_0 : CCode := (.seq (sR [(0,oT 11 5 []),(1,oT 12 0 []),(2,oN 13 12 [12]),(3,oB 14 .lss 11 13 [11,13])] (.cond (.t 14) (sK [14] .skip) (sK [0,1,5,14] (.exit 0)))) (.seq (.block 1 (.seq (.reg true [(0,oT 17 0
[]),(1,oT 18 5 []),(2,oI 19 2 17 18 []),(3,oM 20 2 19 [19]),(4,oT 21 1 []),(5,oT 22 5 []),(6,oI 23 2 21 22 []),(7,oM 24 2 23 [23]),(8,oP 25 (.call 124 [.t 20,.t 24]) [17,18,20,21,22,24]),(9,oP 26 (.not (.t 25)) [25])])
(.cond (.t 26) (sK [0,1,5,26] (sR [(0,oY 4 false [])] .ret)) (sK [26] .skip)))) (.reg false [(0,oT 15 5 [5]),(1,oC 16 .add 15 1 [15]),(2,oT 5 16 [16])])))
abbrev B75 : CCode := (sR [(0,oY 4 false [4])] (.seq (sR [(0,oT 6 0 []),(1,oN 7 6 [6]),(2,oT 8 1 []),(3,oN 9 8 [8]),(4,oB 10 .neq 7 9 [7,9])] (.cond (.t 10) (sK [0,1,10] (sR [(0,oY 4 false [])] .ret)) (sK [10] .skip)))
(.seq (sR [(0,oZ 5 0 [])] (.block 0 (.loop L75_0))) (sR [(0,oY 4 true [])] .ret))))
def C75 : CFn := ⟨27,2,[.t 4],B75⟩
abbrev L76_0 : CCode := (.seq (sR [(0,oT 11 5 []),(1,oT 12 0 []),(2,oN 13 12 [12]),(3,oB 14 .lss 11 13 [11,13])] (.cond (.t 14) (sK [14] .skip) (sK [0,1,5,14] (.exit 0)))) (.seq (.block 1 (.seq (.reg true [(0,oT 17 0
[]),(1,oT 18 5 []),(2,oI 19 1 17 18 []),(3,oL 20 1 19 [17,18,19]),(4,oT 21 1 []),(5,oT 22 5 []),(6,oI 23 1 21 22 []),(7,oL 24 1 23 [21,22,23]),(8,oB 25 .neq 20 24 [20,24])]) (.cond (.t 25) (sK [0,1,5,25] (sR [(0,oY 4
false [])] .ret)) (sK [25] .skip)))) (.reg false [(0,oT 15 5 [5]),(1,oC 16 .add 15 1 [15]),(2,oT 5 16 [16])])))
abbrev B76 : CCode := (sR [(0,oY 4 false [4])] (.seq (sR [(0,oT 6 0 []),(1,oN 7 6 [6]),(2,oT 8 1 []),(3,oN 9 8 [8]),(4,oB 10 .neq 7 9 [7,9])] (.cond (.t 10) (sK [0,1,10] (sR [(0,oY 4 false [])] .ret)) (sK [10] .skip)))
(.seq (sR [(0,oZ 5 0 [])] (.block 0 (.loop L76_0))) (sR [(0,oY 4 true [])] .ret))))
def C76 : CFn := ⟨26,2,[.t 4],B76⟩
abbrev L77_0 : CCode := (.seq (sR [(0,oT 6 5 []),(1,oT 7 0 []),(2,oN 8 7 [7]),(3,oB 9 .lss 6 8 [6,8])] (.cond (.t 9) (sK [9] .skip) (sK [5,9] (.exit 0)))) (.seq (.block 1 (sR [(0,oT 12 0 []),(1,oT 13 5 []),(2,oT 14 1
[]),(3,oP 15 (.call 125 [.t 14]) [14]),(4,oI 16 3 12 13 []),(5,oF 17 0 16 [16]),(6,⟨none,.st 1 (.t 17) (.t 15),none,[],[12,13,15,17]⟩)] (sR [(0,oT 18 1 [1]),(1,oC 19 .add 18 1 [18]),(2,oT 1 19 [19])] (sR [(0,oT 20 0
[]),(1,oT 21 5 []),(2,oT 22 1 []),(3,oI 23 3 20 21 []),(4,oF 24 1 23 [23]),(5,⟨none,.st 1 (.t 24) (.t 22),none,[],[20,21,22,24]⟩)] (sR [(0,oT 25 1 [1]),(1,oC 26 .add 25 1 [25]),(2,oT 1 26 [26])] (sR [(0,oT 27 0
[]),(1,oT 28 5 []),(2,oT 29 1 []),(3,oI 30 3 27 28 []),(4,oF 31 2 30 [30]),(5,⟨none,.st 1 (.t 31) (.t 29),none,[],[27,28,29,31]⟩)] (.reg false [(0,oT 32 1 [1]),(1,oC 33 .add 32 1 [32]),(2,oT 1 33 [33])]))))))) (.reg
false [(0,oT 10 5 [5]),(1,oC 11 .add 10 1 [10]),(2,oT 5 11 [11])])))
abbrev B77 : CCode := (sR [(0,oZ 4 0 [4])] (.seq (sR [(0,oZ 5 0 [])] (.block 0 (.loop L77_0))) (sR [(0,oT 34 1 [1]),(1,oT 4 34 [34])] .ret)))
def C77 : CFn := ⟨35,2,[.t 4],B77⟩
abbrev L78_0 : CCode := (.seq (sR [(0,oT 6 5 []),(1,oT 7 0 []),(2,oN 8 7 [7]),(3,oB 9 .lss 6 8 [6,8])] (.cond (.t 9) (sK [9] .skip) (sK [5,9] (.exit 0)))) (.seq (.block 1 (sR [(0,oT 12 0 []),(1,oT 13 5 []),(2,oT 14 1
[]),(3,oI 15 2 12 13 []),(4,oF 16 0 15 [15]),(5,⟨none,.st 1 (.t 16) (.t 14),none,[],[12,13,14,16]⟩)] (sR [(0,oT 17 1 [1]),(1,oC 18 .add 17 1 [17]),(2,oT 1 18 [18])] (.reg false [(0,oT 19 0 []),(1,oT 20 5 []),(2,oI 21 2
19 20 []),(3,oF 22 1 21 [21]),(4,oL 23 1 22 [22]),(5,oT 24 1 [1]),(6,oP 25 (.call 80 [.t 23,.t 24]) [19,20,23,24]),(7,oT 1 25 [25])])))) (.reg false [(0,oT 10 5 [5]),(1,oC 11 .add 10 1 [10]),(2,oT 5 11 [11])])))
abbrev B78 : CCode := (sR [(0,oZ 4 0 [4])] (.seq (sR [(0,oZ 5 0 [])] (.block 0 (.loop L78_0))) (sR [(0,oT 26 1 [1]),(1,oT 4 26 [26])] .ret)))
def C78 : CFn := ⟨27,2,[.t 4],B78⟩
abbrev L79_0 : CCode := (.seq (sR [(0,oT 6 5 []),(1,oT 7 0 []),(2,oN 8 7 [7]),(3,oB 9 .lss 6 8 [6,8])] (.cond (.t 9) (sK [9] .skip) (sK [5,9] (.exit 0)))) (.seq (.block 1 (sR [(0,oT 12 0 []),(1,oT 13 5 []),(2,oT 14 1
[]),(3,oI 15 2 12 13 []),(4,oF 16 0 15 [15]),(5,⟨none,.st 1 (.t 16) (.t 14),none,[],[12,13,14,16]⟩)] (sR [(0,oT 17 1 [1]),(1,oC 18 .add 17 1 [17]),(2,oT 1 18 [18])] (.reg false [(0,oT 19 0 []),(1,oT 20 5 []),(2,oI 21 2
19 20 []),(3,oF 22 1 21 [21]),(4,oL 23 1 22 [22]),(5,oT 24 1 [1]),(6,oP 25 (.call 80 [.t 23,.t 24]) [19,20,23,24]),(7,oT 1 25 [25])])))) (.reg false [(0,oT 10 5 [5]),(1,oC 11 .add 10 1 [10]),(2,oT 5 11 [11])])))
abbrev B79 : CCode := (sR [(0,oZ 4 0 [4])] (.seq (sR [(0,oZ 5 0 [])] (.block 0 (.loop L79_0))) (sR [(0,oT 26 1 [1]),(1,oT 4 26 [26])] .ret)))
def C79 : CFn := ⟨27,2,[.t 4],B79⟩
abbrev L80_0 : CCode := (.seq (sR [(0,oT 6 5 []),(1,oT 7 0 []),(2,oN 8 7 [7]),(3,oB 9 .lss 6 8 [6,8])] (.cond (.t 9) (sK [9] .skip) (sK [5,9] (.exit 0)))) (.seq (.block 1 (sR [(0,oT 12 0 []),(1,oT 13 5 []),(2,oT 14 1
[]),(3,oI 15 1 12 13 []),(4,⟨none,.st 1 (.t 15) (.t 14),none,[],[12,13,14,15]⟩)] (.reg false [(0,oT 16 1 [1]),(1,oC 17 .add 16 1 [16]),(2,oT 1 17 [17])]))) (.reg false [(0,oT 10 5 [5]),(1,oC 11 .add 10 1 [10]),(2,oT 5
11 [11])])))
abbrev B80 : CCode := (sR [(0,oZ 4 0 [4])] (.seq (sR [(0,oZ 5 0 [])] (.block 0 (.loop L80_0))) (sR [(0,oT 18 1 [1]),(1,oT 4 18 [18])] .ret)))
def C80 : CFn := ⟨19,2,[.t 4],B80⟩
abbrev L81_0 : CCode := (.seq (sR [(0,oT 6 5 []),(1,oT 7 0 []),(2,oN 8 7 [7]),(3,oB 9 .lss 6 8 [6,8])] (.cond (.t 9) (sK [9] .skip) (sK [0,5,9] (.exit 0)))) (.seq (.block 1 (.seq (.seq (.reg true [(0,oT 12 0 []),(1,oT
13 5 []),(2,oI 14 3 12 13 []),(3,oF 15 0 14 [14]),(4,oL 16 1 15 []),(5,oT 17 1 []),(6,⟨some 18,.call 125 [.t 17],none,[(15,1)],[12,13,15,17]⟩),(7,oB 19 .neq 16 18 [16,18])]) (.cond (.t 19) (sK [0,1,5,19] (sR [(0,oZ 4
(-1) [])] .ret)) (sK [19] .skip))) (sR [(0,oT 20 1 [1]),(1,oC 21 .add 20 1 [20]),(2,oT 1 21 [21])] (.seq (sR [(0,oT 22 0 []),(1,oT 23 5 []),(2,oI 24 3 22 23 []),(3,oF 25 1 24 [24]),(4,oL 26 1 25 [22,23,25]),(5,oT 27 1
[]),(6,oB 28 .neq 26 27 [26,27])] (.cond (.t 28) (sK [0,1,5,28] (sR [(0,oZ 4 (-1) [])] .ret)) (sK [28] .skip))) (sR [(0,oT 29 1 [1]),(1,oC 30 .add 29 1 [29]),(2,oT 1 30 [30])] (.seq (sR [(0,oT 31 0 []),(1,oT 32 5
[]),(2,oI 33 3 31 32 []),(3,oF 34 2 33 [33]),(4,oL 35 1 34 [31,32,34]),(5,oT 36 1 []),(6,oB 37 .neq 35 36 [35,36])] (.cond (.t 37) (sK [0,1,5,37] (sR [(0,oZ 4 (-1) [])] .ret)) (sK [37] .skip))) (.reg false [(0,oT 38 1
[1]),(1,oC 39 .add 38 1 [38]),(2,oT 1 39 [39])]))))))) (.reg false [(0,oT 10 5 [5]),(1,oC 11 .add 10 1 [10]),(2,oT 5 11 [11])])))
abbrev B81 : CCode := (sR [(0,oZ 4 0 [4])] (.seq (sR [(0,oZ 5 0 [])] (.block 0 (.loop L81_0))) (sR [(0,oT 40 1 [1]),(1,oT 4 40 [40])] .ret)))
def C81 : CFn := ⟨41,2,[.t 4],B81⟩
abbrev L82_0 : CCode := (.seq (sR [(0,oT 6 5 []),(1,oT 7 0 []),(2,oN 8 7 [7]),(3,oB 9 .lss 6 8 [6,8])] (.cond (.t 9) (sK [9] .skip) (sK [0,5,9] (.exit 0)))) (.seq (.block 1 (.seq (sR [(0,oT 12 0 []),(1,oT 13 5 []),(2,oI
14 2 12 13 []),(3,oF 15 0 14 [14]),(4,oL 16 1 15 [12,13,15]),(5,oT 17 1 []),(6,oB 18 .neq 16 17 [16,17])] (.cond (.t 18) (sK [0,1,5,18] (sR [(0,oZ 4 (-1) [])] .ret)) (sK [18] .skip))) (sR [(0,oT 19 1 [1]),(1,oC 20 .add
19 1 [19]),(2,oT 1 20 [20])] (sR [(0,oT 21 0 []),(1,oT 22 5 []),(2,oI 23 2 21 22 []),(3,oF 24 1 23 [23]),(4,oL 25 1 24 [24]),(5,oT 26 1 [1]),(6,oP 27 (.call 126 [.t 25,.t 26]) [21,22,25,26]),(7,oT 1 27 [27])] (sR [(0,oT
28 1 []),(1,oC 29 .lss 28 0 [28])] (.cond (.t 29) (sK [0,1,5,29] (sR [(0,oZ 4 (-1) [])] .ret)) (sK [29] .skip))))))) (.reg false [(0,oT 10 5 [5]),(1,oC 11 .add 10 1 [10]),(2,oT 5 11 [11])])))
abbrev B82 : CCode := (sR [(0,oZ 4 0 [4])] (.seq (sR [(0,oZ 5 0 [])] (.block 0 (.loop L82_0))) (sR [(0,oT 30 1 [1]),(1,oT 4 30 [30])] .ret)))
def C82 : CFn := ⟨31,2,[.t 4],B82⟩
abbrev L84_0 : CCode := (sR [(0,oB 19 .lss 18 17 [])] (.seq (.cond (.t 19) (sK [19] .skip) (sK [1,16,17,18,19] (.exit 0))) (.seq (.block 1 (sR [(0,oT 20 18 []),(1,oI 21 2 16 18 []),(2,oM 22 2 21 [21]),(3,oP 4 (.al [.int
.i64 (0),.nils]) []),(4,oT 3 20 [20]),(5,⟨none,.st 2 (.t 4) (.t 22),none,[],[22]⟩)] (.seq (.reg true [(0,oF 23 0 1 []),(1,oL 24 1 23 [23]),(2,oM 25 2 4 []),(3,oP 26 (.call 133 [.t 24,.t 25]) [24,25]),(4,oP 27 (.not (.t
26)) [26]),(5,oT 28 27 [27]),(6,oG 29 (.mv (.t 3)) 28 false []),(7,oG 30 (.bin .gtr (.t 29) (.c (.int .i64 0))) 28 false [29]),(8,oG 31 (.mv (.t 30)) 28 false [30]),(9,oG 32 (.fa 1 (.t 1)) 31 true []),(10,oG 33 (.ld 1
false (.t 32)) 31 true [32]),(11,oG 34 (.mv (.t 3)) 31 true [3]),(12,oG 35 (.bin .sub (.t 34) (.c (.int .i64 1))) 31 true [34]),(13,oG 36 (.ia 2 (.t 33) (.t 35)) 31 true [33]),(14,oG 37 (.ld 2 true (.t 36)) 31 true
[36]),(15,oG 38 (.ld 2 true (.t 4)) 31 true []),(16,oG 39 (.call 134 [.t 37,.t 38]) 31 true [4,35,37,38]),(17,oG 40 (.bin .geq (.t 39) (.c (.int .i64 0))) 31 true [39]),(18,oG 41 (.pick (.t 31) (.t 40) (.c (.bool
false))) 28 false [31,40]),(19,oP 42 (.pick (.t 28) (.c (.bool true)) (.t 41)) [28,41])]) (.cond (.t 42) (sK [1,16,17,18,42] (sR [(0,oY 2 false [])] .ret)) (sK [42] .skip))))) (.reg false [(0,oC 43 .add 18 1 [18]),(1,oT
18 43 [43])]))))
abbrev B84 : CCode := (sR [(0,oP 1 (.box 2 (.t 0)) [0]),(1,oY 2 false [2])] (.seq (sR [(0,oF 5 0 1 []),(1,oL 6 1 5 [5]),(2,oP 7 (.call 132 [.t 6]) [6]),(3,oP 8 (.not (.t 7)) [7]),(4,oT 9 8 [8]),(5,oG 10 (.fa 1 (.t 1)) 9
false []),(6,oG 11 (.ld 1 false (.t 10)) 9 false [10]),(7,oG 12 (.len (.t 11)) 9 false [11]),(8,oG 13 (.bin .gtr (.t 12) (.c (.int .i64 14))) 9 false [12]),(9,oP 14 (.pick (.t 9) (.c (.bool true)) (.t 13)) [9,13])]
(.cond (.t 14) (sK [1,14] (sR [(0,oY 2 false [])] .ret)) (sK [14] .skip))) (.seq (sR [(0,oF 15 1 1 []),(1,oL 16 1 15 [15]),(2,oN 17 16 []),(3,oZ 18 0 [])] (.block 0 (.loop L84_0))) (sR [(0,oY 2 true [])] .ret))))
def C84 : CFn := ⟨44,1,[.t 2],B84⟩
abbrev L85_0 : CCode := (sR [(0,oB 10 .lss 9 8 [])] (.seq (.cond (.t 10) (sK [10] .skip) (sK [0,1,7,8,9,10] (.exit 0))) (.seq (.block 1 (sR [(0,oT 11 9 []),(1,oI 12 1 7 9 []),(2,oL 13 1 12 [12]),(3,oT 5 11 [11]),(4,oT 6
13 [13])] (sR [(0,oT 14 6 []),(1,oT 15 1 []),(2,oC 16 .sub 15 1 [15]),(3,oP 17 (.call 59 [.t 14,(.c (.int .i64 0)),.t 16]) [14,16]),(4,oP 18 (.not (.t 17)) [17]),(5,oT 19 18 [18]),(6,oG 20 (.mv (.t 5)) 19 false
[]),(7,oG 21 (.bin .gtr (.t 20) (.c (.int .i64 0))) 19 false [20]),(8,oG 22 (.mv (.t 21)) 19 false [21]),(9,oG 23 (.mv (.t 0)) 22 true []),(10,oG 24 (.mv (.t 5)) 22 true [5]),(11,oG 25 (.bin .sub (.t 24) (.c (.int .i64
1))) 22 true [24]),(12,oG 26 (.ia 1 (.t 23) (.t 25)) 22 true []),(13,oG 27 (.ld 1 false (.t 26)) 22 true [23,25,26]),(14,oG 28 (.mv (.t 6)) 22 true [6]),(15,oG 29 (.bin .geq (.t 27) (.t 28)) 22 true [27,28]),(16,oG 30
(.pick (.t 22) (.t 29) (.c (.bool false))) 19 false [22,29]),(17,oP 31 (.pick (.t 19) (.c (.bool true)) (.t 30)) [19,30])] (.cond (.t 31) (sK [0,1,7,8,9,31] (sR [(0,oY 4 false [])] .ret)) (sK [31] .skip))))) (.reg false
[(0,oC 32 .add 9 1 [9]),(1,oT 9 32 [32])]))))
abbrev B85 : CCode := (sR [(0,oY 4 false [4])] (.seq (sR [(0,oT 7 0 []),(1,oN 8 7 []),(2,oZ 9 0 [])] (.block 0 (.loop L85_0))) (sR [(0,oY 4 true [])] .ret)))
def C85 : CFn := ⟨33,2,[.t 4],B85⟩
abbrev B86 : CCode := (sR [(0,oP 1 (.box 2 (.t 0)) [0]),(1,oP 2 (.mv (.c (.nils))) [2])] (.seq (sR [(0,oM 3 2 1 []),(1,oP 4 (.call 84 [.t 3]) [3]),(2,oP 5 (.not (.t 4)) [4])] (.cond (.t 5) (sK [1,5] (sR [(0,oP 2 (.mv
(.c (.nils))) [])] .ret)) (sK [5] .skip))) (sR [(0,oM 6 2 1 []),(1,oP 7 (.call 56 [.t 6]) [1,6]),(2,oT 2 7 [7])] .ret)))
def C86 : CFn := ⟨8,1,[.t 2],B86⟩
abbrev B87 : CCode := (sR [(0,oY 6 false [6])] (sR [(0,oT 7 0 []),(1,oT 8 1 [1]),(2,oB 9 .geq 7 8 [7,8]),(3,oT 10 9 [9]),(4,oG 11 (.mv (.t 0)) 10 true [0]),(5,oG 12 (.mv (.t 2)) 10 true [2]),(6,oG 13 (.bin .leq (.t 11)
(.t 12)) 10 true [11,12]),(7,oP 14 (.pick (.t 10) (.t 13) (.c (.bool false))) [10,13]),(8,oT 6 14 [14])] .ret))
def C87 : CFn := ⟨15,3,[.t 6],B87⟩
abbrev B88 : CCode := (sR [(0,oP 4 (.box 2 (.t 1)) [1]),(1,oP 5 (.box 2 (.t 2)) [2]),(2,oY 6 false [6])] (.seq (.reg true [(0,oT 7 0 []),(1,oM 8 2 4 []),(2,oP 9 (.call 94 [.t 7,.t 8]) [7,8]),(3,oT 10 9 [9]),(4,oG 11
(.mv (.t 0)) 10 true []),(5,oG 12 (.ld 2 true (.t 5)) 10 true []),(6,oG 13 (.call 94 [.t 11,.t 12]) 10 true [11,12]),(7,oP 14 (.pick (.t 10) (.t 13) (.c (.bool false))) [10,13]),(8,oT 15 14 [14]),(9,oG 16 (.fa 0 (.t 4))
15 true []),(10,oG 17 (.ld 1 false (.t 16)) 15 true [16]),(11,oG 18 (.fa 0 (.t 5)) 15 true []),(12,oG 19 (.ld 1 false (.t 18)) 15 true [18]),(13,oG 20 (.bin .eql (.t 17) (.t 19)) 15 true [17,19]),(14,oP 21 (.pick (.t
15) (.t 20) (.c (.bool false))) [15,20]),(15,oT 22 21 [21]),(16,oG 23 (.mv (.t 0)) 22 true []),(17,oG 24 (.ld 2 true (.t 4)) 22 true []),(19,oG 26 (.mv (.t 0)) 22 true []),(20,oG 27 (.ld 2 true (.t 5)) 22 true
[]),(18,⟨some 25,.call 135 [.t 23,.t 24],some (22,true),[(5,2)],[4,23,24]⟩),(21,oG 28 (.call 135 [.t 26,.t 27]) 22 true [5,26,27]),(22,oG 29 (.call 90 [.t 25,.t 28]) 22 true [25,28]),(23,oG 30 (.bin .eql (.t 29) (.c
(.int .i64 0))) 22 true [29]),(24,oP 31 (.pick (.t 22) (.t 30) (.c (.bool false))) [22,30]),(25,oT 6 31 [31])]) .ret))
def C88 : CFn := ⟨32,3,[.t 6],B88⟩
abbrev L89_0 : CCode := (.seq (sR [(0,oT 6 5 []),(1,oT 7 1 []),(2,oN 8 7 [7]),(3,oB 9 .lss 6 8 [6,8])] (.cond (.t 9) (sK [9] .skip) (sK [1,2,5,9] (.exit 0)))) (.seq (.block 1 (.seq (.reg true [(0,oT 12 1 []),(1,oT 13 5
[]),(2,oI 14 1 12 13 []),(3,oL 15 1 14 [12,13,14]),(4,oF 16 1 2 []),(5,oL 17 1 16 [16]),(6,oN 18 17 [17]),(7,oC 19 .sub 18 1 [18]),(8,oP 20 (.call 87 [.t 15,(.c (.int .i64 0)),.t 19]) [15,19]),(9,oP 21 (.not (.t 20))
[20]),(10,oT 22 21 [21]),(11,oG 23 (.mv (.t 5)) 22 false []),(12,oG 24 (.bin .gtr (.t 23) (.c (.int .i64 0))) 22 false [23]),(13,oG 25 (.mv (.t 24)) 22 false [24]),(14,oG 26 (.mv (.t 1)) 25 true []),(15,oG 27 (.mv (.t
5)) 25 true []),(16,oG 28 (.ia 1 (.t 26) (.t 27)) 25 true []),(17,oG 29 (.ld 1 false (.t 28)) 25 true [26,27,28]),(18,oG 30 (.mv (.t 1)) 25 true []),(19,oG 31 (.mv (.t 5)) 25 true []),(20,oG 32 (.bin .sub (.t 31) (.c
(.int .i64 1))) 25 true [31]),(21,oG 33 (.ia 1 (.t 30) (.t 32)) 25 true []),(22,oG 34 (.ld 1 false (.t 33)) 25 true [30,32,33]),(23,oG 35 (.bin .leq (.t 29) (.t 34)) 25 true [29,34]),(24,oG 36 (.pick (.t 25) (.t 35) (.c
(.bool false))) 22 false [25,35]),(25,oP 37 (.pick (.t 22) (.c (.bool true)) (.t 36)) [22,36])]) (.cond (.t 37) (sK [1,2,5,37] (sR [(0,oY 4 false [])] .ret)) (sK [37] .skip)))) (.reg false [(0,oT 10 5 [5]),(1,oC 11 .add
10 1 [10]),(2,oT 5 11 [11])])))
abbrev B89 : CCode := (sR [(0,oP 2 (.box 2 (.t 0)) [0]),(1,oY 4 false [4])] (.seq (sR [(0,oZ 5 0 [])] (.block 0 (.loop L89_0))) (sR [(0,oY 4 true [])] .ret)))
def C89 : CFn := ⟨38,2,[.t 4],B89⟩
abbrev L90_0 : CCode := (.seq (sR [(0,oT 6 5 []),(1,oT 7 0 []),(2,oN 8 7 [7]),(3,oB 9 .lss 6 8 [6,8]),(4,oT 10 9 [9]),(5,oG 11 (.mv (.t 5)) 10 true []),(6,oG 12 (.mv (.t 1)) 10 true []),(7,oG 13 (.len (.t 12)) 10 true
[12]),(8,oG 14 (.bin .lss (.t 11) (.t 13)) 10 true [11,13]),(9,oP 15 (.pick (.t 10) (.t 14) (.c (.bool false))) [10,14])] (.cond (.t 15) (sK [15] .skip) (sK [5,15] (.exit 0)))) (.seq (.block 1 (.seq (.seq (.reg true
[(0,oT 18 0 []),(1,oT 19 5 []),(2,oI 20 1 18 19 []),(3,oL 21 1 20 [18,19,20]),(4,oT 22 1 []),(5,oT 23 5 []),(6,oI 24 1 22 23 []),(7,oL 25 1 24 [22,23,24]),(8,oB 26 .lss 21 25 [21,25])]) (.cond (.t 26) (sK [0,1,5,26] (sR
[(0,oZ 4 (-1) [])] .ret)) (sK [26] .skip))) (.seq (.reg true [(0,oT 27 0 []),(1,oT 28 5 []),(2,oI 29 1 27 28 []),(3,oL 30 1 29 [27,28,29]),(4,oT 31 1 []),(5,oT 32 5 []),(6,oI 33 1 31 32 []),(7,oL 34 1 33
[31,32,33]),(8,oB 35 .gtr 30 34 [30,34])]) (.cond (.t 35) (sK [0,1,5,35] (sR [(0,oZ 4 1 [])] .ret)) (sK [35] .skip))))) (.reg false [(0,oT 16 5 [5]),(1,oC 17 .add 16 1 [16]),(2,oT 5 17 [17])])))
abbrev B90 : CCode := (sR [(0,oZ 4 0 [4])] (.seq (sR [(0,oZ 5 0 [])] (.block 0 (.loop L90_0))) (.seq (sR [(0,oT 36 0 []),(1,oN 37 36 [36]),(2,oT 38 1 []),(3,oN 39 38 [38]),(4,oB 40 .lss 37 39 [37,39])] (.cond (.t 40)
(sK [0,1,40] (sR [(0,oZ 4 (-1) [])] .ret)) (sK [40] .skip))) (.seq (sR [(0,oT 41 0 [0]),(1,oN 42 41 [41]),(2,oT 43 1 [1]),(3,oN 44 43 [43]),(4,oB 45 .gtr 42 44 [42,44])] (.cond (.t 45) (sK [45] (sR [(0,oZ 4 1 [])]
.ret)) (sK [45] .skip))) (sR [(0,oZ 4 0 [])] .ret)))))
def C90 : CFn := ⟨46,2,[.t 4],B90⟩
abbrev L91_1 : CCode := (sR [(0,oB 74 .lss 73 72 [])] (.seq (.cond (.t 74) (sK [74] .skip) (sK [71,72,73,74] (.exit 2))) (.seq (.block 3 (sR [(0,oI 75 1 71 73 []),(1,oL 76 1 75 [75]),(2,oT 9 76 [76])] (sR [(0,oT 77 9
[9]),(1,oF 78 0 3 []),(2,oL 79 1 78 [78]),(3,oC 80 .sub 79 1 [79]),(4,oP 81 (.call 59 [.t 77,(.c (.int .i64 (-10))),.t 80]) [77,80]),(5,oP 82 (.not (.t 81)) [81])] (.cond (.t 82) (sK [0,3,5,7,36,37,38,71,72,73,82] (sR
[(0,oY 4 false [])] .ret)) (sK [82] .skip))))) (.reg false [(0,oC 83 .add 73 1 [73]),(1,oT 73 83 [83])]))))
abbrev L91_0 : CCode := (sR [(0,oB 39 .lss 38 37 [])] (.seq (.cond (.t 39) (sK [39] .skip) (sK [0,36,37,38,39] (.exit 0))) (.seq (.block 1 (sR [(0,oT 40 38 []),(1,oI 41 2 36 38 []),(2,oM 42 2 41 [41]),(3,oP 7 (.al [.int
.i64 (0),.nils]) []),(4,oT 6 40 [40]),(5,⟨none,.st 2 (.t 7) (.t 42),none,[],[42]⟩)] (.seq (.seq (.reg true [(0,oF 43 0 7 []),(1,oL 44 1 43 [43]),(2,oT 45 0 []),(3,oN 46 45 [45]),(4,oC 47 .sub 46 1 [46]),(5,oP 48 (.call
59 [.t 44,(.c (.int .i64 0)),.t 47]) [44,47]),(6,oP 49 (.not (.t 48)) [48]),(7,oT 50 49 [49]),(8,oG 51 (.fa 1 (.t 7)) 50 false []),(9,oG 52 (.ld 1 false (.t 51)) 50 false [51]),(10,oG 53 (.len (.t 52)) 50 false
[52]),(11,oG 54 (.mv (.t 0)) 50 false []),(12,oG 55 (.fa 0 (.t 7)) 50 false []),(13,oG 56 (.ld 1 false (.t 55)) 50 false [55]),(14,oG 57 (.ia 3 (.t 54) (.t 56)) 50 false []),(15,oG 58 (.fa 1 (.t 57)) 50 false
[57]),(16,oG 59 (.ld 1 false (.t 58)) 50 false [54,56,58]),(17,oG 60 (.bin .neq (.t 53) (.t 59)) 50 false [53,59]),(18,oP 61 (.pick (.t 50) (.c (.bool true)) (.t 60)) [50,60]),(19,oT 62 61 [61]),(20,oG 63 (.fa 1 (.t 3))
62 false []),(21,oG 64 (.ld 1 false (.t 63)) 62 false [63]),(22,oG 65 (.mv (.t 6)) 62 false [6]),(23,oG 66 (.sls 2 (.t 64) none (some (.t 65)) none) 62 false [64,65]),(24,oG 67 (.fn 137 [.t 7]) 62 false []),(25,oG 68
(.call 136 [.t 66,.t 67]) 62 false [66,67]),(26,oP 69 (.pick (.t 62) (.c (.bool true)) (.t 68)) [62,68])]) (.cond (.t 69) (sK [0,3,5,7,36,37,38,69] (sR [(0,oY 4 false [])] .ret)) (sK [69] .skip))) (.seq (sR [(0,oF 70 1
7 []),(1,oL 71 1 70 [70]),(2,oN 72 71 []),(3,oZ 73 0 [])] (.block 2 (.loop L91_1))) (.reg false [(0,oT 84 5 [5]),(1,oM 85 2 7 []),(2,oP 86 (.call 138 [.t 85]) [7,85]),(3,oP 87 (.call 92 [.t 84,.t 86]) [84,86]),(4,oT 5
87 [87])]))))) (.reg false [(0,oC 88 .add 38 1 [38]),(1,oT 38 88 [88])]))))
abbrev B91 : CCode := (sR [(0,oP 3 (.box 3 (.t 1)) [1]),(1,oY 4 false [4])] (.seq (sR [(0,oT 10 0 []),(1,oP 11 (.call 132 [.t 10]) [10]),(2,oP 12 (.not (.t 11)) [11]),(3,oT 13 12 [12]),(4,oG 14 (.fa 0 (.t 3)) 13 false
[]),(5,oG 15 (.ld 1 false (.t 14)) 13 false [14]),(6,oG 16 (.call 59 [.t 15,(.c (.int .i64 0)),(.c (.int .i64 4))]) 13 false [15]),(7,oG 17 (.not (.t 16)) 13 false [16]),(8,oP 18 (.pick (.t 13) (.c (.bool true)) (.t
17)) [13,17]),(9,oT 19 18 [18]),(10,oG 20 (.fa 1 (.t 3)) 19 false []),(11,oG 21 (.ld 1 false (.t 20)) 19 false [20]),(12,oG 22 (.len (.t 21)) 19 false [21]),(13,oG 23 (.call 59 [.t 22,(.c (.int .i64 1)),(.c (.int .i64
3))]) 19 false [22]),(14,oG 24 (.not (.t 23)) 19 false [23]),(15,oP 25 (.pick (.t 19) (.c (.bool true)) (.t 24)) [19,24]),(16,oT 26 25 [25]),(17,oG 27 (.fa 2 (.t 3)) 26 false []),(18,oG 28 (.ld 1 false (.t 27)) 26 false
[27]),(19,oG 29 (.fa 0 (.t 3)) 26 false []),(20,oG 30 (.ld 1 false (.t 29)) 26 false [29]),(21,oG 31 (.call 85 [.t 28,.t 30]) 26 false [28,30]),(22,oG 32 (.not (.t 31)) 26 false [31]),(23,oP 33 (.pick (.t 26) (.c (.bool
true)) (.t 32)) [26,32])] (.cond (.t 33) (sK [0,3,33] (sR [(0,oY 4 false [])] .ret)) (sK [33] .skip))) (sR [(0,oP 34 (.bsl 1 0 [.int .i64 (0)] []) []),(1,oT 5 34 [34])] (.seq (sR [(0,oF 35 1 3 []),(1,oL 36 1 35
[35]),(2,oN 37 36 []),(3,oZ 38 0 [])] (.block 0 (.loop L91_0))) (sR [(0,oT 89 5 [5]),(1,oN 90 89 [89]),(2,oF 91 0 3 []),(3,oL 92 1 91 [3,91]),(4,oB 93 .eql 90 92 [90,92]),(5,oT 4 93 [93])] .ret)))))
def C91 : CFn := ⟨94,2,[.t 4],B91⟩
abbrev B92 : CCode := (sR [(0,oP 4 (.mv (.c (.nils))) [4])] (sR [(0,oT 6 0 [0]),(1,oT 7 1 [1]),(2,oP 8 (.bsl 1 2 [.nils] [(0,1,(.t 6)),(1,1,(.t 7))]) [6,7]),(3,oP 9 (.call 139 [.t 8]) [8]),(4,oT 5 9 [9])] (sR [(0,oT 10
5 []),(1,oP 11 (.call 107 [.t 10]) [10,11])] (sR [(0,oT 12 5 [5]),(1,oP 13 (.call 140 [.t 12]) [12]),(2,oT 4 13 [13])] .ret))))
def C92 : CFn := ⟨14,2,[.t 4],B92⟩
abbrev L93_0 : CCode := (sR [(0,oB 9 .lss 8 7 [])] (.seq (.cond (.t 9) (sK [9] .skip) (sK [0,1,7,8,9] (.exit 0))) (.seq (.block 1 (sR [(0,oT 10 8 []),(1,oT 5 10 [10])] (sR [(0,oT 11 1 []),(1,oT 12 0 []),(2,oT 13 5
[]),(3,oI 14 1 12 13 []),(4,oL 15 1 14 [12,13,14]),(5,oB 16 .eql 11 15 [11,15])] (.cond (.t 16) (sK [0,1,7,8,16] (sR [(0,oT 17 5 [5]),(1,oT 4 17 [17])] .ret)) (sK [5,16] .skip))))) (.reg false [(0,oC 18 .add 8 1
[8]),(1,oT 8 18 [18])]))))
abbrev B93 : CCode := (sR [(0,oZ 4 0 [4])] (.seq (sR [(0,oT 6 0 []),(1,oN 7 6 [6]),(2,oZ 8 0 [])] (.block 0 (.loop L93_0))) (sR [(0,oZ 4 (-1) [])] .ret)))
def C93 : CFn := ⟨19,2,[.t 4],B93⟩
abbrev L94_0 : CCode := (.seq (sR [(0,oT 30 5 []),(1,oF 31 1 3 []),(2,oL 32 1 31 [31]),(3,oN 33 32 [32]),(4,oB 34 .lss 30 33 [30,33])] (.cond (.t 34) (sK [34] .skip) (sK [3,5,34] (.exit 0)))) (.seq (.block 1 (sR [(0,oF
37 1 3 []),(1,oL 38 1 37 [37]),(2,oT 39 5 []),(3,oI 40 1 38 39 [38]),(4,oL 41 1 40 [39,40]),(5,oP 42 (.call 87 [.t 41,(.c (.int .i64 0)),(.c (.int .i64 9))]) [41]),(6,oP 43 (.not (.t 42)) [42])] (.cond (.t 43) (sK
[3,5,43] (sR [(0,oY 4 false [])] .ret)) (sK [43] .skip)))) (.reg false [(0,oT 35 5 [5]),(1,oC 36 .add 35 1 [35]),(2,oT 5 36 [36])])))
abbrev B94 : CCode := (sR [(0,oP 3 (.box 2 (.t 1)) [1]),(1,oY 4 false [4])] (.seq (.seq (.reg true [(0,oT 6 0 []),(1,oP 7 (.call 95 [.t 6]) [6]),(2,oP 8 (.not (.t 7)) [7]),(3,oT 9 8 [8]),(4,oG 10 (.fa 0 (.t 3)) 9 false
[]),(5,oG 11 (.ld 1 false (.t 10)) 9 false [10]),(6,oG 12 (.mv (.t 0)) 9 false []),(7,oG 13 (.len (.t 12)) 9 false [12]),(8,oG 14 (.bin .sub (.t 13) (.c (.int .i64 1))) 9 false [13]),(9,oG 15 (.call 87 [.t 11,(.c (.int
.i64 0)),.t 14]) 9 false [11,14]),(10,oG 16 (.not (.t 15)) 9 false [15]),(11,oP 17 (.pick (.t 9) (.c (.bool true)) (.t 16)) [9,16]),(12,oT 18 17 [17]),(13,oG 19 (.fa 1 (.t 3)) 18 false []),(14,oG 20 (.ld 1 false (.t
19)) 18 false [19]),(15,oG 21 (.len (.t 20)) 18 false [20]),(16,oG 22 (.mv (.t 0)) 18 false [0]),(17,oG 23 (.fa 0 (.t 3)) 18 false []),(18,oG 24 (.ld 1 false (.t 23)) 18 false [23]),(19,oG 25 (.ia 3 (.t 22) (.t 24)) 18
false []),(20,oG 26 (.fa 1 (.t 25)) 18 false [25]),(21,oG 27 (.ld 1 false (.t 26)) 18 false [22,24,26]),(22,oG 28 (.bin .neq (.t 21) (.t 27)) 18 false [21,27]),(23,oP 29 (.pick (.t 18) (.c (.bool true)) (.t 28))
[18,28])]) (.cond (.t 29) (sK [3,29] (sR [(0,oY 4 false [])] .ret)) (sK [29] .skip))) (.seq (sR [(0,oZ 5 0 [])] (.block 0 (.loop L94_0))) (sR [(0,oY 4 true [])] .ret))))
def C94 : CFn := ⟨44,2,[.t 4],B94⟩
abbrev L95_0 : CCode := (.seq (sR [(0,oT 4 3 []),(1,oT 5 0 []),(2,oN 6 5 [5]),(3,oB 7 .lss 4 6 [4,6])] (.cond (.t 7) (sK [7] .skip) (sK [3,7] (.exit 0)))) (.seq (.block 1 (.seq (.reg true [(0,oT 10 0 []),(1,oT 11 3
[]),(2,oI 12 3 10 11 []),(3,oM 13 3 12 [12]),(4,oP 14 (.call 141 [.t 13]) [10,11,13]),(5,oP 15 (.not (.t 14)) [14]),(6,oT 16 15 [15]),(7,oG 17 (.mv (.t 3)) 16 false []),(8,oG 18 (.bin .gtr (.t 17) (.c (.int .i64 0))) 16
false [17]),(9,oG 19 (.mv (.t 18)) 16 false [18]),(10,oG 20 (.mv (.t 0)) 19 true []),(11,oG 21 (.mv (.t 3)) 19 true []),(12,oG 22 (.bin .sub (.t 21) (.c (.int .i64 1))) 19 true [21]),(13,oG 23 (.ia 3 (.t 20) (.t 22)) 19
true []),(14,oG 24 (.fa 0 (.t 23)) 19 true [23]),(15,oG 25 (.ld 1 false (.t 24)) 19 true [20,22,24]),(16,oG 26 (.mv (.t 0)) 19 true []),(17,oG 27 (.mv (.t 3)) 19 true []),(18,oG 28 (.ia 3 (.t 26) (.t 27)) 19 true
[]),(19,oG 29 (.fa 0 (.t 28)) 19 true [28]),(20,oG 30 (.ld 1 false (.t 29)) 19 true [26,27,29]),(21,oG 31 (.bin .geq (.t 25) (.t 30)) 19 true [25,30]),(22,oG 32 (.pick (.t 19) (.t 31) (.c (.bool false))) 16 false
[19,31]),(23,oP 33 (.pick (.t 16) (.c (.bool true)) (.t 32)) [16,32])]) (.cond (.t 33) (sK [0,3,33] (sR [(0,oY 2 false [])] .ret)) (sK [33] .skip)))) (.reg false [(0,oT 8 3 [3]),(1,oC 9 .add 8 1 [8]),(2,oT 3 9 [9])])))
abbrev B95 : CCode := (sR [(0,oY 2 false [2])] (.seq (sR [(0,oZ 3 0 [])] (.block 0 (.loop L95_0))) (sR [(0,oT 34 0 [0]),(1,oN 35 34 [34]),(2,oC 36 .leq 35 4 [35]),(3,oT 2 36 [36])] .ret)))
def C95 : CFn := ⟨37,1,[.t 2],B95⟩
abbrev B106 : CCode := (sR [(0,oP 2 (.box 2 (.t 0)) [0]),(1,oP 3 (.box 3 (.t 1)) [1]),(2,oP 4 (.mv (.c (.nils))) [4])] (sR [(0,oP 7 (.bsl 2 0 [.nils,.nils] []) []),(1,oP 5 (.al [.nils]) []),(2,⟨none,.st 1 (.t 5) (.t
7),none,[],[7]⟩)] (.seq (sR [(0,oM 8 2 2 []),(1,oM 9 3 3 []),(2,oP 10 (.call 45 [.t 8,.t 9]) [8,9]),(3,oP 11 (.not (.t 10)) [10])] (.cond (.t 11) (sK [2,3,11] (sR [(0,oL 12 1 5 []),(1,oT 4 12 [12])] .ret)) (sK [11]
.skip))) (sR [(0,oP 6 (.al [.nilf]) [])] (sR [(0,oP 13 (.fn 155 [.t 3,.t 5,.t 2,.t 6]) []),(1,⟨none,.st 1 (.t 6) (.t 13),none,[],[13]⟩)] (.seq (.reg true [(0,oL 14 1 6 []),(1,oF 15 0 3 []),(2,oL 16 1 15 [15]),(3,⟨some
17,.call 158 [.t 16],none,[(6,1)],[16]⟩),(4,oP 18 (.callv (.t 14) [.t 17,(.c (.nils))]) [2,3,6,14,17,18])]) (sR [(0,oL 19 1 5 []),(1,oT 4 19 [19])] .ret)))))))
def C106 : CFn := ⟨20,2,[.t 4],B106⟩
abbrev B108 : CCode := (sR [(0,oP 4 (.box 2 (.t 1)) [1]),(1,oP 5 (.box 2 (.t 2)) [2]),(2,oY 6 false [6])] (.seq (sR [(0,oF 8 0 4 []),(1,oL 9 1 8 [8]),(2,oF 10 0 5 []),(3,oL 11 1 10 [10]),(4,oB 12 .neq 9 11 [9,11])]
(.cond (.t 12) (sK [0,4,5,12] (sR [(0,oY 6 false [])] .ret)) (sK [12] .skip))) (sR [(0,oT 13 0 [0]),(1,oF 14 0 4 []),(2,oL 15 1 14 [14]),(3,oI 16 3 13 15 []),(4,oF 17 2 16 [16]),(5,oL 18 1 17 [13,15,17]),(6,oT 7 18
[18])] (.seq (.reg true [(0,oF 19 1 4 []),(1,oL 20 1 19 [19]),(2,oT 21 7 []),(3,oP 22 (.sls 1 (.t 20) none (some (.t 21)) none) [4,20,21]),(4,oF 23 1 5 []),(5,oL 24 1 23 [23]),(6,oT 25 7 [7]),(7,oP 26 (.sls 1 (.t 24)
none (some (.t 25)) none) [5,24,25]),(8,oP 27 (.call 161 [.t 22,.t 26]) [22,26]),(9,oT 6 27 [27])]) .ret))))
def C108 : CFn := ⟨28,3,[.t 6],B108⟩
abbrev B112 : CCode := (sR [(0,oP 2 (.box 2 (.t 0)) [0]),(1,oP 3 (.box 3 (.t 1)) [1]),(2,oP 4 (.mv (.c (.nils))) [4])] (.seq (sR [(0,oM 5 2 2 []),(1,oM 6 3 3 []),(2,oP 7 (.call 18 [.t 5,.t 6]) [5,6]),(3,oP 8 (.not (.t
7)) [7])] (.cond (.t 8) (sK [2,3,8] (sR [(0,oP 9 (.bsl 2 0 [.nils,.nils] []) []),(1,oT 4 9 [9])] .ret)) (sK [8] .skip))) (.seq (.reg true [(0,oM 10 2 2 []),(1,oM 11 3 3 []),(2,oF 12 0 3 []),(3,oL 13 1 12 [12]),(5,oP 15
(.bsl 1 0 [.int .i64 (0)] []) []),(4,⟨some 14,.call 163 [.t 13],none,[(2,2),(3,3)],[13]⟩),(6,oP 16 (.call 162 [.t 10,.t 11,(.c (.int .i64 0)),.t 14,.t 15]) [2,3,10,11,14,15]),(7,oT 4 16 [16])]) .ret)))
def C112 : CFn := ⟨17,2,[.t 4],B112⟩
abbrev L113_1 : CCode := (.seq (.seq (.reg true [(0,oT 15 5 []),(1,oC 16 .gtr 15 0 [15]),(2,oT 17 16 [16]),(3,oG 18 (.mv (.t 3)) 17 true []),(4,oG 19 (.mv (.t 5)) 17 true []),(5,oG 20 (.bin .sub (.t 19) (.c (.int .i64
1))) 17 true [19]),(6,oG 21 (.ia 1 (.t 18) (.t 20)) 17 true []),(7,oG 22 (.ld 1 false (.t 21)) 17 true [18,20,21]),(8,oG 23 (.mv (.t 0)) 17 true []),(9,oG 24 (.mv (.t 4)) 17 true []),(10,oG 25 (.ia 1 (.t 23) (.t 24)) 17
true []),(11,oG 26 (.ld 1 false (.t 25)) 17 true [23,24,25]),(12,oG 27 (.bin .gtr (.t 22) (.t 26)) 17 true [22,26]),(13,oP 28 (.pick (.t 17) (.t 27) (.c (.bool false))) [17,27])]) (.cond (.t 28) (sK [28] .skip) (sK [28]
(.exit 2)))) (.block 3 (.reg false [(0,oT 29 5 [5]),(1,oC 30 .sub 29 1 [29]),(2,oT 5 30 [30])])))
abbrev L113_0 : CCode := (.seq (sR [(0,oT 7 4 []),(1,oT 8 0 []),(2,oN 9 8 [8]),(3,oB 10 .lss 7 9 [7,9])] (.cond (.t 10) (sK [10] .skip) (sK [0,4,10] (.exit 0)))) (.seq (.block 1 (sR [(0,oT 13 3 []),(1,oN 14 13
[13]),(2,oT 5 14 [14])] (.seq (.block 2 (.loop L113_1)) (.reg true [(0,oP 31 (.bsl 1 0 [.int .i64 (0)] []) []),(1,oT 32 3 []),(2,oT 33 5 []),(3,oP 34 (.sls 1 (.t 32) none (some (.t 33)) none) [32,33]),(5,oT 36 0
[]),(6,oT 37 4 []),(7,oI 38 1 36 37 []),(8,oL 39 1 38 []),(9,oP 40 (.bsl 1 1 [.int .i64 (0)] [(0,1,(.t 39))]) [39]),(11,oT 42 3 [3]),(12,oT 43 5 [5]),(13,oP 44 (.sls 1 (.t 42) (some (.t 43)) none none) [42,43]),(4,⟨some
35,.app 1 8 (.t 31) (.t 34),none,[(38,1)],[31,34,36,37,38]⟩),(10,oP 41 (.app 1 8 (.t 35) (.t 40)) [35,40]),(14,oP 45 (.app 1 8 (.t 41) (.t 44)) [41,44]),(15,oT 3 45 [45])])))) (.reg false [(0,oT 11 4 [4]),(1,oC 12 .add
11 1 [11]),(2,oT 4 12 [12])])))
abbrev B113 : CCode := (sR [(0,oP 2 (.mv (.c (.nils))) [2])] (sR [(0,oP 6 (.bsl 1 0 [.int .i64 (0)] []) []),(1,oT 3 6 [6])] (.seq (sR [(0,oZ 4 0 [])] (.block 0 (.loop L113_0))) (sR [(0,oT 46 3 [3]),(1,oT 2 46 [46])]
.ret))))
def C113 : CFn := ⟨47,1,[.t 2],B113⟩
abbrev B114 : CCode := (sR [(0,oP 2 (.box 2 (.t 0)) [0]),(1,oY 4 false [4])] (sR [(0,oM 8 2 2 []),(1,oT 9 1 [1]),(2,oP 10 (.call 43 [.t 8,.t 9]) [2,8,9]),(3,oT 7 10 [10]),(4,oP 11 (.ex (.t 7) 0) []),(5,oP 12 (.ex (.t 7)
1) [7]),(6,oP 5 (.al [.nils,.nils]) []),(7,⟨none,.st 2 (.t 5) (.t 11),none,[],[11]⟩),(8,oT 6 12 [12])] (sR [(0,oT 13 6 [6]),(1,oT 14 13 [13]),(2,oG 15 (.ld 2 true (.t 5)) 14 true []),(3,oG 16 (.call 164 [.t 15]) 14 true
[5,15]),(4,oP 17 (.pick (.t 14) (.t 16) (.c (.bool false))) [14,16]),(5,oT 4 17 [17])] .ret)))
def C114 : CFn := ⟨18,2,[.t 4],B114⟩
abbrev B116 : CCode := (sR [(0,oP 2 (.box 3 (.t 0)) [0]),(1,oZ 4 0 [4])] (sR [(0,oT 5 1 [1]),(1,oF 6 0 2 []),(2,oL 7 1 6 [2,6]),(3,oP 8 (.lens (.t 7)) [7]),(4,oB 9 .sub 5 8 [5,8]),(5,oT 1 9 [9])] (.seq (sR [(0,oT 10 1
[]),(1,oC 11 .lss 10 0 [10])] (.cond (.t 11) (sK [1,11] (sR [(0,oZ 4 (-1) [])] .ret)) (sK [11] .skip))) (sR [(0,oT 12 1 [1]),(1,oT 4 12 [12])] .ret))))
def C116 : CFn := ⟨13,2,[.t 4],B116⟩
abbrev B117 : CCode := (sR [(0,oP 2 (.box 2 (.t 0)) [0]),(1,oZ 4 0 [4])] (sR [(0,oF 5 1 2 []),(1,oL 6 1 5 [5]),(2,oT 7 1 [1]),(3,oP 8 (.call 68 [.t 6,.t 7]) [2,6,7]),(4,oT 1 8 [8])] (.seq (sR [(0,oT 9 1 []),(1,oC 10
.lss 9 0 [9])] (.cond (.t 10) (sK [1,10] (sR [(0,oZ 4 (-1) [])] .ret)) (sK [10] .skip))) (sR [(0,oT 11 1 [1]),(1,oT 4 11 [11])] .ret))))
def C117 : CFn := ⟨12,2,[.t 4],B117⟩
abbrev B118 : CCode := (sR [(0,oP 2 (.box 2 (.t 0)) [0]),(1,oZ 4 0 [4])] (sR [(0,oF 5 1 2 []),(1,oL 6 1 5 [5]),(2,oT 7 1 [1]),(3,oP 8 (.call 68 [.t 6,.t 7]) [2,6,7]),(4,oT 1 8 [8])] (.seq (sR [(0,oT 9 1 []),(1,oC 10
.lss 9 0 [9])] (.cond (.t 10) (sK [1,10] (sR [(0,oZ 4 (-1) [])] .ret)) (sK [10] .skip))) (sR [(0,oT 11 1 [1]),(1,oT 4 11 [11])] .ret))))
def C118 : CFn := ⟨12,2,[.t 4],B118⟩
abbrev B119 : CCode := (sR [(0,oP 1 (.box 3 (.t 0)) [0]),(1,oP 2 (.al [.str [],.int .i64 (0),.int .i64 (0)]) [])] (sR [(0,oP 3 (.al [.str [],.int .i64 (0),.int .i64 (0)]) [])] (sR [(0,oF 4 0 1 []),(1,oL 5 1 4 [4]),(2,oF
6 0 3 []),(3,⟨none,.st 1 (.t 6) (.t 5),none,[],[5,6]⟩)] (sR [(0,oF 7 1 1 []),(1,oL 8 1 7 [7]),(2,oF 9 1 3 []),(3,⟨none,.st 1 (.t 9) (.t 8),none,[],[8,9]⟩)] (sR [(0,oF 10 2 1 []),(1,oL 11 1 10 [1,10]),(2,oF 12 2 3
[]),(3,⟨none,.st 1 (.t 12) (.t 11),none,[],[11,12]⟩)] (sR [(0,oM 13 3 3 []),(1,⟨none,.st 3 (.t 2) (.t 13),none,[],[3,13]⟩)] .ret))))))
def C119 : CFn := ⟨14,1,[.m 2 3 true],B119⟩
abbrev B120 : CCode := (sR [(0,oP 1 (.box 2 (.t 0)) [0]),(1,oP 2 (.al [.int .i64 (0),.nils]) [])] (sR [(0,oP 3 (.al [.int .i64 (0),.nils]) [])] (sR [(0,oF 4 0 1 []),(1,oL 5 1 4 [4]),(2,oF 6 0 3 []),(3,⟨none,.st 1 (.t 6)
(.t 5),none,[],[5,6]⟩)] (sR [(0,oF 7 1 1 []),(1,oL 8 1 7 [7]),(2,oP 9 (.call 72 [.t 8]) [1,8]),(3,oF 10 1 3 []),(4,⟨none,.st 1 (.t 10) (.t 9),none,[],[9,10]⟩)] (sR [(0,oM 11 2 3 []),(1,⟨none,.st 2 (.t 2) (.t
11),none,[],[3,11]⟩)] .ret)))))
def C120 : CFn := ⟨12,1,[.m 2 2 true],B120⟩
abbrev B121 : CCode := (sR [(0,oP 1 (.box 2 (.t 0)) [0]),(1,oP 2 (.al [.int .i64 (0),.nils]) [])] (sR [(0,oP 3 (.al [.int .i64 (0),.nils]) [])] (sR [(0,oF 4 0 1 []),(1,oL 5 1 4 [4]),(2,oF 6 0 3 []),(3,⟨none,.st 1 (.t 6)
(.t 5),none,[],[5,6]⟩)] (sR [(0,oF 7 1 1 []),(1,oL 8 1 7 [7]),(2,oP 9 (.call 72 [.t 8]) [1,8]),(3,oF 10 1 3 []),(4,⟨none,.st 1 (.t 10) (.t 9),none,[],[9,10]⟩)] (sR [(0,oM 11 2 3 []),(1,⟨none,.st 2 (.t 2) (.t
11),none,[],[3,11]⟩)] .ret)))))
def C121 : CFn := ⟨12,1,[.m 2 2 true],B121⟩
abbrev B122 : CCode := (sR [(0,oP 2 (.box 3 (.t 0)) [0]),(1,oP 3 (.box 3 (.t 1)) [1]),(2,oY 4 false [4])] (.seq (sR [(0,oF 5 0 2 []),(1,oL 6 1 5 [5]),(2,oF 7 0 3 []),(3,oL 8 1 7 [7]),(4,oB 9 .neq 6 8 [6,8])] (.cond (.t
9) (sK [2,3,9] (sR [(0,oY 4 false [])] .ret)) (sK [9] .skip))) (.seq (sR [(0,oF 10 1 2 []),(1,oL 11 1 10 [10]),(2,oF 12 1 3 []),(3,oL 13 1 12 [12]),(4,oB 14 .neq 11 13 [11,13])] (.cond (.t 14) (sK [2,3,14] (sR [(0,oY 4
false [])] .ret)) (sK [14] .skip))) (.seq (sR [(0,oF 15 2 2 []),(1,oL 16 1 15 [2,15]),(2,oF 17 2 3 []),(3,oL 18 1 17 [3,17]),(4,oB 19 .neq 16 18 [16,18])] (.cond (.t 19) (sK [19] (sR [(0,oY 4 false [])] .ret)) (sK [19]
.skip))) (sR [(0,oY 4 true [])] .ret)))))
def C122 : CFn := ⟨20,2,[.t 4],B122⟩
abbrev B123 : CCode := (sR [(0,oP 2 (.box 2 (.t 0)) [0]),(1,oP 3 (.box 2 (.t 1)) [1]),(2,oY 4 false [4])] (.seq (sR [(0,oF 5 0 2 []),(1,oL 6 1 5 [5]),(2,oF 7 0 3 []),(3,oL 8 1 7 [7]),(4,oB 9 .neq 6 8 [6,8])] (.cond (.t
9) (sK [2,3,9] (sR [(0,oY 4 false [])] .ret)) (sK [9] .skip))) (.seq (sR [(0,oF 10 1 2 []),(1,oL 11 1 10 [10]),(2,oF 12 1 3 []),(3,oL 13 1 12 [12]),(4,oP 14 (.call 76 [.t 11,.t 13]) [2,3,11,13]),(5,oP 15 (.not (.t 14))
[14])] (.cond (.t 15) (sK [15] (sR [(0,oY 4 false [])] .ret)) (sK [15] .skip))) (sR [(0,oY 4 true [])] .ret))))
def C123 : CFn := ⟨16,2,[.t 4],B123⟩
abbrev B124 : CCode := (sR [(0,oP 2 (.box 2 (.t 0)) [0]),(1,oP 3 (.box 2 (.t 1)) [1]),(2,oY 4 false [4])] (.seq (sR [(0,oF 5 0 2 []),(1,oL 6 1 5 [5]),(2,oF 7 0 3 []),(3,oL 8 1 7 [7]),(4,oB 9 .neq 6 8 [6,8])] (.cond (.t
9) (sK [2,3,9] (sR [(0,oY 4 false [])] .ret)) (sK [9] .skip))) (.seq (sR [(0,oF 10 1 2 []),(1,oL 11 1 10 [10]),(2,oF 12 1 3 []),(3,oL 13 1 12 [12]),(4,oP 14 (.call 76 [.t 11,.t 13]) [2,3,11,13]),(5,oP 15 (.not (.t 14))
[14])] (.cond (.t 15) (sK [15] (sR [(0,oY 4 false [])] .ret)) (sK [15] .skip))) (sR [(0,oY 4 true [])] .ret))))
def C124 : CFn := ⟨16,2,[.t 4],B124⟩
abbrev L125_0 : CCode := (.seq (sR [(0,oT 6 0 []),(1,oC 7 .gtr 6 0 [6])] (.cond (.t 7) (sK [7] .skip) (sK [0,7] (.exit 0)))) (.block 1 (sR [(0,oT 8 0 []),(1,oC 9 .rem 8 10 [8]),(2,oP 10 (.bin .add (.c (.int .i64 48))
(.t 9)) [9]),(3,oP 11 (.conv .u8 (.t 10)) [10]),(4,oP 12 (.bsl 1 1 [.int .u8 (0)] [(0,1,(.t 11))]) [11]),(5,oP 13 (.b2s (.t 12)) [12]),(6,oT 14 3 [3]),(7,oB 15 .add 13 14 [13,14]),(8,oT 3 15 [15])] (.reg false [(0,oT 16
0 [0]),(1,oC 17 .quo 16 10 [16]),(2,oT 0 17 [17])]))))
abbrev B125 : CCode := (sR [(0,oP 2 (.mv (.c (.str []))) [2])] (.seq (sR [(0,oT 4 0 []),(1,oC 5 .leq 4 0 [4])] (.cond (.t 5) (sK [0,5] (sR [(0,oP 2 (.mv (.c (.str [109,48]))) [])] .ret)) (sK [5] .skip))) (sR [(0,oP 3
(.mv (.c (.str []))) [])] (.seq (.block 0 (.loop L125_0)) (sR [(0,oT 18 3 [3]),(1,oP 19 (.bin .add (.c (.str [109])) (.t 18)) [18]),(2,oT 2 19 [19])] .ret)))))
def C125 : CFn := ⟨20,1,[.t 2],B125⟩
abbrev L126_0 : CCode := (.seq (sR [(0,oT 6 5 []),(1,oT 7 0 []),(2,oN 8 7 [7]),(3,oB 9 .lss 6 8 [6,8])] (.cond (.t 9) (sK [9] .skip) (sK [0,5,9] (.exit 0)))) (.seq (.block 1 (.seq (sR [(0,oT 12 0 []),(1,oT 13 5
[]),(2,oI 14 1 12 13 []),(3,oL 15 1 14 [12,13,14]),(4,oT 16 1 []),(5,oB 17 .neq 15 16 [15,16])] (.cond (.t 17) (sK [0,1,5,17] (sR [(0,oZ 4 (-1) [])] .ret)) (sK [17] .skip))) (.reg false [(0,oT 18 1 [1]),(1,oC 19 .add 18
1 [18]),(2,oT 1 19 [19])]))) (.reg false [(0,oT 10 5 [5]),(1,oC 11 .add 10 1 [10]),(2,oT 5 11 [11])])))
abbrev B126 : CCode := (sR [(0,oZ 4 0 [4])] (.seq (sR [(0,oZ 5 0 [])] (.block 0 (.loop L126_0))) (sR [(0,oT 20 1 [1]),(1,oT 4 20 [20])] .ret)))
def C126 : CFn := ⟨21,2,[.t 4],B126⟩
abbrev L132_0 : CCode := (sR [(0,oB 8 .lss 7 6 [])] (.seq (.cond (.t 8) (sK [8] .skip) (sK [5,6,7,8] (.exit 0))) (.seq (.block 1 (sR [(0,oT 9 7 []),(1,oI 10 3 5 7 []),(2,oM 11 3 10 [10]),(3,oP 4 (.al [.str [],.int .i64
(0),.int .i64 (0)]) []),(4,oT 3 9 [9]),(5,⟨none,.st 3 (.t 4) (.t 11),none,[],[11]⟩)] (.seq (.reg true [(0,oM 12 3 4 []),(1,oP 13 (.call 173 [.t 12]) [12]),(2,oP 14 (.not (.t 13)) [13]),(3,oT 15 14 [14]),(4,oG 16 (.mv
(.t 3)) 15 false []),(5,oG 17 (.bin .gtr (.t 16) (.c (.int .i64 0))) 15 false [16]),(6,oG 18 (.mv (.t 17)) 15 false [17]),(7,oG 19 (.mv (.t 0)) 18 true []),(8,oG 20 (.mv (.t 3)) 18 true [3]),(9,oG 21 (.bin .sub (.t 20)
(.c (.int .i64 1))) 18 true [20]),(10,oG 22 (.ia 3 (.t 19) (.t 21)) 18 true []),(11,oG 23 (.fa 0 (.t 22)) 18 true [22]),(12,oG 24 (.ld 1 false (.t 23)) 18 true [19,21,23]),(13,oG 25 (.fa 0 (.t 4)) 18 true []),(14,oG 26
(.ld 1 false (.t 25)) 18 true [4,25]),(15,oG 27 (.bin .geq (.t 24) (.t 26)) 18 true [24,26]),(16,oG 28 (.pick (.t 18) (.t 27) (.c (.bool false))) 15 false [18,27]),(17,oP 29 (.pick (.t 15) (.c (.bool true)) (.t 28))
[15,28])]) (.cond (.t 29) (sK [0,5,6,7,29] (sR [(0,oY 2 false [])] .ret)) (sK [29] .skip))))) (.reg false [(0,oC 30 .add 7 1 [7]),(1,oT 7 30 [30])]))))
abbrev B132 : CCode := (sR [(0,oY 2 false [2])] (.seq (sR [(0,oT 5 0 []),(1,oN 6 5 []),(2,oZ 7 0 [])] (.block 0 (.loop L132_0))) (sR [(0,oT 31 0 [0]),(1,oN 32 31 [31]),(2,oC 33 .leq 32 4 [32]),(3,oT 2 33 [33])] .ret)))
def C132 : CFn := ⟨34,1,[.t 2],B132⟩
abbrev B133 : CCode := (sR [(0,oP 3 (.box 2 (.t 1)) [1]),(1,oY 4 false [4])] (.seq (.reg true [(0,oF 5 0 3 []),(1,oL 6 1 5 [5]),(2,oT 7 0 []),(3,oN 8 7 [7]),(4,oC 9 .sub 8 1 [8]),(5,oP 10 (.call 59 [.t 6,(.c (.int .i64
0)),.t 9]) [6,9]),(6,oT 11 10 [10]),(7,oG 12 (.fa 1 (.t 3)) 11 true []),(8,oG 13 (.ld 1 false (.t 12)) 11 true [12]),(9,oG 14 (.len (.t 13)) 11 true [13]),(10,oG 15 (.mv (.t 0)) 11 true [0]),(11,oG 16 (.fa 0 (.t 3)) 11
true []),(12,oG 17 (.ld 1 false (.t 16)) 11 true [16]),(13,oG 18 (.ia 3 (.t 15) (.t 17)) 11 true []),(14,oG 19 (.fa 1 (.t 18)) 11 true [18]),(15,oG 20 (.ld 1 false (.t 19)) 11 true [15,17,19]),(16,oG 21 (.bin .eql (.t
14) (.t 20)) 11 true [14,20]),(17,oP 22 (.pick (.t 11) (.t 21) (.c (.bool false))) [11,21]),(18,oT 23 22 [22]),(19,oG 24 (.fa 1 (.t 3)) 23 true []),(20,oG 25 (.ld 1 false (.t 24)) 23 true [24]),(21,oG 26 (.call 174 [.t
25]) 23 true [3,25]),(22,oP 27 (.pick (.t 23) (.t 26) (.c (.bool false))) [23,26]),(23,oT 4 27 [27])]) .ret))
def C133 : CFn := ⟨28,2,[.t 4],B133⟩
abbrev B134 : CCode := (sR [(0,oP 2 (.box 2 (.t 0)) [0]),(1,oP 3 (.box 2 (.t 1)) [1]),(2,oZ 4 0 [4])] (.seq (sR [(0,oF 5 0 2 []),(1,oL 6 1 5 [5]),(2,oF 7 0 3 []),(3,oL 8 1 7 [7]),(4,oB 9 .neq 6 8 [6,8])] (.cond (.t 9)
(sK [9] (sR [(0,oF 10 0 2 []),(1,oL 11 1 10 [2,10]),(2,oF 12 0 3 []),(3,oL 13 1 12 [3,12]),(4,oP 14 (.call 175 [.t 11,.t 13]) [11,13]),(5,oT 4 14 [14])] .ret)) (sK [9] .skip))) (sR [(0,oF 15 1 2 []),(1,oL 16 1 15
[15]),(2,oF 17 1 3 []),(3,oL 18 1 17 [17]),(4,oP 19 (.call 176 [.t 16,.t 18]) [2,3,16,18]),(5,oT 4 19 [19])] .ret)))
def C134 : CFn := ⟨20,2,[.t 4],B134⟩
abbrev B135 : CCode := (sR [(0,oP 3 (.box 2 (.t 1)) [1]),(1,oP 4 (.mv (.c (.nils))) [4])] (.seq (sR [(0,oT 5 0 []),(1,oM 6 2 3 []),(2,oP 7 (.call 94 [.t 5,.t 6]) [5,6]),(3,oP 8 (.not (.t 7)) [7])] (.cond (.t 8) (sK
[0,3,8] (sR [(0,oP 9 (.bsl 1 0 [.int .i64 (0)] []) []),(1,oT 4 9 [9])] .ret)) (sK [8] .skip))) (.seq (.reg true [(0,oP 10 (.bsl 1 0 [.int .i64 (0)] []) []),(1,oF 11 1 3 []),(2,oL 12 1 11 [11]),(3,oT 13 0 [0]),(4,oF 14 0
3 []),(5,oL 15 1 14 [14]),(6,oI 16 3 13 15 []),(7,oF 17 2 16 [16]),(8,oL 18 1 17 [13,15,17]),(9,oP 19 (.sls 1 (.t 12) none (some (.t 18)) none) [3,12,18]),(10,oP 20 (.app 1 8 (.t 10) (.t 19)) [10,19]),(11,oT 4 20
[20])]) .ret)))
def C135 : CFn := ⟨21,2,[.t 4],B135⟩
abbrev B136 : CCode := (sR [(0,oY 4 false [4])] (sR [(0,oT 5 0 [0]),(1,oT 6 1 [1]),(2,oP 7 (.call 177 [.t 5,.t 6]) [5,6]),(3,oC 8 .geq 7 0 [7]),(4,oT 4 8 [8])] .ret))
def C136 : CFn := ⟨9,2,[.t 4],B136⟩
abbrev B137 : CCode := (sR [(0,oP 2 (.box 2 (.t 0)) [0]),(1,oY 3 false [3])] (sR [(0,oF 4 0 2 []),(1,oL 5 1 4 [2,4]),(2,oF 6 0 1 []),(3,oL 7 1 6 [1,6]),(4,oB 8 .eql 5 7 [5,7]),(5,oT 3 8 [8])] .ret))
def C137 : CFn := ⟨9,2,[.t 3],B137⟩
abbrev L138_0 : CCode := (sR [(0,oB 11 .lss 10 9 [])] (.seq (.cond (.t 11) (sK [11] .skip) (sK [1,8,9,10,11] (.exit 0))) (.seq (.block 1 (sR [(0,oI 12 1 8 10 []),(1,oL 13 1 12 [12]),(2,oT 5 13 [13])] (sR [(0,oT 14 5
[]),(1,oP 15 (.call 59 [.t 14,(.c (.int .i64 0)),(.c (.int .i64 3))]) [14])] (.cond (.t 15) (sK [15] (.reg false [(0,oT 16 3 [3]),(1,oT 17 5 [5]),(2,oP 18 (.bsl 1 1 [.int .i64 (0)] [(0,1,(.t 17))]) [17]),(3,oP 19 (.app
1 8 (.t 16) (.t 18)) [16,18]),(4,oT 3 19 [19])])) (sK [5,15] .skip))))) (.reg false [(0,oC 20 .add 10 1 [10]),(1,oT 10 20 [20])]))))
abbrev B138 : CCode := (sR [(0,oP 1 (.box 2 (.t 0)) [0]),(1,oP 2 (.mv (.c (.nils))) [2])] (sR [(0,oP 6 (.bsl 1 0 [.int .i64 (0)] []) []),(1,oT 3 6 [6])] (.seq (sR [(0,oF 7 1 1 []),(1,oL 8 1 7 [7]),(2,oN 9 8 []),(3,oZ 10
0 [])] (.block 0 (.loop L138_0))) (sR [(0,oT 21 3 [3]),(1,oP 22 (.call 92 [.t 21,(.c (.nils))]) [21]),(2,oT 2 22 [22])] .ret))))
def C138 : CFn := ⟨23,1,[.t 2],B138⟩
abbrev L139_0 : CCode := (sR [(0,oB 12 .lss 11 10 [])] (.seq (.cond (.t 12) (sK [12] .skip) (sK [9,10,11,12] (.exit 0))) (.seq (.block 1 (sR [(0,oI 13 1 9 11 []),(1,oL 14 1 13 [13]),(2,oT 5 14 [14])] (sR [(0,oT 15 3
[3]),(1,oT 16 5 [5]),(2,oN 17 16 [16]),(3,oB 18 .add 15 17 [15,17]),(4,oT 3 18 [18])] (sR [(0,oT 19 3 []),(1,oC 20 .lss 19 0 [19])] (.cond (.t 20) (sK [20] (.reg false [(0,oP 21 .fail
[21]),(1,⟨none,.fail,none,[],[]⟩)])) (sK [20] .skip)))))) (.reg false [(0,oC 22 .add 11 1 [11]),(1,oT 11 22 [22])]))))
abbrev L139_1 : CCode := (sR [(0,oB 28 .lss 27 26 [])] (.seq (.cond (.t 28) (sK [28] .skip) (sK [25,26,27,28] (.exit 2))) (.seq (.block 3 (sR [(0,oI 29 1 25 27 []),(1,oL 30 1 29 [29]),(2,oT 8 30 [30])] (.reg false
[(0,oT 31 6 [6]),(1,oT 32 8 [8]),(2,oP 33 (.app 1 8 (.t 31) (.t 32)) [31,32]),(3,oT 6 33 [33])]))) (.reg false [(0,oC 34 .add 27 1 [27]),(1,oT 27 34 [34])]))))
abbrev B139 : CCode := (sR [(0,oP 2 (.mv (.c (.nils))) [2])] (sR [(0,oZ 3 0 [])] (.seq (sR [(0,oT 9 0 []),(1,oN 10 9 []),(2,oZ 11 0 [])] (.block 0 (.loop L139_0))) (sR [(0,oT 23 3 [3]),(1,oP 24 (.call 178 [(.c
(.nils)),.t 23]) [23]),(2,oT 6 24 [24])] (.seq (sR [(0,oT 25 0 [0]),(1,oN 26 25 []),(2,oZ 27 0 [])] (.block 2 (.loop L139_1))) (sR [(0,oT 35 6 [6]),(1,oT 2 35 [35])] .ret))))))
def C139 : CFn := ⟨36,1,[.t 2],B139⟩
abbrev B141 : CCode := (sR [(0,oP 1 (.box 3 (.t 0)) [0]),(1,oY 2 false [2])] (sR [(0,oF 3 0 1 []),(1,oL 4 1 3 [3]),(2,oP 5 (.lens (.t 4)) [4]),(3,oC 6 .eql 5 1 [5]),(4,oT 7 6 [6]),(5,oG 8 (.fa 0 (.t 1)) 7 true []),(6,oG
9 (.ld 1 false (.t 8)) 7 true [8]),(7,oG 10 (.ix (.t 9) (.c (.int .i64 0))) 7 true [9]),(8,oG 11 (.bin .geq (.t 10) (.c (.int .u8 (97)))) 7 true [10]),(9,oP 12 (.pick (.t 7) (.t 11) (.c (.bool false))) [7,11]),(10,oT 13
12 [12]),(11,oG 14 (.fa 0 (.t 1)) 13 true []),(12,oG 15 (.ld 1 false (.t 14)) 13 true [14]),(13,oG 16 (.ix (.t 15) (.c (.int .i64 0))) 13 true [15]),(14,oG 17 (.bin .leq (.t 16) (.c (.int .u8 (122)))) 13 true
[16]),(15,oP 18 (.pick (.t 13) (.t 17) (.c (.bool false))) [13,17]),(16,oT 19 18 [18]),(17,oG 20 (.fa 1 (.t 1)) 19 true []),(18,oG 21 (.ld 1 false (.t 20)) 19 true [20]),(19,oG 22 (.call 87 [.t 21,(.c (.int .i64 1)),(.c
(.int .i64 3))]) 19 true [21]),(20,oP 23 (.pick (.t 19) (.t 22) (.c (.bool false))) [19,22]),(21,oT 24 23 [23]),(22,oG 25 (.fa 2 (.t 1)) 24 true []),(23,oG 26 (.ld 1 false (.t 25)) 24 true [25]),(24,oG 27 (.fa 1 (.t 1))
24 true []),(25,oG 28 (.ld 1 false (.t 27)) 24 true [1,27]),(26,oG 29 (.call 87 [.t 26,(.c (.int .i64 0)),.t 28]) 24 true [26,28]),(27,oP 30 (.pick (.t 24) (.t 29) (.c (.bool false))) [24,29]),(28,oT 2 30 [30])] .ret))
def C141 : CFn := ⟨31,1,[.t 2],B141⟩
abbrev B146 : CCode := (sR [(0,oY 4 false [4])] (sR [(0,oT 5 0 [0]),(1,oT 6 1 [1]),(2,oP 7 (.call 180 [.t 5,.t 6]) [5,6]),(3,oC 8 .geq 7 0 [7]),(4,oT 4 8 [8])] .ret))
def C146 : CFn := ⟨9,2,[.t 4],B146⟩
abbrev L155_0 : CCode := (sR [(0,oB 37 .lss 36 35 [])] (.seq (.cond (.t 37) (sK [37] .skip) (sK [0,1,2,4,5,8,34,35,36,37] (.exit 0))) (.seq (.block 1 (sR [(0,oT 38 36 []),(1,oI 39 2 34 36 []),(2,oM 40 2 39 [39]),(3,oP
10 (.al [.int .i64 (0),.nils]) []),(4,oT 9 38 [38]),(5,⟨none,.st 2 (.t 10) (.t 40),none,[],[40]⟩)] (.seq (sR [(0,oF 41 0 10 []),(1,oL 42 1 41 [41]),(2,oF 43 0 8 []),(3,oL 44 1 43 [43]),(4,oB 45 .neq 42 44 [42,44])]
(.cond (.t 45) (sK [9,10,45] (.exit 1)) (sK [45] .skip))) (sR [(0,oT 47 0 []),(1,oF 48 1 8 []),(2,oL 49 1 48 [48]),(3,oF 50 1 10 []),(4,oL 51 1 50 [50]),(5,oP 52 (.call 157 [.t 47,.t 49,.t 51]) [10,47,49,51]),(6,oT 46
52 [52]),(7,oP 53 (.ex (.t 46) 0) []),(8,oP 54 (.ex (.t 46) 1) [46]),(9,oT 11 53 [53]),(10,oT 12 54 [54])] (sR [(0,oT 55 12 [12])] (.cond (.t 55) (sK [55] (.reg true [(0,oL 56 1 5 []),(1,oT 57 11 [11]),(2,oT 58 1
[]),(4,oT 60 9 [9]),(5,oP 61 (.bsl 1 1 [.int .i64 (0)] [(0,1,(.t 60))]) [60]),(3,⟨some 59,.call 156 [.t 58],none,[(5,1)],[58]⟩),(6,⟨some 62,.app 1 8 (.t 59) (.t 61),none,[(5,1)],[59,61]⟩),(7,oP 63 (.callv (.t 56) [.t
57,.t 62]) [56,57,62,63])])) (sK [9,11,55] .skip))))))) (.reg false [(0,oC 64 .add 36 1 [36]),(1,oT 36 64 [64])]))))
abbrev B155 : CCode := (.seq (sR [(0,oT 13 1 []),(1,oN 14 13 [13]),(2,oF 15 1 2 []),(3,oL 16 1 15 [15]),(4,oN 17 16 [16]),(5,oB 18 .eql 14 17 [14,17])] (.cond (.t 18) (sK [2,4,5,18] (.seq (.reg true [(0,oL 19 1 3
[]),(1,oT 20 0 [0]),(3,oT 22 1 [1]),(2,⟨some 21,.call 156 [.t 20],none,[(3,1)],[20]⟩),(4,⟨some 23,.call 156 [.t 22],none,[(3,1)],[22]⟩),(5,oP 24 (.bld [.nils,.nils] [(0,1,(.t 21)),(1,1,(.t 23))]) [21,23]),(6,oP 25 (.bsl
2 1 [.nils,.nils] [(0,2,(.t 24))]) [24]),(7,oP 26 (.app 2 48 (.t 19) (.t 25)) [19,25]),(8,⟨none,.st 1 (.t 3) (.t 26),none,[],[26]⟩)]) .ret)) (sK [18] .skip))) (sR [(0,oF 27 1 2 []),(1,oL 28 1 27 [27]),(2,oT 29 1
[]),(3,oN 30 29 [29]),(4,oI 31 2 28 30 [28]),(5,oM 32 2 31 [31]),(6,oP 8 (.al [.int .i64 (0),.nils]) []),(7,⟨none,.st 2 (.t 8) (.t 32),none,[],[30,32]⟩)] (sR [(0,oF 33 1 4 []),(1,oL 34 1 33 [33]),(2,oN 35 34 []),(3,oZ
36 0 [])] (.block 0 (.loop L155_0)))))
def C155 : CFn := ⟨65,6,[],B155⟩
abbrev B156 : CCode := (sR [(0,oP 2 (.mv (.c (.nils))) [2])] (.seq (sR [(0,oT 3 0 []),(1,oP 4 (.isnil false (.t 3)) [3])] (.cond (.t 4) (sK [0,4] (sR [(0,oP 2 (.mv (.c (.nils))) [])] .ret)) (sK [4] .skip))) (sR [(0,oP 5
(.bsl 1 0 [.int .i64 (0)] []) []),(1,oT 6 0 [0]),(2,oP 7 (.app 1 8 (.t 5) (.t 6)) [5,6]),(3,oT 2 7 [7])] .ret)))
def C156 : CFn := ⟨8,1,[.t 2],B156⟩
abbrev L157_0 : CCode := (sR [(0,oB 16 .lss 15 14 [])] (.seq (.cond (.t 16) (sK [16] .skip) (sK [2,13,14,15,16] (.exit 0))) (.seq (.block 1 (sR [(0,oT 17 15 []),(1,oI 18 1 13 15 []),(2,oL 19 1 18 [18]),(3,oT 9 17
[17]),(4,oT 10 19 [19])] (.block 2 (sR [(0,oT 21 10 []),(1,oP 22 (.call 183 [.t 21]) [21]),(2,oP 23 (.not (.t 22)) [22]),(3,oT 20 23 [23])] (.cond (.t 20) (sK [20] (.seq (.reg true [(0,oT 24 10 [10]),(2,oT 26 2
[]),(3,oT 27 9 [9]),(4,oI 28 1 26 27 []),(5,oL 29 1 28 []),(1,⟨some 25,.call 184 [.t 24],none,[(28,1)],[24,26,27,28]⟩),(6,oB 30 .neq 25 29 [25,29])]) (.cond (.t 30) (sK [2,8,13,14,15,30] (sR [(0,oP 6 (.mv (.c (.nils)))
[]),(1,oY 7 false [])] .ret)) (sK [30] .skip)))) (sK [20] (sR [(0,oT 32 8 []),(1,oT 33 10 []),(2,oI 34 1 32 33 []),(3,oL 35 1 34 [32,33,34]),(4,oC 36 .lss 35 0 [35]),(5,oT 31 36 [36])] (.cond (.t 31) (sK [31] (.reg
false [(0,oT 37 8 []),(1,oT 38 10 [10]),(2,oT 39 2 []),(3,oT 40 9 [9]),(4,oI 41 1 39 40 []),(5,oL 42 1 41 [39,40,41]),(6,oI 43 1 37 38 []),(7,⟨none,.st 1 (.t 43) (.t 42),none,[],[37,38,42,43]⟩)])) (sK [31] (.seq (.reg
true [(0,oT 45 8 []),(1,oT 46 10 [10]),(2,oI 47 1 45 46 []),(3,oL 48 1 47 [45,46,47]),(4,oT 49 2 []),(5,oT 50 9 [9]),(6,oI 51 1 49 50 []),(7,oL 52 1 51 [49,50,51]),(8,oB 53 .neq 48 52 [48,52]),(9,oT 44 53 [53])]) (.cond
(.t 44) (sK [2,8,13,14,15,44] (sR [(0,oP 6 (.mv (.c (.nils))) []),(1,oY 7 false [])] .ret)) (sK [44] .skip)))))))))))) (.reg false [(0,oC 54 .add 15 1 [15]),(1,oT 15 54 [54])]))))
abbrev B157 : CCode := (sR [(0,oP 6 (.mv (.c (.nils))) [6]),(1,oY 7 false [7])] (sR [(0,oT 11 0 [0]),(1,oP 12 (.call 156 [.t 11]) [11]),(2,oT 8 12 [12])] (.seq (sR [(0,oT 13 1 [1]),(1,oN 14 13 []),(2,oZ 15 0 [])]
(.block 0 (.loop L157_0))) (sR [(0,oT 55 8 [8]),(1,oT 6 55 [55]),(2,oY 7 true [])] .ret))))
def C157 : CFn := ⟨56,3,[.t 6,.t 7],B157⟩
abbrev B158 : CCode := (sR [(0,oP 2 (.mv (.c (.nils))) [2])] (sR [(0,oP 3 (.bsl 1 1 [.int .i64 (0)] [(0,1,(.c (.int .i64 (-1))))]) []),(1,oT 4 0 [0]),(2,oP 5 (.call 185 [.t 3,.t 4]) [3,4]),(3,oT 2 5 [5])] .ret))
def C158 : CFn := ⟨6,1,[.t 2],B158⟩
abbrev L161_0 : CCode := (sR [(0,oB 14 .lss 13 12 [])] (.seq (.cond (.t 14) (sK [14] .skip) (sK [0,1,12,13,14] (.exit 0))) (.seq (.block 1 (sR [(0,oT 15 13 []),(1,oT 5 15 [15])] (.seq (.reg true [(0,oT 16 0 []),(1,oT 17
5 []),(2,oI 18 1 16 17 []),(3,oL 19 1 18 [16,17,18]),(4,oT 20 1 []),(5,oT 21 5 [5]),(6,oI 22 1 20 21 []),(7,oL 23 1 22 [20,21,22]),(8,oB 24 .neq 19 23 [19,23])]) (.cond (.t 24) (sK [0,1,12,13,24] (sR [(0,oY 4 false [])]
.ret)) (sK [24] .skip))))) (.reg false [(0,oC 25 .add 13 1 [13]),(1,oT 13 25 [25])]))))
abbrev B161 : CCode := (sR [(0,oY 4 false [4])] (.seq (sR [(0,oT 6 0 []),(1,oN 7 6 [6]),(2,oT 8 1 []),(3,oN 9 8 [8]),(4,oB 10 .neq 7 9 [7,9])] (.cond (.t 10) (sK [0,1,10] (sR [(0,oY 4 false [])] .ret)) (sK [10] .skip)))
(.seq (sR [(0,oT 11 0 []),(1,oN 12 11 [11]),(2,oZ 13 0 [])] (.block 0 (.loop L161_0))) (sR [(0,oY 4 true [])] .ret))))
def C161 : CFn := ⟨26,2,[.t 4],B161⟩
abbrev L162_0 : CCode := (.seq (sR [(0,oT 29 12 []),(1,oF 30 1 5 []),(2,oL 31 1 30 [30]),(3,oN 32 31 [31]),(4,oB 33 .lss 29 32 [29,32])] (.cond (.t 33) (sK [33] .skip) (sK [2,3,4,5,6,12,33] (.exit 0)))) (.seq (.block 1
(.seq (.reg true [(0,oF 37 1 6 []),(1,oL 38 1 37 [37]),(2,oT 39 2 []),(3,oI 40 2 38 39 [38]),(4,oM 41 2 40 [40]),(5,oF 42 1 5 []),(6,oL 43 1 42 [42]),(7,oT 44 12 []),(8,oI 45 2 43 44 [43]),(9,oM 46 2 45 [45]),(10,oT 47
3 []),(11,oP 48 (.call 197 [.t 41,.t 46,.t 47]) [39,41,44,46,47]),(12,oT 36 48 [48]),(13,oP 49 (.ex (.t 36) 0) []),(14,oP 50 (.ex (.t 36) 1) [36]),(15,oT 13 49 [49]),(16,oT 14 50 [50])]) (sR [(0,oT 51 14 [14])] (.cond
(.t 51) (sK [51] (.reg true [(0,oT 52 11 [11]),(1,oM 53 2 5 []),(2,oM 54 3 6 []),(3,oT 55 2 []),(4,oC 56 .add 55 1 [55]),(5,oT 57 13 [13]),(6,oP 58 (.bsl 1 0 [.int .i64 (0)] []) []),(7,oT 59 4 []),(9,oT 61 12 []),(10,oP
62 (.bsl 1 1 [.int .i64 (0)] [(0,1,(.t 61))]) [61]),(8,⟨some 60,.app 1 8 (.t 58) (.t 59),none,[(5,2),(6,3)],[58,59]⟩),(11,⟨some 63,.app 1 8 (.t 60) (.t 62),none,[(5,2),(6,3)],[60,62]⟩),(12,oP 64 (.call 162 [.t 53,.t
54,.t 56,.t 57,.t 63]) [53,54,56,57,63]),(13,oP 65 (.app 2 48 (.t 52) (.t 64)) [52,64]),(14,oT 11 65 [65])])) (sK [13,51] .skip))))) (.reg false [(0,oT 34 12 [12]),(1,oC 35 .add 34 1 [34]),(2,oT 12 35 [35])])))
abbrev B162 : CCode := (sR [(0,oP 5 (.box 2 (.t 0)) [0]),(1,oP 6 (.box 3 (.t 1)) [1]),(2,oP 10 (.mv (.c (.nils))) [10])] (.seq (sR [(0,oT 15 2 []),(1,oF 16 1 6 []),(2,oL 17 1 16 [16]),(3,oN 18 17 [17]),(4,oB 19 .eql 15
18 [15,18])] (.cond (.t 19) (sK [2,5,6,19] (sR [(0,oP 20 (.bsl 1 0 [.int .i64 (0)] []) []),(1,oT 21 3 [3]),(2,oP 22 (.app 1 8 (.t 20) (.t 21)) [20,21]),(3,oP 23 (.bsl 1 0 [.int .i64 (0)] []) []),(4,oT 24 4 [4]),(5,oP 25
(.app 1 8 (.t 23) (.t 24)) [23,24]),(6,oP 26 (.bld [.nils,.nils] [(0,1,(.t 22)),(1,1,(.t 25))]) [22,25]),(7,oP 27 (.bsl 2 1 [.nils,.nils] [(0,2,(.t 26))]) [26]),(8,oT 10 27 [27])] .ret)) (sK [19] .skip))) (sR [(0,oP 28
(.bsl 2 0 [.nils,.nils] []) []),(1,oT 11 28 [28])] (.seq (sR [(0,oZ 12 0 [])] (.block 0 (.loop L162_0))) (sR [(0,oT 66 11 [11]),(1,oT 10 66 [66])] .ret)))))
def C162 : CFn := ⟨67,5,[.t 10],B162⟩
abbrev L163_0 : CCode := (.seq (sR [(0,oT 5 3 []),(1,oN 6 5 [5]),(2,oT 7 0 []),(3,oB 8 .lss 6 7 [6,7])] (.cond (.t 8) (sK [8] .skip) (sK [0,8] (.exit 0)))) (.block 1 (.reg false [(0,oT 9 3 [3]),(1,oP 10 (.bsl 1 1 [.int
.i64 (0)] [(0,1,(.c (.int .i64 (-1))))]) []),(2,oP 11 (.app 1 8 (.t 9) (.t 10)) [9,10]),(3,oT 3 11 [11])])))
abbrev B163 : CCode := (sR [(0,oP 2 (.mv (.c (.nils))) [2])] (sR [(0,oP 4 (.bsl 1 0 [.int .i64 (0)] []) []),(1,oT 3 4 [4])] (.seq (.block 0 (.loop L163_0)) (sR [(0,oT 12 3 [3]),(1,oT 2 12 [12])] .ret))))
def C163 : CFn := ⟨13,1,[.t 2],B163⟩
abbrev B164 : CCode := (sR [(0,oP 1 (.box 2 (.t 0)) [0]),(1,oY 2 false [2])] (.seq (.reg true [(0,oM 3 2 1 []),(1,oP 4 (.call 49 [.t 3]) [3]),(2,oT 5 4 [4]),(3,oG 6 (.ld 2 true (.t 1)) 5 true []),(6,oG 9 (.fa 1 (.t 1))
5 true []),(7,oG 10 (.ld 1 false (.t 9)) 5 true []),(8,oG 11 (.len (.t 10)) 5 true [10]),(4,⟨some 7,.call 63 [.t 6],some (5,true),[(9,1)],[1,6,9]⟩),(5,oG 8 (.len (.t 7)) 5 true [7]),(9,oG 12 (.bin .eql (.t 8) (.t 11)) 5
true [8,11]),(10,oP 13 (.pick (.t 5) (.t 12) (.c (.bool false))) [5,12]),(11,oT 2 13 [13])]) .ret))
def C164 : CFn := ⟨14,1,[.t 2],B164⟩
abbrev B173 : CCode := (sR [(0,oP 1 (.box 3 (.t 0)) [0]),(1,oY 2 false [2])] (sR [(0,oF 3 0 1 []),(1,oL 4 1 3 [3]),(2,oP 5 (.lens (.t 4)) [4]),(3,oC 6 .eql 5 1 [5]),(4,oT 7 6 [6]),(5,oG 8 (.fa 0 (.t 1)) 7 true []),(6,oG
9 (.ld 1 false (.t 8)) 7 true [8]),(7,oG 10 (.ix (.t 9) (.c (.int .i64 0))) 7 true [9]),(8,oG 11 (.bin .geq (.t 10) (.c (.int .u8 (97)))) 7 true [10]),(9,oP 12 (.pick (.t 7) (.t 11) (.c (.bool false))) [7,11]),(10,oT 13
12 [12]),(11,oG 14 (.fa 0 (.t 1)) 13 true []),(12,oG 15 (.ld 1 false (.t 14)) 13 true [14]),(13,oG 16 (.ix (.t 15) (.c (.int .i64 0))) 13 true [15]),(14,oG 17 (.bin .leq (.t 16) (.c (.int .u8 (122)))) 13 true
[16]),(15,oP 18 (.pick (.t 13) (.t 17) (.c (.bool false))) [13,17]),(16,oT 19 18 [18]),(17,oG 20 (.fa 1 (.t 1)) 19 true []),(18,oG 21 (.ld 1 false (.t 20)) 19 true [20]),(19,oG 22 (.call 59 [.t 21,(.c (.int .i64 1)),(.c
(.int .i64 3))]) 19 true [21]),(20,oP 23 (.pick (.t 19) (.t 22) (.c (.bool false))) [19,22]),(21,oT 24 23 [23]),(22,oG 25 (.fa 2 (.t 1)) 24 true []),(23,oG 26 (.ld 1 false (.t 25)) 24 true [25]),(24,oG 27 (.fa 1 (.t 1))
24 true []),(25,oG 28 (.ld 1 false (.t 27)) 24 true [1,27]),(26,oG 29 (.call 59 [.t 26,(.c (.int .i64 0)),.t 28]) 24 true [26,28]),(27,oP 30 (.pick (.t 24) (.t 29) (.c (.bool false))) [24,29]),(28,oT 2 30 [30])] .ret))
def C173 : CFn := ⟨31,1,[.t 2],B173⟩
abbrev B174 : CCode := (sR [(0,oY 2 false [2])] (sR [(0,oT 3 0 [0]),(1,oP 4 (.call 146 [.t 3,(.c (.fn 202 []))]) [3]),(2,oP 5 (.not (.t 4)) [4]),(3,oT 2 5 [5])] .ret))
def C174 : CFn := ⟨6,1,[.t 2],B174⟩
abbrev B175 : CCode := (sR [(0,oZ 4 0 [4])] (.seq (.block 0 (sR [(0,oT 6 0 []),(1,oT 7 1 []),(2,oB 8 .lss 6 7 [6,7]),(3,oT 5 8 [8])] (.cond (.t 5) (sK [0,1,5] (sR [(0,oZ 4 (-1) [])] .ret)) (sK [5] (sR [(0,oT 10 0
[0]),(1,oT 11 1 [1]),(2,oB 12 .gtr 10 11 [10,11]),(3,oT 9 12 [12])] (.cond (.t 9) (sK [9] (sR [(0,oZ 4 1 [])] .ret)) (sK [9] .skip))))))) (sR [(0,oZ 4 0 [])] .ret)))
def C175 : CFn := ⟨13,2,[.t 4],B175⟩
abbrev L176_0 : CCode := (sR [(0,oB 12 .lss 11 10 [])] (.seq (.cond (.t 12) (sK [12] .skip) (sK [9,10,11,12] (.exit 0))) (.seq (.block 1 (sR [(0,oT 13 11 []),(1,oI 14 1 9 11 []),(2,oL 15 1 14 [14]),(3,oT 5 13
[13]),(4,oT 6 15 [15])] (.seq (sR [(0,oT 16 5 []),(1,oT 17 1 []),(2,oN 18 17 [17]),(3,oB 19 .geq 16 18 [16,18])] (.cond (.t 19) (sK [0,1,5,6,9,10,11,19] (sR [(0,oZ 4 1 [])] .ret)) (sK [19] .skip))) (sR [(0,oT 20 1
[]),(1,oT 21 5 [5]),(2,oI 22 1 20 21 []),(3,oL 23 1 22 [20,21,22]),(4,oT 7 23 [23])] (sR [(0,oT 24 6 [6]),(1,oT 25 7 [7]),(2,oP 26 (.call 203 [.t 24,.t 25]) [24,25]),(3,oT 8 26 [26])] (sR [(0,oT 27 8 []),(1,oC 28 .neq
27 0 [27])] (.cond (.t 28) (sK [0,1,9,10,11,28] (sR [(0,oT 29 8 [8]),(1,oT 4 29 [29])] .ret)) (sK [8,28] .skip)))))))) (.reg false [(0,oC 30 .add 11 1 [11]),(1,oT 11 30 [30])]))))
abbrev B176 : CCode := (sR [(0,oZ 4 0 [4])] (.seq (sR [(0,oT 9 0 []),(1,oN 10 9 []),(2,oZ 11 0 [])] (.block 0 (.loop L176_0))) (.seq (sR [(0,oT 31 0 [0]),(1,oN 32 31 [31]),(2,oT 33 1 [1]),(3,oN 34 33 [33]),(4,oB 35 .lss
32 34 [32,34])] (.cond (.t 35) (sK [35] (sR [(0,oZ 4 (-1) [])] .ret)) (sK [35] .skip))) (sR [(0,oZ 4 0 [])] .ret))))
def C176 : CFn := ⟨36,2,[.t 4],B176⟩
abbrev L177_0 : CCode := (sR [(0,oB 9 .lss 8 7 [])] (.seq (.cond (.t 9) (sK [9] .skip) (sK [0,1,7,8,9] (.exit 0))) (.seq (.block 1 (sR [(0,oT 10 8 []),(1,oT 5 10 [10])] (sR [(0,oT 11 1 []),(1,oT 12 0 []),(2,oT 13 5
[]),(3,oI 14 2 12 13 []),(4,oM 15 2 14 [14]),(5,oP 16 (.callv (.t 11) [.t 15]) [11,12,13,15])] (.cond (.t 16) (sK [0,1,7,8,16] (sR [(0,oT 17 5 [5]),(1,oT 4 17 [17])] .ret)) (sK [5,16] .skip))))) (.reg false [(0,oC 18
.add 8 1 [8]),(1,oT 8 18 [18])]))))
abbrev B177 : CCode := (sR [(0,oZ 4 0 [4])] (.seq (sR [(0,oT 6 0 []),(1,oN 7 6 [6]),(2,oZ 8 0 [])] (.block 0 (.loop L177_0))) (sR [(0,oZ 4 (-1) [])] .ret)))
def C177 : CFn := ⟨19,2,[.t 4],B177⟩
abbrev B178 : CCode := (sR [(0,oP 4 (.mv (.c (.nils))) [4])] (.seq (sR [(0,oT 5 1 []),(1,oC 6 .lss 5 0 [5])] (.cond (.t 6) (sK [6] (.reg false [(0,oP 7 .fail [7]),(1,⟨none,.fail,none,[],[]⟩)])) (sK [6] .skip))) (.seq
(sR [(0,oT 8 1 [1]),(1,oT 9 0 []),(2,oP 10 (.cap (.t 9)) [9]),(3,oT 11 0 []),(4,oN 12 11 [11]),(5,oB 13 .sub 10 12 [10,12]),(6,oB 14 .sub 8 13 [8,13]),(7,oT 1 14 [14])] (sR [(0,oT 15 1 []),(1,oC 16 .gtr 15 0 [15])]
(.cond (.t 16) (sK [16] (.reg false [(0,oT 17 0 []),(1,oT 18 0 []),(2,oP 19 (.cap (.t 18)) [18]),(3,oP 20 (.sls 1 (.t 17) none (some (.t 19)) none) [17,19]),(4,oT 21 1 [1]),(5,oP 22 (.appm 1 8 [.int .i64 (0)] (.t 20)
(.t 21)) [20,21]),(6,oT 23 0 [0]),(7,oN 24 23 [23]),(8,oP 25 (.sls 1 (.t 22) none (some (.t 24)) none) [22,24]),(9,oT 0 25 [25])])) (sK [1,16] .skip)))) (sR [(0,oT 26 0 [0]),(1,oT 4 26 [26])] .ret))))
def C178 : CFn := ⟨27,2,[.t 4],B178⟩
abbrev L180_0 : CCode := (sR [(0,oB 9 .lss 8 7 [])] (.seq (.cond (.t 9) (sK [9] .skip) (sK [0,1,7,8,9] (.exit 0))) (.seq (.block 1 (sR [(0,oT 10 8 []),(1,oT 5 10 [10])] (sR [(0,oT 11 1 []),(1,oT 12 0 []),(2,oT 13 5
[]),(3,oI 14 1 12 13 []),(4,oL 15 1 14 [12,13,14]),(5,oP 16 (.callv (.t 11) [.t 15]) [11,15])] (.cond (.t 16) (sK [0,1,7,8,16] (sR [(0,oT 17 5 [5]),(1,oT 4 17 [17])] .ret)) (sK [5,16] .skip))))) (.reg false [(0,oC 18
.add 8 1 [8]),(1,oT 8 18 [18])]))))
abbrev B180 : CCode := (sR [(0,oZ 4 0 [4])] (.seq (sR [(0,oT 6 0 []),(1,oN 7 6 [6]),(2,oZ 8 0 [])] (.block 0 (.loop L180_0))) (sR [(0,oZ 4 (-1) [])] .ret)))
def C180 : CFn := ⟨19,2,[.t 4],B180⟩
abbrev B183 : CCode := (sR [(0,oY 2 false [2])] (sR [(0,oT 3 0 [0]),(1,oC 4 .geq 3 0 [3]),(2,oT 2 4 [4])] .ret))
def C183 : CFn := ⟨5,1,[.t 2],B183⟩
abbrev B184 : CCode := (sR [(0,oZ 2 0 [2])] (sR [(0,oT 3 0 [0]),(1,oP 4 (.bin .sub (.c (.int .i64 (-1))) (.t 3)) [3]),(2,oT 2 4 [4])] .ret))
def C184 : CFn := ⟨5,1,[.t 2],B184⟩
abbrev L185_0 : CCode := (.seq (sR [(0,oT 34 8 []),(1,oT 35 7 []),(2,oN 36 35 [35]),(3,oB 37 .lss 34 36 [34,36])] (.cond (.t 37) (sK [37] .skip) (sK [8,37] (.exit 0)))) (.block 1 (.reg true [(0,oT 38 8 []),(1,oT 39 7
[]),(2,oT 40 8 []),(3,oP 41 (.sls 1 (.t 39) (some (.t 40)) none none) [39,40]),(4,oT 42 7 []),(5,oT 43 8 [8]),(6,oP 44 (.sls 1 (.t 42) none (some (.t 43)) none) [42,43]),(7,oP 45 (.cpy 1 (.t 41) (.t 44)) [41,44]),(8,oB
46 .add 38 45 [38,45]),(9,oT 8 46 [46])])))
abbrev B185 : CCode := (sR [(0,oP 4 (.mv (.c (.nils))) [4])] (.seq (sR [(0,oT 9 1 []),(1,oC 10 .lss 9 0 [9])] (.cond (.t 10) (sK [10] (.reg false [(0,oP 11 .fail [11]),(1,⟨none,.fail,none,[],[]⟩)])) (sK [10] .skip)))
(sR [(0,oT 13 0 []),(1,oN 14 13 [13]),(2,oP 15 (.conv .u64 (.t 14)) [14]),(3,oT 16 1 [1]),(4,oP 17 (.conv .u64 (.t 16)) [16]),(5,oP 18 (.call 204 [.t 15,.t 17]) [15,17]),(6,oT 12 18 [18]),(7,oP 19 (.ex (.t 12) 0)
[]),(8,oP 20 (.ex (.t 12) 1) [12]),(9,oT 5 19 [19]),(10,oT 6 20 [20])] (.seq (sR [(0,oT 21 5 [5]),(1,oP 22 (.bin .gtr (.t 21) (.c (.int .u64 (0)))) [21]),(2,oT 23 22 [22]),(3,oG 24 (.mv (.t 6)) 23 false []),(4,oG 25
(.bin .gtr (.t 24) (.c (.int .u64 (9223372036854775807)))) 23 false [24]),(5,oP 26 (.pick (.t 23) (.c (.bool true)) (.t 25)) [23,25])] (.cond (.t 26) (sK [26] (.reg false [(0,oP 27 .fail
[27]),(1,⟨none,.fail,none,[],[]⟩)])) (sK [26] .skip))) (sR [(0,oT 28 6 [6]),(1,oP 29 (.conv .i64 (.t 28)) [28]),(2,oP 30 (.mk 1 8 [.int .i64 (0)] (.t 29) (.t 29)) [29]),(3,oT 7 30 [30])] (sR [(0,oT 31 7 []),(1,oT 32 0
[0]),(2,oP 33 (.cpy 1 (.t 31) (.t 32)) [31,32]),(3,oT 8 33 [33])] (.seq (.block 0 (.loop L185_0)) (sR [(0,oT 47 7 [7]),(1,oT 4 47 [47])] .ret))))))))
def C185 : CFn := ⟨48,2,[.t 4],B185⟩
abbrev L197_0 : CCode := (.seq (sR [(0,oT 29 9 []),(1,oF 30 1 3 []),(2,oL 31 1 30 [30]),(3,oN 32 31 [31]),(4,oB 33 .lss 29 32 [29,32])] (.cond (.t 33) (sK [33] .skip) (sK [3,4,9,33] (.exit 0)))) (.seq (.block 1 (sR
[(0,oF 36 1 3 []),(1,oL 37 1 36 [36]),(2,oT 38 9 []),(3,oI 39 1 37 38 [37]),(4,oL 40 1 39 [38,39]),(5,oT 10 40 [40])] (.seq (sR [(0,oT 41 10 []),(1,oC 42 .lss 41 0 [41])] (.cond (.t 42) (sK [42] (.seq (sR [(0,oT 43 10
[10]),(1,oP 44 (.bin .sub (.c (.int .i64 (-1))) (.t 43)) [43]),(2,oF 45 1 4 []),(3,oL 46 1 45 [45]),(4,oT 47 9 []),(5,oI 48 1 46 47 [46]),(6,oL 49 1 48 [47,48]),(7,oB 50 .neq 44 49 [44,49])] (.cond (.t 50) (sK
[3,4,9,50] (sR [(0,oT 51 8 [8]),(1,oT 6 51 [51]),(2,oY 7 false [])] .ret)) (sK [50] .skip))) (.exit 1))) (sK [42] .skip))) (.seq (.seq (.reg true [(0,oT 52 8 []),(1,oT 53 10 []),(2,oI 54 1 52 53 []),(3,oL 55 1 54
[52,53,54]),(4,oC 56 .geq 55 0 [55]),(5,oT 57 56 [56]),(6,oG 58 (.mv (.t 8)) 57 true []),(7,oG 59 (.mv (.t 10)) 57 true []),(8,oG 60 (.ia 1 (.t 58) (.t 59)) 57 true []),(9,oG 61 (.ld 1 false (.t 60)) 57 true
[58,59,60]),(10,oG 62 (.fa 1 (.t 4)) 57 true []),(11,oG 63 (.ld 1 false (.t 62)) 57 true [62]),(12,oG 64 (.mv (.t 9)) 57 true []),(13,oG 65 (.ia 1 (.t 63) (.t 64)) 57 true [63]),(14,oG 66 (.ld 1 false (.t 65)) 57 true
[64,65]),(15,oG 67 (.bin .neq (.t 61) (.t 66)) 57 true [61,66]),(16,oP 68 (.pick (.t 57) (.t 67) (.c (.bool false))) [57,67])]) (.cond (.t 68) (sK [3,4,9,10,68] (sR [(0,oT 69 8 [8]),(1,oT 6 69 [69]),(2,oY 7 false [])]
.ret)) (sK [68] .skip))) (.reg false [(0,oT 70 8 []),(1,oT 71 10 [10]),(2,oF 72 1 4 []),(3,oL 73 1 72 [72]),(4,oT 74 9 []),(5,oI 75 1 73 74 [73]),(6,oL 76 1 75 [74,75]),(7,oI 77 1 70 71 []),(8,⟨none,.st 1 (.t 77) (.t
76),none,[],[70,71,76,77]⟩)]))))) (.reg false [(0,oT 34 9 [9]),(1,oC 35 .add 34 1 [34]),(2,oT 9 35 [35])])))
abbrev B197 : CCode := (sR [(0,oP 3 (.box 2 (.t 0)) [0]),(1,oP 4 (.box 2 (.t 1)) [1]),(2,oP 6 (.mv (.c (.nils))) [6]),(3,oY 7 false [7])] (sR [(0,oP 11 (.bsl 1 0 [.int .i64 (0)] []) []),(1,oT 12 2 [2]),(2,oP 13 (.app 1
8 (.t 11) (.t 12)) [11,12]),(3,oT 8 13 [13])] (.seq (sR [(0,oF 14 0 4 []),(1,oL 15 1 14 [14]),(2,oF 16 0 3 []),(3,oL 17 1 16 [16]),(4,oB 18 .neq 15 17 [15,17]),(5,oT 19 18 [18]),(6,oG 20 (.fa 1 (.t 4)) 19 false
[]),(7,oG 21 (.ld 1 false (.t 20)) 19 false [20]),(8,oG 22 (.len (.t 21)) 19 false [21]),(9,oG 23 (.fa 1 (.t 3)) 19 false []),(10,oG 24 (.ld 1 false (.t 23)) 19 false [23]),(11,oG 25 (.len (.t 24)) 19 false [24]),(12,oG
26 (.bin .neq (.t 22) (.t 25)) 19 false [22,25]),(13,oP 27 (.pick (.t 19) (.c (.bool true)) (.t 26)) [19,26])] (.cond (.t 27) (sK [3,4,27] (sR [(0,oT 28 8 [8]),(1,oT 6 28 [28]),(2,oY 7 false [])] .ret)) (sK [27]
.skip))) (.seq (sR [(0,oZ 9 0 [])] (.block 0 (.loop L197_0))) (sR [(0,oT 78 8 [8]),(1,oT 6 78 [78]),(2,oY 7 true [])] .ret)))))
def C197 : CFn := ⟨79,3,[.t 6,.t 7],B197⟩
abbrev B202 : CCode := (sR [(0,oY 2 false [2])] (sR [(0,oT 3 0 [0]),(1,oP 4 (.call 59 [.t 3,(.c (.int .i64 0)),(.c (.int .i64 9))]) [3]),(2,oP 5 (.not (.t 4)) [4]),(3,oT 2 5 [5])] .ret))
def C202 : CFn := ⟨6,1,[.t 2],B202⟩
abbrev B203 : CCode := (sR [(0,oZ 4 0 [4])] (sR [(0,oT 7 0 []),(1,oP 8 (.call 210 [.t 7]) [7]),(2,oT 5 8 [8])] (sR [(0,oT 9 1 []),(1,oP 10 (.call 210 [.t 9]) [9]),(2,oT 6 10 [10])] (.seq (sR [(0,oT 11 5 [5])] (.cond (.t
11) (sK [0,1,11] (.seq (sR [(0,oT 12 6 [6])] (.cond (.t 12) (sK [12] (sR [(0,oZ 4 0 [])] .ret)) (sK [12] .skip))) (sR [(0,oZ 4 (-1) [])] .ret))) (sK [11] .skip))) (.seq (sR [(0,oT 13 6 [6])] (.cond (.t 13) (sK [0,1,13]
(sR [(0,oZ 4 1 [])] .ret)) (sK [13] .skip))) (.seq (sR [(0,oT 14 0 []),(1,oT 15 1 []),(2,oB 16 .lss 14 15 [14,15])] (.cond (.t 16) (sK [0,1,16] (sR [(0,oZ 4 (-1) [])] .ret)) (sK [16] .skip))) (.seq (sR [(0,oT 17 0
[0]),(1,oT 18 1 [1]),(2,oB 19 .gtr 17 18 [17,18])] (.cond (.t 19) (sK [19] (sR [(0,oZ 4 1 [])] .ret)) (sK [19] .skip))) (sR [(0,oZ 4 0 [])] .ret))))))))
def C203 : CFn := ⟨20,2,[.t 4],B203⟩
abbrev B204 : CCode := (sR [(0,oP 4 (.mv (.c (.int .u64 (0)))) [4]),(1,oP 5 (.mv (.c (.int .u64 (0)))) [5])] (.seq (.cond (.c (.bool false)) (sR [(0,oT 11 0 [0]),(1,oP 12 (.conv .u32 (.t 11)) [11]),(2,oT 13 1 [1]),(3,oP
14 (.conv .u32 (.t 13)) [13]),(4,oP 15 (.call 217 [.t 12,.t 14]) [12,14]),(5,oT 10 15 [15]),(6,oP 16 (.ex (.t 10) 0) []),(7,oP 17 (.ex (.t 10) 1) [10]),(8,oT 6 16 [16]),(9,oT 7 17 [17])] (sR [(0,oT 18 6 [6]),(1,oP 19
(.conv .u64 (.t 18)) [18]),(2,oT 20 7 [7]),(3,oP 21 (.conv .u64 (.t 20)) [20]),(4,oT 4 19 [19]),(5,oT 5 21 [21])] .ret)) .skip) (sR [(0,oT 23 0 [0]),(1,oT 24 1 [1]),(2,oP 25 (.call 218 [.t 23,.t 24]) [23,24]),(3,oT 22
25 [25]),(4,oP 26 (.ex (.t 22) 0) []),(5,oP 27 (.ex (.t 22) 1) [22]),(6,oT 8 26 [26]),(7,oT 9 27 [27])] (sR [(0,oT 28 8 [8]),(1,oT 29 9 [9]),(2,oT 4 28 [28]),(3,oT 5 29 [29])] .ret))))
def C204 : CFn := ⟨30,2,[.t 4,.t 5],B204⟩
abbrev B210 : CCode := (sR [(0,oY 2 false [2])] (sR [(0,oT 3 0 []),(1,oT 4 0 [0]),(2,oB 5 .neq 3 4 [3,4]),(3,oT 2 5 [5])] .ret))
def C210 : CFn := ⟨6,1,[.t 2],B210⟩
abbrev B218 : CCode := (sR [(0,oP 4 (.mv (.c (.int .u64 (0)))) [4]),(1,oP 5 (.mv (.c (.int .u64 (0)))) [5])] (sR [(0,oT 14 0 []),(1,oP 15 (.bin .and (.t 14) (.c (.int .u64 (4294967295)))) [14]),(2,oT 6 15 [15])] (sR
[(0,oT 16 0 []),(1,oP 17 (.bin .shr (.t 16) (.c (.int .u64 (32)))) [16]),(2,oT 7 17 [17])] (sR [(0,oT 18 1 []),(1,oP 19 (.bin .and (.t 18) (.c (.int .u64 (4294967295)))) [18]),(2,oT 8 19 [19])] (sR [(0,oT 20 1 []),(1,oP
21 (.bin .shr (.t 20) (.c (.int .u64 (32)))) [20]),(2,oT 9 21 [21])] (sR [(0,oT 22 6 []),(1,oT 23 8 []),(2,oB 24 .mul 22 23 [22,23]),(3,oT 10 24 [24])] (sR [(0,oT 25 7 []),(1,oT 26 8 [8]),(2,oB 27 .mul 25 26
[25,26]),(3,oT 28 10 [10]),(4,oP 29 (.bin .shr (.t 28) (.c (.int .u64 (32)))) [28]),(5,oB 30 .add 27 29 [27,29]),(6,oT 11 30 [30])] (sR [(0,oT 31 11 []),(1,oP 32 (.bin .and (.t 31) (.c (.int .u64 (4294967295))))
[31]),(2,oT 12 32 [32])] (sR [(0,oT 33 11 [11]),(1,oP 34 (.bin .shr (.t 33) (.c (.int .u64 (32)))) [33]),(2,oT 13 34 [34])] (sR [(0,oT 35 12 [12]),(1,oT 36 6 [6]),(2,oT 37 9 []),(3,oB 38 .mul 36 37 [36,37]),(4,oB 39
.add 35 38 [35,38]),(5,oT 12 39 [39])] (sR [(0,oT 40 7 [7]),(1,oT 41 9 [9]),(2,oB 42 .mul 40 41 [40,41]),(3,oT 43 13 [13]),(4,oB 44 .add 42 43 [42,43]),(5,oT 45 12 [12]),(6,oP 46 (.bin .shr (.t 45) (.c (.int .u64
(32)))) [45]),(7,oB 47 .add 44 46 [44,46]),(8,oT 4 47 [47])] (sR [(0,oT 48 0 [0]),(1,oT 49 1 [1]),(2,oB 50 .mul 48 49 [48,49]),(3,oT 5 50 [50])] .ret))))))))))))
def C218 : CFn := ⟨51,2,[.t 4,.t 5],B218⟩
theorem chk6 : chkFn Go.Proofs.Tryz.prog 6 C6 = true := by kernel_rfl
theorem chk10 : chkFn Go.Proofs.Tryz.prog 10 C10 = true := by kernel_rfl
theorem chk11 : chkFn Go.Proofs.Tryz.prog 11 C11 = true := by kernel_rfl
theorem chk12 : chkFn Go.Proofs.Tryz.prog 12 C12 = true := by kernel_rfl
theorem chk14 : chkFn Go.Proofs.Tryz.prog 14 C14 = true := by kernel_rfl
theorem chk16 : chkFn Go.Proofs.Tryz.prog 16 C16 = true := by kernel_rfl
theorem chk17 : chkFn Go.Proofs.Tryz.prog 17 C17 = true := by kernel_rfl
theorem chk18 : chkFn Go.Proofs.Tryz.prog 18 C18 = true := by kernel_rfl
theorem chk26 : chkFn Go.Proofs.Tryz.prog 26 C26 = true := by kernel_rfl
theorem chk27 : chkFn Go.Proofs.Tryz.prog 27 C27 = true := by kernel_rfl
theorem chk28 : chkFn Go.Proofs.Tryz.prog 28 C28 = true := by kernel_rfl
theorem chk29 : chkFn Go.Proofs.Tryz.prog 29 C29 = true := by kernel_rfl
theorem chk30 : chkFn Go.Proofs.Tryz.prog 30 C30 = true := by kernel_rfl
theorem chk31 : chkFn Go.Proofs.Tryz.prog 31 C31 = true := by kernel_rfl
theorem chk32 : chkFn Go.Proofs.Tryz.prog 32 C32 = true := by kernel_rfl
theorem chk33 : chkFn Go.Proofs.Tryz.prog 33 C33 = true := by kernel_rfl
theorem chk34 : chkFn Go.Proofs.Tryz.prog 34 C34 = true := by kernel_rfl
theorem chk36 : chkFn Go.Proofs.Tryz.prog 36 C36 = true := by kernel_rfl
theorem chk37 : chkFn Go.Proofs.Tryz.prog 37 C37 = true := by kernel_rfl
theorem chk38 : chkFn Go.Proofs.Tryz.prog 38 C38 = true := by kernel_rfl
theorem chk39 : chkFn Go.Proofs.Tryz.prog 39 C39 = true := by kernel_rfl
theorem chk40 : chkFn Go.Proofs.Tryz.prog 40 C40 = true := by kernel_rfl
theorem chk41 : chkFn Go.Proofs.Tryz.prog 41 C41 = true := by kernel_rfl
theorem chk42 : chkFn Go.Proofs.Tryz.prog 42 C42 = true := by kernel_rfl
theorem chk43 : chkFn Go.Proofs.Tryz.prog 43 C43 = true := by kernel_rfl
theorem chk44 : chkFn Go.Proofs.Tryz.prog 44 C44 = true := by kernel_rfl
theorem chk45 : chkFn Go.Proofs.Tryz.prog 45 C45 = true := by kernel_rfl
theorem chk46 : chkFn Go.Proofs.Tryz.prog 46 C46 = true := by kernel_rfl
theorem chk47 : chkFn Go.Proofs.Tryz.prog 47 C47 = true := by kernel_rfl
theorem chk48 : chkFn Go.Proofs.Tryz.prog 48 C48 = true := by kernel_rfl
theorem chk49 : chkFn Go.Proofs.Tryz.prog 49 C49 = true := by kernel_rfl
theorem chk50 : chkFn Go.Proofs.Tryz.prog 50 C50 = true := by kernel_rfl
theorem chk55 : chkFn Go.Proofs.Tryz.prog 55 C55 = true := by kernel_rfl
theorem chk56 : chkFn Go.Proofs.Tryz.prog 56 C56 = true := by kernel_rfl
theorem chk59 : chkFn Go.Proofs.Tryz.prog 59 C59 = true := by kernel_rfl
theorem chk62 : chkFn Go.Proofs.Tryz.prog 62 C62 = true := by kernel_rfl
theorem chk63 : chkFn Go.Proofs.Tryz.prog 63 C63 = true := by kernel_rfl
theorem chk65 : chkFn Go.Proofs.Tryz.prog 65 C65 = true := by kernel_rfl
theorem chk66 : chkFn Go.Proofs.Tryz.prog 66 C66 = true := by kernel_rfl
theorem chk67 : chkFn Go.Proofs.Tryz.prog 67 C67 = true := by kernel_rfl
theorem chk68 : chkFn Go.Proofs.Tryz.prog 68 C68 = true := by kernel_rfl
theorem chk69 : chkFn Go.Proofs.Tryz.prog 69 C69 = true := by kernel_rfl
theorem chk70 : chkFn Go.Proofs.Tryz.prog 70 C70 = true := by kernel_rfl
theorem chk71 : chkFn Go.Proofs.Tryz.prog 71 C71 = true := by kernel_rfl
theorem chk72 : chkFn Go.Proofs.Tryz.prog 72 C72 = true := by kernel_rfl
theorem chk73 : chkFn Go.Proofs.Tryz.prog 73 C73 = true := by kernel_rfl
theorem chk74 : chkFn Go.Proofs.Tryz.prog 74 C74 = true := by kernel_rfl
theorem chk75 : chkFn Go.Proofs.Tryz.prog 75 C75 = true := by kernel_rfl
theorem chk76 : chkFn Go.Proofs.Tryz.prog 76 C76 = true := by kernel_rfl
theorem chk77 : chkFn Go.Proofs.Tryz.prog 77 C77 = true := by kernel_rfl
theorem chk78 : chkFn Go.Proofs.Tryz.prog 78 C78 = true := by kernel_rfl
theorem chk79 : chkFn Go.Proofs.Tryz.prog 79 C79 = true := by kernel_rfl
theorem chk80 : chkFn Go.Proofs.Tryz.prog 80 C80 = true := by kernel_rfl
theorem chk81 : chkFn Go.Proofs.Tryz.prog 81 C81 = true := by kernel_rfl
theorem chk82 : chkFn Go.Proofs.Tryz.prog 82 C82 = true := by kernel_rfl
theorem chk84 : chkFn Go.Proofs.Tryz.prog 84 C84 = true := by kernel_rfl
theorem chk85 : chkFn Go.Proofs.Tryz.prog 85 C85 = true := by kernel_rfl
theorem chk86 : chkFn Go.Proofs.Tryz.prog 86 C86 = true := by kernel_rfl
theorem chk87 : chkFn Go.Proofs.Tryz.prog 87 C87 = true := by kernel_rfl
theorem chk88 : chkFn Go.Proofs.Tryz.prog 88 C88 = true := by kernel_rfl
theorem chk89 : chkFn Go.Proofs.Tryz.prog 89 C89 = true := by kernel_rfl
theorem chk90 : chkFn Go.Proofs.Tryz.prog 90 C90 = true := by kernel_rfl
theorem chk91 : chkFn Go.Proofs.Tryz.prog 91 C91 = true := by kernel_rfl
theorem chk92 : chkFn Go.Proofs.Tryz.prog 92 C92 = true := by kernel_rfl
theorem chk93 : chkFn Go.Proofs.Tryz.prog 93 C93 = true := by kernel_rfl
theorem chk94 : chkFn Go.Proofs.Tryz.prog 94 C94 = true := by kernel_rfl
theorem chk95 : chkFn Go.Proofs.Tryz.prog 95 C95 = true := by kernel_rfl
theorem chk106 : chkFn Go.Proofs.Tryz.prog 106 C106 = true := by kernel_rfl
theorem chk108 : chkFn Go.Proofs.Tryz.prog 108 C108 = true := by kernel_rfl
theorem chk112 : chkFn Go.Proofs.Tryz.prog 112 C112 = true := by kernel_rfl
theorem chk113 : chkFn Go.Proofs.Tryz.prog 113 C113 = true := by kernel_rfl
theorem chk114 : chkFn Go.Proofs.Tryz.prog 114 C114 = true := by kernel_rfl
theorem chk116 : chkFn Go.Proofs.Tryz.prog 116 C116 = true := by kernel_rfl
theorem chk117 : chkFn Go.Proofs.Tryz.prog 117 C117 = true := by kernel_rfl
theorem chk118 : chkFn Go.Proofs.Tryz.prog 118 C118 = true := by kernel_rfl
theorem chk119 : chkFn Go.Proofs.Tryz.prog 119 C119 = true := by kernel_rfl
theorem chk120 : chkFn Go.Proofs.Tryz.prog 120 C120 = true := by kernel_rfl
theorem chk121 : chkFn Go.Proofs.Tryz.prog 121 C121 = true := by kernel_rfl
theorem chk122 : chkFn Go.Proofs.Tryz.prog 122 C122 = true := by kernel_rfl
theorem chk123 : chkFn Go.Proofs.Tryz.prog 123 C123 = true := by kernel_rfl
theorem chk124 : chkFn Go.Proofs.Tryz.prog 124 C124 = true := by kernel_rfl
theorem chk125 : chkFn Go.Proofs.Tryz.prog 125 C125 = true := by kernel_rfl
theorem chk126 : chkFn Go.Proofs.Tryz.prog 126 C126 = true := by kernel_rfl
theorem chk132 : chkFn Go.Proofs.Tryz.prog 132 C132 = true := by kernel_rfl
theorem chk133 : chkFn Go.Proofs.Tryz.prog 133 C133 = true := by kernel_rfl
theorem chk134 : chkFn Go.Proofs.Tryz.prog 134 C134 = true := by kernel_rfl
theorem chk135 : chkFn Go.Proofs.Tryz.prog 135 C135 = true := by kernel_rfl
theorem chk136 : chkFn Go.Proofs.Tryz.prog 136 C136 = true := by kernel_rfl
theorem chk137 : chkFn Go.Proofs.Tryz.prog 137 C137 = true := by kernel_rfl
theorem chk138 : chkFn Go.Proofs.Tryz.prog 138 C138 = true := by kernel_rfl
theorem chk139 : chkFn Go.Proofs.Tryz.prog 139 C139 = true := by kernel_rfl
theorem chk141 : chkFn Go.Proofs.Tryz.prog 141 C141 = true := by kernel_rfl
theorem chk146 : chkFn Go.Proofs.Tryz.prog 146 C146 = true := by kernel_rfl
theorem chk155 : chkFn Go.Proofs.Tryz.prog 155 C155 = true := by kernel_rfl
theorem chk156 : chkFn Go.Proofs.Tryz.prog 156 C156 = true := by kernel_rfl
theorem chk157 : chkFn Go.Proofs.Tryz.prog 157 C157 = true := by kernel_rfl
theorem chk158 : chkFn Go.Proofs.Tryz.prog 158 C158 = true := by kernel_rfl
theorem chk161 : chkFn Go.Proofs.Tryz.prog 161 C161 = true := by kernel_rfl
theorem chk162 : chkFn Go.Proofs.Tryz.prog 162 C162 = true := by kernel_rfl
theorem chk163 : chkFn Go.Proofs.Tryz.prog 163 C163 = true := by kernel_rfl
theorem chk164 : chkFn Go.Proofs.Tryz.prog 164 C164 = true := by kernel_rfl
theorem chk173 : chkFn Go.Proofs.Tryz.prog 173 C173 = true := by kernel_rfl
theorem chk174 : chkFn Go.Proofs.Tryz.prog 174 C174 = true := by kernel_rfl
theorem chk175 : chkFn Go.Proofs.Tryz.prog 175 C175 = true := by kernel_rfl
theorem chk176 : chkFn Go.Proofs.Tryz.prog 176 C176 = true := by kernel_rfl
theorem chk177 : chkFn Go.Proofs.Tryz.prog 177 C177 = true := by kernel_rfl
theorem chk178 : chkFn Go.Proofs.Tryz.prog 178 C178 = true := by kernel_rfl
theorem chk180 : chkFn Go.Proofs.Tryz.prog 180 C180 = true := by kernel_rfl
theorem chk183 : chkFn Go.Proofs.Tryz.prog 183 C183 = true := by kernel_rfl
theorem chk184 : chkFn Go.Proofs.Tryz.prog 184 C184 = true := by kernel_rfl
theorem chk185 : chkFn Go.Proofs.Tryz.prog 185 C185 = true := by kernel_rfl
theorem chk197 : chkFn Go.Proofs.Tryz.prog 197 C197 = true := by kernel_rfl
theorem chk202 : chkFn Go.Proofs.Tryz.prog 202 C202 = true := by kernel_rfl
theorem chk203 : chkFn Go.Proofs.Tryz.prog 203 C203 = true := by kernel_rfl
theorem chk204 : chkFn Go.Proofs.Tryz.prog 204 C204 = true := by kernel_rfl
theorem chk210 : chkFn Go.Proofs.Tryz.prog 210 C210 = true := by kernel_rfl
theorem chk218 : chkFn Go.Proofs.Tryz.prog 218 C218 = true := by kernel_rfl
def Tab (f : Nat) : Option CFn :=
  match f with
  | 6 => some C6
  | 10 => some C10
  | 11 => some C11
  | 12 => some C12
  | 14 => some C14
  | 16 => some C16
  | 17 => some C17
  | 18 => some C18
  | 26 => some C26
  | 27 => some C27
  | 28 => some C28
  | 29 => some C29
  | 30 => some C30
  | 31 => some C31
  | 32 => some C32
  | 33 => some C33
  | 34 => some C34
  | 36 => some C36
  | 37 => some C37
  | 38 => some C38
  | 39 => some C39
  | 40 => some C40
  | 41 => some C41
  | 42 => some C42
  | 43 => some C43
  | 44 => some C44
  | 45 => some C45
  | 46 => some C46
  | 47 => some C47
  | 48 => some C48
  | 49 => some C49
  | 50 => some C50
  | 55 => some C55
  | 56 => some C56
  | 59 => some C59
  | 62 => some C62
  | 63 => some C63
  | 65 => some C65
  | 66 => some C66
  | 67 => some C67
  | 68 => some C68
  | 69 => some C69
  | 70 => some C70
  | 71 => some C71
  | 72 => some C72
  | 73 => some C73
  | 74 => some C74
  | 75 => some C75
  | 76 => some C76
  | 77 => some C77
  | 78 => some C78
  | 79 => some C79
  | 80 => some C80
  | 81 => some C81
  | 82 => some C82
  | 84 => some C84
  | 85 => some C85
  | 86 => some C86
  | 87 => some C87
  | 88 => some C88
  | 89 => some C89
  | 90 => some C90
  | 91 => some C91
  | 92 => some C92
  | 93 => some C93
  | 94 => some C94
  | 95 => some C95
  | 106 => some C106
  | 108 => some C108
  | 112 => some C112
  | 113 => some C113
  | 114 => some C114
  | 116 => some C116
  | 117 => some C117
  | 118 => some C118
  | 119 => some C119
  | 120 => some C120
  | 121 => some C121
  | 122 => some C122
  | 123 => some C123
  | 124 => some C124
  | 125 => some C125
  | 126 => some C126
  | 132 => some C132
  | 133 => some C133
  | 134 => some C134
  | 135 => some C135
  | 136 => some C136
  | 137 => some C137
  | 138 => some C138
  | 139 => some C139
  | 141 => some C141
  | 146 => some C146
  | 155 => some C155
  | 156 => some C156
  | 157 => some C157
  | 158 => some C158
  | 161 => some C161
  | 162 => some C162
  | 163 => some C163
  | 164 => some C164
  | 173 => some C173
  | 174 => some C174
  | 175 => some C175
  | 176 => some C176
  | 177 => some C177
  | 178 => some C178
  | 180 => some C180
  | 183 => some C183
  | 184 => some C184
  | 185 => some C185
  | 197 => some C197
  | 202 => some C202
  | 203 => some C203
  | 204 => some C204
  | 210 => some C210
  | 218 => some C218
  | _ => none
theorem tabOk : TabOk Go.Proofs.Tryz.prog Tab := by
  intro f cf h
  unfold Tab at h
  split at h <;> simp only [Option.some.injEq, reduceCtorEq] at h <;> subst h
  · exact chk6
  · exact chk10
  · exact chk11
  · exact chk12
  · exact chk14
  · exact chk16
  · exact chk17
  · exact chk18
  · exact chk26
  · exact chk27
  · exact chk28
  · exact chk29
  · exact chk30
  · exact chk31
  · exact chk32
  · exact chk33
  · exact chk34
  · exact chk36
  · exact chk37
  · exact chk38
  · exact chk39
  · exact chk40
  · exact chk41
  · exact chk42
  · exact chk43
  · exact chk44
  · exact chk45
  · exact chk46
  · exact chk47
  · exact chk48
  · exact chk49
  · exact chk50
  · exact chk55
  · exact chk56
  · exact chk59
  · exact chk62
  · exact chk63
  · exact chk65
  · exact chk66
  · exact chk67
  · exact chk68
  · exact chk69
  · exact chk70
  · exact chk71
  · exact chk72
  · exact chk73
  · exact chk74
  · exact chk75
  · exact chk76
  · exact chk77
  · exact chk78
  · exact chk79
  · exact chk80
  · exact chk81
  · exact chk82
  · exact chk84
  · exact chk85
  · exact chk86
  · exact chk87
  · exact chk88
  · exact chk89
  · exact chk90
  · exact chk91
  · exact chk92
  · exact chk93
  · exact chk94
  · exact chk95
  · exact chk106
  · exact chk108
  · exact chk112
  · exact chk113
  · exact chk114
  · exact chk116
  · exact chk117
  · exact chk118
  · exact chk119
  · exact chk120
  · exact chk121
  · exact chk122
  · exact chk123
  · exact chk124
  · exact chk125
  · exact chk126
  · exact chk132
  · exact chk133
  · exact chk134
  · exact chk135
  · exact chk136
  · exact chk137
  · exact chk138
  · exact chk139
  · exact chk141
  · exact chk146
  · exact chk155
  · exact chk156
  · exact chk157
  · exact chk158
  · exact chk161
  · exact chk162
  · exact chk163
  · exact chk164
  · exact chk173
  · exact chk174
  · exact chk175
  · exact chk176
  · exact chk177
  · exact chk178
  · exact chk180
  · exact chk183
  · exact chk184
  · exact chk185
  · exact chk197
  · exact chk202
  · exact chk203
  · exact chk204
  · exact chk210
  · exact chk218

end Go.Proofs.YtjmemfggbhkofaaGreatH
