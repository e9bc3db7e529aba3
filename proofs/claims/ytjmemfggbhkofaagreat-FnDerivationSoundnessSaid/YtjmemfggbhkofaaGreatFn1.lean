import Derived.Test.YtjmemfggbhkofaaGreatX3
import Derived.Test.YtjmemfggbhkofaaGreatProg
set_option linter.unusedVariables false
set_option maxRecDepth 100000
namespace Go.Proofs.YtjmemfggbhkofaaGreatH
open Go
@[simp] abbrev oP (d : Nat) (p : COp) (k : List Nat) : COper := ⟨some d, p, none, [], k⟩
@[simp] abbrev oT (d a : Nat) (k : List Nat) : COper := ⟨some d, .mv (.t a), none, [], k⟩
@[simp] abbrev oG (d : Nat) (p : COp) (g : Nat) (b : Bool) (k : List Nat) : COper := ⟨some d, p, some (g, b), [], k⟩
@[simp] abbrev oL (d w a : Nat) (k : List Nat) : COper := ⟨some d, .ld w false (.t a), none, [], k⟩
@[simp] abbrev oM (d w a : Nat) (k : List Nat) : COper := ⟨some d, .ld w true (.t a), none, [], k⟩
@[simp] abbrev oF (d i a : Nat) (k : List Nat) : COper := ⟨some d, .fa i (.t a), none, [], k⟩
@[simp] abbrev oI (d w a b : Nat) (k : List Nat) : COper := ⟨some d, .ia w (.t a) (.t b), none, [], k⟩
@[simp] abbrev oB (d : Nat) (o : BinOp) (a b : Nat) (k : List Nat) : COper := ⟨some d, .bin o (.t a) (.t b), none, [], k⟩
@[simp] abbrev oC (d : Nat) (o : BinOp) (a : Nat) (n : Int) (k : List Nat) : COper := ⟨some d, .bin o (.t a) (.c (.int .i64 n)), none, [], k⟩
@[simp] abbrev oN (d a : Nat) (k : List Nat) : COper := ⟨some d, .len (.t a), none, [], k⟩
@[simp] abbrev oZ (d : Nat) (n : Int) (k : List Nat) : COper := ⟨some d, .mv (.c (.int .i64 n)), none, [], k⟩
@[simp] abbrev oY (d : Nat) (b : Bool) (k : List Nat) : COper := ⟨some d, .mv (.c (.bool b)), none, [], k⟩
@[simp] abbrev oS (w a b : Nat) (k : List Nat) : COper := ⟨none, .st w (.t a) (.t b), none, [], k⟩
noncomputable abbrev pG := Go.Proofs.Tryz.prog
abbrev sR (l : List (Nat × COper)) (c : CCode) : CCode := .seq (.reg false l) c
abbrev sK (l : List Nat) (c : CCode) : CCode := .seq (.kill l) c
abbrev B4 : CCode := (sR [(0,oY 2 false [2])] (.seq (sR [(0,oT 7 0 []),(1,oP 8 (.call 7 [.t 7]) [7])] (.cond (.t 8) (sK [0,8] (sR [(0,oY 2 true [])] .ret)) (sK [8] .skip))) (sR [(0,oT 10 0 [0]),(1,oP 11 (.call 23 [.t
10]) [10]),(2,oT 9 11 [11]),(3,oP 12 (.ex (.t 9) 0) []),(4,oP 13 (.ex (.t 9) 1) []),(5,oP 14 (.ex (.t 9) 2) [9]),(6,oP 3 (.al [.nils,.nils]) []),(7,oP 4 (.al [.int .i64 (0),.nils,.nils]) []),(8,oS 2 3 12 [12]),(9,oS 3 4
13 [13]),(10,oT 5 14 [14])] (sR [(0,oM 15 2 3 []),(1,oM 16 3 4 []),(2,oT 17 5 []),(3,oP 18 (.call 24 [.t 15,.t 16,.t 17]) [15,16,17]),(4,oT 6 18 [18])] (.seq (.reg true [(0,oT 19 6 []),(1,oM 20 2 3 []),(2,oM 21 3 4
[]),(3,oT 22 5 [5]),(4,oP 23 (.call 25 [.t 20,.t 21,.t 22]) [20,21,22]),(5,oP 24 (.beq false (.t 19) (.t 23)) [19,23]),(6,oT 25 24 [24]),(7,oG 26 (.mv (.t 6)) 25 true [6]),(8,oG 27 (.not (.t 26)) 25 true [26]),(9,oG 28
(.mv (.t 27)) 25 true [27]),(10,oG 29 (.ld 2 true (.t 3)) 28 false []),(11,oG 30 (.ld 3 true (.t 4)) 28 false []),(12,⟨some 31,.call 9 [.t 30],some (28,false),[(3,2)],[4,30]⟩),(13,oG 32 (.call 22 [.t 29,.t 31]) 28 false
[3,29,31]),(14,oG 33 (.pick (.t 28) (.c (.bool true)) (.t 32)) 25 true [28,32]),(15,oP 34 (.pick (.t 25) (.t 33) (.c (.bool false))) [25,33]),(16,oT 2 34 [34])]) .ret)))))
def C4 : CFn := ⟨35,1,[.t 2],B4⟩
abbrev B7 : CCode := (sR [(0,oY 2 false [2])] (sR [(0,oT 3 0 [0]),(1,oN 4 3 [3]),(2,oC 5 .gtr 4 1048576 [4]),(3,oT 2 5 [5])] .ret))
def C7 : CFn := ⟨6,1,[.t 2],B7⟩
abbrev B9 : CCode := (sR [(0,oP 1 (.box 3 (.t 0)) [0]),(1,oP 2 (.al [.int .i64 (0),.nils,.nils]) [])] (sR [(0,oF 3 2 1 []),(1,⟨none,.st 1 (.t 3) (.c (.nils)),none,[],[3]⟩)] (sR [(0,oM 4 3 1 []),(1,oS 3 2 4 [1,4])]
.ret)))
def C9 : CFn := ⟨5,1,[.m 2 3 true],B9⟩
abbrev B18 : CCode := (sR [(0,oP 2 (.box 2 (.t 0)) [0]),(1,oP 3 (.box 3 (.t 1)) [1]),(2,oY 4 false [4])] (sR [(0,oM 5 2 2 []),(1,oP 6 (.call 49 [.t 5]) [5]),(2,oT 7 6 [6]),(3,oG 8 (.fa 0 (.t 2)) 7 true []),(4,oG 9 (.ld
1 false (.t 8)) 7 true [8]),(5,oG 10 (.ld 3 true (.t 3)) 7 true []),(6,oG 11 (.call 50 [.t 9,.t 10]) 7 true [2,3,9,10]),(7,oP 12 (.pick (.t 7) (.t 11) (.c (.bool false))) [7,11]),(8,oT 4 12 [12])] .ret))
def C18 : CFn := ⟨13,2,[.t 4],B18⟩
abbrev B22 : CCode := (sR [(0,oP 2 (.box 2 (.t 0)) [0]),(1,oP 3 (.box 3 (.t 1)) [1]),(2,oY 4 false [4])] (sR [(0,oM 9 2 2 []),(1,oM 10 3 3 []),(2,oP 11 (.call 52 [.t 9,.t 10,(.c (.bool false))]) [2,3,9,10]),(3,oT 8 11
[11]),(4,oP 12 (.ex (.t 8) 0) []),(5,oP 13 (.ex (.t 8) 1) []),(6,oP 14 (.ex (.t 8) 2) [8]),(7,oT 5 12 [5,12]),(8,oT 6 13 [13]),(9,oT 7 14 [14])] (sR [(0,oT 15 7 [7]),(1,oT 16 15 [15]),(2,oG 17 (.mv (.t 6)) 16 true
[6]),(3,oG 18 (.bin .eql (.t 17) (.c (.int .i64 0))) 16 true [17]),(4,oP 19 (.pick (.t 16) (.t 18) (.c (.bool false))) [16,18]),(5,oT 4 19 [19])] .ret)))
def C22 : CFn := ⟨20,2,[.t 4],B22⟩
abbrev B23 : CCode := (sR [(0,oP 2 (.al [.nils,.nils]) []),(1,oP 3 (.al [.int .i64 (0),.nils,.nils]) []),(2,oP 4 (.mv (.c (.nils))) [4])] (sR [(0,oT 9 0 [0]),(1,oP 10 (.call 53 [.t 9]) [9]),(2,oT 8 10 [10]),(3,oP 11
(.ex (.t 8) 0) []),(4,oP 12 (.ex (.t 8) 1) []),(5,oP 13 (.ex (.t 8) 2) [8]),(6,oP 6 (.al [.nils,.nils]) []),(7,oP 7 (.al [.int .i64 (0),.nils,.nils]) []),(8,oT 5 11 [11]),(9,oS 2 6 12 [12]),(10,oS 3 7 13 [13])] (.seq
(.reg true [(0,oM 14 2 6 []),(1,oM 15 3 7 []),(2,oT 16 5 [5]),(3,oM 17 2 6 []),(4,oM 18 3 7 []),(5,⟨some 19,.call 54 [.t 16,.t 17,.t 18],none,[(6,2),(7,3)],[16,17,18]⟩),(6,⟨none,.st 2 (.t 2) (.t
14),none,[(7,3)],[6,14]⟩),(7,oS 3 3 15 [7,15]),(8,oT 4 19 [19])]) .ret)))
def C23 : CFn := ⟨20,1,[.m 2 2 true,.m 3 3 true,.t 4],B23⟩
abbrev L24_0 : CCode := (sR [(0,oB 28 .lss 27 26 [])] (.seq (.cond (.t 28) (sK [28] .skip) (sK [3,7,8,25,26,27,28] (.exit 0))) (.seq (.block 1 (sR [(0,oT 29 27 []),(1,oI 30 2 25 27 []),(2,oM 31 2 30 [30]),(3,oP 10 (.al
[.nils,.int .i64 (0)]) []),(4,oT 9 29 [29]),(5,oS 2 10 31 [31])] (.seq (sR [(0,oM 32 2 3 []),(1,oF 33 0 10 []),(2,oL 34 1 33 [33]),(3,oP 35 (.call 57 [.t 32,.t 34]) [32,34]),(4,oP 36 (.not (.t 35)) [35])] (.cond (.t 36)
(sK [2,3,7,8,9,10,25,26,27,36] (sR [(0,oY 6 false [])] .ret)) (sK [36] .skip))) (.block 2 (sR [(0,oF 38 1 10 []),(1,oL 39 1 38 [38]),(2,oC 40 .eql 39 (-1) [39]),(3,oT 37 40 [40])] (.cond (.t 37) (sK [9,37] (sR [(0,oT 41
7 []),(1,oF 42 0 10 []),(2,oL 43 1 42 [42]),(3,oP 44 (.call 58 [.t 41,.t 43]) [10,41,43]),(4,oP 45 (.not (.t 44)) [44])] (.cond (.t 45) (sK [2,3,7,8,25,26,27,45] (sR [(0,oY 6 false [])] .ret)) (sK [45] .skip)))) (sK
[37] (.seq (.reg true [(0,oF 47 1 10 []),(1,oL 48 1 47 [47]),(2,oT 49 8 []),(3,oN 50 49 [49]),(4,oC 51 .sub 50 1 [50]),(5,oP 52 (.call 59 [.t 48,(.c (.int .i64 0)),.t 51]) [48,51]),(6,oP 53 (.not (.t 52)) [52]),(7,oT 54
53 [53]),(8,oG 55 (.mv (.t 2)) 54 false []),(9,oG 56 (.mv (.t 9)) 54 false [9]),(10,oG 57 (.sls 2 (.t 55) none (some (.t 56)) none) 54 false [55,56]),(12,oG 59 (.fa 0 (.t 10)) 54 false []),(13,oG 60 (.ld 1 false (.t
59)) 54 false []),(14,oG 61 (.mv (.t 8)) 54 false []),(15,oG 62 (.fa 1 (.t 10)) 54 false []),(16,oG 63 (.ld 1 false (.t 62)) 54 false []),(17,oG 64 (.ia 1 (.t 61) (.t 63)) 54 false []),(18,oG 65 (.ld 1 false (.t 64)) 54
false []),(11,⟨some 58,.call 61 [.t 57],some (54,false),[(59,1),(62,1),(64,1)],[57,59,62,64]⟩),(19,oG 66 (.call 60 [.t 58,.t 60,.t 65]) 54 false [10,58,60,61,63,65]),(20,oG 67 (.not (.t 66)) 54 false [66]),(21,oP 68
(.pick (.t 54) (.c (.bool true)) (.t 67)) [54,67]),(22,oT 46 68 [68])]) (.cond (.t 46) (sK [2,3,7,8,25,26,27,46] (sR [(0,oY 6 false [])] .ret)) (sK [46] .skip)))))))))) (.reg false [(0,oC 69 .add 27 1 [27]),(1,oT 27 69
[69])]))))
abbrev B24 : CCode := (sR [(0,oP 3 (.box 2 (.t 0)) [0]),(1,oP 4 (.box 3 (.t 1)) [1]),(2,oY 6 false [6])] (.seq (sR [(0,oM 11 2 3 []),(1,oM 12 3 4 []),(2,oP 13 (.call 45 [.t 11,.t 12]) [11,12]),(3,oP 14 (.not (.t 13))
[13]),(4,oT 15 14 [14]),(5,oG 16 (.mv (.t 2)) 15 false []),(6,oG 17 (.len (.t 16)) 15 false [16]),(7,oG 18 (.bin .eql (.t 17) (.c (.int .i64 0))) 15 false [17]),(8,oP 19 (.pick (.t 15) (.c (.bool true)) (.t 18))
[15,18])] (.cond (.t 19) (sK [2,3,4,19] (sR [(0,oY 6 false [])] .ret)) (sK [19] .skip))) (.seq (.reg true [(0,oM 20 2 3 []),(1,oM 21 3 4 []),(3,oM 23 2 3 []),(2,⟨some 22,.call 55 [.t 20,.t
21],none,[(3,2)],[4,20,21]⟩),(4,oP 24 (.call 56 [.t 23]) [23]),(5,oT 7 22 [22]),(6,oT 8 24 [24])]) (.seq (sR [(0,oT 25 2 []),(1,oN 26 25 []),(2,oZ 27 0 [])] (.block 0 (.loop L24_0))) (sR [(0,oT 70 2 []),(1,oT 71 2
[]),(2,oN 72 71 [71]),(3,oC 73 .sub 72 1 [72]),(4,oI 74 2 70 73 []),(5,oF 75 0 74 [74]),(6,oL 76 1 75 [75]),(7,oN 77 76 [70,73,76]),(8,oC 78 .eql 77 0 [77]),(9,oT 6 78 [78])] .ret)))))
def C24 : CFn := ⟨79,3,[.t 6],B24⟩
abbrev L25_0 : CCode := (.seq (sR [(0,oT 35 9 []),(1,oT 36 2 []),(2,oN 37 36 [36]),(3,oB 38 .lss 35 37 [35,37])] (.cond (.t 38) (sK [38] .skip) (sK [2,3,7,8,9,38] (.exit 0)))) (.seq (.block 1 (sR [(0,oM 41 2 3 []),(1,oT
42 7 []),(2,oT 43 8 []),(3,oT 44 2 []),(4,oT 45 9 []),(5,oP 46 (.call 64 [.t 41,.t 42,.t 43,.t 44,.t 45]) [41,42,43,44,45]),(6,oP 47 (.not (.t 46)) [46])] (.cond (.t 47) (sK [2,3,7,8,9,47] (sR [(0,oY 6 false [])] .ret))
(sK [47] .skip)))) (.reg false [(0,oT 39 9 [9]),(1,oC 40 .add 39 1 [39]),(2,oT 9 40 [40])])))
abbrev B25 : CCode := (sR [(0,oP 3 (.box 2 (.t 0)) [0]),(1,oP 4 (.box 3 (.t 1)) [1]),(2,oY 6 false [6])] (.seq (sR [(0,oM 10 2 3 []),(1,oM 11 3 4 []),(2,oP 12 (.call 18 [.t 10,.t 11]) [10,11]),(3,oP 13 (.not (.t 12))
[12]),(4,oT 14 13 [13]),(5,oG 15 (.mv (.t 2)) 14 false []),(6,oG 16 (.len (.t 15)) 14 false [15]),(7,oG 17 (.bin .eql (.t 16) (.c (.int .i64 0))) 14 false [16]),(8,oP 18 (.pick (.t 14) (.c (.bool true)) (.t 17))
[14,17]),(9,oT 19 18 [18]),(10,oG 20 (.mv (.t 2)) 19 false []),(11,oG 21 (.mv (.t 2)) 19 false []),(12,oG 22 (.len (.t 21)) 19 false [21]),(13,oG 23 (.bin .sub (.t 22) (.c (.int .i64 1))) 19 false [22]),(14,oG 24 (.ia 2
(.t 20) (.t 23)) 19 false []),(15,oG 25 (.fa 0 (.t 24)) 19 false [24]),(16,oG 26 (.ld 1 false (.t 25)) 19 false [25]),(17,oG 27 (.len (.t 26)) 19 false [20,23,26]),(18,oG 28 (.bin .gtr (.t 27) (.c (.int .i64 0))) 19
false [27]),(19,oP 29 (.pick (.t 19) (.c (.bool true)) (.t 28)) [19,28])] (.cond (.t 29) (sK [2,3,4,29] (sR [(0,oY 6 false [])] .ret)) (sK [29] .skip))) (sR [(0,oM 30 2 3 []),(1,oM 31 3 4 []),(2,oP 32 (.call 62 [.t
30,.t 31]) [4,30,31]),(3,oT 7 32 [32])] (sR [(0,oM 33 2 3 []),(1,oP 34 (.call 63 [.t 33]) [33]),(2,oT 8 34 [34])] (.seq (sR [(0,oZ 9 0 [])] (.block 0 (.loop L25_0))) (sR [(0,oY 6 true [])] .ret))))))
def C25 : CFn := ⟨48,3,[.t 6],B25⟩
abbrev L36_0 : CCode := (sR [(0,oB 16 .lss 15 14 [])] (.seq (.cond (.t 16) (sK [16] .skip) (sK [1,13,14,15,16] (.exit 0))) (.seq (.block 1 (sR [(0,oI 17 2 13 15 []),(1,oM 18 2 17 [17]),(2,oP 5 (.al [.int .i64
(0),.nils]) []),(3,oS 2 5 18 [18])] (.reg true [(0,oF 19 1 3 []),(1,oL 20 1 19 []),(2,oF 21 0 5 []),(3,oL 22 1 21 []),(4,oP 23 (.bsl 1 0 [.int .i64 (0)] []) []),(5,oF 24 1 5 []),(6,oL 25 1 24 [24]),(7,⟨some 26,.app 1 8
(.t 23) (.t 25),none,[(19,1),(21,1)],[5,19,21,23,25]⟩),(8,oP 27 (.bld [.int .i64 (0),.nils] [(0,1,(.t 22)),(1,1,(.t 26))]) [22,26]),(9,oP 28 (.bsl 2 1 [.int .i64 (0),.nils] [(0,2,(.t 27))]) [27]),(10,oP 29 (.app 2 32
(.t 20) (.t 28)) [20,28]),(11,oF 30 1 3 []),(12,oS 1 30 29 [29,30])]))) (.reg false [(0,oC 31 .add 15 1 [15]),(1,oT 15 31 [31])]))))
abbrev B36 : CCode := (sR [(0,oP 1 (.box 2 (.t 0)) [0]),(1,oP 2 (.al [.nils,.nils]) [])] (sR [(0,oP 6 (.bsl 3 0 [.str [],.int .i64 (0),.int .i64 (0)] []) []),(1,oF 7 0 1 []),(2,oL 8 1 7 [7]),(3,oP 9 (.app 3 32 (.t 6)
(.t 8)) [6,8]),(4,oP 10 (.bsl 2 0 [.int .i64 (0),.nils] []) []),(5,oP 11 (.bld [.nils,.nils] [(0,1,(.t 9)),(1,1,(.t 10))]) [9,10]),(6,oP 3 (.al [.nils,.nils]) []),(7,oS 2 3 11 [11])] (.seq (sR [(0,oF 12 1 1 []),(1,oL 13
1 12 [12]),(2,oN 14 13 []),(3,oZ 15 0 [])] (.block 0 (.loop L36_0))) (sR [(0,oM 32 2 3 []),(1,oS 2 2 32 [3,32])] .ret))))
def C36 : CFn := ⟨33,1,[.m 2 2 true],B36⟩
abbrev L37_0 : CCode := (sR [(0,oB 30 .lss 29 28 [])] (.seq (.cond (.t 30) (sK [30] .skip) (sK [6,27,28,29,30] (.exit 0))) (.seq (.block 1 (sR [(0,oI 31 1 27 29 []),(1,oL 32 1 31 [31]),(2,oT 9 32 [32])] (.reg true
[(0,oF 33 1 7 []),(1,oL 34 1 33 [33]),(2,oF 35 1 6 []),(3,oL 36 1 35 [35]),(4,oT 37 9 [9]),(5,oI 38 2 36 37 [36]),(6,oM 39 2 38 [38]),(7,oP 40 (.bsl 2 1 [.int .i64 (0),.nils] [(0,2,(.t 39))]) [37,39]),(8,oP 41 (.app 2
32 (.t 34) (.t 40)) [34,40]),(9,oF 42 1 7 []),(10,oS 1 42 41 [41,42])]))) (.reg false [(0,oC 43 .add 29 1 [29]),(1,oT 29 43 [43])]))))
abbrev B37 : CCode := (sR [(0,oP 2 (.box 2 (.t 0)) [0]),(1,oP 4 (.al [.nils,.nils]) []),(2,oY 5 false [5])] (.seq (sR [(0,oM 10 2 2 []),(1,oP 11 (.call 84 [.t 10]) [10]),(2,oP 12 (.not (.t 11)) [11]),(3,oT 13 12
[12]),(4,oG 14 (.mv (.t 1)) 13 false []),(5,oG 15 (.fa 1 (.t 2)) 13 false []),(6,oG 16 (.ld 1 false (.t 15)) 13 false [15]),(7,oG 17 (.len (.t 16)) 13 false [16]),(8,oG 18 (.call 85 [.t 14,.t 17]) 13 false
[14,17]),(9,oG 19 (.not (.t 18)) 13 false [18]),(10,oP 20 (.pick (.t 13) (.c (.bool true)) (.t 19)) [13,19])] (.cond (.t 20) (sK [1,2,20] (sR [(0,oP 21 (.bld [.nils,.nils] []) []),(1,oS 2 4 21 [21]),(2,oY 5 false [])]
.ret)) (sK [20] .skip))) (sR [(0,oM 22 2 2 []),(1,oP 23 (.call 36 [.t 22]) [2,22]),(2,oP 6 (.al [.nils,.nils]) []),(3,oS 2 6 23 [23])] (sR [(0,oF 24 0 6 []),(1,oL 25 1 24 [24]),(2,oP 26 (.bld [.nils,.nils] [(0,1,(.t
25))]) [25]),(3,oP 7 (.al [.nils,.nils]) []),(4,oS 2 7 26 [26])] (.seq (sR [(0,oT 27 1 [1]),(1,oN 28 27 []),(2,oZ 29 0 [])] (.block 0 (.loop L37_0))) (sR [(0,oM 44 2 7 []),(1,oS 2 4 44 [7,44]),(2,oY 5 true [])]
.ret))))))
def C37 : CFn := ⟨45,2,[.m 4 2 true,.t 5],B37⟩
abbrev L40_0 : CCode := (.seq (sR [(0,oT 10 4 []),(1,oF 11 1 1 []),(2,oL 12 1 11 [11]),(3,oN 13 12 [12]),(4,oB 14 .lss 10 13 [10,13])] (.cond (.t 14) (sK [14] .skip) (sK [1,4,14] (.exit 0)))) (.seq (.block 1 (.reg true
[(0,oF 17 1 3 []),(1,oL 18 1 17 []),(2,oF 19 1 1 []),(3,oL 20 1 19 []),(4,oT 21 4 []),(5,oI 22 2 20 21 [20]),(6,oF 23 0 22 [22]),(7,oL 24 1 23 []),(8,oP 25 (.bsl 1 0 [.int .i64 (0)] []) []),(9,oF 26 1 1 []),(10,oL 27 1
26 [26]),(11,oT 28 4 []),(12,oI 29 2 27 28 [27]),(13,oF 30 1 29 [29]),(14,oL 31 1 30 [30]),(15,⟨some 32,.app 1 8 (.t 25) (.t 31),none,[(17,1),(19,1),(23,1)],[17,19,21,23,25,28,31]⟩),(16,oP 33 (.bld [.int .i64 (0),.nils]
[(0,1,(.t 24)),(1,1,(.t 32))]) [24,32]),(17,oP 34 (.bsl 2 1 [.int .i64 (0),.nils] [(0,2,(.t 33))]) [33]),(18,oP 35 (.app 2 32 (.t 18) (.t 34)) [18,34]),(19,oF 36 1 3 []),(20,oS 1 36 35 [35,36])])) (.reg false [(0,oT 15
4 [4]),(1,oC 16 .add 15 1 [15]),(2,oT 4 16 [16])])))
abbrev B40 : CCode := (sR [(0,oP 1 (.box 2 (.t 0)) [0]),(1,oP 2 (.al [.nils,.nils]) [])] (sR [(0,oP 5 (.bsl 3 0 [.str [],.int .i64 (0),.int .i64 (0)] []) []),(1,oF 6 0 1 []),(2,oL 7 1 6 [6]),(3,oP 8 (.app 3 32 (.t 5)
(.t 7)) [5,7]),(4,oP 9 (.bld [.nils,.nils] [(0,1,(.t 8))]) [8]),(5,oP 3 (.al [.nils,.nils]) []),(6,oS 2 3 9 [9])] (.seq (sR [(0,oZ 4 0 [])] (.block 0 (.loop L40_0))) (sR [(0,oM 37 2 3 []),(1,oS 2 2 37 [3,37])] .ret))))
def C40 : CFn := ⟨38,1,[.m 2 2 true],B40⟩
abbrev L41_0 : CCode := (.seq (sR [(0,oT 8 6 []),(1,oF 9 1 2 []),(2,oL 10 1 9 [9]),(3,oN 11 10 [10]),(4,oB 12 .lss 8 11 [8,11]),(5,oT 13 12 [12]),(6,oG 14 (.ld 2 true (.t 2)) 13 true []),(7,oG 15 (.call 49 [.t 14]) 13
true [14]),(8,oP 16 (.pick (.t 13) (.t 15) (.c (.bool false))) [13,15]),(9,oT 17 16 [16]),(10,oG 18 (.mv (.t 1)) 17 true []),(11,oG 19 (.fa 1 (.t 2)) 17 true []),(12,oG 20 (.ld 1 false (.t 19)) 17 true [19]),(13,oG 21
(.len (.t 20)) 17 true [20]),(14,oG 22 (.bin .sub (.t 21) (.c (.int .i64 1))) 17 true [21]),(15,oG 23 (.call 87 [.t 18,(.c (.int .i64 0)),.t 22]) 17 true [18,22]),(16,oP 24 (.pick (.t 17) (.t 23) (.c (.bool false)))
[17,23])] (.cond (.t 24) (sK [24] .skip) (sK [1,2,6,24] (.exit 0)))) (.seq (.block 1 (.seq (.reg true [(0,oF 27 0 2 []),(1,oL 28 1 27 [27]),(2,oF 29 1 2 []),(3,oL 30 1 29 [29]),(4,oT 31 1 []),(5,oI 32 2 30 31
[30]),(6,oM 33 2 32 [32]),(7,oF 34 1 2 []),(8,oL 35 1 34 [34]),(9,oT 36 6 []),(10,oI 37 2 35 36 [35]),(11,oM 38 2 37 [37]),(12,oP 39 (.call 88 [.t 28,.t 33,.t 38]) [28,31,33,36,38])]) (.cond (.t 39) (sK [39] (.reg false
[(0,oT 40 5 [5]),(1,oT 41 6 []),(2,oP 42 (.bsl 1 1 [.int .i64 (0)] [(0,1,(.t 41))]) [41]),(3,oP 43 (.app 1 8 (.t 40) (.t 42)) [40,42]),(4,oT 5 43 [43])])) (sK [39] .skip)))) (.reg false [(0,oT 25 6 [6]),(1,oC 26 .add 25
1 [25]),(2,oT 6 26 [26])])))
abbrev B41 : CCode := (sR [(0,oP 2 (.box 2 (.t 0)) [0]),(1,oP 4 (.mv (.c (.nils))) [4])] (sR [(0,oP 7 (.bsl 1 0 [.int .i64 (0)] []) []),(1,oT 5 7 [7])] (.seq (sR [(0,oZ 6 0 [])] (.block 0 (.loop L41_0))) (sR [(0,oT 44 5
[5]),(1,oT 4 44 [44])] .ret))))
def C41 : CFn := ⟨45,2,[.t 4],B41⟩
abbrev L42_0 : CCode := (.seq (sR [(0,oT 6 5 []),(1,oT 7 0 []),(2,oN 8 7 [7]),(3,oB 9 .lss 6 8 [6,8])] (.cond (.t 9) (sK [9] .skip) (sK [0,1,5,9] (.exit 0)))) (.seq (.block 1 (sR [(0,oT 12 0 []),(1,oT 13 5 []),(2,oI 14
1 12 13 []),(3,oL 15 1 14 [12,13,14]),(4,oT 16 1 []),(5,oB 17 .eql 15 16 [15,16])] (.cond (.t 17) (sK [0,1,5,17] (sR [(0,oY 4 true [])] .ret)) (sK [17] .skip)))) (.reg false [(0,oT 10 5 [5]),(1,oC 11 .add 10 1
[10]),(2,oT 5 11 [11])])))
abbrev B42 : CCode := (sR [(0,oY 4 false [4])] (.seq (sR [(0,oZ 5 0 [])] (.block 0 (.loop L42_0))) (sR [(0,oY 4 false [])] .ret)))
def C42 : CFn := ⟨18,2,[.t 4],B42⟩
abbrev L43_0 : CCode := (.seq (sR [(0,oT 24 7 []),(1,oT 25 1 []),(2,oN 26 25 [25]),(3,oB 27 .lss 24 26 [24,26])] (.cond (.t 27) (sK [27] .skip) (sK [1,2,7,27] (.exit 0)))) (.seq (.block 1 (.seq (.reg true [(0,oF 30 1 2
[]),(1,oL 31 1 30 [30]),(2,oT 32 1 []),(3,oT 33 7 []),(4,oI 34 1 32 33 []),(5,oL 35 1 34 [32,33,34]),(6,oI 36 2 31 35 [31]),(7,oM 37 2 36 [36]),(8,oP 8 (.al [.int .i64 (0),.nils]) []),(9,oS 2 8 37 [35,37])]) (.reg true
[(0,oF 38 1 6 []),(1,oL 39 1 38 []),(2,oF 40 0 8 []),(3,oL 41 1 40 []),(4,oP 42 (.bsl 1 0 [.int .i64 (0)] []) []),(5,oF 43 1 8 []),(6,oL 44 1 43 [43]),(7,⟨some 45,.app 1 8 (.t 42) (.t
44),none,[(38,1),(40,1)],[8,38,40,42,44]⟩),(8,oP 46 (.bld [.int .i64 (0),.nils] [(0,1,(.t 41)),(1,1,(.t 45))]) [41,45]),(9,oP 47 (.bsl 2 1 [.int .i64 (0),.nils] [(0,2,(.t 46))]) [46]),(10,oP 48 (.app 2 32 (.t 39) (.t
47)) [39,47]),(11,oF 49 1 6 []),(12,oS 1 49 48 [48,49])]))) (.reg false [(0,oT 28 7 [7]),(1,oC 29 .add 28 1 [28]),(2,oT 7 29 [29])])))
abbrev B43 : CCode := (sR [(0,oP 2 (.box 2 (.t 0)) [0]),(1,oP 4 (.al [.nils,.nils]) []),(2,oY 5 false [5])] (.seq (sR [(0,oM 9 2 2 []),(1,oP 10 (.call 49 [.t 9]) [9]),(2,oP 11 (.not (.t 10)) [10]),(3,oT 12 11
[11]),(4,oG 13 (.ld 2 true (.t 2)) 12 false []),(5,oG 14 (.mv (.t 1)) 12 false []),(6,oG 15 (.call 89 [.t 13,.t 14]) 12 false [13,14]),(7,oG 16 (.not (.t 15)) 12 false [15]),(8,oP 17 (.pick (.t 12) (.c (.bool true)) (.t
16)) [12,16])] (.cond (.t 17) (sK [1,2,17] (sR [(0,oP 18 (.bld [.nils,.nils] []) []),(1,oS 2 4 18 [18]),(2,oY 5 false [])] .ret)) (sK [17] .skip))) (sR [(0,oP 19 (.bsl 3 0 [.str [],.int .i64 (0),.int .i64 (0)] [])
[]),(1,oF 20 0 2 []),(2,oL 21 1 20 [20]),(3,oP 22 (.app 3 32 (.t 19) (.t 21)) [19,21]),(4,oP 23 (.bld [.nils,.nils] [(0,1,(.t 22))]) [22]),(5,oP 6 (.al [.nils,.nils]) []),(6,oS 2 6 23 [23])] (.seq (sR [(0,oZ 7 0 [])]
(.block 0 (.loop L43_0))) (sR [(0,oM 50 2 6 []),(1,oS 2 4 50 [6,50]),(2,oY 5 true [])] .ret)))))
def C43 : CFn := ⟨51,2,[.m 4 2 true,.t 5],B43⟩
abbrev B44 : CCode := (sR [(0,oP 2 (.box 2 (.t 0)) [0]),(1,oP 3 (.box 2 (.t 1)) [1]),(2,oZ 4 0 [4])] (.seq (sR [(0,oF 5 0 2 []),(1,oL 6 1 5 [5]),(2,oF 7 0 3 []),(3,oL 8 1 7 [7]),(4,oB 9 .lss 6 8 [6,8])] (.cond (.t 9)
(sK [2,3,9] (sR [(0,oZ 4 (-1) [])] .ret)) (sK [9] .skip))) (.seq (sR [(0,oF 10 0 2 []),(1,oL 11 1 10 [10]),(2,oF 12 0 3 []),(3,oL 13 1 12 [12]),(4,oB 14 .gtr 11 13 [11,13])] (.cond (.t 14) (sK [2,3,14] (sR [(0,oZ 4 1
[])] .ret)) (sK [14] .skip))) (sR [(0,oF 15 1 2 []),(1,oL 16 1 15 [15]),(2,oF 17 1 3 []),(3,oL 18 1 17 [17]),(4,oP 19 (.call 90 [.t 16,.t 18]) [2,3,16,18]),(5,oT 4 19 [19])] .ret))))
def C44 : CFn := ⟨20,2,[.t 4],B44⟩
abbrev B45 : CCode := (sR [(0,oP 2 (.box 2 (.t 0)) [0]),(1,oP 3 (.box 3 (.t 1)) [1]),(2,oY 4 false [4])] (sR [(0,oM 5 2 2 []),(1,oP 6 (.call 84 [.t 5]) [5]),(2,oT 7 6 [6]),(3,oG 8 (.fa 0 (.t 2)) 7 true []),(4,oG 9 (.ld
1 false (.t 8)) 7 true [8]),(5,oG 10 (.ld 3 true (.t 3)) 7 true []),(6,oG 11 (.call 91 [.t 9,.t 10]) 7 true [2,3,9,10]),(7,oP 12 (.pick (.t 7) (.t 11) (.c (.bool false))) [7,11]),(8,oT 4 12 [12])] .ret))
def C45 : CFn := ⟨13,2,[.t 4],B45⟩
abbrev B47 : CCode := (sR [(0,oY 4 false [4])] (sR [(0,oT 5 0 [0]),(1,oT 6 1 [1]),(2,oP 7 (.call 93 [.t 5,.t 6]) [5,6]),(3,oC 8 .geq 7 0 [7]),(4,oT 4 8 [8])] .ret))
def C47 : CFn := ⟨9,2,[.t 4],B47⟩
abbrev L49_0 : CCode := (.seq (sR [(0,oT 4 3 []),(1,oF 5 1 1 []),(2,oL 6 1 5 [5]),(3,oN 7 6 [6]),(4,oB 8 .lss 4 7 [4,7])] (.cond (.t 8) (sK [8] .skip) (sK [3,8] (.exit 0)))) (.seq (.block 1 (.seq (.reg true [(0,oF 11 0
1 []),(1,oL 12 1 11 [11]),(2,oF 13 1 1 []),(3,oL 14 1 13 [13]),(4,oT 15 3 []),(5,oI 16 2 14 15 [14]),(6,oM 17 2 16 [16]),(7,oP 18 (.call 94 [.t 12,.t 17]) [12,15,17]),(8,oP 19 (.not (.t 18)) [18]),(9,oT 20 19
[19]),(10,oG 21 (.mv (.t 3)) 20 false []),(11,oG 22 (.bin .gtr (.t 21) (.c (.int .i64 0))) 20 false [21]),(12,oG 23 (.mv (.t 22)) 20 false [22]),(13,oG 24 (.fa 1 (.t 1)) 23 true []),(14,oG 25 (.ld 1 false (.t 24)) 23
true [24]),(15,oG 26 (.mv (.t 3)) 23 true []),(16,oG 27 (.bin .sub (.t 26) (.c (.int .i64 1))) 23 true [26]),(17,oG 28 (.ia 2 (.t 25) (.t 27)) 23 true [25]),(18,oG 29 (.ld 2 true (.t 28)) 23 true [28]),(19,oG 30 (.fa 1
(.t 1)) 23 true []),(20,oG 31 (.ld 1 false (.t 30)) 23 true [30]),(21,oG 32 (.mv (.t 3)) 23 true []),(22,oG 33 (.ia 2 (.t 31) (.t 32)) 23 true [31]),(23,oG 34 (.ld 2 true (.t 33)) 23 true [33]),(24,oG 35 (.call 44 [.t
29,.t 34]) 23 true [27,29,32,34]),(25,oG 36 (.bin .geq (.t 35) (.c (.int .i64 0))) 23 true [35]),(26,oG 37 (.pick (.t 23) (.t 36) (.c (.bool false))) 20 false [23,36]),(27,oP 38 (.pick (.t 20) (.c (.bool true)) (.t 37))
[20,37])]) (.cond (.t 38) (sK [1,3,38] (sR [(0,oY 2 false [])] .ret)) (sK [38] .skip)))) (.reg false [(0,oT 9 3 [3]),(1,oC 10 .add 9 1 [9]),(2,oT 3 10 [10])])))
abbrev B49 : CCode := (sR [(0,oP 1 (.box 2 (.t 0)) [0]),(1,oY 2 false [2])] (.seq (sR [(0,oZ 3 0 [])] (.block 0 (.loop L49_0))) (sR [(0,oF 39 0 1 []),(1,oL 40 1 39 [39]),(2,oP 41 (.call 95 [.t 40]) [40]),(3,oT 42 41
[41]),(4,oG 43 (.fa 1 (.t 1)) 42 true []),(5,oG 44 (.ld 1 false (.t 43)) 42 true [43]),(6,oG 45 (.len (.t 44)) 42 true [1,44]),(7,oG 46 (.bin .leq (.t 45) (.c (.int .i64 14))) 42 true [45]),(8,oP 47 (.pick (.t 42) (.t
46) (.c (.bool false))) [42,46]),(9,oT 2 47 [47])] .ret)))
def C49 : CFn := ⟨48,1,[.t 2],B49⟩
abbrev L50_3 : CCode := (.seq (sR [(0,oT 60 8 []),(1,oT 61 6 []),(2,oB 62 .lss 60 61 [60,61])] (.cond (.t 62) (sK [62] .skip) (sK [8,62] (.exit 2)))) (.seq (.block 3 (.seq (.reg true [(0,oF 65 1 3 []),(1,oL 66 1 65
[65]),(2,oT 67 8 []),(3,oI 68 2 66 67 [66]),(4,oF 69 0 68 [68]),(5,oL 70 1 69 [67,69]),(6,oF 71 0 7 []),(7,oL 72 1 71 [71]),(8,oB 73 .eql 70 72 [70,72])]) (.cond (.t 73) (sK [0,3,5,6,7,8,73] (sR [(0,oY 4 false [])]
.ret)) (sK [73] .skip)))) (.reg false [(0,oT 63 8 [8]),(1,oC 64 .add 63 1 [63]),(2,oT 8 64 [64])])))
abbrev L50_4 : CCode := (.seq (sR [(0,oT 74 9 []),(1,oF 75 1 7 []),(2,oL 76 1 75 [75]),(3,oN 77 76 [76]),(4,oB 78 .lss 74 77 [74,77])] (.cond (.t 78) (sK [78] .skip) (sK [7,9,78] (.exit 4)))) (.seq (.block 5 (.seq (.seq
(.reg true [(0,oF 81 1 7 []),(1,oL 82 1 81 [81]),(2,oT 83 9 []),(3,oI 84 1 82 83 [82]),(4,oL 85 1 84 [83,84]),(5,oF 86 0 3 []),(6,oL 87 1 86 [86]),(7,oC 88 .sub 87 1 [87]),(8,oP 89 (.call 87 [.t 85,(.c (.int .i64
(-10))),.t 88]) [85,88]),(9,oP 90 (.not (.t 89)) [89])]) (.cond (.t 90) (sK [0,3,5,6,7,9,90] (sR [(0,oY 4 false [])] .ret)) (sK [90] .skip))) (sR [(0,oF 91 1 7 []),(1,oL 92 1 91 [91]),(2,oT 93 9 []),(3,oI 94 1 92 93
[92]),(4,oL 95 1 94 [93,94]),(5,oC 96 .geq 95 0 [95])] (.cond (.t 96) (sK [96] (.reg false [(0,oT 97 5 []),(1,oF 98 1 7 []),(2,oL 99 1 98 [98]),(3,oT 100 9 []),(4,oI 101 1 99 100 [99]),(5,oL 102 1 101 [100,101]),(6,oI
103 1 97 102 []),(7,⟨none,.st 1 (.t 103) (.c (.bool true)),none,[],[97,102,103]⟩)])) (sK [96] .skip))))) (.reg false [(0,oT 79 9 [9]),(1,oC 80 .add 79 1 [79]),(2,oT 9 80 [80])])))
abbrev L50_0 : CCode := (.seq (sR [(0,oT 29 6 []),(1,oF 30 1 3 []),(2,oL 31 1 30 [30]),(3,oN 32 31 [31]),(4,oB 33 .lss 29 32 [29,32])] (.cond (.t 33) (sK [33] .skip) (sK [0,6,33] (.exit 0)))) (.seq (.block 1 (sR [(0,oF
36 1 3 []),(1,oL 37 1 36 [36]),(2,oT 38 6 []),(3,oI 39 2 37 38 [37]),(4,oM 40 2 39 [39]),(5,oP 7 (.al [.int .i64 (0),.nils]) []),(6,oS 2 7 40 [38,40])] (.seq (.seq (.reg true [(0,oF 41 0 7 []),(1,oL 42 1 41 [41]),(2,oT
43 0 []),(3,oN 44 43 [43]),(4,oC 45 .sub 44 1 [44]),(5,oP 46 (.call 87 [.t 42,(.c (.int .i64 0)),.t 45]) [42,45]),(6,oP 47 (.not (.t 46)) [46]),(7,oT 48 47 [47]),(8,oG 49 (.fa 1 (.t 7)) 48 false []),(9,oG 50 (.ld 1
false (.t 49)) 48 false [49]),(10,oG 51 (.len (.t 50)) 48 false [50]),(11,oG 52 (.mv (.t 0)) 48 false []),(12,oG 53 (.fa 0 (.t 7)) 48 false []),(13,oG 54 (.ld 1 false (.t 53)) 48 false [53]),(14,oG 55 (.ia 3 (.t 52) (.t
54)) 48 false []),(15,oG 56 (.fa 1 (.t 55)) 48 false [55]),(16,oG 57 (.ld 1 false (.t 56)) 48 false [52,54,56]),(17,oG 58 (.bin .neq (.t 51) (.t 57)) 48 false [51,57]),(18,oP 59 (.pick (.t 48) (.c (.bool true)) (.t 58))
[48,58])]) (.cond (.t 59) (sK [0,3,5,6,7,59] (sR [(0,oY 4 false [])] .ret)) (sK [59] .skip))) (.seq (sR [(0,oZ 8 0 [])] (.block 2 (.loop L50_3))) (sR [(0,oZ 9 0 [])] (.block 4 (.loop L50_4))))))) (.reg false [(0,oT 34 6
[6]),(1,oC 35 .add 34 1 [34]),(2,oT 6 35 [35])])))
abbrev L50_1 : CCode := (.seq (sR [(0,oT 104 10 []),(1,oF 105 0 3 []),(2,oL 106 1 105 [105]),(3,oB 107 .lss 104 106 [104,106])] (.cond (.t 107) (sK [107] .skip) (sK [5,10,107] (.exit 6)))) (.seq (.block 7 (sR [(0,oT 110
5 []),(1,oT 111 10 []),(2,oI 112 1 110 111 []),(3,oL 113 1 112 [110,111,112]),(4,oP 114 (.not (.t 113)) [113])] (.cond (.t 114) (sK [3,5,10,114] (sR [(0,oY 4 false [])] .ret)) (sK [114] .skip)))) (.reg false [(0,oT 108
10 [10]),(1,oC 109 .add 108 1 [108]),(2,oT 10 109 [109])])))
abbrev L50_2 : CCode := (.seq (sR [(0,oT 115 11 []),(1,oF 116 2 3 []),(2,oL 117 1 116 [116]),(3,oN 118 117 [117]),(4,oB 119 .lss 115 118 [115,118])] (.cond (.t 119) (sK [119] .skip) (sK [3,11,119] (.exit 8)))) (.seq
(.block 9 (.seq (.reg true [(0,oF 122 2 3 []),(1,oL 123 1 122 [122]),(2,oT 124 11 []),(3,oI 125 1 123 124 [123]),(4,oL 126 1 125 [124,125]),(5,oF 127 0 3 []),(6,oL 128 1 127 [127]),(7,oC 129 .sub 128 1 [128]),(8,oP 130
(.call 87 [.t 126,(.c (.int .i64 0)),.t 129]) [126,129]),(9,oP 131 (.not (.t 130)) [130]),(10,oT 132 131 [131]),(11,oG 133 (.mv (.t 11)) 132 false []),(12,oG 134 (.bin .gtr (.t 133) (.c (.int .i64 0))) 132 false
[133]),(13,oG 135 (.mv (.t 134)) 132 false [134]),(14,oG 136 (.fa 2 (.t 3)) 135 true []),(15,oG 137 (.ld 1 false (.t 136)) 135 true [136]),(16,oG 138 (.mv (.t 11)) 135 true []),(17,oG 139 (.ia 1 (.t 137) (.t 138)) 135
true [137]),(18,oG 140 (.ld 1 false (.t 139)) 135 true [138,139]),(19,oG 141 (.fa 2 (.t 3)) 135 true []),(20,oG 142 (.ld 1 false (.t 141)) 135 true [141]),(21,oG 143 (.mv (.t 11)) 135 true []),(22,oG 144 (.bin .sub (.t
143) (.c (.int .i64 1))) 135 true [143]),(23,oG 145 (.ia 1 (.t 142) (.t 144)) 135 true [142]),(24,oG 146 (.ld 1 false (.t 145)) 135 true [144,145]),(25,oG 147 (.bin .leq (.t 140) (.t 146)) 135 true [140,146]),(26,oG 148
(.pick (.t 135) (.t 147) (.c (.bool false))) 132 false [135,147]),(27,oP 149 (.pick (.t 132) (.c (.bool true)) (.t 148)) [132,148])]) (.cond (.t 149) (sK [3,11,149] (sR [(0,oY 4 false [])] .ret)) (sK [149] .skip))))
(.reg false [(0,oT 120 11 [11]),(1,oC 121 .add 120 1 [120]),(2,oT 11 121 [121])])))
abbrev B50 : CCode := (sR [(0,oP 3 (.box 3 (.t 1)) [1]),(1,oY 4 false [4])] (.seq (sR [(0,oT 12 0 []),(1,oP 13 (.call 95 [.t 12]) [12]),(2,oP 14 (.not (.t 13)) [13]),(3,oT 15 14 [14]),(4,oG 16 (.fa 0 (.t 3)) 15 false
[]),(5,oG 17 (.ld 1 false (.t 16)) 15 false [16]),(6,oG 18 (.call 87 [.t 17,(.c (.int .i64 0)),(.c (.int .i64 4))]) 15 false [17]),(7,oG 19 (.not (.t 18)) 15 false [18]),(8,oP 20 (.pick (.t 15) (.c (.bool true)) (.t
19)) [15,19]),(9,oT 21 20 [20]),(10,oG 22 (.fa 1 (.t 3)) 21 false []),(11,oG 23 (.ld 1 false (.t 22)) 21 false [22]),(12,oG 24 (.len (.t 23)) 21 false [23]),(13,oG 25 (.call 87 [.t 24,(.c (.int .i64 1)),(.c (.int .i64
3))]) 21 false [24]),(14,oG 26 (.not (.t 25)) 21 false [25]),(15,oP 27 (.pick (.t 21) (.c (.bool true)) (.t 26)) [21,26])] (.cond (.t 27) (sK [0,3,27] (sR [(0,oY 4 false [])] .ret)) (sK [27] .skip))) (sR [(0,oP 28 (.mk
1 1 [.bool false] (.c (.int .i64 4)) (.c (.int .i64 4))) []),(1,oT 5 28 [28])] (.seq (sR [(0,oZ 6 0 [])] (.block 0 (.loop L50_0))) (.seq (sR [(0,oZ 10 0 [])] (.block 6 (.loop L50_1))) (.seq (sR [(0,oZ 11 0 [])] (.block
8 (.loop L50_2))) (sR [(0,oY 4 true [])] .ret)))))))
def C50 : CFn := ⟨150,2,[.t 4],B50⟩
abbrev L52_0 : CCode := (sR [(0,oB 27 .lss 26 25 [])] (.seq (.cond (.t 27) (sK [27] .skip) (sK [2,9,10,25,26,27] (.exit 0))) (.seq (.block 1 (sR [(0,oT 28 26 []),(1,oT 13 28 [28])] (sR [(0,oT 29 10 []),(1,oT 30 13
[13]),(2,oP 31 (.call 98 [.t 29,.t 30]) [29,30]),(3,oP 14 (.al [.nils]) []),(4,oS 1 14 31 [31])] (.seq (sR [(0,oT 32 9 []),(1,oP 33 (.fn 100 [.t 14]) []),(2,oP 34 (.call 99 [.t 32,.t 33]) [32,33]),(3,oT 35 2 []),(4,oP
36 (.beq true (.t 34) (.t 35)) [34,35])] (.cond (.t 36) (sK [36] (.exit 1)) (sK [36] .skip))) (.seq (sR [(0,oT 37 12 []),(1,oC 38 .eql 37 0 [37])] (.cond (.t 38) (sK [11,38] (.reg false [(0,oL 39 1 14 []),(1,oT 11 39
[39])])) (sK [38] .skip))) (.reg false [(0,oT 40 12 [12]),(1,oC 41 .add 40 1 [40]),(2,oT 12 41 [41])])))))) (.reg false [(0,oC 42 .add 26 1 [26]),(1,oT 26 42 [42])]))))
abbrev B52 : CCode := (sR [(0,oP 3 (.box 2 (.t 0)) [0]),(1,oP 4 (.box 3 (.t 1)) [1]),(2,oP 6 (.mv (.c (.nils))) [6]),(3,oZ 7 0 [7]),(4,oY 8 false [8])] (.seq (sR [(0,oM 15 2 3 []),(1,oM 16 3 4 []),(2,oP 17 (.call 45 [.t
15,.t 16]) [15,16]),(3,oP 18 (.not (.t 17)) [17])] (.cond (.t 18) (sK [2,3,4,18] (sR [(0,oP 6 (.mv (.c (.nils))) []),(1,oZ 7 0 []),(2,oY 8 false [])] .ret)) (sK [18] .skip))) (.seq (.reg true [(0,oM 19 2 3 []),(1,oM 20
3 4 []),(3,oM 22 2 3 []),(2,⟨some 21,.call 55 [.t 19,.t 20],none,[(3,2)],[4,19,20]⟩),(4,oP 23 (.call 56 [.t 22]) [3,22]),(5,oT 9 21 [21]),(6,oT 10 23 [23])]) (sR [(0,oP 11 (.mv (.c (.nils))) [])] (sR [(0,oZ 12 0 [])]
(.seq (sR [(0,oT 24 10 []),(1,oP 25 (.call 97 [.t 24]) [24]),(2,oZ 26 0 [])] (.block 0 (.loop L52_0))) (sR [(0,oT 43 11 [11]),(1,oT 44 12 [12]),(2,oT 6 43 [43]),(3,oT 7 44 [44]),(4,oY 8 true [])] .ret)))))))
def C52 : CFn := ⟨45,3,[.t 6,.t 7,.t 8],B52⟩
abbrev L53_0 : CCode := (.seq (sR [(0,oF 14 1 6 []),(1,oL 15 1 14 [14]),(2,oN 16 15 [15]),(3,oC 17 .gtr 16 7 [16])] (.cond (.t 17) (sK [17] .skip) (sK [17] (.exit 0)))) (.block 1 (.reg false [(0,oF 18 1 6 []),(1,oL 19 1
18 [18]),(2,oF 20 1 6 []),(3,oL 21 1 20 [20]),(4,oN 22 21 [21]),(5,oC 23 .sub 22 1 [22]),(6,oP 24 (.sls 2 (.t 19) none (some (.t 23)) none) [19,23]),(7,oF 25 1 6 []),(8,oS 1 25 24 [24,25])])))
abbrev B53 : CCode := (sR [(0,oP 2 (.mv (.c (.nilp))) [2]),(1,oP 3 (.al [.nils,.nils]) []),(2,oP 4 (.al [.int .i64 (0),.nils,.nils]) [])] (sR [(0,oT 9 0 [0]),(1,oP 10 (.call 102 [.t 9]) [9]),(2,oT 8 10 [10]),(3,oP 11
(.ex (.t 8) 0) []),(4,oP 12 (.ex (.t 8) 1) []),(5,oP 13 (.ex (.t 8) 2) [8]),(6,oP 6 (.al [.nils,.nils]) []),(7,oP 7 (.al [.int .i64 (0),.nils,.nils]) []),(8,oT 5 11 [11]),(9,oS 2 6 12 [12]),(10,oS 3 7 13 [13])] (.seq
(.block 0 (.loop L53_0)) (.seq (.reg true [(0,oT 26 5 [5]),(1,oM 27 2 6 []),(2,oM 28 3 7 []),(3,oT 2 26 [26]),(4,⟨none,.st 2 (.t 3) (.t 27),none,[(7,3)],[6,27]⟩),(5,oS 3 4 28 [7,28])]) .ret))))
def C53 : CFn := ⟨29,1,[.t 2,.m 3 2 true,.m 4 3 true],B53⟩
abbrev B54 : CCode := (sR [(0,oP 4 (.box 2 (.t 1)) [1]),(1,oP 5 (.box 3 (.t 2)) [2]),(2,oP 6 (.mv (.c (.nils))) [6])] (sR [(0,oM 11 2 4 []),(1,oM 12 3 5 []),(2,oP 13 (.call 103 [.t 11,.t 12]) [5,11,12]),(3,oT 10 13
[13]),(4,oP 14 (.ex (.t 10) 0) []),(5,oP 15 (.ex (.t 10) 1) [10]),(6,oT 7 14 [14]),(7,oT 8 15 [8,15])] (.seq (sR [(0,oT 16 7 []),(1,oN 17 16 [16]),(2,oC 18 .eql 17 0 [17])] (.cond (.t 18) (sK [7,18] (sR [(0,oT 19 0
[]),(1,oF 20 1 4 []),(2,oL 21 1 20 [20]),(3,oN 22 21 [4,21]),(4,oP 23 (.call 104 [.t 19,.t 22,(.c (.nils))]) [19,22]),(5,oT 24 0 []),(6,oP 25 (.call 105 [.t 24,(.c (.int .i64 4))]) [24]),(7,oC 26 .sub 25 1 [25]),(8,oP
27 (.bld [.nils,.int .i64 (0)] [(0,1,(.t 23)),(1,1,(.t 26))]) [23,26]),(9,oP 28 (.bsl 2 1 [.nils,.int .i64 (0)] [(0,2,(.t 27))]) [27]),(10,oT 6 28 [28])] .ret)) (sK [18] .skip))) (sR [(0,oT 29 0 []),(1,oT 30 7 []),(2,oN
31 30 [30]),(3,oP 32 (.call 105 [.t 29,.t 31]) [29,31]),(4,oT 9 32 [32])] (.seq (sR [(0,oT 33 0 []),(1,oP 34 (.call 105 [.t 33,(.c (.int .i64 6))]) [33])] (.block 0 (sR [(0,oC 36 .eql 34 0 []),(1,oT 35 36 [36])] (.cond
(.t 35) (sK [4,34,35] (.reg false [(0,oT 37 7 []),(1,oT 38 9 [9]),(2,oT 39 0 []),(3,oP 40 (.call 105 [.t 39,(.c (.int .i64 7))]) [39]),(4,oC 41 .sub 40 1 [40]),(5,oI 42 2 37 38 []),(6,oF 43 1 42 [42]),(7,oS 1 43 41
[37,38,41,43])])) (sK [35] (sR [(0,oC 45 .eql 34 1 []),(1,oT 44 45 [45])] (.cond (.t 44) (sK [34,44] (.reg false [(0,oT 46 7 []),(1,oT 47 9 [9]),(2,oT 48 0 []),(3,oF 49 1 4 []),(4,oL 50 1 49 [49]),(5,oN 51 50
[4,50]),(6,oP 52 (.call 104 [.t 48,.t 51,(.c (.nils))]) [48,51]),(7,oI 53 2 46 47 []),(8,oF 54 0 53 [53]),(9,oS 1 54 52 [46,47,52,54])])) (sK [4,44] (sR [(0,oC 56 .eql 34 2 [34]),(1,oT 55 56 [56])] (.cond (.t 55) (sK
[55] (.reg true [(0,oT 57 7 []),(1,oT 58 9 []),(2,oP 59 (.sls 2 (.t 57) none (some (.t 58)) none) [57,58]),(3,oT 60 7 [7]),(4,oT 61 9 [9]),(5,oC 62 .add 61 1 [61]),(6,oP 63 (.sls 2 (.t 60) (some (.t 62)) none none)
[60,62]),(7,oP 64 (.app 2 32 (.t 59) (.t 63)) [59,63]),(8,oT 7 64 [64])])) (sK [9,55] .skip))))))))))) (sR [(0,oT 65 7 [7]),(1,oT 6 65 [65])] .ret))))))
def C54 : CFn := ⟨66,3,[.t 6],B54⟩
abbrev L55_0 : CCode := (sR [(0,oB 14 .lss 13 12 [])] (.seq (.cond (.t 14) (sK [14] .skip) (sK [11,12,13,14] (.exit 0))) (.seq (.block 1 (sR [(0,oI 15 2 11 13 []),(1,oM 16 2 15 [15]),(2,oP 7 (.al [.nils,.nils])
[]),(3,oS 2 7 16 [16])] (sR [(0,oF 17 1 7 []),(1,oL 18 1 17 [17]),(2,oP 19 (.call 107 [.t 18]) [18,19])] (.reg false [(0,oT 20 5 [5]),(1,oF 21 1 7 []),(2,oL 22 1 21 [21]),(3,oP 23 (.bsl 1 1 [.nils] [(0,1,(.t 22))])
[7,22]),(4,oP 24 (.app 1 24 (.t 20) (.t 23)) [20,23]),(5,oT 5 24 [24])])))) (.reg false [(0,oC 25 .add 13 1 [13]),(1,oT 13 25 [25])]))))
abbrev B55 : CCode := (sR [(0,oP 2 (.box 2 (.t 0)) [0]),(1,oP 3 (.box 3 (.t 1)) [1]),(2,oP 4 (.mv (.c (.nils))) [4])] (sR [(0,oP 8 (.bsl 1 0 [.nils] []) []),(1,oT 5 8 [8])] (.seq (sR [(0,oM 9 2 2 []),(1,oM 10 3 3
[]),(2,oP 11 (.call 106 [.t 9,.t 10]) [2,3,9,10]),(3,oN 12 11 []),(4,oZ 13 0 [])] (.block 0 (.loop L55_0))) (sR [(0,oT 26 5 [5]),(1,oT 4 26 [26])] .ret))))
def C55 : CFn := ⟨27,2,[.t 4],B55⟩
abbrev L56_0 : CCode := (sR [(0,oB 12 .lss 11 10 [])] (.seq (.cond (.t 12) (sK [12] .skip) (sK [1,9,10,11,12] (.exit 0))) (.seq (.block 1 (sR [(0,oT 13 11 []),(1,oI 14 2 9 11 []),(2,oM 15 2 14 [14]),(3,oP 5 (.al [.int
.i64 (0),.nils]) []),(4,oT 4 13 [13]),(5,oS 2 5 15 [15])] (sR [(0,oT 16 3 []),(1,oN 17 16 [16]),(2,oC 18 .sub 17 1 [17]),(3,oT 6 18 [18])] (.seq (.reg true [(0,oT 19 6 []),(1,oC 20 .geq 19 0 [19]),(2,oT 21 20
[20]),(3,oG 22 (.fa 0 (.t 1)) 21 true []),(4,oG 23 (.ld 1 false (.t 22)) 21 true [22]),(5,oG 24 (.fa 1 (.t 1)) 21 true []),(6,oG 25 (.ld 1 false (.t 24)) 21 true [24]),(7,oG 26 (.mv (.t 3)) 21 true []),(8,oG 27 (.mv (.t
6)) 21 true []),(9,oG 28 (.ia 1 (.t 26) (.t 27)) 21 true []),(10,oG 29 (.ld 1 false (.t 28)) 21 true [28]),(11,oG 30 (.ia 1 (.t 29) (.c (.int .i64 0))) 21 true [29]),(12,oG 31 (.ld 1 false (.t 30)) 21 true
[26,27,30]),(13,oG 32 (.ia 2 (.t 25) (.t 31)) 21 true [25]),(14,oG 33 (.ld 2 true (.t 32)) 21 true [32]),(15,oG 34 (.ld 2 true (.t 5)) 21 true []),(16,oG 35 (.call 108 [.t 23,.t 33,.t 34]) 21 true
[5,23,31,33,34]),(17,oP 36 (.pick (.t 21) (.t 35) (.c (.bool false))) [21,35])]) (.cond (.t 36) (sK [36] (.reg false [(0,oT 37 3 []),(1,oT 38 6 []),(2,oT 39 3 []),(3,oT 40 6 [6]),(4,oI 41 1 39 40 []),(5,oL 42 1 41
[41]),(6,oT 43 4 [4]),(7,oP 44 (.bsl 1 1 [.int .i64 (0)] [(0,1,(.t 43))]) [43]),(8,oP 45 (.app 1 8 (.t 42) (.t 44)) [39,40,42,44]),(9,oI 46 1 37 38 []),(10,oS 1 46 45 [37,38,45,46])])) (sK [6,36] (.reg false [(0,oT 47 3
[3]),(1,oT 48 4 [4]),(2,oP 49 (.bsl 1 1 [.int .i64 (0)] [(0,1,(.t 48))]) [48]),(3,oP 50 (.bsl 1 1 [.nils] [(0,1,(.t 49))]) [49]),(4,oP 51 (.app 1 24 (.t 47) (.t 50)) [47,50]),(5,oT 3 51 [51])]))))))) (.reg false [(0,oC
52 .add 11 1 [11]),(1,oT 11 52 [52])]))))
abbrev B56 : CCode := (sR [(0,oP 1 (.box 2 (.t 0)) [0]),(1,oP 2 (.mv (.c (.nils))) [2])] (sR [(0,oP 7 (.bsl 1 0 [.nils] []) []),(1,oT 3 7 [7])] (.seq (sR [(0,oF 8 1 1 []),(1,oL 9 1 8 [8]),(2,oN 10 9 []),(3,oZ 11 0 [])]
(.block 0 (.loop L56_0))) (sR [(0,oT 53 3 [3]),(1,oT 2 53 [53])] .ret))))
def C56 : CFn := ⟨54,1,[.t 2],B56⟩
abbrev B57 : CCode := (sR [(0,oP 2 (.box 2 (.t 0)) [0]),(1,oY 4 false [4])] (sR [(0,oM 8 2 2 []),(1,oT 9 1 [1]),(2,oP 10 (.call 37 [.t 8,.t 9]) [2,8,9]),(3,oT 7 10 [10]),(4,oP 11 (.ex (.t 7) 0) []),(5,oP 12 (.ex (.t 7)
1) [7]),(6,oP 5 (.al [.nils,.nils]) []),(7,oS 2 5 11 [11]),(8,oT 6 12 [12])] (sR [(0,oT 13 6 [6]),(1,oT 14 13 [13]),(2,oG 15 (.ld 2 true (.t 5)) 14 true []),(3,oG 16 (.call 109 [.t 15]) 14 true [5,15]),(4,oP 17 (.pick
(.t 14) (.t 16) (.c (.bool false))) [14,16]),(5,oT 4 17 [17])] .ret)))
def C57 : CFn := ⟨18,2,[.t 4],B57⟩
abbrev B58 : CCode := (sR [(0,oP 3 (.box 1 (.t 1)) [1]),(1,oY 4 false [4])] (sR [(0,oT 5 0 [0]),(1,oP 6 (.fn 110 [.t 3]) []),(2,oP 7 (.call 99 [.t 5,.t 6]) [3,5,6]),(3,oT 4 7 [7])] .ret))
def C58 : CFn := ⟨8,2,[.t 4],B58⟩
abbrev B59 : CCode := (sR [(0,oY 6 false [6])] (sR [(0,oT 7 1 [1]),(1,oT 8 0 []),(2,oB 9 .leq 7 8 [7,8]),(3,oT 10 9 [9]),(4,oG 11 (.mv (.t 0)) 10 true [0]),(5,oG 12 (.mv (.t 2)) 10 true [2]),(6,oG 13 (.bin .leq (.t 11)
(.t 12)) 10 true [11,12]),(7,oP 14 (.pick (.t 10) (.t 13) (.c (.bool false))) [10,13]),(8,oT 6 14 [14])] .ret))
def C59 : CFn := ⟨15,3,[.t 6],B59⟩
abbrev L60_0 : CCode := (sR [(0,oB 12 .lss 11 10 [])] (.seq (.cond (.t 12) (sK [12] .skip) (sK [0,1,9,10,11,12] (.exit 0))) (.seq (.block 1 (sR [(0,oI 13 1 9 11 []),(1,oL 14 1 13 [13]),(2,oT 8 14 [14])] (sR [(0,oT 15 1
[]),(1,oT 16 8 []),(2,oP 17 (.call 47 [.t 15,.t 16]) [15,16]),(3,oT 18 17 [17]),(4,oG 19 (.mv (.t 0)) 18 false []),(5,oG 20 (.mv (.t 1)) 18 false []),(6,oG 21 (.mv (.t 8)) 18 false [8]),(7,oG 22 (.call 111 [.t 20,.t
21]) 18 false [20,21]),(8,oG 23 (.call 58 [.t 19,.t 22]) 18 false [19,22]),(9,oG 24 (.not (.t 23)) 18 false [23]),(10,oP 25 (.pick (.t 18) (.c (.bool true)) (.t 24)) [18,24])] (.cond (.t 25) (sK [0,1,9,10,11,25] (sR
[(0,oY 6 false [])] .ret)) (sK [25] .skip))))) (.reg false [(0,oC 26 .add 11 1 [11]),(1,oT 11 26 [26])]))))
abbrev B60 : CCode := (sR [(0,oY 6 false [6])] (.seq (sR [(0,oT 9 2 [2]),(1,oN 10 9 []),(2,oZ 11 0 [])] (.block 0 (.loop L60_0))) (sR [(0,oY 6 true [])] .ret)))
def C60 : CFn := ⟨27,3,[.t 6],B60⟩
abbrev L61_0 : CCode := (sR [(0,oB 10 .lss 9 8 [])] (.seq (.cond (.t 10) (sK [10] .skip) (sK [7,8,9,10] (.exit 0))) (.seq (.block 1 (sR [(0,oI 11 2 7 9 []),(1,oM 12 2 11 [11]),(2,oP 5 (.al [.nils,.int .i64 (0)])
[]),(3,oS 2 5 12 [12])] (.reg false [(0,oT 13 3 [3]),(1,oF 14 0 5 []),(2,oL 15 1 14 [14]),(3,oP 16 (.bsl 1 1 [.nils] [(0,1,(.t 15))]) [5,15]),(4,oP 17 (.app 1 24 (.t 13) (.t 16)) [13,16]),(5,oT 3 17 [17])]))) (.reg
false [(0,oC 18 .add 9 1 [9]),(1,oT 9 18 [18])]))))
abbrev B61 : CCode := (sR [(0,oP 2 (.mv (.c (.nils))) [2])] (sR [(0,oP 6 (.bsl 1 0 [.nils] []) []),(1,oT 3 6 [6])] (.seq (sR [(0,oT 7 0 [0]),(1,oN 8 7 []),(2,oZ 9 0 [])] (.block 0 (.loop L61_0))) (sR [(0,oT 19 3
[3]),(1,oT 2 19 [19])] .ret))))
def C61 : CFn := ⟨20,1,[.t 2],B61⟩
abbrev L62_0 : CCode := (.seq (sR [(0,oT 13 7 []),(1,oT 14 6 []),(2,oN 15 14 [14]),(3,oB 16 .lss 13 15 [13,15])] (.cond (.t 16) (sK [16] .skip) (sK [2,6,7,16] (.exit 0)))) (.seq (.block 1 (sR [(0,oT 19 6 []),(1,oT 20 7
[]),(2,oI 21 2 19 20 []),(3,oF 22 1 21 [21]),(4,oL 23 1 22 [22]),(5,oP 24 (.call 113 [.t 23]) [19,20,23]),(6,oT 8 24 [24])] (sR [(0,oM 25 2 2 []),(1,oT 26 8 []),(2,oP 27 (.call 114 [.t 25,.t 26]) [25,26])] (.cond (.t
27) (sK [27] (.reg false [(0,oT 28 5 [5]),(1,oT 29 8 [8]),(2,oP 30 (.bsl 1 1 [.nils] [(0,1,(.t 29))]) [29]),(3,oP 31 (.app 1 24 (.t 28) (.t 30)) [28,30]),(4,oT 5 31 [31])])) (sK [8,27] .skip))))) (.reg false [(0,oT 17 7
[7]),(1,oC 18 .add 17 1 [17]),(2,oT 7 18 [18])])))
abbrev B62 : CCode := (sR [(0,oP 2 (.box 2 (.t 0)) [0]),(1,oP 3 (.box 3 (.t 1)) [1]),(2,oP 4 (.mv (.c (.nils))) [4])] (sR [(0,oP 9 (.bsl 1 0 [.nils] []) []),(1,oT 5 9 [9])] (sR [(0,oM 10 2 2 []),(1,oM 11 3 3 []),(2,oP
12 (.call 112 [.t 10,.t 11]) [3,10,11]),(3,oT 6 12 [12])] (.seq (sR [(0,oZ 7 0 [])] (.block 0 (.loop L62_0))) (sR [(0,oT 32 5 [5]),(1,oT 4 32 [32])] .ret)))))
def C62 : CFn := ⟨33,2,[.t 4],B62⟩
abbrev L63_0 : CCode := (.seq (sR [(0,oT 7 4 []),(1,oF 8 1 1 []),(2,oL 9 1 8 [8]),(3,oN 10 9 [9]),(4,oB 11 .lss 7 10 [7,10]),(5,oT 12 11 [11]),(6,oG 13 (.ld 2 true (.t 1)) 12 true []),(7,oG 14 (.call 49 [.t 13]) 12 true
[13]),(8,oP 15 (.pick (.t 12) (.t 14) (.c (.bool false))) [12,14])] (.cond (.t 15) (sK [15] .skip) (sK [1,4,15] (.exit 0)))) (.seq (.block 1 (sR [(0,oM 18 2 1 []),(1,oT 19 4 []),(2,oP 20 (.call 41 [.t 18,.t 19])
[18,19]),(3,oT 5 20 [20])] (sR [(0,oT 21 5 []),(1,oP 22 (.ia 1 (.t 21) (.c (.int .i64 0))) []),(2,oL 23 1 22 [21,22]),(3,oT 24 4 []),(4,oB 25 .eql 23 24 [23,24])] (.cond (.t 25) (sK [25] (.reg false [(0,oT 26 3
[3]),(1,oT 27 5 [5]),(2,oP 28 (.bsl 1 1 [.nils] [(0,1,(.t 27))]) [27]),(3,oP 29 (.app 1 24 (.t 26) (.t 28)) [26,28]),(4,oT 3 29 [29])])) (sK [5,25] .skip))))) (.reg false [(0,oT 16 4 [4]),(1,oC 17 .add 16 1 [16]),(2,oT
4 17 [17])])))
abbrev B63 : CCode := (sR [(0,oP 1 (.box 2 (.t 0)) [0]),(1,oP 2 (.mv (.c (.nils))) [2])] (sR [(0,oP 6 (.bsl 1 0 [.nils] []) []),(1,oT 3 6 [6])] (.seq (sR [(0,oZ 4 0 [])] (.block 0 (.loop L63_0))) (sR [(0,oT 30 3
[3]),(1,oT 2 30 [30])] .ret))))
def C63 : CFn := ⟨31,1,[.t 2],B63⟩
abbrev L64_0 : CCode := (.seq (sR [(0,oT 53 14 []),(1,oT 54 4 []),(2,oB 55 .lss 53 54 [53,54])] (.cond (.t 55) (sK [55] .skip) (sK [3,4,14,55] (.exit 0)))) (.seq (.block 1 (.reg false [(0,oT 58 13 [13]),(1,oT 59 3
[]),(2,oT 60 14 []),(3,oI 61 2 59 60 []),(4,oF 62 0 61 [61]),(5,oL 63 1 62 [62]),(6,oP 64 (.bsl 1 1 [.nils] [(0,1,(.t 63))]) [59,60,63]),(7,oP 65 (.app 1 24 (.t 58) (.t 64)) [58,64]),(8,oT 13 65 [65])])) (.reg false
[(0,oT 56 14 [14]),(1,oC 57 .add 56 1 [56]),(2,oT 14 57 [57])])))
abbrev L64_1 : CCode := (.seq (sR [(0,oT 66 15 []),(1,oT 67 12 []),(2,oN 68 67 [67]),(3,oB 69 .lss 66 68 [66,68])] (.cond (.t 69) (sK [69] .skip) (sK [11,12,13,15,16,17,44,49,69] (.exit 2)))) (.seq (.block 3 (.seq (.reg
true [(0,oT 72 11 []),(1,oT 73 12 []),(2,oT 74 15 []),(3,oI 75 1 73 74 []),(4,oL 76 1 75 [73,74,75]),(5,oP 77 (.call 42 [.t 72,.t 76]) [72,76]),(6,oT 78 77 [77]),(7,oG 79 (.mv (.t 13)) 78 false []),(8,oG 80 (.bsl 1 0
[.int .i64 (0)] []) 78 false []),(9,oG 81 (.mv (.t 11)) 78 false []),(11,oG 83 (.mv (.t 12)) 78 false []),(12,oG 84 (.mv (.t 15)) 78 false []),(13,oG 85 (.ia 1 (.t 83) (.t 84)) 78 false []),(14,oG 86 (.ld 1 false (.t
85)) 78 false []),(15,oG 87 (.bsl 1 1 [.int .i64 (0)] [(0,1,(.t 86))]) 78 false [86]),(10,⟨some 82,.app 1 8 (.t 80) (.t 81),some (78,false),[(85,1)],[80,81,83,84,85]⟩),(16,oG 88 (.app 1 8 (.t 82) (.t 87)) 78 false
[82,87]),(17,oG 89 (.call 115 [.t 79,.t 88]) 78 false [79,88]),(18,oG 90 (.not (.t 89)) 78 false [89]),(19,oP 91 (.pick (.t 78) (.c (.bool true)) (.t 90)) [78,90])]) (.cond (.t 91) (sK [11,12,13,15,16,17,44,49,91] (sR
[(0,oY 10 false [])] .ret)) (sK [91] .skip)))) (.reg false [(0,oT 70 15 [15]),(1,oC 71 .add 70 1 [70]),(2,oT 15 71 [71])])))
abbrev B64 : CCode := (sR [(0,oP 5 (.box 2 (.t 0)) [0]),(1,oY 10 false [10])] (sR [(0,oT 16 3 []),(1,oT 17 4 []),(2,oI 18 2 16 17 []),(3,oF 19 0 18 [18]),(4,oL 20 1 19 [19]),(5,oT 11 20 [20])] (.seq (sR [(0,oM 21 2 5
[]),(1,oT 22 11 []),(2,oP 23 (.call 114 [.t 21,.t 22]) [5,21,22]),(3,oP 24 (.not (.t 23)) [23])] (.cond (.t 24) (sK [1,2,3,4,11,16,17,24] (sR [(0,oY 10 false [])] .ret)) (sK [24] .skip))) (.seq (sR [(0,oT 25 3 []),(1,oT
26 4 []),(2,oI 27 2 25 26 []),(3,oF 28 1 27 [27]),(4,oL 29 1 28 [25,26,28]),(5,oC 30 .eql 29 (-1) [29])] (.cond (.t 30) (sK [2,3,4,30] (sR [(0,oT 31 1 [1]),(1,oT 32 11 [11]),(2,oP 33 (.call 115 [.t 31,.t 32])
[16,17,31,32]),(3,oT 10 33 [33])] .ret)) (sK [1,30] .skip))) (.seq (sR [(0,oT 34 3 []),(1,oT 35 4 []),(2,oI 36 2 34 35 []),(3,oF 37 1 36 [36]),(4,oL 38 1 37 [34,35,37]),(5,oT 39 2 []),(6,oN 40 39 [39]),(7,oC 41 .sub 40
1 [40]),(8,oP 42 (.call 87 [.t 38,(.c (.int .i64 0)),.t 41]) [38,41]),(9,oP 43 (.not (.t 42)) [42])] (.cond (.t 43) (sK [2,3,4,11,16,17,43] (sR [(0,oY 10 false [])] .ret)) (sK [43] .skip))) (sR [(0,oT 44 2 [2]),(1,oT 45
3 []),(2,oT 46 4 []),(3,oI 47 2 45 46 []),(4,oF 48 1 47 [47]),(5,oL 49 1 48 [45,46,48]),(6,oI 50 1 44 49 []),(7,oL 51 1 50 [50]),(8,oT 12 51 [51])] (sR [(0,oP 52 (.bsl 1 0 [.nils] []) []),(1,oT 13 52 [52])] (.seq (sR
[(0,oZ 14 0 [])] (.block 0 (.loop L64_0))) (.seq (sR [(0,oZ 15 0 [])] (.block 2 (.loop L64_1))) (sR [(0,oY 10 true [])] .ret))))))))))
def C64 : CFn := ⟨92,5,[.t 10],B64⟩
abbrev L84_0 : CCode := (sR [(0,oB 19 .lss 18 17 [])] (.seq (.cond (.t 19) (sK [19] .skip) (sK [1,16,17,18,19] (.exit 0))) (.seq (.block 1 (sR [(0,oT 20 18 []),(1,oI 21 2 16 18 []),(2,oM 22 2 21 [21]),(3,oP 4 (.al [.int
.i64 (0),.nils]) []),(4,oT 3 20 [20]),(5,oS 2 4 22 [22])] (.seq (.reg true [(0,oF 23 0 1 []),(1,oL 24 1 23 [23]),(2,oM 25 2 4 []),(3,oP 26 (.call 133 [.t 24,.t 25]) [24,25]),(4,oP 27 (.not (.t 26)) [26]),(5,oT 28 27
[27]),(6,oG 29 (.mv (.t 3)) 28 false []),(7,oG 30 (.bin .gtr (.t 29) (.c (.int .i64 0))) 28 false [29]),(8,oG 31 (.mv (.t 30)) 28 false [30]),(9,oG 32 (.fa 1 (.t 1)) 31 true []),(10,oG 33 (.ld 1 false (.t 32)) 31 true
[32]),(11,oG 34 (.mv (.t 3)) 31 true [3]),(12,oG 35 (.bin .sub (.t 34) (.c (.int .i64 1))) 31 true [34]),(13,oG 36 (.ia 2 (.t 33) (.t 35)) 31 true [33]),(14,oG 37 (.ld 2 true (.t 36)) 31 true [36]),(15,oG 38 (.ld 2 true
(.t 4)) 31 true []),(16,oG 39 (.call 134 [.t 37,.t 38]) 31 true [4,35,37,38]),(17,oG 40 (.bin .geq (.t 39) (.c (.int .i64 0))) 31 true [39]),(18,oG 41 (.pick (.t 31) (.t 40) (.c (.bool false))) 28 false [31,40]),(19,oP
42 (.pick (.t 28) (.c (.bool true)) (.t 41)) [28,41])]) (.cond (.t 42) (sK [1,16,17,18,42] (sR [(0,oY 2 false [])] .ret)) (sK [42] .skip))))) (.reg false [(0,oC 43 .add 18 1 [18]),(1,oT 18 43 [43])]))))
abbrev B84 : CCode := (sR [(0,oP 1 (.box 2 (.t 0)) [0]),(1,oY 2 false [2])] (.seq (sR [(0,oF 5 0 1 []),(1,oL 6 1 5 [5]),(2,oP 7 (.call 132 [.t 6]) [6]),(3,oP 8 (.not (.t 7)) [7]),(4,oT 9 8 [8]),(5,oG 10 (.fa 1 (.t 1)) 9
false []),(6,oG 11 (.ld 1 false (.t 10)) 9 false [10]),(7,oG 12 (.len (.t 11)) 9 false [11]),(8,oG 13 (.bin .gtr (.t 12) (.c (.int .i64 14))) 9 false [12]),(9,oP 14 (.pick (.t 9) (.c (.bool true)) (.t 13)) [9,13])]
(.cond (.t 14) (sK [1,14] (sR [(0,oY 2 false [])] .ret)) (sK [14] .skip))) (.seq (sR [(0,oF 15 1 1 []),(1,oL 16 1 15 [15]),(2,oN 17 16 []),(3,oZ 18 0 [])] (.block 0 (.loop L84_0))) (sR [(0,oY 2 true [])] .ret))))
def C84 : CFn := ⟨44,1,[.t 2],B84⟩
abbrev L85_0 : CCode := (sR [(0,oB 10 .lss 9 8 [])] (.seq (.cond (.t 10) (sK [10] .skip) (sK [0,1,7,8,9,10] (.exit 0))) (.seq (.block 1 (sR [(0,oT 11 9 []),(1,oI 12 1 7 9 []),(2,oL 13 1 12 [12]),(3,oT 5 11 [11]),(4,oT 6
13 [13])] (sR [(0,oT 14 6 []),(1,oT 15 1 []),(2,oC 16 .sub 15 1 [15]),(3,oP 17 (.call 59 [.t 14,(.c (.int .i64 0)),.t 16]) [14,16]),(4,oP 18 (.not (.t 17)) [17]),(5,oT 19 18 [18]),(6,oG 20 (.mv (.t 5)) 19 false
[]),(7,oG 21 (.bin .gtr (.t 20) (.c (.int .i64 0))) 19 false [20]),(8,oG 22 (.mv (.t 21)) 19 false [21]),(9,oG 23 (.mv (.t 0)) 22 true []),(10,oG 24 (.mv (.t 5)) 22 true [5]),(11,oG 25 (.bin .sub (.t 24) (.c (.int .i64
1))) 22 true [24]),(12,oG 26 (.ia 1 (.t 23) (.t 25)) 22 true []),(13,oG 27 (.ld 1 false (.t 26)) 22 true [23,25,26]),(14,oG 28 (.mv (.t 6)) 22 true [6]),(15,oG 29 (.bin .geq (.t 27) (.t 28)) 22 true [27,28]),(16,oG 30
(.pick (.t 22) (.t 29) (.c (.bool false))) 19 false [22,29]),(17,oP 31 (.pick (.t 19) (.c (.bool true)) (.t 30)) [19,30])] (.cond (.t 31) (sK [0,1,7,8,9,31] (sR [(0,oY 4 false [])] .ret)) (sK [31] .skip))))) (.reg false
[(0,oC 32 .add 9 1 [9]),(1,oT 9 32 [32])]))))
abbrev B85 : CCode := (sR [(0,oY 4 false [4])] (.seq (sR [(0,oT 7 0 []),(1,oN 8 7 []),(2,oZ 9 0 [])] (.block 0 (.loop L85_0))) (sR [(0,oY 4 true [])] .ret)))
def C85 : CFn := ⟨33,2,[.t 4],B85⟩
abbrev B87 : CCode := (sR [(0,oY 6 false [6])] (sR [(0,oT 7 0 []),(1,oT 8 1 [1]),(2,oB 9 .geq 7 8 [7,8]),(3,oT 10 9 [9]),(4,oG 11 (.mv (.t 0)) 10 true [0]),(5,oG 12 (.mv (.t 2)) 10 true [2]),(6,oG 13 (.bin .leq (.t 11)
(.t 12)) 10 true [11,12]),(7,oP 14 (.pick (.t 10) (.t 13) (.c (.bool false))) [10,13]),(8,oT 6 14 [14])] .ret))
def C87 : CFn := ⟨15,3,[.t 6],B87⟩
abbrev B88 : CCode := (sR [(0,oP 4 (.box 2 (.t 1)) [1]),(1,oP 5 (.box 2 (.t 2)) [2]),(2,oY 6 false [6])] (.seq (.reg true [(0,oT 7 0 []),(1,oM 8 2 4 []),(2,oP 9 (.call 94 [.t 7,.t 8]) [7,8]),(3,oT 10 9 [9]),(4,oG 11
(.mv (.t 0)) 10 true []),(5,oG 12 (.ld 2 true (.t 5)) 10 true []),(6,oG 13 (.call 94 [.t 11,.t 12]) 10 true [11,12]),(7,oP 14 (.pick (.t 10) (.t 13) (.c (.bool false))) [10,13]),(8,oT 15 14 [14]),(9,oG 16 (.fa 0 (.t 4))
15 true []),(10,oG 17 (.ld 1 false (.t 16)) 15 true [16]),(11,oG 18 (.fa 0 (.t 5)) 15 true []),(12,oG 19 (.ld 1 false (.t 18)) 15 true [18]),(13,oG 20 (.bin .eql (.t 17) (.t 19)) 15 true [17,19]),(14,oP 21 (.pick (.t
15) (.t 20) (.c (.bool false))) [15,20]),(15,oT 22 21 [21]),(16,oG 23 (.mv (.t 0)) 22 true []),(17,oG 24 (.ld 2 true (.t 4)) 22 true []),(19,oG 26 (.mv (.t 0)) 22 true []),(20,oG 27 (.ld 2 true (.t 5)) 22 true
[]),(18,⟨some 25,.call 135 [.t 23,.t 24],some (22,true),[(5,2)],[4,23,24]⟩),(21,oG 28 (.call 135 [.t 26,.t 27]) 22 true [5,26,27]),(22,oG 29 (.call 90 [.t 25,.t 28]) 22 true [25,28]),(23,oG 30 (.bin .eql (.t 29) (.c
(.int .i64 0))) 22 true [29]),(24,oP 31 (.pick (.t 22) (.t 30) (.c (.bool false))) [22,30]),(25,oT 6 31 [31])]) .ret))
def C88 : CFn := ⟨32,3,[.t 6],B88⟩
abbrev L89_0 : CCode := (.seq (sR [(0,oT 6 5 []),(1,oT 7 1 []),(2,oN 8 7 [7]),(3,oB 9 .lss 6 8 [6,8])] (.cond (.t 9) (sK [9] .skip) (sK [1,2,5,9] (.exit 0)))) (.seq (.block 1 (.seq (.reg true [(0,oT 12 1 []),(1,oT 13 5
[]),(2,oI 14 1 12 13 []),(3,oL 15 1 14 [12,13,14]),(4,oF 16 1 2 []),(5,oL 17 1 16 [16]),(6,oN 18 17 [17]),(7,oC 19 .sub 18 1 [18]),(8,oP 20 (.call 87 [.t 15,(.c (.int .i64 0)),.t 19]) [15,19]),(9,oP 21 (.not (.t 20))
[20]),(10,oT 22 21 [21]),(11,oG 23 (.mv (.t 5)) 22 false []),(12,oG 24 (.bin .gtr (.t 23) (.c (.int .i64 0))) 22 false [23]),(13,oG 25 (.mv (.t 24)) 22 false [24]),(14,oG 26 (.mv (.t 1)) 25 true []),(15,oG 27 (.mv (.t
5)) 25 true []),(16,oG 28 (.ia 1 (.t 26) (.t 27)) 25 true []),(17,oG 29 (.ld 1 false (.t 28)) 25 true [26,27,28]),(18,oG 30 (.mv (.t 1)) 25 true []),(19,oG 31 (.mv (.t 5)) 25 true []),(20,oG 32 (.bin .sub (.t 31) (.c
(.int .i64 1))) 25 true [31]),(21,oG 33 (.ia 1 (.t 30) (.t 32)) 25 true []),(22,oG 34 (.ld 1 false (.t 33)) 25 true [30,32,33]),(23,oG 35 (.bin .leq (.t 29) (.t 34)) 25 true [29,34]),(24,oG 36 (.pick (.t 25) (.t 35) (.c
(.bool false))) 22 false [25,35]),(25,oP 37 (.pick (.t 22) (.c (.bool true)) (.t 36)) [22,36])]) (.cond (.t 37) (sK [1,2,5,37] (sR [(0,oY 4 false [])] .ret)) (sK [37] .skip)))) (.reg false [(0,oT 10 5 [5]),(1,oC 11 .add
10 1 [10]),(2,oT 5 11 [11])])))
abbrev B89 : CCode := (sR [(0,oP 2 (.box 2 (.t 0)) [0]),(1,oY 4 false [4])] (.seq (sR [(0,oZ 5 0 [])] (.block 0 (.loop L89_0))) (sR [(0,oY 4 true [])] .ret)))
def C89 : CFn := ⟨38,2,[.t 4],B89⟩
abbrev L90_0 : CCode := (.seq (sR [(0,oT 6 5 []),(1,oT 7 0 []),(2,oN 8 7 [7]),(3,oB 9 .lss 6 8 [6,8]),(4,oT 10 9 [9]),(5,oG 11 (.mv (.t 5)) 10 true []),(6,oG 12 (.mv (.t 1)) 10 true []),(7,oG 13 (.len (.t 12)) 10 true
[12]),(8,oG 14 (.bin .lss (.t 11) (.t 13)) 10 true [11,13]),(9,oP 15 (.pick (.t 10) (.t 14) (.c (.bool false))) [10,14])] (.cond (.t 15) (sK [15] .skip) (sK [5,15] (.exit 0)))) (.seq (.block 1 (.seq (.seq (.reg true
[(0,oT 18 0 []),(1,oT 19 5 []),(2,oI 20 1 18 19 []),(3,oL 21 1 20 [18,19,20]),(4,oT 22 1 []),(5,oT 23 5 []),(6,oI 24 1 22 23 []),(7,oL 25 1 24 [22,23,24]),(8,oB 26 .lss 21 25 [21,25])]) (.cond (.t 26) (sK [0,1,5,26] (sR
[(0,oZ 4 (-1) [])] .ret)) (sK [26] .skip))) (.seq (.reg true [(0,oT 27 0 []),(1,oT 28 5 []),(2,oI 29 1 27 28 []),(3,oL 30 1 29 [27,28,29]),(4,oT 31 1 []),(5,oT 32 5 []),(6,oI 33 1 31 32 []),(7,oL 34 1 33
[31,32,33]),(8,oB 35 .gtr 30 34 [30,34])]) (.cond (.t 35) (sK [0,1,5,35] (sR [(0,oZ 4 1 [])] .ret)) (sK [35] .skip))))) (.reg false [(0,oT 16 5 [5]),(1,oC 17 .add 16 1 [16]),(2,oT 5 17 [17])])))
abbrev B90 : CCode := (sR [(0,oZ 4 0 [4])] (.seq (sR [(0,oZ 5 0 [])] (.block 0 (.loop L90_0))) (.seq (sR [(0,oT 36 0 []),(1,oN 37 36 [36]),(2,oT 38 1 []),(3,oN 39 38 [38]),(4,oB 40 .lss 37 39 [37,39])] (.cond (.t 40)
(sK [0,1,40] (sR [(0,oZ 4 (-1) [])] .ret)) (sK [40] .skip))) (.seq (sR [(0,oT 41 0 [0]),(1,oN 42 41 [41]),(2,oT 43 1 [1]),(3,oN 44 43 [43]),(4,oB 45 .gtr 42 44 [42,44])] (.cond (.t 45) (sK [45] (sR [(0,oZ 4 1 [])]
.ret)) (sK [45] .skip))) (sR [(0,oZ 4 0 [])] .ret)))))
def C90 : CFn := ⟨46,2,[.t 4],B90⟩
abbrev L91_1 : CCode := (sR [(0,oB 74 .lss 73 72 [])] (.seq (.cond (.t 74) (sK [74] .skip) (sK [71,72,73,74] (.exit 2))) (.seq (.block 3 (sR [(0,oI 75 1 71 73 []),(1,oL 76 1 75 [75]),(2,oT 9 76 [76])] (sR [(0,oT 77 9
[9]),(1,oF 78 0 3 []),(2,oL 79 1 78 [78]),(3,oC 80 .sub 79 1 [79]),(4,oP 81 (.call 59 [.t 77,(.c (.int .i64 (-10))),.t 80]) [77,80]),(5,oP 82 (.not (.t 81)) [81])] (.cond (.t 82) (sK [0,3,5,7,36,37,38,71,72,73,82] (sR
[(0,oY 4 false [])] .ret)) (sK [82] .skip))))) (.reg false [(0,oC 83 .add 73 1 [73]),(1,oT 73 83 [83])]))))
abbrev L91_0 : CCode := (sR [(0,oB 39 .lss 38 37 [])] (.seq (.cond (.t 39) (sK [39] .skip) (sK [0,36,37,38,39] (.exit 0))) (.seq (.block 1 (sR [(0,oT 40 38 []),(1,oI 41 2 36 38 []),(2,oM 42 2 41 [41]),(3,oP 7 (.al [.int
.i64 (0),.nils]) []),(4,oT 6 40 [40]),(5,oS 2 7 42 [42])] (.seq (.seq (.reg true [(0,oF 43 0 7 []),(1,oL 44 1 43 [43]),(2,oT 45 0 []),(3,oN 46 45 [45]),(4,oC 47 .sub 46 1 [46]),(5,oP 48 (.call 59 [.t 44,(.c (.int .i64
0)),.t 47]) [44,47]),(6,oP 49 (.not (.t 48)) [48]),(7,oT 50 49 [49]),(8,oG 51 (.fa 1 (.t 7)) 50 false []),(9,oG 52 (.ld 1 false (.t 51)) 50 false [51]),(10,oG 53 (.len (.t 52)) 50 false [52]),(11,oG 54 (.mv (.t 0)) 50
false []),(12,oG 55 (.fa 0 (.t 7)) 50 false []),(13,oG 56 (.ld 1 false (.t 55)) 50 false [55]),(14,oG 57 (.ia 3 (.t 54) (.t 56)) 50 false []),(15,oG 58 (.fa 1 (.t 57)) 50 false [57]),(16,oG 59 (.ld 1 false (.t 58)) 50
false [54,56,58]),(17,oG 60 (.bin .neq (.t 53) (.t 59)) 50 false [53,59]),(18,oP 61 (.pick (.t 50) (.c (.bool true)) (.t 60)) [50,60]),(19,oT 62 61 [61]),(20,oG 63 (.fa 1 (.t 3)) 62 false []),(21,oG 64 (.ld 1 false (.t
63)) 62 false [63]),(22,oG 65 (.mv (.t 6)) 62 false [6]),(23,oG 66 (.sls 2 (.t 64) none (some (.t 65)) none) 62 false [64,65]),(24,oG 67 (.fn 137 [.t 7]) 62 false []),(25,oG 68 (.call 136 [.t 66,.t 67]) 62 false
[66,67]),(26,oP 69 (.pick (.t 62) (.c (.bool true)) (.t 68)) [62,68])]) (.cond (.t 69) (sK [0,3,5,7,36,37,38,69] (sR [(0,oY 4 false [])] .ret)) (sK [69] .skip))) (.seq (sR [(0,oF 70 1 7 []),(1,oL 71 1 70 [70]),(2,oN 72
71 []),(3,oZ 73 0 [])] (.block 2 (.loop L91_1))) (.reg false [(0,oT 84 5 [5]),(1,oM 85 2 7 []),(2,oP 86 (.call 138 [.t 85]) [7,85]),(3,oP 87 (.call 92 [.t 84,.t 86]) [84,86]),(4,oT 5 87 [87])]))))) (.reg false [(0,oC 88
.add 38 1 [38]),(1,oT 38 88 [88])]))))
abbrev B91 : CCode := (sR [(0,oP 3 (.box 3 (.t 1)) [1]),(1,oY 4 false [4])] (.seq (sR [(0,oT 10 0 []),(1,oP 11 (.call 132 [.t 10]) [10]),(2,oP 12 (.not (.t 11)) [11]),(3,oT 13 12 [12]),(4,oG 14 (.fa 0 (.t 3)) 13 false
[]),(5,oG 15 (.ld 1 false (.t 14)) 13 false [14]),(6,oG 16 (.call 59 [.t 15,(.c (.int .i64 0)),(.c (.int .i64 4))]) 13 false [15]),(7,oG 17 (.not (.t 16)) 13 false [16]),(8,oP 18 (.pick (.t 13) (.c (.bool true)) (.t
17)) [13,17]),(9,oT 19 18 [18]),(10,oG 20 (.fa 1 (.t 3)) 19 false []),(11,oG 21 (.ld 1 false (.t 20)) 19 false [20]),(12,oG 22 (.len (.t 21)) 19 false [21]),(13,oG 23 (.call 59 [.t 22,(.c (.int .i64 1)),(.c (.int .i64
3))]) 19 false [22]),(14,oG 24 (.not (.t 23)) 19 false [23]),(15,oP 25 (.pick (.t 19) (.c (.bool true)) (.t 24)) [19,24]),(16,oT 26 25 [25]),(17,oG 27 (.fa 2 (.t 3)) 26 false []),(18,oG 28 (.ld 1 false (.t 27)) 26 false
[27]),(19,oG 29 (.fa 0 (.t 3)) 26 false []),(20,oG 30 (.ld 1 false (.t 29)) 26 false [29]),(21,oG 31 (.call 85 [.t 28,.t 30]) 26 false [28,30]),(22,oG 32 (.not (.t 31)) 26 false [31]),(23,oP 33 (.pick (.t 26) (.c (.bool
true)) (.t 32)) [26,32])] (.cond (.t 33) (sK [0,3,33] (sR [(0,oY 4 false [])] .ret)) (sK [33] .skip))) (sR [(0,oP 34 (.bsl 1 0 [.int .i64 (0)] []) []),(1,oT 5 34 [34])] (.seq (sR [(0,oF 35 1 3 []),(1,oL 36 1 35
[35]),(2,oN 37 36 []),(3,oZ 38 0 [])] (.block 0 (.loop L91_0))) (sR [(0,oT 89 5 [5]),(1,oN 90 89 [89]),(2,oF 91 0 3 []),(3,oL 92 1 91 [3,91]),(4,oB 93 .eql 90 92 [90,92]),(5,oT 4 93 [93])] .ret)))))
def C91 : CFn := ⟨94,2,[.t 4],B91⟩
abbrev B92 : CCode := (sR [(0,oP 4 (.mv (.c (.nils))) [4])] (sR [(0,oT 6 0 [0]),(1,oT 7 1 [1]),(2,oP 8 (.bsl 1 2 [.nils] [(0,1,(.t 6)),(1,1,(.t 7))]) [6,7]),(3,oP 9 (.call 139 [.t 8]) [8]),(4,oT 5 9 [9])] (sR [(0,oT 10
5 []),(1,oP 11 (.call 107 [.t 10]) [10,11])] (sR [(0,oT 12 5 [5]),(1,oP 13 (.call 140 [.t 12]) [12]),(2,oT 4 13 [13])] .ret))))
def C92 : CFn := ⟨14,2,[.t 4],B92⟩
abbrev L93_0 : CCode := (sR [(0,oB 9 .lss 8 7 [])] (.seq (.cond (.t 9) (sK [9] .skip) (sK [0,1,7,8,9] (.exit 0))) (.seq (.block 1 (sR [(0,oT 10 8 []),(1,oT 5 10 [10])] (sR [(0,oT 11 1 []),(1,oT 12 0 []),(2,oT 13 5
[]),(3,oI 14 1 12 13 []),(4,oL 15 1 14 [12,13,14]),(5,oB 16 .eql 11 15 [11,15])] (.cond (.t 16) (sK [0,1,7,8,16] (sR [(0,oT 17 5 [5]),(1,oT 4 17 [17])] .ret)) (sK [5,16] .skip))))) (.reg false [(0,oC 18 .add 8 1
[8]),(1,oT 8 18 [18])]))))
abbrev B93 : CCode := (sR [(0,oZ 4 0 [4])] (.seq (sR [(0,oT 6 0 []),(1,oN 7 6 [6]),(2,oZ 8 0 [])] (.block 0 (.loop L93_0))) (sR [(0,oZ 4 (-1) [])] .ret)))
def C93 : CFn := ⟨19,2,[.t 4],B93⟩
abbrev L94_0 : CCode := (.seq (sR [(0,oT 30 5 []),(1,oF 31 1 3 []),(2,oL 32 1 31 [31]),(3,oN 33 32 [32]),(4,oB 34 .lss 30 33 [30,33])] (.cond (.t 34) (sK [34] .skip) (sK [3,5,34] (.exit 0)))) (.seq (.block 1 (sR [(0,oF
37 1 3 []),(1,oL 38 1 37 [37]),(2,oT 39 5 []),(3,oI 40 1 38 39 [38]),(4,oL 41 1 40 [39,40]),(5,oP 42 (.call 87 [.t 41,(.c (.int .i64 0)),(.c (.int .i64 9))]) [41]),(6,oP 43 (.not (.t 42)) [42])] (.cond (.t 43) (sK
[3,5,43] (sR [(0,oY 4 false [])] .ret)) (sK [43] .skip)))) (.reg false [(0,oT 35 5 [5]),(1,oC 36 .add 35 1 [35]),(2,oT 5 36 [36])])))
abbrev B94 : CCode := (sR [(0,oP 3 (.box 2 (.t 1)) [1]),(1,oY 4 false [4])] (.seq (.seq (.reg true [(0,oT 6 0 []),(1,oP 7 (.call 95 [.t 6]) [6]),(2,oP 8 (.not (.t 7)) [7]),(3,oT 9 8 [8]),(4,oG 10 (.fa 0 (.t 3)) 9 false
[]),(5,oG 11 (.ld 1 false (.t 10)) 9 false [10]),(6,oG 12 (.mv (.t 0)) 9 false []),(7,oG 13 (.len (.t 12)) 9 false [12]),(8,oG 14 (.bin .sub (.t 13) (.c (.int .i64 1))) 9 false [13]),(9,oG 15 (.call 87 [.t 11,(.c (.int
.i64 0)),.t 14]) 9 false [11,14]),(10,oG 16 (.not (.t 15)) 9 false [15]),(11,oP 17 (.pick (.t 9) (.c (.bool true)) (.t 16)) [9,16]),(12,oT 18 17 [17]),(13,oG 19 (.fa 1 (.t 3)) 18 false []),(14,oG 20 (.ld 1 false (.t
19)) 18 false [19]),(15,oG 21 (.len (.t 20)) 18 false [20]),(16,oG 22 (.mv (.t 0)) 18 false [0]),(17,oG 23 (.fa 0 (.t 3)) 18 false []),(18,oG 24 (.ld 1 false (.t 23)) 18 false [23]),(19,oG 25 (.ia 3 (.t 22) (.t 24)) 18
false []),(20,oG 26 (.fa 1 (.t 25)) 18 false [25]),(21,oG 27 (.ld 1 false (.t 26)) 18 false [22,24,26]),(22,oG 28 (.bin .neq (.t 21) (.t 27)) 18 false [21,27]),(23,oP 29 (.pick (.t 18) (.c (.bool true)) (.t 28))
[18,28])]) (.cond (.t 29) (sK [3,29] (sR [(0,oY 4 false [])] .ret)) (sK [29] .skip))) (.seq (sR [(0,oZ 5 0 [])] (.block 0 (.loop L94_0))) (sR [(0,oY 4 true [])] .ret))))
def C94 : CFn := ⟨44,2,[.t 4],B94⟩
abbrev L95_0 : CCode := (.seq (sR [(0,oT 4 3 []),(1,oT 5 0 []),(2,oN 6 5 [5]),(3,oB 7 .lss 4 6 [4,6])] (.cond (.t 7) (sK [7] .skip) (sK [3,7] (.exit 0)))) (.seq (.block 1 (.seq (.reg true [(0,oT 10 0 []),(1,oT 11 3
[]),(2,oI 12 3 10 11 []),(3,oM 13 3 12 [12]),(4,oP 14 (.call 141 [.t 13]) [10,11,13]),(5,oP 15 (.not (.t 14)) [14]),(6,oT 16 15 [15]),(7,oG 17 (.mv (.t 3)) 16 false []),(8,oG 18 (.bin .gtr (.t 17) (.c (.int .i64 0))) 16
false [17]),(9,oG 19 (.mv (.t 18)) 16 false [18]),(10,oG 20 (.mv (.t 0)) 19 true []),(11,oG 21 (.mv (.t 3)) 19 true []),(12,oG 22 (.bin .sub (.t 21) (.c (.int .i64 1))) 19 true [21]),(13,oG 23 (.ia 3 (.t 20) (.t 22)) 19
true []),(14,oG 24 (.fa 0 (.t 23)) 19 true [23]),(15,oG 25 (.ld 1 false (.t 24)) 19 true [20,22,24]),(16,oG 26 (.mv (.t 0)) 19 true []),(17,oG 27 (.mv (.t 3)) 19 true []),(18,oG 28 (.ia 3 (.t 26) (.t 27)) 19 true
[]),(19,oG 29 (.fa 0 (.t 28)) 19 true [28]),(20,oG 30 (.ld 1 false (.t 29)) 19 true [26,27,29]),(21,oG 31 (.bin .geq (.t 25) (.t 30)) 19 true [25,30]),(22,oG 32 (.pick (.t 19) (.t 31) (.c (.bool false))) 16 false
[19,31]),(23,oP 33 (.pick (.t 16) (.c (.bool true)) (.t 32)) [16,32])]) (.cond (.t 33) (sK [0,3,33] (sR [(0,oY 2 false [])] .ret)) (sK [33] .skip)))) (.reg false [(0,oT 8 3 [3]),(1,oC 9 .add 8 1 [8]),(2,oT 3 9 [9])])))
abbrev B95 : CCode := (sR [(0,oY 2 false [2])] (.seq (sR [(0,oZ 3 0 [])] (.block 0 (.loop L95_0))) (sR [(0,oT 34 0 [0]),(1,oN 35 34 [34]),(2,oC 36 .leq 35 4 [35]),(3,oT 2 36 [36])] .ret)))
def C95 : CFn := ⟨37,1,[.t 2],B95⟩
abbrev L97_0 : CCode := (sR [(0,oB 9 .lss 8 7 [])] (.seq (.cond (.t 9) (sK [9] .skip) (sK [6,7,8,9] (.exit 0))) (.seq (.block 1 (sR [(0,oI 10 1 6 8 []),(1,oL 11 1 10 [10]),(2,oT 5 11 [11])] (.reg false [(0,oT 12 3
[3]),(1,oT 13 5 [5]),(2,oN 14 13 [13]),(3,oB 15 .mul 12 14 [12,14]),(4,oT 3 15 [15])]))) (.reg false [(0,oC 16 .add 8 1 [8]),(1,oT 8 16 [16])]))))
abbrev B97 : CCode := (sR [(0,oZ 2 0 [2])] (sR [(0,oZ 3 1 [])] (.seq (sR [(0,oT 6 0 [0]),(1,oN 7 6 []),(2,oZ 8 0 [])] (.block 0 (.loop L97_0))) (sR [(0,oT 17 3 [3]),(1,oT 2 17 [17])] .ret))))
def C97 : CFn := ⟨18,1,[.t 2],B97⟩
abbrev L98_0 : CCode := (.seq (sR [(0,oT 13 6 []),(1,oC 14 .geq 13 0 [13])] (.cond (.t 14) (sK [14] .skip) (sK [0,1,6,14] (.exit 0)))) (.seq (.block 1 (.seq (.reg true [(0,oT 17 5 []),(1,oT 18 6 []),(2,oT 19 0 []),(3,oT
20 6 []),(4,oI 21 1 19 20 []),(5,oL 22 1 21 [21]),(6,oT 23 1 []),(7,oT 24 0 []),(8,oT 25 6 []),(9,oI 26 1 24 25 []),(10,oL 27 1 26 [26]),(11,oN 28 27 [24,25,27]),(12,oB 29 .rem 23 28 [23,28]),(13,oI 30 1 22 29
[22]),(14,oL 31 1 30 [19,20,29,30]),(15,oI 32 1 17 18 []),(16,oS 1 32 31 [17,18,31,32])]) (.reg false [(0,oT 33 1 [1]),(1,oT 34 0 []),(2,oT 35 6 []),(3,oI 36 1 34 35 []),(4,oL 37 1 36 [36]),(5,oN 38 37 [34,35,37]),(6,oB
39 .quo 33 38 [33,38]),(7,oT 1 39 [39])]))) (.reg false [(0,oT 15 6 [6]),(1,oC 16 .sub 15 1 [15]),(2,oT 6 16 [16])])))
abbrev B98 : CCode := (sR [(0,oP 4 (.mv (.c (.nils))) [4])] (sR [(0,oT 7 0 []),(1,oN 8 7 [7]),(2,oP 9 (.mk 1 8 [.int .i64 (0)] (.t 8) (.t 8)) [8]),(3,oT 5 9 [9])] (.seq (sR [(0,oT 10 0 []),(1,oN 11 10 [10]),(2,oC 12
.sub 11 1 [11]),(3,oT 6 12 [12])] (.block 0 (.loop L98_0))) (sR [(0,oT 40 5 [5]),(1,oT 4 40 [40])] .ret))))
def C98 : CFn := ⟨41,2,[.t 4],B98⟩
abbrev B99 : CCode := (sR [(0,oY 4 false [4])] (sR [(0,oT 5 0 [0]),(1,oT 6 1 [1]),(2,oP 7 (.call 145 [.t 5,.t 6]) [5,6]),(3,oC 8 .geq 7 0 [7]),(4,oT 4 8 [8])] .ret))
def C99 : CFn := ⟨9,2,[.t 4],B99⟩
abbrev B100 : CCode := (sR [(0,oY 3 false [3])] (sR [(0,oT 4 0 [0]),(1,oL 5 1 1 []),(2,oP 6 (.call 101 [.t 4,.t 5]) [1,4,5]),(3,oT 3 6 [6])] .ret))
def C100 : CFn := ⟨7,2,[.t 3],B100⟩
abbrev B101 : CCode := (sR [(0,oP 3 (.box 1 (.t 1)) [1]),(1,oY 4 false [4])] (sR [(0,oT 5 0 [0]),(1,oP 6 (.fn 147 [.t 3]) []),(2,oP 7 (.call 146 [.t 5,.t 6]) [3,5,6]),(3,oP 8 (.not (.t 7)) [7]),(4,oT 4 8 [8])] .ret))
def C101 : CFn := ⟨9,2,[.t 4],B101⟩
abbrev B102 : CCode := (sR [(0,oP 2 (.mv (.c (.nilp))) [2]),(1,oP 3 (.al [.nils,.nils]) []),(2,oP 4 (.al [.int .i64 (0),.nils,.nils]) [])] (sR [(0,oT 8 0 [0]),(1,oP 9 (.call 127 [.t 8]) [8]),(2,oT 5 9 [9])] (sR [(0,oT
10 5 []),(1,oP 11 (.call 148 [.t 10]) [10]),(2,oP 6 (.al [.nils,.nils]) []),(3,oS 2 6 11 [11])] (sR [(0,oT 12 5 []),(1,oF 13 0 6 []),(2,oL 14 1 13 [13]),(3,oP 15 (.call 129 [.t 12,.t 14]) [12,14]),(4,oP 7 (.al [.int
.i64 (0),.nils,.nils]) []),(5,oS 3 7 15 [15])] (.seq (sR [(0,oT 16 5 []),(1,oP 17 (.call 149 [.t 16,(.c (.int .i64 20))]) [16])] (.cond (.t 17) (sK [17] (.reg false [(0,oT 18 5 []),(1,oF 19 0 6 []),(2,oL 20 1 19
[19]),(3,oP 21 (.call 131 [.t 18,.t 20]) [18,20]),(4,oS 3 7 21 [21])])) (sK [17] .skip))) (.seq (.reg true [(0,oT 22 5 [5]),(1,oM 23 2 6 []),(2,oM 24 3 7 []),(3,oT 2 22 [22]),(4,⟨none,.st 2 (.t 3) (.t
23),none,[(7,3)],[6,23]⟩),(5,oS 3 4 24 [7,24])]) .ret))))))
def C102 : CFn := ⟨25,1,[.t 2,.m 3 2 true,.m 4 3 true],B102⟩
abbrev L103_0 : CCode := (.seq (sR [(0,oT 26 10 []),(1,oT 27 7 []),(2,oN 28 27 [27]),(3,oB 29 .lss 26 28 [26,28])] (.cond (.t 29) (sK [29] .skip) (sK [7,8,9,10,29] (.exit 0)))) (.seq (.block 1 (sR [(0,oZ 11 (-1) [])]
(.seq (sR [(0,oT 32 8 []),(1,oT 33 7 []),(2,oT 34 10 []),(3,oI 35 1 33 34 []),(4,oL 36 1 35 [35]),(5,oP 37 (.call 115 [.t 32,.t 36]) [32,33,34,36]),(6,oP 38 (.not (.t 37)) [37])] (.cond (.t 38) (sK [11,38] (.reg true
[(0,oT 39 7 []),(1,oT 40 10 []),(2,oP 41 (.sls 1 (.t 39) none (some (.t 40)) none) [39,40]),(3,oT 42 9 []),(4,oT 43 7 []),(5,oT 44 10 []),(6,oI 45 1 43 44 []),(7,oL 46 1 45 [45]),(8,oP 47 (.call 152 [.t 41,.t 42,.t 46])
[41,42,43,44,46]),(9,oT 11 47 [47])])) (sK [38] .skip))) (sR [(0,oT 48 6 [6]),(1,oP 49 (.bsl 1 0 [.int .i64 (0)] []) []),(2,oT 50 7 []),(3,oT 51 10 []),(4,oI 52 1 50 51 []),(5,oL 53 1 52 [52]),(6,oP 54 (.app 1 8 (.t 49)
(.t 53)) [49,50,51,53]),(7,oT 55 11 [11]),(8,oP 56 (.bld [.nils,.int .i64 (0)] [(0,1,(.t 54)),(1,1,(.t 55))]) [54,55]),(9,oP 57 (.bsl 2 1 [.nils,.int .i64 (0)] [(0,2,(.t 56))]) [56]),(10,oP 58 (.app 2 32 (.t 48) (.t
57)) [48,57]),(11,oT 6 58 [58])] (sR [(0,oT 59 7 []),(1,oT 60 10 []),(2,oI 61 1 59 60 []),(3,oL 62 1 61 [61]),(4,oN 63 62 [59,60,62]),(5,oC 64 .eql 63 0 [63])] (.cond (.t 64) (sK [7,8,9,10,64] (sR [(0,oT 65 6 [6]),(1,oT
4 65 [65]),(2,oY 5 true [])] .ret)) (sK [64] .skip))))))) (.reg false [(0,oT 30 10 [10]),(1,oC 31 .add 30 1 [30]),(2,oT 10 31 [31])])))
abbrev B103 : CCode := (sR [(0,oP 2 (.box 2 (.t 0)) [0]),(1,oP 3 (.box 3 (.t 1)) [1]),(2,oP 4 (.mv (.c (.nils))) [4]),(3,oY 5 false [5])] (sR [(0,oP 12 (.bsl 2 0 [.nils,.int .i64 (0)] []) []),(1,oT 6 12 [12])] (.seq (sR
[(0,oM 13 2 2 []),(1,oM 14 3 3 []),(2,oP 15 (.call 150 [.t 13,.t 14]) [13,14]),(3,oP 16 (.not (.t 15)) [15])] (.cond (.t 16) (sK [2,3,16] (sR [(0,oT 17 6 [6]),(1,oT 4 17 [17]),(2,oY 5 false [])] .ret)) (sK [16] .skip)))
(sR [(0,oM 18 2 2 []),(1,oM 19 3 3 []),(2,oP 20 (.call 151 [.t 18,.t 19]) [18,19]),(3,oT 7 20 [20])] (sR [(0,oM 21 2 2 []),(1,oM 22 3 3 []),(2,oP 23 (.call 62 [.t 21,.t 22]) [3,21,22]),(3,oT 8 23 [23])] (sR [(0,oM 24 2
2 []),(1,oP 25 (.call 63 [.t 24]) [2,24]),(2,oT 9 25 [25])] (.seq (sR [(0,oZ 10 0 [])] (.block 0 (.loop L103_0))) (sR [(0,oT 66 6 [6]),(1,oT 4 66 [66]),(2,oY 5 false [])] .ret))))))))
def C103 : CFn := ⟨67,2,[.t 4,.t 5],B103⟩
abbrev L104_0 : CCode := (.seq (sR [(0,oT 10 8 []),(1,oT 11 1 []),(2,oB 12 .lss 10 11 [10,11])] (.cond (.t 12) (sK [12] .skip) (sK [2,8,12] (.exit 0)))) (.seq (.block 1 (sR [(0,oT 15 0 []),(1,oP 16 (.call 149 [.t 15,(.c
(.int .i64 2))]) [15]),(2,oT 17 16 [16]),(3,oG 18 (.mv (.t 0)) 17 true []),(4,oG 19 (.call 149 [.t 18,(.c (.int .i64 8))]) 17 true [18]),(5,oG 20 (.mv (.t 19)) 17 true [19]),(6,oG 21 (.mv (.t 2)) 20 false []),(7,oG 22
(.mv (.t 7)) 20 false []),(8,oG 23 (.mv (.t 8)) 20 false []),(9,oG 24 (.call 153 [.t 21,.t 22,.t 23]) 20 false [21,22,23]),(10,oG 25 (.pick (.t 20) (.c (.bool true)) (.t 24)) 17 true [20,24]),(11,oP 26 (.pick (.t 17)
(.t 25) (.c (.bool false))) [17,25])] (.cond (.t 26) (sK [26] (.reg false [(0,oT 27 7 [7]),(1,oT 28 8 []),(2,oP 29 (.bsl 1 1 [.int .i64 (0)] [(0,1,(.t 28))]) [28]),(3,oP 30 (.app 1 8 (.t 27) (.t 29)) [27,29]),(4,oT 7 30
[30])])) (sK [26] .skip)))) (.reg false [(0,oT 13 8 [8]),(1,oC 14 .add 13 1 [13]),(2,oT 8 14 [14])])))
abbrev B104 : CCode := (sR [(0,oP 6 (.mv (.c (.nils))) [6])] (sR [(0,oP 9 (.bsl 1 0 [.int .i64 (0)] []) []),(1,oT 7 9 [9])] (.seq (sR [(0,oZ 8 0 [])] (.block 0 (.loop L104_0))) (.seq (sR [(0,oT 31 0 []),(1,oP 32 (.call
149 [.t 31,(.c (.int .i64 12))]) [31])] (.cond (.t 32) (sK [32] (sR [(0,oT 33 7 [7]),(1,oT 34 1 [1]),(2,oP 35 (.bsl 1 1 [.int .i64 (0)] [(0,1,(.t 34))]) [34]),(3,oP 36 (.app 1 8 (.t 33) (.t 35)) [33,35]),(4,oT 6 36
[36])] .ret)) (sK [1,32] .skip))) (sR [(0,oT 37 7 [7]),(1,oT 6 37 [37])] .ret)))))
def C104 : CFn := ⟨38,3,[.t 6],B104⟩
abbrev B105 : CCode := (sR [(0,oZ 4 0 [4])] (.seq (sR [(0,oT 9 1 []),(1,oC 10 .leq 9 0 [9])] (.cond (.t 10) (sK [1,10] (sR [(0,oZ 4 0 [])] .ret)) (sK [10] .skip))) (.seq (sR [(0,oT 11 1 []),(1,oC 12 .leq 11 256 [11])]
(.cond (.t 12) (sK [12] (sR [(0,oT 13 0 []),(1,oP 14 (.call 154 [.t 13]) [13]),(2,oT 15 1 [1]),(3,oB 16 .rem 14 15 [14,15]),(4,oT 4 16 [16])] .ret)) (sK [12] .skip))) (sR [(0,oT 17 0 []),(1,oP 18 (.call 154 [.t 17])
[17]),(2,oT 5 18 [18])] (sR [(0,oT 19 0 []),(1,oP 20 (.call 154 [.t 19]) [19]),(2,oT 6 20 [20])] (sR [(0,oT 21 0 []),(1,oP 22 (.call 154 [.t 21]) [21]),(2,oT 7 22 [22])] (sR [(0,oT 23 0 []),(1,oP 24 (.call 154 [.t 23])
[23]),(2,oT 8 24 [24])] (sR [(0,oT 25 5 [5]),(1,oC 26 .mul 25 16777216 [25]),(2,oT 27 6 [6]),(3,oC 28 .mul 27 65536 [27]),(4,oB 29 .add 26 28 [26,28]),(5,oT 30 7 [7]),(6,oC 31 .mul 30 256 [30]),(7,oB 32 .add 29 31
[29,31]),(8,oT 33 8 [8]),(9,oB 34 .add 32 33 [32,33]),(10,oT 35 1 [1]),(11,oB 36 .rem 34 35 [34,35]),(12,oT 4 36 [36])] .ret))))))))
def C105 : CFn := ⟨37,2,[.t 4],B105⟩
abbrev B106 : CCode := (sR [(0,oP 2 (.box 2 (.t 0)) [0]),(1,oP 3 (.box 3 (.t 1)) [1]),(2,oP 4 (.mv (.c (.nils))) [4])] (sR [(0,oP 7 (.bsl 2 0 [.nils,.nils] []) []),(1,oP 5 (.al [.nils]) []),(2,oS 1 5 7 [7])] (.seq (sR
[(0,oM 8 2 2 []),(1,oM 9 3 3 []),(2,oP 10 (.call 45 [.t 8,.t 9]) [8,9]),(3,oP 11 (.not (.t 10)) [10])] (.cond (.t 11) (sK [2,3,11] (sR [(0,oL 12 1 5 []),(1,oT 4 12 [12])] .ret)) (sK [11] .skip))) (sR [(0,oP 6 (.al
[.nilf]) [])] (sR [(0,oP 13 (.fn 155 [.t 3,.t 5,.t 2,.t 6]) []),(1,oS 1 6 13 [13])] (.seq (.reg true [(0,oL 14 1 6 []),(1,oF 15 0 3 []),(2,oL 16 1 15 [15]),(3,⟨some 17,.call 158 [.t 16],none,[(6,1)],[16]⟩),(4,oP 18
(.callv (.t 14) [.t 17,(.c (.nils))]) [2,3,6,14,17,18])]) (sR [(0,oL 19 1 5 []),(1,oT 4 19 [19])] .ret)))))))
def C106 : CFn := ⟨20,2,[.t 4],B106⟩
abbrev B108 : CCode := (sR [(0,oP 4 (.box 2 (.t 1)) [1]),(1,oP 5 (.box 2 (.t 2)) [2]),(2,oY 6 false [6])] (.seq (sR [(0,oF 8 0 4 []),(1,oL 9 1 8 [8]),(2,oF 10 0 5 []),(3,oL 11 1 10 [10]),(4,oB 12 .neq 9 11 [9,11])]
(.cond (.t 12) (sK [0,4,5,12] (sR [(0,oY 6 false [])] .ret)) (sK [12] .skip))) (sR [(0,oT 13 0 [0]),(1,oF 14 0 4 []),(2,oL 15 1 14 [14]),(3,oI 16 3 13 15 []),(4,oF 17 2 16 [16]),(5,oL 18 1 17 [13,15,17]),(6,oT 7 18
[18])] (.seq (.reg true [(0,oF 19 1 4 []),(1,oL 20 1 19 [19]),(2,oT 21 7 []),(3,oP 22 (.sls 1 (.t 20) none (some (.t 21)) none) [4,20,21]),(4,oF 23 1 5 []),(5,oL 24 1 23 [23]),(6,oT 25 7 [7]),(7,oP 26 (.sls 1 (.t 24)
none (some (.t 25)) none) [5,24,25]),(8,oP 27 (.call 161 [.t 22,.t 26]) [22,26]),(9,oT 6 27 [27])]) .ret))))
def C108 : CFn := ⟨28,3,[.t 6],B108⟩
abbrev B109 : CCode := (sR [(0,oP 1 (.box 2 (.t 0)) [0]),(1,oY 2 false [2])] (.seq (.reg true [(0,oM 3 2 1 []),(1,oP 4 (.call 84 [.t 3]) [3]),(2,oT 5 4 [4]),(3,oG 6 (.ld 2 true (.t 1)) 5 true []),(6,oG 9 (.fa 1 (.t 1))
5 true []),(7,oG 10 (.ld 1 false (.t 9)) 5 true []),(8,oG 11 (.len (.t 10)) 5 true [10]),(4,⟨some 7,.call 56 [.t 6],some (5,true),[(9,1)],[1,6,9]⟩),(5,oG 8 (.len (.t 7)) 5 true [7]),(9,oG 12 (.bin .eql (.t 8) (.t 11)) 5
true [8,11]),(10,oP 13 (.pick (.t 5) (.t 12) (.c (.bool false))) [5,12]),(11,oT 2 13 [13])]) .ret))
def C109 : CFn := ⟨14,1,[.t 2],B109⟩
abbrev B110 : CCode := (sR [(0,oY 3 false [3])] (sR [(0,oT 4 0 [0]),(1,oL 5 1 1 []),(2,oP 6 (.call 101 [.t 4,.t 5]) [1,4,5]),(3,oT 3 6 [6])] .ret))
def C110 : CFn := ⟨7,2,[.t 3],B110⟩
abbrev B111 : CCode := (sR [(0,oP 4 (.mv (.c (.nils))) [4])] (sR [(0,oT 5 0 [0]),(1,oT 6 1 [1]),(2,oP 7 (.bsl 1 1 [.int .i64 (0)] [(0,1,(.t 6))]) [6]),(3,oP 8 (.call 92 [.t 5,.t 7]) [5,7]),(4,oT 4 8 [8])] .ret))
def C111 : CFn := ⟨9,2,[.t 4],B111⟩
abbrev B112 : CCode := (sR [(0,oP 2 (.box 2 (.t 0)) [0]),(1,oP 3 (.box 3 (.t 1)) [1]),(2,oP 4 (.mv (.c (.nils))) [4])] (.seq (sR [(0,oM 5 2 2 []),(1,oM 6 3 3 []),(2,oP 7 (.call 18 [.t 5,.t 6]) [5,6]),(3,oP 8 (.not (.t
7)) [7])] (.cond (.t 8) (sK [2,3,8] (sR [(0,oP 9 (.bsl 2 0 [.nils,.nils] []) []),(1,oT 4 9 [9])] .ret)) (sK [8] .skip))) (.seq (.reg true [(0,oM 10 2 2 []),(1,oM 11 3 3 []),(2,oF 12 0 3 []),(3,oL 13 1 12 [12]),(5,oP 15
(.bsl 1 0 [.int .i64 (0)] []) []),(4,⟨some 14,.call 163 [.t 13],none,[(2,2),(3,3)],[13]⟩),(6,oP 16 (.call 162 [.t 10,.t 11,(.c (.int .i64 0)),.t 14,.t 15]) [2,3,10,11,14,15]),(7,oT 4 16 [16])]) .ret)))
def C112 : CFn := ⟨17,2,[.t 4],B112⟩
abbrev L113_1 : CCode := (.seq (.seq (.reg true [(0,oT 15 5 []),(1,oC 16 .gtr 15 0 [15]),(2,oT 17 16 [16]),(3,oG 18 (.mv (.t 3)) 17 true []),(4,oG 19 (.mv (.t 5)) 17 true []),(5,oG 20 (.bin .sub (.t 19) (.c (.int .i64
1))) 17 true [19]),(6,oG 21 (.ia 1 (.t 18) (.t 20)) 17 true []),(7,oG 22 (.ld 1 false (.t 21)) 17 true [18,20,21]),(8,oG 23 (.mv (.t 0)) 17 true []),(9,oG 24 (.mv (.t 4)) 17 true []),(10,oG 25 (.ia 1 (.t 23) (.t 24)) 17
true []),(11,oG 26 (.ld 1 false (.t 25)) 17 true [23,24,25]),(12,oG 27 (.bin .gtr (.t 22) (.t 26)) 17 true [22,26]),(13,oP 28 (.pick (.t 17) (.t 27) (.c (.bool false))) [17,27])]) (.cond (.t 28) (sK [28] .skip) (sK [28]
(.exit 2)))) (.block 3 (.reg false [(0,oT 29 5 [5]),(1,oC 30 .sub 29 1 [29]),(2,oT 5 30 [30])])))
abbrev L113_0 : CCode := (.seq (sR [(0,oT 7 4 []),(1,oT 8 0 []),(2,oN 9 8 [8]),(3,oB 10 .lss 7 9 [7,9])] (.cond (.t 10) (sK [10] .skip) (sK [0,4,10] (.exit 0)))) (.seq (.block 1 (sR [(0,oT 13 3 []),(1,oN 14 13
[13]),(2,oT 5 14 [14])] (.seq (.block 2 (.loop L113_1)) (.reg true [(0,oP 31 (.bsl 1 0 [.int .i64 (0)] []) []),(1,oT 32 3 []),(2,oT 33 5 []),(3,oP 34 (.sls 1 (.t 32) none (some (.t 33)) none) [32,33]),(5,oT 36 0
[]),(6,oT 37 4 []),(7,oI 38 1 36 37 []),(8,oL 39 1 38 []),(9,oP 40 (.bsl 1 1 [.int .i64 (0)] [(0,1,(.t 39))]) [39]),(11,oT 42 3 [3]),(12,oT 43 5 [5]),(13,oP 44 (.sls 1 (.t 42) (some (.t 43)) none none) [42,43]),(4,⟨some
35,.app 1 8 (.t 31) (.t 34),none,[(38,1)],[31,34,36,37,38]⟩),(10,oP 41 (.app 1 8 (.t 35) (.t 40)) [35,40]),(14,oP 45 (.app 1 8 (.t 41) (.t 44)) [41,44]),(15,oT 3 45 [45])])))) (.reg false [(0,oT 11 4 [4]),(1,oC 12 .add
11 1 [11]),(2,oT 4 12 [12])])))
abbrev B113 : CCode := (sR [(0,oP 2 (.mv (.c (.nils))) [2])] (sR [(0,oP 6 (.bsl 1 0 [.int .i64 (0)] []) []),(1,oT 3 6 [6])] (.seq (sR [(0,oZ 4 0 [])] (.block 0 (.loop L113_0))) (sR [(0,oT 46 3 [3]),(1,oT 2 46 [46])]
.ret))))
def C113 : CFn := ⟨47,1,[.t 2],B113⟩
abbrev B114 : CCode := (sR [(0,oP 2 (.box 2 (.t 0)) [0]),(1,oY 4 false [4])] (sR [(0,oM 8 2 2 []),(1,oT 9 1 [1]),(2,oP 10 (.call 43 [.t 8,.t 9]) [2,8,9]),(3,oT 7 10 [10]),(4,oP 11 (.ex (.t 7) 0) []),(5,oP 12 (.ex (.t 7)
1) [7]),(6,oP 5 (.al [.nils,.nils]) []),(7,oS 2 5 11 [11]),(8,oT 6 12 [12])] (sR [(0,oT 13 6 [6]),(1,oT 14 13 [13]),(2,oG 15 (.ld 2 true (.t 5)) 14 true []),(3,oG 16 (.call 164 [.t 15]) 14 true [5,15]),(4,oP 17 (.pick
(.t 14) (.t 16) (.c (.bool false))) [14,16]),(5,oT 4 17 [17])] .ret)))
def C114 : CFn := ⟨18,2,[.t 4],B114⟩
abbrev B115 : CCode := (sR [(0,oY 4 false [4])] (sR [(0,oT 5 0 [0]),(1,oT 6 1 [1]),(2,oP 7 (.call 144 [.t 5,.t 6]) [5,6]),(3,oT 4 7 [7])] .ret))
def C115 : CFn := ⟨8,2,[.t 4],B115⟩
abbrev L127_0 : CCode := (.seq (sR [(0,oT 8 4 []),(1,oT 9 0 []),(2,oN 10 9 [9]),(3,oB 11 .lss 8 10 [8,10]),(4,oT 12 11 [11]),(5,oG 13 (.mv (.t 4)) 12 true []),(6,oG 14 (.bin .lss (.t 13) (.c (.int .i64 4000))) 12 true
[13]),(7,oP 15 (.pick (.t 12) (.t 14) (.c (.bool false))) [12,14])] (.cond (.t 15) (sK [15] .skip) (sK [4,15] (.exit 0)))) (.seq (.block 1 (.reg false [(0,oT 18 3 [3]),(1,oC 19 .mul 18 131 [18]),(2,oT 20 0 []),(3,oT 21
4 []),(4,oI 22 1 20 21 []),(5,oL 23 1 22 [20,21,22]),(6,oP 24 (.conv .i64 (.t 23)) [23]),(7,oB 25 .add 19 24 [19,24]),(8,oC 26 .add 25 7 [25]),(9,oC 27 .and 26 1073741823 [26]),(10,oT 3 27 [27])])) (.reg false [(0,oT 16
4 [4]),(1,oC 17 .add 16 1 [16]),(2,oT 4 17 [17])])))
abbrev B127 : CCode := (sR [(0,oP 2 (.mv (.c (.nilp))) [2])] (sR [(0,oT 5 0 []),(1,oN 6 5 [5]),(2,oP 7 (.bin .add (.c (.int .i64 10101)) (.t 6)) [6]),(3,oT 3 7 [7])] (.seq (sR [(0,oZ 4 0 [])] (.block 0 (.loop L127_0)))
(sR [(0,oT 28 0 [0]),(1,oT 29 3 [3]),(2,oP 30 (.bld [.nils,.int .i64 (0),.int .i64 (0)] [(0,1,(.t 28)),(2,1,(.t 29))]) [28,29]),(3,oP 31 (.box 3 (.t 30)) [30]),(4,oT 2 31 [31])] .ret))))
def C127 : CFn := ⟨32,1,[.t 2],B127⟩
abbrev L128_0 : CCode := (.seq (sR [(0,oT 15 5 []),(1,oC 16 .gtr 15 0 [15])] (.cond (.t 16) (sK [16] .skip) (sK [4,5,16] (.exit 0)))) (.seq (.block 1 (.reg true [(0,oM 20 2 3 []),(1,oT 21 0 []),(2,oF 22 0 3 []),(3,oL 23
1 22 [22]),(4,oT 24 4 []),(5,⟨some 25,.call 168 [.t 21,.t 23,.t 24],none,[(3,2)],[21,23,24]⟩),(6,oP 26 (.call 167 [.t 20,.t 25]) [20,25]),(7,oT 19 26 [26]),(8,oP 27 (.ex (.t 19) 0) []),(9,oP 28 (.ex (.t 19) 1)
[19,28]),(10,oS 2 3 27 [27])])) (.reg false [(0,oT 17 5 [5]),(1,oC 18 .sub 17 1 [17]),(2,oT 5 18 [18])])))
abbrev B128 : CCode := (sR [(0,oP 2 (.al [.nils,.nils]) [])] (sR [(0,oT 6 0 []),(1,oP 7 (.call 165 [.t 6]) [6]),(2,oP 8 (.bld [.nils,.nils] [(0,1,(.t 7))]) [7]),(3,oP 3 (.al [.nils,.nils]) []),(4,oS 2 3 8 [8])] (sR
[(0,oT 9 0 []),(1,oP 10 (.bsl 1 4 [.int .i64 (0)] [(0,1,(.c (.int .i64 2))),(1,1,(.c (.int .i64 2))),(2,1,(.c (.int .i64 3))),(3,1,(.c (.int .i64 3)))]) []),(2,oP 11 (.call 166 [.t 9,.t 10]) [9,10]),(3,oT 4 11 [11])]
(.seq (sR [(0,oT 12 0 []),(1,oP 13 (.call 105 [.t 12,(.c (.int .i64 11))]) [12]),(2,oP 14 (.bin .add (.c (.int .i64 2)) (.t 13)) [13]),(3,oT 5 14 [14])] (.block 0 (.loop L128_0))) (sR [(0,oM 29 2 3 []),(1,oS 2 2 29
[3,29])] .ret)))))
def C128 : CFn := ⟨30,1,[.m 2 2 true],B128⟩
abbrev L129_0 : CCode := (.seq (sR [(0,oT 16 6 []),(1,oF 17 0 5 []),(2,oL 18 1 17 [17]),(3,oB 19 .lss 16 18 [16,18])] (.cond (.t 19) (sK [19] .skip) (sK [6,19] (.exit 0)))) (.seq (.block 1 (sR [(0,oT 22 0 []),(1,oP 23
(.call 149 [.t 22,(.c (.int .i64 3))]) [22])] (.cond (.t 23) (sK [23] (.reg false [(0,oF 24 2 5 []),(1,oL 25 1 24 [24]),(2,oT 26 6 []),(3,oP 27 (.bsl 1 1 [.int .i64 (0)] [(0,1,(.t 26))]) [26]),(4,oP 28 (.app 1 8 (.t 25)
(.t 27)) [25,27]),(5,oF 29 2 5 []),(6,oS 1 29 28 [28,29])])) (sK [23] .skip)))) (.reg false [(0,oT 20 6 [6]),(1,oC 21 .add 20 1 [20]),(2,oT 6 21 [21])])))
abbrev B129 : CCode := (sR [(0,oP 4 (.al [.int .i64 (0),.nils,.nils]) [])] (sR [(0,oT 7 0 []),(1,oP 8 (.call 169 [.t 7]) [7]),(2,oP 5 (.al [.int .i64 (0),.nils,.nils]) []),(3,oS 3 5 8 [8])] (.seq (sR [(0,oT 9 0
[]),(1,oP 10 (.call 149 [.t 9,(.c (.int .i64 3))]) [9])] (.cond (.t 10) (sK [10] (.reg false [(0,oT 11 0 []),(1,oT 12 1 [1]),(2,oP 13 (.call 170 [.t 11,.t 12]) [11,12]),(3,oS 3 5 13 [13])])) (sK [1,10] .skip))) (.seq
(sR [(0,oT 14 0 []),(1,oP 15 (.call 149 [.t 14,(.c (.int .i64 4))]) [14])] (.cond (.t 15) (sK [15] (sR [(0,oZ 6 0 [])] (.block 0 (.loop L129_0)))) (sK [15] .skip))) (sR [(0,oM 30 3 5 []),(1,oS 3 4 30 [5,30])] .ret)))))
def C129 : CFn := ⟨31,2,[.m 4 3 true],B129⟩
abbrev B131 : CCode := (sR [(0,oP 4 (.al [.int .i64 (0),.nils,.nils]) [])] (sR [(0,oT 6 0 []),(1,oT 7 1 [1]),(2,oP 8 (.call 129 [.t 6,.t 7]) [6,7]),(3,oP 5 (.al [.int .i64 (0),.nils,.nils]) []),(4,oS 3 5 8 [8])] (.seq
(sR [(0,oT 9 0 []),(1,oP 10 (.call 105 [.t 9,(.c (.int .i64 14))]) [9])] (.block 0 (sR [(0,oC 12 .eql 10 0 []),(1,oT 11 12 [12])] (.cond (.t 11) (sK [10,11] (.reg false [(0,oT 13 0 []),(1,oF 14 0 5 []),(2,oL 15 1 14
[14]),(3,oC 16 .add 15 1 [15]),(4,oP 17 (.bsl 1 3 [.int .i64 (0)] [(0,1,(.c (.int .i64 (-1)))),(1,1,(.t 16)),(2,1,(.c (.int .i64 5)))]) [16]),(5,oP 18 (.call 166 [.t 13,.t 17]) [13,17]),(6,oF 19 0 5 []),(7,oS 1 19 18
[18,19])])) (sK [11] (sR [(0,oC 21 .eql 10 1 []),(1,oT 20 21 [21])] (.cond (.t 20) (sK [10,20] (.reg true [(0,oF 22 1 5 []),(1,oL 23 1 22 []),(2,oT 24 0 []),(5,oP 27 (.bsl 1 2 [.int .i64 (0)] [(0,1,(.c (.int .i64
0))),(1,1,(.c (.int .i64 0)))]) []),(3,⟨some 25,.call 105 [.t 24,(.c (.int .i64 6))],none,[(22,1)],[22,24]⟩),(4,oC 26 .sub 25 1 [25]),(6,oP 28 (.bld [.int .i64 (0),.nils] [(0,1,(.t 26)),(1,1,(.t 27))]) [26,27]),(7,oP 29
(.bsl 2 1 [.int .i64 (0),.nils] [(0,2,(.t 28))]) [28]),(8,oP 30 (.app 2 32 (.t 23) (.t 29)) [23,29]),(9,oF 31 1 5 []),(10,oS 1 31 30 [30,31])])) (sK [20] (sR [(0,oC 33 .eql 10 2 []),(1,oT 32 33 [33])] (.cond (.t 32) (sK
[10,32] (.reg true [(0,oF 34 1 5 []),(1,oL 35 1 34 []),(2,oP 36 (.ia 2 (.t 35) (.c (.int .i64 0))) [35]),(3,oF 37 1 36 [36]),(4,oL 38 1 37 []),(5,oT 39 0 []),(6,oP 40 (.bsl 1 3 [.int .i64 (0)] [(0,1,(.c (.int .i64
(-11)))),(1,1,(.c (.int .i64 4))),(2,1,(.c (.int .i64 3)))]) []),(7,⟨some 41,.call 166 [.t 39,.t 40],none,[(34,1),(37,1)],[34,37,39,40]⟩),(8,oP 42 (.ia 1 (.t 38) (.c (.int .i64 0))) [38]),(9,oS 1 42 41 [41,42])])) (sK
[32] (sR [(0,oC 44 .eql 10 3 [10]),(1,oT 43 44 [44])] (.cond (.t 43) (sK [43] (.reg true [(0,oF 45 2 5 []),(1,oL 46 1 45 []),(2,oT 47 0 []),(3,⟨some 48,.call 105 [.t 47,(.c (.int .i64 5))],none,[(45,1)],[45,47]⟩),(4,oP
49 (.bsl 1 1 [.int .i64 (0)] [(0,1,(.t 48))]) [48]),(5,oP 50 (.app 1 8 (.t 46) (.t 49)) [46,49]),(6,oF 51 2 5 []),(7,oS 1 51 50 [50,51])])) (sK [43] .skip)))))))))))))) (sR [(0,oM 52 3 5 []),(1,oS 3 4 52 [5,52])]
.ret))))
def C131 : CFn := ⟨53,2,[.m 4 3 true],B131⟩
abbrev L132_0 : CCode := (sR [(0,oB 8 .lss 7 6 [])] (.seq (.cond (.t 8) (sK [8] .skip) (sK [5,6,7,8] (.exit 0))) (.seq (.block 1 (sR [(0,oT 9 7 []),(1,oI 10 3 5 7 []),(2,oM 11 3 10 [10]),(3,oP 4 (.al [.str [],.int .i64
(0),.int .i64 (0)]) []),(4,oT 3 9 [9]),(5,oS 3 4 11 [11])] (.seq (.reg true [(0,oM 12 3 4 []),(1,oP 13 (.call 173 [.t 12]) [12]),(2,oP 14 (.not (.t 13)) [13]),(3,oT 15 14 [14]),(4,oG 16 (.mv (.t 3)) 15 false []),(5,oG
17 (.bin .gtr (.t 16) (.c (.int .i64 0))) 15 false [16]),(6,oG 18 (.mv (.t 17)) 15 false [17]),(7,oG 19 (.mv (.t 0)) 18 true []),(8,oG 20 (.mv (.t 3)) 18 true [3]),(9,oG 21 (.bin .sub (.t 20) (.c (.int .i64 1))) 18 true
[20]),(10,oG 22 (.ia 3 (.t 19) (.t 21)) 18 true []),(11,oG 23 (.fa 0 (.t 22)) 18 true [22]),(12,oG 24 (.ld 1 false (.t 23)) 18 true [19,21,23]),(13,oG 25 (.fa 0 (.t 4)) 18 true []),(14,oG 26 (.ld 1 false (.t 25)) 18
true [4,25]),(15,oG 27 (.bin .geq (.t 24) (.t 26)) 18 true [24,26]),(16,oG 28 (.pick (.t 18) (.t 27) (.c (.bool false))) 15 false [18,27]),(17,oP 29 (.pick (.t 15) (.c (.bool true)) (.t 28)) [15,28])]) (.cond (.t 29)
(sK [0,5,6,7,29] (sR [(0,oY 2 false [])] .ret)) (sK [29] .skip))))) (.reg false [(0,oC 30 .add 7 1 [7]),(1,oT 7 30 [30])]))))
abbrev B132 : CCode := (sR [(0,oY 2 false [2])] (.seq (sR [(0,oT 5 0 []),(1,oN 6 5 []),(2,oZ 7 0 [])] (.block 0 (.loop L132_0))) (sR [(0,oT 31 0 [0]),(1,oN 32 31 [31]),(2,oC 33 .leq 32 4 [32]),(3,oT 2 33 [33])] .ret)))
def C132 : CFn := ⟨34,1,[.t 2],B132⟩
abbrev B133 : CCode := (sR [(0,oP 3 (.box 2 (.t 1)) [1]),(1,oY 4 false [4])] (.seq (.reg true [(0,oF 5 0 3 []),(1,oL 6 1 5 [5]),(2,oT 7 0 []),(3,oN 8 7 [7]),(4,oC 9 .sub 8 1 [8]),(5,oP 10 (.call 59 [.t 6,(.c (.int .i64
0)),.t 9]) [6,9]),(6,oT 11 10 [10]),(7,oG 12 (.fa 1 (.t 3)) 11 true []),(8,oG 13 (.ld 1 false (.t 12)) 11 true [12]),(9,oG 14 (.len (.t 13)) 11 true [13]),(10,oG 15 (.mv (.t 0)) 11 true [0]),(11,oG 16 (.fa 0 (.t 3)) 11
true []),(12,oG 17 (.ld 1 false (.t 16)) 11 true [16]),(13,oG 18 (.ia 3 (.t 15) (.t 17)) 11 true []),(14,oG 19 (.fa 1 (.t 18)) 11 true [18]),(15,oG 20 (.ld 1 false (.t 19)) 11 true [15,17,19]),(16,oG 21 (.bin .eql (.t
14) (.t 20)) 11 true [14,20]),(17,oP 22 (.pick (.t 11) (.t 21) (.c (.bool false))) [11,21]),(18,oT 23 22 [22]),(19,oG 24 (.fa 1 (.t 3)) 23 true []),(20,oG 25 (.ld 1 false (.t 24)) 23 true [24]),(21,oG 26 (.call 174 [.t
25]) 23 true [3,25]),(22,oP 27 (.pick (.t 23) (.t 26) (.c (.bool false))) [23,26]),(23,oT 4 27 [27])]) .ret))
def C133 : CFn := ⟨28,2,[.t 4],B133⟩
abbrev B134 : CCode := (sR [(0,oP 2 (.box 2 (.t 0)) [0]),(1,oP 3 (.box 2 (.t 1)) [1]),(2,oZ 4 0 [4])] (.seq (sR [(0,oF 5 0 2 []),(1,oL 6 1 5 [5]),(2,oF 7 0 3 []),(3,oL 8 1 7 [7]),(4,oB 9 .neq 6 8 [6,8])] (.cond (.t 9)
(sK [9] (sR [(0,oF 10 0 2 []),(1,oL 11 1 10 [2,10]),(2,oF 12 0 3 []),(3,oL 13 1 12 [3,12]),(4,oP 14 (.call 175 [.t 11,.t 13]) [11,13]),(5,oT 4 14 [14])] .ret)) (sK [9] .skip))) (sR [(0,oF 15 1 2 []),(1,oL 16 1 15
[15]),(2,oF 17 1 3 []),(3,oL 18 1 17 [17]),(4,oP 19 (.call 176 [.t 16,.t 18]) [2,3,16,18]),(5,oT 4 19 [19])] .ret)))
def C134 : CFn := ⟨20,2,[.t 4],B134⟩
abbrev B135 : CCode := (sR [(0,oP 3 (.box 2 (.t 1)) [1]),(1,oP 4 (.mv (.c (.nils))) [4])] (.seq (sR [(0,oT 5 0 []),(1,oM 6 2 3 []),(2,oP 7 (.call 94 [.t 5,.t 6]) [5,6]),(3,oP 8 (.not (.t 7)) [7])] (.cond (.t 8) (sK
[0,3,8] (sR [(0,oP 9 (.bsl 1 0 [.int .i64 (0)] []) []),(1,oT 4 9 [9])] .ret)) (sK [8] .skip))) (.seq (.reg true [(0,oP 10 (.bsl 1 0 [.int .i64 (0)] []) []),(1,oF 11 1 3 []),(2,oL 12 1 11 [11]),(3,oT 13 0 [0]),(4,oF 14 0
3 []),(5,oL 15 1 14 [14]),(6,oI 16 3 13 15 []),(7,oF 17 2 16 [16]),(8,oL 18 1 17 [13,15,17]),(9,oP 19 (.sls 1 (.t 12) none (some (.t 18)) none) [3,12,18]),(10,oP 20 (.app 1 8 (.t 10) (.t 19)) [10,19]),(11,oT 4 20
[20])]) .ret)))
def C135 : CFn := ⟨21,2,[.t 4],B135⟩
abbrev B136 : CCode := (sR [(0,oY 4 false [4])] (sR [(0,oT 5 0 [0]),(1,oT 6 1 [1]),(2,oP 7 (.call 177 [.t 5,.t 6]) [5,6]),(3,oC 8 .geq 7 0 [7]),(4,oT 4 8 [8])] .ret))
def C136 : CFn := ⟨9,2,[.t 4],B136⟩
abbrev B137 : CCode := (sR [(0,oP 2 (.box 2 (.t 0)) [0]),(1,oY 3 false [3])] (sR [(0,oF 4 0 2 []),(1,oL 5 1 4 [2,4]),(2,oF 6 0 1 []),(3,oL 7 1 6 [1,6]),(4,oB 8 .eql 5 7 [5,7]),(5,oT 3 8 [8])] .ret))
def C137 : CFn := ⟨9,2,[.t 3],B137⟩
abbrev L138_0 : CCode := (sR [(0,oB 11 .lss 10 9 [])] (.seq (.cond (.t 11) (sK [11] .skip) (sK [1,8,9,10,11] (.exit 0))) (.seq (.block 1 (sR [(0,oI 12 1 8 10 []),(1,oL 13 1 12 [12]),(2,oT 5 13 [13])] (sR [(0,oT 14 5
[]),(1,oP 15 (.call 59 [.t 14,(.c (.int .i64 0)),(.c (.int .i64 3))]) [14])] (.cond (.t 15) (sK [15] (.reg false [(0,oT 16 3 [3]),(1,oT 17 5 [5]),(2,oP 18 (.bsl 1 1 [.int .i64 (0)] [(0,1,(.t 17))]) [17]),(3,oP 19 (.app
1 8 (.t 16) (.t 18)) [16,18]),(4,oT 3 19 [19])])) (sK [5,15] .skip))))) (.reg false [(0,oC 20 .add 10 1 [10]),(1,oT 10 20 [20])]))))
abbrev B138 : CCode := (sR [(0,oP 1 (.box 2 (.t 0)) [0]),(1,oP 2 (.mv (.c (.nils))) [2])] (sR [(0,oP 6 (.bsl 1 0 [.int .i64 (0)] []) []),(1,oT 3 6 [6])] (.seq (sR [(0,oF 7 1 1 []),(1,oL 8 1 7 [7]),(2,oN 9 8 []),(3,oZ 10
0 [])] (.block 0 (.loop L138_0))) (sR [(0,oT 21 3 [3]),(1,oP 22 (.call 92 [.t 21,(.c (.nils))]) [21]),(2,oT 2 22 [22])] .ret))))
def C138 : CFn := ⟨23,1,[.t 2],B138⟩
abbrev L139_0 : CCode := (sR [(0,oB 12 .lss 11 10 [])] (.seq (.cond (.t 12) (sK [12] .skip) (sK [9,10,11,12] (.exit 0))) (.seq (.block 1 (sR [(0,oI 13 1 9 11 []),(1,oL 14 1 13 [13]),(2,oT 5 14 [14])] (sR [(0,oT 15 3
[3]),(1,oT 16 5 [5]),(2,oN 17 16 [16]),(3,oB 18 .add 15 17 [15,17]),(4,oT 3 18 [18])] (sR [(0,oT 19 3 []),(1,oC 20 .lss 19 0 [19])] (.cond (.t 20) (sK [20] (.reg false [(0,oP 21 .fail
[21]),(1,⟨none,.fail,none,[],[]⟩)])) (sK [20] .skip)))))) (.reg false [(0,oC 22 .add 11 1 [11]),(1,oT 11 22 [22])]))))
abbrev L139_1 : CCode := (sR [(0,oB 28 .lss 27 26 [])] (.seq (.cond (.t 28) (sK [28] .skip) (sK [25,26,27,28] (.exit 2))) (.seq (.block 3 (sR [(0,oI 29 1 25 27 []),(1,oL 30 1 29 [29]),(2,oT 8 30 [30])] (.reg false
[(0,oT 31 6 [6]),(1,oT 32 8 [8]),(2,oP 33 (.app 1 8 (.t 31) (.t 32)) [31,32]),(3,oT 6 33 [33])]))) (.reg false [(0,oC 34 .add 27 1 [27]),(1,oT 27 34 [34])]))))
abbrev B139 : CCode := (sR [(0,oP 2 (.mv (.c (.nils))) [2])] (sR [(0,oZ 3 0 [])] (.seq (sR [(0,oT 9 0 []),(1,oN 10 9 []),(2,oZ 11 0 [])] (.block 0 (.loop L139_0))) (sR [(0,oT 23 3 [3]),(1,oP 24 (.call 178 [(.c
(.nils)),.t 23]) [23]),(2,oT 6 24 [24])] (.seq (sR [(0,oT 25 0 [0]),(1,oN 26 25 []),(2,oZ 27 0 [])] (.block 2 (.loop L139_1))) (sR [(0,oT 35 6 [6]),(1,oT 2 35 [35])] .ret))))))
def C139 : CFn := ⟨36,1,[.t 2],B139⟩
abbrev B141 : CCode := (sR [(0,oP 1 (.box 3 (.t 0)) [0]),(1,oY 2 false [2])] (sR [(0,oF 3 0 1 []),(1,oL 4 1 3 [3]),(2,oP 5 (.lens (.t 4)) [4]),(3,oC 6 .eql 5 1 [5]),(4,oT 7 6 [6]),(5,oG 8 (.fa 0 (.t 1)) 7 true []),(6,oG
9 (.ld 1 false (.t 8)) 7 true [8]),(7,oG 10 (.ix (.t 9) (.c (.int .i64 0))) 7 true [9]),(8,oG 11 (.bin .geq (.t 10) (.c (.int .u8 (97)))) 7 true [10]),(9,oP 12 (.pick (.t 7) (.t 11) (.c (.bool false))) [7,11]),(10,oT 13
12 [12]),(11,oG 14 (.fa 0 (.t 1)) 13 true []),(12,oG 15 (.ld 1 false (.t 14)) 13 true [14]),(13,oG 16 (.ix (.t 15) (.c (.int .i64 0))) 13 true [15]),(14,oG 17 (.bin .leq (.t 16) (.c (.int .u8 (122)))) 13 true
[16]),(15,oP 18 (.pick (.t 13) (.t 17) (.c (.bool false))) [13,17]),(16,oT 19 18 [18]),(17,oG 20 (.fa 1 (.t 1)) 19 true []),(18,oG 21 (.ld 1 false (.t 20)) 19 true [20]),(19,oG 22 (.call 87 [.t 21,(.c (.int .i64 1)),(.c
(.int .i64 3))]) 19 true [21]),(20,oP 23 (.pick (.t 19) (.t 22) (.c (.bool false))) [19,22]),(21,oT 24 23 [23]),(22,oG 25 (.fa 2 (.t 1)) 24 true []),(23,oG 26 (.ld 1 false (.t 25)) 24 true [25]),(24,oG 27 (.fa 1 (.t 1))
24 true []),(25,oG 28 (.ld 1 false (.t 27)) 24 true [1,27]),(26,oG 29 (.call 87 [.t 26,(.c (.int .i64 0)),.t 28]) 24 true [26,28]),(27,oP 30 (.pick (.t 24) (.t 29) (.c (.bool false))) [24,29]),(28,oT 2 30 [30])] .ret))
def C141 : CFn := ⟨31,1,[.t 2],B141⟩
abbrev L144_1 : CCode := (.seq (sR [(0,oT 14 7 []),(1,oT 15 0 []),(2,oT 16 5 []),(3,oI 17 1 15 16 []),(4,oL 18 1 17 [17]),(5,oN 19 18 [15,16,18]),(6,oB 20 .lss 14 19 [14,19])] (.cond (.t 20) (sK [20] .skip) (sK [7,20]
(.exit 2)))) (.seq (.block 3 (.reg false [(0,oT 23 6 [6]),(1,oT 24 23 [23]),(2,oG 25 (.mv (.t 1)) 24 true []),(3,oG 26 (.mv (.t 0)) 24 true []),(4,oG 27 (.mv (.t 5)) 24 true []),(5,oG 28 (.ia 1 (.t 26) (.t 27)) 24 true
[]),(6,oG 29 (.ld 1 false (.t 28)) 24 true [28]),(7,oG 30 (.mv (.t 7)) 24 true []),(8,oG 31 (.ia 1 (.t 29) (.t 30)) 24 true [29]),(9,oG 32 (.ld 1 false (.t 31)) 24 true [26,27,30,31]),(10,oG 33 (.call 42 [.t 25,.t 32])
24 true [25,32]),(11,oP 34 (.pick (.t 24) (.t 33) (.c (.bool false))) [24,33]),(12,oT 6 34 [34])])) (.reg false [(0,oT 21 7 [7]),(1,oC 22 .add 21 1 [21]),(2,oT 7 22 [22])])))
abbrev L144_0 : CCode := (.seq (sR [(0,oT 8 5 []),(1,oT 9 0 []),(2,oN 10 9 [9]),(3,oB 11 .lss 8 10 [8,10])] (.cond (.t 11) (sK [11] .skip) (sK [0,1,5,11] (.exit 0)))) (.seq (.block 1 (sR [(0,oY 6 true [])] (.seq (sR
[(0,oZ 7 0 [])] (.block 2 (.loop L144_1))) (sR [(0,oT 35 6 [6])] (.cond (.t 35) (sK [0,1,5,35] (sR [(0,oY 4 true [])] .ret)) (sK [35] .skip)))))) (.reg false [(0,oT 12 5 [5]),(1,oC 13 .add 12 1 [12]),(2,oT 5 13 [13])])))
abbrev B144 : CCode := (sR [(0,oY 4 false [4])] (.seq (sR [(0,oZ 5 0 [])] (.block 0 (.loop L144_0))) (sR [(0,oY 4 false [])] .ret)))
def C144 : CFn := ⟨36,2,[.t 4],B144⟩
abbrev L145_0 : CCode := (sR [(0,oB 9 .lss 8 7 [])] (.seq (.cond (.t 9) (sK [9] .skip) (sK [0,1,7,8,9] (.exit 0))) (.seq (.block 1 (sR [(0,oT 10 8 []),(1,oT 5 10 [10])] (sR [(0,oT 11 1 []),(1,oT 12 0 []),(2,oT 13 5
[]),(3,oI 14 1 12 13 []),(4,oL 15 1 14 [14]),(5,oP 16 (.callv (.t 11) [.t 15]) [11,12,13,15])] (.cond (.t 16) (sK [0,1,7,8,16] (sR [(0,oT 17 5 [5]),(1,oT 4 17 [17])] .ret)) (sK [5,16] .skip))))) (.reg false [(0,oC 18
.add 8 1 [8]),(1,oT 8 18 [18])]))))
abbrev B145 : CCode := (sR [(0,oZ 4 0 [4])] (.seq (sR [(0,oT 6 0 []),(1,oN 7 6 [6]),(2,oZ 8 0 [])] (.block 0 (.loop L145_0))) (sR [(0,oZ 4 (-1) [])] .ret)))
def C145 : CFn := ⟨19,2,[.t 4],B145⟩
abbrev B146 : CCode := (sR [(0,oY 4 false [4])] (sR [(0,oT 5 0 [0]),(1,oT 6 1 [1]),(2,oP 7 (.call 180 [.t 5,.t 6]) [5,6]),(3,oC 8 .geq 7 0 [7]),(4,oT 4 8 [8])] .ret))
def C146 : CFn := ⟨9,2,[.t 4],B146⟩
abbrev B147 : CCode := (sR [(0,oY 3 false [3])] (sR [(0,oL 4 1 1 []),(1,oT 5 0 [0]),(2,oP 6 (.call 47 [.t 4,.t 5]) [1,4,5]),(3,oP 7 (.not (.t 6)) [6]),(4,oT 3 7 [7])] .ret))
def C147 : CFn := ⟨8,2,[.t 3],B147⟩
abbrev L148_0 : CCode := (.seq (sR [(0,oF 6 1 3 []),(1,oL 7 1 6 [6]),(2,oN 8 7 [7]),(3,oC 9 .gtr 8 9 [8])] (.cond (.t 9) (sK [9] .skip) (sK [9] (.exit 0)))) (.block 1 (.reg false [(0,oF 10 1 3 []),(1,oL 11 1 10
[10]),(2,oF 12 1 3 []),(3,oL 13 1 12 [12]),(4,oN 14 13 [13]),(5,oC 15 .sub 14 1 [14]),(6,oP 16 (.sls 2 (.t 11) none (some (.t 15)) none) [11,15]),(7,oF 17 1 3 []),(8,oS 1 17 16 [16,17])])))
abbrev B148 : CCode := (sR [(0,oP 2 (.al [.nils,.nils]) [])] (sR [(0,oT 4 0 []),(1,oP 5 (.call 128 [.t 4]) [4]),(2,oP 3 (.al [.nils,.nils]) []),(3,oS 2 3 5 [5])] (.seq (.block 0 (.loop L148_0)) (sR [(0,oM 18 2 3
[]),(1,oS 2 2 18 [3,18])] .ret))))
def C148 : CFn := ⟨19,1,[.m 2 2 true],B148⟩
abbrev B149 : CCode := (sR [(0,oY 4 false [4])] (sR [(0,oT 5 0 []),(1,oT 6 1 [1]),(2,oP 7 (.call 105 [.t 5,.t 6]) [5,6]),(3,oC 8 .eql 7 0 [7]),(4,oT 4 8 [8])] .ret))
def C149 : CFn := ⟨9,2,[.t 4],B149⟩
abbrev B150 : CCode := (sR [(0,oP 2 (.box 2 (.t 0)) [0]),(1,oP 3 (.box 3 (.t 1)) [1]),(2,oY 4 false [4])] (sR [(0,oM 5 2 2 []),(1,oM 6 3 3 []),(2,oP 7 (.call 151 [.t 5,.t 6]) [2,3,5,6]),(3,oP 8 (.bsl 1 0 [.int .i64 (0)]
[]) []),(4,oP 9 (.call 115 [.t 7,.t 8]) [7,8]),(5,oT 4 9 [9])] .ret))
def C150 : CFn := ⟨10,2,[.t 4],B150⟩
abbrev L151_0 : CCode := (.seq (sR [(0,oT 30 9 []),(1,oT 31 6 []),(2,oN 32 31 [31]),(3,oB 33 .lss 30 32 [30,32])] (.cond (.t 33) (sK [33] .skip) (sK [7,9,33] (.exit 0)))) (.seq (.block 1 (sR [(0,oT 36 7 []),(1,oT 37 6
[]),(2,oT 38 9 []),(3,oI 39 1 37 38 []),(4,oL 40 1 39 [39]),(5,oP 41 (.call 115 [.t 36,.t 40]) [36,37,38,40])] (.cond (.t 41) (sK [41] (sR [(0,oT 42 8 []),(1,oT 43 9 []),(2,oI 44 1 42 43 []),(3,⟨none,.st 1 (.t 44) (.c
(.bool true)),none,[],[42,43,44]⟩)] (.reg false [(0,oT 45 5 [5]),(1,oT 46 6 []),(2,oT 47 9 []),(3,oI 48 1 46 47 []),(4,oL 49 1 48 [48]),(5,oP 50 (.bsl 1 1 [.nils] [(0,1,(.t 49))]) [46,47,49]),(6,oP 51 (.app 1 24 (.t 45)
(.t 50)) [45,50]),(7,oT 5 51 [51])]))) (sK [41] .skip)))) (.reg false [(0,oT 34 9 [9]),(1,oC 35 .add 34 1 [34]),(2,oT 9 35 [35])])))
abbrev L151_2 : CCode := (.seq (sR [(0,oT 55 12 []),(1,oT 56 6 []),(2,oN 57 56 [56]),(3,oB 58 .lss 55 57 [55,57])] (.cond (.t 58) (sK [58] .skip) (sK [12,58] (.exit 4)))) (.seq (.block 5 (sR [(0,oT 61 8 []),(1,oT 62 12
[]),(2,oI 63 1 61 62 []),(3,oL 64 1 63 [61,62,63]),(4,oP 65 (.not (.t 64)) [64]),(5,oT 66 65 [65]),(6,oG 67 (.mv (.t 5)) 66 true []),(7,oG 68 (.mv (.t 10)) 66 true []),(8,oG 69 (.mv (.t 6)) 66 true []),(9,oG 70 (.mv (.t
12)) 66 true []),(10,oG 71 (.ia 1 (.t 69) (.t 70)) 66 true []),(11,oG 72 (.ld 1 false (.t 71)) 66 true [71]),(12,oG 73 (.call 152 [.t 67,.t 68,.t 72]) 66 true [67,68,69,70,72]),(13,oG 74 (.bin .geq (.t 73) (.c (.int
.i64 0))) 66 true [73]),(14,oP 75 (.pick (.t 66) (.t 74) (.c (.bool false))) [66,74])] (.cond (.t 75) (sK [11,75] (sR [(0,oT 76 8 []),(1,oT 77 12 []),(2,oI 78 1 76 77 []),(3,⟨none,.st 1 (.t 78) (.c (.bool
true)),none,[],[76,77,78]⟩)] (sR [(0,oT 79 5 [5]),(1,oT 80 6 []),(2,oT 81 12 []),(3,oI 82 1 80 81 []),(4,oL 83 1 82 [82]),(5,oP 84 (.bsl 1 1 [.nils] [(0,1,(.t 83))]) [80,81,83]),(6,oP 85 (.app 1 24 (.t 79) (.t 84))
[79,84]),(7,oT 5 85 [85])] (.reg false [(0,oY 11 true [])])))) (sK [75] .skip)))) (.reg false [(0,oT 59 12 [12]),(1,oC 60 .add 59 1 [59]),(2,oT 12 60 [60])])))
abbrev L151_1 : CCode := (.seq (sR [(0,oT 54 11 [11])] (.cond (.t 54) (sK [54] .skip) (sK [6,8,10,54] (.exit 2)))) (.block 3 (sR [(0,oY 11 false [])] (sR [(0,oZ 12 0 [])] (.block 4 (.loop L151_2))))))
abbrev B151 : CCode := (sR [(0,oP 2 (.box 2 (.t 0)) [0]),(1,oP 3 (.box 3 (.t 1)) [1]),(2,oP 4 (.mv (.c (.nils))) [4])] (sR [(0,oP 13 (.bsl 1 0 [.nils] []) []),(1,oT 5 13 [13])] (.seq (sR [(0,oM 14 2 2 []),(1,oM 15 3 3
[]),(2,oP 16 (.call 18 [.t 14,.t 15]) [14,15]),(3,oP 17 (.not (.t 16)) [16])] (.cond (.t 17) (sK [2,3,17] (sR [(0,oT 18 5 [5]),(1,oT 4 18 [18])] .ret)) (sK [17] .skip))) (sR [(0,oM 19 2 2 []),(1,oF 20 1 3 []),(2,oL 21 1
20 [20]),(3,oN 22 21 [21]),(4,oP 23 (.call 181 [.t 19,.t 22]) [19,22]),(5,oT 6 23 [23])] (sR [(0,oM 24 2 2 []),(1,oM 25 3 3 []),(2,oP 26 (.call 62 [.t 24,.t 25]) [3,24,25]),(3,oT 7 26 [26])] (sR [(0,oT 27 6 []),(1,oN 28
27 [27]),(2,oP 29 (.mk 1 1 [.bool false] (.t 28) (.t 28)) [28]),(3,oT 8 29 [29])] (.seq (sR [(0,oZ 9 0 [])] (.block 0 (.loop L151_0))) (sR [(0,oM 52 2 2 []),(1,oP 53 (.call 63 [.t 52]) [2,52]),(2,oT 10 53 [53])] (.seq
(sR [(0,oY 11 true [])] (.block 2 (.loop L151_1))) (sR [(0,oT 86 5 [5]),(1,oT 4 86 [86])] .ret))))))))))
def C151 : CFn := ⟨87,2,[.t 4],B151⟩
abbrev L152_1 : CCode := (.seq (sR [(0,oT 17 9 []),(1,oT 18 1 []),(2,oT 19 7 []),(3,oI 20 1 18 19 []),(4,oL 21 1 20 [20]),(5,oN 22 21 [18,19,21]),(6,oB 23 .lss 17 22 [17,22])] (.cond (.t 23) (sK [23] .skip) (sK [9,23]
(.exit 2)))) (.seq (.block 3 (.reg false [(0,oT 26 8 [8]),(1,oT 27 26 [26]),(2,oG 28 (.mv (.t 2)) 27 true []),(3,oG 29 (.mv (.t 1)) 27 true []),(4,oG 30 (.mv (.t 7)) 27 true []),(5,oG 31 (.ia 1 (.t 29) (.t 30)) 27 true
[]),(6,oG 32 (.ld 1 false (.t 31)) 27 true [31]),(7,oG 33 (.mv (.t 9)) 27 true []),(8,oG 34 (.ia 1 (.t 32) (.t 33)) 27 true [32]),(9,oG 35 (.ld 1 false (.t 34)) 27 true [29,30,33,34]),(10,oG 36 (.call 42 [.t 28,.t 35])
27 true [28,35]),(11,oG 37 (.not (.t 36)) 27 true [36]),(12,oP 38 (.pick (.t 27) (.t 37) (.c (.bool false))) [27,37]),(13,oT 8 38 [38])])) (.reg false [(0,oT 24 9 [9]),(1,oC 25 .add 24 1 [24]),(2,oT 9 25 [25])])))
abbrev L152_2 : CCode := (.seq (sR [(0,oT 39 10 []),(1,oT 40 1 []),(2,oT 41 7 []),(3,oI 42 1 40 41 []),(4,oL 43 1 42 [42]),(5,oN 44 43 [40,41,43]),(6,oB 45 .lss 39 44 [39,44]),(7,oT 46 45 [45]),(8,oG 47 (.mv (.t 8)) 46
true []),(9,oP 48 (.pick (.t 46) (.t 47) (.c (.bool false))) [46,47])] (.cond (.t 48) (sK [8,48] .skip) (sK [10,48] (.exit 4)))) (.seq (.block 5 (.reg true [(0,oT 51 0 []),(1,oP 52 (.bsl 1 0 [.int .i64 (0)] [])
[]),(2,oT 53 2 []),(4,oT 55 1 []),(5,oT 56 7 []),(6,oI 57 1 55 56 []),(7,oL 58 1 57 []),(8,oT 59 10 []),(9,oI 60 1 58 59 [58]),(10,oL 61 1 60 []),(11,oP 62 (.bsl 1 1 [.int .i64 (0)] [(0,1,(.t 61))]) [61]),(3,⟨some
54,.app 1 8 (.t 52) (.t 53),none,[(57,1),(60,1)],[52,53,55,56,57,59,60]⟩),(12,oP 63 (.app 1 8 (.t 54) (.t 62)) [54,62]),(13,oP 64 (.call 115 [.t 51,.t 63]) [51,63]),(14,oT 8 64 [64])])) (.reg false [(0,oT 49 10
[10]),(1,oC 50 .add 49 1 [49]),(2,oT 10 50 [50])])))
abbrev L152_0 : CCode := (.seq (sR [(0,oT 11 7 []),(1,oT 12 1 []),(2,oN 13 12 [12]),(3,oB 14 .lss 11 13 [11,13])] (.cond (.t 14) (sK [14] .skip) (sK [0,1,2,7,14] (.exit 0)))) (.seq (.block 1 (sR [(0,oY 8 true [])] (.seq
(sR [(0,oZ 9 0 [])] (.block 2 (.loop L152_1))) (.seq (sR [(0,oZ 10 0 [])] (.block 4 (.loop L152_2))) (sR [(0,oT 65 8 [8])] (.cond (.t 65) (sK [0,1,2,65] (sR [(0,oT 66 7 [7]),(1,oT 6 66 [66])] .ret)) (sK [65]
.skip))))))) (.reg false [(0,oT 15 7 [7]),(1,oC 16 .add 15 1 [15]),(2,oT 7 16 [16])])))
abbrev B152 : CCode := (sR [(0,oZ 6 0 [6])] (.seq (sR [(0,oZ 7 0 [])] (.block 0 (.loop L152_0))) (sR [(0,oZ 6 (-1) [])] .ret)))
def C152 : CFn := ⟨67,3,[.t 6],B152⟩
abbrev B153 : CCode := (sR [(0,oY 6 false [6])] (sR [(0,oT 7 1 []),(1,oT 8 2 []),(2,oP 9 (.call 42 [.t 7,.t 8]) [7,8]),(3,oP 10 (.not (.t 9)) [9]),(4,oT 11 10 [10]),(5,oG 12 (.mv (.t 0)) 11 true [0]),(6,oG 13 (.bsl 1 0
[.int .i64 (0)] []) 11 true []),(7,oG 14 (.mv (.t 1)) 11 true [1]),(8,oG 15 (.app 1 8 (.t 13) (.t 14)) 11 true [13,14]),(9,oG 16 (.mv (.t 2)) 11 true [2]),(10,oG 17 (.bsl 1 1 [.int .i64 (0)] [(0,1,(.t 16))]) 11 true
[16]),(11,oG 18 (.app 1 8 (.t 15) (.t 17)) 11 true [15,17]),(12,oG 19 (.call 182 [.t 12,.t 18]) 11 true [12,18]),(13,oP 20 (.pick (.t 11) (.t 19) (.c (.bool false))) [11,19]),(14,oT 6 20 [20])] .ret))
def C153 : CFn := ⟨21,3,[.t 6],B153⟩
abbrev B154 : CCode := (sR [(0,oZ 2 0 [2])] (sR [(0,oT 4 0 []),(1,oT 5 0 []),(2,oP 6 (.nc (.t 5)) []),(3,oF 7 2 6 [6]),(4,oL 8 1 7 [5,7]),(5,oC 9 .mul 8 6364136223846793005 [8]),(6,oC 10 .add 9 1442695040888963407
[9]),(7,oP 11 (.nc (.t 4)) []),(8,oF 12 2 11 [11]),(9,oS 1 12 10 [4,10,12])] (.seq (.reg true [(0,oT 13 0 []),(1,oP 14 (.nc (.t 13)) []),(2,oF 15 2 14 [14]),(3,oL 16 1 15 [13,15]),(4,oP 17 (.bin .shr (.t 16) (.c (.int
.u64 (33)))) [16]),(5,oT 18 0 []),(6,oP 19 (.nc (.t 18)) []),(7,oF 20 2 19 [19]),(8,oL 21 1 20 [18,20]),(9,oP 22 (.bin .shr (.t 21) (.c (.int .u64 (45)))) [21]),(10,oB 23 .xor 17 22 [17,22]),(11,oC 24 .and 23 255
[23]),(12,oT 3 24 [24])]) (.seq (.seq (.reg true [(0,oT 25 0 []),(1,oP 26 (.nc (.t 25)) []),(2,oF 27 1 26 [26]),(3,oL 28 1 27 [25,27]),(4,oT 29 0 []),(5,oP 30 (.nc (.t 29)) []),(6,oF 31 0 30 [30]),(7,oL 32 1 31
[31]),(8,oN 33 32 [29,32]),(9,oB 34 .lss 28 33 [28,33])]) (.cond (.t 34) (sK [34] (.seq (.reg true [(0,oT 35 3 [3]),(1,oT 36 0 []),(2,oP 37 (.nc (.t 36)) []),(3,oF 38 0 37 [37]),(4,oL 39 1 38 [38]),(5,oT 40 0 []),(6,oP
41 (.nc (.t 40)) []),(7,oF 42 1 41 [41]),(8,oL 43 1 42 [40,42]),(9,oI 44 1 39 43 [39]),(10,oL 45 1 44 [36,43,44]),(11,oP 46 (.conv .i64 (.t 45)) [45]),(12,oB 47 .add 35 46 [35,46]),(13,oC 48 .and 47 255 [47]),(14,oT 3
48 [48])]) (.reg false [(0,oT 49 0 []),(1,oT 50 0 []),(2,oP 51 (.nc (.t 50)) []),(3,oF 52 1 51 [51]),(4,oL 53 1 52 [50,52]),(5,oC 54 .add 53 1 [53]),(6,oP 55 (.nc (.t 49)) []),(7,oF 56 1 55 [55]),(8,oS 1 56 54
[49,54,56])]))) (sK [34] .skip))) (sR [(0,oT 57 3 [3]),(1,oT 2 57 [57])] .ret)))))
def C154 : CFn := ⟨58,1,[.t 2],B154⟩
abbrev L155_0 : CCode := (sR [(0,oB 37 .lss 36 35 [])] (.seq (.cond (.t 37) (sK [37] .skip) (sK [0,1,2,4,5,8,34,35,36,37] (.exit 0))) (.seq (.block 1 (sR [(0,oT 38 36 []),(1,oI 39 2 34 36 []),(2,oM 40 2 39 [39]),(3,oP
10 (.al [.int .i64 (0),.nils]) []),(4,oT 9 38 [38]),(5,oS 2 10 40 [40])] (.seq (sR [(0,oF 41 0 10 []),(1,oL 42 1 41 [41]),(2,oF 43 0 8 []),(3,oL 44 1 43 [43]),(4,oB 45 .neq 42 44 [42,44])] (.cond (.t 45) (sK [9,10,45]
(.exit 1)) (sK [45] .skip))) (sR [(0,oT 47 0 []),(1,oF 48 1 8 []),(2,oL 49 1 48 [48]),(3,oF 50 1 10 []),(4,oL 51 1 50 [50]),(5,oP 52 (.call 157 [.t 47,.t 49,.t 51]) [10,47,49,51]),(6,oT 46 52 [52]),(7,oP 53 (.ex (.t 46)
0) []),(8,oP 54 (.ex (.t 46) 1) [46]),(9,oT 11 53 [53]),(10,oT 12 54 [54])] (sR [(0,oT 55 12 [12])] (.cond (.t 55) (sK [55] (.reg true [(0,oL 56 1 5 []),(1,oT 57 11 [11]),(2,oT 58 1 []),(4,oT 60 9 [9]),(5,oP 61 (.bsl 1
1 [.int .i64 (0)] [(0,1,(.t 60))]) [60]),(3,⟨some 59,.call 156 [.t 58],none,[(5,1)],[58]⟩),(6,⟨some 62,.app 1 8 (.t 59) (.t 61),none,[(5,1)],[59,61]⟩),(7,oP 63 (.callv (.t 56) [.t 57,.t 62]) [56,57,62,63])])) (sK
[9,11,55] .skip))))))) (.reg false [(0,oC 64 .add 36 1 [36]),(1,oT 36 64 [64])]))))
abbrev B155 : CCode := (.seq (sR [(0,oT 13 1 []),(1,oN 14 13 [13]),(2,oF 15 1 2 []),(3,oL 16 1 15 [15]),(4,oN 17 16 [16]),(5,oB 18 .eql 14 17 [14,17])] (.cond (.t 18) (sK [2,4,5,18] (.seq (.reg true [(0,oL 19 1 3
[]),(1,oT 20 0 [0]),(3,oT 22 1 [1]),(2,⟨some 21,.call 156 [.t 20],none,[(3,1)],[20]⟩),(4,⟨some 23,.call 156 [.t 22],none,[(3,1)],[22]⟩),(5,oP 24 (.bld [.nils,.nils] [(0,1,(.t 21)),(1,1,(.t 23))]) [21,23]),(6,oP 25 (.bsl
2 1 [.nils,.nils] [(0,2,(.t 24))]) [24]),(7,oP 26 (.app 2 48 (.t 19) (.t 25)) [19,25]),(8,oS 1 3 26 [26])]) .ret)) (sK [18] .skip))) (sR [(0,oF 27 1 2 []),(1,oL 28 1 27 [27]),(2,oT 29 1 []),(3,oN 30 29 [29]),(4,oI 31 2
28 30 [28]),(5,oM 32 2 31 [31]),(6,oP 8 (.al [.int .i64 (0),.nils]) []),(7,oS 2 8 32 [30,32])] (sR [(0,oF 33 1 4 []),(1,oL 34 1 33 [33]),(2,oN 35 34 []),(3,oZ 36 0 [])] (.block 0 (.loop L155_0)))))
def C155 : CFn := ⟨65,6,[],B155⟩
abbrev B156 : CCode := (sR [(0,oP 2 (.mv (.c (.nils))) [2])] (.seq (sR [(0,oT 3 0 []),(1,oP 4 (.isnil false (.t 3)) [3])] (.cond (.t 4) (sK [0,4] (sR [(0,oP 2 (.mv (.c (.nils))) [])] .ret)) (sK [4] .skip))) (sR [(0,oP 5
(.bsl 1 0 [.int .i64 (0)] []) []),(1,oT 6 0 [0]),(2,oP 7 (.app 1 8 (.t 5) (.t 6)) [5,6]),(3,oT 2 7 [7])] .ret)))
def C156 : CFn := ⟨8,1,[.t 2],B156⟩
abbrev L157_0 : CCode := (sR [(0,oB 16 .lss 15 14 [])] (.seq (.cond (.t 16) (sK [16] .skip) (sK [2,13,14,15,16] (.exit 0))) (.seq (.block 1 (sR [(0,oT 17 15 []),(1,oI 18 1 13 15 []),(2,oL 19 1 18 [18]),(3,oT 9 17
[17]),(4,oT 10 19 [19])] (.block 2 (sR [(0,oT 21 10 []),(1,oP 22 (.call 183 [.t 21]) [21]),(2,oP 23 (.not (.t 22)) [22]),(3,oT 20 23 [23])] (.cond (.t 20) (sK [20] (.seq (.reg true [(0,oT 24 10 [10]),(2,oT 26 2
[]),(3,oT 27 9 [9]),(4,oI 28 1 26 27 []),(5,oL 29 1 28 []),(1,⟨some 25,.call 184 [.t 24],none,[(28,1)],[24,26,27,28]⟩),(6,oB 30 .neq 25 29 [25,29])]) (.cond (.t 30) (sK [2,8,13,14,15,30] (sR [(0,oP 6 (.mv (.c (.nils)))
[]),(1,oY 7 false [])] .ret)) (sK [30] .skip)))) (sK [20] (sR [(0,oT 32 8 []),(1,oT 33 10 []),(2,oI 34 1 32 33 []),(3,oL 35 1 34 [32,33,34]),(4,oC 36 .lss 35 0 [35]),(5,oT 31 36 [36])] (.cond (.t 31) (sK [31] (.reg
false [(0,oT 37 8 []),(1,oT 38 10 [10]),(2,oT 39 2 []),(3,oT 40 9 [9]),(4,oI 41 1 39 40 []),(5,oL 42 1 41 [39,40,41]),(6,oI 43 1 37 38 []),(7,oS 1 43 42 [37,38,42,43])])) (sK [31] (.seq (.reg true [(0,oT 45 8 []),(1,oT
46 10 [10]),(2,oI 47 1 45 46 []),(3,oL 48 1 47 [45,46,47]),(4,oT 49 2 []),(5,oT 50 9 [9]),(6,oI 51 1 49 50 []),(7,oL 52 1 51 [49,50,51]),(8,oB 53 .neq 48 52 [48,52]),(9,oT 44 53 [53])]) (.cond (.t 44) (sK
[2,8,13,14,15,44] (sR [(0,oP 6 (.mv (.c (.nils))) []),(1,oY 7 false [])] .ret)) (sK [44] .skip)))))))))))) (.reg false [(0,oC 54 .add 15 1 [15]),(1,oT 15 54 [54])]))))
abbrev B157 : CCode := (sR [(0,oP 6 (.mv (.c (.nils))) [6]),(1,oY 7 false [7])] (sR [(0,oT 11 0 [0]),(1,oP 12 (.call 156 [.t 11]) [11]),(2,oT 8 12 [12])] (.seq (sR [(0,oT 13 1 [1]),(1,oN 14 13 []),(2,oZ 15 0 [])]
(.block 0 (.loop L157_0))) (sR [(0,oT 55 8 [8]),(1,oT 6 55 [55]),(2,oY 7 true [])] .ret))))
def C157 : CFn := ⟨56,3,[.t 6,.t 7],B157⟩
abbrev B158 : CCode := (sR [(0,oP 2 (.mv (.c (.nils))) [2])] (sR [(0,oP 3 (.bsl 1 1 [.int .i64 (0)] [(0,1,(.c (.int .i64 (-1))))]) []),(1,oT 4 0 [0]),(2,oP 5 (.call 185 [.t 3,.t 4]) [3,4]),(3,oT 2 5 [5])] .ret))
def C158 : CFn := ⟨6,1,[.t 2],B158⟩
abbrev L161_0 : CCode := (sR [(0,oB 14 .lss 13 12 [])] (.seq (.cond (.t 14) (sK [14] .skip) (sK [0,1,12,13,14] (.exit 0))) (.seq (.block 1 (sR [(0,oT 15 13 []),(1,oT 5 15 [15])] (.seq (.reg true [(0,oT 16 0 []),(1,oT 17
5 []),(2,oI 18 1 16 17 []),(3,oL 19 1 18 [16,17,18]),(4,oT 20 1 []),(5,oT 21 5 [5]),(6,oI 22 1 20 21 []),(7,oL 23 1 22 [20,21,22]),(8,oB 24 .neq 19 23 [19,23])]) (.cond (.t 24) (sK [0,1,12,13,24] (sR [(0,oY 4 false [])]
.ret)) (sK [24] .skip))))) (.reg false [(0,oC 25 .add 13 1 [13]),(1,oT 13 25 [25])]))))
abbrev B161 : CCode := (sR [(0,oY 4 false [4])] (.seq (sR [(0,oT 6 0 []),(1,oN 7 6 [6]),(2,oT 8 1 []),(3,oN 9 8 [8]),(4,oB 10 .neq 7 9 [7,9])] (.cond (.t 10) (sK [0,1,10] (sR [(0,oY 4 false [])] .ret)) (sK [10] .skip)))
(.seq (sR [(0,oT 11 0 []),(1,oN 12 11 [11]),(2,oZ 13 0 [])] (.block 0 (.loop L161_0))) (sR [(0,oY 4 true [])] .ret))))
def C161 : CFn := ⟨26,2,[.t 4],B161⟩
abbrev L162_0 : CCode := (.seq (sR [(0,oT 29 12 []),(1,oF 30 1 5 []),(2,oL 31 1 30 [30]),(3,oN 32 31 [31]),(4,oB 33 .lss 29 32 [29,32])] (.cond (.t 33) (sK [33] .skip) (sK [2,3,4,5,6,12,33] (.exit 0)))) (.seq (.block 1
(.seq (.reg true [(0,oF 37 1 6 []),(1,oL 38 1 37 [37]),(2,oT 39 2 []),(3,oI 40 2 38 39 [38]),(4,oM 41 2 40 [40]),(5,oF 42 1 5 []),(6,oL 43 1 42 [42]),(7,oT 44 12 []),(8,oI 45 2 43 44 [43]),(9,oM 46 2 45 [45]),(10,oT 47
3 []),(11,oP 48 (.call 197 [.t 41,.t 46,.t 47]) [39,41,44,46,47]),(12,oT 36 48 [48]),(13,oP 49 (.ex (.t 36) 0) []),(14,oP 50 (.ex (.t 36) 1) [36]),(15,oT 13 49 [49]),(16,oT 14 50 [50])]) (sR [(0,oT 51 14 [14])] (.cond
(.t 51) (sK [51] (.reg true [(0,oT 52 11 [11]),(1,oM 53 2 5 []),(2,oM 54 3 6 []),(3,oT 55 2 []),(4,oC 56 .add 55 1 [55]),(5,oT 57 13 [13]),(6,oP 58 (.bsl 1 0 [.int .i64 (0)] []) []),(7,oT 59 4 []),(9,oT 61 12 []),(10,oP
62 (.bsl 1 1 [.int .i64 (0)] [(0,1,(.t 61))]) [61]),(8,⟨some 60,.app 1 8 (.t 58) (.t 59),none,[(5,2),(6,3)],[58,59]⟩),(11,⟨some 63,.app 1 8 (.t 60) (.t 62),none,[(5,2),(6,3)],[60,62]⟩),(12,oP 64 (.call 162 [.t 53,.t
54,.t 56,.t 57,.t 63]) [53,54,56,57,63]),(13,oP 65 (.app 2 48 (.t 52) (.t 64)) [52,64]),(14,oT 11 65 [65])])) (sK [13,51] .skip))))) (.reg false [(0,oT 34 12 [12]),(1,oC 35 .add 34 1 [34]),(2,oT 12 35 [35])])))
abbrev B162 : CCode := (sR [(0,oP 5 (.box 2 (.t 0)) [0]),(1,oP 6 (.box 3 (.t 1)) [1]),(2,oP 10 (.mv (.c (.nils))) [10])] (.seq (sR [(0,oT 15 2 []),(1,oF 16 1 6 []),(2,oL 17 1 16 [16]),(3,oN 18 17 [17]),(4,oB 19 .eql 15
18 [15,18])] (.cond (.t 19) (sK [2,5,6,19] (sR [(0,oP 20 (.bsl 1 0 [.int .i64 (0)] []) []),(1,oT 21 3 [3]),(2,oP 22 (.app 1 8 (.t 20) (.t 21)) [20,21]),(3,oP 23 (.bsl 1 0 [.int .i64 (0)] []) []),(4,oT 24 4 [4]),(5,oP 25
(.app 1 8 (.t 23) (.t 24)) [23,24]),(6,oP 26 (.bld [.nils,.nils] [(0,1,(.t 22)),(1,1,(.t 25))]) [22,25]),(7,oP 27 (.bsl 2 1 [.nils,.nils] [(0,2,(.t 26))]) [26]),(8,oT 10 27 [27])] .ret)) (sK [19] .skip))) (sR [(0,oP 28
(.bsl 2 0 [.nils,.nils] []) []),(1,oT 11 28 [28])] (.seq (sR [(0,oZ 12 0 [])] (.block 0 (.loop L162_0))) (sR [(0,oT 66 11 [11]),(1,oT 10 66 [66])] .ret)))))
def C162 : CFn := ⟨67,5,[.t 10],B162⟩
abbrev L163_0 : CCode := (.seq (sR [(0,oT 5 3 []),(1,oN 6 5 [5]),(2,oT 7 0 []),(3,oB 8 .lss 6 7 [6,7])] (.cond (.t 8) (sK [8] .skip) (sK [0,8] (.exit 0)))) (.block 1 (.reg false [(0,oT 9 3 [3]),(1,oP 10 (.bsl 1 1 [.int
.i64 (0)] [(0,1,(.c (.int .i64 (-1))))]) []),(2,oP 11 (.app 1 8 (.t 9) (.t 10)) [9,10]),(3,oT 3 11 [11])])))
abbrev B163 : CCode := (sR [(0,oP 2 (.mv (.c (.nils))) [2])] (sR [(0,oP 4 (.bsl 1 0 [.int .i64 (0)] []) []),(1,oT 3 4 [4])] (.seq (.block 0 (.loop L163_0)) (sR [(0,oT 12 3 [3]),(1,oT 2 12 [12])] .ret))))
def C163 : CFn := ⟨13,1,[.t 2],B163⟩
abbrev B164 : CCode := (sR [(0,oP 1 (.box 2 (.t 0)) [0]),(1,oY 2 false [2])] (.seq (.reg true [(0,oM 3 2 1 []),(1,oP 4 (.call 49 [.t 3]) [3]),(2,oT 5 4 [4]),(3,oG 6 (.ld 2 true (.t 1)) 5 true []),(6,oG 9 (.fa 1 (.t 1))
5 true []),(7,oG 10 (.ld 1 false (.t 9)) 5 true []),(8,oG 11 (.len (.t 10)) 5 true [10]),(4,⟨some 7,.call 63 [.t 6],some (5,true),[(9,1)],[1,6,9]⟩),(5,oG 8 (.len (.t 7)) 5 true [7]),(9,oG 12 (.bin .eql (.t 8) (.t 11)) 5
true [8,11]),(10,oP 13 (.pick (.t 5) (.t 12) (.c (.bool false))) [5,12]),(11,oT 2 13 [13])]) .ret))
def C164 : CFn := ⟨14,1,[.t 2],B164⟩
abbrev B165 : CCode := (sR [(0,oP 2 (.mv (.c (.nils))) [2])] (sR [(0,oP 3 (.bld [.str [],.int .i64 (0),.int .i64 (0)] [(0,1,(.c (.str [114]))),(1,1,(.c (.int .i64 2))),(2,1,(.c (.int .i64 1)))]) []),(1,oP 4 (.bld [.str
[],.int .i64 (0),.int .i64 (0)] [(0,1,(.c (.str [115]))),(1,1,(.c (.int .i64 2))),(2,1,(.c (.int .i64 1)))]) []),(2,oT 5 0 []),(3,oP 6 (.bsl 1 4 [.int .i64 (0)] [(0,1,(.c (.int .i64 1))),(1,1,(.c (.int .i64
1))),(2,1,(.c (.int .i64 2))),(3,1,(.c (.int .i64 0)))]) []),(4,oP 7 (.call 166 [.t 5,.t 6]) [5,6]),(5,oP 8 (.bld [.str [],.int .i64 (0),.int .i64 (0)] [(0,1,(.c (.str [116]))),(1,1,(.c (.int .i64 2))),(2,1,(.t 7))])
[7]),(6,oT 9 0 []),(7,oP 10 (.call 105 [.t 9,(.c (.int .i64 2))]) [9]),(8,oP 11 (.bin .add (.c (.int .i64 1)) (.t 10)) [10]),(9,oP 12 (.bld [.str [],.int .i64 (0),.int .i64 (0)] [(0,1,(.c (.str [117]))),(1,1,(.c (.int
.i64 3))),(2,1,(.t 11))]) [11]),(10,oP 13 (.bsl 3 4 [.str [],.int .i64 (0),.int .i64 (0)] [(0,3,(.t 3)),(3,3,(.t 4)),(6,3,(.t 8)),(9,3,(.t 12))]) [3,4,8,12]),(11,oT 2 13 [13])] .ret))
def C165 : CFn := ⟨14,1,[.t 2],B165⟩
abbrev B166 : CCode := (sR [(0,oZ 4 0 [4])] (sR [(0,oT 5 1 []),(1,oT 6 0 []),(2,oT 7 1 []),(3,oN 8 7 [7]),(4,oP 9 (.call 105 [.t 6,.t 8]) [6,8]),(5,oI 10 1 5 9 []),(6,oL 11 1 10 [5,9,10]),(7,oT 4 11 [11])] .ret))
def C166 : CFn := ⟨12,2,[.t 4],B166⟩
abbrev L167_0 : CCode := (.seq (.seq (.reg true [(0,oT 33 7 []),(1,oF 34 1 6 []),(2,oL 35 1 34 [34]),(3,oN 36 35 [35]),(4,oB 37 .lss 33 36 [33,36]),(5,oT 38 37 [37]),(6,oG 39 (.fa 1 (.t 6)) 38 true []),(7,oG 40 (.ld 1
false (.t 39)) 38 true [39]),(8,oG 41 (.mv (.t 7)) 38 true []),(9,oG 42 (.ia 2 (.t 40) (.t 41)) 38 true [40]),(10,oG 43 (.ld 2 true (.t 42)) 38 true [42]),(11,oG 44 (.ld 2 true (.t 3)) 38 true []),(12,oG 45 (.call 44
[.t 43,.t 44]) 38 true [41,43,44]),(13,oG 46 (.bin .lss (.t 45) (.c (.int .i64 0))) 38 true [45]),(14,oP 47 (.pick (.t 38) (.t 46) (.c (.bool false))) [38,46])]) (.cond (.t 47) (sK [47] .skip) (sK [47] (.exit 0))))
(.block 1 (.reg false [(0,oT 48 7 [7]),(1,oC 49 .add 48 1 [48]),(2,oT 7 49 [49])])))
abbrev B167 : CCode := (sR [(0,oP 2 (.box 2 (.t 0)) [0]),(1,oP 3 (.box 2 (.t 1)) [1]),(2,oP 4 (.al [.nils,.nils]) []),(3,oY 5 false [5])] (sR [(0,oM 9 2 2 []),(1,oP 10 (.call 40 [.t 9]) [9]),(2,oP 6 (.al [.nils,.nils])
[]),(3,oS 2 6 10 [10])] (.seq (sR [(0,oM 11 2 2 []),(1,oP 12 (.call 49 [.t 11]) [11]),(2,oP 13 (.not (.t 12)) [12]),(3,oT 14 13 [13]),(4,oG 15 (.fa 0 (.t 2)) 14 false []),(5,oG 16 (.ld 1 false (.t 15)) 14 false
[15]),(6,oG 17 (.ld 2 true (.t 3)) 14 false []),(7,oG 18 (.call 94 [.t 16,.t 17]) 14 false [16,17]),(8,oG 19 (.not (.t 18)) 14 false [18]),(9,oP 20 (.pick (.t 14) (.c (.bool true)) (.t 19)) [14,19]),(10,oT 21 20
[20]),(11,oG 22 (.ld 2 true (.t 2)) 21 false []),(12,oG 23 (.ld 2 true (.t 3)) 21 false []),(13,oG 24 (.call 198 [.t 22,.t 23]) 21 false [22,23]),(14,oP 25 (.pick (.t 21) (.c (.bool true)) (.t 24)) [21,24]),(15,oT 26 25
[25]),(16,oG 27 (.fa 1 (.t 2)) 26 false []),(17,oG 28 (.ld 1 false (.t 27)) 26 false [27]),(18,oG 29 (.len (.t 28)) 26 false [2,28]),(19,oG 30 (.bin .eql (.t 29) (.c (.int .i64 14))) 26 false [29]),(20,oP 31 (.pick (.t
26) (.c (.bool true)) (.t 30)) [26,30])] (.cond (.t 31) (sK [3,31] (sR [(0,oM 32 2 6 []),(1,oS 2 4 32 [6,32]),(2,oY 5 false [])] .ret)) (sK [31] .skip))) (sR [(0,oZ 7 0 [])] (.seq (.block 0 (.loop L167_0)) (.seq (.reg
true [(0,oF 50 0 3 []),(1,oL 51 1 50 []),(2,oP 52 (.bsl 1 0 [.int .i64 (0)] []) []),(3,oF 53 1 3 []),(4,oL 54 1 53 [53]),(8,oF 58 1 6 []),(9,oL 59 1 58 []),(10,oT 60 7 []),(11,oP 61 (.sls 2 (.t 59) (some (.t 60)) none
none) [59,60]),(5,⟨some 55,.app 1 8 (.t 52) (.t 54),none,[(50,1),(58,1)],[3,50,52,54,58]⟩),(6,oP 56 (.bld [.int .i64 (0),.nils] [(0,1,(.t 51)),(1,1,(.t 55))]) [51,55]),(7,oP 57 (.bsl 2 1 [.int .i64 (0),.nils] [(0,2,(.t
56))]) [56]),(12,oP 62 (.app 2 32 (.t 57) (.t 61)) [57,61]),(13,oT 8 62 [62])]) (sR [(0,oP 63 (.bsl 2 0 [.int .i64 (0),.nils] []) []),(1,oF 64 1 6 []),(2,oL 65 1 64 [64]),(3,oT 66 7 [7]),(4,oP 67 (.sls 2 (.t 65) none
(some (.t 66)) none) [65,66]),(5,oP 68 (.app 2 32 (.t 63) (.t 67)) [63,67]),(6,oT 69 8 [8]),(7,oP 70 (.app 2 32 (.t 68) (.t 69)) [68,69]),(8,oF 71 1 6 []),(9,oS 1 71 70 [70,71])] (sR [(0,oM 72 2 6 []),(1,oS 2 4 72
[6,72]),(2,oY 5 true [])] .ret))))))))
def C167 : CFn := ⟨73,2,[.m 4 2 true,.t 5],B167⟩
abbrev L168_0 : CCode := (.seq (.seq (.reg true [(0,oF 13 1 7 []),(1,oL 14 1 13 [13]),(2,oN 15 14 [14]),(3,oT 16 1 []),(4,oF 17 0 7 []),(5,oL 18 1 17 [17]),(6,oI 19 3 16 18 []),(7,oF 20 1 19 [19]),(8,oL 21 1 20
[16,18,20]),(9,oB 22 .lss 15 21 [15,21])]) (.cond (.t 22) (sK [22] .skip) (sK [1,2,22] (.exit 0)))) (.block 1 (.reg true [(0,oF 23 1 7 []),(1,oL 24 1 23 []),(2,oT 25 0 []),(3,oT 26 2 []),(4,⟨some 27,.call 105 [.t 25,.t
26],none,[(23,1)],[23,25,26]⟩),(5,oP 28 (.bsl 1 1 [.int .i64 (0)] [(0,1,(.t 27))]) [27]),(6,oP 29 (.app 1 8 (.t 24) (.t 28)) [24,28]),(7,oF 30 1 7 []),(8,oS 1 30 29 [29,30])])))
abbrev B168 : CCode := (sR [(0,oP 6 (.al [.int .i64 (0),.nils]) [])] (sR [(0,oT 8 0 []),(1,oT 9 1 []),(2,oN 10 9 [9]),(3,oP 11 (.call 105 [.t 8,.t 10]) [8,10]),(4,oP 12 (.bld [.int .i64 (0),.nils] [(0,1,(.t 11))])
[11]),(5,oP 7 (.al [.int .i64 (0),.nils]) []),(6,oS 2 7 12 [12])] (.seq (.block 0 (.loop L168_0)) (sR [(0,oM 31 2 7 []),(1,oS 2 6 31 [7,31])] .ret))))
def C168 : CFn := ⟨32,3,[.m 6 2 true],B168⟩
abbrev L169_1 : CCode := (.seq (sR [(0,oT 34 10 []),(1,oC 35 .gtr 34 0 [34])] (.cond (.t 35) (sK [35] .skip) (sK [10,35] (.exit 2)))) (.seq (.block 3 (sR [(0,oT 38 0 []),(1,oP 39 (.call 149 [.t 38,(.c (.int .i64 12))])
[38])] (.cond (.t 39) (sK [39] (.reg true [(0,oF 40 1 9 []),(1,oL 41 1 40 []),(2,oT 42 0 []),(3,⟨some 43,.call 105 [.t 42,(.c (.int .i64 2))],none,[(40,1)],[40,42]⟩),(4,oP 44 (.bin .sub (.c (.int .i64 (-1))) (.t 43))
[43]),(5,oP 45 (.bsl 1 1 [.int .i64 (0)] [(0,1,(.t 44))]) [44]),(6,oP 46 (.app 1 8 (.t 41) (.t 45)) [41,45]),(7,oF 47 1 9 []),(8,oS 1 47 46 [46,47])])) (sK [39] (.reg true [(0,oF 48 1 9 []),(1,oL 49 1 48 []),(2,oT 50 0
[]),(3,oT 51 5 []),(4,⟨some 52,.call 105 [.t 50,.t 51],none,[(48,1)],[48,50,51]⟩),(5,oP 53 (.bsl 1 1 [.int .i64 (0)] [(0,1,(.t 52))]) [52]),(6,oP 54 (.app 1 8 (.t 49) (.t 53)) [49,53]),(7,oF 55 1 9 []),(8,oS 1 55 54
[54,55])]))))) (.reg false [(0,oT 36 10 [10]),(1,oC 37 .sub 36 1 [36]),(2,oT 10 37 [37])])))
abbrev L169_0 : CCode := (.seq (sR [(0,oT 20 7 []),(1,oT 21 4 []),(2,oB 22 .lss 20 21 [20,21])] (.cond (.t 22) (sK [22] .skip) (sK [4,5,6,7,22] (.exit 0)))) (.seq (.block 1 (sR [(0,oT 25 6 []),(1,oT 26 7 []),(2,oB 27
.add 25 26 [25,26]),(3,oC 28 .rem 27 4 [27]),(4,oT 8 28 [28])] (sR [(0,oT 29 8 []),(1,oP 30 (.bld [.int .i64 (0),.nils] [(0,1,(.t 29))]) [29]),(2,oP 9 (.al [.int .i64 (0),.nils]) []),(3,oS 2 9 30 [30])] (.seq (sR [(0,oT
31 8 [8]),(1,oC 32 .quo 31 3 [31]),(2,oP 33 (.bin .add (.c (.int .i64 2)) (.t 32)) [32]),(3,oT 10 33 [33])] (.block 2 (.loop L169_1))) (.reg false [(0,oF 56 1 3 []),(1,oL 57 1 56 [56]),(2,oM 58 2 9 []),(3,oP 59 (.bsl 2
1 [.int .i64 (0),.nils] [(0,2,(.t 58))]) [9,58]),(4,oP 60 (.app 2 32 (.t 57) (.t 59)) [57,59]),(5,oF 61 1 3 []),(6,oS 1 61 60 [60,61])]))))) (.reg false [(0,oT 23 7 [7]),(1,oC 24 .add 23 1 [23]),(2,oT 7 24 [24])])))
abbrev B169 : CCode := (sR [(0,oP 2 (.al [.int .i64 (0),.nils,.nils]) [])] (sR [(0,oP 11 (.bld [.int .i64 (0),.nils,.nils] []) []),(1,oP 3 (.al [.int .i64 (0),.nils,.nils]) []),(2,oS 3 3 11 [11])] (sR [(0,oT 12 0
[]),(1,oP 13 (.call 105 [.t 12,(.c (.int .i64 3))]) [12]),(2,oP 14 (.bin .add (.c (.int .i64 1)) (.t 13)) [13]),(3,oT 4 14 [14])] (sR [(0,oT 15 0 []),(1,oP 16 (.call 105 [.t 15,(.c (.int .i64 4))]) [15]),(2,oP 17 (.bin
.add (.c (.int .i64 1)) (.t 16)) [16]),(3,oT 5 17 [17])] (sR [(0,oT 18 0 []),(1,oP 19 (.call 105 [.t 18,(.c (.int .i64 4))]) [18]),(2,oT 6 19 [19])] (.seq (sR [(0,oZ 7 0 [])] (.block 0 (.loop L169_0))) (sR [(0,oM 62 3 3
[]),(1,oP 63 (.call 199 [.t 62]) [3,62]),(2,oS 3 2 63 [63])] .ret)))))))
def C169 : CFn := ⟨64,1,[.m 2 3 true],B169⟩
abbrev B170 : CCode := (sR [(0,oP 4 (.al [.int .i64 (0),.nils,.nils]) [])] (sR [(0,oT 8 1 []),(1,oT 9 0 []),(2,oP 10 (.bsl 1 10 [.str []] [(0,1,(.c (.str [63,114,120,124,121,32,115,121,124,122]))),(1,1,(.c (.str
[63,114,120,124,121,32,115,121,124,120]))),(2,1,(.c (.str [63,114,120,124,121,32,115,122,124,121]))),(3,1,(.c (.str [63,114,120,124,121,32,115,120,124,122]))),(4,1,(.c (.str [63,114,120,124,49]))),(5,1,(.c (.str
[63,114,120,124,120]))),(6,1,(.c (.str [63,114,120,124,121,32,115,121,124,49]))),(7,1,(.c (.str [63,114,120,124,121,32,115,121,124,122,32,114]))),(8,1,(.c (.str [63,114,120,124,121]))),(9,1,(.c (.str
[63,114,120,124,122,32,115,121,124,122])))]) []),(3,oP 11 (.call 201 [.t 9,.t 10]) [9,10]),(4,oP 12 (.call 200 [.t 8,.t 11]) [8,11]),(5,oT 7 12 [12]),(6,oP 13 (.ex (.t 7) 0) []),(7,oP 14 (.ex (.t 7) 1) [7]),(8,oP 5 (.al
[.int .i64 (0),.nils,.nils]) []),(9,oS 3 5 13 [13]),(10,oT 6 14 [14])] (.seq (sR [(0,oT 15 6 [6]),(1,oP 16 (.not (.t 15)) [15])] (.cond (.t 16) (sK [16] (.reg false [(0,oT 18 1 [1]),(1,oP 19 (.call 200 [.t 18,(.c (.str
[63,114,120,124,121,32,115,121,124,122]))]) [18]),(2,oT 17 19 [19]),(3,oP 20 (.ex (.t 17) 0) []),(4,oP 21 (.ex (.t 17) 1) [17,21]),(5,oS 3 5 20 [20])])) (sK [1,16] .skip))) (sR [(0,oM 22 3 5 []),(1,oS 3 4 22 [5,22])]
.ret))))
def C170 : CFn := ⟨23,2,[.m 4 3 true],B170⟩
abbrev B173 : CCode := (sR [(0,oP 1 (.box 3 (.t 0)) [0]),(1,oY 2 false [2])] (sR [(0,oF 3 0 1 []),(1,oL 4 1 3 [3]),(2,oP 5 (.lens (.t 4)) [4]),(3,oC 6 .eql 5 1 [5]),(4,oT 7 6 [6]),(5,oG 8 (.fa 0 (.t 1)) 7 true []),(6,oG
9 (.ld 1 false (.t 8)) 7 true [8]),(7,oG 10 (.ix (.t 9) (.c (.int .i64 0))) 7 true [9]),(8,oG 11 (.bin .geq (.t 10) (.c (.int .u8 (97)))) 7 true [10]),(9,oP 12 (.pick (.t 7) (.t 11) (.c (.bool false))) [7,11]),(10,oT 13
12 [12]),(11,oG 14 (.fa 0 (.t 1)) 13 true []),(12,oG 15 (.ld 1 false (.t 14)) 13 true [14]),(13,oG 16 (.ix (.t 15) (.c (.int .i64 0))) 13 true [15]),(14,oG 17 (.bin .leq (.t 16) (.c (.int .u8 (122)))) 13 true
[16]),(15,oP 18 (.pick (.t 13) (.t 17) (.c (.bool false))) [13,17]),(16,oT 19 18 [18]),(17,oG 20 (.fa 1 (.t 1)) 19 true []),(18,oG 21 (.ld 1 false (.t 20)) 19 true [20]),(19,oG 22 (.call 59 [.t 21,(.c (.int .i64 1)),(.c
(.int .i64 3))]) 19 true [21]),(20,oP 23 (.pick (.t 19) (.t 22) (.c (.bool false))) [19,22]),(21,oT 24 23 [23]),(22,oG 25 (.fa 2 (.t 1)) 24 true []),(23,oG 26 (.ld 1 false (.t 25)) 24 true [25]),(24,oG 27 (.fa 1 (.t 1))
24 true []),(25,oG 28 (.ld 1 false (.t 27)) 24 true [1,27]),(26,oG 29 (.call 59 [.t 26,(.c (.int .i64 0)),.t 28]) 24 true [26,28]),(27,oP 30 (.pick (.t 24) (.t 29) (.c (.bool false))) [24,29]),(28,oT 2 30 [30])] .ret))
def C173 : CFn := ⟨31,1,[.t 2],B173⟩
abbrev B174 : CCode := (sR [(0,oY 2 false [2])] (sR [(0,oT 3 0 [0]),(1,oP 4 (.call 146 [.t 3,(.c (.fn 202 []))]) [3]),(2,oP 5 (.not (.t 4)) [4]),(3,oT 2 5 [5])] .ret))
def C174 : CFn := ⟨6,1,[.t 2],B174⟩
abbrev B175 : CCode := (sR [(0,oZ 4 0 [4])] (.seq (.block 0 (sR [(0,oT 6 0 []),(1,oT 7 1 []),(2,oB 8 .lss 6 7 [6,7]),(3,oT 5 8 [8])] (.cond (.t 5) (sK [0,1,5] (sR [(0,oZ 4 (-1) [])] .ret)) (sK [5] (sR [(0,oT 10 0
[0]),(1,oT 11 1 [1]),(2,oB 12 .gtr 10 11 [10,11]),(3,oT 9 12 [12])] (.cond (.t 9) (sK [9] (sR [(0,oZ 4 1 [])] .ret)) (sK [9] .skip))))))) (sR [(0,oZ 4 0 [])] .ret)))
def C175 : CFn := ⟨13,2,[.t 4],B175⟩
abbrev L176_0 : CCode := (sR [(0,oB 12 .lss 11 10 [])] (.seq (.cond (.t 12) (sK [12] .skip) (sK [9,10,11,12] (.exit 0))) (.seq (.block 1 (sR [(0,oT 13 11 []),(1,oI 14 1 9 11 []),(2,oL 15 1 14 [14]),(3,oT 5 13
[13]),(4,oT 6 15 [15])] (.seq (sR [(0,oT 16 5 []),(1,oT 17 1 []),(2,oN 18 17 [17]),(3,oB 19 .geq 16 18 [16,18])] (.cond (.t 19) (sK [0,1,5,6,9,10,11,19] (sR [(0,oZ 4 1 [])] .ret)) (sK [19] .skip))) (sR [(0,oT 20 1
[]),(1,oT 21 5 [5]),(2,oI 22 1 20 21 []),(3,oL 23 1 22 [20,21,22]),(4,oT 7 23 [23])] (sR [(0,oT 24 6 [6]),(1,oT 25 7 [7]),(2,oP 26 (.call 203 [.t 24,.t 25]) [24,25]),(3,oT 8 26 [26])] (sR [(0,oT 27 8 []),(1,oC 28 .neq
27 0 [27])] (.cond (.t 28) (sK [0,1,9,10,11,28] (sR [(0,oT 29 8 [8]),(1,oT 4 29 [29])] .ret)) (sK [8,28] .skip)))))))) (.reg false [(0,oC 30 .add 11 1 [11]),(1,oT 11 30 [30])]))))
abbrev B176 : CCode := (sR [(0,oZ 4 0 [4])] (.seq (sR [(0,oT 9 0 []),(1,oN 10 9 []),(2,oZ 11 0 [])] (.block 0 (.loop L176_0))) (.seq (sR [(0,oT 31 0 [0]),(1,oN 32 31 [31]),(2,oT 33 1 [1]),(3,oN 34 33 [33]),(4,oB 35 .lss
32 34 [32,34])] (.cond (.t 35) (sK [35] (sR [(0,oZ 4 (-1) [])] .ret)) (sK [35] .skip))) (sR [(0,oZ 4 0 [])] .ret))))
def C176 : CFn := ⟨36,2,[.t 4],B176⟩
abbrev L177_0 : CCode := (sR [(0,oB 9 .lss 8 7 [])] (.seq (.cond (.t 9) (sK [9] .skip) (sK [0,1,7,8,9] (.exit 0))) (.seq (.block 1 (sR [(0,oT 10 8 []),(1,oT 5 10 [10])] (sR [(0,oT 11 1 []),(1,oT 12 0 []),(2,oT 13 5
[]),(3,oI 14 2 12 13 []),(4,oM 15 2 14 [14]),(5,oP 16 (.callv (.t 11) [.t 15]) [11,12,13,15])] (.cond (.t 16) (sK [0,1,7,8,16] (sR [(0,oT 17 5 [5]),(1,oT 4 17 [17])] .ret)) (sK [5,16] .skip))))) (.reg false [(0,oC 18
.add 8 1 [8]),(1,oT 8 18 [18])]))))
abbrev B177 : CCode := (sR [(0,oZ 4 0 [4])] (.seq (sR [(0,oT 6 0 []),(1,oN 7 6 [6]),(2,oZ 8 0 [])] (.block 0 (.loop L177_0))) (sR [(0,oZ 4 (-1) [])] .ret)))
def C177 : CFn := ⟨19,2,[.t 4],B177⟩
abbrev B178 : CCode := (sR [(0,oP 4 (.mv (.c (.nils))) [4])] (.seq (sR [(0,oT 5 1 []),(1,oC 6 .lss 5 0 [5])] (.cond (.t 6) (sK [6] (.reg false [(0,oP 7 .fail [7]),(1,⟨none,.fail,none,[],[]⟩)])) (sK [6] .skip))) (.seq
(sR [(0,oT 8 1 [1]),(1,oT 9 0 []),(2,oP 10 (.cap (.t 9)) [9]),(3,oT 11 0 []),(4,oN 12 11 [11]),(5,oB 13 .sub 10 12 [10,12]),(6,oB 14 .sub 8 13 [8,13]),(7,oT 1 14 [14])] (sR [(0,oT 15 1 []),(1,oC 16 .gtr 15 0 [15])]
(.cond (.t 16) (sK [16] (.reg false [(0,oT 17 0 []),(1,oT 18 0 []),(2,oP 19 (.cap (.t 18)) [18]),(3,oP 20 (.sls 1 (.t 17) none (some (.t 19)) none) [17,19]),(4,oT 21 1 [1]),(5,oP 22 (.appm 1 8 [.int .i64 (0)] (.t 20)
(.t 21)) [20,21]),(6,oT 23 0 [0]),(7,oN 24 23 [23]),(8,oP 25 (.sls 1 (.t 22) none (some (.t 24)) none) [22,24]),(9,oT 0 25 [25])])) (sK [1,16] .skip)))) (sR [(0,oT 26 0 [0]),(1,oT 4 26 [26])] .ret))))
def C178 : CFn := ⟨27,2,[.t 4],B178⟩
abbrev L180_0 : CCode := (sR [(0,oB 9 .lss 8 7 [])] (.seq (.cond (.t 9) (sK [9] .skip) (sK [0,1,7,8,9] (.exit 0))) (.seq (.block 1 (sR [(0,oT 10 8 []),(1,oT 5 10 [10])] (sR [(0,oT 11 1 []),(1,oT 12 0 []),(2,oT 13 5
[]),(3,oI 14 1 12 13 []),(4,oL 15 1 14 [12,13,14]),(5,oP 16 (.callv (.t 11) [.t 15]) [11,15])] (.cond (.t 16) (sK [0,1,7,8,16] (sR [(0,oT 17 5 [5]),(1,oT 4 17 [17])] .ret)) (sK [5,16] .skip))))) (.reg false [(0,oC 18
.add 8 1 [8]),(1,oT 8 18 [18])]))))
abbrev B180 : CCode := (sR [(0,oZ 4 0 [4])] (.seq (sR [(0,oT 6 0 []),(1,oN 7 6 [6]),(2,oZ 8 0 [])] (.block 0 (.loop L180_0))) (sR [(0,oZ 4 (-1) [])] .ret)))
def C180 : CFn := ⟨19,2,[.t 4],B180⟩
abbrev L181_2 : CCode := (.seq (sR [(0,oT 61 11 []),(1,oF 62 1 2 []),(2,oL 63 1 62 [62]),(3,oN 64 63 [63]),(4,oB 65 .lss 61 64 [61,64])] (.cond (.t 65) (sK [65] .skip) (sK [11,65] (.exit 4)))) (.seq (.block 5 (sR [(0,oP
68 (.bsl 1 0 [.int .i64 (0)] []) []),(1,oT 69 6 []),(2,oT 70 9 []),(3,oI 71 1 69 70 []),(4,oL 72 1 71 [71]),(5,oP 73 (.app 1 8 (.t 68) (.t 72)) [68,69,70,72]),(6,oT 74 11 []),(7,oP 75 (.bsl 1 1 [.int .i64 (0)] [(0,1,(.t
74))]) [74]),(8,oP 76 (.app 1 8 (.t 73) (.t 75)) [73,75]),(9,oT 12 76 [76])] (sR [(0,oM 77 2 2 []),(1,oT 78 12 []),(2,oP 79 (.call 114 [.t 77,.t 78]) [77,78])] (.cond (.t 79) (sK [79] (.reg false [(0,oT 80 8 [8]),(1,oT
81 12 [12]),(2,oP 82 (.bsl 1 1 [.nils] [(0,1,(.t 81))]) [81]),(3,oP 83 (.app 1 24 (.t 80) (.t 82)) [80,82]),(4,oT 8 83 [83])])) (sK [12,79] .skip))))) (.reg false [(0,oT 66 11 [11]),(1,oC 67 .add 66 1 [66]),(2,oT 11 67
[67])])))
abbrev L181_1 : CCode := (.seq (sR [(0,oT 35 9 []),(1,oT 36 6 []),(2,oN 37 36 [36]),(3,oB 38 .lss 35 37 [35,37])] (.cond (.t 38) (sK [38] .skip) (sK [6,9,38] (.exit 2)))) (.seq (.block 3 (sR [(0,oZ 10 0 [])] (.seq (sR
[(0,oT 41 6 []),(1,oT 42 9 []),(2,oI 43 1 41 42 []),(3,oL 44 1 43 [43]),(4,oN 45 44 [41,42,44]),(5,oC 46 .gtr 45 0 [45])] (.cond (.t 46) (sK [10,46] (.reg true [(0,oT 47 6 []),(1,oT 48 9 []),(2,oI 49 1 47 48 []),(3,oL
50 1 49 [49]),(4,oT 51 6 []),(5,oT 52 9 []),(6,oI 53 1 51 52 []),(7,oL 54 1 53 [53]),(8,oN 55 54 [51,52,54]),(9,oC 56 .sub 55 1 [55]),(10,oI 57 1 50 56 [50]),(11,oL 58 1 57 [47,48,56,57]),(12,oC 59 .add 58 1
[58]),(13,oT 10 59 [59])])) (sK [46] .skip))) (sR [(0,oT 60 10 [10]),(1,oT 11 60 [60])] (.block 4 (.loop L181_2)))))) (.reg false [(0,oT 39 9 [9]),(1,oC 40 .add 39 1 [39]),(2,oT 9 40 [40])])))
abbrev L181_0 : CCode := (.seq (sR [(0,oT 29 7 []),(1,oT 30 1 []),(2,oB 31 .lss 29 30 [29,30])] (.cond (.t 31) (sK [31] .skip) (sK [1,2,6,7,31] (.exit 0)))) (.seq (.block 1 (sR [(0,oP 34 (.bsl 1 0 [.nils] []) []),(1,oT
8 34 [34])] (.seq (sR [(0,oZ 9 0 [])] (.block 2 (.loop L181_1))) (sR [(0,oT 84 5 [5]),(1,oT 85 8 []),(2,oP 86 (.app 1 24 (.t 84) (.t 85)) [84,85]),(3,oT 5 86 [86])] (.reg false [(0,oT 87 8 [8]),(1,oT 6 87 [87])])))))
(.reg false [(0,oT 32 7 [7]),(1,oC 33 .add 32 1 [32]),(2,oT 7 33 [33])])))
abbrev B181 : CCode := (sR [(0,oP 2 (.box 2 (.t 0)) [0]),(1,oP 4 (.mv (.c (.nils))) [4])] (sR [(0,oP 13 (.bsl 1 0 [.nils] []) []),(1,oT 5 13 [13])] (.seq (sR [(0,oM 14 2 2 []),(1,oP 15 (.call 49 [.t 14]) [14]),(2,oP 16
(.not (.t 15)) [15]),(3,oT 17 16 [16]),(4,oG 18 (.mv (.t 1)) 17 false []),(5,oG 19 (.call 87 [.t 18,(.c (.int .i64 0)),(.c (.int .i64 3))]) 17 false [18]),(6,oG 20 (.not (.t 19)) 17 false [19]),(7,oP 21 (.pick (.t 17)
(.c (.bool true)) (.t 20)) [17,20])] (.cond (.t 21) (sK [1,2,21] (sR [(0,oT 22 5 [5]),(1,oT 4 22 [22])] .ret)) (sK [21] .skip))) (sR [(0,oP 23 (.bsl 1 0 [.int .i64 (0)] []) []),(1,oP 24 (.bsl 1 1 [.nils] [(0,1,(.t
23))]) [23]),(2,oT 6 24 [24])] (sR [(0,oT 25 5 [5]),(1,oP 26 (.bsl 1 0 [.int .i64 (0)] []) []),(2,oP 27 (.bsl 1 1 [.nils] [(0,1,(.t 26))]) [26]),(3,oP 28 (.app 1 24 (.t 25) (.t 27)) [25,27]),(4,oT 5 28 [28])] (.seq (sR
[(0,oZ 7 0 [])] (.block 0 (.loop L181_0))) (sR [(0,oT 88 5 [5]),(1,oT 4 88 [88])] .ret)))))))
def C181 : CFn := ⟨89,2,[.t 4],B181⟩
abbrev L182_0 : CCode := (.seq (sR [(0,oT 6 5 []),(1,oT 7 0 []),(2,oN 8 7 [7]),(3,oB 9 .lss 6 8 [6,8])] (.cond (.t 9) (sK [9] .skip) (sK [0,1,5,9] (.exit 0)))) (.seq (.block 1 (sR [(0,oT 12 1 []),(1,oT 13 0 []),(2,oT 14
5 []),(3,oI 15 2 13 14 []),(4,oF 16 0 15 [15]),(5,oL 17 1 16 [13,14,16]),(6,oP 18 (.call 42 [.t 12,.t 17]) [12,17]),(7,oT 19 18 [18]),(8,oG 20 (.mv (.t 1)) 19 true []),(9,oG 21 (.mv (.t 0)) 19 true []),(10,oG 22 (.mv
(.t 5)) 19 true []),(11,oG 23 (.ia 2 (.t 21) (.t 22)) 19 true []),(12,oG 24 (.fa 1 (.t 23)) 19 true [23]),(13,oG 25 (.ld 1 false (.t 24)) 19 true [21,22,24]),(14,oG 26 (.call 42 [.t 20,.t 25]) 19 true [20,25]),(15,oP 27
(.pick (.t 19) (.t 26) (.c (.bool false))) [19,26])] (.cond (.t 27) (sK [0,1,5,27] (sR [(0,oY 4 false [])] .ret)) (sK [27] .skip)))) (.reg false [(0,oT 10 5 [5]),(1,oC 11 .add 10 1 [10]),(2,oT 5 11 [11])])))
abbrev B182 : CCode := (sR [(0,oY 4 false [4])] (.seq (sR [(0,oZ 5 0 [])] (.block 0 (.loop L182_0))) (sR [(0,oY 4 true [])] .ret)))
def C182 : CFn := ⟨28,2,[.t 4],B182⟩
abbrev B183 : CCode := (sR [(0,oY 2 false [2])] (sR [(0,oT 3 0 [0]),(1,oC 4 .geq 3 0 [3]),(2,oT 2 4 [4])] .ret))
def C183 : CFn := ⟨5,1,[.t 2],B183⟩
abbrev B184 : CCode := (sR [(0,oZ 2 0 [2])] (sR [(0,oT 3 0 [0]),(1,oP 4 (.bin .sub (.c (.int .i64 (-1))) (.t 3)) [3]),(2,oT 2 4 [4])] .ret))
def C184 : CFn := ⟨5,1,[.t 2],B184⟩
abbrev L185_0 : CCode := (.seq (sR [(0,oT 34 8 []),(1,oT 35 7 []),(2,oN 36 35 [35]),(3,oB 37 .lss 34 36 [34,36])] (.cond (.t 37) (sK [37] .skip) (sK [8,37] (.exit 0)))) (.block 1 (.reg true [(0,oT 38 8 []),(1,oT 39 7
[]),(2,oT 40 8 []),(3,oP 41 (.sls 1 (.t 39) (some (.t 40)) none none) [39,40]),(4,oT 42 7 []),(5,oT 43 8 [8]),(6,oP 44 (.sls 1 (.t 42) none (some (.t 43)) none) [42,43]),(7,oP 45 (.cpy 1 (.t 41) (.t 44)) [41,44]),(8,oB
46 .add 38 45 [38,45]),(9,oT 8 46 [46])])))
abbrev B185 : CCode := (sR [(0,oP 4 (.mv (.c (.nils))) [4])] (.seq (sR [(0,oT 9 1 []),(1,oC 10 .lss 9 0 [9])] (.cond (.t 10) (sK [10] (.reg false [(0,oP 11 .fail [11]),(1,⟨none,.fail,none,[],[]⟩)])) (sK [10] .skip)))
(sR [(0,oT 13 0 []),(1,oN 14 13 [13]),(2,oP 15 (.conv .u64 (.t 14)) [14]),(3,oT 16 1 [1]),(4,oP 17 (.conv .u64 (.t 16)) [16]),(5,oP 18 (.call 204 [.t 15,.t 17]) [15,17]),(6,oT 12 18 [18]),(7,oP 19 (.ex (.t 12) 0)
[]),(8,oP 20 (.ex (.t 12) 1) [12]),(9,oT 5 19 [19]),(10,oT 6 20 [20])] (.seq (sR [(0,oT 21 5 [5]),(1,oP 22 (.bin .gtr (.t 21) (.c (.int .u64 (0)))) [21]),(2,oT 23 22 [22]),(3,oG 24 (.mv (.t 6)) 23 false []),(4,oG 25
(.bin .gtr (.t 24) (.c (.int .u64 (9223372036854775807)))) 23 false [24]),(5,oP 26 (.pick (.t 23) (.c (.bool true)) (.t 25)) [23,25])] (.cond (.t 26) (sK [26] (.reg false [(0,oP 27 .fail
[27]),(1,⟨none,.fail,none,[],[]⟩)])) (sK [26] .skip))) (sR [(0,oT 28 6 [6]),(1,oP 29 (.conv .i64 (.t 28)) [28]),(2,oP 30 (.mk 1 8 [.int .i64 (0)] (.t 29) (.t 29)) [29]),(3,oT 7 30 [30])] (sR [(0,oT 31 7 []),(1,oT 32 0
[0]),(2,oP 33 (.cpy 1 (.t 31) (.t 32)) [31,32]),(3,oT 8 33 [33])] (.seq (.block 0 (.loop L185_0)) (sR [(0,oT 47 7 [7]),(1,oT 4 47 [47])] .ret))))))))
def C185 : CFn := ⟨48,2,[.t 4],B185⟩
abbrev L197_0 : CCode := (.seq (sR [(0,oT 29 9 []),(1,oF 30 1 3 []),(2,oL 31 1 30 [30]),(3,oN 32 31 [31]),(4,oB 33 .lss 29 32 [29,32])] (.cond (.t 33) (sK [33] .skip) (sK [3,4,9,33] (.exit 0)))) (.seq (.block 1 (sR
[(0,oF 36 1 3 []),(1,oL 37 1 36 [36]),(2,oT 38 9 []),(3,oI 39 1 37 38 [37]),(4,oL 40 1 39 [38,39]),(5,oT 10 40 [40])] (.seq (sR [(0,oT 41 10 []),(1,oC 42 .lss 41 0 [41])] (.cond (.t 42) (sK [42] (.seq (sR [(0,oT 43 10
[10]),(1,oP 44 (.bin .sub (.c (.int .i64 (-1))) (.t 43)) [43]),(2,oF 45 1 4 []),(3,oL 46 1 45 [45]),(4,oT 47 9 []),(5,oI 48 1 46 47 [46]),(6,oL 49 1 48 [47,48]),(7,oB 50 .neq 44 49 [44,49])] (.cond (.t 50) (sK
[3,4,9,50] (sR [(0,oT 51 8 [8]),(1,oT 6 51 [51]),(2,oY 7 false [])] .ret)) (sK [50] .skip))) (.exit 1))) (sK [42] .skip))) (.seq (.seq (.reg true [(0,oT 52 8 []),(1,oT 53 10 []),(2,oI 54 1 52 53 []),(3,oL 55 1 54
[52,53,54]),(4,oC 56 .geq 55 0 [55]),(5,oT 57 56 [56]),(6,oG 58 (.mv (.t 8)) 57 true []),(7,oG 59 (.mv (.t 10)) 57 true []),(8,oG 60 (.ia 1 (.t 58) (.t 59)) 57 true []),(9,oG 61 (.ld 1 false (.t 60)) 57 true
[58,59,60]),(10,oG 62 (.fa 1 (.t 4)) 57 true []),(11,oG 63 (.ld 1 false (.t 62)) 57 true [62]),(12,oG 64 (.mv (.t 9)) 57 true []),(13,oG 65 (.ia 1 (.t 63) (.t 64)) 57 true [63]),(14,oG 66 (.ld 1 false (.t 65)) 57 true
[64,65]),(15,oG 67 (.bin .neq (.t 61) (.t 66)) 57 true [61,66]),(16,oP 68 (.pick (.t 57) (.t 67) (.c (.bool false))) [57,67])]) (.cond (.t 68) (sK [3,4,9,10,68] (sR [(0,oT 69 8 [8]),(1,oT 6 69 [69]),(2,oY 7 false [])]
.ret)) (sK [68] .skip))) (.reg false [(0,oT 70 8 []),(1,oT 71 10 [10]),(2,oF 72 1 4 []),(3,oL 73 1 72 [72]),(4,oT 74 9 []),(5,oI 75 1 73 74 [73]),(6,oL 76 1 75 [74,75]),(7,oI 77 1 70 71 []),(8,oS 1 77 76
[70,71,76,77])]))))) (.reg false [(0,oT 34 9 [9]),(1,oC 35 .add 34 1 [34]),(2,oT 9 35 [35])])))
abbrev B197 : CCode := (sR [(0,oP 3 (.box 2 (.t 0)) [0]),(1,oP 4 (.box 2 (.t 1)) [1]),(2,oP 6 (.mv (.c (.nils))) [6]),(3,oY 7 false [7])] (sR [(0,oP 11 (.bsl 1 0 [.int .i64 (0)] []) []),(1,oT 12 2 [2]),(2,oP 13 (.app 1
8 (.t 11) (.t 12)) [11,12]),(3,oT 8 13 [13])] (.seq (sR [(0,oF 14 0 4 []),(1,oL 15 1 14 [14]),(2,oF 16 0 3 []),(3,oL 17 1 16 [16]),(4,oB 18 .neq 15 17 [15,17]),(5,oT 19 18 [18]),(6,oG 20 (.fa 1 (.t 4)) 19 false
[]),(7,oG 21 (.ld 1 false (.t 20)) 19 false [20]),(8,oG 22 (.len (.t 21)) 19 false [21]),(9,oG 23 (.fa 1 (.t 3)) 19 false []),(10,oG 24 (.ld 1 false (.t 23)) 19 false [23]),(11,oG 25 (.len (.t 24)) 19 false [24]),(12,oG
26 (.bin .neq (.t 22) (.t 25)) 19 false [22,25]),(13,oP 27 (.pick (.t 19) (.c (.bool true)) (.t 26)) [19,26])] (.cond (.t 27) (sK [3,4,27] (sR [(0,oT 28 8 [8]),(1,oT 6 28 [28]),(2,oY 7 false [])] .ret)) (sK [27]
.skip))) (.seq (sR [(0,oZ 9 0 [])] (.block 0 (.loop L197_0))) (sR [(0,oT 78 8 [8]),(1,oT 6 78 [78]),(2,oY 7 true [])] .ret)))))
def C197 : CFn := ⟨79,3,[.t 6,.t 7],B197⟩
abbrev B198 : CCode := (sR [(0,oP 2 (.box 2 (.t 0)) [0]),(1,oP 3 (.box 2 (.t 1)) [1]),(2,oY 4 false [4])] (sR [(0,oM 5 2 2 []),(1,oP 6 (.call 49 [.t 5]) [5]),(2,oT 7 6 [6]),(3,oG 8 (.ld 2 true (.t 2)) 7 true []),(4,oG 9
(.ld 2 true (.t 3)) 7 true []),(5,oG 10 (.call 211 [.t 8,.t 9]) 7 true [2,3,8,9]),(6,oG 11 (.bin .geq (.t 10) (.c (.int .i64 0))) 7 true [10]),(7,oP 12 (.pick (.t 7) (.t 11) (.c (.bool false))) [7,11]),(8,oT 4 12 [12])]
.ret))
def C198 : CFn := ⟨13,2,[.t 4],B198⟩
abbrev L199_2 : CCode := (.seq (sR [(0,oT 42 9 []),(1,oT 43 4 []),(2,oN 44 43 [43]),(3,oB 45 .lss 42 44 [42,44])] (.cond (.t 45) (sK [45] .skip) (sK [9,45] (.exit 4)))) (.seq (.block 5 (sR [(0,oT 48 4 []),(1,oT 49 9
[]),(2,oI 50 1 48 49 []),(3,oL 51 1 50 [48,49,50]),(4,oT 52 7 []),(5,oB 53 .eql 51 52 [51,52])] (.cond (.t 53) (sK [8,53] (.reg false [(0,oT 54 9 []),(1,oT 8 54 [54])])) (sK [53] .skip)))) (.reg false [(0,oT 46 9
[9]),(1,oC 47 .add 46 1 [46]),(2,oT 9 47 [47])])))
abbrev L199_1 : CCode := (.seq (sR [(0,oT 20 6 []),(1,oF 21 1 3 []),(2,oL 22 1 21 [21]),(3,oT 23 5 []),(4,oI 24 2 22 23 [22]),(5,oF 25 1 24 [24]),(6,oL 26 1 25 [25]),(7,oN 27 26 [23,26]),(8,oB 28 .lss 20 27 [20,27])]
(.cond (.t 28) (sK [28] .skip) (sK [6,28] (.exit 2)))) (.seq (.block 3 (sR [(0,oF 31 1 3 []),(1,oL 32 1 31 [31]),(2,oT 33 5 []),(3,oI 34 2 32 33 [32]),(4,oF 35 1 34 [34]),(5,oL 36 1 35 [35]),(6,oT 37 6 []),(7,oI 38 1 36
37 [36]),(8,oL 39 1 38 [33,37,38]),(9,oT 7 39 [39])] (.seq (sR [(0,oT 40 7 []),(1,oC 41 .lss 40 0 [40])] (.cond (.t 41) (sK [7,41] (.exit 3)) (sK [41] .skip))) (sR [(0,oZ 8 (-1) [])] (.seq (sR [(0,oZ 9 0 [])] (.block 4
(.loop L199_2))) (.seq (sR [(0,oT 55 8 []),(1,oC 56 .lss 55 0 [55])] (.cond (.t 56) (sK [8,56] (sR [(0,oT 57 4 []),(1,oN 58 57 [57]),(2,oT 8 58 [58])] (.reg false [(0,oT 59 4 [4]),(1,oT 60 7 [7]),(2,oP 61 (.bsl 1 1
[.int .i64 (0)] [(0,1,(.t 60))]) [60]),(3,oP 62 (.app 1 8 (.t 59) (.t 61)) [59,61]),(4,oT 4 62 [62])]))) (sK [7,56] .skip))) (.reg false [(0,oF 63 1 3 []),(1,oL 64 1 63 [63]),(2,oT 65 5 []),(3,oI 66 2 64 65 [64]),(4,oF
67 1 66 [66]),(5,oL 68 1 67 [67]),(6,oT 69 6 []),(7,oT 70 8 [8]),(8,oI 71 1 68 69 [68]),(9,oS 1 71 70 [65,69,70,71])]))))))) (.reg false [(0,oT 29 6 [6]),(1,oC 30 .add 29 1 [29]),(2,oT 6 30 [30])])))
abbrev L199_0 : CCode := (.seq (sR [(0,oT 13 5 []),(1,oF 14 1 3 []),(2,oL 15 1 14 [14]),(3,oN 16 15 [15]),(4,oB 17 .lss 13 16 [13,16])] (.cond (.t 17) (sK [17] .skip) (sK [5,17] (.exit 0)))) (.seq (.block 1 (sR [(0,oZ 6
0 [])] (.block 2 (.loop L199_1)))) (.reg false [(0,oT 18 5 [5]),(1,oC 19 .add 18 1 [18]),(2,oT 5 19 [19])])))
abbrev B199 : CCode := (sR [(0,oP 1 (.box 3 (.t 0)) [0]),(1,oP 2 (.al [.int .i64 (0),.nils,.nils]) [])] (sR [(0,oM 10 3 1 []),(1,oP 11 (.call 212 [.t 10]) [1,10]),(2,oP 3 (.al [.int .i64 (0),.nils,.nils]) []),(3,oS 3 3
11 [11])] (sR [(0,oP 12 (.bsl 1 0 [.int .i64 (0)] []) []),(1,oT 4 12 [12])] (.seq (sR [(0,oZ 5 0 [])] (.block 0 (.loop L199_0))) (sR [(0,oT 72 4 [4]),(1,oN 73 72 [72]),(2,oF 74 0 3 []),(3,oS 1 74 73 [73,74])] (sR [(0,oM
75 3 3 []),(1,oS 3 2 75 [3,75])] .ret))))))
def C199 : CFn := ⟨76,1,[.m 2 3 true],B199⟩
abbrev L200_0 : CCode := (.seq (sR [(0,oT 24 8 []),(1,oT 25 6 []),(2,oP 26 (.ia 1 (.t 25) (.c (.int .i64 0))) []),(3,oL 27 1 26 [25,26]),(4,oP 28 (.lens (.t 27)) [27]),(5,oB 29 .lss 24 28 [24,28])] (.cond (.t 29) (sK
[29] .skip) (sK [8,29] (.exit 0)))) (.seq (.block 1 (sR [(0,oT 33 6 []),(1,oP 34 (.ia 1 (.t 33) (.c (.int .i64 0))) []),(2,oL 35 1 34 [33,34]),(3,oT 36 8 []),(4,oT 37 8 []),(5,oC 38 .add 37 1 [37]),(6,oP 39 (.sst (.t
35) (some (.t 36)) (some (.t 38))) [35,36,38]),(7,oP 40 (.call 214 [.t 39]) [39]),(8,oT 32 40 [40]),(9,oP 41 (.ex (.t 32) 0) []),(10,oP 42 (.ex (.t 32) 1) [32]),(11,oT 9 41 [41]),(12,oT 10 42 [10,42])] (.reg false
[(0,oF 43 2 7 []),(1,oL 44 1 43 [43]),(2,oT 45 9 [9]),(3,oP 46 (.bsl 1 1 [.int .i64 (0)] [(0,1,(.t 45))]) [45]),(4,oP 47 (.app 1 8 (.t 44) (.t 46)) [44,46]),(5,oF 48 2 7 []),(6,oS 1 48 47 [47,48])]))) (.reg false [(0,oT
30 8 [8]),(1,oC 31 .add 30 1 [30]),(2,oT 8 31 [31])])))
abbrev L200_2 : CCode := (.seq (sR [(0,oT 60 14 []),(1,oT 61 11 []),(2,oT 62 12 []),(3,oI 63 1 61 62 []),(4,oL 64 1 63 [61,62,63]),(5,oP 65 (.lens (.t 64)) [64]),(6,oB 66 .lss 60 65 [60,65])] (.cond (.t 66) (sK [66]
.skip) (sK [14,66] (.exit 4)))) (.seq (.block 5 (.seq (sR [(0,oT 69 14 []),(1,oC 70 .eql 69 0 [69])] (.cond (.t 70) (sK [70] (sR [(0,oT 71 0 []),(1,oT 72 11 []),(2,oT 73 12 []),(3,oI 74 1 72 73 []),(4,oL 75 1 74
[72,73,74]),(5,oP 76 (.sst (.t 75) none (some (.c (.int .i64 1)))) [75]),(6,oP 77 (.call 215 [.t 71,.t 76]) [71,76]),(7,oF 78 0 13 []),(8,oS 1 78 77 [77,78])] (.exit 5))) (sK [70] .skip))) (.seq (sR [(0,oT 79 11
[]),(1,oT 80 12 []),(2,oI 81 1 79 80 []),(3,oL 82 1 81 [79,80,81]),(4,oT 83 14 []),(5,oP 84 (.ix (.t 82) (.t 83)) [82,83]),(6,oP 85 (.bin .eql (.t 84) (.c (.int .u8 (124)))) [84])] (.cond (.t 85) (sK [85] (.exit 5)) (sK
[85] .skip))) (sR [(0,oT 87 11 []),(1,oT 88 12 []),(2,oI 89 1 87 88 []),(3,oL 90 1 89 [87,88,89]),(4,oT 91 14 []),(5,oT 92 14 []),(6,oC 93 .add 92 1 [92]),(7,oP 94 (.sst (.t 90) (some (.t 91)) (some (.t 93)))
[90,91,93]),(8,oP 95 (.call 214 [.t 94]) [94]),(9,oT 86 95 [95]),(10,oP 96 (.ex (.t 86) 0) []),(11,oP 97 (.ex (.t 86) 1) [86]),(12,oT 15 96 [96]),(13,oT 16 97 [16,97])] (sR [(0,oF 98 1 13 []),(1,oL 99 1 98 [98]),(2,oT
100 15 []),(3,oP 101 (.bsl 1 1 [.int .i64 (0)] [(0,1,(.t 100))]) [100]),(4,oP 102 (.app 1 8 (.t 99) (.t 101)) [99,101]),(5,oF 103 1 13 []),(6,oS 1 103 102 [102,103])] (.reg false [(0,oF 104 0 7 []),(1,oL 105 1 104
[104]),(2,oT 106 15 [15]),(3,oC 107 .add 106 1 [106]),(4,oP 108 (.max (.t 105) (.t 107)) [105,107]),(5,oF 109 0 7 []),(6,oS 1 109 108 [108,109])])))))) (.reg false [(0,oT 67 14 [14]),(1,oC 68 .add 67 1 [67]),(2,oT 14 68
[68])])))
abbrev L200_1 : CCode := (.seq (sR [(0,oT 53 12 []),(1,oT 54 11 []),(2,oN 55 54 [54]),(3,oB 56 .lss 53 55 [53,55])] (.cond (.t 56) (sK [56] .skip) (sK [11,12,56] (.exit 2)))) (.seq (.block 3 (sR [(0,oP 59 (.bld [.int
.i64 (0),.nils] []) []),(1,oP 13 (.al [.int .i64 (0),.nils]) []),(2,oS 2 13 59 [59])] (.seq (sR [(0,oZ 14 0 [])] (.block 4 (.loop L200_2))) (.reg false [(0,oF 110 1 7 []),(1,oL 111 1 110 [110]),(2,oM 112 2 13 []),(3,oP
113 (.bsl 2 1 [.int .i64 (0),.nils] [(0,2,(.t 112))]) [13,112]),(4,oP 114 (.app 2 32 (.t 111) (.t 113)) [111,113]),(5,oF 115 1 7 []),(6,oS 1 115 114 [114,115])])))) (.reg false [(0,oT 57 12 [12]),(1,oC 58 .add 57 1
[57]),(2,oT 12 58 [58])])))
abbrev B200 : CCode := (sR [(0,oP 4 (.al [.int .i64 (0),.nils,.nils]) []),(1,oY 5 false [5])] (sR [(0,oT 17 1 []),(1,oP 18 (.call 213 [.t 17,(.c (.int .u8 (63)))]) [17]),(2,oT 6 18 [18])] (.seq (sR [(0,oT 19 6 []),(1,oN
20 19 [19]),(2,oC 21 .neq 20 2 [20])] (.cond (.t 21) (sK [0,1,6,21] (sR [(0,oP 22 (.bld [.int .i64 (0),.nils,.nils] []) []),(1,oS 3 4 22 [22]),(2,oY 5 false [])] .ret)) (sK [21] .skip))) (sR [(0,oP 23 (.bld [.int .i64
(0),.nils,.nils] []) []),(1,oP 7 (.al [.int .i64 (0),.nils,.nils]) []),(2,oS 3 7 23 [23])] (.seq (sR [(0,oZ 8 0 [])] (.block 0 (.loop L200_0))) (sR [(0,oT 49 6 [6]),(1,oP 50 (.ia 1 (.t 49) (.c (.int .i64 1))) []),(2,oL
51 1 50 [49,50]),(3,oP 52 (.call 213 [.t 51,(.c (.int .u8 (32)))]) [51]),(4,oT 11 52 [52])] (.seq (sR [(0,oZ 12 0 [])] (.block 2 (.loop L200_1))) (.seq (sR [(0,oT 116 0 [0]),(1,oM 117 3 7 []),(2,oP 118 (.call 216 [.t
116,.t 117]) [116,117]),(3,oT 119 1 [1]),(4,oB 120 .neq 118 119 [118,119])] (.cond (.t 120) (sK [7,120] (sR [(0,oP 121 (.bld [.int .i64 (0),.nils,.nils] []) []),(1,oS 3 4 121 [121]),(2,oY 5 false [])] .ret)) (sK [120]
.skip))) (sR [(0,oM 122 3 7 []),(1,oS 3 4 122 [7,122]),(2,oY 5 true [])] .ret)))))))))
def C200 : CFn := ⟨123,2,[.m 4 3 true,.t 5],B200⟩
abbrev B201 : CCode := (sR [(0,oP 4 (.mv (.c (.str []))) [4])] (sR [(0,oT 5 1 []),(1,oT 6 0 []),(2,oT 7 1 []),(3,oN 8 7 [7]),(4,oP 9 (.call 105 [.t 6,.t 8]) [6,8]),(5,oI 10 1 5 9 []),(6,oL 11 1 10 [5,9,10]),(7,oT 4 11
[11])] .ret))
def C201 : CFn := ⟨12,2,[.t 4],B201⟩
abbrev B202 : CCode := (sR [(0,oY 2 false [2])] (sR [(0,oT 3 0 [0]),(1,oP 4 (.call 59 [.t 3,(.c (.int .i64 0)),(.c (.int .i64 9))]) [3]),(2,oP 5 (.not (.t 4)) [4]),(3,oT 2 5 [5])] .ret))
def C202 : CFn := ⟨6,1,[.t 2],B202⟩
abbrev B203 : CCode := (sR [(0,oZ 4 0 [4])] (sR [(0,oT 7 0 []),(1,oP 8 (.call 210 [.t 7]) [7]),(2,oT 5 8 [8])] (sR [(0,oT 9 1 []),(1,oP 10 (.call 210 [.t 9]) [9]),(2,oT 6 10 [10])] (.seq (sR [(0,oT 11 5 [5])] (.cond (.t
11) (sK [0,1,11] (.seq (sR [(0,oT 12 6 [6])] (.cond (.t 12) (sK [12] (sR [(0,oZ 4 0 [])] .ret)) (sK [12] .skip))) (sR [(0,oZ 4 (-1) [])] .ret))) (sK [11] .skip))) (.seq (sR [(0,oT 13 6 [6])] (.cond (.t 13) (sK [0,1,13]
(sR [(0,oZ 4 1 [])] .ret)) (sK [13] .skip))) (.seq (sR [(0,oT 14 0 []),(1,oT 15 1 []),(2,oB 16 .lss 14 15 [14,15])] (.cond (.t 16) (sK [0,1,16] (sR [(0,oZ 4 (-1) [])] .ret)) (sK [16] .skip))) (.seq (sR [(0,oT 17 0
[0]),(1,oT 18 1 [1]),(2,oB 19 .gtr 17 18 [17,18])] (.cond (.t 19) (sK [19] (sR [(0,oZ 4 1 [])] .ret)) (sK [19] .skip))) (sR [(0,oZ 4 0 [])] .ret))))))))
def C203 : CFn := ⟨20,2,[.t 4],B203⟩
abbrev B204 : CCode := (sR [(0,oP 4 (.mv (.c (.int .u64 (0)))) [4]),(1,oP 5 (.mv (.c (.int .u64 (0)))) [5])] (.seq (.cond (.c (.bool false)) (sR [(0,oT 11 0 [0]),(1,oP 12 (.conv .u32 (.t 11)) [11]),(2,oT 13 1 [1]),(3,oP
14 (.conv .u32 (.t 13)) [13]),(4,oP 15 (.call 217 [.t 12,.t 14]) [12,14]),(5,oT 10 15 [15]),(6,oP 16 (.ex (.t 10) 0) []),(7,oP 17 (.ex (.t 10) 1) [10]),(8,oT 6 16 [16]),(9,oT 7 17 [17])] (sR [(0,oT 18 6 [6]),(1,oP 19
(.conv .u64 (.t 18)) [18]),(2,oT 20 7 [7]),(3,oP 21 (.conv .u64 (.t 20)) [20]),(4,oT 4 19 [19]),(5,oT 5 21 [21])] .ret)) .skip) (sR [(0,oT 23 0 [0]),(1,oT 24 1 [1]),(2,oP 25 (.call 218 [.t 23,.t 24]) [23,24]),(3,oT 22
25 [25]),(4,oP 26 (.ex (.t 22) 0) []),(5,oP 27 (.ex (.t 22) 1) [22]),(6,oT 8 26 [26]),(7,oT 9 27 [27])] (sR [(0,oT 28 8 [8]),(1,oT 29 9 [9]),(2,oT 4 28 [28]),(3,oT 5 29 [29])] .ret))))
def C204 : CFn := ⟨30,2,[.t 4,.t 5],B204⟩
abbrev B210 : CCode := (sR [(0,oY 2 false [2])] (sR [(0,oT 3 0 []),(1,oT 4 0 [0]),(2,oB 5 .neq 3 4 [3,4]),(3,oT 2 5 [5])] .ret))
def C210 : CFn := ⟨6,1,[.t 2],B210⟩
abbrev L211_0 : CCode := (.seq (sR [(0,oT 6 5 []),(1,oF 7 1 2 []),(2,oL 8 1 7 [7]),(3,oN 9 8 [8]),(4,oB 10 .lss 6 9 [6,9])] (.cond (.t 10) (sK [10] .skip) (sK [2,3,5,10] (.exit 0)))) (.seq (.block 1 (.seq (.reg true
[(0,oF 13 1 2 []),(1,oL 14 1 13 [13]),(2,oT 15 5 []),(3,oI 16 2 14 15 [14]),(4,oM 17 2 16 [16]),(5,oM 18 2 3 []),(6,oP 19 (.call 44 [.t 17,.t 18]) [15,17,18]),(7,oC 20 .eql 19 0 [19])]) (.cond (.t 20) (sK [2,3,20] (sR
[(0,oT 21 5 [5]),(1,oT 4 21 [21])] .ret)) (sK [20] .skip)))) (.reg false [(0,oT 11 5 [5]),(1,oC 12 .add 11 1 [11]),(2,oT 5 12 [12])])))
abbrev B211 : CCode := (sR [(0,oP 2 (.box 2 (.t 0)) [0]),(1,oP 3 (.box 2 (.t 1)) [1]),(2,oZ 4 0 [4])] (.seq (sR [(0,oZ 5 0 [])] (.block 0 (.loop L211_0))) (sR [(0,oZ 4 (-1) [])] .ret)))
def C211 : CFn := ⟨22,2,[.t 4],B211⟩
abbrev L212_0 : CCode := (.seq (sR [(0,oT 12 4 []),(1,oF 13 1 1 []),(2,oL 14 1 13 [13]),(3,oN 15 14 [14]),(4,oB 16 .lss 12 15 [12,15])] (.cond (.t 16) (sK [16] .skip) (sK [1,4,16] (.exit 0)))) (.seq (.block 1 (.reg true
[(0,oF 19 1 3 []),(1,oL 20 1 19 []),(2,oF 21 1 1 []),(3,oL 22 1 21 []),(4,oT 23 4 []),(5,oI 24 2 22 23 [22]),(6,oF 25 0 24 [24]),(7,oL 26 1 25 []),(8,oP 27 (.bsl 1 0 [.int .i64 (0)] []) []),(9,oF 28 1 1 []),(10,oL 29 1
28 [28]),(11,oT 30 4 []),(12,oI 31 2 29 30 [29]),(13,oF 32 1 31 [31]),(14,oL 33 1 32 [32]),(15,⟨some 34,.app 1 8 (.t 27) (.t 33),none,[(19,1),(21,1),(25,1)],[19,21,23,25,27,30,33]⟩),(16,oP 35 (.bld [.int .i64 (0),.nils]
[(0,1,(.t 26)),(1,1,(.t 34))]) [26,34]),(17,oP 36 (.bsl 2 1 [.int .i64 (0),.nils] [(0,2,(.t 35))]) [35]),(18,oP 37 (.app 2 32 (.t 20) (.t 36)) [20,36]),(19,oF 38 1 3 []),(20,oS 1 38 37 [37,38])])) (.reg false [(0,oT 17
4 [4]),(1,oC 18 .add 17 1 [17]),(2,oT 4 18 [18])])))
abbrev B212 : CCode := (sR [(0,oP 1 (.box 3 (.t 0)) [0]),(1,oP 2 (.al [.int .i64 (0),.nils,.nils]) [])] (.seq (.reg true [(0,oF 5 0 1 []),(1,oL 6 1 5 []),(2,oP 7 (.bsl 1 0 [.int .i64 (0)] []) []),(3,oF 8 2 1 []),(4,oL 9
1 8 [8]),(7,oP 3 (.al [.int .i64 (0),.nils,.nils]) []),(5,⟨some 10,.app 1 8 (.t 7) (.t 9),none,[(5,1)],[5,7,9]⟩),(6,oP 11 (.bld [.int .i64 (0),.nils,.nils] [(0,1,(.t 6)),(2,1,(.t 10))]) [6,10]),(8,oS 3 3 11 [11])])
(.seq (sR [(0,oZ 4 0 [])] (.block 0 (.loop L212_0))) (sR [(0,oM 39 3 3 []),(1,oS 3 2 39 [3,39])] .ret))))
def C212 : CFn := ⟨40,1,[.m 2 3 true],B212⟩
abbrev L213_0 : CCode := (.seq (sR [(0,oT 9 7 []),(1,oT 10 0 []),(2,oP 11 (.lens (.t 10)) [10]),(3,oB 12 .lss 9 11 [9,11])] (.cond (.t 12) (sK [12] .skip) (sK [1,7,12] (.exit 0)))) (.seq (.block 1 (sR [(0,oT 15 0
[]),(1,oT 16 7 []),(2,oP 17 (.ix (.t 15) (.t 16)) [15,16]),(3,oT 18 1 []),(4,oB 19 .eql 17 18 [17,18])] (.cond (.t 19) (sK [19] (sR [(0,oT 20 5 [5]),(1,oT 21 0 []),(2,oT 22 6 [6]),(3,oT 23 7 []),(4,oP 24 (.sst (.t 21)
(some (.t 22)) (some (.t 23))) [21,22,23]),(5,oP 25 (.bsl 1 1 [.str []] [(0,1,(.t 24))]) [24]),(6,oP 26 (.app 1 16 (.t 20) (.t 25)) [20,25]),(7,oT 5 26 [26])] (.reg false [(0,oT 27 7 []),(1,oC 28 .add 27 1 [27]),(2,oT 6
28 [28])]))) (sK [19] .skip)))) (.reg false [(0,oT 13 7 [7]),(1,oC 14 .add 13 1 [13]),(2,oT 7 14 [14])])))
abbrev B213 : CCode := (sR [(0,oP 4 (.mv (.c (.nils))) [4])] (sR [(0,oP 8 (.bsl 1 0 [.str []] []) []),(1,oT 5 8 [8])] (sR [(0,oZ 6 0 [])] (.seq (sR [(0,oZ 7 0 [])] (.block 0 (.loop L213_0))) (sR [(0,oT 29 5 [5]),(1,oT
30 0 [0]),(2,oT 31 6 [6]),(3,oP 32 (.sst (.t 30) (some (.t 31)) none) [30,31]),(4,oP 33 (.bsl 1 1 [.str []] [(0,1,(.t 32))]) [32]),(5,oP 34 (.app 1 16 (.t 29) (.t 33)) [29,33]),(6,oT 4 34 [34])] .ret)))))
def C213 : CFn := ⟨35,2,[.t 4],B213⟩
abbrev L214_0 : CCode := (.seq (sR [(0,oT 5 4 []),(1,oC 6 .lss 5 4 [5])] (.cond (.t 6) (sK [6] .skip) (sK [0,4,6] (.exit 0)))) (.seq (.block 1 (sR [(0,oT 9 4 []),(1,oP 10 (.call 220 [.t 9]) [9]),(2,oT 11 0 []),(3,oB 12
.eql 10 11 [10,11])] (.cond (.t 12) (sK [0,12] (sR [(0,oT 13 4 [4]),(1,oT 2 13 [13]),(2,oY 3 true [])] .ret)) (sK [12] .skip)))) (.reg false [(0,oT 7 4 [4]),(1,oC 8 .add 7 1 [7]),(2,oT 4 8 [8])])))
abbrev B214 : CCode := (sR [(0,oZ 2 0 [2]),(1,oY 3 false [3])] (.seq (sR [(0,oZ 4 (-10) [])] (.block 0 (.loop L214_0))) (sR [(0,oZ 2 0 []),(1,oY 3 false [])] .ret)))
def C214 : CFn := ⟨14,1,[.t 2,.t 3],B214⟩
abbrev L215_0 : CCode := (.seq (sR [(0,oT 6 5 []),(1,oT 7 0 []),(2,oN 8 7 [7]),(3,oB 9 .lss 6 8 [6,8])] (.cond (.t 9) (sK [9] .skip) (sK [0,1,5,9] (.exit 0)))) (.seq (.block 1 (sR [(0,oT 12 0 []),(1,oT 13 5 []),(2,oI 14
3 12 13 []),(3,oF 15 0 14 [14]),(4,oL 16 1 15 [12,13,15]),(5,oT 17 1 []),(6,oB 18 .eql 16 17 [16,17])] (.cond (.t 18) (sK [0,1,18] (sR [(0,oT 19 5 [5]),(1,oT 4 19 [19])] .ret)) (sK [18] .skip)))) (.reg false [(0,oT 10 5
[5]),(1,oC 11 .add 10 1 [10]),(2,oT 5 11 [11])])))
abbrev B215 : CCode := (sR [(0,oZ 4 0 [4])] (.seq (sR [(0,oZ 5 0 [])] (.block 0 (.loop L215_0))) (sR [(0,oZ 4 (-1) [])] .ret)))
def C215 : CFn := ⟨20,2,[.t 4],B215⟩
abbrev L216_0 : CCode := (.seq (sR [(0,oT 12 6 []),(1,oF 13 2 3 []),(2,oL 14 1 13 [13]),(3,oN 15 14 [14]),(4,oB 16 .lss 12 15 [12,15])] (.cond (.t 16) (sK [16] .skip) (sK [6,16] (.exit 0)))) (.seq (.block 1 (.reg false
[(0,oT 19 5 [5]),(1,oF 20 2 3 []),(2,oL 21 1 20 [20]),(3,oT 22 6 []),(4,oI 23 1 21 22 [21]),(5,oL 24 1 23 [22,23]),(6,oP 25 (.call 220 [.t 24]) [24]),(7,oB 26 .add 19 25 [19,25]),(8,oT 5 26 [26])])) (.reg false [(0,oT
17 6 [6]),(1,oC 18 .add 17 1 [17]),(2,oT 6 18 [18])])))
abbrev L216_1 : CCode := (.seq (sR [(0,oT 29 7 []),(1,oF 30 1 3 []),(2,oL 31 1 30 [30]),(3,oN 32 31 [31]),(4,oB 33 .lss 29 32 [29,32])] (.cond (.t 33) (sK [33] .skip) (sK [0,3,7,33] (.exit 2)))) (.seq (.block 3 (.seq
(sR [(0,oT 36 7 []),(1,oC 37 .gtr 36 0 [36])] (.cond (.t 37) (sK [37] (.reg false [(0,oT 38 5 [5]),(1,oP 39 (.bin .add (.t 38) (.c (.str [32]))) [38]),(2,oT 5 39 [39])])) (sK [37] .skip))) (.reg false [(0,oT 40 5
[5]),(1,oT 41 0 []),(2,oF 42 1 3 []),(3,oL 43 1 42 [42]),(4,oT 44 7 []),(5,oI 45 2 43 44 [43]),(6,oM 46 2 45 [45]),(7,oP 47 (.call 221 [.t 41,.t 46]) [41,44,46]),(8,oB 48 .add 40 47 [40,47]),(9,oT 5 48 [48])]))) (.reg
false [(0,oT 34 7 [7]),(1,oC 35 .add 34 1 [34]),(2,oT 7 35 [35])])))
abbrev B216 : CCode := (sR [(0,oP 3 (.box 3 (.t 1)) [1]),(1,oP 4 (.mv (.c (.str []))) [4])] (.seq (sR [(0,oT 8 0 []),(1,oM 9 3 3 []),(2,oP 10 (.call 50 [.t 8,.t 9]) [8,9]),(3,oP 11 (.not (.t 10)) [10])] (.cond (.t 11)
(sK [0,3,11] (sR [(0,oP 4 (.mv (.c (.str []))) [])] .ret)) (sK [11] .skip))) (sR [(0,oP 5 (.mv (.c (.str []))) [])] (.seq (sR [(0,oZ 6 0 [])] (.block 0 (.loop L216_0))) (sR [(0,oT 27 5 [5]),(1,oP 28 (.bin .add (.t 27)
(.c (.str [63]))) [27]),(2,oT 5 28 [28])] (.seq (sR [(0,oZ 7 0 [])] (.block 2 (.loop L216_1))) (sR [(0,oT 49 5 [5]),(1,oT 4 49 [49])] .ret)))))))
def C216 : CFn := ⟨50,2,[.t 4],B216⟩
abbrev B218 : CCode := (sR [(0,oP 4 (.mv (.c (.int .u64 (0)))) [4]),(1,oP 5 (.mv (.c (.int .u64 (0)))) [5])] (sR [(0,oT 14 0 []),(1,oP 15 (.bin .and (.t 14) (.c (.int .u64 (4294967295)))) [14]),(2,oT 6 15 [15])] (sR
[(0,oT 16 0 []),(1,oP 17 (.bin .shr (.t 16) (.c (.int .u64 (32)))) [16]),(2,oT 7 17 [17])] (sR [(0,oT 18 1 []),(1,oP 19 (.bin .and (.t 18) (.c (.int .u64 (4294967295)))) [18]),(2,oT 8 19 [19])] (sR [(0,oT 20 1 []),(1,oP
21 (.bin .shr (.t 20) (.c (.int .u64 (32)))) [20]),(2,oT 9 21 [21])] (sR [(0,oT 22 6 []),(1,oT 23 8 []),(2,oB 24 .mul 22 23 [22,23]),(3,oT 10 24 [24])] (sR [(0,oT 25 7 []),(1,oT 26 8 [8]),(2,oB 27 .mul 25 26
[25,26]),(3,oT 28 10 [10]),(4,oP 29 (.bin .shr (.t 28) (.c (.int .u64 (32)))) [28]),(5,oB 30 .add 27 29 [27,29]),(6,oT 11 30 [30])] (sR [(0,oT 31 11 []),(1,oP 32 (.bin .and (.t 31) (.c (.int .u64 (4294967295))))
[31]),(2,oT 12 32 [32])] (sR [(0,oT 33 11 [11]),(1,oP 34 (.bin .shr (.t 33) (.c (.int .u64 (32)))) [33]),(2,oT 13 34 [34])] (sR [(0,oT 35 12 [12]),(1,oT 36 6 [6]),(2,oT 37 9 []),(3,oB 38 .mul 36 37 [36,37]),(4,oB 39
.add 35 38 [35,38]),(5,oT 12 39 [39])] (sR [(0,oT 40 7 [7]),(1,oT 41 9 [9]),(2,oB 42 .mul 40 41 [40,41]),(3,oT 43 13 [13]),(4,oB 44 .add 42 43 [42,43]),(5,oT 45 12 [12]),(6,oP 46 (.bin .shr (.t 45) (.c (.int .u64
(32)))) [45]),(7,oB 47 .add 44 46 [44,46]),(8,oT 4 47 [47])] (sR [(0,oT 48 0 [0]),(1,oT 49 1 [1]),(2,oB 50 .mul 48 49 [48,49]),(3,oT 5 50 [50])] .ret))))))))))))
def C218 : CFn := ⟨51,2,[.t 4,.t 5],B218⟩
abbrev B220 : CCode := (sR [(0,oP 2 (.mv (.c (.str []))) [2])] (sR [(0,oT 6 0 []),(1,oP 7 (.call 222 [.t 6]) [6]),(2,oT 5 7 [7]),(3,oP 8 (.ex (.t 5) 0) []),(4,oP 9 (.ex (.t 5) 1) [5]),(5,oT 3 8 [8]),(6,oT 4 9 [9])]
(.seq (sR [(0,oT 10 4 [4])] (.cond (.t 10) (sK [0,10] (sR [(0,oT 11 3 [3]),(1,oP 12 (.call 223 [.t 11]) [11]),(2,oT 2 12 [12])] .ret)) (sK [3,10] .skip))) (.seq (sR [(0,oT 13 0 []),(1,oP 14 (.call 87 [.t 13,(.c (.int
.i64 0)),(.c (.int .i64 3))]) [13]),(2,oP 15 (.not (.t 14)) [14])] (.cond (.t 15) (sK [0,15] (sR [(0,oP 2 (.mv (.c (.str []))) [])] .ret)) (sK [15] .skip))) (sR [(0,oT 16 0 []),(1,oT 17 0 [0]),(2,oC 18 .add 17 1
[17]),(3,oP 19 (.sst (.c (.str [120,121,122,119])) (some (.t 16)) (some (.t 18))) [16,18]),(4,oT 2 19 [19])] .ret)))))
def C220 : CFn := ⟨20,1,[.t 2],B220⟩
abbrev L221_0 : CCode := (.seq (sR [(0,oT 13 6 []),(1,oF 14 1 3 []),(2,oL 15 1 14 [14]),(3,oN 16 15 [15]),(4,oB 17 .lss 13 16 [13,16])] (.cond (.t 17) (sK [17] .skip) (sK [0,3,6,17] (.exit 0)))) (.seq (.block 1 (.seq
(sR [(0,oT 20 6 []),(1,oT 21 0 []),(2,oF 22 0 3 []),(3,oL 23 1 22 [22]),(4,oI 24 3 21 23 []),(5,oF 25 2 24 [24]),(6,oL 26 1 25 [21,23,25]),(7,oB 27 .eql 20 26 [20,26])] (.cond (.t 27) (sK [27] (.reg false [(0,oT 28 5
[5]),(1,oP 29 (.bin .add (.t 28) (.c (.str [124]))) [28]),(2,oT 5 29 [29])])) (sK [27] .skip))) (.reg false [(0,oT 30 5 [5]),(1,oF 31 1 3 []),(2,oL 32 1 31 [31]),(3,oT 33 6 []),(4,oI 34 1 32 33 [32]),(5,oL 35 1 34
[33,34]),(6,oP 36 (.call 220 [.t 35]) [35]),(7,oB 37 .add 30 36 [30,36]),(8,oT 5 37 [37])]))) (.reg false [(0,oT 18 6 [6]),(1,oC 19 .add 18 1 [18]),(2,oT 6 19 [19])])))
abbrev B221 : CCode := (sR [(0,oP 3 (.box 2 (.t 1)) [1]),(1,oP 4 (.mv (.c (.str []))) [4])] (sR [(0,oT 7 0 []),(1,oF 8 0 3 []),(2,oL 9 1 8 [8]),(3,oI 10 3 7 9 []),(4,oF 11 0 10 [10]),(5,oL 12 1 11 [7,9,11]),(6,oT 5 12
[12])] (.seq (sR [(0,oZ 6 0 [])] (.block 0 (.loop L221_0))) (sR [(0,oT 38 5 [5]),(1,oT 4 38 [38])] .ret))))
def C221 : CFn := ⟨39,2,[.t 4],B221⟩
abbrev B222 : CCode := (sR [(0,oZ 2 0 [2]),(1,oY 3 false [3])] (.seq (sR [(0,oT 4 0 []),(1,oC 5 .geq 4 0 [4]),(2,oT 6 5 [5]),(3,oG 7 (.mv (.t 0)) 6 false []),(4,oG 8 (.bin .sub (.c (.int .i64 (-1))) (.t 7)) 6 false
[7]),(5,oG 9 (.call 87 [.t 8,(.c (.int .i64 0)),(.c (.int .i64 9))]) 6 false [8]),(6,oG 10 (.not (.t 9)) 6 false [9]),(7,oP 11 (.pick (.t 6) (.c (.bool true)) (.t 10)) [6,10])] (.cond (.t 11) (sK [0,11] (sR [(0,oZ 2 0
[]),(1,oY 3 false [])] .ret)) (sK [11] .skip))) (sR [(0,oT 12 0 [0]),(1,oP 13 (.bin .sub (.c (.int .i64 (-1))) (.t 12)) [12]),(2,oT 2 13 [13]),(3,oY 3 true [])] .ret)))
def C222 : CFn := ⟨14,1,[.t 2,.t 3],B222⟩
abbrev L223_0 : CCode := (.seq (sR [(0,oT 10 0 []),(1,oC 11 .neq 10 0 [10])] (.cond (.t 11) (sK [11] .skip) (sK [0,11] (.exit 0)))) (.block 1 (sR [(0,oT 12 0 []),(1,oC 13 .rem 12 10 [12]),(2,oT 5 13 [13])] (.seq (sR
[(0,oT 14 5 []),(1,oC 15 .lss 14 0 [14])] (.cond (.t 15) (sK [15] (.reg false [(0,oT 16 5 [5]),(1,oP 17 (.neg (.t 16)) [16]),(2,oT 5 17 [17])])) (sK [15] .skip))) (sR [(0,oT 18 5 [5]),(1,oP 19 (.bin .add (.c (.int .i64
48)) (.t 18)) [18]),(2,oP 20 (.conv .u8 (.t 19)) [19]),(3,oP 21 (.bsl 1 1 [.int .u8 (0)] [(0,1,(.t 20))]) [20]),(4,oP 22 (.b2s (.t 21)) [21]),(5,oT 23 3 [3]),(6,oB 24 .add 22 23 [22,23]),(7,oT 3 24 [24])] (.reg false
[(0,oT 25 0 [0]),(1,oC 26 .quo 25 10 [25]),(2,oT 0 26 [26])]))))))
abbrev B223 : CCode := (sR [(0,oP 2 (.mv (.c (.str []))) [2])] (.seq (sR [(0,oT 6 0 []),(1,oC 7 .eql 6 0 [6])] (.cond (.t 7) (sK [0,7] (sR [(0,oP 2 (.mv (.c (.str [48]))) [])] .ret)) (sK [7] .skip))) (sR [(0,oP 3 (.mv
(.c (.str []))) [])] (sR [(0,oT 8 0 []),(1,oC 9 .lss 8 0 [8]),(2,oT 4 9 [9])] (.seq (.block 0 (.loop L223_0)) (.seq (sR [(0,oT 27 4 [4])] (.cond (.t 27) (sK [27] (sR [(0,oT 28 3 [3]),(1,oP 29 (.bin .add (.c (.str [45]))
(.t 28)) [28]),(2,oT 2 29 [29])] .ret)) (sK [27] .skip))) (sR [(0,oT 30 3 [3]),(1,oT 2 30 [30])] .ret)))))))
def C223 : CFn := ⟨31,1,[.t 2],B223⟩
theorem chk4 : chkFn pG 4 C4 = true := by kernel_rfl
theorem chk7 : chkFn pG 7 C7 = true := by kernel_rfl
theorem chk9 : chkFn pG 9 C9 = true := by kernel_rfl
theorem chk18 : chkFn pG 18 C18 = true := by kernel_rfl
theorem chk22 : chkFn pG 22 C22 = true := by kernel_rfl
theorem chk23 : chkFn pG 23 C23 = true := by kernel_rfl
theorem chk24 : chkFn pG 24 C24 = true := by kernel_rfl
theorem chk25 : chkFn pG 25 C25 = true := by kernel_rfl
theorem chk36 : chkFn pG 36 C36 = true := by kernel_rfl
theorem chk37 : chkFn pG 37 C37 = true := by kernel_rfl
theorem chk40 : chkFn pG 40 C40 = true := by kernel_rfl
theorem chk41 : chkFn pG 41 C41 = true := by kernel_rfl
theorem chk42 : chkFn pG 42 C42 = true := by kernel_rfl
theorem chk43 : chkFn pG 43 C43 = true := by kernel_rfl
theorem chk44 : chkFn pG 44 C44 = true := by kernel_rfl
theorem chk45 : chkFn pG 45 C45 = true := by kernel_rfl
theorem chk47 : chkFn pG 47 C47 = true := by kernel_rfl
theorem chk49 : chkFn pG 49 C49 = true := by kernel_rfl
theorem chk50 : chkFn pG 50 C50 = true := by kernel_rfl
theorem chk52 : chkFn pG 52 C52 = true := by kernel_rfl
theorem chk53 : chkFn pG 53 C53 = true := by kernel_rfl
theorem chk54 : chkFn pG 54 C54 = true := by kernel_rfl
theorem chk55 : chkFn pG 55 C55 = true := by kernel_rfl
theorem chk56 : chkFn pG 56 C56 = true := by kernel_rfl
theorem chk57 : chkFn pG 57 C57 = true := by kernel_rfl
theorem chk58 : chkFn pG 58 C58 = true := by kernel_rfl
theorem chk59 : chkFn pG 59 C59 = true := by kernel_rfl
theorem chk60 : chkFn pG 60 C60 = true := by kernel_rfl
theorem chk61 : chkFn pG 61 C61 = true := by kernel_rfl
theorem chk62 : chkFn pG 62 C62 = true := by kernel_rfl
theorem chk63 : chkFn pG 63 C63 = true := by kernel_rfl
theorem chk64 : chkFn pG 64 C64 = true := by kernel_rfl
theorem chk84 : chkFn pG 84 C84 = true := by kernel_rfl
theorem chk85 : chkFn pG 85 C85 = true := by kernel_rfl
theorem chk87 : chkFn pG 87 C87 = true := by kernel_rfl
theorem chk88 : chkFn pG 88 C88 = true := by kernel_rfl
theorem chk89 : chkFn pG 89 C89 = true := by kernel_rfl
theorem chk90 : chkFn pG 90 C90 = true := by kernel_rfl
theorem chk91 : chkFn pG 91 C91 = true := by kernel_rfl
theorem chk92 : chkFn pG 92 C92 = true := by kernel_rfl
theorem chk93 : chkFn pG 93 C93 = true := by kernel_rfl
theorem chk94 : chkFn pG 94 C94 = true := by kernel_rfl
theorem chk95 : chkFn pG 95 C95 = true := by kernel_rfl
theorem chk97 : chkFn pG 97 C97 = true := by kernel_rfl
theorem chk98 : chkFn pG 98 C98 = true := by kernel_rfl
theorem chk99 : chkFn pG 99 C99 = true := by kernel_rfl
theorem chk100 : chkFn pG 100 C100 = true := by kernel_rfl
theorem chk101 : chkFn pG 101 C101 = true := by kernel_rfl
theorem chk102 : chkFn pG 102 C102 = true := by kernel_rfl
theorem chk103 : chkFn pG 103 C103 = true := by kernel_rfl
theorem chk104 : chkFn pG 104 C104 = true := by kernel_rfl
theorem chk105 : chkFn pG 105 C105 = true := by kernel_rfl
theorem chk106 : chkFn pG 106 C106 = true := by kernel_rfl
theorem chk108 : chkFn pG 108 C108 = true := by kernel_rfl
theorem chk109 : chkFn pG 109 C109 = true := by kernel_rfl
theorem chk110 : chkFn pG 110 C110 = true := by kernel_rfl
theorem chk111 : chkFn pG 111 C111 = true := by kernel_rfl
theorem chk112 : chkFn pG 112 C112 = true := by kernel_rfl
theorem chk113 : chkFn pG 113 C113 = true := by kernel_rfl
theorem chk114 : chkFn pG 114 C114 = true := by kernel_rfl
theorem chk115 : chkFn pG 115 C115 = true := by kernel_rfl
theorem chk127 : chkFn pG 127 C127 = true := by kernel_rfl
theorem chk128 : chkFn pG 128 C128 = true := by kernel_rfl
theorem chk129 : chkFn pG 129 C129 = true := by kernel_rfl
theorem chk131 : chkFn pG 131 C131 = true := by kernel_rfl
theorem chk132 : chkFn pG 132 C132 = true := by kernel_rfl
theorem chk133 : chkFn pG 133 C133 = true := by kernel_rfl
theorem chk134 : chkFn pG 134 C134 = true := by kernel_rfl
theorem chk135 : chkFn pG 135 C135 = true := by kernel_rfl
theorem chk136 : chkFn pG 136 C136 = true := by kernel_rfl
theorem chk137 : chkFn pG 137 C137 = true := by kernel_rfl
theorem chk138 : chkFn pG 138 C138 = true := by kernel_rfl
theorem chk139 : chkFn pG 139 C139 = true := by kernel_rfl
theorem chk141 : chkFn pG 141 C141 = true := by kernel_rfl
theorem chk144 : chkFn pG 144 C144 = true := by kernel_rfl
theorem chk145 : chkFn pG 145 C145 = true := by kernel_rfl
theorem chk146 : chkFn pG 146 C146 = true := by kernel_rfl
theorem chk147 : chkFn pG 147 C147 = true := by kernel_rfl
theorem chk148 : chkFn pG 148 C148 = true := by kernel_rfl
theorem chk149 : chkFn pG 149 C149 = true := by kernel_rfl
theorem chk150 : chkFn pG 150 C150 = true := by kernel_rfl
theorem chk151 : chkFn pG 151 C151 = true := by kernel_rfl
theorem chk152 : chkFn pG 152 C152 = true := by kernel_rfl
theorem chk153 : chkFn pG 153 C153 = true := by kernel_rfl
theorem chk154 : chkFn pG 154 C154 = true := by kernel_rfl
theorem chk155 : chkFn pG 155 C155 = true := by kernel_rfl
theorem chk156 : chkFn pG 156 C156 = true := by kernel_rfl
theorem chk157 : chkFn pG 157 C157 = true := by kernel_rfl
theorem chk158 : chkFn pG 158 C158 = true := by kernel_rfl
theorem chk161 : chkFn pG 161 C161 = true := by kernel_rfl
theorem chk162 : chkFn pG 162 C162 = true := by kernel_rfl
theorem chk163 : chkFn pG 163 C163 = true := by kernel_rfl
theorem chk164 : chkFn pG 164 C164 = true := by kernel_rfl
theorem chk165 : chkFn pG 165 C165 = true := by kernel_rfl
theorem chk166 : chkFn pG 166 C166 = true := by kernel_rfl
theorem chk167 : chkFn pG 167 C167 = true := by kernel_rfl
theorem chk168 : chkFn pG 168 C168 = true := by kernel_rfl
theorem chk169 : chkFn pG 169 C169 = true := by kernel_rfl
theorem chk170 : chkFn pG 170 C170 = true := by kernel_rfl
theorem chk173 : chkFn pG 173 C173 = true := by kernel_rfl
theorem chk174 : chkFn pG 174 C174 = true := by kernel_rfl
theorem chk175 : chkFn pG 175 C175 = true := by kernel_rfl
theorem chk176 : chkFn pG 176 C176 = true := by kernel_rfl
theorem chk177 : chkFn pG 177 C177 = true := by kernel_rfl
theorem chk178 : chkFn pG 178 C178 = true := by kernel_rfl
theorem chk180 : chkFn pG 180 C180 = true := by kernel_rfl
theorem chk181 : chkFn pG 181 C181 = true := by kernel_rfl
theorem chk182 : chkFn pG 182 C182 = true := by kernel_rfl
theorem chk183 : chkFn pG 183 C183 = true := by kernel_rfl
theorem chk184 : chkFn pG 184 C184 = true := by kernel_rfl
theorem chk185 : chkFn pG 185 C185 = true := by kernel_rfl
theorem chk197 : chkFn pG 197 C197 = true := by kernel_rfl
theorem chk198 : chkFn pG 198 C198 = true := by kernel_rfl
theorem chk199 : chkFn pG 199 C199 = true := by kernel_rfl
theorem chk200 : chkFn pG 200 C200 = true := by kernel_rfl
theorem chk201 : chkFn pG 201 C201 = true := by kernel_rfl
theorem chk202 : chkFn pG 202 C202 = true := by kernel_rfl
theorem chk203 : chkFn pG 203 C203 = true := by kernel_rfl
theorem chk204 : chkFn pG 204 C204 = true := by kernel_rfl
theorem chk210 : chkFn pG 210 C210 = true := by kernel_rfl
theorem chk211 : chkFn pG 211 C211 = true := by kernel_rfl
theorem chk212 : chkFn pG 212 C212 = true := by kernel_rfl
theorem chk213 : chkFn pG 213 C213 = true := by kernel_rfl
theorem chk214 : chkFn pG 214 C214 = true := by kernel_rfl
theorem chk215 : chkFn pG 215 C215 = true := by kernel_rfl
theorem chk216 : chkFn pG 216 C216 = true := by kernel_rfl
theorem chk218 : chkFn pG 218 C218 = true := by kernel_rfl
theorem chk220 : chkFn pG 220 C220 = true := by kernel_rfl
theorem chk221 : chkFn pG 221 C221 = true := by kernel_rfl
theorem chk222 : chkFn pG 222 C222 = true := by kernel_rfl
theorem chk223 : chkFn pG 223 C223 = true := by kernel_rfl
def Tab (f : Nat) : Option CFn :=
  match f with
  | 4 => some C4
  | 7 => some C7
  | 9 => some C9
  | 18 => some C18
  | 22 => some C22
  | 23 => some C23
  | 24 => some C24
  | 25 => some C25
  | 36 => some C36
  | 37 => some C37
  | 40 => some C40
  | 41 => some C41
  | 42 => some C42
  | 43 => some C43
  | 44 => some C44
  | 45 => some C45
  | 47 => some C47
  | 49 => some C49
  | 50 => some C50
  | 52 => some C52
  | 53 => some C53
  | 54 => some C54
  | 55 => some C55
  | 56 => some C56
  | 57 => some C57
  | 58 => some C58
  | 59 => some C59
  | 60 => some C60
  | 61 => some C61
  | 62 => some C62
  | 63 => some C63
  | 64 => some C64
  | 84 => some C84
  | 85 => some C85
  | 87 => some C87
  | 88 => some C88
  | 89 => some C89
  | 90 => some C90
  | 91 => some C91
  | 92 => some C92
  | 93 => some C93
  | 94 => some C94
  | 95 => some C95
  | 97 => some C97
  | 98 => some C98
  | 99 => some C99
  | 100 => some C100
  | 101 => some C101
  | 102 => some C102
  | 103 => some C103
  | 104 => some C104
  | 105 => some C105
  | 106 => some C106
  | 108 => some C108
  | 109 => some C109
  | 110 => some C110
  | 111 => some C111
  | 112 => some C112
  | 113 => some C113
  | 114 => some C114
  | 115 => some C115
  | 127 => some C127
  | 128 => some C128
  | 129 => some C129
  | 131 => some C131
  | 132 => some C132
  | 133 => some C133
  | 134 => some C134
  | 135 => some C135
  | 136 => some C136
  | 137 => some C137
  | 138 => some C138
  | 139 => some C139
  | 141 => some C141
  | 144 => some C144
  | 145 => some C145
  | 146 => some C146
  | 147 => some C147
  | 148 => some C148
  | 149 => some C149
  | 150 => some C150
  | 151 => some C151
  | 152 => some C152
  | 153 => some C153
  | 154 => some C154
  | 155 => some C155
  | 156 => some C156
  | 157 => some C157
  | 158 => some C158
  | 161 => some C161
  | 162 => some C162
  | 163 => some C163
  | 164 => some C164
  | 165 => some C165
  | 166 => some C166
  | 167 => some C167
  | 168 => some C168
  | 169 => some C169
  | 170 => some C170
  | 173 => some C173
  | 174 => some C174
  | 175 => some C175
  | 176 => some C176
  | 177 => some C177
  | 178 => some C178
  | 180 => some C180
  | 181 => some C181
  | 182 => some C182
  | 183 => some C183
  | 184 => some C184
  | 185 => some C185
  | 197 => some C197
  | 198 => some C198
  | 199 => some C199
  | 200 => some C200
  | 201 => some C201
  | 202 => some C202
  | 203 => some C203
  | 204 => some C204
  | 210 => some C210
  | 211 => some C211
  | 212 => some C212
  | 213 => some C213
  | 214 => some C214
  | 215 => some C215
  | 216 => some C216
  | 218 => some C218
  | 220 => some C220
  | 221 => some C221
  | 222 => some C222
  | 223 => some C223
  | _ => none
theorem tabOk : TabOk Go.Proofs.Tryz.prog Tab := by
  intro f cf h
  unfold Tab at h
  split at h <;> simp only [Option.some.injEq, reduceCtorEq] at h <;> subst h
  · exact chk4
  · exact chk7
  · exact chk9
  · exact chk18
  · exact chk22
  · exact chk23
  · exact chk24
  · exact chk25
  · exact chk36
  · exact chk37
  · exact chk40
  · exact chk41
  · exact chk42
  · exact chk43
  · exact chk44
  · exact chk45
  · exact chk47
  · exact chk49
  · exact chk50
  · exact chk52
  · exact chk53
  · exact chk54
  · exact chk55
  · exact chk56
  · exact chk57
  · exact chk58
  · exact chk59
  · exact chk60
  · exact chk61
  · exact chk62
  · exact chk63
  · exact chk64
  · exact chk84
  · exact chk85
  · exact chk87
  · exact chk88
  · exact chk89
  · exact chk90
  · exact chk91
  · exact chk92
  · exact chk93
  · exact chk94
  · exact chk95
  · exact chk97
  · exact chk98
  · exact chk99
  · exact chk100
  · exact chk101
  · exact chk102
  · exact chk103
  · exact chk104
  · exact chk105
  · exact chk106
  · exact chk108
  · exact chk109
  · exact chk110
  · exact chk111
  · exact chk112
  · exact chk113
  · exact chk114
  · exact chk115
  · exact chk127
  · exact chk128
  · exact chk129
  · exact chk131
  · exact chk132
  · exact chk133
  · exact chk134
  · exact chk135
  · exact chk136
  · exact chk137
  · exact chk138
  · exact chk139
  · exact chk141
  · exact chk144
  · exact chk145
  · exact chk146
  · exact chk147
  · exact chk148
  · exact chk149
  · exact chk150
  · exact chk151
  · exact chk152
  · exact chk153
  · exact chk154
  · exact chk155
  · exact chk156
  · exact chk157
  · exact chk158
  · exact chk161
  · exact chk162
  · exact chk163
  · exact chk164
  · exact chk165
  · exact chk166
  · exact chk167
  · exact chk168
  · exact chk169
  · exact chk170
  · exact chk173
  · exact chk174
  · exact chk175
  · exact chk176
  · exact chk177
  · exact chk178
  · exact chk180
  · exact chk181
  · exact chk182
  · exact chk183
  · exact chk184
  · exact chk185
  · exact chk197
  · exact chk198
  · exact chk199
  · exact chk200
  · exact chk201
  · exact chk202
  · exact chk203
  · exact chk204
  · exact chk210
  · exact chk211
  · exact chk212
  · exact chk213
  · exact chk214
  · exact chk215
  · exact chk216
  · exact chk218
  · exact chk220
  · exact chk221
  · exact chk222
  · exact chk223

end Go.Proofs.YtjmemfggbhkofaaGreatH
