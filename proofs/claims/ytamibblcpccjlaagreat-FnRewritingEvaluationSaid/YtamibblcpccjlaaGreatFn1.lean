import Derived.Test.YtamibblcpccjlaaGreatX3
import Derived.Test.YtamibblcpccjlaaGreatProg
set_option linter.unusedVariables false
set_option maxRecDepth 100000
namespace Go.Proofs.YtamibblcpccjlaaGreatH
open Go
@[simp] abbrev oP (d : Nat) (p : COp) (k : List Nat) : COper := ⟨some d, p, none, [], k⟩
@[simp] abbrev oT (d a : Nat) (k : List Nat) : COper := ⟨some d, .mv (.t a), none, [], k⟩
@[simp] abbrev oG (d : Nat) (p : COp) (g : Nat) (b : Bool) (k : List Nat) : COper := ⟨some d, p, some (g, b), [], k⟩
@[simp] abbrev oL (d w a : Nat) (k : List Nat) : COper := ⟨some d, .ld w false (.t a), none, [], k⟩
@[simp] abbrev oM (d w a : Nat) (k : List Nat) : COper := ⟨some d, .ld w true (.t a), none, [], k⟩
@[simp] abbrev oF (d i a : Nat) (k : List Nat) : COper := ⟨some d, .fa i (.t a), none, [], k⟩
@[simp] abbrev oI (d w a b : Nat) (k : List Nat) : COper := ⟨some d, .ia w (.t a) (.t b), none, [], k⟩
@[simp] abbrev oB (d : Nat) (o : BinOp) (a b : Nat) (k : List Nat) : COper := ⟨some d, .bin o (.t a) (.t b), none, [], k⟩
@[simp] abbrev oC (d : Nat) (o : BinOp) (a : Nat) (n : Int) (k : List Nat) : COper := ⟨some d, .bin o (.t a) (.c (.int .i64 n)), none, [], k⟩
@[simp] abbrev oN (d a : Nat) (k : List Nat) : COper := ⟨some d, .len (.t a), none, [], k⟩
@[simp] abbrev oZ (d : Nat) (n : Int) (k : List Nat) : COper := ⟨some d, .mv (.c (.int .i64 n)), none, [], k⟩
@[simp] abbrev oY (d : Nat) (b : Bool) (k : List Nat) : COper := ⟨some d, .mv (.c (.bool b)), none, [], k⟩
@[simp] abbrev oS (w a b : Nat) (k : List Nat) : COper := ⟨none, .st w (.t a) (.t b), none, [], k⟩
noncomputable abbrev pG := Go.Proofs.Tryz.prog
abbrev sR (l : List (Nat × COper)) (c : CCode) : CCode := .seq (.reg false l) c
abbrev sK (l : List Nat) (c : CCode) : CCode := .seq (.kill l) c
abbrev B3 : CCode := (sR [(0,oY 2 false [2])] (.seq (sR [(0,oT 7 0 []),(1,oP 8 (.call 5 [.t 7]) [7])] (.cond (.t 8) (sK [0,8] (sR [(0,oY 2 true [])] .ret)) (sK [8] .skip))) (sR [(0,oT 10 0 [0]),(1,oP 11 (.call 6 [.t
10]) [10]),(2,oT 9 11 [11]),(3,oP 12 (.ex (.t 9) 0) []),(4,oP 13 (.ex (.t 9) 1) []),(5,oP 14 (.ex (.t 9) 2) [9]),(6,oP 3 (.al [.nils,.nils]) []),(7,oS 2 3 12 [12]),(8,oT 4 13 [13]),(9,oT 5 14 [14])] (sR [(0,oM 15 2 3
[]),(1,oT 16 4 []),(2,oT 17 5 []),(3,oP 18 (.call 7 [.t 15,.t 16,.t 17]) [15,16,17]),(4,oT 6 18 [18])] (.seq (.seq (.reg true [(0,oT 19 6 []),(1,oM 20 2 3 []),(2,oT 21 4 []),(3,oT 22 5 [5]),(4,oP 23 (.call 8 [.t 20,.t
21,.t 22]) [20,21,22]),(5,oP 24 (.beq true (.t 19) (.t 23)) [19,23]),(6,oT 25 24 [24]),(7,oG 26 (.fa 0 (.t 3)) 25 false []),(8,oG 27 (.ld 1 false (.t 26)) 25 false [26]),(9,oG 28 (.mv (.t 4)) 25 false []),(11,oG 30 (.fa
0 (.t 3)) 25 false []),(12,oG 31 (.ld 1 false (.t 30)) 25 false []),(13,oG 32 (.mv (.t 4)) 25 false []),(10,⟨some 29,.call 9 [.t 27,.t 28],some (25,false),[(30,1)],[27,28,30]⟩),(14,oG 33 (.call 10 [.t 31,.t 32]) 25
false [31,32]),(15,oG 34 (.beq true (.t 29) (.t 33)) 25 false [29,33]),(16,oP 35 (.pick (.t 25) (.c (.bool true)) (.t 34)) [25,34])]) (.cond (.t 35) (sK [3,6,35] (sR [(0,oY 2 false [])] .ret)) (sK [35] .skip))) (.seq
(.reg true [(0,oM 36 2 3 []),(1,oP 37 (.bsl 4 0 [.int .i64 (0),.nils,.nils,.nils] []) []),(2,oP 38 (.bsl 1 0 [.int .i64 (0)] []) []),(4,oM 40 2 3 []),(3,⟨some 39,.call 7 [.t 36,.t 37,.t
38],none,[(3,2)],[36,37,38]⟩),(5,oP 41 (.call 11 [.t 40]) [40]),(6,oP 42 (.beq false (.t 39) (.t 41)) [39,41]),(7,oT 43 42 [42]),(8,oG 44 (.mv (.t 6)) 43 true [6]),(9,oG 45 (.not (.t 44)) 43 true [44]),(10,oG 46 (.mv
(.t 45)) 43 true [45]),(11,oG 47 (.ld 2 true (.t 3)) 46 false []),(12,oG 48 (.call 11 [.t 47]) 46 false [3,47]),(13,oG 49 (.pick (.t 46) (.c (.bool true)) (.t 48)) 43 true [46,48]),(14,oP 50 (.pick (.t 43) (.t 49) (.c
(.bool false))) [43,49]),(15,oT 2 50 [50])]) .ret))))))
def C3 : CFn := ⟨51,1,[.t 2],B3⟩
abbrev B5 : CCode := (sR [(0,oY 2 false [2])] (sR [(0,oT 3 0 [0]),(1,oN 4 3 [3]),(2,oC 5 .gtr 4 1048576 [4]),(3,oT 2 5 [5])] .ret))
def C5 : CFn := ⟨6,1,[.t 2],B5⟩
abbrev L6_0 : CCode := (.seq (sR [(0,oT 16 8 []),(1,oC 17 .gtr 16 0 [16])] (.cond (.t 17) (sK [17] .skip) (sK [8,17] (.exit 0)))) (.seq (.block 1 (.reg false [(0,oT 20 7 [7]),(1,oT 21 5 []),(2,oP 22 (.call 20 [.t 21,(.c
(.int .i64 4))]) [21]),(3,oC 23 .sub 22 1 [22]),(4,oP 24 (.bsl 1 1 [.int .i64 (0)] [(0,1,(.t 23))]) [23]),(5,oP 25 (.app 1 8 (.t 20) (.t 24)) [20,24]),(6,oT 7 25 [25])])) (.reg false [(0,oT 18 8 [8]),(1,oC 19 .sub 18 1
[18]),(2,oT 8 19 [19])])))
abbrev B6 : CCode := (sR [(0,oP 2 (.al [.nils,.nils]) []),(1,oP 3 (.mv (.c (.nils))) [3]),(2,oP 4 (.mv (.c (.nils))) [4])] (sR [(0,oT 9 0 [0]),(1,oP 10 (.call 18 [.t 9]) [9]),(2,oT 5 10 [10])] (sR [(0,oT 11 5 []),(1,oP
12 (.call 19 [.t 11]) [11]),(2,oP 6 (.al [.nils,.nils]) []),(3,oS 2 6 12 [12])] (sR [(0,oP 13 (.bsl 1 0 [.int .i64 (0)] []) []),(1,oT 7 13 [13])] (.seq (sR [(0,oT 14 5 []),(1,oP 15 (.call 20 [.t 14,(.c (.int .i64 6))])
[14]),(2,oT 8 15 [15])] (.block 0 (.loop L6_0))) (.seq (sR [(0,oT 26 5 []),(1,oP 27 (.call 21 [.t 26,(.c (.int .i64 2))]) [26])] (.cond (.t 27) (sK [7,27] (.reg false [(0,oP 28 (.bsl 1 0 [.int .i64 (0)] []) []),(1,oT 7
28 [28])])) (sK [27] .skip))) (.seq (.reg true [(0,oM 29 2 6 []),(1,oT 30 5 []),(2,oT 31 5 []),(5,oT 34 7 [7]),(3,⟨some 32,.call 23 [.t 31],none,[(6,2)],[31]⟩),(4,⟨some 33,.call 22 [.t 30,.t
32],none,[(6,2)],[30,32]⟩),(6,oS 2 2 29 [6,29]),(7,oT 3 33 [33]),(8,oT 4 34 [34])]) .ret)))))))
def C6 : CFn := ⟨35,1,[.m 2 2 true,.t 3,.t 4],B6⟩
abbrev B7 : CCode := (sR [(0,oP 3 (.box 2 (.t 0)) [0]),(1,oY 6 false [6])] (.seq (sR [(0,oM 8 2 3 []),(1,oP 9 (.call 24 [.t 8]) [8]),(2,oP 10 (.not (.t 9)) [9]),(3,oT 11 10 [10]),(4,oG 12 (.fa 0 (.t 3)) 11 false
[]),(5,oG 13 (.ld 1 false (.t 12)) 11 false [12]),(6,oG 14 (.mv (.t 1)) 11 false []),(7,oG 15 (.call 9 [.t 13,.t 14]) 11 false [13,14]),(8,oG 16 (.not (.t 15)) 11 false [15]),(9,oP 17 (.pick (.t 11) (.c (.bool true))
(.t 16)) [11,16]),(10,oT 18 17 [17]),(11,oG 19 (.mv (.t 2)) 18 false []),(12,oG 20 (.len (.t 19)) 18 false [19]),(13,oG 21 (.bin .gtr (.t 20) (.c (.int .i64 4))) 18 false [20]),(14,oP 22 (.pick (.t 18) (.c (.bool true))
(.t 21)) [18,21])] (.cond (.t 22) (sK [1,2,3,22] (sR [(0,oY 6 false [])] .ret)) (sK [22] .skip))) (sR [(0,oP 23 (.call 25 [(.c (.int .i64 4))]) []),(1,oT 7 23 [23])] (sR [(0,oT 24 7 []),(1,oT 25 2 [2]),(2,oP 26 (.cpy 1
(.t 24) (.t 25)) [24,25,26])] (.seq (.reg true [(0,oM 27 2 3 []),(1,oM 28 2 3 []),(3,oT 30 1 [1]),(4,oT 31 7 [7]),(2,⟨some 29,.call 27 [.t 28],none,[(3,2)],[28]⟩),(5,oP 32 (.call 26 [.t 27,.t 29,.t 30,.t 31])
[3,27,29,30,31]),(6,oT 6 32 [32])]) .ret)))))
def C7 : CFn := ⟨33,3,[.t 6],B7⟩
abbrev L8_0 : CCode := (.seq (sR [(0,oT 25 8 []),(1,oT 26 2 []),(2,oN 27 26 [26]),(3,oB 28 .lss 25 27 [25,27])] (.cond (.t 28) (sK [28] .skip) (sK [2,8,28] (.exit 0)))) (.seq (.block 1 (.reg false [(0,oT 31 7 []),(1,oT
32 8 []),(2,oT 33 2 []),(3,oT 34 8 []),(4,oI 35 1 33 34 []),(5,oL 36 1 35 [33,34,35]),(6,oP 37 (.max (.c (.int .i64 (-1))) (.t 36)) [36]),(7,oI 38 1 31 32 []),(8,oS 1 38 37 [31,32,37,38])])) (.reg false [(0,oT 29 8
[8]),(1,oC 30 .add 29 1 [29]),(2,oT 8 30 [30])])))
abbrev B8 : CCode := (sR [(0,oP 3 (.box 2 (.t 0)) [0]),(1,oY 6 false [6])] (.seq (sR [(0,oM 9 2 3 []),(1,oP 10 (.call 11 [.t 9]) [9]),(2,oP 11 (.not (.t 10)) [10]),(3,oT 12 11 [11]),(4,oG 13 (.fa 0 (.t 3)) 12 false
[]),(5,oG 14 (.ld 1 false (.t 13)) 12 false [13]),(6,oG 15 (.mv (.t 1)) 12 false []),(7,oG 16 (.call 10 [.t 14,.t 15]) 12 false [14,15]),(8,oG 17 (.not (.t 16)) 12 false [16]),(9,oP 18 (.pick (.t 12) (.c (.bool true))
(.t 17)) [12,17]),(10,oT 19 18 [18]),(11,oG 20 (.mv (.t 2)) 19 false []),(12,oG 21 (.len (.t 20)) 19 false [20]),(13,oG 22 (.bin .gtr (.t 21) (.c (.int .i64 4))) 19 false [21]),(14,oP 23 (.pick (.t 19) (.c (.bool true))
(.t 22)) [19,22])] (.cond (.t 23) (sK [1,2,3,23] (sR [(0,oY 6 false [])] .ret)) (sK [23] .skip))) (sR [(0,oP 24 (.call 28 [(.c (.int .i64 4))]) []),(1,oT 7 24 [24])] (.seq (sR [(0,oZ 8 0 [])] (.block 0 (.loop L8_0)))
(sR [(0,oM 39 2 3 []),(1,oT 40 1 [1]),(2,oT 41 7 [7]),(3,oP 42 (.call 29 [.t 39,.t 40,(.c (.int .i64 0)),.t 41]) [3,39,40,41]),(4,oT 6 42 [42])] .ret)))))
def C8 : CFn := ⟨43,3,[.t 6],B8⟩
abbrev L9_0 : CCode := (sR [(0,oB 11 .lss 10 9 [])] (.seq (.cond (.t 11) (sK [11] .skip) (sK [0,8,9,10,11] (.exit 0))) (.seq (.block 1 (sR [(0,oT 12 10 []),(1,oI 13 4 8 10 []),(2,oM 14 4 13 [13]),(3,oP 6 (.al [.int .i64
(0),.nils,.nils,.nils]) []),(4,oT 5 12 [12]),(5,oS 4 6 14 [14])] (sR [(0,oF 15 0 6 []),(1,oM 16 2 15 [15]),(2,oP 7 (.al [.int .i64 (0),.nils]) []),(3,oS 2 7 16 [16])] (.seq (.seq (.reg true [(0,oT 17 5 [5]),(1,oC 18
.geq 17 3 [17]),(2,oT 19 18 [18]),(3,oG 20 (.mv (.t 0)) 19 false []),(4,oG 21 (.call 30 [.t 20]) 19 false [20]),(5,oG 22 (.not (.t 21)) 19 false [21]),(6,oP 23 (.pick (.t 19) (.c (.bool true)) (.t 22)) [19,22]),(7,oT 24
23 [23]),(8,oG 25 (.fa 0 (.t 7)) 24 false []),(9,oG 26 (.ld 1 false (.t 25)) 24 false [25]),(10,oG 27 (.mv (.t 0)) 24 false []),(11,oG 28 (.len (.t 27)) 24 false [27]),(12,oG 29 (.bin .sub (.t 28) (.c (.int .i64 1))) 24
false [28]),(13,oG 30 (.call 31 [.t 26,(.c (.int .i64 0)),.t 29]) 24 false [26,29]),(14,oG 31 (.not (.t 30)) 24 false [30]),(15,oP 32 (.pick (.t 24) (.c (.bool true)) (.t 31)) [24,31]),(16,oT 33 32 [32]),(17,oG 34 (.fa
1 (.t 7)) 33 false []),(18,oG 35 (.ld 1 false (.t 34)) 33 false [34]),(19,oG 36 (.len (.t 35)) 33 false [35]),(20,oG 37 (.mv (.t 0)) 33 false []),(21,oG 38 (.fa 0 (.t 7)) 33 false []),(22,oG 39 (.ld 1 false (.t 38)) 33
false [38]),(23,oG 40 (.ia 3 (.t 37) (.t 39)) 33 false []),(24,oG 41 (.fa 1 (.t 40)) 33 false [40]),(25,oG 42 (.ld 1 false (.t 41)) 33 false [37,39,41]),(26,oG 43 (.bin .neq (.t 36) (.t 42)) 33 false [36,42]),(27,oP 44
(.pick (.t 33) (.c (.bool true)) (.t 43)) [33,43])]) (.cond (.t 44) (sK [0,6,7,8,9,10,44] (sR [(0,oY 4 false [])] .ret)) (sK [44] .skip))) (.seq (sR [(0,oF 45 1 7 []),(1,oL 46 1 45 [45]),(2,oP 47 (.call 32 [.t 46,(.c
(.fn 33 []))]) [46])] (.cond (.t 47) (sK [0,6,7,8,9,10,47] (sR [(0,oY 4 false [])] .ret)) (sK [47] .skip))) (.seq (.reg true [(0,oF 48 2 6 []),(1,oL 49 1 48 []),(2,oT 50 0 []),(3,oM 51 2 7 []),(4,⟨some 52,.call 35 [.t
50,.t 51],none,[(48,1)],[48,50,51]⟩),(5,oP 53 (.call 34 [.t 49,.t 52]) [49,52]),(6,oP 54 (.not (.t 53)) [53]),(7,oT 55 54 [54]),(8,oG 56 (.fa 3 (.t 6)) 55 false []),(9,oG 57 (.ld 1 false (.t 56)) 55 false []),(10,oG 58
(.ld 2 true (.t 7)) 55 false []),(11,⟨some 59,.call 36 [.t 58],some (55,false),[(56,1)],[7,56,58]⟩),(12,oG 60 (.call 34 [.t 57,.t 59]) 55 false [6,57,59]),(13,oG 61 (.not (.t 60)) 55 false [60]),(14,oP 62 (.pick (.t 55)
(.c (.bool true)) (.t 61)) [55,61])]) (.cond (.t 62) (sK [0,8,9,10,62] (sR [(0,oY 4 false [])] .ret)) (sK [62] .skip)))))))) (.reg false [(0,oC 63 .add 10 1 [10]),(1,oT 10 63 [63])]))))
abbrev B9 : CCode := (sR [(0,oY 4 false [4])] (.seq (sR [(0,oT 8 1 [1]),(1,oN 9 8 []),(2,oZ 10 0 [])] (.block 0 (.loop L9_0))) (sR [(0,oY 4 true [])] .ret)))
def C9 : CFn := ⟨64,2,[.t 4],B9⟩
abbrev L10_1 : CCode := (.seq (sR [(0,oT 43 7 []),(1,oF 44 1 6 []),(2,oL 45 1 44 [44]),(3,oN 46 45 [45]),(4,oB 47 .lss 43 46 [43,46])] (.cond (.t 47) (sK [47] .skip) (sK [7,47] (.exit 2)))) (.seq (.block 3 (sR [(0,oF 50
1 6 []),(1,oL 51 1 50 [50]),(2,oT 52 7 []),(3,oI 53 1 51 52 [51]),(4,oL 54 1 53 [52,53]),(5,oP 55 (.call 38 [.t 54,(.c (.int .i64 (-10))),(.c (.int .i64 3))]) [54]),(6,oP 56 (.not (.t 55)) [55])] (.cond (.t 56) (sK
[0,1,5,6,7,56] (sR [(0,oY 4 false [])] .ret)) (sK [56] .skip)))) (.reg false [(0,oT 48 7 [7]),(1,oC 49 .add 48 1 [48]),(2,oT 7 49 [49])])))
abbrev L10_0 : CCode := (.seq (sR [(0,oT 8 5 []),(1,oT 9 1 []),(2,oN 10 9 [9]),(3,oB 11 .lss 8 10 [8,10])] (.cond (.t 11) (sK [11] .skip) (sK [0,5,11] (.exit 0)))) (.seq (.block 1 (sR [(0,oT 14 1 []),(1,oT 15 5
[]),(2,oI 16 4 14 15 []),(3,oF 17 0 16 [16]),(4,oM 18 2 17 [17]),(5,oP 6 (.al [.int .i64 (0),.nils]) []),(6,oS 2 6 18 [14,15,18])] (.seq (.seq (.reg true [(0,oT 19 0 []),(1,oP 20 (.call 37 [.t 19]) [19]),(2,oP 21 (.not
(.t 20)) [20]),(3,oT 22 21 [21]),(4,oG 23 (.fa 0 (.t 6)) 22 false []),(5,oG 24 (.ld 1 false (.t 23)) 22 false [23]),(6,oG 25 (.mv (.t 0)) 22 false []),(7,oG 26 (.len (.t 25)) 22 false [25]),(8,oG 27 (.bin .sub (.t 26)
(.c (.int .i64 1))) 22 false [26]),(9,oG 28 (.call 38 [.t 24,(.c (.int .i64 0)),.t 27]) 22 false [24,27]),(10,oG 29 (.not (.t 28)) 22 false [28]),(11,oP 30 (.pick (.t 22) (.c (.bool true)) (.t 29)) [22,29]),(12,oT 31 30
[30]),(13,oG 32 (.fa 1 (.t 6)) 31 false []),(14,oG 33 (.ld 1 false (.t 32)) 31 false [32]),(15,oG 34 (.len (.t 33)) 31 false [33]),(16,oG 35 (.mv (.t 0)) 31 false []),(17,oG 36 (.fa 0 (.t 6)) 31 false []),(18,oG 37 (.ld
1 false (.t 36)) 31 false [36]),(19,oG 38 (.ia 3 (.t 35) (.t 37)) 31 false []),(20,oG 39 (.fa 1 (.t 38)) 31 false [38]),(21,oG 40 (.ld 1 false (.t 39)) 31 false [35,37,39]),(22,oG 41 (.bin .neq (.t 34) (.t 40)) 31 false
[34,40]),(23,oP 42 (.pick (.t 31) (.c (.bool true)) (.t 41)) [31,41])]) (.cond (.t 42) (sK [0,1,5,6,42] (sR [(0,oY 4 false [])] .ret)) (sK [42] .skip))) (.seq (sR [(0,oZ 7 0 [])] (.block 2 (.loop L10_1))) (.seq (.reg
true [(0,oT 57 0 []),(1,oM 58 2 6 []),(3,oT 60 1 []),(4,oT 61 5 []),(5,oI 62 4 60 61 []),(6,oF 63 2 62 [62]),(7,oL 64 1 63 []),(2,⟨some 59,.call 40 [.t 57,.t 58],none,[(63,1)],[57,58,63]⟩),(8,oP 65 (.call 39 [.t 59,.t
64]) [59,60,61,64]),(9,oP 66 (.not (.t 65)) [65]),(10,oT 67 66 [66]),(11,oG 68 (.ld 2 true (.t 6)) 67 false []),(13,oG 70 (.mv (.t 1)) 67 false []),(14,oG 71 (.mv (.t 5)) 67 false []),(15,oG 72 (.ia 4 (.t 70) (.t 71))
67 false []),(16,oG 73 (.fa 3 (.t 72)) 67 false [72]),(17,oG 74 (.ld 1 false (.t 73)) 67 false []),(12,⟨some 69,.call 41 [.t 68],some (67,false),[(73,1)],[6,68,73]⟩),(18,oG 75 (.call 39 [.t 69,.t 74]) 67 false
[69,70,71,74]),(19,oG 76 (.not (.t 75)) 67 false [75]),(20,oP 77 (.pick (.t 67) (.c (.bool true)) (.t 76)) [67,76])]) (.cond (.t 77) (sK [0,1,5,77] (sR [(0,oY 4 false [])] .ret)) (sK [77] .skip))))))) (.reg false [(0,oT
12 5 [5]),(1,oC 13 .add 12 1 [12]),(2,oT 5 13 [13])])))
abbrev B10 : CCode := (sR [(0,oY 4 false [4])] (.seq (sR [(0,oZ 5 0 [])] (.block 0 (.loop L10_0))) (sR [(0,oT 78 1 [1]),(1,oN 79 78 [78]),(2,oC 80 .leq 79 3 [79]),(3,oT 4 80 [80])] .ret)))
def C10 : CFn := ⟨81,2,[.t 4],B10⟩
abbrev L11_0 : CCode := (.seq (sR [(0,oT 4 3 []),(1,oF 5 1 1 []),(2,oL 6 1 5 [5]),(3,oN 7 6 [6]),(4,oB 8 .lss 4 7 [4,7])] (.cond (.t 8) (sK [8] .skip) (sK [3,8] (.exit 0)))) (.seq (.block 1 (.seq (.reg true [(0,oF 11 0
1 []),(1,oL 12 1 11 [11]),(2,oF 13 1 1 []),(3,oL 14 1 13 [13]),(4,oT 15 3 []),(5,oI 16 2 14 15 [14]),(6,oM 17 2 16 [16]),(7,oP 18 (.call 42 [.t 12,.t 17]) [12,15,17]),(8,oP 19 (.not (.t 18)) [18]),(9,oT 20 19
[19]),(10,oG 21 (.mv (.t 3)) 20 false []),(11,oG 22 (.bin .gtr (.t 21) (.c (.int .i64 0))) 20 false [21]),(12,oG 23 (.mv (.t 22)) 20 false [22]),(13,oG 24 (.fa 1 (.t 1)) 23 true []),(14,oG 25 (.ld 1 false (.t 24)) 23
true [24]),(15,oG 26 (.mv (.t 3)) 23 true []),(16,oG 27 (.bin .sub (.t 26) (.c (.int .i64 1))) 23 true [26]),(17,oG 28 (.ia 2 (.t 25) (.t 27)) 23 true [25]),(18,oG 29 (.ld 2 true (.t 28)) 23 true [28]),(19,oG 30 (.fa 1
(.t 1)) 23 true []),(20,oG 31 (.ld 1 false (.t 30)) 23 true [30]),(21,oG 32 (.mv (.t 3)) 23 true []),(22,oG 33 (.ia 2 (.t 31) (.t 32)) 23 true [31]),(23,oG 34 (.ld 2 true (.t 33)) 23 true [33]),(24,oG 35 (.call 43 [.t
29,.t 34]) 23 true [27,29,32,34]),(25,oG 36 (.bin .geq (.t 35) (.c (.int .i64 0))) 23 true [35]),(26,oG 37 (.pick (.t 23) (.t 36) (.c (.bool false))) 20 false [23,36]),(27,oP 38 (.pick (.t 20) (.c (.bool true)) (.t 37))
[20,37])]) (.cond (.t 38) (sK [1,3,38] (sR [(0,oY 2 false [])] .ret)) (sK [38] .skip)))) (.reg false [(0,oT 9 3 [3]),(1,oC 10 .add 9 1 [9]),(2,oT 3 10 [10])])))
abbrev B11 : CCode := (sR [(0,oP 1 (.box 2 (.t 0)) [0]),(1,oY 2 false [2])] (.seq (sR [(0,oZ 3 0 [])] (.block 0 (.loop L11_0))) (sR [(0,oF 39 0 1 []),(1,oL 40 1 39 [39]),(2,oP 41 (.call 37 [.t 40]) [40]),(3,oT 42 41
[41]),(4,oG 43 (.fa 1 (.t 1)) 42 true []),(5,oG 44 (.ld 1 false (.t 43)) 42 true [43]),(6,oG 45 (.len (.t 44)) 42 true [1,44]),(7,oG 46 (.bin .leq (.t 45) (.c (.int .i64 14))) 42 true [45]),(8,oP 47 (.pick (.t 42) (.t
46) (.c (.bool false))) [42,46]),(9,oT 2 47 [47])] .ret)))
def C11 : CFn := ⟨48,1,[.t 2],B11⟩
abbrev L18_0 : CCode := (.seq (sR [(0,oT 8 4 []),(1,oT 9 0 []),(2,oN 10 9 [9]),(3,oB 11 .lss 8 10 [8,10]),(4,oT 12 11 [11]),(5,oG 13 (.mv (.t 4)) 12 true []),(6,oG 14 (.bin .lss (.t 13) (.c (.int .i64 4000))) 12 true
[13]),(7,oP 15 (.pick (.t 12) (.t 14) (.c (.bool false))) [12,14])] (.cond (.t 15) (sK [15] .skip) (sK [4,15] (.exit 0)))) (.seq (.block 1 (.reg false [(0,oT 18 3 [3]),(1,oC 19 .mul 18 131 [18]),(2,oT 20 0 []),(3,oT 21
4 []),(4,oI 22 1 20 21 []),(5,oL 23 1 22 [20,21,22]),(6,oP 24 (.conv .i64 (.t 23)) [23]),(7,oB 25 .add 19 24 [19,24]),(8,oC 26 .add 25 7 [25]),(9,oC 27 .and 26 1073741823 [26]),(10,oT 3 27 [27])])) (.reg false [(0,oT 16
4 [4]),(1,oC 17 .add 16 1 [16]),(2,oT 4 17 [17])])))
abbrev B18 : CCode := (sR [(0,oP 2 (.mv (.c (.nilp))) [2])] (sR [(0,oT 5 0 []),(1,oN 6 5 [5]),(2,oP 7 (.bin .add (.c (.int .i64 10101)) (.t 6)) [6]),(3,oT 3 7 [7])] (.seq (sR [(0,oZ 4 0 [])] (.block 0 (.loop L18_0)))
(sR [(0,oT 28 0 [0]),(1,oT 29 3 [3]),(2,oP 30 (.bld [.nils,.int .i64 (0),.int .i64 (0)] [(0,1,(.t 28)),(2,1,(.t 29))]) [28,29]),(3,oP 31 (.box 3 (.t 30)) [30]),(4,oT 2 31 [31])] .ret))))
def C18 : CFn := ⟨32,1,[.t 2],B18⟩
abbrev B19 : CCode := (sR [(0,oP 2 (.al [.nils,.nils]) [])] (sR [(0,oT 4 0 []),(1,oP 5 (.call 60 [.t 4]) [4]),(2,oP 3 (.al [.nils,.nils]) []),(3,oS 2 3 5 [5])] (.seq (sR [(0,oT 6 0 []),(1,oP 7 (.call 20 [.t 6,(.c (.int
.i64 14))]) [6])] (.block 0 (sR [(0,oC 9 .eql 7 0 []),(1,oT 8 9 [9])] (.cond (.t 8) (sK [7,8] (.reg true [(0,oF 10 1 3 []),(1,oL 11 1 10 []),(2,oT 12 0 []),(3,oF 13 0 3 []),(4,oL 14 1 13 [13]),(5,⟨some 15,.call 61 [.t
12,.t 14],none,[(10,1)],[10,12,14]⟩),(6,oP 16 (.bsl 2 1 [.int .i64 (0),.nils] [(0,2,(.t 15))]) [15]),(7,oP 17 (.app 2 32 (.t 11) (.t 16)) [11,16]),(8,oF 18 1 3 []),(9,oS 1 18 17 [17,18])])) (sK [8] (sR [(0,oC 20 .eql 7
1 []),(1,oT 19 20 [20])] (.cond (.t 19) (sK [7,19] (.reg true [(0,oF 21 0 3 []),(1,oL 22 1 21 []),(2,oT 23 0 []),(3,⟨some 24,.call 20 [.t 23,(.c (.int .i64 4))],none,[(21,1)],[21,23]⟩),(4,oP 25 (.sls 3 (.t 22) none
(some (.t 24)) none) [22,24]),(5,oF 26 0 3 []),(6,oS 1 26 25 [25,26])])) (sK [19] (sR [(0,oC 28 .eql 7 2 [7]),(1,oT 27 28 [28])] (.cond (.t 27) (sK [27] (.reg true [(0,oF 29 0 3 []),(1,oL 30 1 29 []),(2,oT 31 0
[]),(4,oT 33 0 []),(3,⟨some 32,.call 20 [.t 31,(.c (.int .i64 4))],none,[(29,1)],[31]⟩),(5,⟨some 34,.call 62 [.t 33],none,[(29,1)],[29,33]⟩),(6,oI 35 3 30 32 [30]),(7,oS 3 35 34 [32,34,35])])) (sK [27] .skip)))))))))))
(sR [(0,oM 36 2 3 []),(1,oS 2 2 36 [3,36])] .ret))))
def C19 : CFn := ⟨37,1,[.m 2 2 true],B19⟩
abbrev B20 : CCode := (sR [(0,oZ 4 0 [4])] (.seq (sR [(0,oT 9 1 []),(1,oC 10 .leq 9 0 [9])] (.cond (.t 10) (sK [1,10] (sR [(0,oZ 4 0 [])] .ret)) (sK [10] .skip))) (.seq (sR [(0,oT 11 1 []),(1,oC 12 .leq 11 256 [11])]
(.cond (.t 12) (sK [12] (sR [(0,oT 13 0 []),(1,oP 14 (.call 63 [.t 13]) [13]),(2,oT 15 1 [1]),(3,oB 16 .rem 14 15 [14,15]),(4,oT 4 16 [16])] .ret)) (sK [12] .skip))) (sR [(0,oT 17 0 []),(1,oP 18 (.call 63 [.t 17])
[17]),(2,oT 5 18 [18])] (sR [(0,oT 19 0 []),(1,oP 20 (.call 63 [.t 19]) [19]),(2,oT 6 20 [20])] (sR [(0,oT 21 0 []),(1,oP 22 (.call 63 [.t 21]) [21]),(2,oT 7 22 [22])] (sR [(0,oT 23 0 []),(1,oP 24 (.call 63 [.t 23])
[23]),(2,oT 8 24 [24])] (sR [(0,oT 25 5 [5]),(1,oC 26 .mul 25 16777216 [25]),(2,oT 27 6 [6]),(3,oC 28 .mul 27 65536 [27]),(4,oB 29 .add 26 28 [26,28]),(5,oT 30 7 [7]),(6,oC 31 .mul 30 256 [30]),(7,oB 32 .add 29 31
[29,31]),(8,oT 33 8 [8]),(9,oB 34 .add 32 33 [32,33]),(10,oT 35 1 [1]),(11,oB 36 .rem 34 35 [34,35]),(12,oT 4 36 [36])] .ret))))))))
def C20 : CFn := ⟨37,2,[.t 4],B20⟩
abbrev B21 : CCode := (sR [(0,oY 4 false [4])] (sR [(0,oT 5 0 []),(1,oT 6 1 [1]),(2,oP 7 (.call 20 [.t 5,.t 6]) [5,6]),(3,oC 8 .eql 7 0 [7]),(4,oT 4 8 [8])] .ret))
def C21 : CFn := ⟨9,2,[.t 4],B21⟩
abbrev B22 : CCode := (sR [(0,oP 4 (.mv (.c (.nils))) [4])] (sR [(0,oT 9 0 []),(1,oT 10 1 []),(2,oP 11 (.call 64 [.t 9,.t 10]) [9,10]),(3,oP 5 (.al [.int .i64 (0),.nils,.nils]) []),(4,oS 3 5 11 [11])] (sR [(0,oT 13 1
[]),(1,oM 14 3 5 []),(2,oP 15 (.call 65 [.t 13,.t 14]) [13,14]),(3,oT 12 15 [15]),(4,oP 16 (.ex (.t 12) 0) []),(5,oP 17 (.ex (.t 12) 1) [12]),(6,oT 6 16 [16]),(7,oT 7 17 [17])] (.seq (sR [(0,oT 18 7 [7]),(1,oP 19 (.not
(.t 18)) [18])] (.cond (.t 19) (sK [6,19] (sR [(0,oT 21 1 []),(1,oP 22 (.call 66 [.t 21,(.c (.str [63,114,120,124,121,32,115,121,124,122]))]) [21]),(2,oT 20 22 [22]),(3,oP 23 (.ex (.t 20) 0) []),(4,oP 24 (.ex (.t 20) 1)
[20,24]),(5,oS 3 5 23 [23])] (.reg false [(0,oT 26 1 [1]),(1,oM 27 3 5 []),(2,oP 28 (.call 65 [.t 26,.t 27]) [5,26,27]),(3,oT 25 28 [28]),(4,oP 29 (.ex (.t 25) 0) []),(5,oP 30 (.ex (.t 25) 1) [25,30]),(6,oT 6 29
[29])]))) (sK [1,5,19] .skip))) (.seq (sR [(0,oT 31 6 []),(1,oN 32 31 [31]),(2,oC 33 .gtr 32 0 [32]),(3,oT 34 33 [33]),(4,oG 35 (.mv (.t 0)) 34 true []),(5,oG 36 (.call 21 [.t 35,(.c (.int .i64 8))]) 34 true [35]),(6,oP
37 (.pick (.t 34) (.t 36) (.c (.bool false))) [34,36])] (.cond (.t 37) (sK [37] (sR [(0,oT 38 0 []),(1,oT 39 6 []),(2,oN 40 39 [39]),(3,oP 41 (.call 20 [.t 38,.t 40]) [38,40]),(4,oT 8 41 [41])] (sR [(0,oT 42 0 []),(1,oP
43 (.call 20 [.t 42,(.c (.int .i64 4))]) [42])] (.block 0 (sR [(0,oC 58 .eql 43 0 []),(1,oT 57 58 [58])] (.cond (.t 57) (sK [43,57] (.reg false [(0,oT 59 6 []),(1,oT 60 8 [8]),(2,oT 61 0 []),(3,oP 62 (.call 20 [.t
61,(.c (.int .i64 6))]) [61]),(4,oC 63 .sub 62 1 [62]),(5,oI 64 4 59 60 []),(6,oF 65 0 64 [64]),(7,oF 66 0 65 [65]),(8,oS 1 66 63 [59,60,63,66])])) (sK [57] (sR [(0,oC 68 .eql 43 1 []),(1,oT 67 68 [68])] (.cond (.t 67)
(sK [43,67] (.reg true [(0,oT 69 6 []),(1,oT 70 8 [8]),(2,oI 71 4 69 70 []),(3,oF 72 0 71 [71]),(4,oF 73 1 72 [72]),(5,oL 74 1 73 []),(6,oT 75 0 []),(7,oP 76 (.bsl 1 3 [.int .i64 (0)] [(0,1,(.c (.int .i64 4))),(1,1,(.c
(.int .i64 (-11)))),(2,1,(.c (.int .i64 2)))]) []),(8,⟨some 77,.call 67 [.t 75,.t 76],none,[(73,1)],[73,75,76]⟩),(9,oP 78 (.ia 1 (.t 74) (.c (.int .i64 0))) [74]),(10,oS 1 78 77 [69,70,77,78])])) (sK [67] (sR [(0,oC 80
.eql 43 2 [43]),(1,oT 79 80 [80])] (.cond (.t 79) (sK [79] (.reg true [(0,oT 81 6 []),(1,oT 82 8 []),(2,oT 83 6 []),(3,oT 84 8 [8]),(4,oI 85 4 83 84 []),(5,oF 86 2 85 [85]),(6,oL 87 1 86 []),(7,oT 88 0 []),(8,⟨some
89,.call 20 [.t 88,(.c (.int .i64 5))],none,[(86,1)],[86,88]⟩),(9,oP 90 (.bsl 1 1 [.int .i64 (0)] [(0,1,(.t 89))]) [89]),(10,oP 91 (.app 1 8 (.t 87) (.t 90)) [83,84,87,90]),(11,oI 92 4 81 82 []),(12,oF 93 2 92
[92]),(13,oS 1 93 91 [81,82,91,93])])) (sK [79] (.reg true [(0,oT 44 6 []),(1,oT 45 8 []),(2,oT 46 6 []),(3,oT 47 8 [8]),(4,oI 48 4 46 47 []),(5,oF 49 3 48 [48]),(6,oL 50 1 49 []),(7,oT 51 0 []),(8,⟨some 52,.call 20 [.t
51,(.c (.int .i64 5))],none,[(49,1)],[49,51]⟩),(9,oP 53 (.bsl 1 1 [.int .i64 (0)] [(0,1,(.t 52))]) [52]),(10,oP 54 (.app 1 8 (.t 50) (.t 53)) [46,47,50,53]),(11,oI 55 4 44 45 []),(12,oF 56 3 55 [55]),(13,oS 1 56 54
[44,45,54,56])])))))))))))))) (sK [37] .skip))) (sR [(0,oT 94 6 [6]),(1,oT 4 94 [94])] .ret))))))
def C22 : CFn := ⟨95,2,[.t 4],B22⟩
abbrev B23 : CCode := (sR [(0,oP 2 (.mv (.c (.nils))) [2])] (sR [(0,oP 3 (.bld [.str [],.int .i64 (0),.int .i64 (0)] [(0,1,(.c (.str [114]))),(1,1,(.c (.int .i64 2))),(2,1,(.c (.int .i64 1)))]) []),(1,oP 4 (.bld [.str
[],.int .i64 (0),.int .i64 (0)] [(0,1,(.c (.str [115]))),(1,1,(.c (.int .i64 2))),(2,1,(.c (.int .i64 1)))]) []),(2,oT 5 0 []),(3,oP 6 (.bsl 1 4 [.int .i64 (0)] [(0,1,(.c (.int .i64 1))),(1,1,(.c (.int .i64
1))),(2,1,(.c (.int .i64 2))),(3,1,(.c (.int .i64 0)))]) []),(4,oP 7 (.call 67 [.t 5,.t 6]) [5,6]),(5,oP 8 (.bld [.str [],.int .i64 (0),.int .i64 (0)] [(0,1,(.c (.str [116]))),(1,1,(.c (.int .i64 2))),(2,1,(.t 7))])
[7]),(6,oT 9 0 []),(7,oP 10 (.call 20 [.t 9,(.c (.int .i64 2))]) [9]),(8,oP 11 (.bin .add (.c (.int .i64 1)) (.t 10)) [10]),(9,oP 12 (.bld [.str [],.int .i64 (0),.int .i64 (0)] [(0,1,(.c (.str [117]))),(1,1,(.c (.int
.i64 3))),(2,1,(.t 11))]) [11]),(10,oP 13 (.bsl 3 4 [.str [],.int .i64 (0),.int .i64 (0)] [(0,3,(.t 3)),(3,3,(.t 4)),(6,3,(.t 8)),(9,3,(.t 12))]) [3,4,8,12]),(11,oT 2 13 [13])] .ret))
def C23 : CFn := ⟨14,1,[.t 2],B23⟩
abbrev L24_0 : CCode := (sR [(0,oB 19 .lss 18 17 [])] (.seq (.cond (.t 19) (sK [19] .skip) (sK [1,16,17,18,19] (.exit 0))) (.seq (.block 1 (sR [(0,oT 20 18 []),(1,oI 21 2 16 18 []),(2,oM 22 2 21 [21]),(3,oP 4 (.al [.int
.i64 (0),.nils]) []),(4,oT 3 20 [20]),(5,oS 2 4 22 [22])] (.seq (.reg true [(0,oF 23 0 1 []),(1,oL 24 1 23 [23]),(2,oM 25 2 4 []),(3,oP 26 (.call 68 [.t 24,.t 25]) [24,25]),(4,oP 27 (.not (.t 26)) [26]),(5,oT 28 27
[27]),(6,oG 29 (.mv (.t 3)) 28 false []),(7,oG 30 (.bin .gtr (.t 29) (.c (.int .i64 0))) 28 false [29]),(8,oG 31 (.mv (.t 30)) 28 false [30]),(9,oG 32 (.fa 1 (.t 1)) 31 true []),(10,oG 33 (.ld 1 false (.t 32)) 31 true
[32]),(11,oG 34 (.mv (.t 3)) 31 true [3]),(12,oG 35 (.bin .sub (.t 34) (.c (.int .i64 1))) 31 true [34]),(13,oG 36 (.ia 2 (.t 33) (.t 35)) 31 true [33]),(14,oG 37 (.ld 2 true (.t 36)) 31 true [36]),(15,oG 38 (.ld 2 true
(.t 4)) 31 true []),(16,oG 39 (.call 69 [.t 37,.t 38]) 31 true [4,35,37,38]),(17,oG 40 (.bin .geq (.t 39) (.c (.int .i64 0))) 31 true [39]),(18,oG 41 (.pick (.t 31) (.t 40) (.c (.bool false))) 28 false [31,40]),(19,oP
42 (.pick (.t 28) (.c (.bool true)) (.t 41)) [28,41])]) (.cond (.t 42) (sK [1,16,17,18,42] (sR [(0,oY 2 false [])] .ret)) (sK [42] .skip))))) (.reg false [(0,oC 43 .add 18 1 [18]),(1,oT 18 43 [43])]))))
abbrev B24 : CCode := (sR [(0,oP 1 (.box 2 (.t 0)) [0]),(1,oY 2 false [2])] (.seq (sR [(0,oF 5 0 1 []),(1,oL 6 1 5 [5]),(2,oP 7 (.call 30 [.t 6]) [6]),(3,oP 8 (.not (.t 7)) [7]),(4,oT 9 8 [8]),(5,oG 10 (.fa 1 (.t 1)) 9
false []),(6,oG 11 (.ld 1 false (.t 10)) 9 false [10]),(7,oG 12 (.len (.t 11)) 9 false [11]),(8,oG 13 (.bin .gtr (.t 12) (.c (.int .i64 14))) 9 false [12]),(9,oP 14 (.pick (.t 9) (.c (.bool true)) (.t 13)) [9,13])]
(.cond (.t 14) (sK [1,14] (sR [(0,oY 2 false [])] .ret)) (sK [14] .skip))) (.seq (sR [(0,oF 15 1 1 []),(1,oL 16 1 15 [15]),(2,oN 17 16 []),(3,oZ 18 0 [])] (.block 0 (.loop L24_0))) (sR [(0,oY 2 true [])] .ret))))
def C24 : CFn := ⟨44,1,[.t 2],B24⟩
abbrev B25 : CCode := (sR [(0,oP 2 (.mv (.c (.nils))) [2])] (sR [(0,oP 3 (.bsl 1 1 [.int .i64 (0)] [(0,1,(.c (.int .i64 (-1))))]) []),(1,oT 4 0 [0]),(2,oP 5 (.call 70 [.t 3,.t 4]) [3,4]),(3,oT 2 5 [5])] .ret))
def C25 : CFn := ⟨6,1,[.t 2],B25⟩
abbrev L26_1 : CCode := (.seq (sR [(0,oT 64 16 []),(1,oT 65 12 []),(2,oN 66 65 [65]),(3,oB 67 .lss 64 66 [64,66]),(4,oT 68 67 [67]),(5,oG 69 (.mv (.t 15)) 68 true []),(6,oP 70 (.pick (.t 68) (.t 69) (.c (.bool false)))
[68,69])] (.cond (.t 70) (sK [15,70] .skip) (sK [12,14,16,70] (.exit 2)))) (.seq (.block 3 (.seq (.reg true [(0,oT 74 14 []),(1,oF 75 1 9 []),(2,oL 76 1 75 [75]),(3,oF 77 1 4 []),(4,oL 78 1 77 [77]),(5,oT 79 12
[]),(6,oT 80 16 []),(7,oI 81 1 79 80 []),(8,oL 82 1 81 [79,80,81]),(9,oI 83 2 78 82 [78]),(10,oF 84 1 83 [83]),(11,oL 85 1 84 [84]),(12,oP 86 (.call 71 [.t 74,.t 76,.t 85]) [74,76,82,85]),(13,oT 73 86 [86]),(14,oP 87
(.ex (.t 73) 0) []),(15,oP 88 (.ex (.t 73) 1) [73]),(16,oT 17 87 [87]),(17,oT 18 88 [88])]) (.reg true [(0,oT 89 18 [18]),(1,oT 90 89 [89]),(2,oG 91 (.ld 2 true (.t 4)) 90 true []),(3,oG 92 (.mv (.t 1)) 90 true
[]),(4,oG 93 (.mv (.t 2)) 90 true []),(5,oG 94 (.sls 4 (.t 93) (some (.c (.int .i64 1))) none none) 90 true [93]),(6,oG 95 (.mv (.t 17)) 90 true [17]),(7,oG 96 (.call 26 [.t 91,.t 92,.t 94,.t 95]) 90 true
[91,92,94,95]),(8,oP 97 (.pick (.t 90) (.t 96) (.c (.bool false))) [90,96]),(9,oT 15 97 [97])]))) (.reg false [(0,oT 71 16 [16]),(1,oC 72 .add 71 1 [71]),(2,oT 16 72 [72])])))
abbrev L26_0 : CCode := (sR [(0,oB 36 .lss 35 34 [])] (.seq (.cond (.t 36) (sK [36] .skip) (sK [1,2,3,4,9,10,33,34,35,36] (.exit 0))) (.seq (.block 1 (sR [(0,oI 37 1 33 35 []),(1,oL 38 1 37 [37]),(2,oT 12 38 [38])]
(.seq (.reg true [(0,oF 39 1 4 []),(1,oL 40 1 39 [39]),(2,oT 41 12 []),(3,oP 42 (.ia 1 (.t 41) (.c (.int .i64 0))) []),(4,oL 43 1 42 [41,42]),(5,oI 44 2 40 43 [40]),(6,oM 45 2 44 [44]),(7,oP 13 (.al [.int .i64
(0),.nils]) []),(8,oS 2 13 45 [43,45])]) (.seq (sR [(0,oF 46 0 13 []),(1,oL 47 1 46 [46]),(2,oF 48 0 9 []),(3,oL 49 1 48 [48]),(4,oB 50 .neq 47 49 [47,49])] (.cond (.t 50) (sK [12,13,50] (.exit 1)) (sK [50] .skip)))
(.seq (.reg true [(0,oT 52 3 []),(1,oF 53 1 9 []),(2,oL 54 1 53 [53]),(3,oT 55 10 []),(4,oP 56 (.sls 1 (.t 54) none (some (.t 55)) none) [54,55]),(5,oF 57 1 13 []),(6,oL 58 1 57 [57]),(7,oT 59 10 []),(8,oP 60 (.sls 1
(.t 58) none (some (.t 59)) none) [13,58,59]),(9,oP 61 (.call 71 [.t 52,.t 56,.t 60]) [52,56,60]),(10,oT 51 61 [61]),(11,oP 62 (.ex (.t 51) 0) []),(12,oP 63 (.ex (.t 51) 1) [51]),(13,oT 14 62 [62]),(14,oT 15 63 [63])])
(.seq (sR [(0,oZ 16 0 [])] (.block 2 (.loop L26_1))) (sR [(0,oT 98 15 [15])] (.cond (.t 98) (sK [1,2,3,4,9,10,33,34,35,98] (sR [(0,oY 8 true [])] .ret)) (sK [98] .skip))))))))) (.reg false [(0,oC 99 .add 35 1
[35]),(1,oT 35 99 [99])]))))
abbrev B26 : CCode := (sR [(0,oP 4 (.box 2 (.t 0)) [0]),(1,oY 8 false [8])] (.seq (sR [(0,oT 19 2 []),(1,oN 20 19 [19]),(2,oC 21 .eql 20 0 [20])] (.cond (.t 21) (sK [1,2,3,4,21] (sR [(0,oY 8 true [])] .ret)) (sK [21]
.skip))) (sR [(0,oT 22 2 []),(1,oP 23 (.ia 4 (.t 22) (.c (.int .i64 0))) []),(2,oF 24 0 23 [23]),(3,oM 25 2 24 [24]),(4,oP 9 (.al [.int .i64 (0),.nils]) []),(5,oS 2 9 25 [22,25])] (sR [(0,oF 26 0 4 []),(1,oL 27 1 26
[26]),(2,oF 28 0 9 []),(3,oL 29 1 28 [28]),(4,oI 30 3 27 29 [27]),(5,oF 31 2 30 [30]),(6,oL 32 1 31 [29,31]),(7,oT 10 32 [32])] (.seq (sR [(0,oT 33 1 []),(1,oN 34 33 []),(2,oZ 35 0 [])] (.block 0 (.loop L26_0))) (sR
[(0,oY 8 false [])] .ret))))))
def C26 : CFn := ⟨100,4,[.t 8],B26⟩
abbrev L27_0 : CCode := (sR [(0,oB 12 .lss 11 10 [])] (.seq (.cond (.t 12) (sK [12] .skip) (sK [1,9,10,11,12] (.exit 0))) (.seq (.block 1 (sR [(0,oT 13 11 []),(1,oI 14 2 9 11 []),(2,oM 15 2 14 [14]),(3,oP 5 (.al [.int
.i64 (0),.nils]) []),(4,oT 4 13 [13]),(5,oS 2 5 15 [15])] (sR [(0,oT 16 3 []),(1,oN 17 16 [16]),(2,oC 18 .sub 17 1 [17]),(3,oT 6 18 [18])] (.seq (.reg true [(0,oT 19 6 []),(1,oC 20 .geq 19 0 [19]),(2,oT 21 20
[20]),(3,oG 22 (.fa 0 (.t 1)) 21 true []),(4,oG 23 (.ld 1 false (.t 22)) 21 true [22]),(5,oG 24 (.fa 1 (.t 1)) 21 true []),(6,oG 25 (.ld 1 false (.t 24)) 21 true [24]),(7,oG 26 (.mv (.t 3)) 21 true []),(8,oG 27 (.mv (.t
6)) 21 true []),(9,oG 28 (.ia 1 (.t 26) (.t 27)) 21 true []),(10,oG 29 (.ld 1 false (.t 28)) 21 true [28]),(11,oG 30 (.ia 1 (.t 29) (.c (.int .i64 0))) 21 true [29]),(12,oG 31 (.ld 1 false (.t 30)) 21 true
[26,27,30]),(13,oG 32 (.ia 2 (.t 25) (.t 31)) 21 true [25]),(14,oG 33 (.ld 2 true (.t 32)) 21 true [32]),(15,oG 34 (.ld 2 true (.t 5)) 21 true []),(16,oG 35 (.call 72 [.t 23,.t 33,.t 34]) 21 true [5,23,31,33,34]),(17,oP
36 (.pick (.t 21) (.t 35) (.c (.bool false))) [21,35])]) (.cond (.t 36) (sK [36] (.reg false [(0,oT 37 3 []),(1,oT 38 6 []),(2,oT 39 3 []),(3,oT 40 6 [6]),(4,oI 41 1 39 40 []),(5,oL 42 1 41 [41]),(6,oT 43 4 [4]),(7,oP
44 (.bsl 1 1 [.int .i64 (0)] [(0,1,(.t 43))]) [43]),(8,oP 45 (.app 1 8 (.t 42) (.t 44)) [39,40,42,44]),(9,oI 46 1 37 38 []),(10,oS 1 46 45 [37,38,45,46])])) (sK [6,36] (.reg false [(0,oT 47 3 [3]),(1,oT 48 4 [4]),(2,oP
49 (.bsl 1 1 [.int .i64 (0)] [(0,1,(.t 48))]) [48]),(3,oP 50 (.bsl 1 1 [.nils] [(0,1,(.t 49))]) [49]),(4,oP 51 (.app 1 24 (.t 47) (.t 50)) [47,50]),(5,oT 3 51 [51])]))))))) (.reg false [(0,oC 52 .add 11 1 [11]),(1,oT 11
52 [52])]))))
abbrev B27 : CCode := (sR [(0,oP 1 (.box 2 (.t 0)) [0]),(1,oP 2 (.mv (.c (.nils))) [2])] (sR [(0,oP 7 (.bsl 1 0 [.nils] []) []),(1,oT 3 7 [7])] (.seq (sR [(0,oF 8 1 1 []),(1,oL 9 1 8 [8]),(2,oN 10 9 []),(3,oZ 11 0 [])]
(.block 0 (.loop L27_0))) (sR [(0,oT 53 3 [3]),(1,oT 2 53 [53])] .ret))))
def C27 : CFn := ⟨54,1,[.t 2],B27⟩
abbrev L28_0 : CCode := (.seq (sR [(0,oT 5 3 []),(1,oN 6 5 [5]),(2,oT 7 0 []),(3,oB 8 .lss 6 7 [6,7])] (.cond (.t 8) (sK [8] .skip) (sK [0,8] (.exit 0)))) (.block 1 (.reg false [(0,oT 9 3 [3]),(1,oP 10 (.bsl 1 1 [.int
.i64 (0)] [(0,1,(.c (.int .i64 (-1))))]) []),(2,oP 11 (.app 1 8 (.t 9) (.t 10)) [9,10]),(3,oT 3 11 [11])])))
abbrev B28 : CCode := (sR [(0,oP 2 (.mv (.c (.nils))) [2])] (sR [(0,oP 4 (.bsl 1 0 [.int .i64 (0)] []) []),(1,oT 3 4 [4])] (.seq (.block 0 (.loop L28_0)) (sR [(0,oT 12 3 [3]),(1,oT 2 12 [12])] .ret))))
def C28 : CFn := ⟨13,1,[.t 2],B28⟩
abbrev L29_1 : CCode := (.seq (sR [(0,oT 77 16 []),(1,oT 78 11 []),(2,oT 79 12 []),(3,oI 80 1 78 79 []),(4,oL 81 1 80 [80]),(5,oN 82 81 [78,79,81]),(6,oB 83 .lss 77 82 [77,82]),(7,oT 84 83 [83]),(8,oG 85 (.mv (.t 15))
84 true []),(9,oP 86 (.pick (.t 84) (.t 85) (.c (.bool false))) [84,85])] (.cond (.t 86) (sK [15,86] .skip) (sK [14,16,86] (.exit 2)))) (.seq (.block 3 (.seq (.reg true [(0,oM 90 2 9 []),(1,oF 91 1 4 []),(2,oL 92 1 91
[91]),(3,oT 93 11 []),(4,oT 94 12 []),(5,oI 95 1 93 94 []),(6,oL 96 1 95 [95]),(7,oT 97 16 []),(8,oI 98 1 96 97 [96]),(9,oL 99 1 98 [93,94,97,98]),(10,oI 100 2 92 99 [92]),(11,oM 101 2 100 [100]),(12,oT 102 14
[]),(13,oP 103 (.call 73 [.t 90,.t 101,.t 102]) [90,99,101,102]),(14,oT 89 103 [103]),(15,oP 104 (.ex (.t 89) 0) []),(16,oP 105 (.ex (.t 89) 1) [89]),(17,oT 17 104 [104]),(18,oT 18 105 [105])]) (.reg false [(0,oT 106 18
[18]),(1,oT 107 106 [106]),(2,oG 108 (.ld 2 true (.t 4)) 107 true []),(3,oG 109 (.mv (.t 1)) 107 true []),(4,oG 110 (.mv (.t 2)) 107 true []),(5,oG 111 (.bin .add (.t 110) (.c (.int .i64 1))) 107 true [110]),(6,oG 112
(.mv (.t 17)) 107 true [17]),(7,oG 113 (.call 29 [.t 108,.t 109,.t 111,.t 112]) 107 true [108,109,111,112]),(8,oP 114 (.pick (.t 107) (.t 113) (.c (.bool false))) [107,113]),(9,oT 15 114 [114])]))) (.reg false [(0,oT 87
16 [16]),(1,oC 88 .add 87 1 [87]),(2,oT 16 88 [88])])))
abbrev L29_0 : CCode := (.seq (sR [(0,oT 37 12 []),(1,oT 38 11 []),(2,oN 39 38 [38]),(3,oB 40 .lss 37 39 [37,39])] (.cond (.t 40) (sK [40] .skip) (sK [1,2,3,4,9,10,11,12,40] (.exit 0)))) (.seq (.block 1 (.seq (.reg true
[(0,oF 43 1 4 []),(1,oL 44 1 43 [43]),(2,oT 45 11 []),(3,oT 46 12 []),(4,oI 47 1 45 46 []),(5,oL 48 1 47 [47]),(6,oP 49 (.ia 1 (.t 48) (.c (.int .i64 0))) [48]),(7,oL 50 1 49 [45,46,49]),(8,oI 51 2 44 50 [44]),(9,oM 52
2 51 [51]),(10,oP 13 (.al [.int .i64 (0),.nils]) []),(11,oS 2 13 52 [50,52])]) (.seq (sR [(0,oF 53 0 13 []),(1,oL 54 1 53 [53]),(2,oF 55 0 9 []),(3,oL 56 1 55 [55]),(4,oB 57 .neq 54 56 [54,56])] (.cond (.t 57) (sK
[13,57] (.exit 1)) (sK [57] .skip))) (.seq (.reg true [(0,oF 59 0 9 []),(1,oL 60 1 59 [59]),(2,oF 61 1 9 []),(3,oL 62 1 61 [61]),(4,oT 63 10 []),(5,oP 64 (.sls 1 (.t 62) none (some (.t 63)) none) [62,63]),(6,oP 65 (.bld
[.int .i64 (0),.nils] [(0,1,(.t 60)),(1,1,(.t 64))]) [60,64]),(7,oF 66 0 9 []),(8,oL 67 1 66 [66]),(9,oF 68 1 13 []),(10,oL 69 1 68 [68]),(11,oT 70 10 []),(12,oP 71 (.sls 1 (.t 69) none (some (.t 70)) none)
[13,69,70]),(13,oP 72 (.bld [.int .i64 (0),.nils] [(0,1,(.t 67)),(1,1,(.t 71))]) [67,71]),(14,oT 73 3 []),(15,oP 74 (.call 73 [.t 65,.t 72,.t 73]) [65,72,73]),(16,oT 58 74 [74]),(17,oP 75 (.ex (.t 58) 0) []),(18,oP 76
(.ex (.t 58) 1) [58]),(19,oT 14 75 [75]),(20,oT 15 76 [76])]) (.seq (sR [(0,oZ 16 0 [])] (.block 2 (.loop L29_1))) (sR [(0,oT 115 15 [15])] (.cond (.t 115) (sK [1,2,3,4,9,10,11,12,115] (sR [(0,oY 8 true [])] .ret)) (sK
[115] .skip)))))))) (.reg false [(0,oT 41 12 [12]),(1,oC 42 .add 41 1 [41]),(2,oT 12 42 [42])])))
abbrev B29 : CCode := (sR [(0,oP 4 (.box 2 (.t 0)) [0]),(1,oY 8 false [8])] (.seq (sR [(0,oT 19 2 []),(1,oT 20 1 []),(2,oN 21 20 [20]),(3,oB 22 .eql 19 21 [19,21])] (.cond (.t 22) (sK [1,2,3,4,22] (sR [(0,oY 8 true [])]
.ret)) (sK [22] .skip))) (sR [(0,oT 23 1 []),(1,oT 24 2 []),(2,oI 25 4 23 24 []),(3,oF 26 0 25 [25]),(4,oM 27 2 26 [26]),(5,oP 9 (.al [.int .i64 (0),.nils]) []),(6,oS 2 9 27 [23,24,27])] (sR [(0,oF 28 0 4 []),(1,oL 29 1
28 [28]),(2,oF 30 0 9 []),(3,oL 31 1 30 [30]),(4,oI 32 3 29 31 [29]),(5,oF 33 2 32 [32]),(6,oL 34 1 33 [31,33]),(7,oT 10 34 [34])] (sR [(0,oM 35 2 4 []),(1,oP 36 (.call 58 [.t 35]) [35]),(2,oT 11 36 [36])] (.seq (sR
[(0,oZ 12 0 [])] (.block 0 (.loop L29_0))) (sR [(0,oY 8 false [])] .ret)))))))
def C29 : CFn := ⟨116,4,[.t 8],B29⟩
abbrev L30_0 : CCode := (sR [(0,oB 8 .lss 7 6 [])] (.seq (.cond (.t 8) (sK [8] .skip) (sK [5,6,7,8] (.exit 0))) (.seq (.block 1 (sR [(0,oT 9 7 []),(1,oI 10 3 5 7 []),(2,oM 11 3 10 [10]),(3,oP 4 (.al [.str [],.int .i64
(0),.int .i64 (0)]) []),(4,oT 3 9 [9]),(5,oS 3 4 11 [11])] (.seq (.reg true [(0,oM 12 3 4 []),(1,oP 13 (.call 74 [.t 12]) [12]),(2,oP 14 (.not (.t 13)) [13]),(3,oT 15 14 [14]),(4,oG 16 (.mv (.t 3)) 15 false []),(5,oG 17
(.bin .gtr (.t 16) (.c (.int .i64 0))) 15 false [16]),(6,oG 18 (.mv (.t 17)) 15 false [17]),(7,oG 19 (.mv (.t 0)) 18 true []),(8,oG 20 (.mv (.t 3)) 18 true [3]),(9,oG 21 (.bin .sub (.t 20) (.c (.int .i64 1))) 18 true
[20]),(10,oG 22 (.ia 3 (.t 19) (.t 21)) 18 true []),(11,oG 23 (.fa 0 (.t 22)) 18 true [22]),(12,oG 24 (.ld 1 false (.t 23)) 18 true [19,21,23]),(13,oG 25 (.fa 0 (.t 4)) 18 true []),(14,oG 26 (.ld 1 false (.t 25)) 18
true [4,25]),(15,oG 27 (.bin .geq (.t 24) (.t 26)) 18 true [24,26]),(16,oG 28 (.pick (.t 18) (.t 27) (.c (.bool false))) 15 false [18,27]),(17,oP 29 (.pick (.t 15) (.c (.bool true)) (.t 28)) [15,28])]) (.cond (.t 29)
(sK [0,5,6,7,29] (sR [(0,oY 2 false [])] .ret)) (sK [29] .skip))))) (.reg false [(0,oC 30 .add 7 1 [7]),(1,oT 7 30 [30])]))))
abbrev B30 : CCode := (sR [(0,oY 2 false [2])] (.seq (sR [(0,oT 5 0 []),(1,oN 6 5 []),(2,oZ 7 0 [])] (.block 0 (.loop L30_0))) (sR [(0,oT 31 0 [0]),(1,oN 32 31 [31]),(2,oC 33 .leq 32 4 [32]),(3,oT 2 33 [33])] .ret)))
def C30 : CFn := ⟨34,1,[.t 2],B30⟩
abbrev B31 : CCode := (sR [(0,oY 6 false [6])] (sR [(0,oT 7 1 [1]),(1,oT 8 0 []),(2,oB 9 .leq 7 8 [7,8]),(3,oT 10 9 [9]),(4,oG 11 (.mv (.t 0)) 10 true [0]),(5,oG 12 (.mv (.t 2)) 10 true [2]),(6,oG 13 (.bin .leq (.t 11)
(.t 12)) 10 true [11,12]),(7,oP 14 (.pick (.t 10) (.t 13) (.c (.bool false))) [10,13]),(8,oT 6 14 [14])] .ret))
def C31 : CFn := ⟨15,3,[.t 6],B31⟩
abbrev B32 : CCode := (sR [(0,oY 4 false [4])] (sR [(0,oT 5 0 [0]),(1,oT 6 1 [1]),(2,oP 7 (.call 75 [.t 5,.t 6]) [5,6]),(3,oC 8 .geq 7 0 [7]),(4,oT 4 8 [8])] .ret))
def C32 : CFn := ⟨9,2,[.t 4],B32⟩
abbrev B33 : CCode := (sR [(0,oY 2 false [2])] (sR [(0,oT 3 0 [0]),(1,oP 4 (.call 31 [.t 3,(.c (.int .i64 (-10))),(.c (.int .i64 3))]) [3]),(2,oP 5 (.not (.t 4)) [4]),(3,oT 2 5 [5])] .ret))
def C33 : CFn := ⟨6,1,[.t 2],B33⟩
abbrev B34 : CCode := (sR [(0,oP 3 (.box 1 (.t 1)) [1]),(1,oY 4 false [4])] (sR [(0,oT 5 0 [0]),(1,oP 6 (.fn 76 [.t 3]) []),(2,oP 7 (.call 32 [.t 5,.t 6]) [3,5,6]),(3,oP 8 (.not (.t 7)) [7]),(4,oT 4 8 [8])] .ret))
def C34 : CFn := ⟨9,2,[.t 4],B34⟩
abbrev B35 : CCode := (sR [(0,oP 3 (.box 2 (.t 1)) [1]),(1,oP 4 (.mv (.c (.nils))) [4])] (.seq (.seq (.reg true [(0,oF 5 0 3 []),(1,oL 6 1 5 [5]),(2,oT 7 0 []),(3,oN 8 7 [7]),(4,oC 9 .sub 8 1 [8]),(5,oP 10 (.call 31 [.t
6,(.c (.int .i64 0)),.t 9]) [6,9]),(6,oP 11 (.not (.t 10)) [10]),(7,oT 12 11 [11]),(8,oG 13 (.mv (.t 0)) 12 false []),(9,oG 14 (.fa 0 (.t 3)) 12 false []),(10,oG 15 (.ld 1 false (.t 14)) 12 false [14]),(11,oG 16 (.ia 3
(.t 13) (.t 15)) 12 false []),(12,oG 17 (.fa 2 (.t 16)) 12 false [16]),(13,oG 18 (.ld 1 false (.t 17)) 12 false [13,15,17]),(14,oG 19 (.fa 1 (.t 3)) 12 false []),(15,oG 20 (.ld 1 false (.t 19)) 12 false [19]),(16,oG 21
(.len (.t 20)) 12 false [20]),(17,oG 22 (.call 31 [.t 18,(.c (.int .i64 0)),.t 21]) 12 false [18,21]),(18,oG 23 (.not (.t 22)) 12 false [22]),(19,oP 24 (.pick (.t 12) (.c (.bool true)) (.t 23)) [12,23])]) (.cond (.t 24)
(sK [0,3,24] (sR [(0,oP 4 (.mv (.c (.nils))) [])] .ret)) (sK [24] .skip))) (.seq (.reg true [(0,oF 25 1 3 []),(1,oL 26 1 25 [25]),(2,oT 27 0 [0]),(3,oF 28 0 3 []),(4,oL 29 1 28 [28]),(5,oI 30 3 27 29 []),(6,oF 31 2 30
[30]),(7,oL 32 1 31 [27,29,31]),(8,oP 33 (.sls 1 (.t 26) none (some (.t 32)) none) [3,26,32]),(9,oP 34 (.bld [.int .i64 (0),.nils] [(1,1,(.t 33))]) [33]),(10,oP 35 (.call 36 [.t 34]) [34]),(11,oT 4 35 [35])]) .ret)))
def C35 : CFn := ⟨36,2,[.t 4],B35⟩
abbrev L36_0 : CCode := (sR [(0,oB 11 .lss 10 9 [])] (.seq (.cond (.t 11) (sK [11] .skip) (sK [1,8,9,10,11] (.exit 0))) (.seq (.block 1 (sR [(0,oI 12 1 8 10 []),(1,oL 13 1 12 [12]),(2,oT 5 13 [13])] (sR [(0,oT 14 5
[]),(1,oP 15 (.call 31 [.t 14,(.c (.int .i64 0)),(.c (.int .i64 3))]) [14])] (.cond (.t 15) (sK [15] (.reg false [(0,oT 16 3 [3]),(1,oT 17 5 [5]),(2,oP 18 (.bsl 1 1 [.int .i64 (0)] [(0,1,(.t 17))]) [17]),(3,oP 19 (.app
1 8 (.t 16) (.t 18)) [16,18]),(4,oT 3 19 [19])])) (sK [5,15] .skip))))) (.reg false [(0,oC 20 .add 10 1 [10]),(1,oT 10 20 [20])]))))
abbrev B36 : CCode := (sR [(0,oP 1 (.box 2 (.t 0)) [0]),(1,oP 2 (.mv (.c (.nils))) [2])] (sR [(0,oP 6 (.bsl 1 0 [.int .i64 (0)] []) []),(1,oT 3 6 [6])] (.seq (sR [(0,oF 7 1 1 []),(1,oL 8 1 7 [7]),(2,oN 9 8 []),(3,oZ 10
0 [])] (.block 0 (.loop L36_0))) (sR [(0,oT 21 3 [3]),(1,oP 22 (.call 78 [.t 21,(.c (.nils))]) [21]),(2,oT 2 22 [22])] .ret))))
def C36 : CFn := ⟨23,1,[.t 2],B36⟩
abbrev L37_0 : CCode := (.seq (sR [(0,oT 4 3 []),(1,oT 5 0 []),(2,oN 6 5 [5]),(3,oB 7 .lss 4 6 [4,6])] (.cond (.t 7) (sK [7] .skip) (sK [3,7] (.exit 0)))) (.seq (.block 1 (.seq (.reg true [(0,oT 10 0 []),(1,oT 11 3
[]),(2,oI 12 3 10 11 []),(3,oM 13 3 12 [12]),(4,oP 14 (.call 79 [.t 13]) [10,11,13]),(5,oP 15 (.not (.t 14)) [14]),(6,oT 16 15 [15]),(7,oG 17 (.mv (.t 3)) 16 false []),(8,oG 18 (.bin .gtr (.t 17) (.c (.int .i64 0))) 16
false [17]),(9,oG 19 (.mv (.t 18)) 16 false [18]),(10,oG 20 (.mv (.t 0)) 19 true []),(11,oG 21 (.mv (.t 3)) 19 true []),(12,oG 22 (.bin .sub (.t 21) (.c (.int .i64 1))) 19 true [21]),(13,oG 23 (.ia 3 (.t 20) (.t 22)) 19
true []),(14,oG 24 (.fa 0 (.t 23)) 19 true [23]),(15,oG 25 (.ld 1 false (.t 24)) 19 true [20,22,24]),(16,oG 26 (.mv (.t 0)) 19 true []),(17,oG 27 (.mv (.t 3)) 19 true []),(18,oG 28 (.ia 3 (.t 26) (.t 27)) 19 true
[]),(19,oG 29 (.fa 0 (.t 28)) 19 true [28]),(20,oG 30 (.ld 1 false (.t 29)) 19 true [26,27,29]),(21,oG 31 (.bin .geq (.t 25) (.t 30)) 19 true [25,30]),(22,oG 32 (.pick (.t 19) (.t 31) (.c (.bool false))) 16 false
[19,31]),(23,oP 33 (.pick (.t 16) (.c (.bool true)) (.t 32)) [16,32])]) (.cond (.t 33) (sK [0,3,33] (sR [(0,oY 2 false [])] .ret)) (sK [33] .skip)))) (.reg false [(0,oT 8 3 [3]),(1,oC 9 .add 8 1 [8]),(2,oT 3 9 [9])])))
abbrev B37 : CCode := (sR [(0,oY 2 false [2])] (.seq (sR [(0,oZ 3 0 [])] (.block 0 (.loop L37_0))) (sR [(0,oT 34 0 [0]),(1,oN 35 34 [34]),(2,oC 36 .leq 35 4 [35]),(3,oT 2 36 [36])] .ret)))
def C37 : CFn := ⟨37,1,[.t 2],B37⟩
abbrev B38 : CCode := (sR [(0,oY 6 false [6])] (sR [(0,oT 7 0 []),(1,oT 8 1 [1]),(2,oB 9 .geq 7 8 [7,8]),(3,oT 10 9 [9]),(4,oG 11 (.mv (.t 0)) 10 true [0]),(5,oG 12 (.mv (.t 2)) 10 true [2]),(6,oG 13 (.bin .leq (.t 11)
(.t 12)) 10 true [11,12]),(7,oP 14 (.pick (.t 10) (.t 13) (.c (.bool false))) [10,13]),(8,oT 6 14 [14])] .ret))
def C38 : CFn := ⟨15,3,[.t 6],B38⟩
abbrev L39_0 : CCode := (.seq (sR [(0,oT 6 5 []),(1,oT 7 1 []),(2,oN 8 7 [7]),(3,oB 9 .lss 6 8 [6,8])] (.cond (.t 9) (sK [9] .skip) (sK [0,1,5,9] (.exit 0)))) (.seq (.block 1 (sR [(0,oT 12 0 []),(1,oT 13 1 []),(2,oT 14
5 []),(3,oI 15 1 13 14 []),(4,oL 16 1 15 [13,14,15]),(5,oP 17 (.call 80 [.t 12,.t 16]) [12,16]),(6,oP 18 (.not (.t 17)) [17])] (.cond (.t 18) (sK [0,1,5,18] (sR [(0,oY 4 false [])] .ret)) (sK [18] .skip)))) (.reg false
[(0,oT 10 5 [5]),(1,oC 11 .add 10 1 [10]),(2,oT 5 11 [11])])))
abbrev B39 : CCode := (sR [(0,oY 4 false [4])] (.seq (sR [(0,oZ 5 0 [])] (.block 0 (.loop L39_0))) (sR [(0,oY 4 true [])] .ret)))
def C39 : CFn := ⟨19,2,[.t 4],B39⟩
abbrev B40 : CCode := (sR [(0,oP 3 (.box 2 (.t 1)) [1]),(1,oP 4 (.mv (.c (.nils))) [4])] (.seq (.seq (.reg true [(0,oF 5 0 3 []),(1,oL 6 1 5 [5]),(2,oT 7 0 []),(3,oN 8 7 [7]),(4,oC 9 .sub 8 1 [8]),(5,oP 10 (.call 38 [.t
6,(.c (.int .i64 0)),.t 9]) [6,9]),(6,oP 11 (.not (.t 10)) [10]),(7,oT 12 11 [11]),(8,oG 13 (.mv (.t 0)) 12 false []),(9,oG 14 (.fa 0 (.t 3)) 12 false []),(10,oG 15 (.ld 1 false (.t 14)) 12 false [14]),(11,oG 16 (.ia 3
(.t 13) (.t 15)) 12 false []),(12,oG 17 (.fa 2 (.t 16)) 12 false [16]),(13,oG 18 (.ld 1 false (.t 17)) 12 false [13,15,17]),(14,oG 19 (.fa 1 (.t 3)) 12 false []),(15,oG 20 (.ld 1 false (.t 19)) 12 false [19]),(16,oG 21
(.len (.t 20)) 12 false [20]),(17,oG 22 (.call 38 [.t 18,(.c (.int .i64 0)),.t 21]) 12 false [18,21]),(18,oG 23 (.not (.t 22)) 12 false [22]),(19,oP 24 (.pick (.t 12) (.c (.bool true)) (.t 23)) [12,23])]) (.cond (.t 24)
(sK [0,3,24] (sR [(0,oP 25 (.bsl 1 0 [.int .i64 (0)] []) []),(1,oT 4 25 [25])] .ret)) (sK [24] .skip))) (.seq (.reg true [(0,oF 26 1 3 []),(1,oL 27 1 26 [26]),(2,oT 28 0 [0]),(3,oF 29 0 3 []),(4,oL 30 1 29 [29]),(5,oI
31 3 28 30 []),(6,oF 32 2 31 [31]),(7,oL 33 1 32 [28,30,32]),(8,oP 34 (.sls 1 (.t 27) none (some (.t 33)) none) [3,27,33]),(9,oP 35 (.bld [.int .i64 (0),.nils] [(1,1,(.t 34))]) [34]),(10,oP 36 (.call 41 [.t 35])
[35]),(11,oT 4 36 [36])]) .ret)))
def C40 : CFn := ⟨37,2,[.t 4],B40⟩
abbrev L41_0 : CCode := (.seq (sR [(0,oT 6 4 []),(1,oC 7 .lss 6 4 [6])] (.cond (.t 7) (sK [7] .skip) (sK [1,4,7] (.exit 0)))) (.seq (.block 1 (sR [(0,oF 10 1 1 []),(1,oL 11 1 10 [10]),(2,oT 12 4 []),(3,oP 13 (.call 80
[.t 11,.t 12]) [11,12])] (.cond (.t 13) (sK [13] (.reg false [(0,oT 14 3 [3]),(1,oT 15 4 []),(2,oP 16 (.bsl 1 1 [.int .i64 (0)] [(0,1,(.t 15))]) [15]),(3,oP 17 (.app 1 8 (.t 14) (.t 16)) [14,16]),(4,oT 3 17 [17])])) (sK
[13] .skip)))) (.reg false [(0,oT 8 4 [4]),(1,oC 9 .add 8 1 [8]),(2,oT 4 9 [9])])))
abbrev B41 : CCode := (sR [(0,oP 1 (.box 2 (.t 0)) [0]),(1,oP 2 (.mv (.c (.nils))) [2])] (sR [(0,oP 5 (.bsl 1 0 [.int .i64 (0)] []) []),(1,oT 3 5 [5])] (.seq (sR [(0,oZ 4 0 [])] (.block 0 (.loop L41_0))) (sR [(0,oT 18 3
[3]),(1,oT 2 18 [18])] .ret))))
def C41 : CFn := ⟨19,1,[.t 2],B41⟩
abbrev L42_0 : CCode := (.seq (sR [(0,oT 30 5 []),(1,oF 31 1 3 []),(2,oL 32 1 31 [31]),(3,oN 33 32 [32]),(4,oB 34 .lss 30 33 [30,33])] (.cond (.t 34) (sK [34] .skip) (sK [3,5,34] (.exit 0)))) (.seq (.block 1 (sR [(0,oF
37 1 3 []),(1,oL 38 1 37 [37]),(2,oT 39 5 []),(3,oI 40 1 38 39 [38]),(4,oL 41 1 40 [39,40]),(5,oP 42 (.call 38 [.t 41,(.c (.int .i64 0)),(.c (.int .i64 9))]) [41]),(6,oP 43 (.not (.t 42)) [42])] (.cond (.t 43) (sK
[3,5,43] (sR [(0,oY 4 false [])] .ret)) (sK [43] .skip)))) (.reg false [(0,oT 35 5 [5]),(1,oC 36 .add 35 1 [35]),(2,oT 5 36 [36])])))
abbrev B42 : CCode := (sR [(0,oP 3 (.box 2 (.t 1)) [1]),(1,oY 4 false [4])] (.seq (.seq (.reg true [(0,oT 6 0 []),(1,oP 7 (.call 37 [.t 6]) [6]),(2,oP 8 (.not (.t 7)) [7]),(3,oT 9 8 [8]),(4,oG 10 (.fa 0 (.t 3)) 9 false
[]),(5,oG 11 (.ld 1 false (.t 10)) 9 false [10]),(6,oG 12 (.mv (.t 0)) 9 false []),(7,oG 13 (.len (.t 12)) 9 false [12]),(8,oG 14 (.bin .sub (.t 13) (.c (.int .i64 1))) 9 false [13]),(9,oG 15 (.call 38 [.t 11,(.c (.int
.i64 0)),.t 14]) 9 false [11,14]),(10,oG 16 (.not (.t 15)) 9 false [15]),(11,oP 17 (.pick (.t 9) (.c (.bool true)) (.t 16)) [9,16]),(12,oT 18 17 [17]),(13,oG 19 (.fa 1 (.t 3)) 18 false []),(14,oG 20 (.ld 1 false (.t
19)) 18 false [19]),(15,oG 21 (.len (.t 20)) 18 false [20]),(16,oG 22 (.mv (.t 0)) 18 false [0]),(17,oG 23 (.fa 0 (.t 3)) 18 false []),(18,oG 24 (.ld 1 false (.t 23)) 18 false [23]),(19,oG 25 (.ia 3 (.t 22) (.t 24)) 18
false []),(20,oG 26 (.fa 1 (.t 25)) 18 false [25]),(21,oG 27 (.ld 1 false (.t 26)) 18 false [22,24,26]),(22,oG 28 (.bin .neq (.t 21) (.t 27)) 18 false [21,27]),(23,oP 29 (.pick (.t 18) (.c (.bool true)) (.t 28))
[18,28])]) (.cond (.t 29) (sK [3,29] (sR [(0,oY 4 false [])] .ret)) (sK [29] .skip))) (.seq (sR [(0,oZ 5 0 [])] (.block 0 (.loop L42_0))) (sR [(0,oY 4 true [])] .ret))))
def C42 : CFn := ⟨44,2,[.t 4],B42⟩
abbrev B43 : CCode := (sR [(0,oP 2 (.box 2 (.t 0)) [0]),(1,oP 3 (.box 2 (.t 1)) [1]),(2,oZ 4 0 [4])] (.seq (sR [(0,oF 5 0 2 []),(1,oL 6 1 5 [5]),(2,oF 7 0 3 []),(3,oL 8 1 7 [7]),(4,oB 9 .lss 6 8 [6,8])] (.cond (.t 9)
(sK [2,3,9] (sR [(0,oZ 4 (-1) [])] .ret)) (sK [9] .skip))) (.seq (sR [(0,oF 10 0 2 []),(1,oL 11 1 10 [10]),(2,oF 12 0 3 []),(3,oL 13 1 12 [12]),(4,oB 14 .gtr 11 13 [11,13])] (.cond (.t 14) (sK [2,3,14] (sR [(0,oZ 4 1
[])] .ret)) (sK [14] .skip))) (sR [(0,oF 15 1 2 []),(1,oL 16 1 15 [15]),(2,oF 17 1 3 []),(3,oL 18 1 17 [17]),(4,oP 19 (.call 81 [.t 16,.t 18]) [2,3,16,18]),(5,oT 4 19 [19])] .ret))))
def C43 : CFn := ⟨20,2,[.t 4],B43⟩
abbrev L58_0 : CCode := (.seq (sR [(0,oT 7 4 []),(1,oF 8 1 1 []),(2,oL 9 1 8 [8]),(3,oN 10 9 [9]),(4,oB 11 .lss 7 10 [7,10]),(5,oT 12 11 [11]),(6,oG 13 (.ld 2 true (.t 1)) 12 true []),(7,oG 14 (.call 11 [.t 13]) 12 true
[13]),(8,oP 15 (.pick (.t 12) (.t 14) (.c (.bool false))) [12,14])] (.cond (.t 15) (sK [15] .skip) (sK [1,4,15] (.exit 0)))) (.seq (.block 1 (sR [(0,oM 18 2 1 []),(1,oT 19 4 []),(2,oP 20 (.call 97 [.t 18,.t 19])
[18,19]),(3,oT 5 20 [20])] (sR [(0,oT 21 5 []),(1,oP 22 (.ia 1 (.t 21) (.c (.int .i64 0))) []),(2,oL 23 1 22 [21,22]),(3,oT 24 4 []),(4,oB 25 .eql 23 24 [23,24])] (.cond (.t 25) (sK [25] (.reg false [(0,oT 26 3
[3]),(1,oT 27 5 [5]),(2,oP 28 (.bsl 1 1 [.nils] [(0,1,(.t 27))]) [27]),(3,oP 29 (.app 1 24 (.t 26) (.t 28)) [26,28]),(4,oT 3 29 [29])])) (sK [5,25] .skip))))) (.reg false [(0,oT 16 4 [4]),(1,oC 17 .add 16 1 [16]),(2,oT
4 17 [17])])))
abbrev B58 : CCode := (sR [(0,oP 1 (.box 2 (.t 0)) [0]),(1,oP 2 (.mv (.c (.nils))) [2])] (sR [(0,oP 6 (.bsl 1 0 [.nils] []) []),(1,oT 3 6 [6])] (.seq (sR [(0,oZ 4 0 [])] (.block 0 (.loop L58_0))) (sR [(0,oT 30 3
[3]),(1,oT 2 30 [30])] .ret))))
def C58 : CFn := ⟨31,1,[.t 2],B58⟩
abbrev L60_0 : CCode := (.seq (sR [(0,oT 15 5 []),(1,oC 16 .gtr 15 0 [15])] (.cond (.t 16) (sK [16] .skip) (sK [4,5,16] (.exit 0)))) (.seq (.block 1 (.reg true [(0,oM 20 2 3 []),(1,oT 21 0 []),(2,oF 22 0 3 []),(3,oL 23
1 22 [22]),(4,oT 24 4 []),(5,⟨some 25,.call 100 [.t 21,.t 23,.t 24],none,[(3,2)],[21,23,24]⟩),(6,oP 26 (.call 99 [.t 20,.t 25]) [20,25]),(7,oT 19 26 [26]),(8,oP 27 (.ex (.t 19) 0) []),(9,oP 28 (.ex (.t 19) 1)
[19,28]),(10,oS 2 3 27 [27])])) (.reg false [(0,oT 17 5 [5]),(1,oC 18 .sub 17 1 [17]),(2,oT 5 18 [18])])))
abbrev B60 : CCode := (sR [(0,oP 2 (.al [.nils,.nils]) [])] (sR [(0,oT 6 0 []),(1,oP 7 (.call 23 [.t 6]) [6]),(2,oP 8 (.bld [.nils,.nils] [(0,1,(.t 7))]) [7]),(3,oP 3 (.al [.nils,.nils]) []),(4,oS 2 3 8 [8])] (sR [(0,oT
9 0 []),(1,oP 10 (.bsl 1 4 [.int .i64 (0)] [(0,1,(.c (.int .i64 2))),(1,1,(.c (.int .i64 2))),(2,1,(.c (.int .i64 3))),(3,1,(.c (.int .i64 3)))]) []),(2,oP 11 (.call 67 [.t 9,.t 10]) [9,10]),(3,oT 4 11 [11])] (.seq (sR
[(0,oT 12 0 []),(1,oP 13 (.call 20 [.t 12,(.c (.int .i64 11))]) [12]),(2,oP 14 (.bin .add (.c (.int .i64 2)) (.t 13)) [13]),(3,oT 5 14 [14])] (.block 0 (.loop L60_0))) (sR [(0,oM 29 2 3 []),(1,oS 2 2 29 [3,29])]
.ret)))))
def C60 : CFn := ⟨30,1,[.m 2 2 true],B60⟩
abbrev B61 : CCode := (sR [(0,oP 4 (.al [.int .i64 (0),.nils]) [])] (sR [(0,oT 6 0 []),(1,oT 7 1 [1]),(2,oP 8 (.call 100 [.t 6,.t 7,(.c (.int .i64 4))]) [6,7]),(3,oP 5 (.al [.int .i64 (0),.nils]) []),(4,oS 2 5 8 [8])]
(.seq (sR [(0,oT 9 0 []),(1,oP 10 (.call 20 [.t 9,(.c (.int .i64 10))]) [9])] (.block 0 (sR [(0,oC 12 .eql 10 0 []),(1,oT 11 12 [12])] (.cond (.t 11) (sK [10,11] (.reg false [(0,oT 13 0 []),(1,oP 14 (.call 20 [.t 13,(.c
(.int .i64 6))]) [13]),(2,oC 15 .sub 14 1 [14]),(3,oF 16 0 5 []),(4,oS 1 16 15 [15,16])])) (sK [11] (sR [(0,oC 18 .eql 10 1 []),(1,oT 17 18 [18])] (.cond (.t 17) (sK [10,17] (.reg false [(0,oF 19 1 5 []),(1,oL 20 1 19
[19]),(2,oP 21 (.bsl 1 1 [.int .i64 (0)] [(0,1,(.c (.int .i64 1)))]) []),(3,oP 22 (.app 1 8 (.t 20) (.t 21)) [20,21]),(4,oF 23 1 5 []),(5,oS 1 23 22 [22,23])])) (sK [17] (sR [(0,oC 25 .eql 10 2 [10]),(1,oT 24 25 [25])]
(.cond (.t 24) (sK [24] (.reg true [(0,oF 26 1 5 []),(1,oL 27 1 26 []),(2,oT 28 0 []),(3,oP 29 (.bsl 1 3 [.int .i64 (0)] [(0,1,(.c (.int .i64 (-1)))),(1,1,(.c (.int .i64 10))),(2,1,(.c (.int .i64 9)))]) []),(4,⟨some
30,.call 67 [.t 28,.t 29],none,[(26,1)],[26,28,29]⟩),(5,oP 31 (.ia 1 (.t 27) (.c (.int .i64 0))) [27]),(6,oS 1 31 30 [30,31])])) (sK [24] .skip))))))))))) (sR [(0,oM 32 2 5 []),(1,oS 2 4 32 [5,32])] .ret))))
def C61 : CFn := ⟨33,2,[.m 4 2 true],B61⟩
abbrev B62 : CCode := (sR [(0,oP 2 (.al [.str [],.int .i64 (0),.int .i64 (0)]) [])] (sR [(0,oT 3 0 []),(1,oP 4 (.bsl 1 6 [.str []] [(0,1,(.c (.str [114]))),(1,1,(.c (.str [122]))),(2,1,(.c (.str [97]))),(3,1,(.c (.str
[]))),(4,1,(.c (.str [82]))),(5,1,(.c (.str [97,98])))]) []),(2,oP 5 (.call 101 [.t 3,.t 4]) [3,4]),(3,oT 6 0 []),(4,oP 7 (.call 20 [.t 6,(.c (.int .i64 6))]) [6]),(5,oC 8 .sub 7 1 [7]),(6,oT 9 0 []),(7,oP 10 (.call 20
[.t 9,(.c (.int .i64 5))]) [9]),(8,oC 11 .sub 10 1 [10]),(9,oP 12 (.bld [.str [],.int .i64 (0),.int .i64 (0)] [(0,1,(.t 5)),(1,1,(.t 8)),(2,1,(.t 11))]) [5,8,11]),(10,oS 3 2 12 [12])] .ret))
def C62 : CFn := ⟨13,1,[.m 2 3 true],B62⟩
abbrev B63 : CCode := (sR [(0,oZ 2 0 [2])] (sR [(0,oT 4 0 []),(1,oT 5 0 []),(2,oP 6 (.nc (.t 5)) []),(3,oF 7 2 6 [6]),(4,oL 8 1 7 [5,7]),(5,oC 9 .mul 8 6364136223846793005 [8]),(6,oC 10 .add 9 1442695040888963407
[9]),(7,oP 11 (.nc (.t 4)) []),(8,oF 12 2 11 [11]),(9,oS 1 12 10 [4,10,12])] (.seq (.reg true [(0,oT 13 0 []),(1,oP 14 (.nc (.t 13)) []),(2,oF 15 2 14 [14]),(3,oL 16 1 15 [13,15]),(4,oP 17 (.bin .shr (.t 16) (.c (.int
.u64 (33)))) [16]),(5,oT 18 0 []),(6,oP 19 (.nc (.t 18)) []),(7,oF 20 2 19 [19]),(8,oL 21 1 20 [18,20]),(9,oP 22 (.bin .shr (.t 21) (.c (.int .u64 (45)))) [21]),(10,oB 23 .xor 17 22 [17,22]),(11,oC 24 .and 23 255
[23]),(12,oT 3 24 [24])]) (.seq (.seq (.reg true [(0,oT 25 0 []),(1,oP 26 (.nc (.t 25)) []),(2,oF 27 1 26 [26]),(3,oL 28 1 27 [25,27]),(4,oT 29 0 []),(5,oP 30 (.nc (.t 29)) []),(6,oF 31 0 30 [30]),(7,oL 32 1 31
[31]),(8,oN 33 32 [29,32]),(9,oB 34 .lss 28 33 [28,33])]) (.cond (.t 34) (sK [34] (.seq (.reg true [(0,oT 35 3 [3]),(1,oT 36 0 []),(2,oP 37 (.nc (.t 36)) []),(3,oF 38 0 37 [37]),(4,oL 39 1 38 [38]),(5,oT 40 0 []),(6,oP
41 (.nc (.t 40)) []),(7,oF 42 1 41 [41]),(8,oL 43 1 42 [40,42]),(9,oI 44 1 39 43 [39]),(10,oL 45 1 44 [36,43,44]),(11,oP 46 (.conv .i64 (.t 45)) [45]),(12,oB 47 .add 35 46 [35,46]),(13,oC 48 .and 47 255 [47]),(14,oT 3
48 [48])]) (.reg false [(0,oT 49 0 []),(1,oT 50 0 []),(2,oP 51 (.nc (.t 50)) []),(3,oF 52 1 51 [51]),(4,oL 53 1 52 [50,52]),(5,oC 54 .add 53 1 [53]),(6,oP 55 (.nc (.t 49)) []),(7,oF 56 1 55 [55]),(8,oS 1 56 54
[49,54,56])]))) (sK [34] .skip))) (sR [(0,oT 57 3 [3]),(1,oT 2 57 [57])] .ret)))))
def C63 : CFn := ⟨58,1,[.t 2],B63⟩
abbrev L64_0 : CCode := (.seq (sR [(0,oT 16 6 []),(1,oF 17 0 5 []),(2,oL 18 1 17 [17]),(3,oB 19 .lss 16 18 [16,18])] (.cond (.t 19) (sK [19] .skip) (sK [6,19] (.exit 0)))) (.seq (.block 1 (sR [(0,oT 22 0 []),(1,oP 23
(.call 21 [.t 22,(.c (.int .i64 3))]) [22])] (.cond (.t 23) (sK [23] (.reg false [(0,oF 24 2 5 []),(1,oL 25 1 24 [24]),(2,oT 26 6 []),(3,oP 27 (.bsl 1 1 [.int .i64 (0)] [(0,1,(.t 26))]) [26]),(4,oP 28 (.app 1 8 (.t 25)
(.t 27)) [25,27]),(5,oF 29 2 5 []),(6,oS 1 29 28 [28,29])])) (sK [23] .skip)))) (.reg false [(0,oT 20 6 [6]),(1,oC 21 .add 20 1 [20]),(2,oT 6 21 [21])])))
abbrev B64 : CCode := (sR [(0,oP 4 (.al [.int .i64 (0),.nils,.nils]) [])] (sR [(0,oT 7 0 []),(1,oP 8 (.call 102 [.t 7]) [7]),(2,oP 5 (.al [.int .i64 (0),.nils,.nils]) []),(3,oS 3 5 8 [8])] (.seq (sR [(0,oT 9 0 []),(1,oP
10 (.call 21 [.t 9,(.c (.int .i64 3))]) [9])] (.cond (.t 10) (sK [10] (.reg false [(0,oT 11 0 []),(1,oT 12 1 [1]),(2,oP 13 (.call 103 [.t 11,.t 12]) [11,12]),(3,oS 3 5 13 [13])])) (sK [1,10] .skip))) (.seq (sR [(0,oT 14
0 []),(1,oP 15 (.call 21 [.t 14,(.c (.int .i64 4))]) [14])] (.cond (.t 15) (sK [15] (sR [(0,oZ 6 0 [])] (.block 0 (.loop L64_0)))) (sK [15] .skip))) (sR [(0,oM 30 3 5 []),(1,oS 3 4 30 [5,30])] .ret)))))
def C64 : CFn := ⟨31,2,[.m 4 3 true],B64⟩
abbrev L65_1 : CCode := (.seq (sR [(0,oT 43 11 []),(1,oC 44 .lss 43 4 [43])] (.cond (.t 44) (sK [44] .skip) (sK [9,11,44] (.exit 2)))) (.seq (.block 3 (.seq (sR [(0,oF 47 2 7 []),(1,oL 48 1 47 [47]),(2,oT 49 11
[]),(3,oP 50 (.call 80 [.t 48,.t 49]) [48,49]),(4,oT 51 50 [50]),(5,oG 52 (.fa 1 (.t 9)) 51 false []),(6,oG 53 (.ld 1 false (.t 52)) 51 false [52]),(7,oG 54 (.mv (.t 11)) 51 false []),(8,oG 55 (.call 80 [.t 53,.t 54])
51 false [53,54]),(9,oG 56 (.not (.t 55)) 51 false [55]),(10,oP 57 (.pick (.t 51) (.c (.bool true)) (.t 56)) [51,56])] (.cond (.t 57) (sK [57] (.exit 3)) (sK [57] .skip))) (sR [(0,oT 58 0 []),(1,oM 59 2 9 []),(2,oP 60
(.call 40 [.t 58,.t 59]) [58,59]),(3,oT 61 11 []),(4,oP 62 (.call 80 [.t 60,.t 61]) [60,61])] (.cond (.t 62) (sK [62] (.reg false [(0,oF 63 2 10 []),(1,oL 64 1 63 [63]),(2,oT 65 11 []),(3,oP 66 (.bsl 1 1 [.int .i64 (0)]
[(0,1,(.t 65))]) [65]),(4,oP 67 (.app 1 8 (.t 64) (.t 66)) [64,66]),(5,oF 68 2 10 []),(6,oS 1 68 67 [67,68])])) (sK [62] (.reg false [(0,oF 69 3 10 []),(1,oL 70 1 69 [69]),(2,oT 71 11 []),(3,oP 72 (.bsl 1 1 [.int .i64
(0)] [(0,1,(.t 71))]) [71]),(4,oP 73 (.app 1 8 (.t 70) (.t 72)) [70,72]),(5,oF 74 3 10 []),(6,oS 1 74 73 [73,74])])))))) (.reg false [(0,oT 45 11 [11]),(1,oC 46 .add 45 1 [45]),(2,oT 11 46 [46])])))
abbrev L65_0 : CCode := (.seq (sR [(0,oF 20 1 7 []),(1,oL 21 1 20 [20]),(2,oN 22 21 [21]),(3,oC 23 .gtr 22 0 [22])] (.cond (.t 23) (sK [23] .skip) (sK [0,7,23] (.exit 0)))) (.block 1 (sR [(0,oT 24 0 []),(1,oM 25 3 7
[]),(2,oP 26 (.call 106 [.t 24,.t 25]) [24,25]),(3,oT 8 26 [26])] (.seq (sR [(0,oT 27 8 []),(1,oC 28 .lss 27 0 [27])] (.cond (.t 28) (sK [0,6,7,8,28] (sR [(0,oP 29 (.bsl 4 0 [.int .i64 (0),.nils,.nils,.nils] [])
[]),(1,oT 4 29 [29]),(2,oY 5 false [])] .ret)) (sK [28] .skip))) (sR [(0,oF 30 1 7 []),(1,oL 31 1 30 [30]),(2,oT 32 8 []),(3,oI 33 2 31 32 [31]),(4,oM 34 2 33 [33]),(5,oP 9 (.al [.int .i64 (0),.nils]) []),(6,oS 2 9 34
[32,34])] (.seq (.reg true [(0,oF 35 0 9 []),(1,oL 36 1 35 []),(2,oP 37 (.bsl 1 0 [.int .i64 (0)] []) []),(3,oF 38 1 9 []),(4,oL 39 1 38 [38]),(8,oP 10 (.al [.int .i64 (0),.nils,.nils,.nils]) []),(5,⟨some 40,.app 1 8
(.t 37) (.t 39),none,[(35,1)],[35,37,39]⟩),(6,oP 41 (.bld [.int .i64 (0),.nils] [(0,1,(.t 36)),(1,1,(.t 40))]) [36,40]),(7,oP 42 (.bld [.int .i64 (0),.nils,.nils,.nils] [(0,2,(.t 41))]) [41]),(9,oS 4 10 42 [42])]) (.seq
(sR [(0,oZ 11 0 [])] (.block 2 (.loop L65_1))) (sR [(0,oT 75 6 [6]),(1,oM 76 4 10 []),(2,oP 77 (.bsl 4 1 [.int .i64 (0),.nils,.nils,.nils] [(0,4,(.t 76))]) [10,76]),(3,oP 78 (.app 4 80 (.t 75) (.t 77)) [75,77]),(4,oT 6
78 [78])] (.reg false [(0,oM 79 3 7 []),(1,oT 80 8 [8]),(2,oP 81 (.call 107 [.t 79,.t 80]) [79,80]),(3,oS 3 7 81 [81])])))))))))
abbrev B65 : CCode := (sR [(0,oP 3 (.box 3 (.t 1)) [1]),(1,oP 4 (.mv (.c (.nils))) [4]),(2,oY 5 false [5])] (sR [(0,oP 12 (.bsl 4 0 [.int .i64 (0),.nils,.nils,.nils] []) []),(1,oT 6 12 [12])] (.seq (sR [(0,oT 13 0
[]),(1,oM 14 3 3 []),(2,oP 15 (.call 104 [.t 13,.t 14]) [13,14]),(3,oC 16 .neq 15 1 [15])] (.cond (.t 16) (sK [0,3,16] (sR [(0,oT 17 6 [6]),(1,oT 4 17 [17]),(2,oY 5 false [])] .ret)) (sK [16] .skip))) (sR [(0,oM 18 3 3
[]),(1,oP 19 (.call 105 [.t 18]) [3,18]),(2,oP 7 (.al [.int .i64 (0),.nils,.nils]) []),(3,oS 3 7 19 [19])] (.seq (.block 0 (.loop L65_0)) (sR [(0,oT 82 6 [6]),(1,oT 4 82 [82]),(2,oY 5 true [])] .ret))))))
def C65 : CFn := ⟨83,2,[.t 4,.t 5],B65⟩
abbrev L66_0 : CCode := (.seq (sR [(0,oT 24 8 []),(1,oT 25 6 []),(2,oP 26 (.ia 1 (.t 25) (.c (.int .i64 0))) []),(3,oL 27 1 26 [25,26]),(4,oP 28 (.lens (.t 27)) [27]),(5,oB 29 .lss 24 28 [24,28])] (.cond (.t 29) (sK
[29] .skip) (sK [8,29] (.exit 0)))) (.seq (.block 1 (sR [(0,oT 33 6 []),(1,oP 34 (.ia 1 (.t 33) (.c (.int .i64 0))) []),(2,oL 35 1 34 [33,34]),(3,oT 36 8 []),(4,oT 37 8 []),(5,oC 38 .add 37 1 [37]),(6,oP 39 (.sst (.t
35) (some (.t 36)) (some (.t 38))) [35,36,38]),(7,oP 40 (.call 109 [.t 39]) [39]),(8,oT 32 40 [40]),(9,oP 41 (.ex (.t 32) 0) []),(10,oP 42 (.ex (.t 32) 1) [32]),(11,oT 9 41 [41]),(12,oT 10 42 [10,42])] (.reg false
[(0,oF 43 2 7 []),(1,oL 44 1 43 [43]),(2,oT 45 9 [9]),(3,oP 46 (.bsl 1 1 [.int .i64 (0)] [(0,1,(.t 45))]) [45]),(4,oP 47 (.app 1 8 (.t 44) (.t 46)) [44,46]),(5,oF 48 2 7 []),(6,oS 1 48 47 [47,48])]))) (.reg false [(0,oT
30 8 [8]),(1,oC 31 .add 30 1 [30]),(2,oT 8 31 [31])])))
abbrev L66_2 : CCode := (.seq (sR [(0,oT 60 14 []),(1,oT 61 11 []),(2,oT 62 12 []),(3,oI 63 1 61 62 []),(4,oL 64 1 63 [61,62,63]),(5,oP 65 (.lens (.t 64)) [64]),(6,oB 66 .lss 60 65 [60,65])] (.cond (.t 66) (sK [66]
.skip) (sK [14,66] (.exit 4)))) (.seq (.block 5 (.seq (sR [(0,oT 69 14 []),(1,oC 70 .eql 69 0 [69])] (.cond (.t 70) (sK [70] (sR [(0,oT 71 0 []),(1,oT 72 11 []),(2,oT 73 12 []),(3,oI 74 1 72 73 []),(4,oL 75 1 74
[72,73,74]),(5,oP 76 (.sst (.t 75) none (some (.c (.int .i64 1)))) [75]),(6,oP 77 (.call 110 [.t 71,.t 76]) [71,76]),(7,oF 78 0 13 []),(8,oS 1 78 77 [77,78])] (.exit 5))) (sK [70] .skip))) (.seq (sR [(0,oT 79 11
[]),(1,oT 80 12 []),(2,oI 81 1 79 80 []),(3,oL 82 1 81 [79,80,81]),(4,oT 83 14 []),(5,oP 84 (.ix (.t 82) (.t 83)) [82,83]),(6,oP 85 (.bin .eql (.t 84) (.c (.int .u8 (124)))) [84])] (.cond (.t 85) (sK [85] (.exit 5)) (sK
[85] .skip))) (sR [(0,oT 87 11 []),(1,oT 88 12 []),(2,oI 89 1 87 88 []),(3,oL 90 1 89 [87,88,89]),(4,oT 91 14 []),(5,oT 92 14 []),(6,oC 93 .add 92 1 [92]),(7,oP 94 (.sst (.t 90) (some (.t 91)) (some (.t 93)))
[90,91,93]),(8,oP 95 (.call 109 [.t 94]) [94]),(9,oT 86 95 [95]),(10,oP 96 (.ex (.t 86) 0) []),(11,oP 97 (.ex (.t 86) 1) [86]),(12,oT 15 96 [96]),(13,oT 16 97 [16,97])] (sR [(0,oF 98 1 13 []),(1,oL 99 1 98 [98]),(2,oT
100 15 []),(3,oP 101 (.bsl 1 1 [.int .i64 (0)] [(0,1,(.t 100))]) [100]),(4,oP 102 (.app 1 8 (.t 99) (.t 101)) [99,101]),(5,oF 103 1 13 []),(6,oS 1 103 102 [102,103])] (.reg false [(0,oF 104 0 7 []),(1,oL 105 1 104
[104]),(2,oT 106 15 [15]),(3,oC 107 .add 106 1 [106]),(4,oP 108 (.max (.t 105) (.t 107)) [105,107]),(5,oF 109 0 7 []),(6,oS 1 109 108 [108,109])])))))) (.reg false [(0,oT 67 14 [14]),(1,oC 68 .add 67 1 [67]),(2,oT 14 68
[68])])))
abbrev L66_1 : CCode := (.seq (sR [(0,oT 53 12 []),(1,oT 54 11 []),(2,oN 55 54 [54]),(3,oB 56 .lss 53 55 [53,55])] (.cond (.t 56) (sK [56] .skip) (sK [11,12,56] (.exit 2)))) (.seq (.block 3 (sR [(0,oP 59 (.bld [.int
.i64 (0),.nils] []) []),(1,oP 13 (.al [.int .i64 (0),.nils]) []),(2,oS 2 13 59 [59])] (.seq (sR [(0,oZ 14 0 [])] (.block 4 (.loop L66_2))) (.reg false [(0,oF 110 1 7 []),(1,oL 111 1 110 [110]),(2,oM 112 2 13 []),(3,oP
113 (.bsl 2 1 [.int .i64 (0),.nils] [(0,2,(.t 112))]) [13,112]),(4,oP 114 (.app 2 32 (.t 111) (.t 113)) [111,113]),(5,oF 115 1 7 []),(6,oS 1 115 114 [114,115])])))) (.reg false [(0,oT 57 12 [12]),(1,oC 58 .add 57 1
[57]),(2,oT 12 58 [58])])))
abbrev B66 : CCode := (sR [(0,oP 4 (.al [.int .i64 (0),.nils,.nils]) []),(1,oY 5 false [5])] (sR [(0,oT 17 1 []),(1,oP 18 (.call 108 [.t 17,(.c (.int .u8 (63)))]) [17]),(2,oT 6 18 [18])] (.seq (sR [(0,oT 19 6 []),(1,oN
20 19 [19]),(2,oC 21 .neq 20 2 [20])] (.cond (.t 21) (sK [0,1,6,21] (sR [(0,oP 22 (.bld [.int .i64 (0),.nils,.nils] []) []),(1,oS 3 4 22 [22]),(2,oY 5 false [])] .ret)) (sK [21] .skip))) (sR [(0,oP 23 (.bld [.int .i64
(0),.nils,.nils] []) []),(1,oP 7 (.al [.int .i64 (0),.nils,.nils]) []),(2,oS 3 7 23 [23])] (.seq (sR [(0,oZ 8 0 [])] (.block 0 (.loop L66_0))) (sR [(0,oT 49 6 [6]),(1,oP 50 (.ia 1 (.t 49) (.c (.int .i64 1))) []),(2,oL
51 1 50 [49,50]),(3,oP 52 (.call 108 [.t 51,(.c (.int .u8 (32)))]) [51]),(4,oT 11 52 [52])] (.seq (sR [(0,oZ 12 0 [])] (.block 2 (.loop L66_1))) (.seq (sR [(0,oT 116 0 [0]),(1,oM 117 3 7 []),(2,oP 118 (.call 111 [.t
116,.t 117]) [116,117]),(3,oT 119 1 [1]),(4,oB 120 .neq 118 119 [118,119])] (.cond (.t 120) (sK [7,120] (sR [(0,oP 121 (.bld [.int .i64 (0),.nils,.nils] []) []),(1,oS 3 4 121 [121]),(2,oY 5 false [])] .ret)) (sK [120]
.skip))) (sR [(0,oM 122 3 7 []),(1,oS 3 4 122 [7,122]),(2,oY 5 true [])] .ret)))))))))
def C66 : CFn := ⟨123,2,[.m 4 3 true,.t 5],B66⟩
abbrev B67 : CCode := (sR [(0,oZ 4 0 [4])] (sR [(0,oT 5 1 []),(1,oT 6 0 []),(2,oT 7 1 []),(3,oN 8 7 [7]),(4,oP 9 (.call 20 [.t 6,.t 8]) [6,8]),(5,oI 10 1 5 9 []),(6,oL 11 1 10 [5,9,10]),(7,oT 4 11 [11])] .ret))
def C67 : CFn := ⟨12,2,[.t 4],B67⟩
abbrev B68 : CCode := (sR [(0,oP 3 (.box 2 (.t 1)) [1]),(1,oY 4 false [4])] (.seq (.reg true [(0,oF 5 0 3 []),(1,oL 6 1 5 [5]),(2,oT 7 0 []),(3,oN 8 7 [7]),(4,oC 9 .sub 8 1 [8]),(5,oP 10 (.call 31 [.t 6,(.c (.int .i64
0)),.t 9]) [6,9]),(6,oT 11 10 [10]),(7,oG 12 (.fa 1 (.t 3)) 11 true []),(8,oG 13 (.ld 1 false (.t 12)) 11 true [12]),(9,oG 14 (.len (.t 13)) 11 true [13]),(10,oG 15 (.mv (.t 0)) 11 true [0]),(11,oG 16 (.fa 0 (.t 3)) 11
true []),(12,oG 17 (.ld 1 false (.t 16)) 11 true [16]),(13,oG 18 (.ia 3 (.t 15) (.t 17)) 11 true []),(14,oG 19 (.fa 1 (.t 18)) 11 true [18]),(15,oG 20 (.ld 1 false (.t 19)) 11 true [15,17,19]),(16,oG 21 (.bin .eql (.t
14) (.t 20)) 11 true [14,20]),(17,oP 22 (.pick (.t 11) (.t 21) (.c (.bool false))) [11,21]),(18,oT 23 22 [22]),(19,oG 24 (.fa 1 (.t 3)) 23 true []),(20,oG 25 (.ld 1 false (.t 24)) 23 true [24]),(21,oG 26 (.call 112 [.t
25]) 23 true [3,25]),(22,oP 27 (.pick (.t 23) (.t 26) (.c (.bool false))) [23,26]),(23,oT 4 27 [27])]) .ret))
def C68 : CFn := ⟨28,2,[.t 4],B68⟩
abbrev B69 : CCode := (sR [(0,oP 2 (.box 2 (.t 0)) [0]),(1,oP 3 (.box 2 (.t 1)) [1]),(2,oZ 4 0 [4])] (.seq (sR [(0,oF 5 0 2 []),(1,oL 6 1 5 [5]),(2,oF 7 0 3 []),(3,oL 8 1 7 [7]),(4,oB 9 .neq 6 8 [6,8])] (.cond (.t 9)
(sK [9] (sR [(0,oF 10 0 2 []),(1,oL 11 1 10 [2,10]),(2,oF 12 0 3 []),(3,oL 13 1 12 [3,12]),(4,oP 14 (.call 113 [.t 11,.t 13]) [11,13]),(5,oT 4 14 [14])] .ret)) (sK [9] .skip))) (sR [(0,oF 15 1 2 []),(1,oL 16 1 15
[15]),(2,oF 17 1 3 []),(3,oL 18 1 17 [17]),(4,oP 19 (.call 114 [.t 16,.t 18]) [2,3,16,18]),(5,oT 4 19 [19])] .ret)))
def C69 : CFn := ⟨20,2,[.t 4],B69⟩
abbrev L70_0 : CCode := (.seq (sR [(0,oT 34 8 []),(1,oT 35 7 []),(2,oN 36 35 [35]),(3,oB 37 .lss 34 36 [34,36])] (.cond (.t 37) (sK [37] .skip) (sK [8,37] (.exit 0)))) (.block 1 (.reg true [(0,oT 38 8 []),(1,oT 39 7
[]),(2,oT 40 8 []),(3,oP 41 (.sls 1 (.t 39) (some (.t 40)) none none) [39,40]),(4,oT 42 7 []),(5,oT 43 8 [8]),(6,oP 44 (.sls 1 (.t 42) none (some (.t 43)) none) [42,43]),(7,oP 45 (.cpy 1 (.t 41) (.t 44)) [41,44]),(8,oB
46 .add 38 45 [38,45]),(9,oT 8 46 [46])])))
abbrev B70 : CCode := (sR [(0,oP 4 (.mv (.c (.nils))) [4])] (.seq (sR [(0,oT 9 1 []),(1,oC 10 .lss 9 0 [9])] (.cond (.t 10) (sK [10] (.reg false [(0,oP 11 .fail [11]),(1,⟨none,.fail,none,[],[]⟩)])) (sK [10] .skip))) (sR
[(0,oT 13 0 []),(1,oN 14 13 [13]),(2,oP 15 (.conv .u64 (.t 14)) [14]),(3,oT 16 1 [1]),(4,oP 17 (.conv .u64 (.t 16)) [16]),(5,oP 18 (.call 115 [.t 15,.t 17]) [15,17]),(6,oT 12 18 [18]),(7,oP 19 (.ex (.t 12) 0) []),(8,oP
20 (.ex (.t 12) 1) [12]),(9,oT 5 19 [19]),(10,oT 6 20 [20])] (.seq (sR [(0,oT 21 5 [5]),(1,oP 22 (.bin .gtr (.t 21) (.c (.int .u64 (0)))) [21]),(2,oT 23 22 [22]),(3,oG 24 (.mv (.t 6)) 23 false []),(4,oG 25 (.bin .gtr
(.t 24) (.c (.int .u64 (9223372036854775807)))) 23 false [24]),(5,oP 26 (.pick (.t 23) (.c (.bool true)) (.t 25)) [23,25])] (.cond (.t 26) (sK [26] (.reg false [(0,oP 27 .fail [27]),(1,⟨none,.fail,none,[],[]⟩)])) (sK
[26] .skip))) (sR [(0,oT 28 6 [6]),(1,oP 29 (.conv .i64 (.t 28)) [28]),(2,oP 30 (.mk 1 8 [.int .i64 (0)] (.t 29) (.t 29)) [29]),(3,oT 7 30 [30])] (sR [(0,oT 31 7 []),(1,oT 32 0 [0]),(2,oP 33 (.cpy 1 (.t 31) (.t 32))
[31,32]),(3,oT 8 33 [33])] (.seq (.block 0 (.loop L70_0)) (sR [(0,oT 47 7 [7]),(1,oT 4 47 [47])] .ret))))))))
def C70 : CFn := ⟨48,2,[.t 4],B70⟩
abbrev L71_0 : CCode := (sR [(0,oB 16 .lss 15 14 [])] (.seq (.cond (.t 16) (sK [16] .skip) (sK [2,13,14,15,16] (.exit 0))) (.seq (.block 1 (sR [(0,oT 17 15 []),(1,oI 18 1 13 15 []),(2,oL 19 1 18 [18]),(3,oT 9 17
[17]),(4,oT 10 19 [19])] (.block 2 (sR [(0,oT 21 10 []),(1,oP 22 (.call 117 [.t 21]) [21]),(2,oP 23 (.not (.t 22)) [22]),(3,oT 20 23 [23])] (.cond (.t 20) (sK [20] (.seq (.reg true [(0,oT 24 10 [10]),(2,oT 26 2
[]),(3,oT 27 9 [9]),(4,oI 28 1 26 27 []),(5,oL 29 1 28 []),(1,⟨some 25,.call 118 [.t 24],none,[(28,1)],[24,26,27,28]⟩),(6,oB 30 .neq 25 29 [25,29])]) (.cond (.t 30) (sK [2,8,13,14,15,30] (sR [(0,oP 6 (.mv (.c (.nils)))
[]),(1,oY 7 false [])] .ret)) (sK [30] .skip)))) (sK [20] (sR [(0,oT 32 8 []),(1,oT 33 10 []),(2,oI 34 1 32 33 []),(3,oL 35 1 34 [32,33,34]),(4,oC 36 .lss 35 0 [35]),(5,oT 31 36 [36])] (.cond (.t 31) (sK [31] (.reg
false [(0,oT 37 8 []),(1,oT 38 10 [10]),(2,oT 39 2 []),(3,oT 40 9 [9]),(4,oI 41 1 39 40 []),(5,oL 42 1 41 [39,40,41]),(6,oI 43 1 37 38 []),(7,oS 1 43 42 [37,38,42,43])])) (sK [31] (.seq (.reg true [(0,oT 45 8 []),(1,oT
46 10 [10]),(2,oI 47 1 45 46 []),(3,oL 48 1 47 [45,46,47]),(4,oT 49 2 []),(5,oT 50 9 [9]),(6,oI 51 1 49 50 []),(7,oL 52 1 51 [49,50,51]),(8,oB 53 .neq 48 52 [48,52]),(9,oT 44 53 [53])]) (.cond (.t 44) (sK
[2,8,13,14,15,44] (sR [(0,oP 6 (.mv (.c (.nils))) []),(1,oY 7 false [])] .ret)) (sK [44] .skip)))))))))))) (.reg false [(0,oC 54 .add 15 1 [15]),(1,oT 15 54 [54])]))))
abbrev B71 : CCode := (sR [(0,oP 6 (.mv (.c (.nils))) [6]),(1,oY 7 false [7])] (sR [(0,oT 11 0 [0]),(1,oP 12 (.call 116 [.t 11]) [11]),(2,oT 8 12 [12])] (.seq (sR [(0,oT 13 1 [1]),(1,oN 14 13 []),(2,oZ 15 0 [])] (.block
0 (.loop L71_0))) (sR [(0,oT 55 8 [8]),(1,oT 6 55 [55]),(2,oY 7 true [])] .ret))))
def C71 : CFn := ⟨56,3,[.t 6,.t 7],B71⟩
abbrev B72 : CCode := (sR [(0,oP 4 (.box 2 (.t 1)) [1]),(1,oP 5 (.box 2 (.t 2)) [2]),(2,oY 6 false [6])] (.seq (sR [(0,oF 8 0 4 []),(1,oL 9 1 8 [8]),(2,oF 10 0 5 []),(3,oL 11 1 10 [10]),(4,oB 12 .neq 9 11 [9,11])]
(.cond (.t 12) (sK [0,4,5,12] (sR [(0,oY 6 false [])] .ret)) (sK [12] .skip))) (sR [(0,oT 13 0 [0]),(1,oF 14 0 4 []),(2,oL 15 1 14 [14]),(3,oI 16 3 13 15 []),(4,oF 17 2 16 [16]),(5,oL 18 1 17 [13,15,17]),(6,oT 7 18
[18])] (.seq (.reg true [(0,oF 19 1 4 []),(1,oL 20 1 19 [19]),(2,oT 21 7 []),(3,oP 22 (.sls 1 (.t 20) none (some (.t 21)) none) [4,20,21]),(4,oF 23 1 5 []),(5,oL 24 1 23 [23]),(6,oT 25 7 [7]),(7,oP 26 (.sls 1 (.t 24)
none (some (.t 25)) none) [5,24,25]),(8,oP 27 (.call 119 [.t 22,.t 26]) [22,26]),(9,oT 6 27 [27])]) .ret))))
def C72 : CFn := ⟨28,3,[.t 6],B72⟩
abbrev L73_0 : CCode := (.seq (sR [(0,oT 29 9 []),(1,oF 30 1 3 []),(2,oL 31 1 30 [30]),(3,oN 32 31 [31]),(4,oB 33 .lss 29 32 [29,32])] (.cond (.t 33) (sK [33] .skip) (sK [3,4,9,33] (.exit 0)))) (.seq (.block 1 (sR
[(0,oF 36 1 3 []),(1,oL 37 1 36 [36]),(2,oT 38 9 []),(3,oI 39 1 37 38 [37]),(4,oL 40 1 39 [38,39]),(5,oT 10 40 [40])] (.seq (sR [(0,oT 41 10 []),(1,oC 42 .lss 41 0 [41])] (.cond (.t 42) (sK [42] (.seq (sR [(0,oT 43 10
[10]),(1,oP 44 (.bin .sub (.c (.int .i64 (-1))) (.t 43)) [43]),(2,oF 45 1 4 []),(3,oL 46 1 45 [45]),(4,oT 47 9 []),(5,oI 48 1 46 47 [46]),(6,oL 49 1 48 [47,48]),(7,oB 50 .neq 44 49 [44,49])] (.cond (.t 50) (sK
[3,4,9,50] (sR [(0,oT 51 8 [8]),(1,oT 6 51 [51]),(2,oY 7 false [])] .ret)) (sK [50] .skip))) (.exit 1))) (sK [42] .skip))) (.seq (.seq (.reg true [(0,oT 52 8 []),(1,oT 53 10 []),(2,oI 54 1 52 53 []),(3,oL 55 1 54
[52,53,54]),(4,oC 56 .geq 55 0 [55]),(5,oT 57 56 [56]),(6,oG 58 (.mv (.t 8)) 57 true []),(7,oG 59 (.mv (.t 10)) 57 true []),(8,oG 60 (.ia 1 (.t 58) (.t 59)) 57 true []),(9,oG 61 (.ld 1 false (.t 60)) 57 true
[58,59,60]),(10,oG 62 (.fa 1 (.t 4)) 57 true []),(11,oG 63 (.ld 1 false (.t 62)) 57 true [62]),(12,oG 64 (.mv (.t 9)) 57 true []),(13,oG 65 (.ia 1 (.t 63) (.t 64)) 57 true [63]),(14,oG 66 (.ld 1 false (.t 65)) 57 true
[64,65]),(15,oG 67 (.bin .neq (.t 61) (.t 66)) 57 true [61,66]),(16,oP 68 (.pick (.t 57) (.t 67) (.c (.bool false))) [57,67])]) (.cond (.t 68) (sK [3,4,9,10,68] (sR [(0,oT 69 8 [8]),(1,oT 6 69 [69]),(2,oY 7 false [])]
.ret)) (sK [68] .skip))) (.reg false [(0,oT 70 8 []),(1,oT 71 10 [10]),(2,oF 72 1 4 []),(3,oL 73 1 72 [72]),(4,oT 74 9 []),(5,oI 75 1 73 74 [73]),(6,oL 76 1 75 [74,75]),(7,oI 77 1 70 71 []),(8,oS 1 77 76
[70,71,76,77])]))))) (.reg false [(0,oT 34 9 [9]),(1,oC 35 .add 34 1 [34]),(2,oT 9 35 [35])])))
abbrev B73 : CCode := (sR [(0,oP 3 (.box 2 (.t 0)) [0]),(1,oP 4 (.box 2 (.t 1)) [1]),(2,oP 6 (.mv (.c (.nils))) [6]),(3,oY 7 false [7])] (sR [(0,oP 11 (.bsl 1 0 [.int .i64 (0)] []) []),(1,oT 12 2 [2]),(2,oP 13 (.app 1 8
(.t 11) (.t 12)) [11,12]),(3,oT 8 13 [13])] (.seq (sR [(0,oF 14 0 4 []),(1,oL 15 1 14 [14]),(2,oF 16 0 3 []),(3,oL 17 1 16 [16]),(4,oB 18 .neq 15 17 [15,17]),(5,oT 19 18 [18]),(6,oG 20 (.fa 1 (.t 4)) 19 false []),(7,oG
21 (.ld 1 false (.t 20)) 19 false [20]),(8,oG 22 (.len (.t 21)) 19 false [21]),(9,oG 23 (.fa 1 (.t 3)) 19 false []),(10,oG 24 (.ld 1 false (.t 23)) 19 false [23]),(11,oG 25 (.len (.t 24)) 19 false [24]),(12,oG 26 (.bin
.neq (.t 22) (.t 25)) 19 false [22,25]),(13,oP 27 (.pick (.t 19) (.c (.bool true)) (.t 26)) [19,26])] (.cond (.t 27) (sK [3,4,27] (sR [(0,oT 28 8 [8]),(1,oT 6 28 [28]),(2,oY 7 false [])] .ret)) (sK [27] .skip))) (.seq
(sR [(0,oZ 9 0 [])] (.block 0 (.loop L73_0))) (sR [(0,oT 78 8 [8]),(1,oT 6 78 [78]),(2,oY 7 true [])] .ret)))))
def C73 : CFn := ⟨79,3,[.t 6,.t 7],B73⟩
abbrev B74 : CCode := (sR [(0,oP 1 (.box 3 (.t 0)) [0]),(1,oY 2 false [2])] (sR [(0,oF 3 0 1 []),(1,oL 4 1 3 [3]),(2,oP 5 (.lens (.t 4)) [4]),(3,oC 6 .eql 5 1 [5]),(4,oT 7 6 [6]),(5,oG 8 (.fa 0 (.t 1)) 7 true []),(6,oG
9 (.ld 1 false (.t 8)) 7 true [8]),(7,oG 10 (.ix (.t 9) (.c (.int .i64 0))) 7 true [9]),(8,oG 11 (.bin .geq (.t 10) (.c (.int .u8 (97)))) 7 true [10]),(9,oP 12 (.pick (.t 7) (.t 11) (.c (.bool false))) [7,11]),(10,oT 13
12 [12]),(11,oG 14 (.fa 0 (.t 1)) 13 true []),(12,oG 15 (.ld 1 false (.t 14)) 13 true [14]),(13,oG 16 (.ix (.t 15) (.c (.int .i64 0))) 13 true [15]),(14,oG 17 (.bin .leq (.t 16) (.c (.int .u8 (122)))) 13 true
[16]),(15,oP 18 (.pick (.t 13) (.t 17) (.c (.bool false))) [13,17]),(16,oT 19 18 [18]),(17,oG 20 (.fa 1 (.t 1)) 19 true []),(18,oG 21 (.ld 1 false (.t 20)) 19 true [20]),(19,oG 22 (.call 31 [.t 21,(.c (.int .i64 1)),(.c
(.int .i64 3))]) 19 true [21]),(20,oP 23 (.pick (.t 19) (.t 22) (.c (.bool false))) [19,22]),(21,oT 24 23 [23]),(22,oG 25 (.fa 2 (.t 1)) 24 true []),(23,oG 26 (.ld 1 false (.t 25)) 24 true [25]),(24,oG 27 (.fa 1 (.t 1))
24 true []),(25,oG 28 (.ld 1 false (.t 27)) 24 true [1,27]),(26,oG 29 (.call 31 [.t 26,(.c (.int .i64 0)),.t 28]) 24 true [26,28]),(27,oP 30 (.pick (.t 24) (.t 29) (.c (.bool false))) [24,29]),(28,oT 2 30 [30])] .ret))
def C74 : CFn := ⟨31,1,[.t 2],B74⟩
abbrev L75_0 : CCode := (sR [(0,oB 9 .lss 8 7 [])] (.seq (.cond (.t 9) (sK [9] .skip) (sK [0,1,7,8,9] (.exit 0))) (.seq (.block 1 (sR [(0,oT 10 8 []),(1,oT 5 10 [10])] (sR [(0,oT 11 1 []),(1,oT 12 0 []),(2,oT 13 5
[]),(3,oI 14 1 12 13 []),(4,oL 15 1 14 [12,13,14]),(5,oP 16 (.callv (.t 11) [.t 15]) [11,15])] (.cond (.t 16) (sK [0,1,7,8,16] (sR [(0,oT 17 5 [5]),(1,oT 4 17 [17])] .ret)) (sK [5,16] .skip))))) (.reg false [(0,oC 18
.add 8 1 [8]),(1,oT 8 18 [18])]))))
abbrev B75 : CCode := (sR [(0,oZ 4 0 [4])] (.seq (sR [(0,oT 6 0 []),(1,oN 7 6 [6]),(2,oZ 8 0 [])] (.block 0 (.loop L75_0))) (sR [(0,oZ 4 (-1) [])] .ret)))
def C75 : CFn := ⟨19,2,[.t 4],B75⟩
abbrev B76 : CCode := (sR [(0,oY 3 false [3])] (sR [(0,oL 4 1 1 []),(1,oT 5 0 [0]),(2,oP 6 (.call 77 [.t 4,.t 5]) [1,4,5]),(3,oP 7 (.not (.t 6)) [6]),(4,oT 3 7 [7])] .ret))
def C76 : CFn := ⟨8,2,[.t 3],B76⟩
abbrev B77 : CCode := (sR [(0,oY 4 false [4])] (sR [(0,oT 5 0 [0]),(1,oT 6 1 [1]),(2,oP 7 (.call 120 [.t 5,.t 6]) [5,6]),(3,oC 8 .geq 7 0 [7]),(4,oT 4 8 [8])] .ret))
def C77 : CFn := ⟨9,2,[.t 4],B77⟩
abbrev B78 : CCode := (sR [(0,oP 4 (.mv (.c (.nils))) [4])] (sR [(0,oT 6 0 [0]),(1,oT 7 1 [1]),(2,oP 8 (.bsl 1 2 [.nils] [(0,1,(.t 6)),(1,1,(.t 7))]) [6,7]),(3,oP 9 (.call 121 [.t 8]) [8]),(4,oT 5 9 [9])] (sR [(0,oT 10
5 []),(1,oP 11 (.call 87 [.t 10]) [10,11])] (sR [(0,oT 12 5 [5]),(1,oP 13 (.call 122 [.t 12]) [12]),(2,oT 4 13 [13])] .ret))))
def C78 : CFn := ⟨14,2,[.t 4],B78⟩
abbrev B79 : CCode := (sR [(0,oP 1 (.box 3 (.t 0)) [0]),(1,oY 2 false [2])] (sR [(0,oF 3 0 1 []),(1,oL 4 1 3 [3]),(2,oP 5 (.lens (.t 4)) [4]),(3,oC 6 .eql 5 1 [5]),(4,oT 7 6 [6]),(5,oG 8 (.fa 0 (.t 1)) 7 true []),(6,oG
9 (.ld 1 false (.t 8)) 7 true [8]),(7,oG 10 (.ix (.t 9) (.c (.int .i64 0))) 7 true [9]),(8,oG 11 (.bin .geq (.t 10) (.c (.int .u8 (97)))) 7 true [10]),(9,oP 12 (.pick (.t 7) (.t 11) (.c (.bool false))) [7,11]),(10,oT 13
12 [12]),(11,oG 14 (.fa 0 (.t 1)) 13 true []),(12,oG 15 (.ld 1 false (.t 14)) 13 true [14]),(13,oG 16 (.ix (.t 15) (.c (.int .i64 0))) 13 true [15]),(14,oG 17 (.bin .leq (.t 16) (.c (.int .u8 (122)))) 13 true
[16]),(15,oP 18 (.pick (.t 13) (.t 17) (.c (.bool false))) [13,17]),(16,oT 19 18 [18]),(17,oG 20 (.fa 1 (.t 1)) 19 true []),(18,oG 21 (.ld 1 false (.t 20)) 19 true [20]),(19,oG 22 (.call 38 [.t 21,(.c (.int .i64 1)),(.c
(.int .i64 3))]) 19 true [21]),(20,oP 23 (.pick (.t 19) (.t 22) (.c (.bool false))) [19,22]),(21,oT 24 23 [23]),(22,oG 25 (.fa 2 (.t 1)) 24 true []),(23,oG 26 (.ld 1 false (.t 25)) 24 true [25]),(24,oG 27 (.fa 1 (.t 1))
24 true []),(25,oG 28 (.ld 1 false (.t 27)) 24 true [1,27]),(26,oG 29 (.call 38 [.t 26,(.c (.int .i64 0)),.t 28]) 24 true [26,28]),(27,oP 30 (.pick (.t 24) (.t 29) (.c (.bool false))) [24,29]),(28,oT 2 30 [30])] .ret))
def C79 : CFn := ⟨31,1,[.t 2],B79⟩
abbrev L80_0 : CCode := (.seq (sR [(0,oT 6 5 []),(1,oT 7 0 []),(2,oN 8 7 [7]),(3,oB 9 .lss 6 8 [6,8])] (.cond (.t 9) (sK [9] .skip) (sK [0,1,5,9] (.exit 0)))) (.seq (.block 1 (sR [(0,oT 12 0 []),(1,oT 13 5 []),(2,oI 14
1 12 13 []),(3,oL 15 1 14 [12,13,14]),(4,oT 16 1 []),(5,oB 17 .eql 15 16 [15,16])] (.cond (.t 17) (sK [0,1,5,17] (sR [(0,oY 4 true [])] .ret)) (sK [17] .skip)))) (.reg false [(0,oT 10 5 [5]),(1,oC 11 .add 10 1
[10]),(2,oT 5 11 [11])])))
abbrev B80 : CCode := (sR [(0,oY 4 false [4])] (.seq (sR [(0,oZ 5 0 [])] (.block 0 (.loop L80_0))) (sR [(0,oY 4 false [])] .ret)))
def C80 : CFn := ⟨18,2,[.t 4],B80⟩
abbrev L81_0 : CCode := (.seq (sR [(0,oT 6 5 []),(1,oT 7 0 []),(2,oN 8 7 [7]),(3,oB 9 .lss 6 8 [6,8]),(4,oT 10 9 [9]),(5,oG 11 (.mv (.t 5)) 10 true []),(6,oG 12 (.mv (.t 1)) 10 true []),(7,oG 13 (.len (.t 12)) 10 true
[12]),(8,oG 14 (.bin .lss (.t 11) (.t 13)) 10 true [11,13]),(9,oP 15 (.pick (.t 10) (.t 14) (.c (.bool false))) [10,14])] (.cond (.t 15) (sK [15] .skip) (sK [5,15] (.exit 0)))) (.seq (.block 1 (.seq (.seq (.reg true
[(0,oT 18 0 []),(1,oT 19 5 []),(2,oI 20 1 18 19 []),(3,oL 21 1 20 [18,19,20]),(4,oT 22 1 []),(5,oT 23 5 []),(6,oI 24 1 22 23 []),(7,oL 25 1 24 [22,23,24]),(8,oB 26 .lss 21 25 [21,25])]) (.cond (.t 26) (sK [0,1,5,26] (sR
[(0,oZ 4 (-1) [])] .ret)) (sK [26] .skip))) (.seq (.reg true [(0,oT 27 0 []),(1,oT 28 5 []),(2,oI 29 1 27 28 []),(3,oL 30 1 29 [27,28,29]),(4,oT 31 1 []),(5,oT 32 5 []),(6,oI 33 1 31 32 []),(7,oL 34 1 33
[31,32,33]),(8,oB 35 .gtr 30 34 [30,34])]) (.cond (.t 35) (sK [0,1,5,35] (sR [(0,oZ 4 1 [])] .ret)) (sK [35] .skip))))) (.reg false [(0,oT 16 5 [5]),(1,oC 17 .add 16 1 [16]),(2,oT 5 17 [17])])))
abbrev B81 : CCode := (sR [(0,oZ 4 0 [4])] (.seq (sR [(0,oZ 5 0 [])] (.block 0 (.loop L81_0))) (.seq (sR [(0,oT 36 0 []),(1,oN 37 36 [36]),(2,oT 38 1 []),(3,oN 39 38 [38]),(4,oB 40 .lss 37 39 [37,39])] (.cond (.t 40)
(sK [0,1,40] (sR [(0,oZ 4 (-1) [])] .ret)) (sK [40] .skip))) (.seq (sR [(0,oT 41 0 [0]),(1,oN 42 41 [41]),(2,oT 43 1 [1]),(3,oN 44 43 [43]),(4,oB 45 .gtr 42 44 [42,44])] (.cond (.t 45) (sK [45] (sR [(0,oZ 4 1 [])]
.ret)) (sK [45] .skip))) (sR [(0,oZ 4 0 [])] .ret)))))
def C81 : CFn := ⟨46,2,[.t 4],B81⟩
abbrev L93_3 : CCode := (.seq (sR [(0,oT 60 8 []),(1,oT 61 6 []),(2,oB 62 .lss 60 61 [60,61])] (.cond (.t 62) (sK [62] .skip) (sK [8,62] (.exit 2)))) (.seq (.block 3 (.seq (.reg true [(0,oF 65 1 3 []),(1,oL 66 1 65
[65]),(2,oT 67 8 []),(3,oI 68 2 66 67 [66]),(4,oF 69 0 68 [68]),(5,oL 70 1 69 [67,69]),(6,oF 71 0 7 []),(7,oL 72 1 71 [71]),(8,oB 73 .eql 70 72 [70,72])]) (.cond (.t 73) (sK [0,3,5,6,7,8,73] (sR [(0,oY 4 false [])]
.ret)) (sK [73] .skip)))) (.reg false [(0,oT 63 8 [8]),(1,oC 64 .add 63 1 [63]),(2,oT 8 64 [64])])))
abbrev L93_4 : CCode := (.seq (sR [(0,oT 74 9 []),(1,oF 75 1 7 []),(2,oL 76 1 75 [75]),(3,oN 77 76 [76]),(4,oB 78 .lss 74 77 [74,77])] (.cond (.t 78) (sK [78] .skip) (sK [7,9,78] (.exit 4)))) (.seq (.block 5 (.seq (.seq
(.reg true [(0,oF 81 1 7 []),(1,oL 82 1 81 [81]),(2,oT 83 9 []),(3,oI 84 1 82 83 [82]),(4,oL 85 1 84 [83,84]),(5,oF 86 0 3 []),(6,oL 87 1 86 [86]),(7,oC 88 .sub 87 1 [87]),(8,oP 89 (.call 38 [.t 85,(.c (.int .i64
(-10))),.t 88]) [85,88]),(9,oP 90 (.not (.t 89)) [89])]) (.cond (.t 90) (sK [0,3,5,6,7,9,90] (sR [(0,oY 4 false [])] .ret)) (sK [90] .skip))) (sR [(0,oF 91 1 7 []),(1,oL 92 1 91 [91]),(2,oT 93 9 []),(3,oI 94 1 92 93
[92]),(4,oL 95 1 94 [93,94]),(5,oC 96 .geq 95 0 [95])] (.cond (.t 96) (sK [96] (.reg false [(0,oT 97 5 []),(1,oF 98 1 7 []),(2,oL 99 1 98 [98]),(3,oT 100 9 []),(4,oI 101 1 99 100 [99]),(5,oL 102 1 101 [100,101]),(6,oI
103 1 97 102 []),(7,⟨none,.st 1 (.t 103) (.c (.bool true)),none,[],[97,102,103]⟩)])) (sK [96] .skip))))) (.reg false [(0,oT 79 9 [9]),(1,oC 80 .add 79 1 [79]),(2,oT 9 80 [80])])))
abbrev L93_0 : CCode := (.seq (sR [(0,oT 29 6 []),(1,oF 30 1 3 []),(2,oL 31 1 30 [30]),(3,oN 32 31 [31]),(4,oB 33 .lss 29 32 [29,32])] (.cond (.t 33) (sK [33] .skip) (sK [0,6,33] (.exit 0)))) (.seq (.block 1 (sR [(0,oF
36 1 3 []),(1,oL 37 1 36 [36]),(2,oT 38 6 []),(3,oI 39 2 37 38 [37]),(4,oM 40 2 39 [39]),(5,oP 7 (.al [.int .i64 (0),.nils]) []),(6,oS 2 7 40 [38,40])] (.seq (.seq (.reg true [(0,oF 41 0 7 []),(1,oL 42 1 41 [41]),(2,oT
43 0 []),(3,oN 44 43 [43]),(4,oC 45 .sub 44 1 [44]),(5,oP 46 (.call 38 [.t 42,(.c (.int .i64 0)),.t 45]) [42,45]),(6,oP 47 (.not (.t 46)) [46]),(7,oT 48 47 [47]),(8,oG 49 (.fa 1 (.t 7)) 48 false []),(9,oG 50 (.ld 1
false (.t 49)) 48 false [49]),(10,oG 51 (.len (.t 50)) 48 false [50]),(11,oG 52 (.mv (.t 0)) 48 false []),(12,oG 53 (.fa 0 (.t 7)) 48 false []),(13,oG 54 (.ld 1 false (.t 53)) 48 false [53]),(14,oG 55 (.ia 3 (.t 52) (.t
54)) 48 false []),(15,oG 56 (.fa 1 (.t 55)) 48 false [55]),(16,oG 57 (.ld 1 false (.t 56)) 48 false [52,54,56]),(17,oG 58 (.bin .neq (.t 51) (.t 57)) 48 false [51,57]),(18,oP 59 (.pick (.t 48) (.c (.bool true)) (.t 58))
[48,58])]) (.cond (.t 59) (sK [0,3,5,6,7,59] (sR [(0,oY 4 false [])] .ret)) (sK [59] .skip))) (.seq (sR [(0,oZ 8 0 [])] (.block 2 (.loop L93_3))) (sR [(0,oZ 9 0 [])] (.block 4 (.loop L93_4))))))) (.reg false [(0,oT 34 6
[6]),(1,oC 35 .add 34 1 [34]),(2,oT 6 35 [35])])))
abbrev L93_1 : CCode := (.seq (sR [(0,oT 104 10 []),(1,oF 105 0 3 []),(2,oL 106 1 105 [105]),(3,oB 107 .lss 104 106 [104,106])] (.cond (.t 107) (sK [107] .skip) (sK [5,10,107] (.exit 6)))) (.seq (.block 7 (sR [(0,oT 110
5 []),(1,oT 111 10 []),(2,oI 112 1 110 111 []),(3,oL 113 1 112 [110,111,112]),(4,oP 114 (.not (.t 113)) [113])] (.cond (.t 114) (sK [3,5,10,114] (sR [(0,oY 4 false [])] .ret)) (sK [114] .skip)))) (.reg false [(0,oT 108
10 [10]),(1,oC 109 .add 108 1 [108]),(2,oT 10 109 [109])])))
abbrev L93_2 : CCode := (.seq (sR [(0,oT 115 11 []),(1,oF 116 2 3 []),(2,oL 117 1 116 [116]),(3,oN 118 117 [117]),(4,oB 119 .lss 115 118 [115,118])] (.cond (.t 119) (sK [119] .skip) (sK [3,11,119] (.exit 8)))) (.seq
(.block 9 (.seq (.reg true [(0,oF 122 2 3 []),(1,oL 123 1 122 [122]),(2,oT 124 11 []),(3,oI 125 1 123 124 [123]),(4,oL 126 1 125 [124,125]),(5,oF 127 0 3 []),(6,oL 128 1 127 [127]),(7,oC 129 .sub 128 1 [128]),(8,oP 130
(.call 38 [.t 126,(.c (.int .i64 0)),.t 129]) [126,129]),(9,oP 131 (.not (.t 130)) [130]),(10,oT 132 131 [131]),(11,oG 133 (.mv (.t 11)) 132 false []),(12,oG 134 (.bin .gtr (.t 133) (.c (.int .i64 0))) 132 false
[133]),(13,oG 135 (.mv (.t 134)) 132 false [134]),(14,oG 136 (.fa 2 (.t 3)) 135 true []),(15,oG 137 (.ld 1 false (.t 136)) 135 true [136]),(16,oG 138 (.mv (.t 11)) 135 true []),(17,oG 139 (.ia 1 (.t 137) (.t 138)) 135
true [137]),(18,oG 140 (.ld 1 false (.t 139)) 135 true [138,139]),(19,oG 141 (.fa 2 (.t 3)) 135 true []),(20,oG 142 (.ld 1 false (.t 141)) 135 true [141]),(21,oG 143 (.mv (.t 11)) 135 true []),(22,oG 144 (.bin .sub (.t
143) (.c (.int .i64 1))) 135 true [143]),(23,oG 145 (.ia 1 (.t 142) (.t 144)) 135 true [142]),(24,oG 146 (.ld 1 false (.t 145)) 135 true [144,145]),(25,oG 147 (.bin .leq (.t 140) (.t 146)) 135 true [140,146]),(26,oG 148
(.pick (.t 135) (.t 147) (.c (.bool false))) 132 false [135,147]),(27,oP 149 (.pick (.t 132) (.c (.bool true)) (.t 148)) [132,148])]) (.cond (.t 149) (sK [3,11,149] (sR [(0,oY 4 false [])] .ret)) (sK [149] .skip))))
(.reg false [(0,oT 120 11 [11]),(1,oC 121 .add 120 1 [120]),(2,oT 11 121 [121])])))
abbrev B93 : CCode := (sR [(0,oP 3 (.box 3 (.t 1)) [1]),(1,oY 4 false [4])] (.seq (sR [(0,oT 12 0 []),(1,oP 13 (.call 37 [.t 12]) [12]),(2,oP 14 (.not (.t 13)) [13]),(3,oT 15 14 [14]),(4,oG 16 (.fa 0 (.t 3)) 15 false
[]),(5,oG 17 (.ld 1 false (.t 16)) 15 false [16]),(6,oG 18 (.call 38 [.t 17,(.c (.int .i64 0)),(.c (.int .i64 4))]) 15 false [17]),(7,oG 19 (.not (.t 18)) 15 false [18]),(8,oP 20 (.pick (.t 15) (.c (.bool true)) (.t
19)) [15,19]),(9,oT 21 20 [20]),(10,oG 22 (.fa 1 (.t 3)) 21 false []),(11,oG 23 (.ld 1 false (.t 22)) 21 false [22]),(12,oG 24 (.len (.t 23)) 21 false [23]),(13,oG 25 (.call 38 [.t 24,(.c (.int .i64 1)),(.c (.int .i64
3))]) 21 false [24]),(14,oG 26 (.not (.t 25)) 21 false [25]),(15,oP 27 (.pick (.t 21) (.c (.bool true)) (.t 26)) [21,26])] (.cond (.t 27) (sK [0,3,27] (sR [(0,oY 4 false [])] .ret)) (sK [27] .skip))) (sR [(0,oP 28 (.mk
1 1 [.bool false] (.c (.int .i64 4)) (.c (.int .i64 4))) []),(1,oT 5 28 [28])] (.seq (sR [(0,oZ 6 0 [])] (.block 0 (.loop L93_0))) (.seq (sR [(0,oZ 10 0 [])] (.block 6 (.loop L93_1))) (.seq (sR [(0,oZ 11 0 [])] (.block
8 (.loop L93_2))) (sR [(0,oY 4 true [])] .ret)))))))
def C93 : CFn := ⟨150,2,[.t 4],B93⟩
abbrev L97_0 : CCode := (.seq (sR [(0,oT 8 6 []),(1,oF 9 1 2 []),(2,oL 10 1 9 [9]),(3,oN 11 10 [10]),(4,oB 12 .lss 8 11 [8,11]),(5,oT 13 12 [12]),(6,oG 14 (.ld 2 true (.t 2)) 13 true []),(7,oG 15 (.call 11 [.t 14]) 13
true [14]),(8,oP 16 (.pick (.t 13) (.t 15) (.c (.bool false))) [13,15]),(9,oT 17 16 [16]),(10,oG 18 (.mv (.t 1)) 17 true []),(11,oG 19 (.fa 1 (.t 2)) 17 true []),(12,oG 20 (.ld 1 false (.t 19)) 17 true [19]),(13,oG 21
(.len (.t 20)) 17 true [20]),(14,oG 22 (.bin .sub (.t 21) (.c (.int .i64 1))) 17 true [21]),(15,oG 23 (.call 38 [.t 18,(.c (.int .i64 0)),.t 22]) 17 true [18,22]),(16,oP 24 (.pick (.t 17) (.t 23) (.c (.bool false)))
[17,23])] (.cond (.t 24) (sK [24] .skip) (sK [1,2,6,24] (.exit 0)))) (.seq (.block 1 (.seq (.reg true [(0,oF 27 0 2 []),(1,oL 28 1 27 [27]),(2,oF 29 1 2 []),(3,oL 30 1 29 [29]),(4,oT 31 1 []),(5,oI 32 2 30 31
[30]),(6,oM 33 2 32 [32]),(7,oF 34 1 2 []),(8,oL 35 1 34 [34]),(9,oT 36 6 []),(10,oI 37 2 35 36 [35]),(11,oM 38 2 37 [37]),(12,oP 39 (.call 140 [.t 28,.t 33,.t 38]) [28,31,33,36,38])]) (.cond (.t 39) (sK [39] (.reg
false [(0,oT 40 5 [5]),(1,oT 41 6 []),(2,oP 42 (.bsl 1 1 [.int .i64 (0)] [(0,1,(.t 41))]) [41]),(3,oP 43 (.app 1 8 (.t 40) (.t 42)) [40,42]),(4,oT 5 43 [43])])) (sK [39] .skip)))) (.reg false [(0,oT 25 6 [6]),(1,oC 26
.add 25 1 [25]),(2,oT 6 26 [26])])))
abbrev B97 : CCode := (sR [(0,oP 2 (.box 2 (.t 0)) [0]),(1,oP 4 (.mv (.c (.nils))) [4])] (sR [(0,oP 7 (.bsl 1 0 [.int .i64 (0)] []) []),(1,oT 5 7 [7])] (.seq (sR [(0,oZ 6 0 [])] (.block 0 (.loop L97_0))) (sR [(0,oT 44 5
[5]),(1,oT 4 44 [44])] .ret))))
def C97 : CFn := ⟨45,2,[.t 4],B97⟩
abbrev L99_0 : CCode := (.seq (.seq (.reg true [(0,oT 33 7 []),(1,oF 34 1 6 []),(2,oL 35 1 34 [34]),(3,oN 36 35 [35]),(4,oB 37 .lss 33 36 [33,36]),(5,oT 38 37 [37]),(6,oG 39 (.fa 1 (.t 6)) 38 true []),(7,oG 40 (.ld 1
false (.t 39)) 38 true [39]),(8,oG 41 (.mv (.t 7)) 38 true []),(9,oG 42 (.ia 2 (.t 40) (.t 41)) 38 true [40]),(10,oG 43 (.ld 2 true (.t 42)) 38 true [42]),(11,oG 44 (.ld 2 true (.t 3)) 38 true []),(12,oG 45 (.call 43
[.t 43,.t 44]) 38 true [41,43,44]),(13,oG 46 (.bin .lss (.t 45) (.c (.int .i64 0))) 38 true [45]),(14,oP 47 (.pick (.t 38) (.t 46) (.c (.bool false))) [38,46])]) (.cond (.t 47) (sK [47] .skip) (sK [47] (.exit 0))))
(.block 1 (.reg false [(0,oT 48 7 [7]),(1,oC 49 .add 48 1 [48]),(2,oT 7 49 [49])])))
abbrev B99 : CCode := (sR [(0,oP 2 (.box 2 (.t 0)) [0]),(1,oP 3 (.box 2 (.t 1)) [1]),(2,oP 4 (.al [.nils,.nils]) []),(3,oY 5 false [5])] (sR [(0,oM 9 2 2 []),(1,oP 10 (.call 142 [.t 9]) [9]),(2,oP 6 (.al [.nils,.nils])
[]),(3,oS 2 6 10 [10])] (.seq (sR [(0,oM 11 2 2 []),(1,oP 12 (.call 11 [.t 11]) [11]),(2,oP 13 (.not (.t 12)) [12]),(3,oT 14 13 [13]),(4,oG 15 (.fa 0 (.t 2)) 14 false []),(5,oG 16 (.ld 1 false (.t 15)) 14 false
[15]),(6,oG 17 (.ld 2 true (.t 3)) 14 false []),(7,oG 18 (.call 42 [.t 16,.t 17]) 14 false [16,17]),(8,oG 19 (.not (.t 18)) 14 false [18]),(9,oP 20 (.pick (.t 14) (.c (.bool true)) (.t 19)) [14,19]),(10,oT 21 20
[20]),(11,oG 22 (.ld 2 true (.t 2)) 21 false []),(12,oG 23 (.ld 2 true (.t 3)) 21 false []),(13,oG 24 (.call 143 [.t 22,.t 23]) 21 false [22,23]),(14,oP 25 (.pick (.t 21) (.c (.bool true)) (.t 24)) [21,24]),(15,oT 26 25
[25]),(16,oG 27 (.fa 1 (.t 2)) 26 false []),(17,oG 28 (.ld 1 false (.t 27)) 26 false [27]),(18,oG 29 (.len (.t 28)) 26 false [2,28]),(19,oG 30 (.bin .eql (.t 29) (.c (.int .i64 14))) 26 false [29]),(20,oP 31 (.pick (.t
26) (.c (.bool true)) (.t 30)) [26,30])] (.cond (.t 31) (sK [3,31] (sR [(0,oM 32 2 6 []),(1,oS 2 4 32 [6,32]),(2,oY 5 false [])] .ret)) (sK [31] .skip))) (sR [(0,oZ 7 0 [])] (.seq (.block 0 (.loop L99_0)) (.seq (.reg
true [(0,oF 50 0 3 []),(1,oL 51 1 50 []),(2,oP 52 (.bsl 1 0 [.int .i64 (0)] []) []),(3,oF 53 1 3 []),(4,oL 54 1 53 [53]),(8,oF 58 1 6 []),(9,oL 59 1 58 []),(10,oT 60 7 []),(11,oP 61 (.sls 2 (.t 59) (some (.t 60)) none
none) [59,60]),(5,⟨some 55,.app 1 8 (.t 52) (.t 54),none,[(50,1),(58,1)],[3,50,52,54,58]⟩),(6,oP 56 (.bld [.int .i64 (0),.nils] [(0,1,(.t 51)),(1,1,(.t 55))]) [51,55]),(7,oP 57 (.bsl 2 1 [.int .i64 (0),.nils] [(0,2,(.t
56))]) [56]),(12,oP 62 (.app 2 32 (.t 57) (.t 61)) [57,61]),(13,oT 8 62 [62])]) (sR [(0,oP 63 (.bsl 2 0 [.int .i64 (0),.nils] []) []),(1,oF 64 1 6 []),(2,oL 65 1 64 [64]),(3,oT 66 7 [7]),(4,oP 67 (.sls 2 (.t 65) none
(some (.t 66)) none) [65,66]),(5,oP 68 (.app 2 32 (.t 63) (.t 67)) [63,67]),(6,oT 69 8 [8]),(7,oP 70 (.app 2 32 (.t 68) (.t 69)) [68,69]),(8,oF 71 1 6 []),(9,oS 1 71 70 [70,71])] (sR [(0,oM 72 2 6 []),(1,oS 2 4 72
[6,72]),(2,oY 5 true [])] .ret))))))))
def C99 : CFn := ⟨73,2,[.m 4 2 true,.t 5],B99⟩
abbrev L100_0 : CCode := (.seq (.seq (.reg true [(0,oF 13 1 7 []),(1,oL 14 1 13 [13]),(2,oN 15 14 [14]),(3,oT 16 1 []),(4,oF 17 0 7 []),(5,oL 18 1 17 [17]),(6,oI 19 3 16 18 []),(7,oF 20 1 19 [19]),(8,oL 21 1 20
[16,18,20]),(9,oB 22 .lss 15 21 [15,21])]) (.cond (.t 22) (sK [22] .skip) (sK [1,2,22] (.exit 0)))) (.block 1 (.reg true [(0,oF 23 1 7 []),(1,oL 24 1 23 []),(2,oT 25 0 []),(3,oT 26 2 []),(4,⟨some 27,.call 20 [.t 25,.t
26],none,[(23,1)],[23,25,26]⟩),(5,oP 28 (.bsl 1 1 [.int .i64 (0)] [(0,1,(.t 27))]) [27]),(6,oP 29 (.app 1 8 (.t 24) (.t 28)) [24,28]),(7,oF 30 1 7 []),(8,oS 1 30 29 [29,30])])))
abbrev B100 : CCode := (sR [(0,oP 6 (.al [.int .i64 (0),.nils]) [])] (sR [(0,oT 8 0 []),(1,oT 9 1 []),(2,oN 10 9 [9]),(3,oP 11 (.call 20 [.t 8,.t 10]) [8,10]),(4,oP 12 (.bld [.int .i64 (0),.nils] [(0,1,(.t 11))])
[11]),(5,oP 7 (.al [.int .i64 (0),.nils]) []),(6,oS 2 7 12 [12])] (.seq (.block 0 (.loop L100_0)) (sR [(0,oM 31 2 7 []),(1,oS 2 6 31 [7,31])] .ret))))
def C100 : CFn := ⟨32,3,[.m 6 2 true],B100⟩
abbrev B101 : CCode := (sR [(0,oP 4 (.mv (.c (.str []))) [4])] (sR [(0,oT 5 1 []),(1,oT 6 0 []),(2,oT 7 1 []),(3,oN 8 7 [7]),(4,oP 9 (.call 20 [.t 6,.t 8]) [6,8]),(5,oI 10 1 5 9 []),(6,oL 11 1 10 [5,9,10]),(7,oT 4 11
[11])] .ret))
def C101 : CFn := ⟨12,2,[.t 4],B101⟩
abbrev L102_1 : CCode := (.seq (sR [(0,oT 34 10 []),(1,oC 35 .gtr 34 0 [34])] (.cond (.t 35) (sK [35] .skip) (sK [10,35] (.exit 2)))) (.seq (.block 3 (sR [(0,oT 38 0 []),(1,oP 39 (.call 21 [.t 38,(.c (.int .i64 12))])
[38])] (.cond (.t 39) (sK [39] (.reg true [(0,oF 40 1 9 []),(1,oL 41 1 40 []),(2,oT 42 0 []),(3,⟨some 43,.call 20 [.t 42,(.c (.int .i64 2))],none,[(40,1)],[40,42]⟩),(4,oP 44 (.bin .sub (.c (.int .i64 (-1))) (.t 43))
[43]),(5,oP 45 (.bsl 1 1 [.int .i64 (0)] [(0,1,(.t 44))]) [44]),(6,oP 46 (.app 1 8 (.t 41) (.t 45)) [41,45]),(7,oF 47 1 9 []),(8,oS 1 47 46 [46,47])])) (sK [39] (.reg true [(0,oF 48 1 9 []),(1,oL 49 1 48 []),(2,oT 50 0
[]),(3,oT 51 5 []),(4,⟨some 52,.call 20 [.t 50,.t 51],none,[(48,1)],[48,50,51]⟩),(5,oP 53 (.bsl 1 1 [.int .i64 (0)] [(0,1,(.t 52))]) [52]),(6,oP 54 (.app 1 8 (.t 49) (.t 53)) [49,53]),(7,oF 55 1 9 []),(8,oS 1 55 54
[54,55])]))))) (.reg false [(0,oT 36 10 [10]),(1,oC 37 .sub 36 1 [36]),(2,oT 10 37 [37])])))
abbrev L102_0 : CCode := (.seq (sR [(0,oT 20 7 []),(1,oT 21 4 []),(2,oB 22 .lss 20 21 [20,21])] (.cond (.t 22) (sK [22] .skip) (sK [4,5,6,7,22] (.exit 0)))) (.seq (.block 1 (sR [(0,oT 25 6 []),(1,oT 26 7 []),(2,oB 27
.add 25 26 [25,26]),(3,oC 28 .rem 27 4 [27]),(4,oT 8 28 [28])] (sR [(0,oT 29 8 []),(1,oP 30 (.bld [.int .i64 (0),.nils] [(0,1,(.t 29))]) [29]),(2,oP 9 (.al [.int .i64 (0),.nils]) []),(3,oS 2 9 30 [30])] (.seq (sR [(0,oT
31 8 [8]),(1,oC 32 .quo 31 3 [31]),(2,oP 33 (.bin .add (.c (.int .i64 2)) (.t 32)) [32]),(3,oT 10 33 [33])] (.block 2 (.loop L102_1))) (.reg false [(0,oF 56 1 3 []),(1,oL 57 1 56 [56]),(2,oM 58 2 9 []),(3,oP 59 (.bsl 2
1 [.int .i64 (0),.nils] [(0,2,(.t 58))]) [9,58]),(4,oP 60 (.app 2 32 (.t 57) (.t 59)) [57,59]),(5,oF 61 1 3 []),(6,oS 1 61 60 [60,61])]))))) (.reg false [(0,oT 23 7 [7]),(1,oC 24 .add 23 1 [23]),(2,oT 7 24 [24])])))
abbrev B102 : CCode := (sR [(0,oP 2 (.al [.int .i64 (0),.nils,.nils]) [])] (sR [(0,oP 11 (.bld [.int .i64 (0),.nils,.nils] []) []),(1,oP 3 (.al [.int .i64 (0),.nils,.nils]) []),(2,oS 3 3 11 [11])] (sR [(0,oT 12 0
[]),(1,oP 13 (.call 20 [.t 12,(.c (.int .i64 3))]) [12]),(2,oP 14 (.bin .add (.c (.int .i64 1)) (.t 13)) [13]),(3,oT 4 14 [14])] (sR [(0,oT 15 0 []),(1,oP 16 (.call 20 [.t 15,(.c (.int .i64 4))]) [15]),(2,oP 17 (.bin
.add (.c (.int .i64 1)) (.t 16)) [16]),(3,oT 5 17 [17])] (sR [(0,oT 18 0 []),(1,oP 19 (.call 20 [.t 18,(.c (.int .i64 4))]) [18]),(2,oT 6 19 [19])] (.seq (sR [(0,oZ 7 0 [])] (.block 0 (.loop L102_0))) (sR [(0,oM 62 3 3
[]),(1,oP 63 (.call 144 [.t 62]) [3,62]),(2,oS 3 2 63 [63])] .ret)))))))
def C102 : CFn := ⟨64,1,[.m 2 3 true],B102⟩
abbrev B103 : CCode := (sR [(0,oP 4 (.al [.int .i64 (0),.nils,.nils]) [])] (sR [(0,oT 8 1 []),(1,oT 9 0 []),(2,oP 10 (.bsl 1 10 [.str []] [(0,1,(.c (.str [63,114,120,124,121,32,115,121,124,122]))),(1,1,(.c (.str
[63,114,120,124,121,32,115,121,124,120]))),(2,1,(.c (.str [63,114,120,124,121,32,115,122,124,121]))),(3,1,(.c (.str [63,114,120,124,121,32,115,120,124,122]))),(4,1,(.c (.str [63,114,120,124,49]))),(5,1,(.c (.str
[63,114,120,124,120]))),(6,1,(.c (.str [63,114,120,124,121,32,115,121,124,49]))),(7,1,(.c (.str [63,114,120,124,121,32,115,121,124,122,32,114]))),(8,1,(.c (.str [63,114,120,124,121]))),(9,1,(.c (.str
[63,114,120,124,122,32,115,121,124,122])))]) []),(3,oP 11 (.call 101 [.t 9,.t 10]) [9,10]),(4,oP 12 (.call 66 [.t 8,.t 11]) [8,11]),(5,oT 7 12 [12]),(6,oP 13 (.ex (.t 7) 0) []),(7,oP 14 (.ex (.t 7) 1) [7]),(8,oP 5 (.al
[.int .i64 (0),.nils,.nils]) []),(9,oS 3 5 13 [13]),(10,oT 6 14 [14])] (.seq (sR [(0,oT 15 6 [6]),(1,oP 16 (.not (.t 15)) [15])] (.cond (.t 16) (sK [16] (.reg false [(0,oT 18 1 [1]),(1,oP 19 (.call 66 [.t 18,(.c (.str
[63,114,120,124,121,32,115,121,124,122]))]) [18]),(2,oT 17 19 [19]),(3,oP 20 (.ex (.t 17) 0) []),(4,oP 21 (.ex (.t 17) 1) [17,21]),(5,oS 3 5 20 [20])])) (sK [1,16] .skip))) (sR [(0,oM 22 3 5 []),(1,oS 3 4 22 [5,22])]
.ret))))
def C103 : CFn := ⟨23,2,[.m 4 3 true],B103⟩
abbrev L104_1 : CCode := (.seq (sR [(0,oT 18 6 []),(1,oF 19 1 3 []),(2,oL 20 1 19 [19]),(3,oN 21 20 [20]),(4,oB 22 .lss 18 21 [18,21])] (.cond (.t 22) (sK [22] .skip) (sK [6,22] (.exit 2)))) (.seq (.block 3 (sR [(0,oT
25 0 []),(1,oM 26 3 3 []),(2,oT 27 5 []),(3,oT 28 6 []),(4,oP 29 (.call 145 [.t 25,.t 26,.t 27,.t 28]) [25,26,27,28]),(5,oT 30 29 [29]),(6,oG 31 (.mv (.t 0)) 30 true []),(7,oG 32 (.ld 3 true (.t 3)) 30 true []),(8,oG 33
(.mv (.t 5)) 30 true []),(9,oG 34 (.mv (.t 6)) 30 true []),(10,oG 35 (.call 146 [.t 31,.t 32,.t 33,.t 34]) 30 true [31,32,33,34]),(11,oG 36 (.not (.t 35)) 30 true [35]),(12,oP 37 (.pick (.t 30) (.t 36) (.c (.bool
false))) [30,36]),(13,oT 38 37 [37]),(14,oG 39 (.mv (.t 0)) 38 true []),(15,oG 40 (.ld 3 true (.t 3)) 38 true []),(16,oG 41 (.mv (.t 6)) 38 true []),(17,oG 42 (.mv (.t 5)) 38 true []),(18,oG 43 (.call 147 [.t 39,.t
40,.t 41,.t 42]) 38 true [39,40,41,42]),(19,oP 44 (.pick (.t 38) (.t 43) (.c (.bool false))) [38,43])] (.cond (.t 44) (sK [0,3,5,6,44] (sR [(0,oZ 4 3 [])] .ret)) (sK [44] .skip)))) (.reg false [(0,oT 23 6 [6]),(1,oC 24
.add 23 1 [23]),(2,oT 6 24 [24])])))
abbrev L104_0 : CCode := (.seq (sR [(0,oT 11 5 []),(1,oF 12 1 3 []),(2,oL 13 1 12 [12]),(3,oN 14 13 [13]),(4,oB 15 .lss 11 14 [11,14])] (.cond (.t 15) (sK [15] .skip) (sK [5,15] (.exit 0)))) (.seq (.block 1 (sR [(0,oZ 6
0 [])] (.block 2 (.loop L104_1)))) (.reg false [(0,oT 16 5 [5]),(1,oC 17 .add 16 1 [16]),(2,oT 5 17 [17])])))
abbrev B104 : CCode := (sR [(0,oP 3 (.box 3 (.t 1)) [1]),(1,oZ 4 0 [4])] (.seq (sR [(0,oT 7 0 []),(1,oM 8 3 3 []),(2,oP 9 (.call 93 [.t 7,.t 8]) [7,8]),(3,oP 10 (.not (.t 9)) [9])] (.cond (.t 10) (sK [0,3,10] (sR [(0,oZ
4 0 [])] .ret)) (sK [10] .skip))) (.seq (sR [(0,oZ 5 0 [])] (.block 0 (.loop L104_0))) (.seq (sR [(0,oT 45 0 [0]),(1,oM 46 3 3 []),(2,oP 47 (.call 148 [.t 45,.t 46]) [3,45,46])] (.cond (.t 47) (sK [47] (sR [(0,oZ 4 2
[])] .ret)) (sK [47] .skip))) (sR [(0,oZ 4 1 [])] .ret)))))
def C104 : CFn := ⟨48,2,[.t 4],B104⟩
abbrev L105_0 : CCode := (.seq (sR [(0,oT 12 4 []),(1,oF 13 1 1 []),(2,oL 14 1 13 [13]),(3,oN 15 14 [14]),(4,oB 16 .lss 12 15 [12,15])] (.cond (.t 16) (sK [16] .skip) (sK [1,4,16] (.exit 0)))) (.seq (.block 1 (.reg true
[(0,oF 19 1 3 []),(1,oL 20 1 19 []),(2,oF 21 1 1 []),(3,oL 22 1 21 []),(4,oT 23 4 []),(5,oI 24 2 22 23 [22]),(6,oF 25 0 24 [24]),(7,oL 26 1 25 []),(8,oP 27 (.bsl 1 0 [.int .i64 (0)] []) []),(9,oF 28 1 1 []),(10,oL 29 1
28 [28]),(11,oT 30 4 []),(12,oI 31 2 29 30 [29]),(13,oF 32 1 31 [31]),(14,oL 33 1 32 [32]),(15,⟨some 34,.app 1 8 (.t 27) (.t 33),none,[(19,1),(21,1),(25,1)],[19,21,23,25,27,30,33]⟩),(16,oP 35 (.bld [.int .i64 (0),.nils]
[(0,1,(.t 26)),(1,1,(.t 34))]) [26,34]),(17,oP 36 (.bsl 2 1 [.int .i64 (0),.nils] [(0,2,(.t 35))]) [35]),(18,oP 37 (.app 2 32 (.t 20) (.t 36)) [20,36]),(19,oF 38 1 3 []),(20,oS 1 38 37 [37,38])])) (.reg false [(0,oT 17
4 [4]),(1,oC 18 .add 17 1 [17]),(2,oT 4 18 [18])])))
abbrev B105 : CCode := (sR [(0,oP 1 (.box 3 (.t 0)) [0]),(1,oP 2 (.al [.int .i64 (0),.nils,.nils]) [])] (.seq (.reg true [(0,oF 5 0 1 []),(1,oL 6 1 5 []),(2,oP 7 (.bsl 1 0 [.int .i64 (0)] []) []),(3,oF 8 2 1 []),(4,oL 9
1 8 [8]),(7,oP 3 (.al [.int .i64 (0),.nils,.nils]) []),(5,⟨some 10,.app 1 8 (.t 7) (.t 9),none,[(5,1)],[5,7,9]⟩),(6,oP 11 (.bld [.int .i64 (0),.nils,.nils] [(0,1,(.t 6)),(2,1,(.t 10))]) [6,10]),(8,oS 3 3 11 [11])])
(.seq (sR [(0,oZ 4 0 [])] (.block 0 (.loop L105_0))) (sR [(0,oM 39 3 3 []),(1,oS 3 2 39 [3,39])] .ret))))
def C105 : CFn := ⟨40,1,[.m 2 3 true],B105⟩
abbrev L106_1 : CCode := (.seq (sR [(0,oT 15 7 []),(1,oF 16 1 3 []),(2,oL 17 1 16 [16]),(3,oN 18 17 [17]),(4,oB 19 .lss 15 18 [15,18])] (.cond (.t 19) (sK [19] .skip) (sK [7,19] (.exit 2)))) (.seq (.block 3 (.reg false
[(0,oT 22 6 [6]),(1,oT 23 22 [22]),(2,oG 24 (.mv (.t 0)) 23 false []),(3,oG 25 (.ld 3 true (.t 3)) 23 false []),(4,oG 26 (.mv (.t 7)) 23 false []),(5,oG 27 (.mv (.t 5)) 23 false []),(6,oG 28 (.call 149 [.t 24,.t 25,.t
26,.t 27]) 23 false [24,25,26,27]),(7,oP 29 (.pick (.t 23) (.c (.bool true)) (.t 28)) [23,28]),(8,oT 6 29 [29])])) (.reg false [(0,oT 20 7 [7]),(1,oC 21 .add 20 1 [20]),(2,oT 7 21 [21])])))
abbrev L106_0 : CCode := (.seq (sR [(0,oT 8 5 []),(1,oF 9 1 3 []),(2,oL 10 1 9 [9]),(3,oN 11 10 [10]),(4,oB 12 .lss 8 11 [8,11])] (.cond (.t 12) (sK [12] .skip) (sK [0,3,5,12] (.exit 0)))) (.seq (.block 1 (sR [(0,oY 6
false [])] (.seq (sR [(0,oZ 7 0 [])] (.block 2 (.loop L106_1))) (sR [(0,oT 30 6 [6]),(1,oP 31 (.not (.t 30)) [30])] (.cond (.t 31) (sK [0,3,31] (sR [(0,oT 32 5 [5]),(1,oT 4 32 [32])] .ret)) (sK [31] .skip)))))) (.reg
false [(0,oT 13 5 [5]),(1,oC 14 .add 13 1 [13]),(2,oT 5 14 [14])])))
abbrev B106 : CCode := (sR [(0,oP 3 (.box 3 (.t 1)) [1]),(1,oZ 4 0 [4])] (.seq (sR [(0,oZ 5 0 [])] (.block 0 (.loop L106_0))) (sR [(0,oZ 4 (-1) [])] .ret)))
def C106 : CFn := ⟨33,2,[.t 4],B106⟩
abbrev B107 : CCode := (sR [(0,oP 2 (.box 3 (.t 0)) [0]),(1,oP 4 (.al [.int .i64 (0),.nils,.nils]) [])] (sR [(0,oM 6 3 2 []),(1,oT 7 1 []),(2,oP 8 (.call 150 [.t 6,.t 7]) [6,7]),(3,oP 5 (.al [.int .i64 (0),.nils,.nils])
[]),(4,oS 3 5 8 [8])] (.seq (.reg true [(0,oF 9 2 2 []),(1,oL 10 1 9 []),(2,oF 11 1 2 []),(3,oL 12 1 11 [11]),(4,oT 13 1 [1]),(5,oI 14 2 12 13 [12]),(6,oM 15 2 14 [14]),(7,⟨some 16,.call 41 [.t
15],none,[(9,1)],[9,13,15]⟩),(8,oP 17 (.call 151 [.t 10,.t 16]) [2,10,16]),(9,oF 18 2 5 []),(10,oS 1 18 17 [17,18])]) (sR [(0,oM 19 3 5 []),(1,oS 3 4 19 [5,19])] .ret))))
def C107 : CFn := ⟨20,2,[.m 4 3 true],B107⟩
abbrev L108_0 : CCode := (.seq (sR [(0,oT 9 7 []),(1,oT 10 0 []),(2,oP 11 (.lens (.t 10)) [10]),(3,oB 12 .lss 9 11 [9,11])] (.cond (.t 12) (sK [12] .skip) (sK [1,7,12] (.exit 0)))) (.seq (.block 1 (sR [(0,oT 15 0
[]),(1,oT 16 7 []),(2,oP 17 (.ix (.t 15) (.t 16)) [15,16]),(3,oT 18 1 []),(4,oB 19 .eql 17 18 [17,18])] (.cond (.t 19) (sK [19] (sR [(0,oT 20 5 [5]),(1,oT 21 0 []),(2,oT 22 6 [6]),(3,oT 23 7 []),(4,oP 24 (.sst (.t 21)
(some (.t 22)) (some (.t 23))) [21,22,23]),(5,oP 25 (.bsl 1 1 [.str []] [(0,1,(.t 24))]) [24]),(6,oP 26 (.app 1 16 (.t 20) (.t 25)) [20,25]),(7,oT 5 26 [26])] (.reg false [(0,oT 27 7 []),(1,oC 28 .add 27 1 [27]),(2,oT 6
28 [28])]))) (sK [19] .skip)))) (.reg false [(0,oT 13 7 [7]),(1,oC 14 .add 13 1 [13]),(2,oT 7 14 [14])])))
abbrev B108 : CCode := (sR [(0,oP 4 (.mv (.c (.nils))) [4])] (sR [(0,oP 8 (.bsl 1 0 [.str []] []) []),(1,oT 5 8 [8])] (sR [(0,oZ 6 0 [])] (.seq (sR [(0,oZ 7 0 [])] (.block 0 (.loop L108_0))) (sR [(0,oT 29 5 [5]),(1,oT
30 0 [0]),(2,oT 31 6 [6]),(3,oP 32 (.sst (.t 30) (some (.t 31)) none) [30,31]),(4,oP 33 (.bsl 1 1 [.str []] [(0,1,(.t 32))]) [32]),(5,oP 34 (.app 1 16 (.t 29) (.t 33)) [29,33]),(6,oT 4 34 [34])] .ret)))))
def C108 : CFn := ⟨35,2,[.t 4],B108⟩
abbrev L109_0 : CCode := (.seq (sR [(0,oT 5 4 []),(1,oC 6 .lss 5 4 [5])] (.cond (.t 6) (sK [6] .skip) (sK [0,4,6] (.exit 0)))) (.seq (.block 1 (sR [(0,oT 9 4 []),(1,oP 10 (.call 152 [.t 9]) [9]),(2,oT 11 0 []),(3,oB 12
.eql 10 11 [10,11])] (.cond (.t 12) (sK [0,12] (sR [(0,oT 13 4 [4]),(1,oT 2 13 [13]),(2,oY 3 true [])] .ret)) (sK [12] .skip)))) (.reg false [(0,oT 7 4 [4]),(1,oC 8 .add 7 1 [7]),(2,oT 4 8 [8])])))
abbrev B109 : CCode := (sR [(0,oZ 2 0 [2]),(1,oY 3 false [3])] (.seq (sR [(0,oZ 4 (-10) [])] (.block 0 (.loop L109_0))) (sR [(0,oZ 2 0 []),(1,oY 3 false [])] .ret)))
def C109 : CFn := ⟨14,1,[.t 2,.t 3],B109⟩
abbrev L110_0 : CCode := (.seq (sR [(0,oT 6 5 []),(1,oT 7 0 []),(2,oN 8 7 [7]),(3,oB 9 .lss 6 8 [6,8])] (.cond (.t 9) (sK [9] .skip) (sK [0,1,5,9] (.exit 0)))) (.seq (.block 1 (sR [(0,oT 12 0 []),(1,oT 13 5 []),(2,oI 14
3 12 13 []),(3,oF 15 0 14 [14]),(4,oL 16 1 15 [12,13,15]),(5,oT 17 1 []),(6,oB 18 .eql 16 17 [16,17])] (.cond (.t 18) (sK [0,1,18] (sR [(0,oT 19 5 [5]),(1,oT 4 19 [19])] .ret)) (sK [18] .skip)))) (.reg false [(0,oT 10 5
[5]),(1,oC 11 .add 10 1 [10]),(2,oT 5 11 [11])])))
abbrev B110 : CCode := (sR [(0,oZ 4 0 [4])] (.seq (sR [(0,oZ 5 0 [])] (.block 0 (.loop L110_0))) (sR [(0,oZ 4 (-1) [])] .ret)))
def C110 : CFn := ⟨20,2,[.t 4],B110⟩
abbrev L111_0 : CCode := (.seq (sR [(0,oT 12 6 []),(1,oF 13 2 3 []),(2,oL 14 1 13 [13]),(3,oN 15 14 [14]),(4,oB 16 .lss 12 15 [12,15])] (.cond (.t 16) (sK [16] .skip) (sK [6,16] (.exit 0)))) (.seq (.block 1 (.reg false
[(0,oT 19 5 [5]),(1,oF 20 2 3 []),(2,oL 21 1 20 [20]),(3,oT 22 6 []),(4,oI 23 1 21 22 [21]),(5,oL 24 1 23 [22,23]),(6,oP 25 (.call 152 [.t 24]) [24]),(7,oB 26 .add 19 25 [19,25]),(8,oT 5 26 [26])])) (.reg false [(0,oT
17 6 [6]),(1,oC 18 .add 17 1 [17]),(2,oT 6 18 [18])])))
abbrev L111_1 : CCode := (.seq (sR [(0,oT 29 7 []),(1,oF 30 1 3 []),(2,oL 31 1 30 [30]),(3,oN 32 31 [31]),(4,oB 33 .lss 29 32 [29,32])] (.cond (.t 33) (sK [33] .skip) (sK [0,3,7,33] (.exit 2)))) (.seq (.block 3 (.seq
(sR [(0,oT 36 7 []),(1,oC 37 .gtr 36 0 [36])] (.cond (.t 37) (sK [37] (.reg false [(0,oT 38 5 [5]),(1,oP 39 (.bin .add (.t 38) (.c (.str [32]))) [38]),(2,oT 5 39 [39])])) (sK [37] .skip))) (.reg false [(0,oT 40 5
[5]),(1,oT 41 0 []),(2,oF 42 1 3 []),(3,oL 43 1 42 [42]),(4,oT 44 7 []),(5,oI 45 2 43 44 [43]),(6,oM 46 2 45 [45]),(7,oP 47 (.call 153 [.t 41,.t 46]) [41,44,46]),(8,oB 48 .add 40 47 [40,47]),(9,oT 5 48 [48])]))) (.reg
false [(0,oT 34 7 [7]),(1,oC 35 .add 34 1 [34]),(2,oT 7 35 [35])])))
abbrev B111 : CCode := (sR [(0,oP 3 (.box 3 (.t 1)) [1]),(1,oP 4 (.mv (.c (.str []))) [4])] (.seq (sR [(0,oT 8 0 []),(1,oM 9 3 3 []),(2,oP 10 (.call 93 [.t 8,.t 9]) [8,9]),(3,oP 11 (.not (.t 10)) [10])] (.cond (.t 11)
(sK [0,3,11] (sR [(0,oP 4 (.mv (.c (.str []))) [])] .ret)) (sK [11] .skip))) (sR [(0,oP 5 (.mv (.c (.str []))) [])] (.seq (sR [(0,oZ 6 0 [])] (.block 0 (.loop L111_0))) (sR [(0,oT 27 5 [5]),(1,oP 28 (.bin .add (.t 27)
(.c (.str [63]))) [27]),(2,oT 5 28 [28])] (.seq (sR [(0,oZ 7 0 [])] (.block 2 (.loop L111_1))) (sR [(0,oT 49 5 [5]),(1,oT 4 49 [49])] .ret)))))))
def C111 : CFn := ⟨50,2,[.t 4],B111⟩
abbrev B112 : CCode := (sR [(0,oY 2 false [2])] (sR [(0,oT 3 0 [0]),(1,oP 4 (.call 32 [.t 3,(.c (.fn 154 []))]) [3]),(2,oP 5 (.not (.t 4)) [4]),(3,oT 2 5 [5])] .ret))
def C112 : CFn := ⟨6,1,[.t 2],B112⟩
abbrev B113 : CCode := (sR [(0,oZ 4 0 [4])] (.seq (.block 0 (sR [(0,oT 6 0 []),(1,oT 7 1 []),(2,oB 8 .lss 6 7 [6,7]),(3,oT 5 8 [8])] (.cond (.t 5) (sK [0,1,5] (sR [(0,oZ 4 (-1) [])] .ret)) (sK [5] (sR [(0,oT 10 0
[0]),(1,oT 11 1 [1]),(2,oB 12 .gtr 10 11 [10,11]),(3,oT 9 12 [12])] (.cond (.t 9) (sK [9] (sR [(0,oZ 4 1 [])] .ret)) (sK [9] .skip))))))) (sR [(0,oZ 4 0 [])] .ret)))
def C113 : CFn := ⟨13,2,[.t 4],B113⟩
abbrev L114_0 : CCode := (sR [(0,oB 12 .lss 11 10 [])] (.seq (.cond (.t 12) (sK [12] .skip) (sK [9,10,11,12] (.exit 0))) (.seq (.block 1 (sR [(0,oT 13 11 []),(1,oI 14 1 9 11 []),(2,oL 15 1 14 [14]),(3,oT 5 13
[13]),(4,oT 6 15 [15])] (.seq (sR [(0,oT 16 5 []),(1,oT 17 1 []),(2,oN 18 17 [17]),(3,oB 19 .geq 16 18 [16,18])] (.cond (.t 19) (sK [0,1,5,6,9,10,11,19] (sR [(0,oZ 4 1 [])] .ret)) (sK [19] .skip))) (sR [(0,oT 20 1
[]),(1,oT 21 5 [5]),(2,oI 22 1 20 21 []),(3,oL 23 1 22 [20,21,22]),(4,oT 7 23 [23])] (sR [(0,oT 24 6 [6]),(1,oT 25 7 [7]),(2,oP 26 (.call 155 [.t 24,.t 25]) [24,25]),(3,oT 8 26 [26])] (sR [(0,oT 27 8 []),(1,oC 28 .neq
27 0 [27])] (.cond (.t 28) (sK [0,1,9,10,11,28] (sR [(0,oT 29 8 [8]),(1,oT 4 29 [29])] .ret)) (sK [8,28] .skip)))))))) (.reg false [(0,oC 30 .add 11 1 [11]),(1,oT 11 30 [30])]))))
abbrev B114 : CCode := (sR [(0,oZ 4 0 [4])] (.seq (sR [(0,oT 9 0 []),(1,oN 10 9 []),(2,oZ 11 0 [])] (.block 0 (.loop L114_0))) (.seq (sR [(0,oT 31 0 [0]),(1,oN 32 31 [31]),(2,oT 33 1 [1]),(3,oN 34 33 [33]),(4,oB 35 .lss
32 34 [32,34])] (.cond (.t 35) (sK [35] (sR [(0,oZ 4 (-1) [])] .ret)) (sK [35] .skip))) (sR [(0,oZ 4 0 [])] .ret))))
def C114 : CFn := ⟨36,2,[.t 4],B114⟩
abbrev B115 : CCode := (sR [(0,oP 4 (.mv (.c (.int .u64 (0)))) [4]),(1,oP 5 (.mv (.c (.int .u64 (0)))) [5])] (.seq (.cond (.c (.bool false)) (sR [(0,oT 11 0 [0]),(1,oP 12 (.conv .u32 (.t 11)) [11]),(2,oT 13 1 [1]),(3,oP
14 (.conv .u32 (.t 13)) [13]),(4,oP 15 (.call 156 [.t 12,.t 14]) [12,14]),(5,oT 10 15 [15]),(6,oP 16 (.ex (.t 10) 0) []),(7,oP 17 (.ex (.t 10) 1) [10]),(8,oT 6 16 [16]),(9,oT 7 17 [17])] (sR [(0,oT 18 6 [6]),(1,oP 19
(.conv .u64 (.t 18)) [18]),(2,oT 20 7 [7]),(3,oP 21 (.conv .u64 (.t 20)) [20]),(4,oT 4 19 [19]),(5,oT 5 21 [21])] .ret)) .skip) (sR [(0,oT 23 0 [0]),(1,oT 24 1 [1]),(2,oP 25 (.call 157 [.t 23,.t 24]) [23,24]),(3,oT 22
25 [25]),(4,oP 26 (.ex (.t 22) 0) []),(5,oP 27 (.ex (.t 22) 1) [22]),(6,oT 8 26 [26]),(7,oT 9 27 [27])] (sR [(0,oT 28 8 [8]),(1,oT 29 9 [9]),(2,oT 4 28 [28]),(3,oT 5 29 [29])] .ret))))
def C115 : CFn := ⟨30,2,[.t 4,.t 5],B115⟩
abbrev B116 : CCode := (sR [(0,oP 2 (.mv (.c (.nils))) [2])] (.seq (sR [(0,oT 3 0 []),(1,oP 4 (.isnil false (.t 3)) [3])] (.cond (.t 4) (sK [0,4] (sR [(0,oP 2 (.mv (.c (.nils))) [])] .ret)) (sK [4] .skip))) (sR [(0,oP 5
(.bsl 1 0 [.int .i64 (0)] []) []),(1,oT 6 0 [0]),(2,oP 7 (.app 1 8 (.t 5) (.t 6)) [5,6]),(3,oT 2 7 [7])] .ret)))
def C116 : CFn := ⟨8,1,[.t 2],B116⟩
abbrev B117 : CCode := (sR [(0,oY 2 false [2])] (sR [(0,oT 3 0 [0]),(1,oC 4 .geq 3 0 [3]),(2,oT 2 4 [4])] .ret))
def C117 : CFn := ⟨5,1,[.t 2],B117⟩
abbrev B118 : CCode := (sR [(0,oZ 2 0 [2])] (sR [(0,oT 3 0 [0]),(1,oP 4 (.bin .sub (.c (.int .i64 (-1))) (.t 3)) [3]),(2,oT 2 4 [4])] .ret))
def C118 : CFn := ⟨5,1,[.t 2],B118⟩
abbrev L119_0 : CCode := (sR [(0,oB 14 .lss 13 12 [])] (.seq (.cond (.t 14) (sK [14] .skip) (sK [0,1,12,13,14] (.exit 0))) (.seq (.block 1 (sR [(0,oT 15 13 []),(1,oT 5 15 [15])] (.seq (.reg true [(0,oT 16 0 []),(1,oT 17
5 []),(2,oI 18 1 16 17 []),(3,oL 19 1 18 [16,17,18]),(4,oT 20 1 []),(5,oT 21 5 [5]),(6,oI 22 1 20 21 []),(7,oL 23 1 22 [20,21,22]),(8,oB 24 .neq 19 23 [19,23])]) (.cond (.t 24) (sK [0,1,12,13,24] (sR [(0,oY 4 false [])]
.ret)) (sK [24] .skip))))) (.reg false [(0,oC 25 .add 13 1 [13]),(1,oT 13 25 [25])]))))
abbrev B119 : CCode := (sR [(0,oY 4 false [4])] (.seq (sR [(0,oT 6 0 []),(1,oN 7 6 [6]),(2,oT 8 1 []),(3,oN 9 8 [8]),(4,oB 10 .neq 7 9 [7,9])] (.cond (.t 10) (sK [0,1,10] (sR [(0,oY 4 false [])] .ret)) (sK [10] .skip)))
(.seq (sR [(0,oT 11 0 []),(1,oN 12 11 [11]),(2,oZ 13 0 [])] (.block 0 (.loop L119_0))) (sR [(0,oY 4 true [])] .ret))))
def C119 : CFn := ⟨26,2,[.t 4],B119⟩
abbrev L120_0 : CCode := (sR [(0,oB 9 .lss 8 7 [])] (.seq (.cond (.t 9) (sK [9] .skip) (sK [0,1,7,8,9] (.exit 0))) (.seq (.block 1 (sR [(0,oT 10 8 []),(1,oT 5 10 [10])] (sR [(0,oT 11 1 []),(1,oT 12 0 []),(2,oT 13 5
[]),(3,oI 14 1 12 13 []),(4,oL 15 1 14 [12,13,14]),(5,oB 16 .eql 11 15 [11,15])] (.cond (.t 16) (sK [0,1,7,8,16] (sR [(0,oT 17 5 [5]),(1,oT 4 17 [17])] .ret)) (sK [5,16] .skip))))) (.reg false [(0,oC 18 .add 8 1
[8]),(1,oT 8 18 [18])]))))
abbrev B120 : CCode := (sR [(0,oZ 4 0 [4])] (.seq (sR [(0,oT 6 0 []),(1,oN 7 6 [6]),(2,oZ 8 0 [])] (.block 0 (.loop L120_0))) (sR [(0,oZ 4 (-1) [])] .ret)))
def C120 : CFn := ⟨19,2,[.t 4],B120⟩
abbrev L121_0 : CCode := (sR [(0,oB 12 .lss 11 10 [])] (.seq (.cond (.t 12) (sK [12] .skip) (sK [9,10,11,12] (.exit 0))) (.seq (.block 1 (sR [(0,oI 13 1 9 11 []),(1,oL 14 1 13 [13]),(2,oT 5 14 [14])] (sR [(0,oT 15 3
[3]),(1,oT 16 5 [5]),(2,oN 17 16 [16]),(3,oB 18 .add 15 17 [15,17]),(4,oT 3 18 [18])] (sR [(0,oT 19 3 []),(1,oC 20 .lss 19 0 [19])] (.cond (.t 20) (sK [20] (.reg false [(0,oP 21 .fail
[21]),(1,⟨none,.fail,none,[],[]⟩)])) (sK [20] .skip)))))) (.reg false [(0,oC 22 .add 11 1 [11]),(1,oT 11 22 [22])]))))
abbrev L121_1 : CCode := (sR [(0,oB 28 .lss 27 26 [])] (.seq (.cond (.t 28) (sK [28] .skip) (sK [25,26,27,28] (.exit 2))) (.seq (.block 3 (sR [(0,oI 29 1 25 27 []),(1,oL 30 1 29 [29]),(2,oT 8 30 [30])] (.reg false
[(0,oT 31 6 [6]),(1,oT 32 8 [8]),(2,oP 33 (.app 1 8 (.t 31) (.t 32)) [31,32]),(3,oT 6 33 [33])]))) (.reg false [(0,oC 34 .add 27 1 [27]),(1,oT 27 34 [34])]))))
abbrev B121 : CCode := (sR [(0,oP 2 (.mv (.c (.nils))) [2])] (sR [(0,oZ 3 0 [])] (.seq (sR [(0,oT 9 0 []),(1,oN 10 9 []),(2,oZ 11 0 [])] (.block 0 (.loop L121_0))) (sR [(0,oT 23 3 [3]),(1,oP 24 (.call 158 [(.c
(.nils)),.t 23]) [23]),(2,oT 6 24 [24])] (.seq (sR [(0,oT 25 0 [0]),(1,oN 26 25 []),(2,oZ 27 0 [])] (.block 2 (.loop L121_1))) (sR [(0,oT 35 6 [6]),(1,oT 2 35 [35])] .ret))))))
def C121 : CFn := ⟨36,1,[.t 2],B121⟩
abbrev B140 : CCode := (sR [(0,oP 4 (.box 2 (.t 1)) [1]),(1,oP 5 (.box 2 (.t 2)) [2]),(2,oY 6 false [6])] (.seq (.reg true [(0,oT 7 0 []),(1,oM 8 2 4 []),(2,oP 9 (.call 42 [.t 7,.t 8]) [7,8]),(3,oT 10 9 [9]),(4,oG 11
(.mv (.t 0)) 10 true []),(5,oG 12 (.ld 2 true (.t 5)) 10 true []),(6,oG 13 (.call 42 [.t 11,.t 12]) 10 true [11,12]),(7,oP 14 (.pick (.t 10) (.t 13) (.c (.bool false))) [10,13]),(8,oT 15 14 [14]),(9,oG 16 (.fa 0 (.t 4))
15 true []),(10,oG 17 (.ld 1 false (.t 16)) 15 true [16]),(11,oG 18 (.fa 0 (.t 5)) 15 true []),(12,oG 19 (.ld 1 false (.t 18)) 15 true [18]),(13,oG 20 (.bin .eql (.t 17) (.t 19)) 15 true [17,19]),(14,oP 21 (.pick (.t
15) (.t 20) (.c (.bool false))) [15,20]),(15,oT 22 21 [21]),(16,oG 23 (.mv (.t 0)) 22 true []),(17,oG 24 (.ld 2 true (.t 4)) 22 true []),(19,oG 26 (.mv (.t 0)) 22 true []),(20,oG 27 (.ld 2 true (.t 5)) 22 true
[]),(18,⟨some 25,.call 174 [.t 23,.t 24],some (22,true),[(5,2)],[4,23,24]⟩),(21,oG 28 (.call 174 [.t 26,.t 27]) 22 true [5,26,27]),(22,oG 29 (.call 81 [.t 25,.t 28]) 22 true [25,28]),(23,oG 30 (.bin .eql (.t 29) (.c
(.int .i64 0))) 22 true [29]),(24,oP 31 (.pick (.t 22) (.t 30) (.c (.bool false))) [22,30]),(25,oT 6 31 [31])]) .ret))
def C140 : CFn := ⟨32,3,[.t 6],B140⟩
abbrev L142_0 : CCode := (.seq (sR [(0,oT 10 4 []),(1,oF 11 1 1 []),(2,oL 12 1 11 [11]),(3,oN 13 12 [12]),(4,oB 14 .lss 10 13 [10,13])] (.cond (.t 14) (sK [14] .skip) (sK [1,4,14] (.exit 0)))) (.seq (.block 1 (.reg true
[(0,oF 17 1 3 []),(1,oL 18 1 17 []),(2,oF 19 1 1 []),(3,oL 20 1 19 []),(4,oT 21 4 []),(5,oI 22 2 20 21 [20]),(6,oF 23 0 22 [22]),(7,oL 24 1 23 []),(8,oP 25 (.bsl 1 0 [.int .i64 (0)] []) []),(9,oF 26 1 1 []),(10,oL 27 1
26 [26]),(11,oT 28 4 []),(12,oI 29 2 27 28 [27]),(13,oF 30 1 29 [29]),(14,oL 31 1 30 [30]),(15,⟨some 32,.app 1 8 (.t 25) (.t 31),none,[(17,1),(19,1),(23,1)],[17,19,21,23,25,28,31]⟩),(16,oP 33 (.bld [.int .i64 (0),.nils]
[(0,1,(.t 24)),(1,1,(.t 32))]) [24,32]),(17,oP 34 (.bsl 2 1 [.int .i64 (0),.nils] [(0,2,(.t 33))]) [33]),(18,oP 35 (.app 2 32 (.t 18) (.t 34)) [18,34]),(19,oF 36 1 3 []),(20,oS 1 36 35 [35,36])])) (.reg false [(0,oT 15
4 [4]),(1,oC 16 .add 15 1 [15]),(2,oT 4 16 [16])])))
abbrev B142 : CCode := (sR [(0,oP 1 (.box 2 (.t 0)) [0]),(1,oP 2 (.al [.nils,.nils]) [])] (sR [(0,oP 5 (.bsl 3 0 [.str [],.int .i64 (0),.int .i64 (0)] []) []),(1,oF 6 0 1 []),(2,oL 7 1 6 [6]),(3,oP 8 (.app 3 32 (.t 5)
(.t 7)) [5,7]),(4,oP 9 (.bld [.nils,.nils] [(0,1,(.t 8))]) [8]),(5,oP 3 (.al [.nils,.nils]) []),(6,oS 2 3 9 [9])] (.seq (sR [(0,oZ 4 0 [])] (.block 0 (.loop L142_0))) (sR [(0,oM 37 2 3 []),(1,oS 2 2 37 [3,37])] .ret))))
def C142 : CFn := ⟨38,1,[.m 2 2 true],B142⟩
abbrev B143 : CCode := (sR [(0,oP 2 (.box 2 (.t 0)) [0]),(1,oP 3 (.box 2 (.t 1)) [1]),(2,oY 4 false [4])] (sR [(0,oM 5 2 2 []),(1,oP 6 (.call 11 [.t 5]) [5]),(2,oT 7 6 [6]),(3,oG 8 (.ld 2 true (.t 2)) 7 true []),(4,oG 9
(.ld 2 true (.t 3)) 7 true []),(5,oG 10 (.call 175 [.t 8,.t 9]) 7 true [2,3,8,9]),(6,oG 11 (.bin .geq (.t 10) (.c (.int .i64 0))) 7 true [10]),(7,oP 12 (.pick (.t 7) (.t 11) (.c (.bool false))) [7,11]),(8,oT 4 12 [12])]
.ret))
def C143 : CFn := ⟨13,2,[.t 4],B143⟩
abbrev L144_2 : CCode := (.seq (sR [(0,oT 42 9 []),(1,oT 43 4 []),(2,oN 44 43 [43]),(3,oB 45 .lss 42 44 [42,44])] (.cond (.t 45) (sK [45] .skip) (sK [9,45] (.exit 4)))) (.seq (.block 5 (sR [(0,oT 48 4 []),(1,oT 49 9
[]),(2,oI 50 1 48 49 []),(3,oL 51 1 50 [48,49,50]),(4,oT 52 7 []),(5,oB 53 .eql 51 52 [51,52])] (.cond (.t 53) (sK [8,53] (.reg false [(0,oT 54 9 []),(1,oT 8 54 [54])])) (sK [53] .skip)))) (.reg false [(0,oT 46 9
[9]),(1,oC 47 .add 46 1 [46]),(2,oT 9 47 [47])])))
abbrev L144_1 : CCode := (.seq (sR [(0,oT 20 6 []),(1,oF 21 1 3 []),(2,oL 22 1 21 [21]),(3,oT 23 5 []),(4,oI 24 2 22 23 [22]),(5,oF 25 1 24 [24]),(6,oL 26 1 25 [25]),(7,oN 27 26 [23,26]),(8,oB 28 .lss 20 27 [20,27])]
(.cond (.t 28) (sK [28] .skip) (sK [6,28] (.exit 2)))) (.seq (.block 3 (sR [(0,oF 31 1 3 []),(1,oL 32 1 31 [31]),(2,oT 33 5 []),(3,oI 34 2 32 33 [32]),(4,oF 35 1 34 [34]),(5,oL 36 1 35 [35]),(6,oT 37 6 []),(7,oI 38 1 36
37 [36]),(8,oL 39 1 38 [33,37,38]),(9,oT 7 39 [39])] (.seq (sR [(0,oT 40 7 []),(1,oC 41 .lss 40 0 [40])] (.cond (.t 41) (sK [7,41] (.exit 3)) (sK [41] .skip))) (sR [(0,oZ 8 (-1) [])] (.seq (sR [(0,oZ 9 0 [])] (.block 4
(.loop L144_2))) (.seq (sR [(0,oT 55 8 []),(1,oC 56 .lss 55 0 [55])] (.cond (.t 56) (sK [8,56] (sR [(0,oT 57 4 []),(1,oN 58 57 [57]),(2,oT 8 58 [58])] (.reg false [(0,oT 59 4 [4]),(1,oT 60 7 [7]),(2,oP 61 (.bsl 1 1
[.int .i64 (0)] [(0,1,(.t 60))]) [60]),(3,oP 62 (.app 1 8 (.t 59) (.t 61)) [59,61]),(4,oT 4 62 [62])]))) (sK [7,56] .skip))) (.reg false [(0,oF 63 1 3 []),(1,oL 64 1 63 [63]),(2,oT 65 5 []),(3,oI 66 2 64 65 [64]),(4,oF
67 1 66 [66]),(5,oL 68 1 67 [67]),(6,oT 69 6 []),(7,oT 70 8 [8]),(8,oI 71 1 68 69 [68]),(9,oS 1 71 70 [65,69,70,71])]))))))) (.reg false [(0,oT 29 6 [6]),(1,oC 30 .add 29 1 [29]),(2,oT 6 30 [30])])))
abbrev L144_0 : CCode := (.seq (sR [(0,oT 13 5 []),(1,oF 14 1 3 []),(2,oL 15 1 14 [14]),(3,oN 16 15 [15]),(4,oB 17 .lss 13 16 [13,16])] (.cond (.t 17) (sK [17] .skip) (sK [5,17] (.exit 0)))) (.seq (.block 1 (sR [(0,oZ 6
0 [])] (.block 2 (.loop L144_1)))) (.reg false [(0,oT 18 5 [5]),(1,oC 19 .add 18 1 [18]),(2,oT 5 19 [19])])))
abbrev B144 : CCode := (sR [(0,oP 1 (.box 3 (.t 0)) [0]),(1,oP 2 (.al [.int .i64 (0),.nils,.nils]) [])] (sR [(0,oM 10 3 1 []),(1,oP 11 (.call 105 [.t 10]) [1,10]),(2,oP 3 (.al [.int .i64 (0),.nils,.nils]) []),(3,oS 3 3
11 [11])] (sR [(0,oP 12 (.bsl 1 0 [.int .i64 (0)] []) []),(1,oT 4 12 [12])] (.seq (sR [(0,oZ 5 0 [])] (.block 0 (.loop L144_0))) (sR [(0,oT 72 4 [4]),(1,oN 73 72 [72]),(2,oF 74 0 3 []),(3,oS 1 74 73 [73,74])] (sR [(0,oM
75 3 3 []),(1,oS 3 2 75 [3,75])] .ret))))))
def C144 : CFn := ⟨76,1,[.m 2 3 true],B144⟩
abbrev L145_0 : CCode := (.seq (sR [(0,oT 49 11 []),(1,oT 50 10 []),(2,oN 51 50 [50]),(3,oB 52 .lss 49 51 [49,51])] (.cond (.t 52) (sK [52] .skip) (sK [9,10,11,52] (.exit 0)))) (.seq (.block 1 (sR [(0,oT 55 9 []),(1,oT
56 10 []),(2,oT 57 11 []),(3,oI 58 1 56 57 []),(4,oL 59 1 58 [56,57,58]),(5,oP 60 (.call 80 [.t 55,.t 59]) [55,59])] (.cond (.t 60) (sK [9,10,11,60] (sR [(0,oY 8 true [])] .ret)) (sK [60] .skip)))) (.reg false [(0,oT 53
11 [11]),(1,oC 54 .add 53 1 [53]),(2,oT 11 54 [54])])))
abbrev B145 : CCode := (sR [(0,oP 5 (.box 3 (.t 1)) [1]),(1,oY 8 false [8])] (.seq (sR [(0,oT 12 0 []),(1,oM 13 3 5 []),(2,oP 14 (.call 93 [.t 12,.t 13]) [12,13]),(3,oP 15 (.not (.t 14)) [14]),(4,oT 16 15 [15]),(5,oG 17
(.mv (.t 2)) 16 false []),(6,oG 18 (.fa 1 (.t 5)) 16 false []),(7,oG 19 (.ld 1 false (.t 18)) 16 false [18]),(8,oG 20 (.len (.t 19)) 16 false [19]),(9,oG 21 (.bin .sub (.t 20) (.c (.int .i64 1))) 16 false [20]),(10,oG
22 (.call 38 [.t 17,(.c (.int .i64 0)),.t 21]) 16 false [17,21]),(11,oG 23 (.not (.t 22)) 16 false [22]),(12,oP 24 (.pick (.t 16) (.c (.bool true)) (.t 23)) [16,23]),(13,oT 25 24 [24]),(14,oG 26 (.mv (.t 3)) 25 false
[]),(15,oG 27 (.fa 1 (.t 5)) 25 false []),(16,oG 28 (.ld 1 false (.t 27)) 25 false [27]),(17,oG 29 (.len (.t 28)) 25 false [28]),(18,oG 30 (.bin .sub (.t 29) (.c (.int .i64 1))) 25 false [29]),(19,oG 31 (.call 38 [.t
26,(.c (.int .i64 0)),.t 30]) 25 false [26,30]),(20,oG 32 (.not (.t 31)) 25 false [31]),(21,oP 33 (.pick (.t 25) (.c (.bool true)) (.t 32)) [25,32]),(22,oT 34 33 [33]),(23,oG 35 (.mv (.t 2)) 34 false []),(24,oG 36 (.mv
(.t 3)) 34 false []),(25,oG 37 (.bin .eql (.t 35) (.t 36)) 34 false [35,36]),(26,oP 38 (.pick (.t 34) (.c (.bool true)) (.t 37)) [34,37])] (.cond (.t 38) (sK [0,2,3,5,38] (sR [(0,oY 8 false [])] .ret)) (sK [38] .skip)))
(sR [(0,oT 39 0 [0]),(1,oM 40 3 5 []),(2,oT 41 2 [2]),(3,oP 42 (.call 176 [.t 39,.t 40,.t 41]) [39,40,41]),(4,oT 9 42 [42])] (sR [(0,oF 43 1 5 []),(1,oL 44 1 43 [43]),(2,oT 45 3 [3]),(3,oI 46 2 44 45 [44]),(4,oM 47 2 46
[46]),(5,oP 48 (.call 41 [.t 47]) [5,45,47]),(6,oT 10 48 [48])] (.seq (sR [(0,oZ 11 0 [])] (.block 0 (.loop L145_0))) (sR [(0,oY 8 false [])] .ret))))))
def C145 : CFn := ⟨61,4,[.t 8],B145⟩
abbrev B146 : CCode := (sR [(0,oP 5 (.box 3 (.t 1)) [1]),(1,oY 8 false [8])] (.seq (.reg true [(0,oT 9 0 []),(1,oM 10 3 5 []),(2,oT 11 2 []),(3,oT 12 3 []),(4,oP 13 (.call 145 [.t 9,.t 10,.t 11,.t 12])
[9,10,11,12]),(5,oT 14 13 [13]),(6,oG 15 (.mv (.t 0)) 14 true []),(7,oG 16 (.ld 3 true (.t 5)) 14 true []),(8,oG 17 (.mv (.t 0)) 14 true []),(9,oG 18 (.fa 1 (.t 5)) 14 true []),(10,oG 19 (.ld 1 false (.t 18)) 14 true
[18]),(11,oG 20 (.mv (.t 2)) 14 true [2]),(12,oG 21 (.ia 2 (.t 19) (.t 20)) 14 true [19]),(13,oG 22 (.ld 2 true (.t 21)) 14 true [21]),(15,oG 24 (.mv (.t 0)) 14 true []),(16,oG 25 (.fa 1 (.t 5)) 14 true []),(17,oG 26
(.ld 1 false (.t 25)) 14 true []),(18,oG 27 (.mv (.t 3)) 14 true [3]),(19,oG 28 (.ia 2 (.t 26) (.t 27)) 14 true [26]),(20,oG 29 (.ld 2 true (.t 28)) 14 true []),(14,⟨some 23,.call 40 [.t 17,.t 22],some
(14,true),[(5,3),(25,1),(28,2)],[17,20,22,25,28]⟩),(21,⟨some 30,.call 40 [.t 24,.t 29],some (14,true),[(5,3)],[24,27,29]⟩),(22,oG 31 (.call 177 [.t 15,.t 16,.t 23,.t 30]) 14 true [5,15,16,23,30]),(23,oP 32 (.pick (.t
14) (.t 31) (.c (.bool false))) [14,31]),(24,oT 8 32 [32])]) .ret))
def C146 : CFn := ⟨33,4,[.t 8],B146⟩
abbrev L147_2 : CCode := (.seq (sR [(0,oT 53 12 []),(1,oF 54 1 5 []),(2,oL 55 1 54 [54]),(3,oN 56 55 [55]),(4,oB 57 .lss 53 56 [53,56])] (.cond (.t 57) (sK [57] .skip) (sK [12,57] (.exit 4)))) (.seq (.block 5 (sR [(0,oT
60 11 []),(1,oT 61 2 []),(2,oB 62 .eql 60 61 [60,61]),(3,oT 63 62 [62]),(4,oG 64 (.mv (.t 9)) 63 false []),(5,oG 65 (.mv (.t 11)) 63 false []),(6,oG 66 (.ia 1 (.t 64) (.t 65)) 63 false []),(7,oG 67 (.ld 1 false (.t 66))
63 false [64,65,66]),(8,oP 68 (.pick (.t 63) (.c (.bool true)) (.t 67)) [63,67]),(9,oT 69 68 [68]),(10,oG 70 (.mv (.t 0)) 69 true []),(11,oG 71 (.ld 3 true (.t 5)) 69 true []),(12,oG 72 (.mv (.t 11)) 69 true []),(13,oG
73 (.mv (.t 12)) 69 true []),(14,oG 74 (.call 145 [.t 70,.t 71,.t 72,.t 73]) 69 true [70,71,72,73]),(15,oP 75 (.pick (.t 69) (.t 74) (.c (.bool false))) [69,74])] (.cond (.t 75) (sK [75] (.reg false [(0,oT 76 9
[]),(1,oT 77 12 []),(2,oI 78 1 76 77 []),(3,⟨none,.st 1 (.t 78) (.c (.bool true)),none,[],[76,77,78]⟩)])) (sK [75] .skip)))) (.reg false [(0,oT 58 12 [12]),(1,oC 59 .add 58 1 [58]),(2,oT 12 59 [59])])))
abbrev L147_1 : CCode := (.seq (sR [(0,oT 46 11 []),(1,oF 47 1 5 []),(2,oL 48 1 47 [47]),(3,oN 49 48 [48]),(4,oB 50 .lss 46 49 [46,49])] (.cond (.t 50) (sK [50] .skip) (sK [11,50] (.exit 2)))) (.seq (.block 3 (sR [(0,oZ
12 0 [])] (.block 4 (.loop L147_2)))) (.reg false [(0,oT 51 11 [11]),(1,oC 52 .add 51 1 [51]),(2,oT 11 52 [52])])))
abbrev L147_0 : CCode := (.seq (sR [(0,oT 39 10 []),(1,oF 40 1 5 []),(2,oL 41 1 40 [40]),(3,oN 42 41 [41]),(4,oB 43 .leq 39 42 [39,42])] (.cond (.t 43) (sK [43] .skip) (sK [0,2,5,10,43] (.exit 0)))) (.seq (.block 1 (sR
[(0,oZ 11 0 [])] (.block 2 (.loop L147_1)))) (.reg false [(0,oT 44 10 [10]),(1,oC 45 .add 44 1 [44]),(2,oT 10 45 [45])])))
abbrev B147 : CCode := (sR [(0,oP 5 (.box 3 (.t 1)) [1]),(1,oY 8 false [8])] (.seq (sR [(0,oT 13 0 []),(1,oM 14 3 5 []),(2,oP 15 (.call 93 [.t 13,.t 14]) [13,14]),(3,oP 16 (.not (.t 15)) [15]),(4,oT 17 16 [16]),(5,oG 18
(.mv (.t 2)) 17 false []),(6,oG 19 (.fa 1 (.t 5)) 17 false []),(7,oG 20 (.ld 1 false (.t 19)) 17 false [19]),(8,oG 21 (.len (.t 20)) 17 false [20]),(9,oG 22 (.bin .sub (.t 21) (.c (.int .i64 1))) 17 false [21]),(10,oG
23 (.call 38 [.t 18,(.c (.int .i64 0)),.t 22]) 17 false [18,22]),(11,oG 24 (.not (.t 23)) 17 false [23]),(12,oP 25 (.pick (.t 17) (.c (.bool true)) (.t 24)) [17,24]),(13,oT 26 25 [25]),(14,oG 27 (.mv (.t 3)) 26 false
[]),(15,oG 28 (.fa 1 (.t 5)) 26 false []),(16,oG 29 (.ld 1 false (.t 28)) 26 false [28]),(17,oG 30 (.len (.t 29)) 26 false [29]),(18,oG 31 (.bin .sub (.t 30) (.c (.int .i64 1))) 26 false [30]),(19,oG 32 (.call 38 [.t
27,(.c (.int .i64 0)),.t 31]) 26 false [27,31]),(20,oG 33 (.not (.t 32)) 26 false [32]),(21,oP 34 (.pick (.t 26) (.c (.bool true)) (.t 33)) [26,33])] (.cond (.t 34) (sK [0,2,3,5,34] (sR [(0,oY 8 false [])] .ret)) (sK
[34] .skip))) (sR [(0,oF 35 1 5 []),(1,oL 36 1 35 [35]),(2,oN 37 36 [36]),(3,oP 38 (.mk 1 1 [.bool false] (.t 37) (.t 37)) [37]),(4,oT 9 38 [38])] (.seq (sR [(0,oZ 10 0 [])] (.block 0 (.loop L147_0))) (sR [(0,oT 79 9
[9]),(1,oT 80 3 [3]),(2,oI 81 1 79 80 []),(3,oL 82 1 81 [79,80,81]),(4,oT 8 82 [82])] .ret)))))
def C147 : CFn := ⟨83,4,[.t 8],B147⟩
abbrev L148_0 : CCode := (.seq (sR [(0,oT 6 5 []),(1,oF 7 1 3 []),(2,oL 8 1 7 [7]),(3,oN 9 8 [8]),(4,oB 10 .lss 6 9 [6,9])] (.cond (.t 10) (sK [10] .skip) (sK [0,3,5,10] (.exit 0)))) (.seq (.block 1 (sR [(0,oT 13 0
[]),(1,oM 14 3 3 []),(2,oT 15 5 []),(3,oT 16 5 []),(4,oP 17 (.call 147 [.t 13,.t 14,.t 15,.t 16]) [13,14,15,16])] (.cond (.t 17) (sK [0,3,5,17] (sR [(0,oY 4 true [])] .ret)) (sK [17] .skip)))) (.reg false [(0,oT 11 5
[5]),(1,oC 12 .add 11 1 [11]),(2,oT 5 12 [12])])))
abbrev B148 : CCode := (sR [(0,oP 3 (.box 3 (.t 1)) [1]),(1,oY 4 false [4])] (.seq (sR [(0,oZ 5 0 [])] (.block 0 (.loop L148_0))) (sR [(0,oY 4 false [])] .ret)))
def C148 : CFn := ⟨18,2,[.t 4],B148⟩
abbrev L149_2 : CCode := (.seq (sR [(0,oT 36 11 []),(1,oF 37 1 5 []),(2,oL 38 1 37 [37]),(3,oN 39 38 [38]),(4,oB 40 .lss 36 39 [36,39])] (.cond (.t 40) (sK [40] .skip) (sK [11,40] (.exit 2)))) (.seq (.block 3 (sR [(0,oT
43 11 []),(1,oT 44 2 []),(2,oB 45 .neq 43 44 [43,44]),(3,oT 46 45 [45]),(4,oG 47 (.mv (.t 9)) 46 true []),(5,oG 48 (.mv (.t 0)) 46 true []),(6,oG 49 (.fa 1 (.t 5)) 46 true []),(7,oG 50 (.ld 1 false (.t 49)) 46 true
[49]),(8,oG 51 (.mv (.t 11)) 46 true []),(9,oG 52 (.ia 2 (.t 50) (.t 51)) 46 true [50]),(10,oG 53 (.ld 2 true (.t 52)) 46 true [52]),(11,oG 54 (.call 40 [.t 48,.t 53]) 46 true [48,51,53]),(12,oG 55 (.call 39 [.t 47,.t
54]) 46 true [47,54]),(13,oP 56 (.pick (.t 46) (.t 55) (.c (.bool false))) [46,55])] (.cond (.t 56) (sK [56] (.reg false [(0,oT 57 9 [9]),(1,oF 58 1 5 []),(2,oL 59 1 58 [58]),(3,oT 60 11 []),(4,oI 61 2 59 60 [59]),(5,oM
62 2 61 [61]),(6,oP 63 (.call 41 [.t 62]) [60,62]),(7,oP 64 (.call 151 [.t 57,.t 63]) [57,63]),(8,oT 9 64 [64])])) (sK [56] .skip)))) (.reg false [(0,oT 41 11 [11]),(1,oC 42 .add 41 1 [41]),(2,oT 11 42 [42])])))
abbrev L149_0 : CCode := (.seq (sR [(0,oT 29 10 []),(1,oF 30 1 5 []),(2,oL 31 1 30 [30]),(3,oN 32 31 [31]),(4,oB 33 .lss 29 32 [29,32])] (.cond (.t 33) (sK [33] .skip) (sK [0,10,33] (.exit 0)))) (.seq (.block 1 (sR
[(0,oZ 11 0 [])] (.block 2 (.loop L149_2)))) (.reg false [(0,oT 34 10 [10]),(1,oC 35 .add 34 1 [34]),(2,oT 10 35 [35])])))
abbrev L149_4 : CCode := (.seq (sR [(0,oT 81 15 []),(1,oF 82 1 5 []),(2,oL 83 1 82 [82]),(3,oN 84 83 [83]),(4,oB 85 .lss 81 84 [81,84])] (.cond (.t 85) (sK [85] .skip) (sK [15,85] (.exit 8)))) (.seq (.block 9 (.seq
(.reg true [(0,oT 88 12 []),(1,oT 89 14 []),(2,oP 90 (.call 80 [.t 88,.t 89]) [88,89]),(3,oT 91 90 [90]),(4,oG 92 (.mv (.t 12)) 91 true []),(5,oG 93 (.mv (.t 15)) 91 true []),(6,oG 94 (.call 80 [.t 92,.t 93]) 91 true
[92,93]),(7,oG 95 (.not (.t 94)) 91 true [94]),(8,oP 96 (.pick (.t 91) (.t 95) (.c (.bool false))) [91,95]),(9,oT 97 96 [96]),(10,oG 98 (.fa 1 (.t 5)) 97 true []),(11,oG 99 (.ld 1 false (.t 98)) 97 true [98]),(12,oG 100
(.mv (.t 14)) 97 true []),(13,oG 101 (.ia 2 (.t 99) (.t 100)) 97 true [99]),(14,oG 102 (.ld 2 true (.t 101)) 97 true [101]),(16,oG 104 (.fa 1 (.t 5)) 97 true []),(17,oG 105 (.ld 1 false (.t 104)) 97 true []),(18,oG 106
(.mv (.t 15)) 97 true []),(19,oG 107 (.ia 2 (.t 105) (.t 106)) 97 true [105]),(20,oG 108 (.ld 2 true (.t 107)) 97 true []),(22,oG 110 (.mv (.t 9)) 97 true []),(15,⟨some 103,.call 41 [.t 102],some
(97,true),[(104,1),(107,2)],[100,102,104,107]⟩),(21,oG 109 (.call 41 [.t 108]) 97 true [106,108]),(23,oG 111 (.call 178 [.t 103,.t 109,.t 110]) 97 true [103,109,110]),(24,oP 112 (.pick (.t 97) (.t 111) (.c (.bool
false))) [97,111])]) (.cond (.t 112) (sK [112] (.reg false [(0,oT 113 12 [12]),(1,oT 114 15 []),(2,oP 115 (.bsl 1 1 [.int .i64 (0)] [(0,1,(.t 114))]) [114]),(3,oP 116 (.app 1 8 (.t 113) (.t 115)) [113,115]),(4,oT 12 116
[116])])) (sK [112] .skip)))) (.reg false [(0,oT 86 15 [15]),(1,oC 87 .add 86 1 [86]),(2,oT 15 87 [87])])))
abbrev L149_3 : CCode := (.seq (sR [(0,oT 74 14 []),(1,oF 75 1 5 []),(2,oL 76 1 75 [75]),(3,oN 77 76 [76]),(4,oB 78 .lss 74 77 [74,77])] (.cond (.t 78) (sK [78] .skip) (sK [14,78] (.exit 6)))) (.seq (.block 7 (sR [(0,oZ
15 0 [])] (.block 8 (.loop L149_4)))) (.reg false [(0,oT 79 14 [14]),(1,oC 80 .add 79 1 [79]),(2,oT 14 80 [80])])))
abbrev L149_1 : CCode := (.seq (sR [(0,oT 67 13 []),(1,oF 68 1 5 []),(2,oL 69 1 68 [68]),(3,oN 70 69 [69]),(4,oB 71 .lss 67 70 [67,70])] (.cond (.t 71) (sK [71] .skip) (sK [5,9,13,71] (.exit 4)))) (.seq (.block 5 (sR
[(0,oZ 14 0 [])] (.block 6 (.loop L149_3)))) (.reg false [(0,oT 72 13 [13]),(1,oC 73 .add 72 1 [72]),(2,oT 13 73 [73])])))
abbrev B149 : CCode := (sR [(0,oP 5 (.box 3 (.t 1)) [1]),(1,oY 8 false [8])] (.seq (sR [(0,oT 16 2 []),(1,oT 17 3 []),(2,oB 18 .eql 16 17 [16,17])] (.cond (.t 18) (sK [0,2,3,5,18] (sR [(0,oY 8 false [])] .ret)) (sK [18]
.skip))) (.seq (.reg true [(0,oF 19 2 5 []),(1,oL 20 1 19 []),(2,oT 21 0 []),(3,oF 22 1 5 []),(4,oL 23 1 22 [22]),(5,oT 24 2 []),(6,oI 25 2 23 24 [23]),(7,oM 26 2 25 [25]),(8,⟨some 27,.call 40 [.t 21,.t
26],none,[(19,1)],[19,21,24,26]⟩),(9,oP 28 (.call 151 [.t 20,.t 27]) [20,27]),(10,oT 9 28 [28])]) (.seq (sR [(0,oZ 10 0 [])] (.block 0 (.loop L149_0))) (sR [(0,oT 65 2 [2]),(1,oP 66 (.bsl 1 1 [.int .i64 (0)] [(0,1,(.t
65))]) [65]),(2,oT 12 66 [66])] (.seq (sR [(0,oZ 13 0 [])] (.block 4 (.loop L149_1))) (sR [(0,oT 117 12 [12]),(1,oT 118 3 [3]),(2,oP 119 (.call 80 [.t 117,.t 118]) [117,118]),(3,oT 8 119 [119])] .ret)))))))
def C149 : CFn := ⟨120,4,[.t 8],B149⟩
abbrev B150 : CCode := (sR [(0,oP 2 (.box 3 (.t 0)) [0]),(1,oP 4 (.al [.int .i64 (0),.nils,.nils]) [])] (sR [(0,oM 6 3 2 []),(1,oP 7 (.call 105 [.t 6]) [6]),(2,oP 5 (.al [.int .i64 (0),.nils,.nils]) []),(3,oS 3 5 7
[7])] (.seq (sR [(0,oT 8 1 []),(1,oF 9 1 2 []),(2,oL 10 1 9 [9]),(3,oN 11 10 [2,10]),(4,oC 12 .sub 11 1 [11]),(5,oP 13 (.call 38 [.t 8,(.c (.int .i64 0)),.t 12]) [8,12])] (.cond (.t 13) (sK [13] (.reg true [(0,oP 14
(.bsl 2 0 [.int .i64 (0),.nils] []) []),(1,oF 15 1 5 []),(2,oL 16 1 15 [15]),(3,oT 17 1 []),(4,oP 18 (.sls 2 (.t 16) none (some (.t 17)) none) [16,17]),(6,oF 20 1 5 []),(7,oL 21 1 20 []),(8,oT 22 1 [1]),(9,oC 23 .add 22
1 [22]),(10,oP 24 (.sls 2 (.t 21) (some (.t 23)) none none) [21,23]),(5,⟨some 19,.app 2 32 (.t 14) (.t 18),none,[(20,1)],[14,18,20]⟩),(11,oP 25 (.app 2 32 (.t 19) (.t 24)) [19,24]),(12,oF 26 1 5 []),(13,oS 1 26 25
[25,26])])) (sK [1,13] .skip))) (sR [(0,oM 27 3 5 []),(1,oS 3 4 27 [5,27])] .ret))))
def C150 : CFn := ⟨28,2,[.m 4 3 true],B150⟩
abbrev L151_0 : CCode := (.seq (sR [(0,oT 8 6 []),(1,oC 9 .lss 8 4 [8])] (.cond (.t 9) (sK [9] .skip) (sK [0,1,6,9] (.exit 0)))) (.seq (.block 1 (sR [(0,oT 12 0 []),(1,oT 13 6 []),(2,oP 14 (.call 80 [.t 12,.t 13])
[12,13]),(3,oT 15 14 [14]),(4,oG 16 (.mv (.t 1)) 15 false []),(5,oG 17 (.mv (.t 6)) 15 false []),(6,oG 18 (.call 80 [.t 16,.t 17]) 15 false [16,17]),(7,oP 19 (.pick (.t 15) (.c (.bool true)) (.t 18)) [15,18])] (.cond
(.t 19) (sK [19] (.reg false [(0,oT 20 5 [5]),(1,oT 21 6 []),(2,oP 22 (.bsl 1 1 [.int .i64 (0)] [(0,1,(.t 21))]) [21]),(3,oP 23 (.app 1 8 (.t 20) (.t 22)) [20,22]),(4,oT 5 23 [23])])) (sK [19] .skip)))) (.reg false
[(0,oT 10 6 [6]),(1,oC 11 .add 10 1 [10]),(2,oT 6 11 [11])])))
abbrev B151 : CCode := (sR [(0,oP 4 (.mv (.c (.nils))) [4])] (sR [(0,oP 7 (.bsl 1 0 [.int .i64 (0)] []) []),(1,oT 5 7 [7])] (.seq (sR [(0,oZ 6 0 [])] (.block 0 (.loop L151_0))) (sR [(0,oT 24 5 [5]),(1,oT 4 24 [24])]
.ret))))
def C151 : CFn := ⟨25,2,[.t 4],B151⟩
abbrev B152 : CCode := (sR [(0,oP 2 (.mv (.c (.str []))) [2])] (sR [(0,oT 6 0 []),(1,oP 7 (.call 179 [.t 6]) [6]),(2,oT 5 7 [7]),(3,oP 8 (.ex (.t 5) 0) []),(4,oP 9 (.ex (.t 5) 1) [5]),(5,oT 3 8 [8]),(6,oT 4 9 [9])]
(.seq (sR [(0,oT 10 4 [4])] (.cond (.t 10) (sK [0,10] (sR [(0,oT 11 3 [3]),(1,oP 12 (.call 180 [.t 11]) [11]),(2,oT 2 12 [12])] .ret)) (sK [3,10] .skip))) (.seq (sR [(0,oT 13 0 []),(1,oP 14 (.call 38 [.t 13,(.c (.int
.i64 0)),(.c (.int .i64 3))]) [13]),(2,oP 15 (.not (.t 14)) [14])] (.cond (.t 15) (sK [0,15] (sR [(0,oP 2 (.mv (.c (.str []))) [])] .ret)) (sK [15] .skip))) (sR [(0,oT 16 0 []),(1,oT 17 0 [0]),(2,oC 18 .add 17 1
[17]),(3,oP 19 (.sst (.c (.str [120,121,122,119])) (some (.t 16)) (some (.t 18))) [16,18]),(4,oT 2 19 [19])] .ret)))))
def C152 : CFn := ⟨20,1,[.t 2],B152⟩
abbrev L153_0 : CCode := (.seq (sR [(0,oT 13 6 []),(1,oF 14 1 3 []),(2,oL 15 1 14 [14]),(3,oN 16 15 [15]),(4,oB 17 .lss 13 16 [13,16])] (.cond (.t 17) (sK [17] .skip) (sK [0,3,6,17] (.exit 0)))) (.seq (.block 1 (.seq
(sR [(0,oT 20 6 []),(1,oT 21 0 []),(2,oF 22 0 3 []),(3,oL 23 1 22 [22]),(4,oI 24 3 21 23 []),(5,oF 25 2 24 [24]),(6,oL 26 1 25 [21,23,25]),(7,oB 27 .eql 20 26 [20,26])] (.cond (.t 27) (sK [27] (.reg false [(0,oT 28 5
[5]),(1,oP 29 (.bin .add (.t 28) (.c (.str [124]))) [28]),(2,oT 5 29 [29])])) (sK [27] .skip))) (.reg false [(0,oT 30 5 [5]),(1,oF 31 1 3 []),(2,oL 32 1 31 [31]),(3,oT 33 6 []),(4,oI 34 1 32 33 [32]),(5,oL 35 1 34
[33,34]),(6,oP 36 (.call 152 [.t 35]) [35]),(7,oB 37 .add 30 36 [30,36]),(8,oT 5 37 [37])]))) (.reg false [(0,oT 18 6 [6]),(1,oC 19 .add 18 1 [18]),(2,oT 6 19 [19])])))
abbrev B153 : CCode := (sR [(0,oP 3 (.box 2 (.t 1)) [1]),(1,oP 4 (.mv (.c (.str []))) [4])] (sR [(0,oT 7 0 []),(1,oF 8 0 3 []),(2,oL 9 1 8 [8]),(3,oI 10 3 7 9 []),(4,oF 11 0 10 [10]),(5,oL 12 1 11 [7,9,11]),(6,oT 5 12
[12])] (.seq (sR [(0,oZ 6 0 [])] (.block 0 (.loop L153_0))) (sR [(0,oT 38 5 [5]),(1,oT 4 38 [38])] .ret))))
def C153 : CFn := ⟨39,2,[.t 4],B153⟩
abbrev B154 : CCode := (sR [(0,oY 2 false [2])] (sR [(0,oT 3 0 [0]),(1,oP 4 (.call 31 [.t 3,(.c (.int .i64 0)),(.c (.int .i64 9))]) [3]),(2,oP 5 (.not (.t 4)) [4]),(3,oT 2 5 [5])] .ret))
def C154 : CFn := ⟨6,1,[.t 2],B154⟩
abbrev B155 : CCode := (sR [(0,oZ 4 0 [4])] (sR [(0,oT 7 0 []),(1,oP 8 (.call 181 [.t 7]) [7]),(2,oT 5 8 [8])] (sR [(0,oT 9 1 []),(1,oP 10 (.call 181 [.t 9]) [9]),(2,oT 6 10 [10])] (.seq (sR [(0,oT 11 5 [5])] (.cond (.t
11) (sK [0,1,11] (.seq (sR [(0,oT 12 6 [6])] (.cond (.t 12) (sK [12] (sR [(0,oZ 4 0 [])] .ret)) (sK [12] .skip))) (sR [(0,oZ 4 (-1) [])] .ret))) (sK [11] .skip))) (.seq (sR [(0,oT 13 6 [6])] (.cond (.t 13) (sK [0,1,13]
(sR [(0,oZ 4 1 [])] .ret)) (sK [13] .skip))) (.seq (sR [(0,oT 14 0 []),(1,oT 15 1 []),(2,oB 16 .lss 14 15 [14,15])] (.cond (.t 16) (sK [0,1,16] (sR [(0,oZ 4 (-1) [])] .ret)) (sK [16] .skip))) (.seq (sR [(0,oT 17 0
[0]),(1,oT 18 1 [1]),(2,oB 19 .gtr 17 18 [17,18])] (.cond (.t 19) (sK [19] (sR [(0,oZ 4 1 [])] .ret)) (sK [19] .skip))) (sR [(0,oZ 4 0 [])] .ret))))))))
def C155 : CFn := ⟨20,2,[.t 4],B155⟩
abbrev B157 : CCode := (sR [(0,oP 4 (.mv (.c (.int .u64 (0)))) [4]),(1,oP 5 (.mv (.c (.int .u64 (0)))) [5])] (sR [(0,oT 14 0 []),(1,oP 15 (.bin .and (.t 14) (.c (.int .u64 (4294967295)))) [14]),(2,oT 6 15 [15])] (sR
[(0,oT 16 0 []),(1,oP 17 (.bin .shr (.t 16) (.c (.int .u64 (32)))) [16]),(2,oT 7 17 [17])] (sR [(0,oT 18 1 []),(1,oP 19 (.bin .and (.t 18) (.c (.int .u64 (4294967295)))) [18]),(2,oT 8 19 [19])] (sR [(0,oT 20 1 []),(1,oP
21 (.bin .shr (.t 20) (.c (.int .u64 (32)))) [20]),(2,oT 9 21 [21])] (sR [(0,oT 22 6 []),(1,oT 23 8 []),(2,oB 24 .mul 22 23 [22,23]),(3,oT 10 24 [24])] (sR [(0,oT 25 7 []),(1,oT 26 8 [8]),(2,oB 27 .mul 25 26
[25,26]),(3,oT 28 10 [10]),(4,oP 29 (.bin .shr (.t 28) (.c (.int .u64 (32)))) [28]),(5,oB 30 .add 27 29 [27,29]),(6,oT 11 30 [30])] (sR [(0,oT 31 11 []),(1,oP 32 (.bin .and (.t 31) (.c (.int .u64 (4294967295))))
[31]),(2,oT 12 32 [32])] (sR [(0,oT 33 11 [11]),(1,oP 34 (.bin .shr (.t 33) (.c (.int .u64 (32)))) [33]),(2,oT 13 34 [34])] (sR [(0,oT 35 12 [12]),(1,oT 36 6 [6]),(2,oT 37 9 []),(3,oB 38 .mul 36 37 [36,37]),(4,oB 39
.add 35 38 [35,38]),(5,oT 12 39 [39])] (sR [(0,oT 40 7 [7]),(1,oT 41 9 [9]),(2,oB 42 .mul 40 41 [40,41]),(3,oT 43 13 [13]),(4,oB 44 .add 42 43 [42,43]),(5,oT 45 12 [12]),(6,oP 46 (.bin .shr (.t 45) (.c (.int .u64
(32)))) [45]),(7,oB 47 .add 44 46 [44,46]),(8,oT 4 47 [47])] (sR [(0,oT 48 0 [0]),(1,oT 49 1 [1]),(2,oB 50 .mul 48 49 [48,49]),(3,oT 5 50 [50])] .ret))))))))))))
def C157 : CFn := ⟨51,2,[.t 4,.t 5],B157⟩
abbrev B158 : CCode := (sR [(0,oP 4 (.mv (.c (.nils))) [4])] (.seq (sR [(0,oT 5 1 []),(1,oC 6 .lss 5 0 [5])] (.cond (.t 6) (sK [6] (.reg false [(0,oP 7 .fail [7]),(1,⟨none,.fail,none,[],[]⟩)])) (sK [6] .skip))) (.seq
(sR [(0,oT 8 1 [1]),(1,oT 9 0 []),(2,oP 10 (.cap (.t 9)) [9]),(3,oT 11 0 []),(4,oN 12 11 [11]),(5,oB 13 .sub 10 12 [10,12]),(6,oB 14 .sub 8 13 [8,13]),(7,oT 1 14 [14])] (sR [(0,oT 15 1 []),(1,oC 16 .gtr 15 0 [15])]
(.cond (.t 16) (sK [16] (.reg false [(0,oT 17 0 []),(1,oT 18 0 []),(2,oP 19 (.cap (.t 18)) [18]),(3,oP 20 (.sls 1 (.t 17) none (some (.t 19)) none) [17,19]),(4,oT 21 1 [1]),(5,oP 22 (.appm 1 8 [.int .i64 (0)] (.t 20)
(.t 21)) [20,21]),(6,oT 23 0 [0]),(7,oN 24 23 [23]),(8,oP 25 (.sls 1 (.t 22) none (some (.t 24)) none) [22,24]),(9,oT 0 25 [25])])) (sK [1,16] .skip)))) (sR [(0,oT 26 0 [0]),(1,oT 4 26 [26])] .ret))))
def C158 : CFn := ⟨27,2,[.t 4],B158⟩
abbrev B174 : CCode := (sR [(0,oP 3 (.box 2 (.t 1)) [1]),(1,oP 4 (.mv (.c (.nils))) [4])] (.seq (sR [(0,oT 5 0 []),(1,oM 6 2 3 []),(2,oP 7 (.call 42 [.t 5,.t 6]) [5,6]),(3,oP 8 (.not (.t 7)) [7])] (.cond (.t 8) (sK
[0,3,8] (sR [(0,oP 9 (.bsl 1 0 [.int .i64 (0)] []) []),(1,oT 4 9 [9])] .ret)) (sK [8] .skip))) (.seq (.reg true [(0,oP 10 (.bsl 1 0 [.int .i64 (0)] []) []),(1,oF 11 1 3 []),(2,oL 12 1 11 [11]),(3,oT 13 0 [0]),(4,oF 14 0
3 []),(5,oL 15 1 14 [14]),(6,oI 16 3 13 15 []),(7,oF 17 2 16 [16]),(8,oL 18 1 17 [13,15,17]),(9,oP 19 (.sls 1 (.t 12) none (some (.t 18)) none) [3,12,18]),(10,oP 20 (.app 1 8 (.t 10) (.t 19)) [10,19]),(11,oT 4 20
[20])]) .ret)))
def C174 : CFn := ⟨21,2,[.t 4],B174⟩
abbrev L175_0 : CCode := (.seq (sR [(0,oT 6 5 []),(1,oF 7 1 2 []),(2,oL 8 1 7 [7]),(3,oN 9 8 [8]),(4,oB 10 .lss 6 9 [6,9])] (.cond (.t 10) (sK [10] .skip) (sK [2,3,5,10] (.exit 0)))) (.seq (.block 1 (.seq (.reg true
[(0,oF 13 1 2 []),(1,oL 14 1 13 [13]),(2,oT 15 5 []),(3,oI 16 2 14 15 [14]),(4,oM 17 2 16 [16]),(5,oM 18 2 3 []),(6,oP 19 (.call 43 [.t 17,.t 18]) [15,17,18]),(7,oC 20 .eql 19 0 [19])]) (.cond (.t 20) (sK [2,3,20] (sR
[(0,oT 21 5 [5]),(1,oT 4 21 [21])] .ret)) (sK [20] .skip)))) (.reg false [(0,oT 11 5 [5]),(1,oC 12 .add 11 1 [11]),(2,oT 5 12 [12])])))
abbrev B175 : CCode := (sR [(0,oP 2 (.box 2 (.t 0)) [0]),(1,oP 3 (.box 2 (.t 1)) [1]),(2,oZ 4 0 [4])] (.seq (sR [(0,oZ 5 0 [])] (.block 0 (.loop L175_0))) (sR [(0,oZ 4 (-1) [])] .ret)))
def C175 : CFn := ⟨22,2,[.t 4],B175⟩
abbrev L176_2 : CCode := (.seq (sR [(0,oT 57 13 []),(1,oT 58 11 []),(2,oN 59 58 [58]),(3,oB 60 .lss 57 59 [57,59])] (.cond (.t 60) (sK [60] .skip) (sK [13,60] (.exit 4)))) (.seq (.block 5 (.reg false [(0,oT 63 12
[12]),(1,oT 64 63 [63]),(2,oG 65 (.mv (.t 7)) 64 false []),(3,oG 66 (.mv (.t 11)) 64 false []),(4,oG 67 (.mv (.t 13)) 64 false []),(5,oG 68 (.ia 1 (.t 66) (.t 67)) 64 false []),(6,oG 69 (.ld 1 false (.t 68)) 64 false
[66,67,68]),(7,oG 70 (.call 80 [.t 65,.t 69]) 64 false [65,69]),(8,oP 71 (.pick (.t 64) (.c (.bool true)) (.t 70)) [64,70]),(9,oT 12 71 [71])])) (.reg false [(0,oT 61 13 [13]),(1,oC 62 .add 61 1 [61]),(2,oT 13 62
[62])])))
abbrev L176_3 : CCode := (.seq (sR [(0,oT 72 14 []),(1,oT 73 11 []),(2,oN 74 73 [73]),(3,oB 75 .lss 72 74 [72,74]),(4,oT 76 75 [75]),(5,oG 77 (.mv (.t 12)) 76 true []),(6,oP 78 (.pick (.t 76) (.t 77) (.c (.bool false)))
[76,77])] (.cond (.t 78) (sK [78] .skip) (sK [11,12,14,78] (.exit 6)))) (.seq (.block 7 (sR [(0,oT 81 8 []),(1,oT 82 11 []),(2,oT 83 14 []),(3,oI 84 1 82 83 []),(4,oL 85 1 84 [82,83,84]),(5,oP 86 (.call 80 [.t 81,.t
85]) [81,85]),(6,oP 87 (.not (.t 86)) [86])] (.cond (.t 87) (sK [87] (.reg false [(0,oT 88 7 [7]),(1,oT 89 11 []),(2,oT 90 14 []),(3,oI 91 1 89 90 []),(4,oL 92 1 91 [89,90,91]),(5,oP 93 (.bsl 1 1 [.int .i64 (0)]
[(0,1,(.t 92))]) [92]),(6,oP 94 (.call 151 [.t 88,.t 93]) [88,93]),(7,oT 7 94 [94])])) (sK [87] .skip)))) (.reg false [(0,oT 79 14 [14]),(1,oC 80 .add 79 1 [79]),(2,oT 14 80 [80])])))
abbrev L176_1 : CCode := (.seq (sR [(0,oT 41 10 []),(1,oF 42 1 4 []),(2,oL 43 1 42 [42]),(3,oN 44 43 [43]),(4,oB 45 .lss 41 44 [41,44])] (.cond (.t 45) (sK [45] .skip) (sK [10,45] (.exit 2)))) (.seq (.block 3 (sR [(0,oF
48 1 4 []),(1,oL 49 1 48 [48]),(2,oT 50 10 []),(3,oI 51 2 49 50 [49]),(4,oM 52 2 51 [51]),(5,oP 53 (.call 41 [.t 52]) [50,52]),(6,oT 11 53 [53])] (sR [(0,oT 54 10 []),(1,oT 55 2 []),(2,oB 56 .eql 54 55 [54,55]),(3,oT 12
56 [56])] (.seq (sR [(0,oZ 13 0 [])] (.block 4 (.loop L176_2))) (sR [(0,oZ 14 0 [])] (.block 6 (.loop L176_3))))))) (.reg false [(0,oT 46 10 [10]),(1,oC 47 .add 46 1 [46]),(2,oT 10 47 [47])])))
abbrev L176_0 : CCode := (.seq (sR [(0,oT 34 9 []),(1,oF 35 1 4 []),(2,oL 36 1 35 [35]),(3,oN 37 36 [36]),(4,oB 38 .leq 34 37 [34,37])] (.cond (.t 38) (sK [38] .skip) (sK [2,4,8,9,38] (.exit 0)))) (.seq (.block 1 (sR
[(0,oZ 10 0 [])] (.block 2 (.loop L176_1)))) (.reg false [(0,oT 39 9 [9]),(1,oC 40 .add 39 1 [39]),(2,oT 9 40 [40])])))
abbrev B176 : CCode := (sR [(0,oP 4 (.box 3 (.t 1)) [1]),(1,oP 6 (.mv (.c (.nils))) [6])] (sR [(0,oP 15 (.bsl 1 0 [.int .i64 (0)] []) []),(1,oT 7 15 [15])] (.seq (sR [(0,oT 16 0 []),(1,oM 17 3 4 []),(2,oP 18 (.call 93
[.t 16,.t 17]) [16,17]),(3,oP 19 (.not (.t 18)) [18]),(4,oT 20 19 [19]),(5,oG 21 (.mv (.t 2)) 20 false []),(6,oG 22 (.fa 1 (.t 4)) 20 false []),(7,oG 23 (.ld 1 false (.t 22)) 20 false [22]),(8,oG 24 (.len (.t 23)) 20
false [23]),(9,oG 25 (.bin .sub (.t 24) (.c (.int .i64 1))) 20 false [24]),(10,oG 26 (.call 38 [.t 21,(.c (.int .i64 0)),.t 25]) 20 false [21,25]),(11,oG 27 (.not (.t 26)) 20 false [26]),(12,oP 28 (.pick (.t 20) (.c
(.bool true)) (.t 27)) [20,27])] (.cond (.t 28) (sK [0,2,4,28] (sR [(0,oT 29 7 [7]),(1,oT 6 29 [29])] .ret)) (sK [28] .skip))) (sR [(0,oT 30 0 [0]),(1,oM 31 3 4 []),(2,oT 32 2 []),(3,oP 33 (.call 187 [.t 30,.t 31,.t
32]) [30,31,32]),(4,oT 8 33 [33])] (.seq (sR [(0,oZ 9 0 [])] (.block 0 (.loop L176_0))) (sR [(0,oT 95 7 [7]),(1,oT 6 95 [95])] .ret))))))
def C176 : CFn := ⟨96,3,[.t 6],B176⟩
abbrev B177 : CCode := (sR [(0,oP 5 (.box 3 (.t 1)) [1]),(1,oY 8 false [8])] (sR [(0,oT 9 0 []),(1,oM 10 3 5 []),(2,oP 11 (.call 93 [.t 9,.t 10]) [9,10]),(3,oT 12 11 [11]),(4,oG 13 (.mv (.t 0)) 12 true [0]),(5,oG 14
(.ld 3 true (.t 5)) 12 true []),(6,oG 15 (.mv (.t 2)) 12 true [2]),(7,oG 16 (.call 188 [.t 13,.t 14,(.c (.int .i64 (-1))),.t 15]) 12 true [5,13,14,15]),(8,oG 17 (.mv (.t 3)) 12 true [3]),(9,oG 18 (.call 39 [.t 16,.t
17]) 12 true [16,17]),(10,oP 19 (.pick (.t 12) (.t 18) (.c (.bool false))) [12,18]),(11,oT 8 19 [19])] .ret))
def C177 : CFn := ⟨20,4,[.t 8],B177⟩
abbrev L178_0 : CCode := (.seq (sR [(0,oT 8 7 []),(1,oT 9 0 []),(2,oN 10 9 [9]),(3,oB 11 .lss 8 10 [8,10])] (.cond (.t 11) (sK [11] .skip) (sK [0,1,2,7,11] (.exit 0)))) (.seq (.block 1 (sR [(0,oT 14 1 []),(1,oT 15 0
[]),(2,oT 16 7 []),(3,oI 17 1 15 16 []),(4,oL 18 1 17 [15,16,17]),(5,oP 19 (.call 80 [.t 14,.t 18]) [14,18]),(6,oT 20 19 [19]),(7,oG 21 (.mv (.t 2)) 20 true []),(8,oG 22 (.mv (.t 0)) 20 true []),(9,oG 23 (.mv (.t 7)) 20
true []),(10,oG 24 (.ia 1 (.t 22) (.t 23)) 20 true []),(11,oG 25 (.ld 1 false (.t 24)) 20 true [22,23,24]),(12,oG 26 (.call 80 [.t 21,.t 25]) 20 true [21,25]),(13,oG 27 (.not (.t 26)) 20 true [26]),(14,oP 28 (.pick (.t
20) (.t 27) (.c (.bool false))) [20,27])] (.cond (.t 28) (sK [0,1,2,7,28] (sR [(0,oY 6 true [])] .ret)) (sK [28] .skip)))) (.reg false [(0,oT 12 7 [7]),(1,oC 13 .add 12 1 [12]),(2,oT 7 13 [13])])))
abbrev B178 : CCode := (sR [(0,oY 6 false [6])] (.seq (sR [(0,oZ 7 0 [])] (.block 0 (.loop L178_0))) (sR [(0,oY 6 false [])] .ret)))
def C178 : CFn := ⟨29,3,[.t 6],B178⟩
abbrev B179 : CCode := (sR [(0,oZ 2 0 [2]),(1,oY 3 false [3])] (.seq (sR [(0,oT 4 0 []),(1,oC 5 .geq 4 0 [4]),(2,oT 6 5 [5]),(3,oG 7 (.mv (.t 0)) 6 false []),(4,oG 8 (.bin .sub (.c (.int .i64 (-1))) (.t 7)) 6 false
[7]),(5,oG 9 (.call 38 [.t 8,(.c (.int .i64 0)),(.c (.int .i64 9))]) 6 false [8]),(6,oG 10 (.not (.t 9)) 6 false [9]),(7,oP 11 (.pick (.t 6) (.c (.bool true)) (.t 10)) [6,10])] (.cond (.t 11) (sK [0,11] (sR [(0,oZ 2 0
[]),(1,oY 3 false [])] .ret)) (sK [11] .skip))) (sR [(0,oT 12 0 [0]),(1,oP 13 (.bin .sub (.c (.int .i64 (-1))) (.t 12)) [12]),(2,oT 2 13 [13]),(3,oY 3 true [])] .ret)))
def C179 : CFn := ⟨14,1,[.t 2,.t 3],B179⟩
abbrev L180_0 : CCode := (.seq (sR [(0,oT 10 0 []),(1,oC 11 .neq 10 0 [10])] (.cond (.t 11) (sK [11] .skip) (sK [0,11] (.exit 0)))) (.block 1 (sR [(0,oT 12 0 []),(1,oC 13 .rem 12 10 [12]),(2,oT 5 13 [13])] (.seq (sR
[(0,oT 14 5 []),(1,oC 15 .lss 14 0 [14])] (.cond (.t 15) (sK [15] (.reg false [(0,oT 16 5 [5]),(1,oP 17 (.neg (.t 16)) [16]),(2,oT 5 17 [17])])) (sK [15] .skip))) (sR [(0,oT 18 5 [5]),(1,oP 19 (.bin .add (.c (.int .i64
48)) (.t 18)) [18]),(2,oP 20 (.conv .u8 (.t 19)) [19]),(3,oP 21 (.bsl 1 1 [.int .u8 (0)] [(0,1,(.t 20))]) [20]),(4,oP 22 (.b2s (.t 21)) [21]),(5,oT 23 3 [3]),(6,oB 24 .add 22 23 [22,23]),(7,oT 3 24 [24])] (.reg false
[(0,oT 25 0 [0]),(1,oC 26 .quo 25 10 [25]),(2,oT 0 26 [26])]))))))
abbrev B180 : CCode := (sR [(0,oP 2 (.mv (.c (.str []))) [2])] (.seq (sR [(0,oT 6 0 []),(1,oC 7 .eql 6 0 [6])] (.cond (.t 7) (sK [0,7] (sR [(0,oP 2 (.mv (.c (.str [48]))) [])] .ret)) (sK [7] .skip))) (sR [(0,oP 3 (.mv
(.c (.str []))) [])] (sR [(0,oT 8 0 []),(1,oC 9 .lss 8 0 [8]),(2,oT 4 9 [9])] (.seq (.block 0 (.loop L180_0)) (.seq (sR [(0,oT 27 4 [4])] (.cond (.t 27) (sK [27] (sR [(0,oT 28 3 [3]),(1,oP 29 (.bin .add (.c (.str [45]))
(.t 28)) [28]),(2,oT 2 29 [29])] .ret)) (sK [27] .skip))) (sR [(0,oT 30 3 [3]),(1,oT 2 30 [30])] .ret)))))))
def C180 : CFn := ⟨31,1,[.t 2],B180⟩
abbrev B181 : CCode := (sR [(0,oY 2 false [2])] (sR [(0,oT 3 0 []),(1,oT 4 0 [0]),(2,oB 5 .neq 3 4 [3,4]),(3,oT 2 5 [5])] .ret))
def C181 : CFn := ⟨6,1,[.t 2],B181⟩
abbrev B187 : CCode := (sR [(0,oP 4 (.box 3 (.t 1)) [1]),(1,oP 6 (.mv (.c (.nils))) [6])] (.seq (sR [(0,oT 7 0 []),(1,oM 8 3 4 []),(2,oP 9 (.call 93 [.t 7,.t 8]) [7,8]),(3,oP 10 (.not (.t 9)) [9]),(4,oT 11 10
[10]),(5,oG 12 (.mv (.t 2)) 11 false []),(6,oG 13 (.fa 1 (.t 4)) 11 false []),(7,oG 14 (.ld 1 false (.t 13)) 11 false [13]),(8,oG 15 (.len (.t 14)) 11 false [14]),(9,oG 16 (.bin .sub (.t 15) (.c (.int .i64 1))) 11 false
[15]),(10,oG 17 (.call 38 [.t 12,(.c (.int .i64 0)),.t 16]) 11 false [12,16]),(11,oG 18 (.not (.t 17)) 11 false [17]),(12,oP 19 (.pick (.t 11) (.c (.bool true)) (.t 18)) [11,18])] (.cond (.t 19) (sK [0,2,4,19] (sR
[(0,oP 20 (.bsl 1 0 [.int .i64 (0)] []) []),(1,oT 6 20 [20])] .ret)) (sK [19] .skip))) (.seq (.reg true [(0,oT 21 0 []),(1,oM 22 3 4 []),(2,oT 23 2 []),(3,oT 24 0 []),(4,oF 25 1 4 []),(5,oL 26 1 25 [25]),(6,oT 27 2
[2]),(7,oI 28 2 26 27 [26]),(8,oM 29 2 28 [28]),(9,⟨some 30,.call 40 [.t 24,.t 29],none,[(4,3)],[24,27,29]⟩),(10,oP 31 (.call 188 [.t 21,.t 22,.t 23,.t 30]) [4,21,22,23,30]),(11,oT 6 31 [31])]) .ret)))
def C187 : CFn := ⟨32,3,[.t 6],B187⟩
abbrev L188_1 : CCode := (.seq (sR [(0,oT 28 11 []),(1,oF 29 1 5 []),(2,oL 30 1 29 [29]),(3,oN 31 30 [30]),(4,oB 32 .lss 28 31 [28,31])] (.cond (.t 32) (sK [32] .skip) (sK [11,32] (.exit 2)))) (.seq (.block 3 (sR [(0,oT
35 11 []),(1,oT 36 2 []),(2,oB 37 .neq 35 36 [35,36]),(3,oT 38 37 [37]),(4,oG 39 (.mv (.t 9)) 38 true []),(5,oG 40 (.mv (.t 0)) 38 true []),(6,oG 41 (.fa 1 (.t 5)) 38 true []),(7,oG 42 (.ld 1 false (.t 41)) 38 true
[41]),(8,oG 43 (.mv (.t 11)) 38 true []),(9,oG 44 (.ia 2 (.t 42) (.t 43)) 38 true [42]),(10,oG 45 (.ld 2 true (.t 44)) 38 true [44]),(11,oG 46 (.call 40 [.t 40,.t 45]) 38 true [40,43,45]),(12,oG 47 (.call 39 [.t 39,.t
46]) 38 true [39,46]),(13,oP 48 (.pick (.t 38) (.t 47) (.c (.bool false))) [38,47])] (.cond (.t 48) (sK [48] (.reg false [(0,oT 49 9 [9]),(1,oF 50 1 5 []),(2,oL 51 1 50 [50]),(3,oT 52 11 []),(4,oI 53 2 51 52 [51]),(5,oM
54 2 53 [53]),(6,oP 55 (.call 41 [.t 54]) [52,54]),(7,oP 56 (.call 151 [.t 49,.t 55]) [49,55]),(8,oT 9 56 [56])])) (sK [48] .skip)))) (.reg false [(0,oT 33 11 [11]),(1,oC 34 .add 33 1 [33]),(2,oT 11 34 [34])])))
abbrev L188_0 : CCode := (.seq (sR [(0,oT 21 10 []),(1,oF 22 1 5 []),(2,oL 23 1 22 [22]),(3,oN 24 23 [23]),(4,oB 25 .lss 21 24 [21,24])] (.cond (.t 25) (sK [25] .skip) (sK [0,2,5,10,25] (.exit 0)))) (.seq (.block 1 (sR
[(0,oZ 11 0 [])] (.block 2 (.loop L188_1)))) (.reg false [(0,oT 26 10 [10]),(1,oC 27 .add 26 1 [26]),(2,oT 10 27 [27])])))
abbrev B188 : CCode := (sR [(0,oP 5 (.box 3 (.t 1)) [1]),(1,oP 8 (.mv (.c (.nils))) [8])] (.seq (sR [(0,oT 12 0 []),(1,oM 13 3 5 []),(2,oP 14 (.call 93 [.t 12,.t 13]) [12,13]),(3,oP 15 (.not (.t 14)) [14])] (.cond (.t
15) (sK [0,2,3,5,15] (sR [(0,oP 16 (.bsl 1 0 [.int .i64 (0)] []) []),(1,oT 8 16 [16])] .ret)) (sK [15] .skip))) (sR [(0,oT 17 3 [3]),(1,oF 18 2 5 []),(2,oL 19 1 18 [18]),(3,oP 20 (.call 151 [.t 17,.t 19]) [17,19]),(4,oT
9 20 [20])] (.seq (sR [(0,oZ 10 0 [])] (.block 0 (.loop L188_0))) (sR [(0,oT 57 9 [9]),(1,oT 8 57 [57])] .ret)))))
def C188 : CFn := ⟨58,4,[.t 8],B188⟩
theorem chk3 : chkFn pG 3 C3 = true := by kernel_rfl
theorem chk5 : chkFn pG 5 C5 = true := by kernel_rfl
theorem chk6 : chkFn pG 6 C6 = true := by kernel_rfl
theorem chk7 : chkFn pG 7 C7 = true := by kernel_rfl
theorem chk8 : chkFn pG 8 C8 = true := by kernel_rfl
theorem chk9 : chkFn pG 9 C9 = true := by kernel_rfl
theorem chk10 : chkFn pG 10 C10 = true := by kernel_rfl
theorem chk11 : chkFn pG 11 C11 = true := by kernel_rfl
theorem chk18 : chkFn pG 18 C18 = true := by kernel_rfl
theorem chk19 : chkFn pG 19 C19 = true := by kernel_rfl
theorem chk20 : chkFn pG 20 C20 = true := by kernel_rfl
theorem chk21 : chkFn pG 21 C21 = true := by kernel_rfl
theorem chk22 : chkFn pG 22 C22 = true := by kernel_rfl
theorem chk23 : chkFn pG 23 C23 = true := by kernel_rfl
theorem chk24 : chkFn pG 24 C24 = true := by kernel_rfl
theorem chk25 : chkFn pG 25 C25 = true := by kernel_rfl
theorem chk26 : chkFn pG 26 C26 = true := by kernel_rfl
theorem chk27 : chkFn pG 27 C27 = true := by kernel_rfl
theorem chk28 : chkFn pG 28 C28 = true := by kernel_rfl
theorem chk29 : chkFn pG 29 C29 = true := by kernel_rfl
theorem chk30 : chkFn pG 30 C30 = true := by kernel_rfl
theorem chk31 : chkFn pG 31 C31 = true := by kernel_rfl
theorem chk32 : chkFn pG 32 C32 = true := by kernel_rfl
theorem chk33 : chkFn pG 33 C33 = true := by kernel_rfl
theorem chk34 : chkFn pG 34 C34 = true := by kernel_rfl
theorem chk35 : chkFn pG 35 C35 = true := by kernel_rfl
theorem chk36 : chkFn pG 36 C36 = true := by kernel_rfl
theorem chk37 : chkFn pG 37 C37 = true := by kernel_rfl
theorem chk38 : chkFn pG 38 C38 = true := by kernel_rfl
theorem chk39 : chkFn pG 39 C39 = true := by kernel_rfl
theorem chk40 : chkFn pG 40 C40 = true := by kernel_rfl
theorem chk41 : chkFn pG 41 C41 = true := by kernel_rfl
theorem chk42 : chkFn pG 42 C42 = true := by kernel_rfl
theorem chk43 : chkFn pG 43 C43 = true := by kernel_rfl
theorem chk58 : chkFn pG 58 C58 = true := by kernel_rfl
theorem chk60 : chkFn pG 60 C60 = true := by kernel_rfl
theorem chk61 : chkFn pG 61 C61 = true := by kernel_rfl
theorem chk62 : chkFn pG 62 C62 = true := by kernel_rfl
theorem chk63 : chkFn pG 63 C63 = true := by kernel_rfl
theorem chk64 : chkFn pG 64 C64 = true := by kernel_rfl
theorem chk65 : chkFn pG 65 C65 = true := by kernel_rfl
theorem chk66 : chkFn pG 66 C66 = true := by kernel_rfl
theorem chk67 : chkFn pG 67 C67 = true := by kernel_rfl
theorem chk68 : chkFn pG 68 C68 = true := by kernel_rfl
theorem chk69 : chkFn pG 69 C69 = true := by kernel_rfl
theorem chk70 : chkFn pG 70 C70 = true := by kernel_rfl
theorem chk71 : chkFn pG 71 C71 = true := by kernel_rfl
theorem chk72 : chkFn pG 72 C72 = true := by kernel_rfl
theorem chk73 : chkFn pG 73 C73 = true := by kernel_rfl
theorem chk74 : chkFn pG 74 C74 = true := by kernel_rfl
theorem chk75 : chkFn pG 75 C75 = true := by kernel_rfl
theorem chk76 : chkFn pG 76 C76 = true := by kernel_rfl
theorem chk77 : chkFn pG 77 C77 = true := by kernel_rfl
theorem chk78 : chkFn pG 78 C78 = true := by kernel_rfl
theorem chk79 : chkFn pG 79 C79 = true := by kernel_rfl
theorem chk80 : chkFn pG 80 C80 = true := by kernel_rfl
theorem chk81 : chkFn pG 81 C81 = true := by kernel_rfl
theorem chk93 : chkFn pG 93 C93 = true := by kernel_rfl
theorem chk97 : chkFn pG 97 C97 = true := by kernel_rfl
theorem chk99 : chkFn pG 99 C99 = true := by kernel_rfl
theorem chk100 : chkFn pG 100 C100 = true := by kernel_rfl
theorem chk101 : chkFn pG 101 C101 = true := by kernel_rfl
theorem chk102 : chkFn pG 102 C102 = true := by kernel_rfl
theorem chk103 : chkFn pG 103 C103 = true := by kernel_rfl
theorem chk104 : chkFn pG 104 C104 = true := by kernel_rfl
theorem chk105 : chkFn pG 105 C105 = true := by kernel_rfl
theorem chk106 : chkFn pG 106 C106 = true := by kernel_rfl
theorem chk107 : chkFn pG 107 C107 = true := by kernel_rfl
theorem chk108 : chkFn pG 108 C108 = true := by kernel_rfl
theorem chk109 : chkFn pG 109 C109 = true := by kernel_rfl
theorem chk110 : chkFn pG 110 C110 = true := by kernel_rfl
theorem chk111 : chkFn pG 111 C111 = true := by kernel_rfl
theorem chk112 : chkFn pG 112 C112 = true := by kernel_rfl
theorem chk113 : chkFn pG 113 C113 = true := by kernel_rfl
theorem chk114 : chkFn pG 114 C114 = true := by kernel_rfl
theorem chk115 : chkFn pG 115 C115 = true := by kernel_rfl
theorem chk116 : chkFn pG 116 C116 = true := by kernel_rfl
theorem chk117 : chkFn pG 117 C117 = true := by kernel_rfl
theorem chk118 : chkFn pG 118 C118 = true := by kernel_rfl
theorem chk119 : chkFn pG 119 C119 = true := by kernel_rfl
theorem chk120 : chkFn pG 120 C120 = true := by kernel_rfl
theorem chk121 : chkFn pG 121 C121 = true := by kernel_rfl
theorem chk140 : chkFn pG 140 C140 = true := by kernel_rfl
theorem chk142 : chkFn pG 142 C142 = true := by kernel_rfl
theorem chk143 : chkFn pG 143 C143 = true := by kernel_rfl
theorem chk144 : chkFn pG 144 C144 = true := by kernel_rfl
theorem chk145 : chkFn pG 145 C145 = true := by kernel_rfl
theorem chk146 : chkFn pG 146 C146 = true := by kernel_rfl
theorem chk147 : chkFn pG 147 C147 = true := by kernel_rfl
theorem chk148 : chkFn pG 148 C148 = true := by kernel_rfl
theorem chk149 : chkFn pG 149 C149 = true := by kernel_rfl
theorem chk150 : chkFn pG 150 C150 = true := by kernel_rfl
theorem chk151 : chkFn pG 151 C151 = true := by kernel_rfl
theorem chk152 : chkFn pG 152 C152 = true := by kernel_rfl
theorem chk153 : chkFn pG 153 C153 = true := by kernel_rfl
theorem chk154 : chkFn pG 154 C154 = true := by kernel_rfl
theorem chk155 : chkFn pG 155 C155 = true := by kernel_rfl
theorem chk157 : chkFn pG 157 C157 = true := by kernel_rfl
theorem chk158 : chkFn pG 158 C158 = true := by kernel_rfl
theorem chk174 : chkFn pG 174 C174 = true := by kernel_rfl
theorem chk175 : chkFn pG 175 C175 = true := by kernel_rfl
theorem chk176 : chkFn pG 176 C176 = true := by kernel_rfl
theorem chk177 : chkFn pG 177 C177 = true := by kernel_rfl
theorem chk178 : chkFn pG 178 C178 = true := by kernel_rfl
theorem chk179 : chkFn pG 179 C179 = true := by kernel_rfl
theorem chk180 : chkFn pG 180 C180 = true := by kernel_rfl
theorem chk181 : chkFn pG 181 C181 = true := by kernel_rfl
theorem chk187 : chkFn pG 187 C187 = true := by kernel_rfl
theorem chk188 : chkFn pG 188 C188 = true := by kernel_rfl
def Tab (f : Nat) : Option CFn :=
  match f with
  | 3 => some C3
  | 5 => some C5
  | 6 => some C6
  | 7 => some C7
  | 8 => some C8
  | 9 => some C9
  | 10 => some C10
  | 11 => some C11
  | 18 => some C18
  | 19 => some C19
  | 20 => some C20
  | 21 => some C21
  | 22 => some C22
  | 23 => some C23
  | 24 => some C24
  | 25 => some C25
  | 26 => some C26
  | 27 => some C27
  | 28 => some C28
  | 29 => some C29
  | 30 => some C30
  | 31 => some C31
  | 32 => some C32
  | 33 => some C33
  | 34 => some C34
  | 35 => some C35
  | 36 => some C36
  | 37 => some C37
  | 38 => some C38
  | 39 => some C39
  | 40 => some C40
  | 41 => some C41
  | 42 => some C42
  | 43 => some C43
  | 58 => some C58
  | 60 => some C60
  | 61 => some C61
  | 62 => some C62
  | 63 => some C63
  | 64 => some C64
  | 65 => some C65
  | 66 => some C66
  | 67 => some C67
  | 68 => some C68
  | 69 => some C69
  | 70 => some C70
  | 71 => some C71
  | 72 => some C72
  | 73 => some C73
  | 74 => some C74
  | 75 => some C75
  | 76 => some C76
  | 77 => some C77
  | 78 => some C78
  | 79 => some C79
  | 80 => some C80
  | 81 => some C81
  | 93 => some C93
  | 97 => some C97
  | 99 => some C99
  | 100 => some C100
  | 101 => some C101
  | 102 => some C102
  | 103 => some C103
  | 104 => some C104
  | 105 => some C105
  | 106 => some C106
  | 107 => some C107
  | 108 => some C108
  | 109 => some C109
  | 110 => some C110
  | 111 => some C111
  | 112 => some C112
  | 113 => some C113
  | 114 => some C114
  | 115 => some C115
  | 116 => some C116
  | 117 => some C117
  | 118 => some C118
  | 119 => some C119
  | 120 => some C120
  | 121 => some C121
  | 140 => some C140
  | 142 => some C142
  | 143 => some C143
  | 144 => some C144
  | 145 => some C145
  | 146 => some C146
  | 147 => some C147
  | 148 => some C148
  | 149 => some C149
  | 150 => some C150
  | 151 => some C151
  | 152 => some C152
  | 153 => some C153
  | 154 => some C154
  | 155 => some C155
  | 157 => some C157
  | 158 => some C158
  | 174 => some C174
  | 175 => some C175
  | 176 => some C176
  | 177 => some C177
  | 178 => some C178
  | 179 => some C179
  | 180 => some C180
  | 181 => some C181
  | 187 => some C187
  | 188 => some C188
  | _ => none
theorem tabOk : TabOk Go.Proofs.Tryz.prog Tab := by
  intro f cf h
  unfold Tab at h
  split at h <;> simp only [Option.some.injEq, reduceCtorEq] at h <;> subst h
  · exact chk3
  · exact chk5
  · exact chk6
  · exact chk7
  · exact chk8
  · exact chk9
  · exact chk10
  · exact chk11
  · exact chk18
  · exact chk19
  · exact chk20
  · exact chk21
  · exact chk22
  · exact chk23
  · exact chk24
  · exact chk25
  · exact chk26
  · exact chk27
  · exact chk28
  · exact chk29
  · exact chk30
  · exact chk31
  · exact chk32
  · exact chk33
  · exact chk34
  · exact chk35
  · exact chk36
  · exact chk37
  · exact chk38
  · exact chk39
  · exact chk40
  · exact chk41
  · exact chk42
  · exact chk43
  · exact chk58
  · exact chk60
  · exact chk61
  · exact chk62
  · exact chk63
  · exact chk64
  · exact chk65
  · exact chk66
  · exact chk67
  · exact chk68
  · exact chk69
  · exact chk70
  · exact chk71
  · exact chk72
  · exact chk73
  · exact chk74
  · exact chk75
  · exact chk76
  · exact chk77
  · exact chk78
  · exact chk79
  · exact chk80
  · exact chk81
  · exact chk93
  · exact chk97
  · exact chk99
  · exact chk100
  · exact chk101
  · exact chk102
  · exact chk103
  · exact chk104
  · exact chk105
  · exact chk106
  · exact chk107
  · exact chk108
  · exact chk109
  · exact chk110
  · exact chk111
  · exact chk112
  · exact chk113
  · exact chk114
  · exact chk115
  · exact chk116
  · exact chk117
  · exact chk118
  · exact chk119
  · exact chk120
  · exact chk121
  · exact chk140
  · exact chk142
  · exact chk143
  · exact chk144
  · exact chk145
  · exact chk146
  · exact chk147
  · exact chk148
  · exact chk149
  · exact chk150
  · exact chk151
  · exact chk152
  · exact chk153
  · exact chk154
  · exact chk155
  · exact chk157
  · exact chk158
  · exact chk174
  · exact chk175
  · exact chk176
  · exact chk177
  · exact chk178
  · exact chk179
  · exact chk180
  · exact chk181
  · exact chk187
  · exact chk188

end Go.Proofs.YtamibblcpccjlaaGreatH
