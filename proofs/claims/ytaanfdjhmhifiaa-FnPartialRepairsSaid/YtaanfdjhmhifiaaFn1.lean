import Derived.Test.YtaanfdjhmhifiaaX3
import Derived.Test.YtaanfdjhmhifiaaProg
set_option linter.unusedVariables false
set_option maxRecDepth 100000
namespace Go.Proofs.YtaanfdjhmhifiaaH
open Go
@[simp] abbrev oP (d : Nat) (p : COp) (k : List Nat) : COper := ⟨some d, p, none, [], k⟩
@[simp] abbrev oT (d a : Nat) (k : List Nat) : COper := ⟨some d, .mv (.t a), none, [], k⟩
abbrev sR (l : List (Nat × COper)) (c : CCode) : CCode := .seq (.reg false l) c
abbrev sK (l : List Nat) (c : CCode) : CCode := .seq (.kill l) c
abbrev L4_0 : CCode := (.seq (sR [(0,oT 23 6 []),(1,oT 24 5 []),(2,oP 25 (.len (.t 24)) [24]),(3,oP 26 (.bin .lss (.t 23) (.t 25)) [23,25])] (.cond (.t 26) (sK [26] .skip) (sK [6,26] (.exit 0)))) (.seq (.block 1 (.seq
(.reg true [(0,oT 29 5 []),(1,oT 30 6 []),(2,oP 31 (.ia 1 (.t 29) (.t 30)) []),(3,oP 32 (.ld 1 false (.t 31)) [31]),(4,oP 33 (.len (.t 32)) [29,30,32]),(5,oT 34 4 []),(6,oP 35 (.bin .gtr (.t 33) (.t 34)) [33,34]),(7,oT
36 35 [35]),(8,⟨some 37,.ld 2 true (.t 3),some (36,false),[],[]⟩),(9,⟨some 38,.mv (.t 5),some (36,false),[],[]⟩),(10,⟨some 39,.mv (.t 6),some (36,false),[],[]⟩),(11,⟨some 40,.ia 1 (.t 38) (.t 39),some
(36,false),[],[]⟩),(12,⟨some 41,.ld 1 false (.t 40),some (36,false),[],[40]⟩),(13,⟨some 42,.call 17 [.t 37,.t 41],some (36,false),[],[37,38,39,41]⟩),(14,⟨some 43,.not (.t 42),some (36,false),[],[42]⟩),(15,oP 44 (.pick
(.t 36) (.c (.bool true)) (.t 43)) [36,43]),(16,oT 45 44 [44]),(17,⟨some 46,.mv (.t 6),some (45,false),[],[]⟩),(18,⟨some 47,.bin .gtr (.t 46) (.c (.int .i64 0)),some (45,false),[],[46]⟩),(19,⟨some 48,.mv (.t 47),some
(45,false),[],[47]⟩),(20,⟨some 49,.mv (.t 5),some (48,true),[],[]⟩),(21,⟨some 50,.mv (.t 6),some (48,true),[],[]⟩),(22,⟨some 51,.ia 1 (.t 49) (.t 50),some (48,true),[],[]⟩),(23,⟨some 52,.ld 1 false (.t 51),some
(48,true),[],[51]⟩),(24,⟨some 53,.len (.t 52),some (48,true),[],[49,50,52]⟩),(25,⟨some 54,.mv (.t 5),some (48,true),[],[]⟩),(26,⟨some 55,.mv (.t 6),some (48,true),[],[]⟩),(27,⟨some 56,.bin .sub (.t 55) (.c (.int .i64
1)),some (48,true),[],[55]⟩),(28,⟨some 57,.ia 1 (.t 54) (.t 56),some (48,true),[],[]⟩),(29,⟨some 58,.ld 1 false (.t 57),some (48,true),[],[57]⟩),(30,⟨some 59,.len (.t 58),some (48,true),[],[54,56,58]⟩),(31,⟨some 60,.bin
.lss (.t 53) (.t 59),some (48,true),[],[53,59]⟩),(32,⟨some 61,.pick (.t 48) (.t 60) (.c (.bool false)),some (45,false),[],[48,60]⟩),(33,oP 62 (.pick (.t 45) (.c (.bool true)) (.t 61)) [45,61])]) (.cond (.t 62) (sK
[3,4,5,6,62] (sR [(0,oP 2 (.mv (.c (.bool false))) [])] .ret)) (sK [62] .skip)))) (.reg false [(0,oT 27 6 [6]),(1,oP 28 (.bin .add (.t 27) (.c (.int .i64 1))) [27]),(2,oT 6 28 [28])])))
abbrev B4 : CCode := (sR [(0,oP 2 (.mv (.c (.bool false))) [2])] (.seq (sR [(0,oT 7 0 []),(1,oP 8 (.call 14 [.t 7]) [7])] (.cond (.t 8) (sK [0,8] (sR [(0,oP 2 (.mv (.c (.bool true))) [])] .ret)) (sK [8] .skip))) (sR
[(0,oT 10 0 [0]),(1,oP 11 (.call 15 [.t 10]) [10]),(2,oT 9 11 [11]),(3,oP 12 (.ex (.t 9) 0) []),(4,oP 13 (.ex (.t 9) 1) [9]),(5,oP 3 (.al [.nils,.nils]) []),(6,⟨none,.st 2 (.t 3) (.t 12),none,[],[12]⟩),(7,oT 4 13 [13])]
(sR [(0,oP 14 (.ld 2 true (.t 3)) []),(1,oT 15 4 []),(2,oP 16 (.call 8 [.t 14,.t 15]) [14,15]),(3,oT 5 16 [16])] (.seq (sR [(0,oT 17 5 []),(1,oP 18 (.ld 2 true (.t 3)) []),(2,oT 19 4 []),(3,oP 20 (.call 6 [.t 18,.t 19])
[18,19]),(4,oP 21 (.call 16 [.t 17,.t 20]) [17,20]),(5,oP 22 (.not (.t 21)) [21])] (.cond (.t 22) (sK [3,4,5,22] (sR [(0,oP 2 (.mv (.c (.bool false))) [])] .ret)) (sK [22] .skip))) (.seq (sR [(0,oP 6 (.mv (.c (.int .i64
0))) [])] (.block 0 (.loop L4_0))) (sR [(0,oT 63 4 []),(1,oP 64 (.bin .lss (.t 63) (.c (.int .i64 0))) [63]),(2,oT 65 64 [64]),(3,⟨some 66,.mv (.t 4),some (65,false),[],[4]⟩),(4,⟨some 67,.bin .gtr (.t 66) (.c (.int .i64
3)),some (65,false),[],[66]⟩),(5,oP 68 (.pick (.t 65) (.c (.bool true)) (.t 67)) [65,67]),(6,oT 69 68 [68]),(7,⟨some 70,.ld 2 true (.t 3),some (69,false),[],[]⟩),(8,⟨some 71,.call 18 [.t 70],some
(69,false),[],[3,70]⟩),(9,⟨some 72,.not (.t 71),some (69,false),[],[71]⟩),(10,oP 73 (.pick (.t 69) (.c (.bool true)) (.t 72)) [69,72]),(11,oT 74 73 [73]),(12,⟨some 75,.mv (.t 5),some (74,false),[],[]⟩),(13,⟨some 76,.len
(.t 75),some (74,false),[],[75]⟩),(14,⟨some 77,.bin .gtr (.t 76) (.c (.int .i64 0)),some (74,false),[],[76]⟩),(15,⟨some 78,.mv (.t 77),some (74,false),[],[77]⟩),(16,⟨some 79,.mv (.t 5),some (78,true),[],[5]⟩),(17,⟨some
80,.ia 1 (.t 79) (.c (.int .i64 0)),some (78,true),[],[]⟩),(18,⟨some 81,.ld 1 false (.t 80),some (78,true),[],[80]⟩),(19,⟨some 82,.len (.t 81),some (78,true),[],[79,81]⟩),(20,⟨some 83,.bin .eql (.t 82) (.c (.int .i64
0)),some (78,true),[],[82]⟩),(21,⟨some 84,.pick (.t 78) (.t 83) (.c (.bool false)),some (74,false),[],[78,83]⟩),(22,oP 85 (.pick (.t 74) (.c (.bool true)) (.t 84)) [74,84]),(23,oT 2 85 [85])] .ret)))))))
def C4 : CFn := ⟨86,1,[.t 2],B4⟩
abbrev L6_2 : CCode := (.seq (sR [(0,oT 61 11 []),(1,oP 62 (.fa 1 (.t 2)) []),(2,oP 63 (.ld 1 false (.t 62)) [62]),(3,oP 64 (.len (.t 63)) [63]),(4,oP 65 (.bin .lss (.t 61) (.t 64)) [61,64])] (.cond (.t 65) (sK [65]
.skip) (sK [11,65] (.exit 4)))) (.seq (.block 5 (sR [(0,oP 68 (.bsl 1 0 [.int .i64 (0)] []) []),(1,oT 69 6 []),(2,oT 70 9 []),(3,oP 71 (.ia 1 (.t 69) (.t 70)) []),(4,oP 72 (.ld 1 false (.t 71)) [71]),(5,oP 73 (.app 1 8
(.t 68) (.t 72)) [68,69,70,72]),(6,oT 74 11 []),(7,oP 75 (.bsl 1 1 [.int .i64 (0)] [(0,1,(.t 74))]) [74]),(8,oP 76 (.app 1 8 (.t 73) (.t 75)) [73,75]),(9,oT 12 76 [76])] (sR [(0,oP 77 (.ld 2 true (.t 2)) []),(1,oT 78 12
[]),(2,oP 79 (.call 22 [.t 77,.t 78]) [77,78])] (.cond (.t 79) (sK [79] (.reg false [(0,oT 80 8 [8]),(1,oT 81 12 [12]),(2,oP 82 (.bsl 1 1 [.nils] [(0,1,(.t 81))]) [81]),(3,oP 83 (.app 1 24 (.t 80) (.t 82))
[80,82]),(4,oT 8 83 [83])])) (sK [12,79] .skip))))) (.reg false [(0,oT 66 11 [11]),(1,oP 67 (.bin .add (.t 66) (.c (.int .i64 1))) [66]),(2,oT 11 67 [67])])))
abbrev L6_1 : CCode := (.seq (sR [(0,oT 35 9 []),(1,oT 36 6 []),(2,oP 37 (.len (.t 36)) [36]),(3,oP 38 (.bin .lss (.t 35) (.t 37)) [35,37])] (.cond (.t 38) (sK [38] .skip) (sK [6,9,38] (.exit 2)))) (.seq (.block 3 (sR
[(0,oP 10 (.mv (.c (.int .i64 0))) [])] (.seq (sR [(0,oT 41 6 []),(1,oT 42 9 []),(2,oP 43 (.ia 1 (.t 41) (.t 42)) []),(3,oP 44 (.ld 1 false (.t 43)) [43]),(4,oP 45 (.len (.t 44)) [41,42,44]),(5,oP 46 (.bin .gtr (.t 45)
(.c (.int .i64 0))) [45])] (.cond (.t 46) (sK [10,46] (.reg true [(0,oT 47 6 []),(1,oT 48 9 []),(2,oP 49 (.ia 1 (.t 47) (.t 48)) []),(3,oP 50 (.ld 1 false (.t 49)) [49]),(4,oT 51 6 []),(5,oT 52 9 []),(6,oP 53 (.ia 1 (.t
51) (.t 52)) []),(7,oP 54 (.ld 1 false (.t 53)) [53]),(8,oP 55 (.len (.t 54)) [51,52,54]),(9,oP 56 (.bin .sub (.t 55) (.c (.int .i64 1))) [55]),(10,oP 57 (.ia 1 (.t 50) (.t 56)) [50]),(11,oP 58 (.ld 1 false (.t 57))
[47,48,56,57]),(12,oP 59 (.bin .add (.t 58) (.c (.int .i64 1))) [58]),(13,oT 10 59 [59])])) (sK [46] .skip))) (sR [(0,oT 60 10 [10]),(1,oT 11 60 [60])] (.block 4 (.loop L6_2)))))) (.reg false [(0,oT 39 9 [9]),(1,oP 40
(.bin .add (.t 39) (.c (.int .i64 1))) [39]),(2,oT 9 40 [40])])))
abbrev L6_0 : CCode := (.seq (sR [(0,oT 29 7 []),(1,oT 30 1 []),(2,oP 31 (.bin .lss (.t 29) (.t 30)) [29,30])] (.cond (.t 31) (sK [31] .skip) (sK [1,2,6,7,31] (.exit 0)))) (.seq (.block 1 (sR [(0,oP 34 (.bsl 1 0 [.nils]
[]) []),(1,oT 8 34 [34])] (.seq (sR [(0,oP 9 (.mv (.c (.int .i64 0))) [])] (.block 2 (.loop L6_1))) (sR [(0,oT 84 5 [5]),(1,oT 85 8 []),(2,oP 86 (.app 1 24 (.t 84) (.t 85)) [84,85]),(3,oT 5 86 [86])] (.reg false [(0,oT
87 8 [8]),(1,oT 6 87 [87])]))))) (.reg false [(0,oT 32 7 [7]),(1,oP 33 (.bin .add (.t 32) (.c (.int .i64 1))) [32]),(2,oT 7 33 [33])])))
abbrev B6 : CCode := (sR [(0,oP 2 (.box 2 (.t 0)) [0]),(1,oP 4 (.mv (.c (.nils))) [4])] (sR [(0,oP 13 (.bsl 1 0 [.nils] []) []),(1,oT 5 13 [13])] (.seq (sR [(0,oP 14 (.ld 2 true (.t 2)) []),(1,oP 15 (.call 18 [.t 14])
[14]),(2,oP 16 (.not (.t 15)) [15]),(3,oT 17 16 [16]),(4,⟨some 18,.mv (.t 1),some (17,false),[],[]⟩),(5,⟨some 19,.call 21 [.t 18,(.c (.int .i64 0)),(.c (.int .i64 3))],some (17,false),[],[18]⟩),(6,⟨some 20,.not (.t
19),some (17,false),[],[19]⟩),(7,oP 21 (.pick (.t 17) (.c (.bool true)) (.t 20)) [17,20])] (.cond (.t 21) (sK [1,2,21] (sR [(0,oT 22 5 [5]),(1,oT 4 22 [22])] .ret)) (sK [21] .skip))) (sR [(0,oP 23 (.bsl 1 0 [.int .i64
(0)] []) []),(1,oP 24 (.bsl 1 1 [.nils] [(0,1,(.t 23))]) [23]),(2,oT 6 24 [24])] (sR [(0,oT 25 5 [5]),(1,oP 26 (.bsl 1 0 [.int .i64 (0)] []) []),(2,oP 27 (.bsl 1 1 [.nils] [(0,1,(.t 26))]) [26]),(3,oP 28 (.app 1 24 (.t
25) (.t 27)) [25,27]),(4,oT 5 28 [28])] (.seq (sR [(0,oP 7 (.mv (.c (.int .i64 0))) [])] (.block 0 (.loop L6_0))) (sR [(0,oT 88 5 [5]),(1,oT 4 88 [88])] .ret)))))))
def C6 : CFn := ⟨89,2,[.t 4],B6⟩
abbrev L8_0 : CCode := (sR [(0,oP 20 (.bin .lss (.t 19) (.t 18)) [])] (.seq (.cond (.t 20) (sK [20] .skip) (sK [2,18,19,20] (.exit 0))) (.seq (.block 1 (sR [(0,oT 21 19 []),(1,oT 6 21 [21])] (.reg false [(0,oT 22 5
[5]),(1,oP 23 (.ld 2 true (.t 2)) []),(2,oT 24 6 [6]),(3,oP 25 (.call 27 [.t 23,.t 24]) [23,24]),(4,oP 26 (.app 1 24 (.t 22) (.t 25)) [22,25]),(5,oT 5 26 [26])]))) (.reg false [(0,oP 27 (.bin .add (.t 19) (.c (.int .i64
1))) [19]),(1,oT 19 27 [27])]))))
abbrev B8 : CCode := (sR [(0,oP 2 (.box 2 (.t 0)) [0]),(1,oP 4 (.mv (.c (.nils))) [4])] (sR [(0,oP 7 (.bsl 1 0 [.nils] []) []),(1,oT 5 7 [7])] (.seq (sR [(0,oP 8 (.ld 2 true (.t 2)) []),(1,oP 9 (.call 25 [.t 8])
[8]),(2,oP 10 (.not (.t 9)) [9]),(3,oT 11 10 [10]),(4,⟨some 12,.mv (.t 1),some (11,false),[],[]⟩),(5,⟨some 13,.call 26 [.t 12,(.c (.int .i64 0)),(.c (.int .i64 3))],some (11,false),[],[12]⟩),(6,⟨some 14,.not (.t
13),some (11,false),[],[13]⟩),(7,oP 15 (.pick (.t 11) (.c (.bool true)) (.t 14)) [11,14])] (.cond (.t 15) (sK [1,2,15] (sR [(0,oT 16 5 [5]),(1,oT 4 16 [16])] .ret)) (sK [15] .skip))) (.seq (sR [(0,oT 17 1 [1]),(1,oP 18
(.bin .add (.t 17) (.c (.int .i64 1))) [17]),(2,oP 19 (.mv (.c (.int .i64 0))) [])] (.block 0 (.loop L8_0))) (sR [(0,oT 28 5 [5]),(1,oT 4 28 [28])] .ret)))))
def C8 : CFn := ⟨29,2,[.t 4],B8⟩
abbrev B14 : CCode := (sR [(0,oP 2 (.mv (.c (.bool false))) [2])] (sR [(0,oT 3 0 [0]),(1,oP 4 (.len (.t 3)) [3]),(2,oP 5 (.bin .gtr (.t 4) (.c (.int .i64 1048576))) [4]),(3,oT 2 5 [5])] .ret))
def C14 : CFn := ⟨6,1,[.t 2],B14⟩
abbrev B15 : CCode := (sR [(0,oP 2 (.al [.nils,.nils]) []),(1,oP 3 (.mv (.c (.int .i64 0))) [3])] (sR [(0,oT 5 0 [0]),(1,oP 6 (.call 35 [.t 5]) [5]),(2,oT 4 6 [6])] (sR [(0,oT 7 4 []),(1,oP 8 (.call 36 [.t 7])
[7]),(2,oT 9 4 [4]),(3,oP 10 (.call 37 [.t 9,(.c (.int .i64 6))]) [9]),(4,oP 11 (.bin .sub (.t 10) (.c (.int .i64 1))) [10]),(5,⟨none,.st 2 (.t 2) (.t 8),none,[],[8]⟩),(6,oT 3 11 [11])] .ret)))
def C15 : CFn := ⟨12,1,[.m 2 2 true,.t 3],B15⟩
abbrev L16_0 : CCode := (.seq (sR [(0,oT 11 5 []),(1,oT 12 0 []),(2,oP 13 (.len (.t 12)) [12]),(3,oP 14 (.bin .lss (.t 11) (.t 13)) [11,13])] (.cond (.t 14) (sK [14] .skip) (sK [0,1,5,14] (.exit 0)))) (.seq (.block 1
(.seq (.reg true [(0,oT 17 0 []),(1,oT 18 5 []),(2,oP 19 (.ia 1 (.t 17) (.t 18)) []),(3,oP 20 (.ld 1 false (.t 19)) [19]),(4,oT 21 1 []),(5,oT 22 5 []),(6,oP 23 (.ia 1 (.t 21) (.t 22)) []),(7,oP 24 (.ld 1 false (.t 23))
[23]),(8,oP 25 (.call 38 [.t 20,.t 24]) [17,18,20,21,22,24]),(9,oP 26 (.not (.t 25)) [25])]) (.cond (.t 26) (sK [0,1,5,26] (sR [(0,oP 4 (.mv (.c (.bool false))) [])] .ret)) (sK [26] .skip)))) (.reg false [(0,oT 15 5
[5]),(1,oP 16 (.bin .add (.t 15) (.c (.int .i64 1))) [15]),(2,oT 5 16 [16])])))
abbrev B16 : CCode := (sR [(0,oP 4 (.mv (.c (.bool false))) [4])] (.seq (sR [(0,oT 6 0 []),(1,oP 7 (.len (.t 6)) [6]),(2,oT 8 1 []),(3,oP 9 (.len (.t 8)) [8]),(4,oP 10 (.bin .neq (.t 7) (.t 9)) [7,9])] (.cond (.t 10)
(sK [0,1,10] (sR [(0,oP 4 (.mv (.c (.bool false))) [])] .ret)) (sK [10] .skip))) (.seq (sR [(0,oP 5 (.mv (.c (.int .i64 0))) [])] (.block 0 (.loop L16_0))) (sR [(0,oP 4 (.mv (.c (.bool true))) [])] .ret))))
def C16 : CFn := ⟨27,2,[.t 4],B16⟩
abbrev B17 : CCode := (sR [(0,oP 2 (.box 2 (.t 0)) [0]),(1,oP 4 (.mv (.c (.bool false))) [4])] (sR [(0,oP 8 (.ld 2 true (.t 2)) []),(1,oT 9 1 [1]),(2,oP 10 (.call 39 [.t 8,.t 9]) [2,8,9]),(3,oT 7 10 [10]),(4,oP 11 (.ex
(.t 7) 0) []),(5,oP 12 (.ex (.t 7) 1) [7]),(6,oP 5 (.al [.nils,.nils]) []),(7,⟨none,.st 2 (.t 5) (.t 11),none,[],[11]⟩),(8,oT 6 12 [12])] (sR [(0,oT 13 6 [6]),(1,oT 14 13 [13]),(2,⟨some 15,.ld 2 true (.t 5),some
(14,true),[],[]⟩),(3,⟨some 16,.call 40 [.t 15],some (14,true),[],[5,15]⟩),(4,oP 17 (.pick (.t 14) (.t 16) (.c (.bool false))) [14,16]),(5,oT 4 17 [17])] .ret)))
def C17 : CFn := ⟨18,2,[.t 4],B17⟩
abbrev L18_0 : CCode := (.seq (sR [(0,oT 4 3 []),(1,oP 5 (.fa 1 (.t 1)) []),(2,oP 6 (.ld 1 false (.t 5)) [5]),(3,oP 7 (.len (.t 6)) [6]),(4,oP 8 (.bin .lss (.t 4) (.t 7)) [4,7])] (.cond (.t 8) (sK [8] .skip) (sK [3,8]
(.exit 0)))) (.seq (.block 1 (.seq (.reg true [(0,oP 11 (.fa 0 (.t 1)) []),(1,oP 12 (.ld 1 false (.t 11)) [11]),(2,oP 13 (.fa 1 (.t 1)) []),(3,oP 14 (.ld 1 false (.t 13)) [13]),(4,oT 15 3 []),(5,oP 16 (.ia 2 (.t 14) (.t
15)) [14]),(6,oP 17 (.ld 2 true (.t 16)) [16]),(7,oP 18 (.call 41 [.t 12,.t 17]) [12,15,17]),(8,oP 19 (.not (.t 18)) [18]),(9,oT 20 19 [19]),(10,⟨some 21,.mv (.t 3),some (20,false),[],[]⟩),(11,⟨some 22,.bin .gtr (.t 21)
(.c (.int .i64 0)),some (20,false),[],[21]⟩),(12,⟨some 23,.mv (.t 22),some (20,false),[],[22]⟩),(13,⟨some 24,.fa 1 (.t 1),some (23,true),[],[]⟩),(14,⟨some 25,.ld 1 false (.t 24),some (23,true),[],[24]⟩),(15,⟨some 26,.mv
(.t 3),some (23,true),[],[]⟩),(16,⟨some 27,.bin .sub (.t 26) (.c (.int .i64 1)),some (23,true),[],[26]⟩),(17,⟨some 28,.ia 2 (.t 25) (.t 27),some (23,true),[],[25]⟩),(18,⟨some 29,.ld 2 true (.t 28),some
(23,true),[],[28]⟩),(19,⟨some 30,.fa 1 (.t 1),some (23,true),[],[]⟩),(20,⟨some 31,.ld 1 false (.t 30),some (23,true),[],[30]⟩),(21,⟨some 32,.mv (.t 3),some (23,true),[],[]⟩),(22,⟨some 33,.ia 2 (.t 31) (.t 32),some
(23,true),[],[31]⟩),(23,⟨some 34,.ld 2 true (.t 33),some (23,true),[],[33]⟩),(24,⟨some 35,.call 42 [.t 29,.t 34],some (23,true),[],[27,29,32,34]⟩),(25,⟨some 36,.bin .geq (.t 35) (.c (.int .i64 0)),some
(23,true),[],[35]⟩),(26,⟨some 37,.pick (.t 23) (.t 36) (.c (.bool false)),some (20,false),[],[23,36]⟩),(27,oP 38 (.pick (.t 20) (.c (.bool true)) (.t 37)) [20,37])]) (.cond (.t 38) (sK [1,3,38] (sR [(0,oP 2 (.mv (.c
(.bool false))) [])] .ret)) (sK [38] .skip)))) (.reg false [(0,oT 9 3 [3]),(1,oP 10 (.bin .add (.t 9) (.c (.int .i64 1))) [9]),(2,oT 3 10 [10])])))
abbrev B18 : CCode := (sR [(0,oP 1 (.box 2 (.t 0)) [0]),(1,oP 2 (.mv (.c (.bool false))) [2])] (.seq (sR [(0,oP 3 (.mv (.c (.int .i64 0))) [])] (.block 0 (.loop L18_0))) (sR [(0,oP 39 (.fa 0 (.t 1)) []),(1,oP 40 (.ld 1
false (.t 39)) [39]),(2,oP 41 (.call 43 [.t 40]) [40]),(3,oT 42 41 [41]),(4,⟨some 43,.fa 1 (.t 1),some (42,true),[],[]⟩),(5,⟨some 44,.ld 1 false (.t 43),some (42,true),[],[43]⟩),(6,⟨some 45,.len (.t 44),some
(42,true),[],[1,44]⟩),(7,⟨some 46,.bin .leq (.t 45) (.c (.int .i64 14)),some (42,true),[],[45]⟩),(8,oP 47 (.pick (.t 42) (.t 46) (.c (.bool false))) [42,46]),(9,oT 2 47 [47])] .ret)))
def C18 : CFn := ⟨48,1,[.t 2],B18⟩
abbrev B21 : CCode := (sR [(0,oP 6 (.mv (.c (.bool false))) [6])] (sR [(0,oT 7 0 []),(1,oT 8 1 [1]),(2,oP 9 (.bin .geq (.t 7) (.t 8)) [7,8]),(3,oT 10 9 [9]),(4,⟨some 11,.mv (.t 0),some (10,true),[],[0]⟩),(5,⟨some 12,.mv
(.t 2),some (10,true),[],[2]⟩),(6,⟨some 13,.bin .leq (.t 11) (.t 12),some (10,true),[],[11,12]⟩),(7,oP 14 (.pick (.t 10) (.t 13) (.c (.bool false))) [10,13]),(8,oT 6 14 [14])] .ret))
def C21 : CFn := ⟨15,3,[.t 6],B21⟩
abbrev B22 : CCode := (sR [(0,oP 2 (.box 2 (.t 0)) [0]),(1,oP 4 (.mv (.c (.bool false))) [4])] (sR [(0,oP 8 (.ld 2 true (.t 2)) []),(1,oT 9 1 [1]),(2,oP 10 (.call 46 [.t 8,.t 9]) [2,8,9]),(3,oT 7 10 [10]),(4,oP 11 (.ex
(.t 7) 0) []),(5,oP 12 (.ex (.t 7) 1) [7]),(6,oP 5 (.al [.nils,.nils]) []),(7,⟨none,.st 2 (.t 5) (.t 11),none,[],[11]⟩),(8,oT 6 12 [12])] (sR [(0,oT 13 6 [6]),(1,oT 14 13 [13]),(2,⟨some 15,.ld 2 true (.t 5),some
(14,true),[],[]⟩),(3,⟨some 16,.call 47 [.t 15],some (14,true),[],[5,15]⟩),(4,oP 17 (.pick (.t 14) (.t 16) (.c (.bool false))) [14,16]),(5,oT 4 17 [17])] .ret)))
def C22 : CFn := ⟨18,2,[.t 4],B22⟩
abbrev L25_0 : CCode := (sR [(0,oP 19 (.bin .lss (.t 18) (.t 17)) [])] (.seq (.cond (.t 19) (sK [19] .skip) (sK [1,16,17,18,19] (.exit 0))) (.seq (.block 1 (sR [(0,oT 20 18 []),(1,oP 21 (.ia 2 (.t 16) (.t 18)) []),(2,oP
22 (.ld 2 true (.t 21)) [21]),(3,oP 4 (.al [.int .i64 (0),.nils]) []),(4,oT 3 20 [20]),(5,⟨none,.st 2 (.t 4) (.t 22),none,[],[22]⟩)] (.seq (.reg true [(0,oP 23 (.fa 0 (.t 1)) []),(1,oP 24 (.ld 1 false (.t 23))
[23]),(2,oP 25 (.ld 2 true (.t 4)) []),(3,oP 26 (.call 51 [.t 24,.t 25]) [24,25]),(4,oP 27 (.not (.t 26)) [26]),(5,oT 28 27 [27]),(6,⟨some 29,.mv (.t 3),some (28,false),[],[]⟩),(7,⟨some 30,.bin .gtr (.t 29) (.c (.int
.i64 0)),some (28,false),[],[29]⟩),(8,⟨some 31,.mv (.t 30),some (28,false),[],[30]⟩),(9,⟨some 32,.fa 1 (.t 1),some (31,true),[],[]⟩),(10,⟨some 33,.ld 1 false (.t 32),some (31,true),[],[32]⟩),(11,⟨some 34,.mv (.t 3),some
(31,true),[],[3]⟩),(12,⟨some 35,.bin .sub (.t 34) (.c (.int .i64 1)),some (31,true),[],[34]⟩),(13,⟨some 36,.ia 2 (.t 33) (.t 35),some (31,true),[],[33]⟩),(14,⟨some 37,.ld 2 true (.t 36),some
(31,true),[],[36]⟩),(15,⟨some 38,.ld 2 true (.t 4),some (31,true),[],[]⟩),(16,⟨some 39,.call 52 [.t 37,.t 38],some (31,true),[],[4,35,37,38]⟩),(17,⟨some 40,.bin .geq (.t 39) (.c (.int .i64 0)),some
(31,true),[],[39]⟩),(18,⟨some 41,.pick (.t 31) (.t 40) (.c (.bool false)),some (28,false),[],[31,40]⟩),(19,oP 42 (.pick (.t 28) (.c (.bool true)) (.t 41)) [28,41])]) (.cond (.t 42) (sK [1,16,17,18,42] (sR [(0,oP 2 (.mv
(.c (.bool false))) [])] .ret)) (sK [42] .skip))))) (.reg false [(0,oP 43 (.bin .add (.t 18) (.c (.int .i64 1))) [18]),(1,oT 18 43 [43])]))))
abbrev B25 : CCode := (sR [(0,oP 1 (.box 2 (.t 0)) [0]),(1,oP 2 (.mv (.c (.bool false))) [2])] (.seq (sR [(0,oP 5 (.fa 0 (.t 1)) []),(1,oP 6 (.ld 1 false (.t 5)) [5]),(2,oP 7 (.call 50 [.t 6]) [6]),(3,oP 8 (.not (.t 7))
[7]),(4,oT 9 8 [8]),(5,⟨some 10,.fa 1 (.t 1),some (9,false),[],[]⟩),(6,⟨some 11,.ld 1 false (.t 10),some (9,false),[],[10]⟩),(7,⟨some 12,.len (.t 11),some (9,false),[],[11]⟩),(8,⟨some 13,.bin .gtr (.t 12) (.c (.int .i64
14)),some (9,false),[],[12]⟩),(9,oP 14 (.pick (.t 9) (.c (.bool true)) (.t 13)) [9,13])] (.cond (.t 14) (sK [1,14] (sR [(0,oP 2 (.mv (.c (.bool false))) [])] .ret)) (sK [14] .skip))) (.seq (sR [(0,oP 15 (.fa 1 (.t 1))
[]),(1,oP 16 (.ld 1 false (.t 15)) [15]),(2,oP 17 (.len (.t 16)) []),(3,oP 18 (.mv (.c (.int .i64 0))) [])] (.block 0 (.loop L25_0))) (sR [(0,oP 2 (.mv (.c (.bool true))) [])] .ret))))
def C25 : CFn := ⟨44,1,[.t 2],B25⟩
abbrev B26 : CCode := (sR [(0,oP 6 (.mv (.c (.bool false))) [6])] (sR [(0,oT 7 1 [1]),(1,oT 8 0 []),(2,oP 9 (.bin .leq (.t 7) (.t 8)) [7,8]),(3,oT 10 9 [9]),(4,⟨some 11,.mv (.t 0),some (10,true),[],[0]⟩),(5,⟨some 12,.mv
(.t 2),some (10,true),[],[2]⟩),(6,⟨some 13,.bin .leq (.t 11) (.t 12),some (10,true),[],[11,12]⟩),(7,oP 14 (.pick (.t 10) (.t 13) (.c (.bool false))) [10,13]),(8,oT 6 14 [14])] .ret))
def C26 : CFn := ⟨15,3,[.t 6],B26⟩
abbrev B27 : CCode := (sR [(0,oP 2 (.box 2 (.t 0)) [0]),(1,oP 3 (.box 1 (.t 1)) [1]),(2,oP 4 (.mv (.c (.nils))) [4])] (sR [(0,oP 7 (.bsl 1 0 [.nils] []) []),(1,oP 5 (.al [.nils]) []),(2,⟨none,.st 1 (.t 5) (.t
7),none,[],[7]⟩)] (sR [(0,oP 6 (.al [.nilf]) [])] (sR [(0,oP 8 (.fn 53 [.t 3,.t 5,.t 2,.t 6]) []),(1,⟨none,.st 1 (.t 6) (.t 8),none,[],[8]⟩)] (sR [(0,oP 9 (.ld 1 false (.t 6)) []),(1,oP 10 (.callv (.t 9) [(.c
(.nils)),(.c (.int .i64 0))]) [2,3,6,9,10])] (sR [(0,oP 11 (.ld 1 false (.t 5)) []),(1,oT 4 11 [11])] .ret))))))
def C27 : CFn := ⟨12,2,[.t 4],B27⟩
abbrev L35_0 : CCode := (.seq (sR [(0,oT 8 4 []),(1,oT 9 0 []),(2,oP 10 (.len (.t 9)) [9]),(3,oP 11 (.bin .lss (.t 8) (.t 10)) [8,10]),(4,oT 12 11 [11]),(5,⟨some 13,.mv (.t 4),some (12,true),[],[]⟩),(6,⟨some 14,.bin
.lss (.t 13) (.c (.int .i64 4000)),some (12,true),[],[13]⟩),(7,oP 15 (.pick (.t 12) (.t 14) (.c (.bool false))) [12,14])] (.cond (.t 15) (sK [15] .skip) (sK [4,15] (.exit 0)))) (.seq (.block 1 (.reg false [(0,oT 18 3
[3]),(1,oP 19 (.bin .mul (.t 18) (.c (.int .i64 131))) [18]),(2,oT 20 0 []),(3,oT 21 4 []),(4,oP 22 (.ia 1 (.t 20) (.t 21)) []),(5,oP 23 (.ld 1 false (.t 22)) [20,21,22]),(6,oP 24 (.conv .i64 (.t 23)) [23]),(7,oP 25
(.bin .add (.t 19) (.t 24)) [19,24]),(8,oP 26 (.bin .add (.t 25) (.c (.int .i64 7))) [25]),(9,oP 27 (.bin .and (.t 26) (.c (.int .i64 1073741823))) [26]),(10,oT 3 27 [27])])) (.reg false [(0,oT 16 4 [4]),(1,oP 17 (.bin
.add (.t 16) (.c (.int .i64 1))) [16]),(2,oT 4 17 [17])])))
abbrev B35 : CCode := (sR [(0,oP 2 (.mv (.c (.nilp))) [2])] (sR [(0,oT 5 0 []),(1,oP 6 (.len (.t 5)) [5]),(2,oP 7 (.bin .add (.c (.int .i64 10101)) (.t 6)) [6]),(3,oT 3 7 [7])] (.seq (sR [(0,oP 4 (.mv (.c (.int .i64
0))) [])] (.block 0 (.loop L35_0))) (sR [(0,oT 28 0 [0]),(1,oT 29 3 [3]),(2,oP 30 (.bld [.nils,.int .i64 (0),.int .i64 (0)] [(0,1,(.t 28)),(2,1,(.t 29))]) [28,29]),(3,oP 31 (.box 3 (.t 30)) [30]),(4,oT 2 31 [31])]
.ret))))
def C35 : CFn := ⟨32,1,[.t 2],B35⟩
abbrev L36_0 : CCode := (.seq (sR [(0,oP 6 (.fa 1 (.t 3)) []),(1,oP 7 (.ld 1 false (.t 6)) [6]),(2,oP 8 (.len (.t 7)) [7]),(3,oP 9 (.bin .gtr (.t 8) (.c (.int .i64 9))) [8])] (.cond (.t 9) (sK [9] .skip) (sK [9] (.exit
0)))) (.block 1 (.reg false [(0,oP 10 (.fa 1 (.t 3)) []),(1,oP 11 (.ld 1 false (.t 10)) [10]),(2,oP 12 (.fa 1 (.t 3)) []),(3,oP 13 (.ld 1 false (.t 12)) [12]),(4,oP 14 (.len (.t 13)) [13]),(5,oP 15 (.bin .sub (.t 14)
(.c (.int .i64 1))) [14]),(6,oP 16 (.sls 2 (.t 11) none (some (.t 15)) none) [11,15]),(7,oP 17 (.fa 1 (.t 3)) []),(8,⟨none,.st 1 (.t 17) (.t 16),none,[],[16,17]⟩)])))
abbrev B36 : CCode := (sR [(0,oP 2 (.al [.nils,.nils]) [])] (sR [(0,oT 4 0 []),(1,oP 5 (.call 61 [.t 4]) [4]),(2,oP 3 (.al [.nils,.nils]) []),(3,⟨none,.st 2 (.t 3) (.t 5),none,[],[5]⟩)] (.seq (.block 0 (.loop L36_0))
(sR [(0,oP 18 (.ld 2 true (.t 3)) []),(1,⟨none,.st 2 (.t 2) (.t 18),none,[],[3,18]⟩)] .ret))))
def C36 : CFn := ⟨19,1,[.m 2 2 true],B36⟩
abbrev B37 : CCode := (sR [(0,oP 4 (.mv (.c (.int .i64 0))) [4])] (.seq (sR [(0,oT 9 1 []),(1,oP 10 (.bin .leq (.t 9) (.c (.int .i64 0))) [9])] (.cond (.t 10) (sK [1,10] (sR [(0,oP 4 (.mv (.c (.int .i64 0))) [])] .ret))
(sK [10] .skip))) (.seq (sR [(0,oT 11 1 []),(1,oP 12 (.bin .leq (.t 11) (.c (.int .i64 256))) [11])] (.cond (.t 12) (sK [12] (sR [(0,oT 13 0 []),(1,oP 14 (.call 62 [.t 13]) [13]),(2,oT 15 1 [1]),(3,oP 16 (.bin .rem (.t
14) (.t 15)) [14,15]),(4,oT 4 16 [16])] .ret)) (sK [12] .skip))) (sR [(0,oT 17 0 []),(1,oP 18 (.call 62 [.t 17]) [17]),(2,oT 5 18 [18])] (sR [(0,oT 19 0 []),(1,oP 20 (.call 62 [.t 19]) [19]),(2,oT 6 20 [20])] (sR [(0,oT
21 0 []),(1,oP 22 (.call 62 [.t 21]) [21]),(2,oT 7 22 [22])] (sR [(0,oT 23 0 []),(1,oP 24 (.call 62 [.t 23]) [23]),(2,oT 8 24 [24])] (sR [(0,oT 25 5 [5]),(1,oP 26 (.bin .mul (.t 25) (.c (.int .i64 16777216)))
[25]),(2,oT 27 6 [6]),(3,oP 28 (.bin .mul (.t 27) (.c (.int .i64 65536))) [27]),(4,oP 29 (.bin .add (.t 26) (.t 28)) [26,28]),(5,oT 30 7 [7]),(6,oP 31 (.bin .mul (.t 30) (.c (.int .i64 256))) [30]),(7,oP 32 (.bin .add
(.t 29) (.t 31)) [29,31]),(8,oT 33 8 [8]),(9,oP 34 (.bin .add (.t 32) (.t 33)) [32,33]),(10,oT 35 1 [1]),(11,oP 36 (.bin .rem (.t 34) (.t 35)) [34,35]),(12,oT 4 36 [36])] .ret))))))))
def C37 : CFn := ⟨37,2,[.t 4],B37⟩
abbrev L38_0 : CCode := (.seq (sR [(0,oT 11 5 []),(1,oT 12 0 []),(2,oP 13 (.len (.t 12)) [12]),(3,oP 14 (.bin .lss (.t 11) (.t 13)) [11,13])] (.cond (.t 14) (sK [14] .skip) (sK [0,1,5,14] (.exit 0)))) (.seq (.block 1
(.seq (.reg true [(0,oT 17 0 []),(1,oT 18 5 []),(2,oP 19 (.ia 1 (.t 17) (.t 18)) []),(3,oP 20 (.ld 1 false (.t 19)) [17,18,19]),(4,oT 21 1 []),(5,oT 22 5 []),(6,oP 23 (.ia 1 (.t 21) (.t 22)) []),(7,oP 24 (.ld 1 false
(.t 23)) [21,22,23]),(8,oP 25 (.bin .neq (.t 20) (.t 24)) [20,24])]) (.cond (.t 25) (sK [0,1,5,25] (sR [(0,oP 4 (.mv (.c (.bool false))) [])] .ret)) (sK [25] .skip)))) (.reg false [(0,oT 15 5 [5]),(1,oP 16 (.bin .add
(.t 15) (.c (.int .i64 1))) [15]),(2,oT 5 16 [16])])))
abbrev B38 : CCode := (sR [(0,oP 4 (.mv (.c (.bool false))) [4])] (.seq (sR [(0,oT 6 0 []),(1,oP 7 (.len (.t 6)) [6]),(2,oT 8 1 []),(3,oP 9 (.len (.t 8)) [8]),(4,oP 10 (.bin .neq (.t 7) (.t 9)) [7,9])] (.cond (.t 10)
(sK [0,1,10] (sR [(0,oP 4 (.mv (.c (.bool false))) [])] .ret)) (sK [10] .skip))) (.seq (sR [(0,oP 5 (.mv (.c (.int .i64 0))) [])] (.block 0 (.loop L38_0))) (sR [(0,oP 4 (.mv (.c (.bool true))) [])] .ret))))
def C38 : CFn := ⟨26,2,[.t 4],B38⟩
abbrev L39_0 : CCode := (sR [(0,oP 30 (.bin .lss (.t 29) (.t 28)) [])] (.seq (.cond (.t 30) (sK [30] .skip) (sK [6,27,28,29,30] (.exit 0))) (.seq (.block 1 (sR [(0,oP 31 (.ia 1 (.t 27) (.t 29)) []),(1,oP 32 (.ld 1 false
(.t 31)) [31]),(2,oT 9 32 [32])] (.reg true [(0,oP 33 (.fa 1 (.t 7)) []),(1,oP 34 (.ld 1 false (.t 33)) [33]),(2,oP 35 (.fa 1 (.t 6)) []),(3,oP 36 (.ld 1 false (.t 35)) [35]),(4,oT 37 9 [9]),(5,oP 38 (.ia 2 (.t 36) (.t
37)) [36]),(6,oP 39 (.ld 2 true (.t 38)) [38]),(7,oP 40 (.bsl 2 1 [.int .i64 (0),.nils] [(0,2,(.t 39))]) [37,39]),(8,oP 41 (.app 2 32 (.t 34) (.t 40)) [34,40]),(9,oP 42 (.fa 1 (.t 7)) []),(10,⟨none,.st 1 (.t 42) (.t
41),none,[],[41,42]⟩)]))) (.reg false [(0,oP 43 (.bin .add (.t 29) (.c (.int .i64 1))) [29]),(1,oT 29 43 [43])]))))
abbrev B39 : CCode := (sR [(0,oP 2 (.box 2 (.t 0)) [0]),(1,oP 4 (.al [.nils,.nils]) []),(2,oP 5 (.mv (.c (.bool false))) [5])] (.seq (sR [(0,oP 10 (.ld 2 true (.t 2)) []),(1,oP 11 (.call 25 [.t 10]) [10]),(2,oP 12 (.not
(.t 11)) [11]),(3,oT 13 12 [12]),(4,⟨some 14,.mv (.t 1),some (13,false),[],[]⟩),(5,⟨some 15,.fa 1 (.t 2),some (13,false),[],[]⟩),(6,⟨some 16,.ld 1 false (.t 15),some (13,false),[],[15]⟩),(7,⟨some 17,.len (.t 16),some
(13,false),[],[16]⟩),(8,⟨some 18,.call 63 [.t 14,.t 17],some (13,false),[],[14,17]⟩),(9,⟨some 19,.not (.t 18),some (13,false),[],[18]⟩),(10,oP 20 (.pick (.t 13) (.c (.bool true)) (.t 19)) [13,19])] (.cond (.t 20) (sK
[1,2,20] (sR [(0,oP 21 (.bld [.nils,.nils] []) []),(1,⟨none,.st 2 (.t 4) (.t 21),none,[],[21]⟩),(2,oP 5 (.mv (.c (.bool false))) [])] .ret)) (sK [20] .skip))) (sR [(0,oP 22 (.ld 2 true (.t 2)) []),(1,oP 23 (.call 64 [.t
22]) [2,22]),(2,oP 6 (.al [.nils,.nils]) []),(3,⟨none,.st 2 (.t 6) (.t 23),none,[],[23]⟩)] (sR [(0,oP 24 (.fa 0 (.t 6)) []),(1,oP 25 (.ld 1 false (.t 24)) [24]),(2,oP 26 (.bld [.nils,.nils] [(0,1,(.t 25))]) [25]),(3,oP
7 (.al [.nils,.nils]) []),(4,⟨none,.st 2 (.t 7) (.t 26),none,[],[26]⟩)] (.seq (sR [(0,oT 27 1 [1]),(1,oP 28 (.len (.t 27)) []),(2,oP 29 (.mv (.c (.int .i64 0))) [])] (.block 0 (.loop L39_0))) (sR [(0,oP 44 (.ld 2 true
(.t 7)) []),(1,⟨none,.st 2 (.t 4) (.t 44),none,[],[7,44]⟩),(2,oP 5 (.mv (.c (.bool true))) [])] .ret))))))
def C39 : CFn := ⟨45,2,[.m 4 2 true,.t 5],B39⟩
abbrev B40 : CCode := (sR [(0,oP 1 (.box 2 (.t 0)) [0]),(1,oP 2 (.mv (.c (.bool false))) [2])] (.seq (.reg true [(0,oP 3 (.ld 2 true (.t 1)) []),(1,oP 4 (.call 25 [.t 3]) [3]),(2,oT 5 4 [4]),(3,⟨some 6,.ld 2 true (.t
1),some (5,true),[],[]⟩),(6,⟨some 9,.fa 1 (.t 1),some (5,true),[],[]⟩),(7,⟨some 10,.ld 1 false (.t 9),some (5,true),[],[]⟩),(8,⟨some 11,.len (.t 10),some (5,true),[],[10]⟩),(4,⟨some 7,.call 65 [.t 6],some
(5,true),[(9,1)],[1,6,9]⟩),(5,⟨some 8,.len (.t 7),some (5,true),[],[7]⟩),(9,⟨some 12,.bin .eql (.t 8) (.t 11),some (5,true),[],[8,11]⟩),(10,oP 13 (.pick (.t 5) (.t 12) (.c (.bool false))) [5,12]),(11,oT 2 13 [13])])
.ret))
def C40 : CFn := ⟨14,1,[.t 2],B40⟩
abbrev L41_0 : CCode := (.seq (sR [(0,oT 30 5 []),(1,oP 31 (.fa 1 (.t 3)) []),(2,oP 32 (.ld 1 false (.t 31)) [31]),(3,oP 33 (.len (.t 32)) [32]),(4,oP 34 (.bin .lss (.t 30) (.t 33)) [30,33])] (.cond (.t 34) (sK [34]
.skip) (sK [3,5,34] (.exit 0)))) (.seq (.block 1 (sR [(0,oP 37 (.fa 1 (.t 3)) []),(1,oP 38 (.ld 1 false (.t 37)) [37]),(2,oT 39 5 []),(3,oP 40 (.ia 1 (.t 38) (.t 39)) [38]),(4,oP 41 (.ld 1 false (.t 40)) [39,40]),(5,oP
42 (.call 21 [.t 41,(.c (.int .i64 0)),(.c (.int .i64 9))]) [41]),(6,oP 43 (.not (.t 42)) [42])] (.cond (.t 43) (sK [3,5,43] (sR [(0,oP 4 (.mv (.c (.bool false))) [])] .ret)) (sK [43] .skip)))) (.reg false [(0,oT 35 5
[5]),(1,oP 36 (.bin .add (.t 35) (.c (.int .i64 1))) [35]),(2,oT 5 36 [36])])))
abbrev B41 : CCode := (sR [(0,oP 3 (.box 2 (.t 1)) [1]),(1,oP 4 (.mv (.c (.bool false))) [4])] (.seq (.seq (.reg true [(0,oT 6 0 []),(1,oP 7 (.call 43 [.t 6]) [6]),(2,oP 8 (.not (.t 7)) [7]),(3,oT 9 8 [8]),(4,⟨some
10,.fa 0 (.t 3),some (9,false),[],[]⟩),(5,⟨some 11,.ld 1 false (.t 10),some (9,false),[],[10]⟩),(6,⟨some 12,.mv (.t 0),some (9,false),[],[]⟩),(7,⟨some 13,.len (.t 12),some (9,false),[],[12]⟩),(8,⟨some 14,.bin .sub (.t
13) (.c (.int .i64 1)),some (9,false),[],[13]⟩),(9,⟨some 15,.call 21 [.t 11,(.c (.int .i64 0)),.t 14],some (9,false),[],[11,14]⟩),(10,⟨some 16,.not (.t 15),some (9,false),[],[15]⟩),(11,oP 17 (.pick (.t 9) (.c (.bool
true)) (.t 16)) [9,16]),(12,oT 18 17 [17]),(13,⟨some 19,.fa 1 (.t 3),some (18,false),[],[]⟩),(14,⟨some 20,.ld 1 false (.t 19),some (18,false),[],[19]⟩),(15,⟨some 21,.len (.t 20),some (18,false),[],[20]⟩),(16,⟨some
22,.mv (.t 0),some (18,false),[],[0]⟩),(17,⟨some 23,.fa 0 (.t 3),some (18,false),[],[]⟩),(18,⟨some 24,.ld 1 false (.t 23),some (18,false),[],[23]⟩),(19,⟨some 25,.ia 3 (.t 22) (.t 24),some (18,false),[],[]⟩),(20,⟨some
26,.fa 1 (.t 25),some (18,false),[],[25]⟩),(21,⟨some 27,.ld 1 false (.t 26),some (18,false),[],[22,24,26]⟩),(22,⟨some 28,.bin .neq (.t 21) (.t 27),some (18,false),[],[21,27]⟩),(23,oP 29 (.pick (.t 18) (.c (.bool true))
(.t 28)) [18,28])]) (.cond (.t 29) (sK [3,29] (sR [(0,oP 4 (.mv (.c (.bool false))) [])] .ret)) (sK [29] .skip))) (.seq (sR [(0,oP 5 (.mv (.c (.int .i64 0))) [])] (.block 0 (.loop L41_0))) (sR [(0,oP 4 (.mv (.c (.bool
true))) [])] .ret))))
def C41 : CFn := ⟨44,2,[.t 4],B41⟩
abbrev B42 : CCode := (sR [(0,oP 2 (.box 2 (.t 0)) [0]),(1,oP 3 (.box 2 (.t 1)) [1]),(2,oP 4 (.mv (.c (.int .i64 0))) [4])] (.seq (sR [(0,oP 5 (.fa 0 (.t 2)) []),(1,oP 6 (.ld 1 false (.t 5)) [5]),(2,oP 7 (.fa 0 (.t 3))
[]),(3,oP 8 (.ld 1 false (.t 7)) [7]),(4,oP 9 (.bin .lss (.t 6) (.t 8)) [6,8])] (.cond (.t 9) (sK [2,3,9] (sR [(0,oP 4 (.mv (.c (.int .i64 (-1)))) [])] .ret)) (sK [9] .skip))) (.seq (sR [(0,oP 10 (.fa 0 (.t 2))
[]),(1,oP 11 (.ld 1 false (.t 10)) [10]),(2,oP 12 (.fa 0 (.t 3)) []),(3,oP 13 (.ld 1 false (.t 12)) [12]),(4,oP 14 (.bin .gtr (.t 11) (.t 13)) [11,13])] (.cond (.t 14) (sK [2,3,14] (sR [(0,oP 4 (.mv (.c (.int .i64 1)))
[])] .ret)) (sK [14] .skip))) (sR [(0,oP 15 (.fa 1 (.t 2)) []),(1,oP 16 (.ld 1 false (.t 15)) [15]),(2,oP 17 (.fa 1 (.t 3)) []),(3,oP 18 (.ld 1 false (.t 17)) [17]),(4,oP 19 (.call 66 [.t 16,.t 18]) [2,3,16,18]),(5,oT 4
19 [19])] .ret))))
def C42 : CFn := ⟨20,2,[.t 4],B42⟩
abbrev L43_0 : CCode := (.seq (sR [(0,oT 4 3 []),(1,oT 5 0 []),(2,oP 6 (.len (.t 5)) [5]),(3,oP 7 (.bin .lss (.t 4) (.t 6)) [4,6])] (.cond (.t 7) (sK [7] .skip) (sK [3,7] (.exit 0)))) (.seq (.block 1 (.seq (.reg true
[(0,oT 10 0 []),(1,oT 11 3 []),(2,oP 12 (.ia 3 (.t 10) (.t 11)) []),(3,oP 13 (.ld 3 true (.t 12)) [12]),(4,oP 14 (.call 67 [.t 13]) [10,11,13]),(5,oP 15 (.not (.t 14)) [14]),(6,oT 16 15 [15]),(7,⟨some 17,.mv (.t 3),some
(16,false),[],[]⟩),(8,⟨some 18,.bin .gtr (.t 17) (.c (.int .i64 0)),some (16,false),[],[17]⟩),(9,⟨some 19,.mv (.t 18),some (16,false),[],[18]⟩),(10,⟨some 20,.mv (.t 0),some (19,true),[],[]⟩),(11,⟨some 21,.mv (.t 3),some
(19,true),[],[]⟩),(12,⟨some 22,.bin .sub (.t 21) (.c (.int .i64 1)),some (19,true),[],[21]⟩),(13,⟨some 23,.ia 3 (.t 20) (.t 22),some (19,true),[],[]⟩),(14,⟨some 24,.fa 0 (.t 23),some (19,true),[],[23]⟩),(15,⟨some 25,.ld
1 false (.t 24),some (19,true),[],[20,22,24]⟩),(16,⟨some 26,.mv (.t 0),some (19,true),[],[]⟩),(17,⟨some 27,.mv (.t 3),some (19,true),[],[]⟩),(18,⟨some 28,.ia 3 (.t 26) (.t 27),some (19,true),[],[]⟩),(19,⟨some 29,.fa 0
(.t 28),some (19,true),[],[28]⟩),(20,⟨some 30,.ld 1 false (.t 29),some (19,true),[],[26,27,29]⟩),(21,⟨some 31,.bin .geq (.t 25) (.t 30),some (19,true),[],[25,30]⟩),(22,⟨some 32,.pick (.t 19) (.t 31) (.c (.bool
false)),some (16,false),[],[19,31]⟩),(23,oP 33 (.pick (.t 16) (.c (.bool true)) (.t 32)) [16,32])]) (.cond (.t 33) (sK [0,3,33] (sR [(0,oP 2 (.mv (.c (.bool false))) [])] .ret)) (sK [33] .skip)))) (.reg false [(0,oT 8 3
[3]),(1,oP 9 (.bin .add (.t 8) (.c (.int .i64 1))) [8]),(2,oT 3 9 [9])])))
abbrev B43 : CCode := (sR [(0,oP 2 (.mv (.c (.bool false))) [2])] (.seq (sR [(0,oP 3 (.mv (.c (.int .i64 0))) [])] (.block 0 (.loop L43_0))) (sR [(0,oT 34 0 [0]),(1,oP 35 (.len (.t 34)) [34]),(2,oP 36 (.bin .leq (.t 35)
(.c (.int .i64 4))) [35]),(3,oT 2 36 [36])] .ret)))
def C43 : CFn := ⟨37,1,[.t 2],B43⟩
abbrev L46_0 : CCode := (.seq (sR [(0,oT 24 7 []),(1,oT 25 1 []),(2,oP 26 (.len (.t 25)) [25]),(3,oP 27 (.bin .lss (.t 24) (.t 26)) [24,26])] (.cond (.t 27) (sK [27] .skip) (sK [1,2,7,27] (.exit 0)))) (.seq (.block 1
(.seq (.reg true [(0,oP 30 (.fa 1 (.t 2)) []),(1,oP 31 (.ld 1 false (.t 30)) [30]),(2,oT 32 1 []),(3,oT 33 7 []),(4,oP 34 (.ia 1 (.t 32) (.t 33)) []),(5,oP 35 (.ld 1 false (.t 34)) [32,33,34]),(6,oP 36 (.ia 2 (.t 31)
(.t 35)) [31]),(7,oP 37 (.ld 2 true (.t 36)) [36]),(8,oP 8 (.al [.int .i64 (0),.nils]) []),(9,⟨none,.st 2 (.t 8) (.t 37),none,[],[35,37]⟩)]) (.reg true [(0,oP 38 (.fa 1 (.t 6)) []),(1,oP 39 (.ld 1 false (.t 38))
[]),(2,oP 40 (.fa 0 (.t 8)) []),(3,oP 41 (.ld 1 false (.t 40)) []),(4,oP 42 (.bsl 1 0 [.int .i64 (0)] []) []),(5,oP 43 (.fa 1 (.t 8)) []),(6,oP 44 (.ld 1 false (.t 43)) [43]),(7,⟨some 45,.app 1 8 (.t 42) (.t
44),none,[(38,1),(40,1)],[8,38,40,42,44]⟩),(8,oP 46 (.bld [.int .i64 (0),.nils] [(0,1,(.t 41)),(1,1,(.t 45))]) [41,45]),(9,oP 47 (.bsl 2 1 [.int .i64 (0),.nils] [(0,2,(.t 46))]) [46]),(10,oP 48 (.app 2 32 (.t 39) (.t
47)) [39,47]),(11,oP 49 (.fa 1 (.t 6)) []),(12,⟨none,.st 1 (.t 49) (.t 48),none,[],[48,49]⟩)]))) (.reg false [(0,oT 28 7 [7]),(1,oP 29 (.bin .add (.t 28) (.c (.int .i64 1))) [28]),(2,oT 7 29 [29])])))
abbrev B46 : CCode := (sR [(0,oP 2 (.box 2 (.t 0)) [0]),(1,oP 4 (.al [.nils,.nils]) []),(2,oP 5 (.mv (.c (.bool false))) [5])] (.seq (sR [(0,oP 9 (.ld 2 true (.t 2)) []),(1,oP 10 (.call 18 [.t 9]) [9]),(2,oP 11 (.not
(.t 10)) [10]),(3,oT 12 11 [11]),(4,⟨some 13,.ld 2 true (.t 2),some (12,false),[],[]⟩),(5,⟨some 14,.mv (.t 1),some (12,false),[],[]⟩),(6,⟨some 15,.call 69 [.t 13,.t 14],some (12,false),[],[13,14]⟩),(7,⟨some 16,.not (.t
15),some (12,false),[],[15]⟩),(8,oP 17 (.pick (.t 12) (.c (.bool true)) (.t 16)) [12,16])] (.cond (.t 17) (sK [1,2,17] (sR [(0,oP 18 (.bld [.nils,.nils] []) []),(1,⟨none,.st 2 (.t 4) (.t 18),none,[],[18]⟩),(2,oP 5 (.mv
(.c (.bool false))) [])] .ret)) (sK [17] .skip))) (sR [(0,oP 19 (.bsl 3 0 [.str [],.int .i64 (0),.int .i64 (0)] []) []),(1,oP 20 (.fa 0 (.t 2)) []),(2,oP 21 (.ld 1 false (.t 20)) [20]),(3,oP 22 (.app 3 32 (.t 19) (.t
21)) [19,21]),(4,oP 23 (.bld [.nils,.nils] [(0,1,(.t 22))]) [22]),(5,oP 6 (.al [.nils,.nils]) []),(6,⟨none,.st 2 (.t 6) (.t 23),none,[],[23]⟩)] (.seq (sR [(0,oP 7 (.mv (.c (.int .i64 0))) [])] (.block 0 (.loop L46_0)))
(sR [(0,oP 50 (.ld 2 true (.t 6)) []),(1,⟨none,.st 2 (.t 4) (.t 50),none,[],[6,50]⟩),(2,oP 5 (.mv (.c (.bool true))) [])] .ret)))))
def C46 : CFn := ⟨51,2,[.m 4 2 true,.t 5],B46⟩
abbrev B47 : CCode := (sR [(0,oP 1 (.box 2 (.t 0)) [0]),(1,oP 2 (.mv (.c (.bool false))) [2])] (.seq (.reg true [(0,oP 3 (.ld 2 true (.t 1)) []),(1,oP 4 (.call 18 [.t 3]) [3]),(2,oT 5 4 [4]),(3,⟨some 6,.ld 2 true (.t
1),some (5,true),[],[]⟩),(6,⟨some 9,.fa 1 (.t 1),some (5,true),[],[]⟩),(7,⟨some 10,.ld 1 false (.t 9),some (5,true),[],[]⟩),(8,⟨some 11,.len (.t 10),some (5,true),[],[10]⟩),(4,⟨some 7,.call 70 [.t 6],some
(5,true),[(9,1)],[1,6,9]⟩),(5,⟨some 8,.len (.t 7),some (5,true),[],[7]⟩),(9,⟨some 12,.bin .eql (.t 8) (.t 11),some (5,true),[],[8,11]⟩),(10,oP 13 (.pick (.t 5) (.t 12) (.c (.bool false))) [5,12]),(11,oT 2 13 [13])])
.ret))
def C47 : CFn := ⟨14,1,[.t 2],B47⟩
abbrev L50_0 : CCode := (sR [(0,oP 8 (.bin .lss (.t 7) (.t 6)) [])] (.seq (.cond (.t 8) (sK [8] .skip) (sK [5,6,7,8] (.exit 0))) (.seq (.block 1 (sR [(0,oT 9 7 []),(1,oP 10 (.ia 3 (.t 5) (.t 7)) []),(2,oP 11 (.ld 3 true
(.t 10)) [10]),(3,oP 4 (.al [.str [],.int .i64 (0),.int .i64 (0)]) []),(4,oT 3 9 [9]),(5,⟨none,.st 3 (.t 4) (.t 11),none,[],[11]⟩)] (.seq (.reg true [(0,oP 12 (.ld 3 true (.t 4)) []),(1,oP 13 (.call 72 [.t 12])
[12]),(2,oP 14 (.not (.t 13)) [13]),(3,oT 15 14 [14]),(4,⟨some 16,.mv (.t 3),some (15,false),[],[]⟩),(5,⟨some 17,.bin .gtr (.t 16) (.c (.int .i64 0)),some (15,false),[],[16]⟩),(6,⟨some 18,.mv (.t 17),some
(15,false),[],[17]⟩),(7,⟨some 19,.mv (.t 0),some (18,true),[],[]⟩),(8,⟨some 20,.mv (.t 3),some (18,true),[],[3]⟩),(9,⟨some 21,.bin .sub (.t 20) (.c (.int .i64 1)),some (18,true),[],[20]⟩),(10,⟨some 22,.ia 3 (.t 19) (.t
21),some (18,true),[],[]⟩),(11,⟨some 23,.fa 0 (.t 22),some (18,true),[],[22]⟩),(12,⟨some 24,.ld 1 false (.t 23),some (18,true),[],[19,21,23]⟩),(13,⟨some 25,.fa 0 (.t 4),some (18,true),[],[]⟩),(14,⟨some 26,.ld 1 false
(.t 25),some (18,true),[],[4,25]⟩),(15,⟨some 27,.bin .geq (.t 24) (.t 26),some (18,true),[],[24,26]⟩),(16,⟨some 28,.pick (.t 18) (.t 27) (.c (.bool false)),some (15,false),[],[18,27]⟩),(17,oP 29 (.pick (.t 15) (.c
(.bool true)) (.t 28)) [15,28])]) (.cond (.t 29) (sK [0,5,6,7,29] (sR [(0,oP 2 (.mv (.c (.bool false))) [])] .ret)) (sK [29] .skip))))) (.reg false [(0,oP 30 (.bin .add (.t 7) (.c (.int .i64 1))) [7]),(1,oT 7 30
[30])]))))
abbrev B50 : CCode := (sR [(0,oP 2 (.mv (.c (.bool false))) [2])] (.seq (sR [(0,oT 5 0 []),(1,oP 6 (.len (.t 5)) []),(2,oP 7 (.mv (.c (.int .i64 0))) [])] (.block 0 (.loop L50_0))) (sR [(0,oT 31 0 [0]),(1,oP 32 (.len
(.t 31)) [31]),(2,oP 33 (.bin .leq (.t 32) (.c (.int .i64 4))) [32]),(3,oT 2 33 [33])] .ret)))
def C50 : CFn := ⟨34,1,[.t 2],B50⟩
abbrev B51 : CCode := (sR [(0,oP 3 (.box 2 (.t 1)) [1]),(1,oP 4 (.mv (.c (.bool false))) [4])] (.seq (.reg true [(0,oP 5 (.fa 0 (.t 3)) []),(1,oP 6 (.ld 1 false (.t 5)) [5]),(2,oT 7 0 []),(3,oP 8 (.len (.t 7))
[7]),(4,oP 9 (.bin .sub (.t 8) (.c (.int .i64 1))) [8]),(5,oP 10 (.call 26 [.t 6,(.c (.int .i64 0)),.t 9]) [6,9]),(6,oT 11 10 [10]),(7,⟨some 12,.fa 1 (.t 3),some (11,true),[],[]⟩),(8,⟨some 13,.ld 1 false (.t 12),some
(11,true),[],[12]⟩),(9,⟨some 14,.len (.t 13),some (11,true),[],[13]⟩),(10,⟨some 15,.mv (.t 0),some (11,true),[],[0]⟩),(11,⟨some 16,.fa 0 (.t 3),some (11,true),[],[]⟩),(12,⟨some 17,.ld 1 false (.t 16),some
(11,true),[],[16]⟩),(13,⟨some 18,.ia 3 (.t 15) (.t 17),some (11,true),[],[]⟩),(14,⟨some 19,.fa 1 (.t 18),some (11,true),[],[18]⟩),(15,⟨some 20,.ld 1 false (.t 19),some (11,true),[],[15,17,19]⟩),(16,⟨some 21,.bin .eql
(.t 14) (.t 20),some (11,true),[],[14,20]⟩),(17,oP 22 (.pick (.t 11) (.t 21) (.c (.bool false))) [11,21]),(18,oT 23 22 [22]),(19,⟨some 24,.fa 1 (.t 3),some (23,true),[],[]⟩),(20,⟨some 25,.ld 1 false (.t 24),some
(23,true),[],[24]⟩),(21,⟨some 26,.call 73 [.t 25],some (23,true),[],[3,25]⟩),(22,oP 27 (.pick (.t 23) (.t 26) (.c (.bool false))) [23,26]),(23,oT 4 27 [27])]) .ret))
def C51 : CFn := ⟨28,2,[.t 4],B51⟩
abbrev B52 : CCode := (sR [(0,oP 2 (.box 2 (.t 0)) [0]),(1,oP 3 (.box 2 (.t 1)) [1]),(2,oP 4 (.mv (.c (.int .i64 0))) [4])] (.seq (sR [(0,oP 5 (.fa 0 (.t 2)) []),(1,oP 6 (.ld 1 false (.t 5)) [5]),(2,oP 7 (.fa 0 (.t 3))
[]),(3,oP 8 (.ld 1 false (.t 7)) [7]),(4,oP 9 (.bin .neq (.t 6) (.t 8)) [6,8])] (.cond (.t 9) (sK [9] (sR [(0,oP 10 (.fa 0 (.t 2)) []),(1,oP 11 (.ld 1 false (.t 10)) [2,10]),(2,oP 12 (.fa 0 (.t 3)) []),(3,oP 13 (.ld 1
false (.t 12)) [3,12]),(4,oP 14 (.call 74 [.t 11,.t 13]) [11,13]),(5,oT 4 14 [14])] .ret)) (sK [9] .skip))) (sR [(0,oP 15 (.fa 1 (.t 2)) []),(1,oP 16 (.ld 1 false (.t 15)) [15]),(2,oP 17 (.fa 1 (.t 3)) []),(3,oP 18 (.ld
1 false (.t 17)) [17]),(4,oP 19 (.call 75 [.t 16,.t 18]) [2,3,16,18]),(5,oT 4 19 [19])] .ret)))
def C52 : CFn := ⟨20,2,[.t 4],B52⟩
abbrev L53_0 : CCode := (.seq (sR [(0,oP 20 (.ld 1 false (.t 8)) []),(1,oP 21 (.fa 1 (.t 4)) []),(2,oP 22 (.ld 1 false (.t 21)) [21]),(3,oP 23 (.len (.t 22)) [22]),(4,oP 24 (.bin .lss (.t 20) (.t 23)) [20,23])] (.cond
(.t 24) (sK [24] .skip) (sK [0,2,4,5,8,24] (.exit 0)))) (.seq (.block 1 (sR [(0,oT 27 0 []),(1,oP 28 (.fn 55 [.t 4,.t 8]) []),(2,oP 29 (.call 54 [.t 27,.t 28]) [27,28]),(3,oP 30 (.not (.t 29)) [29])] (.cond (.t 30) (sK
[30] (.reg true [(0,oP 31 (.ld 1 false (.t 5)) []),(1,oT 32 0 []),(3,oP 34 (.ld 1 false (.t 8)) []),(4,oP 35 (.bsl 1 1 [.int .i64 (0)] [(0,1,(.t 34))]) [34]),(6,oP 37 (.ld 1 false (.t 8)) []),(7,oP 38 (.bin .add (.t 37)
(.c (.int .i64 1))) [37]),(2,⟨some 33,.call 57 [.t 32],none,[(5,1),(8,1),(8,1)],[32]⟩),(5,⟨some 36,.app 1 8 (.t 33) (.t 35),none,[(5,1),(8,1)],[33,35]⟩),(8,oP 39 (.callv (.t 31) [.t 36,.t 38]) [31,36,38,39])])) (sK [30]
.skip)))) (.seq (sR [(0,oP 40 (.ld 1 false (.t 8)) [8])] (.reg false [(0,oP 8 (.al [.int .i64 (0)]) []),(1,⟨none,.st 1 (.t 8) (.t 40),none,[],[40]⟩)])) (.reg false [(0,oP 25 (.ld 1 false (.t 8)) []),(1,oP 26 (.bin .add
(.t 25) (.c (.int .i64 1))) [25]),(2,⟨none,.st 1 (.t 8) (.t 26),none,[],[26]⟩)]))))
abbrev B53 : CCode := (.seq (sR [(0,oT 9 0 []),(1,oP 10 (.len (.t 9)) [9]),(2,oP 11 (.ld 1 false (.t 2)) []),(3,oP 12 (.bin .eql (.t 10) (.t 11)) [10,11])] (.cond (.t 12) (sK [1,2,4,5,12] (.seq (.reg true [(0,oP 13 (.ld
1 false (.t 3)) []),(1,oP 14 (.bsl 1 0 [.int .i64 (0)] []) []),(2,oT 15 0 [0]),(3,⟨some 16,.app 1 8 (.t 14) (.t 15),none,[(3,1)],[14,15]⟩),(4,oP 17 (.bsl 1 1 [.nils] [(0,1,(.t 16))]) [16]),(5,oP 18 (.app 1 24 (.t 13)
(.t 17)) [13,17]),(6,⟨none,.st 1 (.t 3) (.t 18),none,[],[18]⟩)]) .ret)) (sK [12] .skip))) (sR [(0,oT 19 1 [1]),(1,oP 8 (.al [.int .i64 (0)]) []),(2,⟨none,.st 1 (.t 8) (.t 19),none,[],[19]⟩)] (.block 0 (.loop L53_0))))
def C53 : CFn := ⟨41,6,[],B53⟩
abbrev B54 : CCode := (sR [(0,oP 4 (.mv (.c (.bool false))) [4])] (sR [(0,oT 5 0 [0]),(1,oT 6 1 [1]),(2,oP 7 (.call 76 [.t 5,.t 6]) [5,6]),(3,oP 8 (.bin .geq (.t 7) (.c (.int .i64 0))) [7]),(4,oT 4 8 [8])] .ret))
def C54 : CFn := ⟨9,2,[.t 4],B54⟩
abbrev B55 : CCode := (sR [(0,oP 4 (.mv (.c (.bool false))) [4])] (.seq (.reg true [(0,oP 5 (.fa 0 (.t 1)) []),(1,oP 6 (.ld 1 false (.t 5)) [5]),(2,oP 7 (.fa 1 (.t 1)) []),(3,oP 8 (.ld 1 false (.t 7)) [7]),(4,oT 9 0
[0]),(5,oP 10 (.ia 2 (.t 8) (.t 9)) [8]),(6,oP 11 (.ld 2 true (.t 10)) [10]),(7,oP 12 (.fa 1 (.t 1)) []),(8,oP 13 (.ld 1 false (.t 12)) [12]),(9,oP 14 (.ld 1 false (.t 2)) [2]),(10,oP 15 (.ia 2 (.t 13) (.t 14))
[13]),(11,oP 16 (.ld 2 true (.t 15)) [15]),(12,oP 17 (.call 56 [.t 6,.t 11,.t 16]) [1,6,9,11,14,16]),(13,oT 4 17 [17])]) .ret))
def C55 : CFn := ⟨18,3,[.t 4],B55⟩
abbrev B56 : CCode := (sR [(0,oP 4 (.box 2 (.t 1)) [1]),(1,oP 5 (.box 2 (.t 2)) [2]),(2,oP 6 (.mv (.c (.bool false))) [6])] (.seq (sR [(0,oP 8 (.fa 0 (.t 4)) []),(1,oP 9 (.ld 1 false (.t 8)) [8]),(2,oP 10 (.fa 0 (.t 5))
[]),(3,oP 11 (.ld 1 false (.t 10)) [10]),(4,oP 12 (.bin .neq (.t 9) (.t 11)) [9,11])] (.cond (.t 12) (sK [0,4,5,12] (sR [(0,oP 6 (.mv (.c (.bool false))) [])] .ret)) (sK [12] .skip))) (sR [(0,oT 13 0 [0]),(1,oP 14 (.fa
0 (.t 4)) []),(2,oP 15 (.ld 1 false (.t 14)) [14]),(3,oP 16 (.ia 3 (.t 13) (.t 15)) []),(4,oP 17 (.fa 2 (.t 16)) [16]),(5,oP 18 (.ld 1 false (.t 17)) [13,15,17]),(6,oT 7 18 [18])] (.seq (.reg true [(0,oP 19 (.fa 1 (.t
4)) []),(1,oP 20 (.ld 1 false (.t 19)) [19]),(2,oT 21 7 []),(3,oP 22 (.sls 1 (.t 20) none (some (.t 21)) none) [4,20,21]),(4,oP 23 (.fa 1 (.t 5)) []),(5,oP 24 (.ld 1 false (.t 23)) [23]),(6,oT 25 7 [7]),(7,oP 26 (.sls 1
(.t 24) none (some (.t 25)) none) [5,24,25]),(8,oP 27 (.call 77 [.t 22,.t 26]) [22,26]),(9,oT 6 27 [27])]) .ret))))
def C56 : CFn := ⟨28,3,[.t 6],B56⟩
abbrev B57 : CCode := (sR [(0,oP 2 (.mv (.c (.nils))) [2])] (.seq (sR [(0,oT 3 0 []),(1,oP 4 (.isnil false (.t 3)) [3])] (.cond (.t 4) (sK [0,4] (sR [(0,oP 2 (.mv (.c (.nils))) [])] .ret)) (sK [4] .skip))) (sR [(0,oP 5
(.bsl 1 0 [.int .i64 (0)] []) []),(1,oT 6 0 [0]),(2,oP 7 (.app 1 8 (.t 5) (.t 6)) [5,6]),(3,oT 2 7 [7])] .ret)))
def C57 : CFn := ⟨8,1,[.t 2],B57⟩
abbrev L61_0 : CCode := (.seq (sR [(0,oT 15 5 []),(1,oP 16 (.bin .gtr (.t 15) (.c (.int .i64 0))) [15])] (.cond (.t 16) (sK [16] .skip) (sK [4,5,16] (.exit 0)))) (.seq (.block 1 (.reg true [(0,oP 20 (.ld 2 true (.t 3))
[]),(1,oT 21 0 []),(2,oP 22 (.fa 0 (.t 3)) []),(3,oP 23 (.ld 1 false (.t 22)) [22]),(4,oT 24 4 []),(5,⟨some 25,.call 81 [.t 21,.t 23,.t 24],none,[(3,2)],[21,23,24]⟩),(6,oP 26 (.call 80 [.t 20,.t 25]) [20,25]),(7,oT 19
26 [26]),(8,oP 27 (.ex (.t 19) 0) []),(9,oP 28 (.ex (.t 19) 1) [19,28]),(10,⟨none,.st 2 (.t 3) (.t 27),none,[],[27]⟩)])) (.reg false [(0,oT 17 5 [5]),(1,oP 18 (.bin .sub (.t 17) (.c (.int .i64 1))) [17]),(2,oT 5 18
[18])])))
abbrev B61 : CCode := (sR [(0,oP 2 (.al [.nils,.nils]) [])] (sR [(0,oT 6 0 []),(1,oP 7 (.call 78 [.t 6]) [6]),(2,oP 8 (.bld [.nils,.nils] [(0,1,(.t 7))]) [7]),(3,oP 3 (.al [.nils,.nils]) []),(4,⟨none,.st 2 (.t 3) (.t
8),none,[],[8]⟩)] (sR [(0,oT 9 0 []),(1,oP 10 (.bsl 1 4 [.int .i64 (0)] [(0,1,(.c (.int .i64 2))),(1,1,(.c (.int .i64 2))),(2,1,(.c (.int .i64 3))),(3,1,(.c (.int .i64 3)))]) []),(2,oP 11 (.call 79 [.t 9,.t 10])
[9,10]),(3,oT 4 11 [11])] (.seq (sR [(0,oT 12 0 []),(1,oP 13 (.call 37 [.t 12,(.c (.int .i64 11))]) [12]),(2,oP 14 (.bin .add (.c (.int .i64 2)) (.t 13)) [13]),(3,oT 5 14 [14])] (.block 0 (.loop L61_0))) (sR [(0,oP 29
(.ld 2 true (.t 3)) []),(1,⟨none,.st 2 (.t 2) (.t 29),none,[],[3,29]⟩)] .ret)))))
def C61 : CFn := ⟨30,1,[.m 2 2 true],B61⟩
abbrev B62 : CCode := (sR [(0,oP 2 (.mv (.c (.int .i64 0))) [2])] (sR [(0,oT 4 0 []),(1,oT 5 0 []),(2,oP 6 (.nc (.t 5)) []),(3,oP 7 (.fa 2 (.t 6)) [6]),(4,oP 8 (.ld 1 false (.t 7)) [5,7]),(5,oP 9 (.bin .mul (.t 8) (.c
(.int .i64 6364136223846793005))) [8]),(6,oP 10 (.bin .add (.t 9) (.c (.int .i64 1442695040888963407))) [9]),(7,oP 11 (.nc (.t 4)) []),(8,oP 12 (.fa 2 (.t 11)) [11]),(9,⟨none,.st 1 (.t 12) (.t 10),none,[],[4,10,12]⟩)]
(.seq (.reg true [(0,oT 13 0 []),(1,oP 14 (.nc (.t 13)) []),(2,oP 15 (.fa 2 (.t 14)) [14]),(3,oP 16 (.ld 1 false (.t 15)) [13,15]),(4,oP 17 (.bin .shr (.t 16) (.c (.int .u64 (33)))) [16]),(5,oT 18 0 []),(6,oP 19 (.nc
(.t 18)) []),(7,oP 20 (.fa 2 (.t 19)) [19]),(8,oP 21 (.ld 1 false (.t 20)) [18,20]),(9,oP 22 (.bin .shr (.t 21) (.c (.int .u64 (45)))) [21]),(10,oP 23 (.bin .xor (.t 17) (.t 22)) [17,22]),(11,oP 24 (.bin .and (.t 23)
(.c (.int .i64 255))) [23]),(12,oT 3 24 [24])]) (.seq (.seq (.reg true [(0,oT 25 0 []),(1,oP 26 (.nc (.t 25)) []),(2,oP 27 (.fa 1 (.t 26)) [26]),(3,oP 28 (.ld 1 false (.t 27)) [25,27]),(4,oT 29 0 []),(5,oP 30 (.nc (.t
29)) []),(6,oP 31 (.fa 0 (.t 30)) [30]),(7,oP 32 (.ld 1 false (.t 31)) [31]),(8,oP 33 (.len (.t 32)) [29,32]),(9,oP 34 (.bin .lss (.t 28) (.t 33)) [28,33])]) (.cond (.t 34) (sK [34] (.seq (.reg true [(0,oT 35 3
[3]),(1,oT 36 0 []),(2,oP 37 (.nc (.t 36)) []),(3,oP 38 (.fa 0 (.t 37)) [37]),(4,oP 39 (.ld 1 false (.t 38)) [38]),(5,oT 40 0 []),(6,oP 41 (.nc (.t 40)) []),(7,oP 42 (.fa 1 (.t 41)) [41]),(8,oP 43 (.ld 1 false (.t 42))
[40,42]),(9,oP 44 (.ia 1 (.t 39) (.t 43)) [39]),(10,oP 45 (.ld 1 false (.t 44)) [36,43,44]),(11,oP 46 (.conv .i64 (.t 45)) [45]),(12,oP 47 (.bin .add (.t 35) (.t 46)) [35,46]),(13,oP 48 (.bin .and (.t 47) (.c (.int .i64
255))) [47]),(14,oT 3 48 [48])]) (.reg false [(0,oT 49 0 []),(1,oT 50 0 []),(2,oP 51 (.nc (.t 50)) []),(3,oP 52 (.fa 1 (.t 51)) [51]),(4,oP 53 (.ld 1 false (.t 52)) [50,52]),(5,oP 54 (.bin .add (.t 53) (.c (.int .i64
1))) [53]),(6,oP 55 (.nc (.t 49)) []),(7,oP 56 (.fa 1 (.t 55)) [55]),(8,⟨none,.st 1 (.t 56) (.t 54),none,[],[49,54,56]⟩)]))) (sK [34] .skip))) (sR [(0,oT 57 3 [3]),(1,oT 2 57 [57])] .ret)))))
def C62 : CFn := ⟨58,1,[.t 2],B62⟩
abbrev L63_0 : CCode := (sR [(0,oP 10 (.bin .lss (.t 9) (.t 8)) [])] (.seq (.cond (.t 10) (sK [10] .skip) (sK [0,1,7,8,9,10] (.exit 0))) (.seq (.block 1 (sR [(0,oT 11 9 []),(1,oP 12 (.ia 1 (.t 7) (.t 9)) []),(2,oP 13
(.ld 1 false (.t 12)) [12]),(3,oT 5 11 [11]),(4,oT 6 13 [13])] (sR [(0,oT 14 6 []),(1,oT 15 1 []),(2,oP 16 (.bin .sub (.t 15) (.c (.int .i64 1))) [15]),(3,oP 17 (.call 26 [.t 14,(.c (.int .i64 0)),.t 16]) [14,16]),(4,oP
18 (.not (.t 17)) [17]),(5,oT 19 18 [18]),(6,⟨some 20,.mv (.t 5),some (19,false),[],[]⟩),(7,⟨some 21,.bin .gtr (.t 20) (.c (.int .i64 0)),some (19,false),[],[20]⟩),(8,⟨some 22,.mv (.t 21),some
(19,false),[],[21]⟩),(9,⟨some 23,.mv (.t 0),some (22,true),[],[]⟩),(10,⟨some 24,.mv (.t 5),some (22,true),[],[5]⟩),(11,⟨some 25,.bin .sub (.t 24) (.c (.int .i64 1)),some (22,true),[],[24]⟩),(12,⟨some 26,.ia 1 (.t 23)
(.t 25),some (22,true),[],[]⟩),(13,⟨some 27,.ld 1 false (.t 26),some (22,true),[],[23,25,26]⟩),(14,⟨some 28,.mv (.t 6),some (22,true),[],[6]⟩),(15,⟨some 29,.bin .geq (.t 27) (.t 28),some (22,true),[],[27,28]⟩),(16,⟨some
30,.pick (.t 22) (.t 29) (.c (.bool false)),some (19,false),[],[22,29]⟩),(17,oP 31 (.pick (.t 19) (.c (.bool true)) (.t 30)) [19,30])] (.cond (.t 31) (sK [0,1,7,8,9,31] (sR [(0,oP 4 (.mv (.c (.bool false))) [])] .ret))
(sK [31] .skip))))) (.reg false [(0,oP 32 (.bin .add (.t 9) (.c (.int .i64 1))) [9]),(1,oT 9 32 [32])]))))
abbrev B63 : CCode := (sR [(0,oP 4 (.mv (.c (.bool false))) [4])] (.seq (sR [(0,oT 7 0 []),(1,oP 8 (.len (.t 7)) []),(2,oP 9 (.mv (.c (.int .i64 0))) [])] (.block 0 (.loop L63_0))) (sR [(0,oP 4 (.mv (.c (.bool true)))
[])] .ret)))
def C63 : CFn := ⟨33,2,[.t 4],B63⟩
abbrev L64_0 : CCode := (sR [(0,oP 16 (.bin .lss (.t 15) (.t 14)) [])] (.seq (.cond (.t 16) (sK [16] .skip) (sK [1,13,14,15,16] (.exit 0))) (.seq (.block 1 (sR [(0,oP 17 (.ia 2 (.t 13) (.t 15)) []),(1,oP 18 (.ld 2 true
(.t 17)) [17]),(2,oP 5 (.al [.int .i64 (0),.nils]) []),(3,⟨none,.st 2 (.t 5) (.t 18),none,[],[18]⟩)] (.reg true [(0,oP 19 (.fa 1 (.t 3)) []),(1,oP 20 (.ld 1 false (.t 19)) []),(2,oP 21 (.fa 0 (.t 5)) []),(3,oP 22 (.ld 1
false (.t 21)) []),(4,oP 23 (.bsl 1 0 [.int .i64 (0)] []) []),(5,oP 24 (.fa 1 (.t 5)) []),(6,oP 25 (.ld 1 false (.t 24)) [24]),(7,⟨some 26,.app 1 8 (.t 23) (.t 25),none,[(19,1),(21,1)],[5,19,21,23,25]⟩),(8,oP 27 (.bld
[.int .i64 (0),.nils] [(0,1,(.t 22)),(1,1,(.t 26))]) [22,26]),(9,oP 28 (.bsl 2 1 [.int .i64 (0),.nils] [(0,2,(.t 27))]) [27]),(10,oP 29 (.app 2 32 (.t 20) (.t 28)) [20,28]),(11,oP 30 (.fa 1 (.t 3)) []),(12,⟨none,.st 1
(.t 30) (.t 29),none,[],[29,30]⟩)]))) (.reg false [(0,oP 31 (.bin .add (.t 15) (.c (.int .i64 1))) [15]),(1,oT 15 31 [31])]))))
abbrev B64 : CCode := (sR [(0,oP 1 (.box 2 (.t 0)) [0]),(1,oP 2 (.al [.nils,.nils]) [])] (sR [(0,oP 6 (.bsl 3 0 [.str [],.int .i64 (0),.int .i64 (0)] []) []),(1,oP 7 (.fa 0 (.t 1)) []),(2,oP 8 (.ld 1 false (.t 7))
[7]),(3,oP 9 (.app 3 32 (.t 6) (.t 8)) [6,8]),(4,oP 10 (.bsl 2 0 [.int .i64 (0),.nils] []) []),(5,oP 11 (.bld [.nils,.nils] [(0,1,(.t 9)),(1,1,(.t 10))]) [9,10]),(6,oP 3 (.al [.nils,.nils]) []),(7,⟨none,.st 2 (.t 3) (.t
11),none,[],[11]⟩)] (.seq (sR [(0,oP 12 (.fa 1 (.t 1)) []),(1,oP 13 (.ld 1 false (.t 12)) [12]),(2,oP 14 (.len (.t 13)) []),(3,oP 15 (.mv (.c (.int .i64 0))) [])] (.block 0 (.loop L64_0))) (sR [(0,oP 32 (.ld 2 true (.t
3)) []),(1,⟨none,.st 2 (.t 2) (.t 32),none,[],[3,32]⟩)] .ret))))
def C64 : CFn := ⟨33,1,[.m 2 2 true],B64⟩
abbrev L65_0 : CCode := (sR [(0,oP 12 (.bin .lss (.t 11) (.t 10)) [])] (.seq (.cond (.t 12) (sK [12] .skip) (sK [1,9,10,11,12] (.exit 0))) (.seq (.block 1 (sR [(0,oT 13 11 []),(1,oP 14 (.ia 2 (.t 9) (.t 11)) []),(2,oP
15 (.ld 2 true (.t 14)) [14]),(3,oP 5 (.al [.int .i64 (0),.nils]) []),(4,oT 4 13 [13]),(5,⟨none,.st 2 (.t 5) (.t 15),none,[],[15]⟩)] (sR [(0,oT 16 3 []),(1,oP 17 (.len (.t 16)) [16]),(2,oP 18 (.bin .sub (.t 17) (.c
(.int .i64 1))) [17]),(3,oT 6 18 [18])] (.seq (.reg true [(0,oT 19 6 []),(1,oP 20 (.bin .geq (.t 19) (.c (.int .i64 0))) [19]),(2,oT 21 20 [20]),(3,⟨some 22,.fa 0 (.t 1),some (21,true),[],[]⟩),(4,⟨some 23,.ld 1 false
(.t 22),some (21,true),[],[22]⟩),(5,⟨some 24,.fa 1 (.t 1),some (21,true),[],[]⟩),(6,⟨some 25,.ld 1 false (.t 24),some (21,true),[],[24]⟩),(7,⟨some 26,.mv (.t 3),some (21,true),[],[]⟩),(8,⟨some 27,.mv (.t 6),some
(21,true),[],[]⟩),(9,⟨some 28,.ia 1 (.t 26) (.t 27),some (21,true),[],[]⟩),(10,⟨some 29,.ld 1 false (.t 28),some (21,true),[],[28]⟩),(11,⟨some 30,.ia 1 (.t 29) (.c (.int .i64 0)),some (21,true),[],[29]⟩),(12,⟨some
31,.ld 1 false (.t 30),some (21,true),[],[26,27,30]⟩),(13,⟨some 32,.ia 2 (.t 25) (.t 31),some (21,true),[],[25]⟩),(14,⟨some 33,.ld 2 true (.t 32),some (21,true),[],[32]⟩),(15,⟨some 34,.ld 2 true (.t 5),some
(21,true),[],[]⟩),(16,⟨some 35,.call 56 [.t 23,.t 33,.t 34],some (21,true),[],[5,23,31,33,34]⟩),(17,oP 36 (.pick (.t 21) (.t 35) (.c (.bool false))) [21,35])]) (.cond (.t 36) (sK [36] (.reg false [(0,oT 37 3 []),(1,oT
38 6 []),(2,oT 39 3 []),(3,oT 40 6 [6]),(4,oP 41 (.ia 1 (.t 39) (.t 40)) []),(5,oP 42 (.ld 1 false (.t 41)) [41]),(6,oT 43 4 [4]),(7,oP 44 (.bsl 1 1 [.int .i64 (0)] [(0,1,(.t 43))]) [43]),(8,oP 45 (.app 1 8 (.t 42) (.t
44)) [39,40,42,44]),(9,oP 46 (.ia 1 (.t 37) (.t 38)) []),(10,⟨none,.st 1 (.t 46) (.t 45),none,[],[37,38,45,46]⟩)])) (sK [6,36] (.reg false [(0,oT 47 3 [3]),(1,oT 48 4 [4]),(2,oP 49 (.bsl 1 1 [.int .i64 (0)] [(0,1,(.t
48))]) [48]),(3,oP 50 (.bsl 1 1 [.nils] [(0,1,(.t 49))]) [49]),(4,oP 51 (.app 1 24 (.t 47) (.t 50)) [47,50]),(5,oT 3 51 [51])]))))))) (.reg false [(0,oP 52 (.bin .add (.t 11) (.c (.int .i64 1))) [11]),(1,oT 11 52
[52])]))))
abbrev B65 : CCode := (sR [(0,oP 1 (.box 2 (.t 0)) [0]),(1,oP 2 (.mv (.c (.nils))) [2])] (sR [(0,oP 7 (.bsl 1 0 [.nils] []) []),(1,oT 3 7 [7])] (.seq (sR [(0,oP 8 (.fa 1 (.t 1)) []),(1,oP 9 (.ld 1 false (.t 8))
[8]),(2,oP 10 (.len (.t 9)) []),(3,oP 11 (.mv (.c (.int .i64 0))) [])] (.block 0 (.loop L65_0))) (sR [(0,oT 53 3 [3]),(1,oT 2 53 [53])] .ret))))
def C65 : CFn := ⟨54,1,[.t 2],B65⟩
abbrev L66_0 : CCode := (.seq (sR [(0,oT 6 5 []),(1,oT 7 0 []),(2,oP 8 (.len (.t 7)) [7]),(3,oP 9 (.bin .lss (.t 6) (.t 8)) [6,8]),(4,oT 10 9 [9]),(5,⟨some 11,.mv (.t 5),some (10,true),[],[]⟩),(6,⟨some 12,.mv (.t
1),some (10,true),[],[]⟩),(7,⟨some 13,.len (.t 12),some (10,true),[],[12]⟩),(8,⟨some 14,.bin .lss (.t 11) (.t 13),some (10,true),[],[11,13]⟩),(9,oP 15 (.pick (.t 10) (.t 14) (.c (.bool false))) [10,14])] (.cond (.t 15)
(sK [15] .skip) (sK [5,15] (.exit 0)))) (.seq (.block 1 (.seq (.seq (.reg true [(0,oT 18 0 []),(1,oT 19 5 []),(2,oP 20 (.ia 1 (.t 18) (.t 19)) []),(3,oP 21 (.ld 1 false (.t 20)) [18,19,20]),(4,oT 22 1 []),(5,oT 23 5
[]),(6,oP 24 (.ia 1 (.t 22) (.t 23)) []),(7,oP 25 (.ld 1 false (.t 24)) [22,23,24]),(8,oP 26 (.bin .lss (.t 21) (.t 25)) [21,25])]) (.cond (.t 26) (sK [0,1,5,26] (sR [(0,oP 4 (.mv (.c (.int .i64 (-1)))) [])] .ret)) (sK
[26] .skip))) (.seq (.reg true [(0,oT 27 0 []),(1,oT 28 5 []),(2,oP 29 (.ia 1 (.t 27) (.t 28)) []),(3,oP 30 (.ld 1 false (.t 29)) [27,28,29]),(4,oT 31 1 []),(5,oT 32 5 []),(6,oP 33 (.ia 1 (.t 31) (.t 32)) []),(7,oP 34
(.ld 1 false (.t 33)) [31,32,33]),(8,oP 35 (.bin .gtr (.t 30) (.t 34)) [30,34])]) (.cond (.t 35) (sK [0,1,5,35] (sR [(0,oP 4 (.mv (.c (.int .i64 1))) [])] .ret)) (sK [35] .skip))))) (.reg false [(0,oT 16 5 [5]),(1,oP 17
(.bin .add (.t 16) (.c (.int .i64 1))) [16]),(2,oT 5 17 [17])])))
abbrev B66 : CCode := (sR [(0,oP 4 (.mv (.c (.int .i64 0))) [4])] (.seq (sR [(0,oP 5 (.mv (.c (.int .i64 0))) [])] (.block 0 (.loop L66_0))) (.seq (sR [(0,oT 36 0 []),(1,oP 37 (.len (.t 36)) [36]),(2,oT 38 1 []),(3,oP
39 (.len (.t 38)) [38]),(4,oP 40 (.bin .lss (.t 37) (.t 39)) [37,39])] (.cond (.t 40) (sK [0,1,40] (sR [(0,oP 4 (.mv (.c (.int .i64 (-1)))) [])] .ret)) (sK [40] .skip))) (.seq (sR [(0,oT 41 0 [0]),(1,oP 42 (.len (.t
41)) [41]),(2,oT 43 1 [1]),(3,oP 44 (.len (.t 43)) [43]),(4,oP 45 (.bin .gtr (.t 42) (.t 44)) [42,44])] (.cond (.t 45) (sK [45] (sR [(0,oP 4 (.mv (.c (.int .i64 1))) [])] .ret)) (sK [45] .skip))) (sR [(0,oP 4 (.mv (.c
(.int .i64 0))) [])] .ret)))))
def C66 : CFn := ⟨46,2,[.t 4],B66⟩
abbrev B67 : CCode := (sR [(0,oP 1 (.box 3 (.t 0)) [0]),(1,oP 2 (.mv (.c (.bool false))) [2])] (sR [(0,oP 3 (.fa 0 (.t 1)) []),(1,oP 4 (.ld 1 false (.t 3)) [3]),(2,oP 5 (.lens (.t 4)) [4]),(3,oP 6 (.bin .eql (.t 5) (.c
(.int .i64 1))) [5]),(4,oT 7 6 [6]),(5,⟨some 8,.fa 0 (.t 1),some (7,true),[],[]⟩),(6,⟨some 9,.ld 1 false (.t 8),some (7,true),[],[8]⟩),(7,⟨some 10,.ix (.t 9) (.c (.int .i64 0)),some (7,true),[],[9]⟩),(8,⟨some 11,.bin
.geq (.t 10) (.c (.int .u8 (97))),some (7,true),[],[10]⟩),(9,oP 12 (.pick (.t 7) (.t 11) (.c (.bool false))) [7,11]),(10,oT 13 12 [12]),(11,⟨some 14,.fa 0 (.t 1),some (13,true),[],[]⟩),(12,⟨some 15,.ld 1 false (.t
14),some (13,true),[],[14]⟩),(13,⟨some 16,.ix (.t 15) (.c (.int .i64 0)),some (13,true),[],[15]⟩),(14,⟨some 17,.bin .leq (.t 16) (.c (.int .u8 (122))),some (13,true),[],[16]⟩),(15,oP 18 (.pick (.t 13) (.t 17) (.c (.bool
false))) [13,17]),(16,oT 19 18 [18]),(17,⟨some 20,.fa 1 (.t 1),some (19,true),[],[]⟩),(18,⟨some 21,.ld 1 false (.t 20),some (19,true),[],[20]⟩),(19,⟨some 22,.call 21 [.t 21,(.c (.int .i64 1)),(.c (.int .i64 3))],some
(19,true),[],[21]⟩),(20,oP 23 (.pick (.t 19) (.t 22) (.c (.bool false))) [19,22]),(21,oT 24 23 [23]),(22,⟨some 25,.fa 2 (.t 1),some (24,true),[],[]⟩),(23,⟨some 26,.ld 1 false (.t 25),some (24,true),[],[25]⟩),(24,⟨some
27,.fa 1 (.t 1),some (24,true),[],[]⟩),(25,⟨some 28,.ld 1 false (.t 27),some (24,true),[],[1,27]⟩),(26,⟨some 29,.call 21 [.t 26,(.c (.int .i64 0)),.t 28],some (24,true),[],[26,28]⟩),(27,oP 30 (.pick (.t 24) (.t 29) (.c
(.bool false))) [24,29]),(28,oT 2 30 [30])] .ret))
def C67 : CFn := ⟨31,1,[.t 2],B67⟩
abbrev L69_0 : CCode := (.seq (sR [(0,oT 6 5 []),(1,oT 7 1 []),(2,oP 8 (.len (.t 7)) [7]),(3,oP 9 (.bin .lss (.t 6) (.t 8)) [6,8])] (.cond (.t 9) (sK [9] .skip) (sK [1,2,5,9] (.exit 0)))) (.seq (.block 1 (.seq (.reg
true [(0,oT 12 1 []),(1,oT 13 5 []),(2,oP 14 (.ia 1 (.t 12) (.t 13)) []),(3,oP 15 (.ld 1 false (.t 14)) [12,13,14]),(4,oP 16 (.fa 1 (.t 2)) []),(5,oP 17 (.ld 1 false (.t 16)) [16]),(6,oP 18 (.len (.t 17)) [17]),(7,oP 19
(.bin .sub (.t 18) (.c (.int .i64 1))) [18]),(8,oP 20 (.call 21 [.t 15,(.c (.int .i64 0)),.t 19]) [15,19]),(9,oP 21 (.not (.t 20)) [20]),(10,oT 22 21 [21]),(11,⟨some 23,.mv (.t 5),some (22,false),[],[]⟩),(12,⟨some
24,.bin .gtr (.t 23) (.c (.int .i64 0)),some (22,false),[],[23]⟩),(13,⟨some 25,.mv (.t 24),some (22,false),[],[24]⟩),(14,⟨some 26,.mv (.t 1),some (25,true),[],[]⟩),(15,⟨some 27,.mv (.t 5),some
(25,true),[],[]⟩),(16,⟨some 28,.ia 1 (.t 26) (.t 27),some (25,true),[],[]⟩),(17,⟨some 29,.ld 1 false (.t 28),some (25,true),[],[26,27,28]⟩),(18,⟨some 30,.mv (.t 1),some (25,true),[],[]⟩),(19,⟨some 31,.mv (.t 5),some
(25,true),[],[]⟩),(20,⟨some 32,.bin .sub (.t 31) (.c (.int .i64 1)),some (25,true),[],[31]⟩),(21,⟨some 33,.ia 1 (.t 30) (.t 32),some (25,true),[],[]⟩),(22,⟨some 34,.ld 1 false (.t 33),some
(25,true),[],[30,32,33]⟩),(23,⟨some 35,.bin .leq (.t 29) (.t 34),some (25,true),[],[29,34]⟩),(24,⟨some 36,.pick (.t 25) (.t 35) (.c (.bool false)),some (22,false),[],[25,35]⟩),(25,oP 37 (.pick (.t 22) (.c (.bool true))
(.t 36)) [22,36])]) (.cond (.t 37) (sK [1,2,5,37] (sR [(0,oP 4 (.mv (.c (.bool false))) [])] .ret)) (sK [37] .skip)))) (.reg false [(0,oT 10 5 [5]),(1,oP 11 (.bin .add (.t 10) (.c (.int .i64 1))) [10]),(2,oT 5 11
[11])])))
abbrev B69 : CCode := (sR [(0,oP 2 (.box 2 (.t 0)) [0]),(1,oP 4 (.mv (.c (.bool false))) [4])] (.seq (sR [(0,oP 5 (.mv (.c (.int .i64 0))) [])] (.block 0 (.loop L69_0))) (sR [(0,oP 4 (.mv (.c (.bool true))) [])] .ret)))
def C69 : CFn := ⟨38,2,[.t 4],B69⟩
abbrev L70_0 : CCode := (.seq (sR [(0,oT 7 4 []),(1,oP 8 (.fa 1 (.t 1)) []),(2,oP 9 (.ld 1 false (.t 8)) [8]),(3,oP 10 (.len (.t 9)) [9]),(4,oP 11 (.bin .lss (.t 7) (.t 10)) [7,10]),(5,oT 12 11 [11]),(6,⟨some 13,.ld 2
true (.t 1),some (12,true),[],[]⟩),(7,⟨some 14,.call 18 [.t 13],some (12,true),[],[13]⟩),(8,oP 15 (.pick (.t 12) (.t 14) (.c (.bool false))) [12,14])] (.cond (.t 15) (sK [15] .skip) (sK [1,4,15] (.exit 0)))) (.seq
(.block 1 (sR [(0,oP 18 (.ld 2 true (.t 1)) []),(1,oT 19 4 []),(2,oP 20 (.call 82 [.t 18,.t 19]) [18,19]),(3,oT 5 20 [20])] (sR [(0,oT 21 5 []),(1,oP 22 (.ia 1 (.t 21) (.c (.int .i64 0))) []),(2,oP 23 (.ld 1 false (.t
22)) [21,22]),(3,oT 24 4 []),(4,oP 25 (.bin .eql (.t 23) (.t 24)) [23,24])] (.cond (.t 25) (sK [25] (.reg false [(0,oT 26 3 [3]),(1,oT 27 5 [5]),(2,oP 28 (.bsl 1 1 [.nils] [(0,1,(.t 27))]) [27]),(3,oP 29 (.app 1 24 (.t
26) (.t 28)) [26,28]),(4,oT 3 29 [29])])) (sK [5,25] .skip))))) (.reg false [(0,oT 16 4 [4]),(1,oP 17 (.bin .add (.t 16) (.c (.int .i64 1))) [16]),(2,oT 4 17 [17])])))
abbrev B70 : CCode := (sR [(0,oP 1 (.box 2 (.t 0)) [0]),(1,oP 2 (.mv (.c (.nils))) [2])] (sR [(0,oP 6 (.bsl 1 0 [.nils] []) []),(1,oT 3 6 [6])] (.seq (sR [(0,oP 4 (.mv (.c (.int .i64 0))) [])] (.block 0 (.loop L70_0)))
(sR [(0,oT 30 3 [3]),(1,oT 2 30 [30])] .ret))))
def C70 : CFn := ⟨31,1,[.t 2],B70⟩
abbrev B72 : CCode := (sR [(0,oP 1 (.box 3 (.t 0)) [0]),(1,oP 2 (.mv (.c (.bool false))) [2])] (sR [(0,oP 3 (.fa 0 (.t 1)) []),(1,oP 4 (.ld 1 false (.t 3)) [3]),(2,oP 5 (.lens (.t 4)) [4]),(3,oP 6 (.bin .eql (.t 5) (.c
(.int .i64 1))) [5]),(4,oT 7 6 [6]),(5,⟨some 8,.fa 0 (.t 1),some (7,true),[],[]⟩),(6,⟨some 9,.ld 1 false (.t 8),some (7,true),[],[8]⟩),(7,⟨some 10,.ix (.t 9) (.c (.int .i64 0)),some (7,true),[],[9]⟩),(8,⟨some 11,.bin
.geq (.t 10) (.c (.int .u8 (97))),some (7,true),[],[10]⟩),(9,oP 12 (.pick (.t 7) (.t 11) (.c (.bool false))) [7,11]),(10,oT 13 12 [12]),(11,⟨some 14,.fa 0 (.t 1),some (13,true),[],[]⟩),(12,⟨some 15,.ld 1 false (.t
14),some (13,true),[],[14]⟩),(13,⟨some 16,.ix (.t 15) (.c (.int .i64 0)),some (13,true),[],[15]⟩),(14,⟨some 17,.bin .leq (.t 16) (.c (.int .u8 (122))),some (13,true),[],[16]⟩),(15,oP 18 (.pick (.t 13) (.t 17) (.c (.bool
false))) [13,17]),(16,oT 19 18 [18]),(17,⟨some 20,.fa 1 (.t 1),some (19,true),[],[]⟩),(18,⟨some 21,.ld 1 false (.t 20),some (19,true),[],[20]⟩),(19,⟨some 22,.call 26 [.t 21,(.c (.int .i64 1)),(.c (.int .i64 3))],some
(19,true),[],[21]⟩),(20,oP 23 (.pick (.t 19) (.t 22) (.c (.bool false))) [19,22]),(21,oT 24 23 [23]),(22,⟨some 25,.fa 2 (.t 1),some (24,true),[],[]⟩),(23,⟨some 26,.ld 1 false (.t 25),some (24,true),[],[25]⟩),(24,⟨some
27,.fa 1 (.t 1),some (24,true),[],[]⟩),(25,⟨some 28,.ld 1 false (.t 27),some (24,true),[],[1,27]⟩),(26,⟨some 29,.call 26 [.t 26,(.c (.int .i64 0)),.t 28],some (24,true),[],[26,28]⟩),(27,oP 30 (.pick (.t 24) (.t 29) (.c
(.bool false))) [24,29]),(28,oT 2 30 [30])] .ret))
def C72 : CFn := ⟨31,1,[.t 2],B72⟩
abbrev B73 : CCode := (sR [(0,oP 2 (.mv (.c (.bool false))) [2])] (sR [(0,oT 3 0 [0]),(1,oP 4 (.call 54 [.t 3,(.c (.fn 83 []))]) [3]),(2,oP 5 (.not (.t 4)) [4]),(3,oT 2 5 [5])] .ret))
def C73 : CFn := ⟨6,1,[.t 2],B73⟩
abbrev B74 : CCode := (sR [(0,oP 4 (.mv (.c (.int .i64 0))) [4])] (.seq (.block 0 (sR [(0,oT 6 0 []),(1,oT 7 1 []),(2,oP 8 (.bin .lss (.t 6) (.t 7)) [6,7]),(3,oT 5 8 [8])] (.cond (.t 5) (sK [0,1,5] (sR [(0,oP 4 (.mv (.c
(.int .i64 (-1)))) [])] .ret)) (sK [5] (sR [(0,oT 10 0 [0]),(1,oT 11 1 [1]),(2,oP 12 (.bin .gtr (.t 10) (.t 11)) [10,11]),(3,oT 9 12 [12])] (.cond (.t 9) (sK [9] (sR [(0,oP 4 (.mv (.c (.int .i64 1))) [])] .ret)) (sK [9]
.skip))))))) (sR [(0,oP 4 (.mv (.c (.int .i64 0))) [])] .ret)))
def C74 : CFn := ⟨13,2,[.t 4],B74⟩
abbrev L75_0 : CCode := (sR [(0,oP 12 (.bin .lss (.t 11) (.t 10)) [])] (.seq (.cond (.t 12) (sK [12] .skip) (sK [9,10,11,12] (.exit 0))) (.seq (.block 1 (sR [(0,oT 13 11 []),(1,oP 14 (.ia 1 (.t 9) (.t 11)) []),(2,oP 15
(.ld 1 false (.t 14)) [14]),(3,oT 5 13 [13]),(4,oT 6 15 [15])] (.seq (sR [(0,oT 16 5 []),(1,oT 17 1 []),(2,oP 18 (.len (.t 17)) [17]),(3,oP 19 (.bin .geq (.t 16) (.t 18)) [16,18])] (.cond (.t 19) (sK
[0,1,5,6,9,10,11,19] (sR [(0,oP 4 (.mv (.c (.int .i64 1))) [])] .ret)) (sK [19] .skip))) (sR [(0,oT 20 1 []),(1,oT 21 5 [5]),(2,oP 22 (.ia 1 (.t 20) (.t 21)) []),(3,oP 23 (.ld 1 false (.t 22)) [20,21,22]),(4,oT 7 23
[23])] (sR [(0,oT 24 6 [6]),(1,oT 25 7 [7]),(2,oP 26 (.call 84 [.t 24,.t 25]) [24,25]),(3,oT 8 26 [26])] (sR [(0,oT 27 8 []),(1,oP 28 (.bin .neq (.t 27) (.c (.int .i64 0))) [27])] (.cond (.t 28) (sK [0,1,9,10,11,28] (sR
[(0,oT 29 8 [8]),(1,oT 4 29 [29])] .ret)) (sK [8,28] .skip)))))))) (.reg false [(0,oP 30 (.bin .add (.t 11) (.c (.int .i64 1))) [11]),(1,oT 11 30 [30])]))))
abbrev B75 : CCode := (sR [(0,oP 4 (.mv (.c (.int .i64 0))) [4])] (.seq (sR [(0,oT 9 0 []),(1,oP 10 (.len (.t 9)) []),(2,oP 11 (.mv (.c (.int .i64 0))) [])] (.block 0 (.loop L75_0))) (.seq (sR [(0,oT 31 0 [0]),(1,oP 32
(.len (.t 31)) [31]),(2,oT 33 1 [1]),(3,oP 34 (.len (.t 33)) [33]),(4,oP 35 (.bin .lss (.t 32) (.t 34)) [32,34])] (.cond (.t 35) (sK [35] (sR [(0,oP 4 (.mv (.c (.int .i64 (-1)))) [])] .ret)) (sK [35] .skip))) (sR [(0,oP
4 (.mv (.c (.int .i64 0))) [])] .ret))))
def C75 : CFn := ⟨36,2,[.t 4],B75⟩
abbrev L76_0 : CCode := (sR [(0,oP 9 (.bin .lss (.t 8) (.t 7)) [])] (.seq (.cond (.t 9) (sK [9] .skip) (sK [0,1,7,8,9] (.exit 0))) (.seq (.block 1 (sR [(0,oT 10 8 []),(1,oT 5 10 [10])] (sR [(0,oT 11 1 []),(1,oT 12 0
[]),(2,oT 13 5 []),(3,oP 14 (.ia 1 (.t 12) (.t 13)) []),(4,oP 15 (.ld 1 false (.t 14)) [12,13,14]),(5,oP 16 (.callv (.t 11) [.t 15]) [11,15])] (.cond (.t 16) (sK [0,1,7,8,16] (sR [(0,oT 17 5 [5]),(1,oT 4 17 [17])]
.ret)) (sK [5,16] .skip))))) (.reg false [(0,oP 18 (.bin .add (.t 8) (.c (.int .i64 1))) [8]),(1,oT 8 18 [18])]))))
abbrev B76 : CCode := (sR [(0,oP 4 (.mv (.c (.int .i64 0))) [4])] (.seq (sR [(0,oT 6 0 []),(1,oP 7 (.len (.t 6)) [6]),(2,oP 8 (.mv (.c (.int .i64 0))) [])] (.block 0 (.loop L76_0))) (sR [(0,oP 4 (.mv (.c (.int .i64
(-1)))) [])] .ret)))
def C76 : CFn := ⟨19,2,[.t 4],B76⟩
abbrev L77_0 : CCode := (sR [(0,oP 14 (.bin .lss (.t 13) (.t 12)) [])] (.seq (.cond (.t 14) (sK [14] .skip) (sK [0,1,12,13,14] (.exit 0))) (.seq (.block 1 (sR [(0,oT 15 13 []),(1,oT 5 15 [15])] (.seq (.reg true [(0,oT
16 0 []),(1,oT 17 5 []),(2,oP 18 (.ia 1 (.t 16) (.t 17)) []),(3,oP 19 (.ld 1 false (.t 18)) [16,17,18]),(4,oT 20 1 []),(5,oT 21 5 [5]),(6,oP 22 (.ia 1 (.t 20) (.t 21)) []),(7,oP 23 (.ld 1 false (.t 22))
[20,21,22]),(8,oP 24 (.bin .neq (.t 19) (.t 23)) [19,23])]) (.cond (.t 24) (sK [0,1,12,13,24] (sR [(0,oP 4 (.mv (.c (.bool false))) [])] .ret)) (sK [24] .skip))))) (.reg false [(0,oP 25 (.bin .add (.t 13) (.c (.int .i64
1))) [13]),(1,oT 13 25 [25])]))))
abbrev B77 : CCode := (sR [(0,oP 4 (.mv (.c (.bool false))) [4])] (.seq (sR [(0,oT 6 0 []),(1,oP 7 (.len (.t 6)) [6]),(2,oT 8 1 []),(3,oP 9 (.len (.t 8)) [8]),(4,oP 10 (.bin .neq (.t 7) (.t 9)) [7,9])] (.cond (.t 10)
(sK [0,1,10] (sR [(0,oP 4 (.mv (.c (.bool false))) [])] .ret)) (sK [10] .skip))) (.seq (sR [(0,oT 11 0 []),(1,oP 12 (.len (.t 11)) [11]),(2,oP 13 (.mv (.c (.int .i64 0))) [])] (.block 0 (.loop L77_0))) (sR [(0,oP 4 (.mv
(.c (.bool true))) [])] .ret))))
def C77 : CFn := ⟨26,2,[.t 4],B77⟩
abbrev B78 : CCode := (sR [(0,oP 2 (.mv (.c (.nils))) [2])] (sR [(0,oP 3 (.bld [.str [],.int .i64 (0),.int .i64 (0)] [(0,1,(.c (.str [114]))),(1,1,(.c (.int .i64 2))),(2,1,(.c (.int .i64 1)))]) []),(1,oP 4 (.bld [.str
[],.int .i64 (0),.int .i64 (0)] [(0,1,(.c (.str [115]))),(1,1,(.c (.int .i64 2))),(2,1,(.c (.int .i64 1)))]) []),(2,oT 5 0 []),(3,oP 6 (.bsl 1 4 [.int .i64 (0)] [(0,1,(.c (.int .i64 1))),(1,1,(.c (.int .i64
1))),(2,1,(.c (.int .i64 2))),(3,1,(.c (.int .i64 0)))]) []),(4,oP 7 (.call 79 [.t 5,.t 6]) [5,6]),(5,oP 8 (.bld [.str [],.int .i64 (0),.int .i64 (0)] [(0,1,(.c (.str [116]))),(1,1,(.c (.int .i64 2))),(2,1,(.t 7))])
[7]),(6,oT 9 0 []),(7,oP 10 (.call 37 [.t 9,(.c (.int .i64 2))]) [9]),(8,oP 11 (.bin .add (.c (.int .i64 1)) (.t 10)) [10]),(9,oP 12 (.bld [.str [],.int .i64 (0),.int .i64 (0)] [(0,1,(.c (.str [117]))),(1,1,(.c (.int
.i64 3))),(2,1,(.t 11))]) [11]),(10,oP 13 (.bsl 3 4 [.str [],.int .i64 (0),.int .i64 (0)] [(0,3,(.t 3)),(3,3,(.t 4)),(6,3,(.t 8)),(9,3,(.t 12))]) [3,4,8,12]),(11,oT 2 13 [13])] .ret))
def C78 : CFn := ⟨14,1,[.t 2],B78⟩
abbrev B79 : CCode := (sR [(0,oP 4 (.mv (.c (.int .i64 0))) [4])] (sR [(0,oT 5 1 []),(1,oT 6 0 []),(2,oT 7 1 []),(3,oP 8 (.len (.t 7)) [7]),(4,oP 9 (.call 37 [.t 6,.t 8]) [6,8]),(5,oP 10 (.ia 1 (.t 5) (.t 9)) []),(6,oP
11 (.ld 1 false (.t 10)) [5,9,10]),(7,oT 4 11 [11])] .ret))
def C79 : CFn := ⟨12,2,[.t 4],B79⟩
abbrev L80_0 : CCode := (.seq (.seq (.reg true [(0,oT 33 7 []),(1,oP 34 (.fa 1 (.t 6)) []),(2,oP 35 (.ld 1 false (.t 34)) [34]),(3,oP 36 (.len (.t 35)) [35]),(4,oP 37 (.bin .lss (.t 33) (.t 36)) [33,36]),(5,oT 38 37
[37]),(6,⟨some 39,.fa 1 (.t 6),some (38,true),[],[]⟩),(7,⟨some 40,.ld 1 false (.t 39),some (38,true),[],[39]⟩),(8,⟨some 41,.mv (.t 7),some (38,true),[],[]⟩),(9,⟨some 42,.ia 2 (.t 40) (.t 41),some
(38,true),[],[40]⟩),(10,⟨some 43,.ld 2 true (.t 42),some (38,true),[],[42]⟩),(11,⟨some 44,.ld 2 true (.t 3),some (38,true),[],[]⟩),(12,⟨some 45,.call 42 [.t 43,.t 44],some (38,true),[],[41,43,44]⟩),(13,⟨some 46,.bin
.lss (.t 45) (.c (.int .i64 0)),some (38,true),[],[45]⟩),(14,oP 47 (.pick (.t 38) (.t 46) (.c (.bool false))) [38,46])]) (.cond (.t 47) (sK [47] .skip) (sK [47] (.exit 0)))) (.block 1 (.reg false [(0,oT 48 7 [7]),(1,oP
49 (.bin .add (.t 48) (.c (.int .i64 1))) [48]),(2,oT 7 49 [49])])))
abbrev B80 : CCode := (sR [(0,oP 2 (.box 2 (.t 0)) [0]),(1,oP 3 (.box 2 (.t 1)) [1]),(2,oP 4 (.al [.nils,.nils]) []),(3,oP 5 (.mv (.c (.bool false))) [5])] (sR [(0,oP 9 (.ld 2 true (.t 2)) []),(1,oP 10 (.call 85 [.t 9])
[9]),(2,oP 6 (.al [.nils,.nils]) []),(3,⟨none,.st 2 (.t 6) (.t 10),none,[],[10]⟩)] (.seq (sR [(0,oP 11 (.ld 2 true (.t 2)) []),(1,oP 12 (.call 18 [.t 11]) [11]),(2,oP 13 (.not (.t 12)) [12]),(3,oT 14 13 [13]),(4,⟨some
15,.fa 0 (.t 2),some (14,false),[],[]⟩),(5,⟨some 16,.ld 1 false (.t 15),some (14,false),[],[15]⟩),(6,⟨some 17,.ld 2 true (.t 3),some (14,false),[],[]⟩),(7,⟨some 18,.call 41 [.t 16,.t 17],some
(14,false),[],[16,17]⟩),(8,⟨some 19,.not (.t 18),some (14,false),[],[18]⟩),(9,oP 20 (.pick (.t 14) (.c (.bool true)) (.t 19)) [14,19]),(10,oT 21 20 [20]),(11,⟨some 22,.ld 2 true (.t 2),some (21,false),[],[]⟩),(12,⟨some
23,.ld 2 true (.t 3),some (21,false),[],[]⟩),(13,⟨some 24,.call 86 [.t 22,.t 23],some (21,false),[],[22,23]⟩),(14,oP 25 (.pick (.t 21) (.c (.bool true)) (.t 24)) [21,24]),(15,oT 26 25 [25]),(16,⟨some 27,.fa 1 (.t
2),some (26,false),[],[]⟩),(17,⟨some 28,.ld 1 false (.t 27),some (26,false),[],[27]⟩),(18,⟨some 29,.len (.t 28),some (26,false),[],[2,28]⟩),(19,⟨some 30,.bin .eql (.t 29) (.c (.int .i64 14)),some
(26,false),[],[29]⟩),(20,oP 31 (.pick (.t 26) (.c (.bool true)) (.t 30)) [26,30])] (.cond (.t 31) (sK [3,31] (sR [(0,oP 32 (.ld 2 true (.t 6)) []),(1,⟨none,.st 2 (.t 4) (.t 32),none,[],[6,32]⟩),(2,oP 5 (.mv (.c (.bool
false))) [])] .ret)) (sK [31] .skip))) (sR [(0,oP 7 (.mv (.c (.int .i64 0))) [])] (.seq (.block 0 (.loop L80_0)) (.seq (.reg true [(0,oP 50 (.fa 0 (.t 3)) []),(1,oP 51 (.ld 1 false (.t 50)) []),(2,oP 52 (.bsl 1 0 [.int
.i64 (0)] []) []),(3,oP 53 (.fa 1 (.t 3)) []),(4,oP 54 (.ld 1 false (.t 53)) [53]),(8,oP 58 (.fa 1 (.t 6)) []),(9,oP 59 (.ld 1 false (.t 58)) []),(10,oT 60 7 []),(11,oP 61 (.sls 2 (.t 59) (some (.t 60)) none none)
[59,60]),(5,⟨some 55,.app 1 8 (.t 52) (.t 54),none,[(50,1),(58,1)],[3,50,52,54,58]⟩),(6,oP 56 (.bld [.int .i64 (0),.nils] [(0,1,(.t 51)),(1,1,(.t 55))]) [51,55]),(7,oP 57 (.bsl 2 1 [.int .i64 (0),.nils] [(0,2,(.t 56))])
[56]),(12,oP 62 (.app 2 32 (.t 57) (.t 61)) [57,61]),(13,oT 8 62 [62])]) (sR [(0,oP 63 (.bsl 2 0 [.int .i64 (0),.nils] []) []),(1,oP 64 (.fa 1 (.t 6)) []),(2,oP 65 (.ld 1 false (.t 64)) [64]),(3,oT 66 7 [7]),(4,oP 67
(.sls 2 (.t 65) none (some (.t 66)) none) [65,66]),(5,oP 68 (.app 2 32 (.t 63) (.t 67)) [63,67]),(6,oT 69 8 [8]),(7,oP 70 (.app 2 32 (.t 68) (.t 69)) [68,69]),(8,oP 71 (.fa 1 (.t 6)) []),(9,⟨none,.st 1 (.t 71) (.t
70),none,[],[70,71]⟩)] (sR [(0,oP 72 (.ld 2 true (.t 6)) []),(1,⟨none,.st 2 (.t 4) (.t 72),none,[],[6,72]⟩),(2,oP 5 (.mv (.c (.bool true))) [])] .ret))))))))
def C80 : CFn := ⟨73,2,[.m 4 2 true,.t 5],B80⟩
abbrev L81_0 : CCode := (.seq (.seq (.reg true [(0,oP 13 (.fa 1 (.t 7)) []),(1,oP 14 (.ld 1 false (.t 13)) [13]),(2,oP 15 (.len (.t 14)) [14]),(3,oT 16 1 []),(4,oP 17 (.fa 0 (.t 7)) []),(5,oP 18 (.ld 1 false (.t 17))
[17]),(6,oP 19 (.ia 3 (.t 16) (.t 18)) []),(7,oP 20 (.fa 1 (.t 19)) [19]),(8,oP 21 (.ld 1 false (.t 20)) [16,18,20]),(9,oP 22 (.bin .lss (.t 15) (.t 21)) [15,21])]) (.cond (.t 22) (sK [22] .skip) (sK [1,2,22] (.exit
0)))) (.block 1 (.reg true [(0,oP 23 (.fa 1 (.t 7)) []),(1,oP 24 (.ld 1 false (.t 23)) []),(2,oT 25 0 []),(3,oT 26 2 []),(4,⟨some 27,.call 37 [.t 25,.t 26],none,[(23,1)],[23,25,26]⟩),(5,oP 28 (.bsl 1 1 [.int .i64 (0)]
[(0,1,(.t 27))]) [27]),(6,oP 29 (.app 1 8 (.t 24) (.t 28)) [24,28]),(7,oP 30 (.fa 1 (.t 7)) []),(8,⟨none,.st 1 (.t 30) (.t 29),none,[],[29,30]⟩)])))
abbrev B81 : CCode := (sR [(0,oP 6 (.al [.int .i64 (0),.nils]) [])] (sR [(0,oT 8 0 []),(1,oT 9 1 []),(2,oP 10 (.len (.t 9)) [9]),(3,oP 11 (.call 37 [.t 8,.t 10]) [8,10]),(4,oP 12 (.bld [.int .i64 (0),.nils] [(0,1,(.t
11))]) [11]),(5,oP 7 (.al [.int .i64 (0),.nils]) []),(6,⟨none,.st 2 (.t 7) (.t 12),none,[],[12]⟩)] (.seq (.block 0 (.loop L81_0)) (sR [(0,oP 31 (.ld 2 true (.t 7)) []),(1,⟨none,.st 2 (.t 6) (.t 31),none,[],[7,31]⟩)]
.ret))))
def C81 : CFn := ⟨32,3,[.m 6 2 true],B81⟩
abbrev L82_0 : CCode := (.seq (sR [(0,oT 8 6 []),(1,oP 9 (.fa 1 (.t 2)) []),(2,oP 10 (.ld 1 false (.t 9)) [9]),(3,oP 11 (.len (.t 10)) [10]),(4,oP 12 (.bin .lss (.t 8) (.t 11)) [8,11]),(5,oT 13 12 [12]),(6,⟨some 14,.ld
2 true (.t 2),some (13,true),[],[]⟩),(7,⟨some 15,.call 18 [.t 14],some (13,true),[],[14]⟩),(8,oP 16 (.pick (.t 13) (.t 15) (.c (.bool false))) [13,15]),(9,oT 17 16 [16]),(10,⟨some 18,.mv (.t 1),some
(17,true),[],[]⟩),(11,⟨some 19,.fa 1 (.t 2),some (17,true),[],[]⟩),(12,⟨some 20,.ld 1 false (.t 19),some (17,true),[],[19]⟩),(13,⟨some 21,.len (.t 20),some (17,true),[],[20]⟩),(14,⟨some 22,.bin .sub (.t 21) (.c (.int
.i64 1)),some (17,true),[],[21]⟩),(15,⟨some 23,.call 21 [.t 18,(.c (.int .i64 0)),.t 22],some (17,true),[],[18,22]⟩),(16,oP 24 (.pick (.t 17) (.t 23) (.c (.bool false))) [17,23])] (.cond (.t 24) (sK [24] .skip) (sK
[1,2,6,24] (.exit 0)))) (.seq (.block 1 (.seq (.reg true [(0,oP 27 (.fa 0 (.t 2)) []),(1,oP 28 (.ld 1 false (.t 27)) [27]),(2,oP 29 (.fa 1 (.t 2)) []),(3,oP 30 (.ld 1 false (.t 29)) [29]),(4,oT 31 1 []),(5,oP 32 (.ia 2
(.t 30) (.t 31)) [30]),(6,oP 33 (.ld 2 true (.t 32)) [32]),(7,oP 34 (.fa 1 (.t 2)) []),(8,oP 35 (.ld 1 false (.t 34)) [34]),(9,oT 36 6 []),(10,oP 37 (.ia 2 (.t 35) (.t 36)) [35]),(11,oP 38 (.ld 2 true (.t 37))
[37]),(12,oP 39 (.call 87 [.t 28,.t 33,.t 38]) [28,31,33,36,38])]) (.cond (.t 39) (sK [39] (.reg false [(0,oT 40 5 [5]),(1,oT 41 6 []),(2,oP 42 (.bsl 1 1 [.int .i64 (0)] [(0,1,(.t 41))]) [41]),(3,oP 43 (.app 1 8 (.t 40)
(.t 42)) [40,42]),(4,oT 5 43 [43])])) (sK [39] .skip)))) (.reg false [(0,oT 25 6 [6]),(1,oP 26 (.bin .add (.t 25) (.c (.int .i64 1))) [25]),(2,oT 6 26 [26])])))
abbrev B82 : CCode := (sR [(0,oP 2 (.box 2 (.t 0)) [0]),(1,oP 4 (.mv (.c (.nils))) [4])] (sR [(0,oP 7 (.bsl 1 0 [.int .i64 (0)] []) []),(1,oT 5 7 [7])] (.seq (sR [(0,oP 6 (.mv (.c (.int .i64 0))) [])] (.block 0 (.loop
L82_0))) (sR [(0,oT 44 5 [5]),(1,oT 4 44 [44])] .ret))))
def C82 : CFn := ⟨45,2,[.t 4],B82⟩
abbrev B83 : CCode := (sR [(0,oP 2 (.mv (.c (.bool false))) [2])] (sR [(0,oT 3 0 [0]),(1,oP 4 (.call 26 [.t 3,(.c (.int .i64 0)),(.c (.int .i64 9))]) [3]),(2,oP 5 (.not (.t 4)) [4]),(3,oT 2 5 [5])] .ret))
def C83 : CFn := ⟨6,1,[.t 2],B83⟩
abbrev B84 : CCode := (sR [(0,oP 4 (.mv (.c (.int .i64 0))) [4])] (sR [(0,oT 7 0 []),(1,oP 8 (.call 88 [.t 7]) [7]),(2,oT 5 8 [8])] (sR [(0,oT 9 1 []),(1,oP 10 (.call 88 [.t 9]) [9]),(2,oT 6 10 [10])] (.seq (sR [(0,oT
11 5 [5])] (.cond (.t 11) (sK [0,1,11] (.seq (sR [(0,oT 12 6 [6])] (.cond (.t 12) (sK [12] (sR [(0,oP 4 (.mv (.c (.int .i64 0))) [])] .ret)) (sK [12] .skip))) (sR [(0,oP 4 (.mv (.c (.int .i64 (-1)))) [])] .ret))) (sK
[11] .skip))) (.seq (sR [(0,oT 13 6 [6])] (.cond (.t 13) (sK [0,1,13] (sR [(0,oP 4 (.mv (.c (.int .i64 1))) [])] .ret)) (sK [13] .skip))) (.seq (sR [(0,oT 14 0 []),(1,oT 15 1 []),(2,oP 16 (.bin .lss (.t 14) (.t 15))
[14,15])] (.cond (.t 16) (sK [0,1,16] (sR [(0,oP 4 (.mv (.c (.int .i64 (-1)))) [])] .ret)) (sK [16] .skip))) (.seq (sR [(0,oT 17 0 [0]),(1,oT 18 1 [1]),(2,oP 19 (.bin .gtr (.t 17) (.t 18)) [17,18])] (.cond (.t 19) (sK
[19] (sR [(0,oP 4 (.mv (.c (.int .i64 1))) [])] .ret)) (sK [19] .skip))) (sR [(0,oP 4 (.mv (.c (.int .i64 0))) [])] .ret))))))))
def C84 : CFn := ⟨20,2,[.t 4],B84⟩
abbrev L85_0 : CCode := (.seq (sR [(0,oT 10 4 []),(1,oP 11 (.fa 1 (.t 1)) []),(2,oP 12 (.ld 1 false (.t 11)) [11]),(3,oP 13 (.len (.t 12)) [12]),(4,oP 14 (.bin .lss (.t 10) (.t 13)) [10,13])] (.cond (.t 14) (sK [14]
.skip) (sK [1,4,14] (.exit 0)))) (.seq (.block 1 (.reg true [(0,oP 17 (.fa 1 (.t 3)) []),(1,oP 18 (.ld 1 false (.t 17)) []),(2,oP 19 (.fa 1 (.t 1)) []),(3,oP 20 (.ld 1 false (.t 19)) []),(4,oT 21 4 []),(5,oP 22 (.ia 2
(.t 20) (.t 21)) [20]),(6,oP 23 (.fa 0 (.t 22)) [22]),(7,oP 24 (.ld 1 false (.t 23)) []),(8,oP 25 (.bsl 1 0 [.int .i64 (0)] []) []),(9,oP 26 (.fa 1 (.t 1)) []),(10,oP 27 (.ld 1 false (.t 26)) [26]),(11,oT 28 4
[]),(12,oP 29 (.ia 2 (.t 27) (.t 28)) [27]),(13,oP 30 (.fa 1 (.t 29)) [29]),(14,oP 31 (.ld 1 false (.t 30)) [30]),(15,⟨some 32,.app 1 8 (.t 25) (.t 31),none,[(17,1),(19,1),(23,1)],[17,19,21,23,25,28,31]⟩),(16,oP 33
(.bld [.int .i64 (0),.nils] [(0,1,(.t 24)),(1,1,(.t 32))]) [24,32]),(17,oP 34 (.bsl 2 1 [.int .i64 (0),.nils] [(0,2,(.t 33))]) [33]),(18,oP 35 (.app 2 32 (.t 18) (.t 34)) [18,34]),(19,oP 36 (.fa 1 (.t 3))
[]),(20,⟨none,.st 1 (.t 36) (.t 35),none,[],[35,36]⟩)])) (.reg false [(0,oT 15 4 [4]),(1,oP 16 (.bin .add (.t 15) (.c (.int .i64 1))) [15]),(2,oT 4 16 [16])])))
abbrev B85 : CCode := (sR [(0,oP 1 (.box 2 (.t 0)) [0]),(1,oP 2 (.al [.nils,.nils]) [])] (sR [(0,oP 5 (.bsl 3 0 [.str [],.int .i64 (0),.int .i64 (0)] []) []),(1,oP 6 (.fa 0 (.t 1)) []),(2,oP 7 (.ld 1 false (.t 6))
[6]),(3,oP 8 (.app 3 32 (.t 5) (.t 7)) [5,7]),(4,oP 9 (.bld [.nils,.nils] [(0,1,(.t 8))]) [8]),(5,oP 3 (.al [.nils,.nils]) []),(6,⟨none,.st 2 (.t 3) (.t 9),none,[],[9]⟩)] (.seq (sR [(0,oP 4 (.mv (.c (.int .i64 0))) [])]
(.block 0 (.loop L85_0))) (sR [(0,oP 37 (.ld 2 true (.t 3)) []),(1,⟨none,.st 2 (.t 2) (.t 37),none,[],[3,37]⟩)] .ret))))
def C85 : CFn := ⟨38,1,[.m 2 2 true],B85⟩
abbrev B86 : CCode := (sR [(0,oP 2 (.box 2 (.t 0)) [0]),(1,oP 3 (.box 2 (.t 1)) [1]),(2,oP 4 (.mv (.c (.bool false))) [4])] (sR [(0,oP 5 (.ld 2 true (.t 2)) []),(1,oP 6 (.call 18 [.t 5]) [5]),(2,oT 7 6 [6]),(3,⟨some
8,.ld 2 true (.t 2),some (7,true),[],[]⟩),(4,⟨some 9,.ld 2 true (.t 3),some (7,true),[],[]⟩),(5,⟨some 10,.call 89 [.t 8,.t 9],some (7,true),[],[2,3,8,9]⟩),(6,⟨some 11,.bin .geq (.t 10) (.c (.int .i64 0)),some
(7,true),[],[10]⟩),(7,oP 12 (.pick (.t 7) (.t 11) (.c (.bool false))) [7,11]),(8,oT 4 12 [12])] .ret))
def C86 : CFn := ⟨13,2,[.t 4],B86⟩
abbrev B87 : CCode := (sR [(0,oP 4 (.box 2 (.t 1)) [1]),(1,oP 5 (.box 2 (.t 2)) [2]),(2,oP 6 (.mv (.c (.bool false))) [6])] (.seq (.reg true [(0,oT 7 0 []),(1,oP 8 (.ld 2 true (.t 4)) []),(2,oP 9 (.call 41 [.t 7,.t 8])
[7,8]),(3,oT 10 9 [9]),(4,⟨some 11,.mv (.t 0),some (10,true),[],[]⟩),(5,⟨some 12,.ld 2 true (.t 5),some (10,true),[],[]⟩),(6,⟨some 13,.call 41 [.t 11,.t 12],some (10,true),[],[11,12]⟩),(7,oP 14 (.pick (.t 10) (.t 13)
(.c (.bool false))) [10,13]),(8,oT 15 14 [14]),(9,⟨some 16,.fa 0 (.t 4),some (15,true),[],[]⟩),(10,⟨some 17,.ld 1 false (.t 16),some (15,true),[],[16]⟩),(11,⟨some 18,.fa 0 (.t 5),some (15,true),[],[]⟩),(12,⟨some 19,.ld
1 false (.t 18),some (15,true),[],[18]⟩),(13,⟨some 20,.bin .eql (.t 17) (.t 19),some (15,true),[],[17,19]⟩),(14,oP 21 (.pick (.t 15) (.t 20) (.c (.bool false))) [15,20]),(15,oT 22 21 [21]),(16,⟨some 23,.mv (.t 0),some
(22,true),[],[]⟩),(17,⟨some 24,.ld 2 true (.t 4),some (22,true),[],[]⟩),(19,⟨some 26,.mv (.t 0),some (22,true),[],[]⟩),(20,⟨some 27,.ld 2 true (.t 5),some (22,true),[],[]⟩),(18,⟨some 25,.call 90 [.t 23,.t 24],some
(22,true),[(5,2)],[4,23,24]⟩),(21,⟨some 28,.call 90 [.t 26,.t 27],some (22,true),[],[5,26,27]⟩),(22,⟨some 29,.call 66 [.t 25,.t 28],some (22,true),[],[25,28]⟩),(23,⟨some 30,.bin .eql (.t 29) (.c (.int .i64 0)),some
(22,true),[],[29]⟩),(24,oP 31 (.pick (.t 22) (.t 30) (.c (.bool false))) [22,30]),(25,oT 6 31 [31])]) .ret))
def C87 : CFn := ⟨32,3,[.t 6],B87⟩
abbrev B88 : CCode := (sR [(0,oP 2 (.mv (.c (.bool false))) [2])] (sR [(0,oT 3 0 []),(1,oT 4 0 [0]),(2,oP 5 (.bin .neq (.t 3) (.t 4)) [3,4]),(3,oT 2 5 [5])] .ret))
def C88 : CFn := ⟨6,1,[.t 2],B88⟩
abbrev L89_0 : CCode := (.seq (sR [(0,oT 6 5 []),(1,oP 7 (.fa 1 (.t 2)) []),(2,oP 8 (.ld 1 false (.t 7)) [7]),(3,oP 9 (.len (.t 8)) [8]),(4,oP 10 (.bin .lss (.t 6) (.t 9)) [6,9])] (.cond (.t 10) (sK [10] .skip) (sK
[2,3,5,10] (.exit 0)))) (.seq (.block 1 (.seq (.reg true [(0,oP 13 (.fa 1 (.t 2)) []),(1,oP 14 (.ld 1 false (.t 13)) [13]),(2,oT 15 5 []),(3,oP 16 (.ia 2 (.t 14) (.t 15)) [14]),(4,oP 17 (.ld 2 true (.t 16)) [16]),(5,oP
18 (.ld 2 true (.t 3)) []),(6,oP 19 (.call 42 [.t 17,.t 18]) [15,17,18]),(7,oP 20 (.bin .eql (.t 19) (.c (.int .i64 0))) [19])]) (.cond (.t 20) (sK [2,3,20] (sR [(0,oT 21 5 [5]),(1,oT 4 21 [21])] .ret)) (sK [20]
.skip)))) (.reg false [(0,oT 11 5 [5]),(1,oP 12 (.bin .add (.t 11) (.c (.int .i64 1))) [11]),(2,oT 5 12 [12])])))
abbrev B89 : CCode := (sR [(0,oP 2 (.box 2 (.t 0)) [0]),(1,oP 3 (.box 2 (.t 1)) [1]),(2,oP 4 (.mv (.c (.int .i64 0))) [4])] (.seq (sR [(0,oP 5 (.mv (.c (.int .i64 0))) [])] (.block 0 (.loop L89_0))) (sR [(0,oP 4 (.mv
(.c (.int .i64 (-1)))) [])] .ret)))
def C89 : CFn := ⟨22,2,[.t 4],B89⟩
abbrev B90 : CCode := (sR [(0,oP 3 (.box 2 (.t 1)) [1]),(1,oP 4 (.mv (.c (.nils))) [4])] (.seq (sR [(0,oT 5 0 []),(1,oP 6 (.ld 2 true (.t 3)) []),(2,oP 7 (.call 41 [.t 5,.t 6]) [5,6]),(3,oP 8 (.not (.t 7)) [7])] (.cond
(.t 8) (sK [0,3,8] (sR [(0,oP 9 (.bsl 1 0 [.int .i64 (0)] []) []),(1,oT 4 9 [9])] .ret)) (sK [8] .skip))) (.seq (.reg true [(0,oP 10 (.bsl 1 0 [.int .i64 (0)] []) []),(1,oP 11 (.fa 1 (.t 3)) []),(2,oP 12 (.ld 1 false
(.t 11)) [11]),(3,oT 13 0 [0]),(4,oP 14 (.fa 0 (.t 3)) []),(5,oP 15 (.ld 1 false (.t 14)) [14]),(6,oP 16 (.ia 3 (.t 13) (.t 15)) []),(7,oP 17 (.fa 2 (.t 16)) [16]),(8,oP 18 (.ld 1 false (.t 17)) [13,15,17]),(9,oP 19
(.sls 1 (.t 12) none (some (.t 18)) none) [3,12,18]),(10,oP 20 (.app 1 8 (.t 10) (.t 19)) [10,19]),(11,oT 4 20 [20])]) .ret)))
def C90 : CFn := ⟨21,2,[.t 4],B90⟩
theorem chk4 : chkFn Go.Proofs.Try.prog 4 C4 = true := by kernel_rfl
theorem chk6 : chkFn Go.Proofs.Try.prog 6 C6 = true := by kernel_rfl
theorem chk8 : chkFn Go.Proofs.Try.prog 8 C8 = true := by kernel_rfl
theorem chk14 : chkFn Go.Proofs.Try.prog 14 C14 = true := by kernel_rfl
theorem chk15 : chkFn Go.Proofs.Try.prog 15 C15 = true := by kernel_rfl
theorem chk16 : chkFn Go.Proofs.Try.prog 16 C16 = true := by kernel_rfl
theorem chk17 : chkFn Go.Proofs.Try.prog 17 C17 = true := by kernel_rfl
theorem chk18 : chkFn Go.Proofs.Try.prog 18 C18 = true := by kernel_rfl
theorem chk21 : chkFn Go.Proofs.Try.prog 21 C21 = true := by kernel_rfl
theorem chk22 : chkFn Go.Proofs.Try.prog 22 C22 = true := by kernel_rfl
theorem chk25 : chkFn Go.Proofs.Try.prog 25 C25 = true := by kernel_rfl
theorem chk26 : chkFn Go.Proofs.Try.prog 26 C26 = true := by kernel_rfl
theorem chk27 : chkFn Go.Proofs.Try.prog 27 C27 = true := by kernel_rfl
theorem chk35 : chkFn Go.Proofs.Try.prog 35 C35 = true := by kernel_rfl
theorem chk36 : chkFn Go.Proofs.Try.prog 36 C36 = true := by kernel_rfl
theorem chk37 : chkFn Go.Proofs.Try.prog 37 C37 = true := by kernel_rfl
theorem chk38 : chkFn Go.Proofs.Try.prog 38 C38 = true := by kernel_rfl
theorem chk39 : chkFn Go.Proofs.Try.prog 39 C39 = true := by kernel_rfl
theorem chk40 : chkFn Go.Proofs.Try.prog 40 C40 = true := by kernel_rfl
theorem chk41 : chkFn Go.Proofs.Try.prog 41 C41 = true := by kernel_rfl
theorem chk42 : chkFn Go.Proofs.Try.prog 42 C42 = true := by kernel_rfl
theorem chk43 : chkFn Go.Proofs.Try.prog 43 C43 = true := by kernel_rfl
theorem chk46 : chkFn Go.Proofs.Try.prog 46 C46 = true := by kernel_rfl
theorem chk47 : chkFn Go.Proofs.Try.prog 47 C47 = true := by kernel_rfl
theorem chk50 : chkFn Go.Proofs.Try.prog 50 C50 = true := by kernel_rfl
theorem chk51 : chkFn Go.Proofs.Try.prog 51 C51 = true := by kernel_rfl
theorem chk52 : chkFn Go.Proofs.Try.prog 52 C52 = true := by kernel_rfl
theorem chk53 : chkFn Go.Proofs.Try.prog 53 C53 = true := by kernel_rfl
theorem chk54 : chkFn Go.Proofs.Try.prog 54 C54 = true := by kernel_rfl
theorem chk55 : chkFn Go.Proofs.Try.prog 55 C55 = true := by kernel_rfl
theorem chk56 : chkFn Go.Proofs.Try.prog 56 C56 = true := by kernel_rfl
theorem chk57 : chkFn Go.Proofs.Try.prog 57 C57 = true := by kernel_rfl
theorem chk61 : chkFn Go.Proofs.Try.prog 61 C61 = true := by kernel_rfl
theorem chk62 : chkFn Go.Proofs.Try.prog 62 C62 = true := by kernel_rfl
theorem chk63 : chkFn Go.Proofs.Try.prog 63 C63 = true := by kernel_rfl
theorem chk64 : chkFn Go.Proofs.Try.prog 64 C64 = true := by kernel_rfl
theorem chk65 : chkFn Go.Proofs.Try.prog 65 C65 = true := by kernel_rfl
theorem chk66 : chkFn Go.Proofs.Try.prog 66 C66 = true := by kernel_rfl
theorem chk67 : chkFn Go.Proofs.Try.prog 67 C67 = true := by kernel_rfl
theorem chk69 : chkFn Go.Proofs.Try.prog 69 C69 = true := by kernel_rfl
theorem chk70 : chkFn Go.Proofs.Try.prog 70 C70 = true := by kernel_rfl
theorem chk72 : chkFn Go.Proofs.Try.prog 72 C72 = true := by kernel_rfl
theorem chk73 : chkFn Go.Proofs.Try.prog 73 C73 = true := by kernel_rfl
theorem chk74 : chkFn Go.Proofs.Try.prog 74 C74 = true := by kernel_rfl
theorem chk75 : chkFn Go.Proofs.Try.prog 75 C75 = true := by kernel_rfl
theorem chk76 : chkFn Go.Proofs.Try.prog 76 C76 = true := by kernel_rfl
theorem chk77 : chkFn Go.Proofs.Try.prog 77 C77 = true := by kernel_rfl
theorem chk78 : chkFn Go.Proofs.Try.prog 78 C78 = true := by kernel_rfl
theorem chk79 : chkFn Go.Proofs.Try.prog 79 C79 = true := by kernel_rfl
theorem chk80 : chkFn Go.Proofs.Try.prog 80 C80 = true := by kernel_rfl
theorem chk81 : chkFn Go.Proofs.Try.prog 81 C81 = true := by kernel_rfl
theorem chk82 : chkFn Go.Proofs.Try.prog 82 C82 = true := by kernel_rfl
theorem chk83 : chkFn Go.Proofs.Try.prog 83 C83 = true := by kernel_rfl
theorem chk84 : chkFn Go.Proofs.Try.prog 84 C84 = true := by kernel_rfl
theorem chk85 : chkFn Go.Proofs.Try.prog 85 C85 = true := by kernel_rfl
theorem chk86 : chkFn Go.Proofs.Try.prog 86 C86 = true := by kernel_rfl
theorem chk87 : chkFn Go.Proofs.Try.prog 87 C87 = true := by kernel_rfl
theorem chk88 : chkFn Go.Proofs.Try.prog 88 C88 = true := by kernel_rfl
theorem chk89 : chkFn Go.Proofs.Try.prog 89 C89 = true := by kernel_rfl
theorem chk90 : chkFn Go.Proofs.Try.prog 90 C90 = true := by kernel_rfl
def Tab (f : Nat) : Option CFn :=
  match f with
  | 4 => some C4
  | 6 => some C6
  | 8 => some C8
  | 14 => some C14
  | 15 => some C15
  | 16 => some C16
  | 17 => some C17
  | 18 => some C18
  | 21 => some C21
  | 22 => some C22
  | 25 => some C25
  | 26 => some C26
  | 27 => some C27
  | 35 => some C35
  | 36 => some C36
  | 37 => some C37
  | 38 => some C38
  | 39 => some C39
  | 40 => some C40
  | 41 => some C41
  | 42 => some C42
  | 43 => some C43
  | 46 => some C46
  | 47 => some C47
  | 50 => some C50
  | 51 => some C51
  | 52 => some C52
  | 53 => some C53
  | 54 => some C54
  | 55 => some C55
  | 56 => some C56
  | 57 => some C57
  | 61 => some C61
  | 62 => some C62
  | 63 => some C63
  | 64 => some C64
  | 65 => some C65
  | 66 => some C66
  | 67 => some C67
  | 69 => some C69
  | 70 => some C70
  | 72 => some C72
  | 73 => some C73
  | 74 => some C74
  | 75 => some C75
  | 76 => some C76
  | 77 => some C77
  | 78 => some C78
  | 79 => some C79
  | 80 => some C80
  | 81 => some C81
  | 82 => some C82
  | 83 => some C83
  | 84 => some C84
  | 85 => some C85
  | 86 => some C86
  | 87 => some C87
  | 88 => some C88
  | 89 => some C89
  | 90 => some C90
  | _ => none
theorem tabOk : TabOk Go.Proofs.Try.prog Tab := by
  intro f cf h
  unfold Tab at h
  split at h <;> simp only [Option.some.injEq, reduceCtorEq] at h <;> subst h
  · exact chk4
  · exact chk6
  · exact chk8
  · exact chk14
  · exact chk15
  · exact chk16
  · exact chk17
  · exact chk18
  · exact chk21
  · exact chk22
  · exact chk25
  · exact chk26
  · exact chk27
  · exact chk35
  · exact chk36
  · exact chk37
  · exact chk38
  · exact chk39
  · exact chk40
  · exact chk41
  · exact chk42
  · exact chk43
  · exact chk46
  · exact chk47
  · exact chk50
  · exact chk51
  · exact chk52
  · exact chk53
  · exact chk54
  · exact chk55
  · exact chk56
  · exact chk57
  · exact chk61
  · exact chk62
  · exact chk63
  · exact chk64
  · exact chk65
  · exact chk66
  · exact chk67
  · exact chk69
  · exact chk70
  · exact chk72
  · exact chk73
  · exact chk74
  · exact chk75
  · exact chk76
  · exact chk77
  · exact chk78
  · exact chk79
  · exact chk80
  · exact chk81
  · exact chk82
  · exact chk83
  · exact chk84
  · exact chk85
  · exact chk86
  · exact chk87
  · exact chk88
  · exact chk89
  · exact chk90

end Go.Proofs.YtaanfdjhmhifiaaH
