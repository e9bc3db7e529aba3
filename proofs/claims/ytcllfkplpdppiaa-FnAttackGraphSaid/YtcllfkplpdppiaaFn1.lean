import Derived.Test.YtcllfkplpdppiaaX3
import Derived.Test.YtcllfkplpdppiaaProg
set_option linter.unusedVariables false
set_option maxRecDepth 100000
namespace Go.Proofs.YtcllfkplpdppiaaH
open Go
@[simp] abbrev oP (d : Nat) (p : COp) (k : List Nat) : COper := ⟨some d, p, none, [], k⟩
@[simp] abbrev oT (d a : Nat) (k : List Nat) : COper := ⟨some d, .mv (.t a), none, [], k⟩
@[simp] abbrev oG (d : Nat) (p : COp) (g : Nat) (b : Bool) (k : List Nat) : COper := ⟨some d, p, some (g, b), [], k⟩
abbrev sR (l : List (Nat × COper)) (c : CCode) : CCode := .seq (.reg false l) c
abbrev sK (l : List Nat) (c : CCode) : CCode := .seq (.kill l) c
abbrev L3_0 : CCode := (.seq (sR [(0,oT 69 11 []),(1,oT 70 9 []),(2,oP 71 (.len (.t 70)) [70]),(3,oP 72 (.bin .lss (.t 69) (.t 71)) [69,71])] (.cond (.t 72) (sK [72] .skip) (sK [10,11,72] (.exit 0)))) (.seq (.block 1
(sR [(0,oT 75 10 []),(1,oT 76 9 []),(2,oT 77 11 []),(3,oP 78 (.ia 1 (.t 76) (.t 77)) []),(4,oP 79 (.ld 1 false (.t 78)) [76,77,78]),(5,oP 80 (.call 13 [.t 75,.t 79]) [75,79])] (.cond (.t 80) (sK [3,4,5,6,7,9,10,11,80]
(sR [(0,oP 2 (.mv (.c (.bool false))) [])] .ret)) (sK [80] .skip)))) (.reg false [(0,oT 73 11 [11]),(1,oP 74 (.bin .add (.t 73) (.c (.int .i64 1))) [73]),(2,oT 11 74 [74])])))
abbrev B3 : CCode := (sR [(0,oP 2 (.mv (.c (.bool false))) [2])] (.seq (sR [(0,oT 12 0 []),(1,oP 13 (.call 5 [.t 12]) [12])] (.cond (.t 13) (sK [0,13] (sR [(0,oP 2 (.mv (.c (.bool true))) [])] .ret)) (sK [13] .skip)))
(sR [(0,oT 15 0 [0]),(1,oP 16 (.call 6 [.t 15]) [15]),(2,oT 14 16 [16]),(3,oP 17 (.ex (.t 14) 0) []),(4,oP 18 (.ex (.t 14) 1) []),(5,oP 19 (.ex (.t 14) 2) []),(6,oP 20 (.ex (.t 14) 3) [14]),(7,oP 4 (.al [.int .i64
(0),.nils,.nils]) []),(8,oT 3 17 [17]),(9,⟨none,.st 3 (.t 4) (.t 18),none,[],[18]⟩),(10,oT 5 19 [19]),(11,oT 6 20 [20])] (sR [(0,oT 21 3 []),(1,oP 22 (.ld 3 true (.t 4)) []),(2,oT 23 5 []),(3,oT 24 6 []),(4,oP 25 (.call
7 [.t 21,.t 22,.t 23,.t 24]) [21,22,23,24]),(5,oT 7 25 [25])] (sR [(0,oT 26 3 []),(1,oP 27 (.ld 3 true (.t 4)) []),(2,oT 28 5 []),(3,oT 29 6 []),(4,oP 30 (.call 8 [.t 26,.t 27,.t 28,.t 29]) [26,27,28,29]),(5,oT 8 30
[30])] (.seq (sR [(0,oT 31 7 []),(1,oT 32 3 []),(2,oP 33 (.ld 3 true (.t 4)) []),(3,oT 34 5 []),(4,oT 35 6 []),(5,oP 36 (.call 9 [.t 32,.t 33,.t 34,.t 35]) [32,33,34,35]),(6,oP 37 (.beq true (.t 31) (.t 36))
[31,36]),(7,oT 38 37 [37]),(8,oG 39 (.mv (.t 8)) 38 false []),(9,oG 40 (.mv (.t 3)) 38 false []),(10,oG 41 (.ld 3 true (.t 4)) 38 false []),(11,oG 42 (.mv (.t 5)) 38 false []),(12,oG 43 (.mv (.t 6)) 38 false []),(13,oG
44 (.call 10 [.t 40,.t 41,.t 42,.t 43]) 38 false [40,41,42,43]),(14,oG 45 (.beq true (.t 39) (.t 44)) 38 false [39,44]),(15,oP 46 (.pick (.t 38) (.c (.bool true)) (.t 45)) [38,45]),(16,oT 47 46 [46]),(17,oG 48 (.mv (.t
8)) 47 false [8]),(18,oG 49 (.mv (.t 48)) 47 false [48]),(19,oG 50 (.mv (.t 7)) 49 true []),(20,oG 51 (.not (.t 50)) 49 true [50]),(21,oG 52 (.pick (.t 49) (.t 51) (.c (.bool false))) 47 false [49,51]),(22,oP 53 (.pick
(.t 47) (.c (.bool true)) (.t 52)) [47,52]),(23,oT 54 53 [53]),(24,oG 55 (.mv (.t 3)) 54 false []),(25,oG 56 (.ld 3 true (.t 4)) 54 false []),(26,oG 57 (.mv (.t 5)) 54 false []),(27,oG 58 (.mv (.t 5)) 54 false
[]),(28,oG 59 (.call 7 [.t 55,.t 56,.t 57,.t 58]) 54 false [55,56,57,58]),(29,oP 60 (.pick (.t 54) (.c (.bool true)) (.t 59)) [54,59])] (.cond (.t 60) (sK [3,4,5,6,7,60] (sR [(0,oP 2 (.mv (.c (.bool false))) [])] .ret))
(sK [60] .skip))) (sR [(0,oT 61 3 []),(1,oP 62 (.ld 3 true (.t 4)) []),(2,oT 63 5 []),(3,oP 64 (.call 11 [.t 61,.t 62,.t 63]) [61,62,63]),(4,oT 9 64 [64])] (sR [(0,oT 65 3 []),(1,oP 66 (.ld 3 true (.t 4)) []),(2,oT 67 5
[]),(3,oP 68 (.call 12 [.t 65,.t 66,.t 67]) [65,66,67]),(4,oT 10 68 [68])] (.seq (sR [(0,oP 11 (.mv (.c (.int .i64 0))) [])] (.block 0 (.loop L3_0))) (sR [(0,oT 81 9 [9]),(1,oT 82 3 []),(2,oP 83 (.ld 3 true (.t 4))
[]),(3,oT 84 5 []),(4,oP 85 (.call 15 [.t 82,.t 83,.t 84]) [82,83,84]),(5,oP 86 (.call 14 [.t 81,.t 85]) [81,85]),(6,oT 87 86 [86]),(7,oG 88 (.mv (.t 7)) 87 true []),(8,oG 89 (.not (.t 88)) 87 true [88]),(9,oG 90 (.mv
(.t 89)) 87 true [89]),(10,oG 91 (.mv (.t 3)) 90 false []),(11,oG 92 (.ld 3 true (.t 4)) 90 false []),(12,oG 93 (.mv (.t 5)) 90 false []),(13,oG 94 (.mv (.t 6)) 90 false []),(14,oG 95 (.call 16 [.t 91,.t 92,.t 93,.t
94]) 90 false [91,92,93,94]),(15,oG 96 (.pick (.t 90) (.c (.bool true)) (.t 95)) 87 true [90,95]),(16,oP 97 (.pick (.t 87) (.t 96) (.c (.bool false))) [87,96]),(17,oT 98 97 [97]),(18,oG 99 (.mv (.t 7)) 98 true
[7]),(19,oG 100 (.not (.t 99)) 98 true [99]),(20,oG 101 (.mv (.t 100)) 98 true [100]),(21,oG 102 (.mv (.t 3)) 101 false []),(22,oG 103 (.ld 3 true (.t 4)) 101 false []),(23,oG 104 (.mv (.t 6)) 101 false [6]),(24,oG 105
(.mv (.t 5)) 101 false [5]),(25,oG 106 (.call 7 [.t 102,.t 103,.t 104,.t 105]) 101 false [102,103,104,105]),(26,oG 107 (.not (.t 106)) 101 false [106]),(27,oG 108 (.pick (.t 101) (.c (.bool true)) (.t 107)) 98 true
[101,107]),(28,oG 109 (.mv (.t 108)) 98 true [108]),(29,oG 110 (.mv (.t 3)) 109 false [3]),(30,oG 111 (.ld 3 true (.t 4)) 109 false []),(31,oG 112 (.call 17 [.t 110,.t 111]) 109 false [4,110,111]),(32,oG 113 (.pick (.t
109) (.c (.bool true)) (.t 112)) 98 true [109,112]),(33,oP 114 (.pick (.t 98) (.t 113) (.c (.bool false))) [98,113]),(34,oT 2 114 [114])] .ret))))))))))
def C3 : CFn := ⟨115,1,[.t 2],B3⟩
abbrev B5 : CCode := (sR [(0,oP 2 (.mv (.c (.bool false))) [2])] (sR [(0,oT 3 0 [0]),(1,oP 4 (.len (.t 3)) [3]),(2,oP 5 (.bin .gtr (.t 4) (.c (.int .i64 1048576))) [4]),(3,oT 2 5 [5])] .ret))
def C5 : CFn := ⟨6,1,[.t 2],B5⟩
abbrev B6 : CCode := (sR [(0,oP 2 (.mv (.c (.nils))) [2]),(1,oP 3 (.al [.int .i64 (0),.nils,.nils]) []),(2,oP 4 (.mv (.c (.int .i64 0))) [4]),(3,oP 5 (.mv (.c (.int .i64 0))) [5])] (sR [(0,oT 10 0 [0]),(1,oP 11 (.call
23 [.t 10]) [10]),(2,oT 9 11 [11]),(3,oP 12 (.ex (.t 9) 0) []),(4,oP 13 (.ex (.t 9) 1) []),(5,oP 14 (.ex (.t 9) 2) [9]),(6,oP 8 (.al [.int .i64 (0),.nils,.nils]) []),(7,oT 6 12 [12]),(8,oT 7 13 [13]),(9,⟨none,.st 3 (.t
8) (.t 14),none,[],[14]⟩)] (.seq (.reg true [(0,oT 15 7 [7]),(1,oP 16 (.ld 3 true (.t 8)) []),(2,oT 17 6 []),(4,oT 19 6 []),(3,⟨some 18,.call 24 [.t 17,(.c (.int .i64 4))],none,[(8,3)],[17]⟩),(5,⟨some 20,.call 24 [.t
19,(.c (.int .i64 5))],none,[(8,3)],[19]⟩),(6,oP 21 (.bin .sub (.t 20) (.c (.int .i64 1))) [20]),(7,oT 2 15 [15]),(8,⟨none,.st 3 (.t 3) (.t 16),none,[],[8,16]⟩),(9,oT 4 18 [18]),(10,oT 5 21 [21])]) .ret)))
def C6 : CFn := ⟨22,1,[.t 2,.m 3 3 true,.t 4,.t 5],B6⟩
abbrev B7 : CCode := (sR [(0,oP 5 (.box 3 (.t 1)) [1]),(1,oP 8 (.mv (.c (.bool false))) [8])] (sR [(0,oP 10 (.fa 1 (.t 5)) []),(1,oP 11 (.ld 1 false (.t 10)) [10]),(2,oP 12 (.len (.t 11)) [11]),(3,oP 13 (.bin .sub (.t
12) (.c (.int .i64 1))) [12]),(4,oT 9 13 [13])] (sR [(0,oT 14 0 []),(1,oP 15 (.ld 3 true (.t 5)) []),(2,oP 16 (.call 25 [.t 14,.t 15]) [14,15]),(3,oT 17 16 [16]),(4,oG 18 (.mv (.t 2)) 17 true []),(5,oG 19 (.mv (.t 9))
17 true []),(6,oG 20 (.call 26 [.t 18,(.c (.int .i64 0)),.t 19]) 17 true [18,19]),(7,oP 21 (.pick (.t 17) (.t 20) (.c (.bool false))) [17,20]),(8,oT 22 21 [21]),(9,oG 23 (.mv (.t 3)) 22 true []),(10,oG 24 (.mv (.t 9))
22 true [9]),(11,oG 25 (.call 26 [.t 23,(.c (.int .i64 0)),.t 24]) 22 true [23,24]),(12,oP 26 (.pick (.t 22) (.t 25) (.c (.bool false))) [22,25]),(13,oT 27 26 [26]),(14,oG 28 (.mv (.t 0)) 27 true [0]),(15,oG 29 (.fa 1
(.t 5)) 27 true []),(16,oG 30 (.ld 1 false (.t 29)) 27 true [29]),(17,oG 31 (.fa 2 (.t 5)) 27 true []),(18,oG 32 (.ld 1 false (.t 31)) 27 true [31]),(19,oG 33 (.mv (.t 2)) 27 true [2]),(20,oG 34 (.mv (.t 3)) 27 true
[3]),(21,oG 35 (.call 27 [.t 28,.t 30,.t 32,.t 33,.t 34]) 27 true [5,28,30,32,33,34]),(22,oP 36 (.pick (.t 27) (.t 35) (.c (.bool false))) [27,35]),(23,oT 8 36 [36])] .ret)))
def C7 : CFn := ⟨37,4,[.t 8],B7⟩
abbrev B8 : CCode := (sR [(0,oP 5 (.box 3 (.t 1)) [1]),(1,oP 8 (.mv (.c (.bool false))) [8])] (.seq (.reg true [(0,oT 9 0 []),(1,oP 10 (.ld 3 true (.t 5)) []),(2,oT 11 2 []),(3,oT 12 3 []),(4,oP 13 (.call 7 [.t 9,.t
10,.t 11,.t 12]) [9,10,11,12]),(5,oT 14 13 [13]),(6,oG 15 (.mv (.t 0)) 14 true []),(7,oG 16 (.ld 3 true (.t 5)) 14 true []),(8,oG 17 (.mv (.t 0)) 14 true []),(9,oG 18 (.fa 1 (.t 5)) 14 true []),(10,oG 19 (.ld 1 false
(.t 18)) 14 true [18]),(11,oG 20 (.mv (.t 2)) 14 true [2]),(12,oG 21 (.ia 2 (.t 19) (.t 20)) 14 true [19]),(13,oG 22 (.ld 2 true (.t 21)) 14 true [21]),(15,oG 24 (.mv (.t 0)) 14 true []),(16,oG 25 (.fa 1 (.t 5)) 14 true
[]),(17,oG 26 (.ld 1 false (.t 25)) 14 true []),(18,oG 27 (.mv (.t 3)) 14 true [3]),(19,oG 28 (.ia 2 (.t 26) (.t 27)) 14 true [26]),(20,oG 29 (.ld 2 true (.t 28)) 14 true []),(14,⟨some 23,.call 29 [.t 17,.t 22],some
(14,true),[(5,3),(25,1),(28,2)],[17,20,22,25,28]⟩),(21,⟨some 30,.call 29 [.t 24,.t 29],some (14,true),[(5,3)],[24,27,29]⟩),(22,oG 31 (.call 28 [.t 15,.t 16,.t 23,.t 30]) 14 true [5,15,16,23,30]),(23,oP 32 (.pick (.t 14)
(.t 31) (.c (.bool false))) [14,31]),(24,oT 8 32 [32])]) .ret))
def C8 : CFn := ⟨33,4,[.t 8],B8⟩
abbrev L9_0 : CCode := (.seq (sR [(0,oT 49 11 []),(1,oT 50 10 []),(2,oP 51 (.len (.t 50)) [50]),(3,oP 52 (.bin .lss (.t 49) (.t 51)) [49,51])] (.cond (.t 52) (sK [52] .skip) (sK [9,10,11,52] (.exit 0)))) (.seq (.block 1
(sR [(0,oT 55 9 []),(1,oT 56 10 []),(2,oT 57 11 []),(3,oP 58 (.ia 1 (.t 56) (.t 57)) []),(4,oP 59 (.ld 1 false (.t 58)) [56,57,58]),(5,oP 60 (.call 32 [.t 55,.t 59]) [55,59])] (.cond (.t 60) (sK [9,10,11,60] (sR [(0,oP
8 (.mv (.c (.bool true))) [])] .ret)) (sK [60] .skip)))) (.reg false [(0,oT 53 11 [11]),(1,oP 54 (.bin .add (.t 53) (.c (.int .i64 1))) [53]),(2,oT 11 54 [54])])))
abbrev B9 : CCode := (sR [(0,oP 5 (.box 3 (.t 1)) [1]),(1,oP 8 (.mv (.c (.bool false))) [8])] (.seq (sR [(0,oT 12 0 []),(1,oP 13 (.ld 3 true (.t 5)) []),(2,oP 14 (.call 19 [.t 12,.t 13]) [12,13]),(3,oP 15 (.not (.t 14))
[14]),(4,oT 16 15 [15]),(5,oG 17 (.mv (.t 2)) 16 false []),(6,oG 18 (.fa 1 (.t 5)) 16 false []),(7,oG 19 (.ld 1 false (.t 18)) 16 false [18]),(8,oG 20 (.len (.t 19)) 16 false [19]),(9,oG 21 (.bin .sub (.t 20) (.c (.int
.i64 1))) 16 false [20]),(10,oG 22 (.call 30 [.t 17,(.c (.int .i64 0)),.t 21]) 16 false [17,21]),(11,oG 23 (.not (.t 22)) 16 false [22]),(12,oP 24 (.pick (.t 16) (.c (.bool true)) (.t 23)) [16,23]),(13,oT 25 24
[24]),(14,oG 26 (.mv (.t 3)) 25 false []),(15,oG 27 (.fa 1 (.t 5)) 25 false []),(16,oG 28 (.ld 1 false (.t 27)) 25 false [27]),(17,oG 29 (.len (.t 28)) 25 false [28]),(18,oG 30 (.bin .sub (.t 29) (.c (.int .i64 1))) 25
false [29]),(19,oG 31 (.call 30 [.t 26,(.c (.int .i64 0)),.t 30]) 25 false [26,30]),(20,oG 32 (.not (.t 31)) 25 false [31]),(21,oP 33 (.pick (.t 25) (.c (.bool true)) (.t 32)) [25,32]),(22,oT 34 33 [33]),(23,oG 35 (.mv
(.t 2)) 34 false []),(24,oG 36 (.mv (.t 3)) 34 false []),(25,oG 37 (.bin .eql (.t 35) (.t 36)) 34 false [35,36]),(26,oP 38 (.pick (.t 34) (.c (.bool true)) (.t 37)) [34,37])] (.cond (.t 38) (sK [0,2,3,5,38] (sR [(0,oP 8
(.mv (.c (.bool false))) [])] .ret)) (sK [38] .skip))) (sR [(0,oT 39 0 [0]),(1,oP 40 (.ld 3 true (.t 5)) []),(2,oT 41 2 [2]),(3,oP 42 (.call 15 [.t 39,.t 40,.t 41]) [39,40,41]),(4,oT 9 42 [42])] (sR [(0,oP 43 (.fa 1 (.t
5)) []),(1,oP 44 (.ld 1 false (.t 43)) [43]),(2,oT 45 3 [3]),(3,oP 46 (.ia 2 (.t 44) (.t 45)) [44]),(4,oP 47 (.ld 2 true (.t 46)) [46]),(5,oP 48 (.call 31 [.t 47]) [5,45,47]),(6,oT 10 48 [48])] (.seq (sR [(0,oP 11 (.mv
(.c (.int .i64 0))) [])] (.block 0 (.loop L9_0))) (sR [(0,oP 8 (.mv (.c (.bool false))) [])] .ret))))))
def C9 : CFn := ⟨61,4,[.t 8],B9⟩
abbrev B10 : CCode := (sR [(0,oP 5 (.box 3 (.t 1)) [1]),(1,oP 8 (.mv (.c (.bool false))) [8])] (.seq (.reg true [(0,oT 9 0 []),(1,oP 10 (.ld 3 true (.t 5)) []),(2,oT 11 2 []),(3,oT 12 3 []),(4,oP 13 (.call 9 [.t 9,.t
10,.t 11,.t 12]) [9,10,11,12]),(5,oT 14 13 [13]),(6,oG 15 (.mv (.t 0)) 14 true []),(7,oG 16 (.ld 3 true (.t 5)) 14 true []),(8,oG 17 (.mv (.t 0)) 14 true []),(9,oG 18 (.fa 1 (.t 5)) 14 true []),(10,oG 19 (.ld 1 false
(.t 18)) 14 true [18]),(11,oG 20 (.mv (.t 2)) 14 true [2]),(12,oG 21 (.ia 2 (.t 19) (.t 20)) 14 true [19]),(13,oG 22 (.ld 2 true (.t 21)) 14 true [21]),(15,oG 24 (.mv (.t 0)) 14 true []),(16,oG 25 (.fa 1 (.t 5)) 14 true
[]),(17,oG 26 (.ld 1 false (.t 25)) 14 true []),(18,oG 27 (.mv (.t 3)) 14 true [3]),(19,oG 28 (.ia 2 (.t 26) (.t 27)) 14 true [26]),(20,oG 29 (.ld 2 true (.t 28)) 14 true []),(14,⟨some 23,.call 34 [.t 17,.t 22],some
(14,true),[(5,3),(25,1),(28,2)],[17,20,22,25,28]⟩),(21,⟨some 30,.call 34 [.t 24,.t 29],some (14,true),[(5,3)],[24,27,29]⟩),(22,oG 31 (.call 33 [.t 15,.t 16,.t 23,.t 30]) 14 true [5,15,16,23,30]),(23,oP 32 (.pick (.t 14)
(.t 31) (.c (.bool false))) [14,31]),(24,oT 8 32 [32])]) .ret))
def C10 : CFn := ⟨33,4,[.t 8],B10⟩
abbrev B11 : CCode := (sR [(0,oP 4 (.box 3 (.t 1)) [1]),(1,oP 6 (.mv (.c (.nils))) [6])] (.seq (sR [(0,oT 7 0 []),(1,oP 8 (.ld 3 true (.t 4)) []),(2,oP 9 (.call 25 [.t 7,.t 8]) [7,8]),(3,oP 10 (.not (.t 9)) [9]),(4,oT
11 10 [10]),(5,oG 12 (.mv (.t 2)) 11 false []),(6,oG 13 (.fa 1 (.t 4)) 11 false []),(7,oG 14 (.ld 1 false (.t 13)) 11 false [13]),(8,oG 15 (.len (.t 14)) 11 false [14]),(9,oG 16 (.bin .sub (.t 15) (.c (.int .i64 1))) 11
false [15]),(10,oG 17 (.call 26 [.t 12,(.c (.int .i64 0)),.t 16]) 11 false [12,16]),(11,oG 18 (.not (.t 17)) 11 false [17]),(12,oP 19 (.pick (.t 11) (.c (.bool true)) (.t 18)) [11,18])] (.cond (.t 19) (sK [0,2,4,19] (sR
[(0,oP 6 (.mv (.c (.nils))) [])] .ret)) (sK [19] .skip))) (sR [(0,oT 20 0 [0]),(1,oP 21 (.fa 1 (.t 4)) []),(2,oP 22 (.ld 1 false (.t 21)) [21]),(3,oP 23 (.fa 2 (.t 4)) []),(4,oP 24 (.ld 1 false (.t 23)) [23]),(5,oT 25 2
[2]),(6,oP 26 (.call 35 [.t 20,.t 22,.t 24,.t 25]) [4,20,22,24,25]),(7,oT 6 26 [26])] .ret)))
def C11 : CFn := ⟨27,3,[.t 6],B11⟩
abbrev B12 : CCode := (sR [(0,oP 4 (.box 3 (.t 1)) [1]),(1,oP 6 (.mv (.c (.nils))) [6])] (.seq (sR [(0,oT 7 0 []),(1,oP 8 (.ld 3 true (.t 4)) []),(2,oP 9 (.call 19 [.t 7,.t 8]) [7,8]),(3,oP 10 (.not (.t 9)) [9]),(4,oT
11 10 [10]),(5,oG 12 (.mv (.t 2)) 11 false []),(6,oG 13 (.fa 1 (.t 4)) 11 false []),(7,oG 14 (.ld 1 false (.t 13)) 11 false [13]),(8,oG 15 (.len (.t 14)) 11 false [14]),(9,oG 16 (.bin .sub (.t 15) (.c (.int .i64 1))) 11
false [15]),(10,oG 17 (.call 30 [.t 12,(.c (.int .i64 0)),.t 16]) 11 false [12,16]),(11,oG 18 (.not (.t 17)) 11 false [17]),(12,oP 19 (.pick (.t 11) (.c (.bool true)) (.t 18)) [11,18])] (.cond (.t 19) (sK [0,2,4,19] (sR
[(0,oP 20 (.bsl 1 0 [.int .i64 (0)] []) []),(1,oT 6 20 [20])] .ret)) (sK [19] .skip))) (.seq (.reg true [(0,oT 21 0 []),(1,oP 22 (.ld 3 true (.t 4)) []),(2,oT 23 2 []),(3,oT 24 0 []),(4,oP 25 (.fa 1 (.t 4)) []),(5,oP 26
(.ld 1 false (.t 25)) [25]),(6,oT 27 2 [2]),(7,oP 28 (.ia 2 (.t 26) (.t 27)) [26]),(8,oP 29 (.ld 2 true (.t 28)) [28]),(9,⟨some 30,.call 34 [.t 24,.t 29],none,[(4,3)],[24,27,29]⟩),(10,oP 31 (.call 36 [.t 21,.t 22,.t
23,.t 30]) [4,21,22,23,30]),(11,oT 6 31 [31])]) .ret)))
def C12 : CFn := ⟨32,3,[.t 6],B12⟩
abbrev L13_0 : CCode := (.seq (sR [(0,oT 6 5 []),(1,oT 7 0 []),(2,oP 8 (.len (.t 7)) [7]),(3,oP 9 (.bin .lss (.t 6) (.t 8)) [6,8])] (.cond (.t 9) (sK [9] .skip) (sK [0,1,5,9] (.exit 0)))) (.seq (.block 1 (sR [(0,oT 12 0
[]),(1,oT 13 5 []),(2,oP 14 (.ia 1 (.t 12) (.t 13)) []),(3,oP 15 (.ld 1 false (.t 14)) [12,13,14]),(4,oT 16 1 []),(5,oP 17 (.bin .eql (.t 15) (.t 16)) [15,16])] (.cond (.t 17) (sK [0,1,5,17] (sR [(0,oP 4 (.mv (.c (.bool
true))) [])] .ret)) (sK [17] .skip)))) (.reg false [(0,oT 10 5 [5]),(1,oP 11 (.bin .add (.t 10) (.c (.int .i64 1))) [10]),(2,oT 5 11 [11])])))
abbrev B13 : CCode := (sR [(0,oP 4 (.mv (.c (.bool false))) [4])] (.seq (sR [(0,oP 5 (.mv (.c (.int .i64 0))) [])] (.block 0 (.loop L13_0))) (sR [(0,oP 4 (.mv (.c (.bool false))) [])] .ret)))
def C13 : CFn := ⟨18,2,[.t 4],B13⟩
abbrev L14_0 : CCode := (.seq (sR [(0,oT 11 5 []),(1,oT 12 0 []),(2,oP 13 (.len (.t 12)) [12]),(3,oP 14 (.bin .lss (.t 11) (.t 13)) [11,13])] (.cond (.t 14) (sK [14] .skip) (sK [0,1,5,14] (.exit 0)))) (.seq (.block 1
(.seq (.reg true [(0,oT 17 0 []),(1,oT 18 5 []),(2,oP 19 (.ia 1 (.t 17) (.t 18)) []),(3,oP 20 (.ld 1 false (.t 19)) [17,18,19]),(4,oT 21 1 []),(5,oT 22 5 []),(6,oP 23 (.ia 1 (.t 21) (.t 22)) []),(7,oP 24 (.ld 1 false
(.t 23)) [21,22,23]),(8,oP 25 (.bin .neq (.t 20) (.t 24)) [20,24])]) (.cond (.t 25) (sK [0,1,5,25] (sR [(0,oP 4 (.mv (.c (.bool false))) [])] .ret)) (sK [25] .skip)))) (.reg false [(0,oT 15 5 [5]),(1,oP 16 (.bin .add
(.t 15) (.c (.int .i64 1))) [15]),(2,oT 5 16 [16])])))
abbrev B14 : CCode := (sR [(0,oP 4 (.mv (.c (.bool false))) [4])] (.seq (sR [(0,oT 6 0 []),(1,oP 7 (.len (.t 6)) [6]),(2,oT 8 1 []),(3,oP 9 (.len (.t 8)) [8]),(4,oP 10 (.bin .neq (.t 7) (.t 9)) [7,9])] (.cond (.t 10)
(sK [0,1,10] (sR [(0,oP 4 (.mv (.c (.bool false))) [])] .ret)) (sK [10] .skip))) (.seq (sR [(0,oP 5 (.mv (.c (.int .i64 0))) [])] (.block 0 (.loop L14_0))) (sR [(0,oP 4 (.mv (.c (.bool true))) [])] .ret))))
def C14 : CFn := ⟨26,2,[.t 4],B14⟩
abbrev L15_2 : CCode := (.seq (sR [(0,oT 57 13 []),(1,oT 58 11 []),(2,oP 59 (.len (.t 58)) [58]),(3,oP 60 (.bin .lss (.t 57) (.t 59)) [57,59])] (.cond (.t 60) (sK [60] .skip) (sK [13,60] (.exit 4)))) (.seq (.block 5
(.reg false [(0,oT 63 12 [12]),(1,oT 64 63 [63]),(2,oG 65 (.mv (.t 7)) 64 false []),(3,oG 66 (.mv (.t 11)) 64 false []),(4,oG 67 (.mv (.t 13)) 64 false []),(5,oG 68 (.ia 1 (.t 66) (.t 67)) 64 false []),(6,oG 69 (.ld 1
false (.t 68)) 64 false [66,67,68]),(7,oG 70 (.call 32 [.t 65,.t 69]) 64 false [65,69]),(8,oP 71 (.pick (.t 64) (.c (.bool true)) (.t 70)) [64,70]),(9,oT 12 71 [71])])) (.reg false [(0,oT 61 13 [13]),(1,oP 62 (.bin .add
(.t 61) (.c (.int .i64 1))) [61]),(2,oT 13 62 [62])])))
abbrev L15_3 : CCode := (.seq (sR [(0,oT 72 14 []),(1,oT 73 11 []),(2,oP 74 (.len (.t 73)) [73]),(3,oP 75 (.bin .lss (.t 72) (.t 74)) [72,74]),(4,oT 76 75 [75]),(5,oG 77 (.mv (.t 12)) 76 true []),(6,oP 78 (.pick (.t 76)
(.t 77) (.c (.bool false))) [76,77])] (.cond (.t 78) (sK [78] .skip) (sK [11,12,14,78] (.exit 6)))) (.seq (.block 7 (sR [(0,oT 81 8 []),(1,oT 82 11 []),(2,oT 83 14 []),(3,oP 84 (.ia 1 (.t 82) (.t 83)) []),(4,oP 85 (.ld
1 false (.t 84)) [82,83,84]),(5,oP 86 (.call 32 [.t 81,.t 85]) [81,85]),(6,oP 87 (.not (.t 86)) [86])] (.cond (.t 87) (sK [87] (.reg false [(0,oT 88 7 [7]),(1,oT 89 11 []),(2,oT 90 14 []),(3,oP 91 (.ia 1 (.t 89) (.t
90)) []),(4,oP 92 (.ld 1 false (.t 91)) [89,90,91]),(5,oP 93 (.bsl 1 1 [.int .i64 (0)] [(0,1,(.t 92))]) [92]),(6,oP 94 (.call 37 [.t 88,.t 93]) [88,93]),(7,oT 7 94 [94])])) (sK [87] .skip)))) (.reg false [(0,oT 79 14
[14]),(1,oP 80 (.bin .add (.t 79) (.c (.int .i64 1))) [79]),(2,oT 14 80 [80])])))
abbrev L15_1 : CCode := (.seq (sR [(0,oT 41 10 []),(1,oP 42 (.fa 1 (.t 4)) []),(2,oP 43 (.ld 1 false (.t 42)) [42]),(3,oP 44 (.len (.t 43)) [43]),(4,oP 45 (.bin .lss (.t 41) (.t 44)) [41,44])] (.cond (.t 45) (sK [45]
.skip) (sK [10,45] (.exit 2)))) (.seq (.block 3 (sR [(0,oP 48 (.fa 1 (.t 4)) []),(1,oP 49 (.ld 1 false (.t 48)) [48]),(2,oT 50 10 []),(3,oP 51 (.ia 2 (.t 49) (.t 50)) [49]),(4,oP 52 (.ld 2 true (.t 51)) [51]),(5,oP 53
(.call 31 [.t 52]) [50,52]),(6,oT 11 53 [53])] (sR [(0,oT 54 10 []),(1,oT 55 2 []),(2,oP 56 (.bin .eql (.t 54) (.t 55)) [54,55]),(3,oT 12 56 [56])] (.seq (sR [(0,oP 13 (.mv (.c (.int .i64 0))) [])] (.block 4 (.loop
L15_2))) (sR [(0,oP 14 (.mv (.c (.int .i64 0))) [])] (.block 6 (.loop L15_3))))))) (.reg false [(0,oT 46 10 [10]),(1,oP 47 (.bin .add (.t 46) (.c (.int .i64 1))) [46]),(2,oT 10 47 [47])])))
abbrev L15_0 : CCode := (.seq (sR [(0,oT 34 9 []),(1,oP 35 (.fa 1 (.t 4)) []),(2,oP 36 (.ld 1 false (.t 35)) [35]),(3,oP 37 (.len (.t 36)) [36]),(4,oP 38 (.bin .leq (.t 34) (.t 37)) [34,37])] (.cond (.t 38) (sK [38]
.skip) (sK [2,4,8,9,38] (.exit 0)))) (.seq (.block 1 (sR [(0,oP 10 (.mv (.c (.int .i64 0))) [])] (.block 2 (.loop L15_1)))) (.reg false [(0,oT 39 9 [9]),(1,oP 40 (.bin .add (.t 39) (.c (.int .i64 1))) [39]),(2,oT 9 40
[40])])))
abbrev B15 : CCode := (sR [(0,oP 4 (.box 3 (.t 1)) [1]),(1,oP 6 (.mv (.c (.nils))) [6])] (sR [(0,oP 15 (.bsl 1 0 [.int .i64 (0)] []) []),(1,oT 7 15 [15])] (.seq (sR [(0,oT 16 0 []),(1,oP 17 (.ld 3 true (.t 4)) []),(2,oP
18 (.call 19 [.t 16,.t 17]) [16,17]),(3,oP 19 (.not (.t 18)) [18]),(4,oT 20 19 [19]),(5,oG 21 (.mv (.t 2)) 20 false []),(6,oG 22 (.fa 1 (.t 4)) 20 false []),(7,oG 23 (.ld 1 false (.t 22)) 20 false [22]),(8,oG 24 (.len
(.t 23)) 20 false [23]),(9,oG 25 (.bin .sub (.t 24) (.c (.int .i64 1))) 20 false [24]),(10,oG 26 (.call 30 [.t 21,(.c (.int .i64 0)),.t 25]) 20 false [21,25]),(11,oG 27 (.not (.t 26)) 20 false [26]),(12,oP 28 (.pick (.t
20) (.c (.bool true)) (.t 27)) [20,27])] (.cond (.t 28) (sK [0,2,4,28] (sR [(0,oT 29 7 [7]),(1,oT 6 29 [29])] .ret)) (sK [28] .skip))) (sR [(0,oT 30 0 [0]),(1,oP 31 (.ld 3 true (.t 4)) []),(2,oT 32 2 []),(3,oP 33 (.call
12 [.t 30,.t 31,.t 32]) [30,31,32]),(4,oT 8 33 [33])] (.seq (sR [(0,oP 9 (.mv (.c (.int .i64 0))) [])] (.block 0 (.loop L15_0))) (sR [(0,oT 95 7 [7]),(1,oT 6 95 [95])] .ret))))))
def C15 : CFn := ⟨96,3,[.t 6],B15⟩
abbrev L16_1 : CCode := (sR [(0,oP 51 (.bin .lss (.t 50) (.t 49)) [])] (.seq (.cond (.t 51) (sK [51] .skip) (sK [12,49,50,51] (.exit 2))) (.seq (.block 3 (sR [(0,oT 52 50 []),(1,oT 13 52 [52])] (sR [(0,oT 53 10
[]),(1,oT 54 13 []),(2,oP 55 (.ia 1 (.t 53) (.t 54)) []),(3,oP 56 (.ld 1 false (.t 55)) [53,54,55]),(4,oP 57 (.not (.t 56)) [56]),(5,oT 58 57 [57]),(6,oG 59 (.mv (.t 0)) 58 true []),(7,oG 60 (.ld 3 true (.t 5)) 58 true
[]),(8,oG 61 (.mv (.t 12)) 58 true []),(9,oG 62 (.mv (.t 13)) 58 true []),(10,oG 63 (.call 7 [.t 59,.t 60,.t 61,.t 62]) 58 true [59,60,61,62]),(11,oP 64 (.pick (.t 58) (.t 63) (.c (.bool false))) [58,63])] (.cond (.t
64) (sK [64] (sR [(0,oT 65 10 []),(1,oT 66 13 []),(2,oP 67 (.ia 1 (.t 65) (.t 66)) []),(3,⟨none,.st 1 (.t 67) (.c (.bool true)),none,[],[65,66,67]⟩)] (.reg false [(0,oT 68 11 [11]),(1,oT 69 13 [13]),(2,oP 70 (.bsl 1 1
[.int .i64 (0)] [(0,1,(.t 69))]) [69]),(3,oP 71 (.app 1 8 (.t 68) (.t 70)) [68,70]),(4,oT 11 71 [71])]))) (sK [13,64] .skip))))) (.reg false [(0,oP 72 (.bin .add (.t 50) (.c (.int .i64 1))) [50]),(1,oT 50 72 [72])]))))
abbrev L16_0 : CCode := (.seq (sR [(0,oT 39 11 []),(1,oP 40 (.len (.t 39)) [39]),(2,oP 41 (.bin .gtr (.t 40) (.c (.int .i64 0))) [40])] (.cond (.t 41) (sK [41] .skip) (sK [0,5,11,41] (.exit 0)))) (.block 1 (sR [(0,oT 42
11 []),(1,oP 43 (.ia 1 (.t 42) (.c (.int .i64 0))) []),(2,oP 44 (.ld 1 false (.t 43)) [42,43]),(3,oT 12 44 [44])] (sR [(0,oT 45 11 [11]),(1,oP 46 (.sls 1 (.t 45) (some (.c (.int .i64 1))) none none) [45]),(2,oT 11 46
[46])] (sR [(0,oP 47 (.fa 1 (.t 5)) []),(1,oP 48 (.ld 1 false (.t 47)) [47]),(2,oP 49 (.len (.t 48)) [48]),(3,oP 50 (.mv (.c (.int .i64 0))) [])] (.block 2 (.loop L16_1)))))))
abbrev B16 : CCode := (sR [(0,oP 5 (.box 3 (.t 1)) [1]),(1,oP 8 (.mv (.c (.bool false))) [8])] (sR [(0,oP 14 (.fa 1 (.t 5)) []),(1,oP 15 (.ld 1 false (.t 14)) [14]),(2,oP 16 (.len (.t 15)) [15]),(3,oP 17 (.bin .sub (.t
16) (.c (.int .i64 1))) [16]),(4,oT 9 17 [17])] (.seq (sR [(0,oT 18 0 []),(1,oP 19 (.ld 3 true (.t 5)) []),(2,oP 20 (.call 25 [.t 18,.t 19]) [18,19]),(3,oP 21 (.not (.t 20)) [20]),(4,oT 22 21 [21]),(5,oG 23 (.mv (.t 2))
22 false []),(6,oG 24 (.mv (.t 9)) 22 false []),(7,oG 25 (.call 26 [.t 23,(.c (.int .i64 0)),.t 24]) 22 false [23,24]),(8,oG 26 (.not (.t 25)) 22 false [25]),(9,oP 27 (.pick (.t 22) (.c (.bool true)) (.t 26))
[22,26]),(10,oT 28 27 [27]),(11,oG 29 (.mv (.t 3)) 28 false []),(12,oG 30 (.mv (.t 9)) 28 false []),(13,oG 31 (.call 26 [.t 29,(.c (.int .i64 0)),.t 30]) 28 false [29,30]),(14,oG 32 (.not (.t 31)) 28 false [31]),(15,oP
33 (.pick (.t 28) (.c (.bool true)) (.t 32)) [28,32])] (.cond (.t 33) (sK [0,2,3,5,9,33] (sR [(0,oP 8 (.mv (.c (.bool false))) [])] .ret)) (sK [33] .skip))) (sR [(0,oT 34 9 [9]),(1,oP 35 (.bin .add (.t 34) (.c (.int
.i64 1))) [34]),(2,oP 36 (.mk 1 1 [.bool false] (.t 35) (.t 35)) [35]),(3,oT 10 36 [36])] (sR [(0,oT 37 2 [2]),(1,oP 38 (.bsl 1 1 [.int .i64 (0)] [(0,1,(.t 37))]) [37]),(2,oT 11 38 [38])] (.seq (.block 0 (.loop L16_0))
(sR [(0,oT 73 10 [10]),(1,oT 74 3 [3]),(2,oP 75 (.ia 1 (.t 73) (.t 74)) []),(3,oP 76 (.ld 1 false (.t 75)) [73,74,75]),(4,oT 8 76 [76])] .ret)))))))
def C16 : CFn := ⟨77,4,[.t 8],B16⟩
abbrev L17_0 : CCode := (sR [(0,oP 10 (.bin .lss (.t 9) (.t 8)) [])] (.seq (.cond (.t 10) (sK [10] .skip) (sK [0,3,8,9,10] (.exit 0))) (.seq (.block 1 (sR [(0,oT 11 9 []),(1,oT 5 11 [11])] (sR [(0,oT 12 0 []),(1,oP 13
(.ld 3 true (.t 3)) []),(2,oT 14 5 []),(3,oT 15 5 [5]),(4,oP 16 (.call 16 [.t 12,.t 13,.t 14,.t 15]) [12,13,14,15])] (.cond (.t 16) (sK [0,3,8,9,16] (sR [(0,oP 4 (.mv (.c (.bool true))) [])] .ret)) (sK [16] .skip)))))
(.reg false [(0,oP 17 (.bin .add (.t 9) (.c (.int .i64 1))) [9]),(1,oT 9 17 [17])]))))
abbrev B17 : CCode := (sR [(0,oP 3 (.box 3 (.t 1)) [1]),(1,oP 4 (.mv (.c (.bool false))) [4])] (.seq (sR [(0,oP 6 (.fa 1 (.t 3)) []),(1,oP 7 (.ld 1 false (.t 6)) [6]),(2,oP 8 (.len (.t 7)) [7]),(3,oP 9 (.mv (.c (.int
.i64 0))) [])] (.block 0 (.loop L17_0))) (sR [(0,oP 4 (.mv (.c (.bool false))) [])] .ret)))
def C17 : CFn := ⟨18,2,[.t 4],B17⟩
abbrev L19_3 : CCode := (.seq (sR [(0,oT 60 8 []),(1,oT 61 6 []),(2,oP 62 (.bin .lss (.t 60) (.t 61)) [60,61])] (.cond (.t 62) (sK [62] .skip) (sK [8,62] (.exit 2)))) (.seq (.block 3 (.seq (.reg true [(0,oP 65 (.fa 1
(.t 3)) []),(1,oP 66 (.ld 1 false (.t 65)) [65]),(2,oT 67 8 []),(3,oP 68 (.ia 2 (.t 66) (.t 67)) [66]),(4,oP 69 (.fa 0 (.t 68)) [68]),(5,oP 70 (.ld 1 false (.t 69)) [67,69]),(6,oP 71 (.fa 0 (.t 7)) []),(7,oP 72 (.ld 1
false (.t 71)) [71]),(8,oP 73 (.bin .eql (.t 70) (.t 72)) [70,72])]) (.cond (.t 73) (sK [0,3,5,6,7,8,73] (sR [(0,oP 4 (.mv (.c (.bool false))) [])] .ret)) (sK [73] .skip)))) (.reg false [(0,oT 63 8 [8]),(1,oP 64 (.bin
.add (.t 63) (.c (.int .i64 1))) [63]),(2,oT 8 64 [64])])))
abbrev L19_4 : CCode := (.seq (sR [(0,oT 74 9 []),(1,oP 75 (.fa 1 (.t 7)) []),(2,oP 76 (.ld 1 false (.t 75)) [75]),(3,oP 77 (.len (.t 76)) [76]),(4,oP 78 (.bin .lss (.t 74) (.t 77)) [74,77])] (.cond (.t 78) (sK [78]
.skip) (sK [7,9,78] (.exit 4)))) (.seq (.block 5 (.seq (.seq (.reg true [(0,oP 81 (.fa 1 (.t 7)) []),(1,oP 82 (.ld 1 false (.t 81)) [81]),(2,oT 83 9 []),(3,oP 84 (.ia 1 (.t 82) (.t 83)) [82]),(4,oP 85 (.ld 1 false (.t
84)) [83,84]),(5,oP 86 (.fa 0 (.t 3)) []),(6,oP 87 (.ld 1 false (.t 86)) [86]),(7,oP 88 (.bin .sub (.t 87) (.c (.int .i64 1))) [87]),(8,oP 89 (.call 30 [.t 85,(.c (.int .i64 (-10))),.t 88]) [85,88]),(9,oP 90 (.not (.t
89)) [89])]) (.cond (.t 90) (sK [0,3,5,6,7,9,90] (sR [(0,oP 4 (.mv (.c (.bool false))) [])] .ret)) (sK [90] .skip))) (sR [(0,oP 91 (.fa 1 (.t 7)) []),(1,oP 92 (.ld 1 false (.t 91)) [91]),(2,oT 93 9 []),(3,oP 94 (.ia 1
(.t 92) (.t 93)) [92]),(4,oP 95 (.ld 1 false (.t 94)) [93,94]),(5,oP 96 (.bin .geq (.t 95) (.c (.int .i64 0))) [95])] (.cond (.t 96) (sK [96] (.reg false [(0,oT 97 5 []),(1,oP 98 (.fa 1 (.t 7)) []),(2,oP 99 (.ld 1 false
(.t 98)) [98]),(3,oT 100 9 []),(4,oP 101 (.ia 1 (.t 99) (.t 100)) [99]),(5,oP 102 (.ld 1 false (.t 101)) [100,101]),(6,oP 103 (.ia 1 (.t 97) (.t 102)) []),(7,⟨none,.st 1 (.t 103) (.c (.bool
true)),none,[],[97,102,103]⟩)])) (sK [96] .skip))))) (.reg false [(0,oT 79 9 [9]),(1,oP 80 (.bin .add (.t 79) (.c (.int .i64 1))) [79]),(2,oT 9 80 [80])])))
abbrev L19_0 : CCode := (.seq (sR [(0,oT 29 6 []),(1,oP 30 (.fa 1 (.t 3)) []),(2,oP 31 (.ld 1 false (.t 30)) [30]),(3,oP 32 (.len (.t 31)) [31]),(4,oP 33 (.bin .lss (.t 29) (.t 32)) [29,32])] (.cond (.t 33) (sK [33]
.skip) (sK [0,6,33] (.exit 0)))) (.seq (.block 1 (sR [(0,oP 36 (.fa 1 (.t 3)) []),(1,oP 37 (.ld 1 false (.t 36)) [36]),(2,oT 38 6 []),(3,oP 39 (.ia 2 (.t 37) (.t 38)) [37]),(4,oP 40 (.ld 2 true (.t 39)) [39]),(5,oP 7
(.al [.int .i64 (0),.nils]) []),(6,⟨none,.st 2 (.t 7) (.t 40),none,[],[38,40]⟩)] (.seq (.seq (.reg true [(0,oP 41 (.fa 0 (.t 7)) []),(1,oP 42 (.ld 1 false (.t 41)) [41]),(2,oT 43 0 []),(3,oP 44 (.len (.t 43))
[43]),(4,oP 45 (.bin .sub (.t 44) (.c (.int .i64 1))) [44]),(5,oP 46 (.call 30 [.t 42,(.c (.int .i64 0)),.t 45]) [42,45]),(6,oP 47 (.not (.t 46)) [46]),(7,oT 48 47 [47]),(8,oG 49 (.fa 1 (.t 7)) 48 false []),(9,oG 50
(.ld 1 false (.t 49)) 48 false [49]),(10,oG 51 (.len (.t 50)) 48 false [50]),(11,oG 52 (.mv (.t 0)) 48 false []),(12,oG 53 (.fa 0 (.t 7)) 48 false []),(13,oG 54 (.ld 1 false (.t 53)) 48 false [53]),(14,oG 55 (.ia 3 (.t
52) (.t 54)) 48 false []),(15,oG 56 (.fa 1 (.t 55)) 48 false [55]),(16,oG 57 (.ld 1 false (.t 56)) 48 false [52,54,56]),(17,oG 58 (.bin .neq (.t 51) (.t 57)) 48 false [51,57]),(18,oP 59 (.pick (.t 48) (.c (.bool true))
(.t 58)) [48,58])]) (.cond (.t 59) (sK [0,3,5,6,7,59] (sR [(0,oP 4 (.mv (.c (.bool false))) [])] .ret)) (sK [59] .skip))) (.seq (sR [(0,oP 8 (.mv (.c (.int .i64 0))) [])] (.block 2 (.loop L19_3))) (sR [(0,oP 9 (.mv (.c
(.int .i64 0))) [])] (.block 4 (.loop L19_4))))))) (.reg false [(0,oT 34 6 [6]),(1,oP 35 (.bin .add (.t 34) (.c (.int .i64 1))) [34]),(2,oT 6 35 [35])])))
abbrev L19_1 : CCode := (.seq (sR [(0,oT 104 10 []),(1,oP 105 (.fa 0 (.t 3)) []),(2,oP 106 (.ld 1 false (.t 105)) [105]),(3,oP 107 (.bin .lss (.t 104) (.t 106)) [104,106])] (.cond (.t 107) (sK [107] .skip) (sK
[5,10,107] (.exit 6)))) (.seq (.block 7 (sR [(0,oT 110 5 []),(1,oT 111 10 []),(2,oP 112 (.ia 1 (.t 110) (.t 111)) []),(3,oP 113 (.ld 1 false (.t 112)) [110,111,112]),(4,oP 114 (.not (.t 113)) [113])] (.cond (.t 114) (sK
[3,5,10,114] (sR [(0,oP 4 (.mv (.c (.bool false))) [])] .ret)) (sK [114] .skip)))) (.reg false [(0,oT 108 10 [10]),(1,oP 109 (.bin .add (.t 108) (.c (.int .i64 1))) [108]),(2,oT 10 109 [109])])))
abbrev L19_2 : CCode := (.seq (sR [(0,oT 115 11 []),(1,oP 116 (.fa 2 (.t 3)) []),(2,oP 117 (.ld 1 false (.t 116)) [116]),(3,oP 118 (.len (.t 117)) [117]),(4,oP 119 (.bin .lss (.t 115) (.t 118)) [115,118])] (.cond (.t
119) (sK [119] .skip) (sK [3,11,119] (.exit 8)))) (.seq (.block 9 (.seq (.reg true [(0,oP 122 (.fa 2 (.t 3)) []),(1,oP 123 (.ld 1 false (.t 122)) [122]),(2,oT 124 11 []),(3,oP 125 (.ia 1 (.t 123) (.t 124)) [123]),(4,oP
126 (.ld 1 false (.t 125)) [124,125]),(5,oP 127 (.fa 0 (.t 3)) []),(6,oP 128 (.ld 1 false (.t 127)) [127]),(7,oP 129 (.bin .sub (.t 128) (.c (.int .i64 1))) [128]),(8,oP 130 (.call 30 [.t 126,(.c (.int .i64 0)),.t 129])
[126,129]),(9,oP 131 (.not (.t 130)) [130]),(10,oT 132 131 [131]),(11,oG 133 (.mv (.t 11)) 132 false []),(12,oG 134 (.bin .gtr (.t 133) (.c (.int .i64 0))) 132 false [133]),(13,oG 135 (.mv (.t 134)) 132 false
[134]),(14,oG 136 (.fa 2 (.t 3)) 135 true []),(15,oG 137 (.ld 1 false (.t 136)) 135 true [136]),(16,oG 138 (.mv (.t 11)) 135 true []),(17,oG 139 (.ia 1 (.t 137) (.t 138)) 135 true [137]),(18,oG 140 (.ld 1 false (.t
139)) 135 true [138,139]),(19,oG 141 (.fa 2 (.t 3)) 135 true []),(20,oG 142 (.ld 1 false (.t 141)) 135 true [141]),(21,oG 143 (.mv (.t 11)) 135 true []),(22,oG 144 (.bin .sub (.t 143) (.c (.int .i64 1))) 135 true
[143]),(23,oG 145 (.ia 1 (.t 142) (.t 144)) 135 true [142]),(24,oG 146 (.ld 1 false (.t 145)) 135 true [144,145]),(25,oG 147 (.bin .leq (.t 140) (.t 146)) 135 true [140,146]),(26,oG 148 (.pick (.t 135) (.t 147) (.c
(.bool false))) 132 false [135,147]),(27,oP 149 (.pick (.t 132) (.c (.bool true)) (.t 148)) [132,148])]) (.cond (.t 149) (sK [3,11,149] (sR [(0,oP 4 (.mv (.c (.bool false))) [])] .ret)) (sK [149] .skip)))) (.reg false
[(0,oT 120 11 [11]),(1,oP 121 (.bin .add (.t 120) (.c (.int .i64 1))) [120]),(2,oT 11 121 [121])])))
abbrev B19 : CCode := (sR [(0,oP 3 (.box 3 (.t 1)) [1]),(1,oP 4 (.mv (.c (.bool false))) [4])] (.seq (sR [(0,oT 12 0 []),(1,oP 13 (.call 39 [.t 12]) [12]),(2,oP 14 (.not (.t 13)) [13]),(3,oT 15 14 [14]),(4,oG 16 (.fa 0
(.t 3)) 15 false []),(5,oG 17 (.ld 1 false (.t 16)) 15 false [16]),(6,oG 18 (.call 30 [.t 17,(.c (.int .i64 0)),(.c (.int .i64 4))]) 15 false [17]),(7,oG 19 (.not (.t 18)) 15 false [18]),(8,oP 20 (.pick (.t 15) (.c
(.bool true)) (.t 19)) [15,19]),(9,oT 21 20 [20]),(10,oG 22 (.fa 1 (.t 3)) 21 false []),(11,oG 23 (.ld 1 false (.t 22)) 21 false [22]),(12,oG 24 (.len (.t 23)) 21 false [23]),(13,oG 25 (.call 30 [.t 24,(.c (.int .i64
1)),(.c (.int .i64 3))]) 21 false [24]),(14,oG 26 (.not (.t 25)) 21 false [25]),(15,oP 27 (.pick (.t 21) (.c (.bool true)) (.t 26)) [21,26])] (.cond (.t 27) (sK [0,3,27] (sR [(0,oP 4 (.mv (.c (.bool false))) [])] .ret))
(sK [27] .skip))) (sR [(0,oP 28 (.mk 1 1 [.bool false] (.c (.int .i64 4)) (.c (.int .i64 4))) []),(1,oT 5 28 [28])] (.seq (sR [(0,oP 6 (.mv (.c (.int .i64 0))) [])] (.block 0 (.loop L19_0))) (.seq (sR [(0,oP 10 (.mv (.c
(.int .i64 0))) [])] (.block 6 (.loop L19_1))) (.seq (sR [(0,oP 11 (.mv (.c (.int .i64 0))) [])] (.block 8 (.loop L19_2))) (sR [(0,oP 4 (.mv (.c (.bool true))) [])] .ret)))))))
def C19 : CFn := ⟨150,2,[.t 4],B19⟩
abbrev B23 : CCode := (sR [(0,oP 2 (.mv (.c (.nilp))) [2]),(1,oP 3 (.mv (.c (.nils))) [3]),(2,oP 4 (.al [.int .i64 (0),.nils,.nils]) [])] (sR [(0,oT 7 0 [0]),(1,oP 8 (.call 42 [.t 7]) [7]),(2,oT 5 8 [8])] (sR [(0,oT 9 5
[]),(1,oP 10 (.call 43 [.t 9]) [9]),(2,oT 6 10 [10])] (sR [(0,oT 11 5 []),(1,oT 12 6 []),(2,oT 13 5 []),(3,oT 14 6 []),(4,oP 15 (.call 44 [.t 13,.t 14]) [13,14]),(5,oT 2 11 [11]),(6,oT 3 12 [12]),(7,⟨none,.st 3 (.t 4)
(.t 15),none,[],[15]⟩)] .ret))))
def C23 : CFn := ⟨16,1,[.t 2,.t 3,.m 4 3 true],B23⟩
abbrev B24 : CCode := (sR [(0,oP 4 (.mv (.c (.int .i64 0))) [4])] (.seq (sR [(0,oT 9 1 []),(1,oP 10 (.bin .leq (.t 9) (.c (.int .i64 0))) [9])] (.cond (.t 10) (sK [1,10] (sR [(0,oP 4 (.mv (.c (.int .i64 0))) [])] .ret))
(sK [10] .skip))) (.seq (sR [(0,oT 11 1 []),(1,oP 12 (.bin .leq (.t 11) (.c (.int .i64 256))) [11])] (.cond (.t 12) (sK [12] (sR [(0,oT 13 0 []),(1,oP 14 (.call 45 [.t 13]) [13]),(2,oT 15 1 [1]),(3,oP 16 (.bin .rem (.t
14) (.t 15)) [14,15]),(4,oT 4 16 [16])] .ret)) (sK [12] .skip))) (sR [(0,oT 17 0 []),(1,oP 18 (.call 45 [.t 17]) [17]),(2,oT 5 18 [18])] (sR [(0,oT 19 0 []),(1,oP 20 (.call 45 [.t 19]) [19]),(2,oT 6 20 [20])] (sR [(0,oT
21 0 []),(1,oP 22 (.call 45 [.t 21]) [21]),(2,oT 7 22 [22])] (sR [(0,oT 23 0 []),(1,oP 24 (.call 45 [.t 23]) [23]),(2,oT 8 24 [24])] (sR [(0,oT 25 5 [5]),(1,oP 26 (.bin .mul (.t 25) (.c (.int .i64 16777216)))
[25]),(2,oT 27 6 [6]),(3,oP 28 (.bin .mul (.t 27) (.c (.int .i64 65536))) [27]),(4,oP 29 (.bin .add (.t 26) (.t 28)) [26,28]),(5,oT 30 7 [7]),(6,oP 31 (.bin .mul (.t 30) (.c (.int .i64 256))) [30]),(7,oP 32 (.bin .add
(.t 29) (.t 31)) [29,31]),(8,oT 33 8 [8]),(9,oP 34 (.bin .add (.t 32) (.t 33)) [32,33]),(10,oT 35 1 [1]),(11,oP 36 (.bin .rem (.t 34) (.t 35)) [34,35]),(12,oT 4 36 [36])] .ret))))))))
def C24 : CFn := ⟨37,2,[.t 4],B24⟩
abbrev L25_1 : CCode := (sR [(0,oP 74 (.bin .lss (.t 73) (.t 72)) [])] (.seq (.cond (.t 74) (sK [74] .skip) (sK [71,72,73,74] (.exit 2))) (.seq (.block 3 (sR [(0,oP 75 (.ia 1 (.t 71) (.t 73)) []),(1,oP 76 (.ld 1 false
(.t 75)) [75]),(2,oT 9 76 [76])] (sR [(0,oT 77 9 [9]),(1,oP 78 (.fa 0 (.t 3)) []),(2,oP 79 (.ld 1 false (.t 78)) [78]),(3,oP 80 (.bin .sub (.t 79) (.c (.int .i64 1))) [79]),(4,oP 81 (.call 26 [.t 77,(.c (.int .i64
(-10))),.t 80]) [77,80]),(5,oP 82 (.not (.t 81)) [81])] (.cond (.t 82) (sK [0,3,5,7,36,37,38,71,72,73,82] (sR [(0,oP 4 (.mv (.c (.bool false))) [])] .ret)) (sK [82] .skip))))) (.reg false [(0,oP 83 (.bin .add (.t 73)
(.c (.int .i64 1))) [73]),(1,oT 73 83 [83])]))))
abbrev L25_0 : CCode := (sR [(0,oP 39 (.bin .lss (.t 38) (.t 37)) [])] (.seq (.cond (.t 39) (sK [39] .skip) (sK [0,36,37,38,39] (.exit 0))) (.seq (.block 1 (sR [(0,oT 40 38 []),(1,oP 41 (.ia 2 (.t 36) (.t 38)) []),(2,oP
42 (.ld 2 true (.t 41)) [41]),(3,oP 7 (.al [.int .i64 (0),.nils]) []),(4,oT 6 40 [40]),(5,⟨none,.st 2 (.t 7) (.t 42),none,[],[42]⟩)] (.seq (.seq (.reg true [(0,oP 43 (.fa 0 (.t 7)) []),(1,oP 44 (.ld 1 false (.t 43))
[43]),(2,oT 45 0 []),(3,oP 46 (.len (.t 45)) [45]),(4,oP 47 (.bin .sub (.t 46) (.c (.int .i64 1))) [46]),(5,oP 48 (.call 26 [.t 44,(.c (.int .i64 0)),.t 47]) [44,47]),(6,oP 49 (.not (.t 48)) [48]),(7,oT 50 49
[49]),(8,oG 51 (.fa 1 (.t 7)) 50 false []),(9,oG 52 (.ld 1 false (.t 51)) 50 false [51]),(10,oG 53 (.len (.t 52)) 50 false [52]),(11,oG 54 (.mv (.t 0)) 50 false []),(12,oG 55 (.fa 0 (.t 7)) 50 false []),(13,oG 56 (.ld 1
false (.t 55)) 50 false [55]),(14,oG 57 (.ia 3 (.t 54) (.t 56)) 50 false []),(15,oG 58 (.fa 1 (.t 57)) 50 false [57]),(16,oG 59 (.ld 1 false (.t 58)) 50 false [54,56,58]),(17,oG 60 (.bin .neq (.t 53) (.t 59)) 50 false
[53,59]),(18,oP 61 (.pick (.t 50) (.c (.bool true)) (.t 60)) [50,60]),(19,oT 62 61 [61]),(20,oG 63 (.fa 1 (.t 3)) 62 false []),(21,oG 64 (.ld 1 false (.t 63)) 62 false [63]),(22,oG 65 (.mv (.t 6)) 62 false [6]),(23,oG
66 (.sls 2 (.t 64) none (some (.t 65)) none) 62 false [64,65]),(24,oG 67 (.fn 49 [.t 7]) 62 false []),(25,oG 68 (.call 48 [.t 66,.t 67]) 62 false [66,67]),(26,oP 69 (.pick (.t 62) (.c (.bool true)) (.t 68)) [62,68])])
(.cond (.t 69) (sK [0,3,5,7,36,37,38,69] (sR [(0,oP 4 (.mv (.c (.bool false))) [])] .ret)) (sK [69] .skip))) (.seq (sR [(0,oP 70 (.fa 1 (.t 7)) []),(1,oP 71 (.ld 1 false (.t 70)) [70]),(2,oP 72 (.len (.t 71)) []),(3,oP
73 (.mv (.c (.int .i64 0))) [])] (.block 2 (.loop L25_1))) (.reg false [(0,oT 84 5 [5]),(1,oP 85 (.ld 2 true (.t 7)) []),(2,oP 86 (.call 51 [.t 85]) [7,85]),(3,oP 87 (.call 50 [.t 84,.t 86]) [84,86]),(4,oT 5 87
[87])]))))) (.reg false [(0,oP 88 (.bin .add (.t 38) (.c (.int .i64 1))) [38]),(1,oT 38 88 [88])]))))
abbrev B25 : CCode := (sR [(0,oP 3 (.box 3 (.t 1)) [1]),(1,oP 4 (.mv (.c (.bool false))) [4])] (.seq (sR [(0,oT 10 0 []),(1,oP 11 (.call 46 [.t 10]) [10]),(2,oP 12 (.not (.t 11)) [11]),(3,oT 13 12 [12]),(4,oG 14 (.fa 0
(.t 3)) 13 false []),(5,oG 15 (.ld 1 false (.t 14)) 13 false [14]),(6,oG 16 (.call 26 [.t 15,(.c (.int .i64 0)),(.c (.int .i64 4))]) 13 false [15]),(7,oG 17 (.not (.t 16)) 13 false [16]),(8,oP 18 (.pick (.t 13) (.c
(.bool true)) (.t 17)) [13,17]),(9,oT 19 18 [18]),(10,oG 20 (.fa 1 (.t 3)) 19 false []),(11,oG 21 (.ld 1 false (.t 20)) 19 false [20]),(12,oG 22 (.len (.t 21)) 19 false [21]),(13,oG 23 (.call 26 [.t 22,(.c (.int .i64
1)),(.c (.int .i64 3))]) 19 false [22]),(14,oG 24 (.not (.t 23)) 19 false [23]),(15,oP 25 (.pick (.t 19) (.c (.bool true)) (.t 24)) [19,24]),(16,oT 26 25 [25]),(17,oG 27 (.fa 2 (.t 3)) 26 false []),(18,oG 28 (.ld 1
false (.t 27)) 26 false [27]),(19,oG 29 (.fa 0 (.t 3)) 26 false []),(20,oG 30 (.ld 1 false (.t 29)) 26 false [29]),(21,oG 31 (.call 47 [.t 28,.t 30]) 26 false [28,30]),(22,oG 32 (.not (.t 31)) 26 false [31]),(23,oP 33
(.pick (.t 26) (.c (.bool true)) (.t 32)) [26,32])] (.cond (.t 33) (sK [0,3,33] (sR [(0,oP 4 (.mv (.c (.bool false))) [])] .ret)) (sK [33] .skip))) (sR [(0,oP 34 (.bsl 1 0 [.int .i64 (0)] []) []),(1,oT 5 34 [34])] (.seq
(sR [(0,oP 35 (.fa 1 (.t 3)) []),(1,oP 36 (.ld 1 false (.t 35)) [35]),(2,oP 37 (.len (.t 36)) []),(3,oP 38 (.mv (.c (.int .i64 0))) [])] (.block 0 (.loop L25_0))) (sR [(0,oT 89 5 [5]),(1,oP 90 (.len (.t 89)) [89]),(2,oP
91 (.fa 0 (.t 3)) []),(3,oP 92 (.ld 1 false (.t 91)) [3,91]),(4,oP 93 (.bin .eql (.t 90) (.t 92)) [90,92]),(5,oT 4 93 [93])] .ret)))))
def C25 : CFn := ⟨94,2,[.t 4],B25⟩
abbrev B26 : CCode := (sR [(0,oP 6 (.mv (.c (.bool false))) [6])] (sR [(0,oT 7 1 [1]),(1,oT 8 0 []),(2,oP 9 (.bin .leq (.t 7) (.t 8)) [7,8]),(3,oT 10 9 [9]),(4,oG 11 (.mv (.t 0)) 10 true [0]),(5,oG 12 (.mv (.t 2)) 10
true [2]),(6,oG 13 (.bin .leq (.t 11) (.t 12)) 10 true [11,12]),(7,oP 14 (.pick (.t 10) (.t 13) (.c (.bool false))) [10,13]),(8,oT 6 14 [14])] .ret))
def C26 : CFn := ⟨15,3,[.t 6],B26⟩
abbrev B27 : CCode := (sR [(0,oP 10 (.mv (.c (.bool false))) [10])] (sR [(0,oT 12 1 []),(1,oT 13 4 []),(2,oP 14 (.ia 2 (.t 12) (.t 13)) []),(3,oP 15 (.ld 2 true (.t 14)) [14]),(4,oP 16 (.call 51 [.t 15])
[12,13,15]),(5,oT 11 16 [16])] (sR [(0,oT 17 3 []),(1,oT 18 4 [4]),(2,oP 19 (.bin .neq (.t 17) (.t 18)) [17,18]),(3,oT 20 19 [19]),(4,oG 21 (.mv (.t 11)) 20 true []),(5,oG 22 (.mv (.t 0)) 20 true [0]),(6,oG 23 (.mv (.t
1)) 20 true [1]),(7,oG 24 (.mv (.t 2)) 20 true [2]),(8,oG 25 (.mv (.t 3)) 20 true [3]),(9,oG 26 (.call 35 [.t 22,.t 23,.t 24,.t 25]) 20 true [22,23,24,25]),(10,oG 27 (.call 52 [.t 21,.t 26]) 20 true [21,26]),(11,oG 28
(.len (.t 27)) 20 true [27]),(12,oG 29 (.mv (.t 11)) 20 true [11]),(13,oG 30 (.len (.t 29)) 20 true [29]),(14,oG 31 (.bin .lss (.t 28) (.t 30)) 20 true [28,30]),(15,oP 32 (.pick (.t 20) (.t 31) (.c (.bool false)))
[20,31]),(16,oT 10 32 [32])] .ret)))
def C27 : CFn := ⟨33,5,[.t 10],B27⟩
abbrev B28 : CCode := (sR [(0,oP 5 (.box 3 (.t 1)) [1]),(1,oP 8 (.mv (.c (.bool false))) [8])] (sR [(0,oT 9 0 []),(1,oP 10 (.ld 3 true (.t 5)) []),(2,oP 11 (.call 25 [.t 9,.t 10]) [9,10]),(3,oT 12 11 [11]),(4,oG 13 (.mv
(.t 3)) 12 true [3]),(5,oG 14 (.mv (.t 0)) 12 true [0]),(6,oG 15 (.ld 3 true (.t 5)) 12 true []),(7,oG 16 (.mv (.t 2)) 12 true [2]),(8,oG 17 (.call 54 [.t 14,.t 15,(.c (.int .i64 (-1))),.t 16]) 12 true
[5,14,15,16]),(9,oG 18 (.call 53 [.t 13,.t 17]) 12 true [13,17]),(10,oP 19 (.pick (.t 12) (.t 18) (.c (.bool false))) [12,18]),(11,oT 8 19 [19])] .ret))
def C28 : CFn := ⟨20,4,[.t 8],B28⟩
abbrev B29 : CCode := (sR [(0,oP 3 (.box 2 (.t 1)) [1]),(1,oP 4 (.mv (.c (.nils))) [4])] (.seq (.seq (.reg true [(0,oP 5 (.fa 0 (.t 3)) []),(1,oP 6 (.ld 1 false (.t 5)) [5]),(2,oT 7 0 []),(3,oP 8 (.len (.t 7))
[7]),(4,oP 9 (.bin .sub (.t 8) (.c (.int .i64 1))) [8]),(5,oP 10 (.call 26 [.t 6,(.c (.int .i64 0)),.t 9]) [6,9]),(6,oP 11 (.not (.t 10)) [10]),(7,oT 12 11 [11]),(8,oG 13 (.mv (.t 0)) 12 false []),(9,oG 14 (.fa 0 (.t
3)) 12 false []),(10,oG 15 (.ld 1 false (.t 14)) 12 false [14]),(11,oG 16 (.ia 3 (.t 13) (.t 15)) 12 false []),(12,oG 17 (.fa 2 (.t 16)) 12 false [16]),(13,oG 18 (.ld 1 false (.t 17)) 12 false [13,15,17]),(14,oG 19 (.fa
1 (.t 3)) 12 false []),(15,oG 20 (.ld 1 false (.t 19)) 12 false [19]),(16,oG 21 (.len (.t 20)) 12 false [20]),(17,oG 22 (.call 26 [.t 18,(.c (.int .i64 0)),.t 21]) 12 false [18,21]),(18,oG 23 (.not (.t 22)) 12 false
[22]),(19,oP 24 (.pick (.t 12) (.c (.bool true)) (.t 23)) [12,23])]) (.cond (.t 24) (sK [0,3,24] (sR [(0,oP 4 (.mv (.c (.nils))) [])] .ret)) (sK [24] .skip))) (.seq (.reg true [(0,oP 25 (.fa 1 (.t 3)) []),(1,oP 26 (.ld
1 false (.t 25)) [25]),(2,oT 27 0 [0]),(3,oP 28 (.fa 0 (.t 3)) []),(4,oP 29 (.ld 1 false (.t 28)) [28]),(5,oP 30 (.ia 3 (.t 27) (.t 29)) []),(6,oP 31 (.fa 2 (.t 30)) [30]),(7,oP 32 (.ld 1 false (.t 31))
[27,29,31]),(8,oP 33 (.sls 1 (.t 26) none (some (.t 32)) none) [3,26,32]),(9,oP 34 (.bld [.int .i64 (0),.nils] [(1,1,(.t 33))]) [33]),(10,oP 35 (.call 51 [.t 34]) [34]),(11,oT 4 35 [35])]) .ret)))
def C29 : CFn := ⟨36,2,[.t 4],B29⟩
abbrev B30 : CCode := (sR [(0,oP 6 (.mv (.c (.bool false))) [6])] (sR [(0,oT 7 0 []),(1,oT 8 1 [1]),(2,oP 9 (.bin .geq (.t 7) (.t 8)) [7,8]),(3,oT 10 9 [9]),(4,oG 11 (.mv (.t 0)) 10 true [0]),(5,oG 12 (.mv (.t 2)) 10
true [2]),(6,oG 13 (.bin .leq (.t 11) (.t 12)) 10 true [11,12]),(7,oP 14 (.pick (.t 10) (.t 13) (.c (.bool false))) [10,13]),(8,oT 6 14 [14])] .ret))
def C30 : CFn := ⟨15,3,[.t 6],B30⟩
abbrev L31_0 : CCode := (.seq (sR [(0,oT 6 4 []),(1,oP 7 (.bin .lss (.t 6) (.c (.int .i64 4))) [6])] (.cond (.t 7) (sK [7] .skip) (sK [1,4,7] (.exit 0)))) (.seq (.block 1 (sR [(0,oP 10 (.fa 1 (.t 1)) []),(1,oP 11 (.ld 1
false (.t 10)) [10]),(2,oT 12 4 []),(3,oP 13 (.call 32 [.t 11,.t 12]) [11,12])] (.cond (.t 13) (sK [13] (.reg false [(0,oT 14 3 [3]),(1,oT 15 4 []),(2,oP 16 (.bsl 1 1 [.int .i64 (0)] [(0,1,(.t 15))]) [15]),(3,oP 17
(.app 1 8 (.t 14) (.t 16)) [14,16]),(4,oT 3 17 [17])])) (sK [13] .skip)))) (.reg false [(0,oT 8 4 [4]),(1,oP 9 (.bin .add (.t 8) (.c (.int .i64 1))) [8]),(2,oT 4 9 [9])])))
abbrev B31 : CCode := (sR [(0,oP 1 (.box 2 (.t 0)) [0]),(1,oP 2 (.mv (.c (.nils))) [2])] (sR [(0,oP 5 (.bsl 1 0 [.int .i64 (0)] []) []),(1,oT 3 5 [5])] (.seq (sR [(0,oP 4 (.mv (.c (.int .i64 0))) [])] (.block 0 (.loop
L31_0))) (sR [(0,oT 18 3 [3]),(1,oT 2 18 [18])] .ret))))
def C31 : CFn := ⟨19,1,[.t 2],B31⟩
abbrev L32_0 : CCode := (.seq (sR [(0,oT 6 5 []),(1,oT 7 0 []),(2,oP 8 (.len (.t 7)) [7]),(3,oP 9 (.bin .lss (.t 6) (.t 8)) [6,8])] (.cond (.t 9) (sK [9] .skip) (sK [0,1,5,9] (.exit 0)))) (.seq (.block 1 (sR [(0,oT 12 0
[]),(1,oT 13 5 []),(2,oP 14 (.ia 1 (.t 12) (.t 13)) []),(3,oP 15 (.ld 1 false (.t 14)) [12,13,14]),(4,oT 16 1 []),(5,oP 17 (.bin .eql (.t 15) (.t 16)) [15,16])] (.cond (.t 17) (sK [0,1,5,17] (sR [(0,oP 4 (.mv (.c (.bool
true))) [])] .ret)) (sK [17] .skip)))) (.reg false [(0,oT 10 5 [5]),(1,oP 11 (.bin .add (.t 10) (.c (.int .i64 1))) [10]),(2,oT 5 11 [11])])))
abbrev B32 : CCode := (sR [(0,oP 4 (.mv (.c (.bool false))) [4])] (.seq (sR [(0,oP 5 (.mv (.c (.int .i64 0))) [])] (.block 0 (.loop L32_0))) (sR [(0,oP 4 (.mv (.c (.bool false))) [])] .ret)))
def C32 : CFn := ⟨18,2,[.t 4],B32⟩
abbrev B33 : CCode := (sR [(0,oP 5 (.box 3 (.t 1)) [1]),(1,oP 8 (.mv (.c (.bool false))) [8])] (sR [(0,oT 9 0 []),(1,oP 10 (.ld 3 true (.t 5)) []),(2,oP 11 (.call 19 [.t 9,.t 10]) [9,10]),(3,oT 12 11 [11]),(4,oG 13 (.mv
(.t 0)) 12 true [0]),(5,oG 14 (.ld 3 true (.t 5)) 12 true []),(6,oG 15 (.mv (.t 2)) 12 true [2]),(7,oG 16 (.call 36 [.t 13,.t 14,(.c (.int .i64 (-1))),.t 15]) 12 true [5,13,14,15]),(8,oG 17 (.mv (.t 3)) 12 true
[3]),(9,oG 18 (.call 55 [.t 16,.t 17]) 12 true [16,17]),(10,oP 19 (.pick (.t 12) (.t 18) (.c (.bool false))) [12,18]),(11,oT 8 19 [19])] .ret))
def C33 : CFn := ⟨20,4,[.t 8],B33⟩
abbrev B34 : CCode := (sR [(0,oP 3 (.box 2 (.t 1)) [1]),(1,oP 4 (.mv (.c (.nils))) [4])] (.seq (.seq (.reg true [(0,oP 5 (.fa 0 (.t 3)) []),(1,oP 6 (.ld 1 false (.t 5)) [5]),(2,oT 7 0 []),(3,oP 8 (.len (.t 7))
[7]),(4,oP 9 (.bin .sub (.t 8) (.c (.int .i64 1))) [8]),(5,oP 10 (.call 30 [.t 6,(.c (.int .i64 0)),.t 9]) [6,9]),(6,oP 11 (.not (.t 10)) [10]),(7,oT 12 11 [11]),(8,oG 13 (.mv (.t 0)) 12 false []),(9,oG 14 (.fa 0 (.t
3)) 12 false []),(10,oG 15 (.ld 1 false (.t 14)) 12 false [14]),(11,oG 16 (.ia 3 (.t 13) (.t 15)) 12 false []),(12,oG 17 (.fa 2 (.t 16)) 12 false [16]),(13,oG 18 (.ld 1 false (.t 17)) 12 false [13,15,17]),(14,oG 19 (.fa
1 (.t 3)) 12 false []),(15,oG 20 (.ld 1 false (.t 19)) 12 false [19]),(16,oG 21 (.len (.t 20)) 12 false [20]),(17,oG 22 (.call 30 [.t 18,(.c (.int .i64 0)),.t 21]) 12 false [18,21]),(18,oG 23 (.not (.t 22)) 12 false
[22]),(19,oP 24 (.pick (.t 12) (.c (.bool true)) (.t 23)) [12,23])]) (.cond (.t 24) (sK [0,3,24] (sR [(0,oP 25 (.bsl 1 0 [.int .i64 (0)] []) []),(1,oT 4 25 [25])] .ret)) (sK [24] .skip))) (.seq (.reg true [(0,oP 26 (.fa
1 (.t 3)) []),(1,oP 27 (.ld 1 false (.t 26)) [26]),(2,oT 28 0 [0]),(3,oP 29 (.fa 0 (.t 3)) []),(4,oP 30 (.ld 1 false (.t 29)) [29]),(5,oP 31 (.ia 3 (.t 28) (.t 30)) []),(6,oP 32 (.fa 2 (.t 31)) [31]),(7,oP 33 (.ld 1
false (.t 32)) [28,30,32]),(8,oP 34 (.sls 1 (.t 27) none (some (.t 33)) none) [3,27,33]),(9,oP 35 (.bld [.int .i64 (0),.nils] [(1,1,(.t 34))]) [34]),(10,oP 36 (.call 31 [.t 35]) [35]),(11,oT 4 36 [36])]) .ret)))
def C34 : CFn := ⟨37,2,[.t 4],B34⟩
abbrev L35_1 : CCode := (sR [(0,oP 39 (.bin .lss (.t 38) (.t 37)) [])] (.seq (.cond (.t 39) (sK [39] .skip) (sK [36,37,38,39] (.exit 2))) (.seq (.block 3 (sR [(0,oP 40 (.ia 2 (.t 36) (.t 38)) []),(1,oP 41 (.ld 2 true
(.t 40)) [40]),(2,oP 13 (.al [.int .i64 (0),.nils]) []),(3,⟨none,.st 2 (.t 13) (.t 41),none,[],[41]⟩)] (sR [(0,oP 42 (.ld 2 true (.t 13)) []),(1,oP 43 (.call 51 [.t 42]) [13,42]),(2,oT 44 9 []),(3,oP 45 (.call 52 [.t
43,.t 44]) [43,44]),(4,oT 14 45 [45])] (sR [(0,oT 46 14 []),(1,oT 47 11 []),(2,oP 48 (.call 52 [.t 46,.t 47]) [46,47]),(3,oP 49 (.len (.t 48)) [48]),(4,oT 50 14 []),(5,oP 51 (.len (.t 50)) [50]),(6,oP 52 (.bin .lss (.t
49) (.t 51)) [49,51])] (.cond (.t 52) (sK [52] (.reg false [(0,oT 53 11 [11]),(1,oT 54 14 [14]),(2,oP 55 (.call 50 [.t 53,.t 54]) [53,54]),(3,oT 11 55 [55])])) (sK [14,52] .skip)))))) (.reg false [(0,oP 56 (.bin .add
(.t 38) (.c (.int .i64 1))) [38]),(1,oT 38 56 [56])]))))
abbrev L35_0 : CCode := (.block 1 (sR [(0,oT 35 10 []),(1,oT 11 35 [35])] (.seq (sR [(0,oT 36 1 []),(1,oP 37 (.len (.t 36)) []),(2,oP 38 (.mv (.c (.int .i64 0))) [])] (.block 2 (.loop L35_1))) (.seq (sR [(0,oT 57 11
[]),(1,oP 58 (.len (.t 57)) [57]),(2,oT 59 10 []),(3,oP 60 (.len (.t 59)) [59]),(4,oP 61 (.bin .eql (.t 58) (.t 60)) [58,60])] (.cond (.t 61) (sK [1,9,11,61] (sR [(0,oT 62 10 [10]),(1,oT 8 62 [62])] .ret)) (sK [10,61]
.skip))) (.reg false [(0,oT 63 11 [11]),(1,oT 10 63 [63])])))))
abbrev B35 : CCode := (sR [(0,oP 8 (.mv (.c (.nils))) [8])] (sR [(0,oT 15 0 []),(1,oT 16 1 []),(2,oT 17 3 []),(3,oT 18 2 [2]),(4,oT 19 0 []),(5,oT 20 1 []),(6,oT 21 3 []),(7,oP 22 (.ia 2 (.t 20) (.t 21)) []),(8,oP 23
(.ld 2 true (.t 22)) [22]),(9,oP 24 (.call 29 [.t 19,.t 23]) [19,20,21,23]),(10,oP 25 (.bsl 1 2 [.nils] [(0,1,(.t 18)),(1,1,(.t 24))]) [18,24]),(11,oP 26 (.call 57 [.t 25]) [25]),(12,oP 27 (.call 56 [.t 15,.t 16,.t
17,.t 26]) [15,16,17,26]),(13,oT 9 27 [27])] (sR [(0,oT 28 1 []),(1,oT 29 3 [3]),(2,oP 30 (.ia 2 (.t 28) (.t 29)) []),(3,oP 31 (.ld 2 true (.t 30)) [30]),(4,oP 32 (.call 51 [.t 31]) [28,29,31]),(5,oT 33 9 []),(6,oP 34
(.call 52 [.t 32,.t 33]) [32,33]),(7,oT 10 34 [34])] (.block 0 (.loop L35_0)))))
def C35 : CFn := ⟨64,4,[.t 8],B35⟩
abbrev L36_1 : CCode := (.seq (sR [(0,oT 28 11 []),(1,oP 29 (.fa 1 (.t 5)) []),(2,oP 30 (.ld 1 false (.t 29)) [29]),(3,oP 31 (.len (.t 30)) [30]),(4,oP 32 (.bin .lss (.t 28) (.t 31)) [28,31])] (.cond (.t 32) (sK [32]
.skip) (sK [11,32] (.exit 2)))) (.seq (.block 3 (sR [(0,oT 35 11 []),(1,oT 36 2 []),(2,oP 37 (.bin .neq (.t 35) (.t 36)) [35,36]),(3,oT 38 37 [37]),(4,oG 39 (.mv (.t 9)) 38 true []),(5,oG 40 (.mv (.t 0)) 38 true
[]),(6,oG 41 (.fa 1 (.t 5)) 38 true []),(7,oG 42 (.ld 1 false (.t 41)) 38 true [41]),(8,oG 43 (.mv (.t 11)) 38 true []),(9,oG 44 (.ia 2 (.t 42) (.t 43)) 38 true [42]),(10,oG 45 (.ld 2 true (.t 44)) 38 true [44]),(11,oG
46 (.call 34 [.t 40,.t 45]) 38 true [40,43,45]),(12,oG 47 (.call 55 [.t 39,.t 46]) 38 true [39,46]),(13,oP 48 (.pick (.t 38) (.t 47) (.c (.bool false))) [38,47])] (.cond (.t 48) (sK [48] (.reg false [(0,oT 49 9
[9]),(1,oP 50 (.fa 1 (.t 5)) []),(2,oP 51 (.ld 1 false (.t 50)) [50]),(3,oT 52 11 []),(4,oP 53 (.ia 2 (.t 51) (.t 52)) [51]),(5,oP 54 (.ld 2 true (.t 53)) [53]),(6,oP 55 (.call 31 [.t 54]) [52,54]),(7,oP 56 (.call 37
[.t 49,.t 55]) [49,55]),(8,oT 9 56 [56])])) (sK [48] .skip)))) (.reg false [(0,oT 33 11 [11]),(1,oP 34 (.bin .add (.t 33) (.c (.int .i64 1))) [33]),(2,oT 11 34 [34])])))
abbrev L36_0 : CCode := (.seq (sR [(0,oT 21 10 []),(1,oP 22 (.fa 1 (.t 5)) []),(2,oP 23 (.ld 1 false (.t 22)) [22]),(3,oP 24 (.len (.t 23)) [23]),(4,oP 25 (.bin .lss (.t 21) (.t 24)) [21,24])] (.cond (.t 25) (sK [25]
.skip) (sK [0,2,5,10,25] (.exit 0)))) (.seq (.block 1 (sR [(0,oP 11 (.mv (.c (.int .i64 0))) [])] (.block 2 (.loop L36_1)))) (.reg false [(0,oT 26 10 [10]),(1,oP 27 (.bin .add (.t 26) (.c (.int .i64 1))) [26]),(2,oT 10
27 [27])])))
abbrev B36 : CCode := (sR [(0,oP 5 (.box 3 (.t 1)) [1]),(1,oP 8 (.mv (.c (.nils))) [8])] (.seq (sR [(0,oT 12 0 []),(1,oP 13 (.ld 3 true (.t 5)) []),(2,oP 14 (.call 19 [.t 12,.t 13]) [12,13]),(3,oP 15 (.not (.t 14))
[14])] (.cond (.t 15) (sK [0,2,3,5,15] (sR [(0,oP 16 (.bsl 1 0 [.int .i64 (0)] []) []),(1,oT 8 16 [16])] .ret)) (sK [15] .skip))) (sR [(0,oT 17 3 [3]),(1,oP 18 (.fa 2 (.t 5)) []),(2,oP 19 (.ld 1 false (.t 18))
[18]),(3,oP 20 (.call 37 [.t 17,.t 19]) [17,19]),(4,oT 9 20 [20])] (.seq (sR [(0,oP 10 (.mv (.c (.int .i64 0))) [])] (.block 0 (.loop L36_0))) (sR [(0,oT 57 9 [9]),(1,oT 8 57 [57])] .ret)))))
def C36 : CFn := ⟨58,4,[.t 8],B36⟩
abbrev L37_0 : CCode := (.seq (sR [(0,oT 8 6 []),(1,oP 9 (.bin .lss (.t 8) (.c (.int .i64 4))) [8])] (.cond (.t 9) (sK [9] .skip) (sK [0,1,6,9] (.exit 0)))) (.seq (.block 1 (sR [(0,oT 12 0 []),(1,oT 13 6 []),(2,oP 14
(.call 32 [.t 12,.t 13]) [12,13]),(3,oT 15 14 [14]),(4,oG 16 (.mv (.t 1)) 15 false []),(5,oG 17 (.mv (.t 6)) 15 false []),(6,oG 18 (.call 32 [.t 16,.t 17]) 15 false [16,17]),(7,oP 19 (.pick (.t 15) (.c (.bool true)) (.t
18)) [15,18])] (.cond (.t 19) (sK [19] (.reg false [(0,oT 20 5 [5]),(1,oT 21 6 []),(2,oP 22 (.bsl 1 1 [.int .i64 (0)] [(0,1,(.t 21))]) [21]),(3,oP 23 (.app 1 8 (.t 20) (.t 22)) [20,22]),(4,oT 5 23 [23])])) (sK [19]
.skip)))) (.reg false [(0,oT 10 6 [6]),(1,oP 11 (.bin .add (.t 10) (.c (.int .i64 1))) [10]),(2,oT 6 11 [11])])))
abbrev B37 : CCode := (sR [(0,oP 4 (.mv (.c (.nils))) [4])] (sR [(0,oP 7 (.bsl 1 0 [.int .i64 (0)] []) []),(1,oT 5 7 [7])] (.seq (sR [(0,oP 6 (.mv (.c (.int .i64 0))) [])] (.block 0 (.loop L37_0))) (sR [(0,oT 24 5
[5]),(1,oT 4 24 [24])] .ret))))
def C37 : CFn := ⟨25,2,[.t 4],B37⟩
abbrev L39_0 : CCode := (.seq (sR [(0,oT 4 3 []),(1,oT 5 0 []),(2,oP 6 (.len (.t 5)) [5]),(3,oP 7 (.bin .lss (.t 4) (.t 6)) [4,6])] (.cond (.t 7) (sK [7] .skip) (sK [3,7] (.exit 0)))) (.seq (.block 1 (.seq (.reg true
[(0,oT 10 0 []),(1,oT 11 3 []),(2,oP 12 (.ia 3 (.t 10) (.t 11)) []),(3,oP 13 (.ld 3 true (.t 12)) [12]),(4,oP 14 (.call 58 [.t 13]) [10,11,13]),(5,oP 15 (.not (.t 14)) [14]),(6,oT 16 15 [15]),(7,oG 17 (.mv (.t 3)) 16
false []),(8,oG 18 (.bin .gtr (.t 17) (.c (.int .i64 0))) 16 false [17]),(9,oG 19 (.mv (.t 18)) 16 false [18]),(10,oG 20 (.mv (.t 0)) 19 true []),(11,oG 21 (.mv (.t 3)) 19 true []),(12,oG 22 (.bin .sub (.t 21) (.c (.int
.i64 1))) 19 true [21]),(13,oG 23 (.ia 3 (.t 20) (.t 22)) 19 true []),(14,oG 24 (.fa 0 (.t 23)) 19 true [23]),(15,oG 25 (.ld 1 false (.t 24)) 19 true [20,22,24]),(16,oG 26 (.mv (.t 0)) 19 true []),(17,oG 27 (.mv (.t 3))
19 true []),(18,oG 28 (.ia 3 (.t 26) (.t 27)) 19 true []),(19,oG 29 (.fa 0 (.t 28)) 19 true [28]),(20,oG 30 (.ld 1 false (.t 29)) 19 true [26,27,29]),(21,oG 31 (.bin .geq (.t 25) (.t 30)) 19 true [25,30]),(22,oG 32
(.pick (.t 19) (.t 31) (.c (.bool false))) 16 false [19,31]),(23,oP 33 (.pick (.t 16) (.c (.bool true)) (.t 32)) [16,32])]) (.cond (.t 33) (sK [0,3,33] (sR [(0,oP 2 (.mv (.c (.bool false))) [])] .ret)) (sK [33]
.skip)))) (.reg false [(0,oT 8 3 [3]),(1,oP 9 (.bin .add (.t 8) (.c (.int .i64 1))) [8]),(2,oT 3 9 [9])])))
abbrev B39 : CCode := (sR [(0,oP 2 (.mv (.c (.bool false))) [2])] (.seq (sR [(0,oP 3 (.mv (.c (.int .i64 0))) [])] (.block 0 (.loop L39_0))) (sR [(0,oT 34 0 [0]),(1,oP 35 (.len (.t 34)) [34]),(2,oP 36 (.bin .leq (.t 35)
(.c (.int .i64 4))) [35]),(3,oT 2 36 [36])] .ret)))
def C39 : CFn := ⟨37,1,[.t 2],B39⟩
abbrev L42_0 : CCode := (.seq (sR [(0,oT 8 4 []),(1,oT 9 0 []),(2,oP 10 (.len (.t 9)) [9]),(3,oP 11 (.bin .lss (.t 8) (.t 10)) [8,10]),(4,oT 12 11 [11]),(5,oG 13 (.mv (.t 4)) 12 true []),(6,oG 14 (.bin .lss (.t 13) (.c
(.int .i64 4000))) 12 true [13]),(7,oP 15 (.pick (.t 12) (.t 14) (.c (.bool false))) [12,14])] (.cond (.t 15) (sK [15] .skip) (sK [4,15] (.exit 0)))) (.seq (.block 1 (.reg false [(0,oT 18 3 [3]),(1,oP 19 (.bin .mul (.t
18) (.c (.int .i64 131))) [18]),(2,oT 20 0 []),(3,oT 21 4 []),(4,oP 22 (.ia 1 (.t 20) (.t 21)) []),(5,oP 23 (.ld 1 false (.t 22)) [20,21,22]),(6,oP 24 (.conv .i64 (.t 23)) [23]),(7,oP 25 (.bin .add (.t 19) (.t 24))
[19,24]),(8,oP 26 (.bin .add (.t 25) (.c (.int .i64 7))) [25]),(9,oP 27 (.bin .and (.t 26) (.c (.int .i64 1073741823))) [26]),(10,oT 3 27 [27])])) (.reg false [(0,oT 16 4 [4]),(1,oP 17 (.bin .add (.t 16) (.c (.int .i64
1))) [16]),(2,oT 4 17 [17])])))
abbrev B42 : CCode := (sR [(0,oP 2 (.mv (.c (.nilp))) [2])] (sR [(0,oT 5 0 []),(1,oP 6 (.len (.t 5)) [5]),(2,oP 7 (.bin .add (.c (.int .i64 10101)) (.t 6)) [6]),(3,oT 3 7 [7])] (.seq (sR [(0,oP 4 (.mv (.c (.int .i64
0))) [])] (.block 0 (.loop L42_0))) (sR [(0,oT 28 0 [0]),(1,oT 29 3 [3]),(2,oP 30 (.bld [.nils,.int .i64 (0),.int .i64 (0)] [(0,1,(.t 28)),(2,1,(.t 29))]) [28,29]),(3,oP 31 (.box 3 (.t 30)) [30]),(4,oT 2 31 [31])]
.ret))))
def C42 : CFn := ⟨32,1,[.t 2],B42⟩
abbrev B43 : CCode := (sR [(0,oP 2 (.mv (.c (.nils))) [2])] (sR [(0,oP 3 (.bld [.str [],.int .i64 (0),.int .i64 (0)] [(0,1,(.c (.str [114]))),(1,1,(.c (.int .i64 2))),(2,1,(.c (.int .i64 1)))]) []),(1,oP 4 (.bld [.str
[],.int .i64 (0),.int .i64 (0)] [(0,1,(.c (.str [115]))),(1,1,(.c (.int .i64 2))),(2,1,(.c (.int .i64 1)))]) []),(2,oT 5 0 []),(3,oP 6 (.bsl 1 4 [.int .i64 (0)] [(0,1,(.c (.int .i64 1))),(1,1,(.c (.int .i64
1))),(2,1,(.c (.int .i64 2))),(3,1,(.c (.int .i64 0)))]) []),(4,oP 7 (.call 59 [.t 5,.t 6]) [5,6]),(5,oP 8 (.bld [.str [],.int .i64 (0),.int .i64 (0)] [(0,1,(.c (.str [116]))),(1,1,(.c (.int .i64 2))),(2,1,(.t 7))])
[7]),(6,oT 9 0 []),(7,oP 10 (.call 24 [.t 9,(.c (.int .i64 2))]) [9]),(8,oP 11 (.bin .add (.c (.int .i64 1)) (.t 10)) [10]),(9,oP 12 (.bld [.str [],.int .i64 (0),.int .i64 (0)] [(0,1,(.c (.str [117]))),(1,1,(.c (.int
.i64 3))),(2,1,(.t 11))]) [11]),(10,oP 13 (.bsl 3 4 [.str [],.int .i64 (0),.int .i64 (0)] [(0,3,(.t 3)),(3,3,(.t 4)),(6,3,(.t 8)),(9,3,(.t 12))]) [3,4,8,12]),(11,oT 2 13 [13])] .ret))
def C43 : CFn := ⟨14,1,[.t 2],B43⟩
abbrev B44 : CCode := (sR [(0,oP 4 (.al [.int .i64 (0),.nils,.nils]) [])] (sR [(0,oT 6 0 []),(1,oT 7 1 [1]),(2,oP 8 (.call 60 [.t 6,.t 7]) [6,7]),(3,oP 5 (.al [.int .i64 (0),.nils,.nils]) []),(4,⟨none,.st 3 (.t 5) (.t
8),none,[],[8]⟩)] (.seq (sR [(0,oT 9 0 []),(1,oP 10 (.call 24 [.t 9,(.c (.int .i64 14))]) [9])] (.block 0 (sR [(0,oP 12 (.bin .eql (.t 10) (.c (.int .i64 0))) []),(1,oT 11 12 [12])] (.cond (.t 11) (sK [10,11] (.reg
false [(0,oT 13 0 []),(1,oP 14 (.fa 0 (.t 5)) []),(2,oP 15 (.ld 1 false (.t 14)) [14]),(3,oP 16 (.bin .add (.t 15) (.c (.int .i64 1))) [15]),(4,oP 17 (.bsl 1 3 [.int .i64 (0)] [(0,1,(.c (.int .i64 (-1)))),(1,1,(.t
16)),(2,1,(.c (.int .i64 5)))]) [16]),(5,oP 18 (.call 59 [.t 13,.t 17]) [13,17]),(6,oP 19 (.fa 0 (.t 5)) []),(7,⟨none,.st 1 (.t 19) (.t 18),none,[],[18,19]⟩)])) (sK [11] (sR [(0,oP 21 (.bin .eql (.t 10) (.c (.int .i64
1))) []),(1,oT 20 21 [21])] (.cond (.t 20) (sK [10,20] (.reg true [(0,oP 22 (.fa 1 (.t 5)) []),(1,oP 23 (.ld 1 false (.t 22)) []),(2,oT 24 0 []),(5,oP 27 (.bsl 1 2 [.int .i64 (0)] [(0,1,(.c (.int .i64 0))),(1,1,(.c
(.int .i64 0)))]) []),(3,⟨some 25,.call 24 [.t 24,(.c (.int .i64 6))],none,[(22,1)],[22,24]⟩),(4,oP 26 (.bin .sub (.t 25) (.c (.int .i64 1))) [25]),(6,oP 28 (.bld [.int .i64 (0),.nils] [(0,1,(.t 26)),(1,1,(.t 27))])
[26,27]),(7,oP 29 (.bsl 2 1 [.int .i64 (0),.nils] [(0,2,(.t 28))]) [28]),(8,oP 30 (.app 2 32 (.t 23) (.t 29)) [23,29]),(9,oP 31 (.fa 1 (.t 5)) []),(10,⟨none,.st 1 (.t 31) (.t 30),none,[],[30,31]⟩)])) (sK [20] (sR [(0,oP
33 (.bin .eql (.t 10) (.c (.int .i64 2))) []),(1,oT 32 33 [33])] (.cond (.t 32) (sK [10,32] (.reg true [(0,oP 34 (.fa 1 (.t 5)) []),(1,oP 35 (.ld 1 false (.t 34)) []),(2,oP 36 (.ia 2 (.t 35) (.c (.int .i64 0)))
[35]),(3,oP 37 (.fa 1 (.t 36)) [36]),(4,oP 38 (.ld 1 false (.t 37)) []),(5,oT 39 0 []),(6,oP 40 (.bsl 1 3 [.int .i64 (0)] [(0,1,(.c (.int .i64 (-11)))),(1,1,(.c (.int .i64 4))),(2,1,(.c (.int .i64 3)))]) []),(7,⟨some
41,.call 59 [.t 39,.t 40],none,[(34,1),(37,1)],[34,37,39,40]⟩),(8,oP 42 (.ia 1 (.t 38) (.c (.int .i64 0))) [38]),(9,⟨none,.st 1 (.t 42) (.t 41),none,[],[41,42]⟩)])) (sK [32] (sR [(0,oP 44 (.bin .eql (.t 10) (.c (.int
.i64 3))) [10]),(1,oT 43 44 [44])] (.cond (.t 43) (sK [43] (.reg true [(0,oP 45 (.fa 2 (.t 5)) []),(1,oP 46 (.ld 1 false (.t 45)) []),(2,oT 47 0 []),(3,⟨some 48,.call 24 [.t 47,(.c (.int .i64
5))],none,[(45,1)],[45,47]⟩),(4,oP 49 (.bsl 1 1 [.int .i64 (0)] [(0,1,(.t 48))]) [48]),(5,oP 50 (.app 1 8 (.t 46) (.t 49)) [46,49]),(6,oP 51 (.fa 2 (.t 5)) []),(7,⟨none,.st 1 (.t 51) (.t 50),none,[],[50,51]⟩)])) (sK
[43] .skip)))))))))))))) (sR [(0,oP 52 (.ld 3 true (.t 5)) []),(1,⟨none,.st 3 (.t 4) (.t 52),none,[],[5,52]⟩)] .ret))))
def C44 : CFn := ⟨53,2,[.m 4 3 true],B44⟩
abbrev B45 : CCode := (sR [(0,oP 2 (.mv (.c (.int .i64 0))) [2])] (sR [(0,oT 4 0 []),(1,oT 5 0 []),(2,oP 6 (.nc (.t 5)) []),(3,oP 7 (.fa 2 (.t 6)) [6]),(4,oP 8 (.ld 1 false (.t 7)) [5,7]),(5,oP 9 (.bin .mul (.t 8) (.c
(.int .i64 6364136223846793005))) [8]),(6,oP 10 (.bin .add (.t 9) (.c (.int .i64 1442695040888963407))) [9]),(7,oP 11 (.nc (.t 4)) []),(8,oP 12 (.fa 2 (.t 11)) [11]),(9,⟨none,.st 1 (.t 12) (.t 10),none,[],[4,10,12]⟩)]
(.seq (.reg true [(0,oT 13 0 []),(1,oP 14 (.nc (.t 13)) []),(2,oP 15 (.fa 2 (.t 14)) [14]),(3,oP 16 (.ld 1 false (.t 15)) [13,15]),(4,oP 17 (.bin .shr (.t 16) (.c (.int .u64 (33)))) [16]),(5,oT 18 0 []),(6,oP 19 (.nc
(.t 18)) []),(7,oP 20 (.fa 2 (.t 19)) [19]),(8,oP 21 (.ld 1 false (.t 20)) [18,20]),(9,oP 22 (.bin .shr (.t 21) (.c (.int .u64 (45)))) [21]),(10,oP 23 (.bin .xor (.t 17) (.t 22)) [17,22]),(11,oP 24 (.bin .and (.t 23)
(.c (.int .i64 255))) [23]),(12,oT 3 24 [24])]) (.seq (.seq (.reg true [(0,oT 25 0 []),(1,oP 26 (.nc (.t 25)) []),(2,oP 27 (.fa 1 (.t 26)) [26]),(3,oP 28 (.ld 1 false (.t 27)) [25,27]),(4,oT 29 0 []),(5,oP 30 (.nc (.t
29)) []),(6,oP 31 (.fa 0 (.t 30)) [30]),(7,oP 32 (.ld 1 false (.t 31)) [31]),(8,oP 33 (.len (.t 32)) [29,32]),(9,oP 34 (.bin .lss (.t 28) (.t 33)) [28,33])]) (.cond (.t 34) (sK [34] (.seq (.reg true [(0,oT 35 3
[3]),(1,oT 36 0 []),(2,oP 37 (.nc (.t 36)) []),(3,oP 38 (.fa 0 (.t 37)) [37]),(4,oP 39 (.ld 1 false (.t 38)) [38]),(5,oT 40 0 []),(6,oP 41 (.nc (.t 40)) []),(7,oP 42 (.fa 1 (.t 41)) [41]),(8,oP 43 (.ld 1 false (.t 42))
[40,42]),(9,oP 44 (.ia 1 (.t 39) (.t 43)) [39]),(10,oP 45 (.ld 1 false (.t 44)) [36,43,44]),(11,oP 46 (.conv .i64 (.t 45)) [45]),(12,oP 47 (.bin .add (.t 35) (.t 46)) [35,46]),(13,oP 48 (.bin .and (.t 47) (.c (.int .i64
255))) [47]),(14,oT 3 48 [48])]) (.reg false [(0,oT 49 0 []),(1,oT 50 0 []),(2,oP 51 (.nc (.t 50)) []),(3,oP 52 (.fa 1 (.t 51)) [51]),(4,oP 53 (.ld 1 false (.t 52)) [50,52]),(5,oP 54 (.bin .add (.t 53) (.c (.int .i64
1))) [53]),(6,oP 55 (.nc (.t 49)) []),(7,oP 56 (.fa 1 (.t 55)) [55]),(8,⟨none,.st 1 (.t 56) (.t 54),none,[],[49,54,56]⟩)]))) (sK [34] .skip))) (sR [(0,oT 57 3 [3]),(1,oT 2 57 [57])] .ret)))))
def C45 : CFn := ⟨58,1,[.t 2],B45⟩
abbrev L46_0 : CCode := (sR [(0,oP 8 (.bin .lss (.t 7) (.t 6)) [])] (.seq (.cond (.t 8) (sK [8] .skip) (sK [5,6,7,8] (.exit 0))) (.seq (.block 1 (sR [(0,oT 9 7 []),(1,oP 10 (.ia 3 (.t 5) (.t 7)) []),(2,oP 11 (.ld 3 true
(.t 10)) [10]),(3,oP 4 (.al [.str [],.int .i64 (0),.int .i64 (0)]) []),(4,oT 3 9 [9]),(5,⟨none,.st 3 (.t 4) (.t 11),none,[],[11]⟩)] (.seq (.reg true [(0,oP 12 (.ld 3 true (.t 4)) []),(1,oP 13 (.call 61 [.t 12])
[12]),(2,oP 14 (.not (.t 13)) [13]),(3,oT 15 14 [14]),(4,oG 16 (.mv (.t 3)) 15 false []),(5,oG 17 (.bin .gtr (.t 16) (.c (.int .i64 0))) 15 false [16]),(6,oG 18 (.mv (.t 17)) 15 false [17]),(7,oG 19 (.mv (.t 0)) 18 true
[]),(8,oG 20 (.mv (.t 3)) 18 true [3]),(9,oG 21 (.bin .sub (.t 20) (.c (.int .i64 1))) 18 true [20]),(10,oG 22 (.ia 3 (.t 19) (.t 21)) 18 true []),(11,oG 23 (.fa 0 (.t 22)) 18 true [22]),(12,oG 24 (.ld 1 false (.t 23))
18 true [19,21,23]),(13,oG 25 (.fa 0 (.t 4)) 18 true []),(14,oG 26 (.ld 1 false (.t 25)) 18 true [4,25]),(15,oG 27 (.bin .geq (.t 24) (.t 26)) 18 true [24,26]),(16,oG 28 (.pick (.t 18) (.t 27) (.c (.bool false))) 15
false [18,27]),(17,oP 29 (.pick (.t 15) (.c (.bool true)) (.t 28)) [15,28])]) (.cond (.t 29) (sK [0,5,6,7,29] (sR [(0,oP 2 (.mv (.c (.bool false))) [])] .ret)) (sK [29] .skip))))) (.reg false [(0,oP 30 (.bin .add (.t 7)
(.c (.int .i64 1))) [7]),(1,oT 7 30 [30])]))))
abbrev B46 : CCode := (sR [(0,oP 2 (.mv (.c (.bool false))) [2])] (.seq (sR [(0,oT 5 0 []),(1,oP 6 (.len (.t 5)) []),(2,oP 7 (.mv (.c (.int .i64 0))) [])] (.block 0 (.loop L46_0))) (sR [(0,oT 31 0 [0]),(1,oP 32 (.len
(.t 31)) [31]),(2,oP 33 (.bin .leq (.t 32) (.c (.int .i64 4))) [32]),(3,oT 2 33 [33])] .ret)))
def C46 : CFn := ⟨34,1,[.t 2],B46⟩
abbrev L47_0 : CCode := (sR [(0,oP 10 (.bin .lss (.t 9) (.t 8)) [])] (.seq (.cond (.t 10) (sK [10] .skip) (sK [0,1,7,8,9,10] (.exit 0))) (.seq (.block 1 (sR [(0,oT 11 9 []),(1,oP 12 (.ia 1 (.t 7) (.t 9)) []),(2,oP 13
(.ld 1 false (.t 12)) [12]),(3,oT 5 11 [11]),(4,oT 6 13 [13])] (sR [(0,oT 14 6 []),(1,oT 15 1 []),(2,oP 16 (.bin .sub (.t 15) (.c (.int .i64 1))) [15]),(3,oP 17 (.call 26 [.t 14,(.c (.int .i64 0)),.t 16]) [14,16]),(4,oP
18 (.not (.t 17)) [17]),(5,oT 19 18 [18]),(6,oG 20 (.mv (.t 5)) 19 false []),(7,oG 21 (.bin .gtr (.t 20) (.c (.int .i64 0))) 19 false [20]),(8,oG 22 (.mv (.t 21)) 19 false [21]),(9,oG 23 (.mv (.t 0)) 22 true []),(10,oG
24 (.mv (.t 5)) 22 true [5]),(11,oG 25 (.bin .sub (.t 24) (.c (.int .i64 1))) 22 true [24]),(12,oG 26 (.ia 1 (.t 23) (.t 25)) 22 true []),(13,oG 27 (.ld 1 false (.t 26)) 22 true [23,25,26]),(14,oG 28 (.mv (.t 6)) 22
true [6]),(15,oG 29 (.bin .geq (.t 27) (.t 28)) 22 true [27,28]),(16,oG 30 (.pick (.t 22) (.t 29) (.c (.bool false))) 19 false [22,29]),(17,oP 31 (.pick (.t 19) (.c (.bool true)) (.t 30)) [19,30])] (.cond (.t 31) (sK
[0,1,7,8,9,31] (sR [(0,oP 4 (.mv (.c (.bool false))) [])] .ret)) (sK [31] .skip))))) (.reg false [(0,oP 32 (.bin .add (.t 9) (.c (.int .i64 1))) [9]),(1,oT 9 32 [32])]))))
abbrev B47 : CCode := (sR [(0,oP 4 (.mv (.c (.bool false))) [4])] (.seq (sR [(0,oT 7 0 []),(1,oP 8 (.len (.t 7)) []),(2,oP 9 (.mv (.c (.int .i64 0))) [])] (.block 0 (.loop L47_0))) (sR [(0,oP 4 (.mv (.c (.bool true)))
[])] .ret)))
def C47 : CFn := ⟨33,2,[.t 4],B47⟩
abbrev B48 : CCode := (sR [(0,oP 4 (.mv (.c (.bool false))) [4])] (sR [(0,oT 5 0 [0]),(1,oT 6 1 [1]),(2,oP 7 (.call 62 [.t 5,.t 6]) [5,6]),(3,oP 8 (.bin .geq (.t 7) (.c (.int .i64 0))) [7]),(4,oT 4 8 [8])] .ret))
def C48 : CFn := ⟨9,2,[.t 4],B48⟩
abbrev B49 : CCode := (sR [(0,oP 2 (.box 2 (.t 0)) [0]),(1,oP 3 (.mv (.c (.bool false))) [3])] (sR [(0,oP 4 (.fa 0 (.t 2)) []),(1,oP 5 (.ld 1 false (.t 4)) [2,4]),(2,oP 6 (.fa 0 (.t 1)) []),(3,oP 7 (.ld 1 false (.t 6))
[1,6]),(4,oP 8 (.bin .eql (.t 5) (.t 7)) [5,7]),(5,oT 3 8 [8])] .ret))
def C49 : CFn := ⟨9,2,[.t 3],B49⟩
abbrev B50 : CCode := (sR [(0,oP 4 (.mv (.c (.nils))) [4])] (sR [(0,oT 6 0 [0]),(1,oT 7 1 [1]),(2,oP 8 (.bsl 1 2 [.nils] [(0,1,(.t 6)),(1,1,(.t 7))]) [6,7]),(3,oP 9 (.call 57 [.t 8]) [8]),(4,oT 5 9 [9])] (sR [(0,oT 10 5
[]),(1,oP 11 (.call 63 [.t 10]) [10,11])] (sR [(0,oT 12 5 [5]),(1,oP 13 (.call 64 [.t 12]) [12]),(2,oT 4 13 [13])] .ret))))
def C50 : CFn := ⟨14,2,[.t 4],B50⟩
abbrev L51_0 : CCode := (sR [(0,oP 11 (.bin .lss (.t 10) (.t 9)) [])] (.seq (.cond (.t 11) (sK [11] .skip) (sK [1,8,9,10,11] (.exit 0))) (.seq (.block 1 (sR [(0,oP 12 (.ia 1 (.t 8) (.t 10)) []),(1,oP 13 (.ld 1 false (.t
12)) [12]),(2,oT 5 13 [13])] (sR [(0,oT 14 5 []),(1,oP 15 (.call 26 [.t 14,(.c (.int .i64 0)),(.c (.int .i64 3))]) [14])] (.cond (.t 15) (sK [15] (.reg false [(0,oT 16 3 [3]),(1,oT 17 5 [5]),(2,oP 18 (.bsl 1 1 [.int
.i64 (0)] [(0,1,(.t 17))]) [17]),(3,oP 19 (.app 1 8 (.t 16) (.t 18)) [16,18]),(4,oT 3 19 [19])])) (sK [5,15] .skip))))) (.reg false [(0,oP 20 (.bin .add (.t 10) (.c (.int .i64 1))) [10]),(1,oT 10 20 [20])]))))
abbrev B51 : CCode := (sR [(0,oP 1 (.box 2 (.t 0)) [0]),(1,oP 2 (.mv (.c (.nils))) [2])] (sR [(0,oP 6 (.bsl 1 0 [.int .i64 (0)] []) []),(1,oT 3 6 [6])] (.seq (sR [(0,oP 7 (.fa 1 (.t 1)) []),(1,oP 8 (.ld 1 false (.t 7))
[7]),(2,oP 9 (.len (.t 8)) []),(3,oP 10 (.mv (.c (.int .i64 0))) [])] (.block 0 (.loop L51_0))) (sR [(0,oT 21 3 [3]),(1,oP 22 (.call 50 [.t 21,(.c (.nils))]) [21]),(2,oT 2 22 [22])] .ret))))
def C51 : CFn := ⟨23,1,[.t 2],B51⟩
abbrev L52_0 : CCode := (sR [(0,oP 12 (.bin .lss (.t 11) (.t 10)) [])] (.seq (.cond (.t 12) (sK [12] .skip) (sK [1,9,10,11,12] (.exit 0))) (.seq (.block 1 (sR [(0,oP 13 (.ia 1 (.t 9) (.t 11)) []),(1,oP 14 (.ld 1 false
(.t 13)) [13]),(2,oT 7 14 [14])] (sR [(0,oT 15 1 []),(1,oT 16 7 []),(2,oP 17 (.call 65 [.t 15,.t 16]) [15,16]),(3,oP 18 (.not (.t 17)) [17])] (.cond (.t 18) (sK [18] (.reg false [(0,oT 19 5 [5]),(1,oT 20 7 [7]),(2,oP 21
(.bsl 1 1 [.int .i64 (0)] [(0,1,(.t 20))]) [20]),(3,oP 22 (.app 1 8 (.t 19) (.t 21)) [19,21]),(4,oT 5 22 [22])])) (sK [7,18] .skip))))) (.reg false [(0,oP 23 (.bin .add (.t 11) (.c (.int .i64 1))) [11]),(1,oT 11 23
[23])]))))
abbrev B52 : CCode := (sR [(0,oP 4 (.mv (.c (.nils))) [4])] (sR [(0,oP 8 (.bsl 1 0 [.int .i64 (0)] []) []),(1,oT 5 8 [8])] (.seq (sR [(0,oT 9 0 [0]),(1,oP 10 (.len (.t 9)) []),(2,oP 11 (.mv (.c (.int .i64 0))) [])]
(.block 0 (.loop L52_0))) (sR [(0,oT 24 5 [5]),(1,oT 4 24 [24])] .ret))))
def C52 : CFn := ⟨25,2,[.t 4],B52⟩
abbrev B53 : CCode := (sR [(0,oP 3 (.box 1 (.t 1)) [1]),(1,oP 4 (.mv (.c (.bool false))) [4])] (sR [(0,oT 5 0 [0]),(1,oP 6 (.fn 67 [.t 3]) []),(2,oP 7 (.call 66 [.t 5,.t 6]) [3,5,6]),(3,oP 8 (.not (.t 7)) [7]),(4,oT 4 8
[8])] .ret))
def C53 : CFn := ⟨9,2,[.t 4],B53⟩
abbrev L54_0 : CCode := (sR [(0,oP 22 (.bin .lss (.t 21) (.t 20)) [])] (.seq (.cond (.t 22) (sK [22] .skip) (sK [19,20,21,22] (.exit 0))) (.seq (.block 1 (sR [(0,oP 23 (.ia 1 (.t 19) (.t 21)) []),(1,oP 24 (.ld 1 false
(.t 23)) [23]),(2,oT 11 24 [24])] (sR [(0,oT 25 11 []),(1,oP 26 (.call 26 [.t 25,(.c (.int .i64 0)),(.c (.int .i64 3))]) [25])] (.cond (.t 26) (sK [26] (.reg false [(0,oT 27 9 [9]),(1,oT 28 11 [11]),(2,oP 29 (.bsl 1 1
[.int .i64 (0)] [(0,1,(.t 28))]) [28]),(3,oP 30 (.app 1 8 (.t 27) (.t 29)) [27,29]),(4,oT 9 30 [30])])) (sK [11,26] .skip))))) (.reg false [(0,oP 31 (.bin .add (.t 21) (.c (.int .i64 1))) [21]),(1,oT 21 31 [31])]))))
abbrev B54 : CCode := (sR [(0,oP 5 (.box 3 (.t 1)) [1]),(1,oP 8 (.mv (.c (.nils))) [8])] (.seq (sR [(0,oT 12 0 []),(1,oP 13 (.ld 3 true (.t 5)) []),(2,oP 14 (.call 25 [.t 12,.t 13]) [12,13]),(3,oP 15 (.not (.t 14))
[14])] (.cond (.t 15) (sK [0,2,3,5,15] (sR [(0,oP 8 (.mv (.c (.nils))) [])] .ret)) (sK [15] .skip))) (sR [(0,oP 16 (.fa 2 (.t 5)) []),(1,oP 17 (.ld 1 false (.t 16)) [16]),(2,oP 18 (.call 68 [.t 17]) [17]),(3,oT 9 18
[18])] (.seq (sR [(0,oT 19 3 [3]),(1,oP 20 (.len (.t 19)) []),(2,oP 21 (.mv (.c (.int .i64 0))) [])] (.block 0 (.loop L54_0))) (sR [(0,oT 32 0 [0]),(1,oP 33 (.fa 1 (.t 5)) []),(2,oP 34 (.ld 1 false (.t 33)) [33]),(3,oT
35 2 [2]),(4,oT 36 9 [9]),(5,oP 37 (.call 56 [.t 32,.t 34,.t 35,.t 36]) [5,32,34,35,36]),(6,oT 8 37 [37])] .ret)))))
def C54 : CFn := ⟨38,4,[.t 8],B54⟩
abbrev L55_0 : CCode := (.seq (sR [(0,oT 6 5 []),(1,oT 7 1 []),(2,oP 8 (.len (.t 7)) [7]),(3,oP 9 (.bin .lss (.t 6) (.t 8)) [6,8])] (.cond (.t 9) (sK [9] .skip) (sK [0,1,5,9] (.exit 0)))) (.seq (.block 1 (sR [(0,oT 12 0
[]),(1,oT 13 1 []),(2,oT 14 5 []),(3,oP 15 (.ia 1 (.t 13) (.t 14)) []),(4,oP 16 (.ld 1 false (.t 15)) [13,14,15]),(5,oP 17 (.call 32 [.t 12,.t 16]) [12,16]),(6,oP 18 (.not (.t 17)) [17])] (.cond (.t 18) (sK [0,1,5,18]
(sR [(0,oP 4 (.mv (.c (.bool false))) [])] .ret)) (sK [18] .skip)))) (.reg false [(0,oT 10 5 [5]),(1,oP 11 (.bin .add (.t 10) (.c (.int .i64 1))) [10]),(2,oT 5 11 [11])])))
abbrev B55 : CCode := (sR [(0,oP 4 (.mv (.c (.bool false))) [4])] (.seq (sR [(0,oP 5 (.mv (.c (.int .i64 0))) [])] (.block 0 (.loop L55_0))) (sR [(0,oP 4 (.mv (.c (.bool true))) [])] .ret)))
def C55 : CFn := ⟨19,2,[.t 4],B55⟩
abbrev L56_1 : CCode := (sR [(0,oP 19 (.bin .lss (.t 18) (.t 17)) [])] (.seq (.cond (.t 19) (sK [19] .skip) (sK [16,17,18,19] (.exit 2))) (.seq (.block 3 (sR [(0,oT 20 18 []),(1,oP 21 (.ia 2 (.t 16) (.t 18)) []),(2,oP
22 (.ld 2 true (.t 21)) [21]),(3,oP 12 (.al [.int .i64 (0),.nils]) []),(4,oT 11 20 [20]),(5,⟨none,.st 2 (.t 12) (.t 22),none,[],[22]⟩)] (sR [(0,oT 23 11 [11]),(1,oT 24 2 []),(2,oP 25 (.bin .neq (.t 23) (.t 24))
[23,24]),(3,oT 26 25 [25]),(4,oG 27 (.mv (.t 0)) 26 true []),(5,oG 28 (.ld 2 true (.t 12)) 26 true []),(6,oG 29 (.call 29 [.t 27,.t 28]) 26 true [27,28]),(7,oG 30 (.mv (.t 10)) 26 true []),(8,oG 31 (.call 53 [.t 29,.t
30]) 26 true [29,30]),(9,oP 32 (.pick (.t 26) (.t 31) (.c (.bool false))) [26,31])] (.cond (.t 32) (sK [32] (.reg false [(0,oT 33 10 [10]),(1,oP 34 (.ld 2 true (.t 12)) []),(2,oP 35 (.call 51 [.t 34]) [12,34]),(3,oP 36
(.call 50 [.t 33,.t 35]) [33,35]),(4,oT 10 36 [36])])) (sK [12,32] .skip))))) (.reg false [(0,oP 37 (.bin .add (.t 18) (.c (.int .i64 1))) [18]),(1,oT 18 37 [37])]))))
abbrev L56_0 : CCode := (.block 1 (sR [(0,oT 15 9 []),(1,oT 10 15 [15])] (.seq (sR [(0,oT 16 1 []),(1,oP 17 (.len (.t 16)) []),(2,oP 18 (.mv (.c (.int .i64 0))) [])] (.block 2 (.loop L56_1))) (.seq (sR [(0,oT 38 10
[]),(1,oP 39 (.len (.t 38)) [38]),(2,oT 40 9 []),(3,oP 41 (.len (.t 40)) [40]),(4,oP 42 (.bin .eql (.t 39) (.t 41)) [39,41])] (.cond (.t 42) (sK [0,1,2,10,42] (sR [(0,oT 43 9 [9]),(1,oT 8 43 [43])] .ret)) (sK [9,42]
.skip))) (.reg false [(0,oT 44 10 [10]),(1,oT 9 44 [44])])))))
abbrev B56 : CCode := (sR [(0,oP 8 (.mv (.c (.nils))) [8])] (sR [(0,oT 13 3 [3]),(1,oP 14 (.call 50 [.t 13,(.c (.nils))]) [13]),(2,oT 9 14 [14])] (.block 0 (.loop L56_0))))
def C56 : CFn := ⟨45,4,[.t 8],B56⟩
abbrev L57_0 : CCode := (sR [(0,oP 12 (.bin .lss (.t 11) (.t 10)) [])] (.seq (.cond (.t 12) (sK [12] .skip) (sK [9,10,11,12] (.exit 0))) (.seq (.block 1 (sR [(0,oP 13 (.ia 1 (.t 9) (.t 11)) []),(1,oP 14 (.ld 1 false (.t
13)) [13]),(2,oT 5 14 [14])] (sR [(0,oT 15 3 [3]),(1,oT 16 5 [5]),(2,oP 17 (.len (.t 16)) [16]),(3,oP 18 (.bin .add (.t 15) (.t 17)) [15,17]),(4,oT 3 18 [18])] (sR [(0,oT 19 3 []),(1,oP 20 (.bin .lss (.t 19) (.c (.int
.i64 0))) [19])] (.cond (.t 20) (sK [20] (.reg false [(0,oP 21 .fail [21]),(1,⟨none,.fail,none,[],[]⟩)])) (sK [20] .skip)))))) (.reg false [(0,oP 22 (.bin .add (.t 11) (.c (.int .i64 1))) [11]),(1,oT 11 22 [22])]))))
abbrev L57_1 : CCode := (sR [(0,oP 28 (.bin .lss (.t 27) (.t 26)) [])] (.seq (.cond (.t 28) (sK [28] .skip) (sK [25,26,27,28] (.exit 2))) (.seq (.block 3 (sR [(0,oP 29 (.ia 1 (.t 25) (.t 27)) []),(1,oP 30 (.ld 1 false
(.t 29)) [29]),(2,oT 8 30 [30])] (.reg false [(0,oT 31 6 [6]),(1,oT 32 8 [8]),(2,oP 33 (.app 1 8 (.t 31) (.t 32)) [31,32]),(3,oT 6 33 [33])]))) (.reg false [(0,oP 34 (.bin .add (.t 27) (.c (.int .i64 1))) [27]),(1,oT 27
34 [34])]))))
abbrev B57 : CCode := (sR [(0,oP 2 (.mv (.c (.nils))) [2])] (sR [(0,oP 3 (.mv (.c (.int .i64 0))) [])] (.seq (sR [(0,oT 9 0 []),(1,oP 10 (.len (.t 9)) []),(2,oP 11 (.mv (.c (.int .i64 0))) [])] (.block 0 (.loop L57_0)))
(sR [(0,oT 23 3 [3]),(1,oP 24 (.call 69 [(.c (.nils)),.t 23]) [23]),(2,oT 6 24 [24])] (.seq (sR [(0,oT 25 0 [0]),(1,oP 26 (.len (.t 25)) []),(2,oP 27 (.mv (.c (.int .i64 0))) [])] (.block 2 (.loop L57_1))) (sR [(0,oT 35
6 [6]),(1,oT 2 35 [35])] .ret))))))
def C57 : CFn := ⟨36,1,[.t 2],B57⟩
abbrev B58 : CCode := (sR [(0,oP 1 (.box 3 (.t 0)) [0]),(1,oP 2 (.mv (.c (.bool false))) [2])] (sR [(0,oP 3 (.fa 0 (.t 1)) []),(1,oP 4 (.ld 1 false (.t 3)) [3]),(2,oP 5 (.lens (.t 4)) [4]),(3,oP 6 (.bin .eql (.t 5) (.c
(.int .i64 1))) [5]),(4,oT 7 6 [6]),(5,oG 8 (.fa 0 (.t 1)) 7 true []),(6,oG 9 (.ld 1 false (.t 8)) 7 true [8]),(7,oG 10 (.ix (.t 9) (.c (.int .i64 0))) 7 true [9]),(8,oG 11 (.bin .geq (.t 10) (.c (.int .u8 (97)))) 7
true [10]),(9,oP 12 (.pick (.t 7) (.t 11) (.c (.bool false))) [7,11]),(10,oT 13 12 [12]),(11,oG 14 (.fa 0 (.t 1)) 13 true []),(12,oG 15 (.ld 1 false (.t 14)) 13 true [14]),(13,oG 16 (.ix (.t 15) (.c (.int .i64 0))) 13
true [15]),(14,oG 17 (.bin .leq (.t 16) (.c (.int .u8 (122)))) 13 true [16]),(15,oP 18 (.pick (.t 13) (.t 17) (.c (.bool false))) [13,17]),(16,oT 19 18 [18]),(17,oG 20 (.fa 1 (.t 1)) 19 true []),(18,oG 21 (.ld 1 false
(.t 20)) 19 true [20]),(19,oG 22 (.call 30 [.t 21,(.c (.int .i64 1)),(.c (.int .i64 3))]) 19 true [21]),(20,oP 23 (.pick (.t 19) (.t 22) (.c (.bool false))) [19,22]),(21,oT 24 23 [23]),(22,oG 25 (.fa 2 (.t 1)) 24 true
[]),(23,oG 26 (.ld 1 false (.t 25)) 24 true [25]),(24,oG 27 (.fa 1 (.t 1)) 24 true []),(25,oG 28 (.ld 1 false (.t 27)) 24 true [1,27]),(26,oG 29 (.call 30 [.t 26,(.c (.int .i64 0)),.t 28]) 24 true [26,28]),(27,oP 30
(.pick (.t 24) (.t 29) (.c (.bool false))) [24,29]),(28,oT 2 30 [30])] .ret))
def C58 : CFn := ⟨31,1,[.t 2],B58⟩
abbrev B59 : CCode := (sR [(0,oP 4 (.mv (.c (.int .i64 0))) [4])] (sR [(0,oT 5 1 []),(1,oT 6 0 []),(2,oT 7 1 []),(3,oP 8 (.len (.t 7)) [7]),(4,oP 9 (.call 24 [.t 6,.t 8]) [6,8]),(5,oP 10 (.ia 1 (.t 5) (.t 9)) []),(6,oP
11 (.ld 1 false (.t 10)) [5,9,10]),(7,oT 4 11 [11])] .ret))
def C59 : CFn := ⟨12,2,[.t 4],B59⟩
abbrev L60_0 : CCode := (.seq (sR [(0,oT 16 6 []),(1,oP 17 (.fa 0 (.t 5)) []),(2,oP 18 (.ld 1 false (.t 17)) [17]),(3,oP 19 (.bin .lss (.t 16) (.t 18)) [16,18])] (.cond (.t 19) (sK [19] .skip) (sK [6,19] (.exit 0))))
(.seq (.block 1 (sR [(0,oT 22 0 []),(1,oP 23 (.call 71 [.t 22,(.c (.int .i64 3))]) [22])] (.cond (.t 23) (sK [23] (.reg false [(0,oP 24 (.fa 2 (.t 5)) []),(1,oP 25 (.ld 1 false (.t 24)) [24]),(2,oT 26 6 []),(3,oP 27
(.bsl 1 1 [.int .i64 (0)] [(0,1,(.t 26))]) [26]),(4,oP 28 (.app 1 8 (.t 25) (.t 27)) [25,27]),(5,oP 29 (.fa 2 (.t 5)) []),(6,⟨none,.st 1 (.t 29) (.t 28),none,[],[28,29]⟩)])) (sK [23] .skip)))) (.reg false [(0,oT 20 6
[6]),(1,oP 21 (.bin .add (.t 20) (.c (.int .i64 1))) [20]),(2,oT 6 21 [21])])))
abbrev B60 : CCode := (sR [(0,oP 4 (.al [.int .i64 (0),.nils,.nils]) [])] (sR [(0,oT 7 0 []),(1,oP 8 (.call 70 [.t 7]) [7]),(2,oP 5 (.al [.int .i64 (0),.nils,.nils]) []),(3,⟨none,.st 3 (.t 5) (.t 8),none,[],[8]⟩)] (.seq
(sR [(0,oT 9 0 []),(1,oP 10 (.call 71 [.t 9,(.c (.int .i64 3))]) [9])] (.cond (.t 10) (sK [10] (.reg false [(0,oT 11 0 []),(1,oT 12 1 [1]),(2,oP 13 (.call 72 [.t 11,.t 12]) [11,12]),(3,⟨none,.st 3 (.t 5) (.t
13),none,[],[13]⟩)])) (sK [1,10] .skip))) (.seq (sR [(0,oT 14 0 []),(1,oP 15 (.call 71 [.t 14,(.c (.int .i64 4))]) [14])] (.cond (.t 15) (sK [15] (sR [(0,oP 6 (.mv (.c (.int .i64 0))) [])] (.block 0 (.loop L60_0)))) (sK
[15] .skip))) (sR [(0,oP 30 (.ld 3 true (.t 5)) []),(1,⟨none,.st 3 (.t 4) (.t 30),none,[],[5,30]⟩)] .ret)))))
def C60 : CFn := ⟨31,2,[.m 4 3 true],B60⟩
abbrev B61 : CCode := (sR [(0,oP 1 (.box 3 (.t 0)) [0]),(1,oP 2 (.mv (.c (.bool false))) [2])] (sR [(0,oP 3 (.fa 0 (.t 1)) []),(1,oP 4 (.ld 1 false (.t 3)) [3]),(2,oP 5 (.lens (.t 4)) [4]),(3,oP 6 (.bin .eql (.t 5) (.c
(.int .i64 1))) [5]),(4,oT 7 6 [6]),(5,oG 8 (.fa 0 (.t 1)) 7 true []),(6,oG 9 (.ld 1 false (.t 8)) 7 true [8]),(7,oG 10 (.ix (.t 9) (.c (.int .i64 0))) 7 true [9]),(8,oG 11 (.bin .geq (.t 10) (.c (.int .u8 (97)))) 7
true [10]),(9,oP 12 (.pick (.t 7) (.t 11) (.c (.bool false))) [7,11]),(10,oT 13 12 [12]),(11,oG 14 (.fa 0 (.t 1)) 13 true []),(12,oG 15 (.ld 1 false (.t 14)) 13 true [14]),(13,oG 16 (.ix (.t 15) (.c (.int .i64 0))) 13
true [15]),(14,oG 17 (.bin .leq (.t 16) (.c (.int .u8 (122)))) 13 true [16]),(15,oP 18 (.pick (.t 13) (.t 17) (.c (.bool false))) [13,17]),(16,oT 19 18 [18]),(17,oG 20 (.fa 1 (.t 1)) 19 true []),(18,oG 21 (.ld 1 false
(.t 20)) 19 true [20]),(19,oG 22 (.call 26 [.t 21,(.c (.int .i64 1)),(.c (.int .i64 3))]) 19 true [21]),(20,oP 23 (.pick (.t 19) (.t 22) (.c (.bool false))) [19,22]),(21,oT 24 23 [23]),(22,oG 25 (.fa 2 (.t 1)) 24 true
[]),(23,oG 26 (.ld 1 false (.t 25)) 24 true [25]),(24,oG 27 (.fa 1 (.t 1)) 24 true []),(25,oG 28 (.ld 1 false (.t 27)) 24 true [1,27]),(26,oG 29 (.call 26 [.t 26,(.c (.int .i64 0)),.t 28]) 24 true [26,28]),(27,oP 30
(.pick (.t 24) (.t 29) (.c (.bool false))) [24,29]),(28,oT 2 30 [30])] .ret))
def C61 : CFn := ⟨31,1,[.t 2],B61⟩
abbrev L62_0 : CCode := (sR [(0,oP 9 (.bin .lss (.t 8) (.t 7)) [])] (.seq (.cond (.t 9) (sK [9] .skip) (sK [0,1,7,8,9] (.exit 0))) (.seq (.block 1 (sR [(0,oT 10 8 []),(1,oT 5 10 [10])] (sR [(0,oT 11 1 []),(1,oT 12 0
[]),(2,oT 13 5 []),(3,oP 14 (.ia 2 (.t 12) (.t 13)) []),(4,oP 15 (.ld 2 true (.t 14)) [14]),(5,oP 16 (.callv (.t 11) [.t 15]) [11,12,13,15])] (.cond (.t 16) (sK [0,1,7,8,16] (sR [(0,oT 17 5 [5]),(1,oT 4 17 [17])] .ret))
(sK [5,16] .skip))))) (.reg false [(0,oP 18 (.bin .add (.t 8) (.c (.int .i64 1))) [8]),(1,oT 8 18 [18])]))))
abbrev B62 : CCode := (sR [(0,oP 4 (.mv (.c (.int .i64 0))) [4])] (.seq (sR [(0,oT 6 0 []),(1,oP 7 (.len (.t 6)) [6]),(2,oP 8 (.mv (.c (.int .i64 0))) [])] (.block 0 (.loop L62_0))) (sR [(0,oP 4 (.mv (.c (.int .i64
(-1)))) [])] .ret)))
def C62 : CFn := ⟨19,2,[.t 4],B62⟩
abbrev B63 : CCode := (sR [(0,oT 3 0 []),(1,oP 4 (.len (.t 3)) [3]),(2,oT 2 4 [4])] (.reg false [(0,oT 5 0 []),(1,oT 6 2 []),(2,oT 7 2 [2]),(3,oP 8 (.conv .u64 (.t 7)) [7]),(4,oP 9 (.call 74 [.t 8]) [8]),(5,oP 10 (.call
73 [.t 5,(.c (.int .i64 0)),.t 6,.t 9]) [5,6,9,10])]))
def C63 : CFn := ⟨11,1,[],B63⟩
abbrev L64_1 : CCode := (.seq (sR [(0,oT 29 5 []),(1,oT 30 4 []),(2,oP 31 (.len (.t 30)) [30]),(3,oP 32 (.bin .lss (.t 29) (.t 31)) [29,31])] (.cond (.t 32) (sK [32] .skip) (sK [4,5,32] (.exit 2)))) (.seq (.block 3
(.seq (.reg true [(0,oT 35 4 []),(1,oT 36 5 []),(2,oP 37 (.ia 1 (.t 35) (.t 36)) []),(3,oP 38 (.ld 1 false (.t 37)) [35,36,37]),(4,oT 39 4 []),(5,oT 40 5 []),(6,oP 41 (.bin .sub (.t 40) (.c (.int .i64 1))) [40]),(7,oP
42 (.ia 1 (.t 39) (.t 41)) []),(8,oP 43 (.ld 1 false (.t 42)) [39,41,42]),(9,oP 44 (.bin .neq (.t 38) (.t 43)) [38,43])]) (.cond (.t 44) (sK [44] (sR [(0,oT 45 0 []),(1,oT 46 3 []),(2,oT 47 4 []),(3,oT 48 5 []),(4,oP 49
(.ia 1 (.t 47) (.t 48)) []),(5,oP 50 (.ld 1 false (.t 49)) [47,48,49]),(6,oP 51 (.ia 1 (.t 45) (.t 46)) []),(7,⟨none,.st 1 (.t 51) (.t 50),none,[],[45,46,50,51]⟩)] (.reg false [(0,oT 52 3 [3]),(1,oP 53 (.bin .add (.t
52) (.c (.int .i64 1))) [52]),(2,oT 3 53 [53])]))) (sK [44] .skip)))) (.reg false [(0,oT 33 5 [5]),(1,oP 34 (.bin .add (.t 33) (.c (.int .i64 1))) [33]),(2,oT 5 34 [34])])))
abbrev L64_0 : CCode := (.seq (sR [(0,oT 10 3 []),(1,oT 11 0 []),(2,oP 12 (.len (.t 11)) [11]),(3,oP 13 (.bin .lss (.t 10) (.t 12)) [10,12])] (.cond (.t 13) (sK [13] .skip) (sK [3,13] (.exit 0)))) (.seq (.block 1 (.seq
(.reg true [(0,oT 16 0 []),(1,oT 17 3 []),(2,oP 18 (.ia 1 (.t 16) (.t 17)) []),(3,oP 19 (.ld 1 false (.t 18)) [16,17,18]),(4,oT 20 0 []),(5,oT 21 3 []),(6,oP 22 (.bin .sub (.t 21) (.c (.int .i64 1))) [21]),(7,oP 23 (.ia
1 (.t 20) (.t 22)) []),(8,oP 24 (.ld 1 false (.t 23)) [20,22,23]),(9,oP 25 (.bin .eql (.t 19) (.t 24)) [19,24])]) (.cond (.t 25) (sK [25] (sR [(0,oT 26 0 []),(1,oT 27 3 []),(2,oP 28 (.sls 1 (.t 26) (some (.t 27)) none
none) [26,27]),(3,oT 4 28 [28])] (.seq (sR [(0,oP 5 (.mv (.c (.int .i64 1))) [])] (.block 2 (.loop L64_1))) (sR [(0,oT 54 0 []),(1,oT 55 3 []),(2,oP 56 (.sls 1 (.t 54) (some (.t 55)) none none) [54,55]),(3,⟨none,.clr 1
[.int .i64 (0)] (.t 56),none,[],[56]⟩)] (sR [(0,oT 57 0 []),(1,oT 58 3 [3]),(2,oP 59 (.sls 1 (.t 57) none (some (.t 58)) none) [57,58]),(3,oT 2 59 [59])] .ret))))) (sK [25] .skip)))) (.reg false [(0,oT 14 3 [3]),(1,oP
15 (.bin .add (.t 14) (.c (.int .i64 1))) [14]),(2,oT 3 15 [15])])))
abbrev B64 : CCode := (sR [(0,oP 2 (.mv (.c (.nils))) [2])] (.seq (sR [(0,oT 6 0 []),(1,oP 7 (.len (.t 6)) [6]),(2,oP 8 (.bin .lss (.t 7) (.c (.int .i64 2))) [7])] (.cond (.t 8) (sK [8] (sR [(0,oT 9 0 []),(1,oT 2 9
[9])] .ret)) (sK [8] .skip))) (.seq (sR [(0,oP 3 (.mv (.c (.int .i64 1))) [])] (.block 0 (.loop L64_0))) (sR [(0,oT 60 0 []),(1,oT 2 60 [60])] .ret))))
def C64 : CFn := ⟨61,1,[.t 2],B64⟩
abbrev B65 : CCode := (sR [(0,oP 4 (.mv (.c (.bool false))) [4])] (sR [(0,oT 5 0 [0]),(1,oT 6 1 [1]),(2,oP 7 (.call 75 [.t 5,.t 6]) [5,6]),(3,oP 8 (.bin .geq (.t 7) (.c (.int .i64 0))) [7]),(4,oT 4 8 [8])] .ret))
def C65 : CFn := ⟨9,2,[.t 4],B65⟩
abbrev B66 : CCode := (sR [(0,oP 4 (.mv (.c (.bool false))) [4])] (sR [(0,oT 5 0 [0]),(1,oT 6 1 [1]),(2,oP 7 (.call 76 [.t 5,.t 6]) [5,6]),(3,oP 8 (.bin .geq (.t 7) (.c (.int .i64 0))) [7]),(4,oT 4 8 [8])] .ret))
def C66 : CFn := ⟨9,2,[.t 4],B66⟩
abbrev B67 : CCode := (sR [(0,oP 3 (.mv (.c (.bool false))) [3])] (sR [(0,oP 4 (.ld 1 false (.t 1)) []),(1,oT 5 0 [0]),(2,oP 6 (.call 65 [.t 4,.t 5]) [1,4,5]),(3,oP 7 (.not (.t 6)) [6]),(4,oT 3 7 [7])] .ret))
def C67 : CFn := ⟨8,2,[.t 3],B67⟩
abbrev B68 : CCode := (sR [(0,oP 2 (.mv (.c (.nils))) [2])] (.seq (sR [(0,oT 3 0 []),(1,oP 4 (.isnil false (.t 3)) [3])] (.cond (.t 4) (sK [0,4] (sR [(0,oP 2 (.mv (.c (.nils))) [])] .ret)) (sK [4] .skip))) (sR [(0,oP 5
(.bsl 1 0 [.int .i64 (0)] []) []),(1,oT 6 0 [0]),(2,oP 7 (.app 1 8 (.t 5) (.t 6)) [5,6]),(3,oT 2 7 [7])] .ret)))
def C68 : CFn := ⟨8,1,[.t 2],B68⟩
abbrev B69 : CCode := (sR [(0,oP 4 (.mv (.c (.nils))) [4])] (.seq (sR [(0,oT 5 1 []),(1,oP 6 (.bin .lss (.t 5) (.c (.int .i64 0))) [5])] (.cond (.t 6) (sK [6] (.reg false [(0,oP 7 .fail
[7]),(1,⟨none,.fail,none,[],[]⟩)])) (sK [6] .skip))) (.seq (sR [(0,oT 8 1 [1]),(1,oT 9 0 []),(2,oP 10 (.cap (.t 9)) [9]),(3,oT 11 0 []),(4,oP 12 (.len (.t 11)) [11]),(5,oP 13 (.bin .sub (.t 10) (.t 12)) [10,12]),(6,oP
14 (.bin .sub (.t 8) (.t 13)) [8,13]),(7,oT 1 14 [14])] (sR [(0,oT 15 1 []),(1,oP 16 (.bin .gtr (.t 15) (.c (.int .i64 0))) [15])] (.cond (.t 16) (sK [16] (.reg false [(0,oT 17 0 []),(1,oT 18 0 []),(2,oP 19 (.cap (.t
18)) [18]),(3,oP 20 (.sls 1 (.t 17) none (some (.t 19)) none) [17,19]),(4,oT 21 1 [1]),(5,oP 22 (.appm 1 8 [.int .i64 (0)] (.t 20) (.t 21)) [20,21]),(6,oT 23 0 [0]),(7,oP 24 (.len (.t 23)) [23]),(8,oP 25 (.sls 1 (.t 22)
none (some (.t 24)) none) [22,24]),(9,oT 0 25 [25])])) (sK [1,16] .skip)))) (sR [(0,oT 26 0 [0]),(1,oT 4 26 [26])] .ret))))
def C69 : CFn := ⟨27,2,[.t 4],B69⟩
abbrev L70_1 : CCode := (.seq (sR [(0,oT 34 10 []),(1,oP 35 (.bin .gtr (.t 34) (.c (.int .i64 0))) [34])] (.cond (.t 35) (sK [35] .skip) (sK [10,35] (.exit 2)))) (.seq (.block 3 (sR [(0,oT 38 0 []),(1,oP 39 (.call 71
[.t 38,(.c (.int .i64 12))]) [38])] (.cond (.t 39) (sK [39] (.reg true [(0,oP 40 (.fa 1 (.t 9)) []),(1,oP 41 (.ld 1 false (.t 40)) []),(2,oT 42 0 []),(3,⟨some 43,.call 24 [.t 42,(.c (.int .i64
2))],none,[(40,1)],[40,42]⟩),(4,oP 44 (.bin .sub (.c (.int .i64 (-1))) (.t 43)) [43]),(5,oP 45 (.bsl 1 1 [.int .i64 (0)] [(0,1,(.t 44))]) [44]),(6,oP 46 (.app 1 8 (.t 41) (.t 45)) [41,45]),(7,oP 47 (.fa 1 (.t 9))
[]),(8,⟨none,.st 1 (.t 47) (.t 46),none,[],[46,47]⟩)])) (sK [39] (.reg true [(0,oP 48 (.fa 1 (.t 9)) []),(1,oP 49 (.ld 1 false (.t 48)) []),(2,oT 50 0 []),(3,oT 51 5 []),(4,⟨some 52,.call 24 [.t 50,.t
51],none,[(48,1)],[48,50,51]⟩),(5,oP 53 (.bsl 1 1 [.int .i64 (0)] [(0,1,(.t 52))]) [52]),(6,oP 54 (.app 1 8 (.t 49) (.t 53)) [49,53]),(7,oP 55 (.fa 1 (.t 9)) []),(8,⟨none,.st 1 (.t 55) (.t 54),none,[],[54,55]⟩)])))))
(.reg false [(0,oT 36 10 [10]),(1,oP 37 (.bin .sub (.t 36) (.c (.int .i64 1))) [36]),(2,oT 10 37 [37])])))
abbrev L70_0 : CCode := (.seq (sR [(0,oT 20 7 []),(1,oT 21 4 []),(2,oP 22 (.bin .lss (.t 20) (.t 21)) [20,21])] (.cond (.t 22) (sK [22] .skip) (sK [4,5,6,7,22] (.exit 0)))) (.seq (.block 1 (sR [(0,oT 25 6 []),(1,oT 26 7
[]),(2,oP 27 (.bin .add (.t 25) (.t 26)) [25,26]),(3,oP 28 (.bin .rem (.t 27) (.c (.int .i64 4))) [27]),(4,oT 8 28 [28])] (sR [(0,oT 29 8 []),(1,oP 30 (.bld [.int .i64 (0),.nils] [(0,1,(.t 29))]) [29]),(2,oP 9 (.al
[.int .i64 (0),.nils]) []),(3,⟨none,.st 2 (.t 9) (.t 30),none,[],[30]⟩)] (.seq (sR [(0,oT 31 8 [8]),(1,oP 32 (.bin .quo (.t 31) (.c (.int .i64 3))) [31]),(2,oP 33 (.bin .add (.c (.int .i64 2)) (.t 32)) [32]),(3,oT 10 33
[33])] (.block 2 (.loop L70_1))) (.reg false [(0,oP 56 (.fa 1 (.t 3)) []),(1,oP 57 (.ld 1 false (.t 56)) [56]),(2,oP 58 (.ld 2 true (.t 9)) []),(3,oP 59 (.bsl 2 1 [.int .i64 (0),.nils] [(0,2,(.t 58))]) [9,58]),(4,oP 60
(.app 2 32 (.t 57) (.t 59)) [57,59]),(5,oP 61 (.fa 1 (.t 3)) []),(6,⟨none,.st 1 (.t 61) (.t 60),none,[],[60,61]⟩)]))))) (.reg false [(0,oT 23 7 [7]),(1,oP 24 (.bin .add (.t 23) (.c (.int .i64 1))) [23]),(2,oT 7 24
[24])])))
abbrev B70 : CCode := (sR [(0,oP 2 (.al [.int .i64 (0),.nils,.nils]) [])] (sR [(0,oP 11 (.bld [.int .i64 (0),.nils,.nils] []) []),(1,oP 3 (.al [.int .i64 (0),.nils,.nils]) []),(2,⟨none,.st 3 (.t 3) (.t
11),none,[],[11]⟩)] (sR [(0,oT 12 0 []),(1,oP 13 (.call 24 [.t 12,(.c (.int .i64 3))]) [12]),(2,oP 14 (.bin .add (.c (.int .i64 1)) (.t 13)) [13]),(3,oT 4 14 [14])] (sR [(0,oT 15 0 []),(1,oP 16 (.call 24 [.t 15,(.c
(.int .i64 4))]) [15]),(2,oP 17 (.bin .add (.c (.int .i64 1)) (.t 16)) [16]),(3,oT 5 17 [17])] (sR [(0,oT 18 0 []),(1,oP 19 (.call 24 [.t 18,(.c (.int .i64 4))]) [18]),(2,oT 6 19 [19])] (.seq (sR [(0,oP 7 (.mv (.c (.int
.i64 0))) [])] (.block 0 (.loop L70_0))) (sR [(0,oP 62 (.ld 3 true (.t 3)) []),(1,oP 63 (.call 77 [.t 62]) [3,62]),(2,⟨none,.st 3 (.t 2) (.t 63),none,[],[63]⟩)] .ret)))))))
def C70 : CFn := ⟨64,1,[.m 2 3 true],B70⟩
abbrev B71 : CCode := (sR [(0,oP 4 (.mv (.c (.bool false))) [4])] (sR [(0,oT 5 0 []),(1,oT 6 1 [1]),(2,oP 7 (.call 24 [.t 5,.t 6]) [5,6]),(3,oP 8 (.bin .eql (.t 7) (.c (.int .i64 0))) [7]),(4,oT 4 8 [8])] .ret))
def C71 : CFn := ⟨9,2,[.t 4],B71⟩
abbrev B72 : CCode := (sR [(0,oP 4 (.al [.int .i64 (0),.nils,.nils]) [])] (sR [(0,oT 8 1 []),(1,oT 9 0 []),(2,oP 10 (.bsl 1 10 [.str []] [(0,1,(.c (.str [63,114,120,124,121,32,115,121,124,122]))),(1,1,(.c (.str
[63,114,120,124,121,32,115,121,124,120]))),(2,1,(.c (.str [63,114,120,124,121,32,115,122,124,121]))),(3,1,(.c (.str [63,114,120,124,121,32,115,120,124,122]))),(4,1,(.c (.str [63,114,120,124,49]))),(5,1,(.c (.str
[63,114,120,124,120]))),(6,1,(.c (.str [63,114,120,124,121,32,115,121,124,49]))),(7,1,(.c (.str [63,114,120,124,121,32,115,121,124,122,32,114]))),(8,1,(.c (.str [63,114,120,124,121]))),(9,1,(.c (.str
[63,114,120,124,122,32,115,121,124,122])))]) []),(3,oP 11 (.call 79 [.t 9,.t 10]) [9,10]),(4,oP 12 (.call 78 [.t 8,.t 11]) [8,11]),(5,oT 7 12 [12]),(6,oP 13 (.ex (.t 7) 0) []),(7,oP 14 (.ex (.t 7) 1) [7]),(8,oP 5 (.al
[.int .i64 (0),.nils,.nils]) []),(9,⟨none,.st 3 (.t 5) (.t 13),none,[],[13]⟩),(10,oT 6 14 [14])] (.seq (sR [(0,oT 15 6 [6]),(1,oP 16 (.not (.t 15)) [15])] (.cond (.t 16) (sK [16] (.reg false [(0,oT 18 1 [1]),(1,oP 19
(.call 78 [.t 18,(.c (.str [63,114,120,124,121,32,115,121,124,122]))]) [18]),(2,oT 17 19 [19]),(3,oP 20 (.ex (.t 17) 0) []),(4,oP 21 (.ex (.t 17) 1) [17,21]),(5,⟨none,.st 3 (.t 5) (.t 20),none,[],[20]⟩)])) (sK [1,16]
.skip))) (sR [(0,oP 22 (.ld 3 true (.t 5)) []),(1,⟨none,.st 3 (.t 4) (.t 22),none,[],[5,22]⟩)] .ret))))
def C72 : CFn := ⟨23,2,[.m 4 3 true],B72⟩
abbrev L73_0 : CCode := (.block 1 (sR [(0,oT 19 2 []),(1,oT 20 1 []),(2,oP 21 (.bin .sub (.t 19) (.t 20)) [19,20]),(3,oT 10 21 [21])] (.seq (sR [(0,oT 22 10 []),(1,oP 23 (.bin .leq (.t 22) (.c (.int .i64 12))) [22])]
(.cond (.t 23) (sK [3,8,9,10,23] (sR [(0,oT 24 0 []),(1,oT 25 1 [1]),(2,oT 26 2 [2]),(3,oP 27 (.call 80 [.t 24,.t 25,.t 26]) [24,25,26,27])] .ret)) (sK [23] .skip))) (.seq (sR [(0,oT 28 3 []),(1,oP 29 (.bin .eql (.t 28)
(.c (.int .i64 0))) [28])] (.cond (.t 29) (sK [3,8,9,10,29] (sR [(0,oT 30 0 []),(1,oT 31 1 [1]),(2,oT 32 2 [2]),(3,oP 33 (.call 81 [.t 30,.t 31,.t 32]) [30,31,32,33])] .ret)) (sK [29] .skip))) (.seq (sR [(0,oT 34 8
[]),(1,oP 35 (.not (.t 34)) [34])] (.cond (.t 35) (sK [35] (sR [(0,oT 36 0 []),(1,oT 37 1 []),(2,oT 38 2 []),(3,oP 39 (.call 82 [.t 36,.t 37,.t 38]) [36,37,38,39])] (.reg false [(0,oT 40 3 [3]),(1,oP 41 (.bin .sub (.t
40) (.c (.int .i64 1))) [40]),(2,oT 3 41 [41])]))) (sK [35] .skip))) (sR [(0,oT 43 0 []),(1,oT 44 1 []),(2,oT 45 2 []),(3,oP 46 (.call 83 [.t 43,.t 44,.t 45]) [43,44,45]),(4,oT 42 46 [46]),(5,oP 47 (.ex (.t 42) 0)
[]),(6,oP 48 (.ex (.t 42) 1) [42]),(7,oT 11 47 [47]),(8,oT 12 48 [48])] (.seq (sR [(0,oT 49 12 []),(1,oP 50 (.bin .eql (.t 49) (.c (.int .i64 2))) [49])] (.cond (.t 50) (sK [12,50] (sR [(0,oT 51 0 []),(1,oT 52 1
[]),(2,oT 53 2 []),(3,oP 54 (.call 84 [.t 51,.t 52,.t 53]) [51,52,53,54])] (sR [(0,oT 55 2 []),(1,oP 56 (.bin .sub (.t 55) (.c (.int .i64 1))) [55]),(2,oT 57 11 [11]),(3,oT 58 1 []),(4,oP 59 (.bin .sub (.t 57) (.t 58))
[57,58]),(5,oP 60 (.bin .sub (.t 56) (.t 59)) [56,59]),(6,oT 11 60 [60])] (.reg false [(0,oP 12 (.mv (.c (.int .i64 1))) [])])))) (sK [50] .skip))) (.seq (sR [(0,oT 61 8 []),(1,oT 62 61 [61]),(2,oG 63 (.mv (.t 9)) 62
true []),(3,oP 64 (.pick (.t 62) (.t 63) (.c (.bool false))) [62,63]),(4,oT 65 64 [64]),(5,oG 66 (.mv (.t 12)) 65 true [12]),(6,oG 67 (.bin .eql (.t 66) (.c (.int .i64 1))) 65 true [66]),(7,oP 68 (.pick (.t 65) (.t 67)
(.c (.bool false))) [65,67])] (.cond (.t 68) (sK [68] (sR [(0,oT 69 0 []),(1,oT 70 1 []),(2,oT 71 2 []),(3,oP 72 (.call 85 [.t 69,.t 70,.t 71]) [69,70,71])] (.cond (.t 72) (sK [1,2,3,8,9,10,11,72] .ret) (sK [72]
.skip)))) (sK [68] .skip))) (.seq (.seq (.reg true [(0,oT 73 1 []),(1,oP 74 (.bin .gtr (.t 73) (.c (.int .i64 0))) [73]),(2,oT 75 74 [74]),(3,oG 76 (.mv (.t 0)) 75 true []),(4,oG 77 (.mv (.t 1)) 75 true []),(5,oG 78
(.bin .sub (.t 77) (.c (.int .i64 1))) 75 true [77]),(6,oG 79 (.ia 1 (.t 76) (.t 78)) 75 true []),(7,oG 80 (.ld 1 false (.t 79)) 75 true [76,78,79]),(8,oG 81 (.mv (.t 0)) 75 true []),(9,oG 82 (.mv (.t 11)) 75 true
[]),(10,oG 83 (.ia 1 (.t 81) (.t 82)) 75 true []),(11,oG 84 (.ld 1 false (.t 83)) 75 true [81,82,83]),(12,oG 85 (.call 86 [.t 80,.t 84]) 75 true [80,84]),(13,oG 86 (.not (.t 85)) 75 true [85]),(14,oP 87 (.pick (.t 75)
(.t 86) (.c (.bool false))) [75,86])]) (.cond (.t 87) (sK [10,87] (sR [(0,oT 88 0 []),(1,oT 89 1 [1]),(2,oT 90 2 []),(3,oT 91 11 [11]),(4,oP 92 (.call 87 [.t 88,.t 89,.t 90,.t 91]) [88,89,90,91]),(5,oT 13 92 [92])] (sR
[(0,oT 93 13 [13]),(1,oT 1 93 [93])] (.exit 1)))) (sK [8,9,87] .skip))) (sR [(0,oT 95 0 []),(1,oT 96 1 []),(2,oT 97 2 []),(3,oT 98 11 [11]),(4,oP 99 (.call 88 [.t 95,.t 96,.t 97,.t 98]) [95,96,97,98]),(5,oT 94 99
[99]),(6,oP 100 (.ex (.t 94) 0) []),(7,oP 101 (.ex (.t 94) 1) [94]),(8,oT 14 100 [100]),(9,oT 15 101 [101])] (sR [(0,oT 102 15 [15]),(1,oT 9 102 [102])] (sR [(0,oT 103 14 []),(1,oT 104 1 []),(2,oP 105 (.bin .sub (.t
103) (.t 104)) [103,104]),(3,oT 106 2 []),(4,oT 107 14 []),(5,oP 108 (.bin .sub (.t 106) (.t 107)) [106,107]),(6,oT 16 105 [105]),(7,oT 17 108 [108])] (sR [(0,oT 109 10 [10]),(1,oP 110 (.bin .quo (.t 109) (.c (.int .i64
8))) [109]),(2,oT 18 110 [110])] (sR [(0,oT 111 16 []),(1,oT 112 17 []),(2,oP 113 (.bin .lss (.t 111) (.t 112)) [111,112])] (.cond (.t 113) (sK [17,113] (sR [(0,oT 114 16 [16]),(1,oT 115 18 [18]),(2,oP 116 (.bin .geq
(.t 114) (.t 115)) [114,115]),(3,oT 8 116 [116])] (sR [(0,oT 117 0 []),(1,oT 118 1 [1]),(2,oT 119 14 []),(3,oT 120 3 []),(4,oP 121 (.call 73 [.t 117,.t 118,.t 119,.t 120]) [117,118,119,120,121])] (.reg false [(0,oT 122
14 [14]),(1,oP 123 (.bin .add (.t 122) (.c (.int .i64 1))) [122]),(2,oT 1 123 [123])])))) (sK [16,113] (sR [(0,oT 124 17 [17]),(1,oT 125 18 [18]),(2,oP 126 (.bin .geq (.t 124) (.t 125)) [124,125]),(3,oT 8 126 [126])]
(sR [(0,oT 127 0 []),(1,oT 128 14 []),(2,oP 129 (.bin .add (.t 128) (.c (.int .i64 1))) [128]),(3,oT 130 2 [2]),(4,oT 131 3 []),(5,oP 132 (.call 73 [.t 127,.t 129,.t 130,.t 131]) [127,129,130,131,132])] (.reg false
[(0,oT 133 14 [14]),(1,oT 2 133 [133])])))))))))))))))))))
abbrev B73 : CCode := (sR [(0,oP 8 (.mv (.c (.bool true))) [])] (sR [(0,oP 9 (.mv (.c (.bool true))) [])] (.block 0 (.loop L73_0))))
def C73 : CFn := ⟨134,4,[],B73⟩
abbrev B74 : CCode := (sR [(0,oP 2 (.mv (.c (.int .i64 0))) [2])] (.seq (.cond (.c (.bool false)) (sR [(0,oT 3 0 [0]),(1,oP 4 (.conv .u32 (.t 3)) [3]),(2,oP 5 (.call 89 [.t 4]) [4]),(3,oT 2 5 [5])] .ret) .skip) (sR
[(0,oT 6 0 [0]),(1,oP 7 (.call 90 [.t 6]) [6]),(2,oT 2 7 [7])] .ret)))
def C74 : CFn := ⟨8,1,[.t 2],B74⟩
abbrev L75_0 : CCode := (sR [(0,oP 9 (.bin .lss (.t 8) (.t 7)) [])] (.seq (.cond (.t 9) (sK [9] .skip) (sK [0,1,7,8,9] (.exit 0))) (.seq (.block 1 (sR [(0,oT 10 8 []),(1,oT 5 10 [10])] (sR [(0,oT 11 1 []),(1,oT 12 0
[]),(2,oT 13 5 []),(3,oP 14 (.ia 1 (.t 12) (.t 13)) []),(4,oP 15 (.ld 1 false (.t 14)) [12,13,14]),(5,oP 16 (.bin .eql (.t 11) (.t 15)) [11,15])] (.cond (.t 16) (sK [0,1,7,8,16] (sR [(0,oT 17 5 [5]),(1,oT 4 17 [17])]
.ret)) (sK [5,16] .skip))))) (.reg false [(0,oP 18 (.bin .add (.t 8) (.c (.int .i64 1))) [8]),(1,oT 8 18 [18])]))))
abbrev B75 : CCode := (sR [(0,oP 4 (.mv (.c (.int .i64 0))) [4])] (.seq (sR [(0,oT 6 0 []),(1,oP 7 (.len (.t 6)) [6]),(2,oP 8 (.mv (.c (.int .i64 0))) [])] (.block 0 (.loop L75_0))) (sR [(0,oP 4 (.mv (.c (.int .i64
(-1)))) [])] .ret)))
def C75 : CFn := ⟨19,2,[.t 4],B75⟩
abbrev L76_0 : CCode := (sR [(0,oP 9 (.bin .lss (.t 8) (.t 7)) [])] (.seq (.cond (.t 9) (sK [9] .skip) (sK [0,1,7,8,9] (.exit 0))) (.seq (.block 1 (sR [(0,oT 10 8 []),(1,oT 5 10 [10])] (sR [(0,oT 11 1 []),(1,oT 12 0
[]),(2,oT 13 5 []),(3,oP 14 (.ia 1 (.t 12) (.t 13)) []),(4,oP 15 (.ld 1 false (.t 14)) [12,13,14]),(5,oP 16 (.callv (.t 11) [.t 15]) [11,15])] (.cond (.t 16) (sK [0,1,7,8,16] (sR [(0,oT 17 5 [5]),(1,oT 4 17 [17])]
.ret)) (sK [5,16] .skip))))) (.reg false [(0,oP 18 (.bin .add (.t 8) (.c (.int .i64 1))) [8]),(1,oT 8 18 [18])]))))
abbrev B76 : CCode := (sR [(0,oP 4 (.mv (.c (.int .i64 0))) [4])] (.seq (sR [(0,oT 6 0 []),(1,oP 7 (.len (.t 6)) [6]),(2,oP 8 (.mv (.c (.int .i64 0))) [])] (.block 0 (.loop L76_0))) (sR [(0,oP 4 (.mv (.c (.int .i64
(-1)))) [])] .ret)))
def C76 : CFn := ⟨19,2,[.t 4],B76⟩
abbrev L77_2 : CCode := (.seq (sR [(0,oT 42 9 []),(1,oT 43 4 []),(2,oP 44 (.len (.t 43)) [43]),(3,oP 45 (.bin .lss (.t 42) (.t 44)) [42,44])] (.cond (.t 45) (sK [45] .skip) (sK [9,45] (.exit 4)))) (.seq (.block 5 (sR
[(0,oT 48 4 []),(1,oT 49 9 []),(2,oP 50 (.ia 1 (.t 48) (.t 49)) []),(3,oP 51 (.ld 1 false (.t 50)) [48,49,50]),(4,oT 52 7 []),(5,oP 53 (.bin .eql (.t 51) (.t 52)) [51,52])] (.cond (.t 53) (sK [8,53] (.reg false [(0,oT
54 9 []),(1,oT 8 54 [54])])) (sK [53] .skip)))) (.reg false [(0,oT 46 9 [9]),(1,oP 47 (.bin .add (.t 46) (.c (.int .i64 1))) [46]),(2,oT 9 47 [47])])))
abbrev L77_1 : CCode := (.seq (sR [(0,oT 20 6 []),(1,oP 21 (.fa 1 (.t 3)) []),(2,oP 22 (.ld 1 false (.t 21)) [21]),(3,oT 23 5 []),(4,oP 24 (.ia 2 (.t 22) (.t 23)) [22]),(5,oP 25 (.fa 1 (.t 24)) [24]),(6,oP 26 (.ld 1
false (.t 25)) [25]),(7,oP 27 (.len (.t 26)) [23,26]),(8,oP 28 (.bin .lss (.t 20) (.t 27)) [20,27])] (.cond (.t 28) (sK [28] .skip) (sK [6,28] (.exit 2)))) (.seq (.block 3 (sR [(0,oP 31 (.fa 1 (.t 3)) []),(1,oP 32 (.ld
1 false (.t 31)) [31]),(2,oT 33 5 []),(3,oP 34 (.ia 2 (.t 32) (.t 33)) [32]),(4,oP 35 (.fa 1 (.t 34)) [34]),(5,oP 36 (.ld 1 false (.t 35)) [35]),(6,oT 37 6 []),(7,oP 38 (.ia 1 (.t 36) (.t 37)) [36]),(8,oP 39 (.ld 1
false (.t 38)) [33,37,38]),(9,oT 7 39 [39])] (.seq (sR [(0,oT 40 7 []),(1,oP 41 (.bin .lss (.t 40) (.c (.int .i64 0))) [40])] (.cond (.t 41) (sK [7,41] (.exit 3)) (sK [41] .skip))) (sR [(0,oP 8 (.mv (.c (.int .i64
(-1)))) [])] (.seq (sR [(0,oP 9 (.mv (.c (.int .i64 0))) [])] (.block 4 (.loop L77_2))) (.seq (sR [(0,oT 55 8 []),(1,oP 56 (.bin .lss (.t 55) (.c (.int .i64 0))) [55])] (.cond (.t 56) (sK [8,56] (sR [(0,oT 57 4
[]),(1,oP 58 (.len (.t 57)) [57]),(2,oT 8 58 [58])] (.reg false [(0,oT 59 4 [4]),(1,oT 60 7 [7]),(2,oP 61 (.bsl 1 1 [.int .i64 (0)] [(0,1,(.t 60))]) [60]),(3,oP 62 (.app 1 8 (.t 59) (.t 61)) [59,61]),(4,oT 4 62
[62])]))) (sK [7,56] .skip))) (.reg false [(0,oP 63 (.fa 1 (.t 3)) []),(1,oP 64 (.ld 1 false (.t 63)) [63]),(2,oT 65 5 []),(3,oP 66 (.ia 2 (.t 64) (.t 65)) [64]),(4,oP 67 (.fa 1 (.t 66)) [66]),(5,oP 68 (.ld 1 false (.t
67)) [67]),(6,oT 69 6 []),(7,oT 70 8 [8]),(8,oP 71 (.ia 1 (.t 68) (.t 69)) [68]),(9,⟨none,.st 1 (.t 71) (.t 70),none,[],[65,69,70,71]⟩)]))))))) (.reg false [(0,oT 29 6 [6]),(1,oP 30 (.bin .add (.t 29) (.c (.int .i64
1))) [29]),(2,oT 6 30 [30])])))
abbrev L77_0 : CCode := (.seq (sR [(0,oT 13 5 []),(1,oP 14 (.fa 1 (.t 3)) []),(2,oP 15 (.ld 1 false (.t 14)) [14]),(3,oP 16 (.len (.t 15)) [15]),(4,oP 17 (.bin .lss (.t 13) (.t 16)) [13,16])] (.cond (.t 17) (sK [17]
.skip) (sK [5,17] (.exit 0)))) (.seq (.block 1 (sR [(0,oP 6 (.mv (.c (.int .i64 0))) [])] (.block 2 (.loop L77_1)))) (.reg false [(0,oT 18 5 [5]),(1,oP 19 (.bin .add (.t 18) (.c (.int .i64 1))) [18]),(2,oT 5 19 [19])])))
abbrev B77 : CCode := (sR [(0,oP 1 (.box 3 (.t 0)) [0]),(1,oP 2 (.al [.int .i64 (0),.nils,.nils]) [])] (sR [(0,oP 10 (.ld 3 true (.t 1)) []),(1,oP 11 (.call 91 [.t 10]) [1,10]),(2,oP 3 (.al [.int .i64 (0),.nils,.nils])
[]),(3,⟨none,.st 3 (.t 3) (.t 11),none,[],[11]⟩)] (sR [(0,oP 12 (.bsl 1 0 [.int .i64 (0)] []) []),(1,oT 4 12 [12])] (.seq (sR [(0,oP 5 (.mv (.c (.int .i64 0))) [])] (.block 0 (.loop L77_0))) (sR [(0,oT 72 4 [4]),(1,oP
73 (.len (.t 72)) [72]),(2,oP 74 (.fa 0 (.t 3)) []),(3,⟨none,.st 1 (.t 74) (.t 73),none,[],[73,74]⟩)] (sR [(0,oP 75 (.ld 3 true (.t 3)) []),(1,⟨none,.st 3 (.t 2) (.t 75),none,[],[3,75]⟩)] .ret))))))
def C77 : CFn := ⟨76,1,[.m 2 3 true],B77⟩
abbrev L78_0 : CCode := (.seq (sR [(0,oT 24 8 []),(1,oT 25 6 []),(2,oP 26 (.ia 1 (.t 25) (.c (.int .i64 0))) []),(3,oP 27 (.ld 1 false (.t 26)) [25,26]),(4,oP 28 (.lens (.t 27)) [27]),(5,oP 29 (.bin .lss (.t 24) (.t
28)) [24,28])] (.cond (.t 29) (sK [29] .skip) (sK [8,29] (.exit 0)))) (.seq (.block 1 (sR [(0,oT 33 6 []),(1,oP 34 (.ia 1 (.t 33) (.c (.int .i64 0))) []),(2,oP 35 (.ld 1 false (.t 34)) [33,34]),(3,oT 36 8 []),(4,oT 37 8
[]),(5,oP 38 (.bin .add (.t 37) (.c (.int .i64 1))) [37]),(6,oP 39 (.sst (.t 35) (some (.t 36)) (some (.t 38))) [35,36,38]),(7,oP 40 (.call 93 [.t 39]) [39]),(8,oT 32 40 [40]),(9,oP 41 (.ex (.t 32) 0) []),(10,oP 42 (.ex
(.t 32) 1) [32]),(11,oT 9 41 [41]),(12,oT 10 42 [10,42])] (.reg false [(0,oP 43 (.fa 2 (.t 7)) []),(1,oP 44 (.ld 1 false (.t 43)) [43]),(2,oT 45 9 [9]),(3,oP 46 (.bsl 1 1 [.int .i64 (0)] [(0,1,(.t 45))]) [45]),(4,oP 47
(.app 1 8 (.t 44) (.t 46)) [44,46]),(5,oP 48 (.fa 2 (.t 7)) []),(6,⟨none,.st 1 (.t 48) (.t 47),none,[],[47,48]⟩)]))) (.reg false [(0,oT 30 8 [8]),(1,oP 31 (.bin .add (.t 30) (.c (.int .i64 1))) [30]),(2,oT 8 31 [31])])))
abbrev L78_2 : CCode := (.seq (sR [(0,oT 60 14 []),(1,oT 61 11 []),(2,oT 62 12 []),(3,oP 63 (.ia 1 (.t 61) (.t 62)) []),(4,oP 64 (.ld 1 false (.t 63)) [61,62,63]),(5,oP 65 (.lens (.t 64)) [64]),(6,oP 66 (.bin .lss (.t
60) (.t 65)) [60,65])] (.cond (.t 66) (sK [66] .skip) (sK [14,66] (.exit 4)))) (.seq (.block 5 (.seq (sR [(0,oT 69 14 []),(1,oP 70 (.bin .eql (.t 69) (.c (.int .i64 0))) [69])] (.cond (.t 70) (sK [70] (sR [(0,oT 71 0
[]),(1,oT 72 11 []),(2,oT 73 12 []),(3,oP 74 (.ia 1 (.t 72) (.t 73)) []),(4,oP 75 (.ld 1 false (.t 74)) [72,73,74]),(5,oP 76 (.sst (.t 75) none (some (.c (.int .i64 1)))) [75]),(6,oP 77 (.call 94 [.t 71,.t 76])
[71,76]),(7,oP 78 (.fa 0 (.t 13)) []),(8,⟨none,.st 1 (.t 78) (.t 77),none,[],[77,78]⟩)] (.exit 5))) (sK [70] .skip))) (.seq (sR [(0,oT 79 11 []),(1,oT 80 12 []),(2,oP 81 (.ia 1 (.t 79) (.t 80)) []),(3,oP 82 (.ld 1 false
(.t 81)) [79,80,81]),(4,oT 83 14 []),(5,oP 84 (.ix (.t 82) (.t 83)) [82,83]),(6,oP 85 (.bin .eql (.t 84) (.c (.int .u8 (124)))) [84])] (.cond (.t 85) (sK [85] (.exit 5)) (sK [85] .skip))) (sR [(0,oT 87 11 []),(1,oT 88
12 []),(2,oP 89 (.ia 1 (.t 87) (.t 88)) []),(3,oP 90 (.ld 1 false (.t 89)) [87,88,89]),(4,oT 91 14 []),(5,oT 92 14 []),(6,oP 93 (.bin .add (.t 92) (.c (.int .i64 1))) [92]),(7,oP 94 (.sst (.t 90) (some (.t 91)) (some
(.t 93))) [90,91,93]),(8,oP 95 (.call 93 [.t 94]) [94]),(9,oT 86 95 [95]),(10,oP 96 (.ex (.t 86) 0) []),(11,oP 97 (.ex (.t 86) 1) [86]),(12,oT 15 96 [96]),(13,oT 16 97 [16,97])] (sR [(0,oP 98 (.fa 1 (.t 13)) []),(1,oP
99 (.ld 1 false (.t 98)) [98]),(2,oT 100 15 []),(3,oP 101 (.bsl 1 1 [.int .i64 (0)] [(0,1,(.t 100))]) [100]),(4,oP 102 (.app 1 8 (.t 99) (.t 101)) [99,101]),(5,oP 103 (.fa 1 (.t 13)) []),(6,⟨none,.st 1 (.t 103) (.t
102),none,[],[102,103]⟩)] (.reg false [(0,oP 104 (.fa 0 (.t 7)) []),(1,oP 105 (.ld 1 false (.t 104)) [104]),(2,oT 106 15 [15]),(3,oP 107 (.bin .add (.t 106) (.c (.int .i64 1))) [106]),(4,oP 108 (.max (.t 105) (.t 107))
[105,107]),(5,oP 109 (.fa 0 (.t 7)) []),(6,⟨none,.st 1 (.t 109) (.t 108),none,[],[108,109]⟩)])))))) (.reg false [(0,oT 67 14 [14]),(1,oP 68 (.bin .add (.t 67) (.c (.int .i64 1))) [67]),(2,oT 14 68 [68])])))
abbrev L78_1 : CCode := (.seq (sR [(0,oT 53 12 []),(1,oT 54 11 []),(2,oP 55 (.len (.t 54)) [54]),(3,oP 56 (.bin .lss (.t 53) (.t 55)) [53,55])] (.cond (.t 56) (sK [56] .skip) (sK [11,12,56] (.exit 2)))) (.seq (.block 3
(sR [(0,oP 59 (.bld [.int .i64 (0),.nils] []) []),(1,oP 13 (.al [.int .i64 (0),.nils]) []),(2,⟨none,.st 2 (.t 13) (.t 59),none,[],[59]⟩)] (.seq (sR [(0,oP 14 (.mv (.c (.int .i64 0))) [])] (.block 4 (.loop L78_2))) (.reg
false [(0,oP 110 (.fa 1 (.t 7)) []),(1,oP 111 (.ld 1 false (.t 110)) [110]),(2,oP 112 (.ld 2 true (.t 13)) []),(3,oP 113 (.bsl 2 1 [.int .i64 (0),.nils] [(0,2,(.t 112))]) [13,112]),(4,oP 114 (.app 2 32 (.t 111) (.t
113)) [111,113]),(5,oP 115 (.fa 1 (.t 7)) []),(6,⟨none,.st 1 (.t 115) (.t 114),none,[],[114,115]⟩)])))) (.reg false [(0,oT 57 12 [12]),(1,oP 58 (.bin .add (.t 57) (.c (.int .i64 1))) [57]),(2,oT 12 58 [58])])))
abbrev B78 : CCode := (sR [(0,oP 4 (.al [.int .i64 (0),.nils,.nils]) []),(1,oP 5 (.mv (.c (.bool false))) [5])] (sR [(0,oT 17 1 []),(1,oP 18 (.call 92 [.t 17,(.c (.int .u8 (63)))]) [17]),(2,oT 6 18 [18])] (.seq (sR
[(0,oT 19 6 []),(1,oP 20 (.len (.t 19)) [19]),(2,oP 21 (.bin .neq (.t 20) (.c (.int .i64 2))) [20])] (.cond (.t 21) (sK [0,1,6,21] (sR [(0,oP 22 (.bld [.int .i64 (0),.nils,.nils] []) []),(1,⟨none,.st 3 (.t 4) (.t
22),none,[],[22]⟩),(2,oP 5 (.mv (.c (.bool false))) [])] .ret)) (sK [21] .skip))) (sR [(0,oP 23 (.bld [.int .i64 (0),.nils,.nils] []) []),(1,oP 7 (.al [.int .i64 (0),.nils,.nils]) []),(2,⟨none,.st 3 (.t 7) (.t
23),none,[],[23]⟩)] (.seq (sR [(0,oP 8 (.mv (.c (.int .i64 0))) [])] (.block 0 (.loop L78_0))) (sR [(0,oT 49 6 [6]),(1,oP 50 (.ia 1 (.t 49) (.c (.int .i64 1))) []),(2,oP 51 (.ld 1 false (.t 50)) [49,50]),(3,oP 52 (.call
92 [.t 51,(.c (.int .u8 (32)))]) [51]),(4,oT 11 52 [52])] (.seq (sR [(0,oP 12 (.mv (.c (.int .i64 0))) [])] (.block 2 (.loop L78_1))) (.seq (sR [(0,oT 116 0 [0]),(1,oP 117 (.ld 3 true (.t 7)) []),(2,oP 118 (.call 95 [.t
116,.t 117]) [116,117]),(3,oT 119 1 [1]),(4,oP 120 (.bin .neq (.t 118) (.t 119)) [118,119])] (.cond (.t 120) (sK [7,120] (sR [(0,oP 121 (.bld [.int .i64 (0),.nils,.nils] []) []),(1,⟨none,.st 3 (.t 4) (.t
121),none,[],[121]⟩),(2,oP 5 (.mv (.c (.bool false))) [])] .ret)) (sK [120] .skip))) (sR [(0,oP 122 (.ld 3 true (.t 7)) []),(1,⟨none,.st 3 (.t 4) (.t 122),none,[],[7,122]⟩),(2,oP 5 (.mv (.c (.bool true))) [])]
.ret)))))))))
def C78 : CFn := ⟨123,2,[.m 4 3 true,.t 5],B78⟩
abbrev B79 : CCode := (sR [(0,oP 4 (.mv (.c (.str []))) [4])] (sR [(0,oT 5 1 []),(1,oT 6 0 []),(2,oT 7 1 []),(3,oP 8 (.len (.t 7)) [7]),(4,oP 9 (.call 24 [.t 6,.t 8]) [6,8]),(5,oP 10 (.ia 1 (.t 5) (.t 9)) []),(6,oP 11
(.ld 1 false (.t 10)) [5,9,10]),(7,oT 4 11 [11])] .ret))
def C79 : CFn := ⟨12,2,[.t 4],B79⟩
abbrev L80_1 : CCode := (.seq (.seq (.reg true [(0,oT 16 7 []),(1,oT 17 1 []),(2,oP 18 (.bin .gtr (.t 16) (.t 17)) [16,17]),(3,oT 19 18 [18]),(4,oG 20 (.mv (.t 0)) 19 true []),(5,oG 21 (.mv (.t 7)) 19 true []),(6,oG 22
(.ia 1 (.t 20) (.t 21)) 19 true []),(7,oG 23 (.ld 1 false (.t 22)) 19 true [20,21,22]),(8,oG 24 (.mv (.t 0)) 19 true []),(9,oG 25 (.mv (.t 7)) 19 true []),(10,oG 26 (.bin .sub (.t 25) (.c (.int .i64 1))) 19 true
[25]),(11,oG 27 (.ia 1 (.t 24) (.t 26)) 19 true []),(12,oG 28 (.ld 1 false (.t 27)) 19 true [24,26,27]),(13,oG 29 (.call 86 [.t 23,.t 28]) 19 true [23,28]),(14,oP 30 (.pick (.t 19) (.t 29) (.c (.bool false))) [19,29])])
(.cond (.t 30) (sK [30] .skip) (sK [7,30] (.exit 2)))) (.seq (.block 3 (.reg true [(0,oT 33 0 []),(1,oT 34 7 []),(2,oT 35 0 []),(3,oT 36 7 []),(4,oP 37 (.bin .sub (.t 36) (.c (.int .i64 1))) [36]),(5,oT 38 0 []),(6,oT
39 7 []),(7,oP 40 (.bin .sub (.t 39) (.c (.int .i64 1))) [39]),(8,oP 41 (.ia 1 (.t 38) (.t 40)) []),(9,oP 42 (.ld 1 false (.t 41)) [38,40,41]),(10,oT 43 0 []),(11,oT 44 7 []),(12,oP 45 (.ia 1 (.t 43) (.t 44)) []),(13,oP
46 (.ld 1 false (.t 45)) [43,44,45]),(14,oP 47 (.ia 1 (.t 33) (.t 34)) []),(15,⟨none,.st 1 (.t 47) (.t 42),none,[],[33,34,42,47]⟩),(16,oP 48 (.ia 1 (.t 35) (.t 37)) []),(17,⟨none,.st 1 (.t 48) (.t
46),none,[],[35,37,46,48]⟩)])) (.reg false [(0,oT 31 7 [7]),(1,oP 32 (.bin .sub (.t 31) (.c (.int .i64 1))) [31]),(2,oT 7 32 [32])])))
abbrev L80_0 : CCode := (.seq (sR [(0,oT 10 6 []),(1,oT 11 2 []),(2,oP 12 (.bin .lss (.t 10) (.t 11)) [10,11])] (.cond (.t 12) (sK [12] .skip) (sK [1,2,6,12] (.exit 0)))) (.seq (.block 1 (sR [(0,oT 15 6 []),(1,oT 7 15
[15])] (.block 2 (.loop L80_1)))) (.reg false [(0,oT 13 6 [6]),(1,oP 14 (.bin .add (.t 13) (.c (.int .i64 1))) [13]),(2,oT 6 14 [14])])))
abbrev B80 : CCode := (sR [(0,oT 8 1 []),(1,oP 9 (.bin .add (.t 8) (.c (.int .i64 1))) [8]),(2,oT 6 9 [9])] (.block 0 (.loop L80_0)))
def C80 : CFn := ⟨49,3,[],B80⟩
abbrev L81_0 : CCode := (.seq (sR [(0,oT 18 9 []),(1,oP 19 (.bin .geq (.t 18) (.c (.int .i64 0))) [18])] (.cond (.t 19) (sK [19] .skip) (sK [9,19] (.exit 0)))) (.seq (.block 1 (.reg false [(0,oT 22 0 []),(1,oT 23 9
[]),(2,oT 24 8 []),(3,oT 25 6 []),(4,oP 26 (.call 96 [.t 22,.t 23,.t 24,.t 25]) [22,23,24,25,26])])) (.reg false [(0,oT 20 9 [9]),(1,oP 21 (.bin .sub (.t 20) (.c (.int .i64 1))) [20]),(2,oT 9 21 [21])])))
abbrev L81_1 : CCode := (.seq (sR [(0,oT 29 10 []),(1,oP 30 (.bin .geq (.t 29) (.c (.int .i64 0))) [29])] (.cond (.t 30) (sK [30] .skip) (sK [6,7,10,30] (.exit 2)))) (.seq (.block 3 (.seq (.reg true [(0,oT 33 0
[]),(1,oT 34 6 []),(2,oT 35 0 []),(3,oT 36 6 []),(4,oT 37 10 []),(5,oP 38 (.bin .add (.t 36) (.t 37)) [36,37]),(6,oT 39 0 []),(7,oT 40 6 []),(8,oT 41 10 []),(9,oP 42 (.bin .add (.t 40) (.t 41)) [40,41]),(10,oP 43 (.ia 1
(.t 39) (.t 42)) []),(11,oP 44 (.ld 1 false (.t 43)) [39,42,43]),(12,oT 45 0 []),(13,oT 46 6 []),(14,oP 47 (.ia 1 (.t 45) (.t 46)) []),(15,oP 48 (.ld 1 false (.t 47)) [45,46,47]),(16,oP 49 (.ia 1 (.t 33) (.t 34))
[]),(17,⟨none,.st 1 (.t 49) (.t 44),none,[],[33,34,44,49]⟩),(18,oP 50 (.ia 1 (.t 35) (.t 38)) []),(19,⟨none,.st 1 (.t 50) (.t 48),none,[],[35,38,48,50]⟩)]) (.reg false [(0,oT 51 0 []),(1,oT 52 7 []),(2,oT 53 10
[]),(3,oT 54 6 []),(4,oP 55 (.call 96 [.t 51,.t 52,.t 53,.t 54]) [51,52,53,54,55])]))) (.reg false [(0,oT 31 10 [10]),(1,oP 32 (.bin .sub (.t 31) (.c (.int .i64 1))) [31]),(2,oT 10 32 [32])])))
abbrev B81 : CCode := (sR [(0,oT 11 1 []),(1,oT 6 11 [11])] (sR [(0,oP 7 (.mv (.c (.int .i64 0))) [])] (sR [(0,oT 12 2 [2]),(1,oT 13 1 [1]),(2,oP 14 (.bin .sub (.t 12) (.t 13)) [12,13]),(3,oT 8 14 [14])] (.seq (sR
[(0,oT 15 8 []),(1,oP 16 (.bin .sub (.t 15) (.c (.int .i64 1))) [15]),(2,oP 17 (.bin .quo (.t 16) (.c (.int .i64 2))) [16]),(3,oT 9 17 [17])] (.block 0 (.loop L81_0))) (sR [(0,oT 27 8 [8]),(1,oP 28 (.bin .sub (.t 27)
(.c (.int .i64 1))) [27]),(2,oT 10 28 [28])] (.block 2 (.loop L81_1)))))))
def C81 : CFn := ⟨56,3,[],B81⟩
abbrev L82_0 : CCode := (.seq (sR [(0,oT 26 9 []),(1,oT 27 1 []),(2,oT 28 6 []),(3,oP 29 (.bin .quo (.t 28) (.c (.int .i64 4))) [28]),(4,oP 30 (.bin .mul (.t 29) (.c (.int .i64 2))) [29]),(5,oP 31 (.bin .add (.t 27) (.t
30)) [27,30]),(6,oP 32 (.bin .add (.t 31) (.c (.int .i64 1))) [31]),(7,oP 33 (.bin .leq (.t 26) (.t 32)) [26,32])] (.cond (.t 33) (sK [33] .skip) (sK [1,6,7,8,9,33] (.exit 0)))) (.seq (.block 1 (sR [(0,oP 36 (.call 98
[.t 7]) []),(1,oT 37 8 []),(2,oP 38 (.bin .sub (.t 37) (.c (.int .u64 (1)))) [37]),(3,oP 39 (.bin .and (.t 36) (.t 38)) [36,38]),(4,oP 40 (.conv .i64 (.t 39)) [39]),(5,oT 10 40 [40])] (.seq (sR [(0,oT 41 10 []),(1,oT 42
6 []),(2,oP 43 (.bin .geq (.t 41) (.t 42)) [41,42])] (.cond (.t 43) (sK [43] (.reg false [(0,oT 44 10 [10]),(1,oT 45 6 []),(2,oP 46 (.bin .sub (.t 44) (.t 45)) [44,45]),(3,oT 10 46 [46])])) (sK [43] .skip))) (.reg true
[(0,oT 47 0 []),(1,oT 48 9 []),(2,oT 49 0 []),(3,oT 50 1 []),(4,oT 51 10 []),(5,oP 52 (.bin .add (.t 50) (.t 51)) [50,51]),(6,oT 53 0 []),(7,oT 54 1 []),(8,oT 55 10 [10]),(9,oP 56 (.bin .add (.t 54) (.t 55))
[54,55]),(10,oP 57 (.ia 1 (.t 53) (.t 56)) []),(11,oP 58 (.ld 1 false (.t 57)) [53,56,57]),(12,oT 59 0 []),(13,oT 60 9 []),(14,oP 61 (.ia 1 (.t 59) (.t 60)) []),(15,oP 62 (.ld 1 false (.t 61)) [59,60,61]),(16,oP 63 (.ia
1 (.t 47) (.t 48)) []),(17,⟨none,.st 1 (.t 63) (.t 58),none,[],[47,48,58,63]⟩),(18,oP 64 (.ia 1 (.t 49) (.t 52)) []),(19,⟨none,.st 1 (.t 64) (.t 62),none,[],[49,52,62,64]⟩)])))) (.reg false [(0,oT 34 9 [9]),(1,oP 35
(.bin .add (.t 34) (.c (.int .i64 1))) [34]),(2,oT 9 35 [35])])))
abbrev B82 : CCode := (sR [(0,oT 11 2 [2]),(1,oT 12 1 []),(2,oP 13 (.bin .sub (.t 11) (.t 12)) [11,12]),(3,oT 6 13 [13])] (sR [(0,oT 14 6 []),(1,oP 15 (.bin .geq (.t 14) (.c (.int .i64 8))) [14])] (.cond (.t 15) (sK
[15] (sR [(0,oT 16 6 []),(1,oP 17 (.conv .u64 (.t 16)) [16]),(2,oP 7 (.al [.int .u64 (0)]) []),(3,⟨none,.st 1 (.t 7) (.t 17),none,[],[17]⟩)] (sR [(0,oT 18 6 []),(1,oP 19 (.call 97 [.t 18]) [18]),(2,oT 8 19 [19])] (sR
[(0,oT 20 1 []),(1,oT 21 6 []),(2,oP 22 (.bin .quo (.t 21) (.c (.int .i64 4))) [21]),(3,oP 23 (.bin .mul (.t 22) (.c (.int .i64 2))) [22]),(4,oP 24 (.bin .add (.t 20) (.t 23)) [20,23]),(5,oP 25 (.bin .sub (.t 24) (.c
(.int .i64 1))) [24]),(6,oT 9 25 [25])] (.block 0 (.loop L82_0)))))) (sK [1,6,15] .skip))))
def C82 : CFn := ⟨65,3,[],B82⟩
abbrev B83 : CCode := (sR [(0,oP 6 (.mv (.c (.int .i64 0))) [6]),(1,oP 7 (.mv (.c (.int .i64 0))) [7])] (sR [(0,oT 13 2 [2]),(1,oT 14 1 []),(2,oP 15 (.bin .sub (.t 13) (.t 14)) [13,14]),(3,oT 8 15 [15])] (sR [(0,oP 9
(.al [.int .i64 (0)]) [])] (sR [(0,oT 16 1 []),(1,oT 17 8 []),(2,oP 18 (.bin .quo (.t 17) (.c (.int .i64 4))) [17]),(3,oP 19 (.bin .mul (.t 18) (.c (.int .i64 1))) [18]),(4,oP 20 (.bin .add (.t 16) (.t 19))
[16,19]),(5,oT 10 20 [20])] (sR [(0,oT 21 1 []),(1,oT 22 8 []),(2,oP 23 (.bin .quo (.t 22) (.c (.int .i64 4))) [22]),(3,oP 24 (.bin .mul (.t 23) (.c (.int .i64 2))) [23]),(4,oP 25 (.bin .add (.t 21) (.t 24))
[21,24]),(5,oT 11 25 [25])] (sR [(0,oT 26 1 [1]),(1,oT 27 8 []),(2,oP 28 (.bin .quo (.t 27) (.c (.int .i64 4))) [27]),(3,oP 29 (.bin .mul (.t 28) (.c (.int .i64 3))) [28]),(4,oP 30 (.bin .add (.t 26) (.t 29))
[26,29]),(5,oT 12 30 [30])] (.seq (sR [(0,oT 31 8 []),(1,oP 32 (.bin .geq (.t 31) (.c (.int .i64 8))) [31])] (.cond (.t 32) (sK [32] (.seq (sR [(0,oT 33 8 [8]),(1,oP 34 (.bin .geq (.t 33) (.c (.int .i64 50))) [33])]
(.cond (.t 34) (sK [34] (sR [(0,oT 35 0 []),(1,oT 36 10 [10]),(2,oP 37 (.call 99 [.t 35,.t 36,.t 9]) [35,36]),(3,oT 10 37 [37])] (sR [(0,oT 38 0 []),(1,oT 39 11 [11]),(2,oP 40 (.call 99 [.t 38,.t 39,.t 9])
[38,39]),(3,oT 11 40 [40])] (.reg false [(0,oT 41 0 []),(1,oT 42 12 [12]),(2,oP 43 (.call 99 [.t 41,.t 42,.t 9]) [41,42]),(3,oT 12 43 [43])])))) (sK [34] .skip))) (.reg false [(0,oT 44 0 [0]),(1,oT 45 10 [10]),(2,oT 46
11 [11]),(3,oT 47 12 [12]),(4,oP 48 (.call 100 [.t 44,.t 45,.t 46,.t 47,.t 9]) [44,45,46,47]),(5,oT 11 48 [48])]))) (sK [0,8,10,12,32] .skip))) (sR [(0,oP 49 (.ld 1 false (.t 9)) [9])] (.block 0 (sR [(0,oP 52 (.bin .eql
(.t 49) (.c (.int .i64 0))) []),(1,oT 51 52 [52])] (.cond (.t 51) (sK [49,51] (sR [(0,oT 53 11 [11]),(1,oT 6 53 [53]),(2,oP 7 (.mv (.c (.int .i64 1))) [])] .ret)) (sK [51] (sR [(0,oP 55 (.bin .eql (.t 49) (.c (.int .i64
12))) [49]),(1,oT 54 55 [55])] (.cond (.t 54) (sK [54] (sR [(0,oT 56 11 [11]),(1,oT 6 56 [56]),(2,oP 7 (.mv (.c (.int .i64 2))) [])] .ret)) (sK [54] (sR [(0,oT 50 11 [11]),(1,oT 6 50 [50]),(2,oP 7 (.mv (.c (.int .i64
0))) [])] .ret))))))))))))))))
def C83 : CFn := ⟨57,3,[.t 6,.t 7],B83⟩
abbrev L84_0 : CCode := (.seq (sR [(0,oT 11 6 []),(1,oT 12 7 []),(2,oP 13 (.bin .lss (.t 11) (.t 12)) [11,12])] (.cond (.t 13) (sK [13] .skip) (sK [6,7,13] (.exit 0)))) (.block 1 (.seq (.reg true [(0,oT 14 0 []),(1,oT
15 6 []),(2,oT 16 0 []),(3,oT 17 7 []),(4,oT 18 0 []),(5,oT 19 7 []),(6,oP 20 (.ia 1 (.t 18) (.t 19)) []),(7,oP 21 (.ld 1 false (.t 20)) [18,19,20]),(8,oT 22 0 []),(9,oT 23 6 []),(10,oP 24 (.ia 1 (.t 22) (.t 23))
[]),(11,oP 25 (.ld 1 false (.t 24)) [22,23,24]),(12,oP 26 (.ia 1 (.t 14) (.t 15)) []),(13,⟨none,.st 1 (.t 26) (.t 21),none,[],[14,15,21,26]⟩),(14,oP 27 (.ia 1 (.t 16) (.t 17)) []),(15,⟨none,.st 1 (.t 27) (.t
25),none,[],[16,17,25,27]⟩)]) (sR [(0,oT 28 6 [6]),(1,oP 29 (.bin .add (.t 28) (.c (.int .i64 1))) [28]),(2,oT 6 29 [29])] (.reg false [(0,oT 30 7 [7]),(1,oP 31 (.bin .sub (.t 30) (.c (.int .i64 1))) [30]),(2,oT 7 31
[31])])))))
abbrev B84 : CCode := (sR [(0,oT 8 1 [1]),(1,oT 6 8 [8])] (sR [(0,oT 9 2 [2]),(1,oP 10 (.bin .sub (.t 9) (.c (.int .i64 1))) [9]),(2,oT 7 10 [10])] (.block 0 (.loop L84_0))))
def C84 : CFn := ⟨32,3,[],B84⟩
abbrev L85_1 : CCode := (.seq (.seq (.reg true [(0,oT 17 7 []),(1,oT 18 2 []),(2,oP 19 (.bin .lss (.t 17) (.t 18)) [17,18]),(3,oT 20 19 [19]),(4,oG 21 (.mv (.t 0)) 20 true []),(5,oG 22 (.mv (.t 7)) 20 true []),(6,oG 23
(.ia 1 (.t 21) (.t 22)) 20 true []),(7,oG 24 (.ld 1 false (.t 23)) 20 true [21,22,23]),(8,oG 25 (.mv (.t 0)) 20 true []),(9,oG 26 (.mv (.t 7)) 20 true []),(10,oG 27 (.bin .sub (.t 26) (.c (.int .i64 1))) 20 true
[26]),(11,oG 28 (.ia 1 (.t 25) (.t 27)) 20 true []),(12,oG 29 (.ld 1 false (.t 28)) 20 true [25,27,28]),(13,oG 30 (.call 86 [.t 24,.t 29]) 20 true [24,29]),(14,oG 31 (.not (.t 30)) 20 true [30]),(15,oP 32 (.pick (.t 20)
(.t 31) (.c (.bool false))) [20,31])]) (.cond (.t 32) (sK [32] .skip) (sK [32] (.exit 2)))) (.block 3 (.reg false [(0,oT 33 7 [7]),(1,oP 34 (.bin .add (.t 33) (.c (.int .i64 1))) [33]),(2,oT 7 34 [34])])))
abbrev L85_2 : CCode := (.seq (sR [(0,oT 64 9 []),(1,oP 65 (.bin .geq (.t 64) (.c (.int .i64 1))) [64])] (.cond (.t 65) (sK [65] .skip) (sK [9,65] (.exit 4)))) (.seq (.block 5 (.seq (.seq (.reg true [(0,oT 68 0
[]),(1,oT 69 9 []),(2,oP 70 (.ia 1 (.t 68) (.t 69)) []),(3,oP 71 (.ld 1 false (.t 70)) [68,69,70]),(4,oT 72 0 []),(5,oT 73 9 []),(6,oP 74 (.bin .sub (.t 73) (.c (.int .i64 1))) [73]),(7,oP 75 (.ia 1 (.t 72) (.t 74))
[]),(8,oP 76 (.ld 1 false (.t 75)) [72,74,75]),(9,oP 77 (.call 86 [.t 71,.t 76]) [71,76]),(10,oP 78 (.not (.t 77)) [77])]) (.cond (.t 78) (sK [9,78] (.exit 4)) (sK [78] .skip))) (.reg true [(0,oT 79 0 []),(1,oT 80 9
[]),(2,oT 81 0 []),(3,oT 82 9 []),(4,oP 83 (.bin .sub (.t 82) (.c (.int .i64 1))) [82]),(5,oT 84 0 []),(6,oT 85 9 []),(7,oP 86 (.bin .sub (.t 85) (.c (.int .i64 1))) [85]),(8,oP 87 (.ia 1 (.t 84) (.t 86)) []),(9,oP 88
(.ld 1 false (.t 87)) [84,86,87]),(10,oT 89 0 []),(11,oT 90 9 []),(12,oP 91 (.ia 1 (.t 89) (.t 90)) []),(13,oP 92 (.ld 1 false (.t 91)) [89,90,91]),(14,oP 93 (.ia 1 (.t 79) (.t 80)) []),(15,⟨none,.st 1 (.t 93) (.t
88),none,[],[79,80,88,93]⟩),(16,oP 94 (.ia 1 (.t 81) (.t 83)) []),(17,⟨none,.st 1 (.t 94) (.t 92),none,[],[81,83,92,94]⟩)]))) (.reg false [(0,oT 66 9 [9]),(1,oP 67 (.bin .sub (.t 66) (.c (.int .i64 1))) [66]),(2,oT 9 67
[67])])))
abbrev L85_3 : CCode := (.seq (sR [(0,oT 101 10 []),(1,oT 102 2 []),(2,oP 103 (.bin .lss (.t 101) (.t 102)) [101,102])] (.cond (.t 103) (sK [103] .skip) (sK [10,103] (.exit 6)))) (.seq (.block 7 (.seq (.seq (.reg true
[(0,oT 106 0 []),(1,oT 107 10 []),(2,oP 108 (.ia 1 (.t 106) (.t 107)) []),(3,oP 109 (.ld 1 false (.t 108)) [106,107,108]),(4,oT 110 0 []),(5,oT 111 10 []),(6,oP 112 (.bin .sub (.t 111) (.c (.int .i64 1))) [111]),(7,oP
113 (.ia 1 (.t 110) (.t 112)) []),(8,oP 114 (.ld 1 false (.t 113)) [110,112,113]),(9,oP 115 (.call 86 [.t 109,.t 114]) [109,114]),(10,oP 116 (.not (.t 115)) [115])]) (.cond (.t 116) (sK [10,116] (.exit 6)) (sK [116]
.skip))) (.reg true [(0,oT 117 0 []),(1,oT 118 10 []),(2,oT 119 0 []),(3,oT 120 10 []),(4,oP 121 (.bin .sub (.t 120) (.c (.int .i64 1))) [120]),(5,oT 122 0 []),(6,oT 123 10 []),(7,oP 124 (.bin .sub (.t 123) (.c (.int
.i64 1))) [123]),(8,oP 125 (.ia 1 (.t 122) (.t 124)) []),(9,oP 126 (.ld 1 false (.t 125)) [122,124,125]),(10,oT 127 0 []),(11,oT 128 10 []),(12,oP 129 (.ia 1 (.t 127) (.t 128)) []),(13,oP 130 (.ld 1 false (.t 129))
[127,128,129]),(14,oP 131 (.ia 1 (.t 117) (.t 118)) []),(15,⟨none,.st 1 (.t 131) (.t 126),none,[],[117,118,126,131]⟩),(16,oP 132 (.ia 1 (.t 119) (.t 121)) []),(17,⟨none,.st 1 (.t 132) (.t
130),none,[],[119,121,130,132]⟩)]))) (.reg false [(0,oT 104 10 [10]),(1,oP 105 (.bin .add (.t 104) (.c (.int .i64 1))) [104]),(2,oT 10 105 [105])])))
abbrev L85_0 : CCode := (.seq (sR [(0,oT 13 8 []),(1,oP 14 (.bin .lss (.t 13) (.c (.int .i64 5))) [13])] (.cond (.t 14) (sK [14] .skip) (sK [1,2,7,8,14] (.exit 0)))) (.seq (.block 1 (.seq (.block 2 (.loop L85_1)) (.seq
(sR [(0,oT 35 7 []),(1,oT 36 2 []),(2,oP 37 (.bin .eql (.t 35) (.t 36)) [35,36])] (.cond (.t 37) (sK [1,2,7,8,37] (sR [(0,oP 6 (.mv (.c (.bool true))) [])] .ret)) (sK [37] .skip))) (.seq (sR [(0,oT 38 2 []),(1,oT 39 1
[]),(2,oP 40 (.bin .sub (.t 38) (.t 39)) [38,39]),(3,oP 41 (.bin .lss (.t 40) (.c (.int .i64 50))) [40])] (.cond (.t 41) (sK [1,2,7,8,41] (sR [(0,oP 6 (.mv (.c (.bool false))) [])] .ret)) (sK [41] .skip))) (.seq (.reg
true [(0,oT 42 0 []),(1,oT 43 7 []),(2,oT 44 0 []),(3,oT 45 7 []),(4,oP 46 (.bin .sub (.t 45) (.c (.int .i64 1))) [45]),(5,oT 47 0 []),(6,oT 48 7 []),(7,oP 49 (.bin .sub (.t 48) (.c (.int .i64 1))) [48]),(8,oP 50 (.ia 1
(.t 47) (.t 49)) []),(9,oP 51 (.ld 1 false (.t 50)) [47,49,50]),(10,oT 52 0 []),(11,oT 53 7 []),(12,oP 54 (.ia 1 (.t 52) (.t 53)) []),(13,oP 55 (.ld 1 false (.t 54)) [52,53,54]),(14,oP 56 (.ia 1 (.t 42) (.t 43))
[]),(15,⟨none,.st 1 (.t 56) (.t 51),none,[],[42,43,51,56]⟩),(16,oP 57 (.ia 1 (.t 44) (.t 46)) []),(17,⟨none,.st 1 (.t 57) (.t 55),none,[],[44,46,55,57]⟩)]) (.seq (sR [(0,oT 58 7 []),(1,oT 59 1 []),(2,oP 60 (.bin .sub
(.t 58) (.t 59)) [58,59]),(3,oP 61 (.bin .geq (.t 60) (.c (.int .i64 2))) [60])] (.cond (.t 61) (sK [61] (sR [(0,oT 62 7 []),(1,oP 63 (.bin .sub (.t 62) (.c (.int .i64 1))) [62]),(2,oT 9 63 [63])] (.block 4 (.loop
L85_2)))) (sK [61] .skip))) (sR [(0,oT 95 2 []),(1,oT 96 7 []),(2,oP 97 (.bin .sub (.t 95) (.t 96)) [95,96]),(3,oP 98 (.bin .geq (.t 97) (.c (.int .i64 2))) [97])] (.cond (.t 98) (sK [98] (sR [(0,oT 99 7 []),(1,oP 100
(.bin .add (.t 99) (.c (.int .i64 1))) [99]),(2,oT 10 100 [100])] (.block 6 (.loop L85_3)))) (sK [98] .skip))))))))) (.reg false [(0,oT 15 8 [8]),(1,oP 16 (.bin .add (.t 15) (.c (.int .i64 1))) [15]),(2,oT 8 16 [16])])))
abbrev B85 : CCode := (sR [(0,oP 6 (.mv (.c (.bool false))) [6])] (sR [(0,oT 11 1 []),(1,oP 12 (.bin .add (.t 11) (.c (.int .i64 1))) [11]),(2,oT 7 12 [12])] (.seq (sR [(0,oP 8 (.mv (.c (.int .i64 0))) [])] (.block 0
(.loop L85_0))) (sR [(0,oP 6 (.mv (.c (.bool false))) [])] .ret))))
def C85 : CFn := ⟨133,3,[.t 6],B85⟩
abbrev B86 : CCode := (sR [(0,oP 4 (.mv (.c (.bool false))) [4])] (sR [(0,oT 5 0 []),(1,oP 6 (.call 101 [.t 5]) [5]),(2,oT 7 6 [6]),(3,oG 8 (.mv (.t 1)) 7 true []),(4,oG 9 (.call 101 [.t 8]) 7 true [8]),(5,oG 10 (.not
(.t 9)) 7 true [9]),(6,oP 11 (.pick (.t 7) (.t 10) (.c (.bool false))) [7,10]),(7,oT 12 11 [11]),(8,oG 13 (.mv (.t 0)) 12 false [0]),(9,oG 14 (.mv (.t 1)) 12 false [1]),(10,oG 15 (.bin .lss (.t 13) (.t 14)) 12 false
[13,14]),(11,oP 16 (.pick (.t 12) (.c (.bool true)) (.t 15)) [12,15]),(12,oT 4 16 [16])] .ret))
def C86 : CFn := ⟨17,2,[.t 4],B86⟩
abbrev L87_1 : CCode := (.seq (.seq (.reg true [(0,oT 29 9 []),(1,oT 30 10 []),(2,oP 31 (.bin .leq (.t 29) (.t 30)) [29,30]),(3,oT 32 31 [31]),(4,oG 33 (.mv (.t 0)) 32 true []),(5,oG 34 (.mv (.t 1)) 32 true []),(6,oG 35
(.ia 1 (.t 33) (.t 34)) 32 true []),(7,oG 36 (.ld 1 false (.t 35)) 32 true [33,34,35]),(8,oG 37 (.mv (.t 0)) 32 true []),(9,oG 38 (.mv (.t 9)) 32 true []),(10,oG 39 (.ia 1 (.t 37) (.t 38)) 32 true []),(11,oG 40 (.ld 1
false (.t 39)) 32 true [37,38,39]),(12,oG 41 (.call 86 [.t 36,.t 40]) 32 true [36,40]),(13,oG 42 (.not (.t 41)) 32 true [41]),(14,oP 43 (.pick (.t 32) (.t 42) (.c (.bool false))) [32,42])]) (.cond (.t 43) (sK [43]
.skip) (sK [43] (.exit 2)))) (.block 3 (.reg false [(0,oT 44 9 [9]),(1,oP 45 (.bin .add (.t 44) (.c (.int .i64 1))) [44]),(2,oT 9 45 [45])])))
abbrev L87_2 : CCode := (.seq (.seq (.reg true [(0,oT 46 9 []),(1,oT 47 10 []),(2,oP 48 (.bin .leq (.t 46) (.t 47)) [46,47]),(3,oT 49 48 [48]),(4,oG 50 (.mv (.t 0)) 49 true []),(5,oG 51 (.mv (.t 1)) 49 true []),(6,oG 52
(.ia 1 (.t 50) (.t 51)) 49 true []),(7,oG 53 (.ld 1 false (.t 52)) 49 true [50,51,52]),(8,oG 54 (.mv (.t 0)) 49 true []),(9,oG 55 (.mv (.t 10)) 49 true []),(10,oG 56 (.ia 1 (.t 54) (.t 55)) 49 true []),(11,oG 57 (.ld 1
false (.t 56)) 49 true [54,55,56]),(12,oG 58 (.call 86 [.t 53,.t 57]) 49 true [53,57]),(13,oP 59 (.pick (.t 49) (.t 58) (.c (.bool false))) [49,58])]) (.cond (.t 59) (sK [59] .skip) (sK [59] (.exit 4)))) (.block 5 (.reg
false [(0,oT 60 10 [10]),(1,oP 61 (.bin .sub (.t 60) (.c (.int .i64 1))) [60]),(2,oT 10 61 [61])])))
abbrev L87_0 : CCode := (.block 1 (.seq (.block 2 (.loop L87_1)) (.seq (.block 4 (.loop L87_2)) (.seq (sR [(0,oT 62 9 []),(1,oT 63 10 []),(2,oP 64 (.bin .gtr (.t 62) (.t 63)) [62,63])] (.cond (.t 64) (sK [1,10,64]
(.exit 0)) (sK [64] .skip))) (.seq (.reg true [(0,oT 65 0 []),(1,oT 66 9 []),(2,oT 67 0 []),(3,oT 68 10 []),(4,oT 69 0 []),(5,oT 70 10 []),(6,oP 71 (.ia 1 (.t 69) (.t 70)) []),(7,oP 72 (.ld 1 false (.t 71))
[69,70,71]),(8,oT 73 0 []),(9,oT 74 9 []),(10,oP 75 (.ia 1 (.t 73) (.t 74)) []),(11,oP 76 (.ld 1 false (.t 75)) [73,74,75]),(12,oP 77 (.ia 1 (.t 65) (.t 66)) []),(13,⟨none,.st 1 (.t 77) (.t
72),none,[],[65,66,72,77]⟩),(14,oP 78 (.ia 1 (.t 67) (.t 68)) []),(15,⟨none,.st 1 (.t 78) (.t 76),none,[],[67,68,76,78]⟩)]) (sR [(0,oT 79 9 [9]),(1,oP 80 (.bin .add (.t 79) (.c (.int .i64 1))) [79]),(2,oT 9 80 [80])]
(.reg false [(0,oT 81 10 [10]),(1,oP 82 (.bin .sub (.t 81) (.c (.int .i64 1))) [81]),(2,oT 10 82 [82])])))))))
abbrev B87 : CCode := (sR [(0,oP 8 (.mv (.c (.int .i64 0))) [8])] (.seq (.reg true [(0,oT 11 0 []),(1,oT 12 1 []),(2,oT 13 0 []),(3,oT 14 3 []),(4,oT 15 0 []),(5,oT 16 3 [3]),(6,oP 17 (.ia 1 (.t 15) (.t 16)) []),(7,oP
18 (.ld 1 false (.t 17)) [15,16,17]),(8,oT 19 0 []),(9,oT 20 1 []),(10,oP 21 (.ia 1 (.t 19) (.t 20)) []),(11,oP 22 (.ld 1 false (.t 21)) [19,20,21]),(12,oP 23 (.ia 1 (.t 11) (.t 12)) []),(13,⟨none,.st 1 (.t 23) (.t
18),none,[],[11,12,18,23]⟩),(14,oP 24 (.ia 1 (.t 13) (.t 14)) []),(15,⟨none,.st 1 (.t 24) (.t 22),none,[],[13,14,22,24]⟩)]) (sR [(0,oT 25 1 []),(1,oP 26 (.bin .add (.t 25) (.c (.int .i64 1))) [25]),(2,oT 27 2 [2]),(3,oP
28 (.bin .sub (.t 27) (.c (.int .i64 1))) [27]),(4,oT 9 26 [26]),(5,oT 10 28 [28])] (.seq (.block 0 (.loop L87_0)) (sR [(0,oT 83 9 [9]),(1,oT 8 83 [83])] .ret)))))
def C87 : CFn := ⟨84,4,[.t 8],B87⟩
abbrev L88_0 : CCode := (.seq (.seq (.reg true [(0,oT 30 10 []),(1,oT 31 11 []),(2,oP 32 (.bin .leq (.t 30) (.t 31)) [30,31]),(3,oT 33 32 [32]),(4,oG 34 (.mv (.t 0)) 33 true []),(5,oG 35 (.mv (.t 10)) 33 true []),(6,oG
36 (.ia 1 (.t 34) (.t 35)) 33 true []),(7,oG 37 (.ld 1 false (.t 36)) 33 true [34,35,36]),(8,oG 38 (.mv (.t 0)) 33 true []),(9,oG 39 (.mv (.t 1)) 33 true []),(10,oG 40 (.ia 1 (.t 38) (.t 39)) 33 true []),(11,oG 41 (.ld
1 false (.t 40)) 33 true [38,39,40]),(12,oG 42 (.call 86 [.t 37,.t 41]) 33 true [37,41]),(13,oP 43 (.pick (.t 33) (.t 42) (.c (.bool false))) [33,42])]) (.cond (.t 43) (sK [43] .skip) (sK [43] (.exit 0)))) (.block 1
(.reg false [(0,oT 44 10 [10]),(1,oP 45 (.bin .add (.t 44) (.c (.int .i64 1))) [44]),(2,oT 10 45 [45])])))
abbrev L88_1 : CCode := (.seq (.seq (.reg true [(0,oT 46 10 []),(1,oT 47 11 []),(2,oP 48 (.bin .leq (.t 46) (.t 47)) [46,47]),(3,oT 49 48 [48]),(4,oG 50 (.mv (.t 0)) 49 true []),(5,oG 51 (.mv (.t 11)) 49 true []),(6,oG
52 (.ia 1 (.t 50) (.t 51)) 49 true []),(7,oG 53 (.ld 1 false (.t 52)) 49 true [50,51,52]),(8,oG 54 (.mv (.t 0)) 49 true []),(9,oG 55 (.mv (.t 1)) 49 true []),(10,oG 56 (.ia 1 (.t 54) (.t 55)) 49 true []),(11,oG 57 (.ld
1 false (.t 56)) 49 true [54,55,56]),(12,oG 58 (.call 86 [.t 53,.t 57]) 49 true [53,57]),(13,oG 59 (.not (.t 58)) 49 true [58]),(14,oP 60 (.pick (.t 49) (.t 59) (.c (.bool false))) [49,59])]) (.cond (.t 60) (sK [60]
.skip) (sK [60] (.exit 2)))) (.block 3 (.reg false [(0,oT 61 11 [11]),(1,oP 62 (.bin .sub (.t 61) (.c (.int .i64 1))) [61]),(2,oT 11 62 [62])])))
abbrev L88_3 : CCode := (.seq (.seq (.reg true [(0,oT 99 10 []),(1,oT 100 11 []),(2,oP 101 (.bin .leq (.t 99) (.t 100)) [99,100]),(3,oT 102 101 [101]),(4,oG 103 (.mv (.t 0)) 102 true []),(5,oG 104 (.mv (.t 10)) 102 true
[]),(6,oG 105 (.ia 1 (.t 103) (.t 104)) 102 true []),(7,oG 106 (.ld 1 false (.t 105)) 102 true [103,104,105]),(8,oG 107 (.mv (.t 0)) 102 true []),(9,oG 108 (.mv (.t 1)) 102 true []),(10,oG 109 (.ia 1 (.t 107) (.t 108))
102 true []),(11,oG 110 (.ld 1 false (.t 109)) 102 true [107,108,109]),(12,oG 111 (.call 86 [.t 106,.t 110]) 102 true [106,110]),(13,oP 112 (.pick (.t 102) (.t 111) (.c (.bool false))) [102,111])]) (.cond (.t 112) (sK
[112] .skip) (sK [112] (.exit 6)))) (.block 7 (.reg false [(0,oT 113 10 [10]),(1,oP 114 (.bin .add (.t 113) (.c (.int .i64 1))) [113]),(2,oT 10 114 [114])])))
abbrev L88_4 : CCode := (.seq (.seq (.reg true [(0,oT 115 10 []),(1,oT 116 11 []),(2,oP 117 (.bin .leq (.t 115) (.t 116)) [115,116]),(3,oT 118 117 [117]),(4,oG 119 (.mv (.t 0)) 118 true []),(5,oG 120 (.mv (.t 11)) 118
true []),(6,oG 121 (.ia 1 (.t 119) (.t 120)) 118 true []),(7,oG 122 (.ld 1 false (.t 121)) 118 true [119,120,121]),(8,oG 123 (.mv (.t 0)) 118 true []),(9,oG 124 (.mv (.t 1)) 118 true []),(10,oG 125 (.ia 1 (.t 123) (.t
124)) 118 true []),(11,oG 126 (.ld 1 false (.t 125)) 118 true [123,124,125]),(12,oG 127 (.call 86 [.t 122,.t 126]) 118 true [122,126]),(13,oG 128 (.not (.t 127)) 118 true [127]),(14,oP 129 (.pick (.t 118) (.t 128) (.c
(.bool false))) [118,128])]) (.cond (.t 129) (sK [129] .skip) (sK [129] (.exit 8)))) (.block 9 (.reg false [(0,oT 130 11 [11]),(1,oP 131 (.bin .sub (.t 130) (.c (.int .i64 1))) [130]),(2,oT 11 131 [131])])))
abbrev L88_2 : CCode := (.block 5 (.seq (.block 6 (.loop L88_3)) (.seq (.block 8 (.loop L88_4)) (.seq (sR [(0,oT 132 10 []),(1,oT 133 11 []),(2,oP 134 (.bin .gtr (.t 132) (.t 133)) [132,133])] (.cond (.t 134) (sK
[10,134] (.exit 4)) (sK [134] .skip))) (.seq (.reg true [(0,oT 135 0 []),(1,oT 136 10 []),(2,oT 137 0 []),(3,oT 138 11 []),(4,oT 139 0 []),(5,oT 140 11 []),(6,oP 141 (.ia 1 (.t 139) (.t 140)) []),(7,oP 142 (.ld 1 false
(.t 141)) [139,140,141]),(8,oT 143 0 []),(9,oT 144 10 []),(10,oP 145 (.ia 1 (.t 143) (.t 144)) []),(11,oP 146 (.ld 1 false (.t 145)) [143,144,145]),(12,oP 147 (.ia 1 (.t 135) (.t 136)) []),(13,⟨none,.st 1 (.t 147) (.t
142),none,[],[135,136,142,147]⟩),(14,oP 148 (.ia 1 (.t 137) (.t 138)) []),(15,⟨none,.st 1 (.t 148) (.t 146),none,[],[137,138,146,148]⟩)]) (sR [(0,oT 149 10 [10]),(1,oP 150 (.bin .add (.t 149) (.c (.int .i64 1)))
[149]),(2,oT 10 150 [150])] (.reg false [(0,oT 151 11 [11]),(1,oP 152 (.bin .sub (.t 151) (.c (.int .i64 1))) [151]),(2,oT 11 152 [152])])))))))
abbrev B88 : CCode := (sR [(0,oP 8 (.mv (.c (.int .i64 0))) [8]),(1,oP 9 (.mv (.c (.bool false))) [9])] (.seq (.reg true [(0,oT 12 0 []),(1,oT 13 1 []),(2,oT 14 0 []),(3,oT 15 3 []),(4,oT 16 0 []),(5,oT 17 3 [3]),(6,oP
18 (.ia 1 (.t 16) (.t 17)) []),(7,oP 19 (.ld 1 false (.t 18)) [16,17,18]),(8,oT 20 0 []),(9,oT 21 1 []),(10,oP 22 (.ia 1 (.t 20) (.t 21)) []),(11,oP 23 (.ld 1 false (.t 22)) [20,21,22]),(12,oP 24 (.ia 1 (.t 12) (.t 13))
[]),(13,⟨none,.st 1 (.t 24) (.t 19),none,[],[12,13,19,24]⟩),(14,oP 25 (.ia 1 (.t 14) (.t 15)) []),(15,⟨none,.st 1 (.t 25) (.t 23),none,[],[14,15,23,25]⟩)]) (sR [(0,oT 26 1 []),(1,oP 27 (.bin .add (.t 26) (.c (.int .i64
1))) [26]),(2,oT 28 2 [2]),(3,oP 29 (.bin .sub (.t 28) (.c (.int .i64 1))) [28]),(4,oT 10 27 [27]),(5,oT 11 29 [29])] (.seq (.block 0 (.loop L88_0)) (.seq (.block 2 (.loop L88_1)) (.seq (sR [(0,oT 63 10 []),(1,oT 64 11
[]),(2,oP 65 (.bin .gtr (.t 63) (.t 64)) [63,64])] (.cond (.t 65) (sK [10,65] (.seq (.reg true [(0,oT 66 0 []),(1,oT 67 11 []),(2,oT 68 0 []),(3,oT 69 1 []),(4,oT 70 0 []),(5,oT 71 1 [1]),(6,oP 72 (.ia 1 (.t 70) (.t
71)) []),(7,oP 73 (.ld 1 false (.t 72)) [70,71,72]),(8,oT 74 0 []),(9,oT 75 11 []),(10,oP 76 (.ia 1 (.t 74) (.t 75)) []),(11,oP 77 (.ld 1 false (.t 76)) [74,75,76]),(12,oP 78 (.ia 1 (.t 66) (.t 67)) []),(13,⟨none,.st 1
(.t 78) (.t 73),none,[],[66,67,73,78]⟩),(14,oP 79 (.ia 1 (.t 68) (.t 69)) []),(15,⟨none,.st 1 (.t 79) (.t 77),none,[],[68,69,77,79]⟩)]) (sR [(0,oT 80 11 [11]),(1,oT 8 80 [80]),(2,oP 9 (.mv (.c (.bool true))) [])]
.ret))) (sK [65] .skip))) (.seq (.reg true [(0,oT 81 0 []),(1,oT 82 10 []),(2,oT 83 0 []),(3,oT 84 11 []),(4,oT 85 0 []),(5,oT 86 11 []),(6,oP 87 (.ia 1 (.t 85) (.t 86)) []),(7,oP 88 (.ld 1 false (.t 87))
[85,86,87]),(8,oT 89 0 []),(9,oT 90 10 []),(10,oP 91 (.ia 1 (.t 89) (.t 90)) []),(11,oP 92 (.ld 1 false (.t 91)) [89,90,91]),(12,oP 93 (.ia 1 (.t 81) (.t 82)) []),(13,⟨none,.st 1 (.t 93) (.t
88),none,[],[81,82,88,93]⟩),(14,oP 94 (.ia 1 (.t 83) (.t 84)) []),(15,⟨none,.st 1 (.t 94) (.t 92),none,[],[83,84,92,94]⟩)]) (sR [(0,oT 95 10 [10]),(1,oP 96 (.bin .add (.t 95) (.c (.int .i64 1))) [95]),(2,oT 10 96 [96])]
(sR [(0,oT 97 11 [11]),(1,oP 98 (.bin .sub (.t 97) (.c (.int .i64 1))) [97]),(2,oT 11 98 [98])] (.seq (.block 4 (.loop L88_2)) (.seq (.reg true [(0,oT 153 0 []),(1,oT 154 11 []),(2,oT 155 0 []),(3,oT 156 1 []),(4,oT 157
0 []),(5,oT 158 1 [1]),(6,oP 159 (.ia 1 (.t 157) (.t 158)) []),(7,oP 160 (.ld 1 false (.t 159)) [157,158,159]),(8,oT 161 0 []),(9,oT 162 11 []),(10,oP 163 (.ia 1 (.t 161) (.t 162)) []),(11,oP 164 (.ld 1 false (.t 163))
[161,162,163]),(12,oP 165 (.ia 1 (.t 153) (.t 154)) []),(13,⟨none,.st 1 (.t 165) (.t 160),none,[],[153,154,160,165]⟩),(14,oP 166 (.ia 1 (.t 155) (.t 156)) []),(15,⟨none,.st 1 (.t 166) (.t
164),none,[],[155,156,164,166]⟩)]) (sR [(0,oT 167 11 [11]),(1,oT 8 167 [167]),(2,oP 9 (.mv (.c (.bool false))) [])] .ret))))))))))))
def C88 : CFn := ⟨168,4,[.t 8,.t 9],B88⟩
abbrev B90 : CCode := (sR [(0,oP 2 (.mv (.c (.int .i64 0))) [])] (.seq (sR [(0,oT 3 0 []),(1,oP 4 (.bin .geq (.t 3) (.c (.int .u64 (4294967296)))) [3])] (.cond (.t 4) (sK [2,4] (sR [(0,oT 5 0 [0]),(1,oP 6 (.bin .shr (.t
5) (.c (.int .u64 (32)))) [5]),(2,oT 0 6 [6])] (.reg false [(0,oP 2 (.mv (.c (.int .i64 32))) [])]))) (sK [4] .skip))) (.seq (sR [(0,oT 7 0 []),(1,oP 8 (.bin .geq (.t 7) (.c (.int .u64 (65536)))) [7])] (.cond (.t 8) (sK
[8] (sR [(0,oT 9 0 [0]),(1,oP 10 (.bin .shr (.t 9) (.c (.int .u64 (16)))) [9]),(2,oT 0 10 [10])] (.reg false [(0,oT 11 2 [2]),(1,oP 12 (.bin .add (.t 11) (.c (.int .i64 16))) [11]),(2,oT 2 12 [12])]))) (sK [8] .skip)))
(.seq (sR [(0,oT 13 0 []),(1,oP 14 (.bin .geq (.t 13) (.c (.int .u64 (256)))) [13])] (.cond (.t 14) (sK [14] (sR [(0,oT 15 0 [0]),(1,oP 16 (.bin .shr (.t 15) (.c (.int .u64 (8)))) [15]),(2,oT 0 16 [16])] (.reg false
[(0,oT 17 2 [2]),(1,oP 18 (.bin .add (.t 17) (.c (.int .i64 8))) [17]),(2,oT 2 18 [18])]))) (sK [14] .skip))) (sR [(0,oT 19 2 [2]),(1,oT 20 0 [0]),(2,oP 21 (.conv .u8 (.t 20)) [20]),(3,oP 22 (.ix (.c (.str
[0,1,2,2,3,3,3,3,4,4,4,4,4,4,4,4,5,5,5,5,5,5,5,5,5,5,5,5,5,5,5,5,6,6,6,6,6,6,6,6,6,6,6,6,6,6,6,6,6,6,6,6,6,6,6,6,6,6,6,6,6,6,6,6,7,7,7,7,7,7,7,7,7,7,7,7,7,7,7,7,7,7,7,7,7,7,7,7,7,7,7,7,7,7,7,7,7,7,7,7,7,7,7,7,7,7,7,7,7,7,7,7,7,7,7,7,7,7,7,7,7,7,7,7,7,7,7,7,8,8,8,8,8,8,8,8,8,8,8,8,8,8,8,8,8,8,8,8,8,8,8,8,8,8,8,8,8,8,8,8,8,8,8,8,8,8,8,8,8,8,8,8,8,8,8,8,8,8,8,8,8,8,8,8,8,8,8,8,8,8,8,8,8,8,8,8,8,8,8,8,8,8,8,8,8,8,8,8,8,8,8,8,8,8,8,8,8,8,8,8,8,8,8,8,8,8,8,8,8,8,8,8,8,8,8,8,8,8,8,8,8,8,8,8,8,8,8,8,8,8,8,8,8,8,8,8])) (.t 21)) [21]),(4,oP 23 (.conv .i64 (.t 22)) [22]),(5,oP 24 (.bin .add (.t 19) (.t 23)) [19,23]),(6,oT 2 24 [24])] .ret)))))
def C90 : CFn := ⟨25,1,[.t 2],B90⟩
abbrev L91_0 : CCode := (.seq (sR [(0,oT 12 4 []),(1,oP 13 (.fa 1 (.t 1)) []),(2,oP 14 (.ld 1 false (.t 13)) [13]),(3,oP 15 (.len (.t 14)) [14]),(4,oP 16 (.bin .lss (.t 12) (.t 15)) [12,15])] (.cond (.t 16) (sK [16]
.skip) (sK [1,4,16] (.exit 0)))) (.seq (.block 1 (.reg true [(0,oP 19 (.fa 1 (.t 3)) []),(1,oP 20 (.ld 1 false (.t 19)) []),(2,oP 21 (.fa 1 (.t 1)) []),(3,oP 22 (.ld 1 false (.t 21)) []),(4,oT 23 4 []),(5,oP 24 (.ia 2
(.t 22) (.t 23)) [22]),(6,oP 25 (.fa 0 (.t 24)) [24]),(7,oP 26 (.ld 1 false (.t 25)) []),(8,oP 27 (.bsl 1 0 [.int .i64 (0)] []) []),(9,oP 28 (.fa 1 (.t 1)) []),(10,oP 29 (.ld 1 false (.t 28)) [28]),(11,oT 30 4
[]),(12,oP 31 (.ia 2 (.t 29) (.t 30)) [29]),(13,oP 32 (.fa 1 (.t 31)) [31]),(14,oP 33 (.ld 1 false (.t 32)) [32]),(15,⟨some 34,.app 1 8 (.t 27) (.t 33),none,[(19,1),(21,1),(25,1)],[19,21,23,25,27,30,33]⟩),(16,oP 35
(.bld [.int .i64 (0),.nils] [(0,1,(.t 26)),(1,1,(.t 34))]) [26,34]),(17,oP 36 (.bsl 2 1 [.int .i64 (0),.nils] [(0,2,(.t 35))]) [35]),(18,oP 37 (.app 2 32 (.t 20) (.t 36)) [20,36]),(19,oP 38 (.fa 1 (.t 3))
[]),(20,⟨none,.st 1 (.t 38) (.t 37),none,[],[37,38]⟩)])) (.reg false [(0,oT 17 4 [4]),(1,oP 18 (.bin .add (.t 17) (.c (.int .i64 1))) [17]),(2,oT 4 18 [18])])))
abbrev B91 : CCode := (sR [(0,oP 1 (.box 3 (.t 0)) [0]),(1,oP 2 (.al [.int .i64 (0),.nils,.nils]) [])] (.seq (.reg true [(0,oP 5 (.fa 0 (.t 1)) []),(1,oP 6 (.ld 1 false (.t 5)) []),(2,oP 7 (.bsl 1 0 [.int .i64 (0)] [])
[]),(3,oP 8 (.fa 2 (.t 1)) []),(4,oP 9 (.ld 1 false (.t 8)) [8]),(7,oP 3 (.al [.int .i64 (0),.nils,.nils]) []),(5,⟨some 10,.app 1 8 (.t 7) (.t 9),none,[(5,1)],[5,7,9]⟩),(6,oP 11 (.bld [.int .i64 (0),.nils,.nils]
[(0,1,(.t 6)),(2,1,(.t 10))]) [6,10]),(8,⟨none,.st 3 (.t 3) (.t 11),none,[],[11]⟩)]) (.seq (sR [(0,oP 4 (.mv (.c (.int .i64 0))) [])] (.block 0 (.loop L91_0))) (sR [(0,oP 39 (.ld 3 true (.t 3)) []),(1,⟨none,.st 3 (.t 2)
(.t 39),none,[],[3,39]⟩)] .ret))))
def C91 : CFn := ⟨40,1,[.m 2 3 true],B91⟩
abbrev L92_0 : CCode := (.seq (sR [(0,oT 9 7 []),(1,oT 10 0 []),(2,oP 11 (.lens (.t 10)) [10]),(3,oP 12 (.bin .lss (.t 9) (.t 11)) [9,11])] (.cond (.t 12) (sK [12] .skip) (sK [1,7,12] (.exit 0)))) (.seq (.block 1 (sR
[(0,oT 15 0 []),(1,oT 16 7 []),(2,oP 17 (.ix (.t 15) (.t 16)) [15,16]),(3,oT 18 1 []),(4,oP 19 (.bin .eql (.t 17) (.t 18)) [17,18])] (.cond (.t 19) (sK [19] (sR [(0,oT 20 5 [5]),(1,oT 21 0 []),(2,oT 22 6 [6]),(3,oT 23 7
[]),(4,oP 24 (.sst (.t 21) (some (.t 22)) (some (.t 23))) [21,22,23]),(5,oP 25 (.bsl 1 1 [.str []] [(0,1,(.t 24))]) [24]),(6,oP 26 (.app 1 16 (.t 20) (.t 25)) [20,25]),(7,oT 5 26 [26])] (.reg false [(0,oT 27 7 []),(1,oP
28 (.bin .add (.t 27) (.c (.int .i64 1))) [27]),(2,oT 6 28 [28])]))) (sK [19] .skip)))) (.reg false [(0,oT 13 7 [7]),(1,oP 14 (.bin .add (.t 13) (.c (.int .i64 1))) [13]),(2,oT 7 14 [14])])))
abbrev B92 : CCode := (sR [(0,oP 4 (.mv (.c (.nils))) [4])] (sR [(0,oP 8 (.bsl 1 0 [.str []] []) []),(1,oT 5 8 [8])] (sR [(0,oP 6 (.mv (.c (.int .i64 0))) [])] (.seq (sR [(0,oP 7 (.mv (.c (.int .i64 0))) [])] (.block 0
(.loop L92_0))) (sR [(0,oT 29 5 [5]),(1,oT 30 0 [0]),(2,oT 31 6 [6]),(3,oP 32 (.sst (.t 30) (some (.t 31)) none) [30,31]),(4,oP 33 (.bsl 1 1 [.str []] [(0,1,(.t 32))]) [32]),(5,oP 34 (.app 1 16 (.t 29) (.t 33))
[29,33]),(6,oT 4 34 [34])] .ret)))))
def C92 : CFn := ⟨35,2,[.t 4],B92⟩
abbrev L93_0 : CCode := (.seq (sR [(0,oT 5 4 []),(1,oP 6 (.bin .lss (.t 5) (.c (.int .i64 4))) [5])] (.cond (.t 6) (sK [6] .skip) (sK [0,4,6] (.exit 0)))) (.seq (.block 1 (sR [(0,oT 9 4 []),(1,oP 10 (.call 102 [.t 9])
[9]),(2,oT 11 0 []),(3,oP 12 (.bin .eql (.t 10) (.t 11)) [10,11])] (.cond (.t 12) (sK [0,12] (sR [(0,oT 13 4 [4]),(1,oT 2 13 [13]),(2,oP 3 (.mv (.c (.bool true))) [])] .ret)) (sK [12] .skip)))) (.reg false [(0,oT 7 4
[4]),(1,oP 8 (.bin .add (.t 7) (.c (.int .i64 1))) [7]),(2,oT 4 8 [8])])))
abbrev B93 : CCode := (sR [(0,oP 2 (.mv (.c (.int .i64 0))) [2]),(1,oP 3 (.mv (.c (.bool false))) [3])] (.seq (sR [(0,oP 4 (.mv (.c (.int .i64 (-10)))) [])] (.block 0 (.loop L93_0))) (sR [(0,oP 2 (.mv (.c (.int .i64
0))) []),(1,oP 3 (.mv (.c (.bool false))) [])] .ret)))
def C93 : CFn := ⟨14,1,[.t 2,.t 3],B93⟩
abbrev L94_0 : CCode := (.seq (sR [(0,oT 6 5 []),(1,oT 7 0 []),(2,oP 8 (.len (.t 7)) [7]),(3,oP 9 (.bin .lss (.t 6) (.t 8)) [6,8])] (.cond (.t 9) (sK [9] .skip) (sK [0,1,5,9] (.exit 0)))) (.seq (.block 1 (sR [(0,oT 12 0
[]),(1,oT 13 5 []),(2,oP 14 (.ia 3 (.t 12) (.t 13)) []),(3,oP 15 (.fa 0 (.t 14)) [14]),(4,oP 16 (.ld 1 false (.t 15)) [12,13,15]),(5,oT 17 1 []),(6,oP 18 (.bin .eql (.t 16) (.t 17)) [16,17])] (.cond (.t 18) (sK [0,1,18]
(sR [(0,oT 19 5 [5]),(1,oT 4 19 [19])] .ret)) (sK [18] .skip)))) (.reg false [(0,oT 10 5 [5]),(1,oP 11 (.bin .add (.t 10) (.c (.int .i64 1))) [10]),(2,oT 5 11 [11])])))
abbrev B94 : CCode := (sR [(0,oP 4 (.mv (.c (.int .i64 0))) [4])] (.seq (sR [(0,oP 5 (.mv (.c (.int .i64 0))) [])] (.block 0 (.loop L94_0))) (sR [(0,oP 4 (.mv (.c (.int .i64 (-1)))) [])] .ret)))
def C94 : CFn := ⟨20,2,[.t 4],B94⟩
abbrev L95_0 : CCode := (.seq (sR [(0,oT 12 6 []),(1,oP 13 (.fa 2 (.t 3)) []),(2,oP 14 (.ld 1 false (.t 13)) [13]),(3,oP 15 (.len (.t 14)) [14]),(4,oP 16 (.bin .lss (.t 12) (.t 15)) [12,15])] (.cond (.t 16) (sK [16]
.skip) (sK [6,16] (.exit 0)))) (.seq (.block 1 (.reg false [(0,oT 19 5 [5]),(1,oP 20 (.fa 2 (.t 3)) []),(2,oP 21 (.ld 1 false (.t 20)) [20]),(3,oT 22 6 []),(4,oP 23 (.ia 1 (.t 21) (.t 22)) [21]),(5,oP 24 (.ld 1 false
(.t 23)) [22,23]),(6,oP 25 (.call 102 [.t 24]) [24]),(7,oP 26 (.bin .add (.t 19) (.t 25)) [19,25]),(8,oT 5 26 [26])])) (.reg false [(0,oT 17 6 [6]),(1,oP 18 (.bin .add (.t 17) (.c (.int .i64 1))) [17]),(2,oT 6 18
[18])])))
abbrev L95_1 : CCode := (.seq (sR [(0,oT 29 7 []),(1,oP 30 (.fa 1 (.t 3)) []),(2,oP 31 (.ld 1 false (.t 30)) [30]),(3,oP 32 (.len (.t 31)) [31]),(4,oP 33 (.bin .lss (.t 29) (.t 32)) [29,32])] (.cond (.t 33) (sK [33]
.skip) (sK [0,3,7,33] (.exit 2)))) (.seq (.block 3 (.seq (sR [(0,oT 36 7 []),(1,oP 37 (.bin .gtr (.t 36) (.c (.int .i64 0))) [36])] (.cond (.t 37) (sK [37] (.reg false [(0,oT 38 5 [5]),(1,oP 39 (.bin .add (.t 38) (.c
(.str [32]))) [38]),(2,oT 5 39 [39])])) (sK [37] .skip))) (.reg false [(0,oT 40 5 [5]),(1,oT 41 0 []),(2,oP 42 (.fa 1 (.t 3)) []),(3,oP 43 (.ld 1 false (.t 42)) [42]),(4,oT 44 7 []),(5,oP 45 (.ia 2 (.t 43) (.t 44))
[43]),(6,oP 46 (.ld 2 true (.t 45)) [45]),(7,oP 47 (.call 103 [.t 41,.t 46]) [41,44,46]),(8,oP 48 (.bin .add (.t 40) (.t 47)) [40,47]),(9,oT 5 48 [48])]))) (.reg false [(0,oT 34 7 [7]),(1,oP 35 (.bin .add (.t 34) (.c
(.int .i64 1))) [34]),(2,oT 7 35 [35])])))
abbrev B95 : CCode := (sR [(0,oP 3 (.box 3 (.t 1)) [1]),(1,oP 4 (.mv (.c (.str []))) [4])] (.seq (sR [(0,oT 8 0 []),(1,oP 9 (.ld 3 true (.t 3)) []),(2,oP 10 (.call 19 [.t 8,.t 9]) [8,9]),(3,oP 11 (.not (.t 10)) [10])]
(.cond (.t 11) (sK [0,3,11] (sR [(0,oP 4 (.mv (.c (.str []))) [])] .ret)) (sK [11] .skip))) (sR [(0,oP 5 (.mv (.c (.str []))) [])] (.seq (sR [(0,oP 6 (.mv (.c (.int .i64 0))) [])] (.block 0 (.loop L95_0))) (sR [(0,oT 27
5 [5]),(1,oP 28 (.bin .add (.t 27) (.c (.str [63]))) [27]),(2,oT 5 28 [28])] (.seq (sR [(0,oP 7 (.mv (.c (.int .i64 0))) [])] (.block 2 (.loop L95_1))) (sR [(0,oT 49 5 [5]),(1,oT 4 49 [49])] .ret)))))))
def C95 : CFn := ⟨50,2,[.t 4],B95⟩
abbrev L96_0 : CCode := (.block 1 (sR [(0,oT 11 8 []),(1,oP 12 (.bin .mul (.c (.int .i64 2)) (.t 11)) [11]),(2,oP 13 (.bin .add (.t 12) (.c (.int .i64 1))) [12]),(3,oT 9 13 [13])] (.seq (sR [(0,oT 14 9 []),(1,oT 15 2
[]),(2,oP 16 (.bin .geq (.t 14) (.t 15)) [14,15])] (.cond (.t 16) (sK [2,3,8,9,16] (.exit 0)) (sK [16] .skip))) (.seq (.seq (.reg true [(0,oT 17 9 []),(1,oP 18 (.bin .add (.t 17) (.c (.int .i64 1))) [17]),(2,oT 19 2
[]),(3,oP 20 (.bin .lss (.t 18) (.t 19)) [18,19]),(4,oT 21 20 [20]),(5,oG 22 (.mv (.t 0)) 21 true []),(6,oG 23 (.mv (.t 3)) 21 true []),(7,oG 24 (.mv (.t 9)) 21 true []),(8,oG 25 (.bin .add (.t 23) (.t 24)) 21 true
[23,24]),(9,oG 26 (.ia 1 (.t 22) (.t 25)) 21 true []),(10,oG 27 (.ld 1 false (.t 26)) 21 true [22,25,26]),(11,oG 28 (.mv (.t 0)) 21 true []),(12,oG 29 (.mv (.t 3)) 21 true []),(13,oG 30 (.mv (.t 9)) 21 true []),(14,oG
31 (.bin .add (.t 29) (.t 30)) 21 true [29,30]),(15,oG 32 (.bin .add (.t 31) (.c (.int .i64 1))) 21 true [31]),(16,oG 33 (.ia 1 (.t 28) (.t 32)) 21 true []),(17,oG 34 (.ld 1 false (.t 33)) 21 true [28,32,33]),(18,oG 35
(.call 86 [.t 27,.t 34]) 21 true [27,34]),(19,oP 36 (.pick (.t 21) (.t 35) (.c (.bool false))) [21,35])]) (.cond (.t 36) (sK [36] (.reg false [(0,oT 37 9 [9]),(1,oP 38 (.bin .add (.t 37) (.c (.int .i64 1))) [37]),(2,oT
9 38 [38])])) (sK [36] .skip))) (.seq (.seq (.reg true [(0,oT 39 0 []),(1,oT 40 3 []),(2,oT 41 8 []),(3,oP 42 (.bin .add (.t 40) (.t 41)) [40,41]),(4,oP 43 (.ia 1 (.t 39) (.t 42)) []),(5,oP 44 (.ld 1 false (.t 43))
[39,42,43]),(6,oT 45 0 []),(7,oT 46 3 []),(8,oT 47 9 []),(9,oP 48 (.bin .add (.t 46) (.t 47)) [46,47]),(10,oP 49 (.ia 1 (.t 45) (.t 48)) []),(11,oP 50 (.ld 1 false (.t 49)) [45,48,49]),(12,oP 51 (.call 86 [.t 44,.t 50])
[44,50]),(13,oP 52 (.not (.t 51)) [51])]) (.cond (.t 52) (sK [2,3,8,9,52] .ret) (sK [52] .skip))) (.seq (.reg true [(0,oT 53 0 []),(1,oT 54 3 []),(2,oT 55 8 []),(3,oP 56 (.bin .add (.t 54) (.t 55)) [54,55]),(4,oT 57 0
[]),(5,oT 58 3 []),(6,oT 59 9 []),(7,oP 60 (.bin .add (.t 58) (.t 59)) [58,59]),(8,oT 61 0 []),(9,oT 62 3 []),(10,oT 63 9 []),(11,oP 64 (.bin .add (.t 62) (.t 63)) [62,63]),(12,oP 65 (.ia 1 (.t 61) (.t 64)) []),(13,oP
66 (.ld 1 false (.t 65)) [61,64,65]),(14,oT 67 0 []),(15,oT 68 3 []),(16,oT 69 8 [8]),(17,oP 70 (.bin .add (.t 68) (.t 69)) [68,69]),(18,oP 71 (.ia 1 (.t 67) (.t 70)) []),(19,oP 72 (.ld 1 false (.t 71))
[67,70,71]),(20,oP 73 (.ia 1 (.t 53) (.t 56)) []),(21,⟨none,.st 1 (.t 73) (.t 66),none,[],[53,56,66,73]⟩),(22,oP 74 (.ia 1 (.t 57) (.t 60)) []),(23,⟨none,.st 1 (.t 74) (.t 72),none,[],[57,60,72,74]⟩)]) (.reg false
[(0,oT 75 9 [9]),(1,oT 8 75 [75])])))))))
abbrev B96 : CCode := (sR [(0,oT 10 1 [1]),(1,oT 8 10 [10])] (.block 0 (.loop L96_0)))
def C96 : CFn := ⟨76,4,[],B96⟩
abbrev B97 : CCode := (sR [(0,oP 2 (.mv (.c (.int .u64 (0)))) [2])] (sR [(0,oT 3 0 [0]),(1,oP 4 (.conv .u64 (.t 3)) [3]),(2,oP 5 (.call 74 [.t 4]) [4]),(3,oP 6 (.bin .shl (.c (.int .u64 (1))) (.t 5)) [5]),(4,oT 2 6
[6])] .ret))
def C97 : CFn := ⟨7,1,[.t 2],B97⟩
abbrev B98 : CCode := (sR [(0,oP 2 (.mv (.c (.int .u64 (0)))) [2])] (.seq (.reg true [(0,oT 3 0 []),(1,oP 4 (.nc (.t 3)) []),(2,oP 5 (.ld 1 false (.t 4)) [4]),(3,oT 6 0 []),(4,oP 7 (.nc (.t 6)) []),(5,oP 8 (.ld 1 false
(.t 7)) [6,7]),(6,oP 9 (.bin .shl (.t 8) (.c (.int .u64 (13)))) [8]),(7,oP 10 (.bin .xor (.t 5) (.t 9)) [5,9]),(8,oP 11 (.nc (.t 3)) []),(9,⟨none,.st 1 (.t 11) (.t 10),none,[],[3,10,11]⟩)]) (.seq (.reg true [(0,oT 12 0
[]),(1,oP 13 (.nc (.t 12)) []),(2,oP 14 (.ld 1 false (.t 13)) [13]),(3,oT 15 0 []),(4,oP 16 (.nc (.t 15)) []),(5,oP 17 (.ld 1 false (.t 16)) [15,16]),(6,oP 18 (.bin .shr (.t 17) (.c (.int .u64 (7)))) [17]),(7,oP 19
(.bin .xor (.t 14) (.t 18)) [14,18]),(8,oP 20 (.nc (.t 12)) []),(9,⟨none,.st 1 (.t 20) (.t 19),none,[],[12,19,20]⟩)]) (.seq (.reg true [(0,oT 21 0 []),(1,oP 22 (.nc (.t 21)) []),(2,oP 23 (.ld 1 false (.t 22))
[22]),(3,oT 24 0 []),(4,oP 25 (.nc (.t 24)) []),(5,oP 26 (.ld 1 false (.t 25)) [24,25]),(6,oP 27 (.bin .shl (.t 26) (.c (.int .u64 (17)))) [26]),(7,oP 28 (.bin .xor (.t 23) (.t 27)) [23,27]),(8,oP 29 (.nc (.t 21))
[]),(9,⟨none,.st 1 (.t 29) (.t 28),none,[],[21,28,29]⟩)]) (sR [(0,oT 30 0 []),(1,oP 31 (.nc (.t 30)) []),(2,oP 32 (.ld 1 false (.t 31)) [30,31]),(3,oT 2 32 [32])] .ret)))))
def C98 : CFn := ⟨33,1,[.t 2],B98⟩
abbrev B99 : CCode := (sR [(0,oP 6 (.mv (.c (.int .i64 0))) [6])] (sR [(0,oT 7 0 [0]),(1,oT 8 1 []),(2,oP 9 (.bin .sub (.t 8) (.c (.int .i64 1))) [8]),(3,oT 10 1 []),(4,oT 11 1 [1]),(5,oP 12 (.bin .add (.t 11) (.c (.int
.i64 1))) [11]),(6,oT 13 2 []),(7,oP 14 (.call 100 [.t 7,.t 9,.t 10,.t 12,.t 13]) [7,9,10,12,13]),(8,oT 6 14 [14])] .ret))
def C99 : CFn := ⟨15,3,[.t 6],B99⟩
abbrev B100 : CCode := (sR [(0,oP 10 (.mv (.c (.int .i64 0))) [10])] (sR [(0,oT 12 0 []),(1,oT 13 1 [1]),(2,oT 14 2 [2]),(3,oT 15 4 []),(4,oP 16 (.call 104 [.t 12,.t 13,.t 14,.t 15]) [12,13,14,15]),(5,oT 11 16
[16]),(6,oP 17 (.ex (.t 11) 0) []),(7,oP 18 (.ex (.t 11) 1) [11]),(8,oT 1 17 [17]),(9,oT 2 18 [18])] (sR [(0,oT 20 0 []),(1,oT 21 2 [2]),(2,oT 22 3 [3]),(3,oT 23 4 []),(4,oP 24 (.call 104 [.t 20,.t 21,.t 22,.t 23])
[20,21,22,23]),(5,oT 19 24 [24]),(6,oP 25 (.ex (.t 19) 0) []),(7,oP 26 (.ex (.t 19) 1) [19]),(8,oT 2 25 [25]),(9,oT 3 26 [3,26])] (sR [(0,oT 28 0 [0]),(1,oT 29 1 [1]),(2,oT 30 2 [2]),(3,oT 31 4 []),(4,oP 32 (.call 104
[.t 28,.t 29,.t 30,.t 31]) [28,29,30,31]),(5,oT 27 32 [32]),(6,oP 33 (.ex (.t 27) 0) []),(7,oP 34 (.ex (.t 27) 1) [27]),(8,oT 1 33 [1,33]),(9,oT 2 34 [34])] (sR [(0,oT 35 2 [2]),(1,oT 10 35 [35])] .ret)))))
def C100 : CFn := ⟨36,5,[.t 10],B100⟩
abbrev B101 : CCode := (sR [(0,oP 2 (.mv (.c (.bool false))) [2])] (sR [(0,oT 3 0 []),(1,oT 4 0 [0]),(2,oP 5 (.bin .neq (.t 3) (.t 4)) [3,4]),(3,oT 2 5 [5])] .ret))
def C101 : CFn := ⟨6,1,[.t 2],B101⟩
abbrev B102 : CCode := (sR [(0,oP 2 (.mv (.c (.str []))) [2])] (sR [(0,oT 6 0 []),(1,oP 7 (.call 105 [.t 6]) [6]),(2,oT 5 7 [7]),(3,oP 8 (.ex (.t 5) 0) []),(4,oP 9 (.ex (.t 5) 1) [5]),(5,oT 3 8 [8]),(6,oT 4 9 [9])]
(.seq (sR [(0,oT 10 4 [4])] (.cond (.t 10) (sK [0,10] (sR [(0,oT 11 3 [3]),(1,oP 12 (.call 106 [.t 11]) [11]),(2,oT 2 12 [12])] .ret)) (sK [3,10] .skip))) (.seq (sR [(0,oT 13 0 []),(1,oP 14 (.call 30 [.t 13,(.c (.int
.i64 0)),(.c (.int .i64 3))]) [13]),(2,oP 15 (.not (.t 14)) [14])] (.cond (.t 15) (sK [0,15] (sR [(0,oP 2 (.mv (.c (.str []))) [])] .ret)) (sK [15] .skip))) (sR [(0,oT 16 0 []),(1,oT 17 0 [0]),(2,oP 18 (.bin .add (.t
17) (.c (.int .i64 1))) [17]),(3,oP 19 (.sst (.c (.str [120,121,122,119])) (some (.t 16)) (some (.t 18))) [16,18]),(4,oT 2 19 [19])] .ret)))))
def C102 : CFn := ⟨20,1,[.t 2],B102⟩
abbrev L103_0 : CCode := (.seq (sR [(0,oT 13 6 []),(1,oP 14 (.fa 1 (.t 3)) []),(2,oP 15 (.ld 1 false (.t 14)) [14]),(3,oP 16 (.len (.t 15)) [15]),(4,oP 17 (.bin .lss (.t 13) (.t 16)) [13,16])] (.cond (.t 17) (sK [17]
.skip) (sK [0,3,6,17] (.exit 0)))) (.seq (.block 1 (.seq (sR [(0,oT 20 6 []),(1,oT 21 0 []),(2,oP 22 (.fa 0 (.t 3)) []),(3,oP 23 (.ld 1 false (.t 22)) [22]),(4,oP 24 (.ia 3 (.t 21) (.t 23)) []),(5,oP 25 (.fa 2 (.t 24))
[24]),(6,oP 26 (.ld 1 false (.t 25)) [21,23,25]),(7,oP 27 (.bin .eql (.t 20) (.t 26)) [20,26])] (.cond (.t 27) (sK [27] (.reg false [(0,oT 28 5 [5]),(1,oP 29 (.bin .add (.t 28) (.c (.str [124]))) [28]),(2,oT 5 29
[29])])) (sK [27] .skip))) (.reg false [(0,oT 30 5 [5]),(1,oP 31 (.fa 1 (.t 3)) []),(2,oP 32 (.ld 1 false (.t 31)) [31]),(3,oT 33 6 []),(4,oP 34 (.ia 1 (.t 32) (.t 33)) [32]),(5,oP 35 (.ld 1 false (.t 34))
[33,34]),(6,oP 36 (.call 102 [.t 35]) [35]),(7,oP 37 (.bin .add (.t 30) (.t 36)) [30,36]),(8,oT 5 37 [37])]))) (.reg false [(0,oT 18 6 [6]),(1,oP 19 (.bin .add (.t 18) (.c (.int .i64 1))) [18]),(2,oT 6 19 [19])])))
abbrev B103 : CCode := (sR [(0,oP 3 (.box 2 (.t 1)) [1]),(1,oP 4 (.mv (.c (.str []))) [4])] (sR [(0,oT 7 0 []),(1,oP 8 (.fa 0 (.t 3)) []),(2,oP 9 (.ld 1 false (.t 8)) [8]),(3,oP 10 (.ia 3 (.t 7) (.t 9)) []),(4,oP 11
(.fa 0 (.t 10)) [10]),(5,oP 12 (.ld 1 false (.t 11)) [7,9,11]),(6,oT 5 12 [12])] (.seq (sR [(0,oP 6 (.mv (.c (.int .i64 0))) [])] (.block 0 (.loop L103_0))) (sR [(0,oT 38 5 [5]),(1,oT 4 38 [38])] .ret))))
def C103 : CFn := ⟨39,2,[.t 4],B103⟩
abbrev B104 : CCode := (sR [(0,oP 8 (.mv (.c (.int .i64 0))) [8]),(1,oP 9 (.mv (.c (.int .i64 0))) [9])] (.seq (.seq (.reg true [(0,oT 10 0 []),(1,oT 11 2 []),(2,oP 12 (.ia 1 (.t 10) (.t 11)) []),(3,oP 13 (.ld 1 false
(.t 12)) [10,11,12]),(4,oT 14 0 [0]),(5,oT 15 1 []),(6,oP 16 (.ia 1 (.t 14) (.t 15)) []),(7,oP 17 (.ld 1 false (.t 16)) [14,15,16]),(8,oP 18 (.call 86 [.t 13,.t 17]) [13,17])]) (.cond (.t 18) (sK [18] (sR [(0,oT 19 3
[]),(1,oP 20 (.nc (.t 19)) []),(2,oP 21 (.ld 1 false (.t 20)) [20]),(3,oP 22 (.bin .add (.t 21) (.c (.int .i64 1))) [21]),(4,oP 23 (.nc (.t 19)) []),(5,⟨none,.st 1 (.t 23) (.t 22),none,[],[19,22,23]⟩)] (sR [(0,oT 24 2
[2]),(1,oT 25 1 [1]),(2,oT 8 24 [24]),(3,oT 9 25 [25])] .ret))) (sK [18] .skip))) (sR [(0,oT 26 1 [1]),(1,oT 27 2 [2]),(2,oT 8 26 [26]),(3,oT 9 27 [27])] .ret)))
def C104 : CFn := ⟨28,4,[.t 8,.t 9],B104⟩
abbrev B105 : CCode := (sR [(0,oP 2 (.mv (.c (.int .i64 0))) [2]),(1,oP 3 (.mv (.c (.bool false))) [3])] (.seq (sR [(0,oT 4 0 []),(1,oP 5 (.bin .geq (.t 4) (.c (.int .i64 0))) [4]),(2,oT 6 5 [5]),(3,oG 7 (.mv (.t 0)) 6
false []),(4,oG 8 (.bin .sub (.c (.int .i64 (-1))) (.t 7)) 6 false [7]),(5,oG 9 (.call 30 [.t 8,(.c (.int .i64 0)),(.c (.int .i64 9))]) 6 false [8]),(6,oG 10 (.not (.t 9)) 6 false [9]),(7,oP 11 (.pick (.t 6) (.c (.bool
true)) (.t 10)) [6,10])] (.cond (.t 11) (sK [0,11] (sR [(0,oP 2 (.mv (.c (.int .i64 0))) []),(1,oP 3 (.mv (.c (.bool false))) [])] .ret)) (sK [11] .skip))) (sR [(0,oT 12 0 [0]),(1,oP 13 (.bin .sub (.c (.int .i64 (-1)))
(.t 12)) [12]),(2,oT 2 13 [13]),(3,oP 3 (.mv (.c (.bool true))) [])] .ret)))
def C105 : CFn := ⟨14,1,[.t 2,.t 3],B105⟩
abbrev L106_0 : CCode := (.seq (sR [(0,oT 10 0 []),(1,oP 11 (.bin .neq (.t 10) (.c (.int .i64 0))) [10])] (.cond (.t 11) (sK [11] .skip) (sK [0,11] (.exit 0)))) (.block 1 (sR [(0,oT 12 0 []),(1,oP 13 (.bin .rem (.t 12)
(.c (.int .i64 10))) [12]),(2,oT 5 13 [13])] (.seq (sR [(0,oT 14 5 []),(1,oP 15 (.bin .lss (.t 14) (.c (.int .i64 0))) [14])] (.cond (.t 15) (sK [15] (.reg false [(0,oT 16 5 [5]),(1,oP 17 (.neg (.t 16)) [16]),(2,oT 5 17
[17])])) (sK [15] .skip))) (sR [(0,oT 18 5 [5]),(1,oP 19 (.bin .add (.c (.int .i64 48)) (.t 18)) [18]),(2,oP 20 (.conv .u8 (.t 19)) [19]),(3,oP 21 (.bsl 1 1 [.int .u8 (0)] [(0,1,(.t 20))]) [20]),(4,oP 22 (.b2s (.t 21))
[21]),(5,oT 23 3 [3]),(6,oP 24 (.bin .add (.t 22) (.t 23)) [22,23]),(7,oT 3 24 [24])] (.reg false [(0,oT 25 0 [0]),(1,oP 26 (.bin .quo (.t 25) (.c (.int .i64 10))) [25]),(2,oT 0 26 [26])]))))))
abbrev B106 : CCode := (sR [(0,oP 2 (.mv (.c (.str []))) [2])] (.seq (sR [(0,oT 6 0 []),(1,oP 7 (.bin .eql (.t 6) (.c (.int .i64 0))) [6])] (.cond (.t 7) (sK [0,7] (sR [(0,oP 2 (.mv (.c (.str [48]))) [])] .ret)) (sK [7]
.skip))) (sR [(0,oP 3 (.mv (.c (.str []))) [])] (sR [(0,oT 8 0 []),(1,oP 9 (.bin .lss (.t 8) (.c (.int .i64 0))) [8]),(2,oT 4 9 [9])] (.seq (.block 0 (.loop L106_0)) (.seq (sR [(0,oT 27 4 [4])] (.cond (.t 27) (sK [27]
(sR [(0,oT 28 3 [3]),(1,oP 29 (.bin .add (.c (.str [45])) (.t 28)) [28]),(2,oT 2 29 [29])] .ret)) (sK [27] .skip))) (sR [(0,oT 30 3 [3]),(1,oT 2 30 [30])] .ret)))))))
def C106 : CFn := ⟨31,1,[.t 2],B106⟩
theorem chk3 : chkFn Go.Proofs.Try.prog 3 C3 = true := by kernel_rfl
theorem chk5 : chkFn Go.Proofs.Try.prog 5 C5 = true := by kernel_rfl
theorem chk6 : chkFn Go.Proofs.Try.prog 6 C6 = true := by kernel_rfl
theorem chk7 : chkFn Go.Proofs.Try.prog 7 C7 = true := by kernel_rfl
theorem chk8 : chkFn Go.Proofs.Try.prog 8 C8 = true := by kernel_rfl
theorem chk9 : chkFn Go.Proofs.Try.prog 9 C9 = true := by kernel_rfl
theorem chk10 : chkFn Go.Proofs.Try.prog 10 C10 = true := by kernel_rfl
theorem chk11 : chkFn Go.Proofs.Try.prog 11 C11 = true := by kernel_rfl
theorem chk12 : chkFn Go.Proofs.Try.prog 12 C12 = true := by kernel_rfl
theorem chk13 : chkFn Go.Proofs.Try.prog 13 C13 = true := by kernel_rfl
theorem chk14 : chkFn Go.Proofs.Try.prog 14 C14 = true := by kernel_rfl
theorem chk15 : chkFn Go.Proofs.Try.prog 15 C15 = true := by kernel_rfl
theorem chk16 : chkFn Go.Proofs.Try.prog 16 C16 = true := by kernel_rfl
theorem chk17 : chkFn Go.Proofs.Try.prog 17 C17 = true := by kernel_rfl
theorem chk19 : chkFn Go.Proofs.Try.prog 19 C19 = true := by kernel_rfl
theorem chk23 : chkFn Go.Proofs.Try.prog 23 C23 = true := by kernel_rfl
theorem chk24 : chkFn Go.Proofs.Try.prog 24 C24 = true := by kernel_rfl
theorem chk25 : chkFn Go.Proofs.Try.prog 25 C25 = true := by kernel_rfl
theorem chk26 : chkFn Go.Proofs.Try.prog 26 C26 = true := by kernel_rfl
theorem chk27 : chkFn Go.Proofs.Try.prog 27 C27 = true := by kernel_rfl
theorem chk28 : chkFn Go.Proofs.Try.prog 28 C28 = true := by kernel_rfl
theorem chk29 : chkFn Go.Proofs.Try.prog 29 C29 = true := by kernel_rfl
theorem chk30 : chkFn Go.Proofs.Try.prog 30 C30 = true := by kernel_rfl
theorem chk31 : chkFn Go.Proofs.Try.prog 31 C31 = true := by kernel_rfl
theorem chk32 : chkFn Go.Proofs.Try.prog 32 C32 = true := by kernel_rfl
theorem chk33 : chkFn Go.Proofs.Try.prog 33 C33 = true := by kernel_rfl
theorem chk34 : chkFn Go.Proofs.Try.prog 34 C34 = true := by kernel_rfl
theorem chk35 : chkFn Go.Proofs.Try.prog 35 C35 = true := by kernel_rfl
theorem chk36 : chkFn Go.Proofs.Try.prog 36 C36 = true := by kernel_rfl
theorem chk37 : chkFn Go.Proofs.Try.prog 37 C37 = true := by kernel_rfl
theorem chk39 : chkFn Go.Proofs.Try.prog 39 C39 = true := by kernel_rfl
theorem chk42 : chkFn Go.Proofs.Try.prog 42 C42 = true := by kernel_rfl
theorem chk43 : chkFn Go.Proofs.Try.prog 43 C43 = true := by kernel_rfl
theorem chk44 : chkFn Go.Proofs.Try.prog 44 C44 = true := by kernel_rfl
theorem chk45 : chkFn Go.Proofs.Try.prog 45 C45 = true := by kernel_rfl
theorem chk46 : chkFn Go.Proofs.Try.prog 46 C46 = true := by kernel_rfl
theorem chk47 : chkFn Go.Proofs.Try.prog 47 C47 = true := by kernel_rfl
theorem chk48 : chkFn Go.Proofs.Try.prog 48 C48 = true := by kernel_rfl
theorem chk49 : chkFn Go.Proofs.Try.prog 49 C49 = true := by kernel_rfl
theorem chk50 : chkFn Go.Proofs.Try.prog 50 C50 = true := by kernel_rfl
theorem chk51 : chkFn Go.Proofs.Try.prog 51 C51 = true := by kernel_rfl
theorem chk52 : chkFn Go.Proofs.Try.prog 52 C52 = true := by kernel_rfl
theorem chk53 : chkFn Go.Proofs.Try.prog 53 C53 = true := by kernel_rfl
theorem chk54 : chkFn Go.Proofs.Try.prog 54 C54 = true := by kernel_rfl
theorem chk55 : chkFn Go.Proofs.Try.prog 55 C55 = true := by kernel_rfl
theorem chk56 : chkFn Go.Proofs.Try.prog 56 C56 = true := by kernel_rfl
theorem chk57 : chkFn Go.Proofs.Try.prog 57 C57 = true := by kernel_rfl
theorem chk58 : chkFn Go.Proofs.Try.prog 58 C58 = true := by kernel_rfl
theorem chk59 : chkFn Go.Proofs.Try.prog 59 C59 = true := by kernel_rfl
theorem chk60 : chkFn Go.Proofs.Try.prog 60 C60 = true := by kernel_rfl
theorem chk61 : chkFn Go.Proofs.Try.prog 61 C61 = true := by kernel_rfl
theorem chk62 : chkFn Go.Proofs.Try.prog 62 C62 = true := by kernel_rfl
theorem chk63 : chkFn Go.Proofs.Try.prog 63 C63 = true := by kernel_rfl
theorem chk64 : chkFn Go.Proofs.Try.prog 64 C64 = true := by kernel_rfl
theorem chk65 : chkFn Go.Proofs.Try.prog 65 C65 = true := by kernel_rfl
theorem chk66 : chkFn Go.Proofs.Try.prog 66 C66 = true := by kernel_rfl
theorem chk67 : chkFn Go.Proofs.Try.prog 67 C67 = true := by kernel_rfl
theorem chk68 : chkFn Go.Proofs.Try.prog 68 C68 = true := by kernel_rfl
theorem chk69 : chkFn Go.Proofs.Try.prog 69 C69 = true := by kernel_rfl
theorem chk70 : chkFn Go.Proofs.Try.prog 70 C70 = true := by kernel_rfl
theorem chk71 : chkFn Go.Proofs.Try.prog 71 C71 = true := by kernel_rfl
theorem chk72 : chkFn Go.Proofs.Try.prog 72 C72 = true := by kernel_rfl
theorem chk73 : chkFn Go.Proofs.Try.prog 73 C73 = true := by kernel_rfl
theorem chk74 : chkFn Go.Proofs.Try.prog 74 C74 = true := by kernel_rfl
theorem chk75 : chkFn Go.Proofs.Try.prog 75 C75 = true := by kernel_rfl
theorem chk76 : chkFn Go.Proofs.Try.prog 76 C76 = true := by kernel_rfl
theorem chk77 : chkFn Go.Proofs.Try.prog 77 C77 = true := by kernel_rfl
theorem chk78 : chkFn Go.Proofs.Try.prog 78 C78 = true := by kernel_rfl
theorem chk79 : chkFn Go.Proofs.Try.prog 79 C79 = true := by kernel_rfl
theorem chk80 : chkFn Go.Proofs.Try.prog 80 C80 = true := by kernel_rfl
theorem chk81 : chkFn Go.Proofs.Try.prog 81 C81 = true := by kernel_rfl
theorem chk82 : chkFn Go.Proofs.Try.prog 82 C82 = true := by kernel_rfl
theorem chk83 : chkFn Go.Proofs.Try.prog 83 C83 = true := by kernel_rfl
theorem chk84 : chkFn Go.Proofs.Try.prog 84 C84 = true := by kernel_rfl
theorem chk85 : chkFn Go.Proofs.Try.prog 85 C85 = true := by kernel_rfl
theorem chk86 : chkFn Go.Proofs.Try.prog 86 C86 = true := by kernel_rfl
theorem chk87 : chkFn Go.Proofs.Try.prog 87 C87 = true := by kernel_rfl
theorem chk88 : chkFn Go.Proofs.Try.prog 88 C88 = true := by kernel_rfl
theorem chk90 : chkFn Go.Proofs.Try.prog 90 C90 = true := by kernel_rfl
theorem chk91 : chkFn Go.Proofs.Try.prog 91 C91 = true := by kernel_rfl
theorem chk92 : chkFn Go.Proofs.Try.prog 92 C92 = true := by kernel_rfl
theorem chk93 : chkFn Go.Proofs.Try.prog 93 C93 = true := by kernel_rfl
theorem chk94 : chkFn Go.Proofs.Try.prog 94 C94 = true := by kernel_rfl
theorem chk95 : chkFn Go.Proofs.Try.prog 95 C95 = true := by kernel_rfl
theorem chk96 : chkFn Go.Proofs.Try.prog 96 C96 = true := by kernel_rfl
theorem chk97 : chkFn Go.Proofs.Try.prog 97 C97 = true := by kernel_rfl
theorem chk98 : chkFn Go.Proofs.Try.prog 98 C98 = true := by kernel_rfl
theorem chk99 : chkFn Go.Proofs.Try.prog 99 C99 = true := by kernel_rfl
theorem chk100 : chkFn Go.Proofs.Try.prog 100 C100 = true := by kernel_rfl
theorem chk101 : chkFn Go.Proofs.Try.prog 101 C101 = true := by kernel_rfl
theorem chk102 : chkFn Go.Proofs.Try.prog 102 C102 = true := by kernel_rfl
theorem chk103 : chkFn Go.Proofs.Try.prog 103 C103 = true := by kernel_rfl
theorem chk104 : chkFn Go.Proofs.Try.prog 104 C104 = true := by kernel_rfl
theorem chk105 : chkFn Go.Proofs.Try.prog 105 C105 = true := by kernel_rfl
theorem chk106 : chkFn Go.Proofs.Try.prog 106 C106 = true := by kernel_rfl
def Tab (f : Nat) : Option CFn :=
  match f with
  | 3 => some C3
  | 5 => some C5
  | 6 => some C6
  | 7 => some C7
  | 8 => some C8
  | 9 => some C9
  | 10 => some C10
  | 11 => some C11
  | 12 => some C12
  | 13 => some C13
  | 14 => some C14
  | 15 => some C15
  | 16 => some C16
  | 17 => some C17
  | 19 => some C19
  | 23 => some C23
  | 24 => some C24
  | 25 => some C25
  | 26 => some C26
  | 27 => some C27
  | 28 => some C28
  | 29 => some C29
  | 30 => some C30
  | 31 => some C31
  | 32 => some C32
  | 33 => some C33
  | 34 => some C34
  | 35 => some C35
  | 36 => some C36
  | 37 => some C37
  | 39 => some C39
  | 42 => some C42
  | 43 => some C43
  | 44 => some C44
  | 45 => some C45
  | 46 => some C46
  | 47 => some C47
  | 48 => some C48
  | 49 => some C49
  | 50 => some C50
  | 51 => some C51
  | 52 => some C52
  | 53 => some C53
  | 54 => some C54
  | 55 => some C55
  | 56 => some C56
  | 57 => some C57
  | 58 => some C58
  | 59 => some C59
  | 60 => some C60
  | 61 => some C61
  | 62 => some C62
  | 63 => some C63
  | 64 => some C64
  | 65 => some C65
  | 66 => some C66
  | 67 => some C67
  | 68 => some C68
  | 69 => some C69
  | 70 => some C70
  | 71 => some C71
  | 72 => some C72
  | 73 => some C73
  | 74 => some C74
  | 75 => some C75
  | 76 => some C76
  | 77 => some C77
  | 78 => some C78
  | 79 => some C79
  | 80 => some C80
  | 81 => some C81
  | 82 => some C82
  | 83 => some C83
  | 84 => some C84
  | 85 => some C85
  | 86 => some C86
  | 87 => some C87
  | 88 => some C88
  | 90 => some C90
  | 91 => some C91
  | 92 => some C92
  | 93 => some C93
  | 94 => some C94
  | 95 => some C95
  | 96 => some C96
  | 97 => some C97
  | 98 => some C98
  | 99 => some C99
  | 100 => some C100
  | 101 => some C101
  | 102 => some C102
  | 103 => some C103
  | 104 => some C104
  | 105 => some C105
  | 106 => some C106
  | _ => none
theorem tabOk : TabOk Go.Proofs.Try.prog Tab := by
  intro f cf h
  unfold Tab at h
  split at h <;> simp only [Option.some.injEq, reduceCtorEq] at h <;> subst h
  · exact chk3
  · exact chk5
  · exact chk6
  · exact chk7
  · exact chk8
  · exact chk9
  · exact chk10
  · exact chk11
  · exact chk12
  · exact chk13
  · exact chk14
  · exact chk15
  · exact chk16
  · exact chk17
  · exact chk19
  · exact chk23
  · exact chk24
  · exact chk25
  · exact chk26
  · exact chk27
  · exact chk28
  · exact chk29
  · exact chk30
  · exact chk31
  · exact chk32
  · exact chk33
  · exact chk34
  · exact chk35
  · exact chk36
  · exact chk37
  · exact chk39
  · exact chk42
  · exact chk43
  · exact chk44
  · exact chk45
  · exact chk46
  · exact chk47
  · exact chk48
  · exact chk49
  · exact chk50
  · exact chk51
  · exact chk52
  · exact chk53
  · exact chk54
  · exact chk55
  · exact chk56
  · exact chk57
  · exact chk58
  · exact chk59
  · exact chk60
  · exact chk61
  · exact chk62
  · exact chk63
  · exact chk64
  · exact chk65
  · exact chk66
  · exact chk67
  · exact chk68
  · exact chk69
  · exact chk70
  · exact chk71
  · exact chk72
  · exact chk73
  · exact chk74
  · exact chk75
  · exact chk76
  · exact chk77
  · exact chk78
  · exact chk79
  · exact chk80
  · exact chk81
  · exact chk82
  · exact chk83
  · exact chk84
  · exact chk85
  · exact chk86
  · exact chk87
  · exact chk88
  · exact chk90
  · exact chk91
  · exact chk92
  · exact chk93
  · exact chk94
  · exact chk95
  · exact chk96
  · exact chk97
  · exact chk98
  · exact chk99
  · exact chk100
  · exact chk101
  · exact chk102
  · exact chk103
  · exact chk104
  · exact chk105
  · exact chk106

end Go.Proofs.YtcllfkplpdppiaaH
