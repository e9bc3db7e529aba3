import Derived.Test.YtcllfkplpdppiaaGreatX3
import Derived.Test.YtcllfkplpdppiaaGreatProg
set_option linter.unusedVariables false
set_option maxRecDepth 100000
namespace Go.Proofs.YtcllfkplpdppiaaGreatH
open Go
@[simp] abbrev oP (d : Nat) (p : COp) (k : List Nat) : COper := ⟨some d, p, none, [], k⟩
@[simp] abbrev oT (d a : Nat) (k : List Nat) : COper := ⟨some d, .mv (.t a), none, [], k⟩
@[simp] abbrev oG (d : Nat) (p : COp) (g : Nat) (b : Bool) (k : List Nat) : COper := ⟨some d, p, some (g, b), [], k⟩
abbrev sR (l : List (Nat × COper)) (c : CCode) : CCode := .seq (.reg false l) c
abbrev sK (l : List Nat) (c : CCode) : CCode := .seq (.kill l) c
abbrev B8 : CCode := (sR [(0,oP 2 (.mv (.c (.bool false))) [2])] (.seq (sR [(0,oT 9 0 []),(1,oP 10 (.call 35 [.t 9]) [9])] (.cond (.t 10) (sK [0,10] (sR [(0,oP 2 (.mv (.c (.bool true))) [])] .ret)) (sK [10] .skip))) (sR
[(0,oT 12 0 [0]),(1,oP 13 (.call 57 [.t 12]) [12]),(2,oT 11 13 [13]),(3,oP 14 (.ex (.t 11) 0) []),(4,oP 15 (.ex (.t 11) 1) []),(5,oP 16 (.ex (.t 11) 2) [11]),(6,oP 3 (.al [.nils,.nils]) []),(7,oP 5 (.al [.int .i64
(0),.nils,.nils]) []),(8,⟨none,.st 2 (.t 3) (.t 14),none,[],[14]⟩),(9,oT 4 15 [15]),(10,⟨none,.st 3 (.t 5) (.t 16),none,[],[16]⟩)] (sR [(0,oP 17 (.ld 2 true (.t 3)) []),(1,oT 18 4 []),(2,oP 19 (.ld 3 true (.t 5))
[]),(3,oP 20 (.call 58 [.t 17,.t 18,.t 19]) [17,18,19]),(4,oT 6 20 [20])] (.seq (sR [(0,oT 21 6 []),(1,oP 22 (.ld 2 true (.t 3)) []),(2,oT 23 4 []),(3,oP 24 (.ld 3 true (.t 5)) []),(4,oP 25 (.call 59 [.t 22,.t 23,.t
24]) [22,23,24]),(5,oP 26 (.beq true (.t 21) (.t 25)) [21,25])] (.cond (.t 26) (sK [3,4,5,6,26] (sR [(0,oP 2 (.mv (.c (.bool false))) [])] .ret)) (sK [26] .skip))) (sR [(0,oP 28 (.ld 2 true (.t 3)) []),(1,oT 29 4
[]),(2,oP 30 (.call 60 [.t 28,.t 29]) [28,29]),(3,oT 27 30 [30]),(4,oP 31 (.ex (.t 27) 0) []),(5,oP 32 (.ex (.t 27) 1) [27]),(6,oP 7 (.al [.nils,.nils]) []),(7,⟨none,.st 2 (.t 7) (.t 31),none,[],[31]⟩),(8,oT 8 32 [32])]
(sR [(0,oT 33 6 []),(1,oT 34 8 [8]),(2,oT 35 34 [34]),(3,oG 36 (.ld 2 true (.t 7)) 35 true []),(4,oG 37 (.ld 3 true (.t 5)) 35 true []),(5,oG 38 (.call 61 [.t 36,.t 37]) 35 true [7,36,37]),(6,oG 39 (.len (.t 38)) 35
true [38]),(7,oG 40 (.bin .gtr (.t 39) (.c (.int .i64 0))) 35 true [39]),(8,oP 41 (.pick (.t 35) (.t 40) (.c (.bool false))) [35,40]),(9,oP 42 (.beq false (.t 33) (.t 41)) [33,41]),(10,oT 43 42 [42]),(11,oG 44 (.mv (.t
6)) 43 true [6]),(12,oG 45 (.not (.t 44)) 43 true [44]),(13,oG 46 (.mv (.t 45)) 43 true [45]),(14,oG 47 (.ld 2 true (.t 3)) 46 false []),(15,oG 48 (.ld 3 true (.t 5)) 46 false []),(16,oG 49 (.call 63 [.t 47,.t 48]) 46
false [3,5,47,48]),(17,oG 50 (.mv (.t 4)) 46 false [4]),(18,oG 51 (.call 62 [.t 49,.t 50]) 46 false [49,50]),(19,oG 52 (.pick (.t 46) (.c (.bool true)) (.t 51)) 43 true [46,51]),(20,oP 53 (.pick (.t 43) (.t 52) (.c
(.bool false))) [43,52]),(21,oT 2 53 [53])] .ret)))))))
def C8 : CFn := ⟨54,1,[.t 2],B8⟩
abbrev B35 : CCode := (sR [(0,oP 2 (.mv (.c (.bool false))) [2])] (sR [(0,oT 3 0 [0]),(1,oP 4 (.len (.t 3)) [3]),(2,oP 5 (.bin .gtr (.t 4) (.c (.int .i64 1048576))) [4]),(3,oT 2 5 [5])] .ret))
def C35 : CFn := ⟨6,1,[.t 2],B35⟩
abbrev L48_3 : CCode := (.seq (sR [(0,oT 60 8 []),(1,oT 61 6 []),(2,oP 62 (.bin .lss (.t 60) (.t 61)) [60,61])] (.cond (.t 62) (sK [62] .skip) (sK [8,62] (.exit 2)))) (.seq (.block 3 (.seq (.reg true [(0,oP 65 (.fa 1
(.t 3)) []),(1,oP 66 (.ld 1 false (.t 65)) [65]),(2,oT 67 8 []),(3,oP 68 (.ia 2 (.t 66) (.t 67)) [66]),(4,oP 69 (.fa 0 (.t 68)) [68]),(5,oP 70 (.ld 1 false (.t 69)) [67,69]),(6,oP 71 (.fa 0 (.t 7)) []),(7,oP 72 (.ld 1
false (.t 71)) [71]),(8,oP 73 (.bin .eql (.t 70) (.t 72)) [70,72])]) (.cond (.t 73) (sK [0,3,5,6,7,8,73] (sR [(0,oP 4 (.mv (.c (.bool false))) [])] .ret)) (sK [73] .skip)))) (.reg false [(0,oT 63 8 [8]),(1,oP 64 (.bin
.add (.t 63) (.c (.int .i64 1))) [63]),(2,oT 8 64 [64])])))
abbrev L48_4 : CCode := (.seq (sR [(0,oT 74 9 []),(1,oP 75 (.fa 1 (.t 7)) []),(2,oP 76 (.ld 1 false (.t 75)) [75]),(3,oP 77 (.len (.t 76)) [76]),(4,oP 78 (.bin .lss (.t 74) (.t 77)) [74,77])] (.cond (.t 78) (sK [78]
.skip) (sK [7,9,78] (.exit 4)))) (.seq (.block 5 (.seq (.seq (.reg true [(0,oP 81 (.fa 1 (.t 7)) []),(1,oP 82 (.ld 1 false (.t 81)) [81]),(2,oT 83 9 []),(3,oP 84 (.ia 1 (.t 82) (.t 83)) [82]),(4,oP 85 (.ld 1 false (.t
84)) [83,84]),(5,oP 86 (.fa 0 (.t 3)) []),(6,oP 87 (.ld 1 false (.t 86)) [86]),(7,oP 88 (.bin .sub (.t 87) (.c (.int .i64 1))) [87]),(8,oP 89 (.call 118 [.t 85,(.c (.int .i64 (-10))),.t 88]) [85,88]),(9,oP 90 (.not (.t
89)) [89])]) (.cond (.t 90) (sK [0,3,5,6,7,9,90] (sR [(0,oP 4 (.mv (.c (.bool false))) [])] .ret)) (sK [90] .skip))) (sR [(0,oP 91 (.fa 1 (.t 7)) []),(1,oP 92 (.ld 1 false (.t 91)) [91]),(2,oT 93 9 []),(3,oP 94 (.ia 1
(.t 92) (.t 93)) [92]),(4,oP 95 (.ld 1 false (.t 94)) [93,94]),(5,oP 96 (.bin .geq (.t 95) (.c (.int .i64 0))) [95])] (.cond (.t 96) (sK [96] (.reg false [(0,oT 97 5 []),(1,oP 98 (.fa 1 (.t 7)) []),(2,oP 99 (.ld 1 false
(.t 98)) [98]),(3,oT 100 9 []),(4,oP 101 (.ia 1 (.t 99) (.t 100)) [99]),(5,oP 102 (.ld 1 false (.t 101)) [100,101]),(6,oP 103 (.ia 1 (.t 97) (.t 102)) []),(7,⟨none,.st 1 (.t 103) (.c (.bool
true)),none,[],[97,102,103]⟩)])) (sK [96] .skip))))) (.reg false [(0,oT 79 9 [9]),(1,oP 80 (.bin .add (.t 79) (.c (.int .i64 1))) [79]),(2,oT 9 80 [80])])))
abbrev L48_0 : CCode := (.seq (sR [(0,oT 29 6 []),(1,oP 30 (.fa 1 (.t 3)) []),(2,oP 31 (.ld 1 false (.t 30)) [30]),(3,oP 32 (.len (.t 31)) [31]),(4,oP 33 (.bin .lss (.t 29) (.t 32)) [29,32])] (.cond (.t 33) (sK [33]
.skip) (sK [0,6,33] (.exit 0)))) (.seq (.block 1 (sR [(0,oP 36 (.fa 1 (.t 3)) []),(1,oP 37 (.ld 1 false (.t 36)) [36]),(2,oT 38 6 []),(3,oP 39 (.ia 2 (.t 37) (.t 38)) [37]),(4,oP 40 (.ld 2 true (.t 39)) [39]),(5,oP 7
(.al [.int .i64 (0),.nils]) []),(6,⟨none,.st 2 (.t 7) (.t 40),none,[],[38,40]⟩)] (.seq (.seq (.reg true [(0,oP 41 (.fa 0 (.t 7)) []),(1,oP 42 (.ld 1 false (.t 41)) [41]),(2,oT 43 0 []),(3,oP 44 (.len (.t 43))
[43]),(4,oP 45 (.bin .sub (.t 44) (.c (.int .i64 1))) [44]),(5,oP 46 (.call 118 [.t 42,(.c (.int .i64 0)),.t 45]) [42,45]),(6,oP 47 (.not (.t 46)) [46]),(7,oT 48 47 [47]),(8,oG 49 (.fa 1 (.t 7)) 48 false []),(9,oG 50
(.ld 1 false (.t 49)) 48 false [49]),(10,oG 51 (.len (.t 50)) 48 false [50]),(11,oG 52 (.mv (.t 0)) 48 false []),(12,oG 53 (.fa 0 (.t 7)) 48 false []),(13,oG 54 (.ld 1 false (.t 53)) 48 false [53]),(14,oG 55 (.ia 3 (.t
52) (.t 54)) 48 false []),(15,oG 56 (.fa 1 (.t 55)) 48 false [55]),(16,oG 57 (.ld 1 false (.t 56)) 48 false [52,54,56]),(17,oG 58 (.bin .neq (.t 51) (.t 57)) 48 false [51,57]),(18,oP 59 (.pick (.t 48) (.c (.bool true))
(.t 58)) [48,58])]) (.cond (.t 59) (sK [0,3,5,6,7,59] (sR [(0,oP 4 (.mv (.c (.bool false))) [])] .ret)) (sK [59] .skip))) (.seq (sR [(0,oP 8 (.mv (.c (.int .i64 0))) [])] (.block 2 (.loop L48_3))) (sR [(0,oP 9 (.mv (.c
(.int .i64 0))) [])] (.block 4 (.loop L48_4))))))) (.reg false [(0,oT 34 6 [6]),(1,oP 35 (.bin .add (.t 34) (.c (.int .i64 1))) [34]),(2,oT 6 35 [35])])))
abbrev L48_1 : CCode := (.seq (sR [(0,oT 104 10 []),(1,oP 105 (.fa 0 (.t 3)) []),(2,oP 106 (.ld 1 false (.t 105)) [105]),(3,oP 107 (.bin .lss (.t 104) (.t 106)) [104,106])] (.cond (.t 107) (sK [107] .skip) (sK
[5,10,107] (.exit 6)))) (.seq (.block 7 (sR [(0,oT 110 5 []),(1,oT 111 10 []),(2,oP 112 (.ia 1 (.t 110) (.t 111)) []),(3,oP 113 (.ld 1 false (.t 112)) [110,111,112]),(4,oP 114 (.not (.t 113)) [113])] (.cond (.t 114) (sK
[3,5,10,114] (sR [(0,oP 4 (.mv (.c (.bool false))) [])] .ret)) (sK [114] .skip)))) (.reg false [(0,oT 108 10 [10]),(1,oP 109 (.bin .add (.t 108) (.c (.int .i64 1))) [108]),(2,oT 10 109 [109])])))
abbrev L48_2 : CCode := (.seq (sR [(0,oT 115 11 []),(1,oP 116 (.fa 2 (.t 3)) []),(2,oP 117 (.ld 1 false (.t 116)) [116]),(3,oP 118 (.len (.t 117)) [117]),(4,oP 119 (.bin .lss (.t 115) (.t 118)) [115,118])] (.cond (.t
119) (sK [119] .skip) (sK [3,11,119] (.exit 8)))) (.seq (.block 9 (.seq (.reg true [(0,oP 122 (.fa 2 (.t 3)) []),(1,oP 123 (.ld 1 false (.t 122)) [122]),(2,oT 124 11 []),(3,oP 125 (.ia 1 (.t 123) (.t 124)) [123]),(4,oP
126 (.ld 1 false (.t 125)) [124,125]),(5,oP 127 (.fa 0 (.t 3)) []),(6,oP 128 (.ld 1 false (.t 127)) [127]),(7,oP 129 (.bin .sub (.t 128) (.c (.int .i64 1))) [128]),(8,oP 130 (.call 118 [.t 126,(.c (.int .i64 0)),.t
129]) [126,129]),(9,oP 131 (.not (.t 130)) [130]),(10,oT 132 131 [131]),(11,oG 133 (.mv (.t 11)) 132 false []),(12,oG 134 (.bin .gtr (.t 133) (.c (.int .i64 0))) 132 false [133]),(13,oG 135 (.mv (.t 134)) 132 false
[134]),(14,oG 136 (.fa 2 (.t 3)) 135 true []),(15,oG 137 (.ld 1 false (.t 136)) 135 true [136]),(16,oG 138 (.mv (.t 11)) 135 true []),(17,oG 139 (.ia 1 (.t 137) (.t 138)) 135 true [137]),(18,oG 140 (.ld 1 false (.t
139)) 135 true [138,139]),(19,oG 141 (.fa 2 (.t 3)) 135 true []),(20,oG 142 (.ld 1 false (.t 141)) 135 true [141]),(21,oG 143 (.mv (.t 11)) 135 true []),(22,oG 144 (.bin .sub (.t 143) (.c (.int .i64 1))) 135 true
[143]),(23,oG 145 (.ia 1 (.t 142) (.t 144)) 135 true [142]),(24,oG 146 (.ld 1 false (.t 145)) 135 true [144,145]),(25,oG 147 (.bin .leq (.t 140) (.t 146)) 135 true [140,146]),(26,oG 148 (.pick (.t 135) (.t 147) (.c
(.bool false))) 132 false [135,147]),(27,oP 149 (.pick (.t 132) (.c (.bool true)) (.t 148)) [132,148])]) (.cond (.t 149) (sK [3,11,149] (sR [(0,oP 4 (.mv (.c (.bool false))) [])] .ret)) (sK [149] .skip)))) (.reg false
[(0,oT 120 11 [11]),(1,oP 121 (.bin .add (.t 120) (.c (.int .i64 1))) [120]),(2,oT 11 121 [121])])))
abbrev B48 : CCode := (sR [(0,oP 3 (.box 3 (.t 1)) [1]),(1,oP 4 (.mv (.c (.bool false))) [4])] (.seq (sR [(0,oT 12 0 []),(1,oP 13 (.call 117 [.t 12]) [12]),(2,oP 14 (.not (.t 13)) [13]),(3,oT 15 14 [14]),(4,oG 16 (.fa 0
(.t 3)) 15 false []),(5,oG 17 (.ld 1 false (.t 16)) 15 false [16]),(6,oG 18 (.call 118 [.t 17,(.c (.int .i64 0)),(.c (.int .i64 4))]) 15 false [17]),(7,oG 19 (.not (.t 18)) 15 false [18]),(8,oP 20 (.pick (.t 15) (.c
(.bool true)) (.t 19)) [15,19]),(9,oT 21 20 [20]),(10,oG 22 (.fa 1 (.t 3)) 21 false []),(11,oG 23 (.ld 1 false (.t 22)) 21 false [22]),(12,oG 24 (.len (.t 23)) 21 false [23]),(13,oG 25 (.call 118 [.t 24,(.c (.int .i64
1)),(.c (.int .i64 3))]) 21 false [24]),(14,oG 26 (.not (.t 25)) 21 false [25]),(15,oP 27 (.pick (.t 21) (.c (.bool true)) (.t 26)) [21,26])] (.cond (.t 27) (sK [0,3,27] (sR [(0,oP 4 (.mv (.c (.bool false))) [])] .ret))
(sK [27] .skip))) (sR [(0,oP 28 (.mk 1 1 [.bool false] (.c (.int .i64 4)) (.c (.int .i64 4))) []),(1,oT 5 28 [28])] (.seq (sR [(0,oP 6 (.mv (.c (.int .i64 0))) [])] (.block 0 (.loop L48_0))) (.seq (sR [(0,oP 10 (.mv (.c
(.int .i64 0))) [])] (.block 6 (.loop L48_1))) (.seq (sR [(0,oP 11 (.mv (.c (.int .i64 0))) [])] (.block 8 (.loop L48_2))) (sR [(0,oP 4 (.mv (.c (.bool true))) [])] .ret)))))))
def C48 : CFn := ⟨150,2,[.t 4],B48⟩
abbrev B57 : CCode := (sR [(0,oP 2 (.al [.nils,.nils]) []),(1,oP 3 (.mv (.c (.nils))) [3]),(2,oP 4 (.al [.int .i64 (0),.nils,.nils]) [])] (sR [(0,oT 9 0 [0]),(1,oP 10 (.call 127 [.t 9]) [9]),(2,oT 8 10 [10]),(3,oP 11
(.ex (.t 8) 0) []),(4,oP 12 (.ex (.t 8) 1) []),(5,oP 13 (.ex (.t 8) 2) [8]),(6,oP 6 (.al [.nils,.nils]) []),(7,oP 7 (.al [.int .i64 (0),.nils,.nils]) []),(8,oT 5 11 [11]),(9,⟨none,.st 2 (.t 6) (.t
12),none,[],[12]⟩),(10,⟨none,.st 3 (.t 7) (.t 13),none,[],[13]⟩)] (.seq (sR [(0,oT 14 5 []),(1,oP 15 (.call 128 [.t 14,(.c (.int .i64 2))]) [14])] (.cond (.t 15) (sK [15] (.seq (.reg true [(0,oP 16 (.ld 2 true (.t 6))
[]),(1,oT 17 5 [5]),(2,oP 18 (.ld 2 true (.t 6)) []),(4,oP 20 (.ld 3 true (.t 7)) []),(3,⟨some 19,.call 129 [.t 17,.t 18],none,[(6,2),(7,3)],[17,18]⟩),(5,⟨none,.st 2 (.t 2) (.t 16),none,[(7,3)],[6,16]⟩),(6,oT 3 19
[19]),(7,⟨none,.st 3 (.t 4) (.t 20),none,[],[7,20]⟩)]) .ret)) (sK [15] .skip))) (.seq (.reg true [(0,oP 21 (.ld 2 true (.t 6)) []),(1,oT 22 5 [5]),(2,oP 23 (.ld 2 true (.t 6)) []),(4,oP 25 (.ld 3 true (.t 7))
[]),(3,⟨some 24,.call 130 [.t 22,.t 23],none,[(6,2),(7,3)],[22,23]⟩),(5,⟨none,.st 2 (.t 2) (.t 21),none,[(7,3)],[6,21]⟩),(6,oT 3 24 [24]),(7,⟨none,.st 3 (.t 4) (.t 25),none,[],[7,25]⟩)]) .ret))))
def C57 : CFn := ⟨26,1,[.m 2 2 true,.t 3,.m 4 3 true],B57⟩
abbrev B58 : CCode := (sR [(0,oP 3 (.box 2 (.t 0)) [0]),(1,oP 5 (.box 3 (.t 2)) [2]),(2,oP 6 (.mv (.c (.bool false))) [6])] (sR [(0,oP 10 (.ld 2 true (.t 3)) []),(1,oT 11 1 [1]),(2,oP 12 (.call 131 [.t 10,.t 11])
[3,10,11]),(3,oT 9 12 [12]),(4,oP 13 (.ex (.t 9) 0) []),(5,oP 14 (.ex (.t 9) 1) [9]),(6,oP 7 (.al [.nils,.nils]) []),(7,⟨none,.st 2 (.t 7) (.t 13),none,[],[13]⟩),(8,oT 8 14 [14])] (sR [(0,oT 15 8 [8]),(1,oT 16 15
[15]),(2,oG 17 (.ld 2 true (.t 7)) 16 true []),(3,oG 18 (.ld 3 true (.t 5)) 16 true []),(4,oG 19 (.call 61 [.t 17,.t 18]) 16 true [5,7,17,18]),(5,oG 20 (.len (.t 19)) 16 true [19]),(6,oG 21 (.bin .gtr (.t 20) (.c (.int
.i64 0))) 16 true [20]),(7,oP 22 (.pick (.t 16) (.t 21) (.c (.bool false))) [16,21]),(8,oT 6 22 [22])] .ret)))
def C58 : CFn := ⟨23,3,[.t 6],B58⟩
abbrev B59 : CCode := (sR [(0,oP 3 (.box 2 (.t 0)) [0]),(1,oP 5 (.box 3 (.t 2)) [2]),(2,oP 6 (.mv (.c (.bool false))) [6])] (sR [(0,oP 10 (.ld 2 true (.t 3)) []),(1,oT 11 1 [1]),(2,oP 12 (.call 60 [.t 10,.t 11])
[3,10,11]),(3,oT 9 12 [12]),(4,oP 13 (.ex (.t 9) 0) []),(5,oP 14 (.ex (.t 9) 1) [9]),(6,oP 7 (.al [.nils,.nils]) []),(7,⟨none,.st 2 (.t 7) (.t 13),none,[],[13]⟩),(8,oT 8 14 [14])] (sR [(0,oT 15 8 [8]),(1,oT 16 15
[15]),(2,oG 17 (.ld 2 true (.t 7)) 16 true []),(3,oG 18 (.ld 3 true (.t 5)) 16 true []),(4,oG 19 (.call 132 [.t 17,.t 18]) 16 true [5,7,17,18]),(5,oG 20 (.len (.t 19)) 16 true [19]),(6,oG 21 (.bin .gtr (.t 20) (.c (.int
.i64 0))) 16 true [20]),(7,oP 22 (.pick (.t 16) (.t 21) (.c (.bool false))) [16,21]),(8,oT 6 22 [22])] .ret)))
def C59 : CFn := ⟨23,3,[.t 6],B59⟩
abbrev L60_0 : CCode := (.seq (sR [(0,oT 24 7 []),(1,oT 25 1 []),(2,oP 26 (.len (.t 25)) [25]),(3,oP 27 (.bin .lss (.t 24) (.t 26)) [24,26])] (.cond (.t 27) (sK [27] .skip) (sK [1,2,7,27] (.exit 0)))) (.seq (.block 1
(.seq (.reg true [(0,oP 30 (.fa 1 (.t 2)) []),(1,oP 31 (.ld 1 false (.t 30)) [30]),(2,oT 32 1 []),(3,oT 33 7 []),(4,oP 34 (.ia 1 (.t 32) (.t 33)) []),(5,oP 35 (.ld 1 false (.t 34)) [32,33,34]),(6,oP 36 (.ia 2 (.t 31)
(.t 35)) [31]),(7,oP 37 (.ld 2 true (.t 36)) [36]),(8,oP 8 (.al [.int .i64 (0),.nils]) []),(9,⟨none,.st 2 (.t 8) (.t 37),none,[],[35,37]⟩)]) (.reg true [(0,oP 38 (.fa 1 (.t 6)) []),(1,oP 39 (.ld 1 false (.t 38))
[]),(2,oP 40 (.fa 0 (.t 8)) []),(3,oP 41 (.ld 1 false (.t 40)) []),(4,oP 42 (.bsl 1 0 [.int .i64 (0)] []) []),(5,oP 43 (.fa 1 (.t 8)) []),(6,oP 44 (.ld 1 false (.t 43)) [43]),(7,⟨some 45,.app 1 8 (.t 42) (.t
44),none,[(38,1),(40,1)],[8,38,40,42,44]⟩),(8,oP 46 (.bld [.int .i64 (0),.nils] [(0,1,(.t 41)),(1,1,(.t 45))]) [41,45]),(9,oP 47 (.bsl 2 1 [.int .i64 (0),.nils] [(0,2,(.t 46))]) [46]),(10,oP 48 (.app 2 32 (.t 39) (.t
47)) [39,47]),(11,oP 49 (.fa 1 (.t 6)) []),(12,⟨none,.st 1 (.t 49) (.t 48),none,[],[48,49]⟩)]))) (.reg false [(0,oT 28 7 [7]),(1,oP 29 (.bin .add (.t 28) (.c (.int .i64 1))) [28]),(2,oT 7 29 [29])])))
abbrev B60 : CCode := (sR [(0,oP 2 (.box 2 (.t 0)) [0]),(1,oP 4 (.al [.nils,.nils]) []),(2,oP 5 (.mv (.c (.bool false))) [5])] (.seq (sR [(0,oP 9 (.ld 2 true (.t 2)) []),(1,oP 10 (.call 73 [.t 9]) [9]),(2,oP 11 (.not
(.t 10)) [10]),(3,oT 12 11 [11]),(4,oG 13 (.ld 2 true (.t 2)) 12 false []),(5,oG 14 (.mv (.t 1)) 12 false []),(6,oG 15 (.call 133 [.t 13,.t 14]) 12 false [13,14]),(7,oG 16 (.not (.t 15)) 12 false [15]),(8,oP 17 (.pick
(.t 12) (.c (.bool true)) (.t 16)) [12,16])] (.cond (.t 17) (sK [1,2,17] (sR [(0,oP 18 (.bld [.nils,.nils] []) []),(1,⟨none,.st 2 (.t 4) (.t 18),none,[],[18]⟩),(2,oP 5 (.mv (.c (.bool false))) [])] .ret)) (sK [17]
.skip))) (sR [(0,oP 19 (.bsl 3 0 [.str [],.int .i64 (0),.int .i64 (0)] []) []),(1,oP 20 (.fa 0 (.t 2)) []),(2,oP 21 (.ld 1 false (.t 20)) [20]),(3,oP 22 (.app 3 32 (.t 19) (.t 21)) [19,21]),(4,oP 23 (.bld [.nils,.nils]
[(0,1,(.t 22))]) [22]),(5,oP 6 (.al [.nils,.nils]) []),(6,⟨none,.st 2 (.t 6) (.t 23),none,[],[23]⟩)] (.seq (sR [(0,oP 7 (.mv (.c (.int .i64 0))) [])] (.block 0 (.loop L60_0))) (sR [(0,oP 50 (.ld 2 true (.t 6))
[]),(1,⟨none,.st 2 (.t 4) (.t 50),none,[],[6,50]⟩),(2,oP 5 (.mv (.c (.bool true))) [])] .ret)))))
def C60 : CFn := ⟨51,2,[.m 4 2 true,.t 5],B60⟩
abbrev B61 : CCode := (sR [(0,oP 2 (.box 2 (.t 0)) [0]),(1,oP 3 (.box 3 (.t 1)) [1]),(2,oP 4 (.mv (.c (.nils))) [4])] (sR [(0,oP 7 (.bsl 2 0 [.nils,.nils] []) []),(1,oP 5 (.al [.nils]) []),(2,⟨none,.st 1 (.t 5) (.t
7),none,[],[7]⟩)] (.seq (sR [(0,oP 8 (.ld 2 true (.t 2)) []),(1,oP 9 (.ld 3 true (.t 3)) []),(2,oP 10 (.call 90 [.t 8,.t 9]) [8,9]),(3,oP 11 (.not (.t 10)) [10])] (.cond (.t 11) (sK [2,3,11] (sR [(0,oP 12 (.ld 1 false
(.t 5)) []),(1,oT 4 12 [12])] .ret)) (sK [11] .skip))) (sR [(0,oP 6 (.al [.nilf]) [])] (sR [(0,oP 13 (.fn 134 [.t 3,.t 5,.t 2,.t 6]) []),(1,⟨none,.st 1 (.t 6) (.t 13),none,[],[13]⟩)] (.seq (.reg true [(0,oP 14 (.ld 1
false (.t 6)) []),(1,oP 15 (.fa 0 (.t 3)) []),(2,oP 16 (.ld 1 false (.t 15)) [15]),(3,⟨some 17,.call 81 [.t 16],none,[(6,1)],[16]⟩),(4,oP 18 (.callv (.t 14) [.t 17,(.c (.nils))]) [2,3,6,14,17,18])]) (sR [(0,oP 19 (.ld 1
false (.t 5)) []),(1,oT 4 19 [19])] .ret)))))))
def C61 : CFn := ⟨20,2,[.t 4],B61⟩
abbrev B62 : CCode := (sR [(0,oP 3 (.box 1 (.t 1)) [1]),(1,oP 4 (.mv (.c (.bool false))) [4])] (sR [(0,oT 5 0 [0]),(1,oP 6 (.fn 138 [.t 3]) []),(2,oP 7 (.call 137 [.t 5,.t 6]) [3,5,6]),(3,oT 4 7 [7])] .ret))
def C62 : CFn := ⟨8,2,[.t 4],B62⟩
abbrev L63_0 : CCode := (sR [(0,oP 14 (.bin .lss (.t 13) (.t 12)) [])] (.seq (.cond (.t 14) (sK [14] .skip) (sK [11,12,13,14] (.exit 0))) (.seq (.block 1 (sR [(0,oP 15 (.ia 2 (.t 11) (.t 13)) []),(1,oP 16 (.ld 2 true
(.t 15)) [15]),(2,oP 7 (.al [.nils,.nils]) []),(3,⟨none,.st 2 (.t 7) (.t 16),none,[],[16]⟩)] (sR [(0,oP 17 (.fa 1 (.t 7)) []),(1,oP 18 (.ld 1 false (.t 17)) [17]),(2,oP 19 (.call 140 [.t 18]) [18,19])] (.reg false
[(0,oT 20 5 [5]),(1,oP 21 (.fa 1 (.t 7)) []),(2,oP 22 (.ld 1 false (.t 21)) [21]),(3,oP 23 (.bsl 1 1 [.nils] [(0,1,(.t 22))]) [7,22]),(4,oP 24 (.app 1 24 (.t 20) (.t 23)) [20,23]),(5,oT 5 24 [24])])))) (.reg false
[(0,oP 25 (.bin .add (.t 13) (.c (.int .i64 1))) [13]),(1,oT 13 25 [25])]))))
abbrev B63 : CCode := (sR [(0,oP 2 (.box 2 (.t 0)) [0]),(1,oP 3 (.box 3 (.t 1)) [1]),(2,oP 4 (.mv (.c (.nils))) [4])] (sR [(0,oP 8 (.bsl 1 0 [.nils] []) []),(1,oT 5 8 [8])] (.seq (sR [(0,oP 9 (.ld 2 true (.t 2))
[]),(1,oP 10 (.ld 3 true (.t 3)) []),(2,oP 11 (.call 61 [.t 9,.t 10]) [2,3,9,10]),(3,oP 12 (.len (.t 11)) []),(4,oP 13 (.mv (.c (.int .i64 0))) [])] (.block 0 (.loop L63_0))) (sR [(0,oT 26 5 [5]),(1,oT 4 26 [26])]
.ret))))
def C63 : CFn := ⟨27,2,[.t 4],B63⟩
abbrev L73_0 : CCode := (.seq (sR [(0,oT 4 3 []),(1,oP 5 (.fa 1 (.t 1)) []),(2,oP 6 (.ld 1 false (.t 5)) [5]),(3,oP 7 (.len (.t 6)) [6]),(4,oP 8 (.bin .lss (.t 4) (.t 7)) [4,7])] (.cond (.t 8) (sK [8] .skip) (sK [3,8]
(.exit 0)))) (.seq (.block 1 (.seq (.reg true [(0,oP 11 (.fa 0 (.t 1)) []),(1,oP 12 (.ld 1 false (.t 11)) [11]),(2,oP 13 (.fa 1 (.t 1)) []),(3,oP 14 (.ld 1 false (.t 13)) [13]),(4,oT 15 3 []),(5,oP 16 (.ia 2 (.t 14) (.t
15)) [14]),(6,oP 17 (.ld 2 true (.t 16)) [16]),(7,oP 18 (.call 150 [.t 12,.t 17]) [12,15,17]),(8,oP 19 (.not (.t 18)) [18]),(9,oT 20 19 [19]),(10,oG 21 (.mv (.t 3)) 20 false []),(11,oG 22 (.bin .gtr (.t 21) (.c (.int
.i64 0))) 20 false [21]),(12,oG 23 (.mv (.t 22)) 20 false [22]),(13,oG 24 (.fa 1 (.t 1)) 23 true []),(14,oG 25 (.ld 1 false (.t 24)) 23 true [24]),(15,oG 26 (.mv (.t 3)) 23 true []),(16,oG 27 (.bin .sub (.t 26) (.c
(.int .i64 1))) 23 true [26]),(17,oG 28 (.ia 2 (.t 25) (.t 27)) 23 true [25]),(18,oG 29 (.ld 2 true (.t 28)) 23 true [28]),(19,oG 30 (.fa 1 (.t 1)) 23 true []),(20,oG 31 (.ld 1 false (.t 30)) 23 true [30]),(21,oG 32
(.mv (.t 3)) 23 true []),(22,oG 33 (.ia 2 (.t 31) (.t 32)) 23 true [31]),(23,oG 34 (.ld 2 true (.t 33)) 23 true [33]),(24,oG 35 (.call 151 [.t 29,.t 34]) 23 true [27,29,32,34]),(25,oG 36 (.bin .geq (.t 35) (.c (.int
.i64 0))) 23 true [35]),(26,oG 37 (.pick (.t 23) (.t 36) (.c (.bool false))) 20 false [23,36]),(27,oP 38 (.pick (.t 20) (.c (.bool true)) (.t 37)) [20,37])]) (.cond (.t 38) (sK [1,3,38] (sR [(0,oP 2 (.mv (.c (.bool
false))) [])] .ret)) (sK [38] .skip)))) (.reg false [(0,oT 9 3 [3]),(1,oP 10 (.bin .add (.t 9) (.c (.int .i64 1))) [9]),(2,oT 3 10 [10])])))
abbrev B73 : CCode := (sR [(0,oP 1 (.box 2 (.t 0)) [0]),(1,oP 2 (.mv (.c (.bool false))) [2])] (.seq (sR [(0,oP 3 (.mv (.c (.int .i64 0))) [])] (.block 0 (.loop L73_0))) (sR [(0,oP 39 (.fa 0 (.t 1)) []),(1,oP 40 (.ld 1
false (.t 39)) [39]),(2,oP 41 (.call 117 [.t 40]) [40]),(3,oT 42 41 [41]),(4,oG 43 (.fa 1 (.t 1)) 42 true []),(5,oG 44 (.ld 1 false (.t 43)) 42 true [43]),(6,oG 45 (.len (.t 44)) 42 true [1,44]),(7,oG 46 (.bin .leq (.t
45) (.c (.int .i64 14))) 42 true [45]),(8,oP 47 (.pick (.t 42) (.t 46) (.c (.bool false))) [42,46]),(9,oT 2 47 [47])] .ret)))
def C73 : CFn := ⟨48,1,[.t 2],B73⟩
abbrev L75_0 : CCode := (.seq (sR [(0,oT 5 3 []),(1,oP 6 (.len (.t 5)) [5]),(2,oT 7 0 []),(3,oP 8 (.bin .lss (.t 6) (.t 7)) [6,7])] (.cond (.t 8) (sK [8] .skip) (sK [0,8] (.exit 0)))) (.block 1 (.reg false [(0,oT 9 3
[3]),(1,oP 10 (.bsl 1 1 [.int .i64 (0)] [(0,1,(.c (.int .i64 (-1))))]) []),(2,oP 11 (.app 1 8 (.t 9) (.t 10)) [9,10]),(3,oT 3 11 [11])])))
abbrev B75 : CCode := (sR [(0,oP 2 (.mv (.c (.nils))) [2])] (sR [(0,oP 4 (.bsl 1 0 [.int .i64 (0)] []) []),(1,oT 3 4 [4])] (.seq (.block 0 (.loop L75_0)) (sR [(0,oT 12 3 [3]),(1,oT 2 12 [12])] .ret))))
def C75 : CFn := ⟨13,1,[.t 2],B75⟩
abbrev L79_0 : CCode := (sR [(0,oP 19 (.bin .lss (.t 18) (.t 17)) [])] (.seq (.cond (.t 19) (sK [19] .skip) (sK [1,16,17,18,19] (.exit 0))) (.seq (.block 1 (sR [(0,oT 20 18 []),(1,oP 21 (.ia 2 (.t 16) (.t 18)) []),(2,oP
22 (.ld 2 true (.t 21)) [21]),(3,oP 4 (.al [.int .i64 (0),.nils]) []),(4,oT 3 20 [20]),(5,⟨none,.st 2 (.t 4) (.t 22),none,[],[22]⟩)] (.seq (.reg true [(0,oP 23 (.fa 0 (.t 1)) []),(1,oP 24 (.ld 1 false (.t 23))
[23]),(2,oP 25 (.ld 2 true (.t 4)) []),(3,oP 26 (.call 157 [.t 24,.t 25]) [24,25]),(4,oP 27 (.not (.t 26)) [26]),(5,oT 28 27 [27]),(6,oG 29 (.mv (.t 3)) 28 false []),(7,oG 30 (.bin .gtr (.t 29) (.c (.int .i64 0))) 28
false [29]),(8,oG 31 (.mv (.t 30)) 28 false [30]),(9,oG 32 (.fa 1 (.t 1)) 31 true []),(10,oG 33 (.ld 1 false (.t 32)) 31 true [32]),(11,oG 34 (.mv (.t 3)) 31 true [3]),(12,oG 35 (.bin .sub (.t 34) (.c (.int .i64 1))) 31
true [34]),(13,oG 36 (.ia 2 (.t 33) (.t 35)) 31 true [33]),(14,oG 37 (.ld 2 true (.t 36)) 31 true [36]),(15,oG 38 (.ld 2 true (.t 4)) 31 true []),(16,oG 39 (.call 158 [.t 37,.t 38]) 31 true [4,35,37,38]),(17,oG 40 (.bin
.geq (.t 39) (.c (.int .i64 0))) 31 true [39]),(18,oG 41 (.pick (.t 31) (.t 40) (.c (.bool false))) 28 false [31,40]),(19,oP 42 (.pick (.t 28) (.c (.bool true)) (.t 41)) [28,41])]) (.cond (.t 42) (sK [1,16,17,18,42] (sR
[(0,oP 2 (.mv (.c (.bool false))) [])] .ret)) (sK [42] .skip))))) (.reg false [(0,oP 43 (.bin .add (.t 18) (.c (.int .i64 1))) [18]),(1,oT 18 43 [43])]))))
abbrev B79 : CCode := (sR [(0,oP 1 (.box 2 (.t 0)) [0]),(1,oP 2 (.mv (.c (.bool false))) [2])] (.seq (sR [(0,oP 5 (.fa 0 (.t 1)) []),(1,oP 6 (.ld 1 false (.t 5)) [5]),(2,oP 7 (.call 156 [.t 6]) [6]),(3,oP 8 (.not (.t
7)) [7]),(4,oT 9 8 [8]),(5,oG 10 (.fa 1 (.t 1)) 9 false []),(6,oG 11 (.ld 1 false (.t 10)) 9 false [10]),(7,oG 12 (.len (.t 11)) 9 false [11]),(8,oG 13 (.bin .gtr (.t 12) (.c (.int .i64 14))) 9 false [12]),(9,oP 14
(.pick (.t 9) (.c (.bool true)) (.t 13)) [9,13])] (.cond (.t 14) (sK [1,14] (sR [(0,oP 2 (.mv (.c (.bool false))) [])] .ret)) (sK [14] .skip))) (.seq (sR [(0,oP 15 (.fa 1 (.t 1)) []),(1,oP 16 (.ld 1 false (.t 15))
[15]),(2,oP 17 (.len (.t 16)) []),(3,oP 18 (.mv (.c (.int .i64 0))) [])] (.block 0 (.loop L79_0))) (sR [(0,oP 2 (.mv (.c (.bool true))) [])] .ret))))
def C79 : CFn := ⟨44,1,[.t 2],B79⟩
abbrev B81 : CCode := (sR [(0,oP 2 (.mv (.c (.nils))) [2])] (sR [(0,oP 3 (.bsl 1 1 [.int .i64 (0)] [(0,1,(.c (.int .i64 (-1))))]) []),(1,oT 4 0 [0]),(2,oP 5 (.call 161 [.t 3,.t 4]) [3,4]),(3,oT 2 5 [5])] .ret))
def C81 : CFn := ⟨6,1,[.t 2],B81⟩
abbrev B88 : CCode := (sR [(0,oP 2 (.box 2 (.t 0)) [0]),(1,oP 3 (.box 3 (.t 1)) [1]),(2,oP 4 (.mv (.c (.bool false))) [4])] (sR [(0,oP 5 (.ld 2 true (.t 2)) []),(1,oP 6 (.call 73 [.t 5]) [5]),(2,oT 7 6 [6]),(3,oG 8 (.fa
0 (.t 2)) 7 true []),(4,oG 9 (.ld 1 false (.t 8)) 7 true [8]),(5,oG 10 (.ld 3 true (.t 3)) 7 true []),(6,oG 11 (.call 48 [.t 9,.t 10]) 7 true [2,3,9,10]),(7,oP 12 (.pick (.t 7) (.t 11) (.c (.bool false))) [7,11]),(8,oT
4 12 [12])] .ret))
def C88 : CFn := ⟨13,2,[.t 4],B88⟩
abbrev B90 : CCode := (sR [(0,oP 2 (.box 2 (.t 0)) [0]),(1,oP 3 (.box 3 (.t 1)) [1]),(2,oP 4 (.mv (.c (.bool false))) [4])] (sR [(0,oP 5 (.ld 2 true (.t 2)) []),(1,oP 6 (.call 79 [.t 5]) [5]),(2,oT 7 6 [6]),(3,oG 8 (.fa
0 (.t 2)) 7 true []),(4,oG 9 (.ld 1 false (.t 8)) 7 true [8]),(5,oG 10 (.ld 3 true (.t 3)) 7 true []),(6,oG 11 (.call 111 [.t 9,.t 10]) 7 true [2,3,9,10]),(7,oP 12 (.pick (.t 7) (.t 11) (.c (.bool false))) [7,11]),(8,oT
4 12 [12])] .ret))
def C90 : CFn := ⟨13,2,[.t 4],B90⟩
abbrev L93_0 : CCode := (.seq (sR [(0,oT 12 4 []),(1,oP 13 (.fa 1 (.t 1)) []),(2,oP 14 (.ld 1 false (.t 13)) [13]),(3,oP 15 (.len (.t 14)) [14]),(4,oP 16 (.bin .lss (.t 12) (.t 15)) [12,15])] (.cond (.t 16) (sK [16]
.skip) (sK [1,4,16] (.exit 0)))) (.seq (.block 1 (.reg true [(0,oP 19 (.fa 1 (.t 3)) []),(1,oP 20 (.ld 1 false (.t 19)) []),(2,oP 21 (.fa 1 (.t 1)) []),(3,oP 22 (.ld 1 false (.t 21)) []),(4,oT 23 4 []),(5,oP 24 (.ia 2
(.t 22) (.t 23)) [22]),(6,oP 25 (.fa 0 (.t 24)) [24]),(7,oP 26 (.ld 1 false (.t 25)) []),(8,oP 27 (.bsl 1 0 [.int .i64 (0)] []) []),(9,oP 28 (.fa 1 (.t 1)) []),(10,oP 29 (.ld 1 false (.t 28)) [28]),(11,oT 30 4
[]),(12,oP 31 (.ia 2 (.t 29) (.t 30)) [29]),(13,oP 32 (.fa 1 (.t 31)) [31]),(14,oP 33 (.ld 1 false (.t 32)) [32]),(15,⟨some 34,.app 1 8 (.t 27) (.t 33),none,[(19,1),(21,1),(25,1)],[19,21,23,25,27,30,33]⟩),(16,oP 35
(.bld [.int .i64 (0),.nils] [(0,1,(.t 26)),(1,1,(.t 34))]) [26,34]),(17,oP 36 (.bsl 2 1 [.int .i64 (0),.nils] [(0,2,(.t 35))]) [35]),(18,oP 37 (.app 2 32 (.t 20) (.t 36)) [20,36]),(19,oP 38 (.fa 1 (.t 3))
[]),(20,⟨none,.st 1 (.t 38) (.t 37),none,[],[37,38]⟩)])) (.reg false [(0,oT 17 4 [4]),(1,oP 18 (.bin .add (.t 17) (.c (.int .i64 1))) [17]),(2,oT 4 18 [18])])))
abbrev B93 : CCode := (sR [(0,oP 1 (.box 3 (.t 0)) [0]),(1,oP 2 (.al [.int .i64 (0),.nils,.nils]) [])] (.seq (.reg true [(0,oP 5 (.fa 0 (.t 1)) []),(1,oP 6 (.ld 1 false (.t 5)) []),(2,oP 7 (.bsl 1 0 [.int .i64 (0)] [])
[]),(3,oP 8 (.fa 2 (.t 1)) []),(4,oP 9 (.ld 1 false (.t 8)) [8]),(7,oP 3 (.al [.int .i64 (0),.nils,.nils]) []),(5,⟨some 10,.app 1 8 (.t 7) (.t 9),none,[(5,1)],[5,7,9]⟩),(6,oP 11 (.bld [.int .i64 (0),.nils,.nils]
[(0,1,(.t 6)),(2,1,(.t 10))]) [6,10]),(8,⟨none,.st 3 (.t 3) (.t 11),none,[],[11]⟩)]) (.seq (sR [(0,oP 4 (.mv (.c (.int .i64 0))) [])] (.block 0 (.loop L93_0))) (sR [(0,oP 39 (.ld 3 true (.t 3)) []),(1,⟨none,.st 3 (.t 2)
(.t 39),none,[],[3,39]⟩)] .ret))))
def C93 : CFn := ⟨40,1,[.m 2 3 true],B93⟩
abbrev L102_0 : CCode := (sR [(0,oP 11 (.bin .lss (.t 10) (.t 9)) [])] (.seq (.cond (.t 11) (sK [11] .skip) (sK [1,8,9,10,11] (.exit 0))) (.seq (.block 1 (sR [(0,oP 12 (.ia 1 (.t 8) (.t 10)) []),(1,oP 13 (.ld 1 false
(.t 12)) [12]),(2,oT 5 13 [13])] (sR [(0,oT 14 5 []),(1,oP 15 (.call 122 [.t 14,(.c (.int .i64 0)),(.c (.int .i64 3))]) [14])] (.cond (.t 15) (sK [15] (.reg false [(0,oT 16 3 [3]),(1,oT 17 5 [5]),(2,oP 18 (.bsl 1 1
[.int .i64 (0)] [(0,1,(.t 17))]) [17]),(3,oP 19 (.app 1 8 (.t 16) (.t 18)) [16,18]),(4,oT 3 19 [19])])) (sK [5,15] .skip))))) (.reg false [(0,oP 20 (.bin .add (.t 10) (.c (.int .i64 1))) [10]),(1,oT 10 20 [20])]))))
abbrev B102 : CCode := (sR [(0,oP 1 (.box 2 (.t 0)) [0]),(1,oP 2 (.mv (.c (.nils))) [2])] (sR [(0,oP 6 (.bsl 1 0 [.int .i64 (0)] []) []),(1,oT 3 6 [6])] (.seq (sR [(0,oP 7 (.fa 1 (.t 1)) []),(1,oP 8 (.ld 1 false (.t 7))
[7]),(2,oP 9 (.len (.t 8)) []),(3,oP 10 (.mv (.c (.int .i64 0))) [])] (.block 0 (.loop L102_0))) (sR [(0,oT 21 3 [3]),(1,oP 22 (.call 104 [.t 21,(.c (.nils))]) [21]),(2,oT 2 22 [22])] .ret))))
def C102 : CFn := ⟨23,1,[.t 2],B102⟩
abbrev B104 : CCode := (sR [(0,oP 4 (.mv (.c (.nils))) [4])] (sR [(0,oT 6 0 [0]),(1,oT 7 1 [1]),(2,oP 8 (.bsl 1 2 [.nils] [(0,1,(.t 6)),(1,1,(.t 7))]) [6,7]),(3,oP 9 (.call 169 [.t 8]) [8]),(4,oT 5 9 [9])] (sR [(0,oT 10
5 []),(1,oP 11 (.call 140 [.t 10]) [10,11])] (sR [(0,oT 12 5 [5]),(1,oP 13 (.call 170 [.t 12]) [12]),(2,oT 4 13 [13])] .ret))))
def C104 : CFn := ⟨14,2,[.t 4],B104⟩
abbrev L111_1 : CCode := (sR [(0,oP 74 (.bin .lss (.t 73) (.t 72)) [])] (.seq (.cond (.t 74) (sK [74] .skip) (sK [71,72,73,74] (.exit 2))) (.seq (.block 3 (sR [(0,oP 75 (.ia 1 (.t 71) (.t 73)) []),(1,oP 76 (.ld 1 false
(.t 75)) [75]),(2,oT 9 76 [76])] (sR [(0,oT 77 9 [9]),(1,oP 78 (.fa 0 (.t 3)) []),(2,oP 79 (.ld 1 false (.t 78)) [78]),(3,oP 80 (.bin .sub (.t 79) (.c (.int .i64 1))) [79]),(4,oP 81 (.call 122 [.t 77,(.c (.int .i64
(-10))),.t 80]) [77,80]),(5,oP 82 (.not (.t 81)) [81])] (.cond (.t 82) (sK [0,3,5,7,36,37,38,71,72,73,82] (sR [(0,oP 4 (.mv (.c (.bool false))) [])] .ret)) (sK [82] .skip))))) (.reg false [(0,oP 83 (.bin .add (.t 73)
(.c (.int .i64 1))) [73]),(1,oT 73 83 [83])]))))
abbrev L111_0 : CCode := (sR [(0,oP 39 (.bin .lss (.t 38) (.t 37)) [])] (.seq (.cond (.t 39) (sK [39] .skip) (sK [0,36,37,38,39] (.exit 0))) (.seq (.block 1 (sR [(0,oT 40 38 []),(1,oP 41 (.ia 2 (.t 36) (.t 38))
[]),(2,oP 42 (.ld 2 true (.t 41)) [41]),(3,oP 7 (.al [.int .i64 (0),.nils]) []),(4,oT 6 40 [40]),(5,⟨none,.st 2 (.t 7) (.t 42),none,[],[42]⟩)] (.seq (.seq (.reg true [(0,oP 43 (.fa 0 (.t 7)) []),(1,oP 44 (.ld 1 false
(.t 43)) [43]),(2,oT 45 0 []),(3,oP 46 (.len (.t 45)) [45]),(4,oP 47 (.bin .sub (.t 46) (.c (.int .i64 1))) [46]),(5,oP 48 (.call 122 [.t 44,(.c (.int .i64 0)),.t 47]) [44,47]),(6,oP 49 (.not (.t 48)) [48]),(7,oT 50 49
[49]),(8,oG 51 (.fa 1 (.t 7)) 50 false []),(9,oG 52 (.ld 1 false (.t 51)) 50 false [51]),(10,oG 53 (.len (.t 52)) 50 false [52]),(11,oG 54 (.mv (.t 0)) 50 false []),(12,oG 55 (.fa 0 (.t 7)) 50 false []),(13,oG 56 (.ld 1
false (.t 55)) 50 false [55]),(14,oG 57 (.ia 3 (.t 54) (.t 56)) 50 false []),(15,oG 58 (.fa 1 (.t 57)) 50 false [57]),(16,oG 59 (.ld 1 false (.t 58)) 50 false [54,56,58]),(17,oG 60 (.bin .neq (.t 53) (.t 59)) 50 false
[53,59]),(18,oP 61 (.pick (.t 50) (.c (.bool true)) (.t 60)) [50,60]),(19,oT 62 61 [61]),(20,oG 63 (.fa 1 (.t 3)) 62 false []),(21,oG 64 (.ld 1 false (.t 63)) 62 false [63]),(22,oG 65 (.mv (.t 6)) 62 false [6]),(23,oG
66 (.sls 2 (.t 64) none (some (.t 65)) none) 62 false [64,65]),(24,oG 67 (.fn 174 [.t 7]) 62 false []),(25,oG 68 (.call 173 [.t 66,.t 67]) 62 false [66,67]),(26,oP 69 (.pick (.t 62) (.c (.bool true)) (.t 68)) [62,68])])
(.cond (.t 69) (sK [0,3,5,7,36,37,38,69] (sR [(0,oP 4 (.mv (.c (.bool false))) [])] .ret)) (sK [69] .skip))) (.seq (sR [(0,oP 70 (.fa 1 (.t 7)) []),(1,oP 71 (.ld 1 false (.t 70)) [70]),(2,oP 72 (.len (.t 71)) []),(3,oP
73 (.mv (.c (.int .i64 0))) [])] (.block 2 (.loop L111_1))) (.reg false [(0,oT 84 5 [5]),(1,oP 85 (.ld 2 true (.t 7)) []),(2,oP 86 (.call 102 [.t 85]) [7,85]),(3,oP 87 (.call 104 [.t 84,.t 86]) [84,86]),(4,oT 5 87
[87])]))))) (.reg false [(0,oP 88 (.bin .add (.t 38) (.c (.int .i64 1))) [38]),(1,oT 38 88 [88])]))))
abbrev B111 : CCode := (sR [(0,oP 3 (.box 3 (.t 1)) [1]),(1,oP 4 (.mv (.c (.bool false))) [4])] (.seq (sR [(0,oT 10 0 []),(1,oP 11 (.call 156 [.t 10]) [10]),(2,oP 12 (.not (.t 11)) [11]),(3,oT 13 12 [12]),(4,oG 14 (.fa
0 (.t 3)) 13 false []),(5,oG 15 (.ld 1 false (.t 14)) 13 false [14]),(6,oG 16 (.call 122 [.t 15,(.c (.int .i64 0)),(.c (.int .i64 4))]) 13 false [15]),(7,oG 17 (.not (.t 16)) 13 false [16]),(8,oP 18 (.pick (.t 13) (.c
(.bool true)) (.t 17)) [13,17]),(9,oT 19 18 [18]),(10,oG 20 (.fa 1 (.t 3)) 19 false []),(11,oG 21 (.ld 1 false (.t 20)) 19 false [20]),(12,oG 22 (.len (.t 21)) 19 false [21]),(13,oG 23 (.call 122 [.t 22,(.c (.int .i64
1)),(.c (.int .i64 3))]) 19 false [22]),(14,oG 24 (.not (.t 23)) 19 false [23]),(15,oP 25 (.pick (.t 19) (.c (.bool true)) (.t 24)) [19,24]),(16,oT 26 25 [25]),(17,oG 27 (.fa 2 (.t 3)) 26 false []),(18,oG 28 (.ld 1
false (.t 27)) 26 false [27]),(19,oG 29 (.fa 0 (.t 3)) 26 false []),(20,oG 30 (.ld 1 false (.t 29)) 26 false [29]),(21,oG 31 (.call 172 [.t 28,.t 30]) 26 false [28,30]),(22,oG 32 (.not (.t 31)) 26 false [31]),(23,oP 33
(.pick (.t 26) (.c (.bool true)) (.t 32)) [26,32])] (.cond (.t 33) (sK [0,3,33] (sR [(0,oP 4 (.mv (.c (.bool false))) [])] .ret)) (sK [33] .skip))) (sR [(0,oP 34 (.bsl 1 0 [.int .i64 (0)] []) []),(1,oT 5 34 [34])] (.seq
(sR [(0,oP 35 (.fa 1 (.t 3)) []),(1,oP 36 (.ld 1 false (.t 35)) [35]),(2,oP 37 (.len (.t 36)) []),(3,oP 38 (.mv (.c (.int .i64 0))) [])] (.block 0 (.loop L111_0))) (sR [(0,oT 89 5 [5]),(1,oP 90 (.len (.t 89))
[89]),(2,oP 91 (.fa 0 (.t 3)) []),(3,oP 92 (.ld 1 false (.t 91)) [3,91]),(4,oP 93 (.bin .eql (.t 90) (.t 92)) [90,92]),(5,oT 4 93 [93])] .ret)))))
def C111 : CFn := ⟨94,2,[.t 4],B111⟩
abbrev L117_0 : CCode := (.seq (sR [(0,oT 4 3 []),(1,oT 5 0 []),(2,oP 6 (.len (.t 5)) [5]),(3,oP 7 (.bin .lss (.t 4) (.t 6)) [4,6])] (.cond (.t 7) (sK [7] .skip) (sK [3,7] (.exit 0)))) (.seq (.block 1 (.seq (.reg true
[(0,oT 10 0 []),(1,oT 11 3 []),(2,oP 12 (.ia 3 (.t 10) (.t 11)) []),(3,oP 13 (.ld 3 true (.t 12)) [12]),(4,oP 14 (.call 179 [.t 13]) [10,11,13]),(5,oP 15 (.not (.t 14)) [14]),(6,oT 16 15 [15]),(7,oG 17 (.mv (.t 3)) 16
false []),(8,oG 18 (.bin .gtr (.t 17) (.c (.int .i64 0))) 16 false [17]),(9,oG 19 (.mv (.t 18)) 16 false [18]),(10,oG 20 (.mv (.t 0)) 19 true []),(11,oG 21 (.mv (.t 3)) 19 true []),(12,oG 22 (.bin .sub (.t 21) (.c (.int
.i64 1))) 19 true [21]),(13,oG 23 (.ia 3 (.t 20) (.t 22)) 19 true []),(14,oG 24 (.fa 0 (.t 23)) 19 true [23]),(15,oG 25 (.ld 1 false (.t 24)) 19 true [20,22,24]),(16,oG 26 (.mv (.t 0)) 19 true []),(17,oG 27 (.mv (.t 3))
19 true []),(18,oG 28 (.ia 3 (.t 26) (.t 27)) 19 true []),(19,oG 29 (.fa 0 (.t 28)) 19 true [28]),(20,oG 30 (.ld 1 false (.t 29)) 19 true [26,27,29]),(21,oG 31 (.bin .geq (.t 25) (.t 30)) 19 true [25,30]),(22,oG 32
(.pick (.t 19) (.t 31) (.c (.bool false))) 16 false [19,31]),(23,oP 33 (.pick (.t 16) (.c (.bool true)) (.t 32)) [16,32])]) (.cond (.t 33) (sK [0,3,33] (sR [(0,oP 2 (.mv (.c (.bool false))) [])] .ret)) (sK [33]
.skip)))) (.reg false [(0,oT 8 3 [3]),(1,oP 9 (.bin .add (.t 8) (.c (.int .i64 1))) [8]),(2,oT 3 9 [9])])))
abbrev B117 : CCode := (sR [(0,oP 2 (.mv (.c (.bool false))) [2])] (.seq (sR [(0,oP 3 (.mv (.c (.int .i64 0))) [])] (.block 0 (.loop L117_0))) (sR [(0,oT 34 0 [0]),(1,oP 35 (.len (.t 34)) [34]),(2,oP 36 (.bin .leq (.t
35) (.c (.int .i64 4))) [35]),(3,oT 2 36 [36])] .ret)))
def C117 : CFn := ⟨37,1,[.t 2],B117⟩
abbrev B118 : CCode := (sR [(0,oP 6 (.mv (.c (.bool false))) [6])] (sR [(0,oT 7 0 []),(1,oT 8 1 [1]),(2,oP 9 (.bin .geq (.t 7) (.t 8)) [7,8]),(3,oT 10 9 [9]),(4,oG 11 (.mv (.t 0)) 10 true [0]),(5,oG 12 (.mv (.t 2)) 10
true [2]),(6,oG 13 (.bin .leq (.t 11) (.t 12)) 10 true [11,12]),(7,oP 14 (.pick (.t 10) (.t 13) (.c (.bool false))) [10,13]),(8,oT 6 14 [14])] .ret))
def C118 : CFn := ⟨15,3,[.t 6],B118⟩
abbrev B122 : CCode := (sR [(0,oP 6 (.mv (.c (.bool false))) [6])] (sR [(0,oT 7 1 [1]),(1,oT 8 0 []),(2,oP 9 (.bin .leq (.t 7) (.t 8)) [7,8]),(3,oT 10 9 [9]),(4,oG 11 (.mv (.t 0)) 10 true [0]),(5,oG 12 (.mv (.t 2)) 10
true [2]),(6,oG 13 (.bin .leq (.t 11) (.t 12)) 10 true [11,12]),(7,oP 14 (.pick (.t 10) (.t 13) (.c (.bool false))) [10,13]),(8,oT 6 14 [14])] .ret))
def C122 : CFn := ⟨15,3,[.t 6],B122⟩
abbrev B125 : CCode := (sR [(0,oP 4 (.mv (.c (.bool false))) [4])] (sR [(0,oT 5 0 [0]),(1,oT 6 1 [1]),(2,oP 7 (.call 182 [.t 5,.t 6]) [5,6]),(3,oP 8 (.bin .geq (.t 7) (.c (.int .i64 0))) [7]),(4,oT 4 8 [8])] .ret))
def C125 : CFn := ⟨9,2,[.t 4],B125⟩
abbrev B127 : CCode := (sR [(0,oP 2 (.mv (.c (.nilp))) [2]),(1,oP 3 (.al [.nils,.nils]) []),(2,oP 4 (.al [.int .i64 (0),.nils,.nils]) [])] (sR [(0,oT 8 0 [0]),(1,oP 9 (.call 183 [.t 8]) [8]),(2,oT 5 9 [9])] (sR [(0,oT
10 5 []),(1,oP 11 (.call 184 [.t 10]) [10]),(2,oP 6 (.al [.nils,.nils]) []),(3,⟨none,.st 2 (.t 6) (.t 11),none,[],[11]⟩)] (sR [(0,oT 12 5 []),(1,oP 13 (.fa 0 (.t 6)) []),(2,oP 14 (.ld 1 false (.t 13)) [13]),(3,oP 15
(.call 185 [.t 12,.t 14]) [12,14]),(4,oP 7 (.al [.int .i64 (0),.nils,.nils]) []),(5,⟨none,.st 3 (.t 7) (.t 15),none,[],[15]⟩)] (.seq (sR [(0,oT 16 5 []),(1,oP 17 (.call 186 [.t 16,(.c (.int .i64 20))]) [16])] (.block 0
(sR [(0,oP 19 (.bin .eql (.t 17) (.c (.int .i64 0))) []),(1,oT 18 19 [19])] (.cond (.t 18) (sK [17,18] (.reg false [(0,oT 20 5 []),(1,oP 21 (.call 187 [.t 20]) [20]),(2,⟨none,.st 2 (.t 6) (.t 21),none,[],[21]⟩)])) (sK
[18] (sR [(0,oP 23 (.bin .eql (.t 17) (.c (.int .i64 1))) [17]),(1,oT 22 23 [23])] (.cond (.t 22) (sK [22] (.reg false [(0,oT 24 5 []),(1,oP 25 (.fa 0 (.t 6)) []),(2,oP 26 (.ld 1 false (.t 25)) [25]),(3,oP 27 (.call 188
[.t 24,.t 26]) [24,26]),(4,⟨none,.st 3 (.t 7) (.t 27),none,[],[27]⟩)])) (sK [22] .skip)))))))) (.seq (.reg true [(0,oT 28 5 [5]),(1,oP 29 (.ld 2 true (.t 6)) []),(2,oP 30 (.ld 3 true (.t 7)) []),(3,oT 2 28
[28]),(4,⟨none,.st 2 (.t 3) (.t 29),none,[(7,3)],[6,29]⟩),(5,⟨none,.st 3 (.t 4) (.t 30),none,[],[7,30]⟩)]) .ret))))))
def C127 : CFn := ⟨31,1,[.t 2,.m 3 2 true,.m 4 3 true],B127⟩
abbrev B128 : CCode := (sR [(0,oP 4 (.mv (.c (.bool false))) [4])] (sR [(0,oT 5 0 []),(1,oT 6 1 [1]),(2,oP 7 (.call 186 [.t 5,.t 6]) [5,6]),(3,oP 8 (.bin .eql (.t 7) (.c (.int .i64 0))) [7]),(4,oT 4 8 [8])] .ret))
def C128 : CFn := ⟨9,2,[.t 4],B128⟩
abbrev L129_0 : CCode := (.seq (sR [(0,oT 16 7 []),(1,oT 17 5 []),(2,oP 18 (.len (.t 17)) [17]),(3,oP 19 (.bin .lss (.t 16) (.t 18)) [16,18])] (.cond (.t 19) (sK [19] .skip) (sK [5,7,19] (.exit 0)))) (.seq (.block 1
(.reg true [(0,oT 22 6 []),(1,oT 23 5 []),(2,oT 24 7 []),(3,oP 25 (.ia 1 (.t 23) (.t 24)) []),(4,oP 26 (.ld 1 false (.t 25)) []),(5,oT 27 0 []),(6,oT 28 5 []),(7,oT 29 7 []),(8,oP 30 (.ia 1 (.t 28) (.t 29)) []),(9,oP 31
(.ld 1 false (.t 30)) [30]),(10,oP 32 (.len (.t 31)) [28,29,31]),(11,⟨some 33,.call 186 [.t 27,.t 32],none,[(25,1)],[25,27,32]⟩),(12,oP 34 (.ia 1 (.t 26) (.t 33)) [26]),(13,oP 35 (.ld 1 false (.t 34))
[23,24,33,34]),(14,oP 36 (.ia 1 (.t 22) (.t 35)) []),(15,⟨none,.st 1 (.t 36) (.c (.bool true)),none,[],[22,35,36]⟩)])) (.reg false [(0,oT 20 7 [7]),(1,oP 21 (.bin .add (.t 20) (.c (.int .i64 1))) [20]),(2,oT 7 21
[21])])))
abbrev L129_1 : CCode := (.seq (sR [(0,oT 38 9 []),(1,oT 39 6 []),(2,oP 40 (.len (.t 39)) [39]),(3,oP 41 (.bin .lss (.t 38) (.t 40)) [38,40])] (.cond (.t 41) (sK [41] .skip) (sK [6,9,41] (.exit 2)))) (.seq (.block 3 (sR
[(0,oT 44 6 []),(1,oT 45 9 []),(2,oP 46 (.ia 1 (.t 44) (.t 45)) []),(3,oP 47 (.ld 1 false (.t 46)) [44,45,46])] (.cond (.t 47) (sK [47] (.reg false [(0,oT 48 8 [8]),(1,oT 49 9 []),(2,oP 50 (.bsl 1 1 [.int .i64 (0)]
[(0,1,(.t 49))]) [49]),(3,oP 51 (.app 1 8 (.t 48) (.t 50)) [48,50]),(4,oT 8 51 [51])])) (sK [47] .skip)))) (.reg false [(0,oT 42 9 [9]),(1,oP 43 (.bin .add (.t 42) (.c (.int .i64 1))) [42]),(2,oT 9 43 [43])])))
abbrev B129 : CCode := (sR [(0,oP 3 (.box 2 (.t 1)) [1]),(1,oP 4 (.mv (.c (.nils))) [4])] (sR [(0,oP 10 (.ld 2 true (.t 3)) []),(1,oP 11 (.call 141 [.t 10]) [10]),(2,oT 5 11 [11])] (sR [(0,oP 12 (.fa 1 (.t 3)) []),(1,oP
13 (.ld 1 false (.t 12)) [12]),(2,oP 14 (.len (.t 13)) [3,13]),(3,oP 15 (.mk 1 1 [.bool false] (.t 14) (.t 14)) [14]),(4,oT 6 15 [15])] (.seq (sR [(0,oP 7 (.mv (.c (.int .i64 0))) [])] (.block 0 (.loop L129_0))) (sR
[(0,oP 37 (.bsl 1 0 [.int .i64 (0)] []) []),(1,oT 8 37 [37])] (.seq (sR [(0,oP 9 (.mv (.c (.int .i64 0))) [])] (.block 2 (.loop L129_1))) (sR [(0,oT 52 8 [8]),(1,oT 4 52 [52])] .ret)))))))
def C129 : CFn := ⟨53,2,[.t 4],B129⟩
abbrev L130_0 : CCode := (.seq (sR [(0,oT 8 6 []),(1,oP 9 (.fa 1 (.t 3)) []),(2,oP 10 (.ld 1 false (.t 9)) [9]),(3,oP 11 (.len (.t 10)) [10]),(4,oP 12 (.bin .lss (.t 8) (.t 11)) [8,11])] (.cond (.t 12) (sK [12] .skip)
(sK [6,12] (.exit 0)))) (.seq (.block 1 (sR [(0,oT 15 0 []),(1,oP 16 (.call 128 [.t 15,(.c (.int .i64 2))]) [15])] (.cond (.t 16) (sK [16] (.reg false [(0,oT 17 5 [5]),(1,oT 18 6 []),(2,oP 19 (.bsl 1 1 [.int .i64 (0)]
[(0,1,(.t 18))]) [18]),(3,oP 20 (.app 1 8 (.t 17) (.t 19)) [17,19]),(4,oT 5 20 [20])])) (sK [16] .skip)))) (.reg false [(0,oT 13 6 [6]),(1,oP 14 (.bin .add (.t 13) (.c (.int .i64 1))) [13]),(2,oT 6 14 [14])])))
abbrev B130 : CCode := (sR [(0,oP 3 (.box 2 (.t 1)) [1]),(1,oP 4 (.mv (.c (.nils))) [4])] (sR [(0,oP 7 (.bsl 1 0 [.int .i64 (0)] []) []),(1,oT 5 7 [7])] (.seq (sR [(0,oP 6 (.mv (.c (.int .i64 0))) [])] (.block 0 (.loop
L130_0))) (.seq (sR [(0,oT 21 5 []),(1,oP 22 (.len (.t 21)) [21]),(2,oP 23 (.bin .gtr (.t 22) (.c (.int .i64 0))) [22]),(3,oT 24 23 [23]),(4,oG 25 (.mv (.t 0)) 24 true []),(5,oG 26 (.call 128 [.t 25,(.c (.int .i64
12))]) 24 true [25]),(6,oP 27 (.pick (.t 24) (.t 26) (.c (.bool false))) [24,26])] (.cond (.t 27) (sK [27] (.reg false [(0,oT 28 5 []),(1,oT 29 0 []),(2,oP 30 (.fa 1 (.t 3)) []),(3,oP 31 (.ld 1 false (.t 30))
[30]),(4,oP 32 (.len (.t 31)) [3,31]),(5,oP 33 (.bsl 1 3 [.int .i64 (0)] [(0,1,(.c (.int .i64 (-1)))),(1,1,(.t 32)),(2,1,(.c (.int .i64 3)))]) [32]),(6,oP 34 (.call 189 [.t 29,.t 33]) [29,33]),(7,oP 35 (.ia 1 (.t 28)
(.c (.int .i64 0))) []),(8,⟨none,.st 1 (.t 35) (.t 34),none,[],[28,34,35]⟩)])) (sK [3,27] .skip))) (sR [(0,oT 36 5 [5]),(1,oT 4 36 [36])] .ret)))))
def C130 : CFn := ⟨37,2,[.t 4],B130⟩
abbrev L131_0 : CCode := (sR [(0,oP 30 (.bin .lss (.t 29) (.t 28)) [])] (.seq (.cond (.t 30) (sK [30] .skip) (sK [6,27,28,29,30] (.exit 0))) (.seq (.block 1 (sR [(0,oP 31 (.ia 1 (.t 27) (.t 29)) []),(1,oP 32 (.ld 1
false (.t 31)) [31]),(2,oT 9 32 [32])] (.reg true [(0,oP 33 (.fa 1 (.t 7)) []),(1,oP 34 (.ld 1 false (.t 33)) [33]),(2,oP 35 (.fa 1 (.t 6)) []),(3,oP 36 (.ld 1 false (.t 35)) [35]),(4,oT 37 9 [9]),(5,oP 38 (.ia 2 (.t
36) (.t 37)) [36]),(6,oP 39 (.ld 2 true (.t 38)) [38]),(7,oP 40 (.bsl 2 1 [.int .i64 (0),.nils] [(0,2,(.t 39))]) [37,39]),(8,oP 41 (.app 2 32 (.t 34) (.t 40)) [34,40]),(9,oP 42 (.fa 1 (.t 7)) []),(10,⟨none,.st 1 (.t 42)
(.t 41),none,[],[41,42]⟩)]))) (.reg false [(0,oP 43 (.bin .add (.t 29) (.c (.int .i64 1))) [29]),(1,oT 29 43 [43])]))))
abbrev B131 : CCode := (sR [(0,oP 2 (.box 2 (.t 0)) [0]),(1,oP 4 (.al [.nils,.nils]) []),(2,oP 5 (.mv (.c (.bool false))) [5])] (.seq (sR [(0,oP 10 (.ld 2 true (.t 2)) []),(1,oP 11 (.call 79 [.t 10]) [10]),(2,oP 12
(.not (.t 11)) [11]),(3,oT 13 12 [12]),(4,oG 14 (.mv (.t 1)) 13 false []),(5,oG 15 (.fa 1 (.t 2)) 13 false []),(6,oG 16 (.ld 1 false (.t 15)) 13 false [15]),(7,oG 17 (.len (.t 16)) 13 false [16]),(8,oG 18 (.call 172 [.t
14,.t 17]) 13 false [14,17]),(9,oG 19 (.not (.t 18)) 13 false [18]),(10,oP 20 (.pick (.t 13) (.c (.bool true)) (.t 19)) [13,19])] (.cond (.t 20) (sK [1,2,20] (sR [(0,oP 21 (.bld [.nils,.nils] []) []),(1,⟨none,.st 2 (.t
4) (.t 21),none,[],[21]⟩),(2,oP 5 (.mv (.c (.bool false))) [])] .ret)) (sK [20] .skip))) (sR [(0,oP 22 (.ld 2 true (.t 2)) []),(1,oP 23 (.call 190 [.t 22]) [2,22]),(2,oP 6 (.al [.nils,.nils]) []),(3,⟨none,.st 2 (.t 6)
(.t 23),none,[],[23]⟩)] (sR [(0,oP 24 (.fa 0 (.t 6)) []),(1,oP 25 (.ld 1 false (.t 24)) [24]),(2,oP 26 (.bld [.nils,.nils] [(0,1,(.t 25))]) [25]),(3,oP 7 (.al [.nils,.nils]) []),(4,⟨none,.st 2 (.t 7) (.t
26),none,[],[26]⟩)] (.seq (sR [(0,oT 27 1 [1]),(1,oP 28 (.len (.t 27)) []),(2,oP 29 (.mv (.c (.int .i64 0))) [])] (.block 0 (.loop L131_0))) (sR [(0,oP 44 (.ld 2 true (.t 7)) []),(1,⟨none,.st 2 (.t 4) (.t
44),none,[],[7,44]⟩),(2,oP 5 (.mv (.c (.bool true))) [])] .ret))))))
def C131 : CFn := ⟨45,2,[.m 4 2 true,.t 5],B131⟩
abbrev B132 : CCode := (sR [(0,oP 2 (.box 2 (.t 0)) [0]),(1,oP 3 (.box 3 (.t 1)) [1]),(2,oP 4 (.mv (.c (.nils))) [4])] (.seq (sR [(0,oP 5 (.ld 2 true (.t 2)) []),(1,oP 6 (.ld 3 true (.t 3)) []),(2,oP 7 (.call 88 [.t
5,.t 6]) [5,6]),(3,oP 8 (.not (.t 7)) [7])] (.cond (.t 8) (sK [2,3,8] (sR [(0,oP 9 (.bsl 2 0 [.nils,.nils] []) []),(1,oT 4 9 [9])] .ret)) (sK [8] .skip))) (.seq (.reg true [(0,oP 10 (.ld 2 true (.t 2)) []),(1,oP 11 (.ld
3 true (.t 3)) []),(2,oP 12 (.fa 0 (.t 3)) []),(3,oP 13 (.ld 1 false (.t 12)) [12]),(5,oP 15 (.bsl 1 0 [.int .i64 (0)] []) []),(4,⟨some 14,.call 75 [.t 13],none,[(2,2),(3,3)],[13]⟩),(6,oP 16 (.call 191 [.t 10,.t 11,(.c
(.int .i64 0)),.t 14,.t 15]) [2,3,10,11,14,15]),(7,oT 4 16 [16])]) .ret)))
def C132 : CFn := ⟨17,2,[.t 4],B132⟩
abbrev L133_0 : CCode := (.seq (sR [(0,oT 6 5 []),(1,oT 7 1 []),(2,oP 8 (.len (.t 7)) [7]),(3,oP 9 (.bin .lss (.t 6) (.t 8)) [6,8])] (.cond (.t 9) (sK [9] .skip) (sK [1,2,5,9] (.exit 0)))) (.seq (.block 1 (.seq (.reg
true [(0,oT 12 1 []),(1,oT 13 5 []),(2,oP 14 (.ia 1 (.t 12) (.t 13)) []),(3,oP 15 (.ld 1 false (.t 14)) [12,13,14]),(4,oP 16 (.fa 1 (.t 2)) []),(5,oP 17 (.ld 1 false (.t 16)) [16]),(6,oP 18 (.len (.t 17)) [17]),(7,oP 19
(.bin .sub (.t 18) (.c (.int .i64 1))) [18]),(8,oP 20 (.call 118 [.t 15,(.c (.int .i64 0)),.t 19]) [15,19]),(9,oP 21 (.not (.t 20)) [20]),(10,oT 22 21 [21]),(11,oG 23 (.mv (.t 5)) 22 false []),(12,oG 24 (.bin .gtr (.t
23) (.c (.int .i64 0))) 22 false [23]),(13,oG 25 (.mv (.t 24)) 22 false [24]),(14,oG 26 (.mv (.t 1)) 25 true []),(15,oG 27 (.mv (.t 5)) 25 true []),(16,oG 28 (.ia 1 (.t 26) (.t 27)) 25 true []),(17,oG 29 (.ld 1 false
(.t 28)) 25 true [26,27,28]),(18,oG 30 (.mv (.t 1)) 25 true []),(19,oG 31 (.mv (.t 5)) 25 true []),(20,oG 32 (.bin .sub (.t 31) (.c (.int .i64 1))) 25 true [31]),(21,oG 33 (.ia 1 (.t 30) (.t 32)) 25 true []),(22,oG 34
(.ld 1 false (.t 33)) 25 true [30,32,33]),(23,oG 35 (.bin .leq (.t 29) (.t 34)) 25 true [29,34]),(24,oG 36 (.pick (.t 25) (.t 35) (.c (.bool false))) 22 false [25,35]),(25,oP 37 (.pick (.t 22) (.c (.bool true)) (.t 36))
[22,36])]) (.cond (.t 37) (sK [1,2,5,37] (sR [(0,oP 4 (.mv (.c (.bool false))) [])] .ret)) (sK [37] .skip)))) (.reg false [(0,oT 10 5 [5]),(1,oP 11 (.bin .add (.t 10) (.c (.int .i64 1))) [10]),(2,oT 5 11 [11])])))
abbrev B133 : CCode := (sR [(0,oP 2 (.box 2 (.t 0)) [0]),(1,oP 4 (.mv (.c (.bool false))) [4])] (.seq (sR [(0,oP 5 (.mv (.c (.int .i64 0))) [])] (.block 0 (.loop L133_0))) (sR [(0,oP 4 (.mv (.c (.bool true))) [])]
.ret)))
def C133 : CFn := ⟨38,2,[.t 4],B133⟩
abbrev L134_0 : CCode := (sR [(0,oP 37 (.bin .lss (.t 36) (.t 35)) [])] (.seq (.cond (.t 37) (sK [37] .skip) (sK [0,1,2,4,5,8,34,35,36,37] (.exit 0))) (.seq (.block 1 (sR [(0,oT 38 36 []),(1,oP 39 (.ia 2 (.t 34) (.t
36)) []),(2,oP 40 (.ld 2 true (.t 39)) [39]),(3,oP 10 (.al [.int .i64 (0),.nils]) []),(4,oT 9 38 [38]),(5,⟨none,.st 2 (.t 10) (.t 40),none,[],[40]⟩)] (.seq (sR [(0,oP 41 (.fa 0 (.t 10)) []),(1,oP 42 (.ld 1 false (.t
41)) [41]),(2,oP 43 (.fa 0 (.t 8)) []),(3,oP 44 (.ld 1 false (.t 43)) [43]),(4,oP 45 (.bin .neq (.t 42) (.t 44)) [42,44])] (.cond (.t 45) (sK [9,10,45] (.exit 1)) (sK [45] .skip))) (sR [(0,oT 47 0 []),(1,oP 48 (.fa 1
(.t 8)) []),(2,oP 49 (.ld 1 false (.t 48)) [48]),(3,oP 50 (.fa 1 (.t 10)) []),(4,oP 51 (.ld 1 false (.t 50)) [50]),(5,oP 52 (.call 136 [.t 47,.t 49,.t 51]) [10,47,49,51]),(6,oT 46 52 [52]),(7,oP 53 (.ex (.t 46) 0)
[]),(8,oP 54 (.ex (.t 46) 1) [46]),(9,oT 11 53 [53]),(10,oT 12 54 [54])] (sR [(0,oT 55 12 [12])] (.cond (.t 55) (sK [55] (.reg true [(0,oP 56 (.ld 1 false (.t 5)) []),(1,oT 57 11 [11]),(2,oT 58 1 []),(4,oT 60 9
[9]),(5,oP 61 (.bsl 1 1 [.int .i64 (0)] [(0,1,(.t 60))]) [60]),(3,⟨some 59,.call 135 [.t 58],none,[(5,1)],[58]⟩),(6,⟨some 62,.app 1 8 (.t 59) (.t 61),none,[(5,1)],[59,61]⟩),(7,oP 63 (.callv (.t 56) [.t 57,.t 62])
[56,57,62,63])])) (sK [9,11,55] .skip))))))) (.reg false [(0,oP 64 (.bin .add (.t 36) (.c (.int .i64 1))) [36]),(1,oT 36 64 [64])]))))
abbrev B134 : CCode := (.seq (sR [(0,oT 13 1 []),(1,oP 14 (.len (.t 13)) [13]),(2,oP 15 (.fa 1 (.t 2)) []),(3,oP 16 (.ld 1 false (.t 15)) [15]),(4,oP 17 (.len (.t 16)) [16]),(5,oP 18 (.bin .eql (.t 14) (.t 17))
[14,17])] (.cond (.t 18) (sK [2,4,5,18] (.seq (.reg true [(0,oP 19 (.ld 1 false (.t 3)) []),(1,oT 20 0 [0]),(3,oT 22 1 [1]),(2,⟨some 21,.call 135 [.t 20],none,[(3,1)],[20]⟩),(4,⟨some 23,.call 135 [.t
22],none,[(3,1)],[22]⟩),(5,oP 24 (.bld [.nils,.nils] [(0,1,(.t 21)),(1,1,(.t 23))]) [21,23]),(6,oP 25 (.bsl 2 1 [.nils,.nils] [(0,2,(.t 24))]) [24]),(7,oP 26 (.app 2 48 (.t 19) (.t 25)) [19,25]),(8,⟨none,.st 1 (.t 3)
(.t 26),none,[],[26]⟩)]) .ret)) (sK [18] .skip))) (sR [(0,oP 27 (.fa 1 (.t 2)) []),(1,oP 28 (.ld 1 false (.t 27)) [27]),(2,oT 29 1 []),(3,oP 30 (.len (.t 29)) [29]),(4,oP 31 (.ia 2 (.t 28) (.t 30)) [28]),(5,oP 32 (.ld 2
true (.t 31)) [31]),(6,oP 8 (.al [.int .i64 (0),.nils]) []),(7,⟨none,.st 2 (.t 8) (.t 32),none,[],[30,32]⟩)] (sR [(0,oP 33 (.fa 1 (.t 4)) []),(1,oP 34 (.ld 1 false (.t 33)) [33]),(2,oP 35 (.len (.t 34)) []),(3,oP 36
(.mv (.c (.int .i64 0))) [])] (.block 0 (.loop L134_0)))))
def C134 : CFn := ⟨65,6,[],B134⟩
abbrev B135 : CCode := (sR [(0,oP 2 (.mv (.c (.nils))) [2])] (.seq (sR [(0,oT 3 0 []),(1,oP 4 (.isnil false (.t 3)) [3])] (.cond (.t 4) (sK [0,4] (sR [(0,oP 2 (.mv (.c (.nils))) [])] .ret)) (sK [4] .skip))) (sR [(0,oP 5
(.bsl 1 0 [.int .i64 (0)] []) []),(1,oT 6 0 [0]),(2,oP 7 (.app 1 8 (.t 5) (.t 6)) [5,6]),(3,oT 2 7 [7])] .ret)))
def C135 : CFn := ⟨8,1,[.t 2],B135⟩
abbrev L136_0 : CCode := (sR [(0,oP 16 (.bin .lss (.t 15) (.t 14)) [])] (.seq (.cond (.t 16) (sK [16] .skip) (sK [2,13,14,15,16] (.exit 0))) (.seq (.block 1 (sR [(0,oT 17 15 []),(1,oP 18 (.ia 1 (.t 13) (.t 15))
[]),(2,oP 19 (.ld 1 false (.t 18)) [18]),(3,oT 9 17 [17]),(4,oT 10 19 [19])] (.block 2 (sR [(0,oT 21 10 []),(1,oP 22 (.call 192 [.t 21]) [21]),(2,oP 23 (.not (.t 22)) [22]),(3,oT 20 23 [23])] (.cond (.t 20) (sK [20]
(.seq (.reg true [(0,oT 24 10 [10]),(2,oT 26 2 []),(3,oT 27 9 [9]),(4,oP 28 (.ia 1 (.t 26) (.t 27)) []),(5,oP 29 (.ld 1 false (.t 28)) []),(1,⟨some 25,.call 193 [.t 24],none,[(28,1)],[24,26,27,28]⟩),(6,oP 30 (.bin .neq
(.t 25) (.t 29)) [25,29])]) (.cond (.t 30) (sK [2,8,13,14,15,30] (sR [(0,oP 6 (.mv (.c (.nils))) []),(1,oP 7 (.mv (.c (.bool false))) [])] .ret)) (sK [30] .skip)))) (sK [20] (sR [(0,oT 32 8 []),(1,oT 33 10 []),(2,oP 34
(.ia 1 (.t 32) (.t 33)) []),(3,oP 35 (.ld 1 false (.t 34)) [32,33,34]),(4,oP 36 (.bin .lss (.t 35) (.c (.int .i64 0))) [35]),(5,oT 31 36 [36])] (.cond (.t 31) (sK [31] (.reg false [(0,oT 37 8 []),(1,oT 38 10 [10]),(2,oT
39 2 []),(3,oT 40 9 [9]),(4,oP 41 (.ia 1 (.t 39) (.t 40)) []),(5,oP 42 (.ld 1 false (.t 41)) [39,40,41]),(6,oP 43 (.ia 1 (.t 37) (.t 38)) []),(7,⟨none,.st 1 (.t 43) (.t 42),none,[],[37,38,42,43]⟩)])) (sK [31] (.seq
(.reg true [(0,oT 45 8 []),(1,oT 46 10 [10]),(2,oP 47 (.ia 1 (.t 45) (.t 46)) []),(3,oP 48 (.ld 1 false (.t 47)) [45,46,47]),(4,oT 49 2 []),(5,oT 50 9 [9]),(6,oP 51 (.ia 1 (.t 49) (.t 50)) []),(7,oP 52 (.ld 1 false (.t
51)) [49,50,51]),(8,oP 53 (.bin .neq (.t 48) (.t 52)) [48,52]),(9,oT 44 53 [53])]) (.cond (.t 44) (sK [2,8,13,14,15,44] (sR [(0,oP 6 (.mv (.c (.nils))) []),(1,oP 7 (.mv (.c (.bool false))) [])] .ret)) (sK [44]
.skip)))))))))))) (.reg false [(0,oP 54 (.bin .add (.t 15) (.c (.int .i64 1))) [15]),(1,oT 15 54 [54])]))))
abbrev B136 : CCode := (sR [(0,oP 6 (.mv (.c (.nils))) [6]),(1,oP 7 (.mv (.c (.bool false))) [7])] (sR [(0,oT 11 0 [0]),(1,oP 12 (.call 135 [.t 11]) [11]),(2,oT 8 12 [12])] (.seq (sR [(0,oT 13 1 [1]),(1,oP 14 (.len (.t
13)) []),(2,oP 15 (.mv (.c (.int .i64 0))) [])] (.block 0 (.loop L136_0))) (sR [(0,oT 55 8 [8]),(1,oT 6 55 [55]),(2,oP 7 (.mv (.c (.bool true))) [])] .ret))))
def C136 : CFn := ⟨56,3,[.t 6,.t 7],B136⟩
abbrev B137 : CCode := (sR [(0,oP 4 (.mv (.c (.bool false))) [4])] (sR [(0,oT 5 0 [0]),(1,oT 6 1 [1]),(2,oP 7 (.call 194 [.t 5,.t 6]) [5,6]),(3,oP 8 (.bin .geq (.t 7) (.c (.int .i64 0))) [7]),(4,oT 4 8 [8])] .ret))
def C137 : CFn := ⟨9,2,[.t 4],B137⟩
abbrev B138 : CCode := (sR [(0,oP 3 (.mv (.c (.bool false))) [3])] (sR [(0,oT 4 0 [0]),(1,oP 5 (.ld 1 false (.t 1)) []),(2,oP 6 (.call 139 [.t 4,.t 5]) [1,4,5]),(3,oT 3 6 [6])] .ret))
def C138 : CFn := ⟨7,2,[.t 3],B138⟩
abbrev B139 : CCode := (sR [(0,oP 3 (.box 1 (.t 1)) [1]),(1,oP 4 (.mv (.c (.bool false))) [4])] (sR [(0,oT 5 0 [0]),(1,oP 6 (.fn 195 [.t 3]) []),(2,oP 7 (.call 159 [.t 5,.t 6]) [3,5,6]),(3,oP 8 (.not (.t 7)) [7]),(4,oT
4 8 [8])] .ret))
def C139 : CFn := ⟨9,2,[.t 4],B139⟩
abbrev L141_0 : CCode := (.seq (sR [(0,oT 7 4 []),(1,oP 8 (.fa 1 (.t 1)) []),(2,oP 9 (.ld 1 false (.t 8)) [8]),(3,oP 10 (.len (.t 9)) [9]),(4,oP 11 (.bin .lss (.t 7) (.t 10)) [7,10]),(5,oT 12 11 [11]),(6,oG 13 (.ld 2
true (.t 1)) 12 true []),(7,oG 14 (.call 73 [.t 13]) 12 true [13]),(8,oP 15 (.pick (.t 12) (.t 14) (.c (.bool false))) [12,14])] (.cond (.t 15) (sK [15] .skip) (sK [1,4,15] (.exit 0)))) (.seq (.block 1 (sR [(0,oP 18
(.ld 2 true (.t 1)) []),(1,oT 19 4 []),(2,oP 20 (.call 198 [.t 18,.t 19]) [18,19]),(3,oT 5 20 [20])] (sR [(0,oT 21 5 []),(1,oP 22 (.ia 1 (.t 21) (.c (.int .i64 0))) []),(2,oP 23 (.ld 1 false (.t 22)) [21,22]),(3,oT 24 4
[]),(4,oP 25 (.bin .eql (.t 23) (.t 24)) [23,24])] (.cond (.t 25) (sK [25] (.reg false [(0,oT 26 3 [3]),(1,oT 27 5 [5]),(2,oP 28 (.bsl 1 1 [.nils] [(0,1,(.t 27))]) [27]),(3,oP 29 (.app 1 24 (.t 26) (.t 28))
[26,28]),(4,oT 3 29 [29])])) (sK [5,25] .skip))))) (.reg false [(0,oT 16 4 [4]),(1,oP 17 (.bin .add (.t 16) (.c (.int .i64 1))) [16]),(2,oT 4 17 [17])])))
abbrev B141 : CCode := (sR [(0,oP 1 (.box 2 (.t 0)) [0]),(1,oP 2 (.mv (.c (.nils))) [2])] (sR [(0,oP 6 (.bsl 1 0 [.nils] []) []),(1,oT 3 6 [6])] (.seq (sR [(0,oP 4 (.mv (.c (.int .i64 0))) [])] (.block 0 (.loop
L141_0))) (sR [(0,oT 30 3 [3]),(1,oT 2 30 [30])] .ret))))
def C141 : CFn := ⟨31,1,[.t 2],B141⟩
abbrev L150_0 : CCode := (.seq (sR [(0,oT 30 5 []),(1,oP 31 (.fa 1 (.t 3)) []),(2,oP 32 (.ld 1 false (.t 31)) [31]),(3,oP 33 (.len (.t 32)) [32]),(4,oP 34 (.bin .lss (.t 30) (.t 33)) [30,33])] (.cond (.t 34) (sK [34]
.skip) (sK [3,5,34] (.exit 0)))) (.seq (.block 1 (sR [(0,oP 37 (.fa 1 (.t 3)) []),(1,oP 38 (.ld 1 false (.t 37)) [37]),(2,oT 39 5 []),(3,oP 40 (.ia 1 (.t 38) (.t 39)) [38]),(4,oP 41 (.ld 1 false (.t 40)) [39,40]),(5,oP
42 (.call 118 [.t 41,(.c (.int .i64 0)),(.c (.int .i64 9))]) [41]),(6,oP 43 (.not (.t 42)) [42])] (.cond (.t 43) (sK [3,5,43] (sR [(0,oP 4 (.mv (.c (.bool false))) [])] .ret)) (sK [43] .skip)))) (.reg false [(0,oT 35 5
[5]),(1,oP 36 (.bin .add (.t 35) (.c (.int .i64 1))) [35]),(2,oT 5 36 [36])])))
abbrev B150 : CCode := (sR [(0,oP 3 (.box 2 (.t 1)) [1]),(1,oP 4 (.mv (.c (.bool false))) [4])] (.seq (.seq (.reg true [(0,oT 6 0 []),(1,oP 7 (.call 117 [.t 6]) [6]),(2,oP 8 (.not (.t 7)) [7]),(3,oT 9 8 [8]),(4,oG 10
(.fa 0 (.t 3)) 9 false []),(5,oG 11 (.ld 1 false (.t 10)) 9 false [10]),(6,oG 12 (.mv (.t 0)) 9 false []),(7,oG 13 (.len (.t 12)) 9 false [12]),(8,oG 14 (.bin .sub (.t 13) (.c (.int .i64 1))) 9 false [13]),(9,oG 15
(.call 118 [.t 11,(.c (.int .i64 0)),.t 14]) 9 false [11,14]),(10,oG 16 (.not (.t 15)) 9 false [15]),(11,oP 17 (.pick (.t 9) (.c (.bool true)) (.t 16)) [9,16]),(12,oT 18 17 [17]),(13,oG 19 (.fa 1 (.t 3)) 18 false
[]),(14,oG 20 (.ld 1 false (.t 19)) 18 false [19]),(15,oG 21 (.len (.t 20)) 18 false [20]),(16,oG 22 (.mv (.t 0)) 18 false [0]),(17,oG 23 (.fa 0 (.t 3)) 18 false []),(18,oG 24 (.ld 1 false (.t 23)) 18 false [23]),(19,oG
25 (.ia 3 (.t 22) (.t 24)) 18 false []),(20,oG 26 (.fa 1 (.t 25)) 18 false [25]),(21,oG 27 (.ld 1 false (.t 26)) 18 false [22,24,26]),(22,oG 28 (.bin .neq (.t 21) (.t 27)) 18 false [21,27]),(23,oP 29 (.pick (.t 18) (.c
(.bool true)) (.t 28)) [18,28])]) (.cond (.t 29) (sK [3,29] (sR [(0,oP 4 (.mv (.c (.bool false))) [])] .ret)) (sK [29] .skip))) (.seq (sR [(0,oP 5 (.mv (.c (.int .i64 0))) [])] (.block 0 (.loop L150_0))) (sR [(0,oP 4
(.mv (.c (.bool true))) [])] .ret))))
def C150 : CFn := ⟨44,2,[.t 4],B150⟩
abbrev B151 : CCode := (sR [(0,oP 2 (.box 2 (.t 0)) [0]),(1,oP 3 (.box 2 (.t 1)) [1]),(2,oP 4 (.mv (.c (.int .i64 0))) [4])] (.seq (sR [(0,oP 5 (.fa 0 (.t 2)) []),(1,oP 6 (.ld 1 false (.t 5)) [5]),(2,oP 7 (.fa 0 (.t 3))
[]),(3,oP 8 (.ld 1 false (.t 7)) [7]),(4,oP 9 (.bin .lss (.t 6) (.t 8)) [6,8])] (.cond (.t 9) (sK [2,3,9] (sR [(0,oP 4 (.mv (.c (.int .i64 (-1)))) [])] .ret)) (sK [9] .skip))) (.seq (sR [(0,oP 10 (.fa 0 (.t 2))
[]),(1,oP 11 (.ld 1 false (.t 10)) [10]),(2,oP 12 (.fa 0 (.t 3)) []),(3,oP 13 (.ld 1 false (.t 12)) [12]),(4,oP 14 (.bin .gtr (.t 11) (.t 13)) [11,13])] (.cond (.t 14) (sK [2,3,14] (sR [(0,oP 4 (.mv (.c (.int .i64 1)))
[])] .ret)) (sK [14] .skip))) (sR [(0,oP 15 (.fa 1 (.t 2)) []),(1,oP 16 (.ld 1 false (.t 15)) [15]),(2,oP 17 (.fa 1 (.t 3)) []),(3,oP 18 (.ld 1 false (.t 17)) [17]),(4,oP 19 (.call 207 [.t 16,.t 18]) [2,3,16,18]),(5,oT
4 19 [19])] .ret))))
def C151 : CFn := ⟨20,2,[.t 4],B151⟩
abbrev L153_0 : CCode := (.seq (sR [(0,oT 29 9 []),(1,oP 30 (.fa 1 (.t 3)) []),(2,oP 31 (.ld 1 false (.t 30)) [30]),(3,oP 32 (.len (.t 31)) [31]),(4,oP 33 (.bin .lss (.t 29) (.t 32)) [29,32])] (.cond (.t 33) (sK [33]
.skip) (sK [3,4,9,33] (.exit 0)))) (.seq (.block 1 (sR [(0,oP 36 (.fa 1 (.t 3)) []),(1,oP 37 (.ld 1 false (.t 36)) [36]),(2,oT 38 9 []),(3,oP 39 (.ia 1 (.t 37) (.t 38)) [37]),(4,oP 40 (.ld 1 false (.t 39))
[38,39]),(5,oT 10 40 [40])] (.seq (sR [(0,oT 41 10 []),(1,oP 42 (.bin .lss (.t 41) (.c (.int .i64 0))) [41])] (.cond (.t 42) (sK [42] (.seq (sR [(0,oT 43 10 [10]),(1,oP 44 (.bin .sub (.c (.int .i64 (-1))) (.t 43))
[43]),(2,oP 45 (.fa 1 (.t 4)) []),(3,oP 46 (.ld 1 false (.t 45)) [45]),(4,oT 47 9 []),(5,oP 48 (.ia 1 (.t 46) (.t 47)) [46]),(6,oP 49 (.ld 1 false (.t 48)) [47,48]),(7,oP 50 (.bin .neq (.t 44) (.t 49)) [44,49])] (.cond
(.t 50) (sK [3,4,9,50] (sR [(0,oT 51 8 [8]),(1,oT 6 51 [51]),(2,oP 7 (.mv (.c (.bool false))) [])] .ret)) (sK [50] .skip))) (.exit 1))) (sK [42] .skip))) (.seq (.seq (.reg true [(0,oT 52 8 []),(1,oT 53 10 []),(2,oP 54
(.ia 1 (.t 52) (.t 53)) []),(3,oP 55 (.ld 1 false (.t 54)) [52,53,54]),(4,oP 56 (.bin .geq (.t 55) (.c (.int .i64 0))) [55]),(5,oT 57 56 [56]),(6,oG 58 (.mv (.t 8)) 57 true []),(7,oG 59 (.mv (.t 10)) 57 true []),(8,oG
60 (.ia 1 (.t 58) (.t 59)) 57 true []),(9,oG 61 (.ld 1 false (.t 60)) 57 true [58,59,60]),(10,oG 62 (.fa 1 (.t 4)) 57 true []),(11,oG 63 (.ld 1 false (.t 62)) 57 true [62]),(12,oG 64 (.mv (.t 9)) 57 true []),(13,oG 65
(.ia 1 (.t 63) (.t 64)) 57 true [63]),(14,oG 66 (.ld 1 false (.t 65)) 57 true [64,65]),(15,oG 67 (.bin .neq (.t 61) (.t 66)) 57 true [61,66]),(16,oP 68 (.pick (.t 57) (.t 67) (.c (.bool false))) [57,67])]) (.cond (.t
68) (sK [3,4,9,10,68] (sR [(0,oT 69 8 [8]),(1,oT 6 69 [69]),(2,oP 7 (.mv (.c (.bool false))) [])] .ret)) (sK [68] .skip))) (.reg false [(0,oT 70 8 []),(1,oT 71 10 [10]),(2,oP 72 (.fa 1 (.t 4)) []),(3,oP 73 (.ld 1 false
(.t 72)) [72]),(4,oT 74 9 []),(5,oP 75 (.ia 1 (.t 73) (.t 74)) [73]),(6,oP 76 (.ld 1 false (.t 75)) [74,75]),(7,oP 77 (.ia 1 (.t 70) (.t 71)) []),(8,⟨none,.st 1 (.t 77) (.t 76),none,[],[70,71,76,77]⟩)]))))) (.reg false
[(0,oT 34 9 [9]),(1,oP 35 (.bin .add (.t 34) (.c (.int .i64 1))) [34]),(2,oT 9 35 [35])])))
abbrev B153 : CCode := (sR [(0,oP 3 (.box 2 (.t 0)) [0]),(1,oP 4 (.box 2 (.t 1)) [1]),(2,oP 6 (.mv (.c (.nils))) [6]),(3,oP 7 (.mv (.c (.bool false))) [7])] (sR [(0,oP 11 (.bsl 1 0 [.int .i64 (0)] []) []),(1,oT 12 2
[2]),(2,oP 13 (.app 1 8 (.t 11) (.t 12)) [11,12]),(3,oT 8 13 [13])] (.seq (sR [(0,oP 14 (.fa 0 (.t 4)) []),(1,oP 15 (.ld 1 false (.t 14)) [14]),(2,oP 16 (.fa 0 (.t 3)) []),(3,oP 17 (.ld 1 false (.t 16)) [16]),(4,oP 18
(.bin .neq (.t 15) (.t 17)) [15,17]),(5,oT 19 18 [18]),(6,oG 20 (.fa 1 (.t 4)) 19 false []),(7,oG 21 (.ld 1 false (.t 20)) 19 false [20]),(8,oG 22 (.len (.t 21)) 19 false [21]),(9,oG 23 (.fa 1 (.t 3)) 19 false
[]),(10,oG 24 (.ld 1 false (.t 23)) 19 false [23]),(11,oG 25 (.len (.t 24)) 19 false [24]),(12,oG 26 (.bin .neq (.t 22) (.t 25)) 19 false [22,25]),(13,oP 27 (.pick (.t 19) (.c (.bool true)) (.t 26)) [19,26])] (.cond (.t
27) (sK [3,4,27] (sR [(0,oT 28 8 [8]),(1,oT 6 28 [28]),(2,oP 7 (.mv (.c (.bool false))) [])] .ret)) (sK [27] .skip))) (.seq (sR [(0,oP 9 (.mv (.c (.int .i64 0))) [])] (.block 0 (.loop L153_0))) (sR [(0,oT 78 8
[8]),(1,oT 6 78 [78]),(2,oP 7 (.mv (.c (.bool true))) [])] .ret)))))
def C153 : CFn := ⟨79,3,[.t 6,.t 7],B153⟩
abbrev L156_0 : CCode := (sR [(0,oP 8 (.bin .lss (.t 7) (.t 6)) [])] (.seq (.cond (.t 8) (sK [8] .skip) (sK [5,6,7,8] (.exit 0))) (.seq (.block 1 (sR [(0,oT 9 7 []),(1,oP 10 (.ia 3 (.t 5) (.t 7)) []),(2,oP 11 (.ld 3
true (.t 10)) [10]),(3,oP 4 (.al [.str [],.int .i64 (0),.int .i64 (0)]) []),(4,oT 3 9 [9]),(5,⟨none,.st 3 (.t 4) (.t 11),none,[],[11]⟩)] (.seq (.reg true [(0,oP 12 (.ld 3 true (.t 4)) []),(1,oP 13 (.call 208 [.t 12])
[12]),(2,oP 14 (.not (.t 13)) [13]),(3,oT 15 14 [14]),(4,oG 16 (.mv (.t 3)) 15 false []),(5,oG 17 (.bin .gtr (.t 16) (.c (.int .i64 0))) 15 false [16]),(6,oG 18 (.mv (.t 17)) 15 false [17]),(7,oG 19 (.mv (.t 0)) 18 true
[]),(8,oG 20 (.mv (.t 3)) 18 true [3]),(9,oG 21 (.bin .sub (.t 20) (.c (.int .i64 1))) 18 true [20]),(10,oG 22 (.ia 3 (.t 19) (.t 21)) 18 true []),(11,oG 23 (.fa 0 (.t 22)) 18 true [22]),(12,oG 24 (.ld 1 false (.t 23))
18 true [19,21,23]),(13,oG 25 (.fa 0 (.t 4)) 18 true []),(14,oG 26 (.ld 1 false (.t 25)) 18 true [4,25]),(15,oG 27 (.bin .geq (.t 24) (.t 26)) 18 true [24,26]),(16,oG 28 (.pick (.t 18) (.t 27) (.c (.bool false))) 15
false [18,27]),(17,oP 29 (.pick (.t 15) (.c (.bool true)) (.t 28)) [15,28])]) (.cond (.t 29) (sK [0,5,6,7,29] (sR [(0,oP 2 (.mv (.c (.bool false))) [])] .ret)) (sK [29] .skip))))) (.reg false [(0,oP 30 (.bin .add (.t 7)
(.c (.int .i64 1))) [7]),(1,oT 7 30 [30])]))))
abbrev B156 : CCode := (sR [(0,oP 2 (.mv (.c (.bool false))) [2])] (.seq (sR [(0,oT 5 0 []),(1,oP 6 (.len (.t 5)) []),(2,oP 7 (.mv (.c (.int .i64 0))) [])] (.block 0 (.loop L156_0))) (sR [(0,oT 31 0 [0]),(1,oP 32 (.len
(.t 31)) [31]),(2,oP 33 (.bin .leq (.t 32) (.c (.int .i64 4))) [32]),(3,oT 2 33 [33])] .ret)))
def C156 : CFn := ⟨34,1,[.t 2],B156⟩
abbrev B157 : CCode := (sR [(0,oP 3 (.box 2 (.t 1)) [1]),(1,oP 4 (.mv (.c (.bool false))) [4])] (.seq (.reg true [(0,oP 5 (.fa 0 (.t 3)) []),(1,oP 6 (.ld 1 false (.t 5)) [5]),(2,oT 7 0 []),(3,oP 8 (.len (.t 7))
[7]),(4,oP 9 (.bin .sub (.t 8) (.c (.int .i64 1))) [8]),(5,oP 10 (.call 122 [.t 6,(.c (.int .i64 0)),.t 9]) [6,9]),(6,oT 11 10 [10]),(7,oG 12 (.fa 1 (.t 3)) 11 true []),(8,oG 13 (.ld 1 false (.t 12)) 11 true [12]),(9,oG
14 (.len (.t 13)) 11 true [13]),(10,oG 15 (.mv (.t 0)) 11 true [0]),(11,oG 16 (.fa 0 (.t 3)) 11 true []),(12,oG 17 (.ld 1 false (.t 16)) 11 true [16]),(13,oG 18 (.ia 3 (.t 15) (.t 17)) 11 true []),(14,oG 19 (.fa 1 (.t
18)) 11 true [18]),(15,oG 20 (.ld 1 false (.t 19)) 11 true [15,17,19]),(16,oG 21 (.bin .eql (.t 14) (.t 20)) 11 true [14,20]),(17,oP 22 (.pick (.t 11) (.t 21) (.c (.bool false))) [11,21]),(18,oT 23 22 [22]),(19,oG 24
(.fa 1 (.t 3)) 23 true []),(20,oG 25 (.ld 1 false (.t 24)) 23 true [24]),(21,oG 26 (.call 209 [.t 25]) 23 true [3,25]),(22,oP 27 (.pick (.t 23) (.t 26) (.c (.bool false))) [23,26]),(23,oT 4 27 [27])]) .ret))
def C157 : CFn := ⟨28,2,[.t 4],B157⟩
abbrev B158 : CCode := (sR [(0,oP 2 (.box 2 (.t 0)) [0]),(1,oP 3 (.box 2 (.t 1)) [1]),(2,oP 4 (.mv (.c (.int .i64 0))) [4])] (.seq (sR [(0,oP 5 (.fa 0 (.t 2)) []),(1,oP 6 (.ld 1 false (.t 5)) [5]),(2,oP 7 (.fa 0 (.t 3))
[]),(3,oP 8 (.ld 1 false (.t 7)) [7]),(4,oP 9 (.bin .neq (.t 6) (.t 8)) [6,8])] (.cond (.t 9) (sK [9] (sR [(0,oP 10 (.fa 0 (.t 2)) []),(1,oP 11 (.ld 1 false (.t 10)) [2,10]),(2,oP 12 (.fa 0 (.t 3)) []),(3,oP 13 (.ld 1
false (.t 12)) [3,12]),(4,oP 14 (.call 210 [.t 11,.t 13]) [11,13]),(5,oT 4 14 [14])] .ret)) (sK [9] .skip))) (sR [(0,oP 15 (.fa 1 (.t 2)) []),(1,oP 16 (.ld 1 false (.t 15)) [15]),(2,oP 17 (.fa 1 (.t 3)) []),(3,oP 18
(.ld 1 false (.t 17)) [17]),(4,oP 19 (.call 211 [.t 16,.t 18]) [2,3,16,18]),(5,oT 4 19 [19])] .ret)))
def C158 : CFn := ⟨20,2,[.t 4],B158⟩
abbrev B159 : CCode := (sR [(0,oP 4 (.mv (.c (.bool false))) [4])] (sR [(0,oT 5 0 [0]),(1,oT 6 1 [1]),(2,oP 7 (.call 212 [.t 5,.t 6]) [5,6]),(3,oP 8 (.bin .geq (.t 7) (.c (.int .i64 0))) [7]),(4,oT 4 8 [8])] .ret))
def C159 : CFn := ⟨9,2,[.t 4],B159⟩
abbrev L161_0 : CCode := (.seq (sR [(0,oT 34 8 []),(1,oT 35 7 []),(2,oP 36 (.len (.t 35)) [35]),(3,oP 37 (.bin .lss (.t 34) (.t 36)) [34,36])] (.cond (.t 37) (sK [37] .skip) (sK [8,37] (.exit 0)))) (.block 1 (.reg true
[(0,oT 38 8 []),(1,oT 39 7 []),(2,oT 40 8 []),(3,oP 41 (.sls 1 (.t 39) (some (.t 40)) none none) [39,40]),(4,oT 42 7 []),(5,oT 43 8 [8]),(6,oP 44 (.sls 1 (.t 42) none (some (.t 43)) none) [42,43]),(7,oP 45 (.cpy 1 (.t
41) (.t 44)) [41,44]),(8,oP 46 (.bin .add (.t 38) (.t 45)) [38,45]),(9,oT 8 46 [46])])))
abbrev B161 : CCode := (sR [(0,oP 4 (.mv (.c (.nils))) [4])] (.seq (sR [(0,oT 9 1 []),(1,oP 10 (.bin .lss (.t 9) (.c (.int .i64 0))) [9])] (.cond (.t 10) (sK [10] (.reg false [(0,oP 11 .fail
[11]),(1,⟨none,.fail,none,[],[]⟩)])) (sK [10] .skip))) (sR [(0,oT 13 0 []),(1,oP 14 (.len (.t 13)) [13]),(2,oP 15 (.conv .u64 (.t 14)) [14]),(3,oT 16 1 [1]),(4,oP 17 (.conv .u64 (.t 16)) [16]),(5,oP 18 (.call 213 [.t
15,.t 17]) [15,17]),(6,oT 12 18 [18]),(7,oP 19 (.ex (.t 12) 0) []),(8,oP 20 (.ex (.t 12) 1) [12]),(9,oT 5 19 [19]),(10,oT 6 20 [20])] (.seq (sR [(0,oT 21 5 [5]),(1,oP 22 (.bin .gtr (.t 21) (.c (.int .u64 (0))))
[21]),(2,oT 23 22 [22]),(3,oG 24 (.mv (.t 6)) 23 false []),(4,oG 25 (.bin .gtr (.t 24) (.c (.int .u64 (9223372036854775807)))) 23 false [24]),(5,oP 26 (.pick (.t 23) (.c (.bool true)) (.t 25)) [23,25])] (.cond (.t 26)
(sK [26] (.reg false [(0,oP 27 .fail [27]),(1,⟨none,.fail,none,[],[]⟩)])) (sK [26] .skip))) (sR [(0,oT 28 6 [6]),(1,oP 29 (.conv .i64 (.t 28)) [28]),(2,oP 30 (.mk 1 8 [.int .i64 (0)] (.t 29) (.t 29)) [29]),(3,oT 7 30
[30])] (sR [(0,oT 31 7 []),(1,oT 32 0 [0]),(2,oP 33 (.cpy 1 (.t 31) (.t 32)) [31,32]),(3,oT 8 33 [33])] (.seq (.block 0 (.loop L161_0)) (sR [(0,oT 47 7 [7]),(1,oT 4 47 [47])] .ret))))))))
def C161 : CFn := ⟨48,2,[.t 4],B161⟩
abbrev L169_0 : CCode := (sR [(0,oP 12 (.bin .lss (.t 11) (.t 10)) [])] (.seq (.cond (.t 12) (sK [12] .skip) (sK [9,10,11,12] (.exit 0))) (.seq (.block 1 (sR [(0,oP 13 (.ia 1 (.t 9) (.t 11)) []),(1,oP 14 (.ld 1 false
(.t 13)) [13]),(2,oT 5 14 [14])] (sR [(0,oT 15 3 [3]),(1,oT 16 5 [5]),(2,oP 17 (.len (.t 16)) [16]),(3,oP 18 (.bin .add (.t 15) (.t 17)) [15,17]),(4,oT 3 18 [18])] (sR [(0,oT 19 3 []),(1,oP 20 (.bin .lss (.t 19) (.c
(.int .i64 0))) [19])] (.cond (.t 20) (sK [20] (.reg false [(0,oP 21 .fail [21]),(1,⟨none,.fail,none,[],[]⟩)])) (sK [20] .skip)))))) (.reg false [(0,oP 22 (.bin .add (.t 11) (.c (.int .i64 1))) [11]),(1,oT 11 22
[22])]))))
abbrev L169_1 : CCode := (sR [(0,oP 28 (.bin .lss (.t 27) (.t 26)) [])] (.seq (.cond (.t 28) (sK [28] .skip) (sK [25,26,27,28] (.exit 2))) (.seq (.block 3 (sR [(0,oP 29 (.ia 1 (.t 25) (.t 27)) []),(1,oP 30 (.ld 1 false
(.t 29)) [29]),(2,oT 8 30 [30])] (.reg false [(0,oT 31 6 [6]),(1,oT 32 8 [8]),(2,oP 33 (.app 1 8 (.t 31) (.t 32)) [31,32]),(3,oT 6 33 [33])]))) (.reg false [(0,oP 34 (.bin .add (.t 27) (.c (.int .i64 1))) [27]),(1,oT 27
34 [34])]))))
abbrev B169 : CCode := (sR [(0,oP 2 (.mv (.c (.nils))) [2])] (sR [(0,oP 3 (.mv (.c (.int .i64 0))) [])] (.seq (sR [(0,oT 9 0 []),(1,oP 10 (.len (.t 9)) []),(2,oP 11 (.mv (.c (.int .i64 0))) [])] (.block 0 (.loop
L169_0))) (sR [(0,oT 23 3 [3]),(1,oP 24 (.call 217 [(.c (.nils)),.t 23]) [23]),(2,oT 6 24 [24])] (.seq (sR [(0,oT 25 0 [0]),(1,oP 26 (.len (.t 25)) []),(2,oP 27 (.mv (.c (.int .i64 0))) [])] (.block 2 (.loop L169_1)))
(sR [(0,oT 35 6 [6]),(1,oT 2 35 [35])] .ret))))))
def C169 : CFn := ⟨36,1,[.t 2],B169⟩
abbrev L172_0 : CCode := (sR [(0,oP 10 (.bin .lss (.t 9) (.t 8)) [])] (.seq (.cond (.t 10) (sK [10] .skip) (sK [0,1,7,8,9,10] (.exit 0))) (.seq (.block 1 (sR [(0,oT 11 9 []),(1,oP 12 (.ia 1 (.t 7) (.t 9)) []),(2,oP 13
(.ld 1 false (.t 12)) [12]),(3,oT 5 11 [11]),(4,oT 6 13 [13])] (sR [(0,oT 14 6 []),(1,oT 15 1 []),(2,oP 16 (.bin .sub (.t 15) (.c (.int .i64 1))) [15]),(3,oP 17 (.call 122 [.t 14,(.c (.int .i64 0)),.t 16])
[14,16]),(4,oP 18 (.not (.t 17)) [17]),(5,oT 19 18 [18]),(6,oG 20 (.mv (.t 5)) 19 false []),(7,oG 21 (.bin .gtr (.t 20) (.c (.int .i64 0))) 19 false [20]),(8,oG 22 (.mv (.t 21)) 19 false [21]),(9,oG 23 (.mv (.t 0)) 22
true []),(10,oG 24 (.mv (.t 5)) 22 true [5]),(11,oG 25 (.bin .sub (.t 24) (.c (.int .i64 1))) 22 true [24]),(12,oG 26 (.ia 1 (.t 23) (.t 25)) 22 true []),(13,oG 27 (.ld 1 false (.t 26)) 22 true [23,25,26]),(14,oG 28
(.mv (.t 6)) 22 true [6]),(15,oG 29 (.bin .geq (.t 27) (.t 28)) 22 true [27,28]),(16,oG 30 (.pick (.t 22) (.t 29) (.c (.bool false))) 19 false [22,29]),(17,oP 31 (.pick (.t 19) (.c (.bool true)) (.t 30)) [19,30])]
(.cond (.t 31) (sK [0,1,7,8,9,31] (sR [(0,oP 4 (.mv (.c (.bool false))) [])] .ret)) (sK [31] .skip))))) (.reg false [(0,oP 32 (.bin .add (.t 9) (.c (.int .i64 1))) [9]),(1,oT 9 32 [32])]))))
abbrev B172 : CCode := (sR [(0,oP 4 (.mv (.c (.bool false))) [4])] (.seq (sR [(0,oT 7 0 []),(1,oP 8 (.len (.t 7)) []),(2,oP 9 (.mv (.c (.int .i64 0))) [])] (.block 0 (.loop L172_0))) (sR [(0,oP 4 (.mv (.c (.bool true)))
[])] .ret)))
def C172 : CFn := ⟨33,2,[.t 4],B172⟩
abbrev B173 : CCode := (sR [(0,oP 4 (.mv (.c (.bool false))) [4])] (sR [(0,oT 5 0 [0]),(1,oT 6 1 [1]),(2,oP 7 (.call 219 [.t 5,.t 6]) [5,6]),(3,oP 8 (.bin .geq (.t 7) (.c (.int .i64 0))) [7]),(4,oT 4 8 [8])] .ret))
def C173 : CFn := ⟨9,2,[.t 4],B173⟩
abbrev B174 : CCode := (sR [(0,oP 2 (.box 2 (.t 0)) [0]),(1,oP 3 (.mv (.c (.bool false))) [3])] (sR [(0,oP 4 (.fa 0 (.t 2)) []),(1,oP 5 (.ld 1 false (.t 4)) [2,4]),(2,oP 6 (.fa 0 (.t 1)) []),(3,oP 7 (.ld 1 false (.t 6))
[1,6]),(4,oP 8 (.bin .eql (.t 5) (.t 7)) [5,7]),(5,oT 3 8 [8])] .ret))
def C174 : CFn := ⟨9,2,[.t 3],B174⟩
abbrev B179 : CCode := (sR [(0,oP 1 (.box 3 (.t 0)) [0]),(1,oP 2 (.mv (.c (.bool false))) [2])] (sR [(0,oP 3 (.fa 0 (.t 1)) []),(1,oP 4 (.ld 1 false (.t 3)) [3]),(2,oP 5 (.lens (.t 4)) [4]),(3,oP 6 (.bin .eql (.t 5) (.c
(.int .i64 1))) [5]),(4,oT 7 6 [6]),(5,oG 8 (.fa 0 (.t 1)) 7 true []),(6,oG 9 (.ld 1 false (.t 8)) 7 true [8]),(7,oG 10 (.ix (.t 9) (.c (.int .i64 0))) 7 true [9]),(8,oG 11 (.bin .geq (.t 10) (.c (.int .u8 (97)))) 7
true [10]),(9,oP 12 (.pick (.t 7) (.t 11) (.c (.bool false))) [7,11]),(10,oT 13 12 [12]),(11,oG 14 (.fa 0 (.t 1)) 13 true []),(12,oG 15 (.ld 1 false (.t 14)) 13 true [14]),(13,oG 16 (.ix (.t 15) (.c (.int .i64 0))) 13
true [15]),(14,oG 17 (.bin .leq (.t 16) (.c (.int .u8 (122)))) 13 true [16]),(15,oP 18 (.pick (.t 13) (.t 17) (.c (.bool false))) [13,17]),(16,oT 19 18 [18]),(17,oG 20 (.fa 1 (.t 1)) 19 true []),(18,oG 21 (.ld 1 false
(.t 20)) 19 true [20]),(19,oG 22 (.call 118 [.t 21,(.c (.int .i64 1)),(.c (.int .i64 3))]) 19 true [21]),(20,oP 23 (.pick (.t 19) (.t 22) (.c (.bool false))) [19,22]),(21,oT 24 23 [23]),(22,oG 25 (.fa 2 (.t 1)) 24 true
[]),(23,oG 26 (.ld 1 false (.t 25)) 24 true [25]),(24,oG 27 (.fa 1 (.t 1)) 24 true []),(25,oG 28 (.ld 1 false (.t 27)) 24 true [1,27]),(26,oG 29 (.call 118 [.t 26,(.c (.int .i64 0)),.t 28]) 24 true [26,28]),(27,oP 30
(.pick (.t 24) (.t 29) (.c (.bool false))) [24,29]),(28,oT 2 30 [30])] .ret))
def C179 : CFn := ⟨31,1,[.t 2],B179⟩
abbrev L182_0 : CCode := (sR [(0,oP 9 (.bin .lss (.t 8) (.t 7)) [])] (.seq (.cond (.t 9) (sK [9] .skip) (sK [0,1,7,8,9] (.exit 0))) (.seq (.block 1 (sR [(0,oT 10 8 []),(1,oT 5 10 [10])] (sR [(0,oT 11 1 []),(1,oT 12 0
[]),(2,oT 13 5 []),(3,oP 14 (.ia 1 (.t 12) (.t 13)) []),(4,oP 15 (.ld 1 false (.t 14)) [12,13,14]),(5,oP 16 (.bin .eql (.t 11) (.t 15)) [11,15])] (.cond (.t 16) (sK [0,1,7,8,16] (sR [(0,oT 17 5 [5]),(1,oT 4 17 [17])]
.ret)) (sK [5,16] .skip))))) (.reg false [(0,oP 18 (.bin .add (.t 8) (.c (.int .i64 1))) [8]),(1,oT 8 18 [18])]))))
abbrev B182 : CCode := (sR [(0,oP 4 (.mv (.c (.int .i64 0))) [4])] (.seq (sR [(0,oT 6 0 []),(1,oP 7 (.len (.t 6)) [6]),(2,oP 8 (.mv (.c (.int .i64 0))) [])] (.block 0 (.loop L182_0))) (sR [(0,oP 4 (.mv (.c (.int .i64
(-1)))) [])] .ret)))
def C182 : CFn := ⟨19,2,[.t 4],B182⟩
abbrev L183_0 : CCode := (.seq (sR [(0,oT 8 4 []),(1,oT 9 0 []),(2,oP 10 (.len (.t 9)) [9]),(3,oP 11 (.bin .lss (.t 8) (.t 10)) [8,10]),(4,oT 12 11 [11]),(5,oG 13 (.mv (.t 4)) 12 true []),(6,oG 14 (.bin .lss (.t 13) (.c
(.int .i64 4000))) 12 true [13]),(7,oP 15 (.pick (.t 12) (.t 14) (.c (.bool false))) [12,14])] (.cond (.t 15) (sK [15] .skip) (sK [4,15] (.exit 0)))) (.seq (.block 1 (.reg false [(0,oT 18 3 [3]),(1,oP 19 (.bin .mul (.t
18) (.c (.int .i64 131))) [18]),(2,oT 20 0 []),(3,oT 21 4 []),(4,oP 22 (.ia 1 (.t 20) (.t 21)) []),(5,oP 23 (.ld 1 false (.t 22)) [20,21,22]),(6,oP 24 (.conv .i64 (.t 23)) [23]),(7,oP 25 (.bin .add (.t 19) (.t 24))
[19,24]),(8,oP 26 (.bin .add (.t 25) (.c (.int .i64 7))) [25]),(9,oP 27 (.bin .and (.t 26) (.c (.int .i64 1073741823))) [26]),(10,oT 3 27 [27])])) (.reg false [(0,oT 16 4 [4]),(1,oP 17 (.bin .add (.t 16) (.c (.int .i64
1))) [16]),(2,oT 4 17 [17])])))
abbrev B183 : CCode := (sR [(0,oP 2 (.mv (.c (.nilp))) [2])] (sR [(0,oT 5 0 []),(1,oP 6 (.len (.t 5)) [5]),(2,oP 7 (.bin .add (.c (.int .i64 10101)) (.t 6)) [6]),(3,oT 3 7 [7])] (.seq (sR [(0,oP 4 (.mv (.c (.int .i64
0))) [])] (.block 0 (.loop L183_0))) (sR [(0,oT 28 0 [0]),(1,oT 29 3 [3]),(2,oP 30 (.bld [.nils,.int .i64 (0),.int .i64 (0)] [(0,1,(.t 28)),(2,1,(.t 29))]) [28,29]),(3,oP 31 (.box 3 (.t 30)) [30]),(4,oT 2 31 [31])]
.ret))))
def C183 : CFn := ⟨32,1,[.t 2],B183⟩
abbrev L184_0 : CCode := (.seq (sR [(0,oT 15 5 []),(1,oP 16 (.bin .gtr (.t 15) (.c (.int .i64 0))) [15])] (.cond (.t 16) (sK [16] .skip) (sK [4,5,16] (.exit 0)))) (.seq (.block 1 (.reg true [(0,oP 20 (.ld 2 true (.t 3))
[]),(1,oT 21 0 []),(2,oP 22 (.fa 0 (.t 3)) []),(3,oP 23 (.ld 1 false (.t 22)) [22]),(4,oT 24 4 []),(5,⟨some 25,.call 224 [.t 21,.t 23,.t 24],none,[(3,2)],[21,23,24]⟩),(6,oP 26 (.call 223 [.t 20,.t 25]) [20,25]),(7,oT 19
26 [26]),(8,oP 27 (.ex (.t 19) 0) []),(9,oP 28 (.ex (.t 19) 1) [19,28]),(10,⟨none,.st 2 (.t 3) (.t 27),none,[],[27]⟩)])) (.reg false [(0,oT 17 5 [5]),(1,oP 18 (.bin .sub (.t 17) (.c (.int .i64 1))) [17]),(2,oT 5 18
[18])])))
abbrev B184 : CCode := (sR [(0,oP 2 (.al [.nils,.nils]) [])] (sR [(0,oT 6 0 []),(1,oP 7 (.call 218 [.t 6]) [6]),(2,oP 8 (.bld [.nils,.nils] [(0,1,(.t 7))]) [7]),(3,oP 3 (.al [.nils,.nils]) []),(4,⟨none,.st 2 (.t 3) (.t
8),none,[],[8]⟩)] (sR [(0,oT 9 0 []),(1,oP 10 (.bsl 1 4 [.int .i64 (0)] [(0,1,(.c (.int .i64 2))),(1,1,(.c (.int .i64 2))),(2,1,(.c (.int .i64 3))),(3,1,(.c (.int .i64 3)))]) []),(2,oP 11 (.call 189 [.t 9,.t 10])
[9,10]),(3,oT 4 11 [11])] (.seq (sR [(0,oT 12 0 []),(1,oP 13 (.call 186 [.t 12,(.c (.int .i64 11))]) [12]),(2,oP 14 (.bin .add (.c (.int .i64 2)) (.t 13)) [13]),(3,oT 5 14 [14])] (.block 0 (.loop L184_0))) (sR [(0,oP 29
(.ld 2 true (.t 3)) []),(1,⟨none,.st 2 (.t 2) (.t 29),none,[],[3,29]⟩)] .ret)))))
def C184 : CFn := ⟨30,1,[.m 2 2 true],B184⟩
abbrev L185_0 : CCode := (.seq (sR [(0,oT 16 6 []),(1,oP 17 (.fa 0 (.t 5)) []),(2,oP 18 (.ld 1 false (.t 17)) [17]),(3,oP 19 (.bin .lss (.t 16) (.t 18)) [16,18])] (.cond (.t 19) (sK [19] .skip) (sK [6,19] (.exit 0))))
(.seq (.block 1 (sR [(0,oT 22 0 []),(1,oP 23 (.call 128 [.t 22,(.c (.int .i64 3))]) [22])] (.cond (.t 23) (sK [23] (.reg false [(0,oP 24 (.fa 2 (.t 5)) []),(1,oP 25 (.ld 1 false (.t 24)) [24]),(2,oT 26 6 []),(3,oP 27
(.bsl 1 1 [.int .i64 (0)] [(0,1,(.t 26))]) [26]),(4,oP 28 (.app 1 8 (.t 25) (.t 27)) [25,27]),(5,oP 29 (.fa 2 (.t 5)) []),(6,⟨none,.st 1 (.t 29) (.t 28),none,[],[28,29]⟩)])) (sK [23] .skip)))) (.reg false [(0,oT 20 6
[6]),(1,oP 21 (.bin .add (.t 20) (.c (.int .i64 1))) [20]),(2,oT 6 21 [21])])))
abbrev B185 : CCode := (sR [(0,oP 4 (.al [.int .i64 (0),.nils,.nils]) [])] (sR [(0,oT 7 0 []),(1,oP 8 (.call 225 [.t 7]) [7]),(2,oP 5 (.al [.int .i64 (0),.nils,.nils]) []),(3,⟨none,.st 3 (.t 5) (.t 8),none,[],[8]⟩)]
(.seq (sR [(0,oT 9 0 []),(1,oP 10 (.call 128 [.t 9,(.c (.int .i64 3))]) [9])] (.cond (.t 10) (sK [10] (.reg false [(0,oT 11 0 []),(1,oT 12 1 [1]),(2,oP 13 (.call 226 [.t 11,.t 12]) [11,12]),(3,⟨none,.st 3 (.t 5) (.t
13),none,[],[13]⟩)])) (sK [1,10] .skip))) (.seq (sR [(0,oT 14 0 []),(1,oP 15 (.call 128 [.t 14,(.c (.int .i64 4))]) [14])] (.cond (.t 15) (sK [15] (sR [(0,oP 6 (.mv (.c (.int .i64 0))) [])] (.block 0 (.loop L185_0))))
(sK [15] .skip))) (sR [(0,oP 30 (.ld 3 true (.t 5)) []),(1,⟨none,.st 3 (.t 4) (.t 30),none,[],[5,30]⟩)] .ret)))))
def C185 : CFn := ⟨31,2,[.m 4 3 true],B185⟩
abbrev B186 : CCode := (sR [(0,oP 4 (.mv (.c (.int .i64 0))) [4])] (.seq (sR [(0,oT 9 1 []),(1,oP 10 (.bin .leq (.t 9) (.c (.int .i64 0))) [9])] (.cond (.t 10) (sK [1,10] (sR [(0,oP 4 (.mv (.c (.int .i64 0))) [])]
.ret)) (sK [10] .skip))) (.seq (sR [(0,oT 11 1 []),(1,oP 12 (.bin .leq (.t 11) (.c (.int .i64 256))) [11])] (.cond (.t 12) (sK [12] (sR [(0,oT 13 0 []),(1,oP 14 (.call 227 [.t 13]) [13]),(2,oT 15 1 [1]),(3,oP 16 (.bin
.rem (.t 14) (.t 15)) [14,15]),(4,oT 4 16 [16])] .ret)) (sK [12] .skip))) (sR [(0,oT 17 0 []),(1,oP 18 (.call 227 [.t 17]) [17]),(2,oT 5 18 [18])] (sR [(0,oT 19 0 []),(1,oP 20 (.call 227 [.t 19]) [19]),(2,oT 6 20 [20])]
(sR [(0,oT 21 0 []),(1,oP 22 (.call 227 [.t 21]) [21]),(2,oT 7 22 [22])] (sR [(0,oT 23 0 []),(1,oP 24 (.call 227 [.t 23]) [23]),(2,oT 8 24 [24])] (sR [(0,oT 25 5 [5]),(1,oP 26 (.bin .mul (.t 25) (.c (.int .i64
16777216))) [25]),(2,oT 27 6 [6]),(3,oP 28 (.bin .mul (.t 27) (.c (.int .i64 65536))) [27]),(4,oP 29 (.bin .add (.t 26) (.t 28)) [26,28]),(5,oT 30 7 [7]),(6,oP 31 (.bin .mul (.t 30) (.c (.int .i64 256))) [30]),(7,oP 32
(.bin .add (.t 29) (.t 31)) [29,31]),(8,oT 33 8 [8]),(9,oP 34 (.bin .add (.t 32) (.t 33)) [32,33]),(10,oT 35 1 [1]),(11,oP 36 (.bin .rem (.t 34) (.t 35)) [34,35]),(12,oT 4 36 [36])] .ret))))))))
def C186 : CFn := ⟨37,2,[.t 4],B186⟩
abbrev B187 : CCode := (sR [(0,oP 2 (.al [.nils,.nils]) [])] (sR [(0,oT 4 0 []),(1,oP 5 (.call 184 [.t 4]) [4]),(2,oP 3 (.al [.nils,.nils]) []),(3,⟨none,.st 2 (.t 3) (.t 5),none,[],[5]⟩)] (.seq (sR [(0,oT 6 0 []),(1,oP
7 (.call 186 [.t 6,(.c (.int .i64 14))]) [6])] (.block 0 (sR [(0,oP 9 (.bin .eql (.t 7) (.c (.int .i64 0))) []),(1,oT 8 9 [9])] (.cond (.t 8) (sK [7,8] (.reg true [(0,oP 10 (.fa 1 (.t 3)) []),(1,oP 11 (.ld 1 false (.t
10)) []),(2,oT 12 0 []),(3,oP 13 (.fa 0 (.t 3)) []),(4,oP 14 (.ld 1 false (.t 13)) [13]),(5,⟨some 15,.call 228 [.t 12,.t 14],none,[(10,1)],[10,12,14]⟩),(6,oP 16 (.bsl 2 1 [.int .i64 (0),.nils] [(0,2,(.t 15))])
[15]),(7,oP 17 (.app 2 32 (.t 11) (.t 16)) [11,16]),(8,oP 18 (.fa 1 (.t 3)) []),(9,⟨none,.st 1 (.t 18) (.t 17),none,[],[17,18]⟩)])) (sK [8] (sR [(0,oP 20 (.bin .eql (.t 7) (.c (.int .i64 1))) []),(1,oT 19 20 [20])]
(.cond (.t 19) (sK [7,19] (.reg true [(0,oP 21 (.fa 0 (.t 3)) []),(1,oP 22 (.ld 1 false (.t 21)) []),(2,oT 23 0 []),(3,⟨some 24,.call 186 [.t 23,(.c (.int .i64 4))],none,[(21,1)],[21,23]⟩),(4,oP 25 (.sls 3 (.t 22) none
(some (.t 24)) none) [22,24]),(5,oP 26 (.fa 0 (.t 3)) []),(6,⟨none,.st 1 (.t 26) (.t 25),none,[],[25,26]⟩)])) (sK [19] (sR [(0,oP 28 (.bin .eql (.t 7) (.c (.int .i64 2))) [7]),(1,oT 27 28 [28])] (.cond (.t 27) (sK [27]
(.reg true [(0,oP 29 (.fa 0 (.t 3)) []),(1,oP 30 (.ld 1 false (.t 29)) []),(2,oT 31 0 []),(4,oT 33 0 []),(3,⟨some 32,.call 186 [.t 31,(.c (.int .i64 4))],none,[(29,1)],[31]⟩),(5,⟨some 34,.call 229 [.t
33],none,[(29,1)],[29,33]⟩),(6,oP 35 (.ia 3 (.t 30) (.t 32)) [30]),(7,⟨none,.st 3 (.t 35) (.t 34),none,[],[32,34,35]⟩)])) (sK [27] .skip))))))))))) (sR [(0,oP 36 (.ld 2 true (.t 3)) []),(1,⟨none,.st 2 (.t 2) (.t
36),none,[],[3,36]⟩)] .ret))))
def C187 : CFn := ⟨37,1,[.m 2 2 true],B187⟩
abbrev B188 : CCode := (sR [(0,oP 4 (.al [.int .i64 (0),.nils,.nils]) [])] (sR [(0,oT 6 0 []),(1,oT 7 1 [1]),(2,oP 8 (.call 185 [.t 6,.t 7]) [6,7]),(3,oP 5 (.al [.int .i64 (0),.nils,.nils]) []),(4,⟨none,.st 3 (.t 5) (.t
8),none,[],[8]⟩)] (.seq (sR [(0,oT 9 0 []),(1,oP 10 (.call 186 [.t 9,(.c (.int .i64 14))]) [9])] (.block 0 (sR [(0,oP 12 (.bin .eql (.t 10) (.c (.int .i64 0))) []),(1,oT 11 12 [12])] (.cond (.t 11) (sK [10,11] (.reg
false [(0,oT 13 0 []),(1,oP 14 (.fa 0 (.t 5)) []),(2,oP 15 (.ld 1 false (.t 14)) [14]),(3,oP 16 (.bin .add (.t 15) (.c (.int .i64 1))) [15]),(4,oP 17 (.bsl 1 3 [.int .i64 (0)] [(0,1,(.c (.int .i64 (-1)))),(1,1,(.t
16)),(2,1,(.c (.int .i64 5)))]) [16]),(5,oP 18 (.call 189 [.t 13,.t 17]) [13,17]),(6,oP 19 (.fa 0 (.t 5)) []),(7,⟨none,.st 1 (.t 19) (.t 18),none,[],[18,19]⟩)])) (sK [11] (sR [(0,oP 21 (.bin .eql (.t 10) (.c (.int .i64
1))) []),(1,oT 20 21 [21])] (.cond (.t 20) (sK [10,20] (.reg true [(0,oP 22 (.fa 1 (.t 5)) []),(1,oP 23 (.ld 1 false (.t 22)) []),(2,oT 24 0 []),(5,oP 27 (.bsl 1 2 [.int .i64 (0)] [(0,1,(.c (.int .i64 0))),(1,1,(.c
(.int .i64 0)))]) []),(3,⟨some 25,.call 186 [.t 24,(.c (.int .i64 6))],none,[(22,1)],[22,24]⟩),(4,oP 26 (.bin .sub (.t 25) (.c (.int .i64 1))) [25]),(6,oP 28 (.bld [.int .i64 (0),.nils] [(0,1,(.t 26)),(1,1,(.t 27))])
[26,27]),(7,oP 29 (.bsl 2 1 [.int .i64 (0),.nils] [(0,2,(.t 28))]) [28]),(8,oP 30 (.app 2 32 (.t 23) (.t 29)) [23,29]),(9,oP 31 (.fa 1 (.t 5)) []),(10,⟨none,.st 1 (.t 31) (.t 30),none,[],[30,31]⟩)])) (sK [20] (sR [(0,oP
33 (.bin .eql (.t 10) (.c (.int .i64 2))) []),(1,oT 32 33 [33])] (.cond (.t 32) (sK [10,32] (.reg true [(0,oP 34 (.fa 1 (.t 5)) []),(1,oP 35 (.ld 1 false (.t 34)) []),(2,oP 36 (.ia 2 (.t 35) (.c (.int .i64 0)))
[35]),(3,oP 37 (.fa 1 (.t 36)) [36]),(4,oP 38 (.ld 1 false (.t 37)) []),(5,oT 39 0 []),(6,oP 40 (.bsl 1 3 [.int .i64 (0)] [(0,1,(.c (.int .i64 (-11)))),(1,1,(.c (.int .i64 4))),(2,1,(.c (.int .i64 3)))]) []),(7,⟨some
41,.call 189 [.t 39,.t 40],none,[(34,1),(37,1)],[34,37,39,40]⟩),(8,oP 42 (.ia 1 (.t 38) (.c (.int .i64 0))) [38]),(9,⟨none,.st 1 (.t 42) (.t 41),none,[],[41,42]⟩)])) (sK [32] (sR [(0,oP 44 (.bin .eql (.t 10) (.c (.int
.i64 3))) [10]),(1,oT 43 44 [44])] (.cond (.t 43) (sK [43] (.reg true [(0,oP 45 (.fa 2 (.t 5)) []),(1,oP 46 (.ld 1 false (.t 45)) []),(2,oT 47 0 []),(3,⟨some 48,.call 186 [.t 47,(.c (.int .i64
5))],none,[(45,1)],[45,47]⟩),(4,oP 49 (.bsl 1 1 [.int .i64 (0)] [(0,1,(.t 48))]) [48]),(5,oP 50 (.app 1 8 (.t 46) (.t 49)) [46,49]),(6,oP 51 (.fa 2 (.t 5)) []),(7,⟨none,.st 1 (.t 51) (.t 50),none,[],[50,51]⟩)])) (sK
[43] .skip)))))))))))))) (sR [(0,oP 52 (.ld 3 true (.t 5)) []),(1,⟨none,.st 3 (.t 4) (.t 52),none,[],[5,52]⟩)] .ret))))
def C188 : CFn := ⟨53,2,[.m 4 3 true],B188⟩
abbrev B189 : CCode := (sR [(0,oP 4 (.mv (.c (.int .i64 0))) [4])] (sR [(0,oT 5 1 []),(1,oT 6 0 []),(2,oT 7 1 []),(3,oP 8 (.len (.t 7)) [7]),(4,oP 9 (.call 186 [.t 6,.t 8]) [6,8]),(5,oP 10 (.ia 1 (.t 5) (.t 9))
[]),(6,oP 11 (.ld 1 false (.t 10)) [5,9,10]),(7,oT 4 11 [11])] .ret))
def C189 : CFn := ⟨12,2,[.t 4],B189⟩
abbrev L190_0 : CCode := (sR [(0,oP 16 (.bin .lss (.t 15) (.t 14)) [])] (.seq (.cond (.t 16) (sK [16] .skip) (sK [1,13,14,15,16] (.exit 0))) (.seq (.block 1 (sR [(0,oP 17 (.ia 2 (.t 13) (.t 15)) []),(1,oP 18 (.ld 2 true
(.t 17)) [17]),(2,oP 5 (.al [.int .i64 (0),.nils]) []),(3,⟨none,.st 2 (.t 5) (.t 18),none,[],[18]⟩)] (.reg true [(0,oP 19 (.fa 1 (.t 3)) []),(1,oP 20 (.ld 1 false (.t 19)) []),(2,oP 21 (.fa 0 (.t 5)) []),(3,oP 22 (.ld 1
false (.t 21)) []),(4,oP 23 (.bsl 1 0 [.int .i64 (0)] []) []),(5,oP 24 (.fa 1 (.t 5)) []),(6,oP 25 (.ld 1 false (.t 24)) [24]),(7,⟨some 26,.app 1 8 (.t 23) (.t 25),none,[(19,1),(21,1)],[5,19,21,23,25]⟩),(8,oP 27 (.bld
[.int .i64 (0),.nils] [(0,1,(.t 22)),(1,1,(.t 26))]) [22,26]),(9,oP 28 (.bsl 2 1 [.int .i64 (0),.nils] [(0,2,(.t 27))]) [27]),(10,oP 29 (.app 2 32 (.t 20) (.t 28)) [20,28]),(11,oP 30 (.fa 1 (.t 3)) []),(12,⟨none,.st 1
(.t 30) (.t 29),none,[],[29,30]⟩)]))) (.reg false [(0,oP 31 (.bin .add (.t 15) (.c (.int .i64 1))) [15]),(1,oT 15 31 [31])]))))
abbrev B190 : CCode := (sR [(0,oP 1 (.box 2 (.t 0)) [0]),(1,oP 2 (.al [.nils,.nils]) [])] (sR [(0,oP 6 (.bsl 3 0 [.str [],.int .i64 (0),.int .i64 (0)] []) []),(1,oP 7 (.fa 0 (.t 1)) []),(2,oP 8 (.ld 1 false (.t 7))
[7]),(3,oP 9 (.app 3 32 (.t 6) (.t 8)) [6,8]),(4,oP 10 (.bsl 2 0 [.int .i64 (0),.nils] []) []),(5,oP 11 (.bld [.nils,.nils] [(0,1,(.t 9)),(1,1,(.t 10))]) [9,10]),(6,oP 3 (.al [.nils,.nils]) []),(7,⟨none,.st 2 (.t 3) (.t
11),none,[],[11]⟩)] (.seq (sR [(0,oP 12 (.fa 1 (.t 1)) []),(1,oP 13 (.ld 1 false (.t 12)) [12]),(2,oP 14 (.len (.t 13)) []),(3,oP 15 (.mv (.c (.int .i64 0))) [])] (.block 0 (.loop L190_0))) (sR [(0,oP 32 (.ld 2 true (.t
3)) []),(1,⟨none,.st 2 (.t 2) (.t 32),none,[],[3,32]⟩)] .ret))))
def C190 : CFn := ⟨33,1,[.m 2 2 true],B190⟩
abbrev L191_0 : CCode := (.seq (sR [(0,oT 29 12 []),(1,oP 30 (.fa 1 (.t 5)) []),(2,oP 31 (.ld 1 false (.t 30)) [30]),(3,oP 32 (.len (.t 31)) [31]),(4,oP 33 (.bin .lss (.t 29) (.t 32)) [29,32])] (.cond (.t 33) (sK [33]
.skip) (sK [2,3,4,5,6,12,33] (.exit 0)))) (.seq (.block 1 (.seq (.reg true [(0,oP 37 (.fa 1 (.t 6)) []),(1,oP 38 (.ld 1 false (.t 37)) [37]),(2,oT 39 2 []),(3,oP 40 (.ia 2 (.t 38) (.t 39)) [38]),(4,oP 41 (.ld 2 true (.t
40)) [40]),(5,oP 42 (.fa 1 (.t 5)) []),(6,oP 43 (.ld 1 false (.t 42)) [42]),(7,oT 44 12 []),(8,oP 45 (.ia 2 (.t 43) (.t 44)) [43]),(9,oP 46 (.ld 2 true (.t 45)) [45]),(10,oT 47 3 []),(11,oP 48 (.call 153 [.t 41,.t 46,.t
47]) [39,41,44,46,47]),(12,oT 36 48 [48]),(13,oP 49 (.ex (.t 36) 0) []),(14,oP 50 (.ex (.t 36) 1) [36]),(15,oT 13 49 [49]),(16,oT 14 50 [50])]) (sR [(0,oT 51 14 [14])] (.cond (.t 51) (sK [51] (.reg true [(0,oT 52 11
[11]),(1,oP 53 (.ld 2 true (.t 5)) []),(2,oP 54 (.ld 3 true (.t 6)) []),(3,oT 55 2 []),(4,oP 56 (.bin .add (.t 55) (.c (.int .i64 1))) [55]),(5,oT 57 13 [13]),(6,oP 58 (.bsl 1 0 [.int .i64 (0)] []) []),(7,oT 59 4
[]),(9,oT 61 12 []),(10,oP 62 (.bsl 1 1 [.int .i64 (0)] [(0,1,(.t 61))]) [61]),(8,⟨some 60,.app 1 8 (.t 58) (.t 59),none,[(5,2),(6,3)],[58,59]⟩),(11,⟨some 63,.app 1 8 (.t 60) (.t 62),none,[(5,2),(6,3)],[60,62]⟩),(12,oP
64 (.call 191 [.t 53,.t 54,.t 56,.t 57,.t 63]) [53,54,56,57,63]),(13,oP 65 (.app 2 48 (.t 52) (.t 64)) [52,64]),(14,oT 11 65 [65])])) (sK [13,51] .skip))))) (.reg false [(0,oT 34 12 [12]),(1,oP 35 (.bin .add (.t 34) (.c
(.int .i64 1))) [34]),(2,oT 12 35 [35])])))
abbrev B191 : CCode := (sR [(0,oP 5 (.box 2 (.t 0)) [0]),(1,oP 6 (.box 3 (.t 1)) [1]),(2,oP 10 (.mv (.c (.nils))) [10])] (.seq (sR [(0,oT 15 2 []),(1,oP 16 (.fa 1 (.t 6)) []),(2,oP 17 (.ld 1 false (.t 16)) [16]),(3,oP
18 (.len (.t 17)) [17]),(4,oP 19 (.bin .eql (.t 15) (.t 18)) [15,18])] (.cond (.t 19) (sK [2,5,6,19] (sR [(0,oP 20 (.bsl 1 0 [.int .i64 (0)] []) []),(1,oT 21 3 [3]),(2,oP 22 (.app 1 8 (.t 20) (.t 21)) [20,21]),(3,oP 23
(.bsl 1 0 [.int .i64 (0)] []) []),(4,oT 24 4 [4]),(5,oP 25 (.app 1 8 (.t 23) (.t 24)) [23,24]),(6,oP 26 (.bld [.nils,.nils] [(0,1,(.t 22)),(1,1,(.t 25))]) [22,25]),(7,oP 27 (.bsl 2 1 [.nils,.nils] [(0,2,(.t 26))])
[26]),(8,oT 10 27 [27])] .ret)) (sK [19] .skip))) (sR [(0,oP 28 (.bsl 2 0 [.nils,.nils] []) []),(1,oT 11 28 [28])] (.seq (sR [(0,oP 12 (.mv (.c (.int .i64 0))) [])] (.block 0 (.loop L191_0))) (sR [(0,oT 66 11
[11]),(1,oT 10 66 [66])] .ret)))))
def C191 : CFn := ⟨67,5,[.t 10],B191⟩
abbrev B192 : CCode := (sR [(0,oP 2 (.mv (.c (.bool false))) [2])] (sR [(0,oT 3 0 [0]),(1,oP 4 (.bin .geq (.t 3) (.c (.int .i64 0))) [3]),(2,oT 2 4 [4])] .ret))
def C192 : CFn := ⟨5,1,[.t 2],B192⟩
abbrev B193 : CCode := (sR [(0,oP 2 (.mv (.c (.int .i64 0))) [2])] (sR [(0,oT 3 0 [0]),(1,oP 4 (.bin .sub (.c (.int .i64 (-1))) (.t 3)) [3]),(2,oT 2 4 [4])] .ret))
def C193 : CFn := ⟨5,1,[.t 2],B193⟩
abbrev L194_0 : CCode := (sR [(0,oP 9 (.bin .lss (.t 8) (.t 7)) [])] (.seq (.cond (.t 9) (sK [9] .skip) (sK [0,1,7,8,9] (.exit 0))) (.seq (.block 1 (sR [(0,oT 10 8 []),(1,oT 5 10 [10])] (sR [(0,oT 11 1 []),(1,oT 12 0
[]),(2,oT 13 5 []),(3,oP 14 (.ia 1 (.t 12) (.t 13)) []),(4,oP 15 (.ld 1 false (.t 14)) [14]),(5,oP 16 (.callv (.t 11) [.t 15]) [11,12,13,15])] (.cond (.t 16) (sK [0,1,7,8,16] (sR [(0,oT 17 5 [5]),(1,oT 4 17 [17])]
.ret)) (sK [5,16] .skip))))) (.reg false [(0,oP 18 (.bin .add (.t 8) (.c (.int .i64 1))) [8]),(1,oT 8 18 [18])]))))
abbrev B194 : CCode := (sR [(0,oP 4 (.mv (.c (.int .i64 0))) [4])] (.seq (sR [(0,oT 6 0 []),(1,oP 7 (.len (.t 6)) [6]),(2,oP 8 (.mv (.c (.int .i64 0))) [])] (.block 0 (.loop L194_0))) (sR [(0,oP 4 (.mv (.c (.int .i64
(-1)))) [])] .ret)))
def C194 : CFn := ⟨19,2,[.t 4],B194⟩
abbrev B195 : CCode := (sR [(0,oP 3 (.mv (.c (.bool false))) [3])] (sR [(0,oP 4 (.ld 1 false (.t 1)) []),(1,oT 5 0 [0]),(2,oP 6 (.call 125 [.t 4,.t 5]) [1,4,5]),(3,oP 7 (.not (.t 6)) [6]),(4,oT 3 7 [7])] .ret))
def C195 : CFn := ⟨8,2,[.t 3],B195⟩
abbrev L198_0 : CCode := (.seq (sR [(0,oT 8 6 []),(1,oP 9 (.fa 1 (.t 2)) []),(2,oP 10 (.ld 1 false (.t 9)) [9]),(3,oP 11 (.len (.t 10)) [10]),(4,oP 12 (.bin .lss (.t 8) (.t 11)) [8,11]),(5,oT 13 12 [12]),(6,oG 14 (.ld 2
true (.t 2)) 13 true []),(7,oG 15 (.call 73 [.t 14]) 13 true [14]),(8,oP 16 (.pick (.t 13) (.t 15) (.c (.bool false))) [13,15]),(9,oT 17 16 [16]),(10,oG 18 (.mv (.t 1)) 17 true []),(11,oG 19 (.fa 1 (.t 2)) 17 true
[]),(12,oG 20 (.ld 1 false (.t 19)) 17 true [19]),(13,oG 21 (.len (.t 20)) 17 true [20]),(14,oG 22 (.bin .sub (.t 21) (.c (.int .i64 1))) 17 true [21]),(15,oG 23 (.call 118 [.t 18,(.c (.int .i64 0)),.t 22]) 17 true
[18,22]),(16,oP 24 (.pick (.t 17) (.t 23) (.c (.bool false))) [17,23])] (.cond (.t 24) (sK [24] .skip) (sK [1,2,6,24] (.exit 0)))) (.seq (.block 1 (.seq (.reg true [(0,oP 27 (.fa 0 (.t 2)) []),(1,oP 28 (.ld 1 false (.t
27)) [27]),(2,oP 29 (.fa 1 (.t 2)) []),(3,oP 30 (.ld 1 false (.t 29)) [29]),(4,oT 31 1 []),(5,oP 32 (.ia 2 (.t 30) (.t 31)) [30]),(6,oP 33 (.ld 2 true (.t 32)) [32]),(7,oP 34 (.fa 1 (.t 2)) []),(8,oP 35 (.ld 1 false (.t
34)) [34]),(9,oT 36 6 []),(10,oP 37 (.ia 2 (.t 35) (.t 36)) [35]),(11,oP 38 (.ld 2 true (.t 37)) [37]),(12,oP 39 (.call 241 [.t 28,.t 33,.t 38]) [28,31,33,36,38])]) (.cond (.t 39) (sK [39] (.reg false [(0,oT 40 5
[5]),(1,oT 41 6 []),(2,oP 42 (.bsl 1 1 [.int .i64 (0)] [(0,1,(.t 41))]) [41]),(3,oP 43 (.app 1 8 (.t 40) (.t 42)) [40,42]),(4,oT 5 43 [43])])) (sK [39] .skip)))) (.reg false [(0,oT 25 6 [6]),(1,oP 26 (.bin .add (.t 25)
(.c (.int .i64 1))) [25]),(2,oT 6 26 [26])])))
abbrev B198 : CCode := (sR [(0,oP 2 (.box 2 (.t 0)) [0]),(1,oP 4 (.mv (.c (.nils))) [4])] (sR [(0,oP 7 (.bsl 1 0 [.int .i64 (0)] []) []),(1,oT 5 7 [7])] (.seq (sR [(0,oP 6 (.mv (.c (.int .i64 0))) [])] (.block 0 (.loop
L198_0))) (sR [(0,oT 44 5 [5]),(1,oT 4 44 [44])] .ret))))
def C198 : CFn := ⟨45,2,[.t 4],B198⟩
abbrev L207_0 : CCode := (.seq (sR [(0,oT 6 5 []),(1,oT 7 0 []),(2,oP 8 (.len (.t 7)) [7]),(3,oP 9 (.bin .lss (.t 6) (.t 8)) [6,8]),(4,oT 10 9 [9]),(5,oG 11 (.mv (.t 5)) 10 true []),(6,oG 12 (.mv (.t 1)) 10 true
[]),(7,oG 13 (.len (.t 12)) 10 true [12]),(8,oG 14 (.bin .lss (.t 11) (.t 13)) 10 true [11,13]),(9,oP 15 (.pick (.t 10) (.t 14) (.c (.bool false))) [10,14])] (.cond (.t 15) (sK [15] .skip) (sK [5,15] (.exit 0)))) (.seq
(.block 1 (.seq (.seq (.reg true [(0,oT 18 0 []),(1,oT 19 5 []),(2,oP 20 (.ia 1 (.t 18) (.t 19)) []),(3,oP 21 (.ld 1 false (.t 20)) [18,19,20]),(4,oT 22 1 []),(5,oT 23 5 []),(6,oP 24 (.ia 1 (.t 22) (.t 23)) []),(7,oP 25
(.ld 1 false (.t 24)) [22,23,24]),(8,oP 26 (.bin .lss (.t 21) (.t 25)) [21,25])]) (.cond (.t 26) (sK [0,1,5,26] (sR [(0,oP 4 (.mv (.c (.int .i64 (-1)))) [])] .ret)) (sK [26] .skip))) (.seq (.reg true [(0,oT 27 0
[]),(1,oT 28 5 []),(2,oP 29 (.ia 1 (.t 27) (.t 28)) []),(3,oP 30 (.ld 1 false (.t 29)) [27,28,29]),(4,oT 31 1 []),(5,oT 32 5 []),(6,oP 33 (.ia 1 (.t 31) (.t 32)) []),(7,oP 34 (.ld 1 false (.t 33)) [31,32,33]),(8,oP 35
(.bin .gtr (.t 30) (.t 34)) [30,34])]) (.cond (.t 35) (sK [0,1,5,35] (sR [(0,oP 4 (.mv (.c (.int .i64 1))) [])] .ret)) (sK [35] .skip))))) (.reg false [(0,oT 16 5 [5]),(1,oP 17 (.bin .add (.t 16) (.c (.int .i64 1)))
[16]),(2,oT 5 17 [17])])))
abbrev B207 : CCode := (sR [(0,oP 4 (.mv (.c (.int .i64 0))) [4])] (.seq (sR [(0,oP 5 (.mv (.c (.int .i64 0))) [])] (.block 0 (.loop L207_0))) (.seq (sR [(0,oT 36 0 []),(1,oP 37 (.len (.t 36)) [36]),(2,oT 38 1 []),(3,oP
39 (.len (.t 38)) [38]),(4,oP 40 (.bin .lss (.t 37) (.t 39)) [37,39])] (.cond (.t 40) (sK [0,1,40] (sR [(0,oP 4 (.mv (.c (.int .i64 (-1)))) [])] .ret)) (sK [40] .skip))) (.seq (sR [(0,oT 41 0 [0]),(1,oP 42 (.len (.t
41)) [41]),(2,oT 43 1 [1]),(3,oP 44 (.len (.t 43)) [43]),(4,oP 45 (.bin .gtr (.t 42) (.t 44)) [42,44])] (.cond (.t 45) (sK [45] (sR [(0,oP 4 (.mv (.c (.int .i64 1))) [])] .ret)) (sK [45] .skip))) (sR [(0,oP 4 (.mv (.c
(.int .i64 0))) [])] .ret)))))
def C207 : CFn := ⟨46,2,[.t 4],B207⟩
abbrev B208 : CCode := (sR [(0,oP 1 (.box 3 (.t 0)) [0]),(1,oP 2 (.mv (.c (.bool false))) [2])] (sR [(0,oP 3 (.fa 0 (.t 1)) []),(1,oP 4 (.ld 1 false (.t 3)) [3]),(2,oP 5 (.lens (.t 4)) [4]),(3,oP 6 (.bin .eql (.t 5) (.c
(.int .i64 1))) [5]),(4,oT 7 6 [6]),(5,oG 8 (.fa 0 (.t 1)) 7 true []),(6,oG 9 (.ld 1 false (.t 8)) 7 true [8]),(7,oG 10 (.ix (.t 9) (.c (.int .i64 0))) 7 true [9]),(8,oG 11 (.bin .geq (.t 10) (.c (.int .u8 (97)))) 7
true [10]),(9,oP 12 (.pick (.t 7) (.t 11) (.c (.bool false))) [7,11]),(10,oT 13 12 [12]),(11,oG 14 (.fa 0 (.t 1)) 13 true []),(12,oG 15 (.ld 1 false (.t 14)) 13 true [14]),(13,oG 16 (.ix (.t 15) (.c (.int .i64 0))) 13
true [15]),(14,oG 17 (.bin .leq (.t 16) (.c (.int .u8 (122)))) 13 true [16]),(15,oP 18 (.pick (.t 13) (.t 17) (.c (.bool false))) [13,17]),(16,oT 19 18 [18]),(17,oG 20 (.fa 1 (.t 1)) 19 true []),(18,oG 21 (.ld 1 false
(.t 20)) 19 true [20]),(19,oG 22 (.call 122 [.t 21,(.c (.int .i64 1)),(.c (.int .i64 3))]) 19 true [21]),(20,oP 23 (.pick (.t 19) (.t 22) (.c (.bool false))) [19,22]),(21,oT 24 23 [23]),(22,oG 25 (.fa 2 (.t 1)) 24 true
[]),(23,oG 26 (.ld 1 false (.t 25)) 24 true [25]),(24,oG 27 (.fa 1 (.t 1)) 24 true []),(25,oG 28 (.ld 1 false (.t 27)) 24 true [1,27]),(26,oG 29 (.call 122 [.t 26,(.c (.int .i64 0)),.t 28]) 24 true [26,28]),(27,oP 30
(.pick (.t 24) (.t 29) (.c (.bool false))) [24,29]),(28,oT 2 30 [30])] .ret))
def C208 : CFn := ⟨31,1,[.t 2],B208⟩
abbrev B209 : CCode := (sR [(0,oP 2 (.mv (.c (.bool false))) [2])] (sR [(0,oT 3 0 [0]),(1,oP 4 (.call 159 [.t 3,(.c (.fn 245 []))]) [3]),(2,oP 5 (.not (.t 4)) [4]),(3,oT 2 5 [5])] .ret))
def C209 : CFn := ⟨6,1,[.t 2],B209⟩
abbrev B210 : CCode := (sR [(0,oP 4 (.mv (.c (.int .i64 0))) [4])] (.seq (.block 0 (sR [(0,oT 6 0 []),(1,oT 7 1 []),(2,oP 8 (.bin .lss (.t 6) (.t 7)) [6,7]),(3,oT 5 8 [8])] (.cond (.t 5) (sK [0,1,5] (sR [(0,oP 4 (.mv
(.c (.int .i64 (-1)))) [])] .ret)) (sK [5] (sR [(0,oT 10 0 [0]),(1,oT 11 1 [1]),(2,oP 12 (.bin .gtr (.t 10) (.t 11)) [10,11]),(3,oT 9 12 [12])] (.cond (.t 9) (sK [9] (sR [(0,oP 4 (.mv (.c (.int .i64 1))) [])] .ret)) (sK
[9] .skip))))))) (sR [(0,oP 4 (.mv (.c (.int .i64 0))) [])] .ret)))
def C210 : CFn := ⟨13,2,[.t 4],B210⟩
abbrev L211_0 : CCode := (sR [(0,oP 12 (.bin .lss (.t 11) (.t 10)) [])] (.seq (.cond (.t 12) (sK [12] .skip) (sK [9,10,11,12] (.exit 0))) (.seq (.block 1 (sR [(0,oT 13 11 []),(1,oP 14 (.ia 1 (.t 9) (.t 11)) []),(2,oP 15
(.ld 1 false (.t 14)) [14]),(3,oT 5 13 [13]),(4,oT 6 15 [15])] (.seq (sR [(0,oT 16 5 []),(1,oT 17 1 []),(2,oP 18 (.len (.t 17)) [17]),(3,oP 19 (.bin .geq (.t 16) (.t 18)) [16,18])] (.cond (.t 19) (sK
[0,1,5,6,9,10,11,19] (sR [(0,oP 4 (.mv (.c (.int .i64 1))) [])] .ret)) (sK [19] .skip))) (sR [(0,oT 20 1 []),(1,oT 21 5 [5]),(2,oP 22 (.ia 1 (.t 20) (.t 21)) []),(3,oP 23 (.ld 1 false (.t 22)) [20,21,22]),(4,oT 7 23
[23])] (sR [(0,oT 24 6 [6]),(1,oT 25 7 [7]),(2,oP 26 (.call 246 [.t 24,.t 25]) [24,25]),(3,oT 8 26 [26])] (sR [(0,oT 27 8 []),(1,oP 28 (.bin .neq (.t 27) (.c (.int .i64 0))) [27])] (.cond (.t 28) (sK [0,1,9,10,11,28]
(sR [(0,oT 29 8 [8]),(1,oT 4 29 [29])] .ret)) (sK [8,28] .skip)))))))) (.reg false [(0,oP 30 (.bin .add (.t 11) (.c (.int .i64 1))) [11]),(1,oT 11 30 [30])]))))
abbrev B211 : CCode := (sR [(0,oP 4 (.mv (.c (.int .i64 0))) [4])] (.seq (sR [(0,oT 9 0 []),(1,oP 10 (.len (.t 9)) []),(2,oP 11 (.mv (.c (.int .i64 0))) [])] (.block 0 (.loop L211_0))) (.seq (sR [(0,oT 31 0 [0]),(1,oP
32 (.len (.t 31)) [31]),(2,oT 33 1 [1]),(3,oP 34 (.len (.t 33)) [33]),(4,oP 35 (.bin .lss (.t 32) (.t 34)) [32,34])] (.cond (.t 35) (sK [35] (sR [(0,oP 4 (.mv (.c (.int .i64 (-1)))) [])] .ret)) (sK [35] .skip))) (sR
[(0,oP 4 (.mv (.c (.int .i64 0))) [])] .ret))))
def C211 : CFn := ⟨36,2,[.t 4],B211⟩
abbrev L212_0 : CCode := (sR [(0,oP 9 (.bin .lss (.t 8) (.t 7)) [])] (.seq (.cond (.t 9) (sK [9] .skip) (sK [0,1,7,8,9] (.exit 0))) (.seq (.block 1 (sR [(0,oT 10 8 []),(1,oT 5 10 [10])] (sR [(0,oT 11 1 []),(1,oT 12 0
[]),(2,oT 13 5 []),(3,oP 14 (.ia 1 (.t 12) (.t 13)) []),(4,oP 15 (.ld 1 false (.t 14)) [12,13,14]),(5,oP 16 (.callv (.t 11) [.t 15]) [11,15])] (.cond (.t 16) (sK [0,1,7,8,16] (sR [(0,oT 17 5 [5]),(1,oT 4 17 [17])]
.ret)) (sK [5,16] .skip))))) (.reg false [(0,oP 18 (.bin .add (.t 8) (.c (.int .i64 1))) [8]),(1,oT 8 18 [18])]))))
abbrev B212 : CCode := (sR [(0,oP 4 (.mv (.c (.int .i64 0))) [4])] (.seq (sR [(0,oT 6 0 []),(1,oP 7 (.len (.t 6)) [6]),(2,oP 8 (.mv (.c (.int .i64 0))) [])] (.block 0 (.loop L212_0))) (sR [(0,oP 4 (.mv (.c (.int .i64
(-1)))) [])] .ret)))
def C212 : CFn := ⟨19,2,[.t 4],B212⟩
abbrev B213 : CCode := (sR [(0,oP 4 (.mv (.c (.int .u64 (0)))) [4]),(1,oP 5 (.mv (.c (.int .u64 (0)))) [5])] (.seq (.cond (.c (.bool false)) (sR [(0,oT 11 0 [0]),(1,oP 12 (.conv .u32 (.t 11)) [11]),(2,oT 13 1 [1]),(3,oP
14 (.conv .u32 (.t 13)) [13]),(4,oP 15 (.call 247 [.t 12,.t 14]) [12,14]),(5,oT 10 15 [15]),(6,oP 16 (.ex (.t 10) 0) []),(7,oP 17 (.ex (.t 10) 1) [10]),(8,oT 6 16 [16]),(9,oT 7 17 [17])] (sR [(0,oT 18 6 [6]),(1,oP 19
(.conv .u64 (.t 18)) [18]),(2,oT 20 7 [7]),(3,oP 21 (.conv .u64 (.t 20)) [20]),(4,oT 4 19 [19]),(5,oT 5 21 [21])] .ret)) .skip) (sR [(0,oT 23 0 [0]),(1,oT 24 1 [1]),(2,oP 25 (.call 248 [.t 23,.t 24]) [23,24]),(3,oT 22
25 [25]),(4,oP 26 (.ex (.t 22) 0) []),(5,oP 27 (.ex (.t 22) 1) [22]),(6,oT 8 26 [26]),(7,oT 9 27 [27])] (sR [(0,oT 28 8 [8]),(1,oT 29 9 [9]),(2,oT 4 28 [28]),(3,oT 5 29 [29])] .ret))))
def C213 : CFn := ⟨30,2,[.t 4,.t 5],B213⟩
abbrev B217 : CCode := (sR [(0,oP 4 (.mv (.c (.nils))) [4])] (.seq (sR [(0,oT 5 1 []),(1,oP 6 (.bin .lss (.t 5) (.c (.int .i64 0))) [5])] (.cond (.t 6) (sK [6] (.reg false [(0,oP 7 .fail
[7]),(1,⟨none,.fail,none,[],[]⟩)])) (sK [6] .skip))) (.seq (sR [(0,oT 8 1 [1]),(1,oT 9 0 []),(2,oP 10 (.cap (.t 9)) [9]),(3,oT 11 0 []),(4,oP 12 (.len (.t 11)) [11]),(5,oP 13 (.bin .sub (.t 10) (.t 12)) [10,12]),(6,oP
14 (.bin .sub (.t 8) (.t 13)) [8,13]),(7,oT 1 14 [14])] (sR [(0,oT 15 1 []),(1,oP 16 (.bin .gtr (.t 15) (.c (.int .i64 0))) [15])] (.cond (.t 16) (sK [16] (.reg false [(0,oT 17 0 []),(1,oT 18 0 []),(2,oP 19 (.cap (.t
18)) [18]),(3,oP 20 (.sls 1 (.t 17) none (some (.t 19)) none) [17,19]),(4,oT 21 1 [1]),(5,oP 22 (.appm 1 8 [.int .i64 (0)] (.t 20) (.t 21)) [20,21]),(6,oT 23 0 [0]),(7,oP 24 (.len (.t 23)) [23]),(8,oP 25 (.sls 1 (.t 22)
none (some (.t 24)) none) [22,24]),(9,oT 0 25 [25])])) (sK [1,16] .skip)))) (sR [(0,oT 26 0 [0]),(1,oT 4 26 [26])] .ret))))
def C217 : CFn := ⟨27,2,[.t 4],B217⟩
abbrev B218 : CCode := (sR [(0,oP 2 (.mv (.c (.nils))) [2])] (sR [(0,oP 3 (.bld [.str [],.int .i64 (0),.int .i64 (0)] [(0,1,(.c (.str [114]))),(1,1,(.c (.int .i64 2))),(2,1,(.c (.int .i64 1)))]) []),(1,oP 4 (.bld [.str
[],.int .i64 (0),.int .i64 (0)] [(0,1,(.c (.str [115]))),(1,1,(.c (.int .i64 2))),(2,1,(.c (.int .i64 1)))]) []),(2,oT 5 0 []),(3,oP 6 (.bsl 1 4 [.int .i64 (0)] [(0,1,(.c (.int .i64 1))),(1,1,(.c (.int .i64
1))),(2,1,(.c (.int .i64 2))),(3,1,(.c (.int .i64 0)))]) []),(4,oP 7 (.call 189 [.t 5,.t 6]) [5,6]),(5,oP 8 (.bld [.str [],.int .i64 (0),.int .i64 (0)] [(0,1,(.c (.str [116]))),(1,1,(.c (.int .i64 2))),(2,1,(.t 7))])
[7]),(6,oT 9 0 []),(7,oP 10 (.call 186 [.t 9,(.c (.int .i64 2))]) [9]),(8,oP 11 (.bin .add (.c (.int .i64 1)) (.t 10)) [10]),(9,oP 12 (.bld [.str [],.int .i64 (0),.int .i64 (0)] [(0,1,(.c (.str [117]))),(1,1,(.c (.int
.i64 3))),(2,1,(.t 11))]) [11]),(10,oP 13 (.bsl 3 4 [.str [],.int .i64 (0),.int .i64 (0)] [(0,3,(.t 3)),(3,3,(.t 4)),(6,3,(.t 8)),(9,3,(.t 12))]) [3,4,8,12]),(11,oT 2 13 [13])] .ret))
def C218 : CFn := ⟨14,1,[.t 2],B218⟩
abbrev L219_0 : CCode := (sR [(0,oP 9 (.bin .lss (.t 8) (.t 7)) [])] (.seq (.cond (.t 9) (sK [9] .skip) (sK [0,1,7,8,9] (.exit 0))) (.seq (.block 1 (sR [(0,oT 10 8 []),(1,oT 5 10 [10])] (sR [(0,oT 11 1 []),(1,oT 12 0
[]),(2,oT 13 5 []),(3,oP 14 (.ia 2 (.t 12) (.t 13)) []),(4,oP 15 (.ld 2 true (.t 14)) [14]),(5,oP 16 (.callv (.t 11) [.t 15]) [11,12,13,15])] (.cond (.t 16) (sK [0,1,7,8,16] (sR [(0,oT 17 5 [5]),(1,oT 4 17 [17])] .ret))
(sK [5,16] .skip))))) (.reg false [(0,oP 18 (.bin .add (.t 8) (.c (.int .i64 1))) [8]),(1,oT 8 18 [18])]))))
abbrev B219 : CCode := (sR [(0,oP 4 (.mv (.c (.int .i64 0))) [4])] (.seq (sR [(0,oT 6 0 []),(1,oP 7 (.len (.t 6)) [6]),(2,oP 8 (.mv (.c (.int .i64 0))) [])] (.block 0 (.loop L219_0))) (sR [(0,oP 4 (.mv (.c (.int .i64
(-1)))) [])] .ret)))
def C219 : CFn := ⟨19,2,[.t 4],B219⟩
abbrev L223_0 : CCode := (.seq (.seq (.reg true [(0,oT 33 7 []),(1,oP 34 (.fa 1 (.t 6)) []),(2,oP 35 (.ld 1 false (.t 34)) [34]),(3,oP 36 (.len (.t 35)) [35]),(4,oP 37 (.bin .lss (.t 33) (.t 36)) [33,36]),(5,oT 38 37
[37]),(6,oG 39 (.fa 1 (.t 6)) 38 true []),(7,oG 40 (.ld 1 false (.t 39)) 38 true [39]),(8,oG 41 (.mv (.t 7)) 38 true []),(9,oG 42 (.ia 2 (.t 40) (.t 41)) 38 true [40]),(10,oG 43 (.ld 2 true (.t 42)) 38 true [42]),(11,oG
44 (.ld 2 true (.t 3)) 38 true []),(12,oG 45 (.call 151 [.t 43,.t 44]) 38 true [41,43,44]),(13,oG 46 (.bin .lss (.t 45) (.c (.int .i64 0))) 38 true [45]),(14,oP 47 (.pick (.t 38) (.t 46) (.c (.bool false))) [38,46])])
(.cond (.t 47) (sK [47] .skip) (sK [47] (.exit 0)))) (.block 1 (.reg false [(0,oT 48 7 [7]),(1,oP 49 (.bin .add (.t 48) (.c (.int .i64 1))) [48]),(2,oT 7 49 [49])])))
abbrev B223 : CCode := (sR [(0,oP 2 (.box 2 (.t 0)) [0]),(1,oP 3 (.box 2 (.t 1)) [1]),(2,oP 4 (.al [.nils,.nils]) []),(3,oP 5 (.mv (.c (.bool false))) [5])] (sR [(0,oP 9 (.ld 2 true (.t 2)) []),(1,oP 10 (.call 252 [.t
9]) [9]),(2,oP 6 (.al [.nils,.nils]) []),(3,⟨none,.st 2 (.t 6) (.t 10),none,[],[10]⟩)] (.seq (sR [(0,oP 11 (.ld 2 true (.t 2)) []),(1,oP 12 (.call 73 [.t 11]) [11]),(2,oP 13 (.not (.t 12)) [12]),(3,oT 14 13 [13]),(4,oG
15 (.fa 0 (.t 2)) 14 false []),(5,oG 16 (.ld 1 false (.t 15)) 14 false [15]),(6,oG 17 (.ld 2 true (.t 3)) 14 false []),(7,oG 18 (.call 150 [.t 16,.t 17]) 14 false [16,17]),(8,oG 19 (.not (.t 18)) 14 false [18]),(9,oP 20
(.pick (.t 14) (.c (.bool true)) (.t 19)) [14,19]),(10,oT 21 20 [20]),(11,oG 22 (.ld 2 true (.t 2)) 21 false []),(12,oG 23 (.ld 2 true (.t 3)) 21 false []),(13,oG 24 (.call 253 [.t 22,.t 23]) 21 false [22,23]),(14,oP 25
(.pick (.t 21) (.c (.bool true)) (.t 24)) [21,24]),(15,oT 26 25 [25]),(16,oG 27 (.fa 1 (.t 2)) 26 false []),(17,oG 28 (.ld 1 false (.t 27)) 26 false [27]),(18,oG 29 (.len (.t 28)) 26 false [2,28]),(19,oG 30 (.bin .eql
(.t 29) (.c (.int .i64 14))) 26 false [29]),(20,oP 31 (.pick (.t 26) (.c (.bool true)) (.t 30)) [26,30])] (.cond (.t 31) (sK [3,31] (sR [(0,oP 32 (.ld 2 true (.t 6)) []),(1,⟨none,.st 2 (.t 4) (.t
32),none,[],[6,32]⟩),(2,oP 5 (.mv (.c (.bool false))) [])] .ret)) (sK [31] .skip))) (sR [(0,oP 7 (.mv (.c (.int .i64 0))) [])] (.seq (.block 0 (.loop L223_0)) (.seq (.reg true [(0,oP 50 (.fa 0 (.t 3)) []),(1,oP 51 (.ld
1 false (.t 50)) []),(2,oP 52 (.bsl 1 0 [.int .i64 (0)] []) []),(3,oP 53 (.fa 1 (.t 3)) []),(4,oP 54 (.ld 1 false (.t 53)) [53]),(8,oP 58 (.fa 1 (.t 6)) []),(9,oP 59 (.ld 1 false (.t 58)) []),(10,oT 60 7 []),(11,oP 61
(.sls 2 (.t 59) (some (.t 60)) none none) [59,60]),(5,⟨some 55,.app 1 8 (.t 52) (.t 54),none,[(50,1),(58,1)],[3,50,52,54,58]⟩),(6,oP 56 (.bld [.int .i64 (0),.nils] [(0,1,(.t 51)),(1,1,(.t 55))]) [51,55]),(7,oP 57 (.bsl
2 1 [.int .i64 (0),.nils] [(0,2,(.t 56))]) [56]),(12,oP 62 (.app 2 32 (.t 57) (.t 61)) [57,61]),(13,oT 8 62 [62])]) (sR [(0,oP 63 (.bsl 2 0 [.int .i64 (0),.nils] []) []),(1,oP 64 (.fa 1 (.t 6)) []),(2,oP 65 (.ld 1 false
(.t 64)) [64]),(3,oT 66 7 [7]),(4,oP 67 (.sls 2 (.t 65) none (some (.t 66)) none) [65,66]),(5,oP 68 (.app 2 32 (.t 63) (.t 67)) [63,67]),(6,oT 69 8 [8]),(7,oP 70 (.app 2 32 (.t 68) (.t 69)) [68,69]),(8,oP 71 (.fa 1 (.t
6)) []),(9,⟨none,.st 1 (.t 71) (.t 70),none,[],[70,71]⟩)] (sR [(0,oP 72 (.ld 2 true (.t 6)) []),(1,⟨none,.st 2 (.t 4) (.t 72),none,[],[6,72]⟩),(2,oP 5 (.mv (.c (.bool true))) [])] .ret))))))))
def C223 : CFn := ⟨73,2,[.m 4 2 true,.t 5],B223⟩
abbrev L224_0 : CCode := (.seq (.seq (.reg true [(0,oP 13 (.fa 1 (.t 7)) []),(1,oP 14 (.ld 1 false (.t 13)) [13]),(2,oP 15 (.len (.t 14)) [14]),(3,oT 16 1 []),(4,oP 17 (.fa 0 (.t 7)) []),(5,oP 18 (.ld 1 false (.t 17))
[17]),(6,oP 19 (.ia 3 (.t 16) (.t 18)) []),(7,oP 20 (.fa 1 (.t 19)) [19]),(8,oP 21 (.ld 1 false (.t 20)) [16,18,20]),(9,oP 22 (.bin .lss (.t 15) (.t 21)) [15,21])]) (.cond (.t 22) (sK [22] .skip) (sK [1,2,22] (.exit
0)))) (.block 1 (.reg true [(0,oP 23 (.fa 1 (.t 7)) []),(1,oP 24 (.ld 1 false (.t 23)) []),(2,oT 25 0 []),(3,oT 26 2 []),(4,⟨some 27,.call 186 [.t 25,.t 26],none,[(23,1)],[23,25,26]⟩),(5,oP 28 (.bsl 1 1 [.int .i64 (0)]
[(0,1,(.t 27))]) [27]),(6,oP 29 (.app 1 8 (.t 24) (.t 28)) [24,28]),(7,oP 30 (.fa 1 (.t 7)) []),(8,⟨none,.st 1 (.t 30) (.t 29),none,[],[29,30]⟩)])))
abbrev B224 : CCode := (sR [(0,oP 6 (.al [.int .i64 (0),.nils]) [])] (sR [(0,oT 8 0 []),(1,oT 9 1 []),(2,oP 10 (.len (.t 9)) [9]),(3,oP 11 (.call 186 [.t 8,.t 10]) [8,10]),(4,oP 12 (.bld [.int .i64 (0),.nils] [(0,1,(.t
11))]) [11]),(5,oP 7 (.al [.int .i64 (0),.nils]) []),(6,⟨none,.st 2 (.t 7) (.t 12),none,[],[12]⟩)] (.seq (.block 0 (.loop L224_0)) (sR [(0,oP 31 (.ld 2 true (.t 7)) []),(1,⟨none,.st 2 (.t 6) (.t 31),none,[],[7,31]⟩)]
.ret))))
def C224 : CFn := ⟨32,3,[.m 6 2 true],B224⟩
abbrev L225_1 : CCode := (.seq (sR [(0,oT 34 10 []),(1,oP 35 (.bin .gtr (.t 34) (.c (.int .i64 0))) [34])] (.cond (.t 35) (sK [35] .skip) (sK [10,35] (.exit 2)))) (.seq (.block 3 (sR [(0,oT 38 0 []),(1,oP 39 (.call 128
[.t 38,(.c (.int .i64 12))]) [38])] (.cond (.t 39) (sK [39] (.reg true [(0,oP 40 (.fa 1 (.t 9)) []),(1,oP 41 (.ld 1 false (.t 40)) []),(2,oT 42 0 []),(3,⟨some 43,.call 186 [.t 42,(.c (.int .i64
2))],none,[(40,1)],[40,42]⟩),(4,oP 44 (.bin .sub (.c (.int .i64 (-1))) (.t 43)) [43]),(5,oP 45 (.bsl 1 1 [.int .i64 (0)] [(0,1,(.t 44))]) [44]),(6,oP 46 (.app 1 8 (.t 41) (.t 45)) [41,45]),(7,oP 47 (.fa 1 (.t 9))
[]),(8,⟨none,.st 1 (.t 47) (.t 46),none,[],[46,47]⟩)])) (sK [39] (.reg true [(0,oP 48 (.fa 1 (.t 9)) []),(1,oP 49 (.ld 1 false (.t 48)) []),(2,oT 50 0 []),(3,oT 51 5 []),(4,⟨some 52,.call 186 [.t 50,.t
51],none,[(48,1)],[48,50,51]⟩),(5,oP 53 (.bsl 1 1 [.int .i64 (0)] [(0,1,(.t 52))]) [52]),(6,oP 54 (.app 1 8 (.t 49) (.t 53)) [49,53]),(7,oP 55 (.fa 1 (.t 9)) []),(8,⟨none,.st 1 (.t 55) (.t 54),none,[],[54,55]⟩)])))))
(.reg false [(0,oT 36 10 [10]),(1,oP 37 (.bin .sub (.t 36) (.c (.int .i64 1))) [36]),(2,oT 10 37 [37])])))
abbrev L225_0 : CCode := (.seq (sR [(0,oT 20 7 []),(1,oT 21 4 []),(2,oP 22 (.bin .lss (.t 20) (.t 21)) [20,21])] (.cond (.t 22) (sK [22] .skip) (sK [4,5,6,7,22] (.exit 0)))) (.seq (.block 1 (sR [(0,oT 25 6 []),(1,oT 26
7 []),(2,oP 27 (.bin .add (.t 25) (.t 26)) [25,26]),(3,oP 28 (.bin .rem (.t 27) (.c (.int .i64 4))) [27]),(4,oT 8 28 [28])] (sR [(0,oT 29 8 []),(1,oP 30 (.bld [.int .i64 (0),.nils] [(0,1,(.t 29))]) [29]),(2,oP 9 (.al
[.int .i64 (0),.nils]) []),(3,⟨none,.st 2 (.t 9) (.t 30),none,[],[30]⟩)] (.seq (sR [(0,oT 31 8 [8]),(1,oP 32 (.bin .quo (.t 31) (.c (.int .i64 3))) [31]),(2,oP 33 (.bin .add (.c (.int .i64 2)) (.t 32)) [32]),(3,oT 10 33
[33])] (.block 2 (.loop L225_1))) (.reg false [(0,oP 56 (.fa 1 (.t 3)) []),(1,oP 57 (.ld 1 false (.t 56)) [56]),(2,oP 58 (.ld 2 true (.t 9)) []),(3,oP 59 (.bsl 2 1 [.int .i64 (0),.nils] [(0,2,(.t 58))]) [9,58]),(4,oP 60
(.app 2 32 (.t 57) (.t 59)) [57,59]),(5,oP 61 (.fa 1 (.t 3)) []),(6,⟨none,.st 1 (.t 61) (.t 60),none,[],[60,61]⟩)]))))) (.reg false [(0,oT 23 7 [7]),(1,oP 24 (.bin .add (.t 23) (.c (.int .i64 1))) [23]),(2,oT 7 24
[24])])))
abbrev B225 : CCode := (sR [(0,oP 2 (.al [.int .i64 (0),.nils,.nils]) [])] (sR [(0,oP 11 (.bld [.int .i64 (0),.nils,.nils] []) []),(1,oP 3 (.al [.int .i64 (0),.nils,.nils]) []),(2,⟨none,.st 3 (.t 3) (.t
11),none,[],[11]⟩)] (sR [(0,oT 12 0 []),(1,oP 13 (.call 186 [.t 12,(.c (.int .i64 3))]) [12]),(2,oP 14 (.bin .add (.c (.int .i64 1)) (.t 13)) [13]),(3,oT 4 14 [14])] (sR [(0,oT 15 0 []),(1,oP 16 (.call 186 [.t 15,(.c
(.int .i64 4))]) [15]),(2,oP 17 (.bin .add (.c (.int .i64 1)) (.t 16)) [16]),(3,oT 5 17 [17])] (sR [(0,oT 18 0 []),(1,oP 19 (.call 186 [.t 18,(.c (.int .i64 4))]) [18]),(2,oT 6 19 [19])] (.seq (sR [(0,oP 7 (.mv (.c
(.int .i64 0))) [])] (.block 0 (.loop L225_0))) (sR [(0,oP 62 (.ld 3 true (.t 3)) []),(1,oP 63 (.call 254 [.t 62]) [3,62]),(2,⟨none,.st 3 (.t 2) (.t 63),none,[],[63]⟩)] .ret)))))))
def C225 : CFn := ⟨64,1,[.m 2 3 true],B225⟩
abbrev B226 : CCode := (sR [(0,oP 4 (.al [.int .i64 (0),.nils,.nils]) [])] (sR [(0,oT 8 1 []),(1,oT 9 0 []),(2,oP 10 (.bsl 1 10 [.str []] [(0,1,(.c (.str [63,114,120,124,121,32,115,121,124,122]))),(1,1,(.c (.str
[63,114,120,124,121,32,115,121,124,120]))),(2,1,(.c (.str [63,114,120,124,121,32,115,122,124,121]))),(3,1,(.c (.str [63,114,120,124,121,32,115,120,124,122]))),(4,1,(.c (.str [63,114,120,124,49]))),(5,1,(.c (.str
[63,114,120,124,120]))),(6,1,(.c (.str [63,114,120,124,121,32,115,121,124,49]))),(7,1,(.c (.str [63,114,120,124,121,32,115,121,124,122,32,114]))),(8,1,(.c (.str [63,114,120,124,121]))),(9,1,(.c (.str
[63,114,120,124,122,32,115,121,124,122])))]) []),(3,oP 11 (.call 256 [.t 9,.t 10]) [9,10]),(4,oP 12 (.call 255 [.t 8,.t 11]) [8,11]),(5,oT 7 12 [12]),(6,oP 13 (.ex (.t 7) 0) []),(7,oP 14 (.ex (.t 7) 1) [7]),(8,oP 5 (.al
[.int .i64 (0),.nils,.nils]) []),(9,⟨none,.st 3 (.t 5) (.t 13),none,[],[13]⟩),(10,oT 6 14 [14])] (.seq (sR [(0,oT 15 6 [6]),(1,oP 16 (.not (.t 15)) [15])] (.cond (.t 16) (sK [16] (.reg false [(0,oT 18 1 [1]),(1,oP 19
(.call 255 [.t 18,(.c (.str [63,114,120,124,121,32,115,121,124,122]))]) [18]),(2,oT 17 19 [19]),(3,oP 20 (.ex (.t 17) 0) []),(4,oP 21 (.ex (.t 17) 1) [17,21]),(5,⟨none,.st 3 (.t 5) (.t 20),none,[],[20]⟩)])) (sK [1,16]
.skip))) (sR [(0,oP 22 (.ld 3 true (.t 5)) []),(1,⟨none,.st 3 (.t 4) (.t 22),none,[],[5,22]⟩)] .ret))))
def C226 : CFn := ⟨23,2,[.m 4 3 true],B226⟩
abbrev B227 : CCode := (sR [(0,oP 2 (.mv (.c (.int .i64 0))) [2])] (sR [(0,oT 4 0 []),(1,oT 5 0 []),(2,oP 6 (.nc (.t 5)) []),(3,oP 7 (.fa 2 (.t 6)) [6]),(4,oP 8 (.ld 1 false (.t 7)) [5,7]),(5,oP 9 (.bin .mul (.t 8) (.c
(.int .i64 6364136223846793005))) [8]),(6,oP 10 (.bin .add (.t 9) (.c (.int .i64 1442695040888963407))) [9]),(7,oP 11 (.nc (.t 4)) []),(8,oP 12 (.fa 2 (.t 11)) [11]),(9,⟨none,.st 1 (.t 12) (.t 10),none,[],[4,10,12]⟩)]
(.seq (.reg true [(0,oT 13 0 []),(1,oP 14 (.nc (.t 13)) []),(2,oP 15 (.fa 2 (.t 14)) [14]),(3,oP 16 (.ld 1 false (.t 15)) [13,15]),(4,oP 17 (.bin .shr (.t 16) (.c (.int .u64 (33)))) [16]),(5,oT 18 0 []),(6,oP 19 (.nc
(.t 18)) []),(7,oP 20 (.fa 2 (.t 19)) [19]),(8,oP 21 (.ld 1 false (.t 20)) [18,20]),(9,oP 22 (.bin .shr (.t 21) (.c (.int .u64 (45)))) [21]),(10,oP 23 (.bin .xor (.t 17) (.t 22)) [17,22]),(11,oP 24 (.bin .and (.t 23)
(.c (.int .i64 255))) [23]),(12,oT 3 24 [24])]) (.seq (.seq (.reg true [(0,oT 25 0 []),(1,oP 26 (.nc (.t 25)) []),(2,oP 27 (.fa 1 (.t 26)) [26]),(3,oP 28 (.ld 1 false (.t 27)) [25,27]),(4,oT 29 0 []),(5,oP 30 (.nc (.t
29)) []),(6,oP 31 (.fa 0 (.t 30)) [30]),(7,oP 32 (.ld 1 false (.t 31)) [31]),(8,oP 33 (.len (.t 32)) [29,32]),(9,oP 34 (.bin .lss (.t 28) (.t 33)) [28,33])]) (.cond (.t 34) (sK [34] (.seq (.reg true [(0,oT 35 3
[3]),(1,oT 36 0 []),(2,oP 37 (.nc (.t 36)) []),(3,oP 38 (.fa 0 (.t 37)) [37]),(4,oP 39 (.ld 1 false (.t 38)) [38]),(5,oT 40 0 []),(6,oP 41 (.nc (.t 40)) []),(7,oP 42 (.fa 1 (.t 41)) [41]),(8,oP 43 (.ld 1 false (.t 42))
[40,42]),(9,oP 44 (.ia 1 (.t 39) (.t 43)) [39]),(10,oP 45 (.ld 1 false (.t 44)) [36,43,44]),(11,oP 46 (.conv .i64 (.t 45)) [45]),(12,oP 47 (.bin .add (.t 35) (.t 46)) [35,46]),(13,oP 48 (.bin .and (.t 47) (.c (.int .i64
255))) [47]),(14,oT 3 48 [48])]) (.reg false [(0,oT 49 0 []),(1,oT 50 0 []),(2,oP 51 (.nc (.t 50)) []),(3,oP 52 (.fa 1 (.t 51)) [51]),(4,oP 53 (.ld 1 false (.t 52)) [50,52]),(5,oP 54 (.bin .add (.t 53) (.c (.int .i64
1))) [53]),(6,oP 55 (.nc (.t 49)) []),(7,oP 56 (.fa 1 (.t 55)) [55]),(8,⟨none,.st 1 (.t 56) (.t 54),none,[],[49,54,56]⟩)]))) (sK [34] .skip))) (sR [(0,oT 57 3 [3]),(1,oT 2 57 [57])] .ret)))))
def C227 : CFn := ⟨58,1,[.t 2],B227⟩
abbrev B228 : CCode := (sR [(0,oP 4 (.al [.int .i64 (0),.nils]) [])] (sR [(0,oT 6 0 []),(1,oT 7 1 [1]),(2,oP 8 (.call 224 [.t 6,.t 7,(.c (.int .i64 4))]) [6,7]),(3,oP 5 (.al [.int .i64 (0),.nils]) []),(4,⟨none,.st 2 (.t
5) (.t 8),none,[],[8]⟩)] (.seq (sR [(0,oT 9 0 []),(1,oP 10 (.call 186 [.t 9,(.c (.int .i64 10))]) [9])] (.block 0 (sR [(0,oP 12 (.bin .eql (.t 10) (.c (.int .i64 0))) []),(1,oT 11 12 [12])] (.cond (.t 11) (sK [10,11]
(.reg false [(0,oT 13 0 []),(1,oP 14 (.call 186 [.t 13,(.c (.int .i64 6))]) [13]),(2,oP 15 (.bin .sub (.t 14) (.c (.int .i64 1))) [14]),(3,oP 16 (.fa 0 (.t 5)) []),(4,⟨none,.st 1 (.t 16) (.t 15),none,[],[15,16]⟩)])) (sK
[11] (sR [(0,oP 18 (.bin .eql (.t 10) (.c (.int .i64 1))) []),(1,oT 17 18 [18])] (.cond (.t 17) (sK [10,17] (.reg false [(0,oP 19 (.fa 1 (.t 5)) []),(1,oP 20 (.ld 1 false (.t 19)) [19]),(2,oP 21 (.bsl 1 1 [.int .i64
(0)] [(0,1,(.c (.int .i64 1)))]) []),(3,oP 22 (.app 1 8 (.t 20) (.t 21)) [20,21]),(4,oP 23 (.fa 1 (.t 5)) []),(5,⟨none,.st 1 (.t 23) (.t 22),none,[],[22,23]⟩)])) (sK [17] (sR [(0,oP 25 (.bin .eql (.t 10) (.c (.int .i64
2))) [10]),(1,oT 24 25 [25])] (.cond (.t 24) (sK [24] (.reg true [(0,oP 26 (.fa 1 (.t 5)) []),(1,oP 27 (.ld 1 false (.t 26)) []),(2,oT 28 0 []),(3,oP 29 (.bsl 1 3 [.int .i64 (0)] [(0,1,(.c (.int .i64 (-1)))),(1,1,(.c
(.int .i64 10))),(2,1,(.c (.int .i64 9)))]) []),(4,⟨some 30,.call 189 [.t 28,.t 29],none,[(26,1)],[26,28,29]⟩),(5,oP 31 (.ia 1 (.t 27) (.c (.int .i64 0))) [27]),(6,⟨none,.st 1 (.t 31) (.t 30),none,[],[30,31]⟩)])) (sK
[24] .skip))))))))))) (sR [(0,oP 32 (.ld 2 true (.t 5)) []),(1,⟨none,.st 2 (.t 4) (.t 32),none,[],[5,32]⟩)] .ret))))
def C228 : CFn := ⟨33,2,[.m 4 2 true],B228⟩
abbrev B229 : CCode := (sR [(0,oP 2 (.al [.str [],.int .i64 (0),.int .i64 (0)]) [])] (sR [(0,oT 3 0 []),(1,oP 4 (.bsl 1 6 [.str []] [(0,1,(.c (.str [114]))),(1,1,(.c (.str [122]))),(2,1,(.c (.str [97]))),(3,1,(.c (.str
[]))),(4,1,(.c (.str [82]))),(5,1,(.c (.str [97,98])))]) []),(2,oP 5 (.call 256 [.t 3,.t 4]) [3,4]),(3,oT 6 0 []),(4,oP 7 (.call 186 [.t 6,(.c (.int .i64 6))]) [6]),(5,oP 8 (.bin .sub (.t 7) (.c (.int .i64 1)))
[7]),(6,oT 9 0 []),(7,oP 10 (.call 186 [.t 9,(.c (.int .i64 5))]) [9]),(8,oP 11 (.bin .sub (.t 10) (.c (.int .i64 1))) [10]),(9,oP 12 (.bld [.str [],.int .i64 (0),.int .i64 (0)] [(0,1,(.t 5)),(1,1,(.t 8)),(2,1,(.t
11))]) [5,8,11]),(10,⟨none,.st 3 (.t 2) (.t 12),none,[],[12]⟩)] .ret))
def C229 : CFn := ⟨13,1,[.m 2 3 true],B229⟩
abbrev B241 : CCode := (sR [(0,oP 4 (.box 2 (.t 1)) [1]),(1,oP 5 (.box 2 (.t 2)) [2]),(2,oP 6 (.mv (.c (.bool false))) [6])] (.seq (.reg true [(0,oT 7 0 []),(1,oP 8 (.ld 2 true (.t 4)) []),(2,oP 9 (.call 150 [.t 7,.t
8]) [7,8]),(3,oT 10 9 [9]),(4,oG 11 (.mv (.t 0)) 10 true []),(5,oG 12 (.ld 2 true (.t 5)) 10 true []),(6,oG 13 (.call 150 [.t 11,.t 12]) 10 true [11,12]),(7,oP 14 (.pick (.t 10) (.t 13) (.c (.bool false)))
[10,13]),(8,oT 15 14 [14]),(9,oG 16 (.fa 0 (.t 4)) 15 true []),(10,oG 17 (.ld 1 false (.t 16)) 15 true [16]),(11,oG 18 (.fa 0 (.t 5)) 15 true []),(12,oG 19 (.ld 1 false (.t 18)) 15 true [18]),(13,oG 20 (.bin .eql (.t
17) (.t 19)) 15 true [17,19]),(14,oP 21 (.pick (.t 15) (.t 20) (.c (.bool false))) [15,20]),(15,oT 22 21 [21]),(16,oG 23 (.mv (.t 0)) 22 true []),(17,oG 24 (.ld 2 true (.t 4)) 22 true []),(19,oG 26 (.mv (.t 0)) 22 true
[]),(20,oG 27 (.ld 2 true (.t 5)) 22 true []),(18,⟨some 25,.call 263 [.t 23,.t 24],some (22,true),[(5,2)],[4,23,24]⟩),(21,oG 28 (.call 263 [.t 26,.t 27]) 22 true [5,26,27]),(22,oG 29 (.call 207 [.t 25,.t 28]) 22 true
[25,28]),(23,oG 30 (.bin .eql (.t 29) (.c (.int .i64 0))) 22 true [29]),(24,oP 31 (.pick (.t 22) (.t 30) (.c (.bool false))) [22,30]),(25,oT 6 31 [31])]) .ret))
def C241 : CFn := ⟨32,3,[.t 6],B241⟩
abbrev B245 : CCode := (sR [(0,oP 2 (.mv (.c (.bool false))) [2])] (sR [(0,oT 3 0 [0]),(1,oP 4 (.call 122 [.t 3,(.c (.int .i64 0)),(.c (.int .i64 9))]) [3]),(2,oP 5 (.not (.t 4)) [4]),(3,oT 2 5 [5])] .ret))
def C245 : CFn := ⟨6,1,[.t 2],B245⟩
abbrev B246 : CCode := (sR [(0,oP 4 (.mv (.c (.int .i64 0))) [4])] (sR [(0,oT 7 0 []),(1,oP 8 (.call 262 [.t 7]) [7]),(2,oT 5 8 [8])] (sR [(0,oT 9 1 []),(1,oP 10 (.call 262 [.t 9]) [9]),(2,oT 6 10 [10])] (.seq (sR
[(0,oT 11 5 [5])] (.cond (.t 11) (sK [0,1,11] (.seq (sR [(0,oT 12 6 [6])] (.cond (.t 12) (sK [12] (sR [(0,oP 4 (.mv (.c (.int .i64 0))) [])] .ret)) (sK [12] .skip))) (sR [(0,oP 4 (.mv (.c (.int .i64 (-1)))) [])] .ret)))
(sK [11] .skip))) (.seq (sR [(0,oT 13 6 [6])] (.cond (.t 13) (sK [0,1,13] (sR [(0,oP 4 (.mv (.c (.int .i64 1))) [])] .ret)) (sK [13] .skip))) (.seq (sR [(0,oT 14 0 []),(1,oT 15 1 []),(2,oP 16 (.bin .lss (.t 14) (.t 15))
[14,15])] (.cond (.t 16) (sK [0,1,16] (sR [(0,oP 4 (.mv (.c (.int .i64 (-1)))) [])] .ret)) (sK [16] .skip))) (.seq (sR [(0,oT 17 0 [0]),(1,oT 18 1 [1]),(2,oP 19 (.bin .gtr (.t 17) (.t 18)) [17,18])] (.cond (.t 19) (sK
[19] (sR [(0,oP 4 (.mv (.c (.int .i64 1))) [])] .ret)) (sK [19] .skip))) (sR [(0,oP 4 (.mv (.c (.int .i64 0))) [])] .ret))))))))
def C246 : CFn := ⟨20,2,[.t 4],B246⟩
abbrev B248 : CCode := (sR [(0,oP 4 (.mv (.c (.int .u64 (0)))) [4]),(1,oP 5 (.mv (.c (.int .u64 (0)))) [5])] (sR [(0,oT 14 0 []),(1,oP 15 (.bin .and (.t 14) (.c (.int .u64 (4294967295)))) [14]),(2,oT 6 15 [15])] (sR
[(0,oT 16 0 []),(1,oP 17 (.bin .shr (.t 16) (.c (.int .u64 (32)))) [16]),(2,oT 7 17 [17])] (sR [(0,oT 18 1 []),(1,oP 19 (.bin .and (.t 18) (.c (.int .u64 (4294967295)))) [18]),(2,oT 8 19 [19])] (sR [(0,oT 20 1 []),(1,oP
21 (.bin .shr (.t 20) (.c (.int .u64 (32)))) [20]),(2,oT 9 21 [21])] (sR [(0,oT 22 6 []),(1,oT 23 8 []),(2,oP 24 (.bin .mul (.t 22) (.t 23)) [22,23]),(3,oT 10 24 [24])] (sR [(0,oT 25 7 []),(1,oT 26 8 [8]),(2,oP 27 (.bin
.mul (.t 25) (.t 26)) [25,26]),(3,oT 28 10 [10]),(4,oP 29 (.bin .shr (.t 28) (.c (.int .u64 (32)))) [28]),(5,oP 30 (.bin .add (.t 27) (.t 29)) [27,29]),(6,oT 11 30 [30])] (sR [(0,oT 31 11 []),(1,oP 32 (.bin .and (.t 31)
(.c (.int .u64 (4294967295)))) [31]),(2,oT 12 32 [32])] (sR [(0,oT 33 11 [11]),(1,oP 34 (.bin .shr (.t 33) (.c (.int .u64 (32)))) [33]),(2,oT 13 34 [34])] (sR [(0,oT 35 12 [12]),(1,oT 36 6 [6]),(2,oT 37 9 []),(3,oP 38
(.bin .mul (.t 36) (.t 37)) [36,37]),(4,oP 39 (.bin .add (.t 35) (.t 38)) [35,38]),(5,oT 12 39 [39])] (sR [(0,oT 40 7 [7]),(1,oT 41 9 [9]),(2,oP 42 (.bin .mul (.t 40) (.t 41)) [40,41]),(3,oT 43 13 [13]),(4,oP 44 (.bin
.add (.t 42) (.t 43)) [42,43]),(5,oT 45 12 [12]),(6,oP 46 (.bin .shr (.t 45) (.c (.int .u64 (32)))) [45]),(7,oP 47 (.bin .add (.t 44) (.t 46)) [44,46]),(8,oT 4 47 [47])] (sR [(0,oT 48 0 [0]),(1,oT 49 1 [1]),(2,oP 50
(.bin .mul (.t 48) (.t 49)) [48,49]),(3,oT 5 50 [50])] .ret))))))))))))
def C248 : CFn := ⟨51,2,[.t 4,.t 5],B248⟩
abbrev L252_0 : CCode := (.seq (sR [(0,oT 10 4 []),(1,oP 11 (.fa 1 (.t 1)) []),(2,oP 12 (.ld 1 false (.t 11)) [11]),(3,oP 13 (.len (.t 12)) [12]),(4,oP 14 (.bin .lss (.t 10) (.t 13)) [10,13])] (.cond (.t 14) (sK [14]
.skip) (sK [1,4,14] (.exit 0)))) (.seq (.block 1 (.reg true [(0,oP 17 (.fa 1 (.t 3)) []),(1,oP 18 (.ld 1 false (.t 17)) []),(2,oP 19 (.fa 1 (.t 1)) []),(3,oP 20 (.ld 1 false (.t 19)) []),(4,oT 21 4 []),(5,oP 22 (.ia 2
(.t 20) (.t 21)) [20]),(6,oP 23 (.fa 0 (.t 22)) [22]),(7,oP 24 (.ld 1 false (.t 23)) []),(8,oP 25 (.bsl 1 0 [.int .i64 (0)] []) []),(9,oP 26 (.fa 1 (.t 1)) []),(10,oP 27 (.ld 1 false (.t 26)) [26]),(11,oT 28 4
[]),(12,oP 29 (.ia 2 (.t 27) (.t 28)) [27]),(13,oP 30 (.fa 1 (.t 29)) [29]),(14,oP 31 (.ld 1 false (.t 30)) [30]),(15,⟨some 32,.app 1 8 (.t 25) (.t 31),none,[(17,1),(19,1),(23,1)],[17,19,21,23,25,28,31]⟩),(16,oP 33
(.bld [.int .i64 (0),.nils] [(0,1,(.t 24)),(1,1,(.t 32))]) [24,32]),(17,oP 34 (.bsl 2 1 [.int .i64 (0),.nils] [(0,2,(.t 33))]) [33]),(18,oP 35 (.app 2 32 (.t 18) (.t 34)) [18,34]),(19,oP 36 (.fa 1 (.t 3))
[]),(20,⟨none,.st 1 (.t 36) (.t 35),none,[],[35,36]⟩)])) (.reg false [(0,oT 15 4 [4]),(1,oP 16 (.bin .add (.t 15) (.c (.int .i64 1))) [15]),(2,oT 4 16 [16])])))
abbrev B252 : CCode := (sR [(0,oP 1 (.box 2 (.t 0)) [0]),(1,oP 2 (.al [.nils,.nils]) [])] (sR [(0,oP 5 (.bsl 3 0 [.str [],.int .i64 (0),.int .i64 (0)] []) []),(1,oP 6 (.fa 0 (.t 1)) []),(2,oP 7 (.ld 1 false (.t 6))
[6]),(3,oP 8 (.app 3 32 (.t 5) (.t 7)) [5,7]),(4,oP 9 (.bld [.nils,.nils] [(0,1,(.t 8))]) [8]),(5,oP 3 (.al [.nils,.nils]) []),(6,⟨none,.st 2 (.t 3) (.t 9),none,[],[9]⟩)] (.seq (sR [(0,oP 4 (.mv (.c (.int .i64 0))) [])]
(.block 0 (.loop L252_0))) (sR [(0,oP 37 (.ld 2 true (.t 3)) []),(1,⟨none,.st 2 (.t 2) (.t 37),none,[],[3,37]⟩)] .ret))))
def C252 : CFn := ⟨38,1,[.m 2 2 true],B252⟩
abbrev B253 : CCode := (sR [(0,oP 2 (.box 2 (.t 0)) [0]),(1,oP 3 (.box 2 (.t 1)) [1]),(2,oP 4 (.mv (.c (.bool false))) [4])] (sR [(0,oP 5 (.ld 2 true (.t 2)) []),(1,oP 6 (.call 73 [.t 5]) [5]),(2,oT 7 6 [6]),(3,oG 8
(.ld 2 true (.t 2)) 7 true []),(4,oG 9 (.ld 2 true (.t 3)) 7 true []),(5,oG 10 (.call 266 [.t 8,.t 9]) 7 true [2,3,8,9]),(6,oG 11 (.bin .geq (.t 10) (.c (.int .i64 0))) 7 true [10]),(7,oP 12 (.pick (.t 7) (.t 11) (.c
(.bool false))) [7,11]),(8,oT 4 12 [12])] .ret))
def C253 : CFn := ⟨13,2,[.t 4],B253⟩
abbrev L254_2 : CCode := (.seq (sR [(0,oT 42 9 []),(1,oT 43 4 []),(2,oP 44 (.len (.t 43)) [43]),(3,oP 45 (.bin .lss (.t 42) (.t 44)) [42,44])] (.cond (.t 45) (sK [45] .skip) (sK [9,45] (.exit 4)))) (.seq (.block 5 (sR
[(0,oT 48 4 []),(1,oT 49 9 []),(2,oP 50 (.ia 1 (.t 48) (.t 49)) []),(3,oP 51 (.ld 1 false (.t 50)) [48,49,50]),(4,oT 52 7 []),(5,oP 53 (.bin .eql (.t 51) (.t 52)) [51,52])] (.cond (.t 53) (sK [8,53] (.reg false [(0,oT
54 9 []),(1,oT 8 54 [54])])) (sK [53] .skip)))) (.reg false [(0,oT 46 9 [9]),(1,oP 47 (.bin .add (.t 46) (.c (.int .i64 1))) [46]),(2,oT 9 47 [47])])))
abbrev L254_1 : CCode := (.seq (sR [(0,oT 20 6 []),(1,oP 21 (.fa 1 (.t 3)) []),(2,oP 22 (.ld 1 false (.t 21)) [21]),(3,oT 23 5 []),(4,oP 24 (.ia 2 (.t 22) (.t 23)) [22]),(5,oP 25 (.fa 1 (.t 24)) [24]),(6,oP 26 (.ld 1
false (.t 25)) [25]),(7,oP 27 (.len (.t 26)) [23,26]),(8,oP 28 (.bin .lss (.t 20) (.t 27)) [20,27])] (.cond (.t 28) (sK [28] .skip) (sK [6,28] (.exit 2)))) (.seq (.block 3 (sR [(0,oP 31 (.fa 1 (.t 3)) []),(1,oP 32 (.ld
1 false (.t 31)) [31]),(2,oT 33 5 []),(3,oP 34 (.ia 2 (.t 32) (.t 33)) [32]),(4,oP 35 (.fa 1 (.t 34)) [34]),(5,oP 36 (.ld 1 false (.t 35)) [35]),(6,oT 37 6 []),(7,oP 38 (.ia 1 (.t 36) (.t 37)) [36]),(8,oP 39 (.ld 1
false (.t 38)) [33,37,38]),(9,oT 7 39 [39])] (.seq (sR [(0,oT 40 7 []),(1,oP 41 (.bin .lss (.t 40) (.c (.int .i64 0))) [40])] (.cond (.t 41) (sK [7,41] (.exit 3)) (sK [41] .skip))) (sR [(0,oP 8 (.mv (.c (.int .i64
(-1)))) [])] (.seq (sR [(0,oP 9 (.mv (.c (.int .i64 0))) [])] (.block 4 (.loop L254_2))) (.seq (sR [(0,oT 55 8 []),(1,oP 56 (.bin .lss (.t 55) (.c (.int .i64 0))) [55])] (.cond (.t 56) (sK [8,56] (sR [(0,oT 57 4
[]),(1,oP 58 (.len (.t 57)) [57]),(2,oT 8 58 [58])] (.reg false [(0,oT 59 4 [4]),(1,oT 60 7 [7]),(2,oP 61 (.bsl 1 1 [.int .i64 (0)] [(0,1,(.t 60))]) [60]),(3,oP 62 (.app 1 8 (.t 59) (.t 61)) [59,61]),(4,oT 4 62
[62])]))) (sK [7,56] .skip))) (.reg false [(0,oP 63 (.fa 1 (.t 3)) []),(1,oP 64 (.ld 1 false (.t 63)) [63]),(2,oT 65 5 []),(3,oP 66 (.ia 2 (.t 64) (.t 65)) [64]),(4,oP 67 (.fa 1 (.t 66)) [66]),(5,oP 68 (.ld 1 false (.t
67)) [67]),(6,oT 69 6 []),(7,oT 70 8 [8]),(8,oP 71 (.ia 1 (.t 68) (.t 69)) [68]),(9,⟨none,.st 1 (.t 71) (.t 70),none,[],[65,69,70,71]⟩)]))))))) (.reg false [(0,oT 29 6 [6]),(1,oP 30 (.bin .add (.t 29) (.c (.int .i64
1))) [29]),(2,oT 6 30 [30])])))
abbrev L254_0 : CCode := (.seq (sR [(0,oT 13 5 []),(1,oP 14 (.fa 1 (.t 3)) []),(2,oP 15 (.ld 1 false (.t 14)) [14]),(3,oP 16 (.len (.t 15)) [15]),(4,oP 17 (.bin .lss (.t 13) (.t 16)) [13,16])] (.cond (.t 17) (sK [17]
.skip) (sK [5,17] (.exit 0)))) (.seq (.block 1 (sR [(0,oP 6 (.mv (.c (.int .i64 0))) [])] (.block 2 (.loop L254_1)))) (.reg false [(0,oT 18 5 [5]),(1,oP 19 (.bin .add (.t 18) (.c (.int .i64 1))) [18]),(2,oT 5 19
[19])])))
abbrev B254 : CCode := (sR [(0,oP 1 (.box 3 (.t 0)) [0]),(1,oP 2 (.al [.int .i64 (0),.nils,.nils]) [])] (sR [(0,oP 10 (.ld 3 true (.t 1)) []),(1,oP 11 (.call 93 [.t 10]) [1,10]),(2,oP 3 (.al [.int .i64 (0),.nils,.nils])
[]),(3,⟨none,.st 3 (.t 3) (.t 11),none,[],[11]⟩)] (sR [(0,oP 12 (.bsl 1 0 [.int .i64 (0)] []) []),(1,oT 4 12 [12])] (.seq (sR [(0,oP 5 (.mv (.c (.int .i64 0))) [])] (.block 0 (.loop L254_0))) (sR [(0,oT 72 4 [4]),(1,oP
73 (.len (.t 72)) [72]),(2,oP 74 (.fa 0 (.t 3)) []),(3,⟨none,.st 1 (.t 74) (.t 73),none,[],[73,74]⟩)] (sR [(0,oP 75 (.ld 3 true (.t 3)) []),(1,⟨none,.st 3 (.t 2) (.t 75),none,[],[3,75]⟩)] .ret))))))
def C254 : CFn := ⟨76,1,[.m 2 3 true],B254⟩
abbrev L255_0 : CCode := (.seq (sR [(0,oT 24 8 []),(1,oT 25 6 []),(2,oP 26 (.ia 1 (.t 25) (.c (.int .i64 0))) []),(3,oP 27 (.ld 1 false (.t 26)) [25,26]),(4,oP 28 (.lens (.t 27)) [27]),(5,oP 29 (.bin .lss (.t 24) (.t
28)) [24,28])] (.cond (.t 29) (sK [29] .skip) (sK [8,29] (.exit 0)))) (.seq (.block 1 (sR [(0,oT 33 6 []),(1,oP 34 (.ia 1 (.t 33) (.c (.int .i64 0))) []),(2,oP 35 (.ld 1 false (.t 34)) [33,34]),(3,oT 36 8 []),(4,oT 37 8
[]),(5,oP 38 (.bin .add (.t 37) (.c (.int .i64 1))) [37]),(6,oP 39 (.sst (.t 35) (some (.t 36)) (some (.t 38))) [35,36,38]),(7,oP 40 (.call 268 [.t 39]) [39]),(8,oT 32 40 [40]),(9,oP 41 (.ex (.t 32) 0) []),(10,oP 42
(.ex (.t 32) 1) [32]),(11,oT 9 41 [41]),(12,oT 10 42 [10,42])] (.reg false [(0,oP 43 (.fa 2 (.t 7)) []),(1,oP 44 (.ld 1 false (.t 43)) [43]),(2,oT 45 9 [9]),(3,oP 46 (.bsl 1 1 [.int .i64 (0)] [(0,1,(.t 45))])
[45]),(4,oP 47 (.app 1 8 (.t 44) (.t 46)) [44,46]),(5,oP 48 (.fa 2 (.t 7)) []),(6,⟨none,.st 1 (.t 48) (.t 47),none,[],[47,48]⟩)]))) (.reg false [(0,oT 30 8 [8]),(1,oP 31 (.bin .add (.t 30) (.c (.int .i64 1)))
[30]),(2,oT 8 31 [31])])))
abbrev L255_2 : CCode := (.seq (sR [(0,oT 60 14 []),(1,oT 61 11 []),(2,oT 62 12 []),(3,oP 63 (.ia 1 (.t 61) (.t 62)) []),(4,oP 64 (.ld 1 false (.t 63)) [61,62,63]),(5,oP 65 (.lens (.t 64)) [64]),(6,oP 66 (.bin .lss (.t
60) (.t 65)) [60,65])] (.cond (.t 66) (sK [66] .skip) (sK [14,66] (.exit 4)))) (.seq (.block 5 (.seq (sR [(0,oT 69 14 []),(1,oP 70 (.bin .eql (.t 69) (.c (.int .i64 0))) [69])] (.cond (.t 70) (sK [70] (sR [(0,oT 71 0
[]),(1,oT 72 11 []),(2,oT 73 12 []),(3,oP 74 (.ia 1 (.t 72) (.t 73)) []),(4,oP 75 (.ld 1 false (.t 74)) [72,73,74]),(5,oP 76 (.sst (.t 75) none (some (.c (.int .i64 1)))) [75]),(6,oP 77 (.call 269 [.t 71,.t 76])
[71,76]),(7,oP 78 (.fa 0 (.t 13)) []),(8,⟨none,.st 1 (.t 78) (.t 77),none,[],[77,78]⟩)] (.exit 5))) (sK [70] .skip))) (.seq (sR [(0,oT 79 11 []),(1,oT 80 12 []),(2,oP 81 (.ia 1 (.t 79) (.t 80)) []),(3,oP 82 (.ld 1 false
(.t 81)) [79,80,81]),(4,oT 83 14 []),(5,oP 84 (.ix (.t 82) (.t 83)) [82,83]),(6,oP 85 (.bin .eql (.t 84) (.c (.int .u8 (124)))) [84])] (.cond (.t 85) (sK [85] (.exit 5)) (sK [85] .skip))) (sR [(0,oT 87 11 []),(1,oT 88
12 []),(2,oP 89 (.ia 1 (.t 87) (.t 88)) []),(3,oP 90 (.ld 1 false (.t 89)) [87,88,89]),(4,oT 91 14 []),(5,oT 92 14 []),(6,oP 93 (.bin .add (.t 92) (.c (.int .i64 1))) [92]),(7,oP 94 (.sst (.t 90) (some (.t 91)) (some
(.t 93))) [90,91,93]),(8,oP 95 (.call 268 [.t 94]) [94]),(9,oT 86 95 [95]),(10,oP 96 (.ex (.t 86) 0) []),(11,oP 97 (.ex (.t 86) 1) [86]),(12,oT 15 96 [96]),(13,oT 16 97 [16,97])] (sR [(0,oP 98 (.fa 1 (.t 13)) []),(1,oP
99 (.ld 1 false (.t 98)) [98]),(2,oT 100 15 []),(3,oP 101 (.bsl 1 1 [.int .i64 (0)] [(0,1,(.t 100))]) [100]),(4,oP 102 (.app 1 8 (.t 99) (.t 101)) [99,101]),(5,oP 103 (.fa 1 (.t 13)) []),(6,⟨none,.st 1 (.t 103) (.t
102),none,[],[102,103]⟩)] (.reg false [(0,oP 104 (.fa 0 (.t 7)) []),(1,oP 105 (.ld 1 false (.t 104)) [104]),(2,oT 106 15 [15]),(3,oP 107 (.bin .add (.t 106) (.c (.int .i64 1))) [106]),(4,oP 108 (.max (.t 105) (.t 107))
[105,107]),(5,oP 109 (.fa 0 (.t 7)) []),(6,⟨none,.st 1 (.t 109) (.t 108),none,[],[108,109]⟩)])))))) (.reg false [(0,oT 67 14 [14]),(1,oP 68 (.bin .add (.t 67) (.c (.int .i64 1))) [67]),(2,oT 14 68 [68])])))
abbrev L255_1 : CCode := (.seq (sR [(0,oT 53 12 []),(1,oT 54 11 []),(2,oP 55 (.len (.t 54)) [54]),(3,oP 56 (.bin .lss (.t 53) (.t 55)) [53,55])] (.cond (.t 56) (sK [56] .skip) (sK [11,12,56] (.exit 2)))) (.seq (.block 3
(sR [(0,oP 59 (.bld [.int .i64 (0),.nils] []) []),(1,oP 13 (.al [.int .i64 (0),.nils]) []),(2,⟨none,.st 2 (.t 13) (.t 59),none,[],[59]⟩)] (.seq (sR [(0,oP 14 (.mv (.c (.int .i64 0))) [])] (.block 4 (.loop L255_2)))
(.reg false [(0,oP 110 (.fa 1 (.t 7)) []),(1,oP 111 (.ld 1 false (.t 110)) [110]),(2,oP 112 (.ld 2 true (.t 13)) []),(3,oP 113 (.bsl 2 1 [.int .i64 (0),.nils] [(0,2,(.t 112))]) [13,112]),(4,oP 114 (.app 2 32 (.t 111)
(.t 113)) [111,113]),(5,oP 115 (.fa 1 (.t 7)) []),(6,⟨none,.st 1 (.t 115) (.t 114),none,[],[114,115]⟩)])))) (.reg false [(0,oT 57 12 [12]),(1,oP 58 (.bin .add (.t 57) (.c (.int .i64 1))) [57]),(2,oT 12 58 [58])])))
abbrev B255 : CCode := (sR [(0,oP 4 (.al [.int .i64 (0),.nils,.nils]) []),(1,oP 5 (.mv (.c (.bool false))) [5])] (sR [(0,oT 17 1 []),(1,oP 18 (.call 267 [.t 17,(.c (.int .u8 (63)))]) [17]),(2,oT 6 18 [18])] (.seq (sR
[(0,oT 19 6 []),(1,oP 20 (.len (.t 19)) [19]),(2,oP 21 (.bin .neq (.t 20) (.c (.int .i64 2))) [20])] (.cond (.t 21) (sK [0,1,6,21] (sR [(0,oP 22 (.bld [.int .i64 (0),.nils,.nils] []) []),(1,⟨none,.st 3 (.t 4) (.t
22),none,[],[22]⟩),(2,oP 5 (.mv (.c (.bool false))) [])] .ret)) (sK [21] .skip))) (sR [(0,oP 23 (.bld [.int .i64 (0),.nils,.nils] []) []),(1,oP 7 (.al [.int .i64 (0),.nils,.nils]) []),(2,⟨none,.st 3 (.t 7) (.t
23),none,[],[23]⟩)] (.seq (sR [(0,oP 8 (.mv (.c (.int .i64 0))) [])] (.block 0 (.loop L255_0))) (sR [(0,oT 49 6 [6]),(1,oP 50 (.ia 1 (.t 49) (.c (.int .i64 1))) []),(2,oP 51 (.ld 1 false (.t 50)) [49,50]),(3,oP 52
(.call 267 [.t 51,(.c (.int .u8 (32)))]) [51]),(4,oT 11 52 [52])] (.seq (sR [(0,oP 12 (.mv (.c (.int .i64 0))) [])] (.block 2 (.loop L255_1))) (.seq (sR [(0,oT 116 0 [0]),(1,oP 117 (.ld 3 true (.t 7)) []),(2,oP 118
(.call 270 [.t 116,.t 117]) [116,117]),(3,oT 119 1 [1]),(4,oP 120 (.bin .neq (.t 118) (.t 119)) [118,119])] (.cond (.t 120) (sK [7,120] (sR [(0,oP 121 (.bld [.int .i64 (0),.nils,.nils] []) []),(1,⟨none,.st 3 (.t 4) (.t
121),none,[],[121]⟩),(2,oP 5 (.mv (.c (.bool false))) [])] .ret)) (sK [120] .skip))) (sR [(0,oP 122 (.ld 3 true (.t 7)) []),(1,⟨none,.st 3 (.t 4) (.t 122),none,[],[7,122]⟩),(2,oP 5 (.mv (.c (.bool true))) [])]
.ret)))))))))
def C255 : CFn := ⟨123,2,[.m 4 3 true,.t 5],B255⟩
abbrev B256 : CCode := (sR [(0,oP 4 (.mv (.c (.str []))) [4])] (sR [(0,oT 5 1 []),(1,oT 6 0 []),(2,oT 7 1 []),(3,oP 8 (.len (.t 7)) [7]),(4,oP 9 (.call 186 [.t 6,.t 8]) [6,8]),(5,oP 10 (.ia 1 (.t 5) (.t 9)) []),(6,oP 11
(.ld 1 false (.t 10)) [5,9,10]),(7,oT 4 11 [11])] .ret))
def C256 : CFn := ⟨12,2,[.t 4],B256⟩
abbrev B262 : CCode := (sR [(0,oP 2 (.mv (.c (.bool false))) [2])] (sR [(0,oT 3 0 []),(1,oT 4 0 [0]),(2,oP 5 (.bin .neq (.t 3) (.t 4)) [3,4]),(3,oT 2 5 [5])] .ret))
def C262 : CFn := ⟨6,1,[.t 2],B262⟩
abbrev B263 : CCode := (sR [(0,oP 3 (.box 2 (.t 1)) [1]),(1,oP 4 (.mv (.c (.nils))) [4])] (.seq (sR [(0,oT 5 0 []),(1,oP 6 (.ld 2 true (.t 3)) []),(2,oP 7 (.call 150 [.t 5,.t 6]) [5,6]),(3,oP 8 (.not (.t 7)) [7])]
(.cond (.t 8) (sK [0,3,8] (sR [(0,oP 9 (.bsl 1 0 [.int .i64 (0)] []) []),(1,oT 4 9 [9])] .ret)) (sK [8] .skip))) (.seq (.reg true [(0,oP 10 (.bsl 1 0 [.int .i64 (0)] []) []),(1,oP 11 (.fa 1 (.t 3)) []),(2,oP 12 (.ld 1
false (.t 11)) [11]),(3,oT 13 0 [0]),(4,oP 14 (.fa 0 (.t 3)) []),(5,oP 15 (.ld 1 false (.t 14)) [14]),(6,oP 16 (.ia 3 (.t 13) (.t 15)) []),(7,oP 17 (.fa 2 (.t 16)) [16]),(8,oP 18 (.ld 1 false (.t 17)) [13,15,17]),(9,oP
19 (.sls 1 (.t 12) none (some (.t 18)) none) [3,12,18]),(10,oP 20 (.app 1 8 (.t 10) (.t 19)) [10,19]),(11,oT 4 20 [20])]) .ret)))
def C263 : CFn := ⟨21,2,[.t 4],B263⟩
abbrev L266_0 : CCode := (.seq (sR [(0,oT 6 5 []),(1,oP 7 (.fa 1 (.t 2)) []),(2,oP 8 (.ld 1 false (.t 7)) [7]),(3,oP 9 (.len (.t 8)) [8]),(4,oP 10 (.bin .lss (.t 6) (.t 9)) [6,9])] (.cond (.t 10) (sK [10] .skip) (sK
[2,3,5,10] (.exit 0)))) (.seq (.block 1 (.seq (.reg true [(0,oP 13 (.fa 1 (.t 2)) []),(1,oP 14 (.ld 1 false (.t 13)) [13]),(2,oT 15 5 []),(3,oP 16 (.ia 2 (.t 14) (.t 15)) [14]),(4,oP 17 (.ld 2 true (.t 16)) [16]),(5,oP
18 (.ld 2 true (.t 3)) []),(6,oP 19 (.call 151 [.t 17,.t 18]) [15,17,18]),(7,oP 20 (.bin .eql (.t 19) (.c (.int .i64 0))) [19])]) (.cond (.t 20) (sK [2,3,20] (sR [(0,oT 21 5 [5]),(1,oT 4 21 [21])] .ret)) (sK [20]
.skip)))) (.reg false [(0,oT 11 5 [5]),(1,oP 12 (.bin .add (.t 11) (.c (.int .i64 1))) [11]),(2,oT 5 12 [12])])))
abbrev B266 : CCode := (sR [(0,oP 2 (.box 2 (.t 0)) [0]),(1,oP 3 (.box 2 (.t 1)) [1]),(2,oP 4 (.mv (.c (.int .i64 0))) [4])] (.seq (sR [(0,oP 5 (.mv (.c (.int .i64 0))) [])] (.block 0 (.loop L266_0))) (sR [(0,oP 4 (.mv
(.c (.int .i64 (-1)))) [])] .ret)))
def C266 : CFn := ⟨22,2,[.t 4],B266⟩
abbrev L267_0 : CCode := (.seq (sR [(0,oT 9 7 []),(1,oT 10 0 []),(2,oP 11 (.lens (.t 10)) [10]),(3,oP 12 (.bin .lss (.t 9) (.t 11)) [9,11])] (.cond (.t 12) (sK [12] .skip) (sK [1,7,12] (.exit 0)))) (.seq (.block 1 (sR
[(0,oT 15 0 []),(1,oT 16 7 []),(2,oP 17 (.ix (.t 15) (.t 16)) [15,16]),(3,oT 18 1 []),(4,oP 19 (.bin .eql (.t 17) (.t 18)) [17,18])] (.cond (.t 19) (sK [19] (sR [(0,oT 20 5 [5]),(1,oT 21 0 []),(2,oT 22 6 [6]),(3,oT 23 7
[]),(4,oP 24 (.sst (.t 21) (some (.t 22)) (some (.t 23))) [21,22,23]),(5,oP 25 (.bsl 1 1 [.str []] [(0,1,(.t 24))]) [24]),(6,oP 26 (.app 1 16 (.t 20) (.t 25)) [20,25]),(7,oT 5 26 [26])] (.reg false [(0,oT 27 7 []),(1,oP
28 (.bin .add (.t 27) (.c (.int .i64 1))) [27]),(2,oT 6 28 [28])]))) (sK [19] .skip)))) (.reg false [(0,oT 13 7 [7]),(1,oP 14 (.bin .add (.t 13) (.c (.int .i64 1))) [13]),(2,oT 7 14 [14])])))
abbrev B267 : CCode := (sR [(0,oP 4 (.mv (.c (.nils))) [4])] (sR [(0,oP 8 (.bsl 1 0 [.str []] []) []),(1,oT 5 8 [8])] (sR [(0,oP 6 (.mv (.c (.int .i64 0))) [])] (.seq (sR [(0,oP 7 (.mv (.c (.int .i64 0))) [])] (.block 0
(.loop L267_0))) (sR [(0,oT 29 5 [5]),(1,oT 30 0 [0]),(2,oT 31 6 [6]),(3,oP 32 (.sst (.t 30) (some (.t 31)) none) [30,31]),(4,oP 33 (.bsl 1 1 [.str []] [(0,1,(.t 32))]) [32]),(5,oP 34 (.app 1 16 (.t 29) (.t 33))
[29,33]),(6,oT 4 34 [34])] .ret)))))
def C267 : CFn := ⟨35,2,[.t 4],B267⟩
abbrev L268_0 : CCode := (.seq (sR [(0,oT 5 4 []),(1,oP 6 (.bin .lss (.t 5) (.c (.int .i64 4))) [5])] (.cond (.t 6) (sK [6] .skip) (sK [0,4,6] (.exit 0)))) (.seq (.block 1 (sR [(0,oT 9 4 []),(1,oP 10 (.call 272 [.t 9])
[9]),(2,oT 11 0 []),(3,oP 12 (.bin .eql (.t 10) (.t 11)) [10,11])] (.cond (.t 12) (sK [0,12] (sR [(0,oT 13 4 [4]),(1,oT 2 13 [13]),(2,oP 3 (.mv (.c (.bool true))) [])] .ret)) (sK [12] .skip)))) (.reg false [(0,oT 7 4
[4]),(1,oP 8 (.bin .add (.t 7) (.c (.int .i64 1))) [7]),(2,oT 4 8 [8])])))
abbrev B268 : CCode := (sR [(0,oP 2 (.mv (.c (.int .i64 0))) [2]),(1,oP 3 (.mv (.c (.bool false))) [3])] (.seq (sR [(0,oP 4 (.mv (.c (.int .i64 (-10)))) [])] (.block 0 (.loop L268_0))) (sR [(0,oP 2 (.mv (.c (.int .i64
0))) []),(1,oP 3 (.mv (.c (.bool false))) [])] .ret)))
def C268 : CFn := ⟨14,1,[.t 2,.t 3],B268⟩
abbrev L269_0 : CCode := (.seq (sR [(0,oT 6 5 []),(1,oT 7 0 []),(2,oP 8 (.len (.t 7)) [7]),(3,oP 9 (.bin .lss (.t 6) (.t 8)) [6,8])] (.cond (.t 9) (sK [9] .skip) (sK [0,1,5,9] (.exit 0)))) (.seq (.block 1 (sR [(0,oT 12
0 []),(1,oT 13 5 []),(2,oP 14 (.ia 3 (.t 12) (.t 13)) []),(3,oP 15 (.fa 0 (.t 14)) [14]),(4,oP 16 (.ld 1 false (.t 15)) [12,13,15]),(5,oT 17 1 []),(6,oP 18 (.bin .eql (.t 16) (.t 17)) [16,17])] (.cond (.t 18) (sK
[0,1,18] (sR [(0,oT 19 5 [5]),(1,oT 4 19 [19])] .ret)) (sK [18] .skip)))) (.reg false [(0,oT 10 5 [5]),(1,oP 11 (.bin .add (.t 10) (.c (.int .i64 1))) [10]),(2,oT 5 11 [11])])))
abbrev B269 : CCode := (sR [(0,oP 4 (.mv (.c (.int .i64 0))) [4])] (.seq (sR [(0,oP 5 (.mv (.c (.int .i64 0))) [])] (.block 0 (.loop L269_0))) (sR [(0,oP 4 (.mv (.c (.int .i64 (-1)))) [])] .ret)))
def C269 : CFn := ⟨20,2,[.t 4],B269⟩
abbrev L270_0 : CCode := (.seq (sR [(0,oT 12 6 []),(1,oP 13 (.fa 2 (.t 3)) []),(2,oP 14 (.ld 1 false (.t 13)) [13]),(3,oP 15 (.len (.t 14)) [14]),(4,oP 16 (.bin .lss (.t 12) (.t 15)) [12,15])] (.cond (.t 16) (sK [16]
.skip) (sK [6,16] (.exit 0)))) (.seq (.block 1 (.reg false [(0,oT 19 5 [5]),(1,oP 20 (.fa 2 (.t 3)) []),(2,oP 21 (.ld 1 false (.t 20)) [20]),(3,oT 22 6 []),(4,oP 23 (.ia 1 (.t 21) (.t 22)) [21]),(5,oP 24 (.ld 1 false
(.t 23)) [22,23]),(6,oP 25 (.call 272 [.t 24]) [24]),(7,oP 26 (.bin .add (.t 19) (.t 25)) [19,25]),(8,oT 5 26 [26])])) (.reg false [(0,oT 17 6 [6]),(1,oP 18 (.bin .add (.t 17) (.c (.int .i64 1))) [17]),(2,oT 6 18
[18])])))
abbrev L270_1 : CCode := (.seq (sR [(0,oT 29 7 []),(1,oP 30 (.fa 1 (.t 3)) []),(2,oP 31 (.ld 1 false (.t 30)) [30]),(3,oP 32 (.len (.t 31)) [31]),(4,oP 33 (.bin .lss (.t 29) (.t 32)) [29,32])] (.cond (.t 33) (sK [33]
.skip) (sK [0,3,7,33] (.exit 2)))) (.seq (.block 3 (.seq (sR [(0,oT 36 7 []),(1,oP 37 (.bin .gtr (.t 36) (.c (.int .i64 0))) [36])] (.cond (.t 37) (sK [37] (.reg false [(0,oT 38 5 [5]),(1,oP 39 (.bin .add (.t 38) (.c
(.str [32]))) [38]),(2,oT 5 39 [39])])) (sK [37] .skip))) (.reg false [(0,oT 40 5 [5]),(1,oT 41 0 []),(2,oP 42 (.fa 1 (.t 3)) []),(3,oP 43 (.ld 1 false (.t 42)) [42]),(4,oT 44 7 []),(5,oP 45 (.ia 2 (.t 43) (.t 44))
[43]),(6,oP 46 (.ld 2 true (.t 45)) [45]),(7,oP 47 (.call 273 [.t 41,.t 46]) [41,44,46]),(8,oP 48 (.bin .add (.t 40) (.t 47)) [40,47]),(9,oT 5 48 [48])]))) (.reg false [(0,oT 34 7 [7]),(1,oP 35 (.bin .add (.t 34) (.c
(.int .i64 1))) [34]),(2,oT 7 35 [35])])))
abbrev B270 : CCode := (sR [(0,oP 3 (.box 3 (.t 1)) [1]),(1,oP 4 (.mv (.c (.str []))) [4])] (.seq (sR [(0,oT 8 0 []),(1,oP 9 (.ld 3 true (.t 3)) []),(2,oP 10 (.call 48 [.t 8,.t 9]) [8,9]),(3,oP 11 (.not (.t 10)) [10])]
(.cond (.t 11) (sK [0,3,11] (sR [(0,oP 4 (.mv (.c (.str []))) [])] .ret)) (sK [11] .skip))) (sR [(0,oP 5 (.mv (.c (.str []))) [])] (.seq (sR [(0,oP 6 (.mv (.c (.int .i64 0))) [])] (.block 0 (.loop L270_0))) (sR [(0,oT
27 5 [5]),(1,oP 28 (.bin .add (.t 27) (.c (.str [63]))) [27]),(2,oT 5 28 [28])] (.seq (sR [(0,oP 7 (.mv (.c (.int .i64 0))) [])] (.block 2 (.loop L270_1))) (sR [(0,oT 49 5 [5]),(1,oT 4 49 [49])] .ret)))))))
def C270 : CFn := ⟨50,2,[.t 4],B270⟩
abbrev B272 : CCode := (sR [(0,oP 2 (.mv (.c (.str []))) [2])] (sR [(0,oT 6 0 []),(1,oP 7 (.call 274 [.t 6]) [6]),(2,oT 5 7 [7]),(3,oP 8 (.ex (.t 5) 0) []),(4,oP 9 (.ex (.t 5) 1) [5]),(5,oT 3 8 [8]),(6,oT 4 9 [9])]
(.seq (sR [(0,oT 10 4 [4])] (.cond (.t 10) (sK [0,10] (sR [(0,oT 11 3 [3]),(1,oP 12 (.call 275 [.t 11]) [11]),(2,oT 2 12 [12])] .ret)) (sK [3,10] .skip))) (.seq (sR [(0,oT 13 0 []),(1,oP 14 (.call 118 [.t 13,(.c (.int
.i64 0)),(.c (.int .i64 3))]) [13]),(2,oP 15 (.not (.t 14)) [14])] (.cond (.t 15) (sK [0,15] (sR [(0,oP 2 (.mv (.c (.str []))) [])] .ret)) (sK [15] .skip))) (sR [(0,oT 16 0 []),(1,oT 17 0 [0]),(2,oP 18 (.bin .add (.t
17) (.c (.int .i64 1))) [17]),(3,oP 19 (.sst (.c (.str [120,121,122,119])) (some (.t 16)) (some (.t 18))) [16,18]),(4,oT 2 19 [19])] .ret)))))
def C272 : CFn := ⟨20,1,[.t 2],B272⟩
abbrev L273_0 : CCode := (.seq (sR [(0,oT 13 6 []),(1,oP 14 (.fa 1 (.t 3)) []),(2,oP 15 (.ld 1 false (.t 14)) [14]),(3,oP 16 (.len (.t 15)) [15]),(4,oP 17 (.bin .lss (.t 13) (.t 16)) [13,16])] (.cond (.t 17) (sK [17]
.skip) (sK [0,3,6,17] (.exit 0)))) (.seq (.block 1 (.seq (sR [(0,oT 20 6 []),(1,oT 21 0 []),(2,oP 22 (.fa 0 (.t 3)) []),(3,oP 23 (.ld 1 false (.t 22)) [22]),(4,oP 24 (.ia 3 (.t 21) (.t 23)) []),(5,oP 25 (.fa 2 (.t 24))
[24]),(6,oP 26 (.ld 1 false (.t 25)) [21,23,25]),(7,oP 27 (.bin .eql (.t 20) (.t 26)) [20,26])] (.cond (.t 27) (sK [27] (.reg false [(0,oT 28 5 [5]),(1,oP 29 (.bin .add (.t 28) (.c (.str [124]))) [28]),(2,oT 5 29
[29])])) (sK [27] .skip))) (.reg false [(0,oT 30 5 [5]),(1,oP 31 (.fa 1 (.t 3)) []),(2,oP 32 (.ld 1 false (.t 31)) [31]),(3,oT 33 6 []),(4,oP 34 (.ia 1 (.t 32) (.t 33)) [32]),(5,oP 35 (.ld 1 false (.t 34))
[33,34]),(6,oP 36 (.call 272 [.t 35]) [35]),(7,oP 37 (.bin .add (.t 30) (.t 36)) [30,36]),(8,oT 5 37 [37])]))) (.reg false [(0,oT 18 6 [6]),(1,oP 19 (.bin .add (.t 18) (.c (.int .i64 1))) [18]),(2,oT 6 19 [19])])))
abbrev B273 : CCode := (sR [(0,oP 3 (.box 2 (.t 1)) [1]),(1,oP 4 (.mv (.c (.str []))) [4])] (sR [(0,oT 7 0 []),(1,oP 8 (.fa 0 (.t 3)) []),(2,oP 9 (.ld 1 false (.t 8)) [8]),(3,oP 10 (.ia 3 (.t 7) (.t 9)) []),(4,oP 11
(.fa 0 (.t 10)) [10]),(5,oP 12 (.ld 1 false (.t 11)) [7,9,11]),(6,oT 5 12 [12])] (.seq (sR [(0,oP 6 (.mv (.c (.int .i64 0))) [])] (.block 0 (.loop L273_0))) (sR [(0,oT 38 5 [5]),(1,oT 4 38 [38])] .ret))))
def C273 : CFn := ⟨39,2,[.t 4],B273⟩
abbrev B274 : CCode := (sR [(0,oP 2 (.mv (.c (.int .i64 0))) [2]),(1,oP 3 (.mv (.c (.bool false))) [3])] (.seq (sR [(0,oT 4 0 []),(1,oP 5 (.bin .geq (.t 4) (.c (.int .i64 0))) [4]),(2,oT 6 5 [5]),(3,oG 7 (.mv (.t 0)) 6
false []),(4,oG 8 (.bin .sub (.c (.int .i64 (-1))) (.t 7)) 6 false [7]),(5,oG 9 (.call 118 [.t 8,(.c (.int .i64 0)),(.c (.int .i64 9))]) 6 false [8]),(6,oG 10 (.not (.t 9)) 6 false [9]),(7,oP 11 (.pick (.t 6) (.c (.bool
true)) (.t 10)) [6,10])] (.cond (.t 11) (sK [0,11] (sR [(0,oP 2 (.mv (.c (.int .i64 0))) []),(1,oP 3 (.mv (.c (.bool false))) [])] .ret)) (sK [11] .skip))) (sR [(0,oT 12 0 [0]),(1,oP 13 (.bin .sub (.c (.int .i64 (-1)))
(.t 12)) [12]),(2,oT 2 13 [13]),(3,oP 3 (.mv (.c (.bool true))) [])] .ret)))
def C274 : CFn := ⟨14,1,[.t 2,.t 3],B274⟩
abbrev L275_0 : CCode := (.seq (sR [(0,oT 10 0 []),(1,oP 11 (.bin .neq (.t 10) (.c (.int .i64 0))) [10])] (.cond (.t 11) (sK [11] .skip) (sK [0,11] (.exit 0)))) (.block 1 (sR [(0,oT 12 0 []),(1,oP 13 (.bin .rem (.t 12)
(.c (.int .i64 10))) [12]),(2,oT 5 13 [13])] (.seq (sR [(0,oT 14 5 []),(1,oP 15 (.bin .lss (.t 14) (.c (.int .i64 0))) [14])] (.cond (.t 15) (sK [15] (.reg false [(0,oT 16 5 [5]),(1,oP 17 (.neg (.t 16)) [16]),(2,oT 5 17
[17])])) (sK [15] .skip))) (sR [(0,oT 18 5 [5]),(1,oP 19 (.bin .add (.c (.int .i64 48)) (.t 18)) [18]),(2,oP 20 (.conv .u8 (.t 19)) [19]),(3,oP 21 (.bsl 1 1 [.int .u8 (0)] [(0,1,(.t 20))]) [20]),(4,oP 22 (.b2s (.t 21))
[21]),(5,oT 23 3 [3]),(6,oP 24 (.bin .add (.t 22) (.t 23)) [22,23]),(7,oT 3 24 [24])] (.reg false [(0,oT 25 0 [0]),(1,oP 26 (.bin .quo (.t 25) (.c (.int .i64 10))) [25]),(2,oT 0 26 [26])]))))))
abbrev B275 : CCode := (sR [(0,oP 2 (.mv (.c (.str []))) [2])] (.seq (sR [(0,oT 6 0 []),(1,oP 7 (.bin .eql (.t 6) (.c (.int .i64 0))) [6])] (.cond (.t 7) (sK [0,7] (sR [(0,oP 2 (.mv (.c (.str [48]))) [])] .ret)) (sK [7]
.skip))) (sR [(0,oP 3 (.mv (.c (.str []))) [])] (sR [(0,oT 8 0 []),(1,oP 9 (.bin .lss (.t 8) (.c (.int .i64 0))) [8]),(2,oT 4 9 [9])] (.seq (.block 0 (.loop L275_0)) (.seq (sR [(0,oT 27 4 [4])] (.cond (.t 27) (sK [27]
(sR [(0,oT 28 3 [3]),(1,oP 29 (.bin .add (.c (.str [45])) (.t 28)) [28]),(2,oT 2 29 [29])] .ret)) (sK [27] .skip))) (sR [(0,oT 30 3 [3]),(1,oT 2 30 [30])] .ret)))))))
def C275 : CFn := ⟨31,1,[.t 2],B275⟩
theorem chk8 : chkFn Go.Proofs.Tryz.prog 8 C8 = true := by kernel_rfl
theorem chk35 : chkFn Go.Proofs.Tryz.prog 35 C35 = true := by kernel_rfl
theorem chk48 : chkFn Go.Proofs.Tryz.prog 48 C48 = true := by kernel_rfl
theorem chk57 : chkFn Go.Proofs.Tryz.prog 57 C57 = true := by kernel_rfl
theorem chk58 : chkFn Go.Proofs.Tryz.prog 58 C58 = true := by kernel_rfl
theorem chk59 : chkFn Go.Proofs.Tryz.prog 59 C59 = true := by kernel_rfl
theorem chk60 : chkFn Go.Proofs.Tryz.prog 60 C60 = true := by kernel_rfl
theorem chk61 : chkFn Go.Proofs.Tryz.prog 61 C61 = true := by kernel_rfl
theorem chk62 : chkFn Go.Proofs.Tryz.prog 62 C62 = true := by kernel_rfl
theorem chk63 : chkFn Go.Proofs.Tryz.prog 63 C63 = true := by kernel_rfl
theorem chk73 : chkFn Go.Proofs.Tryz.prog 73 C73 = true := by kernel_rfl
theorem chk75 : chkFn Go.Proofs.Tryz.prog 75 C75 = true := by kernel_rfl
theorem chk79 : chkFn Go.Proofs.Tryz.prog 79 C79 = true := by kernel_rfl
theorem chk81 : chkFn Go.Proofs.Tryz.prog 81 C81 = true := by kernel_rfl
theorem chk88 : chkFn Go.Proofs.Tryz.prog 88 C88 = true := by kernel_rfl
theorem chk90 : chkFn Go.Proofs.Tryz.prog 90 C90 = true := by kernel_rfl
theorem chk93 : chkFn Go.Proofs.Tryz.prog 93 C93 = true := by kernel_rfl
theorem chk102 : chkFn Go.Proofs.Tryz.prog 102 C102 = true := by kernel_rfl
theorem chk104 : chkFn Go.Proofs.Tryz.prog 104 C104 = true := by kernel_rfl
theorem chk111 : chkFn Go.Proofs.Tryz.prog 111 C111 = true := by kernel_rfl
theorem chk117 : chkFn Go.Proofs.Tryz.prog 117 C117 = true := by kernel_rfl
theorem chk118 : chkFn Go.Proofs.Tryz.prog 118 C118 = true := by kernel_rfl
theorem chk122 : chkFn Go.Proofs.Tryz.prog 122 C122 = true := by kernel_rfl
theorem chk125 : chkFn Go.Proofs.Tryz.prog 125 C125 = true := by kernel_rfl
theorem chk127 : chkFn Go.Proofs.Tryz.prog 127 C127 = true := by kernel_rfl
theorem chk128 : chkFn Go.Proofs.Tryz.prog 128 C128 = true := by kernel_rfl
theorem chk129 : chkFn Go.Proofs.Tryz.prog 129 C129 = true := by kernel_rfl
theorem chk130 : chkFn Go.Proofs.Tryz.prog 130 C130 = true := by kernel_rfl
theorem chk131 : chkFn Go.Proofs.Tryz.prog 131 C131 = true := by kernel_rfl
theorem chk132 : chkFn Go.Proofs.Tryz.prog 132 C132 = true := by kernel_rfl
theorem chk133 : chkFn Go.Proofs.Tryz.prog 133 C133 = true := by kernel_rfl
theorem chk134 : chkFn Go.Proofs.Tryz.prog 134 C134 = true := by kernel_rfl
theorem chk135 : chkFn Go.Proofs.Tryz.prog 135 C135 = true := by kernel_rfl
theorem chk136 : chkFn Go.Proofs.Tryz.prog 136 C136 = true := by kernel_rfl
theorem chk137 : chkFn Go.Proofs.Tryz.prog 137 C137 = true := by kernel_rfl
theorem chk138 : chkFn Go.Proofs.Tryz.prog 138 C138 = true := by kernel_rfl
theorem chk139 : chkFn Go.Proofs.Tryz.prog 139 C139 = true := by kernel_rfl
theorem chk141 : chkFn Go.Proofs.Tryz.prog 141 C141 = true := by kernel_rfl
theorem chk150 : chkFn Go.Proofs.Tryz.prog 150 C150 = true := by kernel_rfl
theorem chk151 : chkFn Go.Proofs.Tryz.prog 151 C151 = true := by kernel_rfl
theorem chk153 : chkFn Go.Proofs.Tryz.prog 153 C153 = true := by kernel_rfl
theorem chk156 : chkFn Go.Proofs.Tryz.prog 156 C156 = true := by kernel_rfl
theorem chk157 : chkFn Go.Proofs.Tryz.prog 157 C157 = true := by kernel_rfl
theorem chk158 : chkFn Go.Proofs.Tryz.prog 158 C158 = true := by kernel_rfl
theorem chk159 : chkFn Go.Proofs.Tryz.prog 159 C159 = true := by kernel_rfl
theorem chk161 : chkFn Go.Proofs.Tryz.prog 161 C161 = true := by kernel_rfl
theorem chk169 : chkFn Go.Proofs.Tryz.prog 169 C169 = true := by kernel_rfl
theorem chk172 : chkFn Go.Proofs.Tryz.prog 172 C172 = true := by kernel_rfl
theorem chk173 : chkFn Go.Proofs.Tryz.prog 173 C173 = true := by kernel_rfl
theorem chk174 : chkFn Go.Proofs.Tryz.prog 174 C174 = true := by kernel_rfl
theorem chk179 : chkFn Go.Proofs.Tryz.prog 179 C179 = true := by kernel_rfl
theorem chk182 : chkFn Go.Proofs.Tryz.prog 182 C182 = true := by kernel_rfl
theorem chk183 : chkFn Go.Proofs.Tryz.prog 183 C183 = true := by kernel_rfl
theorem chk184 : chkFn Go.Proofs.Tryz.prog 184 C184 = true := by kernel_rfl
theorem chk185 : chkFn Go.Proofs.Tryz.prog 185 C185 = true := by kernel_rfl
theorem chk186 : chkFn Go.Proofs.Tryz.prog 186 C186 = true := by kernel_rfl
theorem chk187 : chkFn Go.Proofs.Tryz.prog 187 C187 = true := by kernel_rfl
theorem chk188 : chkFn Go.Proofs.Tryz.prog 188 C188 = true := by kernel_rfl
theorem chk189 : chkFn Go.Proofs.Tryz.prog 189 C189 = true := by kernel_rfl
theorem chk190 : chkFn Go.Proofs.Tryz.prog 190 C190 = true := by kernel_rfl
theorem chk191 : chkFn Go.Proofs.Tryz.prog 191 C191 = true := by kernel_rfl
theorem chk192 : chkFn Go.Proofs.Tryz.prog 192 C192 = true := by kernel_rfl
theorem chk193 : chkFn Go.Proofs.Tryz.prog 193 C193 = true := by kernel_rfl
theorem chk194 : chkFn Go.Proofs.Tryz.prog 194 C194 = true := by kernel_rfl
theorem chk195 : chkFn Go.Proofs.Tryz.prog 195 C195 = true := by kernel_rfl
theorem chk198 : chkFn Go.Proofs.Tryz.prog 198 C198 = true := by kernel_rfl
theorem chk207 : chkFn Go.Proofs.Tryz.prog 207 C207 = true := by kernel_rfl
theorem chk208 : chkFn Go.Proofs.Tryz.prog 208 C208 = true := by kernel_rfl
theorem chk209 : chkFn Go.Proofs.Tryz.prog 209 C209 = true := by kernel_rfl
theorem chk210 : chkFn Go.Proofs.Tryz.prog 210 C210 = true := by kernel_rfl
theorem chk211 : chkFn Go.Proofs.Tryz.prog 211 C211 = true := by kernel_rfl
theorem chk212 : chkFn Go.Proofs.Tryz.prog 212 C212 = true := by kernel_rfl
theorem chk213 : chkFn Go.Proofs.Tryz.prog 213 C213 = true := by kernel_rfl
theorem chk217 : chkFn Go.Proofs.Tryz.prog 217 C217 = true := by kernel_rfl
theorem chk218 : chkFn Go.Proofs.Tryz.prog 218 C218 = true := by kernel_rfl
theorem chk219 : chkFn Go.Proofs.Tryz.prog 219 C219 = true := by kernel_rfl
theorem chk223 : chkFn Go.Proofs.Tryz.prog 223 C223 = true := by kernel_rfl
theorem chk224 : chkFn Go.Proofs.Tryz.prog 224 C224 = true := by kernel_rfl
theorem chk225 : chkFn Go.Proofs.Tryz.prog 225 C225 = true := by kernel_rfl
theorem chk226 : chkFn Go.Proofs.Tryz.prog 226 C226 = true := by kernel_rfl
theorem chk227 : chkFn Go.Proofs.Tryz.prog 227 C227 = true := by kernel_rfl
theorem chk228 : chkFn Go.Proofs.Tryz.prog 228 C228 = true := by kernel_rfl
theorem chk229 : chkFn Go.Proofs.Tryz.prog 229 C229 = true := by kernel_rfl
theorem chk241 : chkFn Go.Proofs.Tryz.prog 241 C241 = true := by kernel_rfl
theorem chk245 : chkFn Go.Proofs.Tryz.prog 245 C245 = true := by kernel_rfl
theorem chk246 : chkFn Go.Proofs.Tryz.prog 246 C246 = true := by kernel_rfl
theorem chk248 : chkFn Go.Proofs.Tryz.prog 248 C248 = true := by kernel_rfl
theorem chk252 : chkFn Go.Proofs.Tryz.prog 252 C252 = true := by kernel_rfl
theorem chk253 : chkFn Go.Proofs.Tryz.prog 253 C253 = true := by kernel_rfl
theorem chk254 : chkFn Go.Proofs.Tryz.prog 254 C254 = true := by kernel_rfl
theorem chk255 : chkFn Go.Proofs.Tryz.prog 255 C255 = true := by kernel_rfl
theorem chk256 : chkFn Go.Proofs.Tryz.prog 256 C256 = true := by kernel_rfl
theorem chk262 : chkFn Go.Proofs.Tryz.prog 262 C262 = true := by kernel_rfl
theorem chk263 : chkFn Go.Proofs.Tryz.prog 263 C263 = true := by kernel_rfl
theorem chk266 : chkFn Go.Proofs.Tryz.prog 266 C266 = true := by kernel_rfl
theorem chk267 : chkFn Go.Proofs.Tryz.prog 267 C267 = true := by kernel_rfl
theorem chk268 : chkFn Go.Proofs.Tryz.prog 268 C268 = true := by kernel_rfl
theorem chk269 : chkFn Go.Proofs.Tryz.prog 269 C269 = true := by kernel_rfl
theorem chk270 : chkFn Go.Proofs.Tryz.prog 270 C270 = true := by kernel_rfl
theorem chk272 : chkFn Go.Proofs.Tryz.prog 272 C272 = true := by kernel_rfl
theorem chk273 : chkFn Go.Proofs.Tryz.prog 273 C273 = true := by kernel_rfl
theorem chk274 : chkFn Go.Proofs.Tryz.prog 274 C274 = true := by kernel_rfl
theorem chk275 : chkFn Go.Proofs.Tryz.prog 275 C275 = true := by kernel_rfl
def Tab (f : Nat) : Option CFn :=
  match f with
  | 8 => some C8
  | 35 => some C35
  | 48 => some C48
  | 57 => some C57
  | 58 => some C58
  | 59 => some C59
  | 60 => some C60
  | 61 => some C61
  | 62 => some C62
  | 63 => some C63
  | 73 => some C73
  | 75 => some C75
  | 79 => some C79
  | 81 => some C81
  | 88 => some C88
  | 90 => some C90
  | 93 => some C93
  | 102 => some C102
  | 104 => some C104
  | 111 => some C111
  | 117 => some C117
  | 118 => some C118
  | 122 => some C122
  | 125 => some C125
  | 127 => some C127
  | 128 => some C128
  | 129 => some C129
  | 130 => some C130
  | 131 => some C131
  | 132 => some C132
  | 133 => some C133
  | 134 => some C134
  | 135 => some C135
  | 136 => some C136
  | 137 => some C137
  | 138 => some C138
  | 139 => some C139
  | 141 => some C141
  | 150 => some C150
  | 151 => some C151
  | 153 => some C153
  | 156 => some C156
  | 157 => some C157
  | 158 => some C158
  | 159 => some C159
  | 161 => some C161
  | 169 => some C169
  | 172 => some C172
  | 173 => some C173
  | 174 => some C174
  | 179 => some C179
  | 182 => some C182
  | 183 => some C183
  | 184 => some C184
  | 185 => some C185
  | 186 => some C186
  | 187 => some C187
  | 188 => some C188
  | 189 => some C189
  | 190 => some C190
  | 191 => some C191
  | 192 => some C192
  | 193 => some C193
  | 194 => some C194
  | 195 => some C195
  | 198 => some C198
  | 207 => some C207
  | 208 => some C208
  | 209 => some C209
  | 210 => some C210
  | 211 => some C211
  | 212 => some C212
  | 213 => some C213
  | 217 => some C217
  | 218 => some C218
  | 219 => some C219
  | 223 => some C223
  | 224 => some C224
  | 225 => some C225
  | 226 => some C226
  | 227 => some C227
  | 228 => some C228
  | 229 => some C229
  | 241 => some C241
  | 245 => some C245
  | 246 => some C246
  | 248 => some C248
  | 252 => some C252
  | 253 => some C253
  | 254 => some C254
  | 255 => some C255
  | 256 => some C256
  | 262 => some C262
  | 263 => some C263
  | 266 => some C266
  | 267 => some C267
  | 268 => some C268
  | 269 => some C269
  | 270 => some C270
  | 272 => some C272
  | 273 => some C273
  | 274 => some C274
  | 275 => some C275
  | _ => none
theorem tabOk : TabOk Go.Proofs.Tryz.prog Tab := by
  intro f cf h
  unfold Tab at h
  split at h <;> simp only [Option.some.injEq, reduceCtorEq] at h <;> subst h
  · exact chk8
  · exact chk35
  · exact chk48
  · exact chk57
  · exact chk58
  · exact chk59
  · exact chk60
  · exact chk61
  · exact chk62
  · exact chk63
  · exact chk73
  · exact chk75
  · exact chk79
  · exact chk81
  · exact chk88
  · exact chk90
  · exact chk93
  · exact chk102
  · exact chk104
  · exact chk111
  · exact chk117
  · exact chk118
  · exact chk122
  · exact chk125
  · exact chk127
  · exact chk128
  · exact chk129
  · exact chk130
  · exact chk131
  · exact chk132
  · exact chk133
  · exact chk134
  · exact chk135
  · exact chk136
  · exact chk137
  · exact chk138
  · exact chk139
  · exact chk141
  · exact chk150
  · exact chk151
  · exact chk153
  · exact chk156
  · exact chk157
  · exact chk158
  · exact chk159
  · exact chk161
  · exact chk169
  · exact chk172
  · exact chk173
  · exact chk174
  · exact chk179
  · exact chk182
  · exact chk183
  · exact chk184
  · exact chk185
  · exact chk186
  · exact chk187
  · exact chk188
  · exact chk189
  · exact chk190
  · exact chk191
  · exact chk192
  · exact chk193
  · exact chk194
  · exact chk195
  · exact chk198
  · exact chk207
  · exact chk208
  · exact chk209
  · exact chk210
  · exact chk211
  · exact chk212
  · exact chk213
  · exact chk217
  · exact chk218
  · exact chk219
  · exact chk223
  · exact chk224
  · exact chk225
  · exact chk226
  · exact chk227
  · exact chk228
  · exact chk229
  · exact chk241
  · exact chk245
  · exact chk246
  · exact chk248
  · exact chk252
  · exact chk253
  · exact chk254
  · exact chk255
  · exact chk256
  · exact chk262
  · exact chk263
  · exact chk266
  · exact chk267
  · exact chk268
  · exact chk269
  · exact chk270
  · exact chk272
  · exact chk273
  · exact chk274
  · exact chk275

end Go.Proofs.YtcllfkplpdppiaaGreatH
