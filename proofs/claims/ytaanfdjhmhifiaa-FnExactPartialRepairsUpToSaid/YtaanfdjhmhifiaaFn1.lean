import Derived.Test.YtaanfdjhmhifiaaX3
import Derived.Test.YtaanfdjhmhifiaaProg
set_option linter.unusedVariables false
set_option maxRecDepth 100000
namespace Go.Proofs.YtaanfdjhmhifiaaH
open Go
@[simp] abbrev oP (d : Nat) (p : COp) (k : List Nat) : COper := ⟨some d, p, none, [], k⟩
@[simp] abbrev oT (d a : Nat) (k : List Nat) : COper := ⟨some d, .mv (.t a), none, [], k⟩
abbrev sR (l : List (Nat × COper)) (c : CCode) : CCode := .seq (.reg false l) c
abbrev sK (l : List Nat) (c : CCode) : CCode := .seq (.kill l) c
abbrev B3 : CCode := (sR [(0,oP 2 (.box 2 (.t 0)) [0]),(1,oP 4 (.mv (.c (.bool false))) [4])] (sR [(0,oP 5 (.mv (.c (.int .i64 1048576))) [])] (sR [(0,oP 13 (.ld 2 true (.t 2)) []),(1,oT 14 5 [5]),(2,oP 15 (.call 5 [.t
13,.t 14]) [13,14]),(3,oT 5 15 [15])] (.seq (sR [(0,oT 16 5 [5]),(1,oP 17 (.bin .lss (.t 16) (.c (.int .i64 0))) [16])] (.cond (.t 17) (sK [1,2,17] (sR [(0,oP 4 (.mv (.c (.bool true))) [])] .ret)) (sK [17] .skip))) (sR
[(0,oP 18 (.ld 2 true (.t 2)) []),(1,oP 19 (.call 7 [.t 18]) [18]),(2,oT 20 1 []),(3,oP 21 (.call 6 [.t 19,.t 20]) [19,20]),(4,oT 6 21 [21])] (sR [(0,oP 22 (.ld 2 true (.t 2)) []),(1,oP 23 (.call 7 [.t 22]) [22]),(2,oP
7 (.al [.nils,.nils]) []),(3,⟨none,.st 2 (.t 7) (.t 23),none,[],[23]⟩)] (sR [(0,oP 24 (.ld 2 true (.t 7)) []),(1,oT 25 1 []),(2,oP 26 (.call 8 [.t 24,.t 25]) [24,25]),(3,oT 8 26 [26])] (.seq (sR [(0,oT 27 8 []),(1,oT 28
6 []),(2,oP 29 (.call 9 [.t 27,.t 28]) [27,28]),(3,oP 30 (.not (.t 29)) [29])] (.cond (.t 30) (sK [1,2,6,7,8,30] (sR [(0,oP 4 (.mv (.c (.bool false))) [])] .ret)) (sK [30] .skip))) (.seq (.seq (.reg true [(0,oP 31 (.ld
2 true (.t 7)) []),(1,oP 32 (.ld 2 true (.t 2)) []),(2,⟨some 33,.call 7 [.t 32],none,[(7,2)],[32]⟩),(3,oP 34 (.call 10 [.t 31,.t 33]) [31,33]),(4,oP 35 (.not (.t 34)) [34])]) (.cond (.t 35) (sK [1,2,6,7,8,35] (sR [(0,oP
4 (.mv (.c (.bool false))) [])] .ret)) (sK [35] .skip))) (sR [(0,oP 9 (.mv (.c (.int .i64 1))) [])] (sR [(0,oP 36 (.ld 2 true (.t 7)) []),(1,oT 37 9 [9]),(2,oP 38 (.call 11 [.t 36,.t 37]) [7,36,37]),(3,oT 9 38 [38])]
(.seq (sR [(0,oT 39 9 [9]),(1,oP 40 (.bin .lss (.t 39) (.c (.int .i64 0))) [39]),(2,oT 41 40 [40]),(3,⟨some 42,.mv (.t 8),some (41,false),[],[]⟩),(4,⟨some 43,.mv (.t 6),some (41,false),[],[]⟩),(5,⟨some 44,.call 9 [.t
42,.t 43],some (41,false),[],[42,43]⟩),(6,⟨some 45,.not (.t 44),some (41,false),[],[44]⟩),(7,oP 46 (.pick (.t 41) (.c (.bool true)) (.t 45)) [41,45])] (.cond (.t 46) (sK [1,2,6,8,46] (sR [(0,oP 4 (.mv (.c (.bool
false))) [])] .ret)) (sK [46] .skip))) (sR [(0,oP 10 (.mv (.c (.int .i64 1))) [])] (sR [(0,oT 47 8 []),(1,oT 48 10 [10]),(2,oP 49 (.call 12 [.t 47,.t 48]) [47,48]),(3,oT 10 49 [49])] (sR [(0,oP 11 (.mv (.c (.int .i64
1))) [])] (sR [(0,oT 50 8 []),(1,oT 51 11 [11]),(2,oP 52 (.call 13 [.t 50,.t 51]) [50,51]),(3,oT 11 52 [52])] (.seq (sR [(0,oT 53 11 []),(1,oP 54 (.bin .lss (.t 53) (.c (.int .i64 0))) [53])] (.cond (.t 54) (sK
[1,2,6,8,10,11,54] (sR [(0,oP 4 (.mv (.c (.bool false))) [])] .ret)) (sK [54] .skip))) (.seq (sR [(0,oT 55 11 [11]),(1,oT 56 10 []),(2,oP 57 (.bin .neq (.t 55) (.t 56)) [55,56])] (.cond (.t 57) (sK [1,2,6,8,10,57] (sR
[(0,oP 4 (.mv (.c (.bool false))) [])] .ret)) (sK [57] .skip))) (sR [(0,oP 58 (.ld 2 true (.t 2)) []),(1,oP 59 (.call 7 [.t 58]) [2,58]),(2,oT 60 1 [1]),(3,oP 61 (.call 8 [.t 59,.t 60]) [59,60]),(4,oT 12 61 [61])] (.seq
(sR [(0,oT 62 12 [12]),(1,oT 63 6 [6]),(2,oP 64 (.call 9 [.t 62,.t 63]) [62,63]),(3,oP 65 (.not (.t 64)) [64])] (.cond (.t 65) (sK [8,10,65] (sR [(0,oP 4 (.mv (.c (.bool false))) [])] .ret)) (sK [65] .skip))) (sR [(0,oP
11 (.mv (.c (.int .i64 1))) [])] (sR [(0,oT 66 8 [8]),(1,oT 67 11 [11]),(2,oP 68 (.call 13 [.t 66,.t 67]) [66,67]),(3,oT 11 68 [68])] (.seq (sR [(0,oT 69 11 []),(1,oP 70 (.bin .lss (.t 69) (.c (.int .i64 0))) [69])]
(.cond (.t 70) (sK [10,11,70] (sR [(0,oP 4 (.mv (.c (.bool false))) [])] .ret)) (sK [70] .skip))) (.seq (sR [(0,oT 71 11 [11]),(1,oT 72 10 [10]),(2,oP 73 (.bin .neq (.t 71) (.t 72)) [71,72])] (.cond (.t 73) (sK [73] (sR
[(0,oP 4 (.mv (.c (.bool false))) [])] .ret)) (sK [73] .skip))) (sR [(0,oP 4 (.mv (.c (.bool true))) [])] .ret)))))))))))))))))))))))))
def C3 : CFn := ⟨74,2,[.t 4],B3⟩
abbrev B5 : CCode := (sR [(0,oP 2 (.box 2 (.t 0)) [0]),(1,oP 4 (.mv (.c (.int .i64 0))) [4])] (sR [(0,oP 5 (.fa 0 (.t 2)) []),(1,oP 6 (.ld 1 false (.t 5)) [5]),(2,oT 7 1 [1]),(3,oP 8 (.call 19 [.t 6,.t 7]) [6,7]),(4,oT
1 8 [8])] (.seq (sR [(0,oT 9 1 []),(1,oP 10 (.bin .lss (.t 9) (.c (.int .i64 0))) [9])] (.cond (.t 10) (sK [1,2,10] (sR [(0,oP 4 (.mv (.c (.int .i64 (-1)))) [])] .ret)) (sK [10] .skip))) (sR [(0,oP 11 (.fa 1 (.t 2))
[]),(1,oP 12 (.ld 1 false (.t 11)) [11]),(2,oT 13 1 [1]),(3,oP 14 (.call 20 [.t 12,.t 13]) [2,12,13]),(4,oT 1 14 [14])] (.seq (sR [(0,oT 15 1 []),(1,oP 16 (.bin .lss (.t 15) (.c (.int .i64 0))) [15])] (.cond (.t 16) (sK
[1,16] (sR [(0,oP 4 (.mv (.c (.int .i64 (-1)))) [])] .ret)) (sK [16] .skip))) (sR [(0,oT 17 1 [1]),(1,oT 4 17 [17])] .ret))))))
def C5 : CFn := ⟨18,2,[.t 4],B5⟩
abbrev L6_2 : CCode := (.seq (sR [(0,oT 61 11 []),(1,oP 62 (.fa 1 (.t 2)) []),(2,oP 63 (.ld 1 false (.t 62)) [62]),(3,oP 64 (.len (.t 63)) [63]),(4,oP 65 (.bin .lss (.t 61) (.t 64)) [61,64])] (.cond (.t 65) (sK [65]
.skip) (sK [11,65] (.exit 4)))) (.seq (.block 5 (sR [(0,oP 68 (.bsl 1 0 [.int .i64 (0)] []) []),(1,oT 69 6 []),(2,oT 70 9 []),(3,oP 71 (.ia 1 (.t 69) (.t 70)) []),(4,oP 72 (.ld 1 false (.t 71)) [71]),(5,oP 73 (.app 1 8
(.t 68) (.t 72)) [68,69,70,72]),(6,oT 74 11 []),(7,oP 75 (.bsl 1 1 [.int .i64 (0)] [(0,1,(.t 74))]) [74]),(8,oP 76 (.app 1 8 (.t 73) (.t 75)) [73,75]),(9,oT 12 76 [76])] (sR [(0,oP 77 (.ld 2 true (.t 2)) []),(1,oT 78 12
[]),(2,oP 79 (.call 22 [.t 77,.t 78]) [77,78])] (.cond (.t 79) (sK [79] (.reg false [(0,oT 80 8 [8]),(1,oT 81 12 [12]),(2,oP 82 (.bsl 1 1 [.nils] [(0,1,(.t 81))]) [81]),(3,oP 83 (.app 1 24 (.t 80) (.t 82))
[80,82]),(4,oT 8 83 [83])])) (sK [12,79] .skip))))) (.reg false [(0,oT 66 11 [11]),(1,oP 67 (.bin .add (.t 66) (.c (.int .i64 1))) [66]),(2,oT 11 67 [67])])))
abbrev L6_1 : CCode := (.seq (sR [(0,oT 35 9 []),(1,oT 36 6 []),(2,oP 37 (.len (.t 36)) [36]),(3,oP 38 (.bin .lss (.t 35) (.t 37)) [35,37])] (.cond (.t 38) (sK [38] .skip) (sK [6,9,38] (.exit 2)))) (.seq (.block 3 (sR
[(0,oP 10 (.mv (.c (.int .i64 0))) [])] (.seq (sR [(0,oT 41 6 []),(1,oT 42 9 []),(2,oP 43 (.ia 1 (.t 41) (.t 42)) []),(3,oP 44 (.ld 1 false (.t 43)) [43]),(4,oP 45 (.len (.t 44)) [41,42,44]),(5,oP 46 (.bin .gtr (.t 45)
(.c (.int .i64 0))) [45])] (.cond (.t 46) (sK [10,46] (.reg true [(0,oT 47 6 []),(1,oT 48 9 []),(2,oP 49 (.ia 1 (.t 47) (.t 48)) []),(3,oP 50 (.ld 1 false (.t 49)) [49]),(4,oT 51 6 []),(5,oT 52 9 []),(6,oP 53 (.ia 1 (.t
51) (.t 52)) []),(7,oP 54 (.ld 1 false (.t 53)) [53]),(8,oP 55 (.len (.t 54)) [51,52,54]),(9,oP 56 (.bin .sub (.t 55) (.c (.int .i64 1))) [55]),(10,oP 57 (.ia 1 (.t 50) (.t 56)) [50]),(11,oP 58 (.ld 1 false (.t 57))
[47,48,56,57]),(12,oP 59 (.bin .add (.t 58) (.c (.int .i64 1))) [58]),(13,oT 10 59 [59])])) (sK [46] .skip))) (sR [(0,oT 60 10 [10]),(1,oT 11 60 [60])] (.block 4 (.loop L6_2)))))) (.reg false [(0,oT 39 9 [9]),(1,oP 40
(.bin .add (.t 39) (.c (.int .i64 1))) [39]),(2,oT 9 40 [40])])))
abbrev L6_0 : CCode := (.seq (sR [(0,oT 29 7 []),(1,oT 30 1 []),(2,oP 31 (.bin .lss (.t 29) (.t 30)) [29,30])] (.cond (.t 31) (sK [31] .skip) (sK [1,2,6,7,31] (.exit 0)))) (.seq (.block 1 (sR [(0,oP 34 (.bsl 1 0 [.nils]
[]) []),(1,oT 8 34 [34])] (.seq (sR [(0,oP 9 (.mv (.c (.int .i64 0))) [])] (.block 2 (.loop L6_1))) (sR [(0,oT 84 5 [5]),(1,oT 85 8 []),(2,oP 86 (.app 1 24 (.t 84) (.t 85)) [84,85]),(3,oT 5 86 [86])] (.reg false [(0,oT
87 8 [8]),(1,oT 6 87 [87])]))))) (.reg false [(0,oT 32 7 [7]),(1,oP 33 (.bin .add (.t 32) (.c (.int .i64 1))) [32]),(2,oT 7 33 [33])])))
abbrev B6 : CCode := (sR [(0,oP 2 (.box 2 (.t 0)) [0]),(1,oP 4 (.mv (.c (.nils))) [4])] (sR [(0,oP 13 (.bsl 1 0 [.nils] []) []),(1,oT 5 13 [13])] (.seq (sR [(0,oP 14 (.ld 2 true (.t 2)) []),(1,oP 15 (.call 18 [.t 14])
[14]),(2,oP 16 (.not (.t 15)) [15]),(3,oT 17 16 [16]),(4,⟨some 18,.mv (.t 1),some (17,false),[],[]⟩),(5,⟨some 19,.call 21 [.t 18,(.c (.int .i64 0)),(.c (.int .i64 3))],some (17,false),[],[18]⟩),(6,⟨some 20,.not (.t
19),some (17,false),[],[19]⟩),(7,oP 21 (.pick (.t 17) (.c (.bool true)) (.t 20)) [17,20])] (.cond (.t 21) (sK [1,2,21] (sR [(0,oT 22 5 [5]),(1,oT 4 22 [22])] .ret)) (sK [21] .skip))) (sR [(0,oP 23 (.bsl 1 0 [.int .i64
(0)] []) []),(1,oP 24 (.bsl 1 1 [.nils] [(0,1,(.t 23))]) [23]),(2,oT 6 24 [24])] (sR [(0,oT 25 5 [5]),(1,oP 26 (.bsl 1 0 [.int .i64 (0)] []) []),(2,oP 27 (.bsl 1 1 [.nils] [(0,1,(.t 26))]) [26]),(3,oP 28 (.app 1 24 (.t
25) (.t 27)) [25,27]),(4,oT 5 28 [28])] (.seq (sR [(0,oP 7 (.mv (.c (.int .i64 0))) [])] (.block 0 (.loop L6_0))) (sR [(0,oT 88 5 [5]),(1,oT 4 88 [88])] .ret)))))))
def C6 : CFn := ⟨89,2,[.t 4],B6⟩
abbrev B7 : CCode := (sR [(0,oP 1 (.box 2 (.t 0)) [0]),(1,oP 2 (.al [.nils,.nils]) [])] (sR [(0,oP 3 (.al [.nils,.nils]) [])] (sR [(0,oP 4 (.fa 0 (.t 1)) []),(1,oP 5 (.ld 1 false (.t 4)) [4]),(2,oP 6 (.call 23 [.t 5])
[5]),(3,oP 7 (.fa 0 (.t 3)) []),(4,⟨none,.st 1 (.t 7) (.t 6),none,[],[6,7]⟩)] (sR [(0,oP 8 (.fa 1 (.t 1)) []),(1,oP 9 (.ld 1 false (.t 8)) [8]),(2,oP 10 (.call 24 [.t 9]) [1,9]),(3,oP 11 (.fa 1 (.t 3)) []),(4,⟨none,.st
1 (.t 11) (.t 10),none,[],[10,11]⟩)] (sR [(0,oP 12 (.ld 2 true (.t 3)) []),(1,⟨none,.st 2 (.t 2) (.t 12),none,[],[3,12]⟩)] .ret)))))
def C7 : CFn := ⟨13,1,[.m 2 2 true],B7⟩
abbrev L8_0 : CCode := (sR [(0,oP 20 (.bin .lss (.t 19) (.t 18)) [])] (.seq (.cond (.t 20) (sK [20] .skip) (sK [2,18,19,20] (.exit 0))) (.seq (.block 1 (sR [(0,oT 21 19 []),(1,oT 6 21 [21])] (.reg false [(0,oT 22 5
[5]),(1,oP 23 (.ld 2 true (.t 2)) []),(2,oT 24 6 [6]),(3,oP 25 (.call 27 [.t 23,.t 24]) [23,24]),(4,oP 26 (.app 1 24 (.t 22) (.t 25)) [22,25]),(5,oT 5 26 [26])]))) (.reg false [(0,oP 27 (.bin .add (.t 19) (.c (.int .i64
1))) [19]),(1,oT 19 27 [27])]))))
abbrev B8 : CCode := (sR [(0,oP 2 (.box 2 (.t 0)) [0]),(1,oP 4 (.mv (.c (.nils))) [4])] (sR [(0,oP 7 (.bsl 1 0 [.nils] []) []),(1,oT 5 7 [7])] (.seq (sR [(0,oP 8 (.ld 2 true (.t 2)) []),(1,oP 9 (.call 25 [.t 8])
[8]),(2,oP 10 (.not (.t 9)) [9]),(3,oT 11 10 [10]),(4,⟨some 12,.mv (.t 1),some (11,false),[],[]⟩),(5,⟨some 13,.call 26 [.t 12,(.c (.int .i64 0)),(.c (.int .i64 3))],some (11,false),[],[12]⟩),(6,⟨some 14,.not (.t
13),some (11,false),[],[13]⟩),(7,oP 15 (.pick (.t 11) (.c (.bool true)) (.t 14)) [11,14])] (.cond (.t 15) (sK [1,2,15] (sR [(0,oT 16 5 [5]),(1,oT 4 16 [16])] .ret)) (sK [15] .skip))) (.seq (sR [(0,oT 17 1 [1]),(1,oP 18
(.bin .add (.t 17) (.c (.int .i64 1))) [17]),(2,oP 19 (.mv (.c (.int .i64 0))) [])] (.block 0 (.loop L8_0))) (sR [(0,oT 28 5 [5]),(1,oT 4 28 [28])] .ret)))))
def C8 : CFn := ⟨29,2,[.t 4],B8⟩
abbrev L9_0 : CCode := (.seq (sR [(0,oT 11 5 []),(1,oT 12 0 []),(2,oP 13 (.len (.t 12)) [12]),(3,oP 14 (.bin .lss (.t 11) (.t 13)) [11,13])] (.cond (.t 14) (sK [14] .skip) (sK [0,1,5,14] (.exit 0)))) (.seq (.block 1
(.seq (.reg true [(0,oT 17 0 []),(1,oT 18 5 []),(2,oP 19 (.ia 1 (.t 17) (.t 18)) []),(3,oP 20 (.ld 1 false (.t 19)) [19]),(4,oT 21 1 []),(5,oT 22 5 []),(6,oP 23 (.ia 1 (.t 21) (.t 22)) []),(7,oP 24 (.ld 1 false (.t 23))
[23]),(8,oP 25 (.call 28 [.t 20,.t 24]) [17,18,20,21,22,24]),(9,oP 26 (.not (.t 25)) [25])]) (.cond (.t 26) (sK [0,1,5,26] (sR [(0,oP 4 (.mv (.c (.bool false))) [])] .ret)) (sK [26] .skip)))) (.reg false [(0,oT 15 5
[5]),(1,oP 16 (.bin .add (.t 15) (.c (.int .i64 1))) [15]),(2,oT 5 16 [16])])))
abbrev B9 : CCode := (sR [(0,oP 4 (.mv (.c (.bool false))) [4])] (.seq (sR [(0,oT 6 0 []),(1,oP 7 (.len (.t 6)) [6]),(2,oT 8 1 []),(3,oP 9 (.len (.t 8)) [8]),(4,oP 10 (.bin .neq (.t 7) (.t 9)) [7,9])] (.cond (.t 10) (sK
[0,1,10] (sR [(0,oP 4 (.mv (.c (.bool false))) [])] .ret)) (sK [10] .skip))) (.seq (sR [(0,oP 5 (.mv (.c (.int .i64 0))) [])] (.block 0 (.loop L9_0))) (sR [(0,oP 4 (.mv (.c (.bool true))) [])] .ret))))
def C9 : CFn := ⟨27,2,[.t 4],B9⟩
abbrev B10 : CCode := (sR [(0,oP 2 (.box 2 (.t 0)) [0]),(1,oP 3 (.box 2 (.t 1)) [1]),(2,oP 4 (.mv (.c (.bool false))) [4])] (.seq (sR [(0,oP 5 (.fa 0 (.t 2)) []),(1,oP 6 (.ld 1 false (.t 5)) [5]),(2,oP 7 (.fa 0 (.t 3))
[]),(3,oP 8 (.ld 1 false (.t 7)) [7]),(4,oP 9 (.call 29 [.t 6,.t 8]) [6,8]),(5,oP 10 (.not (.t 9)) [9])] (.cond (.t 10) (sK [2,3,10] (sR [(0,oP 4 (.mv (.c (.bool false))) [])] .ret)) (sK [10] .skip))) (.seq (sR [(0,oP
11 (.fa 1 (.t 2)) []),(1,oP 12 (.ld 1 false (.t 11)) [11]),(2,oP 13 (.fa 1 (.t 3)) []),(3,oP 14 (.ld 1 false (.t 13)) [13]),(4,oP 15 (.call 30 [.t 12,.t 14]) [2,3,12,14]),(5,oP 16 (.not (.t 15)) [15])] (.cond (.t 16)
(sK [16] (sR [(0,oP 4 (.mv (.c (.bool false))) [])] .ret)) (sK [16] .skip))) (sR [(0,oP 4 (.mv (.c (.bool true))) [])] .ret))))
def C10 : CFn := ⟨17,2,[.t 4],B10⟩
abbrev B11 : CCode := (sR [(0,oP 2 (.box 2 (.t 0)) []),(1,oP 4 (.mv (.c (.int .i64 0))) [4])] (sR [(0,oP 5 (.fa 0 (.t 2)) []),(1,oP 6 (.ld 1 false (.t 5)) [5]),(2,oT 7 1 [1]),(3,oP 8 (.call 31 [.t 6,.t 7]) [6,7]),(4,oT
1 8 [8])] (sR [(0,oP 9 (.fa 1 (.t 2)) []),(1,oP 10 (.ld 1 false (.t 9)) [9]),(2,oT 11 1 [1]),(3,oP 12 (.call 32 [.t 10,.t 11]) [2,10,11]),(4,oT 1 12 [12])] (sR [(0,oT 13 1 [1]),(1,oT 4 13 [13])] .ret))))
def C11 : CFn := ⟨14,2,[.t 4],B11⟩
abbrev L12_0 : CCode := (.seq (sR [(0,oT 6 5 []),(1,oT 7 0 []),(2,oP 8 (.len (.t 7)) [7]),(3,oP 9 (.bin .lss (.t 6) (.t 8)) [6,8])] (.cond (.t 9) (sK [9] .skip) (sK [5,9] (.exit 0)))) (.seq (.block 1 (.reg false [(0,oT
12 0 []),(1,oT 13 5 []),(2,oP 14 (.ia 1 (.t 12) (.t 13)) []),(3,oP 15 (.ld 1 false (.t 14)) [14]),(4,oT 16 1 [1]),(5,oP 17 (.call 33 [.t 15,.t 16]) [12,13,15,16]),(6,oT 1 17 [17])])) (.reg false [(0,oT 10 5 [5]),(1,oP
11 (.bin .add (.t 10) (.c (.int .i64 1))) [10]),(2,oT 5 11 [11])])))
abbrev B12 : CCode := (sR [(0,oP 4 (.mv (.c (.int .i64 0))) [4])] (.seq (sR [(0,oP 5 (.mv (.c (.int .i64 0))) [])] (.block 0 (.loop L12_0))) (sR [(0,oT 18 1 [1]),(1,oT 4 18 [18])] .ret)))
def C12 : CFn := ⟨19,2,[.t 4],B12⟩
abbrev L13_0 : CCode := (.seq (sR [(0,oT 6 5 []),(1,oT 7 0 []),(2,oP 8 (.len (.t 7)) [7]),(3,oP 9 (.bin .lss (.t 6) (.t 8)) [6,8])] (.cond (.t 9) (sK [9] .skip) (sK [0,5,9] (.exit 0)))) (.seq (.block 1 (sR [(0,oT 12 0
[]),(1,oT 13 5 []),(2,oP 14 (.ia 1 (.t 12) (.t 13)) []),(3,oP 15 (.ld 1 false (.t 14)) [14]),(4,oT 16 1 [1]),(5,oP 17 (.call 34 [.t 15,.t 16]) [12,13,15,16]),(6,oT 1 17 [17])] (sR [(0,oT 18 1 []),(1,oP 19 (.bin .lss (.t
18) (.c (.int .i64 0))) [18])] (.cond (.t 19) (sK [0,1,5,19] (sR [(0,oP 4 (.mv (.c (.int .i64 (-1)))) [])] .ret)) (sK [19] .skip))))) (.reg false [(0,oT 10 5 [5]),(1,oP 11 (.bin .add (.t 10) (.c (.int .i64 1)))
[10]),(2,oT 5 11 [11])])))
abbrev B13 : CCode := (sR [(0,oP 4 (.mv (.c (.int .i64 0))) [4])] (.seq (sR [(0,oP 5 (.mv (.c (.int .i64 0))) [])] (.block 0 (.loop L13_0))) (sR [(0,oT 20 1 [1]),(1,oT 4 20 [20])] .ret)))
def C13 : CFn := ⟨21,2,[.t 4],B13⟩
abbrev L18_0 : CCode := (.seq (sR [(0,oT 4 3 []),(1,oP 5 (.fa 1 (.t 1)) []),(2,oP 6 (.ld 1 false (.t 5)) [5]),(3,oP 7 (.len (.t 6)) [6]),(4,oP 8 (.bin .lss (.t 4) (.t 7)) [4,7])] (.cond (.t 8) (sK [8] .skip) (sK [3,8]
(.exit 0)))) (.seq (.block 1 (.seq (.reg true [(0,oP 11 (.fa 0 (.t 1)) []),(1,oP 12 (.ld 1 false (.t 11)) [11]),(2,oP 13 (.fa 1 (.t 1)) []),(3,oP 14 (.ld 1 false (.t 13)) [13]),(4,oT 15 3 []),(5,oP 16 (.ia 2 (.t 14) (.t
15)) [14]),(6,oP 17 (.ld 2 true (.t 16)) [16]),(7,oP 18 (.call 41 [.t 12,.t 17]) [12,15,17]),(8,oP 19 (.not (.t 18)) [18]),(9,oT 20 19 [19]),(10,⟨some 21,.mv (.t 3),some (20,false),[],[]⟩),(11,⟨some 22,.bin .gtr (.t 21)
(.c (.int .i64 0)),some (20,false),[],[21]⟩),(12,⟨some 23,.mv (.t 22),some (20,false),[],[22]⟩),(13,⟨some 24,.fa 1 (.t 1),some (23,true),[],[]⟩),(14,⟨some 25,.ld 1 false (.t 24),some (23,true),[],[24]⟩),(15,⟨some 26,.mv
(.t 3),some (23,true),[],[]⟩),(16,⟨some 27,.bin .sub (.t 26) (.c (.int .i64 1)),some (23,true),[],[26]⟩),(17,⟨some 28,.ia 2 (.t 25) (.t 27),some (23,true),[],[25]⟩),(18,⟨some 29,.ld 2 true (.t 28),some
(23,true),[],[28]⟩),(19,⟨some 30,.fa 1 (.t 1),some (23,true),[],[]⟩),(20,⟨some 31,.ld 1 false (.t 30),some (23,true),[],[30]⟩),(21,⟨some 32,.mv (.t 3),some (23,true),[],[]⟩),(22,⟨some 33,.ia 2 (.t 31) (.t 32),some
(23,true),[],[31]⟩),(23,⟨some 34,.ld 2 true (.t 33),some (23,true),[],[33]⟩),(24,⟨some 35,.call 42 [.t 29,.t 34],some (23,true),[],[27,29,32,34]⟩),(25,⟨some 36,.bin .geq (.t 35) (.c (.int .i64 0)),some
(23,true),[],[35]⟩),(26,⟨some 37,.pick (.t 23) (.t 36) (.c (.bool false)),some (20,false),[],[23,36]⟩),(27,oP 38 (.pick (.t 20) (.c (.bool true)) (.t 37)) [20,37])]) (.cond (.t 38) (sK [1,3,38] (sR [(0,oP 2 (.mv (.c
(.bool false))) [])] .ret)) (sK [38] .skip)))) (.reg false [(0,oT 9 3 [3]),(1,oP 10 (.bin .add (.t 9) (.c (.int .i64 1))) [9]),(2,oT 3 10 [10])])))
abbrev B18 : CCode := (sR [(0,oP 1 (.box 2 (.t 0)) [0]),(1,oP 2 (.mv (.c (.bool false))) [2])] (.seq (sR [(0,oP 3 (.mv (.c (.int .i64 0))) [])] (.block 0 (.loop L18_0))) (sR [(0,oP 39 (.fa 0 (.t 1)) []),(1,oP 40 (.ld 1
false (.t 39)) [39]),(2,oP 41 (.call 43 [.t 40]) [40]),(3,oT 42 41 [41]),(4,⟨some 43,.fa 1 (.t 1),some (42,true),[],[]⟩),(5,⟨some 44,.ld 1 false (.t 43),some (42,true),[],[43]⟩),(6,⟨some 45,.len (.t 44),some
(42,true),[],[1,44]⟩),(7,⟨some 46,.bin .leq (.t 45) (.c (.int .i64 14)),some (42,true),[],[45]⟩),(8,oP 47 (.pick (.t 42) (.t 46) (.c (.bool false))) [42,46]),(9,oT 2 47 [47])] .ret)))
def C18 : CFn := ⟨48,1,[.t 2],B18⟩
abbrev L19_0 : CCode := (.seq (sR [(0,oT 12 5 []),(1,oT 13 0 []),(2,oP 14 (.len (.t 13)) [13]),(3,oP 15 (.bin .lss (.t 12) (.t 14)) [12,14])] (.cond (.t 15) (sK [15] .skip) (sK [0,5,15] (.exit 0)))) (.seq (.block 1 (sR
[(0,oT 18 0 []),(1,oT 19 5 []),(2,oP 20 (.ia 3 (.t 18) (.t 19)) []),(3,oP 21 (.ld 3 true (.t 20)) [20]),(4,oT 22 1 [1]),(5,oP 23 (.call 44 [.t 21,.t 22]) [18,19,21,22]),(6,oT 1 23 [23])] (sR [(0,oT 24 1 []),(1,oP 25
(.bin .lss (.t 24) (.c (.int .i64 0))) [24])] (.cond (.t 25) (sK [0,1,5,25] (sR [(0,oP 4 (.mv (.c (.int .i64 (-1)))) [])] .ret)) (sK [25] .skip))))) (.reg false [(0,oT 16 5 [5]),(1,oP 17 (.bin .add (.t 16) (.c (.int
.i64 1))) [16]),(2,oT 5 17 [17])])))
abbrev B19 : CCode := (sR [(0,oP 4 (.mv (.c (.int .i64 0))) [4])] (sR [(0,oT 6 1 [1]),(1,oT 7 0 []),(2,oP 8 (.len (.t 7)) [7]),(3,oP 9 (.bin .sub (.t 6) (.t 8)) [6,8]),(4,oT 1 9 [9])] (.seq (sR [(0,oT 10 1 []),(1,oP 11
(.bin .lss (.t 10) (.c (.int .i64 0))) [10])] (.cond (.t 11) (sK [0,1,11] (sR [(0,oP 4 (.mv (.c (.int .i64 (-1)))) [])] .ret)) (sK [11] .skip))) (.seq (sR [(0,oP 5 (.mv (.c (.int .i64 0))) [])] (.block 0 (.loop L19_0)))
(sR [(0,oT 26 1 [1]),(1,oT 4 26 [26])] .ret)))))
def C19 : CFn := ⟨27,2,[.t 4],B19⟩
abbrev L20_0 : CCode := (.seq (sR [(0,oT 12 5 []),(1,oT 13 0 []),(2,oP 14 (.len (.t 13)) [13]),(3,oP 15 (.bin .lss (.t 12) (.t 14)) [12,14])] (.cond (.t 15) (sK [15] .skip) (sK [0,5,15] (.exit 0)))) (.seq (.block 1 (sR
[(0,oT 18 0 []),(1,oT 19 5 []),(2,oP 20 (.ia 2 (.t 18) (.t 19)) []),(3,oP 21 (.ld 2 true (.t 20)) [20]),(4,oT 22 1 [1]),(5,oP 23 (.call 45 [.t 21,.t 22]) [18,19,21,22]),(6,oT 1 23 [23])] (sR [(0,oT 24 1 []),(1,oP 25
(.bin .lss (.t 24) (.c (.int .i64 0))) [24])] (.cond (.t 25) (sK [0,1,5,25] (sR [(0,oP 4 (.mv (.c (.int .i64 (-1)))) [])] .ret)) (sK [25] .skip))))) (.reg false [(0,oT 16 5 [5]),(1,oP 17 (.bin .add (.t 16) (.c (.int
.i64 1))) [16]),(2,oT 5 17 [17])])))
abbrev B20 : CCode := (sR [(0,oP 4 (.mv (.c (.int .i64 0))) [4])] (sR [(0,oT 6 1 [1]),(1,oT 7 0 []),(2,oP 8 (.len (.t 7)) [7]),(3,oP 9 (.bin .sub (.t 6) (.t 8)) [6,8]),(4,oT 1 9 [9])] (.seq (sR [(0,oT 10 1 []),(1,oP 11
(.bin .lss (.t 10) (.c (.int .i64 0))) [10])] (.cond (.t 11) (sK [0,1,11] (sR [(0,oP 4 (.mv (.c (.int .i64 (-1)))) [])] .ret)) (sK [11] .skip))) (.seq (sR [(0,oP 5 (.mv (.c (.int .i64 0))) [])] (.block 0 (.loop L20_0)))
(sR [(0,oT 26 1 [1]),(1,oT 4 26 [26])] .ret)))))
def C20 : CFn := ⟨27,2,[.t 4],B20⟩
abbrev B21 : CCode := (sR [(0,oP 6 (.mv (.c (.bool false))) [6])] (sR [(0,oT 7 0 []),(1,oT 8 1 [1]),(2,oP 9 (.bin .geq (.t 7) (.t 8)) [7,8]),(3,oT 10 9 [9]),(4,⟨some 11,.mv (.t 0),some (10,true),[],[0]⟩),(5,⟨some 12,.mv
(.t 2),some (10,true),[],[2]⟩),(6,⟨some 13,.bin .leq (.t 11) (.t 12),some (10,true),[],[11,12]⟩),(7,oP 14 (.pick (.t 10) (.t 13) (.c (.bool false))) [10,13]),(8,oT 6 14 [14])] .ret))
def C21 : CFn := ⟨15,3,[.t 6],B21⟩
abbrev B22 : CCode := (sR [(0,oP 2 (.box 2 (.t 0)) [0]),(1,oP 4 (.mv (.c (.bool false))) [4])] (sR [(0,oP 8 (.ld 2 true (.t 2)) []),(1,oT 9 1 [1]),(2,oP 10 (.call 46 [.t 8,.t 9]) [2,8,9]),(3,oT 7 10 [10]),(4,oP 11 (.ex
(.t 7) 0) []),(5,oP 12 (.ex (.t 7) 1) [7]),(6,oP 5 (.al [.nils,.nils]) []),(7,⟨none,.st 2 (.t 5) (.t 11),none,[],[11]⟩),(8,oT 6 12 [12])] (sR [(0,oT 13 6 [6]),(1,oT 14 13 [13]),(2,⟨some 15,.ld 2 true (.t 5),some
(14,true),[],[]⟩),(3,⟨some 16,.call 47 [.t 15],some (14,true),[],[5,15]⟩),(4,oP 17 (.pick (.t 14) (.t 16) (.c (.bool false))) [14,16]),(5,oT 4 17 [17])] .ret)))
def C22 : CFn := ⟨18,2,[.t 4],B22⟩
abbrev L23_0 : CCode := (.seq (sR [(0,oT 8 4 []),(1,oT 9 0 []),(2,oP 10 (.len (.t 9)) [9]),(3,oP 11 (.bin .lss (.t 8) (.t 10)) [8,10])] (.cond (.t 11) (sK [11] .skip) (sK [0,4,11] (.exit 0)))) (.seq (.block 1 (.reg
false [(0,oT 14 3 []),(1,oT 15 4 []),(2,oT 16 0 []),(3,oT 17 4 []),(4,oP 18 (.ia 3 (.t 16) (.t 17)) []),(5,oP 19 (.ld 3 true (.t 18)) [18]),(6,oP 20 (.call 48 [.t 19]) [16,17,19]),(7,oP 21 (.ia 3 (.t 14) (.t 15))
[]),(8,⟨none,.st 3 (.t 21) (.t 20),none,[],[14,15,20,21]⟩)])) (.reg false [(0,oT 12 4 [4]),(1,oP 13 (.bin .add (.t 12) (.c (.int .i64 1))) [12]),(2,oT 4 13 [13])])))
abbrev B23 : CCode := (sR [(0,oP 2 (.mv (.c (.nils))) [2])] (sR [(0,oT 5 0 []),(1,oP 6 (.len (.t 5)) [5]),(2,oP 7 (.mk 3 32 [.str [],.int .i64 (0),.int .i64 (0)] (.t 6) (.t 6)) [6]),(3,oT 3 7 [7])] (.seq (sR [(0,oP 4
(.mv (.c (.int .i64 0))) [])] (.block 0 (.loop L23_0))) (sR [(0,oT 22 3 [3]),(1,oT 2 22 [22])] .ret))))
def C23 : CFn := ⟨23,1,[.t 2],B23⟩
abbrev L24_0 : CCode := (.seq (sR [(0,oT 8 4 []),(1,oT 9 0 []),(2,oP 10 (.len (.t 9)) [9]),(3,oP 11 (.bin .lss (.t 8) (.t 10)) [8,10])] (.cond (.t 11) (sK [11] .skip) (sK [0,4,11] (.exit 0)))) (.seq (.block 1 (.reg
false [(0,oT 14 3 []),(1,oT 15 4 []),(2,oT 16 0 []),(3,oT 17 4 []),(4,oP 18 (.ia 2 (.t 16) (.t 17)) []),(5,oP 19 (.ld 2 true (.t 18)) [18]),(6,oP 20 (.call 49 [.t 19]) [16,17,19]),(7,oP 21 (.ia 2 (.t 14) (.t 15))
[]),(8,⟨none,.st 2 (.t 21) (.t 20),none,[],[14,15,20,21]⟩)])) (.reg false [(0,oT 12 4 [4]),(1,oP 13 (.bin .add (.t 12) (.c (.int .i64 1))) [12]),(2,oT 4 13 [13])])))
abbrev B24 : CCode := (sR [(0,oP 2 (.mv (.c (.nils))) [2])] (sR [(0,oT 5 0 []),(1,oP 6 (.len (.t 5)) [5]),(2,oP 7 (.mk 2 32 [.int .i64 (0),.nils] (.t 6) (.t 6)) [6]),(3,oT 3 7 [7])] (.seq (sR [(0,oP 4 (.mv (.c (.int
.i64 0))) [])] (.block 0 (.loop L24_0))) (sR [(0,oT 22 3 [3]),(1,oT 2 22 [22])] .ret))))
def C24 : CFn := ⟨23,1,[.t 2],B24⟩
abbrev L25_0 : CCode := (sR [(0,oP 19 (.bin .lss (.t 18) (.t 17)) [])] (.seq (.cond (.t 19) (sK [19] .skip) (sK [1,16,17,18,19] (.exit 0))) (.seq (.block 1 (sR [(0,oT 20 18 []),(1,oP 21 (.ia 2 (.t 16) (.t 18)) []),(2,oP
22 (.ld 2 true (.t 21)) [21]),(3,oP 4 (.al [.int .i64 (0),.nils]) []),(4,oT 3 20 [20]),(5,⟨none,.st 2 (.t 4) (.t 22),none,[],[22]⟩)] (.seq (.reg true [(0,oP 23 (.fa 0 (.t 1)) []),(1,oP 24 (.ld 1 false (.t 23))
[23]),(2,oP 25 (.ld 2 true (.t 4)) []),(3,oP 26 (.call 51 [.t 24,.t 25]) [24,25]),(4,oP 27 (.not (.t 26)) [26]),(5,oT 28 27 [27]),(6,⟨some 29,.mv (.t 3),some (28,false),[],[]⟩),(7,⟨some 30,.bin .gtr (.t 29) (.c (.int
.i64 0)),some (28,false),[],[29]⟩),(8,⟨some 31,.mv (.t 30),some (28,false),[],[30]⟩),(9,⟨some 32,.fa 1 (.t 1),some (31,true),[],[]⟩),(10,⟨some 33,.ld 1 false (.t 32),some (31,true),[],[32]⟩),(11,⟨some 34,.mv (.t 3),some
(31,true),[],[3]⟩),(12,⟨some 35,.bin .sub (.t 34) (.c (.int .i64 1)),some (31,true),[],[34]⟩),(13,⟨some 36,.ia 2 (.t 33) (.t 35),some (31,true),[],[33]⟩),(14,⟨some 37,.ld 2 true (.t 36),some
(31,true),[],[36]⟩),(15,⟨some 38,.ld 2 true (.t 4),some (31,true),[],[]⟩),(16,⟨some 39,.call 52 [.t 37,.t 38],some (31,true),[],[4,35,37,38]⟩),(17,⟨some 40,.bin .geq (.t 39) (.c (.int .i64 0)),some
(31,true),[],[39]⟩),(18,⟨some 41,.pick (.t 31) (.t 40) (.c (.bool false)),some (28,false),[],[31,40]⟩),(19,oP 42 (.pick (.t 28) (.c (.bool true)) (.t 41)) [28,41])]) (.cond (.t 42) (sK [1,16,17,18,42] (sR [(0,oP 2 (.mv
(.c (.bool false))) [])] .ret)) (sK [42] .skip))))) (.reg false [(0,oP 43 (.bin .add (.t 18) (.c (.int .i64 1))) [18]),(1,oT 18 43 [43])]))))
abbrev B25 : CCode := (sR [(0,oP 1 (.box 2 (.t 0)) [0]),(1,oP 2 (.mv (.c (.bool false))) [2])] (.seq (sR [(0,oP 5 (.fa 0 (.t 1)) []),(1,oP 6 (.ld 1 false (.t 5)) [5]),(2,oP 7 (.call 50 [.t 6]) [6]),(3,oP 8 (.not (.t 7))
[7]),(4,oT 9 8 [8]),(5,⟨some 10,.fa 1 (.t 1),some (9,false),[],[]⟩),(6,⟨some 11,.ld 1 false (.t 10),some (9,false),[],[10]⟩),(7,⟨some 12,.len (.t 11),some (9,false),[],[11]⟩),(8,⟨some 13,.bin .gtr (.t 12) (.c (.int .i64
14)),some (9,false),[],[12]⟩),(9,oP 14 (.pick (.t 9) (.c (.bool true)) (.t 13)) [9,13])] (.cond (.t 14) (sK [1,14] (sR [(0,oP 2 (.mv (.c (.bool false))) [])] .ret)) (sK [14] .skip))) (.seq (sR [(0,oP 15 (.fa 1 (.t 1))
[]),(1,oP 16 (.ld 1 false (.t 15)) [15]),(2,oP 17 (.len (.t 16)) []),(3,oP 18 (.mv (.c (.int .i64 0))) [])] (.block 0 (.loop L25_0))) (sR [(0,oP 2 (.mv (.c (.bool true))) [])] .ret))))
def C25 : CFn := ⟨44,1,[.t 2],B25⟩
abbrev B26 : CCode := (sR [(0,oP 6 (.mv (.c (.bool false))) [6])] (sR [(0,oT 7 1 [1]),(1,oT 8 0 []),(2,oP 9 (.bin .leq (.t 7) (.t 8)) [7,8]),(3,oT 10 9 [9]),(4,⟨some 11,.mv (.t 0),some (10,true),[],[0]⟩),(5,⟨some 12,.mv
(.t 2),some (10,true),[],[2]⟩),(6,⟨some 13,.bin .leq (.t 11) (.t 12),some (10,true),[],[11,12]⟩),(7,oP 14 (.pick (.t 10) (.t 13) (.c (.bool false))) [10,13]),(8,oT 6 14 [14])] .ret))
def C26 : CFn := ⟨15,3,[.t 6],B26⟩
abbrev B27 : CCode := (sR [(0,oP 2 (.box 2 (.t 0)) [0]),(1,oP 3 (.box 1 (.t 1)) [1]),(2,oP 4 (.mv (.c (.nils))) [4])] (sR [(0,oP 7 (.bsl 1 0 [.nils] []) []),(1,oP 5 (.al [.nils]) []),(2,⟨none,.st 1 (.t 5) (.t
7),none,[],[7]⟩)] (sR [(0,oP 6 (.al [.nilf]) [])] (sR [(0,oP 8 (.fn 53 [.t 3,.t 5,.t 2,.t 6]) []),(1,⟨none,.st 1 (.t 6) (.t 8),none,[],[8]⟩)] (sR [(0,oP 9 (.ld 1 false (.t 6)) []),(1,oP 10 (.callv (.t 9) [(.c
(.nils)),(.c (.int .i64 0))]) [2,3,6,9,10])] (sR [(0,oP 11 (.ld 1 false (.t 5)) []),(1,oT 4 11 [11])] .ret))))))
def C27 : CFn := ⟨12,2,[.t 4],B27⟩
abbrev L28_0 : CCode := (.seq (sR [(0,oT 11 5 []),(1,oT 12 0 []),(2,oP 13 (.len (.t 12)) [12]),(3,oP 14 (.bin .lss (.t 11) (.t 13)) [11,13])] (.cond (.t 14) (sK [14] .skip) (sK [0,1,5,14] (.exit 0)))) (.seq (.block 1
(.seq (.reg true [(0,oT 17 0 []),(1,oT 18 5 []),(2,oP 19 (.ia 1 (.t 17) (.t 18)) []),(3,oP 20 (.ld 1 false (.t 19)) [17,18,19]),(4,oT 21 1 []),(5,oT 22 5 []),(6,oP 23 (.ia 1 (.t 21) (.t 22)) []),(7,oP 24 (.ld 1 false
(.t 23)) [21,22,23]),(8,oP 25 (.bin .neq (.t 20) (.t 24)) [20,24])]) (.cond (.t 25) (sK [0,1,5,25] (sR [(0,oP 4 (.mv (.c (.bool false))) [])] .ret)) (sK [25] .skip)))) (.reg false [(0,oT 15 5 [5]),(1,oP 16 (.bin .add
(.t 15) (.c (.int .i64 1))) [15]),(2,oT 5 16 [16])])))
abbrev B28 : CCode := (sR [(0,oP 4 (.mv (.c (.bool false))) [4])] (.seq (sR [(0,oT 6 0 []),(1,oP 7 (.len (.t 6)) [6]),(2,oT 8 1 []),(3,oP 9 (.len (.t 8)) [8]),(4,oP 10 (.bin .neq (.t 7) (.t 9)) [7,9])] (.cond (.t 10)
(sK [0,1,10] (sR [(0,oP 4 (.mv (.c (.bool false))) [])] .ret)) (sK [10] .skip))) (.seq (sR [(0,oP 5 (.mv (.c (.int .i64 0))) [])] (.block 0 (.loop L28_0))) (sR [(0,oP 4 (.mv (.c (.bool true))) [])] .ret))))
def C28 : CFn := ⟨26,2,[.t 4],B28⟩
abbrev L29_0 : CCode := (.seq (sR [(0,oT 11 5 []),(1,oT 12 0 []),(2,oP 13 (.len (.t 12)) [12]),(3,oP 14 (.bin .lss (.t 11) (.t 13)) [11,13])] (.cond (.t 14) (sK [14] .skip) (sK [0,1,5,14] (.exit 0)))) (.seq (.block 1
(.seq (.reg true [(0,oT 17 0 []),(1,oT 18 5 []),(2,oP 19 (.ia 3 (.t 17) (.t 18)) []),(3,oP 20 (.ld 3 true (.t 19)) [19]),(4,oT 21 1 []),(5,oT 22 5 []),(6,oP 23 (.ia 3 (.t 21) (.t 22)) []),(7,oP 24 (.ld 3 true (.t 23))
[23]),(8,oP 25 (.call 58 [.t 20,.t 24]) [17,18,20,21,22,24]),(9,oP 26 (.not (.t 25)) [25])]) (.cond (.t 26) (sK [0,1,5,26] (sR [(0,oP 4 (.mv (.c (.bool false))) [])] .ret)) (sK [26] .skip)))) (.reg false [(0,oT 15 5
[5]),(1,oP 16 (.bin .add (.t 15) (.c (.int .i64 1))) [15]),(2,oT 5 16 [16])])))
abbrev B29 : CCode := (sR [(0,oP 4 (.mv (.c (.bool false))) [4])] (.seq (sR [(0,oT 6 0 []),(1,oP 7 (.len (.t 6)) [6]),(2,oT 8 1 []),(3,oP 9 (.len (.t 8)) [8]),(4,oP 10 (.bin .neq (.t 7) (.t 9)) [7,9])] (.cond (.t 10)
(sK [0,1,10] (sR [(0,oP 4 (.mv (.c (.bool false))) [])] .ret)) (sK [10] .skip))) (.seq (sR [(0,oP 5 (.mv (.c (.int .i64 0))) [])] (.block 0 (.loop L29_0))) (sR [(0,oP 4 (.mv (.c (.bool true))) [])] .ret))))
def C29 : CFn := ⟨27,2,[.t 4],B29⟩
abbrev L30_0 : CCode := (.seq (sR [(0,oT 11 5 []),(1,oT 12 0 []),(2,oP 13 (.len (.t 12)) [12]),(3,oP 14 (.bin .lss (.t 11) (.t 13)) [11,13])] (.cond (.t 14) (sK [14] .skip) (sK [0,1,5,14] (.exit 0)))) (.seq (.block 1
(.seq (.reg true [(0,oT 17 0 []),(1,oT 18 5 []),(2,oP 19 (.ia 2 (.t 17) (.t 18)) []),(3,oP 20 (.ld 2 true (.t 19)) [19]),(4,oT 21 1 []),(5,oT 22 5 []),(6,oP 23 (.ia 2 (.t 21) (.t 22)) []),(7,oP 24 (.ld 2 true (.t 23))
[23]),(8,oP 25 (.call 59 [.t 20,.t 24]) [17,18,20,21,22,24]),(9,oP 26 (.not (.t 25)) [25])]) (.cond (.t 26) (sK [0,1,5,26] (sR [(0,oP 4 (.mv (.c (.bool false))) [])] .ret)) (sK [26] .skip)))) (.reg false [(0,oT 15 5
[5]),(1,oP 16 (.bin .add (.t 15) (.c (.int .i64 1))) [15]),(2,oT 5 16 [16])])))
abbrev B30 : CCode := (sR [(0,oP 4 (.mv (.c (.bool false))) [4])] (.seq (sR [(0,oT 6 0 []),(1,oP 7 (.len (.t 6)) [6]),(2,oT 8 1 []),(3,oP 9 (.len (.t 8)) [8]),(4,oP 10 (.bin .neq (.t 7) (.t 9)) [7,9])] (.cond (.t 10)
(sK [0,1,10] (sR [(0,oP 4 (.mv (.c (.bool false))) [])] .ret)) (sK [10] .skip))) (.seq (sR [(0,oP 5 (.mv (.c (.int .i64 0))) [])] (.block 0 (.loop L30_0))) (sR [(0,oP 4 (.mv (.c (.bool true))) [])] .ret))))
def C30 : CFn := ⟨27,2,[.t 4],B30⟩
abbrev L31_0 : CCode := (.seq (sR [(0,oT 6 5 []),(1,oT 7 0 []),(2,oP 8 (.len (.t 7)) [7]),(3,oP 9 (.bin .lss (.t 6) (.t 8)) [6,8])] (.cond (.t 9) (sK [9] .skip) (sK [5,9] (.exit 0)))) (.seq (.block 1 (sR [(0,oT 12 0
[]),(1,oT 13 5 []),(2,oT 14 1 []),(3,oP 15 (.call 60 [.t 14]) [14]),(4,oP 16 (.ia 3 (.t 12) (.t 13)) []),(5,oP 17 (.fa 0 (.t 16)) [16]),(6,⟨none,.st 1 (.t 17) (.t 15),none,[],[12,13,15,17]⟩)] (sR [(0,oT 18 1 [1]),(1,oP
19 (.bin .add (.t 18) (.c (.int .i64 1))) [18]),(2,oT 1 19 [19])] (sR [(0,oT 20 0 []),(1,oT 21 5 []),(2,oT 22 1 []),(3,oP 23 (.ia 3 (.t 20) (.t 21)) []),(4,oP 24 (.fa 1 (.t 23)) [23]),(5,⟨none,.st 1 (.t 24) (.t
22),none,[],[20,21,22,24]⟩)] (sR [(0,oT 25 1 [1]),(1,oP 26 (.bin .add (.t 25) (.c (.int .i64 1))) [25]),(2,oT 1 26 [26])] (sR [(0,oT 27 0 []),(1,oT 28 5 []),(2,oT 29 1 []),(3,oP 30 (.ia 3 (.t 27) (.t 28)) []),(4,oP 31
(.fa 2 (.t 30)) [30]),(5,⟨none,.st 1 (.t 31) (.t 29),none,[],[27,28,29,31]⟩)] (.reg false [(0,oT 32 1 [1]),(1,oP 33 (.bin .add (.t 32) (.c (.int .i64 1))) [32]),(2,oT 1 33 [33])]))))))) (.reg false [(0,oT 10 5
[5]),(1,oP 11 (.bin .add (.t 10) (.c (.int .i64 1))) [10]),(2,oT 5 11 [11])])))
abbrev B31 : CCode := (sR [(0,oP 4 (.mv (.c (.int .i64 0))) [4])] (.seq (sR [(0,oP 5 (.mv (.c (.int .i64 0))) [])] (.block 0 (.loop L31_0))) (sR [(0,oT 34 1 [1]),(1,oT 4 34 [34])] .ret)))
def C31 : CFn := ⟨35,2,[.t 4],B31⟩
abbrev L32_0 : CCode := (.seq (sR [(0,oT 6 5 []),(1,oT 7 0 []),(2,oP 8 (.len (.t 7)) [7]),(3,oP 9 (.bin .lss (.t 6) (.t 8)) [6,8])] (.cond (.t 9) (sK [9] .skip) (sK [5,9] (.exit 0)))) (.seq (.block 1 (sR [(0,oT 12 0
[]),(1,oT 13 5 []),(2,oT 14 1 []),(3,oP 15 (.ia 2 (.t 12) (.t 13)) []),(4,oP 16 (.fa 0 (.t 15)) [15]),(5,⟨none,.st 1 (.t 16) (.t 14),none,[],[12,13,14,16]⟩)] (sR [(0,oT 17 1 [1]),(1,oP 18 (.bin .add (.t 17) (.c (.int
.i64 1))) [17]),(2,oT 1 18 [18])] (.reg false [(0,oT 19 0 []),(1,oT 20 5 []),(2,oP 21 (.ia 2 (.t 19) (.t 20)) []),(3,oP 22 (.fa 1 (.t 21)) [21]),(4,oP 23 (.ld 1 false (.t 22)) [22]),(5,oT 24 1 [1]),(6,oP 25 (.call 33
[.t 23,.t 24]) [19,20,23,24]),(7,oT 1 25 [25])])))) (.reg false [(0,oT 10 5 [5]),(1,oP 11 (.bin .add (.t 10) (.c (.int .i64 1))) [10]),(2,oT 5 11 [11])])))
abbrev B32 : CCode := (sR [(0,oP 4 (.mv (.c (.int .i64 0))) [4])] (.seq (sR [(0,oP 5 (.mv (.c (.int .i64 0))) [])] (.block 0 (.loop L32_0))) (sR [(0,oT 26 1 [1]),(1,oT 4 26 [26])] .ret)))
def C32 : CFn := ⟨27,2,[.t 4],B32⟩
abbrev L33_0 : CCode := (.seq (sR [(0,oT 6 5 []),(1,oT 7 0 []),(2,oP 8 (.len (.t 7)) [7]),(3,oP 9 (.bin .lss (.t 6) (.t 8)) [6,8])] (.cond (.t 9) (sK [9] .skip) (sK [5,9] (.exit 0)))) (.seq (.block 1 (sR [(0,oT 12 0
[]),(1,oT 13 5 []),(2,oT 14 1 []),(3,oP 15 (.ia 1 (.t 12) (.t 13)) []),(4,⟨none,.st 1 (.t 15) (.t 14),none,[],[12,13,14,15]⟩)] (.reg false [(0,oT 16 1 [1]),(1,oP 17 (.bin .add (.t 16) (.c (.int .i64 1))) [16]),(2,oT 1
17 [17])]))) (.reg false [(0,oT 10 5 [5]),(1,oP 11 (.bin .add (.t 10) (.c (.int .i64 1))) [10]),(2,oT 5 11 [11])])))
abbrev B33 : CCode := (sR [(0,oP 4 (.mv (.c (.int .i64 0))) [4])] (.seq (sR [(0,oP 5 (.mv (.c (.int .i64 0))) [])] (.block 0 (.loop L33_0))) (sR [(0,oT 18 1 [1]),(1,oT 4 18 [18])] .ret)))
def C33 : CFn := ⟨19,2,[.t 4],B33⟩
abbrev L34_0 : CCode := (.seq (sR [(0,oT 6 5 []),(1,oT 7 0 []),(2,oP 8 (.len (.t 7)) [7]),(3,oP 9 (.bin .lss (.t 6) (.t 8)) [6,8])] (.cond (.t 9) (sK [9] .skip) (sK [0,5,9] (.exit 0)))) (.seq (.block 1 (.seq (sR [(0,oT
12 0 []),(1,oT 13 5 []),(2,oP 14 (.ia 1 (.t 12) (.t 13)) []),(3,oP 15 (.ld 1 false (.t 14)) [12,13,14]),(4,oT 16 1 []),(5,oP 17 (.bin .neq (.t 15) (.t 16)) [15,16])] (.cond (.t 17) (sK [0,1,5,17] (sR [(0,oP 4 (.mv (.c
(.int .i64 (-1)))) [])] .ret)) (sK [17] .skip))) (.reg false [(0,oT 18 1 [1]),(1,oP 19 (.bin .add (.t 18) (.c (.int .i64 1))) [18]),(2,oT 1 19 [19])]))) (.reg false [(0,oT 10 5 [5]),(1,oP 11 (.bin .add (.t 10) (.c (.int
.i64 1))) [10]),(2,oT 5 11 [11])])))
abbrev B34 : CCode := (sR [(0,oP 4 (.mv (.c (.int .i64 0))) [4])] (.seq (sR [(0,oP 5 (.mv (.c (.int .i64 0))) [])] (.block 0 (.loop L34_0))) (sR [(0,oT 20 1 [1]),(1,oT 4 20 [20])] .ret)))
def C34 : CFn := ⟨21,2,[.t 4],B34⟩
abbrev L41_0 : CCode := (.seq (sR [(0,oT 30 5 []),(1,oP 31 (.fa 1 (.t 3)) []),(2,oP 32 (.ld 1 false (.t 31)) [31]),(3,oP 33 (.len (.t 32)) [32]),(4,oP 34 (.bin .lss (.t 30) (.t 33)) [30,33])] (.cond (.t 34) (sK [34]
.skip) (sK [3,5,34] (.exit 0)))) (.seq (.block 1 (sR [(0,oP 37 (.fa 1 (.t 3)) []),(1,oP 38 (.ld 1 false (.t 37)) [37]),(2,oT 39 5 []),(3,oP 40 (.ia 1 (.t 38) (.t 39)) [38]),(4,oP 41 (.ld 1 false (.t 40)) [39,40]),(5,oP
42 (.call 21 [.t 41,(.c (.int .i64 0)),(.c (.int .i64 9))]) [41]),(6,oP 43 (.not (.t 42)) [42])] (.cond (.t 43) (sK [3,5,43] (sR [(0,oP 4 (.mv (.c (.bool false))) [])] .ret)) (sK [43] .skip)))) (.reg false [(0,oT 35 5
[5]),(1,oP 36 (.bin .add (.t 35) (.c (.int .i64 1))) [35]),(2,oT 5 36 [36])])))
abbrev B41 : CCode := (sR [(0,oP 3 (.box 2 (.t 1)) [1]),(1,oP 4 (.mv (.c (.bool false))) [4])] (.seq (.seq (.reg true [(0,oT 6 0 []),(1,oP 7 (.call 43 [.t 6]) [6]),(2,oP 8 (.not (.t 7)) [7]),(3,oT 9 8 [8]),(4,⟨some
10,.fa 0 (.t 3),some (9,false),[],[]⟩),(5,⟨some 11,.ld 1 false (.t 10),some (9,false),[],[10]⟩),(6,⟨some 12,.mv (.t 0),some (9,false),[],[]⟩),(7,⟨some 13,.len (.t 12),some (9,false),[],[12]⟩),(8,⟨some 14,.bin .sub (.t
13) (.c (.int .i64 1)),some (9,false),[],[13]⟩),(9,⟨some 15,.call 21 [.t 11,(.c (.int .i64 0)),.t 14],some (9,false),[],[11,14]⟩),(10,⟨some 16,.not (.t 15),some (9,false),[],[15]⟩),(11,oP 17 (.pick (.t 9) (.c (.bool
true)) (.t 16)) [9,16]),(12,oT 18 17 [17]),(13,⟨some 19,.fa 1 (.t 3),some (18,false),[],[]⟩),(14,⟨some 20,.ld 1 false (.t 19),some (18,false),[],[19]⟩),(15,⟨some 21,.len (.t 20),some (18,false),[],[20]⟩),(16,⟨some
22,.mv (.t 0),some (18,false),[],[0]⟩),(17,⟨some 23,.fa 0 (.t 3),some (18,false),[],[]⟩),(18,⟨some 24,.ld 1 false (.t 23),some (18,false),[],[23]⟩),(19,⟨some 25,.ia 3 (.t 22) (.t 24),some (18,false),[],[]⟩),(20,⟨some
26,.fa 1 (.t 25),some (18,false),[],[25]⟩),(21,⟨some 27,.ld 1 false (.t 26),some (18,false),[],[22,24,26]⟩),(22,⟨some 28,.bin .neq (.t 21) (.t 27),some (18,false),[],[21,27]⟩),(23,oP 29 (.pick (.t 18) (.c (.bool true))
(.t 28)) [18,28])]) (.cond (.t 29) (sK [3,29] (sR [(0,oP 4 (.mv (.c (.bool false))) [])] .ret)) (sK [29] .skip))) (.seq (sR [(0,oP 5 (.mv (.c (.int .i64 0))) [])] (.block 0 (.loop L41_0))) (sR [(0,oP 4 (.mv (.c (.bool
true))) [])] .ret))))
def C41 : CFn := ⟨44,2,[.t 4],B41⟩
abbrev B42 : CCode := (sR [(0,oP 2 (.box 2 (.t 0)) [0]),(1,oP 3 (.box 2 (.t 1)) [1]),(2,oP 4 (.mv (.c (.int .i64 0))) [4])] (.seq (sR [(0,oP 5 (.fa 0 (.t 2)) []),(1,oP 6 (.ld 1 false (.t 5)) [5]),(2,oP 7 (.fa 0 (.t 3))
[]),(3,oP 8 (.ld 1 false (.t 7)) [7]),(4,oP 9 (.bin .lss (.t 6) (.t 8)) [6,8])] (.cond (.t 9) (sK [2,3,9] (sR [(0,oP 4 (.mv (.c (.int .i64 (-1)))) [])] .ret)) (sK [9] .skip))) (.seq (sR [(0,oP 10 (.fa 0 (.t 2))
[]),(1,oP 11 (.ld 1 false (.t 10)) [10]),(2,oP 12 (.fa 0 (.t 3)) []),(3,oP 13 (.ld 1 false (.t 12)) [12]),(4,oP 14 (.bin .gtr (.t 11) (.t 13)) [11,13])] (.cond (.t 14) (sK [2,3,14] (sR [(0,oP 4 (.mv (.c (.int .i64 1)))
[])] .ret)) (sK [14] .skip))) (sR [(0,oP 15 (.fa 1 (.t 2)) []),(1,oP 16 (.ld 1 false (.t 15)) [15]),(2,oP 17 (.fa 1 (.t 3)) []),(3,oP 18 (.ld 1 false (.t 17)) [17]),(4,oP 19 (.call 66 [.t 16,.t 18]) [2,3,16,18]),(5,oT 4
19 [19])] .ret))))
def C42 : CFn := ⟨20,2,[.t 4],B42⟩
abbrev L43_0 : CCode := (.seq (sR [(0,oT 4 3 []),(1,oT 5 0 []),(2,oP 6 (.len (.t 5)) [5]),(3,oP 7 (.bin .lss (.t 4) (.t 6)) [4,6])] (.cond (.t 7) (sK [7] .skip) (sK [3,7] (.exit 0)))) (.seq (.block 1 (.seq (.reg true
[(0,oT 10 0 []),(1,oT 11 3 []),(2,oP 12 (.ia 3 (.t 10) (.t 11)) []),(3,oP 13 (.ld 3 true (.t 12)) [12]),(4,oP 14 (.call 67 [.t 13]) [10,11,13]),(5,oP 15 (.not (.t 14)) [14]),(6,oT 16 15 [15]),(7,⟨some 17,.mv (.t 3),some
(16,false),[],[]⟩),(8,⟨some 18,.bin .gtr (.t 17) (.c (.int .i64 0)),some (16,false),[],[17]⟩),(9,⟨some 19,.mv (.t 18),some (16,false),[],[18]⟩),(10,⟨some 20,.mv (.t 0),some (19,true),[],[]⟩),(11,⟨some 21,.mv (.t 3),some
(19,true),[],[]⟩),(12,⟨some 22,.bin .sub (.t 21) (.c (.int .i64 1)),some (19,true),[],[21]⟩),(13,⟨some 23,.ia 3 (.t 20) (.t 22),some (19,true),[],[]⟩),(14,⟨some 24,.fa 0 (.t 23),some (19,true),[],[23]⟩),(15,⟨some 25,.ld
1 false (.t 24),some (19,true),[],[20,22,24]⟩),(16,⟨some 26,.mv (.t 0),some (19,true),[],[]⟩),(17,⟨some 27,.mv (.t 3),some (19,true),[],[]⟩),(18,⟨some 28,.ia 3 (.t 26) (.t 27),some (19,true),[],[]⟩),(19,⟨some 29,.fa 0
(.t 28),some (19,true),[],[28]⟩),(20,⟨some 30,.ld 1 false (.t 29),some (19,true),[],[26,27,29]⟩),(21,⟨some 31,.bin .geq (.t 25) (.t 30),some (19,true),[],[25,30]⟩),(22,⟨some 32,.pick (.t 19) (.t 31) (.c (.bool
false)),some (16,false),[],[19,31]⟩),(23,oP 33 (.pick (.t 16) (.c (.bool true)) (.t 32)) [16,32])]) (.cond (.t 33) (sK [0,3,33] (sR [(0,oP 2 (.mv (.c (.bool false))) [])] .ret)) (sK [33] .skip)))) (.reg false [(0,oT 8 3
[3]),(1,oP 9 (.bin .add (.t 8) (.c (.int .i64 1))) [8]),(2,oT 3 9 [9])])))
abbrev B43 : CCode := (sR [(0,oP 2 (.mv (.c (.bool false))) [2])] (.seq (sR [(0,oP 3 (.mv (.c (.int .i64 0))) [])] (.block 0 (.loop L43_0))) (sR [(0,oT 34 0 [0]),(1,oP 35 (.len (.t 34)) [34]),(2,oP 36 (.bin .leq (.t 35)
(.c (.int .i64 4))) [35]),(3,oT 2 36 [36])] .ret)))
def C43 : CFn := ⟨37,1,[.t 2],B43⟩
abbrev B44 : CCode := (sR [(0,oP 2 (.box 3 (.t 0)) [0]),(1,oP 4 (.mv (.c (.int .i64 0))) [4])] (sR [(0,oT 5 1 [1]),(1,oP 6 (.fa 0 (.t 2)) []),(2,oP 7 (.ld 1 false (.t 6)) [2,6]),(3,oP 8 (.lens (.t 7)) [7]),(4,oP 9 (.bin
.sub (.t 5) (.t 8)) [5,8]),(5,oT 1 9 [9])] (.seq (sR [(0,oT 10 1 []),(1,oP 11 (.bin .lss (.t 10) (.c (.int .i64 0))) [10])] (.cond (.t 11) (sK [1,11] (sR [(0,oP 4 (.mv (.c (.int .i64 (-1)))) [])] .ret)) (sK [11]
.skip))) (sR [(0,oT 12 1 [1]),(1,oT 4 12 [12])] .ret))))
def C44 : CFn := ⟨13,2,[.t 4],B44⟩
abbrev B45 : CCode := (sR [(0,oP 2 (.box 2 (.t 0)) [0]),(1,oP 4 (.mv (.c (.int .i64 0))) [4])] (sR [(0,oP 5 (.fa 1 (.t 2)) []),(1,oP 6 (.ld 1 false (.t 5)) [5]),(2,oT 7 1 [1]),(3,oP 8 (.call 68 [.t 6,.t 7])
[2,6,7]),(4,oT 1 8 [8])] (.seq (sR [(0,oT 9 1 []),(1,oP 10 (.bin .lss (.t 9) (.c (.int .i64 0))) [9])] (.cond (.t 10) (sK [1,10] (sR [(0,oP 4 (.mv (.c (.int .i64 (-1)))) [])] .ret)) (sK [10] .skip))) (sR [(0,oT 11 1
[1]),(1,oT 4 11 [11])] .ret))))
def C45 : CFn := ⟨12,2,[.t 4],B45⟩
abbrev L46_0 : CCode := (.seq (sR [(0,oT 24 7 []),(1,oT 25 1 []),(2,oP 26 (.len (.t 25)) [25]),(3,oP 27 (.bin .lss (.t 24) (.t 26)) [24,26])] (.cond (.t 27) (sK [27] .skip) (sK [1,2,7,27] (.exit 0)))) (.seq (.block 1
(.seq (.reg true [(0,oP 30 (.fa 1 (.t 2)) []),(1,oP 31 (.ld 1 false (.t 30)) [30]),(2,oT 32 1 []),(3,oT 33 7 []),(4,oP 34 (.ia 1 (.t 32) (.t 33)) []),(5,oP 35 (.ld 1 false (.t 34)) [32,33,34]),(6,oP 36 (.ia 2 (.t 31)
(.t 35)) [31]),(7,oP 37 (.ld 2 true (.t 36)) [36]),(8,oP 8 (.al [.int .i64 (0),.nils]) []),(9,⟨none,.st 2 (.t 8) (.t 37),none,[],[35,37]⟩)]) (.reg true [(0,oP 38 (.fa 1 (.t 6)) []),(1,oP 39 (.ld 1 false (.t 38))
[]),(2,oP 40 (.fa 0 (.t 8)) []),(3,oP 41 (.ld 1 false (.t 40)) []),(4,oP 42 (.bsl 1 0 [.int .i64 (0)] []) []),(5,oP 43 (.fa 1 (.t 8)) []),(6,oP 44 (.ld 1 false (.t 43)) [43]),(7,⟨some 45,.app 1 8 (.t 42) (.t
44),none,[(38,1),(40,1)],[8,38,40,42,44]⟩),(8,oP 46 (.bld [.int .i64 (0),.nils] [(0,1,(.t 41)),(1,1,(.t 45))]) [41,45]),(9,oP 47 (.bsl 2 1 [.int .i64 (0),.nils] [(0,2,(.t 46))]) [46]),(10,oP 48 (.app 2 32 (.t 39) (.t
47)) [39,47]),(11,oP 49 (.fa 1 (.t 6)) []),(12,⟨none,.st 1 (.t 49) (.t 48),none,[],[48,49]⟩)]))) (.reg false [(0,oT 28 7 [7]),(1,oP 29 (.bin .add (.t 28) (.c (.int .i64 1))) [28]),(2,oT 7 29 [29])])))
abbrev B46 : CCode := (sR [(0,oP 2 (.box 2 (.t 0)) [0]),(1,oP 4 (.al [.nils,.nils]) []),(2,oP 5 (.mv (.c (.bool false))) [5])] (.seq (sR [(0,oP 9 (.ld 2 true (.t 2)) []),(1,oP 10 (.call 18 [.t 9]) [9]),(2,oP 11 (.not
(.t 10)) [10]),(3,oT 12 11 [11]),(4,⟨some 13,.ld 2 true (.t 2),some (12,false),[],[]⟩),(5,⟨some 14,.mv (.t 1),some (12,false),[],[]⟩),(6,⟨some 15,.call 69 [.t 13,.t 14],some (12,false),[],[13,14]⟩),(7,⟨some 16,.not (.t
15),some (12,false),[],[15]⟩),(8,oP 17 (.pick (.t 12) (.c (.bool true)) (.t 16)) [12,16])] (.cond (.t 17) (sK [1,2,17] (sR [(0,oP 18 (.bld [.nils,.nils] []) []),(1,⟨none,.st 2 (.t 4) (.t 18),none,[],[18]⟩),(2,oP 5 (.mv
(.c (.bool false))) [])] .ret)) (sK [17] .skip))) (sR [(0,oP 19 (.bsl 3 0 [.str [],.int .i64 (0),.int .i64 (0)] []) []),(1,oP 20 (.fa 0 (.t 2)) []),(2,oP 21 (.ld 1 false (.t 20)) [20]),(3,oP 22 (.app 3 32 (.t 19) (.t
21)) [19,21]),(4,oP 23 (.bld [.nils,.nils] [(0,1,(.t 22))]) [22]),(5,oP 6 (.al [.nils,.nils]) []),(6,⟨none,.st 2 (.t 6) (.t 23),none,[],[23]⟩)] (.seq (sR [(0,oP 7 (.mv (.c (.int .i64 0))) [])] (.block 0 (.loop L46_0)))
(sR [(0,oP 50 (.ld 2 true (.t 6)) []),(1,⟨none,.st 2 (.t 4) (.t 50),none,[],[6,50]⟩),(2,oP 5 (.mv (.c (.bool true))) [])] .ret)))))
def C46 : CFn := ⟨51,2,[.m 4 2 true,.t 5],B46⟩
abbrev B47 : CCode := (sR [(0,oP 1 (.box 2 (.t 0)) [0]),(1,oP 2 (.mv (.c (.bool false))) [2])] (.seq (.reg true [(0,oP 3 (.ld 2 true (.t 1)) []),(1,oP 4 (.call 18 [.t 3]) [3]),(2,oT 5 4 [4]),(3,⟨some 6,.ld 2 true (.t
1),some (5,true),[],[]⟩),(6,⟨some 9,.fa 1 (.t 1),some (5,true),[],[]⟩),(7,⟨some 10,.ld 1 false (.t 9),some (5,true),[],[]⟩),(8,⟨some 11,.len (.t 10),some (5,true),[],[10]⟩),(4,⟨some 7,.call 70 [.t 6],some
(5,true),[(9,1)],[1,6,9]⟩),(5,⟨some 8,.len (.t 7),some (5,true),[],[7]⟩),(9,⟨some 12,.bin .eql (.t 8) (.t 11),some (5,true),[],[8,11]⟩),(10,oP 13 (.pick (.t 5) (.t 12) (.c (.bool false))) [5,12]),(11,oT 2 13 [13])])
.ret))
def C47 : CFn := ⟨14,1,[.t 2],B47⟩
abbrev B48 : CCode := (sR [(0,oP 1 (.box 3 (.t 0)) [0]),(1,oP 2 (.al [.str [],.int .i64 (0),.int .i64 (0)]) [])] (sR [(0,oP 3 (.al [.str [],.int .i64 (0),.int .i64 (0)]) [])] (sR [(0,oP 4 (.fa 0 (.t 1)) []),(1,oP 5 (.ld
1 false (.t 4)) [4]),(2,oP 6 (.fa 0 (.t 3)) []),(3,⟨none,.st 1 (.t 6) (.t 5),none,[],[5,6]⟩)] (sR [(0,oP 7 (.fa 1 (.t 1)) []),(1,oP 8 (.ld 1 false (.t 7)) [7]),(2,oP 9 (.fa 1 (.t 3)) []),(3,⟨none,.st 1 (.t 9) (.t
8),none,[],[8,9]⟩)] (sR [(0,oP 10 (.fa 2 (.t 1)) []),(1,oP 11 (.ld 1 false (.t 10)) [1,10]),(2,oP 12 (.fa 2 (.t 3)) []),(3,⟨none,.st 1 (.t 12) (.t 11),none,[],[11,12]⟩)] (sR [(0,oP 13 (.ld 3 true (.t 3))
[]),(1,⟨none,.st 3 (.t 2) (.t 13),none,[],[3,13]⟩)] .ret))))))
def C48 : CFn := ⟨14,1,[.m 2 3 true],B48⟩
abbrev B49 : CCode := (sR [(0,oP 1 (.box 2 (.t 0)) [0]),(1,oP 2 (.al [.int .i64 (0),.nils]) [])] (sR [(0,oP 3 (.al [.int .i64 (0),.nils]) [])] (sR [(0,oP 4 (.fa 0 (.t 1)) []),(1,oP 5 (.ld 1 false (.t 4)) [4]),(2,oP 6
(.fa 0 (.t 3)) []),(3,⟨none,.st 1 (.t 6) (.t 5),none,[],[5,6]⟩)] (sR [(0,oP 7 (.fa 1 (.t 1)) []),(1,oP 8 (.ld 1 false (.t 7)) [7]),(2,oP 9 (.call 71 [.t 8]) [1,8]),(3,oP 10 (.fa 1 (.t 3)) []),(4,⟨none,.st 1 (.t 10) (.t
9),none,[],[9,10]⟩)] (sR [(0,oP 11 (.ld 2 true (.t 3)) []),(1,⟨none,.st 2 (.t 2) (.t 11),none,[],[3,11]⟩)] .ret)))))
def C49 : CFn := ⟨12,1,[.m 2 2 true],B49⟩
abbrev L50_0 : CCode := (sR [(0,oP 8 (.bin .lss (.t 7) (.t 6)) [])] (.seq (.cond (.t 8) (sK [8] .skip) (sK [5,6,7,8] (.exit 0))) (.seq (.block 1 (sR [(0,oT 9 7 []),(1,oP 10 (.ia 3 (.t 5) (.t 7)) []),(2,oP 11 (.ld 3 true
(.t 10)) [10]),(3,oP 4 (.al [.str [],.int .i64 (0),.int .i64 (0)]) []),(4,oT 3 9 [9]),(5,⟨none,.st 3 (.t 4) (.t 11),none,[],[11]⟩)] (.seq (.reg true [(0,oP 12 (.ld 3 true (.t 4)) []),(1,oP 13 (.call 72 [.t 12])
[12]),(2,oP 14 (.not (.t 13)) [13]),(3,oT 15 14 [14]),(4,⟨some 16,.mv (.t 3),some (15,false),[],[]⟩),(5,⟨some 17,.bin .gtr (.t 16) (.c (.int .i64 0)),some (15,false),[],[16]⟩),(6,⟨some 18,.mv (.t 17),some
(15,false),[],[17]⟩),(7,⟨some 19,.mv (.t 0),some (18,true),[],[]⟩),(8,⟨some 20,.mv (.t 3),some (18,true),[],[3]⟩),(9,⟨some 21,.bin .sub (.t 20) (.c (.int .i64 1)),some (18,true),[],[20]⟩),(10,⟨some 22,.ia 3 (.t 19) (.t
21),some (18,true),[],[]⟩),(11,⟨some 23,.fa 0 (.t 22),some (18,true),[],[22]⟩),(12,⟨some 24,.ld 1 false (.t 23),some (18,true),[],[19,21,23]⟩),(13,⟨some 25,.fa 0 (.t 4),some (18,true),[],[]⟩),(14,⟨some 26,.ld 1 false
(.t 25),some (18,true),[],[4,25]⟩),(15,⟨some 27,.bin .geq (.t 24) (.t 26),some (18,true),[],[24,26]⟩),(16,⟨some 28,.pick (.t 18) (.t 27) (.c (.bool false)),some (15,false),[],[18,27]⟩),(17,oP 29 (.pick (.t 15) (.c
(.bool true)) (.t 28)) [15,28])]) (.cond (.t 29) (sK [0,5,6,7,29] (sR [(0,oP 2 (.mv (.c (.bool false))) [])] .ret)) (sK [29] .skip))))) (.reg false [(0,oP 30 (.bin .add (.t 7) (.c (.int .i64 1))) [7]),(1,oT 7 30
[30])]))))
abbrev B50 : CCode := (sR [(0,oP 2 (.mv (.c (.bool false))) [2])] (.seq (sR [(0,oT 5 0 []),(1,oP 6 (.len (.t 5)) []),(2,oP 7 (.mv (.c (.int .i64 0))) [])] (.block 0 (.loop L50_0))) (sR [(0,oT 31 0 [0]),(1,oP 32 (.len
(.t 31)) [31]),(2,oP 33 (.bin .leq (.t 32) (.c (.int .i64 4))) [32]),(3,oT 2 33 [33])] .ret)))
def C50 : CFn := ⟨34,1,[.t 2],B50⟩
abbrev B51 : CCode := (sR [(0,oP 3 (.box 2 (.t 1)) [1]),(1,oP 4 (.mv (.c (.bool false))) [4])] (.seq (.reg true [(0,oP 5 (.fa 0 (.t 3)) []),(1,oP 6 (.ld 1 false (.t 5)) [5]),(2,oT 7 0 []),(3,oP 8 (.len (.t 7))
[7]),(4,oP 9 (.bin .sub (.t 8) (.c (.int .i64 1))) [8]),(5,oP 10 (.call 26 [.t 6,(.c (.int .i64 0)),.t 9]) [6,9]),(6,oT 11 10 [10]),(7,⟨some 12,.fa 1 (.t 3),some (11,true),[],[]⟩),(8,⟨some 13,.ld 1 false (.t 12),some
(11,true),[],[12]⟩),(9,⟨some 14,.len (.t 13),some (11,true),[],[13]⟩),(10,⟨some 15,.mv (.t 0),some (11,true),[],[0]⟩),(11,⟨some 16,.fa 0 (.t 3),some (11,true),[],[]⟩),(12,⟨some 17,.ld 1 false (.t 16),some
(11,true),[],[16]⟩),(13,⟨some 18,.ia 3 (.t 15) (.t 17),some (11,true),[],[]⟩),(14,⟨some 19,.fa 1 (.t 18),some (11,true),[],[18]⟩),(15,⟨some 20,.ld 1 false (.t 19),some (11,true),[],[15,17,19]⟩),(16,⟨some 21,.bin .eql
(.t 14) (.t 20),some (11,true),[],[14,20]⟩),(17,oP 22 (.pick (.t 11) (.t 21) (.c (.bool false))) [11,21]),(18,oT 23 22 [22]),(19,⟨some 24,.fa 1 (.t 3),some (23,true),[],[]⟩),(20,⟨some 25,.ld 1 false (.t 24),some
(23,true),[],[24]⟩),(21,⟨some 26,.call 73 [.t 25],some (23,true),[],[3,25]⟩),(22,oP 27 (.pick (.t 23) (.t 26) (.c (.bool false))) [23,26]),(23,oT 4 27 [27])]) .ret))
def C51 : CFn := ⟨28,2,[.t 4],B51⟩
abbrev B52 : CCode := (sR [(0,oP 2 (.box 2 (.t 0)) [0]),(1,oP 3 (.box 2 (.t 1)) [1]),(2,oP 4 (.mv (.c (.int .i64 0))) [4])] (.seq (sR [(0,oP 5 (.fa 0 (.t 2)) []),(1,oP 6 (.ld 1 false (.t 5)) [5]),(2,oP 7 (.fa 0 (.t 3))
[]),(3,oP 8 (.ld 1 false (.t 7)) [7]),(4,oP 9 (.bin .neq (.t 6) (.t 8)) [6,8])] (.cond (.t 9) (sK [9] (sR [(0,oP 10 (.fa 0 (.t 2)) []),(1,oP 11 (.ld 1 false (.t 10)) [2,10]),(2,oP 12 (.fa 0 (.t 3)) []),(3,oP 13 (.ld 1
false (.t 12)) [3,12]),(4,oP 14 (.call 74 [.t 11,.t 13]) [11,13]),(5,oT 4 14 [14])] .ret)) (sK [9] .skip))) (sR [(0,oP 15 (.fa 1 (.t 2)) []),(1,oP 16 (.ld 1 false (.t 15)) [15]),(2,oP 17 (.fa 1 (.t 3)) []),(3,oP 18 (.ld
1 false (.t 17)) [17]),(4,oP 19 (.call 75 [.t 16,.t 18]) [2,3,16,18]),(5,oT 4 19 [19])] .ret)))
def C52 : CFn := ⟨20,2,[.t 4],B52⟩
abbrev L53_0 : CCode := (.seq (sR [(0,oP 20 (.ld 1 false (.t 8)) []),(1,oP 21 (.fa 1 (.t 4)) []),(2,oP 22 (.ld 1 false (.t 21)) [21]),(3,oP 23 (.len (.t 22)) [22]),(4,oP 24 (.bin .lss (.t 20) (.t 23)) [20,23])] (.cond
(.t 24) (sK [24] .skip) (sK [0,2,4,5,8,24] (.exit 0)))) (.seq (.block 1 (sR [(0,oT 27 0 []),(1,oP 28 (.fn 55 [.t 4,.t 8]) []),(2,oP 29 (.call 54 [.t 27,.t 28]) [27,28]),(3,oP 30 (.not (.t 29)) [29])] (.cond (.t 30) (sK
[30] (.reg true [(0,oP 31 (.ld 1 false (.t 5)) []),(1,oT 32 0 []),(3,oP 34 (.ld 1 false (.t 8)) []),(4,oP 35 (.bsl 1 1 [.int .i64 (0)] [(0,1,(.t 34))]) [34]),(6,oP 37 (.ld 1 false (.t 8)) []),(7,oP 38 (.bin .add (.t 37)
(.c (.int .i64 1))) [37]),(2,⟨some 33,.call 57 [.t 32],none,[(5,1),(8,1),(8,1)],[32]⟩),(5,⟨some 36,.app 1 8 (.t 33) (.t 35),none,[(5,1),(8,1)],[33,35]⟩),(8,oP 39 (.callv (.t 31) [.t 36,.t 38]) [31,36,38,39])])) (sK [30]
.skip)))) (.seq (sR [(0,oP 40 (.ld 1 false (.t 8)) [8])] (.reg false [(0,oP 8 (.al [.int .i64 (0)]) []),(1,⟨none,.st 1 (.t 8) (.t 40),none,[],[40]⟩)])) (.reg false [(0,oP 25 (.ld 1 false (.t 8)) []),(1,oP 26 (.bin .add
(.t 25) (.c (.int .i64 1))) [25]),(2,⟨none,.st 1 (.t 8) (.t 26),none,[],[26]⟩)]))))
abbrev B53 : CCode := (.seq (sR [(0,oT 9 0 []),(1,oP 10 (.len (.t 9)) [9]),(2,oP 11 (.ld 1 false (.t 2)) []),(3,oP 12 (.bin .eql (.t 10) (.t 11)) [10,11])] (.cond (.t 12) (sK [1,2,4,5,12] (.seq (.reg true [(0,oP 13 (.ld
1 false (.t 3)) []),(1,oP 14 (.bsl 1 0 [.int .i64 (0)] []) []),(2,oT 15 0 [0]),(3,⟨some 16,.app 1 8 (.t 14) (.t 15),none,[(3,1)],[14,15]⟩),(4,oP 17 (.bsl 1 1 [.nils] [(0,1,(.t 16))]) [16]),(5,oP 18 (.app 1 24 (.t 13)
(.t 17)) [13,17]),(6,⟨none,.st 1 (.t 3) (.t 18),none,[],[18]⟩)]) .ret)) (sK [12] .skip))) (sR [(0,oT 19 1 [1]),(1,oP 8 (.al [.int .i64 (0)]) []),(2,⟨none,.st 1 (.t 8) (.t 19),none,[],[19]⟩)] (.block 0 (.loop L53_0))))
def C53 : CFn := ⟨41,6,[],B53⟩
abbrev B54 : CCode := (sR [(0,oP 4 (.mv (.c (.bool false))) [4])] (sR [(0,oT 5 0 [0]),(1,oT 6 1 [1]),(2,oP 7 (.call 76 [.t 5,.t 6]) [5,6]),(3,oP 8 (.bin .geq (.t 7) (.c (.int .i64 0))) [7]),(4,oT 4 8 [8])] .ret))
def C54 : CFn := ⟨9,2,[.t 4],B54⟩
abbrev B55 : CCode := (sR [(0,oP 4 (.mv (.c (.bool false))) [4])] (.seq (.reg true [(0,oP 5 (.fa 0 (.t 1)) []),(1,oP 6 (.ld 1 false (.t 5)) [5]),(2,oP 7 (.fa 1 (.t 1)) []),(3,oP 8 (.ld 1 false (.t 7)) [7]),(4,oT 9 0
[0]),(5,oP 10 (.ia 2 (.t 8) (.t 9)) [8]),(6,oP 11 (.ld 2 true (.t 10)) [10]),(7,oP 12 (.fa 1 (.t 1)) []),(8,oP 13 (.ld 1 false (.t 12)) [12]),(9,oP 14 (.ld 1 false (.t 2)) [2]),(10,oP 15 (.ia 2 (.t 13) (.t 14))
[13]),(11,oP 16 (.ld 2 true (.t 15)) [15]),(12,oP 17 (.call 56 [.t 6,.t 11,.t 16]) [1,6,9,11,14,16]),(13,oT 4 17 [17])]) .ret))
def C55 : CFn := ⟨18,3,[.t 4],B55⟩
abbrev B56 : CCode := (sR [(0,oP 4 (.box 2 (.t 1)) [1]),(1,oP 5 (.box 2 (.t 2)) [2]),(2,oP 6 (.mv (.c (.bool false))) [6])] (.seq (sR [(0,oP 8 (.fa 0 (.t 4)) []),(1,oP 9 (.ld 1 false (.t 8)) [8]),(2,oP 10 (.fa 0 (.t 5))
[]),(3,oP 11 (.ld 1 false (.t 10)) [10]),(4,oP 12 (.bin .neq (.t 9) (.t 11)) [9,11])] (.cond (.t 12) (sK [0,4,5,12] (sR [(0,oP 6 (.mv (.c (.bool false))) [])] .ret)) (sK [12] .skip))) (sR [(0,oT 13 0 [0]),(1,oP 14 (.fa
0 (.t 4)) []),(2,oP 15 (.ld 1 false (.t 14)) [14]),(3,oP 16 (.ia 3 (.t 13) (.t 15)) []),(4,oP 17 (.fa 2 (.t 16)) [16]),(5,oP 18 (.ld 1 false (.t 17)) [13,15,17]),(6,oT 7 18 [18])] (.seq (.reg true [(0,oP 19 (.fa 1 (.t
4)) []),(1,oP 20 (.ld 1 false (.t 19)) [19]),(2,oT 21 7 []),(3,oP 22 (.sls 1 (.t 20) none (some (.t 21)) none) [4,20,21]),(4,oP 23 (.fa 1 (.t 5)) []),(5,oP 24 (.ld 1 false (.t 23)) [23]),(6,oT 25 7 [7]),(7,oP 26 (.sls 1
(.t 24) none (some (.t 25)) none) [5,24,25]),(8,oP 27 (.call 77 [.t 22,.t 26]) [22,26]),(9,oT 6 27 [27])]) .ret))))
def C56 : CFn := ⟨28,3,[.t 6],B56⟩
abbrev B57 : CCode := (sR [(0,oP 2 (.mv (.c (.nils))) [2])] (.seq (sR [(0,oT 3 0 []),(1,oP 4 (.isnil false (.t 3)) [3])] (.cond (.t 4) (sK [0,4] (sR [(0,oP 2 (.mv (.c (.nils))) [])] .ret)) (sK [4] .skip))) (sR [(0,oP 5
(.bsl 1 0 [.int .i64 (0)] []) []),(1,oT 6 0 [0]),(2,oP 7 (.app 1 8 (.t 5) (.t 6)) [5,6]),(3,oT 2 7 [7])] .ret)))
def C57 : CFn := ⟨8,1,[.t 2],B57⟩
abbrev B58 : CCode := (sR [(0,oP 2 (.box 3 (.t 0)) [0]),(1,oP 3 (.box 3 (.t 1)) [1]),(2,oP 4 (.mv (.c (.bool false))) [4])] (.seq (sR [(0,oP 5 (.fa 0 (.t 2)) []),(1,oP 6 (.ld 1 false (.t 5)) [5]),(2,oP 7 (.fa 0 (.t 3))
[]),(3,oP 8 (.ld 1 false (.t 7)) [7]),(4,oP 9 (.bin .neq (.t 6) (.t 8)) [6,8])] (.cond (.t 9) (sK [2,3,9] (sR [(0,oP 4 (.mv (.c (.bool false))) [])] .ret)) (sK [9] .skip))) (.seq (sR [(0,oP 10 (.fa 1 (.t 2)) []),(1,oP
11 (.ld 1 false (.t 10)) [10]),(2,oP 12 (.fa 1 (.t 3)) []),(3,oP 13 (.ld 1 false (.t 12)) [12]),(4,oP 14 (.bin .neq (.t 11) (.t 13)) [11,13])] (.cond (.t 14) (sK [2,3,14] (sR [(0,oP 4 (.mv (.c (.bool false))) [])]
.ret)) (sK [14] .skip))) (.seq (sR [(0,oP 15 (.fa 2 (.t 2)) []),(1,oP 16 (.ld 1 false (.t 15)) [2,15]),(2,oP 17 (.fa 2 (.t 3)) []),(3,oP 18 (.ld 1 false (.t 17)) [3,17]),(4,oP 19 (.bin .neq (.t 16) (.t 18)) [16,18])]
(.cond (.t 19) (sK [19] (sR [(0,oP 4 (.mv (.c (.bool false))) [])] .ret)) (sK [19] .skip))) (sR [(0,oP 4 (.mv (.c (.bool true))) [])] .ret)))))
def C58 : CFn := ⟨20,2,[.t 4],B58⟩
abbrev B59 : CCode := (sR [(0,oP 2 (.box 2 (.t 0)) [0]),(1,oP 3 (.box 2 (.t 1)) [1]),(2,oP 4 (.mv (.c (.bool false))) [4])] (.seq (sR [(0,oP 5 (.fa 0 (.t 2)) []),(1,oP 6 (.ld 1 false (.t 5)) [5]),(2,oP 7 (.fa 0 (.t 3))
[]),(3,oP 8 (.ld 1 false (.t 7)) [7]),(4,oP 9 (.bin .neq (.t 6) (.t 8)) [6,8])] (.cond (.t 9) (sK [2,3,9] (sR [(0,oP 4 (.mv (.c (.bool false))) [])] .ret)) (sK [9] .skip))) (.seq (sR [(0,oP 10 (.fa 1 (.t 2)) []),(1,oP
11 (.ld 1 false (.t 10)) [10]),(2,oP 12 (.fa 1 (.t 3)) []),(3,oP 13 (.ld 1 false (.t 12)) [12]),(4,oP 14 (.call 28 [.t 11,.t 13]) [2,3,11,13]),(5,oP 15 (.not (.t 14)) [14])] (.cond (.t 15) (sK [15] (sR [(0,oP 4 (.mv (.c
(.bool false))) [])] .ret)) (sK [15] .skip))) (sR [(0,oP 4 (.mv (.c (.bool true))) [])] .ret))))
def C59 : CFn := ⟨16,2,[.t 4],B59⟩
abbrev L60_0 : CCode := (.seq (sR [(0,oT 6 0 []),(1,oP 7 (.bin .gtr (.t 6) (.c (.int .i64 0))) [6])] (.cond (.t 7) (sK [7] .skip) (sK [0,7] (.exit 0)))) (.block 1 (sR [(0,oT 8 0 []),(1,oP 9 (.bin .rem (.t 8) (.c (.int
.i64 10))) [8]),(2,oP 10 (.bin .add (.c (.int .i64 48)) (.t 9)) [9]),(3,oP 11 (.conv .u8 (.t 10)) [10]),(4,oP 12 (.bsl 1 1 [.int .u8 (0)] [(0,1,(.t 11))]) [11]),(5,oP 13 (.b2s (.t 12)) [12]),(6,oT 14 3 [3]),(7,oP 15
(.bin .add (.t 13) (.t 14)) [13,14]),(8,oT 3 15 [15])] (.reg false [(0,oT 16 0 [0]),(1,oP 17 (.bin .quo (.t 16) (.c (.int .i64 10))) [16]),(2,oT 0 17 [17])]))))
abbrev B60 : CCode := (sR [(0,oP 2 (.mv (.c (.str []))) [2])] (.seq (sR [(0,oT 4 0 []),(1,oP 5 (.bin .leq (.t 4) (.c (.int .i64 0))) [4])] (.cond (.t 5) (sK [0,5] (sR [(0,oP 2 (.mv (.c (.str [109,48]))) [])] .ret)) (sK
[5] .skip))) (sR [(0,oP 3 (.mv (.c (.str []))) [])] (.seq (.block 0 (.loop L60_0)) (sR [(0,oT 18 3 [3]),(1,oP 19 (.bin .add (.c (.str [109])) (.t 18)) [18]),(2,oT 2 19 [19])] .ret)))))
def C60 : CFn := ⟨20,1,[.t 2],B60⟩
abbrev L66_0 : CCode := (.seq (sR [(0,oT 6 5 []),(1,oT 7 0 []),(2,oP 8 (.len (.t 7)) [7]),(3,oP 9 (.bin .lss (.t 6) (.t 8)) [6,8]),(4,oT 10 9 [9]),(5,⟨some 11,.mv (.t 5),some (10,true),[],[]⟩),(6,⟨some 12,.mv (.t
1),some (10,true),[],[]⟩),(7,⟨some 13,.len (.t 12),some (10,true),[],[12]⟩),(8,⟨some 14,.bin .lss (.t 11) (.t 13),some (10,true),[],[11,13]⟩),(9,oP 15 (.pick (.t 10) (.t 14) (.c (.bool false))) [10,14])] (.cond (.t 15)
(sK [15] .skip) (sK [5,15] (.exit 0)))) (.seq (.block 1 (.seq (.seq (.reg true [(0,oT 18 0 []),(1,oT 19 5 []),(2,oP 20 (.ia 1 (.t 18) (.t 19)) []),(3,oP 21 (.ld 1 false (.t 20)) [18,19,20]),(4,oT 22 1 []),(5,oT 23 5
[]),(6,oP 24 (.ia 1 (.t 22) (.t 23)) []),(7,oP 25 (.ld 1 false (.t 24)) [22,23,24]),(8,oP 26 (.bin .lss (.t 21) (.t 25)) [21,25])]) (.cond (.t 26) (sK [0,1,5,26] (sR [(0,oP 4 (.mv (.c (.int .i64 (-1)))) [])] .ret)) (sK
[26] .skip))) (.seq (.reg true [(0,oT 27 0 []),(1,oT 28 5 []),(2,oP 29 (.ia 1 (.t 27) (.t 28)) []),(3,oP 30 (.ld 1 false (.t 29)) [27,28,29]),(4,oT 31 1 []),(5,oT 32 5 []),(6,oP 33 (.ia 1 (.t 31) (.t 32)) []),(7,oP 34
(.ld 1 false (.t 33)) [31,32,33]),(8,oP 35 (.bin .gtr (.t 30) (.t 34)) [30,34])]) (.cond (.t 35) (sK [0,1,5,35] (sR [(0,oP 4 (.mv (.c (.int .i64 1))) [])] .ret)) (sK [35] .skip))))) (.reg false [(0,oT 16 5 [5]),(1,oP 17
(.bin .add (.t 16) (.c (.int .i64 1))) [16]),(2,oT 5 17 [17])])))
abbrev B66 : CCode := (sR [(0,oP 4 (.mv (.c (.int .i64 0))) [4])] (.seq (sR [(0,oP 5 (.mv (.c (.int .i64 0))) [])] (.block 0 (.loop L66_0))) (.seq (sR [(0,oT 36 0 []),(1,oP 37 (.len (.t 36)) [36]),(2,oT 38 1 []),(3,oP
39 (.len (.t 38)) [38]),(4,oP 40 (.bin .lss (.t 37) (.t 39)) [37,39])] (.cond (.t 40) (sK [0,1,40] (sR [(0,oP 4 (.mv (.c (.int .i64 (-1)))) [])] .ret)) (sK [40] .skip))) (.seq (sR [(0,oT 41 0 [0]),(1,oP 42 (.len (.t
41)) [41]),(2,oT 43 1 [1]),(3,oP 44 (.len (.t 43)) [43]),(4,oP 45 (.bin .gtr (.t 42) (.t 44)) [42,44])] (.cond (.t 45) (sK [45] (sR [(0,oP 4 (.mv (.c (.int .i64 1))) [])] .ret)) (sK [45] .skip))) (sR [(0,oP 4 (.mv (.c
(.int .i64 0))) [])] .ret)))))
def C66 : CFn := ⟨46,2,[.t 4],B66⟩
abbrev B67 : CCode := (sR [(0,oP 1 (.box 3 (.t 0)) [0]),(1,oP 2 (.mv (.c (.bool false))) [2])] (sR [(0,oP 3 (.fa 0 (.t 1)) []),(1,oP 4 (.ld 1 false (.t 3)) [3]),(2,oP 5 (.lens (.t 4)) [4]),(3,oP 6 (.bin .eql (.t 5) (.c
(.int .i64 1))) [5]),(4,oT 7 6 [6]),(5,⟨some 8,.fa 0 (.t 1),some (7,true),[],[]⟩),(6,⟨some 9,.ld 1 false (.t 8),some (7,true),[],[8]⟩),(7,⟨some 10,.ix (.t 9) (.c (.int .i64 0)),some (7,true),[],[9]⟩),(8,⟨some 11,.bin
.geq (.t 10) (.c (.int .u8 (97))),some (7,true),[],[10]⟩),(9,oP 12 (.pick (.t 7) (.t 11) (.c (.bool false))) [7,11]),(10,oT 13 12 [12]),(11,⟨some 14,.fa 0 (.t 1),some (13,true),[],[]⟩),(12,⟨some 15,.ld 1 false (.t
14),some (13,true),[],[14]⟩),(13,⟨some 16,.ix (.t 15) (.c (.int .i64 0)),some (13,true),[],[15]⟩),(14,⟨some 17,.bin .leq (.t 16) (.c (.int .u8 (122))),some (13,true),[],[16]⟩),(15,oP 18 (.pick (.t 13) (.t 17) (.c (.bool
false))) [13,17]),(16,oT 19 18 [18]),(17,⟨some 20,.fa 1 (.t 1),some (19,true),[],[]⟩),(18,⟨some 21,.ld 1 false (.t 20),some (19,true),[],[20]⟩),(19,⟨some 22,.call 21 [.t 21,(.c (.int .i64 1)),(.c (.int .i64 3))],some
(19,true),[],[21]⟩),(20,oP 23 (.pick (.t 19) (.t 22) (.c (.bool false))) [19,22]),(21,oT 24 23 [23]),(22,⟨some 25,.fa 2 (.t 1),some (24,true),[],[]⟩),(23,⟨some 26,.ld 1 false (.t 25),some (24,true),[],[25]⟩),(24,⟨some
27,.fa 1 (.t 1),some (24,true),[],[]⟩),(25,⟨some 28,.ld 1 false (.t 27),some (24,true),[],[1,27]⟩),(26,⟨some 29,.call 21 [.t 26,(.c (.int .i64 0)),.t 28],some (24,true),[],[26,28]⟩),(27,oP 30 (.pick (.t 24) (.t 29) (.c
(.bool false))) [24,29]),(28,oT 2 30 [30])] .ret))
def C67 : CFn := ⟨31,1,[.t 2],B67⟩
abbrev B68 : CCode := (sR [(0,oP 4 (.mv (.c (.int .i64 0))) [4])] (sR [(0,oT 5 1 [1]),(1,oT 6 0 [0]),(2,oP 7 (.len (.t 6)) [6]),(3,oP 8 (.bin .sub (.t 5) (.t 7)) [5,7]),(4,oT 1 8 [8])] (.seq (sR [(0,oT 9 1 []),(1,oP 10
(.bin .lss (.t 9) (.c (.int .i64 0))) [9])] (.cond (.t 10) (sK [1,10] (sR [(0,oP 4 (.mv (.c (.int .i64 (-1)))) [])] .ret)) (sK [10] .skip))) (sR [(0,oT 11 1 [1]),(1,oT 4 11 [11])] .ret))))
def C68 : CFn := ⟨12,2,[.t 4],B68⟩
abbrev L69_0 : CCode := (.seq (sR [(0,oT 6 5 []),(1,oT 7 1 []),(2,oP 8 (.len (.t 7)) [7]),(3,oP 9 (.bin .lss (.t 6) (.t 8)) [6,8])] (.cond (.t 9) (sK [9] .skip) (sK [1,2,5,9] (.exit 0)))) (.seq (.block 1 (.seq (.reg
true [(0,oT 12 1 []),(1,oT 13 5 []),(2,oP 14 (.ia 1 (.t 12) (.t 13)) []),(3,oP 15 (.ld 1 false (.t 14)) [12,13,14]),(4,oP 16 (.fa 1 (.t 2)) []),(5,oP 17 (.ld 1 false (.t 16)) [16]),(6,oP 18 (.len (.t 17)) [17]),(7,oP 19
(.bin .sub (.t 18) (.c (.int .i64 1))) [18]),(8,oP 20 (.call 21 [.t 15,(.c (.int .i64 0)),.t 19]) [15,19]),(9,oP 21 (.not (.t 20)) [20]),(10,oT 22 21 [21]),(11,⟨some 23,.mv (.t 5),some (22,false),[],[]⟩),(12,⟨some
24,.bin .gtr (.t 23) (.c (.int .i64 0)),some (22,false),[],[23]⟩),(13,⟨some 25,.mv (.t 24),some (22,false),[],[24]⟩),(14,⟨some 26,.mv (.t 1),some (25,true),[],[]⟩),(15,⟨some 27,.mv (.t 5),some
(25,true),[],[]⟩),(16,⟨some 28,.ia 1 (.t 26) (.t 27),some (25,true),[],[]⟩),(17,⟨some 29,.ld 1 false (.t 28),some (25,true),[],[26,27,28]⟩),(18,⟨some 30,.mv (.t 1),some (25,true),[],[]⟩),(19,⟨some 31,.mv (.t 5),some
(25,true),[],[]⟩),(20,⟨some 32,.bin .sub (.t 31) (.c (.int .i64 1)),some (25,true),[],[31]⟩),(21,⟨some 33,.ia 1 (.t 30) (.t 32),some (25,true),[],[]⟩),(22,⟨some 34,.ld 1 false (.t 33),some
(25,true),[],[30,32,33]⟩),(23,⟨some 35,.bin .leq (.t 29) (.t 34),some (25,true),[],[29,34]⟩),(24,⟨some 36,.pick (.t 25) (.t 35) (.c (.bool false)),some (22,false),[],[25,35]⟩),(25,oP 37 (.pick (.t 22) (.c (.bool true))
(.t 36)) [22,36])]) (.cond (.t 37) (sK [1,2,5,37] (sR [(0,oP 4 (.mv (.c (.bool false))) [])] .ret)) (sK [37] .skip)))) (.reg false [(0,oT 10 5 [5]),(1,oP 11 (.bin .add (.t 10) (.c (.int .i64 1))) [10]),(2,oT 5 11
[11])])))
abbrev B69 : CCode := (sR [(0,oP 2 (.box 2 (.t 0)) [0]),(1,oP 4 (.mv (.c (.bool false))) [4])] (.seq (sR [(0,oP 5 (.mv (.c (.int .i64 0))) [])] (.block 0 (.loop L69_0))) (sR [(0,oP 4 (.mv (.c (.bool true))) [])] .ret)))
def C69 : CFn := ⟨38,2,[.t 4],B69⟩
abbrev L70_0 : CCode := (.seq (sR [(0,oT 7 4 []),(1,oP 8 (.fa 1 (.t 1)) []),(2,oP 9 (.ld 1 false (.t 8)) [8]),(3,oP 10 (.len (.t 9)) [9]),(4,oP 11 (.bin .lss (.t 7) (.t 10)) [7,10]),(5,oT 12 11 [11]),(6,⟨some 13,.ld 2
true (.t 1),some (12,true),[],[]⟩),(7,⟨some 14,.call 18 [.t 13],some (12,true),[],[13]⟩),(8,oP 15 (.pick (.t 12) (.t 14) (.c (.bool false))) [12,14])] (.cond (.t 15) (sK [15] .skip) (sK [1,4,15] (.exit 0)))) (.seq
(.block 1 (sR [(0,oP 18 (.ld 2 true (.t 1)) []),(1,oT 19 4 []),(2,oP 20 (.call 82 [.t 18,.t 19]) [18,19]),(3,oT 5 20 [20])] (sR [(0,oT 21 5 []),(1,oP 22 (.ia 1 (.t 21) (.c (.int .i64 0))) []),(2,oP 23 (.ld 1 false (.t
22)) [21,22]),(3,oT 24 4 []),(4,oP 25 (.bin .eql (.t 23) (.t 24)) [23,24])] (.cond (.t 25) (sK [25] (.reg false [(0,oT 26 3 [3]),(1,oT 27 5 [5]),(2,oP 28 (.bsl 1 1 [.nils] [(0,1,(.t 27))]) [27]),(3,oP 29 (.app 1 24 (.t
26) (.t 28)) [26,28]),(4,oT 3 29 [29])])) (sK [5,25] .skip))))) (.reg false [(0,oT 16 4 [4]),(1,oP 17 (.bin .add (.t 16) (.c (.int .i64 1))) [16]),(2,oT 4 17 [17])])))
abbrev B70 : CCode := (sR [(0,oP 1 (.box 2 (.t 0)) [0]),(1,oP 2 (.mv (.c (.nils))) [2])] (sR [(0,oP 6 (.bsl 1 0 [.nils] []) []),(1,oT 3 6 [6])] (.seq (sR [(0,oP 4 (.mv (.c (.int .i64 0))) [])] (.block 0 (.loop L70_0)))
(sR [(0,oT 30 3 [3]),(1,oT 2 30 [30])] .ret))))
def C70 : CFn := ⟨31,1,[.t 2],B70⟩
abbrev L71_0 : CCode := (.seq (sR [(0,oT 8 4 []),(1,oT 9 0 []),(2,oP 10 (.len (.t 9)) [9]),(3,oP 11 (.bin .lss (.t 8) (.t 10)) [8,10])] (.cond (.t 11) (sK [11] .skip) (sK [0,4,11] (.exit 0)))) (.seq (.block 1 (.reg
false [(0,oT 14 3 []),(1,oT 15 4 []),(2,oT 16 0 []),(3,oT 17 4 []),(4,oP 18 (.ia 1 (.t 16) (.t 17)) []),(5,oP 19 (.ld 1 false (.t 18)) [16,17,18]),(6,oP 20 (.ia 1 (.t 14) (.t 15)) []),(7,⟨none,.st 1 (.t 20) (.t
19),none,[],[14,15,19,20]⟩)])) (.reg false [(0,oT 12 4 [4]),(1,oP 13 (.bin .add (.t 12) (.c (.int .i64 1))) [12]),(2,oT 4 13 [13])])))
abbrev B71 : CCode := (sR [(0,oP 2 (.mv (.c (.nils))) [2])] (sR [(0,oT 5 0 []),(1,oP 6 (.len (.t 5)) [5]),(2,oP 7 (.mk 1 8 [.int .i64 (0)] (.t 6) (.t 6)) [6]),(3,oT 3 7 [7])] (.seq (sR [(0,oP 4 (.mv (.c (.int .i64 0)))
[])] (.block 0 (.loop L71_0))) (sR [(0,oT 21 3 [3]),(1,oT 2 21 [21])] .ret))))
def C71 : CFn := ⟨22,1,[.t 2],B71⟩
abbrev B72 : CCode := (sR [(0,oP 1 (.box 3 (.t 0)) [0]),(1,oP 2 (.mv (.c (.bool false))) [2])] (sR [(0,oP 3 (.fa 0 (.t 1)) []),(1,oP 4 (.ld 1 false (.t 3)) [3]),(2,oP 5 (.lens (.t 4)) [4]),(3,oP 6 (.bin .eql (.t 5) (.c
(.int .i64 1))) [5]),(4,oT 7 6 [6]),(5,⟨some 8,.fa 0 (.t 1),some (7,true),[],[]⟩),(6,⟨some 9,.ld 1 false (.t 8),some (7,true),[],[8]⟩),(7,⟨some 10,.ix (.t 9) (.c (.int .i64 0)),some (7,true),[],[9]⟩),(8,⟨some 11,.bin
.geq (.t 10) (.c (.int .u8 (97))),some (7,true),[],[10]⟩),(9,oP 12 (.pick (.t 7) (.t 11) (.c (.bool false))) [7,11]),(10,oT 13 12 [12]),(11,⟨some 14,.fa 0 (.t 1),some (13,true),[],[]⟩),(12,⟨some 15,.ld 1 false (.t
14),some (13,true),[],[14]⟩),(13,⟨some 16,.ix (.t 15) (.c (.int .i64 0)),some (13,true),[],[15]⟩),(14,⟨some 17,.bin .leq (.t 16) (.c (.int .u8 (122))),some (13,true),[],[16]⟩),(15,oP 18 (.pick (.t 13) (.t 17) (.c (.bool
false))) [13,17]),(16,oT 19 18 [18]),(17,⟨some 20,.fa 1 (.t 1),some (19,true),[],[]⟩),(18,⟨some 21,.ld 1 false (.t 20),some (19,true),[],[20]⟩),(19,⟨some 22,.call 26 [.t 21,(.c (.int .i64 1)),(.c (.int .i64 3))],some
(19,true),[],[21]⟩),(20,oP 23 (.pick (.t 19) (.t 22) (.c (.bool false))) [19,22]),(21,oT 24 23 [23]),(22,⟨some 25,.fa 2 (.t 1),some (24,true),[],[]⟩),(23,⟨some 26,.ld 1 false (.t 25),some (24,true),[],[25]⟩),(24,⟨some
27,.fa 1 (.t 1),some (24,true),[],[]⟩),(25,⟨some 28,.ld 1 false (.t 27),some (24,true),[],[1,27]⟩),(26,⟨some 29,.call 26 [.t 26,(.c (.int .i64 0)),.t 28],some (24,true),[],[26,28]⟩),(27,oP 30 (.pick (.t 24) (.t 29) (.c
(.bool false))) [24,29]),(28,oT 2 30 [30])] .ret))
def C72 : CFn := ⟨31,1,[.t 2],B72⟩
abbrev B73 : CCode := (sR [(0,oP 2 (.mv (.c (.bool false))) [2])] (sR [(0,oT 3 0 [0]),(1,oP 4 (.call 54 [.t 3,(.c (.fn 83 []))]) [3]),(2,oP 5 (.not (.t 4)) [4]),(3,oT 2 5 [5])] .ret))
def C73 : CFn := ⟨6,1,[.t 2],B73⟩
abbrev B74 : CCode := (sR [(0,oP 4 (.mv (.c (.int .i64 0))) [4])] (.seq (.block 0 (sR [(0,oT 6 0 []),(1,oT 7 1 []),(2,oP 8 (.bin .lss (.t 6) (.t 7)) [6,7]),(3,oT 5 8 [8])] (.cond (.t 5) (sK [0,1,5] (sR [(0,oP 4 (.mv (.c
(.int .i64 (-1)))) [])] .ret)) (sK [5] (sR [(0,oT 10 0 [0]),(1,oT 11 1 [1]),(2,oP 12 (.bin .gtr (.t 10) (.t 11)) [10,11]),(3,oT 9 12 [12])] (.cond (.t 9) (sK [9] (sR [(0,oP 4 (.mv (.c (.int .i64 1))) [])] .ret)) (sK [9]
.skip))))))) (sR [(0,oP 4 (.mv (.c (.int .i64 0))) [])] .ret)))
def C74 : CFn := ⟨13,2,[.t 4],B74⟩
abbrev L75_0 : CCode := (sR [(0,oP 12 (.bin .lss (.t 11) (.t 10)) [])] (.seq (.cond (.t 12) (sK [12] .skip) (sK [9,10,11,12] (.exit 0))) (.seq (.block 1 (sR [(0,oT 13 11 []),(1,oP 14 (.ia 1 (.t 9) (.t 11)) []),(2,oP 15
(.ld 1 false (.t 14)) [14]),(3,oT 5 13 [13]),(4,oT 6 15 [15])] (.seq (sR [(0,oT 16 5 []),(1,oT 17 1 []),(2,oP 18 (.len (.t 17)) [17]),(3,oP 19 (.bin .geq (.t 16) (.t 18)) [16,18])] (.cond (.t 19) (sK
[0,1,5,6,9,10,11,19] (sR [(0,oP 4 (.mv (.c (.int .i64 1))) [])] .ret)) (sK [19] .skip))) (sR [(0,oT 20 1 []),(1,oT 21 5 [5]),(2,oP 22 (.ia 1 (.t 20) (.t 21)) []),(3,oP 23 (.ld 1 false (.t 22)) [20,21,22]),(4,oT 7 23
[23])] (sR [(0,oT 24 6 [6]),(1,oT 25 7 [7]),(2,oP 26 (.call 84 [.t 24,.t 25]) [24,25]),(3,oT 8 26 [26])] (sR [(0,oT 27 8 []),(1,oP 28 (.bin .neq (.t 27) (.c (.int .i64 0))) [27])] (.cond (.t 28) (sK [0,1,9,10,11,28] (sR
[(0,oT 29 8 [8]),(1,oT 4 29 [29])] .ret)) (sK [8,28] .skip)))))))) (.reg false [(0,oP 30 (.bin .add (.t 11) (.c (.int .i64 1))) [11]),(1,oT 11 30 [30])]))))
abbrev B75 : CCode := (sR [(0,oP 4 (.mv (.c (.int .i64 0))) [4])] (.seq (sR [(0,oT 9 0 []),(1,oP 10 (.len (.t 9)) []),(2,oP 11 (.mv (.c (.int .i64 0))) [])] (.block 0 (.loop L75_0))) (.seq (sR [(0,oT 31 0 [0]),(1,oP 32
(.len (.t 31)) [31]),(2,oT 33 1 [1]),(3,oP 34 (.len (.t 33)) [33]),(4,oP 35 (.bin .lss (.t 32) (.t 34)) [32,34])] (.cond (.t 35) (sK [35] (sR [(0,oP 4 (.mv (.c (.int .i64 (-1)))) [])] .ret)) (sK [35] .skip))) (sR [(0,oP
4 (.mv (.c (.int .i64 0))) [])] .ret))))
def C75 : CFn := ⟨36,2,[.t 4],B75⟩
abbrev L76_0 : CCode := (sR [(0,oP 9 (.bin .lss (.t 8) (.t 7)) [])] (.seq (.cond (.t 9) (sK [9] .skip) (sK [0,1,7,8,9] (.exit 0))) (.seq (.block 1 (sR [(0,oT 10 8 []),(1,oT 5 10 [10])] (sR [(0,oT 11 1 []),(1,oT 12 0
[]),(2,oT 13 5 []),(3,oP 14 (.ia 1 (.t 12) (.t 13)) []),(4,oP 15 (.ld 1 false (.t 14)) [12,13,14]),(5,oP 16 (.callv (.t 11) [.t 15]) [11,15])] (.cond (.t 16) (sK [0,1,7,8,16] (sR [(0,oT 17 5 [5]),(1,oT 4 17 [17])]
.ret)) (sK [5,16] .skip))))) (.reg false [(0,oP 18 (.bin .add (.t 8) (.c (.int .i64 1))) [8]),(1,oT 8 18 [18])]))))
abbrev B76 : CCode := (sR [(0,oP 4 (.mv (.c (.int .i64 0))) [4])] (.seq (sR [(0,oT 6 0 []),(1,oP 7 (.len (.t 6)) [6]),(2,oP 8 (.mv (.c (.int .i64 0))) [])] (.block 0 (.loop L76_0))) (sR [(0,oP 4 (.mv (.c (.int .i64
(-1)))) [])] .ret)))
def C76 : CFn := ⟨19,2,[.t 4],B76⟩
abbrev L77_0 : CCode := (sR [(0,oP 14 (.bin .lss (.t 13) (.t 12)) [])] (.seq (.cond (.t 14) (sK [14] .skip) (sK [0,1,12,13,14] (.exit 0))) (.seq (.block 1 (sR [(0,oT 15 13 []),(1,oT 5 15 [15])] (.seq (.reg true [(0,oT
16 0 []),(1,oT 17 5 []),(2,oP 18 (.ia 1 (.t 16) (.t 17)) []),(3,oP 19 (.ld 1 false (.t 18)) [16,17,18]),(4,oT 20 1 []),(5,oT 21 5 [5]),(6,oP 22 (.ia 1 (.t 20) (.t 21)) []),(7,oP 23 (.ld 1 false (.t 22))
[20,21,22]),(8,oP 24 (.bin .neq (.t 19) (.t 23)) [19,23])]) (.cond (.t 24) (sK [0,1,12,13,24] (sR [(0,oP 4 (.mv (.c (.bool false))) [])] .ret)) (sK [24] .skip))))) (.reg false [(0,oP 25 (.bin .add (.t 13) (.c (.int .i64
1))) [13]),(1,oT 13 25 [25])]))))
abbrev B77 : CCode := (sR [(0,oP 4 (.mv (.c (.bool false))) [4])] (.seq (sR [(0,oT 6 0 []),(1,oP 7 (.len (.t 6)) [6]),(2,oT 8 1 []),(3,oP 9 (.len (.t 8)) [8]),(4,oP 10 (.bin .neq (.t 7) (.t 9)) [7,9])] (.cond (.t 10)
(sK [0,1,10] (sR [(0,oP 4 (.mv (.c (.bool false))) [])] .ret)) (sK [10] .skip))) (.seq (sR [(0,oT 11 0 []),(1,oP 12 (.len (.t 11)) [11]),(2,oP 13 (.mv (.c (.int .i64 0))) [])] (.block 0 (.loop L77_0))) (sR [(0,oP 4 (.mv
(.c (.bool true))) [])] .ret))))
def C77 : CFn := ⟨26,2,[.t 4],B77⟩
abbrev L82_0 : CCode := (.seq (sR [(0,oT 8 6 []),(1,oP 9 (.fa 1 (.t 2)) []),(2,oP 10 (.ld 1 false (.t 9)) [9]),(3,oP 11 (.len (.t 10)) [10]),(4,oP 12 (.bin .lss (.t 8) (.t 11)) [8,11]),(5,oT 13 12 [12]),(6,⟨some 14,.ld
2 true (.t 2),some (13,true),[],[]⟩),(7,⟨some 15,.call 18 [.t 14],some (13,true),[],[14]⟩),(8,oP 16 (.pick (.t 13) (.t 15) (.c (.bool false))) [13,15]),(9,oT 17 16 [16]),(10,⟨some 18,.mv (.t 1),some
(17,true),[],[]⟩),(11,⟨some 19,.fa 1 (.t 2),some (17,true),[],[]⟩),(12,⟨some 20,.ld 1 false (.t 19),some (17,true),[],[19]⟩),(13,⟨some 21,.len (.t 20),some (17,true),[],[20]⟩),(14,⟨some 22,.bin .sub (.t 21) (.c (.int
.i64 1)),some (17,true),[],[21]⟩),(15,⟨some 23,.call 21 [.t 18,(.c (.int .i64 0)),.t 22],some (17,true),[],[18,22]⟩),(16,oP 24 (.pick (.t 17) (.t 23) (.c (.bool false))) [17,23])] (.cond (.t 24) (sK [24] .skip) (sK
[1,2,6,24] (.exit 0)))) (.seq (.block 1 (.seq (.reg true [(0,oP 27 (.fa 0 (.t 2)) []),(1,oP 28 (.ld 1 false (.t 27)) [27]),(2,oP 29 (.fa 1 (.t 2)) []),(3,oP 30 (.ld 1 false (.t 29)) [29]),(4,oT 31 1 []),(5,oP 32 (.ia 2
(.t 30) (.t 31)) [30]),(6,oP 33 (.ld 2 true (.t 32)) [32]),(7,oP 34 (.fa 1 (.t 2)) []),(8,oP 35 (.ld 1 false (.t 34)) [34]),(9,oT 36 6 []),(10,oP 37 (.ia 2 (.t 35) (.t 36)) [35]),(11,oP 38 (.ld 2 true (.t 37))
[37]),(12,oP 39 (.call 87 [.t 28,.t 33,.t 38]) [28,31,33,36,38])]) (.cond (.t 39) (sK [39] (.reg false [(0,oT 40 5 [5]),(1,oT 41 6 []),(2,oP 42 (.bsl 1 1 [.int .i64 (0)] [(0,1,(.t 41))]) [41]),(3,oP 43 (.app 1 8 (.t 40)
(.t 42)) [40,42]),(4,oT 5 43 [43])])) (sK [39] .skip)))) (.reg false [(0,oT 25 6 [6]),(1,oP 26 (.bin .add (.t 25) (.c (.int .i64 1))) [25]),(2,oT 6 26 [26])])))
abbrev B82 : CCode := (sR [(0,oP 2 (.box 2 (.t 0)) [0]),(1,oP 4 (.mv (.c (.nils))) [4])] (sR [(0,oP 7 (.bsl 1 0 [.int .i64 (0)] []) []),(1,oT 5 7 [7])] (.seq (sR [(0,oP 6 (.mv (.c (.int .i64 0))) [])] (.block 0 (.loop
L82_0))) (sR [(0,oT 44 5 [5]),(1,oT 4 44 [44])] .ret))))
def C82 : CFn := ⟨45,2,[.t 4],B82⟩
abbrev B83 : CCode := (sR [(0,oP 2 (.mv (.c (.bool false))) [2])] (sR [(0,oT 3 0 [0]),(1,oP 4 (.call 26 [.t 3,(.c (.int .i64 0)),(.c (.int .i64 9))]) [3]),(2,oP 5 (.not (.t 4)) [4]),(3,oT 2 5 [5])] .ret))
def C83 : CFn := ⟨6,1,[.t 2],B83⟩
abbrev B84 : CCode := (sR [(0,oP 4 (.mv (.c (.int .i64 0))) [4])] (sR [(0,oT 7 0 []),(1,oP 8 (.call 88 [.t 7]) [7]),(2,oT 5 8 [8])] (sR [(0,oT 9 1 []),(1,oP 10 (.call 88 [.t 9]) [9]),(2,oT 6 10 [10])] (.seq (sR [(0,oT
11 5 [5])] (.cond (.t 11) (sK [0,1,11] (.seq (sR [(0,oT 12 6 [6])] (.cond (.t 12) (sK [12] (sR [(0,oP 4 (.mv (.c (.int .i64 0))) [])] .ret)) (sK [12] .skip))) (sR [(0,oP 4 (.mv (.c (.int .i64 (-1)))) [])] .ret))) (sK
[11] .skip))) (.seq (sR [(0,oT 13 6 [6])] (.cond (.t 13) (sK [0,1,13] (sR [(0,oP 4 (.mv (.c (.int .i64 1))) [])] .ret)) (sK [13] .skip))) (.seq (sR [(0,oT 14 0 []),(1,oT 15 1 []),(2,oP 16 (.bin .lss (.t 14) (.t 15))
[14,15])] (.cond (.t 16) (sK [0,1,16] (sR [(0,oP 4 (.mv (.c (.int .i64 (-1)))) [])] .ret)) (sK [16] .skip))) (.seq (sR [(0,oT 17 0 [0]),(1,oT 18 1 [1]),(2,oP 19 (.bin .gtr (.t 17) (.t 18)) [17,18])] (.cond (.t 19) (sK
[19] (sR [(0,oP 4 (.mv (.c (.int .i64 1))) [])] .ret)) (sK [19] .skip))) (sR [(0,oP 4 (.mv (.c (.int .i64 0))) [])] .ret))))))))
def C84 : CFn := ⟨20,2,[.t 4],B84⟩
abbrev B87 : CCode := (sR [(0,oP 4 (.box 2 (.t 1)) [1]),(1,oP 5 (.box 2 (.t 2)) [2]),(2,oP 6 (.mv (.c (.bool false))) [6])] (.seq (.reg true [(0,oT 7 0 []),(1,oP 8 (.ld 2 true (.t 4)) []),(2,oP 9 (.call 41 [.t 7,.t 8])
[7,8]),(3,oT 10 9 [9]),(4,⟨some 11,.mv (.t 0),some (10,true),[],[]⟩),(5,⟨some 12,.ld 2 true (.t 5),some (10,true),[],[]⟩),(6,⟨some 13,.call 41 [.t 11,.t 12],some (10,true),[],[11,12]⟩),(7,oP 14 (.pick (.t 10) (.t 13)
(.c (.bool false))) [10,13]),(8,oT 15 14 [14]),(9,⟨some 16,.fa 0 (.t 4),some (15,true),[],[]⟩),(10,⟨some 17,.ld 1 false (.t 16),some (15,true),[],[16]⟩),(11,⟨some 18,.fa 0 (.t 5),some (15,true),[],[]⟩),(12,⟨some 19,.ld
1 false (.t 18),some (15,true),[],[18]⟩),(13,⟨some 20,.bin .eql (.t 17) (.t 19),some (15,true),[],[17,19]⟩),(14,oP 21 (.pick (.t 15) (.t 20) (.c (.bool false))) [15,20]),(15,oT 22 21 [21]),(16,⟨some 23,.mv (.t 0),some
(22,true),[],[]⟩),(17,⟨some 24,.ld 2 true (.t 4),some (22,true),[],[]⟩),(19,⟨some 26,.mv (.t 0),some (22,true),[],[]⟩),(20,⟨some 27,.ld 2 true (.t 5),some (22,true),[],[]⟩),(18,⟨some 25,.call 90 [.t 23,.t 24],some
(22,true),[(5,2)],[4,23,24]⟩),(21,⟨some 28,.call 90 [.t 26,.t 27],some (22,true),[],[5,26,27]⟩),(22,⟨some 29,.call 66 [.t 25,.t 28],some (22,true),[],[25,28]⟩),(23,⟨some 30,.bin .eql (.t 29) (.c (.int .i64 0)),some
(22,true),[],[29]⟩),(24,oP 31 (.pick (.t 22) (.t 30) (.c (.bool false))) [22,30]),(25,oT 6 31 [31])]) .ret))
def C87 : CFn := ⟨32,3,[.t 6],B87⟩
abbrev B88 : CCode := (sR [(0,oP 2 (.mv (.c (.bool false))) [2])] (sR [(0,oT 3 0 []),(1,oT 4 0 [0]),(2,oP 5 (.bin .neq (.t 3) (.t 4)) [3,4]),(3,oT 2 5 [5])] .ret))
def C88 : CFn := ⟨6,1,[.t 2],B88⟩
abbrev B90 : CCode := (sR [(0,oP 3 (.box 2 (.t 1)) [1]),(1,oP 4 (.mv (.c (.nils))) [4])] (.seq (sR [(0,oT 5 0 []),(1,oP 6 (.ld 2 true (.t 3)) []),(2,oP 7 (.call 41 [.t 5,.t 6]) [5,6]),(3,oP 8 (.not (.t 7)) [7])] (.cond
(.t 8) (sK [0,3,8] (sR [(0,oP 9 (.bsl 1 0 [.int .i64 (0)] []) []),(1,oT 4 9 [9])] .ret)) (sK [8] .skip))) (.seq (.reg true [(0,oP 10 (.bsl 1 0 [.int .i64 (0)] []) []),(1,oP 11 (.fa 1 (.t 3)) []),(2,oP 12 (.ld 1 false
(.t 11)) [11]),(3,oT 13 0 [0]),(4,oP 14 (.fa 0 (.t 3)) []),(5,oP 15 (.ld 1 false (.t 14)) [14]),(6,oP 16 (.ia 3 (.t 13) (.t 15)) []),(7,oP 17 (.fa 2 (.t 16)) [16]),(8,oP 18 (.ld 1 false (.t 17)) [13,15,17]),(9,oP 19
(.sls 1 (.t 12) none (some (.t 18)) none) [3,12,18]),(10,oP 20 (.app 1 8 (.t 10) (.t 19)) [10,19]),(11,oT 4 20 [20])]) .ret)))
def C90 : CFn := ⟨21,2,[.t 4],B90⟩
theorem chk3 : chkFn Go.Proofs.Try.prog 3 C3 = true := by kernel_rfl
theorem chk5 : chkFn Go.Proofs.Try.prog 5 C5 = true := by kernel_rfl
theorem chk6 : chkFn Go.Proofs.Try.prog 6 C6 = true := by kernel_rfl
theorem chk7 : chkFn Go.Proofs.Try.prog 7 C7 = true := by kernel_rfl
theorem chk8 : chkFn Go.Proofs.Try.prog 8 C8 = true := by kernel_rfl
theorem chk9 : chkFn Go.Proofs.Try.prog 9 C9 = true := by kernel_rfl
theorem chk10 : chkFn Go.Proofs.Try.prog 10 C10 = true := by kernel_rfl
theorem chk11 : chkFn Go.Proofs.Try.prog 11 C11 = true := by kernel_rfl
theorem chk12 : chkFn Go.Proofs.Try.prog 12 C12 = true := by kernel_rfl
theorem chk13 : chkFn Go.Proofs.Try.prog 13 C13 = true := by kernel_rfl
theorem chk18 : chkFn Go.Proofs.Try.prog 18 C18 = true := by kernel_rfl
theorem chk19 : chkFn Go.Proofs.Try.prog 19 C19 = true := by kernel_rfl
theorem chk20 : chkFn Go.Proofs.Try.prog 20 C20 = true := by kernel_rfl
theorem chk21 : chkFn Go.Proofs.Try.prog 21 C21 = true := by kernel_rfl
theorem chk22 : chkFn Go.Proofs.Try.prog 22 C22 = true := by kernel_rfl
theorem chk23 : chkFn Go.Proofs.Try.prog 23 C23 = true := by kernel_rfl
theorem chk24 : chkFn Go.Proofs.Try.prog 24 C24 = true := by kernel_rfl
theorem chk25 : chkFn Go.Proofs.Try.prog 25 C25 = true := by kernel_rfl
theorem chk26 : chkFn Go.Proofs.Try.prog 26 C26 = true := by kernel_rfl
theorem chk27 : chkFn Go.Proofs.Try.prog 27 C27 = true := by kernel_rfl
theorem chk28 : chkFn Go.Proofs.Try.prog 28 C28 = true := by kernel_rfl
theorem chk29 : chkFn Go.Proofs.Try.prog 29 C29 = true := by kernel_rfl
theorem chk30 : chkFn Go.Proofs.Try.prog 30 C30 = true := by kernel_rfl
theorem chk31 : chkFn Go.Proofs.Try.prog 31 C31 = true := by kernel_rfl
theorem chk32 : chkFn Go.Proofs.Try.prog 32 C32 = true := by kernel_rfl
theorem chk33 : chkFn Go.Proofs.Try.prog 33 C33 = true := by kernel_rfl
theorem chk34 : chkFn Go.Proofs.Try.prog 34 C34 = true := by kernel_rfl
theorem chk41 : chkFn Go.Proofs.Try.prog 41 C41 = true := by kernel_rfl
theorem chk42 : chkFn Go.Proofs.Try.prog 42 C42 = true := by kernel_rfl
theorem chk43 : chkFn Go.Proofs.Try.prog 43 C43 = true := by kernel_rfl
theorem chk44 : chkFn Go.Proofs.Try.prog 44 C44 = true := by kernel_rfl
theorem chk45 : chkFn Go.Proofs.Try.prog 45 C45 = true := by kernel_rfl
theorem chk46 : chkFn Go.Proofs.Try.prog 46 C46 = true := by kernel_rfl
theorem chk47 : chkFn Go.Proofs.Try.prog 47 C47 = true := by kernel_rfl
theorem chk48 : chkFn Go.Proofs.Try.prog 48 C48 = true := by kernel_rfl
theorem chk49 : chkFn Go.Proofs.Try.prog 49 C49 = true := by kernel_rfl
theorem chk50 : chkFn Go.Proofs.Try.prog 50 C50 = true := by kernel_rfl
theorem chk51 : chkFn Go.Proofs.Try.prog 51 C51 = true := by kernel_rfl
theorem chk52 : chkFn Go.Proofs.Try.prog 52 C52 = true := by kernel_rfl
theorem chk53 : chkFn Go.Proofs.Try.prog 53 C53 = true := by kernel_rfl
theorem chk54 : chkFn Go.Proofs.Try.prog 54 C54 = true := by kernel_rfl
theorem chk55 : chkFn Go.Proofs.Try.prog 55 C55 = true := by kernel_rfl
theorem chk56 : chkFn Go.Proofs.Try.prog 56 C56 = true := by kernel_rfl
theorem chk57 : chkFn Go.Proofs.Try.prog 57 C57 = true := by kernel_rfl
theorem chk58 : chkFn Go.Proofs.Try.prog 58 C58 = true := by kernel_rfl
theorem chk59 : chkFn Go.Proofs.Try.prog 59 C59 = true := by kernel_rfl
theorem chk60 : chkFn Go.Proofs.Try.prog 60 C60 = true := by kernel_rfl
theorem chk66 : chkFn Go.Proofs.Try.prog 66 C66 = true := by kernel_rfl
theorem chk67 : chkFn Go.Proofs.Try.prog 67 C67 = true := by kernel_rfl
theorem chk68 : chkFn Go.Proofs.Try.prog 68 C68 = true := by kernel_rfl
theorem chk69 : chkFn Go.Proofs.Try.prog 69 C69 = true := by kernel_rfl
theorem chk70 : chkFn Go.Proofs.Try.prog 70 C70 = true := by kernel_rfl
theorem chk71 : chkFn Go.Proofs.Try.prog 71 C71 = true := by kernel_rfl
theorem chk72 : chkFn Go.Proofs.Try.prog 72 C72 = true := by kernel_rfl
theorem chk73 : chkFn Go.Proofs.Try.prog 73 C73 = true := by kernel_rfl
theorem chk74 : chkFn Go.Proofs.Try.prog 74 C74 = true := by kernel_rfl
theorem chk75 : chkFn Go.Proofs.Try.prog 75 C75 = true := by kernel_rfl
theorem chk76 : chkFn Go.Proofs.Try.prog 76 C76 = true := by kernel_rfl
theorem chk77 : chkFn Go.Proofs.Try.prog 77 C77 = true := by kernel_rfl
theorem chk82 : chkFn Go.Proofs.Try.prog 82 C82 = true := by kernel_rfl
theorem chk83 : chkFn Go.Proofs.Try.prog 83 C83 = true := by kernel_rfl
theorem chk84 : chkFn Go.Proofs.Try.prog 84 C84 = true := by kernel_rfl
theorem chk87 : chkFn Go.Proofs.Try.prog 87 C87 = true := by kernel_rfl
theorem chk88 : chkFn Go.Proofs.Try.prog 88 C88 = true := by kernel_rfl
theorem chk90 : chkFn Go.Proofs.Try.prog 90 C90 = true := by kernel_rfl
def Tab (f : Nat) : Option CFn :=
  match f with
  | 3 => some C3
  | 5 => some C5
  | 6 => some C6
  | 7 => some C7
  | 8 => some C8
  | 9 => some C9
  | 10 => some C10
  | 11 => some C11
  | 12 => some C12
  | 13 => some C13
  | 18 => some C18
  | 19 => some C19
  | 20 => some C20
  | 21 => some C21
  | 22 => some C22
  | 23 => some C23
  | 24 => some C24
  | 25 => some C25
  | 26 => some C26
  | 27 => some C27
  | 28 => some C28
  | 29 => some C29
  | 30 => some C30
  | 31 => some C31
  | 32 => some C32
  | 33 => some C33
  | 34 => some C34
  | 41 => some C41
  | 42 => some C42
  | 43 => some C43
  | 44 => some C44
  | 45 => some C45
  | 46 => some C46
  | 47 => some C47
  | 48 => some C48
  | 49 => some C49
  | 50 => some C50
  | 51 => some C51
  | 52 => some C52
  | 53 => some C53
  | 54 => some C54
  | 55 => some C55
  | 56 => some C56
  | 57 => some C57
  | 58 => some C58
  | 59 => some C59
  | 60 => some C60
  | 66 => some C66
  | 67 => some C67
  | 68 => some C68
  | 69 => some C69
  | 70 => some C70
  | 71 => some C71
  | 72 => some C72
  | 73 => some C73
  | 74 => some C74
  | 75 => some C75
  | 76 => some C76
  | 77 => some C77
  | 82 => some C82
  | 83 => some C83
  | 84 => some C84
  | 87 => some C87
  | 88 => some C88
  | 90 => some C90
  | _ => none
theorem tabOk : TabOk Go.Proofs.Try.prog Tab := by
  intro f cf h
  unfold Tab at h
  split at h <;> simp only [Option.some.injEq, reduceCtorEq] at h <;> subst h
  · exact chk3
  · exact chk5
  · exact chk6
  · exact chk7
  · exact chk8
  · exact chk9
  · exact chk10
  · exact chk11
  · exact chk12
  · exact chk13
  · exact chk18
  · exact chk19
  · exact chk20
  · exact chk21
  · exact chk22
  · exact chk23
  · exact chk24
  · exact chk25
  · exact chk26
  · exact chk27
  · exact chk28
  · exact chk29
  · exact chk30
  · exact chk31
  · exact chk32
  · exact chk33
  · exact chk34
  · exact chk41
  · exact chk42
  · exact chk43
  · exact chk44
  · exact chk45
  · exact chk46
  · exact chk47
  · exact chk48
  · exact chk49
  · exact chk50
  · exact chk51
  · exact chk52
  · exact chk53
  · exact chk54
  · exact chk55
  · exact chk56
  · exact chk57
  · exact chk58
  · exact chk59
  · exact chk60
  · exact chk66
  · exact chk67
  · exact chk68
  · exact chk69
  · exact chk70
  · exact chk71
  · exact chk72
  · exact chk73
  · exact chk74
  · exact chk75
  · exact chk76
  · exact chk77
  · exact chk82
  · exact chk83
  · exact chk84
  · exact chk87
  · exact chk88
  · exact chk90

end Go.Proofs.YtaanfdjhmhifiaaH
