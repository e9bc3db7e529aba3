import Derived.Test.YtbhadkbchkjdiaaGreatX3
import Derived.Test.YtbhadkbchkjdiaaGreatProg
set_option linter.unusedVariables false
set_option maxRecDepth 100000
namespace Go.Proofs.YtbhadkbchkjdiaaGreatH
open Go
@[simp] abbrev oP (d : Nat) (p : COp) (k : List Nat) : COper := ⟨some d, p, none, [], k⟩
@[simp] abbrev oT (d a : Nat) (k : List Nat) : COper := ⟨some d, .mv (.t a), none, [], k⟩
@[simp] abbrev oG (d : Nat) (p : COp) (g : Nat) (b : Bool) (k : List Nat) : COper := ⟨some d, p, some (g, b), [], k⟩
abbrev sR (l : List (Nat × COper)) (c : CCode) : CCode := .seq (.reg false l) c
abbrev sK (l : List Nat) (c : CCode) : CCode := .seq (.kill l) c
abbrev L3_0 : CCode := (.seq (sR [(0,oT 50 10 []),(1,oT 51 7 []),(2,oP 52 (.len (.t 51)) [51]),(3,oP 53 (.bin .lss (.t 50) (.t 52)) [50,52])] (.cond (.t 53) (sK [53] .skip) (sK [10,53] (.exit 0)))) (.seq (.block 1 (.reg
false [(0,oT 56 9 []),(1,oT 57 7 []),(2,oT 58 10 []),(3,oP 59 (.ia 1 (.t 57) (.t 58)) []),(4,oP 60 (.ld 1 false (.t 59)) [57,58,59]),(5,oP 61 (.ia 1 (.t 56) (.t 60)) []),(6,⟨none,.st 1 (.t 61) (.c (.bool
true)),none,[],[56,60,61]⟩)])) (.reg false [(0,oT 54 10 [10]),(1,oP 55 (.bin .add (.t 54) (.c (.int .i64 1))) [54]),(2,oT 10 55 [55])])))
abbrev B3 : CCode := (sR [(0,oP 2 (.mv (.c (.bool false))) [2])] (.seq (sR [(0,oT 11 0 []),(1,oP 12 (.call 5 [.t 11]) [11])] (.cond (.t 12) (sK [0,12] (sR [(0,oP 2 (.mv (.c (.bool true))) [])] .ret)) (sK [12] .skip)))
(sR [(0,oT 14 0 []),(1,oP 15 (.call 6 [.t 14]) [14]),(2,oT 13 15 [15]),(3,oP 16 (.ex (.t 13) 0) []),(4,oP 17 (.ex (.t 13) 1) [13]),(5,oP 3 (.al [.nils,.nils]) []),(6,oP 4 (.al [.int .i64 (0),.nils,.nils])
[]),(7,⟨none,.st 2 (.t 3) (.t 16),none,[],[16]⟩),(8,⟨none,.st 3 (.t 4) (.t 17),none,[],[17]⟩)] (sR [(0,oP 18 (.ld 3 true (.t 4)) []),(1,oP 19 (.call 7 [.t 18]) [4,18]),(2,oP 5 (.al [.int .i64 (0),.nils,.nils])
[]),(3,⟨none,.st 3 (.t 5) (.t 19),none,[],[19]⟩)] (sR [(0,oP 20 (.ld 2 true (.t 3)) []),(1,oP 21 (.ld 3 true (.t 5)) []),(2,oP 22 (.call 8 [.t 20,.t 21]) [20,21]),(3,oT 6 22 [22])] (.seq (sR [(0,oT 23 6 []),(1,oP 24
(.ld 2 true (.t 3)) []),(2,oP 25 (.ld 3 true (.t 5)) []),(3,oP 26 (.call 10 [.t 24,.t 25]) [24,25]),(4,oP 27 (.call 9 [.t 23,.t 26]) [23,26]),(5,oP 28 (.not (.t 27)) [27])] (.cond (.t 28) (sK [0,3,5,6,28] (sR [(0,oP 2
(.mv (.c (.bool false))) [])] .ret)) (sK [28] .skip))) (.seq (sR [(0,oP 29 (.ld 2 true (.t 3)) []),(1,oP 30 (.ld 3 true (.t 5)) []),(2,oP 31 (.call 11 [.t 29,.t 30]) [29,30]),(3,oP 32 (.not (.t 31)) [31])] (.cond (.t
32) (sK [0,3,5,32] (sR [(0,oT 33 6 [6]),(1,oP 34 (.len (.t 33)) [33]),(2,oP 35 (.bin .eql (.t 34) (.c (.int .i64 0))) [34]),(3,oT 2 35 [35])] .ret)) (sK [32] .skip))) (.seq (.reg true [(0,oP 37 (.ld 2 true (.t 3))
[]),(1,oT 38 0 [0]),(3,oP 40 (.ld 2 true (.t 3)) []),(2,⟨some 39,.call 13 [.t 38,(.c (.int .i64 0))],none,[(3,2),(3,2)],[38]⟩),(4,⟨some 41,.call 14 [.t 40],none,[(3,2)],[40]⟩),(5,oP 42 (.bin .rem (.t 39) (.t 41))
[39,41]),(6,oP 43 (.call 12 [.t 37,.t 42]) [37,42]),(7,oT 36 43 [43]),(8,oP 44 (.ex (.t 36) 0) []),(9,oP 45 (.ex (.t 36) 1) [36]),(10,oT 7 44 [44]),(11,oT 8 45 [8,45])]) (sR [(0,oP 46 (.fa 1 (.t 3)) []),(1,oP 47 (.ld 1
false (.t 46)) [46]),(2,oP 48 (.len (.t 47)) [47]),(3,oP 49 (.mk 1 1 [.bool false] (.t 48) (.t 48)) [48]),(4,oT 9 49 [49])] (.seq (sR [(0,oP 10 (.mv (.c (.int .i64 0))) [])] (.block 0 (.loop L3_0))) (.seq (.reg true
[(0,oP 62 (.fa 1 (.t 3)) []),(1,oP 63 (.ld 1 false (.t 62)) [62]),(2,oP 64 (.len (.t 63)) [63]),(3,oT 65 6 []),(4,oP 66 (.call 15 [.t 64,.t 65]) [64,65]),(5,oT 67 66 [66]),(6,oG 68 (.mv (.t 6)) 67 true [6]),(7,oG 69
(.mv (.t 9)) 67 true []),(9,oG 71 (.ld 2 true (.t 3)) 67 true []),(10,oG 72 (.mv (.t 7)) 67 true []),(11,oG 73 (.ld 3 true (.t 5)) 67 true []),(8,⟨some 70,.call 16 [.t 68,.t 69],some
(67,true),[(3,2),(5,3)],[68,69]⟩),(12,oG 74 (.call 17 [.t 71,.t 72,.t 73]) 67 true [3,5,71,72,73]),(13,oG 75 (.not (.t 74)) 67 true [74]),(14,oG 76 (.beq false (.t 70) (.t 75)) 67 true [70,75]),(15,oP 77 (.pick (.t 67)
(.t 76) (.c (.bool false))) [67,76]),(16,oT 78 77 [77]),(17,oG 79 (.mv (.t 9)) 78 true [9]),(19,oG 81 (.mv (.t 7)) 78 true [7]),(18,oG 80 (.call 19 [.t 79]) 78 true [79]),(20,oG 82 (.call 18 [.t 80,.t 81]) 78 true
[80,81]),(21,oP 83 (.pick (.t 78) (.t 82) (.c (.bool false))) [78,82]),(22,oT 2 83 [83])]) .ret)))))))))))
def C3 : CFn := ⟨84,1,[.t 2],B3⟩
abbrev B5 : CCode := (sR [(0,oP 2 (.mv (.c (.bool false))) [2])] (sR [(0,oT 3 0 [0]),(1,oP 4 (.len (.t 3)) [3]),(2,oP 5 (.bin .gtr (.t 4) (.c (.int .i64 1048576))) [4]),(3,oT 2 5 [5])] .ret))
def C5 : CFn := ⟨6,1,[.t 2],B5⟩
abbrev B6 : CCode := (sR [(0,oP 2 (.al [.nils,.nils]) []),(1,oP 3 (.al [.int .i64 (0),.nils,.nils]) [])] (sR [(0,oT 8 0 [0]),(1,oP 9 (.call 30 [.t 8]) [8]),(2,oT 7 9 [9]),(3,oP 10 (.ex (.t 7) 0) []),(4,oP 11 (.ex (.t 7)
1) []),(5,oP 12 (.ex (.t 7) 2) [7]),(6,oP 5 (.al [.nils,.nils]) []),(7,oP 6 (.al [.int .i64 (0),.nils,.nils]) []),(8,oT 4 10 [4,10]),(9,⟨none,.st 2 (.t 5) (.t 11),none,[],[11]⟩),(10,⟨none,.st 3 (.t 6) (.t
12),none,[],[12]⟩)] (.seq (.reg true [(0,oP 13 (.ld 2 true (.t 5)) []),(1,oP 14 (.ld 3 true (.t 6)) []),(2,⟨none,.st 2 (.t 2) (.t 13),none,[(6,3)],[5,13]⟩),(3,⟨none,.st 3 (.t 3) (.t 14),none,[],[6,14]⟩)]) .ret)))
def C6 : CFn := ⟨15,1,[.m 2 2 true,.m 3 3 true],B6⟩
abbrev B7 : CCode := (sR [(0,oP 1 (.box 3 (.t 0)) [0]),(1,oP 2 (.al [.int .i64 (0),.nils,.nils]) [])] (sR [(0,oP 3 (.fa 2 (.t 1)) []),(1,⟨none,.st 1 (.t 3) (.c (.nils)),none,[],[3]⟩)] (sR [(0,oP 4 (.ld 3 true (.t 1))
[]),(1,⟨none,.st 3 (.t 2) (.t 4),none,[],[1,4]⟩)] .ret)))
def C7 : CFn := ⟨5,1,[.m 2 3 true],B7⟩
abbrev L8_0 : CCode := (sR [(0,oP 19 (.bin .lss (.t 18) (.t 17)) [])] (.seq (.cond (.t 19) (sK [19] .skip) (sK [16,17,18,19] (.exit 0))) (.seq (.block 1 (sR [(0,oP 20 (.ia 1 (.t 16) (.t 18)) []),(1,oP 21 (.ld 1 false
(.t 20)) [20]),(2,oT 7 21 [21])] (.reg false [(0,oT 22 5 [5]),(1,oT 23 7 [7]),(2,oP 24 (.call 33 [.t 23,(.c (.int .i64 1))]) [23]),(3,oP 25 (.bsl 1 1 [.nils] [(0,1,(.t 24))]) [24]),(4,oP 26 (.app 1 24 (.t 22) (.t 25))
[22,25]),(5,oT 5 26 [26])]))) (.reg false [(0,oP 27 (.bin .add (.t 18) (.c (.int .i64 1))) [18]),(1,oT 18 27 [27])]))))
abbrev L8_1 : CCode := (sR [(0,oP 33 (.bin .lss (.t 32) (.t 31)) [])] (.seq (.cond (.t 33) (sK [33] .skip) (sK [30,31,32,33] (.exit 2))) (.seq (.block 3 (sR [(0,oP 34 (.ia 1 (.t 30) (.t 32)) []),(1,oP 35 (.ld 1 false
(.t 34)) [34]),(2,oT 9 35 [35])] (.reg false [(0,oT 36 5 [5]),(1,oT 37 9 [9]),(2,oP 38 (.call 33 [.t 37,(.c (.int .i64 (-1)))]) [37]),(3,oP 39 (.bsl 1 1 [.nils] [(0,1,(.t 38))]) [38]),(4,oP 40 (.app 1 24 (.t 36) (.t
39)) [36,39]),(5,oT 5 40 [40])]))) (.reg false [(0,oP 41 (.bin .add (.t 32) (.c (.int .i64 1))) [32]),(1,oT 32 41 [41])]))))
abbrev B8 : CCode := (sR [(0,oP 2 (.box 2 (.t 0)) [0]),(1,oP 3 (.box 3 (.t 1)) [1]),(2,oP 4 (.mv (.c (.nils))) [4])] (.seq (sR [(0,oP 10 (.ld 2 true (.t 2)) []),(1,oP 11 (.ld 3 true (.t 3)) []),(2,oP 12 (.call 31 [.t
10,.t 11]) [10,11]),(3,oP 13 (.not (.t 12)) [12])] (.cond (.t 13) (sK [2,3,13] (sR [(0,oP 4 (.mv (.c (.nils))) [])] .ret)) (sK [13] .skip))) (sR [(0,oP 14 (.bsl 1 0 [.nils] []) []),(1,oT 5 14 [14])] (.seq (sR [(0,oP 15
(.ld 2 true (.t 2)) []),(1,oP 16 (.call 32 [.t 15]) [15]),(2,oP 17 (.len (.t 16)) []),(3,oP 18 (.mv (.c (.int .i64 0))) [])] (.block 0 (.loop L8_0))) (.seq (sR [(0,oP 28 (.ld 2 true (.t 2)) []),(1,oP 29 (.ld 3 true (.t
3)) []),(2,oP 30 (.call 34 [.t 28,.t 29]) [2,3,28,29]),(3,oP 31 (.len (.t 30)) []),(4,oP 32 (.mv (.c (.int .i64 0))) [])] (.block 2 (.loop L8_1))) (sR [(0,oT 42 5 [5]),(1,oT 4 42 [42])] .ret))))))
def C8 : CFn := ⟨43,2,[.t 4],B8⟩
abbrev L9_0 : CCode := (.seq (sR [(0,oT 11 5 []),(1,oT 12 0 []),(2,oP 13 (.len (.t 12)) [12]),(3,oP 14 (.bin .lss (.t 11) (.t 13)) [11,13])] (.cond (.t 14) (sK [14] .skip) (sK [0,1,5,14] (.exit 0)))) (.seq (.block 1
(.seq (.reg true [(0,oT 17 0 []),(1,oT 18 5 []),(2,oP 19 (.ia 1 (.t 17) (.t 18)) []),(3,oP 20 (.ld 1 false (.t 19)) [19]),(4,oT 21 1 []),(5,oT 22 5 []),(6,oP 23 (.ia 1 (.t 21) (.t 22)) []),(7,oP 24 (.ld 1 false (.t 23))
[23]),(8,oP 25 (.call 18 [.t 20,.t 24]) [17,18,20,21,22,24]),(9,oP 26 (.not (.t 25)) [25])]) (.cond (.t 26) (sK [0,1,5,26] (sR [(0,oP 4 (.mv (.c (.bool false))) [])] .ret)) (sK [26] .skip)))) (.reg false [(0,oT 15 5
[5]),(1,oP 16 (.bin .add (.t 15) (.c (.int .i64 1))) [15]),(2,oT 5 16 [16])])))
abbrev B9 : CCode := (sR [(0,oP 4 (.mv (.c (.bool false))) [4])] (.seq (sR [(0,oT 6 0 []),(1,oP 7 (.len (.t 6)) [6]),(2,oT 8 1 []),(3,oP 9 (.len (.t 8)) [8]),(4,oP 10 (.bin .neq (.t 7) (.t 9)) [7,9])] (.cond (.t 10) (sK
[0,1,10] (sR [(0,oP 4 (.mv (.c (.bool false))) [])] .ret)) (sK [10] .skip))) (.seq (sR [(0,oP 5 (.mv (.c (.int .i64 0))) [])] (.block 0 (.loop L9_0))) (sR [(0,oP 4 (.mv (.c (.bool true))) [])] .ret))))
def C9 : CFn := ⟨27,2,[.t 4],B9⟩
abbrev L10_2 : CCode := (.seq (sR [(0,oT 29 9 []),(1,oT 30 6 []),(2,oT 31 7 []),(3,oP 32 (.ia 1 (.t 30) (.t 31)) []),(4,oP 33 (.ld 1 false (.t 32)) [32]),(5,oP 34 (.len (.t 33)) [30,31,33]),(6,oP 35 (.bin .lss (.t 29)
(.t 34)) [29,34])] (.cond (.t 35) (sK [35] .skip) (sK [9,35] (.exit 2)))) (.seq (.block 3 (.reg false [(0,oT 38 8 [8]),(1,oT 39 6 []),(2,oT 40 7 []),(3,oP 41 (.ia 1 (.t 39) (.t 40)) []),(4,oP 42 (.ld 1 false (.t 41))
[41]),(5,oT 43 9 []),(6,oP 44 (.ia 1 (.t 42) (.t 43)) [42]),(7,oP 45 (.ld 1 false (.t 44)) [39,40,43,44]),(8,oP 46 (.bin .add (.t 45) (.c (.int .i64 1))) [45]),(9,oP 47 (.bsl 1 1 [.int .i64 (0)] [(0,1,(.t 46))])
[46]),(10,oP 48 (.app 1 8 (.t 38) (.t 47)) [38,47]),(11,oT 8 48 [48])])) (.reg false [(0,oT 36 9 [9]),(1,oP 37 (.bin .add (.t 36) (.c (.int .i64 1))) [36]),(2,oT 9 37 [37])])))
abbrev L10_0 : CCode := (.seq (sR [(0,oT 22 7 []),(1,oT 23 6 []),(2,oP 24 (.len (.t 23)) [23]),(3,oP 25 (.bin .lss (.t 22) (.t 24)) [22,24])] (.cond (.t 25) (sK [25] .skip) (sK [6,7,25] (.exit 0)))) (.seq (.block 1 (sR
[(0,oP 28 (.bsl 1 0 [.int .i64 (0)] []) []),(1,oT 8 28 [28])] (.seq (sR [(0,oP 9 (.mv (.c (.int .i64 0))) [])] (.block 2 (.loop L10_2))) (.reg false [(0,oT 49 5 [5]),(1,oT 50 8 [8]),(2,oP 51 (.bsl 1 1 [.nils] [(0,1,(.t
50))]) [50]),(3,oP 52 (.app 1 24 (.t 49) (.t 51)) [49,51]),(4,oT 5 52 [52])])))) (.reg false [(0,oT 26 7 [7]),(1,oP 27 (.bin .add (.t 26) (.c (.int .i64 1))) [26]),(2,oT 7 27 [27])])))
abbrev L10_3 : CCode := (.seq (sR [(0,oT 63 13 []),(1,oT 64 10 []),(2,oT 65 11 []),(3,oP 66 (.ia 1 (.t 64) (.t 65)) []),(4,oP 67 (.ld 1 false (.t 66)) [66]),(5,oP 68 (.len (.t 67)) [64,65,67]),(6,oP 69 (.bin .lss (.t
63) (.t 68)) [63,68])] (.cond (.t 69) (sK [69] .skip) (sK [13,69] (.exit 6)))) (.seq (.block 7 (.reg false [(0,oT 72 12 [12]),(1,oT 73 10 []),(2,oT 74 11 []),(3,oP 75 (.ia 1 (.t 73) (.t 74)) []),(4,oP 76 (.ld 1 false
(.t 75)) [75]),(5,oT 77 13 []),(6,oP 78 (.ia 1 (.t 76) (.t 77)) [76]),(7,oP 79 (.ld 1 false (.t 78)) [73,74,77,78]),(8,oP 80 (.bin .sub (.c (.int .i64 (-1))) (.t 79)) [79]),(9,oP 81 (.bsl 1 1 [.int .i64 (0)] [(0,1,(.t
80))]) [80]),(10,oP 82 (.app 1 8 (.t 72) (.t 81)) [72,81]),(11,oT 12 82 [82])])) (.reg false [(0,oT 70 13 [13]),(1,oP 71 (.bin .add (.t 70) (.c (.int .i64 1))) [70]),(2,oT 13 71 [71])])))
abbrev L10_1 : CCode := (.seq (sR [(0,oT 56 11 []),(1,oT 57 10 []),(2,oP 58 (.len (.t 57)) [57]),(3,oP 59 (.bin .lss (.t 56) (.t 58)) [56,58])] (.cond (.t 59) (sK [59] .skip) (sK [10,11,59] (.exit 4)))) (.seq (.block 5
(sR [(0,oP 62 (.bsl 1 0 [.int .i64 (0)] []) []),(1,oT 12 62 [62])] (.seq (sR [(0,oP 13 (.mv (.c (.int .i64 0))) [])] (.block 6 (.loop L10_3))) (.reg false [(0,oT 83 5 [5]),(1,oT 84 12 [12]),(2,oP 85 (.bsl 1 1 [.nils]
[(0,1,(.t 84))]) [84]),(3,oP 86 (.app 1 24 (.t 83) (.t 85)) [83,85]),(4,oT 5 86 [86])])))) (.reg false [(0,oT 60 11 [11]),(1,oP 61 (.bin .add (.t 60) (.c (.int .i64 1))) [60]),(2,oT 11 61 [61])])))
abbrev B10 : CCode := (sR [(0,oP 2 (.box 2 (.t 0)) [0]),(1,oP 3 (.box 3 (.t 1)) [1]),(2,oP 4 (.mv (.c (.nils))) [4])] (sR [(0,oP 14 (.bsl 1 0 [.nils] []) []),(1,oT 5 14 [14])] (.seq (sR [(0,oP 15 (.ld 2 true (.t 2))
[]),(1,oP 16 (.ld 3 true (.t 3)) []),(2,oP 17 (.call 11 [.t 15,.t 16]) [15,16]),(3,oP 18 (.not (.t 17)) [17])] (.cond (.t 18) (sK [2,3,18] (sR [(0,oT 19 5 [5]),(1,oT 4 19 [19])] .ret)) (sK [18] .skip))) (sR [(0,oP 20
(.ld 2 true (.t 2)) []),(1,oP 21 (.call 35 [.t 20]) [20]),(2,oT 6 21 [21])] (.seq (sR [(0,oP 7 (.mv (.c (.int .i64 0))) [])] (.block 0 (.loop L10_0))) (sR [(0,oP 53 (.ld 2 true (.t 2)) []),(1,oP 54 (.ld 3 true (.t 3))
[]),(2,oP 55 (.call 24 [.t 53,.t 54]) [2,3,53,54]),(3,oT 10 55 [55])] (.seq (sR [(0,oP 11 (.mv (.c (.int .i64 0))) [])] (.block 4 (.loop L10_1))) (sR [(0,oT 87 5 [5]),(1,oT 4 87 [87])] .ret))))))))
def C10 : CFn := ⟨88,2,[.t 4],B10⟩
abbrev B11 : CCode := (sR [(0,oP 2 (.box 2 (.t 0)) [0]),(1,oP 3 (.box 3 (.t 1)) [1]),(2,oP 4 (.mv (.c (.bool false))) [4])] (sR [(0,oP 5 (.ld 2 true (.t 2)) []),(1,oP 6 (.call 36 [.t 5]) [5]),(2,oT 7 6 [6]),(3,oG 8 (.fa
0 (.t 2)) 7 true []),(4,oG 9 (.ld 1 false (.t 8)) 7 true [8]),(5,oG 10 (.ld 3 true (.t 3)) 7 true []),(6,oG 11 (.call 37 [.t 9,.t 10]) 7 true [2,3,9,10]),(7,oP 12 (.pick (.t 7) (.t 11) (.c (.bool false))) [7,11]),(8,oT
4 12 [12])] .ret))
def C11 : CFn := ⟨13,2,[.t 4],B11⟩
abbrev L12_0 : CCode := (.seq (sR [(0,oT 22 8 []),(1,oP 23 (.bin .geq (.t 22) (.c (.int .i64 0))) [22])] (.cond (.t 23) (sK [23] .skip) (sK [1,6,8,23] (.exit 0)))) (.seq (.block 1 (.seq (.reg true [(0,oT 26 7 [7]),(1,oT
27 6 []),(2,oT 28 8 []),(3,oP 29 (.ia 1 (.t 27) (.t 28)) []),(4,oP 30 (.ld 1 false (.t 29)) [29]),(5,oT 31 1 []),(6,oT 32 6 []),(7,oT 33 8 []),(8,oP 34 (.ia 1 (.t 32) (.t 33)) []),(9,oP 35 (.ld 1 false (.t 34))
[34]),(10,oP 36 (.len (.t 35)) [32,33,35]),(11,oP 37 (.bin .rem (.t 31) (.t 36)) [31,36]),(12,oP 38 (.ia 1 (.t 30) (.t 37)) [30]),(13,oP 39 (.ld 1 false (.t 38)) [27,28,37,38]),(14,oP 40 (.bsl 1 1 [.int .i64 (0)]
[(0,1,(.t 39))]) [39]),(15,oP 41 (.app 1 8 (.t 26) (.t 40)) [26,40]),(16,oT 7 41 [41])]) (.reg false [(0,oT 42 1 [1]),(1,oT 43 6 []),(2,oT 44 8 []),(3,oP 45 (.ia 1 (.t 43) (.t 44)) []),(4,oP 46 (.ld 1 false (.t 45))
[45]),(5,oP 47 (.len (.t 46)) [43,44,46]),(6,oP 48 (.bin .quo (.t 42) (.t 47)) [42,47]),(7,oT 1 48 [48])]))) (.reg false [(0,oT 24 8 [8]),(1,oP 25 (.bin .sub (.t 24) (.c (.int .i64 1))) [24]),(2,oT 8 25 [25])])))
abbrev B12 : CCode := (sR [(0,oP 2 (.box 2 (.t 0)) [0]),(1,oP 4 (.mv (.c (.nils))) [4]),(2,oP 5 (.mv (.c (.bool false))) [5])] (.seq (sR [(0,oT 9 1 []),(1,oP 10 (.ld 2 true (.t 2)) []),(2,oP 11 (.call 14 [.t 10])
[10]),(3,oP 12 (.bin .sub (.t 11) (.c (.int .i64 1))) [11]),(4,oP 13 (.call 38 [.t 9,(.c (.int .i64 0)),.t 12]) [9,12]),(5,oP 14 (.not (.t 13)) [13])] (.cond (.t 14) (sK [1,2,14] (sR [(0,oP 15 (.bsl 1 0 [.int .i64 (0)]
[]) []),(1,oT 4 15 [15]),(2,oP 5 (.mv (.c (.bool false))) [])] .ret)) (sK [14] .skip))) (sR [(0,oP 16 (.ld 2 true (.t 2)) []),(1,oP 17 (.call 35 [.t 16]) [2,16]),(2,oT 6 17 [17])] (sR [(0,oP 18 (.bsl 1 0 [.int .i64 (0)]
[]) []),(1,oT 7 18 [18])] (.seq (sR [(0,oT 19 6 []),(1,oP 20 (.len (.t 19)) [19]),(2,oP 21 (.bin .sub (.t 20) (.c (.int .i64 1))) [20]),(3,oT 8 21 [21])] (.block 0 (.loop L12_0))) (sR [(0,oT 49 7 [7]),(1,oP 50 (.call 39
[.t 49]) [49]),(2,oT 4 50 [50]),(3,oP 5 (.mv (.c (.bool true))) [])] .ret))))))
def C12 : CFn := ⟨51,2,[.t 4,.t 5],B12⟩
abbrev B13 : CCode := (sR [(0,oP 4 (.mv (.c (.int .i64 0))) [4])] (.seq (sR [(0,oT 5 1 []),(1,oT 6 0 []),(2,oP 7 (.len (.t 6)) [6]),(3,oP 8 (.bin .lss (.t 5) (.t 7)) [5,7])] (.cond (.t 8) (sK [8] (sR [(0,oT 9 0
[0]),(1,oT 10 1 [1]),(2,oP 11 (.ia 1 (.t 9) (.t 10)) []),(3,oP 12 (.ld 1 false (.t 11)) [9,10,11]),(4,oP 13 (.conv .i64 (.t 12)) [12]),(5,oT 4 13 [13])] .ret)) (sK [8] .skip))) (sR [(0,oT 14 1 [1]),(1,oP 15 (.bin .mul
(.t 14) (.c (.int .i64 37))) [14]),(2,oT 16 0 [0]),(3,oP 17 (.len (.t 16)) [16]),(4,oP 18 (.bin .mul (.t 17) (.c (.int .i64 11))) [17]),(5,oP 19 (.bin .add (.t 15) (.t 18)) [15,18]),(6,oP 20 (.bin .rem (.t 19) (.c (.int
.i64 256))) [19]),(7,oT 4 20 [20])] .ret)))
def C13 : CFn := ⟨21,2,[.t 4],B13⟩
abbrev L14_0 : CCode := (.seq (sR [(0,oT 11 5 []),(1,oT 12 4 []),(2,oP 13 (.len (.t 12)) [12]),(3,oP 14 (.bin .lss (.t 11) (.t 13)) [11,13])] (.cond (.t 14) (sK [14] .skip) (sK [4,5,14] (.exit 0)))) (.seq (.block 1
(.reg false [(0,oT 17 3 [3]),(1,oT 18 4 []),(2,oT 19 5 []),(3,oP 20 (.ia 1 (.t 18) (.t 19)) []),(4,oP 21 (.ld 1 false (.t 20)) [18,19,20]),(5,oP 22 (.bin .mul (.t 17) (.t 21)) [17,21]),(6,oT 3 22 [22])])) (.reg false
[(0,oT 15 5 [5]),(1,oP 16 (.bin .add (.t 15) (.c (.int .i64 1))) [15]),(2,oT 5 16 [16])])))
abbrev B14 : CCode := (sR [(0,oP 1 (.box 2 (.t 0)) [0]),(1,oP 2 (.mv (.c (.int .i64 0))) [2])] (.seq (sR [(0,oP 6 (.ld 2 true (.t 1)) []),(1,oP 7 (.call 36 [.t 6]) [6]),(2,oP 8 (.not (.t 7)) [7])] (.cond (.t 8) (sK
[1,8] (sR [(0,oP 2 (.mv (.c (.int .i64 0))) [])] .ret)) (sK [8] .skip))) (sR [(0,oP 3 (.mv (.c (.int .i64 1))) [])] (sR [(0,oP 9 (.ld 2 true (.t 1)) []),(1,oP 10 (.call 40 [.t 9]) [1,9]),(2,oT 4 10 [10])] (.seq (sR
[(0,oP 5 (.mv (.c (.int .i64 0))) [])] (.block 0 (.loop L14_0))) (sR [(0,oT 23 3 [3]),(1,oT 2 23 [23])] .ret))))))
def C14 : CFn := ⟨24,1,[.t 2],B14⟩
abbrev B15 : CCode := (sR [(0,oP 4 (.mv (.c (.bool false))) [4])] (sR [(0,oT 5 1 []),(1,oP 6 (.len (.t 5)) [5]),(2,oP 7 (.bin .leq (.t 6) (.c (.int .i64 400))) [6]),(3,oT 8 7 [7]),(4,oG 9 (.mv (.t 0)) 8 true [0]),(5,oG
10 (.mv (.t 1)) 8 true [1]),(6,oG 11 (.call 41 [.t 9,.t 10]) 8 true [9,10]),(7,oP 12 (.pick (.t 8) (.t 11) (.c (.bool false))) [8,11]),(8,oT 4 12 [12])] .ret))
def C15 : CFn := ⟨13,2,[.t 4],B15⟩
abbrev B16 : CCode := (sR [(0,oP 3 (.box 1 (.t 1)) [1]),(1,oP 4 (.mv (.c (.bool false))) [4])] (sR [(0,oT 5 0 [0]),(1,oP 6 (.fn 43 [.t 3]) []),(2,oP 7 (.call 42 [.t 5,.t 6]) [3,5,6]),(3,oP 8 (.not (.t 7)) [7]),(4,oT 4 8
[8])] .ret))
def C16 : CFn := ⟨9,2,[.t 4],B16⟩
abbrev B17 : CCode := (sR [(0,oP 3 (.box 2 (.t 0)) [0]),(1,oP 5 (.box 3 (.t 2)) [2]),(2,oP 6 (.mv (.c (.bool false))) [6])] (sR [(0,oP 10 (.ld 2 true (.t 3)) []),(1,oT 11 1 [1]),(2,oP 12 (.call 47 [.t 10,.t 11])
[3,10,11]),(3,oT 9 12 [12]),(4,oP 13 (.ex (.t 9) 0) []),(5,oP 14 (.ex (.t 9) 1) [9]),(6,oP 7 (.al [.nils,.nils]) []),(7,⟨none,.st 2 (.t 7) (.t 13),none,[],[13]⟩),(8,oT 8 14 [14])] (sR [(0,oT 15 8 [8]),(1,oT 16 15
[15]),(2,oG 17 (.ld 2 true (.t 7)) 16 true []),(3,oG 18 (.ld 3 true (.t 5)) 16 true []),(4,oG 19 (.call 48 [.t 17,.t 18]) 16 true [5,7,17,18]),(5,oG 20 (.len (.t 19)) 16 true [19]),(6,oG 21 (.bin .gtr (.t 20) (.c (.int
.i64 0))) 16 true [20]),(7,oP 22 (.pick (.t 16) (.t 21) (.c (.bool false))) [16,21]),(8,oT 6 22 [22])] .ret)))
def C17 : CFn := ⟨23,3,[.t 6],B17⟩
abbrev L18_0 : CCode := (.seq (sR [(0,oT 11 5 []),(1,oT 12 0 []),(2,oP 13 (.len (.t 12)) [12]),(3,oP 14 (.bin .lss (.t 11) (.t 13)) [11,13])] (.cond (.t 14) (sK [14] .skip) (sK [0,1,5,14] (.exit 0)))) (.seq (.block 1
(.seq (.reg true [(0,oT 17 0 []),(1,oT 18 5 []),(2,oP 19 (.ia 1 (.t 17) (.t 18)) []),(3,oP 20 (.ld 1 false (.t 19)) [17,18,19]),(4,oT 21 1 []),(5,oT 22 5 []),(6,oP 23 (.ia 1 (.t 21) (.t 22)) []),(7,oP 24 (.ld 1 false
(.t 23)) [21,22,23]),(8,oP 25 (.bin .neq (.t 20) (.t 24)) [20,24])]) (.cond (.t 25) (sK [0,1,5,25] (sR [(0,oP 4 (.mv (.c (.bool false))) [])] .ret)) (sK [25] .skip)))) (.reg false [(0,oT 15 5 [5]),(1,oP 16 (.bin .add
(.t 15) (.c (.int .i64 1))) [15]),(2,oT 5 16 [16])])))
abbrev B18 : CCode := (sR [(0,oP 4 (.mv (.c (.bool false))) [4])] (.seq (sR [(0,oT 6 0 []),(1,oP 7 (.len (.t 6)) [6]),(2,oT 8 1 []),(3,oP 9 (.len (.t 8)) [8]),(4,oP 10 (.bin .neq (.t 7) (.t 9)) [7,9])] (.cond (.t 10)
(sK [0,1,10] (sR [(0,oP 4 (.mv (.c (.bool false))) [])] .ret)) (sK [10] .skip))) (.seq (sR [(0,oP 5 (.mv (.c (.int .i64 0))) [])] (.block 0 (.loop L18_0))) (sR [(0,oP 4 (.mv (.c (.bool true))) [])] .ret))))
def C18 : CFn := ⟨26,2,[.t 4],B18⟩
abbrev L19_0 : CCode := (sR [(0,oP 10 (.bin .lss (.t 9) (.t 8)) [])] (.seq (.cond (.t 10) (sK [10] .skip) (sK [7,8,9,10] (.exit 0))) (.seq (.block 1 (sR [(0,oT 11 9 []),(1,oP 12 (.ia 1 (.t 7) (.t 9)) []),(2,oP 13 (.ld 1
false (.t 12)) [12]),(3,oT 4 11 [11]),(4,oT 5 13 [13])] (sR [(0,oT 14 5 [5])] (.cond (.t 14) (sK [14] (.reg false [(0,oT 15 3 [3]),(1,oT 16 4 [4]),(2,oP 17 (.bsl 1 1 [.int .i64 (0)] [(0,1,(.t 16))]) [16]),(3,oP 18 (.app
1 8 (.t 15) (.t 17)) [15,17]),(4,oT 3 18 [18])])) (sK [4,14] .skip))))) (.reg false [(0,oP 19 (.bin .add (.t 9) (.c (.int .i64 1))) [9]),(1,oT 9 19 [19])]))))
abbrev B19 : CCode := (sR [(0,oP 2 (.mv (.c (.nils))) [2])] (sR [(0,oP 6 (.bsl 1 0 [.int .i64 (0)] []) []),(1,oT 3 6 [6])] (.seq (sR [(0,oT 7 0 [0]),(1,oP 8 (.len (.t 7)) []),(2,oP 9 (.mv (.c (.int .i64 0))) [])]
(.block 0 (.loop L19_0))) (sR [(0,oT 20 3 [3]),(1,oT 2 20 [20])] .ret))))
def C19 : CFn := ⟨21,1,[.t 2],B19⟩
abbrev L24_0 : CCode := (.seq (sR [(0,oT 13 7 []),(1,oT 14 6 []),(2,oP 15 (.len (.t 14)) [14]),(3,oP 16 (.bin .lss (.t 13) (.t 15)) [13,15])] (.cond (.t 16) (sK [16] .skip) (sK [2,6,7,16] (.exit 0)))) (.seq (.block 1
(sR [(0,oT 19 6 []),(1,oT 20 7 []),(2,oP 21 (.ia 2 (.t 19) (.t 20)) []),(3,oP 22 (.fa 1 (.t 21)) [21]),(4,oP 23 (.ld 1 false (.t 22)) [22]),(5,oP 24 (.call 39 [.t 23]) [19,20,23]),(6,oT 8 24 [24])] (sR [(0,oP 25 (.ld 2
true (.t 2)) []),(1,oT 26 8 []),(2,oP 27 (.call 56 [.t 25,.t 26]) [25,26])] (.cond (.t 27) (sK [27] (.reg false [(0,oT 28 5 [5]),(1,oT 29 8 [8]),(2,oP 30 (.bsl 1 1 [.nils] [(0,1,(.t 29))]) [29]),(3,oP 31 (.app 1 24 (.t
28) (.t 30)) [28,30]),(4,oT 5 31 [31])])) (sK [8,27] .skip))))) (.reg false [(0,oT 17 7 [7]),(1,oP 18 (.bin .add (.t 17) (.c (.int .i64 1))) [17]),(2,oT 7 18 [18])])))
abbrev B24 : CCode := (sR [(0,oP 2 (.box 2 (.t 0)) [0]),(1,oP 3 (.box 3 (.t 1)) [1]),(2,oP 4 (.mv (.c (.nils))) [4])] (sR [(0,oP 9 (.bsl 1 0 [.nils] []) []),(1,oT 5 9 [9])] (sR [(0,oP 10 (.ld 2 true (.t 2)) []),(1,oP 11
(.ld 3 true (.t 3)) []),(2,oP 12 (.call 48 [.t 10,.t 11]) [3,10,11]),(3,oT 6 12 [12])] (.seq (sR [(0,oP 7 (.mv (.c (.int .i64 0))) [])] (.block 0 (.loop L24_0))) (sR [(0,oT 32 5 [5]),(1,oT 4 32 [32])] .ret)))))
def C24 : CFn := ⟨33,2,[.t 4],B24⟩
abbrev B30 : CCode := (sR [(0,oP 2 (.mv (.c (.nilp))) [2]),(1,oP 3 (.al [.nils,.nils]) []),(2,oP 4 (.al [.int .i64 (0),.nils,.nils]) [])] (sR [(0,oT 8 0 [0]),(1,oP 9 (.call 57 [.t 8]) [8]),(2,oT 5 9 [9])] (sR [(0,oT 10
5 []),(1,oP 11 (.call 61 [.t 10]) [10]),(2,oP 6 (.al [.nils,.nils]) []),(3,⟨none,.st 2 (.t 6) (.t 11),none,[],[11]⟩)] (sR [(0,oT 12 5 []),(1,oP 13 (.fa 0 (.t 6)) []),(2,oP 14 (.ld 1 false (.t 13)) [13]),(3,oP 15 (.call
62 [.t 12,.t 14]) [12,14]),(4,oP 7 (.al [.int .i64 (0),.nils,.nils]) []),(5,⟨none,.st 3 (.t 7) (.t 15),none,[],[15]⟩)] (.seq (sR [(0,oT 16 5 []),(1,oP 17 (.call 63 [.t 16,(.c (.int .i64 20))]) [16])] (.cond (.t 17) (sK
[17] (.reg false [(0,oT 18 5 []),(1,oP 19 (.fa 0 (.t 6)) []),(2,oP 20 (.ld 1 false (.t 19)) [19]),(3,oP 21 (.call 64 [.t 18,.t 20]) [18,20]),(4,⟨none,.st 3 (.t 7) (.t 21),none,[],[21]⟩)])) (sK [17] .skip))) (.seq (.reg
true [(0,oT 22 5 [5]),(1,oP 23 (.ld 2 true (.t 6)) []),(2,oP 24 (.ld 3 true (.t 7)) []),(3,oT 2 22 [22]),(4,⟨none,.st 2 (.t 3) (.t 23),none,[(7,3)],[6,23]⟩),(5,⟨none,.st 3 (.t 4) (.t 24),none,[],[7,24]⟩)]) .ret))))))
def C30 : CFn := ⟨25,1,[.t 2,.m 3 2 true,.m 4 3 true],B30⟩
abbrev B31 : CCode := (sR [(0,oP 2 (.box 2 (.t 0)) [0]),(1,oP 3 (.box 3 (.t 1)) [1]),(2,oP 4 (.mv (.c (.bool false))) [4])] (sR [(0,oP 5 (.ld 2 true (.t 2)) []),(1,oP 6 (.call 65 [.t 5]) [5]),(2,oT 7 6 [6]),(3,oG 8 (.fa
0 (.t 2)) 7 true []),(4,oG 9 (.ld 1 false (.t 8)) 7 true [8]),(5,oG 10 (.ld 3 true (.t 3)) 7 true []),(6,oG 11 (.call 66 [.t 9,.t 10]) 7 true [2,3,9,10]),(7,oP 12 (.pick (.t 7) (.t 11) (.c (.bool false))) [7,11]),(8,oT
4 12 [12])] .ret))
def C31 : CFn := ⟨13,2,[.t 4],B31⟩
abbrev L32_0 : CCode := (sR [(0,oP 12 (.bin .lss (.t 11) (.t 10)) [])] (.seq (.cond (.t 12) (sK [12] .skip) (sK [1,9,10,11,12] (.exit 0))) (.seq (.block 1 (sR [(0,oT 13 11 []),(1,oP 14 (.ia 2 (.t 9) (.t 11)) []),(2,oP
15 (.ld 2 true (.t 14)) [14]),(3,oP 5 (.al [.int .i64 (0),.nils]) []),(4,oT 4 13 [13]),(5,⟨none,.st 2 (.t 5) (.t 15),none,[],[15]⟩)] (sR [(0,oT 16 3 []),(1,oP 17 (.len (.t 16)) [16]),(2,oP 18 (.bin .sub (.t 17) (.c
(.int .i64 1))) [17]),(3,oT 6 18 [18])] (.seq (.reg true [(0,oT 19 6 []),(1,oP 20 (.bin .geq (.t 19) (.c (.int .i64 0))) [19]),(2,oT 21 20 [20]),(3,oG 22 (.fa 0 (.t 1)) 21 true []),(4,oG 23 (.ld 1 false (.t 22)) 21 true
[22]),(5,oG 24 (.fa 1 (.t 1)) 21 true []),(6,oG 25 (.ld 1 false (.t 24)) 21 true [24]),(7,oG 26 (.mv (.t 3)) 21 true []),(8,oG 27 (.mv (.t 6)) 21 true []),(9,oG 28 (.ia 1 (.t 26) (.t 27)) 21 true []),(10,oG 29 (.ld 1
false (.t 28)) 21 true [28]),(11,oG 30 (.ia 1 (.t 29) (.c (.int .i64 0))) 21 true [29]),(12,oG 31 (.ld 1 false (.t 30)) 21 true [26,27,30]),(13,oG 32 (.ia 2 (.t 25) (.t 31)) 21 true [25]),(14,oG 33 (.ld 2 true (.t 32))
21 true [32]),(15,oG 34 (.ld 2 true (.t 5)) 21 true []),(16,oG 35 (.call 67 [.t 23,.t 33,.t 34]) 21 true [5,23,31,33,34]),(17,oP 36 (.pick (.t 21) (.t 35) (.c (.bool false))) [21,35])]) (.cond (.t 36) (sK [36] (.reg
false [(0,oT 37 3 []),(1,oT 38 6 []),(2,oT 39 3 []),(3,oT 40 6 [6]),(4,oP 41 (.ia 1 (.t 39) (.t 40)) []),(5,oP 42 (.ld 1 false (.t 41)) [41]),(6,oT 43 4 [4]),(7,oP 44 (.bsl 1 1 [.int .i64 (0)] [(0,1,(.t 43))])
[43]),(8,oP 45 (.app 1 8 (.t 42) (.t 44)) [39,40,42,44]),(9,oP 46 (.ia 1 (.t 37) (.t 38)) []),(10,⟨none,.st 1 (.t 46) (.t 45),none,[],[37,38,45,46]⟩)])) (sK [6,36] (.reg false [(0,oT 47 3 [3]),(1,oT 48 4 [4]),(2,oP 49
(.bsl 1 1 [.int .i64 (0)] [(0,1,(.t 48))]) [48]),(3,oP 50 (.bsl 1 1 [.nils] [(0,1,(.t 49))]) [49]),(4,oP 51 (.app 1 24 (.t 47) (.t 50)) [47,50]),(5,oT 3 51 [51])]))))))) (.reg false [(0,oP 52 (.bin .add (.t 11) (.c
(.int .i64 1))) [11]),(1,oT 11 52 [52])]))))
abbrev B32 : CCode := (sR [(0,oP 1 (.box 2 (.t 0)) [0]),(1,oP 2 (.mv (.c (.nils))) [2])] (sR [(0,oP 7 (.bsl 1 0 [.nils] []) []),(1,oT 3 7 [7])] (.seq (sR [(0,oP 8 (.fa 1 (.t 1)) []),(1,oP 9 (.ld 1 false (.t 8))
[8]),(2,oP 10 (.len (.t 9)) []),(3,oP 11 (.mv (.c (.int .i64 0))) [])] (.block 0 (.loop L32_0))) (sR [(0,oT 53 3 [3]),(1,oT 2 53 [53])] .ret))))
def C32 : CFn := ⟨54,1,[.t 2],B32⟩
abbrev L33_0 : CCode := (sR [(0,oP 12 (.bin .lss (.t 11) (.t 10)) [])] (.seq (.cond (.t 12) (sK [12] .skip) (sK [1,9,10,11,12] (.exit 0))) (.seq (.block 1 (sR [(0,oP 13 (.ia 1 (.t 9) (.t 11)) []),(1,oP 14 (.ld 1 false
(.t 13)) [13]),(2,oT 7 14 [14])] (.reg false [(0,oT 15 5 [5]),(1,oT 16 1 []),(2,oT 17 7 [7]),(3,oP 18 (.bin .add (.t 17) (.c (.int .i64 1))) [17]),(4,oP 19 (.bin .mul (.t 16) (.t 18)) [16,18]),(5,oP 20 (.bsl 1 1 [.int
.i64 (0)] [(0,1,(.t 19))]) [19]),(6,oP 21 (.app 1 8 (.t 15) (.t 20)) [15,20]),(7,oT 5 21 [21])]))) (.reg false [(0,oP 22 (.bin .add (.t 11) (.c (.int .i64 1))) [11]),(1,oT 11 22 [22])]))))
abbrev B33 : CCode := (sR [(0,oP 4 (.mv (.c (.nils))) [4])] (sR [(0,oP 8 (.bsl 1 0 [.int .i64 (0)] []) []),(1,oT 5 8 [8])] (.seq (sR [(0,oT 9 0 [0]),(1,oP 10 (.len (.t 9)) []),(2,oP 11 (.mv (.c (.int .i64 0))) [])]
(.block 0 (.loop L33_0))) (sR [(0,oT 23 5 [5]),(1,oT 4 23 [23])] .ret))))
def C33 : CFn := ⟨24,2,[.t 4],B33⟩
abbrev L34_0 : CCode := (sR [(0,oP 14 (.bin .lss (.t 13) (.t 12)) [])] (.seq (.cond (.t 14) (sK [14] .skip) (sK [11,12,13,14] (.exit 0))) (.seq (.block 1 (sR [(0,oP 15 (.ia 2 (.t 11) (.t 13)) []),(1,oP 16 (.ld 2 true
(.t 15)) [15]),(2,oP 7 (.al [.nils,.nils]) []),(3,⟨none,.st 2 (.t 7) (.t 16),none,[],[16]⟩)] (sR [(0,oP 17 (.fa 1 (.t 7)) []),(1,oP 18 (.ld 1 false (.t 17)) [17]),(2,oP 19 (.call 69 [.t 18]) [18,19])] (.reg false [(0,oT
20 5 [5]),(1,oP 21 (.fa 1 (.t 7)) []),(2,oP 22 (.ld 1 false (.t 21)) [21]),(3,oP 23 (.bsl 1 1 [.nils] [(0,1,(.t 22))]) [7,22]),(4,oP 24 (.app 1 24 (.t 20) (.t 23)) [20,23]),(5,oT 5 24 [24])])))) (.reg false [(0,oP 25
(.bin .add (.t 13) (.c (.int .i64 1))) [13]),(1,oT 13 25 [25])]))))
abbrev B34 : CCode := (sR [(0,oP 2 (.box 2 (.t 0)) [0]),(1,oP 3 (.box 3 (.t 1)) [1]),(2,oP 4 (.mv (.c (.nils))) [4])] (sR [(0,oP 8 (.bsl 1 0 [.nils] []) []),(1,oT 5 8 [8])] (.seq (sR [(0,oP 9 (.ld 2 true (.t 2))
[]),(1,oP 10 (.ld 3 true (.t 3)) []),(2,oP 11 (.call 68 [.t 9,.t 10]) [2,3,9,10]),(3,oP 12 (.len (.t 11)) []),(4,oP 13 (.mv (.c (.int .i64 0))) [])] (.block 0 (.loop L34_0))) (sR [(0,oT 26 5 [5]),(1,oT 4 26 [26])]
.ret))))
def C34 : CFn := ⟨27,2,[.t 4],B34⟩
abbrev L35_0 : CCode := (.seq (sR [(0,oT 7 4 []),(1,oP 8 (.fa 1 (.t 1)) []),(2,oP 9 (.ld 1 false (.t 8)) [8]),(3,oP 10 (.len (.t 9)) [9]),(4,oP 11 (.bin .lss (.t 7) (.t 10)) [7,10]),(5,oT 12 11 [11]),(6,oG 13 (.ld 2
true (.t 1)) 12 true []),(7,oG 14 (.call 36 [.t 13]) 12 true [13]),(8,oP 15 (.pick (.t 12) (.t 14) (.c (.bool false))) [12,14])] (.cond (.t 15) (sK [15] .skip) (sK [1,4,15] (.exit 0)))) (.seq (.block 1 (sR [(0,oP 18
(.ld 2 true (.t 1)) []),(1,oT 19 4 []),(2,oP 20 (.call 70 [.t 18,.t 19]) [18,19]),(3,oT 5 20 [20])] (sR [(0,oT 21 5 []),(1,oP 22 (.ia 1 (.t 21) (.c (.int .i64 0))) []),(2,oP 23 (.ld 1 false (.t 22)) [21,22]),(3,oT 24 4
[]),(4,oP 25 (.bin .eql (.t 23) (.t 24)) [23,24])] (.cond (.t 25) (sK [25] (.reg false [(0,oT 26 3 [3]),(1,oT 27 5 [5]),(2,oP 28 (.bsl 1 1 [.nils] [(0,1,(.t 27))]) [27]),(3,oP 29 (.app 1 24 (.t 26) (.t 28))
[26,28]),(4,oT 3 29 [29])])) (sK [5,25] .skip))))) (.reg false [(0,oT 16 4 [4]),(1,oP 17 (.bin .add (.t 16) (.c (.int .i64 1))) [16]),(2,oT 4 17 [17])])))
abbrev B35 : CCode := (sR [(0,oP 1 (.box 2 (.t 0)) [0]),(1,oP 2 (.mv (.c (.nils))) [2])] (sR [(0,oP 6 (.bsl 1 0 [.nils] []) []),(1,oT 3 6 [6])] (.seq (sR [(0,oP 4 (.mv (.c (.int .i64 0))) [])] (.block 0 (.loop L35_0)))
(sR [(0,oT 30 3 [3]),(1,oT 2 30 [30])] .ret))))
def C35 : CFn := ⟨31,1,[.t 2],B35⟩
abbrev L36_0 : CCode := (.seq (sR [(0,oT 4 3 []),(1,oP 5 (.fa 1 (.t 1)) []),(2,oP 6 (.ld 1 false (.t 5)) [5]),(3,oP 7 (.len (.t 6)) [6]),(4,oP 8 (.bin .lss (.t 4) (.t 7)) [4,7])] (.cond (.t 8) (sK [8] .skip) (sK [3,8]
(.exit 0)))) (.seq (.block 1 (.seq (.reg true [(0,oP 11 (.fa 0 (.t 1)) []),(1,oP 12 (.ld 1 false (.t 11)) [11]),(2,oP 13 (.fa 1 (.t 1)) []),(3,oP 14 (.ld 1 false (.t 13)) [13]),(4,oT 15 3 []),(5,oP 16 (.ia 2 (.t 14) (.t
15)) [14]),(6,oP 17 (.ld 2 true (.t 16)) [16]),(7,oP 18 (.call 71 [.t 12,.t 17]) [12,15,17]),(8,oP 19 (.not (.t 18)) [18]),(9,oT 20 19 [19]),(10,oG 21 (.mv (.t 3)) 20 false []),(11,oG 22 (.bin .gtr (.t 21) (.c (.int
.i64 0))) 20 false [21]),(12,oG 23 (.mv (.t 22)) 20 false [22]),(13,oG 24 (.fa 1 (.t 1)) 23 true []),(14,oG 25 (.ld 1 false (.t 24)) 23 true [24]),(15,oG 26 (.mv (.t 3)) 23 true []),(16,oG 27 (.bin .sub (.t 26) (.c
(.int .i64 1))) 23 true [26]),(17,oG 28 (.ia 2 (.t 25) (.t 27)) 23 true [25]),(18,oG 29 (.ld 2 true (.t 28)) 23 true [28]),(19,oG 30 (.fa 1 (.t 1)) 23 true []),(20,oG 31 (.ld 1 false (.t 30)) 23 true [30]),(21,oG 32
(.mv (.t 3)) 23 true []),(22,oG 33 (.ia 2 (.t 31) (.t 32)) 23 true [31]),(23,oG 34 (.ld 2 true (.t 33)) 23 true [33]),(24,oG 35 (.call 72 [.t 29,.t 34]) 23 true [27,29,32,34]),(25,oG 36 (.bin .geq (.t 35) (.c (.int .i64
0))) 23 true [35]),(26,oG 37 (.pick (.t 23) (.t 36) (.c (.bool false))) 20 false [23,36]),(27,oP 38 (.pick (.t 20) (.c (.bool true)) (.t 37)) [20,37])]) (.cond (.t 38) (sK [1,3,38] (sR [(0,oP 2 (.mv (.c (.bool false)))
[])] .ret)) (sK [38] .skip)))) (.reg false [(0,oT 9 3 [3]),(1,oP 10 (.bin .add (.t 9) (.c (.int .i64 1))) [9]),(2,oT 3 10 [10])])))
abbrev B36 : CCode := (sR [(0,oP 1 (.box 2 (.t 0)) [0]),(1,oP 2 (.mv (.c (.bool false))) [2])] (.seq (sR [(0,oP 3 (.mv (.c (.int .i64 0))) [])] (.block 0 (.loop L36_0))) (sR [(0,oP 39 (.fa 0 (.t 1)) []),(1,oP 40 (.ld 1
false (.t 39)) [39]),(2,oP 41 (.call 73 [.t 40]) [40]),(3,oT 42 41 [41]),(4,oG 43 (.fa 1 (.t 1)) 42 true []),(5,oG 44 (.ld 1 false (.t 43)) 42 true [43]),(6,oG 45 (.len (.t 44)) 42 true [1,44]),(7,oG 46 (.bin .leq (.t
45) (.c (.int .i64 14))) 42 true [45]),(8,oP 47 (.pick (.t 42) (.t 46) (.c (.bool false))) [42,46]),(9,oT 2 47 [47])] .ret)))
def C36 : CFn := ⟨48,1,[.t 2],B36⟩
abbrev L37_3 : CCode := (.seq (sR [(0,oT 60 8 []),(1,oT 61 6 []),(2,oP 62 (.bin .lss (.t 60) (.t 61)) [60,61])] (.cond (.t 62) (sK [62] .skip) (sK [8,62] (.exit 2)))) (.seq (.block 3 (.seq (.reg true [(0,oP 65 (.fa 1
(.t 3)) []),(1,oP 66 (.ld 1 false (.t 65)) [65]),(2,oT 67 8 []),(3,oP 68 (.ia 2 (.t 66) (.t 67)) [66]),(4,oP 69 (.fa 0 (.t 68)) [68]),(5,oP 70 (.ld 1 false (.t 69)) [67,69]),(6,oP 71 (.fa 0 (.t 7)) []),(7,oP 72 (.ld 1
false (.t 71)) [71]),(8,oP 73 (.bin .eql (.t 70) (.t 72)) [70,72])]) (.cond (.t 73) (sK [0,3,5,6,7,8,73] (sR [(0,oP 4 (.mv (.c (.bool false))) [])] .ret)) (sK [73] .skip)))) (.reg false [(0,oT 63 8 [8]),(1,oP 64 (.bin
.add (.t 63) (.c (.int .i64 1))) [63]),(2,oT 8 64 [64])])))
abbrev L37_4 : CCode := (.seq (sR [(0,oT 74 9 []),(1,oP 75 (.fa 1 (.t 7)) []),(2,oP 76 (.ld 1 false (.t 75)) [75]),(3,oP 77 (.len (.t 76)) [76]),(4,oP 78 (.bin .lss (.t 74) (.t 77)) [74,77])] (.cond (.t 78) (sK [78]
.skip) (sK [7,9,78] (.exit 4)))) (.seq (.block 5 (.seq (.seq (.reg true [(0,oP 81 (.fa 1 (.t 7)) []),(1,oP 82 (.ld 1 false (.t 81)) [81]),(2,oT 83 9 []),(3,oP 84 (.ia 1 (.t 82) (.t 83)) [82]),(4,oP 85 (.ld 1 false (.t
84)) [83,84]),(5,oP 86 (.fa 0 (.t 3)) []),(6,oP 87 (.ld 1 false (.t 86)) [86]),(7,oP 88 (.bin .sub (.t 87) (.c (.int .i64 1))) [87]),(8,oP 89 (.call 38 [.t 85,(.c (.int .i64 (-10))),.t 88]) [85,88]),(9,oP 90 (.not (.t
89)) [89])]) (.cond (.t 90) (sK [0,3,5,6,7,9,90] (sR [(0,oP 4 (.mv (.c (.bool false))) [])] .ret)) (sK [90] .skip))) (sR [(0,oP 91 (.fa 1 (.t 7)) []),(1,oP 92 (.ld 1 false (.t 91)) [91]),(2,oT 93 9 []),(3,oP 94 (.ia 1
(.t 92) (.t 93)) [92]),(4,oP 95 (.ld 1 false (.t 94)) [93,94]),(5,oP 96 (.bin .geq (.t 95) (.c (.int .i64 0))) [95])] (.cond (.t 96) (sK [96] (.reg false [(0,oT 97 5 []),(1,oP 98 (.fa 1 (.t 7)) []),(2,oP 99 (.ld 1 false
(.t 98)) [98]),(3,oT 100 9 []),(4,oP 101 (.ia 1 (.t 99) (.t 100)) [99]),(5,oP 102 (.ld 1 false (.t 101)) [100,101]),(6,oP 103 (.ia 1 (.t 97) (.t 102)) []),(7,⟨none,.st 1 (.t 103) (.c (.bool
true)),none,[],[97,102,103]⟩)])) (sK [96] .skip))))) (.reg false [(0,oT 79 9 [9]),(1,oP 80 (.bin .add (.t 79) (.c (.int .i64 1))) [79]),(2,oT 9 80 [80])])))
abbrev L37_0 : CCode := (.seq (sR [(0,oT 29 6 []),(1,oP 30 (.fa 1 (.t 3)) []),(2,oP 31 (.ld 1 false (.t 30)) [30]),(3,oP 32 (.len (.t 31)) [31]),(4,oP 33 (.bin .lss (.t 29) (.t 32)) [29,32])] (.cond (.t 33) (sK [33]
.skip) (sK [0,6,33] (.exit 0)))) (.seq (.block 1 (sR [(0,oP 36 (.fa 1 (.t 3)) []),(1,oP 37 (.ld 1 false (.t 36)) [36]),(2,oT 38 6 []),(3,oP 39 (.ia 2 (.t 37) (.t 38)) [37]),(4,oP 40 (.ld 2 true (.t 39)) [39]),(5,oP 7
(.al [.int .i64 (0),.nils]) []),(6,⟨none,.st 2 (.t 7) (.t 40),none,[],[38,40]⟩)] (.seq (.seq (.reg true [(0,oP 41 (.fa 0 (.t 7)) []),(1,oP 42 (.ld 1 false (.t 41)) [41]),(2,oT 43 0 []),(3,oP 44 (.len (.t 43))
[43]),(4,oP 45 (.bin .sub (.t 44) (.c (.int .i64 1))) [44]),(5,oP 46 (.call 38 [.t 42,(.c (.int .i64 0)),.t 45]) [42,45]),(6,oP 47 (.not (.t 46)) [46]),(7,oT 48 47 [47]),(8,oG 49 (.fa 1 (.t 7)) 48 false []),(9,oG 50
(.ld 1 false (.t 49)) 48 false [49]),(10,oG 51 (.len (.t 50)) 48 false [50]),(11,oG 52 (.mv (.t 0)) 48 false []),(12,oG 53 (.fa 0 (.t 7)) 48 false []),(13,oG 54 (.ld 1 false (.t 53)) 48 false [53]),(14,oG 55 (.ia 3 (.t
52) (.t 54)) 48 false []),(15,oG 56 (.fa 1 (.t 55)) 48 false [55]),(16,oG 57 (.ld 1 false (.t 56)) 48 false [52,54,56]),(17,oG 58 (.bin .neq (.t 51) (.t 57)) 48 false [51,57]),(18,oP 59 (.pick (.t 48) (.c (.bool true))
(.t 58)) [48,58])]) (.cond (.t 59) (sK [0,3,5,6,7,59] (sR [(0,oP 4 (.mv (.c (.bool false))) [])] .ret)) (sK [59] .skip))) (.seq (sR [(0,oP 8 (.mv (.c (.int .i64 0))) [])] (.block 2 (.loop L37_3))) (sR [(0,oP 9 (.mv (.c
(.int .i64 0))) [])] (.block 4 (.loop L37_4))))))) (.reg false [(0,oT 34 6 [6]),(1,oP 35 (.bin .add (.t 34) (.c (.int .i64 1))) [34]),(2,oT 6 35 [35])])))
abbrev L37_1 : CCode := (.seq (sR [(0,oT 104 10 []),(1,oP 105 (.fa 0 (.t 3)) []),(2,oP 106 (.ld 1 false (.t 105)) [105]),(3,oP 107 (.bin .lss (.t 104) (.t 106)) [104,106])] (.cond (.t 107) (sK [107] .skip) (sK
[5,10,107] (.exit 6)))) (.seq (.block 7 (sR [(0,oT 110 5 []),(1,oT 111 10 []),(2,oP 112 (.ia 1 (.t 110) (.t 111)) []),(3,oP 113 (.ld 1 false (.t 112)) [110,111,112]),(4,oP 114 (.not (.t 113)) [113])] (.cond (.t 114) (sK
[3,5,10,114] (sR [(0,oP 4 (.mv (.c (.bool false))) [])] .ret)) (sK [114] .skip)))) (.reg false [(0,oT 108 10 [10]),(1,oP 109 (.bin .add (.t 108) (.c (.int .i64 1))) [108]),(2,oT 10 109 [109])])))
abbrev L37_2 : CCode := (.seq (sR [(0,oT 115 11 []),(1,oP 116 (.fa 2 (.t 3)) []),(2,oP 117 (.ld 1 false (.t 116)) [116]),(3,oP 118 (.len (.t 117)) [117]),(4,oP 119 (.bin .lss (.t 115) (.t 118)) [115,118])] (.cond (.t
119) (sK [119] .skip) (sK [3,11,119] (.exit 8)))) (.seq (.block 9 (.seq (.reg true [(0,oP 122 (.fa 2 (.t 3)) []),(1,oP 123 (.ld 1 false (.t 122)) [122]),(2,oT 124 11 []),(3,oP 125 (.ia 1 (.t 123) (.t 124)) [123]),(4,oP
126 (.ld 1 false (.t 125)) [124,125]),(5,oP 127 (.fa 0 (.t 3)) []),(6,oP 128 (.ld 1 false (.t 127)) [127]),(7,oP 129 (.bin .sub (.t 128) (.c (.int .i64 1))) [128]),(8,oP 130 (.call 38 [.t 126,(.c (.int .i64 0)),.t 129])
[126,129]),(9,oP 131 (.not (.t 130)) [130]),(10,oT 132 131 [131]),(11,oG 133 (.mv (.t 11)) 132 false []),(12,oG 134 (.bin .gtr (.t 133) (.c (.int .i64 0))) 132 false [133]),(13,oG 135 (.mv (.t 134)) 132 false
[134]),(14,oG 136 (.fa 2 (.t 3)) 135 true []),(15,oG 137 (.ld 1 false (.t 136)) 135 true [136]),(16,oG 138 (.mv (.t 11)) 135 true []),(17,oG 139 (.ia 1 (.t 137) (.t 138)) 135 true [137]),(18,oG 140 (.ld 1 false (.t
139)) 135 true [138,139]),(19,oG 141 (.fa 2 (.t 3)) 135 true []),(20,oG 142 (.ld 1 false (.t 141)) 135 true [141]),(21,oG 143 (.mv (.t 11)) 135 true []),(22,oG 144 (.bin .sub (.t 143) (.c (.int .i64 1))) 135 true
[143]),(23,oG 145 (.ia 1 (.t 142) (.t 144)) 135 true [142]),(24,oG 146 (.ld 1 false (.t 145)) 135 true [144,145]),(25,oG 147 (.bin .leq (.t 140) (.t 146)) 135 true [140,146]),(26,oG 148 (.pick (.t 135) (.t 147) (.c
(.bool false))) 132 false [135,147]),(27,oP 149 (.pick (.t 132) (.c (.bool true)) (.t 148)) [132,148])]) (.cond (.t 149) (sK [3,11,149] (sR [(0,oP 4 (.mv (.c (.bool false))) [])] .ret)) (sK [149] .skip)))) (.reg false
[(0,oT 120 11 [11]),(1,oP 121 (.bin .add (.t 120) (.c (.int .i64 1))) [120]),(2,oT 11 121 [121])])))
abbrev B37 : CCode := (sR [(0,oP 3 (.box 3 (.t 1)) [1]),(1,oP 4 (.mv (.c (.bool false))) [4])] (.seq (sR [(0,oT 12 0 []),(1,oP 13 (.call 73 [.t 12]) [12]),(2,oP 14 (.not (.t 13)) [13]),(3,oT 15 14 [14]),(4,oG 16 (.fa 0
(.t 3)) 15 false []),(5,oG 17 (.ld 1 false (.t 16)) 15 false [16]),(6,oG 18 (.call 38 [.t 17,(.c (.int .i64 0)),(.c (.int .i64 4))]) 15 false [17]),(7,oG 19 (.not (.t 18)) 15 false [18]),(8,oP 20 (.pick (.t 15) (.c
(.bool true)) (.t 19)) [15,19]),(9,oT 21 20 [20]),(10,oG 22 (.fa 1 (.t 3)) 21 false []),(11,oG 23 (.ld 1 false (.t 22)) 21 false [22]),(12,oG 24 (.len (.t 23)) 21 false [23]),(13,oG 25 (.call 38 [.t 24,(.c (.int .i64
1)),(.c (.int .i64 3))]) 21 false [24]),(14,oG 26 (.not (.t 25)) 21 false [25]),(15,oP 27 (.pick (.t 21) (.c (.bool true)) (.t 26)) [21,26])] (.cond (.t 27) (sK [0,3,27] (sR [(0,oP 4 (.mv (.c (.bool false))) [])] .ret))
(sK [27] .skip))) (sR [(0,oP 28 (.mk 1 1 [.bool false] (.c (.int .i64 4)) (.c (.int .i64 4))) []),(1,oT 5 28 [28])] (.seq (sR [(0,oP 6 (.mv (.c (.int .i64 0))) [])] (.block 0 (.loop L37_0))) (.seq (sR [(0,oP 10 (.mv (.c
(.int .i64 0))) [])] (.block 6 (.loop L37_1))) (.seq (sR [(0,oP 11 (.mv (.c (.int .i64 0))) [])] (.block 8 (.loop L37_2))) (sR [(0,oP 4 (.mv (.c (.bool true))) [])] .ret)))))))
def C37 : CFn := ⟨150,2,[.t 4],B37⟩
abbrev B38 : CCode := (sR [(0,oP 6 (.mv (.c (.bool false))) [6])] (sR [(0,oT 7 0 []),(1,oT 8 1 [1]),(2,oP 9 (.bin .geq (.t 7) (.t 8)) [7,8]),(3,oT 10 9 [9]),(4,oG 11 (.mv (.t 0)) 10 true [0]),(5,oG 12 (.mv (.t 2)) 10
true [2]),(6,oG 13 (.bin .leq (.t 11) (.t 12)) 10 true [11,12]),(7,oP 14 (.pick (.t 10) (.t 13) (.c (.bool false))) [10,13]),(8,oT 6 14 [14])] .ret))
def C38 : CFn := ⟨15,3,[.t 6],B38⟩
abbrev L39_1 : CCode := (.seq (.seq (.reg true [(0,oT 15 5 []),(1,oP 16 (.bin .gtr (.t 15) (.c (.int .i64 0))) [15]),(2,oT 17 16 [16]),(3,oG 18 (.mv (.t 3)) 17 true []),(4,oG 19 (.mv (.t 5)) 17 true []),(5,oG 20 (.bin
.sub (.t 19) (.c (.int .i64 1))) 17 true [19]),(6,oG 21 (.ia 1 (.t 18) (.t 20)) 17 true []),(7,oG 22 (.ld 1 false (.t 21)) 17 true [18,20,21]),(8,oG 23 (.mv (.t 0)) 17 true []),(9,oG 24 (.mv (.t 4)) 17 true []),(10,oG
25 (.ia 1 (.t 23) (.t 24)) 17 true []),(11,oG 26 (.ld 1 false (.t 25)) 17 true [23,24,25]),(12,oG 27 (.bin .gtr (.t 22) (.t 26)) 17 true [22,26]),(13,oP 28 (.pick (.t 17) (.t 27) (.c (.bool false))) [17,27])]) (.cond
(.t 28) (sK [28] .skip) (sK [28] (.exit 2)))) (.block 3 (.reg false [(0,oT 29 5 [5]),(1,oP 30 (.bin .sub (.t 29) (.c (.int .i64 1))) [29]),(2,oT 5 30 [30])])))
abbrev L39_0 : CCode := (.seq (sR [(0,oT 7 4 []),(1,oT 8 0 []),(2,oP 9 (.len (.t 8)) [8]),(3,oP 10 (.bin .lss (.t 7) (.t 9)) [7,9])] (.cond (.t 10) (sK [10] .skip) (sK [0,4,10] (.exit 0)))) (.seq (.block 1 (sR [(0,oT 13
3 []),(1,oP 14 (.len (.t 13)) [13]),(2,oT 5 14 [14])] (.seq (.block 2 (.loop L39_1)) (.reg true [(0,oP 31 (.bsl 1 0 [.int .i64 (0)] []) []),(1,oT 32 3 []),(2,oT 33 5 []),(3,oP 34 (.sls 1 (.t 32) none (some (.t 33))
none) [32,33]),(5,oT 36 0 []),(6,oT 37 4 []),(7,oP 38 (.ia 1 (.t 36) (.t 37)) []),(8,oP 39 (.ld 1 false (.t 38)) []),(9,oP 40 (.bsl 1 1 [.int .i64 (0)] [(0,1,(.t 39))]) [39]),(11,oT 42 3 [3]),(12,oT 43 5 [5]),(13,oP 44
(.sls 1 (.t 42) (some (.t 43)) none none) [42,43]),(4,⟨some 35,.app 1 8 (.t 31) (.t 34),none,[(38,1)],[31,34,36,37,38]⟩),(10,oP 41 (.app 1 8 (.t 35) (.t 40)) [35,40]),(14,oP 45 (.app 1 8 (.t 41) (.t 44)) [41,44]),(15,oT
3 45 [45])])))) (.reg false [(0,oT 11 4 [4]),(1,oP 12 (.bin .add (.t 11) (.c (.int .i64 1))) [11]),(2,oT 4 12 [12])])))
abbrev B39 : CCode := (sR [(0,oP 2 (.mv (.c (.nils))) [2])] (sR [(0,oP 6 (.bsl 1 0 [.int .i64 (0)] []) []),(1,oT 3 6 [6])] (.seq (sR [(0,oP 4 (.mv (.c (.int .i64 0))) [])] (.block 0 (.loop L39_0))) (sR [(0,oT 46 3
[3]),(1,oT 2 46 [46])] .ret))))
def C39 : CFn := ⟨47,1,[.t 2],B39⟩
abbrev L40_0 : CCode := (.seq (sR [(0,oT 9 5 []),(1,oT 10 4 []),(2,oP 11 (.len (.t 10)) [10]),(3,oP 12 (.bin .lss (.t 9) (.t 11)) [9,11])] (.cond (.t 12) (sK [12] .skip) (sK [4,5,12] (.exit 0)))) (.seq (.block 1 (.reg
false [(0,oT 15 3 [3]),(1,oT 16 4 []),(2,oT 17 5 []),(3,oP 18 (.ia 1 (.t 16) (.t 17)) []),(4,oP 19 (.ld 1 false (.t 18)) [18]),(5,oP 20 (.len (.t 19)) [16,17,19]),(6,oP 21 (.bsl 1 1 [.int .i64 (0)] [(0,1,(.t 20))])
[20]),(7,oP 22 (.app 1 8 (.t 15) (.t 21)) [15,21]),(8,oT 3 22 [22])])) (.reg false [(0,oT 13 5 [5]),(1,oP 14 (.bin .add (.t 13) (.c (.int .i64 1))) [13]),(2,oT 5 14 [14])])))
abbrev B40 : CCode := (sR [(0,oP 1 (.box 2 (.t 0)) [0]),(1,oP 2 (.mv (.c (.nils))) [2])] (sR [(0,oP 6 (.bsl 1 0 [.int .i64 (0)] []) []),(1,oT 3 6 [6])] (sR [(0,oP 7 (.ld 2 true (.t 1)) []),(1,oP 8 (.call 35 [.t 7])
[1,7]),(2,oT 4 8 [8])] (.seq (sR [(0,oP 5 (.mv (.c (.int .i64 0))) [])] (.block 0 (.loop L40_0))) (sR [(0,oT 23 3 [3]),(1,oT 2 23 [23])] .ret)))))
def C40 : CFn := ⟨24,1,[.t 2],B40⟩
abbrev B41 : CCode := (sR [(0,oP 2 (.box 1 (.t 0)) [0]),(1,oP 4 (.mv (.c (.bool false))) [4])] (sR [(0,oP 5 (.ld 1 false (.t 2)) []),(1,oP 6 (.call 74 [.t 5,(.c (.int .i64 0)),(.c (.int .i64 14))]) [5]),(2,oT 7 6
[6]),(3,oG 8 (.mv (.t 1)) 7 true [1]),(4,oG 9 (.fn 75 [.t 2]) 7 true []),(5,oG 10 (.call 42 [.t 8,.t 9]) 7 true [2,8,9]),(6,oG 11 (.not (.t 10)) 7 true [10]),(7,oP 12 (.pick (.t 7) (.t 11) (.c (.bool false)))
[7,11]),(8,oT 4 12 [12])] .ret))
def C41 : CFn := ⟨13,2,[.t 4],B41⟩
abbrev B42 : CCode := (sR [(0,oP 4 (.mv (.c (.bool false))) [4])] (sR [(0,oT 5 0 [0]),(1,oT 6 1 [1]),(2,oP 7 (.call 77 [.t 5,.t 6]) [5,6]),(3,oP 8 (.bin .geq (.t 7) (.c (.int .i64 0))) [7]),(4,oT 4 8 [8])] .ret))
def C42 : CFn := ⟨9,2,[.t 4],B42⟩
abbrev B43 : CCode := (sR [(0,oP 3 (.mv (.c (.bool false))) [3])] (sR [(0,oT 4 0 [0]),(1,oP 5 (.fn 45 [.t 1]) []),(2,oP 6 (.call 44 [.t 4,.t 5]) [1,4,5]),(3,oP 7 (.not (.t 6)) [6]),(4,oT 3 7 [7])] .ret))
def C43 : CFn := ⟨8,2,[.t 3],B43⟩
abbrev B44 : CCode := (sR [(0,oP 4 (.mv (.c (.bool false))) [4])] (sR [(0,oT 5 0 [0]),(1,oT 6 1 [1]),(2,oP 7 (.call 78 [.t 5,.t 6]) [5,6]),(3,oP 8 (.bin .geq (.t 7) (.c (.int .i64 0))) [7]),(4,oT 4 8 [8])] .ret))
def C44 : CFn := ⟨9,2,[.t 4],B44⟩
abbrev B45 : CCode := (sR [(0,oP 3 (.mv (.c (.bool false))) [3])] (sR [(0,oP 4 (.ld 1 false (.t 1)) []),(1,oT 5 0 [0]),(2,oP 6 (.call 46 [.t 4,.t 5]) [1,4,5]),(3,oT 3 6 [6])] .ret))
def C45 : CFn := ⟨7,2,[.t 3],B45⟩
abbrev B46 : CCode := (sR [(0,oP 4 (.mv (.c (.bool false))) [4])] (.seq (sR [(0,oT 5 1 []),(1,oP 6 (.bin .gtr (.t 5) (.c (.int .i64 0))) [5])] (.cond (.t 6) (sK [6] (sR [(0,oT 7 1 []),(1,oT 8 0 []),(2,oP 9 (.len (.t 8))
[8]),(3,oP 10 (.bin .leq (.t 7) (.t 9)) [7,9]),(4,oT 11 10 [10]),(5,oG 12 (.mv (.t 0)) 11 true [0]),(6,oG 13 (.mv (.t 1)) 11 true [1]),(7,oG 14 (.bin .sub (.t 13) (.c (.int .i64 1))) 11 true [13]),(8,oG 15 (.ia 1 (.t
12) (.t 14)) 11 true []),(9,oG 16 (.ld 1 false (.t 15)) 11 true [12,14,15]),(10,oP 17 (.pick (.t 11) (.t 16) (.c (.bool false))) [11,16]),(11,oT 4 17 [17])] .ret)) (sK [6] .skip))) (sR [(0,oT 18 1 []),(1,oP 19 (.bin
.lss (.t 18) (.c (.int .i64 0))) [18]),(2,oT 20 19 [19]),(3,oG 21 (.mv (.t 1)) 20 true []),(4,oG 22 (.mv (.t 0)) 20 true []),(5,oG 23 (.len (.t 22)) 20 true [22]),(6,oG 24 (.neg (.t 23)) 20 true [23]),(7,oG 25 (.bin
.geq (.t 21) (.t 24)) 20 true [21,24]),(8,oP 26 (.pick (.t 20) (.t 25) (.c (.bool false))) [20,25]),(9,oT 27 26 [26]),(10,oG 28 (.mv (.t 0)) 27 true [0]),(11,oG 29 (.mv (.t 1)) 27 true [1]),(12,oG 30 (.neg (.t 29)) 27
true [29]),(13,oG 31 (.bin .sub (.t 30) (.c (.int .i64 1))) 27 true [30]),(14,oG 32 (.ia 1 (.t 28) (.t 31)) 27 true []),(15,oG 33 (.ld 1 false (.t 32)) 27 true [28,31,32]),(16,oG 34 (.not (.t 33)) 27 true [33]),(17,oP
35 (.pick (.t 27) (.t 34) (.c (.bool false))) [27,34]),(18,oT 4 35 [35])] .ret)))
def C46 : CFn := ⟨36,2,[.t 4],B46⟩
abbrev L47_0 : CCode := (.seq (sR [(0,oT 24 7 []),(1,oT 25 1 []),(2,oP 26 (.len (.t 25)) [25]),(3,oP 27 (.bin .lss (.t 24) (.t 26)) [24,26])] (.cond (.t 27) (sK [27] .skip) (sK [1,2,7,27] (.exit 0)))) (.seq (.block 1
(.seq (.reg true [(0,oP 30 (.fa 1 (.t 2)) []),(1,oP 31 (.ld 1 false (.t 30)) [30]),(2,oT 32 1 []),(3,oT 33 7 []),(4,oP 34 (.ia 1 (.t 32) (.t 33)) []),(5,oP 35 (.ld 1 false (.t 34)) [32,33,34]),(6,oP 36 (.ia 2 (.t 31)
(.t 35)) [31]),(7,oP 37 (.ld 2 true (.t 36)) [36]),(8,oP 8 (.al [.int .i64 (0),.nils]) []),(9,⟨none,.st 2 (.t 8) (.t 37),none,[],[35,37]⟩)]) (.reg true [(0,oP 38 (.fa 1 (.t 6)) []),(1,oP 39 (.ld 1 false (.t 38))
[]),(2,oP 40 (.fa 0 (.t 8)) []),(3,oP 41 (.ld 1 false (.t 40)) []),(4,oP 42 (.bsl 1 0 [.int .i64 (0)] []) []),(5,oP 43 (.fa 1 (.t 8)) []),(6,oP 44 (.ld 1 false (.t 43)) [43]),(7,⟨some 45,.app 1 8 (.t 42) (.t
44),none,[(38,1),(40,1)],[8,38,40,42,44]⟩),(8,oP 46 (.bld [.int .i64 (0),.nils] [(0,1,(.t 41)),(1,1,(.t 45))]) [41,45]),(9,oP 47 (.bsl 2 1 [.int .i64 (0),.nils] [(0,2,(.t 46))]) [46]),(10,oP 48 (.app 2 32 (.t 39) (.t
47)) [39,47]),(11,oP 49 (.fa 1 (.t 6)) []),(12,⟨none,.st 1 (.t 49) (.t 48),none,[],[48,49]⟩)]))) (.reg false [(0,oT 28 7 [7]),(1,oP 29 (.bin .add (.t 28) (.c (.int .i64 1))) [28]),(2,oT 7 29 [29])])))
abbrev B47 : CCode := (sR [(0,oP 2 (.box 2 (.t 0)) [0]),(1,oP 4 (.al [.nils,.nils]) []),(2,oP 5 (.mv (.c (.bool false))) [5])] (.seq (sR [(0,oP 9 (.ld 2 true (.t 2)) []),(1,oP 10 (.call 36 [.t 9]) [9]),(2,oP 11 (.not
(.t 10)) [10]),(3,oT 12 11 [11]),(4,oG 13 (.ld 2 true (.t 2)) 12 false []),(5,oG 14 (.mv (.t 1)) 12 false []),(6,oG 15 (.call 79 [.t 13,.t 14]) 12 false [13,14]),(7,oG 16 (.not (.t 15)) 12 false [15]),(8,oP 17 (.pick
(.t 12) (.c (.bool true)) (.t 16)) [12,16])] (.cond (.t 17) (sK [1,2,17] (sR [(0,oP 18 (.bld [.nils,.nils] []) []),(1,⟨none,.st 2 (.t 4) (.t 18),none,[],[18]⟩),(2,oP 5 (.mv (.c (.bool false))) [])] .ret)) (sK [17]
.skip))) (sR [(0,oP 19 (.bsl 3 0 [.str [],.int .i64 (0),.int .i64 (0)] []) []),(1,oP 20 (.fa 0 (.t 2)) []),(2,oP 21 (.ld 1 false (.t 20)) [20]),(3,oP 22 (.app 3 32 (.t 19) (.t 21)) [19,21]),(4,oP 23 (.bld [.nils,.nils]
[(0,1,(.t 22))]) [22]),(5,oP 6 (.al [.nils,.nils]) []),(6,⟨none,.st 2 (.t 6) (.t 23),none,[],[23]⟩)] (.seq (sR [(0,oP 7 (.mv (.c (.int .i64 0))) [])] (.block 0 (.loop L47_0))) (sR [(0,oP 50 (.ld 2 true (.t 6))
[]),(1,⟨none,.st 2 (.t 4) (.t 50),none,[],[6,50]⟩),(2,oP 5 (.mv (.c (.bool true))) [])] .ret)))))
def C47 : CFn := ⟨51,2,[.m 4 2 true,.t 5],B47⟩
abbrev B48 : CCode := (sR [(0,oP 2 (.box 2 (.t 0)) [0]),(1,oP 3 (.box 3 (.t 1)) [1]),(2,oP 4 (.mv (.c (.nils))) [4])] (.seq (sR [(0,oP 5 (.ld 2 true (.t 2)) []),(1,oP 6 (.ld 3 true (.t 3)) []),(2,oP 7 (.call 11 [.t 5,.t
6]) [5,6]),(3,oP 8 (.not (.t 7)) [7])] (.cond (.t 8) (sK [2,3,8] (sR [(0,oP 9 (.bsl 2 0 [.nils,.nils] []) []),(1,oT 4 9 [9])] .ret)) (sK [8] .skip))) (.seq (.reg true [(0,oP 10 (.ld 2 true (.t 2)) []),(1,oP 11 (.ld 3
true (.t 3)) []),(2,oP 12 (.fa 0 (.t 3)) []),(3,oP 13 (.ld 1 false (.t 12)) [12]),(5,oP 15 (.bsl 1 0 [.int .i64 (0)] []) []),(4,⟨some 14,.call 81 [.t 13],none,[(2,2),(3,3)],[13]⟩),(6,oP 16 (.call 80 [.t 10,.t 11,(.c
(.int .i64 0)),.t 14,.t 15]) [2,3,10,11,14,15]),(7,oT 4 16 [16])]) .ret)))
def C48 : CFn := ⟨17,2,[.t 4],B48⟩
abbrev B56 : CCode := (sR [(0,oP 2 (.box 2 (.t 0)) [0]),(1,oP 4 (.mv (.c (.bool false))) [4])] (sR [(0,oP 8 (.ld 2 true (.t 2)) []),(1,oT 9 1 [1]),(2,oP 10 (.call 47 [.t 8,.t 9]) [2,8,9]),(3,oT 7 10 [10]),(4,oP 11 (.ex
(.t 7) 0) []),(5,oP 12 (.ex (.t 7) 1) [7]),(6,oP 5 (.al [.nils,.nils]) []),(7,⟨none,.st 2 (.t 5) (.t 11),none,[],[11]⟩),(8,oT 6 12 [12])] (sR [(0,oT 13 6 [6]),(1,oT 14 13 [13]),(2,oG 15 (.ld 2 true (.t 5)) 14 true
[]),(3,oG 16 (.call 87 [.t 15]) 14 true [5,15]),(4,oP 17 (.pick (.t 14) (.t 16) (.c (.bool false))) [14,16]),(5,oT 4 17 [17])] .ret)))
def C56 : CFn := ⟨18,2,[.t 4],B56⟩
abbrev L57_0 : CCode := (.seq (sR [(0,oT 8 4 []),(1,oT 9 0 []),(2,oP 10 (.len (.t 9)) [9]),(3,oP 11 (.bin .lss (.t 8) (.t 10)) [8,10]),(4,oT 12 11 [11]),(5,oG 13 (.mv (.t 4)) 12 true []),(6,oG 14 (.bin .lss (.t 13) (.c
(.int .i64 4000))) 12 true [13]),(7,oP 15 (.pick (.t 12) (.t 14) (.c (.bool false))) [12,14])] (.cond (.t 15) (sK [15] .skip) (sK [4,15] (.exit 0)))) (.seq (.block 1 (.reg false [(0,oT 18 3 [3]),(1,oP 19 (.bin .mul (.t
18) (.c (.int .i64 131))) [18]),(2,oT 20 0 []),(3,oT 21 4 []),(4,oP 22 (.ia 1 (.t 20) (.t 21)) []),(5,oP 23 (.ld 1 false (.t 22)) [20,21,22]),(6,oP 24 (.conv .i64 (.t 23)) [23]),(7,oP 25 (.bin .add (.t 19) (.t 24))
[19,24]),(8,oP 26 (.bin .add (.t 25) (.c (.int .i64 7))) [25]),(9,oP 27 (.bin .and (.t 26) (.c (.int .i64 1073741823))) [26]),(10,oT 3 27 [27])])) (.reg false [(0,oT 16 4 [4]),(1,oP 17 (.bin .add (.t 16) (.c (.int .i64
1))) [16]),(2,oT 4 17 [17])])))
abbrev B57 : CCode := (sR [(0,oP 2 (.mv (.c (.nilp))) [2])] (sR [(0,oT 5 0 []),(1,oP 6 (.len (.t 5)) [5]),(2,oP 7 (.bin .add (.c (.int .i64 10101)) (.t 6)) [6]),(3,oT 3 7 [7])] (.seq (sR [(0,oP 4 (.mv (.c (.int .i64
0))) [])] (.block 0 (.loop L57_0))) (sR [(0,oT 28 0 [0]),(1,oT 29 3 [3]),(2,oP 30 (.bld [.nils,.int .i64 (0),.int .i64 (0)] [(0,1,(.t 28)),(2,1,(.t 29))]) [28,29]),(3,oP 31 (.box 3 (.t 30)) [30]),(4,oT 2 31 [31])]
.ret))))
def C57 : CFn := ⟨32,1,[.t 2],B57⟩
abbrev L61_0 : CCode := (.seq (sR [(0,oP 6 (.fa 1 (.t 3)) []),(1,oP 7 (.ld 1 false (.t 6)) [6]),(2,oP 8 (.len (.t 7)) [7]),(3,oP 9 (.bin .gtr (.t 8) (.c (.int .i64 9))) [8])] (.cond (.t 9) (sK [9] .skip) (sK [9] (.exit
0)))) (.block 1 (.reg false [(0,oP 10 (.fa 1 (.t 3)) []),(1,oP 11 (.ld 1 false (.t 10)) [10]),(2,oP 12 (.fa 1 (.t 3)) []),(3,oP 13 (.ld 1 false (.t 12)) [12]),(4,oP 14 (.len (.t 13)) [13]),(5,oP 15 (.bin .sub (.t 14)
(.c (.int .i64 1))) [14]),(6,oP 16 (.sls 2 (.t 11) none (some (.t 15)) none) [11,15]),(7,oP 17 (.fa 1 (.t 3)) []),(8,⟨none,.st 1 (.t 17) (.t 16),none,[],[16,17]⟩)])))
abbrev B61 : CCode := (sR [(0,oP 2 (.al [.nils,.nils]) [])] (sR [(0,oT 4 0 []),(1,oP 5 (.call 90 [.t 4]) [4]),(2,oP 3 (.al [.nils,.nils]) []),(3,⟨none,.st 2 (.t 3) (.t 5),none,[],[5]⟩)] (.seq (.block 0 (.loop L61_0))
(sR [(0,oP 18 (.ld 2 true (.t 3)) []),(1,⟨none,.st 2 (.t 2) (.t 18),none,[],[3,18]⟩)] .ret))))
def C61 : CFn := ⟨19,1,[.m 2 2 true],B61⟩
abbrev L62_0 : CCode := (.seq (sR [(0,oT 16 6 []),(1,oP 17 (.fa 0 (.t 5)) []),(2,oP 18 (.ld 1 false (.t 17)) [17]),(3,oP 19 (.bin .lss (.t 16) (.t 18)) [16,18])] (.cond (.t 19) (sK [19] .skip) (sK [6,19] (.exit 0))))
(.seq (.block 1 (sR [(0,oT 22 0 []),(1,oP 23 (.call 63 [.t 22,(.c (.int .i64 3))]) [22])] (.cond (.t 23) (sK [23] (.reg false [(0,oP 24 (.fa 2 (.t 5)) []),(1,oP 25 (.ld 1 false (.t 24)) [24]),(2,oT 26 6 []),(3,oP 27
(.bsl 1 1 [.int .i64 (0)] [(0,1,(.t 26))]) [26]),(4,oP 28 (.app 1 8 (.t 25) (.t 27)) [25,27]),(5,oP 29 (.fa 2 (.t 5)) []),(6,⟨none,.st 1 (.t 29) (.t 28),none,[],[28,29]⟩)])) (sK [23] .skip)))) (.reg false [(0,oT 20 6
[6]),(1,oP 21 (.bin .add (.t 20) (.c (.int .i64 1))) [20]),(2,oT 6 21 [21])])))
abbrev B62 : CCode := (sR [(0,oP 4 (.al [.int .i64 (0),.nils,.nils]) [])] (sR [(0,oT 7 0 []),(1,oP 8 (.call 91 [.t 7]) [7]),(2,oP 5 (.al [.int .i64 (0),.nils,.nils]) []),(3,⟨none,.st 3 (.t 5) (.t 8),none,[],[8]⟩)] (.seq
(sR [(0,oT 9 0 []),(1,oP 10 (.call 63 [.t 9,(.c (.int .i64 3))]) [9])] (.cond (.t 10) (sK [10] (.reg false [(0,oT 11 0 []),(1,oT 12 1 [1]),(2,oP 13 (.call 92 [.t 11,.t 12]) [11,12]),(3,⟨none,.st 3 (.t 5) (.t
13),none,[],[13]⟩)])) (sK [1,10] .skip))) (.seq (sR [(0,oT 14 0 []),(1,oP 15 (.call 63 [.t 14,(.c (.int .i64 4))]) [14])] (.cond (.t 15) (sK [15] (sR [(0,oP 6 (.mv (.c (.int .i64 0))) [])] (.block 0 (.loop L62_0)))) (sK
[15] .skip))) (sR [(0,oP 30 (.ld 3 true (.t 5)) []),(1,⟨none,.st 3 (.t 4) (.t 30),none,[],[5,30]⟩)] .ret)))))
def C62 : CFn := ⟨31,2,[.m 4 3 true],B62⟩
abbrev B63 : CCode := (sR [(0,oP 4 (.mv (.c (.bool false))) [4])] (sR [(0,oT 5 0 []),(1,oT 6 1 [1]),(2,oP 7 (.call 88 [.t 5,.t 6]) [5,6]),(3,oP 8 (.bin .eql (.t 7) (.c (.int .i64 0))) [7]),(4,oT 4 8 [8])] .ret))
def C63 : CFn := ⟨9,2,[.t 4],B63⟩
abbrev B64 : CCode := (sR [(0,oP 4 (.al [.int .i64 (0),.nils,.nils]) [])] (sR [(0,oT 6 0 []),(1,oT 7 1 [1]),(2,oP 8 (.call 62 [.t 6,.t 7]) [6,7]),(3,oP 5 (.al [.int .i64 (0),.nils,.nils]) []),(4,⟨none,.st 3 (.t 5) (.t
8),none,[],[8]⟩)] (.seq (sR [(0,oT 9 0 []),(1,oP 10 (.call 88 [.t 9,(.c (.int .i64 14))]) [9])] (.block 0 (sR [(0,oP 12 (.bin .eql (.t 10) (.c (.int .i64 0))) []),(1,oT 11 12 [12])] (.cond (.t 11) (sK [10,11] (.reg
false [(0,oT 13 0 []),(1,oP 14 (.fa 0 (.t 5)) []),(2,oP 15 (.ld 1 false (.t 14)) [14]),(3,oP 16 (.bin .add (.t 15) (.c (.int .i64 1))) [15]),(4,oP 17 (.bsl 1 3 [.int .i64 (0)] [(0,1,(.c (.int .i64 (-1)))),(1,1,(.t
16)),(2,1,(.c (.int .i64 5)))]) [16]),(5,oP 18 (.call 93 [.t 13,.t 17]) [13,17]),(6,oP 19 (.fa 0 (.t 5)) []),(7,⟨none,.st 1 (.t 19) (.t 18),none,[],[18,19]⟩)])) (sK [11] (sR [(0,oP 21 (.bin .eql (.t 10) (.c (.int .i64
1))) []),(1,oT 20 21 [21])] (.cond (.t 20) (sK [10,20] (.reg true [(0,oP 22 (.fa 1 (.t 5)) []),(1,oP 23 (.ld 1 false (.t 22)) []),(2,oT 24 0 []),(5,oP 27 (.bsl 1 2 [.int .i64 (0)] [(0,1,(.c (.int .i64 0))),(1,1,(.c
(.int .i64 0)))]) []),(3,⟨some 25,.call 88 [.t 24,(.c (.int .i64 6))],none,[(22,1)],[22,24]⟩),(4,oP 26 (.bin .sub (.t 25) (.c (.int .i64 1))) [25]),(6,oP 28 (.bld [.int .i64 (0),.nils] [(0,1,(.t 26)),(1,1,(.t 27))])
[26,27]),(7,oP 29 (.bsl 2 1 [.int .i64 (0),.nils] [(0,2,(.t 28))]) [28]),(8,oP 30 (.app 2 32 (.t 23) (.t 29)) [23,29]),(9,oP 31 (.fa 1 (.t 5)) []),(10,⟨none,.st 1 (.t 31) (.t 30),none,[],[30,31]⟩)])) (sK [20] (sR [(0,oP
33 (.bin .eql (.t 10) (.c (.int .i64 2))) []),(1,oT 32 33 [33])] (.cond (.t 32) (sK [10,32] (.reg true [(0,oP 34 (.fa 1 (.t 5)) []),(1,oP 35 (.ld 1 false (.t 34)) []),(2,oP 36 (.ia 2 (.t 35) (.c (.int .i64 0)))
[35]),(3,oP 37 (.fa 1 (.t 36)) [36]),(4,oP 38 (.ld 1 false (.t 37)) []),(5,oT 39 0 []),(6,oP 40 (.bsl 1 3 [.int .i64 (0)] [(0,1,(.c (.int .i64 (-11)))),(1,1,(.c (.int .i64 4))),(2,1,(.c (.int .i64 3)))]) []),(7,⟨some
41,.call 93 [.t 39,.t 40],none,[(34,1),(37,1)],[34,37,39,40]⟩),(8,oP 42 (.ia 1 (.t 38) (.c (.int .i64 0))) [38]),(9,⟨none,.st 1 (.t 42) (.t 41),none,[],[41,42]⟩)])) (sK [32] (sR [(0,oP 44 (.bin .eql (.t 10) (.c (.int
.i64 3))) [10]),(1,oT 43 44 [44])] (.cond (.t 43) (sK [43] (.reg true [(0,oP 45 (.fa 2 (.t 5)) []),(1,oP 46 (.ld 1 false (.t 45)) []),(2,oT 47 0 []),(3,⟨some 48,.call 88 [.t 47,(.c (.int .i64
5))],none,[(45,1)],[45,47]⟩),(4,oP 49 (.bsl 1 1 [.int .i64 (0)] [(0,1,(.t 48))]) [48]),(5,oP 50 (.app 1 8 (.t 46) (.t 49)) [46,49]),(6,oP 51 (.fa 2 (.t 5)) []),(7,⟨none,.st 1 (.t 51) (.t 50),none,[],[50,51]⟩)])) (sK
[43] .skip)))))))))))))) (sR [(0,oP 52 (.ld 3 true (.t 5)) []),(1,⟨none,.st 3 (.t 4) (.t 52),none,[],[5,52]⟩)] .ret))))
def C64 : CFn := ⟨53,2,[.m 4 3 true],B64⟩
abbrev L65_0 : CCode := (sR [(0,oP 19 (.bin .lss (.t 18) (.t 17)) [])] (.seq (.cond (.t 19) (sK [19] .skip) (sK [1,16,17,18,19] (.exit 0))) (.seq (.block 1 (sR [(0,oT 20 18 []),(1,oP 21 (.ia 2 (.t 16) (.t 18)) []),(2,oP
22 (.ld 2 true (.t 21)) [21]),(3,oP 4 (.al [.int .i64 (0),.nils]) []),(4,oT 3 20 [20]),(5,⟨none,.st 2 (.t 4) (.t 22),none,[],[22]⟩)] (.seq (.reg true [(0,oP 23 (.fa 0 (.t 1)) []),(1,oP 24 (.ld 1 false (.t 23))
[23]),(2,oP 25 (.ld 2 true (.t 4)) []),(3,oP 26 (.call 95 [.t 24,.t 25]) [24,25]),(4,oP 27 (.not (.t 26)) [26]),(5,oT 28 27 [27]),(6,oG 29 (.mv (.t 3)) 28 false []),(7,oG 30 (.bin .gtr (.t 29) (.c (.int .i64 0))) 28
false [29]),(8,oG 31 (.mv (.t 30)) 28 false [30]),(9,oG 32 (.fa 1 (.t 1)) 31 true []),(10,oG 33 (.ld 1 false (.t 32)) 31 true [32]),(11,oG 34 (.mv (.t 3)) 31 true [3]),(12,oG 35 (.bin .sub (.t 34) (.c (.int .i64 1))) 31
true [34]),(13,oG 36 (.ia 2 (.t 33) (.t 35)) 31 true [33]),(14,oG 37 (.ld 2 true (.t 36)) 31 true [36]),(15,oG 38 (.ld 2 true (.t 4)) 31 true []),(16,oG 39 (.call 96 [.t 37,.t 38]) 31 true [4,35,37,38]),(17,oG 40 (.bin
.geq (.t 39) (.c (.int .i64 0))) 31 true [39]),(18,oG 41 (.pick (.t 31) (.t 40) (.c (.bool false))) 28 false [31,40]),(19,oP 42 (.pick (.t 28) (.c (.bool true)) (.t 41)) [28,41])]) (.cond (.t 42) (sK [1,16,17,18,42] (sR
[(0,oP 2 (.mv (.c (.bool false))) [])] .ret)) (sK [42] .skip))))) (.reg false [(0,oP 43 (.bin .add (.t 18) (.c (.int .i64 1))) [18]),(1,oT 18 43 [43])]))))
abbrev B65 : CCode := (sR [(0,oP 1 (.box 2 (.t 0)) [0]),(1,oP 2 (.mv (.c (.bool false))) [2])] (.seq (sR [(0,oP 5 (.fa 0 (.t 1)) []),(1,oP 6 (.ld 1 false (.t 5)) [5]),(2,oP 7 (.call 94 [.t 6]) [6]),(3,oP 8 (.not (.t 7))
[7]),(4,oT 9 8 [8]),(5,oG 10 (.fa 1 (.t 1)) 9 false []),(6,oG 11 (.ld 1 false (.t 10)) 9 false [10]),(7,oG 12 (.len (.t 11)) 9 false [11]),(8,oG 13 (.bin .gtr (.t 12) (.c (.int .i64 14))) 9 false [12]),(9,oP 14 (.pick
(.t 9) (.c (.bool true)) (.t 13)) [9,13])] (.cond (.t 14) (sK [1,14] (sR [(0,oP 2 (.mv (.c (.bool false))) [])] .ret)) (sK [14] .skip))) (.seq (sR [(0,oP 15 (.fa 1 (.t 1)) []),(1,oP 16 (.ld 1 false (.t 15)) [15]),(2,oP
17 (.len (.t 16)) []),(3,oP 18 (.mv (.c (.int .i64 0))) [])] (.block 0 (.loop L65_0))) (sR [(0,oP 2 (.mv (.c (.bool true))) [])] .ret))))
def C65 : CFn := ⟨44,1,[.t 2],B65⟩
abbrev L66_1 : CCode := (sR [(0,oP 74 (.bin .lss (.t 73) (.t 72)) [])] (.seq (.cond (.t 74) (sK [74] .skip) (sK [71,72,73,74] (.exit 2))) (.seq (.block 3 (sR [(0,oP 75 (.ia 1 (.t 71) (.t 73)) []),(1,oP 76 (.ld 1 false
(.t 75)) [75]),(2,oT 9 76 [76])] (sR [(0,oT 77 9 [9]),(1,oP 78 (.fa 0 (.t 3)) []),(2,oP 79 (.ld 1 false (.t 78)) [78]),(3,oP 80 (.bin .sub (.t 79) (.c (.int .i64 1))) [79]),(4,oP 81 (.call 74 [.t 77,(.c (.int .i64
(-10))),.t 80]) [77,80]),(5,oP 82 (.not (.t 81)) [81])] (.cond (.t 82) (sK [0,3,5,7,36,37,38,71,72,73,82] (sR [(0,oP 4 (.mv (.c (.bool false))) [])] .ret)) (sK [82] .skip))))) (.reg false [(0,oP 83 (.bin .add (.t 73)
(.c (.int .i64 1))) [73]),(1,oT 73 83 [83])]))))
abbrev L66_0 : CCode := (sR [(0,oP 39 (.bin .lss (.t 38) (.t 37)) [])] (.seq (.cond (.t 39) (sK [39] .skip) (sK [0,36,37,38,39] (.exit 0))) (.seq (.block 1 (sR [(0,oT 40 38 []),(1,oP 41 (.ia 2 (.t 36) (.t 38)) []),(2,oP
42 (.ld 2 true (.t 41)) [41]),(3,oP 7 (.al [.int .i64 (0),.nils]) []),(4,oT 6 40 [40]),(5,⟨none,.st 2 (.t 7) (.t 42),none,[],[42]⟩)] (.seq (.seq (.reg true [(0,oP 43 (.fa 0 (.t 7)) []),(1,oP 44 (.ld 1 false (.t 43))
[43]),(2,oT 45 0 []),(3,oP 46 (.len (.t 45)) [45]),(4,oP 47 (.bin .sub (.t 46) (.c (.int .i64 1))) [46]),(5,oP 48 (.call 74 [.t 44,(.c (.int .i64 0)),.t 47]) [44,47]),(6,oP 49 (.not (.t 48)) [48]),(7,oT 50 49
[49]),(8,oG 51 (.fa 1 (.t 7)) 50 false []),(9,oG 52 (.ld 1 false (.t 51)) 50 false [51]),(10,oG 53 (.len (.t 52)) 50 false [52]),(11,oG 54 (.mv (.t 0)) 50 false []),(12,oG 55 (.fa 0 (.t 7)) 50 false []),(13,oG 56 (.ld 1
false (.t 55)) 50 false [55]),(14,oG 57 (.ia 3 (.t 54) (.t 56)) 50 false []),(15,oG 58 (.fa 1 (.t 57)) 50 false [57]),(16,oG 59 (.ld 1 false (.t 58)) 50 false [54,56,58]),(17,oG 60 (.bin .neq (.t 53) (.t 59)) 50 false
[53,59]),(18,oP 61 (.pick (.t 50) (.c (.bool true)) (.t 60)) [50,60]),(19,oT 62 61 [61]),(20,oG 63 (.fa 1 (.t 3)) 62 false []),(21,oG 64 (.ld 1 false (.t 63)) 62 false [63]),(22,oG 65 (.mv (.t 6)) 62 false [6]),(23,oG
66 (.sls 2 (.t 64) none (some (.t 65)) none) 62 false [64,65]),(24,oG 67 (.fn 99 [.t 7]) 62 false []),(25,oG 68 (.call 98 [.t 66,.t 67]) 62 false [66,67]),(26,oP 69 (.pick (.t 62) (.c (.bool true)) (.t 68)) [62,68])])
(.cond (.t 69) (sK [0,3,5,7,36,37,38,69] (sR [(0,oP 4 (.mv (.c (.bool false))) [])] .ret)) (sK [69] .skip))) (.seq (sR [(0,oP 70 (.fa 1 (.t 7)) []),(1,oP 71 (.ld 1 false (.t 70)) [70]),(2,oP 72 (.len (.t 71)) []),(3,oP
73 (.mv (.c (.int .i64 0))) [])] (.block 2 (.loop L66_1))) (.reg false [(0,oT 84 5 [5]),(1,oP 85 (.ld 2 true (.t 7)) []),(2,oP 86 (.call 101 [.t 85]) [7,85]),(3,oP 87 (.call 100 [.t 84,.t 86]) [84,86]),(4,oT 5 87
[87])]))))) (.reg false [(0,oP 88 (.bin .add (.t 38) (.c (.int .i64 1))) [38]),(1,oT 38 88 [88])]))))
abbrev B66 : CCode := (sR [(0,oP 3 (.box 3 (.t 1)) [1]),(1,oP 4 (.mv (.c (.bool false))) [4])] (.seq (sR [(0,oT 10 0 []),(1,oP 11 (.call 94 [.t 10]) [10]),(2,oP 12 (.not (.t 11)) [11]),(3,oT 13 12 [12]),(4,oG 14 (.fa 0
(.t 3)) 13 false []),(5,oG 15 (.ld 1 false (.t 14)) 13 false [14]),(6,oG 16 (.call 74 [.t 15,(.c (.int .i64 0)),(.c (.int .i64 4))]) 13 false [15]),(7,oG 17 (.not (.t 16)) 13 false [16]),(8,oP 18 (.pick (.t 13) (.c
(.bool true)) (.t 17)) [13,17]),(9,oT 19 18 [18]),(10,oG 20 (.fa 1 (.t 3)) 19 false []),(11,oG 21 (.ld 1 false (.t 20)) 19 false [20]),(12,oG 22 (.len (.t 21)) 19 false [21]),(13,oG 23 (.call 74 [.t 22,(.c (.int .i64
1)),(.c (.int .i64 3))]) 19 false [22]),(14,oG 24 (.not (.t 23)) 19 false [23]),(15,oP 25 (.pick (.t 19) (.c (.bool true)) (.t 24)) [19,24]),(16,oT 26 25 [25]),(17,oG 27 (.fa 2 (.t 3)) 26 false []),(18,oG 28 (.ld 1
false (.t 27)) 26 false [27]),(19,oG 29 (.fa 0 (.t 3)) 26 false []),(20,oG 30 (.ld 1 false (.t 29)) 26 false [29]),(21,oG 31 (.call 97 [.t 28,.t 30]) 26 false [28,30]),(22,oG 32 (.not (.t 31)) 26 false [31]),(23,oP 33
(.pick (.t 26) (.c (.bool true)) (.t 32)) [26,32])] (.cond (.t 33) (sK [0,3,33] (sR [(0,oP 4 (.mv (.c (.bool false))) [])] .ret)) (sK [33] .skip))) (sR [(0,oP 34 (.bsl 1 0 [.int .i64 (0)] []) []),(1,oT 5 34 [34])] (.seq
(sR [(0,oP 35 (.fa 1 (.t 3)) []),(1,oP 36 (.ld 1 false (.t 35)) [35]),(2,oP 37 (.len (.t 36)) []),(3,oP 38 (.mv (.c (.int .i64 0))) [])] (.block 0 (.loop L66_0))) (sR [(0,oT 89 5 [5]),(1,oP 90 (.len (.t 89)) [89]),(2,oP
91 (.fa 0 (.t 3)) []),(3,oP 92 (.ld 1 false (.t 91)) [3,91]),(4,oP 93 (.bin .eql (.t 90) (.t 92)) [90,92]),(5,oT 4 93 [93])] .ret)))))
def C66 : CFn := ⟨94,2,[.t 4],B66⟩
abbrev B67 : CCode := (sR [(0,oP 4 (.box 2 (.t 1)) [1]),(1,oP 5 (.box 2 (.t 2)) [2]),(2,oP 6 (.mv (.c (.bool false))) [6])] (.seq (sR [(0,oP 8 (.fa 0 (.t 4)) []),(1,oP 9 (.ld 1 false (.t 8)) [8]),(2,oP 10 (.fa 0 (.t 5))
[]),(3,oP 11 (.ld 1 false (.t 10)) [10]),(4,oP 12 (.bin .neq (.t 9) (.t 11)) [9,11])] (.cond (.t 12) (sK [0,4,5,12] (sR [(0,oP 6 (.mv (.c (.bool false))) [])] .ret)) (sK [12] .skip))) (sR [(0,oT 13 0 [0]),(1,oP 14 (.fa
0 (.t 4)) []),(2,oP 15 (.ld 1 false (.t 14)) [14]),(3,oP 16 (.ia 3 (.t 13) (.t 15)) []),(4,oP 17 (.fa 2 (.t 16)) [16]),(5,oP 18 (.ld 1 false (.t 17)) [13,15,17]),(6,oT 7 18 [18])] (.seq (.reg true [(0,oP 19 (.fa 1 (.t
4)) []),(1,oP 20 (.ld 1 false (.t 19)) [19]),(2,oT 21 7 []),(3,oP 22 (.sls 1 (.t 20) none (some (.t 21)) none) [4,20,21]),(4,oP 23 (.fa 1 (.t 5)) []),(5,oP 24 (.ld 1 false (.t 23)) [23]),(6,oT 25 7 [7]),(7,oP 26 (.sls 1
(.t 24) none (some (.t 25)) none) [5,24,25]),(8,oP 27 (.call 102 [.t 22,.t 26]) [22,26]),(9,oT 6 27 [27])]) .ret))))
def C67 : CFn := ⟨28,3,[.t 6],B67⟩
abbrev B68 : CCode := (sR [(0,oP 2 (.box 2 (.t 0)) [0]),(1,oP 3 (.box 3 (.t 1)) [1]),(2,oP 4 (.mv (.c (.nils))) [4])] (sR [(0,oP 7 (.bsl 2 0 [.nils,.nils] []) []),(1,oP 5 (.al [.nils]) []),(2,⟨none,.st 1 (.t 5) (.t
7),none,[],[7]⟩)] (.seq (sR [(0,oP 8 (.ld 2 true (.t 2)) []),(1,oP 9 (.ld 3 true (.t 3)) []),(2,oP 10 (.call 31 [.t 8,.t 9]) [8,9]),(3,oP 11 (.not (.t 10)) [10])] (.cond (.t 11) (sK [2,3,11] (sR [(0,oP 12 (.ld 1 false
(.t 5)) []),(1,oT 4 12 [12])] .ret)) (sK [11] .skip))) (sR [(0,oP 6 (.al [.nilf]) [])] (sR [(0,oP 13 (.fn 103 [.t 3,.t 5,.t 2,.t 6]) []),(1,⟨none,.st 1 (.t 6) (.t 13),none,[],[13]⟩)] (.seq (.reg true [(0,oP 14 (.ld 1
false (.t 6)) []),(1,oP 15 (.fa 0 (.t 3)) []),(2,oP 16 (.ld 1 false (.t 15)) [15]),(3,⟨some 17,.call 106 [.t 16],none,[(6,1)],[16]⟩),(4,oP 18 (.callv (.t 14) [.t 17,(.c (.nils))]) [2,3,6,14,17,18])]) (sR [(0,oP 19 (.ld
1 false (.t 5)) []),(1,oT 4 19 [19])] .ret)))))))
def C68 : CFn := ⟨20,2,[.t 4],B68⟩
abbrev L70_0 : CCode := (.seq (sR [(0,oT 8 6 []),(1,oP 9 (.fa 1 (.t 2)) []),(2,oP 10 (.ld 1 false (.t 9)) [9]),(3,oP 11 (.len (.t 10)) [10]),(4,oP 12 (.bin .lss (.t 8) (.t 11)) [8,11]),(5,oT 13 12 [12]),(6,oG 14 (.ld 2
true (.t 2)) 13 true []),(7,oG 15 (.call 36 [.t 14]) 13 true [14]),(8,oP 16 (.pick (.t 13) (.t 15) (.c (.bool false))) [13,15]),(9,oT 17 16 [16]),(10,oG 18 (.mv (.t 1)) 17 true []),(11,oG 19 (.fa 1 (.t 2)) 17 true
[]),(12,oG 20 (.ld 1 false (.t 19)) 17 true [19]),(13,oG 21 (.len (.t 20)) 17 true [20]),(14,oG 22 (.bin .sub (.t 21) (.c (.int .i64 1))) 17 true [21]),(15,oG 23 (.call 38 [.t 18,(.c (.int .i64 0)),.t 22]) 17 true
[18,22]),(16,oP 24 (.pick (.t 17) (.t 23) (.c (.bool false))) [17,23])] (.cond (.t 24) (sK [24] .skip) (sK [1,2,6,24] (.exit 0)))) (.seq (.block 1 (.seq (.reg true [(0,oP 27 (.fa 0 (.t 2)) []),(1,oP 28 (.ld 1 false (.t
27)) [27]),(2,oP 29 (.fa 1 (.t 2)) []),(3,oP 30 (.ld 1 false (.t 29)) [29]),(4,oT 31 1 []),(5,oP 32 (.ia 2 (.t 30) (.t 31)) [30]),(6,oP 33 (.ld 2 true (.t 32)) [32]),(7,oP 34 (.fa 1 (.t 2)) []),(8,oP 35 (.ld 1 false (.t
34)) [34]),(9,oT 36 6 []),(10,oP 37 (.ia 2 (.t 35) (.t 36)) [35]),(11,oP 38 (.ld 2 true (.t 37)) [37]),(12,oP 39 (.call 109 [.t 28,.t 33,.t 38]) [28,31,33,36,38])]) (.cond (.t 39) (sK [39] (.reg false [(0,oT 40 5
[5]),(1,oT 41 6 []),(2,oP 42 (.bsl 1 1 [.int .i64 (0)] [(0,1,(.t 41))]) [41]),(3,oP 43 (.app 1 8 (.t 40) (.t 42)) [40,42]),(4,oT 5 43 [43])])) (sK [39] .skip)))) (.reg false [(0,oT 25 6 [6]),(1,oP 26 (.bin .add (.t 25)
(.c (.int .i64 1))) [25]),(2,oT 6 26 [26])])))
abbrev B70 : CCode := (sR [(0,oP 2 (.box 2 (.t 0)) [0]),(1,oP 4 (.mv (.c (.nils))) [4])] (sR [(0,oP 7 (.bsl 1 0 [.int .i64 (0)] []) []),(1,oT 5 7 [7])] (.seq (sR [(0,oP 6 (.mv (.c (.int .i64 0))) [])] (.block 0 (.loop
L70_0))) (sR [(0,oT 44 5 [5]),(1,oT 4 44 [44])] .ret))))
def C70 : CFn := ⟨45,2,[.t 4],B70⟩
abbrev L71_0 : CCode := (.seq (sR [(0,oT 30 5 []),(1,oP 31 (.fa 1 (.t 3)) []),(2,oP 32 (.ld 1 false (.t 31)) [31]),(3,oP 33 (.len (.t 32)) [32]),(4,oP 34 (.bin .lss (.t 30) (.t 33)) [30,33])] (.cond (.t 34) (sK [34]
.skip) (sK [3,5,34] (.exit 0)))) (.seq (.block 1 (sR [(0,oP 37 (.fa 1 (.t 3)) []),(1,oP 38 (.ld 1 false (.t 37)) [37]),(2,oT 39 5 []),(3,oP 40 (.ia 1 (.t 38) (.t 39)) [38]),(4,oP 41 (.ld 1 false (.t 40)) [39,40]),(5,oP
42 (.call 38 [.t 41,(.c (.int .i64 0)),(.c (.int .i64 9))]) [41]),(6,oP 43 (.not (.t 42)) [42])] (.cond (.t 43) (sK [3,5,43] (sR [(0,oP 4 (.mv (.c (.bool false))) [])] .ret)) (sK [43] .skip)))) (.reg false [(0,oT 35 5
[5]),(1,oP 36 (.bin .add (.t 35) (.c (.int .i64 1))) [35]),(2,oT 5 36 [36])])))
abbrev B71 : CCode := (sR [(0,oP 3 (.box 2 (.t 1)) [1]),(1,oP 4 (.mv (.c (.bool false))) [4])] (.seq (.seq (.reg true [(0,oT 6 0 []),(1,oP 7 (.call 73 [.t 6]) [6]),(2,oP 8 (.not (.t 7)) [7]),(3,oT 9 8 [8]),(4,oG 10 (.fa
0 (.t 3)) 9 false []),(5,oG 11 (.ld 1 false (.t 10)) 9 false [10]),(6,oG 12 (.mv (.t 0)) 9 false []),(7,oG 13 (.len (.t 12)) 9 false [12]),(8,oG 14 (.bin .sub (.t 13) (.c (.int .i64 1))) 9 false [13]),(9,oG 15 (.call 38
[.t 11,(.c (.int .i64 0)),.t 14]) 9 false [11,14]),(10,oG 16 (.not (.t 15)) 9 false [15]),(11,oP 17 (.pick (.t 9) (.c (.bool true)) (.t 16)) [9,16]),(12,oT 18 17 [17]),(13,oG 19 (.fa 1 (.t 3)) 18 false []),(14,oG 20
(.ld 1 false (.t 19)) 18 false [19]),(15,oG 21 (.len (.t 20)) 18 false [20]),(16,oG 22 (.mv (.t 0)) 18 false [0]),(17,oG 23 (.fa 0 (.t 3)) 18 false []),(18,oG 24 (.ld 1 false (.t 23)) 18 false [23]),(19,oG 25 (.ia 3 (.t
22) (.t 24)) 18 false []),(20,oG 26 (.fa 1 (.t 25)) 18 false [25]),(21,oG 27 (.ld 1 false (.t 26)) 18 false [22,24,26]),(22,oG 28 (.bin .neq (.t 21) (.t 27)) 18 false [21,27]),(23,oP 29 (.pick (.t 18) (.c (.bool true))
(.t 28)) [18,28])]) (.cond (.t 29) (sK [3,29] (sR [(0,oP 4 (.mv (.c (.bool false))) [])] .ret)) (sK [29] .skip))) (.seq (sR [(0,oP 5 (.mv (.c (.int .i64 0))) [])] (.block 0 (.loop L71_0))) (sR [(0,oP 4 (.mv (.c (.bool
true))) [])] .ret))))
def C71 : CFn := ⟨44,2,[.t 4],B71⟩
abbrev B72 : CCode := (sR [(0,oP 2 (.box 2 (.t 0)) [0]),(1,oP 3 (.box 2 (.t 1)) [1]),(2,oP 4 (.mv (.c (.int .i64 0))) [4])] (.seq (sR [(0,oP 5 (.fa 0 (.t 2)) []),(1,oP 6 (.ld 1 false (.t 5)) [5]),(2,oP 7 (.fa 0 (.t 3))
[]),(3,oP 8 (.ld 1 false (.t 7)) [7]),(4,oP 9 (.bin .lss (.t 6) (.t 8)) [6,8])] (.cond (.t 9) (sK [2,3,9] (sR [(0,oP 4 (.mv (.c (.int .i64 (-1)))) [])] .ret)) (sK [9] .skip))) (.seq (sR [(0,oP 10 (.fa 0 (.t 2))
[]),(1,oP 11 (.ld 1 false (.t 10)) [10]),(2,oP 12 (.fa 0 (.t 3)) []),(3,oP 13 (.ld 1 false (.t 12)) [12]),(4,oP 14 (.bin .gtr (.t 11) (.t 13)) [11,13])] (.cond (.t 14) (sK [2,3,14] (sR [(0,oP 4 (.mv (.c (.int .i64 1)))
[])] .ret)) (sK [14] .skip))) (sR [(0,oP 15 (.fa 1 (.t 2)) []),(1,oP 16 (.ld 1 false (.t 15)) [15]),(2,oP 17 (.fa 1 (.t 3)) []),(3,oP 18 (.ld 1 false (.t 17)) [17]),(4,oP 19 (.call 110 [.t 16,.t 18]) [2,3,16,18]),(5,oT
4 19 [19])] .ret))))
def C72 : CFn := ⟨20,2,[.t 4],B72⟩
abbrev L73_0 : CCode := (.seq (sR [(0,oT 4 3 []),(1,oT 5 0 []),(2,oP 6 (.len (.t 5)) [5]),(3,oP 7 (.bin .lss (.t 4) (.t 6)) [4,6])] (.cond (.t 7) (sK [7] .skip) (sK [3,7] (.exit 0)))) (.seq (.block 1 (.seq (.reg true
[(0,oT 10 0 []),(1,oT 11 3 []),(2,oP 12 (.ia 3 (.t 10) (.t 11)) []),(3,oP 13 (.ld 3 true (.t 12)) [12]),(4,oP 14 (.call 111 [.t 13]) [10,11,13]),(5,oP 15 (.not (.t 14)) [14]),(6,oT 16 15 [15]),(7,oG 17 (.mv (.t 3)) 16
false []),(8,oG 18 (.bin .gtr (.t 17) (.c (.int .i64 0))) 16 false [17]),(9,oG 19 (.mv (.t 18)) 16 false [18]),(10,oG 20 (.mv (.t 0)) 19 true []),(11,oG 21 (.mv (.t 3)) 19 true []),(12,oG 22 (.bin .sub (.t 21) (.c (.int
.i64 1))) 19 true [21]),(13,oG 23 (.ia 3 (.t 20) (.t 22)) 19 true []),(14,oG 24 (.fa 0 (.t 23)) 19 true [23]),(15,oG 25 (.ld 1 false (.t 24)) 19 true [20,22,24]),(16,oG 26 (.mv (.t 0)) 19 true []),(17,oG 27 (.mv (.t 3))
19 true []),(18,oG 28 (.ia 3 (.t 26) (.t 27)) 19 true []),(19,oG 29 (.fa 0 (.t 28)) 19 true [28]),(20,oG 30 (.ld 1 false (.t 29)) 19 true [26,27,29]),(21,oG 31 (.bin .geq (.t 25) (.t 30)) 19 true [25,30]),(22,oG 32
(.pick (.t 19) (.t 31) (.c (.bool false))) 16 false [19,31]),(23,oP 33 (.pick (.t 16) (.c (.bool true)) (.t 32)) [16,32])]) (.cond (.t 33) (sK [0,3,33] (sR [(0,oP 2 (.mv (.c (.bool false))) [])] .ret)) (sK [33]
.skip)))) (.reg false [(0,oT 8 3 [3]),(1,oP 9 (.bin .add (.t 8) (.c (.int .i64 1))) [8]),(2,oT 3 9 [9])])))
abbrev B73 : CCode := (sR [(0,oP 2 (.mv (.c (.bool false))) [2])] (.seq (sR [(0,oP 3 (.mv (.c (.int .i64 0))) [])] (.block 0 (.loop L73_0))) (sR [(0,oT 34 0 [0]),(1,oP 35 (.len (.t 34)) [34]),(2,oP 36 (.bin .leq (.t 35)
(.c (.int .i64 4))) [35]),(3,oT 2 36 [36])] .ret)))
def C73 : CFn := ⟨37,1,[.t 2],B73⟩
abbrev B74 : CCode := (sR [(0,oP 6 (.mv (.c (.bool false))) [6])] (sR [(0,oT 7 1 [1]),(1,oT 8 0 []),(2,oP 9 (.bin .leq (.t 7) (.t 8)) [7,8]),(3,oT 10 9 [9]),(4,oG 11 (.mv (.t 0)) 10 true [0]),(5,oG 12 (.mv (.t 2)) 10
true [2]),(6,oG 13 (.bin .leq (.t 11) (.t 12)) 10 true [11,12]),(7,oP 14 (.pick (.t 10) (.t 13) (.c (.bool false))) [10,13]),(8,oT 6 14 [14])] .ret))
def C74 : CFn := ⟨15,3,[.t 6],B74⟩
abbrev B75 : CCode := (sR [(0,oP 3 (.mv (.c (.bool false))) [3])] (sR [(0,oP 4 (.ld 1 false (.t 1)) [1]),(1,oT 5 0 [0]),(2,oP 6 (.call 76 [.t 4,.t 5]) [4,5]),(3,oP 7 (.not (.t 6)) [6]),(4,oT 3 7 [7])] .ret))
def C75 : CFn := ⟨8,2,[.t 3],B75⟩
abbrev L76_0 : CCode := (sR [(0,oP 10 (.bin .lss (.t 9) (.t 8)) [])] (.seq (.cond (.t 10) (sK [10] .skip) (sK [0,1,7,8,9,10] (.exit 0))) (.seq (.block 1 (sR [(0,oT 11 9 []),(1,oP 12 (.ia 1 (.t 7) (.t 9)) []),(2,oP 13
(.ld 1 false (.t 12)) [12]),(3,oT 5 11 [11]),(4,oT 6 13 [13])] (sR [(0,oT 14 6 []),(1,oP 15 (.bin .eql (.t 14) (.c (.int .i64 0))) [14]),(2,oT 16 15 [15]),(3,oG 17 (.mv (.t 6)) 16 false []),(4,oG 18 (.mv (.t 0)) 16
false []),(5,oG 19 (.neg (.t 18)) 16 false [18]),(6,oG 20 (.mv (.t 0)) 16 false []),(7,oG 21 (.call 74 [.t 17,.t 19,.t 20]) 16 false [17,19,20]),(8,oG 22 (.not (.t 21)) 16 false [21]),(9,oP 23 (.pick (.t 16) (.c (.bool
true)) (.t 22)) [16,22]),(10,oT 24 23 [23]),(11,oG 25 (.mv (.t 1)) 24 false []),(12,oG 26 (.mv (.t 5)) 24 false []),(13,oG 27 (.sls 1 (.t 25) none (some (.t 26)) none) 24 false [25,26]),(14,oG 28 (.mv (.t 6)) 24 false
[]),(15,oG 29 (.call 83 [.t 27,.t 28]) 24 false [27,28]),(16,oP 30 (.pick (.t 24) (.c (.bool true)) (.t 29)) [24,29]),(17,oT 31 30 [30]),(18,oG 32 (.mv (.t 1)) 31 false []),(19,oG 33 (.mv (.t 5)) 31 false [5]),(20,oG 34
(.sls 1 (.t 32) none (some (.t 33)) none) 31 false [32,33]),(21,oG 35 (.mv (.t 6)) 31 false [6]),(22,oG 36 (.neg (.t 35)) 31 false [35]),(23,oG 37 (.call 83 [.t 34,.t 36]) 31 false [34,36]),(24,oP 38 (.pick (.t 31) (.c
(.bool true)) (.t 37)) [31,37])] (.cond (.t 38) (sK [0,1,7,8,9,38] (sR [(0,oP 4 (.mv (.c (.bool false))) [])] .ret)) (sK [38] .skip))))) (.reg false [(0,oP 39 (.bin .add (.t 9) (.c (.int .i64 1))) [9]),(1,oT 9 39
[39])]))))
abbrev B76 : CCode := (sR [(0,oP 4 (.mv (.c (.bool false))) [4])] (.seq (sR [(0,oT 7 1 []),(1,oP 8 (.len (.t 7)) []),(2,oP 9 (.mv (.c (.int .i64 0))) [])] (.block 0 (.loop L76_0))) (sR [(0,oP 4 (.mv (.c (.bool true)))
[])] .ret)))
def C76 : CFn := ⟨40,2,[.t 4],B76⟩
abbrev L77_0 : CCode := (sR [(0,oP 9 (.bin .lss (.t 8) (.t 7)) [])] (.seq (.cond (.t 9) (sK [9] .skip) (sK [0,1,7,8,9] (.exit 0))) (.seq (.block 1 (sR [(0,oT 10 8 []),(1,oT 5 10 [10])] (sR [(0,oT 11 1 []),(1,oT 12 0
[]),(2,oT 13 5 []),(3,oP 14 (.ia 1 (.t 12) (.t 13)) []),(4,oP 15 (.ld 1 false (.t 14)) [14]),(5,oP 16 (.callv (.t 11) [.t 15]) [11,12,13,15])] (.cond (.t 16) (sK [0,1,7,8,16] (sR [(0,oT 17 5 [5]),(1,oT 4 17 [17])]
.ret)) (sK [5,16] .skip))))) (.reg false [(0,oP 18 (.bin .add (.t 8) (.c (.int .i64 1))) [8]),(1,oT 8 18 [18])]))))
abbrev B77 : CCode := (sR [(0,oP 4 (.mv (.c (.int .i64 0))) [4])] (.seq (sR [(0,oT 6 0 []),(1,oP 7 (.len (.t 6)) [6]),(2,oP 8 (.mv (.c (.int .i64 0))) [])] (.block 0 (.loop L77_0))) (sR [(0,oP 4 (.mv (.c (.int .i64
(-1)))) [])] .ret)))
def C77 : CFn := ⟨19,2,[.t 4],B77⟩
abbrev L78_0 : CCode := (sR [(0,oP 9 (.bin .lss (.t 8) (.t 7)) [])] (.seq (.cond (.t 9) (sK [9] .skip) (sK [0,1,7,8,9] (.exit 0))) (.seq (.block 1 (sR [(0,oT 10 8 []),(1,oT 5 10 [10])] (sR [(0,oT 11 1 []),(1,oT 12 0
[]),(2,oT 13 5 []),(3,oP 14 (.ia 1 (.t 12) (.t 13)) []),(4,oP 15 (.ld 1 false (.t 14)) [12,13,14]),(5,oP 16 (.callv (.t 11) [.t 15]) [11,15])] (.cond (.t 16) (sK [0,1,7,8,16] (sR [(0,oT 17 5 [5]),(1,oT 4 17 [17])]
.ret)) (sK [5,16] .skip))))) (.reg false [(0,oP 18 (.bin .add (.t 8) (.c (.int .i64 1))) [8]),(1,oT 8 18 [18])]))))
abbrev B78 : CCode := (sR [(0,oP 4 (.mv (.c (.int .i64 0))) [4])] (.seq (sR [(0,oT 6 0 []),(1,oP 7 (.len (.t 6)) [6]),(2,oP 8 (.mv (.c (.int .i64 0))) [])] (.block 0 (.loop L78_0))) (sR [(0,oP 4 (.mv (.c (.int .i64
(-1)))) [])] .ret)))
def C78 : CFn := ⟨19,2,[.t 4],B78⟩
abbrev L79_0 : CCode := (.seq (sR [(0,oT 6 5 []),(1,oT 7 1 []),(2,oP 8 (.len (.t 7)) [7]),(3,oP 9 (.bin .lss (.t 6) (.t 8)) [6,8])] (.cond (.t 9) (sK [9] .skip) (sK [1,2,5,9] (.exit 0)))) (.seq (.block 1 (.seq (.reg
true [(0,oT 12 1 []),(1,oT 13 5 []),(2,oP 14 (.ia 1 (.t 12) (.t 13)) []),(3,oP 15 (.ld 1 false (.t 14)) [12,13,14]),(4,oP 16 (.fa 1 (.t 2)) []),(5,oP 17 (.ld 1 false (.t 16)) [16]),(6,oP 18 (.len (.t 17)) [17]),(7,oP 19
(.bin .sub (.t 18) (.c (.int .i64 1))) [18]),(8,oP 20 (.call 38 [.t 15,(.c (.int .i64 0)),.t 19]) [15,19]),(9,oP 21 (.not (.t 20)) [20]),(10,oT 22 21 [21]),(11,oG 23 (.mv (.t 5)) 22 false []),(12,oG 24 (.bin .gtr (.t
23) (.c (.int .i64 0))) 22 false [23]),(13,oG 25 (.mv (.t 24)) 22 false [24]),(14,oG 26 (.mv (.t 1)) 25 true []),(15,oG 27 (.mv (.t 5)) 25 true []),(16,oG 28 (.ia 1 (.t 26) (.t 27)) 25 true []),(17,oG 29 (.ld 1 false
(.t 28)) 25 true [26,27,28]),(18,oG 30 (.mv (.t 1)) 25 true []),(19,oG 31 (.mv (.t 5)) 25 true []),(20,oG 32 (.bin .sub (.t 31) (.c (.int .i64 1))) 25 true [31]),(21,oG 33 (.ia 1 (.t 30) (.t 32)) 25 true []),(22,oG 34
(.ld 1 false (.t 33)) 25 true [30,32,33]),(23,oG 35 (.bin .leq (.t 29) (.t 34)) 25 true [29,34]),(24,oG 36 (.pick (.t 25) (.t 35) (.c (.bool false))) 22 false [25,35]),(25,oP 37 (.pick (.t 22) (.c (.bool true)) (.t 36))
[22,36])]) (.cond (.t 37) (sK [1,2,5,37] (sR [(0,oP 4 (.mv (.c (.bool false))) [])] .ret)) (sK [37] .skip)))) (.reg false [(0,oT 10 5 [5]),(1,oP 11 (.bin .add (.t 10) (.c (.int .i64 1))) [10]),(2,oT 5 11 [11])])))
abbrev B79 : CCode := (sR [(0,oP 2 (.box 2 (.t 0)) [0]),(1,oP 4 (.mv (.c (.bool false))) [4])] (.seq (sR [(0,oP 5 (.mv (.c (.int .i64 0))) [])] (.block 0 (.loop L79_0))) (sR [(0,oP 4 (.mv (.c (.bool true))) [])] .ret)))
def C79 : CFn := ⟨38,2,[.t 4],B79⟩
abbrev L80_0 : CCode := (.seq (sR [(0,oT 29 12 []),(1,oP 30 (.fa 1 (.t 5)) []),(2,oP 31 (.ld 1 false (.t 30)) [30]),(3,oP 32 (.len (.t 31)) [31]),(4,oP 33 (.bin .lss (.t 29) (.t 32)) [29,32])] (.cond (.t 33) (sK [33]
.skip) (sK [2,3,4,5,6,12,33] (.exit 0)))) (.seq (.block 1 (.seq (.reg true [(0,oP 37 (.fa 1 (.t 6)) []),(1,oP 38 (.ld 1 false (.t 37)) [37]),(2,oT 39 2 []),(3,oP 40 (.ia 2 (.t 38) (.t 39)) [38]),(4,oP 41 (.ld 2 true (.t
40)) [40]),(5,oP 42 (.fa 1 (.t 5)) []),(6,oP 43 (.ld 1 false (.t 42)) [42]),(7,oT 44 12 []),(8,oP 45 (.ia 2 (.t 43) (.t 44)) [43]),(9,oP 46 (.ld 2 true (.t 45)) [45]),(10,oT 47 3 []),(11,oP 48 (.call 112 [.t 41,.t 46,.t
47]) [39,41,44,46,47]),(12,oT 36 48 [48]),(13,oP 49 (.ex (.t 36) 0) []),(14,oP 50 (.ex (.t 36) 1) [36]),(15,oT 13 49 [49]),(16,oT 14 50 [50])]) (sR [(0,oT 51 14 [14])] (.cond (.t 51) (sK [51] (.reg true [(0,oT 52 11
[11]),(1,oP 53 (.ld 2 true (.t 5)) []),(2,oP 54 (.ld 3 true (.t 6)) []),(3,oT 55 2 []),(4,oP 56 (.bin .add (.t 55) (.c (.int .i64 1))) [55]),(5,oT 57 13 [13]),(6,oP 58 (.bsl 1 0 [.int .i64 (0)] []) []),(7,oT 59 4
[]),(9,oT 61 12 []),(10,oP 62 (.bsl 1 1 [.int .i64 (0)] [(0,1,(.t 61))]) [61]),(8,⟨some 60,.app 1 8 (.t 58) (.t 59),none,[(5,2),(6,3)],[58,59]⟩),(11,⟨some 63,.app 1 8 (.t 60) (.t 62),none,[(5,2),(6,3)],[60,62]⟩),(12,oP
64 (.call 80 [.t 53,.t 54,.t 56,.t 57,.t 63]) [53,54,56,57,63]),(13,oP 65 (.app 2 48 (.t 52) (.t 64)) [52,64]),(14,oT 11 65 [65])])) (sK [13,51] .skip))))) (.reg false [(0,oT 34 12 [12]),(1,oP 35 (.bin .add (.t 34) (.c
(.int .i64 1))) [34]),(2,oT 12 35 [35])])))
abbrev B80 : CCode := (sR [(0,oP 5 (.box 2 (.t 0)) [0]),(1,oP 6 (.box 3 (.t 1)) [1]),(2,oP 10 (.mv (.c (.nils))) [10])] (.seq (sR [(0,oT 15 2 []),(1,oP 16 (.fa 1 (.t 6)) []),(2,oP 17 (.ld 1 false (.t 16)) [16]),(3,oP 18
(.len (.t 17)) [17]),(4,oP 19 (.bin .eql (.t 15) (.t 18)) [15,18])] (.cond (.t 19) (sK [2,5,6,19] (sR [(0,oP 20 (.bsl 1 0 [.int .i64 (0)] []) []),(1,oT 21 3 [3]),(2,oP 22 (.app 1 8 (.t 20) (.t 21)) [20,21]),(3,oP 23
(.bsl 1 0 [.int .i64 (0)] []) []),(4,oT 24 4 [4]),(5,oP 25 (.app 1 8 (.t 23) (.t 24)) [23,24]),(6,oP 26 (.bld [.nils,.nils] [(0,1,(.t 22)),(1,1,(.t 25))]) [22,25]),(7,oP 27 (.bsl 2 1 [.nils,.nils] [(0,2,(.t 26))])
[26]),(8,oT 10 27 [27])] .ret)) (sK [19] .skip))) (sR [(0,oP 28 (.bsl 2 0 [.nils,.nils] []) []),(1,oT 11 28 [28])] (.seq (sR [(0,oP 12 (.mv (.c (.int .i64 0))) [])] (.block 0 (.loop L80_0))) (sR [(0,oT 66 11 [11]),(1,oT
10 66 [66])] .ret)))))
def C80 : CFn := ⟨67,5,[.t 10],B80⟩
abbrev L81_0 : CCode := (.seq (sR [(0,oT 5 3 []),(1,oP 6 (.len (.t 5)) [5]),(2,oT 7 0 []),(3,oP 8 (.bin .lss (.t 6) (.t 7)) [6,7])] (.cond (.t 8) (sK [8] .skip) (sK [0,8] (.exit 0)))) (.block 1 (.reg false [(0,oT 9 3
[3]),(1,oP 10 (.bsl 1 1 [.int .i64 (0)] [(0,1,(.c (.int .i64 (-1))))]) []),(2,oP 11 (.app 1 8 (.t 9) (.t 10)) [9,10]),(3,oT 3 11 [11])])))
abbrev B81 : CCode := (sR [(0,oP 2 (.mv (.c (.nils))) [2])] (sR [(0,oP 4 (.bsl 1 0 [.int .i64 (0)] []) []),(1,oT 3 4 [4])] (.seq (.block 0 (.loop L81_0)) (sR [(0,oT 12 3 [3]),(1,oT 2 12 [12])] .ret))))
def C81 : CFn := ⟨13,1,[.t 2],B81⟩
abbrev B83 : CCode := (sR [(0,oP 4 (.mv (.c (.bool false))) [4])] (sR [(0,oT 5 0 [0]),(1,oT 6 1 [1]),(2,oP 7 (.call 115 [.t 5,.t 6]) [5,6]),(3,oP 8 (.bin .geq (.t 7) (.c (.int .i64 0))) [7]),(4,oT 4 8 [8])] .ret))
def C83 : CFn := ⟨9,2,[.t 4],B83⟩
abbrev B87 : CCode := (sR [(0,oP 1 (.box 2 (.t 0)) [0]),(1,oP 2 (.mv (.c (.bool false))) [2])] (.seq (.reg true [(0,oP 3 (.ld 2 true (.t 1)) []),(1,oP 4 (.call 36 [.t 3]) [3]),(2,oT 5 4 [4]),(3,oG 6 (.ld 2 true (.t 1))
5 true []),(6,oG 9 (.fa 1 (.t 1)) 5 true []),(7,oG 10 (.ld 1 false (.t 9)) 5 true []),(8,oG 11 (.len (.t 10)) 5 true [10]),(4,⟨some 7,.call 35 [.t 6],some (5,true),[(9,1)],[1,6,9]⟩),(5,oG 8 (.len (.t 7)) 5 true
[7]),(9,oG 12 (.bin .eql (.t 8) (.t 11)) 5 true [8,11]),(10,oP 13 (.pick (.t 5) (.t 12) (.c (.bool false))) [5,12]),(11,oT 2 13 [13])]) .ret))
def C87 : CFn := ⟨14,1,[.t 2],B87⟩
abbrev B88 : CCode := (sR [(0,oP 4 (.mv (.c (.int .i64 0))) [4])] (.seq (sR [(0,oT 9 1 []),(1,oP 10 (.bin .leq (.t 9) (.c (.int .i64 0))) [9])] (.cond (.t 10) (sK [1,10] (sR [(0,oP 4 (.mv (.c (.int .i64 0))) [])] .ret))
(sK [10] .skip))) (.seq (sR [(0,oT 11 1 []),(1,oP 12 (.bin .leq (.t 11) (.c (.int .i64 256))) [11])] (.cond (.t 12) (sK [12] (sR [(0,oT 13 0 []),(1,oP 14 (.call 116 [.t 13]) [13]),(2,oT 15 1 [1]),(3,oP 16 (.bin .rem (.t
14) (.t 15)) [14,15]),(4,oT 4 16 [16])] .ret)) (sK [12] .skip))) (sR [(0,oT 17 0 []),(1,oP 18 (.call 116 [.t 17]) [17]),(2,oT 5 18 [18])] (sR [(0,oT 19 0 []),(1,oP 20 (.call 116 [.t 19]) [19]),(2,oT 6 20 [20])] (sR
[(0,oT 21 0 []),(1,oP 22 (.call 116 [.t 21]) [21]),(2,oT 7 22 [22])] (sR [(0,oT 23 0 []),(1,oP 24 (.call 116 [.t 23]) [23]),(2,oT 8 24 [24])] (sR [(0,oT 25 5 [5]),(1,oP 26 (.bin .mul (.t 25) (.c (.int .i64 16777216)))
[25]),(2,oT 27 6 [6]),(3,oP 28 (.bin .mul (.t 27) (.c (.int .i64 65536))) [27]),(4,oP 29 (.bin .add (.t 26) (.t 28)) [26,28]),(5,oT 30 7 [7]),(6,oP 31 (.bin .mul (.t 30) (.c (.int .i64 256))) [30]),(7,oP 32 (.bin .add
(.t 29) (.t 31)) [29,31]),(8,oT 33 8 [8]),(9,oP 34 (.bin .add (.t 32) (.t 33)) [32,33]),(10,oT 35 1 [1]),(11,oP 36 (.bin .rem (.t 34) (.t 35)) [34,35]),(12,oT 4 36 [36])] .ret))))))))
def C88 : CFn := ⟨37,2,[.t 4],B88⟩
abbrev L90_0 : CCode := (.seq (sR [(0,oT 15 5 []),(1,oP 16 (.bin .gtr (.t 15) (.c (.int .i64 0))) [15])] (.cond (.t 16) (sK [16] .skip) (sK [4,5,16] (.exit 0)))) (.seq (.block 1 (.reg true [(0,oP 20 (.ld 2 true (.t 3))
[]),(1,oT 21 0 []),(2,oP 22 (.fa 0 (.t 3)) []),(3,oP 23 (.ld 1 false (.t 22)) [22]),(4,oT 24 4 []),(5,⟨some 25,.call 120 [.t 21,.t 23,.t 24],none,[(3,2)],[21,23,24]⟩),(6,oP 26 (.call 119 [.t 20,.t 25]) [20,25]),(7,oT 19
26 [26]),(8,oP 27 (.ex (.t 19) 0) []),(9,oP 28 (.ex (.t 19) 1) [19,28]),(10,⟨none,.st 2 (.t 3) (.t 27),none,[],[27]⟩)])) (.reg false [(0,oT 17 5 [5]),(1,oP 18 (.bin .sub (.t 17) (.c (.int .i64 1))) [17]),(2,oT 5 18
[18])])))
abbrev B90 : CCode := (sR [(0,oP 2 (.al [.nils,.nils]) [])] (sR [(0,oT 6 0 []),(1,oP 7 (.call 118 [.t 6]) [6]),(2,oP 8 (.bld [.nils,.nils] [(0,1,(.t 7))]) [7]),(3,oP 3 (.al [.nils,.nils]) []),(4,⟨none,.st 2 (.t 3) (.t
8),none,[],[8]⟩)] (sR [(0,oT 9 0 []),(1,oP 10 (.bsl 1 4 [.int .i64 (0)] [(0,1,(.c (.int .i64 2))),(1,1,(.c (.int .i64 2))),(2,1,(.c (.int .i64 3))),(3,1,(.c (.int .i64 3)))]) []),(2,oP 11 (.call 93 [.t 9,.t 10])
[9,10]),(3,oT 4 11 [11])] (.seq (sR [(0,oT 12 0 []),(1,oP 13 (.call 88 [.t 12,(.c (.int .i64 11))]) [12]),(2,oP 14 (.bin .add (.c (.int .i64 2)) (.t 13)) [13]),(3,oT 5 14 [14])] (.block 0 (.loop L90_0))) (sR [(0,oP 29
(.ld 2 true (.t 3)) []),(1,⟨none,.st 2 (.t 2) (.t 29),none,[],[3,29]⟩)] .ret)))))
def C90 : CFn := ⟨30,1,[.m 2 2 true],B90⟩
abbrev L91_1 : CCode := (.seq (sR [(0,oT 34 10 []),(1,oP 35 (.bin .gtr (.t 34) (.c (.int .i64 0))) [34])] (.cond (.t 35) (sK [35] .skip) (sK [10,35] (.exit 2)))) (.seq (.block 3 (sR [(0,oT 38 0 []),(1,oP 39 (.call 63
[.t 38,(.c (.int .i64 12))]) [38])] (.cond (.t 39) (sK [39] (.reg true [(0,oP 40 (.fa 1 (.t 9)) []),(1,oP 41 (.ld 1 false (.t 40)) []),(2,oT 42 0 []),(3,⟨some 43,.call 88 [.t 42,(.c (.int .i64
2))],none,[(40,1)],[40,42]⟩),(4,oP 44 (.bin .sub (.c (.int .i64 (-1))) (.t 43)) [43]),(5,oP 45 (.bsl 1 1 [.int .i64 (0)] [(0,1,(.t 44))]) [44]),(6,oP 46 (.app 1 8 (.t 41) (.t 45)) [41,45]),(7,oP 47 (.fa 1 (.t 9))
[]),(8,⟨none,.st 1 (.t 47) (.t 46),none,[],[46,47]⟩)])) (sK [39] (.reg true [(0,oP 48 (.fa 1 (.t 9)) []),(1,oP 49 (.ld 1 false (.t 48)) []),(2,oT 50 0 []),(3,oT 51 5 []),(4,⟨some 52,.call 88 [.t 50,.t
51],none,[(48,1)],[48,50,51]⟩),(5,oP 53 (.bsl 1 1 [.int .i64 (0)] [(0,1,(.t 52))]) [52]),(6,oP 54 (.app 1 8 (.t 49) (.t 53)) [49,53]),(7,oP 55 (.fa 1 (.t 9)) []),(8,⟨none,.st 1 (.t 55) (.t 54),none,[],[54,55]⟩)])))))
(.reg false [(0,oT 36 10 [10]),(1,oP 37 (.bin .sub (.t 36) (.c (.int .i64 1))) [36]),(2,oT 10 37 [37])])))
abbrev L91_0 : CCode := (.seq (sR [(0,oT 20 7 []),(1,oT 21 4 []),(2,oP 22 (.bin .lss (.t 20) (.t 21)) [20,21])] (.cond (.t 22) (sK [22] .skip) (sK [4,5,6,7,22] (.exit 0)))) (.seq (.block 1 (sR [(0,oT 25 6 []),(1,oT 26 7
[]),(2,oP 27 (.bin .add (.t 25) (.t 26)) [25,26]),(3,oP 28 (.bin .rem (.t 27) (.c (.int .i64 4))) [27]),(4,oT 8 28 [28])] (sR [(0,oT 29 8 []),(1,oP 30 (.bld [.int .i64 (0),.nils] [(0,1,(.t 29))]) [29]),(2,oP 9 (.al
[.int .i64 (0),.nils]) []),(3,⟨none,.st 2 (.t 9) (.t 30),none,[],[30]⟩)] (.seq (sR [(0,oT 31 8 [8]),(1,oP 32 (.bin .quo (.t 31) (.c (.int .i64 3))) [31]),(2,oP 33 (.bin .add (.c (.int .i64 2)) (.t 32)) [32]),(3,oT 10 33
[33])] (.block 2 (.loop L91_1))) (.reg false [(0,oP 56 (.fa 1 (.t 3)) []),(1,oP 57 (.ld 1 false (.t 56)) [56]),(2,oP 58 (.ld 2 true (.t 9)) []),(3,oP 59 (.bsl 2 1 [.int .i64 (0),.nils] [(0,2,(.t 58))]) [9,58]),(4,oP 60
(.app 2 32 (.t 57) (.t 59)) [57,59]),(5,oP 61 (.fa 1 (.t 3)) []),(6,⟨none,.st 1 (.t 61) (.t 60),none,[],[60,61]⟩)]))))) (.reg false [(0,oT 23 7 [7]),(1,oP 24 (.bin .add (.t 23) (.c (.int .i64 1))) [23]),(2,oT 7 24
[24])])))
abbrev B91 : CCode := (sR [(0,oP 2 (.al [.int .i64 (0),.nils,.nils]) [])] (sR [(0,oP 11 (.bld [.int .i64 (0),.nils,.nils] []) []),(1,oP 3 (.al [.int .i64 (0),.nils,.nils]) []),(2,⟨none,.st 3 (.t 3) (.t
11),none,[],[11]⟩)] (sR [(0,oT 12 0 []),(1,oP 13 (.call 88 [.t 12,(.c (.int .i64 3))]) [12]),(2,oP 14 (.bin .add (.c (.int .i64 1)) (.t 13)) [13]),(3,oT 4 14 [14])] (sR [(0,oT 15 0 []),(1,oP 16 (.call 88 [.t 15,(.c
(.int .i64 4))]) [15]),(2,oP 17 (.bin .add (.c (.int .i64 1)) (.t 16)) [16]),(3,oT 5 17 [17])] (sR [(0,oT 18 0 []),(1,oP 19 (.call 88 [.t 18,(.c (.int .i64 4))]) [18]),(2,oT 6 19 [19])] (.seq (sR [(0,oP 7 (.mv (.c (.int
.i64 0))) [])] (.block 0 (.loop L91_0))) (sR [(0,oP 62 (.ld 3 true (.t 3)) []),(1,oP 63 (.call 121 [.t 62]) [3,62]),(2,⟨none,.st 3 (.t 2) (.t 63),none,[],[63]⟩)] .ret)))))))
def C91 : CFn := ⟨64,1,[.m 2 3 true],B91⟩
abbrev B92 : CCode := (sR [(0,oP 4 (.al [.int .i64 (0),.nils,.nils]) [])] (sR [(0,oT 8 1 []),(1,oT 9 0 []),(2,oP 10 (.bsl 1 10 [.str []] [(0,1,(.c (.str [63,114,120,124,121,32,115,121,124,122]))),(1,1,(.c (.str
[63,114,120,124,121,32,115,121,124,120]))),(2,1,(.c (.str [63,114,120,124,121,32,115,122,124,121]))),(3,1,(.c (.str [63,114,120,124,121,32,115,120,124,122]))),(4,1,(.c (.str [63,114,120,124,49]))),(5,1,(.c (.str
[63,114,120,124,120]))),(6,1,(.c (.str [63,114,120,124,121,32,115,121,124,49]))),(7,1,(.c (.str [63,114,120,124,121,32,115,121,124,122,32,114]))),(8,1,(.c (.str [63,114,120,124,121]))),(9,1,(.c (.str
[63,114,120,124,122,32,115,121,124,122])))]) []),(3,oP 11 (.call 123 [.t 9,.t 10]) [9,10]),(4,oP 12 (.call 122 [.t 8,.t 11]) [8,11]),(5,oT 7 12 [12]),(6,oP 13 (.ex (.t 7) 0) []),(7,oP 14 (.ex (.t 7) 1) [7]),(8,oP 5 (.al
[.int .i64 (0),.nils,.nils]) []),(9,⟨none,.st 3 (.t 5) (.t 13),none,[],[13]⟩),(10,oT 6 14 [14])] (.seq (sR [(0,oT 15 6 [6]),(1,oP 16 (.not (.t 15)) [15])] (.cond (.t 16) (sK [16] (.reg false [(0,oT 18 1 [1]),(1,oP 19
(.call 122 [.t 18,(.c (.str [63,114,120,124,121,32,115,121,124,122]))]) [18]),(2,oT 17 19 [19]),(3,oP 20 (.ex (.t 17) 0) []),(4,oP 21 (.ex (.t 17) 1) [17,21]),(5,⟨none,.st 3 (.t 5) (.t 20),none,[],[20]⟩)])) (sK [1,16]
.skip))) (sR [(0,oP 22 (.ld 3 true (.t 5)) []),(1,⟨none,.st 3 (.t 4) (.t 22),none,[],[5,22]⟩)] .ret))))
def C92 : CFn := ⟨23,2,[.m 4 3 true],B92⟩
abbrev B93 : CCode := (sR [(0,oP 4 (.mv (.c (.int .i64 0))) [4])] (sR [(0,oT 5 1 []),(1,oT 6 0 []),(2,oT 7 1 []),(3,oP 8 (.len (.t 7)) [7]),(4,oP 9 (.call 88 [.t 6,.t 8]) [6,8]),(5,oP 10 (.ia 1 (.t 5) (.t 9)) []),(6,oP
11 (.ld 1 false (.t 10)) [5,9,10]),(7,oT 4 11 [11])] .ret))
def C93 : CFn := ⟨12,2,[.t 4],B93⟩
abbrev L94_0 : CCode := (sR [(0,oP 8 (.bin .lss (.t 7) (.t 6)) [])] (.seq (.cond (.t 8) (sK [8] .skip) (sK [5,6,7,8] (.exit 0))) (.seq (.block 1 (sR [(0,oT 9 7 []),(1,oP 10 (.ia 3 (.t 5) (.t 7)) []),(2,oP 11 (.ld 3 true
(.t 10)) [10]),(3,oP 4 (.al [.str [],.int .i64 (0),.int .i64 (0)]) []),(4,oT 3 9 [9]),(5,⟨none,.st 3 (.t 4) (.t 11),none,[],[11]⟩)] (.seq (.reg true [(0,oP 12 (.ld 3 true (.t 4)) []),(1,oP 13 (.call 124 [.t 12])
[12]),(2,oP 14 (.not (.t 13)) [13]),(3,oT 15 14 [14]),(4,oG 16 (.mv (.t 3)) 15 false []),(5,oG 17 (.bin .gtr (.t 16) (.c (.int .i64 0))) 15 false [16]),(6,oG 18 (.mv (.t 17)) 15 false [17]),(7,oG 19 (.mv (.t 0)) 18 true
[]),(8,oG 20 (.mv (.t 3)) 18 true [3]),(9,oG 21 (.bin .sub (.t 20) (.c (.int .i64 1))) 18 true [20]),(10,oG 22 (.ia 3 (.t 19) (.t 21)) 18 true []),(11,oG 23 (.fa 0 (.t 22)) 18 true [22]),(12,oG 24 (.ld 1 false (.t 23))
18 true [19,21,23]),(13,oG 25 (.fa 0 (.t 4)) 18 true []),(14,oG 26 (.ld 1 false (.t 25)) 18 true [4,25]),(15,oG 27 (.bin .geq (.t 24) (.t 26)) 18 true [24,26]),(16,oG 28 (.pick (.t 18) (.t 27) (.c (.bool false))) 15
false [18,27]),(17,oP 29 (.pick (.t 15) (.c (.bool true)) (.t 28)) [15,28])]) (.cond (.t 29) (sK [0,5,6,7,29] (sR [(0,oP 2 (.mv (.c (.bool false))) [])] .ret)) (sK [29] .skip))))) (.reg false [(0,oP 30 (.bin .add (.t 7)
(.c (.int .i64 1))) [7]),(1,oT 7 30 [30])]))))
abbrev B94 : CCode := (sR [(0,oP 2 (.mv (.c (.bool false))) [2])] (.seq (sR [(0,oT 5 0 []),(1,oP 6 (.len (.t 5)) []),(2,oP 7 (.mv (.c (.int .i64 0))) [])] (.block 0 (.loop L94_0))) (sR [(0,oT 31 0 [0]),(1,oP 32 (.len
(.t 31)) [31]),(2,oP 33 (.bin .leq (.t 32) (.c (.int .i64 4))) [32]),(3,oT 2 33 [33])] .ret)))
def C94 : CFn := ⟨34,1,[.t 2],B94⟩
abbrev B95 : CCode := (sR [(0,oP 3 (.box 2 (.t 1)) [1]),(1,oP 4 (.mv (.c (.bool false))) [4])] (.seq (.reg true [(0,oP 5 (.fa 0 (.t 3)) []),(1,oP 6 (.ld 1 false (.t 5)) [5]),(2,oT 7 0 []),(3,oP 8 (.len (.t 7))
[7]),(4,oP 9 (.bin .sub (.t 8) (.c (.int .i64 1))) [8]),(5,oP 10 (.call 74 [.t 6,(.c (.int .i64 0)),.t 9]) [6,9]),(6,oT 11 10 [10]),(7,oG 12 (.fa 1 (.t 3)) 11 true []),(8,oG 13 (.ld 1 false (.t 12)) 11 true [12]),(9,oG
14 (.len (.t 13)) 11 true [13]),(10,oG 15 (.mv (.t 0)) 11 true [0]),(11,oG 16 (.fa 0 (.t 3)) 11 true []),(12,oG 17 (.ld 1 false (.t 16)) 11 true [16]),(13,oG 18 (.ia 3 (.t 15) (.t 17)) 11 true []),(14,oG 19 (.fa 1 (.t
18)) 11 true [18]),(15,oG 20 (.ld 1 false (.t 19)) 11 true [15,17,19]),(16,oG 21 (.bin .eql (.t 14) (.t 20)) 11 true [14,20]),(17,oP 22 (.pick (.t 11) (.t 21) (.c (.bool false))) [11,21]),(18,oT 23 22 [22]),(19,oG 24
(.fa 1 (.t 3)) 23 true []),(20,oG 25 (.ld 1 false (.t 24)) 23 true [24]),(21,oG 26 (.call 125 [.t 25]) 23 true [3,25]),(22,oP 27 (.pick (.t 23) (.t 26) (.c (.bool false))) [23,26]),(23,oT 4 27 [27])]) .ret))
def C95 : CFn := ⟨28,2,[.t 4],B95⟩
abbrev B96 : CCode := (sR [(0,oP 2 (.box 2 (.t 0)) [0]),(1,oP 3 (.box 2 (.t 1)) [1]),(2,oP 4 (.mv (.c (.int .i64 0))) [4])] (.seq (sR [(0,oP 5 (.fa 0 (.t 2)) []),(1,oP 6 (.ld 1 false (.t 5)) [5]),(2,oP 7 (.fa 0 (.t 3))
[]),(3,oP 8 (.ld 1 false (.t 7)) [7]),(4,oP 9 (.bin .neq (.t 6) (.t 8)) [6,8])] (.cond (.t 9) (sK [9] (sR [(0,oP 10 (.fa 0 (.t 2)) []),(1,oP 11 (.ld 1 false (.t 10)) [2,10]),(2,oP 12 (.fa 0 (.t 3)) []),(3,oP 13 (.ld 1
false (.t 12)) [3,12]),(4,oP 14 (.call 126 [.t 11,.t 13]) [11,13]),(5,oT 4 14 [14])] .ret)) (sK [9] .skip))) (sR [(0,oP 15 (.fa 1 (.t 2)) []),(1,oP 16 (.ld 1 false (.t 15)) [15]),(2,oP 17 (.fa 1 (.t 3)) []),(3,oP 18
(.ld 1 false (.t 17)) [17]),(4,oP 19 (.call 127 [.t 16,.t 18]) [2,3,16,18]),(5,oT 4 19 [19])] .ret)))
def C96 : CFn := ⟨20,2,[.t 4],B96⟩
abbrev L97_0 : CCode := (sR [(0,oP 10 (.bin .lss (.t 9) (.t 8)) [])] (.seq (.cond (.t 10) (sK [10] .skip) (sK [0,1,7,8,9,10] (.exit 0))) (.seq (.block 1 (sR [(0,oT 11 9 []),(1,oP 12 (.ia 1 (.t 7) (.t 9)) []),(2,oP 13
(.ld 1 false (.t 12)) [12]),(3,oT 5 11 [11]),(4,oT 6 13 [13])] (sR [(0,oT 14 6 []),(1,oT 15 1 []),(2,oP 16 (.bin .sub (.t 15) (.c (.int .i64 1))) [15]),(3,oP 17 (.call 74 [.t 14,(.c (.int .i64 0)),.t 16]) [14,16]),(4,oP
18 (.not (.t 17)) [17]),(5,oT 19 18 [18]),(6,oG 20 (.mv (.t 5)) 19 false []),(7,oG 21 (.bin .gtr (.t 20) (.c (.int .i64 0))) 19 false [20]),(8,oG 22 (.mv (.t 21)) 19 false [21]),(9,oG 23 (.mv (.t 0)) 22 true []),(10,oG
24 (.mv (.t 5)) 22 true [5]),(11,oG 25 (.bin .sub (.t 24) (.c (.int .i64 1))) 22 true [24]),(12,oG 26 (.ia 1 (.t 23) (.t 25)) 22 true []),(13,oG 27 (.ld 1 false (.t 26)) 22 true [23,25,26]),(14,oG 28 (.mv (.t 6)) 22
true [6]),(15,oG 29 (.bin .geq (.t 27) (.t 28)) 22 true [27,28]),(16,oG 30 (.pick (.t 22) (.t 29) (.c (.bool false))) 19 false [22,29]),(17,oP 31 (.pick (.t 19) (.c (.bool true)) (.t 30)) [19,30])] (.cond (.t 31) (sK
[0,1,7,8,9,31] (sR [(0,oP 4 (.mv (.c (.bool false))) [])] .ret)) (sK [31] .skip))))) (.reg false [(0,oP 32 (.bin .add (.t 9) (.c (.int .i64 1))) [9]),(1,oT 9 32 [32])]))))
abbrev B97 : CCode := (sR [(0,oP 4 (.mv (.c (.bool false))) [4])] (.seq (sR [(0,oT 7 0 []),(1,oP 8 (.len (.t 7)) []),(2,oP 9 (.mv (.c (.int .i64 0))) [])] (.block 0 (.loop L97_0))) (sR [(0,oP 4 (.mv (.c (.bool true)))
[])] .ret)))
def C97 : CFn := ⟨33,2,[.t 4],B97⟩
abbrev B98 : CCode := (sR [(0,oP 4 (.mv (.c (.bool false))) [4])] (sR [(0,oT 5 0 [0]),(1,oT 6 1 [1]),(2,oP 7 (.call 128 [.t 5,.t 6]) [5,6]),(3,oP 8 (.bin .geq (.t 7) (.c (.int .i64 0))) [7]),(4,oT 4 8 [8])] .ret))
def C98 : CFn := ⟨9,2,[.t 4],B98⟩
abbrev B99 : CCode := (sR [(0,oP 2 (.box 2 (.t 0)) [0]),(1,oP 3 (.mv (.c (.bool false))) [3])] (sR [(0,oP 4 (.fa 0 (.t 2)) []),(1,oP 5 (.ld 1 false (.t 4)) [2,4]),(2,oP 6 (.fa 0 (.t 1)) []),(3,oP 7 (.ld 1 false (.t 6))
[1,6]),(4,oP 8 (.bin .eql (.t 5) (.t 7)) [5,7]),(5,oT 3 8 [8])] .ret))
def C99 : CFn := ⟨9,2,[.t 3],B99⟩
abbrev B100 : CCode := (sR [(0,oP 4 (.mv (.c (.nils))) [4])] (sR [(0,oT 6 0 [0]),(1,oT 7 1 [1]),(2,oP 8 (.bsl 1 2 [.nils] [(0,1,(.t 6)),(1,1,(.t 7))]) [6,7]),(3,oP 9 (.call 129 [.t 8]) [8]),(4,oT 5 9 [9])] (sR [(0,oT 10
5 []),(1,oP 11 (.call 69 [.t 10]) [10,11])] (sR [(0,oT 12 5 [5]),(1,oP 13 (.call 130 [.t 12]) [12]),(2,oT 4 13 [13])] .ret))))
def C100 : CFn := ⟨14,2,[.t 4],B100⟩
abbrev L101_0 : CCode := (sR [(0,oP 11 (.bin .lss (.t 10) (.t 9)) [])] (.seq (.cond (.t 11) (sK [11] .skip) (sK [1,8,9,10,11] (.exit 0))) (.seq (.block 1 (sR [(0,oP 12 (.ia 1 (.t 8) (.t 10)) []),(1,oP 13 (.ld 1 false
(.t 12)) [12]),(2,oT 5 13 [13])] (sR [(0,oT 14 5 []),(1,oP 15 (.call 74 [.t 14,(.c (.int .i64 0)),(.c (.int .i64 3))]) [14])] (.cond (.t 15) (sK [15] (.reg false [(0,oT 16 3 [3]),(1,oT 17 5 [5]),(2,oP 18 (.bsl 1 1 [.int
.i64 (0)] [(0,1,(.t 17))]) [17]),(3,oP 19 (.app 1 8 (.t 16) (.t 18)) [16,18]),(4,oT 3 19 [19])])) (sK [5,15] .skip))))) (.reg false [(0,oP 20 (.bin .add (.t 10) (.c (.int .i64 1))) [10]),(1,oT 10 20 [20])]))))
abbrev B101 : CCode := (sR [(0,oP 1 (.box 2 (.t 0)) [0]),(1,oP 2 (.mv (.c (.nils))) [2])] (sR [(0,oP 6 (.bsl 1 0 [.int .i64 (0)] []) []),(1,oT 3 6 [6])] (.seq (sR [(0,oP 7 (.fa 1 (.t 1)) []),(1,oP 8 (.ld 1 false (.t 7))
[7]),(2,oP 9 (.len (.t 8)) []),(3,oP 10 (.mv (.c (.int .i64 0))) [])] (.block 0 (.loop L101_0))) (sR [(0,oT 21 3 [3]),(1,oP 22 (.call 100 [.t 21,(.c (.nils))]) [21]),(2,oT 2 22 [22])] .ret))))
def C101 : CFn := ⟨23,1,[.t 2],B101⟩
abbrev L102_0 : CCode := (sR [(0,oP 14 (.bin .lss (.t 13) (.t 12)) [])] (.seq (.cond (.t 14) (sK [14] .skip) (sK [0,1,12,13,14] (.exit 0))) (.seq (.block 1 (sR [(0,oT 15 13 []),(1,oT 5 15 [15])] (.seq (.reg true [(0,oT
16 0 []),(1,oT 17 5 []),(2,oP 18 (.ia 1 (.t 16) (.t 17)) []),(3,oP 19 (.ld 1 false (.t 18)) [16,17,18]),(4,oT 20 1 []),(5,oT 21 5 [5]),(6,oP 22 (.ia 1 (.t 20) (.t 21)) []),(7,oP 23 (.ld 1 false (.t 22))
[20,21,22]),(8,oP 24 (.bin .neq (.t 19) (.t 23)) [19,23])]) (.cond (.t 24) (sK [0,1,12,13,24] (sR [(0,oP 4 (.mv (.c (.bool false))) [])] .ret)) (sK [24] .skip))))) (.reg false [(0,oP 25 (.bin .add (.t 13) (.c (.int .i64
1))) [13]),(1,oT 13 25 [25])]))))
abbrev B102 : CCode := (sR [(0,oP 4 (.mv (.c (.bool false))) [4])] (.seq (sR [(0,oT 6 0 []),(1,oP 7 (.len (.t 6)) [6]),(2,oT 8 1 []),(3,oP 9 (.len (.t 8)) [8]),(4,oP 10 (.bin .neq (.t 7) (.t 9)) [7,9])] (.cond (.t 10)
(sK [0,1,10] (sR [(0,oP 4 (.mv (.c (.bool false))) [])] .ret)) (sK [10] .skip))) (.seq (sR [(0,oT 11 0 []),(1,oP 12 (.len (.t 11)) [11]),(2,oP 13 (.mv (.c (.int .i64 0))) [])] (.block 0 (.loop L102_0))) (sR [(0,oP 4
(.mv (.c (.bool true))) [])] .ret))))
def C102 : CFn := ⟨26,2,[.t 4],B102⟩
abbrev L103_0 : CCode := (sR [(0,oP 37 (.bin .lss (.t 36) (.t 35)) [])] (.seq (.cond (.t 37) (sK [37] .skip) (sK [0,1,2,4,5,8,34,35,36,37] (.exit 0))) (.seq (.block 1 (sR [(0,oT 38 36 []),(1,oP 39 (.ia 2 (.t 34) (.t
36)) []),(2,oP 40 (.ld 2 true (.t 39)) [39]),(3,oP 10 (.al [.int .i64 (0),.nils]) []),(4,oT 9 38 [38]),(5,⟨none,.st 2 (.t 10) (.t 40),none,[],[40]⟩)] (.seq (sR [(0,oP 41 (.fa 0 (.t 10)) []),(1,oP 42 (.ld 1 false (.t
41)) [41]),(2,oP 43 (.fa 0 (.t 8)) []),(3,oP 44 (.ld 1 false (.t 43)) [43]),(4,oP 45 (.bin .neq (.t 42) (.t 44)) [42,44])] (.cond (.t 45) (sK [9,10,45] (.exit 1)) (sK [45] .skip))) (sR [(0,oT 47 0 []),(1,oP 48 (.fa 1
(.t 8)) []),(2,oP 49 (.ld 1 false (.t 48)) [48]),(3,oP 50 (.fa 1 (.t 10)) []),(4,oP 51 (.ld 1 false (.t 50)) [50]),(5,oP 52 (.call 105 [.t 47,.t 49,.t 51]) [10,47,49,51]),(6,oT 46 52 [52]),(7,oP 53 (.ex (.t 46) 0)
[]),(8,oP 54 (.ex (.t 46) 1) [46]),(9,oT 11 53 [53]),(10,oT 12 54 [54])] (sR [(0,oT 55 12 [12])] (.cond (.t 55) (sK [55] (.reg true [(0,oP 56 (.ld 1 false (.t 5)) []),(1,oT 57 11 [11]),(2,oT 58 1 []),(4,oT 60 9
[9]),(5,oP 61 (.bsl 1 1 [.int .i64 (0)] [(0,1,(.t 60))]) [60]),(3,⟨some 59,.call 104 [.t 58],none,[(5,1)],[58]⟩),(6,⟨some 62,.app 1 8 (.t 59) (.t 61),none,[(5,1)],[59,61]⟩),(7,oP 63 (.callv (.t 56) [.t 57,.t 62])
[56,57,62,63])])) (sK [9,11,55] .skip))))))) (.reg false [(0,oP 64 (.bin .add (.t 36) (.c (.int .i64 1))) [36]),(1,oT 36 64 [64])]))))
abbrev B103 : CCode := (.seq (sR [(0,oT 13 1 []),(1,oP 14 (.len (.t 13)) [13]),(2,oP 15 (.fa 1 (.t 2)) []),(3,oP 16 (.ld 1 false (.t 15)) [15]),(4,oP 17 (.len (.t 16)) [16]),(5,oP 18 (.bin .eql (.t 14) (.t 17))
[14,17])] (.cond (.t 18) (sK [2,4,5,18] (.seq (.reg true [(0,oP 19 (.ld 1 false (.t 3)) []),(1,oT 20 0 [0]),(3,oT 22 1 [1]),(2,⟨some 21,.call 104 [.t 20],none,[(3,1)],[20]⟩),(4,⟨some 23,.call 104 [.t
22],none,[(3,1)],[22]⟩),(5,oP 24 (.bld [.nils,.nils] [(0,1,(.t 21)),(1,1,(.t 23))]) [21,23]),(6,oP 25 (.bsl 2 1 [.nils,.nils] [(0,2,(.t 24))]) [24]),(7,oP 26 (.app 2 48 (.t 19) (.t 25)) [19,25]),(8,⟨none,.st 1 (.t 3)
(.t 26),none,[],[26]⟩)]) .ret)) (sK [18] .skip))) (sR [(0,oP 27 (.fa 1 (.t 2)) []),(1,oP 28 (.ld 1 false (.t 27)) [27]),(2,oT 29 1 []),(3,oP 30 (.len (.t 29)) [29]),(4,oP 31 (.ia 2 (.t 28) (.t 30)) [28]),(5,oP 32 (.ld 2
true (.t 31)) [31]),(6,oP 8 (.al [.int .i64 (0),.nils]) []),(7,⟨none,.st 2 (.t 8) (.t 32),none,[],[30,32]⟩)] (sR [(0,oP 33 (.fa 1 (.t 4)) []),(1,oP 34 (.ld 1 false (.t 33)) [33]),(2,oP 35 (.len (.t 34)) []),(3,oP 36
(.mv (.c (.int .i64 0))) [])] (.block 0 (.loop L103_0)))))
def C103 : CFn := ⟨65,6,[],B103⟩
abbrev B104 : CCode := (sR [(0,oP 2 (.mv (.c (.nils))) [2])] (.seq (sR [(0,oT 3 0 []),(1,oP 4 (.isnil false (.t 3)) [3])] (.cond (.t 4) (sK [0,4] (sR [(0,oP 2 (.mv (.c (.nils))) [])] .ret)) (sK [4] .skip))) (sR [(0,oP 5
(.bsl 1 0 [.int .i64 (0)] []) []),(1,oT 6 0 [0]),(2,oP 7 (.app 1 8 (.t 5) (.t 6)) [5,6]),(3,oT 2 7 [7])] .ret)))
def C104 : CFn := ⟨8,1,[.t 2],B104⟩
abbrev L105_0 : CCode := (sR [(0,oP 16 (.bin .lss (.t 15) (.t 14)) [])] (.seq (.cond (.t 16) (sK [16] .skip) (sK [2,13,14,15,16] (.exit 0))) (.seq (.block 1 (sR [(0,oT 17 15 []),(1,oP 18 (.ia 1 (.t 13) (.t 15))
[]),(2,oP 19 (.ld 1 false (.t 18)) [18]),(3,oT 9 17 [17]),(4,oT 10 19 [19])] (.block 2 (sR [(0,oT 21 10 []),(1,oP 22 (.call 131 [.t 21]) [21]),(2,oP 23 (.not (.t 22)) [22]),(3,oT 20 23 [23])] (.cond (.t 20) (sK [20]
(.seq (.reg true [(0,oT 24 10 [10]),(2,oT 26 2 []),(3,oT 27 9 [9]),(4,oP 28 (.ia 1 (.t 26) (.t 27)) []),(5,oP 29 (.ld 1 false (.t 28)) []),(1,⟨some 25,.call 132 [.t 24],none,[(28,1)],[24,26,27,28]⟩),(6,oP 30 (.bin .neq
(.t 25) (.t 29)) [25,29])]) (.cond (.t 30) (sK [2,8,13,14,15,30] (sR [(0,oP 6 (.mv (.c (.nils))) []),(1,oP 7 (.mv (.c (.bool false))) [])] .ret)) (sK [30] .skip)))) (sK [20] (sR [(0,oT 32 8 []),(1,oT 33 10 []),(2,oP 34
(.ia 1 (.t 32) (.t 33)) []),(3,oP 35 (.ld 1 false (.t 34)) [32,33,34]),(4,oP 36 (.bin .lss (.t 35) (.c (.int .i64 0))) [35]),(5,oT 31 36 [36])] (.cond (.t 31) (sK [31] (.reg false [(0,oT 37 8 []),(1,oT 38 10 [10]),(2,oT
39 2 []),(3,oT 40 9 [9]),(4,oP 41 (.ia 1 (.t 39) (.t 40)) []),(5,oP 42 (.ld 1 false (.t 41)) [39,40,41]),(6,oP 43 (.ia 1 (.t 37) (.t 38)) []),(7,⟨none,.st 1 (.t 43) (.t 42),none,[],[37,38,42,43]⟩)])) (sK [31] (.seq
(.reg true [(0,oT 45 8 []),(1,oT 46 10 [10]),(2,oP 47 (.ia 1 (.t 45) (.t 46)) []),(3,oP 48 (.ld 1 false (.t 47)) [45,46,47]),(4,oT 49 2 []),(5,oT 50 9 [9]),(6,oP 51 (.ia 1 (.t 49) (.t 50)) []),(7,oP 52 (.ld 1 false (.t
51)) [49,50,51]),(8,oP 53 (.bin .neq (.t 48) (.t 52)) [48,52]),(9,oT 44 53 [53])]) (.cond (.t 44) (sK [2,8,13,14,15,44] (sR [(0,oP 6 (.mv (.c (.nils))) []),(1,oP 7 (.mv (.c (.bool false))) [])] .ret)) (sK [44]
.skip)))))))))))) (.reg false [(0,oP 54 (.bin .add (.t 15) (.c (.int .i64 1))) [15]),(1,oT 15 54 [54])]))))
abbrev B105 : CCode := (sR [(0,oP 6 (.mv (.c (.nils))) [6]),(1,oP 7 (.mv (.c (.bool false))) [7])] (sR [(0,oT 11 0 [0]),(1,oP 12 (.call 104 [.t 11]) [11]),(2,oT 8 12 [12])] (.seq (sR [(0,oT 13 1 [1]),(1,oP 14 (.len (.t
13)) []),(2,oP 15 (.mv (.c (.int .i64 0))) [])] (.block 0 (.loop L105_0))) (sR [(0,oT 55 8 [8]),(1,oT 6 55 [55]),(2,oP 7 (.mv (.c (.bool true))) [])] .ret))))
def C105 : CFn := ⟨56,3,[.t 6,.t 7],B105⟩
abbrev B106 : CCode := (sR [(0,oP 2 (.mv (.c (.nils))) [2])] (sR [(0,oP 3 (.bsl 1 1 [.int .i64 (0)] [(0,1,(.c (.int .i64 (-1))))]) []),(1,oT 4 0 [0]),(2,oP 5 (.call 133 [.t 3,.t 4]) [3,4]),(3,oT 2 5 [5])] .ret))
def C106 : CFn := ⟨6,1,[.t 2],B106⟩
abbrev B109 : CCode := (sR [(0,oP 4 (.box 2 (.t 1)) [1]),(1,oP 5 (.box 2 (.t 2)) [2]),(2,oP 6 (.mv (.c (.bool false))) [6])] (.seq (.reg true [(0,oT 7 0 []),(1,oP 8 (.ld 2 true (.t 4)) []),(2,oP 9 (.call 71 [.t 7,.t 8])
[7,8]),(3,oT 10 9 [9]),(4,oG 11 (.mv (.t 0)) 10 true []),(5,oG 12 (.ld 2 true (.t 5)) 10 true []),(6,oG 13 (.call 71 [.t 11,.t 12]) 10 true [11,12]),(7,oP 14 (.pick (.t 10) (.t 13) (.c (.bool false))) [10,13]),(8,oT 15
14 [14]),(9,oG 16 (.fa 0 (.t 4)) 15 true []),(10,oG 17 (.ld 1 false (.t 16)) 15 true [16]),(11,oG 18 (.fa 0 (.t 5)) 15 true []),(12,oG 19 (.ld 1 false (.t 18)) 15 true [18]),(13,oG 20 (.bin .eql (.t 17) (.t 19)) 15 true
[17,19]),(14,oP 21 (.pick (.t 15) (.t 20) (.c (.bool false))) [15,20]),(15,oT 22 21 [21]),(16,oG 23 (.mv (.t 0)) 22 true []),(17,oG 24 (.ld 2 true (.t 4)) 22 true []),(19,oG 26 (.mv (.t 0)) 22 true []),(20,oG 27 (.ld 2
true (.t 5)) 22 true []),(18,⟨some 25,.call 145 [.t 23,.t 24],some (22,true),[(5,2)],[4,23,24]⟩),(21,oG 28 (.call 145 [.t 26,.t 27]) 22 true [5,26,27]),(22,oG 29 (.call 110 [.t 25,.t 28]) 22 true [25,28]),(23,oG 30
(.bin .eql (.t 29) (.c (.int .i64 0))) 22 true [29]),(24,oP 31 (.pick (.t 22) (.t 30) (.c (.bool false))) [22,30]),(25,oT 6 31 [31])]) .ret))
def C109 : CFn := ⟨32,3,[.t 6],B109⟩
abbrev L110_0 : CCode := (.seq (sR [(0,oT 6 5 []),(1,oT 7 0 []),(2,oP 8 (.len (.t 7)) [7]),(3,oP 9 (.bin .lss (.t 6) (.t 8)) [6,8]),(4,oT 10 9 [9]),(5,oG 11 (.mv (.t 5)) 10 true []),(6,oG 12 (.mv (.t 1)) 10 true
[]),(7,oG 13 (.len (.t 12)) 10 true [12]),(8,oG 14 (.bin .lss (.t 11) (.t 13)) 10 true [11,13]),(9,oP 15 (.pick (.t 10) (.t 14) (.c (.bool false))) [10,14])] (.cond (.t 15) (sK [15] .skip) (sK [5,15] (.exit 0)))) (.seq
(.block 1 (.seq (.seq (.reg true [(0,oT 18 0 []),(1,oT 19 5 []),(2,oP 20 (.ia 1 (.t 18) (.t 19)) []),(3,oP 21 (.ld 1 false (.t 20)) [18,19,20]),(4,oT 22 1 []),(5,oT 23 5 []),(6,oP 24 (.ia 1 (.t 22) (.t 23)) []),(7,oP 25
(.ld 1 false (.t 24)) [22,23,24]),(8,oP 26 (.bin .lss (.t 21) (.t 25)) [21,25])]) (.cond (.t 26) (sK [0,1,5,26] (sR [(0,oP 4 (.mv (.c (.int .i64 (-1)))) [])] .ret)) (sK [26] .skip))) (.seq (.reg true [(0,oT 27 0
[]),(1,oT 28 5 []),(2,oP 29 (.ia 1 (.t 27) (.t 28)) []),(3,oP 30 (.ld 1 false (.t 29)) [27,28,29]),(4,oT 31 1 []),(5,oT 32 5 []),(6,oP 33 (.ia 1 (.t 31) (.t 32)) []),(7,oP 34 (.ld 1 false (.t 33)) [31,32,33]),(8,oP 35
(.bin .gtr (.t 30) (.t 34)) [30,34])]) (.cond (.t 35) (sK [0,1,5,35] (sR [(0,oP 4 (.mv (.c (.int .i64 1))) [])] .ret)) (sK [35] .skip))))) (.reg false [(0,oT 16 5 [5]),(1,oP 17 (.bin .add (.t 16) (.c (.int .i64 1)))
[16]),(2,oT 5 17 [17])])))
abbrev B110 : CCode := (sR [(0,oP 4 (.mv (.c (.int .i64 0))) [4])] (.seq (sR [(0,oP 5 (.mv (.c (.int .i64 0))) [])] (.block 0 (.loop L110_0))) (.seq (sR [(0,oT 36 0 []),(1,oP 37 (.len (.t 36)) [36]),(2,oT 38 1 []),(3,oP
39 (.len (.t 38)) [38]),(4,oP 40 (.bin .lss (.t 37) (.t 39)) [37,39])] (.cond (.t 40) (sK [0,1,40] (sR [(0,oP 4 (.mv (.c (.int .i64 (-1)))) [])] .ret)) (sK [40] .skip))) (.seq (sR [(0,oT 41 0 [0]),(1,oP 42 (.len (.t
41)) [41]),(2,oT 43 1 [1]),(3,oP 44 (.len (.t 43)) [43]),(4,oP 45 (.bin .gtr (.t 42) (.t 44)) [42,44])] (.cond (.t 45) (sK [45] (sR [(0,oP 4 (.mv (.c (.int .i64 1))) [])] .ret)) (sK [45] .skip))) (sR [(0,oP 4 (.mv (.c
(.int .i64 0))) [])] .ret)))))
def C110 : CFn := ⟨46,2,[.t 4],B110⟩
abbrev B111 : CCode := (sR [(0,oP 1 (.box 3 (.t 0)) [0]),(1,oP 2 (.mv (.c (.bool false))) [2])] (sR [(0,oP 3 (.fa 0 (.t 1)) []),(1,oP 4 (.ld 1 false (.t 3)) [3]),(2,oP 5 (.lens (.t 4)) [4]),(3,oP 6 (.bin .eql (.t 5) (.c
(.int .i64 1))) [5]),(4,oT 7 6 [6]),(5,oG 8 (.fa 0 (.t 1)) 7 true []),(6,oG 9 (.ld 1 false (.t 8)) 7 true [8]),(7,oG 10 (.ix (.t 9) (.c (.int .i64 0))) 7 true [9]),(8,oG 11 (.bin .geq (.t 10) (.c (.int .u8 (97)))) 7
true [10]),(9,oP 12 (.pick (.t 7) (.t 11) (.c (.bool false))) [7,11]),(10,oT 13 12 [12]),(11,oG 14 (.fa 0 (.t 1)) 13 true []),(12,oG 15 (.ld 1 false (.t 14)) 13 true [14]),(13,oG 16 (.ix (.t 15) (.c (.int .i64 0))) 13
true [15]),(14,oG 17 (.bin .leq (.t 16) (.c (.int .u8 (122)))) 13 true [16]),(15,oP 18 (.pick (.t 13) (.t 17) (.c (.bool false))) [13,17]),(16,oT 19 18 [18]),(17,oG 20 (.fa 1 (.t 1)) 19 true []),(18,oG 21 (.ld 1 false
(.t 20)) 19 true [20]),(19,oG 22 (.call 38 [.t 21,(.c (.int .i64 1)),(.c (.int .i64 3))]) 19 true [21]),(20,oP 23 (.pick (.t 19) (.t 22) (.c (.bool false))) [19,22]),(21,oT 24 23 [23]),(22,oG 25 (.fa 2 (.t 1)) 24 true
[]),(23,oG 26 (.ld 1 false (.t 25)) 24 true [25]),(24,oG 27 (.fa 1 (.t 1)) 24 true []),(25,oG 28 (.ld 1 false (.t 27)) 24 true [1,27]),(26,oG 29 (.call 38 [.t 26,(.c (.int .i64 0)),.t 28]) 24 true [26,28]),(27,oP 30
(.pick (.t 24) (.t 29) (.c (.bool false))) [24,29]),(28,oT 2 30 [30])] .ret))
def C111 : CFn := ⟨31,1,[.t 2],B111⟩
abbrev L112_0 : CCode := (.seq (sR [(0,oT 29 9 []),(1,oP 30 (.fa 1 (.t 3)) []),(2,oP 31 (.ld 1 false (.t 30)) [30]),(3,oP 32 (.len (.t 31)) [31]),(4,oP 33 (.bin .lss (.t 29) (.t 32)) [29,32])] (.cond (.t 33) (sK [33]
.skip) (sK [3,4,9,33] (.exit 0)))) (.seq (.block 1 (sR [(0,oP 36 (.fa 1 (.t 3)) []),(1,oP 37 (.ld 1 false (.t 36)) [36]),(2,oT 38 9 []),(3,oP 39 (.ia 1 (.t 37) (.t 38)) [37]),(4,oP 40 (.ld 1 false (.t 39))
[38,39]),(5,oT 10 40 [40])] (.seq (sR [(0,oT 41 10 []),(1,oP 42 (.bin .lss (.t 41) (.c (.int .i64 0))) [41])] (.cond (.t 42) (sK [42] (.seq (sR [(0,oT 43 10 [10]),(1,oP 44 (.bin .sub (.c (.int .i64 (-1))) (.t 43))
[43]),(2,oP 45 (.fa 1 (.t 4)) []),(3,oP 46 (.ld 1 false (.t 45)) [45]),(4,oT 47 9 []),(5,oP 48 (.ia 1 (.t 46) (.t 47)) [46]),(6,oP 49 (.ld 1 false (.t 48)) [47,48]),(7,oP 50 (.bin .neq (.t 44) (.t 49)) [44,49])] (.cond
(.t 50) (sK [3,4,9,50] (sR [(0,oT 51 8 [8]),(1,oT 6 51 [51]),(2,oP 7 (.mv (.c (.bool false))) [])] .ret)) (sK [50] .skip))) (.exit 1))) (sK [42] .skip))) (.seq (.seq (.reg true [(0,oT 52 8 []),(1,oT 53 10 []),(2,oP 54
(.ia 1 (.t 52) (.t 53)) []),(3,oP 55 (.ld 1 false (.t 54)) [52,53,54]),(4,oP 56 (.bin .geq (.t 55) (.c (.int .i64 0))) [55]),(5,oT 57 56 [56]),(6,oG 58 (.mv (.t 8)) 57 true []),(7,oG 59 (.mv (.t 10)) 57 true []),(8,oG
60 (.ia 1 (.t 58) (.t 59)) 57 true []),(9,oG 61 (.ld 1 false (.t 60)) 57 true [58,59,60]),(10,oG 62 (.fa 1 (.t 4)) 57 true []),(11,oG 63 (.ld 1 false (.t 62)) 57 true [62]),(12,oG 64 (.mv (.t 9)) 57 true []),(13,oG 65
(.ia 1 (.t 63) (.t 64)) 57 true [63]),(14,oG 66 (.ld 1 false (.t 65)) 57 true [64,65]),(15,oG 67 (.bin .neq (.t 61) (.t 66)) 57 true [61,66]),(16,oP 68 (.pick (.t 57) (.t 67) (.c (.bool false))) [57,67])]) (.cond (.t
68) (sK [3,4,9,10,68] (sR [(0,oT 69 8 [8]),(1,oT 6 69 [69]),(2,oP 7 (.mv (.c (.bool false))) [])] .ret)) (sK [68] .skip))) (.reg false [(0,oT 70 8 []),(1,oT 71 10 [10]),(2,oP 72 (.fa 1 (.t 4)) []),(3,oP 73 (.ld 1 false
(.t 72)) [72]),(4,oT 74 9 []),(5,oP 75 (.ia 1 (.t 73) (.t 74)) [73]),(6,oP 76 (.ld 1 false (.t 75)) [74,75]),(7,oP 77 (.ia 1 (.t 70) (.t 71)) []),(8,⟨none,.st 1 (.t 77) (.t 76),none,[],[70,71,76,77]⟩)]))))) (.reg false
[(0,oT 34 9 [9]),(1,oP 35 (.bin .add (.t 34) (.c (.int .i64 1))) [34]),(2,oT 9 35 [35])])))
abbrev B112 : CCode := (sR [(0,oP 3 (.box 2 (.t 0)) [0]),(1,oP 4 (.box 2 (.t 1)) [1]),(2,oP 6 (.mv (.c (.nils))) [6]),(3,oP 7 (.mv (.c (.bool false))) [7])] (sR [(0,oP 11 (.bsl 1 0 [.int .i64 (0)] []) []),(1,oT 12 2
[2]),(2,oP 13 (.app 1 8 (.t 11) (.t 12)) [11,12]),(3,oT 8 13 [13])] (.seq (sR [(0,oP 14 (.fa 0 (.t 4)) []),(1,oP 15 (.ld 1 false (.t 14)) [14]),(2,oP 16 (.fa 0 (.t 3)) []),(3,oP 17 (.ld 1 false (.t 16)) [16]),(4,oP 18
(.bin .neq (.t 15) (.t 17)) [15,17]),(5,oT 19 18 [18]),(6,oG 20 (.fa 1 (.t 4)) 19 false []),(7,oG 21 (.ld 1 false (.t 20)) 19 false [20]),(8,oG 22 (.len (.t 21)) 19 false [21]),(9,oG 23 (.fa 1 (.t 3)) 19 false
[]),(10,oG 24 (.ld 1 false (.t 23)) 19 false [23]),(11,oG 25 (.len (.t 24)) 19 false [24]),(12,oG 26 (.bin .neq (.t 22) (.t 25)) 19 false [22,25]),(13,oP 27 (.pick (.t 19) (.c (.bool true)) (.t 26)) [19,26])] (.cond (.t
27) (sK [3,4,27] (sR [(0,oT 28 8 [8]),(1,oT 6 28 [28]),(2,oP 7 (.mv (.c (.bool false))) [])] .ret)) (sK [27] .skip))) (.seq (sR [(0,oP 9 (.mv (.c (.int .i64 0))) [])] (.block 0 (.loop L112_0))) (sR [(0,oT 78 8
[8]),(1,oT 6 78 [78]),(2,oP 7 (.mv (.c (.bool true))) [])] .ret)))))
def C112 : CFn := ⟨79,3,[.t 6,.t 7],B112⟩
abbrev L115_0 : CCode := (sR [(0,oP 9 (.bin .lss (.t 8) (.t 7)) [])] (.seq (.cond (.t 9) (sK [9] .skip) (sK [0,1,7,8,9] (.exit 0))) (.seq (.block 1 (sR [(0,oT 10 8 []),(1,oT 5 10 [10])] (sR [(0,oT 11 1 []),(1,oT 12 0
[]),(2,oT 13 5 []),(3,oP 14 (.ia 1 (.t 12) (.t 13)) []),(4,oP 15 (.ld 1 false (.t 14)) [12,13,14]),(5,oP 16 (.bin .eql (.t 11) (.t 15)) [11,15])] (.cond (.t 16) (sK [0,1,7,8,16] (sR [(0,oT 17 5 [5]),(1,oT 4 17 [17])]
.ret)) (sK [5,16] .skip))))) (.reg false [(0,oP 18 (.bin .add (.t 8) (.c (.int .i64 1))) [8]),(1,oT 8 18 [18])]))))
abbrev B115 : CCode := (sR [(0,oP 4 (.mv (.c (.int .i64 0))) [4])] (.seq (sR [(0,oT 6 0 []),(1,oP 7 (.len (.t 6)) [6]),(2,oP 8 (.mv (.c (.int .i64 0))) [])] (.block 0 (.loop L115_0))) (sR [(0,oP 4 (.mv (.c (.int .i64
(-1)))) [])] .ret)))
def C115 : CFn := ⟨19,2,[.t 4],B115⟩
abbrev B116 : CCode := (sR [(0,oP 2 (.mv (.c (.int .i64 0))) [2])] (sR [(0,oT 4 0 []),(1,oT 5 0 []),(2,oP 6 (.nc (.t 5)) []),(3,oP 7 (.fa 2 (.t 6)) [6]),(4,oP 8 (.ld 1 false (.t 7)) [5,7]),(5,oP 9 (.bin .mul (.t 8) (.c
(.int .i64 6364136223846793005))) [8]),(6,oP 10 (.bin .add (.t 9) (.c (.int .i64 1442695040888963407))) [9]),(7,oP 11 (.nc (.t 4)) []),(8,oP 12 (.fa 2 (.t 11)) [11]),(9,⟨none,.st 1 (.t 12) (.t 10),none,[],[4,10,12]⟩)]
(.seq (.reg true [(0,oT 13 0 []),(1,oP 14 (.nc (.t 13)) []),(2,oP 15 (.fa 2 (.t 14)) [14]),(3,oP 16 (.ld 1 false (.t 15)) [13,15]),(4,oP 17 (.bin .shr (.t 16) (.c (.int .u64 (33)))) [16]),(5,oT 18 0 []),(6,oP 19 (.nc
(.t 18)) []),(7,oP 20 (.fa 2 (.t 19)) [19]),(8,oP 21 (.ld 1 false (.t 20)) [18,20]),(9,oP 22 (.bin .shr (.t 21) (.c (.int .u64 (45)))) [21]),(10,oP 23 (.bin .xor (.t 17) (.t 22)) [17,22]),(11,oP 24 (.bin .and (.t 23)
(.c (.int .i64 255))) [23]),(12,oT 3 24 [24])]) (.seq (.seq (.reg true [(0,oT 25 0 []),(1,oP 26 (.nc (.t 25)) []),(2,oP 27 (.fa 1 (.t 26)) [26]),(3,oP 28 (.ld 1 false (.t 27)) [25,27]),(4,oT 29 0 []),(5,oP 30 (.nc (.t
29)) []),(6,oP 31 (.fa 0 (.t 30)) [30]),(7,oP 32 (.ld 1 false (.t 31)) [31]),(8,oP 33 (.len (.t 32)) [29,32]),(9,oP 34 (.bin .lss (.t 28) (.t 33)) [28,33])]) (.cond (.t 34) (sK [34] (.seq (.reg true [(0,oT 35 3
[3]),(1,oT 36 0 []),(2,oP 37 (.nc (.t 36)) []),(3,oP 38 (.fa 0 (.t 37)) [37]),(4,oP 39 (.ld 1 false (.t 38)) [38]),(5,oT 40 0 []),(6,oP 41 (.nc (.t 40)) []),(7,oP 42 (.fa 1 (.t 41)) [41]),(8,oP 43 (.ld 1 false (.t 42))
[40,42]),(9,oP 44 (.ia 1 (.t 39) (.t 43)) [39]),(10,oP 45 (.ld 1 false (.t 44)) [36,43,44]),(11,oP 46 (.conv .i64 (.t 45)) [45]),(12,oP 47 (.bin .add (.t 35) (.t 46)) [35,46]),(13,oP 48 (.bin .and (.t 47) (.c (.int .i64
255))) [47]),(14,oT 3 48 [48])]) (.reg false [(0,oT 49 0 []),(1,oT 50 0 []),(2,oP 51 (.nc (.t 50)) []),(3,oP 52 (.fa 1 (.t 51)) [51]),(4,oP 53 (.ld 1 false (.t 52)) [50,52]),(5,oP 54 (.bin .add (.t 53) (.c (.int .i64
1))) [53]),(6,oP 55 (.nc (.t 49)) []),(7,oP 56 (.fa 1 (.t 55)) [55]),(8,⟨none,.st 1 (.t 56) (.t 54),none,[],[49,54,56]⟩)]))) (sK [34] .skip))) (sR [(0,oT 57 3 [3]),(1,oT 2 57 [57])] .ret)))))
def C116 : CFn := ⟨58,1,[.t 2],B116⟩
abbrev B118 : CCode := (sR [(0,oP 2 (.mv (.c (.nils))) [2])] (sR [(0,oP 3 (.bld [.str [],.int .i64 (0),.int .i64 (0)] [(0,1,(.c (.str [114]))),(1,1,(.c (.int .i64 2))),(2,1,(.c (.int .i64 1)))]) []),(1,oP 4 (.bld [.str
[],.int .i64 (0),.int .i64 (0)] [(0,1,(.c (.str [115]))),(1,1,(.c (.int .i64 2))),(2,1,(.c (.int .i64 1)))]) []),(2,oT 5 0 []),(3,oP 6 (.bsl 1 4 [.int .i64 (0)] [(0,1,(.c (.int .i64 1))),(1,1,(.c (.int .i64
1))),(2,1,(.c (.int .i64 2))),(3,1,(.c (.int .i64 0)))]) []),(4,oP 7 (.call 93 [.t 5,.t 6]) [5,6]),(5,oP 8 (.bld [.str [],.int .i64 (0),.int .i64 (0)] [(0,1,(.c (.str [116]))),(1,1,(.c (.int .i64 2))),(2,1,(.t 7))])
[7]),(6,oT 9 0 []),(7,oP 10 (.call 88 [.t 9,(.c (.int .i64 2))]) [9]),(8,oP 11 (.bin .add (.c (.int .i64 1)) (.t 10)) [10]),(9,oP 12 (.bld [.str [],.int .i64 (0),.int .i64 (0)] [(0,1,(.c (.str [117]))),(1,1,(.c (.int
.i64 3))),(2,1,(.t 11))]) [11]),(10,oP 13 (.bsl 3 4 [.str [],.int .i64 (0),.int .i64 (0)] [(0,3,(.t 3)),(3,3,(.t 4)),(6,3,(.t 8)),(9,3,(.t 12))]) [3,4,8,12]),(11,oT 2 13 [13])] .ret))
def C118 : CFn := ⟨14,1,[.t 2],B118⟩
abbrev L119_0 : CCode := (.seq (.seq (.reg true [(0,oT 33 7 []),(1,oP 34 (.fa 1 (.t 6)) []),(2,oP 35 (.ld 1 false (.t 34)) [34]),(3,oP 36 (.len (.t 35)) [35]),(4,oP 37 (.bin .lss (.t 33) (.t 36)) [33,36]),(5,oT 38 37
[37]),(6,oG 39 (.fa 1 (.t 6)) 38 true []),(7,oG 40 (.ld 1 false (.t 39)) 38 true [39]),(8,oG 41 (.mv (.t 7)) 38 true []),(9,oG 42 (.ia 2 (.t 40) (.t 41)) 38 true [40]),(10,oG 43 (.ld 2 true (.t 42)) 38 true [42]),(11,oG
44 (.ld 2 true (.t 3)) 38 true []),(12,oG 45 (.call 72 [.t 43,.t 44]) 38 true [41,43,44]),(13,oG 46 (.bin .lss (.t 45) (.c (.int .i64 0))) 38 true [45]),(14,oP 47 (.pick (.t 38) (.t 46) (.c (.bool false))) [38,46])])
(.cond (.t 47) (sK [47] .skip) (sK [47] (.exit 0)))) (.block 1 (.reg false [(0,oT 48 7 [7]),(1,oP 49 (.bin .add (.t 48) (.c (.int .i64 1))) [48]),(2,oT 7 49 [49])])))
abbrev B119 : CCode := (sR [(0,oP 2 (.box 2 (.t 0)) [0]),(1,oP 3 (.box 2 (.t 1)) [1]),(2,oP 4 (.al [.nils,.nils]) []),(3,oP 5 (.mv (.c (.bool false))) [5])] (sR [(0,oP 9 (.ld 2 true (.t 2)) []),(1,oP 10 (.call 146 [.t
9]) [9]),(2,oP 6 (.al [.nils,.nils]) []),(3,⟨none,.st 2 (.t 6) (.t 10),none,[],[10]⟩)] (.seq (sR [(0,oP 11 (.ld 2 true (.t 2)) []),(1,oP 12 (.call 36 [.t 11]) [11]),(2,oP 13 (.not (.t 12)) [12]),(3,oT 14 13 [13]),(4,oG
15 (.fa 0 (.t 2)) 14 false []),(5,oG 16 (.ld 1 false (.t 15)) 14 false [15]),(6,oG 17 (.ld 2 true (.t 3)) 14 false []),(7,oG 18 (.call 71 [.t 16,.t 17]) 14 false [16,17]),(8,oG 19 (.not (.t 18)) 14 false [18]),(9,oP 20
(.pick (.t 14) (.c (.bool true)) (.t 19)) [14,19]),(10,oT 21 20 [20]),(11,oG 22 (.ld 2 true (.t 2)) 21 false []),(12,oG 23 (.ld 2 true (.t 3)) 21 false []),(13,oG 24 (.call 147 [.t 22,.t 23]) 21 false [22,23]),(14,oP 25
(.pick (.t 21) (.c (.bool true)) (.t 24)) [21,24]),(15,oT 26 25 [25]),(16,oG 27 (.fa 1 (.t 2)) 26 false []),(17,oG 28 (.ld 1 false (.t 27)) 26 false [27]),(18,oG 29 (.len (.t 28)) 26 false [2,28]),(19,oG 30 (.bin .eql
(.t 29) (.c (.int .i64 14))) 26 false [29]),(20,oP 31 (.pick (.t 26) (.c (.bool true)) (.t 30)) [26,30])] (.cond (.t 31) (sK [3,31] (sR [(0,oP 32 (.ld 2 true (.t 6)) []),(1,⟨none,.st 2 (.t 4) (.t
32),none,[],[6,32]⟩),(2,oP 5 (.mv (.c (.bool false))) [])] .ret)) (sK [31] .skip))) (sR [(0,oP 7 (.mv (.c (.int .i64 0))) [])] (.seq (.block 0 (.loop L119_0)) (.seq (.reg true [(0,oP 50 (.fa 0 (.t 3)) []),(1,oP 51 (.ld
1 false (.t 50)) []),(2,oP 52 (.bsl 1 0 [.int .i64 (0)] []) []),(3,oP 53 (.fa 1 (.t 3)) []),(4,oP 54 (.ld 1 false (.t 53)) [53]),(8,oP 58 (.fa 1 (.t 6)) []),(9,oP 59 (.ld 1 false (.t 58)) []),(10,oT 60 7 []),(11,oP 61
(.sls 2 (.t 59) (some (.t 60)) none none) [59,60]),(5,⟨some 55,.app 1 8 (.t 52) (.t 54),none,[(50,1),(58,1)],[3,50,52,54,58]⟩),(6,oP 56 (.bld [.int .i64 (0),.nils] [(0,1,(.t 51)),(1,1,(.t 55))]) [51,55]),(7,oP 57 (.bsl
2 1 [.int .i64 (0),.nils] [(0,2,(.t 56))]) [56]),(12,oP 62 (.app 2 32 (.t 57) (.t 61)) [57,61]),(13,oT 8 62 [62])]) (sR [(0,oP 63 (.bsl 2 0 [.int .i64 (0),.nils] []) []),(1,oP 64 (.fa 1 (.t 6)) []),(2,oP 65 (.ld 1 false
(.t 64)) [64]),(3,oT 66 7 [7]),(4,oP 67 (.sls 2 (.t 65) none (some (.t 66)) none) [65,66]),(5,oP 68 (.app 2 32 (.t 63) (.t 67)) [63,67]),(6,oT 69 8 [8]),(7,oP 70 (.app 2 32 (.t 68) (.t 69)) [68,69]),(8,oP 71 (.fa 1 (.t
6)) []),(9,⟨none,.st 1 (.t 71) (.t 70),none,[],[70,71]⟩)] (sR [(0,oP 72 (.ld 2 true (.t 6)) []),(1,⟨none,.st 2 (.t 4) (.t 72),none,[],[6,72]⟩),(2,oP 5 (.mv (.c (.bool true))) [])] .ret))))))))
def C119 : CFn := ⟨73,2,[.m 4 2 true,.t 5],B119⟩
abbrev L120_0 : CCode := (.seq (.seq (.reg true [(0,oP 13 (.fa 1 (.t 7)) []),(1,oP 14 (.ld 1 false (.t 13)) [13]),(2,oP 15 (.len (.t 14)) [14]),(3,oT 16 1 []),(4,oP 17 (.fa 0 (.t 7)) []),(5,oP 18 (.ld 1 false (.t 17))
[17]),(6,oP 19 (.ia 3 (.t 16) (.t 18)) []),(7,oP 20 (.fa 1 (.t 19)) [19]),(8,oP 21 (.ld 1 false (.t 20)) [16,18,20]),(9,oP 22 (.bin .lss (.t 15) (.t 21)) [15,21])]) (.cond (.t 22) (sK [22] .skip) (sK [1,2,22] (.exit
0)))) (.block 1 (.reg true [(0,oP 23 (.fa 1 (.t 7)) []),(1,oP 24 (.ld 1 false (.t 23)) []),(2,oT 25 0 []),(3,oT 26 2 []),(4,⟨some 27,.call 88 [.t 25,.t 26],none,[(23,1)],[23,25,26]⟩),(5,oP 28 (.bsl 1 1 [.int .i64 (0)]
[(0,1,(.t 27))]) [27]),(6,oP 29 (.app 1 8 (.t 24) (.t 28)) [24,28]),(7,oP 30 (.fa 1 (.t 7)) []),(8,⟨none,.st 1 (.t 30) (.t 29),none,[],[29,30]⟩)])))
abbrev B120 : CCode := (sR [(0,oP 6 (.al [.int .i64 (0),.nils]) [])] (sR [(0,oT 8 0 []),(1,oT 9 1 []),(2,oP 10 (.len (.t 9)) [9]),(3,oP 11 (.call 88 [.t 8,.t 10]) [8,10]),(4,oP 12 (.bld [.int .i64 (0),.nils] [(0,1,(.t
11))]) [11]),(5,oP 7 (.al [.int .i64 (0),.nils]) []),(6,⟨none,.st 2 (.t 7) (.t 12),none,[],[12]⟩)] (.seq (.block 0 (.loop L120_0)) (sR [(0,oP 31 (.ld 2 true (.t 7)) []),(1,⟨none,.st 2 (.t 6) (.t 31),none,[],[7,31]⟩)]
.ret))))
def C120 : CFn := ⟨32,3,[.m 6 2 true],B120⟩
abbrev L121_2 : CCode := (.seq (sR [(0,oT 42 9 []),(1,oT 43 4 []),(2,oP 44 (.len (.t 43)) [43]),(3,oP 45 (.bin .lss (.t 42) (.t 44)) [42,44])] (.cond (.t 45) (sK [45] .skip) (sK [9,45] (.exit 4)))) (.seq (.block 5 (sR
[(0,oT 48 4 []),(1,oT 49 9 []),(2,oP 50 (.ia 1 (.t 48) (.t 49)) []),(3,oP 51 (.ld 1 false (.t 50)) [48,49,50]),(4,oT 52 7 []),(5,oP 53 (.bin .eql (.t 51) (.t 52)) [51,52])] (.cond (.t 53) (sK [8,53] (.reg false [(0,oT
54 9 []),(1,oT 8 54 [54])])) (sK [53] .skip)))) (.reg false [(0,oT 46 9 [9]),(1,oP 47 (.bin .add (.t 46) (.c (.int .i64 1))) [46]),(2,oT 9 47 [47])])))
abbrev L121_1 : CCode := (.seq (sR [(0,oT 20 6 []),(1,oP 21 (.fa 1 (.t 3)) []),(2,oP 22 (.ld 1 false (.t 21)) [21]),(3,oT 23 5 []),(4,oP 24 (.ia 2 (.t 22) (.t 23)) [22]),(5,oP 25 (.fa 1 (.t 24)) [24]),(6,oP 26 (.ld 1
false (.t 25)) [25]),(7,oP 27 (.len (.t 26)) [23,26]),(8,oP 28 (.bin .lss (.t 20) (.t 27)) [20,27])] (.cond (.t 28) (sK [28] .skip) (sK [6,28] (.exit 2)))) (.seq (.block 3 (sR [(0,oP 31 (.fa 1 (.t 3)) []),(1,oP 32 (.ld
1 false (.t 31)) [31]),(2,oT 33 5 []),(3,oP 34 (.ia 2 (.t 32) (.t 33)) [32]),(4,oP 35 (.fa 1 (.t 34)) [34]),(5,oP 36 (.ld 1 false (.t 35)) [35]),(6,oT 37 6 []),(7,oP 38 (.ia 1 (.t 36) (.t 37)) [36]),(8,oP 39 (.ld 1
false (.t 38)) [33,37,38]),(9,oT 7 39 [39])] (.seq (sR [(0,oT 40 7 []),(1,oP 41 (.bin .lss (.t 40) (.c (.int .i64 0))) [40])] (.cond (.t 41) (sK [7,41] (.exit 3)) (sK [41] .skip))) (sR [(0,oP 8 (.mv (.c (.int .i64
(-1)))) [])] (.seq (sR [(0,oP 9 (.mv (.c (.int .i64 0))) [])] (.block 4 (.loop L121_2))) (.seq (sR [(0,oT 55 8 []),(1,oP 56 (.bin .lss (.t 55) (.c (.int .i64 0))) [55])] (.cond (.t 56) (sK [8,56] (sR [(0,oT 57 4
[]),(1,oP 58 (.len (.t 57)) [57]),(2,oT 8 58 [58])] (.reg false [(0,oT 59 4 [4]),(1,oT 60 7 [7]),(2,oP 61 (.bsl 1 1 [.int .i64 (0)] [(0,1,(.t 60))]) [60]),(3,oP 62 (.app 1 8 (.t 59) (.t 61)) [59,61]),(4,oT 4 62
[62])]))) (sK [7,56] .skip))) (.reg false [(0,oP 63 (.fa 1 (.t 3)) []),(1,oP 64 (.ld 1 false (.t 63)) [63]),(2,oT 65 5 []),(3,oP 66 (.ia 2 (.t 64) (.t 65)) [64]),(4,oP 67 (.fa 1 (.t 66)) [66]),(5,oP 68 (.ld 1 false (.t
67)) [67]),(6,oT 69 6 []),(7,oT 70 8 [8]),(8,oP 71 (.ia 1 (.t 68) (.t 69)) [68]),(9,⟨none,.st 1 (.t 71) (.t 70),none,[],[65,69,70,71]⟩)]))))))) (.reg false [(0,oT 29 6 [6]),(1,oP 30 (.bin .add (.t 29) (.c (.int .i64
1))) [29]),(2,oT 6 30 [30])])))
abbrev L121_0 : CCode := (.seq (sR [(0,oT 13 5 []),(1,oP 14 (.fa 1 (.t 3)) []),(2,oP 15 (.ld 1 false (.t 14)) [14]),(3,oP 16 (.len (.t 15)) [15]),(4,oP 17 (.bin .lss (.t 13) (.t 16)) [13,16])] (.cond (.t 17) (sK [17]
.skip) (sK [5,17] (.exit 0)))) (.seq (.block 1 (sR [(0,oP 6 (.mv (.c (.int .i64 0))) [])] (.block 2 (.loop L121_1)))) (.reg false [(0,oT 18 5 [5]),(1,oP 19 (.bin .add (.t 18) (.c (.int .i64 1))) [18]),(2,oT 5 19
[19])])))
abbrev B121 : CCode := (sR [(0,oP 1 (.box 3 (.t 0)) [0]),(1,oP 2 (.al [.int .i64 (0),.nils,.nils]) [])] (sR [(0,oP 10 (.ld 3 true (.t 1)) []),(1,oP 11 (.call 148 [.t 10]) [1,10]),(2,oP 3 (.al [.int .i64
(0),.nils,.nils]) []),(3,⟨none,.st 3 (.t 3) (.t 11),none,[],[11]⟩)] (sR [(0,oP 12 (.bsl 1 0 [.int .i64 (0)] []) []),(1,oT 4 12 [12])] (.seq (sR [(0,oP 5 (.mv (.c (.int .i64 0))) [])] (.block 0 (.loop L121_0))) (sR
[(0,oT 72 4 [4]),(1,oP 73 (.len (.t 72)) [72]),(2,oP 74 (.fa 0 (.t 3)) []),(3,⟨none,.st 1 (.t 74) (.t 73),none,[],[73,74]⟩)] (sR [(0,oP 75 (.ld 3 true (.t 3)) []),(1,⟨none,.st 3 (.t 2) (.t 75),none,[],[3,75]⟩)]
.ret))))))
def C121 : CFn := ⟨76,1,[.m 2 3 true],B121⟩
abbrev L122_0 : CCode := (.seq (sR [(0,oT 24 8 []),(1,oT 25 6 []),(2,oP 26 (.ia 1 (.t 25) (.c (.int .i64 0))) []),(3,oP 27 (.ld 1 false (.t 26)) [25,26]),(4,oP 28 (.lens (.t 27)) [27]),(5,oP 29 (.bin .lss (.t 24) (.t
28)) [24,28])] (.cond (.t 29) (sK [29] .skip) (sK [8,29] (.exit 0)))) (.seq (.block 1 (sR [(0,oT 33 6 []),(1,oP 34 (.ia 1 (.t 33) (.c (.int .i64 0))) []),(2,oP 35 (.ld 1 false (.t 34)) [33,34]),(3,oT 36 8 []),(4,oT 37 8
[]),(5,oP 38 (.bin .add (.t 37) (.c (.int .i64 1))) [37]),(6,oP 39 (.sst (.t 35) (some (.t 36)) (some (.t 38))) [35,36,38]),(7,oP 40 (.call 150 [.t 39]) [39]),(8,oT 32 40 [40]),(9,oP 41 (.ex (.t 32) 0) []),(10,oP 42
(.ex (.t 32) 1) [32]),(11,oT 9 41 [41]),(12,oT 10 42 [10,42])] (.reg false [(0,oP 43 (.fa 2 (.t 7)) []),(1,oP 44 (.ld 1 false (.t 43)) [43]),(2,oT 45 9 [9]),(3,oP 46 (.bsl 1 1 [.int .i64 (0)] [(0,1,(.t 45))])
[45]),(4,oP 47 (.app 1 8 (.t 44) (.t 46)) [44,46]),(5,oP 48 (.fa 2 (.t 7)) []),(6,⟨none,.st 1 (.t 48) (.t 47),none,[],[47,48]⟩)]))) (.reg false [(0,oT 30 8 [8]),(1,oP 31 (.bin .add (.t 30) (.c (.int .i64 1)))
[30]),(2,oT 8 31 [31])])))
abbrev L122_2 : CCode := (.seq (sR [(0,oT 60 14 []),(1,oT 61 11 []),(2,oT 62 12 []),(3,oP 63 (.ia 1 (.t 61) (.t 62)) []),(4,oP 64 (.ld 1 false (.t 63)) [61,62,63]),(5,oP 65 (.lens (.t 64)) [64]),(6,oP 66 (.bin .lss (.t
60) (.t 65)) [60,65])] (.cond (.t 66) (sK [66] .skip) (sK [14,66] (.exit 4)))) (.seq (.block 5 (.seq (sR [(0,oT 69 14 []),(1,oP 70 (.bin .eql (.t 69) (.c (.int .i64 0))) [69])] (.cond (.t 70) (sK [70] (sR [(0,oT 71 0
[]),(1,oT 72 11 []),(2,oT 73 12 []),(3,oP 74 (.ia 1 (.t 72) (.t 73)) []),(4,oP 75 (.ld 1 false (.t 74)) [72,73,74]),(5,oP 76 (.sst (.t 75) none (some (.c (.int .i64 1)))) [75]),(6,oP 77 (.call 151 [.t 71,.t 76])
[71,76]),(7,oP 78 (.fa 0 (.t 13)) []),(8,⟨none,.st 1 (.t 78) (.t 77),none,[],[77,78]⟩)] (.exit 5))) (sK [70] .skip))) (.seq (sR [(0,oT 79 11 []),(1,oT 80 12 []),(2,oP 81 (.ia 1 (.t 79) (.t 80)) []),(3,oP 82 (.ld 1 false
(.t 81)) [79,80,81]),(4,oT 83 14 []),(5,oP 84 (.ix (.t 82) (.t 83)) [82,83]),(6,oP 85 (.bin .eql (.t 84) (.c (.int .u8 (124)))) [84])] (.cond (.t 85) (sK [85] (.exit 5)) (sK [85] .skip))) (sR [(0,oT 87 11 []),(1,oT 88
12 []),(2,oP 89 (.ia 1 (.t 87) (.t 88)) []),(3,oP 90 (.ld 1 false (.t 89)) [87,88,89]),(4,oT 91 14 []),(5,oT 92 14 []),(6,oP 93 (.bin .add (.t 92) (.c (.int .i64 1))) [92]),(7,oP 94 (.sst (.t 90) (some (.t 91)) (some
(.t 93))) [90,91,93]),(8,oP 95 (.call 150 [.t 94]) [94]),(9,oT 86 95 [95]),(10,oP 96 (.ex (.t 86) 0) []),(11,oP 97 (.ex (.t 86) 1) [86]),(12,oT 15 96 [96]),(13,oT 16 97 [16,97])] (sR [(0,oP 98 (.fa 1 (.t 13)) []),(1,oP
99 (.ld 1 false (.t 98)) [98]),(2,oT 100 15 []),(3,oP 101 (.bsl 1 1 [.int .i64 (0)] [(0,1,(.t 100))]) [100]),(4,oP 102 (.app 1 8 (.t 99) (.t 101)) [99,101]),(5,oP 103 (.fa 1 (.t 13)) []),(6,⟨none,.st 1 (.t 103) (.t
102),none,[],[102,103]⟩)] (.reg false [(0,oP 104 (.fa 0 (.t 7)) []),(1,oP 105 (.ld 1 false (.t 104)) [104]),(2,oT 106 15 [15]),(3,oP 107 (.bin .add (.t 106) (.c (.int .i64 1))) [106]),(4,oP 108 (.max (.t 105) (.t 107))
[105,107]),(5,oP 109 (.fa 0 (.t 7)) []),(6,⟨none,.st 1 (.t 109) (.t 108),none,[],[108,109]⟩)])))))) (.reg false [(0,oT 67 14 [14]),(1,oP 68 (.bin .add (.t 67) (.c (.int .i64 1))) [67]),(2,oT 14 68 [68])])))
abbrev L122_1 : CCode := (.seq (sR [(0,oT 53 12 []),(1,oT 54 11 []),(2,oP 55 (.len (.t 54)) [54]),(3,oP 56 (.bin .lss (.t 53) (.t 55)) [53,55])] (.cond (.t 56) (sK [56] .skip) (sK [11,12,56] (.exit 2)))) (.seq (.block 3
(sR [(0,oP 59 (.bld [.int .i64 (0),.nils] []) []),(1,oP 13 (.al [.int .i64 (0),.nils]) []),(2,⟨none,.st 2 (.t 13) (.t 59),none,[],[59]⟩)] (.seq (sR [(0,oP 14 (.mv (.c (.int .i64 0))) [])] (.block 4 (.loop L122_2)))
(.reg false [(0,oP 110 (.fa 1 (.t 7)) []),(1,oP 111 (.ld 1 false (.t 110)) [110]),(2,oP 112 (.ld 2 true (.t 13)) []),(3,oP 113 (.bsl 2 1 [.int .i64 (0),.nils] [(0,2,(.t 112))]) [13,112]),(4,oP 114 (.app 2 32 (.t 111)
(.t 113)) [111,113]),(5,oP 115 (.fa 1 (.t 7)) []),(6,⟨none,.st 1 (.t 115) (.t 114),none,[],[114,115]⟩)])))) (.reg false [(0,oT 57 12 [12]),(1,oP 58 (.bin .add (.t 57) (.c (.int .i64 1))) [57]),(2,oT 12 58 [58])])))
abbrev B122 : CCode := (sR [(0,oP 4 (.al [.int .i64 (0),.nils,.nils]) []),(1,oP 5 (.mv (.c (.bool false))) [5])] (sR [(0,oT 17 1 []),(1,oP 18 (.call 149 [.t 17,(.c (.int .u8 (63)))]) [17]),(2,oT 6 18 [18])] (.seq (sR
[(0,oT 19 6 []),(1,oP 20 (.len (.t 19)) [19]),(2,oP 21 (.bin .neq (.t 20) (.c (.int .i64 2))) [20])] (.cond (.t 21) (sK [0,1,6,21] (sR [(0,oP 22 (.bld [.int .i64 (0),.nils,.nils] []) []),(1,⟨none,.st 3 (.t 4) (.t
22),none,[],[22]⟩),(2,oP 5 (.mv (.c (.bool false))) [])] .ret)) (sK [21] .skip))) (sR [(0,oP 23 (.bld [.int .i64 (0),.nils,.nils] []) []),(1,oP 7 (.al [.int .i64 (0),.nils,.nils]) []),(2,⟨none,.st 3 (.t 7) (.t
23),none,[],[23]⟩)] (.seq (sR [(0,oP 8 (.mv (.c (.int .i64 0))) [])] (.block 0 (.loop L122_0))) (sR [(0,oT 49 6 [6]),(1,oP 50 (.ia 1 (.t 49) (.c (.int .i64 1))) []),(2,oP 51 (.ld 1 false (.t 50)) [49,50]),(3,oP 52
(.call 149 [.t 51,(.c (.int .u8 (32)))]) [51]),(4,oT 11 52 [52])] (.seq (sR [(0,oP 12 (.mv (.c (.int .i64 0))) [])] (.block 2 (.loop L122_1))) (.seq (sR [(0,oT 116 0 [0]),(1,oP 117 (.ld 3 true (.t 7)) []),(2,oP 118
(.call 152 [.t 116,.t 117]) [116,117]),(3,oT 119 1 [1]),(4,oP 120 (.bin .neq (.t 118) (.t 119)) [118,119])] (.cond (.t 120) (sK [7,120] (sR [(0,oP 121 (.bld [.int .i64 (0),.nils,.nils] []) []),(1,⟨none,.st 3 (.t 4) (.t
121),none,[],[121]⟩),(2,oP 5 (.mv (.c (.bool false))) [])] .ret)) (sK [120] .skip))) (sR [(0,oP 122 (.ld 3 true (.t 7)) []),(1,⟨none,.st 3 (.t 4) (.t 122),none,[],[7,122]⟩),(2,oP 5 (.mv (.c (.bool true))) [])]
.ret)))))))))
def C122 : CFn := ⟨123,2,[.m 4 3 true,.t 5],B122⟩
abbrev B123 : CCode := (sR [(0,oP 4 (.mv (.c (.str []))) [4])] (sR [(0,oT 5 1 []),(1,oT 6 0 []),(2,oT 7 1 []),(3,oP 8 (.len (.t 7)) [7]),(4,oP 9 (.call 88 [.t 6,.t 8]) [6,8]),(5,oP 10 (.ia 1 (.t 5) (.t 9)) []),(6,oP 11
(.ld 1 false (.t 10)) [5,9,10]),(7,oT 4 11 [11])] .ret))
def C123 : CFn := ⟨12,2,[.t 4],B123⟩
abbrev B124 : CCode := (sR [(0,oP 1 (.box 3 (.t 0)) [0]),(1,oP 2 (.mv (.c (.bool false))) [2])] (sR [(0,oP 3 (.fa 0 (.t 1)) []),(1,oP 4 (.ld 1 false (.t 3)) [3]),(2,oP 5 (.lens (.t 4)) [4]),(3,oP 6 (.bin .eql (.t 5) (.c
(.int .i64 1))) [5]),(4,oT 7 6 [6]),(5,oG 8 (.fa 0 (.t 1)) 7 true []),(6,oG 9 (.ld 1 false (.t 8)) 7 true [8]),(7,oG 10 (.ix (.t 9) (.c (.int .i64 0))) 7 true [9]),(8,oG 11 (.bin .geq (.t 10) (.c (.int .u8 (97)))) 7
true [10]),(9,oP 12 (.pick (.t 7) (.t 11) (.c (.bool false))) [7,11]),(10,oT 13 12 [12]),(11,oG 14 (.fa 0 (.t 1)) 13 true []),(12,oG 15 (.ld 1 false (.t 14)) 13 true [14]),(13,oG 16 (.ix (.t 15) (.c (.int .i64 0))) 13
true [15]),(14,oG 17 (.bin .leq (.t 16) (.c (.int .u8 (122)))) 13 true [16]),(15,oP 18 (.pick (.t 13) (.t 17) (.c (.bool false))) [13,17]),(16,oT 19 18 [18]),(17,oG 20 (.fa 1 (.t 1)) 19 true []),(18,oG 21 (.ld 1 false
(.t 20)) 19 true [20]),(19,oG 22 (.call 74 [.t 21,(.c (.int .i64 1)),(.c (.int .i64 3))]) 19 true [21]),(20,oP 23 (.pick (.t 19) (.t 22) (.c (.bool false))) [19,22]),(21,oT 24 23 [23]),(22,oG 25 (.fa 2 (.t 1)) 24 true
[]),(23,oG 26 (.ld 1 false (.t 25)) 24 true [25]),(24,oG 27 (.fa 1 (.t 1)) 24 true []),(25,oG 28 (.ld 1 false (.t 27)) 24 true [1,27]),(26,oG 29 (.call 74 [.t 26,(.c (.int .i64 0)),.t 28]) 24 true [26,28]),(27,oP 30
(.pick (.t 24) (.t 29) (.c (.bool false))) [24,29]),(28,oT 2 30 [30])] .ret))
def C124 : CFn := ⟨31,1,[.t 2],B124⟩
abbrev B125 : CCode := (sR [(0,oP 2 (.mv (.c (.bool false))) [2])] (sR [(0,oT 3 0 [0]),(1,oP 4 (.call 44 [.t 3,(.c (.fn 153 []))]) [3]),(2,oP 5 (.not (.t 4)) [4]),(3,oT 2 5 [5])] .ret))
def C125 : CFn := ⟨6,1,[.t 2],B125⟩
abbrev B126 : CCode := (sR [(0,oP 4 (.mv (.c (.int .i64 0))) [4])] (.seq (.block 0 (sR [(0,oT 6 0 []),(1,oT 7 1 []),(2,oP 8 (.bin .lss (.t 6) (.t 7)) [6,7]),(3,oT 5 8 [8])] (.cond (.t 5) (sK [0,1,5] (sR [(0,oP 4 (.mv
(.c (.int .i64 (-1)))) [])] .ret)) (sK [5] (sR [(0,oT 10 0 [0]),(1,oT 11 1 [1]),(2,oP 12 (.bin .gtr (.t 10) (.t 11)) [10,11]),(3,oT 9 12 [12])] (.cond (.t 9) (sK [9] (sR [(0,oP 4 (.mv (.c (.int .i64 1))) [])] .ret)) (sK
[9] .skip))))))) (sR [(0,oP 4 (.mv (.c (.int .i64 0))) [])] .ret)))
def C126 : CFn := ⟨13,2,[.t 4],B126⟩
abbrev L127_0 : CCode := (sR [(0,oP 12 (.bin .lss (.t 11) (.t 10)) [])] (.seq (.cond (.t 12) (sK [12] .skip) (sK [9,10,11,12] (.exit 0))) (.seq (.block 1 (sR [(0,oT 13 11 []),(1,oP 14 (.ia 1 (.t 9) (.t 11)) []),(2,oP 15
(.ld 1 false (.t 14)) [14]),(3,oT 5 13 [13]),(4,oT 6 15 [15])] (.seq (sR [(0,oT 16 5 []),(1,oT 17 1 []),(2,oP 18 (.len (.t 17)) [17]),(3,oP 19 (.bin .geq (.t 16) (.t 18)) [16,18])] (.cond (.t 19) (sK
[0,1,5,6,9,10,11,19] (sR [(0,oP 4 (.mv (.c (.int .i64 1))) [])] .ret)) (sK [19] .skip))) (sR [(0,oT 20 1 []),(1,oT 21 5 [5]),(2,oP 22 (.ia 1 (.t 20) (.t 21)) []),(3,oP 23 (.ld 1 false (.t 22)) [20,21,22]),(4,oT 7 23
[23])] (sR [(0,oT 24 6 [6]),(1,oT 25 7 [7]),(2,oP 26 (.call 154 [.t 24,.t 25]) [24,25]),(3,oT 8 26 [26])] (sR [(0,oT 27 8 []),(1,oP 28 (.bin .neq (.t 27) (.c (.int .i64 0))) [27])] (.cond (.t 28) (sK [0,1,9,10,11,28]
(sR [(0,oT 29 8 [8]),(1,oT 4 29 [29])] .ret)) (sK [8,28] .skip)))))))) (.reg false [(0,oP 30 (.bin .add (.t 11) (.c (.int .i64 1))) [11]),(1,oT 11 30 [30])]))))
abbrev B127 : CCode := (sR [(0,oP 4 (.mv (.c (.int .i64 0))) [4])] (.seq (sR [(0,oT 9 0 []),(1,oP 10 (.len (.t 9)) []),(2,oP 11 (.mv (.c (.int .i64 0))) [])] (.block 0 (.loop L127_0))) (.seq (sR [(0,oT 31 0 [0]),(1,oP
32 (.len (.t 31)) [31]),(2,oT 33 1 [1]),(3,oP 34 (.len (.t 33)) [33]),(4,oP 35 (.bin .lss (.t 32) (.t 34)) [32,34])] (.cond (.t 35) (sK [35] (sR [(0,oP 4 (.mv (.c (.int .i64 (-1)))) [])] .ret)) (sK [35] .skip))) (sR
[(0,oP 4 (.mv (.c (.int .i64 0))) [])] .ret))))
def C127 : CFn := ⟨36,2,[.t 4],B127⟩
abbrev L128_0 : CCode := (sR [(0,oP 9 (.bin .lss (.t 8) (.t 7)) [])] (.seq (.cond (.t 9) (sK [9] .skip) (sK [0,1,7,8,9] (.exit 0))) (.seq (.block 1 (sR [(0,oT 10 8 []),(1,oT 5 10 [10])] (sR [(0,oT 11 1 []),(1,oT 12 0
[]),(2,oT 13 5 []),(3,oP 14 (.ia 2 (.t 12) (.t 13)) []),(4,oP 15 (.ld 2 true (.t 14)) [14]),(5,oP 16 (.callv (.t 11) [.t 15]) [11,12,13,15])] (.cond (.t 16) (sK [0,1,7,8,16] (sR [(0,oT 17 5 [5]),(1,oT 4 17 [17])] .ret))
(sK [5,16] .skip))))) (.reg false [(0,oP 18 (.bin .add (.t 8) (.c (.int .i64 1))) [8]),(1,oT 8 18 [18])]))))
abbrev B128 : CCode := (sR [(0,oP 4 (.mv (.c (.int .i64 0))) [4])] (.seq (sR [(0,oT 6 0 []),(1,oP 7 (.len (.t 6)) [6]),(2,oP 8 (.mv (.c (.int .i64 0))) [])] (.block 0 (.loop L128_0))) (sR [(0,oP 4 (.mv (.c (.int .i64
(-1)))) [])] .ret)))
def C128 : CFn := ⟨19,2,[.t 4],B128⟩
abbrev L129_0 : CCode := (sR [(0,oP 12 (.bin .lss (.t 11) (.t 10)) [])] (.seq (.cond (.t 12) (sK [12] .skip) (sK [9,10,11,12] (.exit 0))) (.seq (.block 1 (sR [(0,oP 13 (.ia 1 (.t 9) (.t 11)) []),(1,oP 14 (.ld 1 false
(.t 13)) [13]),(2,oT 5 14 [14])] (sR [(0,oT 15 3 [3]),(1,oT 16 5 [5]),(2,oP 17 (.len (.t 16)) [16]),(3,oP 18 (.bin .add (.t 15) (.t 17)) [15,17]),(4,oT 3 18 [18])] (sR [(0,oT 19 3 []),(1,oP 20 (.bin .lss (.t 19) (.c
(.int .i64 0))) [19])] (.cond (.t 20) (sK [20] (.reg false [(0,oP 21 .fail [21]),(1,⟨none,.fail,none,[],[]⟩)])) (sK [20] .skip)))))) (.reg false [(0,oP 22 (.bin .add (.t 11) (.c (.int .i64 1))) [11]),(1,oT 11 22
[22])]))))
abbrev L129_1 : CCode := (sR [(0,oP 28 (.bin .lss (.t 27) (.t 26)) [])] (.seq (.cond (.t 28) (sK [28] .skip) (sK [25,26,27,28] (.exit 2))) (.seq (.block 3 (sR [(0,oP 29 (.ia 1 (.t 25) (.t 27)) []),(1,oP 30 (.ld 1 false
(.t 29)) [29]),(2,oT 8 30 [30])] (.reg false [(0,oT 31 6 [6]),(1,oT 32 8 [8]),(2,oP 33 (.app 1 8 (.t 31) (.t 32)) [31,32]),(3,oT 6 33 [33])]))) (.reg false [(0,oP 34 (.bin .add (.t 27) (.c (.int .i64 1))) [27]),(1,oT 27
34 [34])]))))
abbrev B129 : CCode := (sR [(0,oP 2 (.mv (.c (.nils))) [2])] (sR [(0,oP 3 (.mv (.c (.int .i64 0))) [])] (.seq (sR [(0,oT 9 0 []),(1,oP 10 (.len (.t 9)) []),(2,oP 11 (.mv (.c (.int .i64 0))) [])] (.block 0 (.loop
L129_0))) (sR [(0,oT 23 3 [3]),(1,oP 24 (.call 155 [(.c (.nils)),.t 23]) [23]),(2,oT 6 24 [24])] (.seq (sR [(0,oT 25 0 [0]),(1,oP 26 (.len (.t 25)) []),(2,oP 27 (.mv (.c (.int .i64 0))) [])] (.block 2 (.loop L129_1)))
(sR [(0,oT 35 6 [6]),(1,oT 2 35 [35])] .ret))))))
def C129 : CFn := ⟨36,1,[.t 2],B129⟩
abbrev B131 : CCode := (sR [(0,oP 2 (.mv (.c (.bool false))) [2])] (sR [(0,oT 3 0 [0]),(1,oP 4 (.bin .geq (.t 3) (.c (.int .i64 0))) [3]),(2,oT 2 4 [4])] .ret))
def C131 : CFn := ⟨5,1,[.t 2],B131⟩
abbrev B132 : CCode := (sR [(0,oP 2 (.mv (.c (.int .i64 0))) [2])] (sR [(0,oT 3 0 [0]),(1,oP 4 (.bin .sub (.c (.int .i64 (-1))) (.t 3)) [3]),(2,oT 2 4 [4])] .ret))
def C132 : CFn := ⟨5,1,[.t 2],B132⟩
abbrev L133_0 : CCode := (.seq (sR [(0,oT 34 8 []),(1,oT 35 7 []),(2,oP 36 (.len (.t 35)) [35]),(3,oP 37 (.bin .lss (.t 34) (.t 36)) [34,36])] (.cond (.t 37) (sK [37] .skip) (sK [8,37] (.exit 0)))) (.block 1 (.reg true
[(0,oT 38 8 []),(1,oT 39 7 []),(2,oT 40 8 []),(3,oP 41 (.sls 1 (.t 39) (some (.t 40)) none none) [39,40]),(4,oT 42 7 []),(5,oT 43 8 [8]),(6,oP 44 (.sls 1 (.t 42) none (some (.t 43)) none) [42,43]),(7,oP 45 (.cpy 1 (.t
41) (.t 44)) [41,44]),(8,oP 46 (.bin .add (.t 38) (.t 45)) [38,45]),(9,oT 8 46 [46])])))
abbrev B133 : CCode := (sR [(0,oP 4 (.mv (.c (.nils))) [4])] (.seq (sR [(0,oT 9 1 []),(1,oP 10 (.bin .lss (.t 9) (.c (.int .i64 0))) [9])] (.cond (.t 10) (sK [10] (.reg false [(0,oP 11 .fail
[11]),(1,⟨none,.fail,none,[],[]⟩)])) (sK [10] .skip))) (sR [(0,oT 13 0 []),(1,oP 14 (.len (.t 13)) [13]),(2,oP 15 (.conv .u64 (.t 14)) [14]),(3,oT 16 1 [1]),(4,oP 17 (.conv .u64 (.t 16)) [16]),(5,oP 18 (.call 156 [.t
15,.t 17]) [15,17]),(6,oT 12 18 [18]),(7,oP 19 (.ex (.t 12) 0) []),(8,oP 20 (.ex (.t 12) 1) [12]),(9,oT 5 19 [19]),(10,oT 6 20 [20])] (.seq (sR [(0,oT 21 5 [5]),(1,oP 22 (.bin .gtr (.t 21) (.c (.int .u64 (0))))
[21]),(2,oT 23 22 [22]),(3,oG 24 (.mv (.t 6)) 23 false []),(4,oG 25 (.bin .gtr (.t 24) (.c (.int .u64 (9223372036854775807)))) 23 false [24]),(5,oP 26 (.pick (.t 23) (.c (.bool true)) (.t 25)) [23,25])] (.cond (.t 26)
(sK [26] (.reg false [(0,oP 27 .fail [27]),(1,⟨none,.fail,none,[],[]⟩)])) (sK [26] .skip))) (sR [(0,oT 28 6 [6]),(1,oP 29 (.conv .i64 (.t 28)) [28]),(2,oP 30 (.mk 1 8 [.int .i64 (0)] (.t 29) (.t 29)) [29]),(3,oT 7 30
[30])] (sR [(0,oT 31 7 []),(1,oT 32 0 [0]),(2,oP 33 (.cpy 1 (.t 31) (.t 32)) [31,32]),(3,oT 8 33 [33])] (.seq (.block 0 (.loop L133_0)) (sR [(0,oT 47 7 [7]),(1,oT 4 47 [47])] .ret))))))))
def C133 : CFn := ⟨48,2,[.t 4],B133⟩
abbrev B145 : CCode := (sR [(0,oP 3 (.box 2 (.t 1)) [1]),(1,oP 4 (.mv (.c (.nils))) [4])] (.seq (sR [(0,oT 5 0 []),(1,oP 6 (.ld 2 true (.t 3)) []),(2,oP 7 (.call 71 [.t 5,.t 6]) [5,6]),(3,oP 8 (.not (.t 7)) [7])] (.cond
(.t 8) (sK [0,3,8] (sR [(0,oP 9 (.bsl 1 0 [.int .i64 (0)] []) []),(1,oT 4 9 [9])] .ret)) (sK [8] .skip))) (.seq (.reg true [(0,oP 10 (.bsl 1 0 [.int .i64 (0)] []) []),(1,oP 11 (.fa 1 (.t 3)) []),(2,oP 12 (.ld 1 false
(.t 11)) [11]),(3,oT 13 0 [0]),(4,oP 14 (.fa 0 (.t 3)) []),(5,oP 15 (.ld 1 false (.t 14)) [14]),(6,oP 16 (.ia 3 (.t 13) (.t 15)) []),(7,oP 17 (.fa 2 (.t 16)) [16]),(8,oP 18 (.ld 1 false (.t 17)) [13,15,17]),(9,oP 19
(.sls 1 (.t 12) none (some (.t 18)) none) [3,12,18]),(10,oP 20 (.app 1 8 (.t 10) (.t 19)) [10,19]),(11,oT 4 20 [20])]) .ret)))
def C145 : CFn := ⟨21,2,[.t 4],B145⟩
abbrev L146_0 : CCode := (.seq (sR [(0,oT 10 4 []),(1,oP 11 (.fa 1 (.t 1)) []),(2,oP 12 (.ld 1 false (.t 11)) [11]),(3,oP 13 (.len (.t 12)) [12]),(4,oP 14 (.bin .lss (.t 10) (.t 13)) [10,13])] (.cond (.t 14) (sK [14]
.skip) (sK [1,4,14] (.exit 0)))) (.seq (.block 1 (.reg true [(0,oP 17 (.fa 1 (.t 3)) []),(1,oP 18 (.ld 1 false (.t 17)) []),(2,oP 19 (.fa 1 (.t 1)) []),(3,oP 20 (.ld 1 false (.t 19)) []),(4,oT 21 4 []),(5,oP 22 (.ia 2
(.t 20) (.t 21)) [20]),(6,oP 23 (.fa 0 (.t 22)) [22]),(7,oP 24 (.ld 1 false (.t 23)) []),(8,oP 25 (.bsl 1 0 [.int .i64 (0)] []) []),(9,oP 26 (.fa 1 (.t 1)) []),(10,oP 27 (.ld 1 false (.t 26)) [26]),(11,oT 28 4
[]),(12,oP 29 (.ia 2 (.t 27) (.t 28)) [27]),(13,oP 30 (.fa 1 (.t 29)) [29]),(14,oP 31 (.ld 1 false (.t 30)) [30]),(15,⟨some 32,.app 1 8 (.t 25) (.t 31),none,[(17,1),(19,1),(23,1)],[17,19,21,23,25,28,31]⟩),(16,oP 33
(.bld [.int .i64 (0),.nils] [(0,1,(.t 24)),(1,1,(.t 32))]) [24,32]),(17,oP 34 (.bsl 2 1 [.int .i64 (0),.nils] [(0,2,(.t 33))]) [33]),(18,oP 35 (.app 2 32 (.t 18) (.t 34)) [18,34]),(19,oP 36 (.fa 1 (.t 3))
[]),(20,⟨none,.st 1 (.t 36) (.t 35),none,[],[35,36]⟩)])) (.reg false [(0,oT 15 4 [4]),(1,oP 16 (.bin .add (.t 15) (.c (.int .i64 1))) [15]),(2,oT 4 16 [16])])))
abbrev B146 : CCode := (sR [(0,oP 1 (.box 2 (.t 0)) [0]),(1,oP 2 (.al [.nils,.nils]) [])] (sR [(0,oP 5 (.bsl 3 0 [.str [],.int .i64 (0),.int .i64 (0)] []) []),(1,oP 6 (.fa 0 (.t 1)) []),(2,oP 7 (.ld 1 false (.t 6))
[6]),(3,oP 8 (.app 3 32 (.t 5) (.t 7)) [5,7]),(4,oP 9 (.bld [.nils,.nils] [(0,1,(.t 8))]) [8]),(5,oP 3 (.al [.nils,.nils]) []),(6,⟨none,.st 2 (.t 3) (.t 9),none,[],[9]⟩)] (.seq (sR [(0,oP 4 (.mv (.c (.int .i64 0))) [])]
(.block 0 (.loop L146_0))) (sR [(0,oP 37 (.ld 2 true (.t 3)) []),(1,⟨none,.st 2 (.t 2) (.t 37),none,[],[3,37]⟩)] .ret))))
def C146 : CFn := ⟨38,1,[.m 2 2 true],B146⟩
abbrev B147 : CCode := (sR [(0,oP 2 (.box 2 (.t 0)) [0]),(1,oP 3 (.box 2 (.t 1)) [1]),(2,oP 4 (.mv (.c (.bool false))) [4])] (sR [(0,oP 5 (.ld 2 true (.t 2)) []),(1,oP 6 (.call 36 [.t 5]) [5]),(2,oT 7 6 [6]),(3,oG 8
(.ld 2 true (.t 2)) 7 true []),(4,oG 9 (.ld 2 true (.t 3)) 7 true []),(5,oG 10 (.call 163 [.t 8,.t 9]) 7 true [2,3,8,9]),(6,oG 11 (.bin .geq (.t 10) (.c (.int .i64 0))) 7 true [10]),(7,oP 12 (.pick (.t 7) (.t 11) (.c
(.bool false))) [7,11]),(8,oT 4 12 [12])] .ret))
def C147 : CFn := ⟨13,2,[.t 4],B147⟩
abbrev L148_0 : CCode := (.seq (sR [(0,oT 12 4 []),(1,oP 13 (.fa 1 (.t 1)) []),(2,oP 14 (.ld 1 false (.t 13)) [13]),(3,oP 15 (.len (.t 14)) [14]),(4,oP 16 (.bin .lss (.t 12) (.t 15)) [12,15])] (.cond (.t 16) (sK [16]
.skip) (sK [1,4,16] (.exit 0)))) (.seq (.block 1 (.reg true [(0,oP 19 (.fa 1 (.t 3)) []),(1,oP 20 (.ld 1 false (.t 19)) []),(2,oP 21 (.fa 1 (.t 1)) []),(3,oP 22 (.ld 1 false (.t 21)) []),(4,oT 23 4 []),(5,oP 24 (.ia 2
(.t 22) (.t 23)) [22]),(6,oP 25 (.fa 0 (.t 24)) [24]),(7,oP 26 (.ld 1 false (.t 25)) []),(8,oP 27 (.bsl 1 0 [.int .i64 (0)] []) []),(9,oP 28 (.fa 1 (.t 1)) []),(10,oP 29 (.ld 1 false (.t 28)) [28]),(11,oT 30 4
[]),(12,oP 31 (.ia 2 (.t 29) (.t 30)) [29]),(13,oP 32 (.fa 1 (.t 31)) [31]),(14,oP 33 (.ld 1 false (.t 32)) [32]),(15,⟨some 34,.app 1 8 (.t 27) (.t 33),none,[(19,1),(21,1),(25,1)],[19,21,23,25,27,30,33]⟩),(16,oP 35
(.bld [.int .i64 (0),.nils] [(0,1,(.t 26)),(1,1,(.t 34))]) [26,34]),(17,oP 36 (.bsl 2 1 [.int .i64 (0),.nils] [(0,2,(.t 35))]) [35]),(18,oP 37 (.app 2 32 (.t 20) (.t 36)) [20,36]),(19,oP 38 (.fa 1 (.t 3))
[]),(20,⟨none,.st 1 (.t 38) (.t 37),none,[],[37,38]⟩)])) (.reg false [(0,oT 17 4 [4]),(1,oP 18 (.bin .add (.t 17) (.c (.int .i64 1))) [17]),(2,oT 4 18 [18])])))
abbrev B148 : CCode := (sR [(0,oP 1 (.box 3 (.t 0)) [0]),(1,oP 2 (.al [.int .i64 (0),.nils,.nils]) [])] (.seq (.reg true [(0,oP 5 (.fa 0 (.t 1)) []),(1,oP 6 (.ld 1 false (.t 5)) []),(2,oP 7 (.bsl 1 0 [.int .i64 (0)] [])
[]),(3,oP 8 (.fa 2 (.t 1)) []),(4,oP 9 (.ld 1 false (.t 8)) [8]),(7,oP 3 (.al [.int .i64 (0),.nils,.nils]) []),(5,⟨some 10,.app 1 8 (.t 7) (.t 9),none,[(5,1)],[5,7,9]⟩),(6,oP 11 (.bld [.int .i64 (0),.nils,.nils]
[(0,1,(.t 6)),(2,1,(.t 10))]) [6,10]),(8,⟨none,.st 3 (.t 3) (.t 11),none,[],[11]⟩)]) (.seq (sR [(0,oP 4 (.mv (.c (.int .i64 0))) [])] (.block 0 (.loop L148_0))) (sR [(0,oP 39 (.ld 3 true (.t 3)) []),(1,⟨none,.st 3 (.t
2) (.t 39),none,[],[3,39]⟩)] .ret))))
def C148 : CFn := ⟨40,1,[.m 2 3 true],B148⟩
abbrev L149_0 : CCode := (.seq (sR [(0,oT 9 7 []),(1,oT 10 0 []),(2,oP 11 (.lens (.t 10)) [10]),(3,oP 12 (.bin .lss (.t 9) (.t 11)) [9,11])] (.cond (.t 12) (sK [12] .skip) (sK [1,7,12] (.exit 0)))) (.seq (.block 1 (sR
[(0,oT 15 0 []),(1,oT 16 7 []),(2,oP 17 (.ix (.t 15) (.t 16)) [15,16]),(3,oT 18 1 []),(4,oP 19 (.bin .eql (.t 17) (.t 18)) [17,18])] (.cond (.t 19) (sK [19] (sR [(0,oT 20 5 [5]),(1,oT 21 0 []),(2,oT 22 6 [6]),(3,oT 23 7
[]),(4,oP 24 (.sst (.t 21) (some (.t 22)) (some (.t 23))) [21,22,23]),(5,oP 25 (.bsl 1 1 [.str []] [(0,1,(.t 24))]) [24]),(6,oP 26 (.app 1 16 (.t 20) (.t 25)) [20,25]),(7,oT 5 26 [26])] (.reg false [(0,oT 27 7 []),(1,oP
28 (.bin .add (.t 27) (.c (.int .i64 1))) [27]),(2,oT 6 28 [28])]))) (sK [19] .skip)))) (.reg false [(0,oT 13 7 [7]),(1,oP 14 (.bin .add (.t 13) (.c (.int .i64 1))) [13]),(2,oT 7 14 [14])])))
abbrev B149 : CCode := (sR [(0,oP 4 (.mv (.c (.nils))) [4])] (sR [(0,oP 8 (.bsl 1 0 [.str []] []) []),(1,oT 5 8 [8])] (sR [(0,oP 6 (.mv (.c (.int .i64 0))) [])] (.seq (sR [(0,oP 7 (.mv (.c (.int .i64 0))) [])] (.block 0
(.loop L149_0))) (sR [(0,oT 29 5 [5]),(1,oT 30 0 [0]),(2,oT 31 6 [6]),(3,oP 32 (.sst (.t 30) (some (.t 31)) none) [30,31]),(4,oP 33 (.bsl 1 1 [.str []] [(0,1,(.t 32))]) [32]),(5,oP 34 (.app 1 16 (.t 29) (.t 33))
[29,33]),(6,oT 4 34 [34])] .ret)))))
def C149 : CFn := ⟨35,2,[.t 4],B149⟩
abbrev L150_0 : CCode := (.seq (sR [(0,oT 5 4 []),(1,oP 6 (.bin .lss (.t 5) (.c (.int .i64 4))) [5])] (.cond (.t 6) (sK [6] .skip) (sK [0,4,6] (.exit 0)))) (.seq (.block 1 (sR [(0,oT 9 4 []),(1,oP 10 (.call 164 [.t 9])
[9]),(2,oT 11 0 []),(3,oP 12 (.bin .eql (.t 10) (.t 11)) [10,11])] (.cond (.t 12) (sK [0,12] (sR [(0,oT 13 4 [4]),(1,oT 2 13 [13]),(2,oP 3 (.mv (.c (.bool true))) [])] .ret)) (sK [12] .skip)))) (.reg false [(0,oT 7 4
[4]),(1,oP 8 (.bin .add (.t 7) (.c (.int .i64 1))) [7]),(2,oT 4 8 [8])])))
abbrev B150 : CCode := (sR [(0,oP 2 (.mv (.c (.int .i64 0))) [2]),(1,oP 3 (.mv (.c (.bool false))) [3])] (.seq (sR [(0,oP 4 (.mv (.c (.int .i64 (-10)))) [])] (.block 0 (.loop L150_0))) (sR [(0,oP 2 (.mv (.c (.int .i64
0))) []),(1,oP 3 (.mv (.c (.bool false))) [])] .ret)))
def C150 : CFn := ⟨14,1,[.t 2,.t 3],B150⟩
abbrev L151_0 : CCode := (.seq (sR [(0,oT 6 5 []),(1,oT 7 0 []),(2,oP 8 (.len (.t 7)) [7]),(3,oP 9 (.bin .lss (.t 6) (.t 8)) [6,8])] (.cond (.t 9) (sK [9] .skip) (sK [0,1,5,9] (.exit 0)))) (.seq (.block 1 (sR [(0,oT 12
0 []),(1,oT 13 5 []),(2,oP 14 (.ia 3 (.t 12) (.t 13)) []),(3,oP 15 (.fa 0 (.t 14)) [14]),(4,oP 16 (.ld 1 false (.t 15)) [12,13,15]),(5,oT 17 1 []),(6,oP 18 (.bin .eql (.t 16) (.t 17)) [16,17])] (.cond (.t 18) (sK
[0,1,18] (sR [(0,oT 19 5 [5]),(1,oT 4 19 [19])] .ret)) (sK [18] .skip)))) (.reg false [(0,oT 10 5 [5]),(1,oP 11 (.bin .add (.t 10) (.c (.int .i64 1))) [10]),(2,oT 5 11 [11])])))
abbrev B151 : CCode := (sR [(0,oP 4 (.mv (.c (.int .i64 0))) [4])] (.seq (sR [(0,oP 5 (.mv (.c (.int .i64 0))) [])] (.block 0 (.loop L151_0))) (sR [(0,oP 4 (.mv (.c (.int .i64 (-1)))) [])] .ret)))
def C151 : CFn := ⟨20,2,[.t 4],B151⟩
abbrev L152_0 : CCode := (.seq (sR [(0,oT 12 6 []),(1,oP 13 (.fa 2 (.t 3)) []),(2,oP 14 (.ld 1 false (.t 13)) [13]),(3,oP 15 (.len (.t 14)) [14]),(4,oP 16 (.bin .lss (.t 12) (.t 15)) [12,15])] (.cond (.t 16) (sK [16]
.skip) (sK [6,16] (.exit 0)))) (.seq (.block 1 (.reg false [(0,oT 19 5 [5]),(1,oP 20 (.fa 2 (.t 3)) []),(2,oP 21 (.ld 1 false (.t 20)) [20]),(3,oT 22 6 []),(4,oP 23 (.ia 1 (.t 21) (.t 22)) [21]),(5,oP 24 (.ld 1 false
(.t 23)) [22,23]),(6,oP 25 (.call 164 [.t 24]) [24]),(7,oP 26 (.bin .add (.t 19) (.t 25)) [19,25]),(8,oT 5 26 [26])])) (.reg false [(0,oT 17 6 [6]),(1,oP 18 (.bin .add (.t 17) (.c (.int .i64 1))) [17]),(2,oT 6 18
[18])])))
abbrev L152_1 : CCode := (.seq (sR [(0,oT 29 7 []),(1,oP 30 (.fa 1 (.t 3)) []),(2,oP 31 (.ld 1 false (.t 30)) [30]),(3,oP 32 (.len (.t 31)) [31]),(4,oP 33 (.bin .lss (.t 29) (.t 32)) [29,32])] (.cond (.t 33) (sK [33]
.skip) (sK [0,3,7,33] (.exit 2)))) (.seq (.block 3 (.seq (sR [(0,oT 36 7 []),(1,oP 37 (.bin .gtr (.t 36) (.c (.int .i64 0))) [36])] (.cond (.t 37) (sK [37] (.reg false [(0,oT 38 5 [5]),(1,oP 39 (.bin .add (.t 38) (.c
(.str [32]))) [38]),(2,oT 5 39 [39])])) (sK [37] .skip))) (.reg false [(0,oT 40 5 [5]),(1,oT 41 0 []),(2,oP 42 (.fa 1 (.t 3)) []),(3,oP 43 (.ld 1 false (.t 42)) [42]),(4,oT 44 7 []),(5,oP 45 (.ia 2 (.t 43) (.t 44))
[43]),(6,oP 46 (.ld 2 true (.t 45)) [45]),(7,oP 47 (.call 165 [.t 41,.t 46]) [41,44,46]),(8,oP 48 (.bin .add (.t 40) (.t 47)) [40,47]),(9,oT 5 48 [48])]))) (.reg false [(0,oT 34 7 [7]),(1,oP 35 (.bin .add (.t 34) (.c
(.int .i64 1))) [34]),(2,oT 7 35 [35])])))
abbrev B152 : CCode := (sR [(0,oP 3 (.box 3 (.t 1)) [1]),(1,oP 4 (.mv (.c (.str []))) [4])] (.seq (sR [(0,oT 8 0 []),(1,oP 9 (.ld 3 true (.t 3)) []),(2,oP 10 (.call 37 [.t 8,.t 9]) [8,9]),(3,oP 11 (.not (.t 10)) [10])]
(.cond (.t 11) (sK [0,3,11] (sR [(0,oP 4 (.mv (.c (.str []))) [])] .ret)) (sK [11] .skip))) (sR [(0,oP 5 (.mv (.c (.str []))) [])] (.seq (sR [(0,oP 6 (.mv (.c (.int .i64 0))) [])] (.block 0 (.loop L152_0))) (sR [(0,oT
27 5 [5]),(1,oP 28 (.bin .add (.t 27) (.c (.str [63]))) [27]),(2,oT 5 28 [28])] (.seq (sR [(0,oP 7 (.mv (.c (.int .i64 0))) [])] (.block 2 (.loop L152_1))) (sR [(0,oT 49 5 [5]),(1,oT 4 49 [49])] .ret)))))))
def C152 : CFn := ⟨50,2,[.t 4],B152⟩
abbrev B153 : CCode := (sR [(0,oP 2 (.mv (.c (.bool false))) [2])] (sR [(0,oT 3 0 [0]),(1,oP 4 (.call 74 [.t 3,(.c (.int .i64 0)),(.c (.int .i64 9))]) [3]),(2,oP 5 (.not (.t 4)) [4]),(3,oT 2 5 [5])] .ret))
def C153 : CFn := ⟨6,1,[.t 2],B153⟩
abbrev B154 : CCode := (sR [(0,oP 4 (.mv (.c (.int .i64 0))) [4])] (sR [(0,oT 7 0 []),(1,oP 8 (.call 162 [.t 7]) [7]),(2,oT 5 8 [8])] (sR [(0,oT 9 1 []),(1,oP 10 (.call 162 [.t 9]) [9]),(2,oT 6 10 [10])] (.seq (sR
[(0,oT 11 5 [5])] (.cond (.t 11) (sK [0,1,11] (.seq (sR [(0,oT 12 6 [6])] (.cond (.t 12) (sK [12] (sR [(0,oP 4 (.mv (.c (.int .i64 0))) [])] .ret)) (sK [12] .skip))) (sR [(0,oP 4 (.mv (.c (.int .i64 (-1)))) [])] .ret)))
(sK [11] .skip))) (.seq (sR [(0,oT 13 6 [6])] (.cond (.t 13) (sK [0,1,13] (sR [(0,oP 4 (.mv (.c (.int .i64 1))) [])] .ret)) (sK [13] .skip))) (.seq (sR [(0,oT 14 0 []),(1,oT 15 1 []),(2,oP 16 (.bin .lss (.t 14) (.t 15))
[14,15])] (.cond (.t 16) (sK [0,1,16] (sR [(0,oP 4 (.mv (.c (.int .i64 (-1)))) [])] .ret)) (sK [16] .skip))) (.seq (sR [(0,oT 17 0 [0]),(1,oT 18 1 [1]),(2,oP 19 (.bin .gtr (.t 17) (.t 18)) [17,18])] (.cond (.t 19) (sK
[19] (sR [(0,oP 4 (.mv (.c (.int .i64 1))) [])] .ret)) (sK [19] .skip))) (sR [(0,oP 4 (.mv (.c (.int .i64 0))) [])] .ret))))))))
def C154 : CFn := ⟨20,2,[.t 4],B154⟩
abbrev B155 : CCode := (sR [(0,oP 4 (.mv (.c (.nils))) [4])] (.seq (sR [(0,oT 5 1 []),(1,oP 6 (.bin .lss (.t 5) (.c (.int .i64 0))) [5])] (.cond (.t 6) (sK [6] (.reg false [(0,oP 7 .fail
[7]),(1,⟨none,.fail,none,[],[]⟩)])) (sK [6] .skip))) (.seq (sR [(0,oT 8 1 [1]),(1,oT 9 0 []),(2,oP 10 (.cap (.t 9)) [9]),(3,oT 11 0 []),(4,oP 12 (.len (.t 11)) [11]),(5,oP 13 (.bin .sub (.t 10) (.t 12)) [10,12]),(6,oP
14 (.bin .sub (.t 8) (.t 13)) [8,13]),(7,oT 1 14 [14])] (sR [(0,oT 15 1 []),(1,oP 16 (.bin .gtr (.t 15) (.c (.int .i64 0))) [15])] (.cond (.t 16) (sK [16] (.reg false [(0,oT 17 0 []),(1,oT 18 0 []),(2,oP 19 (.cap (.t
18)) [18]),(3,oP 20 (.sls 1 (.t 17) none (some (.t 19)) none) [17,19]),(4,oT 21 1 [1]),(5,oP 22 (.appm 1 8 [.int .i64 (0)] (.t 20) (.t 21)) [20,21]),(6,oT 23 0 [0]),(7,oP 24 (.len (.t 23)) [23]),(8,oP 25 (.sls 1 (.t 22)
none (some (.t 24)) none) [22,24]),(9,oT 0 25 [25])])) (sK [1,16] .skip)))) (sR [(0,oT 26 0 [0]),(1,oT 4 26 [26])] .ret))))
def C155 : CFn := ⟨27,2,[.t 4],B155⟩
abbrev B156 : CCode := (sR [(0,oP 4 (.mv (.c (.int .u64 (0)))) [4]),(1,oP 5 (.mv (.c (.int .u64 (0)))) [5])] (.seq (.cond (.c (.bool false)) (sR [(0,oT 11 0 [0]),(1,oP 12 (.conv .u32 (.t 11)) [11]),(2,oT 13 1 [1]),(3,oP
14 (.conv .u32 (.t 13)) [13]),(4,oP 15 (.call 166 [.t 12,.t 14]) [12,14]),(5,oT 10 15 [15]),(6,oP 16 (.ex (.t 10) 0) []),(7,oP 17 (.ex (.t 10) 1) [10]),(8,oT 6 16 [16]),(9,oT 7 17 [17])] (sR [(0,oT 18 6 [6]),(1,oP 19
(.conv .u64 (.t 18)) [18]),(2,oT 20 7 [7]),(3,oP 21 (.conv .u64 (.t 20)) [20]),(4,oT 4 19 [19]),(5,oT 5 21 [21])] .ret)) .skip) (sR [(0,oT 23 0 [0]),(1,oT 24 1 [1]),(2,oP 25 (.call 167 [.t 23,.t 24]) [23,24]),(3,oT 22
25 [25]),(4,oP 26 (.ex (.t 22) 0) []),(5,oP 27 (.ex (.t 22) 1) [22]),(6,oT 8 26 [26]),(7,oT 9 27 [27])] (sR [(0,oT 28 8 [8]),(1,oT 29 9 [9]),(2,oT 4 28 [28]),(3,oT 5 29 [29])] .ret))))
def C156 : CFn := ⟨30,2,[.t 4,.t 5],B156⟩
abbrev B162 : CCode := (sR [(0,oP 2 (.mv (.c (.bool false))) [2])] (sR [(0,oT 3 0 []),(1,oT 4 0 [0]),(2,oP 5 (.bin .neq (.t 3) (.t 4)) [3,4]),(3,oT 2 5 [5])] .ret))
def C162 : CFn := ⟨6,1,[.t 2],B162⟩
abbrev L163_0 : CCode := (.seq (sR [(0,oT 6 5 []),(1,oP 7 (.fa 1 (.t 2)) []),(2,oP 8 (.ld 1 false (.t 7)) [7]),(3,oP 9 (.len (.t 8)) [8]),(4,oP 10 (.bin .lss (.t 6) (.t 9)) [6,9])] (.cond (.t 10) (sK [10] .skip) (sK
[2,3,5,10] (.exit 0)))) (.seq (.block 1 (.seq (.reg true [(0,oP 13 (.fa 1 (.t 2)) []),(1,oP 14 (.ld 1 false (.t 13)) [13]),(2,oT 15 5 []),(3,oP 16 (.ia 2 (.t 14) (.t 15)) [14]),(4,oP 17 (.ld 2 true (.t 16)) [16]),(5,oP
18 (.ld 2 true (.t 3)) []),(6,oP 19 (.call 72 [.t 17,.t 18]) [15,17,18]),(7,oP 20 (.bin .eql (.t 19) (.c (.int .i64 0))) [19])]) (.cond (.t 20) (sK [2,3,20] (sR [(0,oT 21 5 [5]),(1,oT 4 21 [21])] .ret)) (sK [20]
.skip)))) (.reg false [(0,oT 11 5 [5]),(1,oP 12 (.bin .add (.t 11) (.c (.int .i64 1))) [11]),(2,oT 5 12 [12])])))
abbrev B163 : CCode := (sR [(0,oP 2 (.box 2 (.t 0)) [0]),(1,oP 3 (.box 2 (.t 1)) [1]),(2,oP 4 (.mv (.c (.int .i64 0))) [4])] (.seq (sR [(0,oP 5 (.mv (.c (.int .i64 0))) [])] (.block 0 (.loop L163_0))) (sR [(0,oP 4 (.mv
(.c (.int .i64 (-1)))) [])] .ret)))
def C163 : CFn := ⟨22,2,[.t 4],B163⟩
abbrev B164 : CCode := (sR [(0,oP 2 (.mv (.c (.str []))) [2])] (sR [(0,oT 6 0 []),(1,oP 7 (.call 169 [.t 6]) [6]),(2,oT 5 7 [7]),(3,oP 8 (.ex (.t 5) 0) []),(4,oP 9 (.ex (.t 5) 1) [5]),(5,oT 3 8 [8]),(6,oT 4 9 [9])]
(.seq (sR [(0,oT 10 4 [4])] (.cond (.t 10) (sK [0,10] (sR [(0,oT 11 3 [3]),(1,oP 12 (.call 170 [.t 11]) [11]),(2,oT 2 12 [12])] .ret)) (sK [3,10] .skip))) (.seq (sR [(0,oT 13 0 []),(1,oP 14 (.call 38 [.t 13,(.c (.int
.i64 0)),(.c (.int .i64 3))]) [13]),(2,oP 15 (.not (.t 14)) [14])] (.cond (.t 15) (sK [0,15] (sR [(0,oP 2 (.mv (.c (.str []))) [])] .ret)) (sK [15] .skip))) (sR [(0,oT 16 0 []),(1,oT 17 0 [0]),(2,oP 18 (.bin .add (.t
17) (.c (.int .i64 1))) [17]),(3,oP 19 (.sst (.c (.str [120,121,122,119])) (some (.t 16)) (some (.t 18))) [16,18]),(4,oT 2 19 [19])] .ret)))))
def C164 : CFn := ⟨20,1,[.t 2],B164⟩
abbrev L165_0 : CCode := (.seq (sR [(0,oT 13 6 []),(1,oP 14 (.fa 1 (.t 3)) []),(2,oP 15 (.ld 1 false (.t 14)) [14]),(3,oP 16 (.len (.t 15)) [15]),(4,oP 17 (.bin .lss (.t 13) (.t 16)) [13,16])] (.cond (.t 17) (sK [17]
.skip) (sK [0,3,6,17] (.exit 0)))) (.seq (.block 1 (.seq (sR [(0,oT 20 6 []),(1,oT 21 0 []),(2,oP 22 (.fa 0 (.t 3)) []),(3,oP 23 (.ld 1 false (.t 22)) [22]),(4,oP 24 (.ia 3 (.t 21) (.t 23)) []),(5,oP 25 (.fa 2 (.t 24))
[24]),(6,oP 26 (.ld 1 false (.t 25)) [21,23,25]),(7,oP 27 (.bin .eql (.t 20) (.t 26)) [20,26])] (.cond (.t 27) (sK [27] (.reg false [(0,oT 28 5 [5]),(1,oP 29 (.bin .add (.t 28) (.c (.str [124]))) [28]),(2,oT 5 29
[29])])) (sK [27] .skip))) (.reg false [(0,oT 30 5 [5]),(1,oP 31 (.fa 1 (.t 3)) []),(2,oP 32 (.ld 1 false (.t 31)) [31]),(3,oT 33 6 []),(4,oP 34 (.ia 1 (.t 32) (.t 33)) [32]),(5,oP 35 (.ld 1 false (.t 34))
[33,34]),(6,oP 36 (.call 164 [.t 35]) [35]),(7,oP 37 (.bin .add (.t 30) (.t 36)) [30,36]),(8,oT 5 37 [37])]))) (.reg false [(0,oT 18 6 [6]),(1,oP 19 (.bin .add (.t 18) (.c (.int .i64 1))) [18]),(2,oT 6 19 [19])])))
abbrev B165 : CCode := (sR [(0,oP 3 (.box 2 (.t 1)) [1]),(1,oP 4 (.mv (.c (.str []))) [4])] (sR [(0,oT 7 0 []),(1,oP 8 (.fa 0 (.t 3)) []),(2,oP 9 (.ld 1 false (.t 8)) [8]),(3,oP 10 (.ia 3 (.t 7) (.t 9)) []),(4,oP 11
(.fa 0 (.t 10)) [10]),(5,oP 12 (.ld 1 false (.t 11)) [7,9,11]),(6,oT 5 12 [12])] (.seq (sR [(0,oP 6 (.mv (.c (.int .i64 0))) [])] (.block 0 (.loop L165_0))) (sR [(0,oT 38 5 [5]),(1,oT 4 38 [38])] .ret))))
def C165 : CFn := ⟨39,2,[.t 4],B165⟩
abbrev B167 : CCode := (sR [(0,oP 4 (.mv (.c (.int .u64 (0)))) [4]),(1,oP 5 (.mv (.c (.int .u64 (0)))) [5])] (sR [(0,oT 14 0 []),(1,oP 15 (.bin .and (.t 14) (.c (.int .u64 (4294967295)))) [14]),(2,oT 6 15 [15])] (sR
[(0,oT 16 0 []),(1,oP 17 (.bin .shr (.t 16) (.c (.int .u64 (32)))) [16]),(2,oT 7 17 [17])] (sR [(0,oT 18 1 []),(1,oP 19 (.bin .and (.t 18) (.c (.int .u64 (4294967295)))) [18]),(2,oT 8 19 [19])] (sR [(0,oT 20 1 []),(1,oP
21 (.bin .shr (.t 20) (.c (.int .u64 (32)))) [20]),(2,oT 9 21 [21])] (sR [(0,oT 22 6 []),(1,oT 23 8 []),(2,oP 24 (.bin .mul (.t 22) (.t 23)) [22,23]),(3,oT 10 24 [24])] (sR [(0,oT 25 7 []),(1,oT 26 8 [8]),(2,oP 27 (.bin
.mul (.t 25) (.t 26)) [25,26]),(3,oT 28 10 [10]),(4,oP 29 (.bin .shr (.t 28) (.c (.int .u64 (32)))) [28]),(5,oP 30 (.bin .add (.t 27) (.t 29)) [27,29]),(6,oT 11 30 [30])] (sR [(0,oT 31 11 []),(1,oP 32 (.bin .and (.t 31)
(.c (.int .u64 (4294967295)))) [31]),(2,oT 12 32 [32])] (sR [(0,oT 33 11 [11]),(1,oP 34 (.bin .shr (.t 33) (.c (.int .u64 (32)))) [33]),(2,oT 13 34 [34])] (sR [(0,oT 35 12 [12]),(1,oT 36 6 [6]),(2,oT 37 9 []),(3,oP 38
(.bin .mul (.t 36) (.t 37)) [36,37]),(4,oP 39 (.bin .add (.t 35) (.t 38)) [35,38]),(5,oT 12 39 [39])] (sR [(0,oT 40 7 [7]),(1,oT 41 9 [9]),(2,oP 42 (.bin .mul (.t 40) (.t 41)) [40,41]),(3,oT 43 13 [13]),(4,oP 44 (.bin
.add (.t 42) (.t 43)) [42,43]),(5,oT 45 12 [12]),(6,oP 46 (.bin .shr (.t 45) (.c (.int .u64 (32)))) [45]),(7,oP 47 (.bin .add (.t 44) (.t 46)) [44,46]),(8,oT 4 47 [47])] (sR [(0,oT 48 0 [0]),(1,oT 49 1 [1]),(2,oP 50
(.bin .mul (.t 48) (.t 49)) [48,49]),(3,oT 5 50 [50])] .ret))))))))))))
def C167 : CFn := ⟨51,2,[.t 4,.t 5],B167⟩
abbrev B169 : CCode := (sR [(0,oP 2 (.mv (.c (.int .i64 0))) [2]),(1,oP 3 (.mv (.c (.bool false))) [3])] (.seq (sR [(0,oT 4 0 []),(1,oP 5 (.bin .geq (.t 4) (.c (.int .i64 0))) [4]),(2,oT 6 5 [5]),(3,oG 7 (.mv (.t 0)) 6
false []),(4,oG 8 (.bin .sub (.c (.int .i64 (-1))) (.t 7)) 6 false [7]),(5,oG 9 (.call 38 [.t 8,(.c (.int .i64 0)),(.c (.int .i64 9))]) 6 false [8]),(6,oG 10 (.not (.t 9)) 6 false [9]),(7,oP 11 (.pick (.t 6) (.c (.bool
true)) (.t 10)) [6,10])] (.cond (.t 11) (sK [0,11] (sR [(0,oP 2 (.mv (.c (.int .i64 0))) []),(1,oP 3 (.mv (.c (.bool false))) [])] .ret)) (sK [11] .skip))) (sR [(0,oT 12 0 [0]),(1,oP 13 (.bin .sub (.c (.int .i64 (-1)))
(.t 12)) [12]),(2,oT 2 13 [13]),(3,oP 3 (.mv (.c (.bool true))) [])] .ret)))
def C169 : CFn := ⟨14,1,[.t 2,.t 3],B169⟩
abbrev L170_0 : CCode := (.seq (sR [(0,oT 10 0 []),(1,oP 11 (.bin .neq (.t 10) (.c (.int .i64 0))) [10])] (.cond (.t 11) (sK [11] .skip) (sK [0,11] (.exit 0)))) (.block 1 (sR [(0,oT 12 0 []),(1,oP 13 (.bin .rem (.t 12)
(.c (.int .i64 10))) [12]),(2,oT 5 13 [13])] (.seq (sR [(0,oT 14 5 []),(1,oP 15 (.bin .lss (.t 14) (.c (.int .i64 0))) [14])] (.cond (.t 15) (sK [15] (.reg false [(0,oT 16 5 [5]),(1,oP 17 (.neg (.t 16)) [16]),(2,oT 5 17
[17])])) (sK [15] .skip))) (sR [(0,oT 18 5 [5]),(1,oP 19 (.bin .add (.c (.int .i64 48)) (.t 18)) [18]),(2,oP 20 (.conv .u8 (.t 19)) [19]),(3,oP 21 (.bsl 1 1 [.int .u8 (0)] [(0,1,(.t 20))]) [20]),(4,oP 22 (.b2s (.t 21))
[21]),(5,oT 23 3 [3]),(6,oP 24 (.bin .add (.t 22) (.t 23)) [22,23]),(7,oT 3 24 [24])] (.reg false [(0,oT 25 0 [0]),(1,oP 26 (.bin .quo (.t 25) (.c (.int .i64 10))) [25]),(2,oT 0 26 [26])]))))))
abbrev B170 : CCode := (sR [(0,oP 2 (.mv (.c (.str []))) [2])] (.seq (sR [(0,oT 6 0 []),(1,oP 7 (.bin .eql (.t 6) (.c (.int .i64 0))) [6])] (.cond (.t 7) (sK [0,7] (sR [(0,oP 2 (.mv (.c (.str [48]))) [])] .ret)) (sK [7]
.skip))) (sR [(0,oP 3 (.mv (.c (.str []))) [])] (sR [(0,oT 8 0 []),(1,oP 9 (.bin .lss (.t 8) (.c (.int .i64 0))) [8]),(2,oT 4 9 [9])] (.seq (.block 0 (.loop L170_0)) (.seq (sR [(0,oT 27 4 [4])] (.cond (.t 27) (sK [27]
(sR [(0,oT 28 3 [3]),(1,oP 29 (.bin .add (.c (.str [45])) (.t 28)) [28]),(2,oT 2 29 [29])] .ret)) (sK [27] .skip))) (sR [(0,oT 30 3 [3]),(1,oT 2 30 [30])] .ret)))))))
def C170 : CFn := ⟨31,1,[.t 2],B170⟩
theorem chk3 : chkFn Go.Proofs.Tryz.prog 3 C3 = true := by kernel_rfl
theorem chk5 : chkFn Go.Proofs.Tryz.prog 5 C5 = true := by kernel_rfl
theorem chk6 : chkFn Go.Proofs.Tryz.prog 6 C6 = true := by kernel_rfl
theorem chk7 : chkFn Go.Proofs.Tryz.prog 7 C7 = true := by kernel_rfl
theorem chk8 : chkFn Go.Proofs.Tryz.prog 8 C8 = true := by kernel_rfl
theorem chk9 : chkFn Go.Proofs.Tryz.prog 9 C9 = true := by kernel_rfl
theorem chk10 : chkFn Go.Proofs.Tryz.prog 10 C10 = true := by kernel_rfl
theorem chk11 : chkFn Go.Proofs.Tryz.prog 11 C11 = true := by kernel_rfl
theorem chk12 : chkFn Go.Proofs.Tryz.prog 12 C12 = true := by kernel_rfl
theorem chk13 : chkFn Go.Proofs.Tryz.prog 13 C13 = true := by kernel_rfl
theorem chk14 : chkFn Go.Proofs.Tryz.prog 14 C14 = true := by kernel_rfl
theorem chk15 : chkFn Go.Proofs.Tryz.prog 15 C15 = true := by kernel_rfl
theorem chk16 : chkFn Go.Proofs.Tryz.prog 16 C16 = true := by kernel_rfl
theorem chk17 : chkFn Go.Proofs.Tryz.prog 17 C17 = true := by kernel_rfl
theorem chk18 : chkFn Go.Proofs.Tryz.prog 18 C18 = true := by kernel_rfl
theorem chk19 : chkFn Go.Proofs.Tryz.prog 19 C19 = true := by kernel_rfl
theorem chk24 : chkFn Go.Proofs.Tryz.prog 24 C24 = true := by kernel_rfl
theorem chk30 : chkFn Go.Proofs.Tryz.prog 30 C30 = true := by kernel_rfl
theorem chk31 : chkFn Go.Proofs.Tryz.prog 31 C31 = true := by kernel_rfl
theorem chk32 : chkFn Go.Proofs.Tryz.prog 32 C32 = true := by kernel_rfl
theorem chk33 : chkFn Go.Proofs.Tryz.prog 33 C33 = true := by kernel_rfl
theorem chk34 : chkFn Go.Proofs.Tryz.prog 34 C34 = true := by kernel_rfl
theorem chk35 : chkFn Go.Proofs.Tryz.prog 35 C35 = true := by kernel_rfl
theorem chk36 : chkFn Go.Proofs.Tryz.prog 36 C36 = true := by kernel_rfl
theorem chk37 : chkFn Go.Proofs.Tryz.prog 37 C37 = true := by kernel_rfl
theorem chk38 : chkFn Go.Proofs.Tryz.prog 38 C38 = true := by kernel_rfl
theorem chk39 : chkFn Go.Proofs.Tryz.prog 39 C39 = true := by kernel_rfl
theorem chk40 : chkFn Go.Proofs.Tryz.prog 40 C40 = true := by kernel_rfl
theorem chk41 : chkFn Go.Proofs.Tryz.prog 41 C41 = true := by kernel_rfl
theorem chk42 : chkFn Go.Proofs.Tryz.prog 42 C42 = true := by kernel_rfl
theorem chk43 : chkFn Go.Proofs.Tryz.prog 43 C43 = true := by kernel_rfl
theorem chk44 : chkFn Go.Proofs.Tryz.prog 44 C44 = true := by kernel_rfl
theorem chk45 : chkFn Go.Proofs.Tryz.prog 45 C45 = true := by kernel_rfl
theorem chk46 : chkFn Go.Proofs.Tryz.prog 46 C46 = true := by kernel_rfl
theorem chk47 : chkFn Go.Proofs.Tryz.prog 47 C47 = true := by kernel_rfl
theorem chk48 : chkFn Go.Proofs.Tryz.prog 48 C48 = true := by kernel_rfl
theorem chk56 : chkFn Go.Proofs.Tryz.prog 56 C56 = true := by kernel_rfl
theorem chk57 : chkFn Go.Proofs.Tryz.prog 57 C57 = true := by kernel_rfl
theorem chk61 : chkFn Go.Proofs.Tryz.prog 61 C61 = true := by kernel_rfl
theorem chk62 : chkFn Go.Proofs.Tryz.prog 62 C62 = true := by kernel_rfl
theorem chk63 : chkFn Go.Proofs.Tryz.prog 63 C63 = true := by kernel_rfl
theorem chk64 : chkFn Go.Proofs.Tryz.prog 64 C64 = true := by kernel_rfl
theorem chk65 : chkFn Go.Proofs.Tryz.prog 65 C65 = true := by kernel_rfl
theorem chk66 : chkFn Go.Proofs.Tryz.prog 66 C66 = true := by kernel_rfl
theorem chk67 : chkFn Go.Proofs.Tryz.prog 67 C67 = true := by kernel_rfl
theorem chk68 : chkFn Go.Proofs.Tryz.prog 68 C68 = true := by kernel_rfl
theorem chk70 : chkFn Go.Proofs.Tryz.prog 70 C70 = true := by kernel_rfl
theorem chk71 : chkFn Go.Proofs.Tryz.prog 71 C71 = true := by kernel_rfl
theorem chk72 : chkFn Go.Proofs.Tryz.prog 72 C72 = true := by kernel_rfl
theorem chk73 : chkFn Go.Proofs.Tryz.prog 73 C73 = true := by kernel_rfl
theorem chk74 : chkFn Go.Proofs.Tryz.prog 74 C74 = true := by kernel_rfl
theorem chk75 : chkFn Go.Proofs.Tryz.prog 75 C75 = true := by kernel_rfl
theorem chk76 : chkFn Go.Proofs.Tryz.prog 76 C76 = true := by kernel_rfl
theorem chk77 : chkFn Go.Proofs.Tryz.prog 77 C77 = true := by kernel_rfl
theorem chk78 : chkFn Go.Proofs.Tryz.prog 78 C78 = true := by kernel_rfl
theorem chk79 : chkFn Go.Proofs.Tryz.prog 79 C79 = true := by kernel_rfl
theorem chk80 : chkFn Go.Proofs.Tryz.prog 80 C80 = true := by kernel_rfl
theorem chk81 : chkFn Go.Proofs.Tryz.prog 81 C81 = true := by kernel_rfl
theorem chk83 : chkFn Go.Proofs.Tryz.prog 83 C83 = true := by kernel_rfl
theorem chk87 : chkFn Go.Proofs.Tryz.prog 87 C87 = true := by kernel_rfl
theorem chk88 : chkFn Go.Proofs.Tryz.prog 88 C88 = true := by kernel_rfl
theorem chk90 : chkFn Go.Proofs.Tryz.prog 90 C90 = true := by kernel_rfl
theorem chk91 : chkFn Go.Proofs.Tryz.prog 91 C91 = true := by kernel_rfl
theorem chk92 : chkFn Go.Proofs.Tryz.prog 92 C92 = true := by kernel_rfl
theorem chk93 : chkFn Go.Proofs.Tryz.prog 93 C93 = true := by kernel_rfl
theorem chk94 : chkFn Go.Proofs.Tryz.prog 94 C94 = true := by kernel_rfl
theorem chk95 : chkFn Go.Proofs.Tryz.prog 95 C95 = true := by kernel_rfl
theorem chk96 : chkFn Go.Proofs.Tryz.prog 96 C96 = true := by kernel_rfl
theorem chk97 : chkFn Go.Proofs.Tryz.prog 97 C97 = true := by kernel_rfl
theorem chk98 : chkFn Go.Proofs.Tryz.prog 98 C98 = true := by kernel_rfl
theorem chk99 : chkFn Go.Proofs.Tryz.prog 99 C99 = true := by kernel_rfl
theorem chk100 : chkFn Go.Proofs.Tryz.prog 100 C100 = true := by kernel_rfl
theorem chk101 : chkFn Go.Proofs.Tryz.prog 101 C101 = true := by kernel_rfl
theorem chk102 : chkFn Go.Proofs.Tryz.prog 102 C102 = true := by kernel_rfl
theorem chk103 : chkFn Go.Proofs.Tryz.prog 103 C103 = true := by kernel_rfl
theorem chk104 : chkFn Go.Proofs.Tryz.prog 104 C104 = true := by kernel_rfl
theorem chk105 : chkFn Go.Proofs.Tryz.prog 105 C105 = true := by kernel_rfl
theorem chk106 : chkFn Go.Proofs.Tryz.prog 106 C106 = true := by kernel_rfl
theorem chk109 : chkFn Go.Proofs.Tryz.prog 109 C109 = true := by kernel_rfl
theorem chk110 : chkFn Go.Proofs.Tryz.prog 110 C110 = true := by kernel_rfl
theorem chk111 : chkFn Go.Proofs.Tryz.prog 111 C111 = true := by kernel_rfl
theorem chk112 : chkFn Go.Proofs.Tryz.prog 112 C112 = true := by kernel_rfl
theorem chk115 : chkFn Go.Proofs.Tryz.prog 115 C115 = true := by kernel_rfl
theorem chk116 : chkFn Go.Proofs.Tryz.prog 116 C116 = true := by kernel_rfl
theorem chk118 : chkFn Go.Proofs.Tryz.prog 118 C118 = true := by kernel_rfl
theorem chk119 : chkFn Go.Proofs.Tryz.prog 119 C119 = true := by kernel_rfl
theorem chk120 : chkFn Go.Proofs.Tryz.prog 120 C120 = true := by kernel_rfl
theorem chk121 : chkFn Go.Proofs.Tryz.prog 121 C121 = true := by kernel_rfl
theorem chk122 : chkFn Go.Proofs.Tryz.prog 122 C122 = true := by kernel_rfl
theorem chk123 : chkFn Go.Proofs.Tryz.prog 123 C123 = true := by kernel_rfl
theorem chk124 : chkFn Go.Proofs.Tryz.prog 124 C124 = true := by kernel_rfl
theorem chk125 : chkFn Go.Proofs.Tryz.prog 125 C125 = true := by kernel_rfl
theorem chk126 : chkFn Go.Proofs.Tryz.prog 126 C126 = true := by kernel_rfl
theorem chk127 : chkFn Go.Proofs.Tryz.prog 127 C127 = true := by kernel_rfl
theorem chk128 : chkFn Go.Proofs.Tryz.prog 128 C128 = true := by kernel_rfl
theorem chk129 : chkFn Go.Proofs.Tryz.prog 129 C129 = true := by kernel_rfl
theorem chk131 : chkFn Go.Proofs.Tryz.prog 131 C131 = true := by kernel_rfl
theorem chk132 : chkFn Go.Proofs.Tryz.prog 132 C132 = true := by kernel_rfl
theorem chk133 : chkFn Go.Proofs.Tryz.prog 133 C133 = true := by kernel_rfl
theorem chk145 : chkFn Go.Proofs.Tryz.prog 145 C145 = true := by kernel_rfl
theorem chk146 : chkFn Go.Proofs.Tryz.prog 146 C146 = true := by kernel_rfl
theorem chk147 : chkFn Go.Proofs.Tryz.prog 147 C147 = true := by kernel_rfl
theorem chk148 : chkFn Go.Proofs.Tryz.prog 148 C148 = true := by kernel_rfl
theorem chk149 : chkFn Go.Proofs.Tryz.prog 149 C149 = true := by kernel_rfl
theorem chk150 : chkFn Go.Proofs.Tryz.prog 150 C150 = true := by kernel_rfl
theorem chk151 : chkFn Go.Proofs.Tryz.prog 151 C151 = true := by kernel_rfl
theorem chk152 : chkFn Go.Proofs.Tryz.prog 152 C152 = true := by kernel_rfl
theorem chk153 : chkFn Go.Proofs.Tryz.prog 153 C153 = true := by kernel_rfl
theorem chk154 : chkFn Go.Proofs.Tryz.prog 154 C154 = true := by kernel_rfl
theorem chk155 : chkFn Go.Proofs.Tryz.prog 155 C155 = true := by kernel_rfl
theorem chk156 : chkFn Go.Proofs.Tryz.prog 156 C156 = true := by kernel_rfl
theorem chk162 : chkFn Go.Proofs.Tryz.prog 162 C162 = true := by kernel_rfl
theorem chk163 : chkFn Go.Proofs.Tryz.prog 163 C163 = true := by kernel_rfl
theorem chk164 : chkFn Go.Proofs.Tryz.prog 164 C164 = true := by kernel_rfl
theorem chk165 : chkFn Go.Proofs.Tryz.prog 165 C165 = true := by kernel_rfl
theorem chk167 : chkFn Go.Proofs.Tryz.prog 167 C167 = true := by kernel_rfl
theorem chk169 : chkFn Go.Proofs.Tryz.prog 169 C169 = true := by kernel_rfl
theorem chk170 : chkFn Go.Proofs.Tryz.prog 170 C170 = true := by kernel_rfl
def Tab (f : Nat) : Option CFn :=
  match f with
  | 3 => some C3
  | 5 => some C5
  | 6 => some C6
  | 7 => some C7
  | 8 => some C8
  | 9 => some C9
  | 10 => some C10
  | 11 => some C11
  | 12 => some C12
  | 13 => some C13
  | 14 => some C14
  | 15 => some C15
  | 16 => some C16
  | 17 => some C17
  | 18 => some C18
  | 19 => some C19
  | 24 => some C24
  | 30 => some C30
  | 31 => some C31
  | 32 => some C32
  | 33 => some C33
  | 34 => some C34
  | 35 => some C35
  | 36 => some C36
  | 37 => some C37
  | 38 => some C38
  | 39 => some C39
  | 40 => some C40
  | 41 => some C41
  | 42 => some C42
  | 43 => some C43
  | 44 => some C44
  | 45 => some C45
  | 46 => some C46
  | 47 => some C47
  | 48 => some C48
  | 56 => some C56
  | 57 => some C57
  | 61 => some C61
  | 62 => some C62
  | 63 => some C63
  | 64 => some C64
  | 65 => some C65
  | 66 => some C66
  | 67 => some C67
  | 68 => some C68
  | 70 => some C70
  | 71 => some C71
  | 72 => some C72
  | 73 => some C73
  | 74 => some C74
  | 75 => some C75
  | 76 => some C76
  | 77 => some C77
  | 78 => some C78
  | 79 => some C79
  | 80 => some C80
  | 81 => some C81
  | 83 => some C83
  | 87 => some C87
  | 88 => some C88
  | 90 => some C90
  | 91 => some C91
  | 92 => some C92
  | 93 => some C93
  | 94 => some C94
  | 95 => some C95
  | 96 => some C96
  | 97 => some C97
  | 98 => some C98
  | 99 => some C99
  | 100 => some C100
  | 101 => some C101
  | 102 => some C102
  | 103 => some C103
  | 104 => some C104
  | 105 => some C105
  | 106 => some C106
  | 109 => some C109
  | 110 => some C110
  | 111 => some C111
  | 112 => some C112
  | 115 => some C115
  | 116 => some C116
  | 118 => some C118
  | 119 => some C119
  | 120 => some C120
  | 121 => some C121
  | 122 => some C122
  | 123 => some C123
  | 124 => some C124
  | 125 => some C125
  | 126 => some C126
  | 127 => some C127
  | 128 => some C128
  | 129 => some C129
  | 131 => some C131
  | 132 => some C132
  | 133 => some C133
  | 145 => some C145
  | 146 => some C146
  | 147 => some C147
  | 148 => some C148
  | 149 => some C149
  | 150 => some C150
  | 151 => some C151
  | 152 => some C152
  | 153 => some C153
  | 154 => some C154
  | 155 => some C155
  | 156 => some C156
  | 162 => some C162
  | 163 => some C163
  | 164 => some C164
  | 165 => some C165
  | 167 => some C167
  | 169 => some C169
  | 170 => some C170
  | _ => none
theorem tabOk : TabOk Go.Proofs.Tryz.prog Tab := by
  intro f cf h
  unfold Tab at h
  split at h <;> simp only [Option.some.injEq, reduceCtorEq] at h <;> subst h
  · exact chk3
  · exact chk5
  · exact chk6
  · exact chk7
  · exact chk8
  · exact chk9
  · exact chk10
  · exact chk11
  · exact chk12
  · exact chk13
  · exact chk14
  · exact chk15
  · exact chk16
  · exact chk17
  · exact chk18
  · exact chk19
  · exact chk24
  · exact chk30
  · exact chk31
  · exact chk32
  · exact chk33
  · exact chk34
  · exact chk35
  · exact chk36
  · exact chk37
  · exact chk38
  · exact chk39
  · exact chk40
  · exact chk41
  · exact chk42
  · exact chk43
  · exact chk44
  · exact chk45
  · exact chk46
  · exact chk47
  · exact chk48
  · exact chk56
  · exact chk57
  · exact chk61
  · exact chk62
  · exact chk63
  · exact chk64
  · exact chk65
  · exact chk66
  · exact chk67
  · exact chk68
  · exact chk70
  · exact chk71
  · exact chk72
  · exact chk73
  · exact chk74
  · exact chk75
  · exact chk76
  · exact chk77
  · exact chk78
  · exact chk79
  · exact chk80
  · exact chk81
  · exact chk83
  · exact chk87
  · exact chk88
  · exact chk90
  · exact chk91
  · exact chk92
  · exact chk93
  · exact chk94
  · exact chk95
  · exact chk96
  · exact chk97
  · exact chk98
  · exact chk99
  · exact chk100
  · exact chk101
  · exact chk102
  · exact chk103
  · exact chk104
  · exact chk105
  · exact chk106
  · exact chk109
  · exact chk110
  · exact chk111
  · exact chk112
  · exact chk115
  · exact chk116
  · exact chk118
  · exact chk119
  · exact chk120
  · exact chk121
  · exact chk122
  · exact chk123
  · exact chk124
  · exact chk125
  · exact chk126
  · exact chk127
  · exact chk128
  · exact chk129
  · exact chk131
  · exact chk132
  · exact chk133
  · exact chk145
  · exact chk146
  · exact chk147
  · exact chk148
  · exact chk149
  · exact chk150
  · exact chk151
  · exact chk152
  · exact chk153
  · exact chk154
  · exact chk155
  · exact chk156
  · exact chk162
  · exact chk163
  · exact chk164
  · exact chk165
  · exact chk167
  · exact chk169
  · exact chk170

end Go.Proofs.YtbhadkbchkjdiaaGreatH
