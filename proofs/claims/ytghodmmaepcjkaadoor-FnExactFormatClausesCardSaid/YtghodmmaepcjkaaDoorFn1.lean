import Derived.Test.YtghodmmaepcjkaaDoorX3
import Derived.Test.YtghodmmaepcjkaaDoorProg
set_option linter.unusedVariables false
set_option maxRecDepth 100000
namespace Go.Proofs.YtghodmmaepcjkaaDoorH
open Go
@[simp] abbrev oP (d : Nat) (p : COp) (k : List Nat) : COper := ⟨some d, p, none, [], k⟩
@[simp] abbrev oT (d a : Nat) (k : List Nat) : COper := ⟨some d, .mv (.t a), none, [], k⟩
@[simp] abbrev oG (d : Nat) (p : COp) (g : Nat) (b : Bool) (k : List Nat) : COper := ⟨some d, p, some (g, b), [], k⟩
abbrev sR (l : List (Nat × COper)) (c : CCode) : CCode := .seq (.reg false l) c
abbrev sK (l : List Nat) (c : CCode) : CCode := .seq (.kill l) c
abbrev B4 : CCode := (sR [(0,oP 4 (.mv (.c (.bool false))) [4])] (sR [(0,oP 5 (.mv (.c (.int .i64 1048576))) [])] (sR [(0,oT 9 1 []),(1,oT 10 5 [5]),(2,oP 11 (.call 10 [.t 9,.t 10]) [9,10]),(3,oT 5 11 [11])] (.seq (sR
[(0,oT 12 5 [5]),(1,oP 13 (.bin .lss (.t 12) (.c (.int .i64 0))) [12])] (.cond (.t 13) (sK [0,1,13] (sR [(0,oP 4 (.mv (.c (.bool true))) [])] .ret)) (sK [13] .skip))) (sR [(0,oT 14 0 []),(1,oT 15 1 []),(2,oP 16 (.call
12 [.t 15]) [15]),(3,oP 17 (.call 11 [.t 14,.t 16]) [14,16]),(4,oT 6 17 [17])] (sR [(0,oT 18 1 []),(1,oP 19 (.call 12 [.t 18]) [18]),(2,oT 7 19 [19])] (sR [(0,oT 20 0 [0]),(1,oT 21 7 []),(2,oP 22 (.call 13 [.t 20,.t
21]) [20,21]),(3,oT 8 22 [22])] (.seq (sR [(0,oT 23 8 [8]),(1,oT 24 6 [6]),(2,oP 25 (.bin .neq (.t 23) (.t 24)) [23,24])] (.cond (.t 25) (sK [1,7,25] (sR [(0,oP 4 (.mv (.c (.bool false))) [])] .ret)) (sK [25] .skip)))
(.seq (sR [(0,oT 26 7 [7]),(1,oT 27 1 [1]),(2,oP 28 (.call 12 [.t 27]) [27]),(3,oP 29 (.call 14 [.t 26,.t 28]) [26,28]),(4,oP 30 (.not (.t 29)) [29])] (.cond (.t 30) (sK [30] (sR [(0,oP 4 (.mv (.c (.bool false))) [])]
.ret)) (sK [30] .skip))) (sR [(0,oP 4 (.mv (.c (.bool true))) [])] .ret))))))))))
def C4 : CFn := ⟨31,2,[.t 4],B4⟩
abbrev L6_0 : CCode := (.seq (sR [(0,oT 5 4 []),(1,oT 6 0 []),(2,oP 7 (.len (.t 6)) [6]),(3,oP 8 (.bin .lss (.t 5) (.t 7)) [5,7])] (.cond (.t 8) (sK [8] .skip) (sK [0,4,8] (.exit 0)))) (.seq (.block 1 (.seq (sR [(0,oT
11 4 []),(1,oP 12 (.bin .gtr (.t 11) (.c (.int .i64 0))) [11])] (.cond (.t 12) (sK [12] (.reg false [(0,oT 13 3 [3]),(1,oP 14 (.bin .add (.t 13) (.c (.str [32]))) [13]),(2,oT 3 14 [14])])) (sK [12] .skip))) (.reg false
[(0,oT 15 3 [3]),(1,oT 16 0 []),(2,oT 17 4 []),(3,oP 18 (.ia 1 (.t 16) (.t 17)) []),(4,oP 19 (.ld 1 false (.t 18)) [16,17,18]),(5,oP 20 (.call 22 [.t 19]) [19]),(6,oP 21 (.bin .add (.t 15) (.t 20)) [15,20]),(7,oT 3 21
[21])]))) (.reg false [(0,oT 9 4 [4]),(1,oP 10 (.bin .add (.t 9) (.c (.int .i64 1))) [9]),(2,oT 4 10 [10])])))
abbrev B6 : CCode := (sR [(0,oP 2 (.mv (.c (.str []))) [2])] (sR [(0,oP 3 (.mv (.c (.str [40]))) [])] (.seq (sR [(0,oP 4 (.mv (.c (.int .i64 0))) [])] (.block 0 (.loop L6_0))) (sR [(0,oT 22 3 [3]),(1,oP 23 (.bin .add
(.t 22) (.c (.str [41]))) [22]),(2,oT 2 23 [23])] .ret))))
def C6 : CFn := ⟨24,1,[.t 2],B6⟩
abbrev L7_0 : CCode := (.seq (sR [(0,oT 8 4 []),(1,oT 9 0 []),(2,oP 10 (.len (.t 9)) [9]),(3,oP 11 (.bin .lss (.t 8) (.t 10)) [8,10])] (.cond (.t 11) (sK [11] .skip) (sK [0,4,11] (.exit 0)))) (.seq (.block 1 (.reg false
[(0,oT 14 3 []),(1,oT 15 4 []),(2,oT 16 0 []),(3,oT 17 4 []),(4,oP 18 (.ia 1 (.t 16) (.t 17)) []),(5,oP 19 (.ld 1 false (.t 18)) [16,17,18]),(6,oP 20 (.ia 1 (.t 14) (.t 15)) []),(7,⟨none,.st 1 (.t 20) (.t
19),none,[],[14,15,19,20]⟩)])) (.reg false [(0,oT 12 4 [4]),(1,oP 13 (.bin .add (.t 12) (.c (.int .i64 1))) [12]),(2,oT 4 13 [13])])))
abbrev B7 : CCode := (sR [(0,oP 2 (.mv (.c (.nils))) [2])] (sR [(0,oT 5 0 []),(1,oP 6 (.len (.t 5)) [5]),(2,oP 7 (.mk 1 8 [.int .i64 (0)] (.t 6) (.t 6)) [6]),(3,oT 3 7 [7])] (.seq (sR [(0,oP 4 (.mv (.c (.int .i64 0)))
[])] (.block 0 (.loop L7_0))) (sR [(0,oT 21 3 [3]),(1,oT 2 21 [21])] .ret))))
def C7 : CFn := ⟨22,1,[.t 2],B7⟩
abbrev L8_0 : CCode := (sR [(0,oP 10 (.bin .lss (.t 9) (.t 8)) [])] (.seq (.cond (.t 10) (sK [10] .skip) (sK [7,8,9,10] (.exit 0))) (.seq (.block 1 (sR [(0,oP 11 (.ia 1 (.t 7) (.t 9)) []),(1,oP 12 (.ld 1 false (.t 11))
[11]),(2,oT 5 12 [12])] (.reg false [(0,oT 13 3 [3]),(1,oT 14 5 [5]),(2,oP 15 (.call 23 [.t 14]) [14]),(3,oP 16 (.bsl 1 1 [.str []] [(0,1,(.t 15))]) [15]),(4,oP 17 (.app 1 16 (.t 13) (.t 16)) [13,16]),(5,oT 3 17
[17])]))) (.reg false [(0,oP 18 (.bin .add (.t 9) (.c (.int .i64 1))) [9]),(1,oT 9 18 [18])]))))
abbrev B8 : CCode := (sR [(0,oP 2 (.mv (.c (.str []))) [2])] (sR [(0,oP 6 (.bsl 1 0 [.str []] []) []),(1,oT 3 6 [6])] (.seq (sR [(0,oT 7 0 [0]),(1,oP 8 (.len (.t 7)) []),(2,oP 9 (.mv (.c (.int .i64 0))) [])] (.block 0
(.loop L8_0))) (sR [(0,oT 19 3 [3]),(1,oP 20 (.call 24 [.t 19,(.c (.str [32]))]) [19]),(2,oP 21 (.bin .add (.c (.str [40])) (.t 20)) [20]),(3,oP 22 (.bin .add (.t 21) (.c (.str [41]))) [21]),(4,oT 2 22 [22])] .ret))))
def C8 : CFn := ⟨23,1,[.t 2],B8⟩
abbrev L9_0 : CCode := (.seq (sR [(0,oT 11 5 []),(1,oT 12 0 []),(2,oP 13 (.len (.t 12)) [12]),(3,oP 14 (.bin .lss (.t 11) (.t 13)) [11,13])] (.cond (.t 14) (sK [14] .skip) (sK [0,1,5,14] (.exit 0)))) (.seq (.block 1
(.seq (.reg true [(0,oT 17 0 []),(1,oT 18 5 []),(2,oP 19 (.ia 1 (.t 17) (.t 18)) []),(3,oP 20 (.ld 1 false (.t 19)) [17,18,19]),(4,oT 21 1 []),(5,oT 22 5 []),(6,oP 23 (.ia 1 (.t 21) (.t 22)) []),(7,oP 24 (.ld 1 false
(.t 23)) [21,22,23]),(8,oP 25 (.bin .neq (.t 20) (.t 24)) [20,24])]) (.cond (.t 25) (sK [0,1,5,25] (sR [(0,oP 4 (.mv (.c (.bool false))) [])] .ret)) (sK [25] .skip)))) (.reg false [(0,oT 15 5 [5]),(1,oP 16 (.bin .add
(.t 15) (.c (.int .i64 1))) [15]),(2,oT 5 16 [16])])))
abbrev B9 : CCode := (sR [(0,oP 4 (.mv (.c (.bool false))) [4])] (.seq (sR [(0,oT 6 0 []),(1,oP 7 (.len (.t 6)) [6]),(2,oT 8 1 []),(3,oP 9 (.len (.t 8)) [8]),(4,oP 10 (.bin .neq (.t 7) (.t 9)) [7,9])] (.cond (.t 10) (sK
[0,1,10] (sR [(0,oP 4 (.mv (.c (.bool false))) [])] .ret)) (sK [10] .skip))) (.seq (sR [(0,oP 5 (.mv (.c (.int .i64 0))) [])] (.block 0 (.loop L9_0))) (sR [(0,oP 4 (.mv (.c (.bool true))) [])] .ret))))
def C9 : CFn := ⟨26,2,[.t 4],B9⟩
abbrev L10_0 : CCode := (.seq (sR [(0,oT 12 5 []),(1,oT 13 0 []),(2,oP 14 (.len (.t 13)) [13]),(3,oP 15 (.bin .lss (.t 12) (.t 14)) [12,14])] (.cond (.t 15) (sK [15] .skip) (sK [0,5,15] (.exit 0)))) (.seq (.block 1 (sR
[(0,oT 18 0 []),(1,oT 19 5 []),(2,oP 20 (.ia 1 (.t 18) (.t 19)) []),(3,oP 21 (.ld 1 false (.t 20)) [20]),(4,oT 22 1 [1]),(5,oP 23 (.call 25 [.t 21,.t 22]) [18,19,21,22]),(6,oT 1 23 [23])] (sR [(0,oT 24 1 []),(1,oP 25
(.bin .lss (.t 24) (.c (.int .i64 0))) [24])] (.cond (.t 25) (sK [0,1,5,25] (sR [(0,oP 4 (.mv (.c (.int .i64 (-1)))) [])] .ret)) (sK [25] .skip))))) (.reg false [(0,oT 16 5 [5]),(1,oP 17 (.bin .add (.t 16) (.c (.int
.i64 1))) [16]),(2,oT 5 17 [17])])))
abbrev B10 : CCode := (sR [(0,oP 4 (.mv (.c (.int .i64 0))) [4])] (sR [(0,oT 6 1 [1]),(1,oT 7 0 []),(2,oP 8 (.len (.t 7)) [7]),(3,oP 9 (.bin .sub (.t 6) (.t 8)) [6,8]),(4,oT 1 9 [9])] (.seq (sR [(0,oT 10 1 []),(1,oP 11
(.bin .lss (.t 10) (.c (.int .i64 0))) [10])] (.cond (.t 11) (sK [0,1,11] (sR [(0,oP 4 (.mv (.c (.int .i64 (-1)))) [])] .ret)) (sK [11] .skip))) (.seq (sR [(0,oP 5 (.mv (.c (.int .i64 0))) [])] (.block 0 (.loop L10_0)))
(sR [(0,oT 26 1 [1]),(1,oT 4 26 [26])] .ret)))))
def C10 : CFn := ⟨27,2,[.t 4],B10⟩
abbrev L11_0 : CCode := (.seq (sR [(0,oT 14 6 []),(1,oT 15 1 []),(2,oP 16 (.len (.t 15)) [15]),(3,oP 17 (.bin .lss (.t 14) (.t 16)) [14,16])] (.cond (.t 17) (sK [17] .skip) (sK [1,6,17] (.exit 0)))) (.seq (.block 1
(.reg false [(0,oT 20 5 [5]),(1,oT 21 1 []),(2,oT 22 6 []),(3,oP 23 (.ia 1 (.t 21) (.t 22)) []),(4,oP 24 (.ld 1 false (.t 23)) [23]),(5,oP 25 (.call 6 [.t 24]) [21,22,24]),(6,oP 26 (.bin .add (.t 20) (.t 25))
[20,25]),(7,oT 5 26 [26])])) (.reg false [(0,oT 18 6 [6]),(1,oP 19 (.bin .add (.t 18) (.c (.int .i64 1))) [18]),(2,oT 6 19 [19])])))
abbrev B11 : CCode := (sR [(0,oP 4 (.mv (.c (.str []))) [4])] (.seq (sR [(0,oT 7 0 []),(1,oT 8 1 []),(2,oP 9 (.call 26 [.t 7,.t 8]) [7,8]),(3,oP 10 (.not (.t 9)) [9])] (.cond (.t 10) (sK [0,1,10] (sR [(0,oP 4 (.mv (.c
(.str []))) [])] .ret)) (sK [10] .skip))) (sR [(0,oT 11 0 [0]),(1,oP 12 (.call 22 [.t 11]) [11]),(2,oP 13 (.bin .add (.t 12) (.c (.str [58]))) [12]),(3,oT 5 13 [13])] (.seq (sR [(0,oP 6 (.mv (.c (.int .i64 0))) [])]
(.block 0 (.loop L11_0))) (sR [(0,oT 27 5 [5]),(1,oT 4 27 [27])] .ret)))))
def C11 : CFn := ⟨28,2,[.t 4],B11⟩
abbrev L12_0 : CCode := (.seq (sR [(0,oT 8 4 []),(1,oT 9 0 []),(2,oP 10 (.len (.t 9)) [9]),(3,oP 11 (.bin .lss (.t 8) (.t 10)) [8,10])] (.cond (.t 11) (sK [11] .skip) (sK [0,4,11] (.exit 0)))) (.seq (.block 1 (.reg
false [(0,oT 14 3 []),(1,oT 15 4 []),(2,oT 16 0 []),(3,oT 17 4 []),(4,oP 18 (.ia 1 (.t 16) (.t 17)) []),(5,oP 19 (.ld 1 false (.t 18)) [18]),(6,oP 20 (.call 7 [.t 19]) [16,17,19]),(7,oP 21 (.ia 1 (.t 14) (.t 15))
[]),(8,⟨none,.st 1 (.t 21) (.t 20),none,[],[14,15,20,21]⟩)])) (.reg false [(0,oT 12 4 [4]),(1,oP 13 (.bin .add (.t 12) (.c (.int .i64 1))) [12]),(2,oT 4 13 [13])])))
abbrev B12 : CCode := (sR [(0,oP 2 (.mv (.c (.nils))) [2])] (sR [(0,oT 5 0 []),(1,oP 6 (.len (.t 5)) [5]),(2,oP 7 (.mk 1 24 [.nils] (.t 6) (.t 6)) [6]),(3,oT 3 7 [7])] (.seq (sR [(0,oP 4 (.mv (.c (.int .i64 0))) [])]
(.block 0 (.loop L12_0))) (sR [(0,oT 22 3 [3]),(1,oT 2 22 [22])] .ret))))
def C12 : CFn := ⟨23,1,[.t 2],B12⟩
abbrev L13_0 : CCode := (sR [(0,oP 18 (.bin .lss (.t 17) (.t 16)) [])] (.seq (.cond (.t 18) (sK [18] .skip) (sK [15,16,17,18] (.exit 0))) (.seq (.block 1 (sR [(0,oP 19 (.ia 1 (.t 15) (.t 17)) []),(1,oP 20 (.ld 1 false
(.t 19)) [19]),(2,oT 7 20 [20])] (.reg false [(0,oT 21 5 [5]),(1,oT 22 7 [7]),(2,oP 23 (.call 8 [.t 22]) [22]),(3,oP 24 (.bin .add (.t 21) (.t 23)) [21,23]),(4,oT 5 24 [24])]))) (.reg false [(0,oP 25 (.bin .add (.t 17)
(.c (.int .i64 1))) [17]),(1,oT 17 25 [25])]))))
abbrev B13 : CCode := (sR [(0,oP 4 (.mv (.c (.str []))) [4])] (.seq (sR [(0,oT 8 0 []),(1,oT 9 1 []),(2,oP 10 (.call 27 [.t 8,.t 9]) [8,9]),(3,oP 11 (.not (.t 10)) [10])] (.cond (.t 11) (sK [0,1,11] (sR [(0,oP 4 (.mv
(.c (.str []))) [])] .ret)) (sK [11] .skip))) (sR [(0,oT 12 0 [0]),(1,oP 13 (.call 23 [.t 12]) [12]),(2,oP 14 (.bin .add (.t 13) (.c (.str [58]))) [13]),(3,oT 5 14 [14])] (.seq (sR [(0,oT 15 1 [1]),(1,oP 16 (.len (.t
15)) []),(2,oP 17 (.mv (.c (.int .i64 0))) [])] (.block 0 (.loop L13_0))) (sR [(0,oT 26 5 [5]),(1,oT 4 26 [26])] .ret)))))
def C13 : CFn := ⟨27,2,[.t 4],B13⟩
abbrev L14_0 : CCode := (.seq (sR [(0,oT 11 5 []),(1,oT 12 0 []),(2,oP 13 (.len (.t 12)) [12]),(3,oP 14 (.bin .lss (.t 11) (.t 13)) [11,13])] (.cond (.t 14) (sK [14] .skip) (sK [0,1,5,14] (.exit 0)))) (.seq (.block 1
(.seq (.reg true [(0,oT 17 0 []),(1,oT 18 5 []),(2,oP 19 (.ia 1 (.t 17) (.t 18)) []),(3,oP 20 (.ld 1 false (.t 19)) [19]),(4,oT 21 1 []),(5,oT 22 5 []),(6,oP 23 (.ia 1 (.t 21) (.t 22)) []),(7,oP 24 (.ld 1 false (.t 23))
[23]),(8,oP 25 (.call 9 [.t 20,.t 24]) [17,18,20,21,22,24]),(9,oP 26 (.not (.t 25)) [25])]) (.cond (.t 26) (sK [0,1,5,26] (sR [(0,oP 4 (.mv (.c (.bool false))) [])] .ret)) (sK [26] .skip)))) (.reg false [(0,oT 15 5
[5]),(1,oP 16 (.bin .add (.t 15) (.c (.int .i64 1))) [15]),(2,oT 5 16 [16])])))
abbrev B14 : CCode := (sR [(0,oP 4 (.mv (.c (.bool false))) [4])] (.seq (sR [(0,oT 6 0 []),(1,oP 7 (.len (.t 6)) [6]),(2,oT 8 1 []),(3,oP 9 (.len (.t 8)) [8]),(4,oP 10 (.bin .neq (.t 7) (.t 9)) [7,9])] (.cond (.t 10)
(sK [0,1,10] (sR [(0,oP 4 (.mv (.c (.bool false))) [])] .ret)) (sK [10] .skip))) (.seq (sR [(0,oP 5 (.mv (.c (.int .i64 0))) [])] (.block 0 (.loop L14_0))) (sR [(0,oP 4 (.mv (.c (.bool true))) [])] .ret))))
def C14 : CFn := ⟨27,2,[.t 4],B14⟩
abbrev L22_0 : CCode := (.seq (sR [(0,oT 10 0 []),(1,oP 11 (.bin .neq (.t 10) (.c (.int .i64 0))) [10])] (.cond (.t 11) (sK [11] .skip) (sK [0,11] (.exit 0)))) (.block 1 (sR [(0,oT 12 0 []),(1,oP 13 (.bin .rem (.t 12)
(.c (.int .i64 10))) [12]),(2,oT 5 13 [13])] (.seq (sR [(0,oT 14 5 []),(1,oP 15 (.bin .lss (.t 14) (.c (.int .i64 0))) [14])] (.cond (.t 15) (sK [15] (.reg false [(0,oT 16 5 [5]),(1,oP 17 (.neg (.t 16)) [16]),(2,oT 5 17
[17])])) (sK [15] .skip))) (sR [(0,oT 18 5 [5]),(1,oP 19 (.bin .add (.c (.int .i64 48)) (.t 18)) [18]),(2,oP 20 (.conv .u8 (.t 19)) [19]),(3,oP 21 (.bsl 1 1 [.int .u8 (0)] [(0,1,(.t 20))]) [20]),(4,oP 22 (.b2s (.t 21))
[21]),(5,oT 23 3 [3]),(6,oP 24 (.bin .add (.t 22) (.t 23)) [22,23]),(7,oT 3 24 [24])] (.reg false [(0,oT 25 0 [0]),(1,oP 26 (.bin .quo (.t 25) (.c (.int .i64 10))) [25]),(2,oT 0 26 [26])]))))))
abbrev B22 : CCode := (sR [(0,oP 2 (.mv (.c (.str []))) [2])] (.seq (sR [(0,oT 6 0 []),(1,oP 7 (.bin .eql (.t 6) (.c (.int .i64 0))) [6])] (.cond (.t 7) (sK [0,7] (sR [(0,oP 2 (.mv (.c (.str [48]))) [])] .ret)) (sK [7]
.skip))) (sR [(0,oP 3 (.mv (.c (.str []))) [])] (sR [(0,oT 8 0 []),(1,oP 9 (.bin .lss (.t 8) (.c (.int .i64 0))) [8]),(2,oT 4 9 [9])] (.seq (.block 0 (.loop L22_0)) (.seq (sR [(0,oT 27 4 [4])] (.cond (.t 27) (sK [27]
(sR [(0,oT 28 3 [3]),(1,oP 29 (.bin .add (.c (.str [45])) (.t 28)) [28]),(2,oT 2 29 [29])] .ret)) (sK [27] .skip))) (sR [(0,oT 30 3 [3]),(1,oT 2 30 [30])] .ret)))))))
def C22 : CFn := ⟨31,1,[.t 2],B22⟩
abbrev B23 : CCode := (sR [(0,oP 2 (.mv (.c (.str []))) [2])] (sR [(0,oT 3 0 [0]),(1,oP 4 (.call 43 [.t 3]) [3]),(2,oT 2 4 [4])] .ret))
def C23 : CFn := ⟨5,1,[.t 2],B23⟩
abbrev B25 : CCode := (sR [(0,oP 4 (.mv (.c (.int .i64 0))) [4])] (sR [(0,oT 5 1 [1]),(1,oT 6 0 [0]),(2,oP 7 (.len (.t 6)) [6]),(3,oP 8 (.bin .sub (.t 5) (.t 7)) [5,7]),(4,oT 1 8 [8])] (.seq (sR [(0,oT 9 1 []),(1,oP 10
(.bin .lss (.t 9) (.c (.int .i64 0))) [9])] (.cond (.t 10) (sK [1,10] (sR [(0,oP 4 (.mv (.c (.int .i64 (-1)))) [])] .ret)) (sK [10] .skip))) (sR [(0,oT 11 1 [1]),(1,oT 4 11 [11])] .ret))))
def C25 : CFn := ⟨12,2,[.t 4],B25⟩
abbrev L26_0 : CCode := (.seq (sR [(0,oT 6 5 []),(1,oT 7 1 []),(2,oP 8 (.len (.t 7)) [7]),(3,oP 9 (.bin .lss (.t 6) (.t 8)) [6,8])] (.cond (.t 9) (sK [9] .skip) (sK [5,9] (.exit 0)))) (.seq (.block 1 (sR [(0,oT 12 0
[]),(1,oT 13 1 []),(2,oT 14 5 []),(3,oP 15 (.ia 1 (.t 13) (.t 14)) []),(4,oP 16 (.ld 1 false (.t 15)) [15]),(5,oP 17 (.call 39 [.t 12,.t 16]) [12,13,14,16]),(6,oP 18 (.not (.t 17)) [17])] (.cond (.t 18) (sK [0,1,5,18]
(sR [(0,oP 4 (.mv (.c (.bool false))) [])] .ret)) (sK [18] .skip)))) (.reg false [(0,oT 10 5 [5]),(1,oP 11 (.bin .add (.t 10) (.c (.int .i64 1))) [10]),(2,oT 5 11 [11])])))
abbrev B26 : CCode := (sR [(0,oP 4 (.mv (.c (.bool false))) [4])] (.seq (sR [(0,oP 5 (.mv (.c (.int .i64 0))) [])] (.block 0 (.loop L26_0))) (sR [(0,oT 19 0 [0]),(1,oP 20 (.call 47 [.t 19,(.c (.int .i64 0)),(.c (.int
.i64 14))]) [19]),(2,oT 21 20 [20]),(3,oG 22 (.mv (.t 1)) 21 true [1]),(4,oG 23 (.len (.t 22)) 21 true [22]),(5,oG 24 (.bin .leq (.t 23) (.c (.int .i64 400))) 21 true [23]),(6,oP 25 (.pick (.t 21) (.t 24) (.c (.bool
false))) [21,24]),(7,oT 4 25 [25])] .ret)))
def C26 : CFn := ⟨26,2,[.t 4],B26⟩
abbrev B27 : CCode := (sR [(0,oP 4 (.mv (.c (.bool false))) [4])] (sR [(0,oT 5 1 []),(1,oP 6 (.len (.t 5)) [5]),(2,oP 7 (.bin .leq (.t 6) (.c (.int .i64 400))) [6]),(3,oT 8 7 [7]),(4,oG 9 (.mv (.t 0)) 8 true [0]),(5,oG
10 (.mv (.t 1)) 8 true [1]),(6,oG 11 (.call 34 [.t 9,.t 10]) 8 true [9,10]),(7,oP 12 (.pick (.t 8) (.t 11) (.c (.bool false))) [8,11]),(8,oT 4 12 [12])] .ret))
def C27 : CFn := ⟨13,2,[.t 4],B27⟩
abbrev B34 : CCode := (sR [(0,oP 2 (.box 1 (.t 0)) [0]),(1,oP 4 (.mv (.c (.bool false))) [4])] (sR [(0,oP 5 (.ld 1 false (.t 2)) []),(1,oP 6 (.call 51 [.t 5,(.c (.int .i64 0)),(.c (.int .i64 14))]) [5]),(2,oT 7 6
[6]),(3,oG 8 (.mv (.t 1)) 7 true [1]),(4,oG 9 (.fn 53 [.t 2]) 7 true []),(5,oG 10 (.call 52 [.t 8,.t 9]) 7 true [2,8,9]),(6,oG 11 (.not (.t 10)) 7 true [10]),(7,oP 12 (.pick (.t 7) (.t 11) (.c (.bool false)))
[7,11]),(8,oT 4 12 [12])] .ret))
def C34 : CFn := ⟨13,2,[.t 4],B34⟩
abbrev L39_1 : CCode := (.seq (sR [(0,oT 42 7 []),(1,oT 43 5 []),(2,oP 44 (.bin .lss (.t 42) (.t 43)) [42,43])] (.cond (.t 44) (sK [44] .skip) (sK [7,44] (.exit 2)))) (.seq (.block 3 (.seq (.reg true [(0,oT 47 1
[]),(1,oT 48 7 []),(2,oP 49 (.ia 1 (.t 47) (.t 48)) []),(3,oP 50 (.ld 1 false (.t 49)) [47,48,49]),(4,oT 51 1 []),(5,oT 52 5 []),(6,oP 53 (.ia 1 (.t 51) (.t 52)) []),(7,oP 54 (.ld 1 false (.t 53)) [51,52,53]),(8,oP 55
(.bin .eql (.t 50) (.t 54)) [50,54]),(9,oT 56 55 [55]),(10,oG 57 (.mv (.t 1)) 56 false []),(11,oG 58 (.mv (.t 7)) 56 false []),(12,oG 59 (.ia 1 (.t 57) (.t 58)) 56 false []),(13,oG 60 (.ld 1 false (.t 59)) 56 false
[57,58,59]),(14,oG 61 (.mv (.t 1)) 56 false []),(15,oG 62 (.mv (.t 5)) 56 false []),(16,oG 63 (.ia 1 (.t 61) (.t 62)) 56 false []),(17,oG 64 (.ld 1 false (.t 63)) 56 false [61,62,63]),(18,oG 65 (.neg (.t 64)) 56 false
[64]),(19,oG 66 (.bin .eql (.t 60) (.t 65)) 56 false [60,65]),(20,oP 67 (.pick (.t 56) (.c (.bool true)) (.t 66)) [56,66])]) (.cond (.t 67) (sK [0,1,5,7,67] (sR [(0,oP 4 (.mv (.c (.bool false))) [])] .ret)) (sK [67]
.skip)))) (.reg false [(0,oT 45 7 [7]),(1,oP 46 (.bin .add (.t 45) (.c (.int .i64 1))) [45]),(2,oT 7 46 [46])])))
abbrev L39_0 : CCode := (.seq (sR [(0,oT 8 5 []),(1,oT 9 1 []),(2,oP 10 (.len (.t 9)) [9]),(3,oP 11 (.bin .lss (.t 8) (.t 10)) [8,10])] (.cond (.t 11) (sK [11] .skip) (sK [0,1,5,11] (.exit 0)))) (.seq (.block 1 (sR
[(0,oT 14 1 []),(1,oT 15 5 []),(2,oP 16 (.ia 1 (.t 14) (.t 15)) []),(3,oP 17 (.ld 1 false (.t 16)) [14,15,16]),(4,oP 18 (.max (.t 17) (.c (.int .i64 0))) [17]),(5,oT 6 18 [18])] (.seq (sR [(0,oT 19 1 []),(1,oT 20 5
[]),(2,oP 21 (.ia 1 (.t 19) (.t 20)) []),(3,oP 22 (.ld 1 false (.t 21)) [19,20,21]),(4,oP 23 (.bin .lss (.t 22) (.c (.int .i64 0))) [22]),(5,oT 24 23 [23]),(6,oG 25 (.mv (.t 1)) 24 true []),(7,oG 26 (.mv (.t 5)) 24 true
[]),(8,oG 27 (.ia 1 (.t 25) (.t 26)) 24 true []),(9,oG 28 (.ld 1 false (.t 27)) 24 true [25,26,27]),(10,oG 29 (.mv (.t 0)) 24 true []),(11,oG 30 (.neg (.t 29)) 24 true [29]),(12,oG 31 (.bin .geq (.t 28) (.t 30)) 24 true
[28,30]),(13,oP 32 (.pick (.t 24) (.t 31) (.c (.bool false))) [24,31])] (.cond (.t 32) (sK [6,32] (.reg false [(0,oT 33 1 []),(1,oT 34 5 []),(2,oP 35 (.ia 1 (.t 33) (.t 34)) []),(3,oP 36 (.ld 1 false (.t 35))
[33,34,35]),(4,oP 37 (.neg (.t 36)) [36]),(5,oT 6 37 [37])])) (sK [32] .skip))) (.seq (sR [(0,oT 38 6 [6]),(1,oT 39 0 []),(2,oP 40 (.call 47 [.t 38,(.c (.int .i64 1)),.t 39]) [38,39]),(3,oP 41 (.not (.t 40)) [40])]
(.cond (.t 41) (sK [0,1,5,41] (sR [(0,oP 4 (.mv (.c (.bool false))) [])] .ret)) (sK [41] .skip))) (sR [(0,oP 7 (.mv (.c (.int .i64 0))) [])] (.block 2 (.loop L39_1))))))) (.reg false [(0,oT 12 5 [5]),(1,oP 13 (.bin .add
(.t 12) (.c (.int .i64 1))) [12]),(2,oT 5 13 [13])])))
abbrev B39 : CCode := (sR [(0,oP 4 (.mv (.c (.bool false))) [4])] (.seq (sR [(0,oP 5 (.mv (.c (.int .i64 0))) [])] (.block 0 (.loop L39_0))) (sR [(0,oP 4 (.mv (.c (.bool true))) [])] .ret)))
def C39 : CFn := ⟨68,2,[.t 4],B39⟩
abbrev B47 : CCode := (sR [(0,oP 6 (.mv (.c (.bool false))) [6])] (sR [(0,oT 7 0 []),(1,oT 8 1 [1]),(2,oP 9 (.bin .geq (.t 7) (.t 8)) [7,8]),(3,oT 10 9 [9]),(4,oG 11 (.mv (.t 0)) 10 true [0]),(5,oG 12 (.mv (.t 2)) 10
true [2]),(6,oG 13 (.bin .leq (.t 11) (.t 12)) 10 true [11,12]),(7,oP 14 (.pick (.t 10) (.t 13) (.c (.bool false))) [10,13]),(8,oT 6 14 [14])] .ret))
def C47 : CFn := ⟨15,3,[.t 6],B47⟩
abbrev B51 : CCode := (sR [(0,oP 6 (.mv (.c (.bool false))) [6])] (sR [(0,oT 7 1 [1]),(1,oT 8 0 []),(2,oP 9 (.bin .leq (.t 7) (.t 8)) [7,8]),(3,oT 10 9 [9]),(4,oG 11 (.mv (.t 0)) 10 true [0]),(5,oG 12 (.mv (.t 2)) 10
true [2]),(6,oG 13 (.bin .leq (.t 11) (.t 12)) 10 true [11,12]),(7,oP 14 (.pick (.t 10) (.t 13) (.c (.bool false))) [10,13]),(8,oT 6 14 [14])] .ret))
def C51 : CFn := ⟨15,3,[.t 6],B51⟩
abbrev B52 : CCode := (sR [(0,oP 4 (.mv (.c (.bool false))) [4])] (sR [(0,oT 5 0 [0]),(1,oT 6 1 [1]),(2,oP 7 (.call 68 [.t 5,.t 6]) [5,6]),(3,oP 8 (.bin .geq (.t 7) (.c (.int .i64 0))) [7]),(4,oT 4 8 [8])] .ret))
def C52 : CFn := ⟨9,2,[.t 4],B52⟩
abbrev B53 : CCode := (sR [(0,oP 3 (.mv (.c (.bool false))) [3])] (sR [(0,oP 4 (.ld 1 false (.t 1)) [1]),(1,oT 5 0 [0]),(2,oP 6 (.call 54 [.t 4,.t 5]) [4,5]),(3,oP 7 (.not (.t 6)) [6]),(4,oT 3 7 [7])] .ret))
def C53 : CFn := ⟨8,2,[.t 3],B53⟩
abbrev L54_0 : CCode := (sR [(0,oP 10 (.bin .lss (.t 9) (.t 8)) [])] (.seq (.cond (.t 10) (sK [10] .skip) (sK [0,1,7,8,9,10] (.exit 0))) (.seq (.block 1 (sR [(0,oT 11 9 []),(1,oP 12 (.ia 1 (.t 7) (.t 9)) []),(2,oP 13
(.ld 1 false (.t 12)) [12]),(3,oT 5 11 [11]),(4,oT 6 13 [13])] (sR [(0,oT 14 6 []),(1,oP 15 (.bin .eql (.t 14) (.c (.int .i64 0))) [14]),(2,oT 16 15 [15]),(3,oG 17 (.mv (.t 6)) 16 false []),(4,oG 18 (.mv (.t 0)) 16
false []),(5,oG 19 (.neg (.t 18)) 16 false [18]),(6,oG 20 (.mv (.t 0)) 16 false []),(7,oG 21 (.call 51 [.t 17,.t 19,.t 20]) 16 false [17,19,20]),(8,oG 22 (.not (.t 21)) 16 false [21]),(9,oP 23 (.pick (.t 16) (.c (.bool
true)) (.t 22)) [16,22]),(10,oT 24 23 [23]),(11,oG 25 (.mv (.t 1)) 24 false []),(12,oG 26 (.mv (.t 5)) 24 false []),(13,oG 27 (.sls 1 (.t 25) none (some (.t 26)) none) 24 false [25,26]),(14,oG 28 (.mv (.t 6)) 24 false
[]),(15,oG 29 (.call 57 [.t 27,.t 28]) 24 false [27,28]),(16,oP 30 (.pick (.t 24) (.c (.bool true)) (.t 29)) [24,29]),(17,oT 31 30 [30]),(18,oG 32 (.mv (.t 1)) 31 false []),(19,oG 33 (.mv (.t 5)) 31 false [5]),(20,oG 34
(.sls 1 (.t 32) none (some (.t 33)) none) 31 false [32,33]),(21,oG 35 (.mv (.t 6)) 31 false [6]),(22,oG 36 (.neg (.t 35)) 31 false [35]),(23,oG 37 (.call 57 [.t 34,.t 36]) 31 false [34,36]),(24,oP 38 (.pick (.t 31) (.c
(.bool true)) (.t 37)) [31,37])] (.cond (.t 38) (sK [0,1,7,8,9,38] (sR [(0,oP 4 (.mv (.c (.bool false))) [])] .ret)) (sK [38] .skip))))) (.reg false [(0,oP 39 (.bin .add (.t 9) (.c (.int .i64 1))) [9]),(1,oT 9 39
[39])]))))
abbrev B54 : CCode := (sR [(0,oP 4 (.mv (.c (.bool false))) [4])] (.seq (sR [(0,oT 7 1 []),(1,oP 8 (.len (.t 7)) []),(2,oP 9 (.mv (.c (.int .i64 0))) [])] (.block 0 (.loop L54_0))) (sR [(0,oP 4 (.mv (.c (.bool true)))
[])] .ret)))
def C54 : CFn := ⟨40,2,[.t 4],B54⟩
abbrev B57 : CCode := (sR [(0,oP 4 (.mv (.c (.bool false))) [4])] (sR [(0,oT 5 0 [0]),(1,oT 6 1 [1]),(2,oP 7 (.call 70 [.t 5,.t 6]) [5,6]),(3,oP 8 (.bin .geq (.t 7) (.c (.int .i64 0))) [7]),(4,oT 4 8 [8])] .ret))
def C57 : CFn := ⟨9,2,[.t 4],B57⟩
abbrev L68_0 : CCode := (sR [(0,oP 9 (.bin .lss (.t 8) (.t 7)) [])] (.seq (.cond (.t 9) (sK [9] .skip) (sK [0,1,7,8,9] (.exit 0))) (.seq (.block 1 (sR [(0,oT 10 8 []),(1,oT 5 10 [10])] (sR [(0,oT 11 1 []),(1,oT 12 0
[]),(2,oT 13 5 []),(3,oP 14 (.ia 1 (.t 12) (.t 13)) []),(4,oP 15 (.ld 1 false (.t 14)) [14]),(5,oP 16 (.callv (.t 11) [.t 15]) [11,12,13,15])] (.cond (.t 16) (sK [0,1,7,8,16] (sR [(0,oT 17 5 [5]),(1,oT 4 17 [17])]
.ret)) (sK [5,16] .skip))))) (.reg false [(0,oP 18 (.bin .add (.t 8) (.c (.int .i64 1))) [8]),(1,oT 8 18 [18])]))))
abbrev B68 : CCode := (sR [(0,oP 4 (.mv (.c (.int .i64 0))) [4])] (.seq (sR [(0,oT 6 0 []),(1,oP 7 (.len (.t 6)) [6]),(2,oP 8 (.mv (.c (.int .i64 0))) [])] (.block 0 (.loop L68_0))) (sR [(0,oP 4 (.mv (.c (.int .i64
(-1)))) [])] .ret)))
def C68 : CFn := ⟨19,2,[.t 4],B68⟩
abbrev L70_0 : CCode := (sR [(0,oP 9 (.bin .lss (.t 8) (.t 7)) [])] (.seq (.cond (.t 9) (sK [9] .skip) (sK [0,1,7,8,9] (.exit 0))) (.seq (.block 1 (sR [(0,oT 10 8 []),(1,oT 5 10 [10])] (sR [(0,oT 11 1 []),(1,oT 12 0
[]),(2,oT 13 5 []),(3,oP 14 (.ia 1 (.t 12) (.t 13)) []),(4,oP 15 (.ld 1 false (.t 14)) [12,13,14]),(5,oP 16 (.bin .eql (.t 11) (.t 15)) [11,15])] (.cond (.t 16) (sK [0,1,7,8,16] (sR [(0,oT 17 5 [5]),(1,oT 4 17 [17])]
.ret)) (sK [5,16] .skip))))) (.reg false [(0,oP 18 (.bin .add (.t 8) (.c (.int .i64 1))) [8]),(1,oT 8 18 [18])]))))
abbrev B70 : CCode := (sR [(0,oP 4 (.mv (.c (.int .i64 0))) [4])] (.seq (sR [(0,oT 6 0 []),(1,oP 7 (.len (.t 6)) [6]),(2,oP 8 (.mv (.c (.int .i64 0))) [])] (.block 0 (.loop L70_0))) (sR [(0,oP 4 (.mv (.c (.int .i64
(-1)))) [])] .ret)))
def C70 : CFn := ⟨19,2,[.t 4],B70⟩
theorem chk4 : chkFn Go.Proofs.Tryd.prog 4 C4 = true := by kernel_rfl
theorem chk6 : chkFn Go.Proofs.Tryd.prog 6 C6 = true := by kernel_rfl
theorem chk7 : chkFn Go.Proofs.Tryd.prog 7 C7 = true := by kernel_rfl
theorem chk8 : chkFn Go.Proofs.Tryd.prog 8 C8 = true := by kernel_rfl
theorem chk9 : chkFn Go.Proofs.Tryd.prog 9 C9 = true := by kernel_rfl
theorem chk10 : chkFn Go.Proofs.Tryd.prog 10 C10 = true := by kernel_rfl
theorem chk11 : chkFn Go.Proofs.Tryd.prog 11 C11 = true := by kernel_rfl
theorem chk12 : chkFn Go.Proofs.Tryd.prog 12 C12 = true := by kernel_rfl
theorem chk13 : chkFn Go.Proofs.Tryd.prog 13 C13 = true := by kernel_rfl
theorem chk14 : chkFn Go.Proofs.Tryd.prog 14 C14 = true := by kernel_rfl
theorem chk22 : chkFn Go.Proofs.Tryd.prog 22 C22 = true := by kernel_rfl
theorem chk23 : chkFn Go.Proofs.Tryd.prog 23 C23 = true := by kernel_rfl
theorem chk25 : chkFn Go.Proofs.Tryd.prog 25 C25 = true := by kernel_rfl
theorem chk26 : chkFn Go.Proofs.Tryd.prog 26 C26 = true := by kernel_rfl
theorem chk27 : chkFn Go.Proofs.Tryd.prog 27 C27 = true := by kernel_rfl
theorem chk34 : chkFn Go.Proofs.Tryd.prog 34 C34 = true := by kernel_rfl
theorem chk39 : chkFn Go.Proofs.Tryd.prog 39 C39 = true := by kernel_rfl
theorem chk47 : chkFn Go.Proofs.Tryd.prog 47 C47 = true := by kernel_rfl
theorem chk51 : chkFn Go.Proofs.Tryd.prog 51 C51 = true := by kernel_rfl
theorem chk52 : chkFn Go.Proofs.Tryd.prog 52 C52 = true := by kernel_rfl
theorem chk53 : chkFn Go.Proofs.Tryd.prog 53 C53 = true := by kernel_rfl
theorem chk54 : chkFn Go.Proofs.Tryd.prog 54 C54 = true := by kernel_rfl
theorem chk57 : chkFn Go.Proofs.Tryd.prog 57 C57 = true := by kernel_rfl
theorem chk68 : chkFn Go.Proofs.Tryd.prog 68 C68 = true := by kernel_rfl
theorem chk70 : chkFn Go.Proofs.Tryd.prog 70 C70 = true := by kernel_rfl
def Tab (f : Nat) : Option CFn :=
  match f with
  | 4 => some C4
  | 6 => some C6
  | 7 => some C7
  | 8 => some C8
  | 9 => some C9
  | 10 => some C10
  | 11 => some C11
  | 12 => some C12
  | 13 => some C13
  | 14 => some C14
  | 22 => some C22
  | 23 => some C23
  | 25 => some C25
  | 26 => some C26
  | 27 => some C27
  | 34 => some C34
  | 39 => some C39
  | 47 => some C47
  | 51 => some C51
  | 52 => some C52
  | 53 => some C53
  | 54 => some C54
  | 57 => some C57
  | 68 => some C68
  | 70 => some C70
  | _ => none
theorem tabOk : TabOk Go.Proofs.Tryd.prog Tab := by
  intro f cf h
  unfold Tab at h
  split at h <;> simp only [Option.some.injEq, reduceCtorEq] at h <;> subst h
  · exact chk4
  · exact chk6
  · exact chk7
  · exact chk8
  · exact chk9
  · exact chk10
  · exact chk11
  · exact chk12
  · exact chk13
  · exact chk14
  · exact chk22
  · exact chk23
  · exact chk25
  · exact chk26
  · exact chk27
  · exact chk34
  · exact chk39
  · exact chk47
  · exact chk51
  · exact chk52
  · exact chk53
  · exact chk54
  · exact chk57
  · exact chk68
  · exact chk70

end Go.Proofs.YtghodmmaepcjkaaDoorH
