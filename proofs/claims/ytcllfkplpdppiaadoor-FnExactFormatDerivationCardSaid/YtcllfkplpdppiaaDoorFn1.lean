import Derived.Test.YtcllfkplpdppiaaDoorX3
import Derived.Test.YtcllfkplpdppiaaDoorProg
set_option linter.unusedVariables false
set_option maxRecDepth 100000
namespace Go.Proofs.YtcllfkplpdppiaaDoorH
open Go
@[simp] abbrev oP (d : Nat) (p : COp) (k : List Nat) : COper := ⟨some d, p, none, [], k⟩
@[simp] abbrev oT (d a : Nat) (k : List Nat) : COper := ⟨some d, .mv (.t a), none, [], k⟩
@[simp] abbrev oG (d : Nat) (p : COp) (g : Nat) (b : Bool) (k : List Nat) : COper := ⟨some d, p, some (g, b), [], k⟩
abbrev sR (l : List (Nat × COper)) (c : CCode) : CCode := .seq (.reg false l) c
abbrev sK (l : List Nat) (c : CCode) : CCode := .seq (.kill l) c
abbrev B3 : CCode := (sR [(0,oP 2 (.box 2 (.t 0)) [0]),(1,oP 4 (.mv (.c (.bool false))) [4])] (sR [(0,oP 5 (.mv (.c (.int .i64 1048576))) [])] (sR [(0,oP 10 (.ld 2 true (.t 2)) []),(1,oT 11 5 [5]),(2,oP 12 (.call 5 [.t
10,.t 11]) [10,11]),(3,oT 5 12 [12])] (.seq (sR [(0,oT 13 5 []),(1,oP 14 (.bin .lss (.t 13) (.c (.int .i64 0))) [13])] (.cond (.t 14) (sK [1,2,5,14] (sR [(0,oP 4 (.mv (.c (.bool true))) [])] .ret)) (sK [14] .skip))) (sR
[(0,oT 15 1 []),(1,oT 16 5 [5]),(2,oP 17 (.call 6 [.t 15,.t 16]) [15,16]),(3,oT 5 17 [17])] (.seq (sR [(0,oT 18 5 [5]),(1,oP 19 (.bin .lss (.t 18) (.c (.int .i64 0))) [18])] (.cond (.t 19) (sK [1,2,19] (sR [(0,oP 4 (.mv
(.c (.bool true))) [])] .ret)) (sK [19] .skip))) (sR [(0,oP 20 (.ld 2 true (.t 2)) []),(1,oP 21 (.call 8 [.t 20]) [20]),(2,oT 22 1 []),(3,oP 23 (.call 9 [.t 22]) [22]),(4,oP 24 (.call 7 [.t 21,.t 23]) [21,23]),(5,oT 6
24 [24])] (sR [(0,oP 25 (.ld 2 true (.t 2)) []),(1,oP 26 (.call 8 [.t 25]) [25]),(2,oP 7 (.al [.nils,.nils]) []),(3,⟨none,.st 2 (.t 7) (.t 26),none,[],[26]⟩)] (sR [(0,oT 27 1 []),(1,oP 28 (.call 9 [.t 27]) [27]),(2,oT 8
28 [28])] (sR [(0,oP 29 (.ld 2 true (.t 7)) []),(1,oT 30 8 []),(2,oP 31 (.call 10 [.t 29,.t 30]) [29,30]),(3,oT 9 31 [31])] (.seq (sR [(0,oT 32 9 [9]),(1,oT 33 6 [6]),(2,oP 34 (.bin .neq (.t 32) (.t 33)) [32,33])]
(.cond (.t 34) (sK [1,2,7,8,34] (sR [(0,oP 4 (.mv (.c (.bool false))) [])] .ret)) (sK [34] .skip))) (.seq (.seq (.reg true [(0,oP 35 (.ld 2 true (.t 7)) []),(1,oP 36 (.ld 2 true (.t 2)) []),(2,⟨some 37,.call 8 [.t
36],none,[(7,2)],[2,36]⟩),(3,oP 38 (.call 11 [.t 35,.t 37]) [7,35,37]),(4,oP 39 (.not (.t 38)) [38])]) (.cond (.t 39) (sK [1,8,39] (sR [(0,oP 4 (.mv (.c (.bool false))) [])] .ret)) (sK [39] .skip))) (.seq (sR [(0,oT 40
8 [8]),(1,oT 41 1 [1]),(2,oP 42 (.call 9 [.t 41]) [41]),(3,oP 43 (.call 12 [.t 40,.t 42]) [40,42]),(4,oP 44 (.not (.t 43)) [43])] (.cond (.t 44) (sK [44] (sR [(0,oP 4 (.mv (.c (.bool false))) [])] .ret)) (sK [44]
.skip))) (sR [(0,oP 4 (.mv (.c (.bool true))) [])] .ret))))))))))))))
def C3 : CFn := ⟨45,2,[.t 4],B3⟩
abbrev B5 : CCode := (sR [(0,oP 2 (.box 2 (.t 0)) [0]),(1,oP 4 (.mv (.c (.int .i64 0))) [4])] (sR [(0,oP 5 (.fa 0 (.t 2)) []),(1,oP 6 (.ld 1 false (.t 5)) [5]),(2,oT 7 1 [1]),(3,oP 8 (.call 13 [.t 6,.t 7]) [6,7]),(4,oT
1 8 [8])] (.seq (sR [(0,oT 9 1 []),(1,oP 10 (.bin .lss (.t 9) (.c (.int .i64 0))) [9])] (.cond (.t 10) (sK [1,2,10] (sR [(0,oP 4 (.mv (.c (.int .i64 (-1)))) [])] .ret)) (sK [10] .skip))) (sR [(0,oP 11 (.fa 1 (.t 2))
[]),(1,oP 12 (.ld 1 false (.t 11)) [11]),(2,oT 13 1 [1]),(3,oP 14 (.call 21 [.t 12,.t 13]) [2,12,13]),(4,oT 1 14 [14])] (.seq (sR [(0,oT 15 1 []),(1,oP 16 (.bin .lss (.t 15) (.c (.int .i64 0))) [15])] (.cond (.t 16) (sK
[1,16] (sR [(0,oP 4 (.mv (.c (.int .i64 (-1)))) [])] .ret)) (sK [16] .skip))) (sR [(0,oT 17 1 [1]),(1,oT 4 17 [17])] .ret))))))
def C5 : CFn := ⟨18,2,[.t 4],B5⟩
abbrev L6_0 : CCode := (.seq (sR [(0,oT 12 5 []),(1,oT 13 0 []),(2,oP 14 (.len (.t 13)) [13]),(3,oP 15 (.bin .lss (.t 12) (.t 14)) [12,14])] (.cond (.t 15) (sK [15] .skip) (sK [0,5,15] (.exit 0)))) (.seq (.block 1 (sR
[(0,oT 18 0 []),(1,oT 19 5 []),(2,oP 20 (.ia 2 (.t 18) (.t 19)) []),(3,oP 21 (.ld 2 true (.t 20)) [20]),(4,oT 22 1 [1]),(5,oP 23 (.call 22 [.t 21,.t 22]) [18,19,21,22]),(6,oT 1 23 [23])] (sR [(0,oT 24 1 []),(1,oP 25
(.bin .lss (.t 24) (.c (.int .i64 0))) [24])] (.cond (.t 25) (sK [0,1,5,25] (sR [(0,oP 4 (.mv (.c (.int .i64 (-1)))) [])] .ret)) (sK [25] .skip))))) (.reg false [(0,oT 16 5 [5]),(1,oP 17 (.bin .add (.t 16) (.c (.int
.i64 1))) [16]),(2,oT 5 17 [17])])))
abbrev B6 : CCode := (sR [(0,oP 4 (.mv (.c (.int .i64 0))) [4])] (sR [(0,oT 6 1 [1]),(1,oT 7 0 []),(2,oP 8 (.len (.t 7)) [7]),(3,oP 9 (.bin .sub (.t 6) (.t 8)) [6,8]),(4,oT 1 9 [9])] (.seq (sR [(0,oT 10 1 []),(1,oP 11
(.bin .lss (.t 10) (.c (.int .i64 0))) [10])] (.cond (.t 11) (sK [0,1,11] (sR [(0,oP 4 (.mv (.c (.int .i64 (-1)))) [])] .ret)) (sK [11] .skip))) (.seq (sR [(0,oP 5 (.mv (.c (.int .i64 0))) [])] (.block 0 (.loop L6_0)))
(sR [(0,oT 26 1 [1]),(1,oT 4 26 [26])] .ret)))))
def C6 : CFn := ⟨27,2,[.t 4],B6⟩
abbrev L7_0 : CCode := (.seq (sR [(0,oT 7 6 []),(1,oT 8 1 []),(2,oP 9 (.len (.t 8)) [8]),(3,oP 10 (.bin .lss (.t 7) (.t 9)) [7,9]),(4,oT 11 10 [10]),(5,oG 12 (.ld 2 true (.t 2)) 11 true []),(6,oG 13 (.call 23 [.t 12])
11 true [12]),(7,oP 14 (.pick (.t 11) (.t 13) (.c (.bool false))) [11,13])] (.cond (.t 14) (sK [14] .skip) (sK [1,2,6,14] (.exit 0)))) (.seq (.block 1 (.seq (sR [(0,oT 17 6 []),(1,oP 18 (.bin .gtr (.t 17) (.c (.int .i64
0))) [17])] (.cond (.t 18) (sK [18] (.reg false [(0,oT 19 5 [5]),(1,oP 20 (.bin .add (.t 19) (.c (.str [32]))) [19]),(2,oT 5 20 [20])])) (sK [18] .skip))) (.seq (.reg true [(0,oT 21 5 [5]),(1,oP 22 (.bin .add (.t 21)
(.c (.str [123]))) [21]),(2,oP 23 (.ld 2 true (.t 2)) []),(3,oT 24 1 []),(4,oT 25 6 []),(5,oP 26 (.ia 2 (.t 24) (.t 25)) []),(6,oP 27 (.fa 0 (.t 26)) [26]),(7,oP 28 (.ld 1 false (.t 27)) [27]),(8,oP 29 (.call 24 [.t
23,.t 28]) [23,24,25,28]),(9,oP 30 (.bin .add (.t 22) (.t 29)) [22,29]),(10,oP 31 (.bin .add (.t 30) (.c (.str [125]))) [30]),(11,oT 5 31 [31])]) (sR [(0,oT 32 1 []),(1,oT 33 6 []),(2,oP 34 (.ia 2 (.t 32) (.t 33))
[]),(3,oP 35 (.fa 1 (.t 34)) [34]),(4,oP 36 (.ld 1 false (.t 35)) [32,33,35]),(5,oP 37 (.bin .geq (.t 36) (.c (.int .i64 0))) [36])] (.cond (.t 37) (sK [37] (.reg false [(0,oT 38 5 [5]),(1,oP 39 (.bin .add (.t 38) (.c
(.str [98,121]))) [38]),(2,oT 40 1 []),(3,oT 41 6 []),(4,oP 42 (.ia 2 (.t 40) (.t 41)) []),(5,oP 43 (.fa 1 (.t 42)) [42]),(6,oP 44 (.ld 1 false (.t 43)) [40,41,43]),(7,oP 45 (.call 25 [.t 44]) [44]),(8,oP 46 (.bin .add
(.t 39) (.t 45)) [39,45]),(9,oT 5 46 [46])])) (sK [37] .skip)))))) (.reg false [(0,oT 15 6 [6]),(1,oP 16 (.bin .add (.t 15) (.c (.int .i64 1))) [15]),(2,oT 6 16 [16])])))
abbrev B7 : CCode := (sR [(0,oP 2 (.box 2 (.t 0)) [0]),(1,oP 4 (.mv (.c (.str []))) [4])] (sR [(0,oP 5 (.mv (.c (.str []))) [])] (.seq (sR [(0,oP 6 (.mv (.c (.int .i64 0))) [])] (.block 0 (.loop L7_0))) (sR [(0,oT 47 5
[5]),(1,oT 4 47 [47])] .ret))))
def C7 : CFn := ⟨48,2,[.t 4],B7⟩
abbrev B8 : CCode := (sR [(0,oP 1 (.box 2 (.t 0)) [0]),(1,oP 2 (.al [.nils,.nils]) [])] (sR [(0,oP 3 (.al [.nils,.nils]) [])] (sR [(0,oP 4 (.fa 0 (.t 1)) []),(1,oP 5 (.ld 1 false (.t 4)) [4]),(2,oP 6 (.call 16 [.t 5])
[5]),(3,oP 7 (.fa 0 (.t 3)) []),(4,⟨none,.st 1 (.t 7) (.t 6),none,[],[6,7]⟩)] (sR [(0,oP 8 (.fa 1 (.t 1)) []),(1,oP 9 (.ld 1 false (.t 8)) [8]),(2,oP 10 (.call 26 [.t 9]) [1,9]),(3,oP 11 (.fa 1 (.t 3)) []),(4,⟨none,.st
1 (.t 11) (.t 10),none,[],[10,11]⟩)] (sR [(0,oP 12 (.ld 2 true (.t 3)) []),(1,⟨none,.st 2 (.t 2) (.t 12),none,[],[3,12]⟩)] .ret)))))
def C8 : CFn := ⟨13,1,[.m 2 2 true],B8⟩
abbrev L9_0 : CCode := (.seq (sR [(0,oT 8 4 []),(1,oT 9 0 []),(2,oP 10 (.len (.t 9)) [9]),(3,oP 11 (.bin .lss (.t 8) (.t 10)) [8,10])] (.cond (.t 11) (sK [11] .skip) (sK [0,4,11] (.exit 0)))) (.seq (.block 1 (.reg false
[(0,oT 14 3 []),(1,oT 15 4 []),(2,oT 16 0 []),(3,oT 17 4 []),(4,oP 18 (.ia 2 (.t 16) (.t 17)) []),(5,oP 19 (.ld 2 true (.t 18)) [18]),(6,oP 20 (.call 27 [.t 19]) [16,17,19]),(7,oP 21 (.ia 2 (.t 14) (.t 15))
[]),(8,⟨none,.st 2 (.t 21) (.t 20),none,[],[14,15,20,21]⟩)])) (.reg false [(0,oT 12 4 [4]),(1,oP 13 (.bin .add (.t 12) (.c (.int .i64 1))) [12]),(2,oT 4 13 [13])])))
abbrev B9 : CCode := (sR [(0,oP 2 (.mv (.c (.nils))) [2])] (sR [(0,oT 5 0 []),(1,oP 6 (.len (.t 5)) [5]),(2,oP 7 (.mk 2 32 [.nils,.int .i64 (0)] (.t 6) (.t 6)) [6]),(3,oT 3 7 [7])] (.seq (sR [(0,oP 4 (.mv (.c (.int .i64
0))) [])] (.block 0 (.loop L9_0))) (sR [(0,oT 22 3 [3]),(1,oT 2 22 [22])] .ret))))
def C9 : CFn := ⟨23,1,[.t 2],B9⟩
abbrev L10_0 : CCode := (sR [(0,oP 16 (.bin .lss (.t 15) (.t 14)) [])] (.seq (.cond (.t 16) (sK [16] .skip) (sK [2,13,14,15,16] (.exit 0))) (.seq (.block 1 (sR [(0,oP 17 (.ia 2 (.t 13) (.t 15)) []),(1,oP 18 (.ld 2 true
(.t 17)) [17]),(2,oP 7 (.al [.nils,.int .i64 (0)]) []),(3,⟨none,.st 2 (.t 7) (.t 18),none,[],[18]⟩)] (sR [(0,oP 19 (.ld 2 true (.t 2)) []),(1,oP 20 (.fa 0 (.t 7)) []),(2,oP 21 (.ld 1 false (.t 20)) [20]),(3,oP 22 (.call
29 [.t 19,.t 21]) [19,21]),(4,oP 23 (.bin .add (.c (.str [123])) (.t 22)) [22]),(5,oP 24 (.bin .add (.t 23) (.c (.str [125]))) [23]),(6,oT 8 24 [24])] (.seq (sR [(0,oP 25 (.fa 1 (.t 7)) []),(1,oP 26 (.ld 1 false (.t
25)) [25]),(2,oP 27 (.bin .geq (.t 26) (.c (.int .i64 0))) [26])] (.cond (.t 27) (sK [27] (.reg false [(0,oT 28 8 [8]),(1,oP 29 (.fa 1 (.t 7)) []),(2,oP 30 (.ld 1 false (.t 29)) [7,29]),(3,oP 31 (.call 30 [.t 30])
[30]),(4,oP 32 (.bin .add (.c (.str [98,121])) (.t 31)) [31]),(5,oP 33 (.bin .add (.t 28) (.t 32)) [28,32]),(6,oT 8 33 [33])])) (sK [7,27] .skip))) (.reg false [(0,oT 34 5 [5]),(1,oT 35 8 [8]),(2,oP 36 (.bsl 1 1 [.str
[]] [(0,1,(.t 35))]) [35]),(3,oP 37 (.app 1 16 (.t 34) (.t 36)) [34,36]),(4,oT 5 37 [37])]))))) (.reg false [(0,oP 38 (.bin .add (.t 15) (.c (.int .i64 1))) [15]),(1,oT 15 38 [38])]))))
abbrev B10 : CCode := (sR [(0,oP 2 (.box 2 (.t 0)) [0]),(1,oP 4 (.mv (.c (.str []))) [4])] (.seq (sR [(0,oP 9 (.ld 2 true (.t 2)) []),(1,oP 10 (.call 28 [.t 9]) [9]),(2,oP 11 (.not (.t 10)) [10])] (.cond (.t 11) (sK
[1,2,11] (sR [(0,oP 4 (.mv (.c (.str []))) [])] .ret)) (sK [11] .skip))) (sR [(0,oP 12 (.bsl 1 0 [.str []] []) []),(1,oT 5 12 [12])] (.seq (sR [(0,oT 13 1 [1]),(1,oP 14 (.len (.t 13)) []),(2,oP 15 (.mv (.c (.int .i64
0))) [])] (.block 0 (.loop L10_0))) (sR [(0,oT 39 5 [5]),(1,oP 40 (.call 31 [.t 39,(.c (.str [32]))]) [39]),(2,oT 4 40 [40])] .ret)))))
def C10 : CFn := ⟨41,2,[.t 4],B10⟩
abbrev B11 : CCode := (sR [(0,oP 2 (.box 2 (.t 0)) [0]),(1,oP 3 (.box 2 (.t 1)) [1]),(2,oP 4 (.mv (.c (.bool false))) [4])] (.seq (sR [(0,oP 5 (.fa 0 (.t 2)) []),(1,oP 6 (.ld 1 false (.t 5)) [5]),(2,oP 7 (.fa 0 (.t 3))
[]),(3,oP 8 (.ld 1 false (.t 7)) [7]),(4,oP 9 (.call 19 [.t 6,.t 8]) [6,8]),(5,oP 10 (.not (.t 9)) [9])] (.cond (.t 10) (sK [2,3,10] (sR [(0,oP 4 (.mv (.c (.bool false))) [])] .ret)) (sK [10] .skip))) (.seq (sR [(0,oP
11 (.fa 1 (.t 2)) []),(1,oP 12 (.ld 1 false (.t 11)) [11]),(2,oP 13 (.fa 1 (.t 3)) []),(3,oP 14 (.ld 1 false (.t 13)) [13]),(4,oP 15 (.call 32 [.t 12,.t 14]) [2,3,12,14]),(5,oP 16 (.not (.t 15)) [15])] (.cond (.t 16)
(sK [16] (sR [(0,oP 4 (.mv (.c (.bool false))) [])] .ret)) (sK [16] .skip))) (sR [(0,oP 4 (.mv (.c (.bool true))) [])] .ret))))
def C11 : CFn := ⟨17,2,[.t 4],B11⟩
abbrev L12_0 : CCode := (.seq (sR [(0,oT 11 5 []),(1,oT 12 0 []),(2,oP 13 (.len (.t 12)) [12]),(3,oP 14 (.bin .lss (.t 11) (.t 13)) [11,13])] (.cond (.t 14) (sK [14] .skip) (sK [0,1,5,14] (.exit 0)))) (.seq (.block 1
(.seq (.reg true [(0,oT 17 0 []),(1,oT 18 5 []),(2,oP 19 (.ia 2 (.t 17) (.t 18)) []),(3,oP 20 (.ld 2 true (.t 19)) [19]),(4,oT 21 1 []),(5,oT 22 5 []),(6,oP 23 (.ia 2 (.t 21) (.t 22)) []),(7,oP 24 (.ld 2 true (.t 23))
[23]),(8,oP 25 (.call 33 [.t 20,.t 24]) [17,18,20,21,22,24]),(9,oP 26 (.not (.t 25)) [25])]) (.cond (.t 26) (sK [0,1,5,26] (sR [(0,oP 4 (.mv (.c (.bool false))) [])] .ret)) (sK [26] .skip)))) (.reg false [(0,oT 15 5
[5]),(1,oP 16 (.bin .add (.t 15) (.c (.int .i64 1))) [15]),(2,oT 5 16 [16])])))
abbrev B12 : CCode := (sR [(0,oP 4 (.mv (.c (.bool false))) [4])] (.seq (sR [(0,oT 6 0 []),(1,oP 7 (.len (.t 6)) [6]),(2,oT 8 1 []),(3,oP 9 (.len (.t 8)) [8]),(4,oP 10 (.bin .neq (.t 7) (.t 9)) [7,9])] (.cond (.t 10)
(sK [0,1,10] (sR [(0,oP 4 (.mv (.c (.bool false))) [])] .ret)) (sK [10] .skip))) (.seq (sR [(0,oP 5 (.mv (.c (.int .i64 0))) [])] (.block 0 (.loop L12_0))) (sR [(0,oP 4 (.mv (.c (.bool true))) [])] .ret))))
def C12 : CFn := ⟨27,2,[.t 4],B12⟩
abbrev L13_0 : CCode := (.seq (sR [(0,oT 12 5 []),(1,oT 13 0 []),(2,oP 14 (.len (.t 13)) [13]),(3,oP 15 (.bin .lss (.t 12) (.t 14)) [12,14])] (.cond (.t 15) (sK [15] .skip) (sK [0,5,15] (.exit 0)))) (.seq (.block 1 (sR
[(0,oT 18 0 []),(1,oT 19 5 []),(2,oP 20 (.ia 3 (.t 18) (.t 19)) []),(3,oP 21 (.ld 3 true (.t 20)) [20]),(4,oT 22 1 [1]),(5,oP 23 (.call 34 [.t 21,.t 22]) [18,19,21,22]),(6,oT 1 23 [23])] (sR [(0,oT 24 1 []),(1,oP 25
(.bin .lss (.t 24) (.c (.int .i64 0))) [24])] (.cond (.t 25) (sK [0,1,5,25] (sR [(0,oP 4 (.mv (.c (.int .i64 (-1)))) [])] .ret)) (sK [25] .skip))))) (.reg false [(0,oT 16 5 [5]),(1,oP 17 (.bin .add (.t 16) (.c (.int
.i64 1))) [16]),(2,oT 5 17 [17])])))
abbrev B13 : CCode := (sR [(0,oP 4 (.mv (.c (.int .i64 0))) [4])] (sR [(0,oT 6 1 [1]),(1,oT 7 0 []),(2,oP 8 (.len (.t 7)) [7]),(3,oP 9 (.bin .sub (.t 6) (.t 8)) [6,8]),(4,oT 1 9 [9])] (.seq (sR [(0,oT 10 1 []),(1,oP 11
(.bin .lss (.t 10) (.c (.int .i64 0))) [10])] (.cond (.t 11) (sK [0,1,11] (sR [(0,oP 4 (.mv (.c (.int .i64 (-1)))) [])] .ret)) (sK [11] .skip))) (.seq (sR [(0,oP 5 (.mv (.c (.int .i64 0))) [])] (.block 0 (.loop L13_0)))
(sR [(0,oT 26 1 [1]),(1,oT 4 26 [26])] .ret)))))
def C13 : CFn := ⟨27,2,[.t 4],B13⟩
abbrev L16_0 : CCode := (.seq (sR [(0,oT 8 4 []),(1,oT 9 0 []),(2,oP 10 (.len (.t 9)) [9]),(3,oP 11 (.bin .lss (.t 8) (.t 10)) [8,10])] (.cond (.t 11) (sK [11] .skip) (sK [0,4,11] (.exit 0)))) (.seq (.block 1 (.reg
false [(0,oT 14 3 []),(1,oT 15 4 []),(2,oT 16 0 []),(3,oT 17 4 []),(4,oP 18 (.ia 3 (.t 16) (.t 17)) []),(5,oP 19 (.ld 3 true (.t 18)) [18]),(6,oP 20 (.call 39 [.t 19]) [16,17,19]),(7,oP 21 (.ia 3 (.t 14) (.t 15))
[]),(8,⟨none,.st 3 (.t 21) (.t 20),none,[],[14,15,20,21]⟩)])) (.reg false [(0,oT 12 4 [4]),(1,oP 13 (.bin .add (.t 12) (.c (.int .i64 1))) [12]),(2,oT 4 13 [13])])))
abbrev B16 : CCode := (sR [(0,oP 2 (.mv (.c (.nils))) [2])] (sR [(0,oT 5 0 []),(1,oP 6 (.len (.t 5)) [5]),(2,oP 7 (.mk 3 32 [.str [],.int .i64 (0),.int .i64 (0)] (.t 6) (.t 6)) [6]),(3,oT 3 7 [7])] (.seq (sR [(0,oP 4
(.mv (.c (.int .i64 0))) [])] (.block 0 (.loop L16_0))) (sR [(0,oT 22 3 [3]),(1,oT 2 22 [22])] .ret))))
def C16 : CFn := ⟨23,1,[.t 2],B16⟩
abbrev L19_0 : CCode := (.seq (sR [(0,oT 11 5 []),(1,oT 12 0 []),(2,oP 13 (.len (.t 12)) [12]),(3,oP 14 (.bin .lss (.t 11) (.t 13)) [11,13])] (.cond (.t 14) (sK [14] .skip) (sK [0,1,5,14] (.exit 0)))) (.seq (.block 1
(.seq (.reg true [(0,oT 17 0 []),(1,oT 18 5 []),(2,oP 19 (.ia 3 (.t 17) (.t 18)) []),(3,oP 20 (.ld 3 true (.t 19)) [19]),(4,oT 21 1 []),(5,oT 22 5 []),(6,oP 23 (.ia 3 (.t 21) (.t 22)) []),(7,oP 24 (.ld 3 true (.t 23))
[23]),(8,oP 25 (.call 44 [.t 20,.t 24]) [17,18,20,21,22,24]),(9,oP 26 (.not (.t 25)) [25])]) (.cond (.t 26) (sK [0,1,5,26] (sR [(0,oP 4 (.mv (.c (.bool false))) [])] .ret)) (sK [26] .skip)))) (.reg false [(0,oT 15 5
[5]),(1,oP 16 (.bin .add (.t 15) (.c (.int .i64 1))) [15]),(2,oT 5 16 [16])])))
abbrev B19 : CCode := (sR [(0,oP 4 (.mv (.c (.bool false))) [4])] (.seq (sR [(0,oT 6 0 []),(1,oP 7 (.len (.t 6)) [6]),(2,oT 8 1 []),(3,oP 9 (.len (.t 8)) [8]),(4,oP 10 (.bin .neq (.t 7) (.t 9)) [7,9])] (.cond (.t 10)
(sK [0,1,10] (sR [(0,oP 4 (.mv (.c (.bool false))) [])] .ret)) (sK [10] .skip))) (.seq (sR [(0,oP 5 (.mv (.c (.int .i64 0))) [])] (.block 0 (.loop L19_0))) (sR [(0,oP 4 (.mv (.c (.bool true))) [])] .ret))))
def C19 : CFn := ⟨27,2,[.t 4],B19⟩
abbrev L21_0 : CCode := (.seq (sR [(0,oT 12 5 []),(1,oT 13 0 []),(2,oP 14 (.len (.t 13)) [13]),(3,oP 15 (.bin .lss (.t 12) (.t 14)) [12,14])] (.cond (.t 15) (sK [15] .skip) (sK [0,5,15] (.exit 0)))) (.seq (.block 1 (sR
[(0,oT 18 0 []),(1,oT 19 5 []),(2,oP 20 (.ia 2 (.t 18) (.t 19)) []),(3,oP 21 (.ld 2 true (.t 20)) [20]),(4,oT 22 1 [1]),(5,oP 23 (.call 46 [.t 21,.t 22]) [18,19,21,22]),(6,oT 1 23 [23])] (sR [(0,oT 24 1 []),(1,oP 25
(.bin .lss (.t 24) (.c (.int .i64 0))) [24])] (.cond (.t 25) (sK [0,1,5,25] (sR [(0,oP 4 (.mv (.c (.int .i64 (-1)))) [])] .ret)) (sK [25] .skip))))) (.reg false [(0,oT 16 5 [5]),(1,oP 17 (.bin .add (.t 16) (.c (.int
.i64 1))) [16]),(2,oT 5 17 [17])])))
abbrev B21 : CCode := (sR [(0,oP 4 (.mv (.c (.int .i64 0))) [4])] (sR [(0,oT 6 1 [1]),(1,oT 7 0 []),(2,oP 8 (.len (.t 7)) [7]),(3,oP 9 (.bin .sub (.t 6) (.t 8)) [6,8]),(4,oT 1 9 [9])] (.seq (sR [(0,oT 10 1 []),(1,oP 11
(.bin .lss (.t 10) (.c (.int .i64 0))) [10])] (.cond (.t 11) (sK [0,1,11] (sR [(0,oP 4 (.mv (.c (.int .i64 (-1)))) [])] .ret)) (sK [11] .skip))) (.seq (sR [(0,oP 5 (.mv (.c (.int .i64 0))) [])] (.block 0 (.loop L21_0)))
(sR [(0,oT 26 1 [1]),(1,oT 4 26 [26])] .ret)))))
def C21 : CFn := ⟨27,2,[.t 4],B21⟩
abbrev B22 : CCode := (sR [(0,oP 2 (.box 2 (.t 0)) [0]),(1,oP 4 (.mv (.c (.int .i64 0))) [4])] (sR [(0,oP 5 (.fa 0 (.t 2)) []),(1,oP 6 (.ld 1 false (.t 5)) [5]),(2,oT 7 1 [1]),(3,oP 8 (.call 47 [.t 6,.t 7])
[2,6,7]),(4,oT 1 8 [8])] (.seq (sR [(0,oT 9 1 []),(1,oP 10 (.bin .lss (.t 9) (.c (.int .i64 0))) [9])] (.cond (.t 10) (sK [1,10] (sR [(0,oP 4 (.mv (.c (.int .i64 (-1)))) [])] .ret)) (sK [10] .skip))) (sR [(0,oT 11 1
[1]),(1,oT 4 11 [11])] .ret))))
def C22 : CFn := ⟨12,2,[.t 4],B22⟩
abbrev L23_0 : CCode := (.seq (sR [(0,oT 4 3 []),(1,oP 5 (.fa 1 (.t 1)) []),(2,oP 6 (.ld 1 false (.t 5)) [5]),(3,oP 7 (.len (.t 6)) [6]),(4,oP 8 (.bin .lss (.t 4) (.t 7)) [4,7])] (.cond (.t 8) (sK [8] .skip) (sK [3,8]
(.exit 0)))) (.seq (.block 1 (.seq (.reg true [(0,oP 11 (.fa 0 (.t 1)) []),(1,oP 12 (.ld 1 false (.t 11)) [11]),(2,oP 13 (.fa 1 (.t 1)) []),(3,oP 14 (.ld 1 false (.t 13)) [13]),(4,oT 15 3 []),(5,oP 16 (.ia 2 (.t 14) (.t
15)) [14]),(6,oP 17 (.ld 2 true (.t 16)) [16]),(7,oP 18 (.call 48 [.t 12,.t 17]) [12,15,17]),(8,oP 19 (.not (.t 18)) [18]),(9,oT 20 19 [19]),(10,oG 21 (.mv (.t 3)) 20 false []),(11,oG 22 (.bin .gtr (.t 21) (.c (.int
.i64 0))) 20 false [21]),(12,oG 23 (.mv (.t 22)) 20 false [22]),(13,oG 24 (.fa 1 (.t 1)) 23 true []),(14,oG 25 (.ld 1 false (.t 24)) 23 true [24]),(15,oG 26 (.mv (.t 3)) 23 true []),(16,oG 27 (.bin .sub (.t 26) (.c
(.int .i64 1))) 23 true [26]),(17,oG 28 (.ia 2 (.t 25) (.t 27)) 23 true [25]),(18,oG 29 (.ld 2 true (.t 28)) 23 true [28]),(19,oG 30 (.fa 1 (.t 1)) 23 true []),(20,oG 31 (.ld 1 false (.t 30)) 23 true [30]),(21,oG 32
(.mv (.t 3)) 23 true []),(22,oG 33 (.ia 2 (.t 31) (.t 32)) 23 true [31]),(23,oG 34 (.ld 2 true (.t 33)) 23 true [33]),(24,oG 35 (.call 49 [.t 29,.t 34]) 23 true [27,29,32,34]),(25,oG 36 (.bin .geq (.t 35) (.c (.int .i64
0))) 23 true [35]),(26,oG 37 (.pick (.t 23) (.t 36) (.c (.bool false))) 20 false [23,36]),(27,oP 38 (.pick (.t 20) (.c (.bool true)) (.t 37)) [20,37])]) (.cond (.t 38) (sK [1,3,38] (sR [(0,oP 2 (.mv (.c (.bool false)))
[])] .ret)) (sK [38] .skip)))) (.reg false [(0,oT 9 3 [3]),(1,oP 10 (.bin .add (.t 9) (.c (.int .i64 1))) [9]),(2,oT 3 10 [10])])))
abbrev B23 : CCode := (sR [(0,oP 1 (.box 2 (.t 0)) [0]),(1,oP 2 (.mv (.c (.bool false))) [2])] (.seq (sR [(0,oP 3 (.mv (.c (.int .i64 0))) [])] (.block 0 (.loop L23_0))) (sR [(0,oP 39 (.fa 0 (.t 1)) []),(1,oP 40 (.ld 1
false (.t 39)) [39]),(2,oP 41 (.call 50 [.t 40]) [40]),(3,oT 42 41 [41]),(4,oG 43 (.fa 1 (.t 1)) 42 true []),(5,oG 44 (.ld 1 false (.t 43)) 42 true [43]),(6,oG 45 (.len (.t 44)) 42 true [1,44]),(7,oG 46 (.bin .leq (.t
45) (.c (.int .i64 14))) 42 true [45]),(8,oP 47 (.pick (.t 42) (.t 46) (.c (.bool false))) [42,46]),(9,oT 2 47 [47])] .ret)))
def C23 : CFn := ⟨48,1,[.t 2],B23⟩
abbrev L24_0 : CCode := (.seq (sR [(0,oT 7 6 []),(1,oT 8 1 []),(2,oP 9 (.len (.t 8)) [8]),(3,oP 10 (.bin .lss (.t 7) (.t 9)) [7,9]),(4,oT 11 10 [10]),(5,oG 12 (.ld 2 true (.t 2)) 11 true []),(6,oG 13 (.call 23 [.t 12])
11 true [12]),(7,oP 14 (.pick (.t 11) (.t 13) (.c (.bool false))) [11,13]),(8,oT 15 14 [14]),(9,oG 16 (.ld 2 true (.t 2)) 15 true []),(10,oG 17 (.mv (.t 1)) 15 true []),(11,oG 18 (.call 51 [.t 16,.t 17]) 15 true
[16,17]),(12,oP 19 (.pick (.t 15) (.t 18) (.c (.bool false))) [15,18])] (.cond (.t 19) (sK [19] .skip) (sK [1,2,6,19] (.exit 0)))) (.seq (.block 1 (.seq (sR [(0,oT 22 6 []),(1,oP 23 (.bin .gtr (.t 22) (.c (.int .i64
0))) [22])] (.cond (.t 23) (sK [23] (.reg false [(0,oT 24 5 [5]),(1,oP 25 (.bin .add (.t 24) (.c (.str [32]))) [24]),(2,oT 5 25 [25])])) (sK [23] .skip))) (.reg true [(0,oT 26 5 [5]),(1,oP 27 (.fa 0 (.t 2)) []),(2,oP 28
(.ld 1 false (.t 27)) [27]),(3,oP 29 (.fa 1 (.t 2)) []),(4,oP 30 (.ld 1 false (.t 29)) [29]),(5,oT 31 1 []),(6,oT 32 6 []),(7,oP 33 (.ia 1 (.t 31) (.t 32)) []),(8,oP 34 (.ld 1 false (.t 33)) [31,32,33]),(9,oP 35 (.ia 2
(.t 30) (.t 34)) [30]),(10,oP 36 (.ld 2 true (.t 35)) [35]),(11,oP 37 (.call 52 [.t 28,.t 36]) [28,34,36]),(12,oP 38 (.bin .add (.t 26) (.t 37)) [26,37]),(13,oT 5 38 [38])]))) (.reg false [(0,oT 20 6 [6]),(1,oP 21 (.bin
.add (.t 20) (.c (.int .i64 1))) [20]),(2,oT 6 21 [21])])))
abbrev B24 : CCode := (sR [(0,oP 2 (.box 2 (.t 0)) [0]),(1,oP 4 (.mv (.c (.str []))) [4])] (sR [(0,oP 5 (.mv (.c (.str []))) [])] (.seq (sR [(0,oP 6 (.mv (.c (.int .i64 0))) [])] (.block 0 (.loop L24_0))) (sR [(0,oT 39
5 [5]),(1,oT 4 39 [39])] .ret))))
def C24 : CFn := ⟨40,2,[.t 4],B24⟩
abbrev L25_0 : CCode := (.seq (sR [(0,oT 10 0 []),(1,oP 11 (.bin .neq (.t 10) (.c (.int .i64 0))) [10])] (.cond (.t 11) (sK [11] .skip) (sK [0,11] (.exit 0)))) (.block 1 (sR [(0,oT 12 0 []),(1,oP 13 (.bin .rem (.t 12)
(.c (.int .i64 10))) [12]),(2,oT 5 13 [13])] (.seq (sR [(0,oT 14 5 []),(1,oP 15 (.bin .lss (.t 14) (.c (.int .i64 0))) [14])] (.cond (.t 15) (sK [15] (.reg false [(0,oT 16 5 [5]),(1,oP 17 (.neg (.t 16)) [16]),(2,oT 5 17
[17])])) (sK [15] .skip))) (sR [(0,oT 18 5 [5]),(1,oP 19 (.bin .add (.c (.int .i64 48)) (.t 18)) [18]),(2,oP 20 (.conv .u8 (.t 19)) [19]),(3,oP 21 (.bsl 1 1 [.int .u8 (0)] [(0,1,(.t 20))]) [20]),(4,oP 22 (.b2s (.t 21))
[21]),(5,oT 23 3 [3]),(6,oP 24 (.bin .add (.t 22) (.t 23)) [22,23]),(7,oT 3 24 [24])] (.reg false [(0,oT 25 0 [0]),(1,oP 26 (.bin .quo (.t 25) (.c (.int .i64 10))) [25]),(2,oT 0 26 [26])]))))))
abbrev B25 : CCode := (sR [(0,oP 2 (.mv (.c (.str []))) [2])] (.seq (sR [(0,oT 6 0 []),(1,oP 7 (.bin .eql (.t 6) (.c (.int .i64 0))) [6])] (.cond (.t 7) (sK [0,7] (sR [(0,oP 2 (.mv (.c (.str [48]))) [])] .ret)) (sK [7]
.skip))) (sR [(0,oP 3 (.mv (.c (.str []))) [])] (sR [(0,oT 8 0 []),(1,oP 9 (.bin .lss (.t 8) (.c (.int .i64 0))) [8]),(2,oT 4 9 [9])] (.seq (.block 0 (.loop L25_0)) (.seq (sR [(0,oT 27 4 [4])] (.cond (.t 27) (sK [27]
(sR [(0,oT 28 3 [3]),(1,oP 29 (.bin .add (.c (.str [45])) (.t 28)) [28]),(2,oT 2 29 [29])] .ret)) (sK [27] .skip))) (sR [(0,oT 30 3 [3]),(1,oT 2 30 [30])] .ret)))))))
def C25 : CFn := ⟨31,1,[.t 2],B25⟩
abbrev L26_0 : CCode := (.seq (sR [(0,oT 8 4 []),(1,oT 9 0 []),(2,oP 10 (.len (.t 9)) [9]),(3,oP 11 (.bin .lss (.t 8) (.t 10)) [8,10])] (.cond (.t 11) (sK [11] .skip) (sK [0,4,11] (.exit 0)))) (.seq (.block 1 (.reg
false [(0,oT 14 3 []),(1,oT 15 4 []),(2,oT 16 0 []),(3,oT 17 4 []),(4,oP 18 (.ia 2 (.t 16) (.t 17)) []),(5,oP 19 (.ld 2 true (.t 18)) [18]),(6,oP 20 (.call 53 [.t 19]) [16,17,19]),(7,oP 21 (.ia 2 (.t 14) (.t 15))
[]),(8,⟨none,.st 2 (.t 21) (.t 20),none,[],[14,15,20,21]⟩)])) (.reg false [(0,oT 12 4 [4]),(1,oP 13 (.bin .add (.t 12) (.c (.int .i64 1))) [12]),(2,oT 4 13 [13])])))
abbrev B26 : CCode := (sR [(0,oP 2 (.mv (.c (.nils))) [2])] (sR [(0,oT 5 0 []),(1,oP 6 (.len (.t 5)) [5]),(2,oP 7 (.mk 2 32 [.int .i64 (0),.nils] (.t 6) (.t 6)) [6]),(3,oT 3 7 [7])] (.seq (sR [(0,oP 4 (.mv (.c (.int
.i64 0))) [])] (.block 0 (.loop L26_0))) (sR [(0,oT 22 3 [3]),(1,oT 2 22 [22])] .ret))))
def C26 : CFn := ⟨23,1,[.t 2],B26⟩
abbrev B27 : CCode := (sR [(0,oP 1 (.box 2 (.t 0)) [0]),(1,oP 2 (.al [.nils,.int .i64 (0)]) [])] (sR [(0,oP 3 (.al [.nils,.int .i64 (0)]) [])] (sR [(0,oP 4 (.fa 0 (.t 1)) []),(1,oP 5 (.ld 1 false (.t 4)) [4]),(2,oP 6
(.call 54 [.t 5]) [5]),(3,oP 7 (.fa 0 (.t 3)) []),(4,⟨none,.st 1 (.t 7) (.t 6),none,[],[6,7]⟩)] (sR [(0,oP 8 (.fa 1 (.t 1)) []),(1,oP 9 (.ld 1 false (.t 8)) [1,8]),(2,oP 10 (.fa 1 (.t 3)) []),(3,⟨none,.st 1 (.t 10) (.t
9),none,[],[9,10]⟩)] (sR [(0,oP 11 (.ld 2 true (.t 3)) []),(1,⟨none,.st 2 (.t 2) (.t 11),none,[],[3,11]⟩)] .ret)))))
def C27 : CFn := ⟨12,1,[.m 2 2 true],B27⟩
abbrev L28_0 : CCode := (sR [(0,oP 19 (.bin .lss (.t 18) (.t 17)) [])] (.seq (.cond (.t 19) (sK [19] .skip) (sK [1,16,17,18,19] (.exit 0))) (.seq (.block 1 (sR [(0,oT 20 18 []),(1,oP 21 (.ia 2 (.t 16) (.t 18)) []),(2,oP
22 (.ld 2 true (.t 21)) [21]),(3,oP 4 (.al [.int .i64 (0),.nils]) []),(4,oT 3 20 [20]),(5,⟨none,.st 2 (.t 4) (.t 22),none,[],[22]⟩)] (.seq (.reg true [(0,oP 23 (.fa 0 (.t 1)) []),(1,oP 24 (.ld 1 false (.t 23))
[23]),(2,oP 25 (.ld 2 true (.t 4)) []),(3,oP 26 (.call 56 [.t 24,.t 25]) [24,25]),(4,oP 27 (.not (.t 26)) [26]),(5,oT 28 27 [27]),(6,oG 29 (.mv (.t 3)) 28 false []),(7,oG 30 (.bin .gtr (.t 29) (.c (.int .i64 0))) 28
false [29]),(8,oG 31 (.mv (.t 30)) 28 false [30]),(9,oG 32 (.fa 1 (.t 1)) 31 true []),(10,oG 33 (.ld 1 false (.t 32)) 31 true [32]),(11,oG 34 (.mv (.t 3)) 31 true [3]),(12,oG 35 (.bin .sub (.t 34) (.c (.int .i64 1))) 31
true [34]),(13,oG 36 (.ia 2 (.t 33) (.t 35)) 31 true [33]),(14,oG 37 (.ld 2 true (.t 36)) 31 true [36]),(15,oG 38 (.ld 2 true (.t 4)) 31 true []),(16,oG 39 (.call 57 [.t 37,.t 38]) 31 true [4,35,37,38]),(17,oG 40 (.bin
.geq (.t 39) (.c (.int .i64 0))) 31 true [39]),(18,oG 41 (.pick (.t 31) (.t 40) (.c (.bool false))) 28 false [31,40]),(19,oP 42 (.pick (.t 28) (.c (.bool true)) (.t 41)) [28,41])]) (.cond (.t 42) (sK [1,16,17,18,42] (sR
[(0,oP 2 (.mv (.c (.bool false))) [])] .ret)) (sK [42] .skip))))) (.reg false [(0,oP 43 (.bin .add (.t 18) (.c (.int .i64 1))) [18]),(1,oT 18 43 [43])]))))
abbrev B28 : CCode := (sR [(0,oP 1 (.box 2 (.t 0)) [0]),(1,oP 2 (.mv (.c (.bool false))) [2])] (.seq (sR [(0,oP 5 (.fa 0 (.t 1)) []),(1,oP 6 (.ld 1 false (.t 5)) [5]),(2,oP 7 (.call 55 [.t 6]) [6]),(3,oP 8 (.not (.t 7))
[7]),(4,oT 9 8 [8]),(5,oG 10 (.fa 1 (.t 1)) 9 false []),(6,oG 11 (.ld 1 false (.t 10)) 9 false [10]),(7,oG 12 (.len (.t 11)) 9 false [11]),(8,oG 13 (.bin .gtr (.t 12) (.c (.int .i64 14))) 9 false [12]),(9,oP 14 (.pick
(.t 9) (.c (.bool true)) (.t 13)) [9,13])] (.cond (.t 14) (sK [1,14] (sR [(0,oP 2 (.mv (.c (.bool false))) [])] .ret)) (sK [14] .skip))) (.seq (sR [(0,oP 15 (.fa 1 (.t 1)) []),(1,oP 16 (.ld 1 false (.t 15)) [15]),(2,oP
17 (.len (.t 16)) []),(3,oP 18 (.mv (.c (.int .i64 0))) [])] (.block 0 (.loop L28_0))) (sR [(0,oP 2 (.mv (.c (.bool true))) [])] .ret))))
def C28 : CFn := ⟨44,1,[.t 2],B28⟩
abbrev B29 : CCode := (sR [(0,oP 2 (.box 2 (.t 0)) [0]),(1,oP 4 (.mv (.c (.str []))) [4])] (sR [(0,oP 8 (.ld 2 true (.t 2)) []),(1,oT 9 1 [1]),(2,oP 10 (.call 58 [.t 8,.t 9]) [2,8,9]),(3,oT 7 10 [10]),(4,oP 11 (.ex (.t
7) 0) []),(5,oP 12 (.ex (.t 7) 1) [7]),(6,oP 5 (.al [.nils,.nils]) []),(7,⟨none,.st 2 (.t 5) (.t 11),none,[],[11]⟩),(8,oT 6 12 [12])] (.seq (sR [(0,oT 13 6 [6]),(1,oP 14 (.not (.t 13)) [13])] (.cond (.t 14) (sK [5,14]
(sR [(0,oP 4 (.mv (.c (.str []))) [])] .ret)) (sK [14] .skip))) (sR [(0,oP 15 (.ld 2 true (.t 5)) []),(1,oP 16 (.call 59 [.t 15]) [5,15]),(2,oT 4 16 [16])] .ret))))
def C29 : CFn := ⟨17,2,[.t 4],B29⟩
abbrev B30 : CCode := (sR [(0,oP 2 (.mv (.c (.str []))) [2])] (sR [(0,oT 3 0 [0]),(1,oP 4 (.call 60 [.t 3]) [3]),(2,oT 2 4 [4])] .ret))
def C30 : CFn := ⟨5,1,[.t 2],B30⟩
abbrev L32_0 : CCode := (.seq (sR [(0,oT 11 5 []),(1,oT 12 0 []),(2,oP 13 (.len (.t 12)) [12]),(3,oP 14 (.bin .lss (.t 11) (.t 13)) [11,13])] (.cond (.t 14) (sK [14] .skip) (sK [0,1,5,14] (.exit 0)))) (.seq (.block 1
(.seq (.reg true [(0,oT 17 0 []),(1,oT 18 5 []),(2,oP 19 (.ia 2 (.t 17) (.t 18)) []),(3,oP 20 (.ld 2 true (.t 19)) [19]),(4,oT 21 1 []),(5,oT 22 5 []),(6,oP 23 (.ia 2 (.t 21) (.t 22)) []),(7,oP 24 (.ld 2 true (.t 23))
[23]),(8,oP 25 (.call 64 [.t 20,.t 24]) [17,18,20,21,22,24]),(9,oP 26 (.not (.t 25)) [25])]) (.cond (.t 26) (sK [0,1,5,26] (sR [(0,oP 4 (.mv (.c (.bool false))) [])] .ret)) (sK [26] .skip)))) (.reg false [(0,oT 15 5
[5]),(1,oP 16 (.bin .add (.t 15) (.c (.int .i64 1))) [15]),(2,oT 5 16 [16])])))
abbrev B32 : CCode := (sR [(0,oP 4 (.mv (.c (.bool false))) [4])] (.seq (sR [(0,oT 6 0 []),(1,oP 7 (.len (.t 6)) [6]),(2,oT 8 1 []),(3,oP 9 (.len (.t 8)) [8]),(4,oP 10 (.bin .neq (.t 7) (.t 9)) [7,9])] (.cond (.t 10)
(sK [0,1,10] (sR [(0,oP 4 (.mv (.c (.bool false))) [])] .ret)) (sK [10] .skip))) (.seq (sR [(0,oP 5 (.mv (.c (.int .i64 0))) [])] (.block 0 (.loop L32_0))) (sR [(0,oP 4 (.mv (.c (.bool true))) [])] .ret))))
def C32 : CFn := ⟨27,2,[.t 4],B32⟩
abbrev B33 : CCode := (sR [(0,oP 2 (.box 2 (.t 0)) [0]),(1,oP 3 (.box 2 (.t 1)) [1]),(2,oP 4 (.mv (.c (.bool false))) [4])] (.seq (sR [(0,oP 5 (.fa 0 (.t 2)) []),(1,oP 6 (.ld 1 false (.t 5)) [5]),(2,oP 7 (.fa 0 (.t 3))
[]),(3,oP 8 (.ld 1 false (.t 7)) [7]),(4,oP 9 (.call 65 [.t 6,.t 8]) [6,8]),(5,oP 10 (.not (.t 9)) [9])] (.cond (.t 10) (sK [2,3,10] (sR [(0,oP 4 (.mv (.c (.bool false))) [])] .ret)) (sK [10] .skip))) (.seq (sR [(0,oP
11 (.fa 1 (.t 2)) []),(1,oP 12 (.ld 1 false (.t 11)) [2,11]),(2,oP 13 (.fa 1 (.t 3)) []),(3,oP 14 (.ld 1 false (.t 13)) [3,13]),(4,oP 15 (.bin .neq (.t 12) (.t 14)) [12,14])] (.cond (.t 15) (sK [15] (sR [(0,oP 4 (.mv
(.c (.bool false))) [])] .ret)) (sK [15] .skip))) (sR [(0,oP 4 (.mv (.c (.bool true))) [])] .ret))))
def C33 : CFn := ⟨16,2,[.t 4],B33⟩
abbrev B34 : CCode := (sR [(0,oP 2 (.box 3 (.t 0)) [0]),(1,oP 4 (.mv (.c (.int .i64 0))) [4])] (sR [(0,oT 5 1 [1]),(1,oP 6 (.fa 0 (.t 2)) []),(2,oP 7 (.ld 1 false (.t 6)) [2,6]),(3,oP 8 (.lens (.t 7)) [7]),(4,oP 9 (.bin
.sub (.t 5) (.t 8)) [5,8]),(5,oT 1 9 [9])] (.seq (sR [(0,oT 10 1 []),(1,oP 11 (.bin .lss (.t 10) (.c (.int .i64 0))) [10])] (.cond (.t 11) (sK [1,11] (sR [(0,oP 4 (.mv (.c (.int .i64 (-1)))) [])] .ret)) (sK [11]
.skip))) (sR [(0,oT 12 1 [1]),(1,oT 4 12 [12])] .ret))))
def C34 : CFn := ⟨13,2,[.t 4],B34⟩
abbrev B39 : CCode := (sR [(0,oP 1 (.box 3 (.t 0)) [0]),(1,oP 2 (.al [.str [],.int .i64 (0),.int .i64 (0)]) [])] (sR [(0,oP 3 (.al [.str [],.int .i64 (0),.int .i64 (0)]) [])] (sR [(0,oP 4 (.fa 0 (.t 1)) []),(1,oP 5 (.ld
1 false (.t 4)) [4]),(2,oP 6 (.fa 0 (.t 3)) []),(3,⟨none,.st 1 (.t 6) (.t 5),none,[],[5,6]⟩)] (sR [(0,oP 7 (.fa 1 (.t 1)) []),(1,oP 8 (.ld 1 false (.t 7)) [7]),(2,oP 9 (.fa 1 (.t 3)) []),(3,⟨none,.st 1 (.t 9) (.t
8),none,[],[8,9]⟩)] (sR [(0,oP 10 (.fa 2 (.t 1)) []),(1,oP 11 (.ld 1 false (.t 10)) [1,10]),(2,oP 12 (.fa 2 (.t 3)) []),(3,⟨none,.st 1 (.t 12) (.t 11),none,[],[11,12]⟩)] (sR [(0,oP 13 (.ld 3 true (.t 3))
[]),(1,⟨none,.st 3 (.t 2) (.t 13),none,[],[3,13]⟩)] .ret))))))
def C39 : CFn := ⟨14,1,[.m 2 3 true],B39⟩
abbrev B44 : CCode := (sR [(0,oP 2 (.box 3 (.t 0)) [0]),(1,oP 3 (.box 3 (.t 1)) [1]),(2,oP 4 (.mv (.c (.bool false))) [4])] (.seq (sR [(0,oP 5 (.fa 0 (.t 2)) []),(1,oP 6 (.ld 1 false (.t 5)) [5]),(2,oP 7 (.fa 0 (.t 3))
[]),(3,oP 8 (.ld 1 false (.t 7)) [7]),(4,oP 9 (.bin .neq (.t 6) (.t 8)) [6,8])] (.cond (.t 9) (sK [2,3,9] (sR [(0,oP 4 (.mv (.c (.bool false))) [])] .ret)) (sK [9] .skip))) (.seq (sR [(0,oP 10 (.fa 1 (.t 2)) []),(1,oP
11 (.ld 1 false (.t 10)) [10]),(2,oP 12 (.fa 1 (.t 3)) []),(3,oP 13 (.ld 1 false (.t 12)) [12]),(4,oP 14 (.bin .neq (.t 11) (.t 13)) [11,13])] (.cond (.t 14) (sK [2,3,14] (sR [(0,oP 4 (.mv (.c (.bool false))) [])]
.ret)) (sK [14] .skip))) (.seq (sR [(0,oP 15 (.fa 2 (.t 2)) []),(1,oP 16 (.ld 1 false (.t 15)) [2,15]),(2,oP 17 (.fa 2 (.t 3)) []),(3,oP 18 (.ld 1 false (.t 17)) [3,17]),(4,oP 19 (.bin .neq (.t 16) (.t 18)) [16,18])]
(.cond (.t 19) (sK [19] (sR [(0,oP 4 (.mv (.c (.bool false))) [])] .ret)) (sK [19] .skip))) (sR [(0,oP 4 (.mv (.c (.bool true))) [])] .ret)))))
def C44 : CFn := ⟨20,2,[.t 4],B44⟩
abbrev B46 : CCode := (sR [(0,oP 2 (.box 2 (.t 0)) [0]),(1,oP 4 (.mv (.c (.int .i64 0))) [4])] (sR [(0,oP 5 (.fa 1 (.t 2)) []),(1,oP 6 (.ld 1 false (.t 5)) [5]),(2,oT 7 1 [1]),(3,oP 8 (.call 47 [.t 6,.t 7])
[2,6,7]),(4,oT 1 8 [8])] (.seq (sR [(0,oT 9 1 []),(1,oP 10 (.bin .lss (.t 9) (.c (.int .i64 0))) [9])] (.cond (.t 10) (sK [1,10] (sR [(0,oP 4 (.mv (.c (.int .i64 (-1)))) [])] .ret)) (sK [10] .skip))) (sR [(0,oT 11 1
[1]),(1,oT 4 11 [11])] .ret))))
def C46 : CFn := ⟨12,2,[.t 4],B46⟩
abbrev B47 : CCode := (sR [(0,oP 4 (.mv (.c (.int .i64 0))) [4])] (sR [(0,oT 5 1 [1]),(1,oT 6 0 [0]),(2,oP 7 (.len (.t 6)) [6]),(3,oP 8 (.bin .sub (.t 5) (.t 7)) [5,7]),(4,oT 1 8 [8])] (.seq (sR [(0,oT 9 1 []),(1,oP 10
(.bin .lss (.t 9) (.c (.int .i64 0))) [9])] (.cond (.t 10) (sK [1,10] (sR [(0,oP 4 (.mv (.c (.int .i64 (-1)))) [])] .ret)) (sK [10] .skip))) (sR [(0,oT 11 1 [1]),(1,oT 4 11 [11])] .ret))))
def C47 : CFn := ⟨12,2,[.t 4],B47⟩
abbrev L48_0 : CCode := (.seq (sR [(0,oT 30 5 []),(1,oP 31 (.fa 1 (.t 3)) []),(2,oP 32 (.ld 1 false (.t 31)) [31]),(3,oP 33 (.len (.t 32)) [32]),(4,oP 34 (.bin .lss (.t 30) (.t 33)) [30,33])] (.cond (.t 34) (sK [34]
.skip) (sK [3,5,34] (.exit 0)))) (.seq (.block 1 (sR [(0,oP 37 (.fa 1 (.t 3)) []),(1,oP 38 (.ld 1 false (.t 37)) [37]),(2,oT 39 5 []),(3,oP 40 (.ia 1 (.t 38) (.t 39)) [38]),(4,oP 41 (.ld 1 false (.t 40)) [39,40]),(5,oP
42 (.call 67 [.t 41,(.c (.int .i64 0)),(.c (.int .i64 9))]) [41]),(6,oP 43 (.not (.t 42)) [42])] (.cond (.t 43) (sK [3,5,43] (sR [(0,oP 4 (.mv (.c (.bool false))) [])] .ret)) (sK [43] .skip)))) (.reg false [(0,oT 35 5
[5]),(1,oP 36 (.bin .add (.t 35) (.c (.int .i64 1))) [35]),(2,oT 5 36 [36])])))
abbrev B48 : CCode := (sR [(0,oP 3 (.box 2 (.t 1)) [1]),(1,oP 4 (.mv (.c (.bool false))) [4])] (.seq (.seq (.reg true [(0,oT 6 0 []),(1,oP 7 (.call 50 [.t 6]) [6]),(2,oP 8 (.not (.t 7)) [7]),(3,oT 9 8 [8]),(4,oG 10 (.fa
0 (.t 3)) 9 false []),(5,oG 11 (.ld 1 false (.t 10)) 9 false [10]),(6,oG 12 (.mv (.t 0)) 9 false []),(7,oG 13 (.len (.t 12)) 9 false [12]),(8,oG 14 (.bin .sub (.t 13) (.c (.int .i64 1))) 9 false [13]),(9,oG 15 (.call 67
[.t 11,(.c (.int .i64 0)),.t 14]) 9 false [11,14]),(10,oG 16 (.not (.t 15)) 9 false [15]),(11,oP 17 (.pick (.t 9) (.c (.bool true)) (.t 16)) [9,16]),(12,oT 18 17 [17]),(13,oG 19 (.fa 1 (.t 3)) 18 false []),(14,oG 20
(.ld 1 false (.t 19)) 18 false [19]),(15,oG 21 (.len (.t 20)) 18 false [20]),(16,oG 22 (.mv (.t 0)) 18 false [0]),(17,oG 23 (.fa 0 (.t 3)) 18 false []),(18,oG 24 (.ld 1 false (.t 23)) 18 false [23]),(19,oG 25 (.ia 3 (.t
22) (.t 24)) 18 false []),(20,oG 26 (.fa 1 (.t 25)) 18 false [25]),(21,oG 27 (.ld 1 false (.t 26)) 18 false [22,24,26]),(22,oG 28 (.bin .neq (.t 21) (.t 27)) 18 false [21,27]),(23,oP 29 (.pick (.t 18) (.c (.bool true))
(.t 28)) [18,28])]) (.cond (.t 29) (sK [3,29] (sR [(0,oP 4 (.mv (.c (.bool false))) [])] .ret)) (sK [29] .skip))) (.seq (sR [(0,oP 5 (.mv (.c (.int .i64 0))) [])] (.block 0 (.loop L48_0))) (sR [(0,oP 4 (.mv (.c (.bool
true))) [])] .ret))))
def C48 : CFn := ⟨44,2,[.t 4],B48⟩
abbrev B49 : CCode := (sR [(0,oP 2 (.box 2 (.t 0)) [0]),(1,oP 3 (.box 2 (.t 1)) [1]),(2,oP 4 (.mv (.c (.int .i64 0))) [4])] (.seq (sR [(0,oP 5 (.fa 0 (.t 2)) []),(1,oP 6 (.ld 1 false (.t 5)) [5]),(2,oP 7 (.fa 0 (.t 3))
[]),(3,oP 8 (.ld 1 false (.t 7)) [7]),(4,oP 9 (.bin .lss (.t 6) (.t 8)) [6,8])] (.cond (.t 9) (sK [2,3,9] (sR [(0,oP 4 (.mv (.c (.int .i64 (-1)))) [])] .ret)) (sK [9] .skip))) (.seq (sR [(0,oP 10 (.fa 0 (.t 2))
[]),(1,oP 11 (.ld 1 false (.t 10)) [10]),(2,oP 12 (.fa 0 (.t 3)) []),(3,oP 13 (.ld 1 false (.t 12)) [12]),(4,oP 14 (.bin .gtr (.t 11) (.t 13)) [11,13])] (.cond (.t 14) (sK [2,3,14] (sR [(0,oP 4 (.mv (.c (.int .i64 1)))
[])] .ret)) (sK [14] .skip))) (sR [(0,oP 15 (.fa 1 (.t 2)) []),(1,oP 16 (.ld 1 false (.t 15)) [15]),(2,oP 17 (.fa 1 (.t 3)) []),(3,oP 18 (.ld 1 false (.t 17)) [17]),(4,oP 19 (.call 82 [.t 16,.t 18]) [2,3,16,18]),(5,oT 4
19 [19])] .ret))))
def C49 : CFn := ⟨20,2,[.t 4],B49⟩
abbrev L50_0 : CCode := (.seq (sR [(0,oT 4 3 []),(1,oT 5 0 []),(2,oP 6 (.len (.t 5)) [5]),(3,oP 7 (.bin .lss (.t 4) (.t 6)) [4,6])] (.cond (.t 7) (sK [7] .skip) (sK [3,7] (.exit 0)))) (.seq (.block 1 (.seq (.reg true
[(0,oT 10 0 []),(1,oT 11 3 []),(2,oP 12 (.ia 3 (.t 10) (.t 11)) []),(3,oP 13 (.ld 3 true (.t 12)) [12]),(4,oP 14 (.call 83 [.t 13]) [10,11,13]),(5,oP 15 (.not (.t 14)) [14]),(6,oT 16 15 [15]),(7,oG 17 (.mv (.t 3)) 16
false []),(8,oG 18 (.bin .gtr (.t 17) (.c (.int .i64 0))) 16 false [17]),(9,oG 19 (.mv (.t 18)) 16 false [18]),(10,oG 20 (.mv (.t 0)) 19 true []),(11,oG 21 (.mv (.t 3)) 19 true []),(12,oG 22 (.bin .sub (.t 21) (.c (.int
.i64 1))) 19 true [21]),(13,oG 23 (.ia 3 (.t 20) (.t 22)) 19 true []),(14,oG 24 (.fa 0 (.t 23)) 19 true [23]),(15,oG 25 (.ld 1 false (.t 24)) 19 true [20,22,24]),(16,oG 26 (.mv (.t 0)) 19 true []),(17,oG 27 (.mv (.t 3))
19 true []),(18,oG 28 (.ia 3 (.t 26) (.t 27)) 19 true []),(19,oG 29 (.fa 0 (.t 28)) 19 true [28]),(20,oG 30 (.ld 1 false (.t 29)) 19 true [26,27,29]),(21,oG 31 (.bin .geq (.t 25) (.t 30)) 19 true [25,30]),(22,oG 32
(.pick (.t 19) (.t 31) (.c (.bool false))) 16 false [19,31]),(23,oP 33 (.pick (.t 16) (.c (.bool true)) (.t 32)) [16,32])]) (.cond (.t 33) (sK [0,3,33] (sR [(0,oP 2 (.mv (.c (.bool false))) [])] .ret)) (sK [33]
.skip)))) (.reg false [(0,oT 8 3 [3]),(1,oP 9 (.bin .add (.t 8) (.c (.int .i64 1))) [8]),(2,oT 3 9 [9])])))
abbrev B50 : CCode := (sR [(0,oP 2 (.mv (.c (.bool false))) [2])] (.seq (sR [(0,oP 3 (.mv (.c (.int .i64 0))) [])] (.block 0 (.loop L50_0))) (sR [(0,oT 34 0 [0]),(1,oP 35 (.len (.t 34)) [34]),(2,oP 36 (.bin .leq (.t 35)
(.c (.int .i64 4))) [35]),(3,oT 2 36 [36])] .ret)))
def C50 : CFn := ⟨37,1,[.t 2],B50⟩
abbrev L51_0 : CCode := (.seq (sR [(0,oT 6 5 []),(1,oT 7 1 []),(2,oP 8 (.len (.t 7)) [7]),(3,oP 9 (.bin .lss (.t 6) (.t 8)) [6,8])] (.cond (.t 9) (sK [9] .skip) (sK [1,2,5,9] (.exit 0)))) (.seq (.block 1 (.seq (.reg
true [(0,oT 12 1 []),(1,oT 13 5 []),(2,oP 14 (.ia 1 (.t 12) (.t 13)) []),(3,oP 15 (.ld 1 false (.t 14)) [12,13,14]),(4,oP 16 (.fa 1 (.t 2)) []),(5,oP 17 (.ld 1 false (.t 16)) [16]),(6,oP 18 (.len (.t 17)) [17]),(7,oP 19
(.bin .sub (.t 18) (.c (.int .i64 1))) [18]),(8,oP 20 (.call 67 [.t 15,(.c (.int .i64 0)),.t 19]) [15,19]),(9,oP 21 (.not (.t 20)) [20]),(10,oT 22 21 [21]),(11,oG 23 (.mv (.t 5)) 22 false []),(12,oG 24 (.bin .gtr (.t
23) (.c (.int .i64 0))) 22 false [23]),(13,oG 25 (.mv (.t 24)) 22 false [24]),(14,oG 26 (.mv (.t 1)) 25 true []),(15,oG 27 (.mv (.t 5)) 25 true []),(16,oG 28 (.ia 1 (.t 26) (.t 27)) 25 true []),(17,oG 29 (.ld 1 false
(.t 28)) 25 true [26,27,28]),(18,oG 30 (.mv (.t 1)) 25 true []),(19,oG 31 (.mv (.t 5)) 25 true []),(20,oG 32 (.bin .sub (.t 31) (.c (.int .i64 1))) 25 true [31]),(21,oG 33 (.ia 1 (.t 30) (.t 32)) 25 true []),(22,oG 34
(.ld 1 false (.t 33)) 25 true [30,32,33]),(23,oG 35 (.bin .leq (.t 29) (.t 34)) 25 true [29,34]),(24,oG 36 (.pick (.t 25) (.t 35) (.c (.bool false))) 22 false [25,35]),(25,oP 37 (.pick (.t 22) (.c (.bool true)) (.t 36))
[22,36])]) (.cond (.t 37) (sK [1,2,5,37] (sR [(0,oP 4 (.mv (.c (.bool false))) [])] .ret)) (sK [37] .skip)))) (.reg false [(0,oT 10 5 [5]),(1,oP 11 (.bin .add (.t 10) (.c (.int .i64 1))) [10]),(2,oT 5 11 [11])])))
abbrev B51 : CCode := (sR [(0,oP 2 (.box 2 (.t 0)) [0]),(1,oP 4 (.mv (.c (.bool false))) [4])] (.seq (sR [(0,oP 5 (.mv (.c (.int .i64 0))) [])] (.block 0 (.loop L51_0))) (sR [(0,oP 4 (.mv (.c (.bool true))) [])] .ret)))
def C51 : CFn := ⟨38,2,[.t 4],B51⟩
abbrev L52_0 : CCode := (.seq (sR [(0,oT 17 6 []),(1,oP 18 (.fa 1 (.t 3)) []),(2,oP 19 (.ld 1 false (.t 18)) [18]),(3,oP 20 (.len (.t 19)) [19]),(4,oP 21 (.bin .lss (.t 17) (.t 20)) [17,20])] (.cond (.t 21) (sK [21]
.skip) (sK [0,3,6,21] (.exit 0)))) (.seq (.block 1 (.seq (sR [(0,oT 24 6 []),(1,oT 25 0 []),(2,oP 26 (.fa 0 (.t 3)) []),(3,oP 27 (.ld 1 false (.t 26)) [26]),(4,oP 28 (.ia 3 (.t 25) (.t 27)) []),(5,oP 29 (.fa 2 (.t 28))
[28]),(6,oP 30 (.ld 1 false (.t 29)) [25,27,29]),(7,oP 31 (.bin .eql (.t 24) (.t 30)) [24,30])] (.cond (.t 31) (sK [31] (.reg false [(0,oT 32 5 [5]),(1,oP 33 (.bin .add (.t 32) (.c (.str [124]))) [32]),(2,oT 5 33
[33])])) (sK [31] .skip))) (.reg false [(0,oT 34 5 [5]),(1,oP 35 (.fa 1 (.t 3)) []),(2,oP 36 (.ld 1 false (.t 35)) [35]),(3,oT 37 6 []),(4,oP 38 (.ia 1 (.t 36) (.t 37)) [36]),(5,oP 39 (.ld 1 false (.t 38))
[37,38]),(6,oP 40 (.call 25 [.t 39]) [39]),(7,oP 41 (.bin .add (.t 34) (.t 40)) [34,40]),(8,oT 5 41 [41])]))) (.reg false [(0,oT 22 6 [6]),(1,oP 23 (.bin .add (.t 22) (.c (.int .i64 1))) [22]),(2,oT 6 23 [23])])))
abbrev B52 : CCode := (sR [(0,oP 3 (.box 2 (.t 1)) [1]),(1,oP 4 (.mv (.c (.str []))) [4])] (.seq (sR [(0,oT 7 0 []),(1,oP 8 (.ld 2 true (.t 3)) []),(2,oP 9 (.call 48 [.t 7,.t 8]) [7,8]),(3,oP 10 (.not (.t 9)) [9])]
(.cond (.t 10) (sK [0,3,10] (sR [(0,oP 4 (.mv (.c (.str []))) [])] .ret)) (sK [10] .skip))) (sR [(0,oT 11 0 []),(1,oP 12 (.fa 0 (.t 3)) []),(2,oP 13 (.ld 1 false (.t 12)) [12]),(3,oP 14 (.ia 3 (.t 11) (.t 13)) []),(4,oP
15 (.fa 0 (.t 14)) [14]),(5,oP 16 (.ld 1 false (.t 15)) [11,13,15]),(6,oT 5 16 [16])] (.seq (sR [(0,oP 6 (.mv (.c (.int .i64 0))) [])] (.block 0 (.loop L52_0))) (sR [(0,oT 42 5 [5]),(1,oT 4 42 [42])] .ret)))))
def C52 : CFn := ⟨43,2,[.t 4],B52⟩
abbrev B53 : CCode := (sR [(0,oP 1 (.box 2 (.t 0)) [0]),(1,oP 2 (.al [.int .i64 (0),.nils]) [])] (sR [(0,oP 3 (.al [.int .i64 (0),.nils]) [])] (sR [(0,oP 4 (.fa 0 (.t 1)) []),(1,oP 5 (.ld 1 false (.t 4)) [4]),(2,oP 6
(.fa 0 (.t 3)) []),(3,⟨none,.st 1 (.t 6) (.t 5),none,[],[5,6]⟩)] (sR [(0,oP 7 (.fa 1 (.t 1)) []),(1,oP 8 (.ld 1 false (.t 7)) [7]),(2,oP 9 (.call 54 [.t 8]) [1,8]),(3,oP 10 (.fa 1 (.t 3)) []),(4,⟨none,.st 1 (.t 10) (.t
9),none,[],[9,10]⟩)] (sR [(0,oP 11 (.ld 2 true (.t 3)) []),(1,⟨none,.st 2 (.t 2) (.t 11),none,[],[3,11]⟩)] .ret)))))
def C53 : CFn := ⟨12,1,[.m 2 2 true],B53⟩
abbrev L54_0 : CCode := (.seq (sR [(0,oT 8 4 []),(1,oT 9 0 []),(2,oP 10 (.len (.t 9)) [9]),(3,oP 11 (.bin .lss (.t 8) (.t 10)) [8,10])] (.cond (.t 11) (sK [11] .skip) (sK [0,4,11] (.exit 0)))) (.seq (.block 1 (.reg
false [(0,oT 14 3 []),(1,oT 15 4 []),(2,oT 16 0 []),(3,oT 17 4 []),(4,oP 18 (.ia 1 (.t 16) (.t 17)) []),(5,oP 19 (.ld 1 false (.t 18)) [16,17,18]),(6,oP 20 (.ia 1 (.t 14) (.t 15)) []),(7,⟨none,.st 1 (.t 20) (.t
19),none,[],[14,15,19,20]⟩)])) (.reg false [(0,oT 12 4 [4]),(1,oP 13 (.bin .add (.t 12) (.c (.int .i64 1))) [12]),(2,oT 4 13 [13])])))
abbrev B54 : CCode := (sR [(0,oP 2 (.mv (.c (.nils))) [2])] (sR [(0,oT 5 0 []),(1,oP 6 (.len (.t 5)) [5]),(2,oP 7 (.mk 1 8 [.int .i64 (0)] (.t 6) (.t 6)) [6]),(3,oT 3 7 [7])] (.seq (sR [(0,oP 4 (.mv (.c (.int .i64 0)))
[])] (.block 0 (.loop L54_0))) (sR [(0,oT 21 3 [3]),(1,oT 2 21 [21])] .ret))))
def C54 : CFn := ⟨22,1,[.t 2],B54⟩
abbrev L55_0 : CCode := (sR [(0,oP 8 (.bin .lss (.t 7) (.t 6)) [])] (.seq (.cond (.t 8) (sK [8] .skip) (sK [5,6,7,8] (.exit 0))) (.seq (.block 1 (sR [(0,oT 9 7 []),(1,oP 10 (.ia 3 (.t 5) (.t 7)) []),(2,oP 11 (.ld 3 true
(.t 10)) [10]),(3,oP 4 (.al [.str [],.int .i64 (0),.int .i64 (0)]) []),(4,oT 3 9 [9]),(5,⟨none,.st 3 (.t 4) (.t 11),none,[],[11]⟩)] (.seq (.reg true [(0,oP 12 (.ld 3 true (.t 4)) []),(1,oP 13 (.call 84 [.t 12])
[12]),(2,oP 14 (.not (.t 13)) [13]),(3,oT 15 14 [14]),(4,oG 16 (.mv (.t 3)) 15 false []),(5,oG 17 (.bin .gtr (.t 16) (.c (.int .i64 0))) 15 false [16]),(6,oG 18 (.mv (.t 17)) 15 false [17]),(7,oG 19 (.mv (.t 0)) 18 true
[]),(8,oG 20 (.mv (.t 3)) 18 true [3]),(9,oG 21 (.bin .sub (.t 20) (.c (.int .i64 1))) 18 true [20]),(10,oG 22 (.ia 3 (.t 19) (.t 21)) 18 true []),(11,oG 23 (.fa 0 (.t 22)) 18 true [22]),(12,oG 24 (.ld 1 false (.t 23))
18 true [19,21,23]),(13,oG 25 (.fa 0 (.t 4)) 18 true []),(14,oG 26 (.ld 1 false (.t 25)) 18 true [4,25]),(15,oG 27 (.bin .geq (.t 24) (.t 26)) 18 true [24,26]),(16,oG 28 (.pick (.t 18) (.t 27) (.c (.bool false))) 15
false [18,27]),(17,oP 29 (.pick (.t 15) (.c (.bool true)) (.t 28)) [15,28])]) (.cond (.t 29) (sK [0,5,6,7,29] (sR [(0,oP 2 (.mv (.c (.bool false))) [])] .ret)) (sK [29] .skip))))) (.reg false [(0,oP 30 (.bin .add (.t 7)
(.c (.int .i64 1))) [7]),(1,oT 7 30 [30])]))))
abbrev B55 : CCode := (sR [(0,oP 2 (.mv (.c (.bool false))) [2])] (.seq (sR [(0,oT 5 0 []),(1,oP 6 (.len (.t 5)) []),(2,oP 7 (.mv (.c (.int .i64 0))) [])] (.block 0 (.loop L55_0))) (sR [(0,oT 31 0 [0]),(1,oP 32 (.len
(.t 31)) [31]),(2,oP 33 (.bin .leq (.t 32) (.c (.int .i64 4))) [32]),(3,oT 2 33 [33])] .ret)))
def C55 : CFn := ⟨34,1,[.t 2],B55⟩
abbrev B56 : CCode := (sR [(0,oP 3 (.box 2 (.t 1)) [1]),(1,oP 4 (.mv (.c (.bool false))) [4])] (.seq (.reg true [(0,oP 5 (.fa 0 (.t 3)) []),(1,oP 6 (.ld 1 false (.t 5)) [5]),(2,oT 7 0 []),(3,oP 8 (.len (.t 7))
[7]),(4,oP 9 (.bin .sub (.t 8) (.c (.int .i64 1))) [8]),(5,oP 10 (.call 73 [.t 6,(.c (.int .i64 0)),.t 9]) [6,9]),(6,oT 11 10 [10]),(7,oG 12 (.fa 1 (.t 3)) 11 true []),(8,oG 13 (.ld 1 false (.t 12)) 11 true [12]),(9,oG
14 (.len (.t 13)) 11 true [13]),(10,oG 15 (.mv (.t 0)) 11 true [0]),(11,oG 16 (.fa 0 (.t 3)) 11 true []),(12,oG 17 (.ld 1 false (.t 16)) 11 true [16]),(13,oG 18 (.ia 3 (.t 15) (.t 17)) 11 true []),(14,oG 19 (.fa 1 (.t
18)) 11 true [18]),(15,oG 20 (.ld 1 false (.t 19)) 11 true [15,17,19]),(16,oG 21 (.bin .eql (.t 14) (.t 20)) 11 true [14,20]),(17,oP 22 (.pick (.t 11) (.t 21) (.c (.bool false))) [11,21]),(18,oT 23 22 [22]),(19,oG 24
(.fa 1 (.t 3)) 23 true []),(20,oG 25 (.ld 1 false (.t 24)) 23 true [24]),(21,oG 26 (.call 85 [.t 25]) 23 true [3,25]),(22,oP 27 (.pick (.t 23) (.t 26) (.c (.bool false))) [23,26]),(23,oT 4 27 [27])]) .ret))
def C56 : CFn := ⟨28,2,[.t 4],B56⟩
abbrev B57 : CCode := (sR [(0,oP 2 (.box 2 (.t 0)) [0]),(1,oP 3 (.box 2 (.t 1)) [1]),(2,oP 4 (.mv (.c (.int .i64 0))) [4])] (.seq (sR [(0,oP 5 (.fa 0 (.t 2)) []),(1,oP 6 (.ld 1 false (.t 5)) [5]),(2,oP 7 (.fa 0 (.t 3))
[]),(3,oP 8 (.ld 1 false (.t 7)) [7]),(4,oP 9 (.bin .neq (.t 6) (.t 8)) [6,8])] (.cond (.t 9) (sK [9] (sR [(0,oP 10 (.fa 0 (.t 2)) []),(1,oP 11 (.ld 1 false (.t 10)) [2,10]),(2,oP 12 (.fa 0 (.t 3)) []),(3,oP 13 (.ld 1
false (.t 12)) [3,12]),(4,oP 14 (.call 86 [.t 11,.t 13]) [11,13]),(5,oT 4 14 [14])] .ret)) (sK [9] .skip))) (sR [(0,oP 15 (.fa 1 (.t 2)) []),(1,oP 16 (.ld 1 false (.t 15)) [15]),(2,oP 17 (.fa 1 (.t 3)) []),(3,oP 18 (.ld
1 false (.t 17)) [17]),(4,oP 19 (.call 87 [.t 16,.t 18]) [2,3,16,18]),(5,oT 4 19 [19])] .ret)))
def C57 : CFn := ⟨20,2,[.t 4],B57⟩
abbrev L58_0 : CCode := (sR [(0,oP 30 (.bin .lss (.t 29) (.t 28)) [])] (.seq (.cond (.t 30) (sK [30] .skip) (sK [6,27,28,29,30] (.exit 0))) (.seq (.block 1 (sR [(0,oP 31 (.ia 1 (.t 27) (.t 29)) []),(1,oP 32 (.ld 1 false
(.t 31)) [31]),(2,oT 9 32 [32])] (.reg true [(0,oP 33 (.fa 1 (.t 7)) []),(1,oP 34 (.ld 1 false (.t 33)) [33]),(2,oP 35 (.fa 1 (.t 6)) []),(3,oP 36 (.ld 1 false (.t 35)) [35]),(4,oT 37 9 [9]),(5,oP 38 (.ia 2 (.t 36) (.t
37)) [36]),(6,oP 39 (.ld 2 true (.t 38)) [38]),(7,oP 40 (.bsl 2 1 [.int .i64 (0),.nils] [(0,2,(.t 39))]) [37,39]),(8,oP 41 (.app 2 32 (.t 34) (.t 40)) [34,40]),(9,oP 42 (.fa 1 (.t 7)) []),(10,⟨none,.st 1 (.t 42) (.t
41),none,[],[41,42]⟩)]))) (.reg false [(0,oP 43 (.bin .add (.t 29) (.c (.int .i64 1))) [29]),(1,oT 29 43 [43])]))))
abbrev B58 : CCode := (sR [(0,oP 2 (.box 2 (.t 0)) [0]),(1,oP 4 (.al [.nils,.nils]) []),(2,oP 5 (.mv (.c (.bool false))) [5])] (.seq (sR [(0,oP 10 (.ld 2 true (.t 2)) []),(1,oP 11 (.call 28 [.t 10]) [10]),(2,oP 12 (.not
(.t 11)) [11]),(3,oT 13 12 [12]),(4,oG 14 (.mv (.t 1)) 13 false []),(5,oG 15 (.fa 1 (.t 2)) 13 false []),(6,oG 16 (.ld 1 false (.t 15)) 13 false [15]),(7,oG 17 (.len (.t 16)) 13 false [16]),(8,oG 18 (.call 88 [.t 14,.t
17]) 13 false [14,17]),(9,oG 19 (.not (.t 18)) 13 false [18]),(10,oP 20 (.pick (.t 13) (.c (.bool true)) (.t 19)) [13,19])] (.cond (.t 20) (sK [1,2,20] (sR [(0,oP 21 (.bld [.nils,.nils] []) []),(1,⟨none,.st 2 (.t 4) (.t
21),none,[],[21]⟩),(2,oP 5 (.mv (.c (.bool false))) [])] .ret)) (sK [20] .skip))) (sR [(0,oP 22 (.ld 2 true (.t 2)) []),(1,oP 23 (.call 89 [.t 22]) [2,22]),(2,oP 6 (.al [.nils,.nils]) []),(3,⟨none,.st 2 (.t 6) (.t
23),none,[],[23]⟩)] (sR [(0,oP 24 (.fa 0 (.t 6)) []),(1,oP 25 (.ld 1 false (.t 24)) [24]),(2,oP 26 (.bld [.nils,.nils] [(0,1,(.t 25))]) [25]),(3,oP 7 (.al [.nils,.nils]) []),(4,⟨none,.st 2 (.t 7) (.t 26),none,[],[26]⟩)]
(.seq (sR [(0,oT 27 1 [1]),(1,oP 28 (.len (.t 27)) []),(2,oP 29 (.mv (.c (.int .i64 0))) [])] (.block 0 (.loop L58_0))) (sR [(0,oP 44 (.ld 2 true (.t 7)) []),(1,⟨none,.st 2 (.t 4) (.t 44),none,[],[7,44]⟩),(2,oP 5 (.mv
(.c (.bool true))) [])] .ret))))))
def C58 : CFn := ⟨45,2,[.m 4 2 true,.t 5],B58⟩
abbrev L59_0 : CCode := (sR [(0,oP 11 (.bin .lss (.t 10) (.t 9)) [])] (.seq (.cond (.t 11) (sK [11] .skip) (sK [1,8,9,10,11] (.exit 0))) (.seq (.block 1 (sR [(0,oP 12 (.ia 2 (.t 8) (.t 10)) []),(1,oP 13 (.ld 2 true (.t
12)) [12]),(2,oP 5 (.al [.int .i64 (0),.nils]) []),(3,⟨none,.st 2 (.t 5) (.t 13),none,[],[13]⟩)] (.reg false [(0,oT 14 3 [3]),(1,oP 15 (.fa 0 (.t 1)) []),(2,oP 16 (.ld 1 false (.t 15)) [15]),(3,oP 17 (.ld 2 true (.t 5))
[]),(4,oP 18 (.call 90 [.t 16,.t 17]) [5,16,17]),(5,oP 19 (.bsl 1 1 [.str []] [(0,1,(.t 18))]) [18]),(6,oP 20 (.app 1 16 (.t 14) (.t 19)) [14,19]),(7,oT 3 20 [20])]))) (.reg false [(0,oP 21 (.bin .add (.t 10) (.c (.int
.i64 1))) [10]),(1,oT 10 21 [21])]))))
abbrev B59 : CCode := (sR [(0,oP 1 (.box 2 (.t 0)) [0]),(1,oP 2 (.mv (.c (.str []))) [2])] (sR [(0,oP 6 (.bsl 1 0 [.str []] []) []),(1,oT 3 6 [6])] (.seq (sR [(0,oP 7 (.fa 1 (.t 1)) []),(1,oP 8 (.ld 1 false (.t 7))
[7]),(2,oP 9 (.len (.t 8)) []),(3,oP 10 (.mv (.c (.int .i64 0))) [])] (.block 0 (.loop L59_0))) (sR [(0,oT 22 3 [3]),(1,oP 23 (.call 31 [.t 22,(.c (.str [32]))]) [22]),(2,oT 2 23 [23])] .ret))))
def C59 : CFn := ⟨24,1,[.t 2],B59⟩
abbrev B64 : CCode := (sR [(0,oP 2 (.box 2 (.t 0)) [0]),(1,oP 3 (.box 2 (.t 1)) [1]),(2,oP 4 (.mv (.c (.bool false))) [4])] (.seq (sR [(0,oP 5 (.fa 0 (.t 2)) []),(1,oP 6 (.ld 1 false (.t 5)) [5]),(2,oP 7 (.fa 0 (.t 3))
[]),(3,oP 8 (.ld 1 false (.t 7)) [7]),(4,oP 9 (.bin .neq (.t 6) (.t 8)) [6,8])] (.cond (.t 9) (sK [2,3,9] (sR [(0,oP 4 (.mv (.c (.bool false))) [])] .ret)) (sK [9] .skip))) (.seq (sR [(0,oP 10 (.fa 1 (.t 2)) []),(1,oP
11 (.ld 1 false (.t 10)) [10]),(2,oP 12 (.fa 1 (.t 3)) []),(3,oP 13 (.ld 1 false (.t 12)) [12]),(4,oP 14 (.call 65 [.t 11,.t 13]) [2,3,11,13]),(5,oP 15 (.not (.t 14)) [14])] (.cond (.t 15) (sK [15] (sR [(0,oP 4 (.mv (.c
(.bool false))) [])] .ret)) (sK [15] .skip))) (sR [(0,oP 4 (.mv (.c (.bool true))) [])] .ret))))
def C64 : CFn := ⟨16,2,[.t 4],B64⟩
abbrev L65_0 : CCode := (.seq (sR [(0,oT 11 5 []),(1,oT 12 0 []),(2,oP 13 (.len (.t 12)) [12]),(3,oP 14 (.bin .lss (.t 11) (.t 13)) [11,13])] (.cond (.t 14) (sK [14] .skip) (sK [0,1,5,14] (.exit 0)))) (.seq (.block 1
(.seq (.reg true [(0,oT 17 0 []),(1,oT 18 5 []),(2,oP 19 (.ia 1 (.t 17) (.t 18)) []),(3,oP 20 (.ld 1 false (.t 19)) [17,18,19]),(4,oT 21 1 []),(5,oT 22 5 []),(6,oP 23 (.ia 1 (.t 21) (.t 22)) []),(7,oP 24 (.ld 1 false
(.t 23)) [21,22,23]),(8,oP 25 (.bin .neq (.t 20) (.t 24)) [20,24])]) (.cond (.t 25) (sK [0,1,5,25] (sR [(0,oP 4 (.mv (.c (.bool false))) [])] .ret)) (sK [25] .skip)))) (.reg false [(0,oT 15 5 [5]),(1,oP 16 (.bin .add
(.t 15) (.c (.int .i64 1))) [15]),(2,oT 5 16 [16])])))
abbrev B65 : CCode := (sR [(0,oP 4 (.mv (.c (.bool false))) [4])] (.seq (sR [(0,oT 6 0 []),(1,oP 7 (.len (.t 6)) [6]),(2,oT 8 1 []),(3,oP 9 (.len (.t 8)) [8]),(4,oP 10 (.bin .neq (.t 7) (.t 9)) [7,9])] (.cond (.t 10)
(sK [0,1,10] (sR [(0,oP 4 (.mv (.c (.bool false))) [])] .ret)) (sK [10] .skip))) (.seq (sR [(0,oP 5 (.mv (.c (.int .i64 0))) [])] (.block 0 (.loop L65_0))) (sR [(0,oP 4 (.mv (.c (.bool true))) [])] .ret))))
def C65 : CFn := ⟨26,2,[.t 4],B65⟩
abbrev B67 : CCode := (sR [(0,oP 6 (.mv (.c (.bool false))) [6])] (sR [(0,oT 7 0 []),(1,oT 8 1 [1]),(2,oP 9 (.bin .geq (.t 7) (.t 8)) [7,8]),(3,oT 10 9 [9]),(4,oG 11 (.mv (.t 0)) 10 true [0]),(5,oG 12 (.mv (.t 2)) 10
true [2]),(6,oG 13 (.bin .leq (.t 11) (.t 12)) 10 true [11,12]),(7,oP 14 (.pick (.t 10) (.t 13) (.c (.bool false))) [10,13]),(8,oT 6 14 [14])] .ret))
def C67 : CFn := ⟨15,3,[.t 6],B67⟩
abbrev B73 : CCode := (sR [(0,oP 6 (.mv (.c (.bool false))) [6])] (sR [(0,oT 7 1 [1]),(1,oT 8 0 []),(2,oP 9 (.bin .leq (.t 7) (.t 8)) [7,8]),(3,oT 10 9 [9]),(4,oG 11 (.mv (.t 0)) 10 true [0]),(5,oG 12 (.mv (.t 2)) 10
true [2]),(6,oG 13 (.bin .leq (.t 11) (.t 12)) 10 true [11,12]),(7,oP 14 (.pick (.t 10) (.t 13) (.c (.bool false))) [10,13]),(8,oT 6 14 [14])] .ret))
def C73 : CFn := ⟨15,3,[.t 6],B73⟩
abbrev B74 : CCode := (sR [(0,oP 4 (.mv (.c (.bool false))) [4])] (sR [(0,oT 5 0 [0]),(1,oT 6 1 [1]),(2,oP 7 (.call 96 [.t 5,.t 6]) [5,6]),(3,oP 8 (.bin .geq (.t 7) (.c (.int .i64 0))) [7]),(4,oT 4 8 [8])] .ret))
def C74 : CFn := ⟨9,2,[.t 4],B74⟩
abbrev B80 : CCode := (sR [(0,oP 4 (.mv (.c (.str []))) [4])] (sR [(0,oT 6 0 []),(1,oT 7 1 []),(2,oP 8 (.sls 1 (.t 6) none (some (.t 7)) none) [6,7]),(3,oP 9 (.call 31 [.t 8,(.c (.str []))]) [8]),(4,oT 5 9 [9])] (.seq
(sR [(0,oT 10 1 []),(1,oT 11 0 []),(2,oP 12 (.len (.t 11)) [11]),(3,oP 13 (.bin .lss (.t 10) (.t 12)) [10,12])] (.cond (.t 13) (sK [13] (.reg false [(0,oT 14 5 [5]),(1,oT 15 0 [0]),(2,oT 16 1 [1]),(3,oP 17 (.sls 1 (.t
15) (some (.t 16)) none none) [15,16]),(4,oP 18 (.call 31 [.t 17,(.c (.str []))]) [17]),(5,oP 19 (.bin .add (.c (.str [124])) (.t 18)) [18]),(6,oP 20 (.bin .add (.t 14) (.t 19)) [14,19]),(7,oT 5 20 [20])])) (sK [0,1,13]
.skip))) (sR [(0,oT 21 5 [5]),(1,oT 4 21 [21])] .ret))))
def C80 : CFn := ⟨22,2,[.t 4],B80⟩
abbrev L82_0 : CCode := (.seq (sR [(0,oT 6 5 []),(1,oT 7 0 []),(2,oP 8 (.len (.t 7)) [7]),(3,oP 9 (.bin .lss (.t 6) (.t 8)) [6,8]),(4,oT 10 9 [9]),(5,oG 11 (.mv (.t 5)) 10 true []),(6,oG 12 (.mv (.t 1)) 10 true
[]),(7,oG 13 (.len (.t 12)) 10 true [12]),(8,oG 14 (.bin .lss (.t 11) (.t 13)) 10 true [11,13]),(9,oP 15 (.pick (.t 10) (.t 14) (.c (.bool false))) [10,14])] (.cond (.t 15) (sK [15] .skip) (sK [5,15] (.exit 0)))) (.seq
(.block 1 (.seq (.seq (.reg true [(0,oT 18 0 []),(1,oT 19 5 []),(2,oP 20 (.ia 1 (.t 18) (.t 19)) []),(3,oP 21 (.ld 1 false (.t 20)) [18,19,20]),(4,oT 22 1 []),(5,oT 23 5 []),(6,oP 24 (.ia 1 (.t 22) (.t 23)) []),(7,oP 25
(.ld 1 false (.t 24)) [22,23,24]),(8,oP 26 (.bin .lss (.t 21) (.t 25)) [21,25])]) (.cond (.t 26) (sK [0,1,5,26] (sR [(0,oP 4 (.mv (.c (.int .i64 (-1)))) [])] .ret)) (sK [26] .skip))) (.seq (.reg true [(0,oT 27 0
[]),(1,oT 28 5 []),(2,oP 29 (.ia 1 (.t 27) (.t 28)) []),(3,oP 30 (.ld 1 false (.t 29)) [27,28,29]),(4,oT 31 1 []),(5,oT 32 5 []),(6,oP 33 (.ia 1 (.t 31) (.t 32)) []),(7,oP 34 (.ld 1 false (.t 33)) [31,32,33]),(8,oP 35
(.bin .gtr (.t 30) (.t 34)) [30,34])]) (.cond (.t 35) (sK [0,1,5,35] (sR [(0,oP 4 (.mv (.c (.int .i64 1))) [])] .ret)) (sK [35] .skip))))) (.reg false [(0,oT 16 5 [5]),(1,oP 17 (.bin .add (.t 16) (.c (.int .i64 1)))
[16]),(2,oT 5 17 [17])])))
abbrev B82 : CCode := (sR [(0,oP 4 (.mv (.c (.int .i64 0))) [4])] (.seq (sR [(0,oP 5 (.mv (.c (.int .i64 0))) [])] (.block 0 (.loop L82_0))) (.seq (sR [(0,oT 36 0 []),(1,oP 37 (.len (.t 36)) [36]),(2,oT 38 1 []),(3,oP
39 (.len (.t 38)) [38]),(4,oP 40 (.bin .lss (.t 37) (.t 39)) [37,39])] (.cond (.t 40) (sK [0,1,40] (sR [(0,oP 4 (.mv (.c (.int .i64 (-1)))) [])] .ret)) (sK [40] .skip))) (.seq (sR [(0,oT 41 0 [0]),(1,oP 42 (.len (.t
41)) [41]),(2,oT 43 1 [1]),(3,oP 44 (.len (.t 43)) [43]),(4,oP 45 (.bin .gtr (.t 42) (.t 44)) [42,44])] (.cond (.t 45) (sK [45] (sR [(0,oP 4 (.mv (.c (.int .i64 1))) [])] .ret)) (sK [45] .skip))) (sR [(0,oP 4 (.mv (.c
(.int .i64 0))) [])] .ret)))))
def C82 : CFn := ⟨46,2,[.t 4],B82⟩
abbrev B83 : CCode := (sR [(0,oP 1 (.box 3 (.t 0)) [0]),(1,oP 2 (.mv (.c (.bool false))) [2])] (sR [(0,oP 3 (.fa 0 (.t 1)) []),(1,oP 4 (.ld 1 false (.t 3)) [3]),(2,oP 5 (.lens (.t 4)) [4]),(3,oP 6 (.bin .eql (.t 5) (.c
(.int .i64 1))) [5]),(4,oT 7 6 [6]),(5,oG 8 (.fa 0 (.t 1)) 7 true []),(6,oG 9 (.ld 1 false (.t 8)) 7 true [8]),(7,oG 10 (.ix (.t 9) (.c (.int .i64 0))) 7 true [9]),(8,oG 11 (.bin .geq (.t 10) (.c (.int .u8 (97)))) 7
true [10]),(9,oP 12 (.pick (.t 7) (.t 11) (.c (.bool false))) [7,11]),(10,oT 13 12 [12]),(11,oG 14 (.fa 0 (.t 1)) 13 true []),(12,oG 15 (.ld 1 false (.t 14)) 13 true [14]),(13,oG 16 (.ix (.t 15) (.c (.int .i64 0))) 13
true [15]),(14,oG 17 (.bin .leq (.t 16) (.c (.int .u8 (122)))) 13 true [16]),(15,oP 18 (.pick (.t 13) (.t 17) (.c (.bool false))) [13,17]),(16,oT 19 18 [18]),(17,oG 20 (.fa 1 (.t 1)) 19 true []),(18,oG 21 (.ld 1 false
(.t 20)) 19 true [20]),(19,oG 22 (.call 67 [.t 21,(.c (.int .i64 1)),(.c (.int .i64 3))]) 19 true [21]),(20,oP 23 (.pick (.t 19) (.t 22) (.c (.bool false))) [19,22]),(21,oT 24 23 [23]),(22,oG 25 (.fa 2 (.t 1)) 24 true
[]),(23,oG 26 (.ld 1 false (.t 25)) 24 true [25]),(24,oG 27 (.fa 1 (.t 1)) 24 true []),(25,oG 28 (.ld 1 false (.t 27)) 24 true [1,27]),(26,oG 29 (.call 67 [.t 26,(.c (.int .i64 0)),.t 28]) 24 true [26,28]),(27,oP 30
(.pick (.t 24) (.t 29) (.c (.bool false))) [24,29]),(28,oT 2 30 [30])] .ret))
def C83 : CFn := ⟨31,1,[.t 2],B83⟩
abbrev B84 : CCode := (sR [(0,oP 1 (.box 3 (.t 0)) [0]),(1,oP 2 (.mv (.c (.bool false))) [2])] (sR [(0,oP 3 (.fa 0 (.t 1)) []),(1,oP 4 (.ld 1 false (.t 3)) [3]),(2,oP 5 (.lens (.t 4)) [4]),(3,oP 6 (.bin .eql (.t 5) (.c
(.int .i64 1))) [5]),(4,oT 7 6 [6]),(5,oG 8 (.fa 0 (.t 1)) 7 true []),(6,oG 9 (.ld 1 false (.t 8)) 7 true [8]),(7,oG 10 (.ix (.t 9) (.c (.int .i64 0))) 7 true [9]),(8,oG 11 (.bin .geq (.t 10) (.c (.int .u8 (97)))) 7
true [10]),(9,oP 12 (.pick (.t 7) (.t 11) (.c (.bool false))) [7,11]),(10,oT 13 12 [12]),(11,oG 14 (.fa 0 (.t 1)) 13 true []),(12,oG 15 (.ld 1 false (.t 14)) 13 true [14]),(13,oG 16 (.ix (.t 15) (.c (.int .i64 0))) 13
true [15]),(14,oG 17 (.bin .leq (.t 16) (.c (.int .u8 (122)))) 13 true [16]),(15,oP 18 (.pick (.t 13) (.t 17) (.c (.bool false))) [13,17]),(16,oT 19 18 [18]),(17,oG 20 (.fa 1 (.t 1)) 19 true []),(18,oG 21 (.ld 1 false
(.t 20)) 19 true [20]),(19,oG 22 (.call 73 [.t 21,(.c (.int .i64 1)),(.c (.int .i64 3))]) 19 true [21]),(20,oP 23 (.pick (.t 19) (.t 22) (.c (.bool false))) [19,22]),(21,oT 24 23 [23]),(22,oG 25 (.fa 2 (.t 1)) 24 true
[]),(23,oG 26 (.ld 1 false (.t 25)) 24 true [25]),(24,oG 27 (.fa 1 (.t 1)) 24 true []),(25,oG 28 (.ld 1 false (.t 27)) 24 true [1,27]),(26,oG 29 (.call 73 [.t 26,(.c (.int .i64 0)),.t 28]) 24 true [26,28]),(27,oP 30
(.pick (.t 24) (.t 29) (.c (.bool false))) [24,29]),(28,oT 2 30 [30])] .ret))
def C84 : CFn := ⟨31,1,[.t 2],B84⟩
abbrev B85 : CCode := (sR [(0,oP 2 (.mv (.c (.bool false))) [2])] (sR [(0,oT 3 0 [0]),(1,oP 4 (.call 74 [.t 3,(.c (.fn 101 []))]) [3]),(2,oP 5 (.not (.t 4)) [4]),(3,oT 2 5 [5])] .ret))
def C85 : CFn := ⟨6,1,[.t 2],B85⟩
abbrev B86 : CCode := (sR [(0,oP 4 (.mv (.c (.int .i64 0))) [4])] (.seq (.block 0 (sR [(0,oT 6 0 []),(1,oT 7 1 []),(2,oP 8 (.bin .lss (.t 6) (.t 7)) [6,7]),(3,oT 5 8 [8])] (.cond (.t 5) (sK [0,1,5] (sR [(0,oP 4 (.mv (.c
(.int .i64 (-1)))) [])] .ret)) (sK [5] (sR [(0,oT 10 0 [0]),(1,oT 11 1 [1]),(2,oP 12 (.bin .gtr (.t 10) (.t 11)) [10,11]),(3,oT 9 12 [12])] (.cond (.t 9) (sK [9] (sR [(0,oP 4 (.mv (.c (.int .i64 1))) [])] .ret)) (sK [9]
.skip))))))) (sR [(0,oP 4 (.mv (.c (.int .i64 0))) [])] .ret)))
def C86 : CFn := ⟨13,2,[.t 4],B86⟩
abbrev L87_0 : CCode := (sR [(0,oP 12 (.bin .lss (.t 11) (.t 10)) [])] (.seq (.cond (.t 12) (sK [12] .skip) (sK [9,10,11,12] (.exit 0))) (.seq (.block 1 (sR [(0,oT 13 11 []),(1,oP 14 (.ia 1 (.t 9) (.t 11)) []),(2,oP 15
(.ld 1 false (.t 14)) [14]),(3,oT 5 13 [13]),(4,oT 6 15 [15])] (.seq (sR [(0,oT 16 5 []),(1,oT 17 1 []),(2,oP 18 (.len (.t 17)) [17]),(3,oP 19 (.bin .geq (.t 16) (.t 18)) [16,18])] (.cond (.t 19) (sK
[0,1,5,6,9,10,11,19] (sR [(0,oP 4 (.mv (.c (.int .i64 1))) [])] .ret)) (sK [19] .skip))) (sR [(0,oT 20 1 []),(1,oT 21 5 [5]),(2,oP 22 (.ia 1 (.t 20) (.t 21)) []),(3,oP 23 (.ld 1 false (.t 22)) [20,21,22]),(4,oT 7 23
[23])] (sR [(0,oT 24 6 [6]),(1,oT 25 7 [7]),(2,oP 26 (.call 102 [.t 24,.t 25]) [24,25]),(3,oT 8 26 [26])] (sR [(0,oT 27 8 []),(1,oP 28 (.bin .neq (.t 27) (.c (.int .i64 0))) [27])] (.cond (.t 28) (sK [0,1,9,10,11,28]
(sR [(0,oT 29 8 [8]),(1,oT 4 29 [29])] .ret)) (sK [8,28] .skip)))))))) (.reg false [(0,oP 30 (.bin .add (.t 11) (.c (.int .i64 1))) [11]),(1,oT 11 30 [30])]))))
abbrev B87 : CCode := (sR [(0,oP 4 (.mv (.c (.int .i64 0))) [4])] (.seq (sR [(0,oT 9 0 []),(1,oP 10 (.len (.t 9)) []),(2,oP 11 (.mv (.c (.int .i64 0))) [])] (.block 0 (.loop L87_0))) (.seq (sR [(0,oT 31 0 [0]),(1,oP 32
(.len (.t 31)) [31]),(2,oT 33 1 [1]),(3,oP 34 (.len (.t 33)) [33]),(4,oP 35 (.bin .lss (.t 32) (.t 34)) [32,34])] (.cond (.t 35) (sK [35] (sR [(0,oP 4 (.mv (.c (.int .i64 (-1)))) [])] .ret)) (sK [35] .skip))) (sR [(0,oP
4 (.mv (.c (.int .i64 0))) [])] .ret))))
def C87 : CFn := ⟨36,2,[.t 4],B87⟩
abbrev L88_0 : CCode := (sR [(0,oP 10 (.bin .lss (.t 9) (.t 8)) [])] (.seq (.cond (.t 10) (sK [10] .skip) (sK [0,1,7,8,9,10] (.exit 0))) (.seq (.block 1 (sR [(0,oT 11 9 []),(1,oP 12 (.ia 1 (.t 7) (.t 9)) []),(2,oP 13
(.ld 1 false (.t 12)) [12]),(3,oT 5 11 [11]),(4,oT 6 13 [13])] (sR [(0,oT 14 6 []),(1,oT 15 1 []),(2,oP 16 (.bin .sub (.t 15) (.c (.int .i64 1))) [15]),(3,oP 17 (.call 73 [.t 14,(.c (.int .i64 0)),.t 16]) [14,16]),(4,oP
18 (.not (.t 17)) [17]),(5,oT 19 18 [18]),(6,oG 20 (.mv (.t 5)) 19 false []),(7,oG 21 (.bin .gtr (.t 20) (.c (.int .i64 0))) 19 false [20]),(8,oG 22 (.mv (.t 21)) 19 false [21]),(9,oG 23 (.mv (.t 0)) 22 true []),(10,oG
24 (.mv (.t 5)) 22 true [5]),(11,oG 25 (.bin .sub (.t 24) (.c (.int .i64 1))) 22 true [24]),(12,oG 26 (.ia 1 (.t 23) (.t 25)) 22 true []),(13,oG 27 (.ld 1 false (.t 26)) 22 true [23,25,26]),(14,oG 28 (.mv (.t 6)) 22
true [6]),(15,oG 29 (.bin .geq (.t 27) (.t 28)) 22 true [27,28]),(16,oG 30 (.pick (.t 22) (.t 29) (.c (.bool false))) 19 false [22,29]),(17,oP 31 (.pick (.t 19) (.c (.bool true)) (.t 30)) [19,30])] (.cond (.t 31) (sK
[0,1,7,8,9,31] (sR [(0,oP 4 (.mv (.c (.bool false))) [])] .ret)) (sK [31] .skip))))) (.reg false [(0,oP 32 (.bin .add (.t 9) (.c (.int .i64 1))) [9]),(1,oT 9 32 [32])]))))
abbrev B88 : CCode := (sR [(0,oP 4 (.mv (.c (.bool false))) [4])] (.seq (sR [(0,oT 7 0 []),(1,oP 8 (.len (.t 7)) []),(2,oP 9 (.mv (.c (.int .i64 0))) [])] (.block 0 (.loop L88_0))) (sR [(0,oP 4 (.mv (.c (.bool true)))
[])] .ret)))
def C88 : CFn := ⟨33,2,[.t 4],B88⟩
abbrev L89_0 : CCode := (sR [(0,oP 16 (.bin .lss (.t 15) (.t 14)) [])] (.seq (.cond (.t 16) (sK [16] .skip) (sK [1,13,14,15,16] (.exit 0))) (.seq (.block 1 (sR [(0,oP 17 (.ia 2 (.t 13) (.t 15)) []),(1,oP 18 (.ld 2 true
(.t 17)) [17]),(2,oP 5 (.al [.int .i64 (0),.nils]) []),(3,⟨none,.st 2 (.t 5) (.t 18),none,[],[18]⟩)] (.reg true [(0,oP 19 (.fa 1 (.t 3)) []),(1,oP 20 (.ld 1 false (.t 19)) []),(2,oP 21 (.fa 0 (.t 5)) []),(3,oP 22 (.ld 1
false (.t 21)) []),(4,oP 23 (.bsl 1 0 [.int .i64 (0)] []) []),(5,oP 24 (.fa 1 (.t 5)) []),(6,oP 25 (.ld 1 false (.t 24)) [24]),(7,⟨some 26,.app 1 8 (.t 23) (.t 25),none,[(19,1),(21,1)],[5,19,21,23,25]⟩),(8,oP 27 (.bld
[.int .i64 (0),.nils] [(0,1,(.t 22)),(1,1,(.t 26))]) [22,26]),(9,oP 28 (.bsl 2 1 [.int .i64 (0),.nils] [(0,2,(.t 27))]) [27]),(10,oP 29 (.app 2 32 (.t 20) (.t 28)) [20,28]),(11,oP 30 (.fa 1 (.t 3)) []),(12,⟨none,.st 1
(.t 30) (.t 29),none,[],[29,30]⟩)]))) (.reg false [(0,oP 31 (.bin .add (.t 15) (.c (.int .i64 1))) [15]),(1,oT 15 31 [31])]))))
abbrev B89 : CCode := (sR [(0,oP 1 (.box 2 (.t 0)) [0]),(1,oP 2 (.al [.nils,.nils]) [])] (sR [(0,oP 6 (.bsl 3 0 [.str [],.int .i64 (0),.int .i64 (0)] []) []),(1,oP 7 (.fa 0 (.t 1)) []),(2,oP 8 (.ld 1 false (.t 7))
[7]),(3,oP 9 (.app 3 32 (.t 6) (.t 8)) [6,8]),(4,oP 10 (.bsl 2 0 [.int .i64 (0),.nils] []) []),(5,oP 11 (.bld [.nils,.nils] [(0,1,(.t 9)),(1,1,(.t 10))]) [9,10]),(6,oP 3 (.al [.nils,.nils]) []),(7,⟨none,.st 2 (.t 3) (.t
11),none,[],[11]⟩)] (.seq (sR [(0,oP 12 (.fa 1 (.t 1)) []),(1,oP 13 (.ld 1 false (.t 12)) [12]),(2,oP 14 (.len (.t 13)) []),(3,oP 15 (.mv (.c (.int .i64 0))) [])] (.block 0 (.loop L89_0))) (sR [(0,oP 32 (.ld 2 true (.t
3)) []),(1,⟨none,.st 2 (.t 2) (.t 32),none,[],[3,32]⟩)] .ret))))
def C89 : CFn := ⟨33,1,[.m 2 2 true],B89⟩
abbrev L90_0 : CCode := (sR [(0,oP 18 (.bin .lss (.t 17) (.t 16)) [])] (.seq (.cond (.t 18) (sK [18] .skip) (sK [15,16,17,18] (.exit 0))) (.seq (.block 1 (sR [(0,oP 19 (.ia 1 (.t 15) (.t 17)) []),(1,oP 20 (.ld 1 false
(.t 19)) [19]),(2,oT 7 20 [20])] (.reg false [(0,oT 21 5 [5]),(1,oT 22 7 [7]),(2,oP 23 (.call 30 [.t 22]) [22]),(3,oP 24 (.bsl 1 1 [.str []] [(0,1,(.t 23))]) [23]),(4,oP 25 (.app 1 16 (.t 21) (.t 24)) [21,24]),(5,oT 5
25 [25])]))) (.reg false [(0,oP 26 (.bin .add (.t 17) (.c (.int .i64 1))) [17]),(1,oT 17 26 [26])]))))
abbrev B90 : CCode := (sR [(0,oP 3 (.box 2 (.t 1)) [1]),(1,oP 4 (.mv (.c (.str []))) [4])] (.seq (sR [(0,oT 9 0 []),(1,oP 10 (.ld 2 true (.t 3)) []),(2,oP 11 (.call 103 [.t 9,.t 10]) [9,10]),(3,oP 12 (.not (.t 11))
[11])] (.cond (.t 12) (sK [0,3,12] (sR [(0,oP 4 (.mv (.c (.str []))) [])] .ret)) (sK [12] .skip))) (sR [(0,oP 13 (.bsl 1 0 [.str []] []) []),(1,oT 5 13 [13])] (.seq (sR [(0,oP 14 (.fa 1 (.t 3)) []),(1,oP 15 (.ld 1 false
(.t 14)) [14]),(2,oP 16 (.len (.t 15)) []),(3,oP 17 (.mv (.c (.int .i64 0))) [])] (.block 0 (.loop L90_0))) (sR [(0,oT 27 0 [0]),(1,oP 28 (.fa 0 (.t 3)) []),(2,oP 29 (.ld 1 false (.t 28)) [3,28]),(3,oP 30 (.ia 3 (.t 27)
(.t 29)) []),(4,oP 31 (.ld 3 true (.t 30)) [30]),(5,oP 8 (.al [.str [],.int .i64 (0),.int .i64 (0)]) []),(6,⟨none,.st 3 (.t 8) (.t 31),none,[],[27,29,31]⟩)] (.seq (.reg true [(0,oP 32 (.fa 0 (.t 8)) []),(1,oP 33 (.ld 1
false (.t 32)) []),(2,oT 34 5 [5]),(3,oP 35 (.fa 2 (.t 8)) []),(4,oP 36 (.ld 1 false (.t 35)) [35]),(5,⟨some 37,.call 80 [.t 34,.t 36],none,[(32,1)],[8,32,34,36]⟩),(6,oP 38 (.bin .add (.t 33) (.t 37)) [33,37]),(7,oT 4
38 [38])]) .ret))))))
def C90 : CFn := ⟨39,2,[.t 4],B90⟩
abbrev L96_0 : CCode := (sR [(0,oP 9 (.bin .lss (.t 8) (.t 7)) [])] (.seq (.cond (.t 9) (sK [9] .skip) (sK [0,1,7,8,9] (.exit 0))) (.seq (.block 1 (sR [(0,oT 10 8 []),(1,oT 5 10 [10])] (sR [(0,oT 11 1 []),(1,oT 12 0
[]),(2,oT 13 5 []),(3,oP 14 (.ia 1 (.t 12) (.t 13)) []),(4,oP 15 (.ld 1 false (.t 14)) [12,13,14]),(5,oP 16 (.callv (.t 11) [.t 15]) [11,15])] (.cond (.t 16) (sK [0,1,7,8,16] (sR [(0,oT 17 5 [5]),(1,oT 4 17 [17])]
.ret)) (sK [5,16] .skip))))) (.reg false [(0,oP 18 (.bin .add (.t 8) (.c (.int .i64 1))) [8]),(1,oT 8 18 [18])]))))
abbrev B96 : CCode := (sR [(0,oP 4 (.mv (.c (.int .i64 0))) [4])] (.seq (sR [(0,oT 6 0 []),(1,oP 7 (.len (.t 6)) [6]),(2,oP 8 (.mv (.c (.int .i64 0))) [])] (.block 0 (.loop L96_0))) (sR [(0,oP 4 (.mv (.c (.int .i64
(-1)))) [])] .ret)))
def C96 : CFn := ⟨19,2,[.t 4],B96⟩
abbrev B101 : CCode := (sR [(0,oP 2 (.mv (.c (.bool false))) [2])] (sR [(0,oT 3 0 [0]),(1,oP 4 (.call 73 [.t 3,(.c (.int .i64 0)),(.c (.int .i64 9))]) [3]),(2,oP 5 (.not (.t 4)) [4]),(3,oT 2 5 [5])] .ret))
def C101 : CFn := ⟨6,1,[.t 2],B101⟩
abbrev B102 : CCode := (sR [(0,oP 4 (.mv (.c (.int .i64 0))) [4])] (sR [(0,oT 7 0 []),(1,oP 8 (.call 111 [.t 7]) [7]),(2,oT 5 8 [8])] (sR [(0,oT 9 1 []),(1,oP 10 (.call 111 [.t 9]) [9]),(2,oT 6 10 [10])] (.seq (sR
[(0,oT 11 5 [5])] (.cond (.t 11) (sK [0,1,11] (.seq (sR [(0,oT 12 6 [6])] (.cond (.t 12) (sK [12] (sR [(0,oP 4 (.mv (.c (.int .i64 0))) [])] .ret)) (sK [12] .skip))) (sR [(0,oP 4 (.mv (.c (.int .i64 (-1)))) [])] .ret)))
(sK [11] .skip))) (.seq (sR [(0,oT 13 6 [6])] (.cond (.t 13) (sK [0,1,13] (sR [(0,oP 4 (.mv (.c (.int .i64 1))) [])] .ret)) (sK [13] .skip))) (.seq (sR [(0,oT 14 0 []),(1,oT 15 1 []),(2,oP 16 (.bin .lss (.t 14) (.t 15))
[14,15])] (.cond (.t 16) (sK [0,1,16] (sR [(0,oP 4 (.mv (.c (.int .i64 (-1)))) [])] .ret)) (sK [16] .skip))) (.seq (sR [(0,oT 17 0 [0]),(1,oT 18 1 [1]),(2,oP 19 (.bin .gtr (.t 17) (.t 18)) [17,18])] (.cond (.t 19) (sK
[19] (sR [(0,oP 4 (.mv (.c (.int .i64 1))) [])] .ret)) (sK [19] .skip))) (sR [(0,oP 4 (.mv (.c (.int .i64 0))) [])] .ret))))))))
def C102 : CFn := ⟨20,2,[.t 4],B102⟩
abbrev B103 : CCode := (sR [(0,oP 3 (.box 2 (.t 1)) [1]),(1,oP 4 (.mv (.c (.bool false))) [4])] (sR [(0,oT 5 0 []),(1,oP 6 (.call 55 [.t 5]) [5]),(2,oT 7 6 [6]),(3,oG 8 (.mv (.t 0)) 7 true [0]),(4,oG 9 (.ld 2 true (.t
3)) 7 true []),(5,oG 10 (.call 56 [.t 8,.t 9]) 7 true [3,8,9]),(6,oP 11 (.pick (.t 7) (.t 10) (.c (.bool false))) [7,10]),(7,oT 4 11 [11])] .ret))
def C103 : CFn := ⟨12,2,[.t 4],B103⟩
abbrev B111 : CCode := (sR [(0,oP 2 (.mv (.c (.bool false))) [2])] (sR [(0,oT 3 0 []),(1,oT 4 0 [0]),(2,oP 5 (.bin .neq (.t 3) (.t 4)) [3,4]),(3,oT 2 5 [5])] .ret))
def C111 : CFn := ⟨6,1,[.t 2],B111⟩
theorem chk3 : chkFn Go.Proofs.Tryd.prog 3 C3 = true := by kernel_rfl
theorem chk5 : chkFn Go.Proofs.Tryd.prog 5 C5 = true := by kernel_rfl
theorem chk6 : chkFn Go.Proofs.Tryd.prog 6 C6 = true := by kernel_rfl
theorem chk7 : chkFn Go.Proofs.Tryd.prog 7 C7 = true := by kernel_rfl
theorem chk8 : chkFn Go.Proofs.Tryd.prog 8 C8 = true := by kernel_rfl
theorem chk9 : chkFn Go.Proofs.Tryd.prog 9 C9 = true := by kernel_rfl
theorem chk10 : chkFn Go.Proofs.Tryd.prog 10 C10 = true := by kernel_rfl
theorem chk11 : chkFn Go.Proofs.Tryd.prog 11 C11 = true := by kernel_rfl
theorem chk12 : chkFn Go.Proofs.Tryd.prog 12 C12 = true := by kernel_rfl
theorem chk13 : chkFn Go.Proofs.Tryd.prog 13 C13 = true := by kernel_rfl
theorem chk16 : chkFn Go.Proofs.Tryd.prog 16 C16 = true := by kernel_rfl
theorem chk19 : chkFn Go.Proofs.Tryd.prog 19 C19 = true := by kernel_rfl
theorem chk21 : chkFn Go.Proofs.Tryd.prog 21 C21 = true := by kernel_rfl
theorem chk22 : chkFn Go.Proofs.Tryd.prog 22 C22 = true := by kernel_rfl
theorem chk23 : chkFn Go.Proofs.Tryd.prog 23 C23 = true := by kernel_rfl
theorem chk24 : chkFn Go.Proofs.Tryd.prog 24 C24 = true := by kernel_rfl
theorem chk25 : chkFn Go.Proofs.Tryd.prog 25 C25 = true := by kernel_rfl
theorem chk26 : chkFn Go.Proofs.Tryd.prog 26 C26 = true := by kernel_rfl
theorem chk27 : chkFn Go.Proofs.Tryd.prog 27 C27 = true := by kernel_rfl
theorem chk28 : chkFn Go.Proofs.Tryd.prog 28 C28 = true := by kernel_rfl
theorem chk29 : chkFn Go.Proofs.Tryd.prog 29 C29 = true := by kernel_rfl
theorem chk30 : chkFn Go.Proofs.Tryd.prog 30 C30 = true := by kernel_rfl
theorem chk32 : chkFn Go.Proofs.Tryd.prog 32 C32 = true := by kernel_rfl
theorem chk33 : chkFn Go.Proofs.Tryd.prog 33 C33 = true := by kernel_rfl
theorem chk34 : chkFn Go.Proofs.Tryd.prog 34 C34 = true := by kernel_rfl
theorem chk39 : chkFn Go.Proofs.Tryd.prog 39 C39 = true := by kernel_rfl
theorem chk44 : chkFn Go.Proofs.Tryd.prog 44 C44 = true := by kernel_rfl
theorem chk46 : chkFn Go.Proofs.Tryd.prog 46 C46 = true := by kernel_rfl
theorem chk47 : chkFn Go.Proofs.Tryd.prog 47 C47 = true := by kernel_rfl
theorem chk48 : chkFn Go.Proofs.Tryd.prog 48 C48 = true := by kernel_rfl
theorem chk49 : chkFn Go.Proofs.Tryd.prog 49 C49 = true := by kernel_rfl
theorem chk50 : chkFn Go.Proofs.Tryd.prog 50 C50 = true := by kernel_rfl
theorem chk51 : chkFn Go.Proofs.Tryd.prog 51 C51 = true := by kernel_rfl
theorem chk52 : chkFn Go.Proofs.Tryd.prog 52 C52 = true := by kernel_rfl
theorem chk53 : chkFn Go.Proofs.Tryd.prog 53 C53 = true := by kernel_rfl
theorem chk54 : chkFn Go.Proofs.Tryd.prog 54 C54 = true := by kernel_rfl
theorem chk55 : chkFn Go.Proofs.Tryd.prog 55 C55 = true := by kernel_rfl
theorem chk56 : chkFn Go.Proofs.Tryd.prog 56 C56 = true := by kernel_rfl
theorem chk57 : chkFn Go.Proofs.Tryd.prog 57 C57 = true := by kernel_rfl
theorem chk58 : chkFn Go.Proofs.Tryd.prog 58 C58 = true := by kernel_rfl
theorem chk59 : chkFn Go.Proofs.Tryd.prog 59 C59 = true := by kernel_rfl
theorem chk64 : chkFn Go.Proofs.Tryd.prog 64 C64 = true := by kernel_rfl
theorem chk65 : chkFn Go.Proofs.Tryd.prog 65 C65 = true := by kernel_rfl
theorem chk67 : chkFn Go.Proofs.Tryd.prog 67 C67 = true := by kernel_rfl
theorem chk73 : chkFn Go.Proofs.Tryd.prog 73 C73 = true := by kernel_rfl
theorem chk74 : chkFn Go.Proofs.Tryd.prog 74 C74 = true := by kernel_rfl
theorem chk80 : chkFn Go.Proofs.Tryd.prog 80 C80 = true := by kernel_rfl
theorem chk82 : chkFn Go.Proofs.Tryd.prog 82 C82 = true := by kernel_rfl
theorem chk83 : chkFn Go.Proofs.Tryd.prog 83 C83 = true := by kernel_rfl
theorem chk84 : chkFn Go.Proofs.Tryd.prog 84 C84 = true := by kernel_rfl
theorem chk85 : chkFn Go.Proofs.Tryd.prog 85 C85 = true := by kernel_rfl
theorem chk86 : chkFn Go.Proofs.Tryd.prog 86 C86 = true := by kernel_rfl
theorem chk87 : chkFn Go.Proofs.Tryd.prog 87 C87 = true := by kernel_rfl
theorem chk88 : chkFn Go.Proofs.Tryd.prog 88 C88 = true := by kernel_rfl
theorem chk89 : chkFn Go.Proofs.Tryd.prog 89 C89 = true := by kernel_rfl
theorem chk90 : chkFn Go.Proofs.Tryd.prog 90 C90 = true := by kernel_rfl
theorem chk96 : chkFn Go.Proofs.Tryd.prog 96 C96 = true := by kernel_rfl
theorem chk101 : chkFn Go.Proofs.Tryd.prog 101 C101 = true := by kernel_rfl
theorem chk102 : chkFn Go.Proofs.Tryd.prog 102 C102 = true := by kernel_rfl
theorem chk103 : chkFn Go.Proofs.Tryd.prog 103 C103 = true := by kernel_rfl
theorem chk111 : chkFn Go.Proofs.Tryd.prog 111 C111 = true := by kernel_rfl
def Tab (f : Nat) : Option CFn :=
  match f with
  | 3 => some C3
  | 5 => some C5
  | 6 => some C6
  | 7 => some C7
  | 8 => some C8
  | 9 => some C9
  | 10 => some C10
  | 11 => some C11
  | 12 => some C12
  | 13 => some C13
  | 16 => some C16
  | 19 => some C19
  | 21 => some C21
  | 22 => some C22
  | 23 => some C23
  | 24 => some C24
  | 25 => some C25
  | 26 => some C26
  | 27 => some C27
  | 28 => some C28
  | 29 => some C29
  | 30 => some C30
  | 32 => some C32
  | 33 => some C33
  | 34 => some C34
  | 39 => some C39
  | 44 => some C44
  | 46 => some C46
  | 47 => some C47
  | 48 => some C48
  | 49 => some C49
  | 50 => some C50
  | 51 => some C51
  | 52 => some C52
  | 53 => some C53
  | 54 => some C54
  | 55 => some C55
  | 56 => some C56
  | 57 => some C57
  | 58 => some C58
  | 59 => some C59
  | 64 => some C64
  | 65 => some C65
  | 67 => some C67
  | 73 => some C73
  | 74 => some C74
  | 80 => some C80
  | 82 => some C82
  | 83 => some C83
  | 84 => some C84
  | 85 => some C85
  | 86 => some C86
  | 87 => some C87
  | 88 => some C88
  | 89 => some C89
  | 90 => some C90
  | 96 => some C96
  | 101 => some C101
  | 102 => some C102
  | 103 => some C103
  | 111 => some C111
  | _ => none
theorem tabOk : TabOk Go.Proofs.Tryd.prog Tab := by
  intro f cf h
  unfold Tab at h
  split at h <;> simp only [Option.some.injEq, reduceCtorEq] at h <;> subst h
  · exact chk3
  · exact chk5
  · exact chk6
  · exact chk7
  · exact chk8
  · exact chk9
  · exact chk10
  · exact chk11
  · exact chk12
  · exact chk13
  · exact chk16
  · exact chk19
  · exact chk21
  · exact chk22
  · exact chk23
  · exact chk24
  · exact chk25
  · exact chk26
  · exact chk27
  · exact chk28
  · exact chk29
  · exact chk30
  · exact chk32
  · exact chk33
  · exact chk34
  · exact chk39
  · exact chk44
  · exact chk46
  · exact chk47
  · exact chk48
  · exact chk49
  · exact chk50
  · exact chk51
  · exact chk52
  · exact chk53
  · exact chk54
  · exact chk55
  · exact chk56
  · exact chk57
  · exact chk58
  · exact chk59
  · exact chk64
  · exact chk65
  · exact chk67
  · exact chk73
  · exact chk74
  · exact chk80
  · exact chk82
  · exact chk83
  · exact chk84
  · exact chk85
  · exact chk86
  · exact chk87
  · exact chk88
  · exact chk89
  · exact chk90
  · exact chk96
  · exact chk101
  · exact chk102
  · exact chk103
  · exact chk111

end Go.Proofs.YtcllfkplpdppiaaDoorH
