import Derived.Test.YtcllfkplpdppiaaDoorX3
import Derived.Test.YtcllfkplpdppiaaDoorProg
set_option linter.unusedVariables false
set_option maxRecDepth 100000
namespace Go.Proofs.YtcllfkplpdppiaaDoorH
open Go
@[simp] abbrev oP (d : Nat) (p : COp) (k : List Nat) : COper := ⟨some d, p, none, [], k⟩
@[simp] abbrev oT (d a : Nat) (k : List Nat) : COper := ⟨some d, .mv (.t a), none, [], k⟩
@[simp] abbrev oG (d : Nat) (p : COp) (g : Nat) (b : Bool) (k : List Nat) : COper := ⟨some d, p, some (g, b), [], k⟩
abbrev sR (l : List (Nat × COper)) (c : CCode) : CCode := .seq (.reg false l) c
abbrev sK (l : List Nat) (c : CCode) : CCode := .seq (.kill l) c
abbrev B4 : CCode := (sR [(0,oP 4 (.mv (.c (.bool false))) [4])] (sR [(0,oP 5 (.mv (.c (.int .i64 1048576))) [])] (sR [(0,oT 10 0 []),(1,oT 11 5 [5]),(2,oP 12 (.call 13 [.t 10,.t 11]) [10,11]),(3,oT 5 12 [12])] (.seq
(sR [(0,oT 13 5 []),(1,oP 14 (.bin .lss (.t 13) (.c (.int .i64 0))) [13])] (.cond (.t 14) (sK [0,1,5,14] (sR [(0,oP 4 (.mv (.c (.bool true))) [])] .ret)) (sK [14] .skip))) (sR [(0,oT 15 1 []),(1,oT 16 5 [5]),(2,oP 17
(.call 14 [.t 15,.t 16]) [15,16]),(3,oT 5 17 [17])] (.seq (sR [(0,oT 18 5 [5]),(1,oP 19 (.bin .lss (.t 18) (.c (.int .i64 0))) [18])] (.cond (.t 19) (sK [0,1,19] (sR [(0,oP 4 (.mv (.c (.bool true))) [])] .ret)) (sK [19]
.skip))) (sR [(0,oT 20 0 []),(1,oP 21 (.call 16 [.t 20]) [20]),(2,oT 22 1 []),(3,oP 23 (.call 17 [.t 22]) [22]),(4,oP 24 (.call 15 [.t 21,.t 23]) [21,23]),(5,oT 6 24 [24])] (sR [(0,oT 25 0 []),(1,oP 26 (.call 16 [.t
25]) [25]),(2,oT 7 26 [26])] (sR [(0,oT 27 1 []),(1,oP 28 (.call 17 [.t 27]) [27]),(2,oT 8 28 [28])] (sR [(0,oT 29 7 []),(1,oT 30 8 []),(2,oP 31 (.call 18 [.t 29,.t 30]) [29,30]),(3,oT 9 31 [31])] (.seq (sR [(0,oT 32 9
[9]),(1,oT 33 6 [6]),(2,oP 34 (.bin .neq (.t 32) (.t 33)) [32,33])] (.cond (.t 34) (sK [0,1,7,8,34] (sR [(0,oP 4 (.mv (.c (.bool false))) [])] .ret)) (sK [34] .skip))) (.seq (sR [(0,oT 35 7 [7]),(1,oT 36 0 [0]),(2,oP 37
(.call 16 [.t 36]) [36]),(3,oP 38 (.call 19 [.t 35,.t 37]) [35,37]),(4,oP 39 (.not (.t 38)) [38])] (.cond (.t 39) (sK [1,8,39] (sR [(0,oP 4 (.mv (.c (.bool false))) [])] .ret)) (sK [39] .skip))) (.seq (sR [(0,oT 40 8
[8]),(1,oT 41 1 [1]),(2,oP 42 (.call 17 [.t 41]) [41]),(3,oP 43 (.call 20 [.t 40,.t 42]) [40,42]),(4,oP 44 (.not (.t 43)) [43])] (.cond (.t 44) (sK [44] (sR [(0,oP 4 (.mv (.c (.bool false))) [])] .ret)) (sK [44]
.skip))) (sR [(0,oP 4 (.mv (.c (.bool true))) [])] .ret))))))))))))))
def C4 : CFn := ⟨45,2,[.t 4],B4⟩
abbrev L13_0 : CCode := (.seq (sR [(0,oT 12 5 []),(1,oT 13 0 []),(2,oP 14 (.len (.t 13)) [13]),(3,oP 15 (.bin .lss (.t 12) (.t 14)) [12,14])] (.cond (.t 15) (sK [15] .skip) (sK [0,5,15] (.exit 0)))) (.seq (.block 1 (sR
[(0,oT 18 0 []),(1,oT 19 5 []),(2,oP 20 (.ia 3 (.t 18) (.t 19)) []),(3,oP 21 (.ld 3 true (.t 20)) [20]),(4,oT 22 1 [1]),(5,oP 23 (.call 34 [.t 21,.t 22]) [18,19,21,22]),(6,oT 1 23 [23])] (sR [(0,oT 24 1 []),(1,oP 25
(.bin .lss (.t 24) (.c (.int .i64 0))) [24])] (.cond (.t 25) (sK [0,1,5,25] (sR [(0,oP 4 (.mv (.c (.int .i64 (-1)))) [])] .ret)) (sK [25] .skip))))) (.reg false [(0,oT 16 5 [5]),(1,oP 17 (.bin .add (.t 16) (.c (.int
.i64 1))) [16]),(2,oT 5 17 [17])])))
abbrev B13 : CCode := (sR [(0,oP 4 (.mv (.c (.int .i64 0))) [4])] (sR [(0,oT 6 1 [1]),(1,oT 7 0 []),(2,oP 8 (.len (.t 7)) [7]),(3,oP 9 (.bin .sub (.t 6) (.t 8)) [6,8]),(4,oT 1 9 [9])] (.seq (sR [(0,oT 10 1 []),(1,oP 11
(.bin .lss (.t 10) (.c (.int .i64 0))) [10])] (.cond (.t 11) (sK [0,1,11] (sR [(0,oP 4 (.mv (.c (.int .i64 (-1)))) [])] .ret)) (sK [11] .skip))) (.seq (sR [(0,oP 5 (.mv (.c (.int .i64 0))) [])] (.block 0 (.loop L13_0)))
(sR [(0,oT 26 1 [1]),(1,oT 4 26 [26])] .ret)))))
def C13 : CFn := ⟨27,2,[.t 4],B13⟩
abbrev L14_0 : CCode := (.seq (sR [(0,oT 12 5 []),(1,oT 13 0 []),(2,oP 14 (.len (.t 13)) [13]),(3,oP 15 (.bin .lss (.t 12) (.t 14)) [12,14])] (.cond (.t 15) (sK [15] .skip) (sK [0,5,15] (.exit 0)))) (.seq (.block 1 (sR
[(0,oT 18 0 []),(1,oT 19 5 []),(2,oP 20 (.ia 4 (.t 18) (.t 19)) []),(3,oP 21 (.ld 4 true (.t 20)) [20]),(4,oT 22 1 [1]),(5,oP 23 (.call 35 [.t 21,.t 22]) [18,19,21,22]),(6,oT 1 23 [23])] (sR [(0,oT 24 1 []),(1,oP 25
(.bin .lss (.t 24) (.c (.int .i64 0))) [24])] (.cond (.t 25) (sK [0,1,5,25] (sR [(0,oP 4 (.mv (.c (.int .i64 (-1)))) [])] .ret)) (sK [25] .skip))))) (.reg false [(0,oT 16 5 [5]),(1,oP 17 (.bin .add (.t 16) (.c (.int
.i64 1))) [16]),(2,oT 5 17 [17])])))
abbrev B14 : CCode := (sR [(0,oP 4 (.mv (.c (.int .i64 0))) [4])] (sR [(0,oT 6 1 [1]),(1,oT 7 0 []),(2,oP 8 (.len (.t 7)) [7]),(3,oP 9 (.bin .sub (.t 6) (.t 8)) [6,8]),(4,oT 1 9 [9])] (.seq (sR [(0,oT 10 1 []),(1,oP 11
(.bin .lss (.t 10) (.c (.int .i64 0))) [10])] (.cond (.t 11) (sK [0,1,11] (sR [(0,oP 4 (.mv (.c (.int .i64 (-1)))) [])] .ret)) (sK [11] .skip))) (.seq (sR [(0,oP 5 (.mv (.c (.int .i64 0))) [])] (.block 0 (.loop L14_0)))
(sR [(0,oT 26 1 [1]),(1,oT 4 26 [26])] .ret)))))
def C14 : CFn := ⟨27,2,[.t 4],B14⟩
abbrev L15_0 : CCode := (.seq (sR [(0,oT 7 6 []),(1,oT 8 1 []),(2,oP 9 (.len (.t 8)) [8]),(3,oP 10 (.bin .lss (.t 7) (.t 9)) [7,9]),(4,oT 11 10 [10]),(5,oG 12 (.mv (.t 0)) 11 true []),(6,oG 13 (.mv (.t 1)) 11 true
[]),(7,oG 14 (.call 36 [.t 12,.t 13]) 11 true [12,13]),(8,oP 15 (.pick (.t 11) (.t 14) (.c (.bool false))) [11,14])] (.cond (.t 15) (sK [15] .skip) (sK [0,1,6,15] (.exit 0)))) (.seq (.block 1 (.seq (sR [(0,oT 18 6
[]),(1,oP 19 (.bin .gtr (.t 18) (.c (.int .i64 0))) [18])] (.cond (.t 19) (sK [19] (.reg false [(0,oT 20 5 [5]),(1,oP 21 (.bin .add (.t 20) (.c (.str [32]))) [20]),(2,oT 5 21 [21])])) (sK [19] .skip))) (.reg true [(0,oT
22 5 [5]),(1,oP 23 (.bin .add (.t 22) (.c (.str [69]))) [22]),(2,oT 24 1 []),(3,oT 25 6 []),(4,oP 26 (.ia 4 (.t 24) (.t 25)) []),(5,oP 27 (.fa 2 (.t 26)) [26]),(6,oP 28 (.ld 1 false (.t 27)) [27]),(10,oT 32 1 []),(11,oT
33 6 []),(12,oP 34 (.ia 4 (.t 32) (.t 33)) []),(13,oP 35 (.fa 3 (.t 34)) [34]),(14,oP 36 (.ld 1 false (.t 35)) []),(18,oT 40 0 []),(19,oT 41 1 []),(20,oT 42 6 []),(21,oP 43 (.ia 4 (.t 41) (.t 42)) []),(22,oP 44 (.fa 0
(.t 43)) [43]),(23,oP 45 (.ld 2 true (.t 44)) []),(7,⟨some 29,.call 37 [.t 28],none,[(35,1),(44,2)],[24,25,28,35]⟩),(8,oP 30 (.bin .add (.t 23) (.t 29)) [23,29]),(9,oP 31 (.bin .add (.t 30) (.c (.str [32,65])))
[30]),(15,⟨some 37,.call 37 [.t 36],none,[(44,2)],[32,33,36,44]⟩),(16,oP 38 (.bin .add (.t 31) (.t 37)) [31,37]),(17,oP 39 (.bin .add (.t 38) (.c (.str [32]))) [38]),(24,oP 46 (.call 38 [.t 40,.t 45])
[40,41,42,45]),(25,oP 47 (.bin .add (.t 39) (.t 46)) [39,46]),(26,oT 5 47 [47])]))) (.reg false [(0,oT 16 6 [6]),(1,oP 17 (.bin .add (.t 16) (.c (.int .i64 1))) [16]),(2,oT 6 17 [17])])))
abbrev B15 : CCode := (sR [(0,oP 4 (.mv (.c (.str []))) [4])] (sR [(0,oP 5 (.mv (.c (.str []))) [])] (.seq (sR [(0,oP 6 (.mv (.c (.int .i64 0))) [])] (.block 0 (.loop L15_0))) (sR [(0,oT 48 5 [5]),(1,oT 4 48 [48])]
.ret))))
def C15 : CFn := ⟨49,2,[.t 4],B15⟩
abbrev L16_0 : CCode := (.seq (sR [(0,oT 8 4 []),(1,oT 9 0 []),(2,oP 10 (.len (.t 9)) [9]),(3,oP 11 (.bin .lss (.t 8) (.t 10)) [8,10])] (.cond (.t 11) (sK [11] .skip) (sK [0,4,11] (.exit 0)))) (.seq (.block 1 (.reg
false [(0,oT 14 3 []),(1,oT 15 4 []),(2,oT 16 0 []),(3,oT 17 4 []),(4,oP 18 (.ia 3 (.t 16) (.t 17)) []),(5,oP 19 (.ld 3 true (.t 18)) [18]),(6,oP 20 (.call 39 [.t 19]) [16,17,19]),(7,oP 21 (.ia 3 (.t 14) (.t 15))
[]),(8,⟨none,.st 3 (.t 21) (.t 20),none,[],[14,15,20,21]⟩)])) (.reg false [(0,oT 12 4 [4]),(1,oP 13 (.bin .add (.t 12) (.c (.int .i64 1))) [12]),(2,oT 4 13 [13])])))
abbrev B16 : CCode := (sR [(0,oP 2 (.mv (.c (.nils))) [2])] (sR [(0,oT 5 0 []),(1,oP 6 (.len (.t 5)) [5]),(2,oP 7 (.mk 3 32 [.str [],.int .i64 (0),.int .i64 (0)] (.t 6) (.t 6)) [6]),(3,oT 3 7 [7])] (.seq (sR [(0,oP 4
(.mv (.c (.int .i64 0))) [])] (.block 0 (.loop L16_0))) (sR [(0,oT 22 3 [3]),(1,oT 2 22 [22])] .ret))))
def C16 : CFn := ⟨23,1,[.t 2],B16⟩
abbrev L17_0 : CCode := (.seq (sR [(0,oT 8 4 []),(1,oT 9 0 []),(2,oP 10 (.len (.t 9)) [9]),(3,oP 11 (.bin .lss (.t 8) (.t 10)) [8,10])] (.cond (.t 11) (sK [11] .skip) (sK [0,4,11] (.exit 0)))) (.seq (.block 1 (.reg
false [(0,oT 14 3 []),(1,oT 15 4 []),(2,oT 16 0 []),(3,oT 17 4 []),(4,oP 18 (.ia 4 (.t 16) (.t 17)) []),(5,oP 19 (.ld 4 true (.t 18)) [18]),(6,oP 20 (.call 40 [.t 19]) [16,17,19]),(7,oP 21 (.ia 4 (.t 14) (.t 15))
[]),(8,⟨none,.st 4 (.t 21) (.t 20),none,[],[14,15,20,21]⟩)])) (.reg false [(0,oT 12 4 [4]),(1,oP 13 (.bin .add (.t 12) (.c (.int .i64 1))) [12]),(2,oT 4 13 [13])])))
abbrev B17 : CCode := (sR [(0,oP 2 (.mv (.c (.nils))) [2])] (sR [(0,oT 5 0 []),(1,oP 6 (.len (.t 5)) [5]),(2,oP 7 (.mk 4 80 [.int .i64 (0),.nils,.nils,.nils] (.t 6) (.t 6)) [6]),(3,oT 3 7 [7])] (.seq (sR [(0,oP 4 (.mv
(.c (.int .i64 0))) [])] (.block 0 (.loop L17_0))) (sR [(0,oT 22 3 [3]),(1,oT 2 22 [22])] .ret))))
def C17 : CFn := ⟨23,1,[.t 2],B17⟩
abbrev L18_0 : CCode := (sR [(0,oP 16 (.bin .lss (.t 15) (.t 14)) [])] (.seq (.cond (.t 16) (sK [16] .skip) (sK [0,13,14,15,16] (.exit 0))) (.seq (.block 1 (sR [(0,oP 17 (.ia 4 (.t 13) (.t 15)) []),(1,oP 18 (.ld 4 true
(.t 17)) [17]),(2,oP 7 (.al [.int .i64 (0),.nils,.nils,.nils]) []),(3,⟨none,.st 4 (.t 7) (.t 18),none,[],[18]⟩)] (.reg true [(0,oT 19 5 [5]),(1,oP 20 (.fa 2 (.t 7)) []),(2,oP 21 (.ld 1 false (.t 20)) [20]),(7,oP 26 (.fa
3 (.t 7)) []),(8,oP 27 (.ld 1 false (.t 26)) []),(13,oT 32 0 []),(14,oP 33 (.fa 0 (.t 7)) []),(15,oP 34 (.ld 2 true (.t 33)) []),(3,⟨some 22,.call 42 [.t 21],none,[(26,1),(33,2)],[21]⟩),(4,⟨some 23,.call 31 [.t 22,(.c
(.str []))],none,[(26,1),(33,2)],[22,26]⟩),(5,oP 24 (.bin .add (.c (.str [69])) (.t 23)) [23]),(6,oP 25 (.bin .add (.t 24) (.c (.str [32,65]))) [24]),(9,⟨some 28,.call 42 [.t 27],none,[(33,2)],[27]⟩),(10,⟨some 29,.call
31 [.t 28,(.c (.str []))],none,[(33,2)],[28,33]⟩),(11,oP 30 (.bin .add (.t 25) (.t 29)) [25,29]),(12,oP 31 (.bin .add (.t 30) (.c (.str [32]))) [30]),(16,oP 35 (.call 43 [.t 32,.t 34]) [7,32,34]),(17,oP 36 (.bin .add
(.t 31) (.t 35)) [31,35]),(18,oP 37 (.bsl 1 1 [.str []] [(0,1,(.t 36))]) [36]),(19,oP 38 (.app 1 16 (.t 19) (.t 37)) [19,37]),(20,oT 5 38 [38])]))) (.reg false [(0,oP 39 (.bin .add (.t 15) (.c (.int .i64 1)))
[15]),(1,oT 15 39 [39])]))))
abbrev B18 : CCode := (sR [(0,oP 4 (.mv (.c (.str []))) [4])] (.seq (sR [(0,oT 8 0 []),(1,oT 9 1 []),(2,oP 10 (.call 41 [.t 8,.t 9]) [8,9]),(3,oP 11 (.not (.t 10)) [10])] (.cond (.t 11) (sK [0,1,11] (sR [(0,oP 4 (.mv
(.c (.str []))) [])] .ret)) (sK [11] .skip))) (sR [(0,oP 12 (.bsl 1 0 [.str []] []) []),(1,oT 5 12 [12])] (.seq (sR [(0,oT 13 1 [1]),(1,oP 14 (.len (.t 13)) []),(2,oP 15 (.mv (.c (.int .i64 0))) [])] (.block 0 (.loop
L18_0))) (sR [(0,oT 40 5 [5]),(1,oP 41 (.call 31 [.t 40,(.c (.str [32]))]) [40]),(2,oT 4 41 [41])] .ret)))))
def C18 : CFn := ⟨42,2,[.t 4],B18⟩
abbrev L19_0 : CCode := (.seq (sR [(0,oT 11 5 []),(1,oT 12 0 []),(2,oP 13 (.len (.t 12)) [12]),(3,oP 14 (.bin .lss (.t 11) (.t 13)) [11,13])] (.cond (.t 14) (sK [14] .skip) (sK [0,1,5,14] (.exit 0)))) (.seq (.block 1
(.seq (.reg true [(0,oT 17 0 []),(1,oT 18 5 []),(2,oP 19 (.ia 3 (.t 17) (.t 18)) []),(3,oP 20 (.ld 3 true (.t 19)) [19]),(4,oT 21 1 []),(5,oT 22 5 []),(6,oP 23 (.ia 3 (.t 21) (.t 22)) []),(7,oP 24 (.ld 3 true (.t 23))
[23]),(8,oP 25 (.call 44 [.t 20,.t 24]) [17,18,20,21,22,24]),(9,oP 26 (.not (.t 25)) [25])]) (.cond (.t 26) (sK [0,1,5,26] (sR [(0,oP 4 (.mv (.c (.bool false))) [])] .ret)) (sK [26] .skip)))) (.reg false [(0,oT 15 5
[5]),(1,oP 16 (.bin .add (.t 15) (.c (.int .i64 1))) [15]),(2,oT 5 16 [16])])))
abbrev B19 : CCode := (sR [(0,oP 4 (.mv (.c (.bool false))) [4])] (.seq (sR [(0,oT 6 0 []),(1,oP 7 (.len (.t 6)) [6]),(2,oT 8 1 []),(3,oP 9 (.len (.t 8)) [8]),(4,oP 10 (.bin .neq (.t 7) (.t 9)) [7,9])] (.cond (.t 10)
(sK [0,1,10] (sR [(0,oP 4 (.mv (.c (.bool false))) [])] .ret)) (sK [10] .skip))) (.seq (sR [(0,oP 5 (.mv (.c (.int .i64 0))) [])] (.block 0 (.loop L19_0))) (sR [(0,oP 4 (.mv (.c (.bool true))) [])] .ret))))
def C19 : CFn := ⟨27,2,[.t 4],B19⟩
abbrev L20_0 : CCode := (.seq (sR [(0,oT 11 5 []),(1,oT 12 0 []),(2,oP 13 (.len (.t 12)) [12]),(3,oP 14 (.bin .lss (.t 11) (.t 13)) [11,13])] (.cond (.t 14) (sK [14] .skip) (sK [0,1,5,14] (.exit 0)))) (.seq (.block 1
(.seq (.reg true [(0,oT 17 0 []),(1,oT 18 5 []),(2,oP 19 (.ia 4 (.t 17) (.t 18)) []),(3,oP 20 (.ld 4 true (.t 19)) [19]),(4,oT 21 1 []),(5,oT 22 5 []),(6,oP 23 (.ia 4 (.t 21) (.t 22)) []),(7,oP 24 (.ld 4 true (.t 23))
[23]),(8,oP 25 (.call 45 [.t 20,.t 24]) [17,18,20,21,22,24]),(9,oP 26 (.not (.t 25)) [25])]) (.cond (.t 26) (sK [0,1,5,26] (sR [(0,oP 4 (.mv (.c (.bool false))) [])] .ret)) (sK [26] .skip)))) (.reg false [(0,oT 15 5
[5]),(1,oP 16 (.bin .add (.t 15) (.c (.int .i64 1))) [15]),(2,oT 5 16 [16])])))
abbrev B20 : CCode := (sR [(0,oP 4 (.mv (.c (.bool false))) [4])] (.seq (sR [(0,oT 6 0 []),(1,oP 7 (.len (.t 6)) [6]),(2,oT 8 1 []),(3,oP 9 (.len (.t 8)) [8]),(4,oP 10 (.bin .neq (.t 7) (.t 9)) [7,9])] (.cond (.t 10)
(sK [0,1,10] (sR [(0,oP 4 (.mv (.c (.bool false))) [])] .ret)) (sK [10] .skip))) (.seq (sR [(0,oP 5 (.mv (.c (.int .i64 0))) [])] (.block 0 (.loop L20_0))) (sR [(0,oP 4 (.mv (.c (.bool true))) [])] .ret))))
def C20 : CFn := ⟨27,2,[.t 4],B20⟩
abbrev L25_0 : CCode := (.seq (sR [(0,oT 10 0 []),(1,oP 11 (.bin .neq (.t 10) (.c (.int .i64 0))) [10])] (.cond (.t 11) (sK [11] .skip) (sK [0,11] (.exit 0)))) (.block 1 (sR [(0,oT 12 0 []),(1,oP 13 (.bin .rem (.t 12)
(.c (.int .i64 10))) [12]),(2,oT 5 13 [13])] (.seq (sR [(0,oT 14 5 []),(1,oP 15 (.bin .lss (.t 14) (.c (.int .i64 0))) [14])] (.cond (.t 15) (sK [15] (.reg false [(0,oT 16 5 [5]),(1,oP 17 (.neg (.t 16)) [16]),(2,oT 5 17
[17])])) (sK [15] .skip))) (sR [(0,oT 18 5 [5]),(1,oP 19 (.bin .add (.c (.int .i64 48)) (.t 18)) [18]),(2,oP 20 (.conv .u8 (.t 19)) [19]),(3,oP 21 (.bsl 1 1 [.int .u8 (0)] [(0,1,(.t 20))]) [20]),(4,oP 22 (.b2s (.t 21))
[21]),(5,oT 23 3 [3]),(6,oP 24 (.bin .add (.t 22) (.t 23)) [22,23]),(7,oT 3 24 [24])] (.reg false [(0,oT 25 0 [0]),(1,oP 26 (.bin .quo (.t 25) (.c (.int .i64 10))) [25]),(2,oT 0 26 [26])]))))))
abbrev B25 : CCode := (sR [(0,oP 2 (.mv (.c (.str []))) [2])] (.seq (sR [(0,oT 6 0 []),(1,oP 7 (.bin .eql (.t 6) (.c (.int .i64 0))) [6])] (.cond (.t 7) (sK [0,7] (sR [(0,oP 2 (.mv (.c (.str [48]))) [])] .ret)) (sK [7]
.skip))) (sR [(0,oP 3 (.mv (.c (.str []))) [])] (sR [(0,oT 8 0 []),(1,oP 9 (.bin .lss (.t 8) (.c (.int .i64 0))) [8]),(2,oT 4 9 [9])] (.seq (.block 0 (.loop L25_0)) (.seq (sR [(0,oT 27 4 [4])] (.cond (.t 27) (sK [27]
(sR [(0,oT 28 3 [3]),(1,oP 29 (.bin .add (.c (.str [45])) (.t 28)) [28]),(2,oT 2 29 [29])] .ret)) (sK [27] .skip))) (sR [(0,oT 30 3 [3]),(1,oT 2 30 [30])] .ret)))))))
def C25 : CFn := ⟨31,1,[.t 2],B25⟩
abbrev B30 : CCode := (sR [(0,oP 2 (.mv (.c (.str []))) [2])] (sR [(0,oT 3 0 [0]),(1,oP 4 (.call 60 [.t 3]) [3]),(2,oT 2 4 [4])] .ret))
def C30 : CFn := ⟨5,1,[.t 2],B30⟩
abbrev B34 : CCode := (sR [(0,oP 2 (.box 3 (.t 0)) [0]),(1,oP 4 (.mv (.c (.int .i64 0))) [4])] (sR [(0,oT 5 1 [1]),(1,oP 6 (.fa 0 (.t 2)) []),(2,oP 7 (.ld 1 false (.t 6)) [2,6]),(3,oP 8 (.lens (.t 7)) [7]),(4,oP 9 (.bin
.sub (.t 5) (.t 8)) [5,8]),(5,oT 1 9 [9])] (.seq (sR [(0,oT 10 1 []),(1,oP 11 (.bin .lss (.t 10) (.c (.int .i64 0))) [10])] (.cond (.t 11) (sK [1,11] (sR [(0,oP 4 (.mv (.c (.int .i64 (-1)))) [])] .ret)) (sK [11]
.skip))) (sR [(0,oT 12 1 [1]),(1,oT 4 12 [12])] .ret))))
def C34 : CFn := ⟨13,2,[.t 4],B34⟩
abbrev B35 : CCode := (sR [(0,oP 2 (.box 4 (.t 0)) [0]),(1,oP 4 (.mv (.c (.int .i64 0))) [4])] (sR [(0,oP 5 (.fa 0 (.t 2)) []),(1,oP 6 (.ld 2 true (.t 5)) [5]),(2,oT 7 1 [1]),(3,oP 8 (.call 66 [.t 6,.t 7]) [6,7]),(4,oT
1 8 [8])] (.seq (sR [(0,oT 9 1 []),(1,oP 10 (.bin .lss (.t 9) (.c (.int .i64 0))) [9])] (.cond (.t 10) (sK [1,2,10] (sR [(0,oP 4 (.mv (.c (.int .i64 (-1)))) [])] .ret)) (sK [10] .skip))) (sR [(0,oP 11 (.fa 2 (.t 2))
[]),(1,oP 12 (.ld 1 false (.t 11)) [11]),(2,oT 13 1 [1]),(3,oP 14 (.call 47 [.t 12,.t 13]) [12,13]),(4,oT 1 14 [14])] (.seq (sR [(0,oT 15 1 []),(1,oP 16 (.bin .lss (.t 15) (.c (.int .i64 0))) [15])] (.cond (.t 16) (sK
[1,2,16] (sR [(0,oP 4 (.mv (.c (.int .i64 (-1)))) [])] .ret)) (sK [16] .skip))) (sR [(0,oP 17 (.fa 3 (.t 2)) []),(1,oP 18 (.ld 1 false (.t 17)) [17]),(2,oT 19 1 [1]),(3,oP 20 (.call 47 [.t 18,.t 19]) [2,18,19]),(4,oT 1
20 [20])] (.seq (sR [(0,oT 21 1 []),(1,oP 22 (.bin .lss (.t 21) (.c (.int .i64 0))) [21])] (.cond (.t 22) (sK [1,22] (sR [(0,oP 4 (.mv (.c (.int .i64 (-1)))) [])] .ret)) (sK [22] .skip))) (sR [(0,oT 23 1 [1]),(1,oT 4 23
[23])] .ret))))))))
def C35 : CFn := ⟨24,2,[.t 4],B35⟩
abbrev L36_1 : CCode := (.seq (sR [(0,oT 43 7 []),(1,oP 44 (.fa 1 (.t 6)) []),(2,oP 45 (.ld 1 false (.t 44)) [44]),(3,oP 46 (.len (.t 45)) [45]),(4,oP 47 (.bin .lss (.t 43) (.t 46)) [43,46])] (.cond (.t 47) (sK [47]
.skip) (sK [7,47] (.exit 2)))) (.seq (.block 3 (sR [(0,oP 50 (.fa 1 (.t 6)) []),(1,oP 51 (.ld 1 false (.t 50)) [50]),(2,oT 52 7 []),(3,oP 53 (.ia 1 (.t 51) (.t 52)) [51]),(4,oP 54 (.ld 1 false (.t 53)) [52,53]),(5,oP 55
(.call 67 [.t 54,(.c (.int .i64 (-10))),(.c (.int .i64 3))]) [54]),(6,oP 56 (.not (.t 55)) [55])] (.cond (.t 56) (sK [0,1,5,6,7,56] (sR [(0,oP 4 (.mv (.c (.bool false))) [])] .ret)) (sK [56] .skip)))) (.reg false [(0,oT
48 7 [7]),(1,oP 49 (.bin .add (.t 48) (.c (.int .i64 1))) [48]),(2,oT 7 49 [49])])))
abbrev L36_0 : CCode := (.seq (sR [(0,oT 8 5 []),(1,oT 9 1 []),(2,oP 10 (.len (.t 9)) [9]),(3,oP 11 (.bin .lss (.t 8) (.t 10)) [8,10])] (.cond (.t 11) (sK [11] .skip) (sK [0,5,11] (.exit 0)))) (.seq (.block 1 (sR [(0,oT
14 1 []),(1,oT 15 5 []),(2,oP 16 (.ia 4 (.t 14) (.t 15)) []),(3,oP 17 (.fa 0 (.t 16)) [16]),(4,oP 18 (.ld 2 true (.t 17)) [17]),(5,oP 6 (.al [.int .i64 (0),.nils]) []),(6,⟨none,.st 2 (.t 6) (.t 18),none,[],[14,15,18]⟩)]
(.seq (.seq (.reg true [(0,oT 19 0 []),(1,oP 20 (.call 50 [.t 19]) [19]),(2,oP 21 (.not (.t 20)) [20]),(3,oT 22 21 [21]),(4,oG 23 (.fa 0 (.t 6)) 22 false []),(5,oG 24 (.ld 1 false (.t 23)) 22 false [23]),(6,oG 25 (.mv
(.t 0)) 22 false []),(7,oG 26 (.len (.t 25)) 22 false [25]),(8,oG 27 (.bin .sub (.t 26) (.c (.int .i64 1))) 22 false [26]),(9,oG 28 (.call 67 [.t 24,(.c (.int .i64 0)),.t 27]) 22 false [24,27]),(10,oG 29 (.not (.t 28))
22 false [28]),(11,oP 30 (.pick (.t 22) (.c (.bool true)) (.t 29)) [22,29]),(12,oT 31 30 [30]),(13,oG 32 (.fa 1 (.t 6)) 31 false []),(14,oG 33 (.ld 1 false (.t 32)) 31 false [32]),(15,oG 34 (.len (.t 33)) 31 false
[33]),(16,oG 35 (.mv (.t 0)) 31 false []),(17,oG 36 (.fa 0 (.t 6)) 31 false []),(18,oG 37 (.ld 1 false (.t 36)) 31 false [36]),(19,oG 38 (.ia 3 (.t 35) (.t 37)) 31 false []),(20,oG 39 (.fa 1 (.t 38)) 31 false
[38]),(21,oG 40 (.ld 1 false (.t 39)) 31 false [35,37,39]),(22,oG 41 (.bin .neq (.t 34) (.t 40)) 31 false [34,40]),(23,oP 42 (.pick (.t 31) (.c (.bool true)) (.t 41)) [31,41])]) (.cond (.t 42) (sK [0,1,5,6,42] (sR
[(0,oP 4 (.mv (.c (.bool false))) [])] .ret)) (sK [42] .skip))) (.seq (sR [(0,oP 7 (.mv (.c (.int .i64 0))) [])] (.block 2 (.loop L36_1))) (.seq (.reg true [(0,oT 57 0 []),(1,oP 58 (.ld 2 true (.t 6)) []),(3,oT 60 1
[]),(4,oT 61 5 []),(5,oP 62 (.ia 4 (.t 60) (.t 61)) []),(6,oP 63 (.fa 2 (.t 62)) [62]),(7,oP 64 (.ld 1 false (.t 63)) []),(2,⟨some 59,.call 69 [.t 57,.t 58],none,[(63,1)],[57,58,63]⟩),(8,oP 65 (.call 68 [.t 59,.t 64])
[59,60,61,64]),(9,oP 66 (.not (.t 65)) [65]),(10,oT 67 66 [66]),(11,oG 68 (.ld 2 true (.t 6)) 67 false []),(13,oG 70 (.mv (.t 1)) 67 false []),(14,oG 71 (.mv (.t 5)) 67 false []),(15,oG 72 (.ia 4 (.t 70) (.t 71)) 67
false []),(16,oG 73 (.fa 3 (.t 72)) 67 false [72]),(17,oG 74 (.ld 1 false (.t 73)) 67 false []),(12,⟨some 69,.call 70 [.t 68],some (67,false),[(73,1)],[6,68,73]⟩),(18,oG 75 (.call 68 [.t 69,.t 74]) 67 false
[69,70,71,74]),(19,oG 76 (.not (.t 75)) 67 false [75]),(20,oP 77 (.pick (.t 67) (.c (.bool true)) (.t 76)) [67,76])]) (.cond (.t 77) (sK [0,1,5,77] (sR [(0,oP 4 (.mv (.c (.bool false))) [])] .ret)) (sK [77] .skip)))))))
(.reg false [(0,oT 12 5 [5]),(1,oP 13 (.bin .add (.t 12) (.c (.int .i64 1))) [12]),(2,oT 5 13 [13])])))
abbrev B36 : CCode := (sR [(0,oP 4 (.mv (.c (.bool false))) [4])] (.seq (sR [(0,oP 5 (.mv (.c (.int .i64 0))) [])] (.block 0 (.loop L36_0))) (sR [(0,oT 78 1 [1]),(1,oP 79 (.len (.t 78)) [78]),(2,oP 80 (.bin .leq (.t 79)
(.c (.int .i64 3))) [79]),(3,oT 4 80 [80])] .ret)))
def C36 : CFn := ⟨81,2,[.t 4],B36⟩
abbrev L37_0 : CCode := (.seq (sR [(0,oT 5 4 []),(1,oT 6 0 []),(2,oP 7 (.len (.t 6)) [6]),(3,oP 8 (.bin .lss (.t 5) (.t 7)) [5,7])] (.cond (.t 8) (sK [8] .skip) (sK [0,4,8] (.exit 0)))) (.seq (.block 1 (.reg false
[(0,oT 11 3 [3]),(1,oT 12 0 []),(2,oT 13 4 []),(3,oP 14 (.ia 1 (.t 12) (.t 13)) []),(4,oP 15 (.ld 1 false (.t 14)) [12,13,14]),(5,oP 16 (.call 71 [.t 15]) [15]),(6,oP 17 (.bin .add (.t 11) (.t 16)) [11,16]),(7,oT 3 17
[17])])) (.reg false [(0,oT 9 4 [4]),(1,oP 10 (.bin .add (.t 9) (.c (.int .i64 1))) [9]),(2,oT 4 10 [10])])))
abbrev B37 : CCode := (sR [(0,oP 2 (.mv (.c (.str []))) [2])] (sR [(0,oP 3 (.mv (.c (.str []))) [])] (.seq (sR [(0,oP 4 (.mv (.c (.int .i64 0))) [])] (.block 0 (.loop L37_0))) (sR [(0,oT 18 3 [3]),(1,oT 2 18 [18])]
.ret))))
def C37 : CFn := ⟨19,1,[.t 2],B37⟩
abbrev L38_0 : CCode := (.seq (sR [(0,oT 13 6 []),(1,oP 14 (.fa 1 (.t 3)) []),(2,oP 15 (.ld 1 false (.t 14)) [14]),(3,oP 16 (.len (.t 15)) [15]),(4,oP 17 (.bin .lss (.t 13) (.t 16)) [13,16])] (.cond (.t 17) (sK [17]
.skip) (sK [0,3,6,17] (.exit 0)))) (.seq (.block 1 (.seq (sR [(0,oT 20 6 []),(1,oT 21 0 []),(2,oP 22 (.fa 0 (.t 3)) []),(3,oP 23 (.ld 1 false (.t 22)) [22]),(4,oP 24 (.ia 3 (.t 21) (.t 23)) []),(5,oP 25 (.fa 2 (.t 24))
[24]),(6,oP 26 (.ld 1 false (.t 25)) [21,23,25]),(7,oP 27 (.bin .eql (.t 20) (.t 26)) [20,26])] (.cond (.t 27) (sK [27] (.reg false [(0,oT 28 5 [5]),(1,oP 29 (.bin .add (.t 28) (.c (.str [124]))) [28]),(2,oT 5 29
[29])])) (sK [27] .skip))) (.reg false [(0,oT 30 5 [5]),(1,oP 31 (.fa 1 (.t 3)) []),(2,oP 32 (.ld 1 false (.t 31)) [31]),(3,oT 33 6 []),(4,oP 34 (.ia 1 (.t 32) (.t 33)) [32]),(5,oP 35 (.ld 1 false (.t 34))
[33,34]),(6,oP 36 (.call 71 [.t 35]) [35]),(7,oP 37 (.bin .add (.t 30) (.t 36)) [30,36]),(8,oT 5 37 [37])]))) (.reg false [(0,oT 18 6 [6]),(1,oP 19 (.bin .add (.t 18) (.c (.int .i64 1))) [18]),(2,oT 6 19 [19])])))
abbrev B38 : CCode := (sR [(0,oP 3 (.box 2 (.t 1)) [1]),(1,oP 4 (.mv (.c (.str []))) [4])] (sR [(0,oT 7 0 []),(1,oP 8 (.fa 0 (.t 3)) []),(2,oP 9 (.ld 1 false (.t 8)) [8]),(3,oP 10 (.ia 3 (.t 7) (.t 9)) []),(4,oP 11 (.fa
0 (.t 10)) [10]),(5,oP 12 (.ld 1 false (.t 11)) [7,9,11]),(6,oT 5 12 [12])] (.seq (sR [(0,oP 6 (.mv (.c (.int .i64 0))) [])] (.block 0 (.loop L38_0))) (sR [(0,oT 38 5 [5]),(1,oT 4 38 [38])] .ret))))
def C38 : CFn := ⟨39,2,[.t 4],B38⟩
abbrev B39 : CCode := (sR [(0,oP 1 (.box 3 (.t 0)) [0]),(1,oP 2 (.al [.str [],.int .i64 (0),.int .i64 (0)]) [])] (sR [(0,oP 3 (.al [.str [],.int .i64 (0),.int .i64 (0)]) [])] (sR [(0,oP 4 (.fa 0 (.t 1)) []),(1,oP 5 (.ld
1 false (.t 4)) [4]),(2,oP 6 (.fa 0 (.t 3)) []),(3,⟨none,.st 1 (.t 6) (.t 5),none,[],[5,6]⟩)] (sR [(0,oP 7 (.fa 1 (.t 1)) []),(1,oP 8 (.ld 1 false (.t 7)) [7]),(2,oP 9 (.fa 1 (.t 3)) []),(3,⟨none,.st 1 (.t 9) (.t
8),none,[],[8,9]⟩)] (sR [(0,oP 10 (.fa 2 (.t 1)) []),(1,oP 11 (.ld 1 false (.t 10)) [1,10]),(2,oP 12 (.fa 2 (.t 3)) []),(3,⟨none,.st 1 (.t 12) (.t 11),none,[],[11,12]⟩)] (sR [(0,oP 13 (.ld 3 true (.t 3))
[]),(1,⟨none,.st 3 (.t 2) (.t 13),none,[],[3,13]⟩)] .ret))))))
def C39 : CFn := ⟨14,1,[.m 2 3 true],B39⟩
abbrev B40 : CCode := (sR [(0,oP 1 (.box 4 (.t 0)) [0]),(1,oP 2 (.al [.int .i64 (0),.nils,.nils,.nils]) [])] (sR [(0,oP 3 (.al [.int .i64 (0),.nils,.nils,.nils]) [])] (sR [(0,oP 4 (.fa 0 (.t 1)) []),(1,oP 5 (.ld 2 true
(.t 4)) [4]),(2,oP 6 (.call 72 [.t 5]) [5]),(3,oP 7 (.fa 0 (.t 3)) []),(4,⟨none,.st 2 (.t 7) (.t 6),none,[],[6,7]⟩)] (sR [(0,oP 8 (.fa 2 (.t 1)) []),(1,oP 9 (.ld 1 false (.t 8)) [8]),(2,oP 10 (.call 54 [.t 9])
[9]),(3,oP 11 (.fa 2 (.t 3)) []),(4,⟨none,.st 1 (.t 11) (.t 10),none,[],[10,11]⟩)] (sR [(0,oP 12 (.fa 3 (.t 1)) []),(1,oP 13 (.ld 1 false (.t 12)) [12]),(2,oP 14 (.call 54 [.t 13]) [1,13]),(3,oP 15 (.fa 3 (.t 3))
[]),(4,⟨none,.st 1 (.t 15) (.t 14),none,[],[14,15]⟩)] (sR [(0,oP 16 (.ld 4 true (.t 3)) []),(1,⟨none,.st 4 (.t 2) (.t 16),none,[],[3,16]⟩)] .ret))))))
def C40 : CFn := ⟨17,1,[.m 2 4 true],B40⟩
abbrev L41_0 : CCode := (sR [(0,oP 11 (.bin .lss (.t 10) (.t 9)) [])] (.seq (.cond (.t 11) (sK [11] .skip) (sK [0,8,9,10,11] (.exit 0))) (.seq (.block 1 (sR [(0,oT 12 10 []),(1,oP 13 (.ia 4 (.t 8) (.t 10)) []),(2,oP 14
(.ld 4 true (.t 13)) [13]),(3,oP 6 (.al [.int .i64 (0),.nils,.nils,.nils]) []),(4,oT 5 12 [12]),(5,⟨none,.st 4 (.t 6) (.t 14),none,[],[14]⟩)] (sR [(0,oP 15 (.fa 0 (.t 6)) []),(1,oP 16 (.ld 2 true (.t 15)) [15]),(2,oP 7
(.al [.int .i64 (0),.nils]) []),(3,⟨none,.st 2 (.t 7) (.t 16),none,[],[16]⟩)] (.seq (.seq (.reg true [(0,oT 17 5 [5]),(1,oP 18 (.bin .geq (.t 17) (.c (.int .i64 3))) [17]),(2,oT 19 18 [18]),(3,oG 20 (.mv (.t 0)) 19
false []),(4,oG 21 (.call 55 [.t 20]) 19 false [20]),(5,oG 22 (.not (.t 21)) 19 false [21]),(6,oP 23 (.pick (.t 19) (.c (.bool true)) (.t 22)) [19,22]),(7,oT 24 23 [23]),(8,oG 25 (.fa 0 (.t 7)) 24 false []),(9,oG 26
(.ld 1 false (.t 25)) 24 false [25]),(10,oG 27 (.mv (.t 0)) 24 false []),(11,oG 28 (.len (.t 27)) 24 false [27]),(12,oG 29 (.bin .sub (.t 28) (.c (.int .i64 1))) 24 false [28]),(13,oG 30 (.call 73 [.t 26,(.c (.int .i64
0)),.t 29]) 24 false [26,29]),(14,oG 31 (.not (.t 30)) 24 false [30]),(15,oP 32 (.pick (.t 24) (.c (.bool true)) (.t 31)) [24,31]),(16,oT 33 32 [32]),(17,oG 34 (.fa 1 (.t 7)) 33 false []),(18,oG 35 (.ld 1 false (.t 34))
33 false [34]),(19,oG 36 (.len (.t 35)) 33 false [35]),(20,oG 37 (.mv (.t 0)) 33 false []),(21,oG 38 (.fa 0 (.t 7)) 33 false []),(22,oG 39 (.ld 1 false (.t 38)) 33 false [38]),(23,oG 40 (.ia 3 (.t 37) (.t 39)) 33 false
[]),(24,oG 41 (.fa 1 (.t 40)) 33 false [40]),(25,oG 42 (.ld 1 false (.t 41)) 33 false [37,39,41]),(26,oG 43 (.bin .neq (.t 36) (.t 42)) 33 false [36,42]),(27,oP 44 (.pick (.t 33) (.c (.bool true)) (.t 43)) [33,43])])
(.cond (.t 44) (sK [0,6,7,8,9,10,44] (sR [(0,oP 4 (.mv (.c (.bool false))) [])] .ret)) (sK [44] .skip))) (.seq (sR [(0,oP 45 (.fa 1 (.t 7)) []),(1,oP 46 (.ld 1 false (.t 45)) [45]),(2,oP 47 (.call 74 [.t 46,(.c (.fn 75
[]))]) [46])] (.cond (.t 47) (sK [0,6,7,8,9,10,47] (sR [(0,oP 4 (.mv (.c (.bool false))) [])] .ret)) (sK [47] .skip))) (.seq (.reg true [(0,oP 48 (.fa 2 (.t 6)) []),(1,oP 49 (.ld 1 false (.t 48)) []),(2,oT 50 0
[]),(3,oP 51 (.ld 2 true (.t 7)) []),(4,⟨some 52,.call 77 [.t 50,.t 51],none,[(48,1)],[48,50,51]⟩),(5,oP 53 (.call 76 [.t 49,.t 52]) [49,52]),(6,oP 54 (.not (.t 53)) [53]),(7,oT 55 54 [54]),(8,oG 56 (.fa 3 (.t 6)) 55
false []),(9,oG 57 (.ld 1 false (.t 56)) 55 false []),(10,oG 58 (.ld 2 true (.t 7)) 55 false []),(11,⟨some 59,.call 78 [.t 58],some (55,false),[(56,1)],[7,56,58]⟩),(12,oG 60 (.call 76 [.t 57,.t 59]) 55 false
[6,57,59]),(13,oG 61 (.not (.t 60)) 55 false [60]),(14,oP 62 (.pick (.t 55) (.c (.bool true)) (.t 61)) [55,61])]) (.cond (.t 62) (sK [0,8,9,10,62] (sR [(0,oP 4 (.mv (.c (.bool false))) [])] .ret)) (sK [62] .skip))))))))
(.reg false [(0,oP 63 (.bin .add (.t 10) (.c (.int .i64 1))) [10]),(1,oT 10 63 [63])]))))
abbrev B41 : CCode := (sR [(0,oP 4 (.mv (.c (.bool false))) [4])] (.seq (sR [(0,oT 8 1 [1]),(1,oP 9 (.len (.t 8)) []),(2,oP 10 (.mv (.c (.int .i64 0))) [])] (.block 0 (.loop L41_0))) (sR [(0,oP 4 (.mv (.c (.bool true)))
[])] .ret)))
def C41 : CFn := ⟨64,2,[.t 4],B41⟩
abbrev L42_0 : CCode := (sR [(0,oP 10 (.bin .lss (.t 9) (.t 8)) [])] (.seq (.cond (.t 10) (sK [10] .skip) (sK [7,8,9,10] (.exit 0))) (.seq (.block 1 (sR [(0,oP 11 (.ia 1 (.t 7) (.t 9)) []),(1,oP 12 (.ld 1 false (.t 11))
[11]),(2,oT 5 12 [12])] (.reg false [(0,oT 13 3 [3]),(1,oT 14 5 [5]),(2,oP 15 (.call 79 [.t 14]) [14]),(3,oP 16 (.bsl 1 1 [.str []] [(0,1,(.t 15))]) [15]),(4,oP 17 (.app 1 16 (.t 13) (.t 16)) [13,16]),(5,oT 3 17
[17])]))) (.reg false [(0,oP 18 (.bin .add (.t 9) (.c (.int .i64 1))) [9]),(1,oT 9 18 [18])]))))
abbrev B42 : CCode := (sR [(0,oP 2 (.mv (.c (.nils))) [2])] (sR [(0,oP 6 (.bsl 1 0 [.str []] []) []),(1,oT 3 6 [6])] (.seq (sR [(0,oT 7 0 [0]),(1,oP 8 (.len (.t 7)) []),(2,oP 9 (.mv (.c (.int .i64 0))) [])] (.block 0
(.loop L42_0))) (sR [(0,oT 19 3 [3]),(1,oT 2 19 [19])] .ret))))
def C42 : CFn := ⟨20,1,[.t 2],B42⟩
abbrev B43 : CCode := (sR [(0,oP 3 (.box 2 (.t 1)) [1]),(1,oP 4 (.mv (.c (.str []))) [4])] (sR [(0,oT 6 0 [0]),(1,oP 7 (.fa 0 (.t 3)) []),(2,oP 8 (.ld 1 false (.t 7)) [7]),(3,oP 9 (.ia 3 (.t 6) (.t 8)) []),(4,oP 10 (.ld
3 true (.t 9)) [9]),(5,oP 5 (.al [.str [],.int .i64 (0),.int .i64 (0)]) []),(6,⟨none,.st 3 (.t 5) (.t 10),none,[],[6,8,10]⟩)] (.seq (.reg true [(0,oP 11 (.fa 0 (.t 5)) []),(1,oP 12 (.ld 1 false (.t 11)) []),(2,oP 13
(.fa 1 (.t 3)) []),(3,oP 14 (.ld 1 false (.t 13)) [13]),(5,oP 16 (.fa 2 (.t 5)) []),(6,oP 17 (.ld 1 false (.t 16)) []),(4,⟨some 15,.call 42 [.t 14],none,[(11,1),(16,1)],[3,14,16]⟩),(7,⟨some 18,.call 80 [.t 15,.t
17],none,[(11,1)],[5,11,15,17]⟩),(8,oP 19 (.bin .add (.t 12) (.t 18)) [12,18]),(9,oT 4 19 [19])]) .ret)))
def C43 : CFn := ⟨20,2,[.t 4],B43⟩
abbrev B44 : CCode := (sR [(0,oP 2 (.box 3 (.t 0)) [0]),(1,oP 3 (.box 3 (.t 1)) [1]),(2,oP 4 (.mv (.c (.bool false))) [4])] (.seq (sR [(0,oP 5 (.fa 0 (.t 2)) []),(1,oP 6 (.ld 1 false (.t 5)) [5]),(2,oP 7 (.fa 0 (.t 3))
[]),(3,oP 8 (.ld 1 false (.t 7)) [7]),(4,oP 9 (.bin .neq (.t 6) (.t 8)) [6,8])] (.cond (.t 9) (sK [2,3,9] (sR [(0,oP 4 (.mv (.c (.bool false))) [])] .ret)) (sK [9] .skip))) (.seq (sR [(0,oP 10 (.fa 1 (.t 2)) []),(1,oP
11 (.ld 1 false (.t 10)) [10]),(2,oP 12 (.fa 1 (.t 3)) []),(3,oP 13 (.ld 1 false (.t 12)) [12]),(4,oP 14 (.bin .neq (.t 11) (.t 13)) [11,13])] (.cond (.t 14) (sK [2,3,14] (sR [(0,oP 4 (.mv (.c (.bool false))) [])]
.ret)) (sK [14] .skip))) (.seq (sR [(0,oP 15 (.fa 2 (.t 2)) []),(1,oP 16 (.ld 1 false (.t 15)) [2,15]),(2,oP 17 (.fa 2 (.t 3)) []),(3,oP 18 (.ld 1 false (.t 17)) [3,17]),(4,oP 19 (.bin .neq (.t 16) (.t 18)) [16,18])]
(.cond (.t 19) (sK [19] (sR [(0,oP 4 (.mv (.c (.bool false))) [])] .ret)) (sK [19] .skip))) (sR [(0,oP 4 (.mv (.c (.bool true))) [])] .ret)))))
def C44 : CFn := ⟨20,2,[.t 4],B44⟩
abbrev B45 : CCode := (sR [(0,oP 2 (.box 4 (.t 0)) [0]),(1,oP 3 (.box 4 (.t 1)) [1]),(2,oP 4 (.mv (.c (.bool false))) [4])] (.seq (sR [(0,oP 5 (.fa 0 (.t 2)) []),(1,oP 6 (.ld 2 true (.t 5)) [5]),(2,oP 7 (.fa 0 (.t 3))
[]),(3,oP 8 (.ld 2 true (.t 7)) [7]),(4,oP 9 (.call 81 [.t 6,.t 8]) [6,8]),(5,oP 10 (.not (.t 9)) [9])] (.cond (.t 10) (sK [2,3,10] (sR [(0,oP 4 (.mv (.c (.bool false))) [])] .ret)) (sK [10] .skip))) (.seq (sR [(0,oP 11
(.fa 2 (.t 2)) []),(1,oP 12 (.ld 1 false (.t 11)) [11]),(2,oP 13 (.fa 2 (.t 3)) []),(3,oP 14 (.ld 1 false (.t 13)) [13]),(4,oP 15 (.call 65 [.t 12,.t 14]) [12,14]),(5,oP 16 (.not (.t 15)) [15])] (.cond (.t 16) (sK
[2,3,16] (sR [(0,oP 4 (.mv (.c (.bool false))) [])] .ret)) (sK [16] .skip))) (.seq (sR [(0,oP 17 (.fa 3 (.t 2)) []),(1,oP 18 (.ld 1 false (.t 17)) [17]),(2,oP 19 (.fa 3 (.t 3)) []),(3,oP 20 (.ld 1 false (.t 19))
[19]),(4,oP 21 (.call 65 [.t 18,.t 20]) [2,3,18,20]),(5,oP 22 (.not (.t 21)) [21])] (.cond (.t 22) (sK [22] (sR [(0,oP 4 (.mv (.c (.bool false))) [])] .ret)) (sK [22] .skip))) (sR [(0,oP 4 (.mv (.c (.bool true))) [])]
.ret)))))
def C45 : CFn := ⟨23,2,[.t 4],B45⟩
abbrev B47 : CCode := (sR [(0,oP 4 (.mv (.c (.int .i64 0))) [4])] (sR [(0,oT 5 1 [1]),(1,oT 6 0 [0]),(2,oP 7 (.len (.t 6)) [6]),(3,oP 8 (.bin .sub (.t 5) (.t 7)) [5,7]),(4,oT 1 8 [8])] (.seq (sR [(0,oT 9 1 []),(1,oP 10
(.bin .lss (.t 9) (.c (.int .i64 0))) [9])] (.cond (.t 10) (sK [1,10] (sR [(0,oP 4 (.mv (.c (.int .i64 (-1)))) [])] .ret)) (sK [10] .skip))) (sR [(0,oT 11 1 [1]),(1,oT 4 11 [11])] .ret))))
def C47 : CFn := ⟨12,2,[.t 4],B47⟩
abbrev L50_0 : CCode := (.seq (sR [(0,oT 4 3 []),(1,oT 5 0 []),(2,oP 6 (.len (.t 5)) [5]),(3,oP 7 (.bin .lss (.t 4) (.t 6)) [4,6])] (.cond (.t 7) (sK [7] .skip) (sK [3,7] (.exit 0)))) (.seq (.block 1 (.seq (.reg true
[(0,oT 10 0 []),(1,oT 11 3 []),(2,oP 12 (.ia 3 (.t 10) (.t 11)) []),(3,oP 13 (.ld 3 true (.t 12)) [12]),(4,oP 14 (.call 83 [.t 13]) [10,11,13]),(5,oP 15 (.not (.t 14)) [14]),(6,oT 16 15 [15]),(7,oG 17 (.mv (.t 3)) 16
false []),(8,oG 18 (.bin .gtr (.t 17) (.c (.int .i64 0))) 16 false [17]),(9,oG 19 (.mv (.t 18)) 16 false [18]),(10,oG 20 (.mv (.t 0)) 19 true []),(11,oG 21 (.mv (.t 3)) 19 true []),(12,oG 22 (.bin .sub (.t 21) (.c (.int
.i64 1))) 19 true [21]),(13,oG 23 (.ia 3 (.t 20) (.t 22)) 19 true []),(14,oG 24 (.fa 0 (.t 23)) 19 true [23]),(15,oG 25 (.ld 1 false (.t 24)) 19 true [20,22,24]),(16,oG 26 (.mv (.t 0)) 19 true []),(17,oG 27 (.mv (.t 3))
19 true []),(18,oG 28 (.ia 3 (.t 26) (.t 27)) 19 true []),(19,oG 29 (.fa 0 (.t 28)) 19 true [28]),(20,oG 30 (.ld 1 false (.t 29)) 19 true [26,27,29]),(21,oG 31 (.bin .geq (.t 25) (.t 30)) 19 true [25,30]),(22,oG 32
(.pick (.t 19) (.t 31) (.c (.bool false))) 16 false [19,31]),(23,oP 33 (.pick (.t 16) (.c (.bool true)) (.t 32)) [16,32])]) (.cond (.t 33) (sK [0,3,33] (sR [(0,oP 2 (.mv (.c (.bool false))) [])] .ret)) (sK [33]
.skip)))) (.reg false [(0,oT 8 3 [3]),(1,oP 9 (.bin .add (.t 8) (.c (.int .i64 1))) [8]),(2,oT 3 9 [9])])))
abbrev B50 : CCode := (sR [(0,oP 2 (.mv (.c (.bool false))) [2])] (.seq (sR [(0,oP 3 (.mv (.c (.int .i64 0))) [])] (.block 0 (.loop L50_0))) (sR [(0,oT 34 0 [0]),(1,oP 35 (.len (.t 34)) [34]),(2,oP 36 (.bin .leq (.t 35)
(.c (.int .i64 4))) [35]),(3,oT 2 36 [36])] .ret)))
def C50 : CFn := ⟨37,1,[.t 2],B50⟩
abbrev L54_0 : CCode := (.seq (sR [(0,oT 8 4 []),(1,oT 9 0 []),(2,oP 10 (.len (.t 9)) [9]),(3,oP 11 (.bin .lss (.t 8) (.t 10)) [8,10])] (.cond (.t 11) (sK [11] .skip) (sK [0,4,11] (.exit 0)))) (.seq (.block 1 (.reg
false [(0,oT 14 3 []),(1,oT 15 4 []),(2,oT 16 0 []),(3,oT 17 4 []),(4,oP 18 (.ia 1 (.t 16) (.t 17)) []),(5,oP 19 (.ld 1 false (.t 18)) [16,17,18]),(6,oP 20 (.ia 1 (.t 14) (.t 15)) []),(7,⟨none,.st 1 (.t 20) (.t
19),none,[],[14,15,19,20]⟩)])) (.reg false [(0,oT 12 4 [4]),(1,oP 13 (.bin .add (.t 12) (.c (.int .i64 1))) [12]),(2,oT 4 13 [13])])))
abbrev B54 : CCode := (sR [(0,oP 2 (.mv (.c (.nils))) [2])] (sR [(0,oT 5 0 []),(1,oP 6 (.len (.t 5)) [5]),(2,oP 7 (.mk 1 8 [.int .i64 (0)] (.t 6) (.t 6)) [6]),(3,oT 3 7 [7])] (.seq (sR [(0,oP 4 (.mv (.c (.int .i64 0)))
[])] (.block 0 (.loop L54_0))) (sR [(0,oT 21 3 [3]),(1,oT 2 21 [21])] .ret))))
def C54 : CFn := ⟨22,1,[.t 2],B54⟩
abbrev L55_0 : CCode := (sR [(0,oP 8 (.bin .lss (.t 7) (.t 6)) [])] (.seq (.cond (.t 8) (sK [8] .skip) (sK [5,6,7,8] (.exit 0))) (.seq (.block 1 (sR [(0,oT 9 7 []),(1,oP 10 (.ia 3 (.t 5) (.t 7)) []),(2,oP 11 (.ld 3 true
(.t 10)) [10]),(3,oP 4 (.al [.str [],.int .i64 (0),.int .i64 (0)]) []),(4,oT 3 9 [9]),(5,⟨none,.st 3 (.t 4) (.t 11),none,[],[11]⟩)] (.seq (.reg true [(0,oP 12 (.ld 3 true (.t 4)) []),(1,oP 13 (.call 84 [.t 12])
[12]),(2,oP 14 (.not (.t 13)) [13]),(3,oT 15 14 [14]),(4,oG 16 (.mv (.t 3)) 15 false []),(5,oG 17 (.bin .gtr (.t 16) (.c (.int .i64 0))) 15 false [16]),(6,oG 18 (.mv (.t 17)) 15 false [17]),(7,oG 19 (.mv (.t 0)) 18 true
[]),(8,oG 20 (.mv (.t 3)) 18 true [3]),(9,oG 21 (.bin .sub (.t 20) (.c (.int .i64 1))) 18 true [20]),(10,oG 22 (.ia 3 (.t 19) (.t 21)) 18 true []),(11,oG 23 (.fa 0 (.t 22)) 18 true [22]),(12,oG 24 (.ld 1 false (.t 23))
18 true [19,21,23]),(13,oG 25 (.fa 0 (.t 4)) 18 true []),(14,oG 26 (.ld 1 false (.t 25)) 18 true [4,25]),(15,oG 27 (.bin .geq (.t 24) (.t 26)) 18 true [24,26]),(16,oG 28 (.pick (.t 18) (.t 27) (.c (.bool false))) 15
false [18,27]),(17,oP 29 (.pick (.t 15) (.c (.bool true)) (.t 28)) [15,28])]) (.cond (.t 29) (sK [0,5,6,7,29] (sR [(0,oP 2 (.mv (.c (.bool false))) [])] .ret)) (sK [29] .skip))))) (.reg false [(0,oP 30 (.bin .add (.t 7)
(.c (.int .i64 1))) [7]),(1,oT 7 30 [30])]))))
abbrev B55 : CCode := (sR [(0,oP 2 (.mv (.c (.bool false))) [2])] (.seq (sR [(0,oT 5 0 []),(1,oP 6 (.len (.t 5)) []),(2,oP 7 (.mv (.c (.int .i64 0))) [])] (.block 0 (.loop L55_0))) (sR [(0,oT 31 0 [0]),(1,oP 32 (.len
(.t 31)) [31]),(2,oP 33 (.bin .leq (.t 32) (.c (.int .i64 4))) [32]),(3,oT 2 33 [33])] .ret)))
def C55 : CFn := ⟨34,1,[.t 2],B55⟩
abbrev L65_0 : CCode := (.seq (sR [(0,oT 11 5 []),(1,oT 12 0 []),(2,oP 13 (.len (.t 12)) [12]),(3,oP 14 (.bin .lss (.t 11) (.t 13)) [11,13])] (.cond (.t 14) (sK [14] .skip) (sK [0,1,5,14] (.exit 0)))) (.seq (.block 1
(.seq (.reg true [(0,oT 17 0 []),(1,oT 18 5 []),(2,oP 19 (.ia 1 (.t 17) (.t 18)) []),(3,oP 20 (.ld 1 false (.t 19)) [17,18,19]),(4,oT 21 1 []),(5,oT 22 5 []),(6,oP 23 (.ia 1 (.t 21) (.t 22)) []),(7,oP 24 (.ld 1 false
(.t 23)) [21,22,23]),(8,oP 25 (.bin .neq (.t 20) (.t 24)) [20,24])]) (.cond (.t 25) (sK [0,1,5,25] (sR [(0,oP 4 (.mv (.c (.bool false))) [])] .ret)) (sK [25] .skip)))) (.reg false [(0,oT 15 5 [5]),(1,oP 16 (.bin .add
(.t 15) (.c (.int .i64 1))) [15]),(2,oT 5 16 [16])])))
abbrev B65 : CCode := (sR [(0,oP 4 (.mv (.c (.bool false))) [4])] (.seq (sR [(0,oT 6 0 []),(1,oP 7 (.len (.t 6)) [6]),(2,oT 8 1 []),(3,oP 9 (.len (.t 8)) [8]),(4,oP 10 (.bin .neq (.t 7) (.t 9)) [7,9])] (.cond (.t 10)
(sK [0,1,10] (sR [(0,oP 4 (.mv (.c (.bool false))) [])] .ret)) (sK [10] .skip))) (.seq (sR [(0,oP 5 (.mv (.c (.int .i64 0))) [])] (.block 0 (.loop L65_0))) (sR [(0,oP 4 (.mv (.c (.bool true))) [])] .ret))))
def C65 : CFn := ⟨26,2,[.t 4],B65⟩
abbrev B66 : CCode := (sR [(0,oP 2 (.box 2 (.t 0)) [0]),(1,oP 4 (.mv (.c (.int .i64 0))) [4])] (sR [(0,oP 5 (.fa 1 (.t 2)) []),(1,oP 6 (.ld 1 false (.t 5)) [5]),(2,oT 7 1 [1]),(3,oP 8 (.call 47 [.t 6,.t 7])
[2,6,7]),(4,oT 1 8 [8])] (.seq (sR [(0,oT 9 1 []),(1,oP 10 (.bin .lss (.t 9) (.c (.int .i64 0))) [9])] (.cond (.t 10) (sK [1,10] (sR [(0,oP 4 (.mv (.c (.int .i64 (-1)))) [])] .ret)) (sK [10] .skip))) (sR [(0,oT 11 1
[1]),(1,oT 4 11 [11])] .ret))))
def C66 : CFn := ⟨12,2,[.t 4],B66⟩
abbrev B67 : CCode := (sR [(0,oP 6 (.mv (.c (.bool false))) [6])] (sR [(0,oT 7 0 []),(1,oT 8 1 [1]),(2,oP 9 (.bin .geq (.t 7) (.t 8)) [7,8]),(3,oT 10 9 [9]),(4,oG 11 (.mv (.t 0)) 10 true [0]),(5,oG 12 (.mv (.t 2)) 10
true [2]),(6,oG 13 (.bin .leq (.t 11) (.t 12)) 10 true [11,12]),(7,oP 14 (.pick (.t 10) (.t 13) (.c (.bool false))) [10,13]),(8,oT 6 14 [14])] .ret))
def C67 : CFn := ⟨15,3,[.t 6],B67⟩
abbrev L68_0 : CCode := (.seq (sR [(0,oT 6 5 []),(1,oT 7 1 []),(2,oP 8 (.len (.t 7)) [7]),(3,oP 9 (.bin .lss (.t 6) (.t 8)) [6,8])] (.cond (.t 9) (sK [9] .skip) (sK [0,1,5,9] (.exit 0)))) (.seq (.block 1 (sR [(0,oT 12 0
[]),(1,oT 13 1 []),(2,oT 14 5 []),(3,oP 15 (.ia 1 (.t 13) (.t 14)) []),(4,oP 16 (.ld 1 false (.t 15)) [13,14,15]),(5,oP 17 (.call 94 [.t 12,.t 16]) [12,16]),(6,oP 18 (.not (.t 17)) [17])] (.cond (.t 18) (sK [0,1,5,18]
(sR [(0,oP 4 (.mv (.c (.bool false))) [])] .ret)) (sK [18] .skip)))) (.reg false [(0,oT 10 5 [5]),(1,oP 11 (.bin .add (.t 10) (.c (.int .i64 1))) [10]),(2,oT 5 11 [11])])))
abbrev B68 : CCode := (sR [(0,oP 4 (.mv (.c (.bool false))) [4])] (.seq (sR [(0,oP 5 (.mv (.c (.int .i64 0))) [])] (.block 0 (.loop L68_0))) (sR [(0,oP 4 (.mv (.c (.bool true))) [])] .ret)))
def C68 : CFn := ⟨19,2,[.t 4],B68⟩
abbrev B69 : CCode := (sR [(0,oP 3 (.box 2 (.t 1)) [1]),(1,oP 4 (.mv (.c (.nils))) [4])] (.seq (.seq (.reg true [(0,oP 5 (.fa 0 (.t 3)) []),(1,oP 6 (.ld 1 false (.t 5)) [5]),(2,oT 7 0 []),(3,oP 8 (.len (.t 7))
[7]),(4,oP 9 (.bin .sub (.t 8) (.c (.int .i64 1))) [8]),(5,oP 10 (.call 67 [.t 6,(.c (.int .i64 0)),.t 9]) [6,9]),(6,oP 11 (.not (.t 10)) [10]),(7,oT 12 11 [11]),(8,oG 13 (.mv (.t 0)) 12 false []),(9,oG 14 (.fa 0 (.t
3)) 12 false []),(10,oG 15 (.ld 1 false (.t 14)) 12 false [14]),(11,oG 16 (.ia 3 (.t 13) (.t 15)) 12 false []),(12,oG 17 (.fa 2 (.t 16)) 12 false [16]),(13,oG 18 (.ld 1 false (.t 17)) 12 false [13,15,17]),(14,oG 19 (.fa
1 (.t 3)) 12 false []),(15,oG 20 (.ld 1 false (.t 19)) 12 false [19]),(16,oG 21 (.len (.t 20)) 12 false [20]),(17,oG 22 (.call 67 [.t 18,(.c (.int .i64 0)),.t 21]) 12 false [18,21]),(18,oG 23 (.not (.t 22)) 12 false
[22]),(19,oP 24 (.pick (.t 12) (.c (.bool true)) (.t 23)) [12,23])]) (.cond (.t 24) (sK [0,3,24] (sR [(0,oP 25 (.bsl 1 0 [.int .i64 (0)] []) []),(1,oT 4 25 [25])] .ret)) (sK [24] .skip))) (.seq (.reg true [(0,oP 26 (.fa
1 (.t 3)) []),(1,oP 27 (.ld 1 false (.t 26)) [26]),(2,oT 28 0 [0]),(3,oP 29 (.fa 0 (.t 3)) []),(4,oP 30 (.ld 1 false (.t 29)) [29]),(5,oP 31 (.ia 3 (.t 28) (.t 30)) []),(6,oP 32 (.fa 2 (.t 31)) [31]),(7,oP 33 (.ld 1
false (.t 32)) [28,30,32]),(8,oP 34 (.sls 1 (.t 27) none (some (.t 33)) none) [3,27,33]),(9,oP 35 (.bld [.int .i64 (0),.nils] [(1,1,(.t 34))]) [34]),(10,oP 36 (.call 70 [.t 35]) [35]),(11,oT 4 36 [36])]) .ret)))
def C69 : CFn := ⟨37,2,[.t 4],B69⟩
abbrev L70_0 : CCode := (.seq (sR [(0,oT 6 4 []),(1,oP 7 (.bin .lss (.t 6) (.c (.int .i64 4))) [6])] (.cond (.t 7) (sK [7] .skip) (sK [1,4,7] (.exit 0)))) (.seq (.block 1 (sR [(0,oP 10 (.fa 1 (.t 1)) []),(1,oP 11 (.ld 1
false (.t 10)) [10]),(2,oT 12 4 []),(3,oP 13 (.call 94 [.t 11,.t 12]) [11,12])] (.cond (.t 13) (sK [13] (.reg false [(0,oT 14 3 [3]),(1,oT 15 4 []),(2,oP 16 (.bsl 1 1 [.int .i64 (0)] [(0,1,(.t 15))]) [15]),(3,oP 17
(.app 1 8 (.t 14) (.t 16)) [14,16]),(4,oT 3 17 [17])])) (sK [13] .skip)))) (.reg false [(0,oT 8 4 [4]),(1,oP 9 (.bin .add (.t 8) (.c (.int .i64 1))) [8]),(2,oT 4 9 [9])])))
abbrev B70 : CCode := (sR [(0,oP 1 (.box 2 (.t 0)) [0]),(1,oP 2 (.mv (.c (.nils))) [2])] (sR [(0,oP 5 (.bsl 1 0 [.int .i64 (0)] []) []),(1,oT 3 5 [5])] (.seq (sR [(0,oP 4 (.mv (.c (.int .i64 0))) [])] (.block 0 (.loop
L70_0))) (sR [(0,oT 18 3 [3]),(1,oT 2 18 [18])] .ret))))
def C70 : CFn := ⟨19,1,[.t 2],B70⟩
abbrev B71 : CCode := (sR [(0,oP 2 (.mv (.c (.str []))) [2])] (sR [(0,oT 6 0 []),(1,oP 7 (.call 95 [.t 6]) [6]),(2,oT 5 7 [7]),(3,oP 8 (.ex (.t 5) 0) []),(4,oP 9 (.ex (.t 5) 1) [5]),(5,oT 3 8 [8]),(6,oT 4 9 [9])] (.seq
(sR [(0,oT 10 4 [4])] (.cond (.t 10) (sK [0,10] (sR [(0,oT 11 3 [3]),(1,oP 12 (.call 25 [.t 11]) [11]),(2,oT 2 12 [12])] .ret)) (sK [3,10] .skip))) (.seq (sR [(0,oT 13 0 []),(1,oP 14 (.call 67 [.t 13,(.c (.int .i64
0)),(.c (.int .i64 3))]) [13]),(2,oP 15 (.not (.t 14)) [14])] (.cond (.t 15) (sK [0,15] (sR [(0,oP 2 (.mv (.c (.str []))) [])] .ret)) (sK [15] .skip))) (sR [(0,oT 16 0 []),(1,oT 17 0 [0]),(2,oP 18 (.bin .add (.t 17) (.c
(.int .i64 1))) [17]),(3,oP 19 (.sst (.c (.str [120,121,122,119])) (some (.t 16)) (some (.t 18))) [16,18]),(4,oT 2 19 [19])] .ret)))))
def C71 : CFn := ⟨20,1,[.t 2],B71⟩
abbrev B72 : CCode := (sR [(0,oP 1 (.box 2 (.t 0)) [0]),(1,oP 2 (.al [.int .i64 (0),.nils]) [])] (sR [(0,oP 3 (.al [.int .i64 (0),.nils]) [])] (sR [(0,oP 4 (.fa 0 (.t 1)) []),(1,oP 5 (.ld 1 false (.t 4)) [4]),(2,oP 6
(.fa 0 (.t 3)) []),(3,⟨none,.st 1 (.t 6) (.t 5),none,[],[5,6]⟩)] (sR [(0,oP 7 (.fa 1 (.t 1)) []),(1,oP 8 (.ld 1 false (.t 7)) [7]),(2,oP 9 (.call 54 [.t 8]) [1,8]),(3,oP 10 (.fa 1 (.t 3)) []),(4,⟨none,.st 1 (.t 10) (.t
9),none,[],[9,10]⟩)] (sR [(0,oP 11 (.ld 2 true (.t 3)) []),(1,⟨none,.st 2 (.t 2) (.t 11),none,[],[3,11]⟩)] .ret)))))
def C72 : CFn := ⟨12,1,[.m 2 2 true],B72⟩
abbrev B73 : CCode := (sR [(0,oP 6 (.mv (.c (.bool false))) [6])] (sR [(0,oT 7 1 [1]),(1,oT 8 0 []),(2,oP 9 (.bin .leq (.t 7) (.t 8)) [7,8]),(3,oT 10 9 [9]),(4,oG 11 (.mv (.t 0)) 10 true [0]),(5,oG 12 (.mv (.t 2)) 10
true [2]),(6,oG 13 (.bin .leq (.t 11) (.t 12)) 10 true [11,12]),(7,oP 14 (.pick (.t 10) (.t 13) (.c (.bool false))) [10,13]),(8,oT 6 14 [14])] .ret))
def C73 : CFn := ⟨15,3,[.t 6],B73⟩
abbrev B74 : CCode := (sR [(0,oP 4 (.mv (.c (.bool false))) [4])] (sR [(0,oT 5 0 [0]),(1,oT 6 1 [1]),(2,oP 7 (.call 96 [.t 5,.t 6]) [5,6]),(3,oP 8 (.bin .geq (.t 7) (.c (.int .i64 0))) [7]),(4,oT 4 8 [8])] .ret))
def C74 : CFn := ⟨9,2,[.t 4],B74⟩
abbrev B75 : CCode := (sR [(0,oP 2 (.mv (.c (.bool false))) [2])] (sR [(0,oT 3 0 [0]),(1,oP 4 (.call 73 [.t 3,(.c (.int .i64 (-10))),(.c (.int .i64 3))]) [3]),(2,oP 5 (.not (.t 4)) [4]),(3,oT 2 5 [5])] .ret))
def C75 : CFn := ⟨6,1,[.t 2],B75⟩
abbrev B76 : CCode := (sR [(0,oP 3 (.box 1 (.t 1)) [1]),(1,oP 4 (.mv (.c (.bool false))) [4])] (sR [(0,oT 5 0 [0]),(1,oP 6 (.fn 97 [.t 3]) []),(2,oP 7 (.call 74 [.t 5,.t 6]) [3,5,6]),(3,oP 8 (.not (.t 7)) [7]),(4,oT 4 8
[8])] .ret))
def C76 : CFn := ⟨9,2,[.t 4],B76⟩
abbrev B77 : CCode := (sR [(0,oP 3 (.box 2 (.t 1)) [1]),(1,oP 4 (.mv (.c (.nils))) [4])] (.seq (.seq (.reg true [(0,oP 5 (.fa 0 (.t 3)) []),(1,oP 6 (.ld 1 false (.t 5)) [5]),(2,oT 7 0 []),(3,oP 8 (.len (.t 7))
[7]),(4,oP 9 (.bin .sub (.t 8) (.c (.int .i64 1))) [8]),(5,oP 10 (.call 73 [.t 6,(.c (.int .i64 0)),.t 9]) [6,9]),(6,oP 11 (.not (.t 10)) [10]),(7,oT 12 11 [11]),(8,oG 13 (.mv (.t 0)) 12 false []),(9,oG 14 (.fa 0 (.t
3)) 12 false []),(10,oG 15 (.ld 1 false (.t 14)) 12 false [14]),(11,oG 16 (.ia 3 (.t 13) (.t 15)) 12 false []),(12,oG 17 (.fa 2 (.t 16)) 12 false [16]),(13,oG 18 (.ld 1 false (.t 17)) 12 false [13,15,17]),(14,oG 19 (.fa
1 (.t 3)) 12 false []),(15,oG 20 (.ld 1 false (.t 19)) 12 false [19]),(16,oG 21 (.len (.t 20)) 12 false [20]),(17,oG 22 (.call 73 [.t 18,(.c (.int .i64 0)),.t 21]) 12 false [18,21]),(18,oG 23 (.not (.t 22)) 12 false
[22]),(19,oP 24 (.pick (.t 12) (.c (.bool true)) (.t 23)) [12,23])]) (.cond (.t 24) (sK [0,3,24] (sR [(0,oP 4 (.mv (.c (.nils))) [])] .ret)) (sK [24] .skip))) (.seq (.reg true [(0,oP 25 (.fa 1 (.t 3)) []),(1,oP 26 (.ld
1 false (.t 25)) [25]),(2,oT 27 0 [0]),(3,oP 28 (.fa 0 (.t 3)) []),(4,oP 29 (.ld 1 false (.t 28)) [28]),(5,oP 30 (.ia 3 (.t 27) (.t 29)) []),(6,oP 31 (.fa 2 (.t 30)) [30]),(7,oP 32 (.ld 1 false (.t 31))
[27,29,31]),(8,oP 33 (.sls 1 (.t 26) none (some (.t 32)) none) [3,26,32]),(9,oP 34 (.bld [.int .i64 (0),.nils] [(1,1,(.t 33))]) [33]),(10,oP 35 (.call 78 [.t 34]) [34]),(11,oT 4 35 [35])]) .ret)))
def C77 : CFn := ⟨36,2,[.t 4],B77⟩
abbrev L78_0 : CCode := (sR [(0,oP 11 (.bin .lss (.t 10) (.t 9)) [])] (.seq (.cond (.t 11) (sK [11] .skip) (sK [1,8,9,10,11] (.exit 0))) (.seq (.block 1 (sR [(0,oP 12 (.ia 1 (.t 8) (.t 10)) []),(1,oP 13 (.ld 1 false (.t
12)) [12]),(2,oT 5 13 [13])] (sR [(0,oT 14 5 []),(1,oP 15 (.call 73 [.t 14,(.c (.int .i64 0)),(.c (.int .i64 3))]) [14])] (.cond (.t 15) (sK [15] (.reg false [(0,oT 16 3 [3]),(1,oT 17 5 [5]),(2,oP 18 (.bsl 1 1 [.int
.i64 (0)] [(0,1,(.t 17))]) [17]),(3,oP 19 (.app 1 8 (.t 16) (.t 18)) [16,18]),(4,oT 3 19 [19])])) (sK [5,15] .skip))))) (.reg false [(0,oP 20 (.bin .add (.t 10) (.c (.int .i64 1))) [10]),(1,oT 10 20 [20])]))))
abbrev B78 : CCode := (sR [(0,oP 1 (.box 2 (.t 0)) [0]),(1,oP 2 (.mv (.c (.nils))) [2])] (sR [(0,oP 6 (.bsl 1 0 [.int .i64 (0)] []) []),(1,oT 3 6 [6])] (.seq (sR [(0,oP 7 (.fa 1 (.t 1)) []),(1,oP 8 (.ld 1 false (.t 7))
[7]),(2,oP 9 (.len (.t 8)) []),(3,oP 10 (.mv (.c (.int .i64 0))) [])] (.block 0 (.loop L78_0))) (sR [(0,oT 21 3 [3]),(1,oP 22 (.call 99 [.t 21,(.c (.nils))]) [21]),(2,oT 2 22 [22])] .ret))))
def C78 : CFn := ⟨23,1,[.t 2],B78⟩
abbrev B79 : CCode := (sR [(0,oP 2 (.mv (.c (.str []))) [2])] (.seq (sR [(0,oT 6 0 []),(1,oP 7 (.call 100 [.t 6]) [6]),(2,oT 5 7 [7]),(3,oP 8 (.ex (.t 5) 0) []),(4,oP 9 (.ex (.t 5) 1) [5]),(5,oT 3 8 [8]),(6,oT 4 9 [9])]
(sR [(0,oT 10 4 [4])] (.cond (.t 10) (sK [0,10] (sR [(0,oT 11 3 [3]),(1,oP 12 (.call 30 [.t 11]) [11]),(2,oT 2 12 [12])] .ret)) (sK [3,10] .skip)))) (.seq (sR [(0,oT 13 0 []),(1,oP 14 (.call 73 [.t 13,(.c (.int .i64
0)),(.c (.int .i64 3))]) [13])] (.cond (.t 14) (sK [14] (sR [(0,oT 15 0 []),(1,oT 16 0 [0]),(2,oP 17 (.bin .add (.t 16) (.c (.int .i64 1))) [16]),(3,oP 18 (.sst (.c (.str [120,121,122,119])) (some (.t 15)) (some (.t
17))) [15,17]),(4,oT 2 18 [18])] .ret)) (sK [0,14] .skip))) (sR [(0,oP 2 (.mv (.c (.str []))) [])] .ret))))
def C79 : CFn := ⟨19,1,[.t 2],B79⟩
abbrev B80 : CCode := (sR [(0,oP 4 (.mv (.c (.str []))) [4])] (sR [(0,oT 6 0 []),(1,oT 7 1 []),(2,oP 8 (.sls 1 (.t 6) none (some (.t 7)) none) [6,7]),(3,oP 9 (.call 31 [.t 8,(.c (.str []))]) [8]),(4,oT 5 9 [9])] (.seq
(sR [(0,oT 10 1 []),(1,oT 11 0 []),(2,oP 12 (.len (.t 11)) [11]),(3,oP 13 (.bin .lss (.t 10) (.t 12)) [10,12])] (.cond (.t 13) (sK [13] (.reg false [(0,oT 14 5 [5]),(1,oT 15 0 [0]),(2,oT 16 1 [1]),(3,oP 17 (.sls 1 (.t
15) (some (.t 16)) none none) [15,16]),(4,oP 18 (.call 31 [.t 17,(.c (.str []))]) [17]),(5,oP 19 (.bin .add (.c (.str [124])) (.t 18)) [18]),(6,oP 20 (.bin .add (.t 14) (.t 19)) [14,19]),(7,oT 5 20 [20])])) (sK [0,1,13]
.skip))) (sR [(0,oT 21 5 [5]),(1,oT 4 21 [21])] .ret))))
def C80 : CFn := ⟨22,2,[.t 4],B80⟩
abbrev B81 : CCode := (sR [(0,oP 2 (.box 2 (.t 0)) [0]),(1,oP 3 (.box 2 (.t 1)) [1]),(2,oP 4 (.mv (.c (.bool false))) [4])] (.seq (sR [(0,oP 5 (.fa 0 (.t 2)) []),(1,oP 6 (.ld 1 false (.t 5)) [5]),(2,oP 7 (.fa 0 (.t 3))
[]),(3,oP 8 (.ld 1 false (.t 7)) [7]),(4,oP 9 (.bin .neq (.t 6) (.t 8)) [6,8])] (.cond (.t 9) (sK [2,3,9] (sR [(0,oP 4 (.mv (.c (.bool false))) [])] .ret)) (sK [9] .skip))) (.seq (sR [(0,oP 10 (.fa 1 (.t 2)) []),(1,oP
11 (.ld 1 false (.t 10)) [10]),(2,oP 12 (.fa 1 (.t 3)) []),(3,oP 13 (.ld 1 false (.t 12)) [12]),(4,oP 14 (.call 65 [.t 11,.t 13]) [2,3,11,13]),(5,oP 15 (.not (.t 14)) [14])] (.cond (.t 15) (sK [15] (sR [(0,oP 4 (.mv (.c
(.bool false))) [])] .ret)) (sK [15] .skip))) (sR [(0,oP 4 (.mv (.c (.bool true))) [])] .ret))))
def C81 : CFn := ⟨16,2,[.t 4],B81⟩
abbrev B83 : CCode := (sR [(0,oP 1 (.box 3 (.t 0)) [0]),(1,oP 2 (.mv (.c (.bool false))) [2])] (sR [(0,oP 3 (.fa 0 (.t 1)) []),(1,oP 4 (.ld 1 false (.t 3)) [3]),(2,oP 5 (.lens (.t 4)) [4]),(3,oP 6 (.bin .eql (.t 5) (.c
(.int .i64 1))) [5]),(4,oT 7 6 [6]),(5,oG 8 (.fa 0 (.t 1)) 7 true []),(6,oG 9 (.ld 1 false (.t 8)) 7 true [8]),(7,oG 10 (.ix (.t 9) (.c (.int .i64 0))) 7 true [9]),(8,oG 11 (.bin .geq (.t 10) (.c (.int .u8 (97)))) 7
true [10]),(9,oP 12 (.pick (.t 7) (.t 11) (.c (.bool false))) [7,11]),(10,oT 13 12 [12]),(11,oG 14 (.fa 0 (.t 1)) 13 true []),(12,oG 15 (.ld 1 false (.t 14)) 13 true [14]),(13,oG 16 (.ix (.t 15) (.c (.int .i64 0))) 13
true [15]),(14,oG 17 (.bin .leq (.t 16) (.c (.int .u8 (122)))) 13 true [16]),(15,oP 18 (.pick (.t 13) (.t 17) (.c (.bool false))) [13,17]),(16,oT 19 18 [18]),(17,oG 20 (.fa 1 (.t 1)) 19 true []),(18,oG 21 (.ld 1 false
(.t 20)) 19 true [20]),(19,oG 22 (.call 67 [.t 21,(.c (.int .i64 1)),(.c (.int .i64 3))]) 19 true [21]),(20,oP 23 (.pick (.t 19) (.t 22) (.c (.bool false))) [19,22]),(21,oT 24 23 [23]),(22,oG 25 (.fa 2 (.t 1)) 24 true
[]),(23,oG 26 (.ld 1 false (.t 25)) 24 true [25]),(24,oG 27 (.fa 1 (.t 1)) 24 true []),(25,oG 28 (.ld 1 false (.t 27)) 24 true [1,27]),(26,oG 29 (.call 67 [.t 26,(.c (.int .i64 0)),.t 28]) 24 true [26,28]),(27,oP 30
(.pick (.t 24) (.t 29) (.c (.bool false))) [24,29]),(28,oT 2 30 [30])] .ret))
def C83 : CFn := ⟨31,1,[.t 2],B83⟩
abbrev B84 : CCode := (sR [(0,oP 1 (.box 3 (.t 0)) [0]),(1,oP 2 (.mv (.c (.bool false))) [2])] (sR [(0,oP 3 (.fa 0 (.t 1)) []),(1,oP 4 (.ld 1 false (.t 3)) [3]),(2,oP 5 (.lens (.t 4)) [4]),(3,oP 6 (.bin .eql (.t 5) (.c
(.int .i64 1))) [5]),(4,oT 7 6 [6]),(5,oG 8 (.fa 0 (.t 1)) 7 true []),(6,oG 9 (.ld 1 false (.t 8)) 7 true [8]),(7,oG 10 (.ix (.t 9) (.c (.int .i64 0))) 7 true [9]),(8,oG 11 (.bin .geq (.t 10) (.c (.int .u8 (97)))) 7
true [10]),(9,oP 12 (.pick (.t 7) (.t 11) (.c (.bool false))) [7,11]),(10,oT 13 12 [12]),(11,oG 14 (.fa 0 (.t 1)) 13 true []),(12,oG 15 (.ld 1 false (.t 14)) 13 true [14]),(13,oG 16 (.ix (.t 15) (.c (.int .i64 0))) 13
true [15]),(14,oG 17 (.bin .leq (.t 16) (.c (.int .u8 (122)))) 13 true [16]),(15,oP 18 (.pick (.t 13) (.t 17) (.c (.bool false))) [13,17]),(16,oT 19 18 [18]),(17,oG 20 (.fa 1 (.t 1)) 19 true []),(18,oG 21 (.ld 1 false
(.t 20)) 19 true [20]),(19,oG 22 (.call 73 [.t 21,(.c (.int .i64 1)),(.c (.int .i64 3))]) 19 true [21]),(20,oP 23 (.pick (.t 19) (.t 22) (.c (.bool false))) [19,22]),(21,oT 24 23 [23]),(22,oG 25 (.fa 2 (.t 1)) 24 true
[]),(23,oG 26 (.ld 1 false (.t 25)) 24 true [25]),(24,oG 27 (.fa 1 (.t 1)) 24 true []),(25,oG 28 (.ld 1 false (.t 27)) 24 true [1,27]),(26,oG 29 (.call 73 [.t 26,(.c (.int .i64 0)),.t 28]) 24 true [26,28]),(27,oP 30
(.pick (.t 24) (.t 29) (.c (.bool false))) [24,29]),(28,oT 2 30 [30])] .ret))
def C84 : CFn := ⟨31,1,[.t 2],B84⟩
abbrev L94_0 : CCode := (.seq (sR [(0,oT 6 5 []),(1,oT 7 0 []),(2,oP 8 (.len (.t 7)) [7]),(3,oP 9 (.bin .lss (.t 6) (.t 8)) [6,8])] (.cond (.t 9) (sK [9] .skip) (sK [0,1,5,9] (.exit 0)))) (.seq (.block 1 (sR [(0,oT 12 0
[]),(1,oT 13 5 []),(2,oP 14 (.ia 1 (.t 12) (.t 13)) []),(3,oP 15 (.ld 1 false (.t 14)) [12,13,14]),(4,oT 16 1 []),(5,oP 17 (.bin .eql (.t 15) (.t 16)) [15,16])] (.cond (.t 17) (sK [0,1,5,17] (sR [(0,oP 4 (.mv (.c (.bool
true))) [])] .ret)) (sK [17] .skip)))) (.reg false [(0,oT 10 5 [5]),(1,oP 11 (.bin .add (.t 10) (.c (.int .i64 1))) [10]),(2,oT 5 11 [11])])))
abbrev B94 : CCode := (sR [(0,oP 4 (.mv (.c (.bool false))) [4])] (.seq (sR [(0,oP 5 (.mv (.c (.int .i64 0))) [])] (.block 0 (.loop L94_0))) (sR [(0,oP 4 (.mv (.c (.bool false))) [])] .ret)))
def C94 : CFn := ⟨18,2,[.t 4],B94⟩
abbrev B95 : CCode := (sR [(0,oP 2 (.mv (.c (.int .i64 0))) [2]),(1,oP 3 (.mv (.c (.bool false))) [3])] (.seq (sR [(0,oT 4 0 []),(1,oP 5 (.bin .geq (.t 4) (.c (.int .i64 0))) [4]),(2,oT 6 5 [5]),(3,oG 7 (.mv (.t 0)) 6
false []),(4,oG 8 (.bin .sub (.c (.int .i64 (-1))) (.t 7)) 6 false [7]),(5,oG 9 (.call 67 [.t 8,(.c (.int .i64 0)),(.c (.int .i64 9))]) 6 false [8]),(6,oG 10 (.not (.t 9)) 6 false [9]),(7,oP 11 (.pick (.t 6) (.c (.bool
true)) (.t 10)) [6,10])] (.cond (.t 11) (sK [0,11] (sR [(0,oP 2 (.mv (.c (.int .i64 0))) []),(1,oP 3 (.mv (.c (.bool false))) [])] .ret)) (sK [11] .skip))) (sR [(0,oT 12 0 [0]),(1,oP 13 (.bin .sub (.c (.int .i64 (-1)))
(.t 12)) [12]),(2,oT 2 13 [13]),(3,oP 3 (.mv (.c (.bool true))) [])] .ret)))
def C95 : CFn := ⟨14,1,[.t 2,.t 3],B95⟩
abbrev L96_0 : CCode := (sR [(0,oP 9 (.bin .lss (.t 8) (.t 7)) [])] (.seq (.cond (.t 9) (sK [9] .skip) (sK [0,1,7,8,9] (.exit 0))) (.seq (.block 1 (sR [(0,oT 10 8 []),(1,oT 5 10 [10])] (sR [(0,oT 11 1 []),(1,oT 12 0
[]),(2,oT 13 5 []),(3,oP 14 (.ia 1 (.t 12) (.t 13)) []),(4,oP 15 (.ld 1 false (.t 14)) [12,13,14]),(5,oP 16 (.callv (.t 11) [.t 15]) [11,15])] (.cond (.t 16) (sK [0,1,7,8,16] (sR [(0,oT 17 5 [5]),(1,oT 4 17 [17])]
.ret)) (sK [5,16] .skip))))) (.reg false [(0,oP 18 (.bin .add (.t 8) (.c (.int .i64 1))) [8]),(1,oT 8 18 [18])]))))
abbrev B96 : CCode := (sR [(0,oP 4 (.mv (.c (.int .i64 0))) [4])] (.seq (sR [(0,oT 6 0 []),(1,oP 7 (.len (.t 6)) [6]),(2,oP 8 (.mv (.c (.int .i64 0))) [])] (.block 0 (.loop L96_0))) (sR [(0,oP 4 (.mv (.c (.int .i64
(-1)))) [])] .ret)))
def C96 : CFn := ⟨19,2,[.t 4],B96⟩
abbrev B97 : CCode := (sR [(0,oP 3 (.mv (.c (.bool false))) [3])] (sR [(0,oP 4 (.ld 1 false (.t 1)) []),(1,oT 5 0 [0]),(2,oP 6 (.call 98 [.t 4,.t 5]) [1,4,5]),(3,oP 7 (.not (.t 6)) [6]),(4,oT 3 7 [7])] .ret))
def C97 : CFn := ⟨8,2,[.t 3],B97⟩
abbrev B98 : CCode := (sR [(0,oP 4 (.mv (.c (.bool false))) [4])] (sR [(0,oT 5 0 [0]),(1,oT 6 1 [1]),(2,oP 7 (.call 107 [.t 5,.t 6]) [5,6]),(3,oP 8 (.bin .geq (.t 7) (.c (.int .i64 0))) [7]),(4,oT 4 8 [8])] .ret))
def C98 : CFn := ⟨9,2,[.t 4],B98⟩
abbrev B99 : CCode := (sR [(0,oP 4 (.mv (.c (.nils))) [4])] (sR [(0,oT 6 0 [0]),(1,oT 7 1 [1]),(2,oP 8 (.bsl 1 2 [.nils] [(0,1,(.t 6)),(1,1,(.t 7))]) [6,7]),(3,oP 9 (.call 108 [.t 8]) [8]),(4,oT 5 9 [9])] (sR [(0,oT 10
5 []),(1,oP 11 (.call 109 [.t 10]) [10,11])] (sR [(0,oT 12 5 [5]),(1,oP 13 (.call 110 [.t 12]) [12]),(2,oT 4 13 [13])] .ret))))
def C99 : CFn := ⟨14,2,[.t 4],B99⟩
abbrev B100 : CCode := (sR [(0,oP 2 (.mv (.c (.int .i64 0))) [2]),(1,oP 3 (.mv (.c (.bool false))) [3])] (.seq (sR [(0,oT 4 0 []),(1,oP 5 (.call 73 [.t 4,(.c (.int .i64 (-10))),(.c (.int .i64 (-1)))]) [4]),(2,oP 6 (.not
(.t 5)) [5])] (.cond (.t 6) (sK [0,6] (sR [(0,oP 2 (.mv (.c (.int .i64 0))) []),(1,oP 3 (.mv (.c (.bool false))) [])] .ret)) (sK [6] .skip))) (sR [(0,oT 7 0 [0]),(1,oP 8 (.bin .sub (.c (.int .i64 (-1))) (.t 7))
[7]),(2,oT 2 8 [8]),(3,oP 3 (.mv (.c (.bool true))) [])] .ret)))
def C100 : CFn := ⟨9,1,[.t 2,.t 3],B100⟩
abbrev L107_0 : CCode := (sR [(0,oP 9 (.bin .lss (.t 8) (.t 7)) [])] (.seq (.cond (.t 9) (sK [9] .skip) (sK [0,1,7,8,9] (.exit 0))) (.seq (.block 1 (sR [(0,oT 10 8 []),(1,oT 5 10 [10])] (sR [(0,oT 11 1 []),(1,oT 12 0
[]),(2,oT 13 5 []),(3,oP 14 (.ia 1 (.t 12) (.t 13)) []),(4,oP 15 (.ld 1 false (.t 14)) [12,13,14]),(5,oP 16 (.bin .eql (.t 11) (.t 15)) [11,15])] (.cond (.t 16) (sK [0,1,7,8,16] (sR [(0,oT 17 5 [5]),(1,oT 4 17 [17])]
.ret)) (sK [5,16] .skip))))) (.reg false [(0,oP 18 (.bin .add (.t 8) (.c (.int .i64 1))) [8]),(1,oT 8 18 [18])]))))
abbrev B107 : CCode := (sR [(0,oP 4 (.mv (.c (.int .i64 0))) [4])] (.seq (sR [(0,oT 6 0 []),(1,oP 7 (.len (.t 6)) [6]),(2,oP 8 (.mv (.c (.int .i64 0))) [])] (.block 0 (.loop L107_0))) (sR [(0,oP 4 (.mv (.c (.int .i64
(-1)))) [])] .ret)))
def C107 : CFn := ⟨19,2,[.t 4],B107⟩
abbrev L108_0 : CCode := (sR [(0,oP 12 (.bin .lss (.t 11) (.t 10)) [])] (.seq (.cond (.t 12) (sK [12] .skip) (sK [9,10,11,12] (.exit 0))) (.seq (.block 1 (sR [(0,oP 13 (.ia 1 (.t 9) (.t 11)) []),(1,oP 14 (.ld 1 false
(.t 13)) [13]),(2,oT 5 14 [14])] (sR [(0,oT 15 3 [3]),(1,oT 16 5 [5]),(2,oP 17 (.len (.t 16)) [16]),(3,oP 18 (.bin .add (.t 15) (.t 17)) [15,17]),(4,oT 3 18 [18])] (sR [(0,oT 19 3 []),(1,oP 20 (.bin .lss (.t 19) (.c
(.int .i64 0))) [19])] (.cond (.t 20) (sK [20] (.reg false [(0,oP 21 .fail [21]),(1,⟨none,.fail,none,[],[]⟩)])) (sK [20] .skip)))))) (.reg false [(0,oP 22 (.bin .add (.t 11) (.c (.int .i64 1))) [11]),(1,oT 11 22
[22])]))))
abbrev L108_1 : CCode := (sR [(0,oP 28 (.bin .lss (.t 27) (.t 26)) [])] (.seq (.cond (.t 28) (sK [28] .skip) (sK [25,26,27,28] (.exit 2))) (.seq (.block 3 (sR [(0,oP 29 (.ia 1 (.t 25) (.t 27)) []),(1,oP 30 (.ld 1 false
(.t 29)) [29]),(2,oT 8 30 [30])] (.reg false [(0,oT 31 6 [6]),(1,oT 32 8 [8]),(2,oP 33 (.app 1 8 (.t 31) (.t 32)) [31,32]),(3,oT 6 33 [33])]))) (.reg false [(0,oP 34 (.bin .add (.t 27) (.c (.int .i64 1))) [27]),(1,oT 27
34 [34])]))))
abbrev B108 : CCode := (sR [(0,oP 2 (.mv (.c (.nils))) [2])] (sR [(0,oP 3 (.mv (.c (.int .i64 0))) [])] (.seq (sR [(0,oT 9 0 []),(1,oP 10 (.len (.t 9)) []),(2,oP 11 (.mv (.c (.int .i64 0))) [])] (.block 0 (.loop
L108_0))) (sR [(0,oT 23 3 [3]),(1,oP 24 (.call 116 [(.c (.nils)),.t 23]) [23]),(2,oT 6 24 [24])] (.seq (sR [(0,oT 25 0 [0]),(1,oP 26 (.len (.t 25)) []),(2,oP 27 (.mv (.c (.int .i64 0))) [])] (.block 2 (.loop L108_1)))
(sR [(0,oT 35 6 [6]),(1,oT 2 35 [35])] .ret))))))
def C108 : CFn := ⟨36,1,[.t 2],B108⟩
abbrev B109 : CCode := (sR [(0,oT 3 0 []),(1,oP 4 (.len (.t 3)) [3]),(2,oT 2 4 [4])] (.reg false [(0,oT 5 0 []),(1,oT 6 2 []),(2,oT 7 2 [2]),(3,oP 8 (.conv .u64 (.t 7)) [7]),(4,oP 9 (.call 118 [.t 8]) [8]),(5,oP 10
(.call 117 [.t 5,(.c (.int .i64 0)),.t 6,.t 9]) [5,6,9,10])]))
def C109 : CFn := ⟨11,1,[],B109⟩
abbrev L110_1 : CCode := (.seq (sR [(0,oT 29 5 []),(1,oT 30 4 []),(2,oP 31 (.len (.t 30)) [30]),(3,oP 32 (.bin .lss (.t 29) (.t 31)) [29,31])] (.cond (.t 32) (sK [32] .skip) (sK [4,5,32] (.exit 2)))) (.seq (.block 3
(.seq (.reg true [(0,oT 35 4 []),(1,oT 36 5 []),(2,oP 37 (.ia 1 (.t 35) (.t 36)) []),(3,oP 38 (.ld 1 false (.t 37)) [35,36,37]),(4,oT 39 4 []),(5,oT 40 5 []),(6,oP 41 (.bin .sub (.t 40) (.c (.int .i64 1))) [40]),(7,oP
42 (.ia 1 (.t 39) (.t 41)) []),(8,oP 43 (.ld 1 false (.t 42)) [39,41,42]),(9,oP 44 (.bin .neq (.t 38) (.t 43)) [38,43])]) (.cond (.t 44) (sK [44] (sR [(0,oT 45 0 []),(1,oT 46 3 []),(2,oT 47 4 []),(3,oT 48 5 []),(4,oP 49
(.ia 1 (.t 47) (.t 48)) []),(5,oP 50 (.ld 1 false (.t 49)) [47,48,49]),(6,oP 51 (.ia 1 (.t 45) (.t 46)) []),(7,⟨none,.st 1 (.t 51) (.t 50),none,[],[45,46,50,51]⟩)] (.reg false [(0,oT 52 3 [3]),(1,oP 53 (.bin .add (.t
52) (.c (.int .i64 1))) [52]),(2,oT 3 53 [53])]))) (sK [44] .skip)))) (.reg false [(0,oT 33 5 [5]),(1,oP 34 (.bin .add (.t 33) (.c (.int .i64 1))) [33]),(2,oT 5 34 [34])])))
abbrev L110_0 : CCode := (.seq (sR [(0,oT 10 3 []),(1,oT 11 0 []),(2,oP 12 (.len (.t 11)) [11]),(3,oP 13 (.bin .lss (.t 10) (.t 12)) [10,12])] (.cond (.t 13) (sK [13] .skip) (sK [3,13] (.exit 0)))) (.seq (.block 1 (.seq
(.reg true [(0,oT 16 0 []),(1,oT 17 3 []),(2,oP 18 (.ia 1 (.t 16) (.t 17)) []),(3,oP 19 (.ld 1 false (.t 18)) [16,17,18]),(4,oT 20 0 []),(5,oT 21 3 []),(6,oP 22 (.bin .sub (.t 21) (.c (.int .i64 1))) [21]),(7,oP 23 (.ia
1 (.t 20) (.t 22)) []),(8,oP 24 (.ld 1 false (.t 23)) [20,22,23]),(9,oP 25 (.bin .eql (.t 19) (.t 24)) [19,24])]) (.cond (.t 25) (sK [25] (sR [(0,oT 26 0 []),(1,oT 27 3 []),(2,oP 28 (.sls 1 (.t 26) (some (.t 27)) none
none) [26,27]),(3,oT 4 28 [28])] (.seq (sR [(0,oP 5 (.mv (.c (.int .i64 1))) [])] (.block 2 (.loop L110_1))) (sR [(0,oT 54 0 []),(1,oT 55 3 []),(2,oP 56 (.sls 1 (.t 54) (some (.t 55)) none none) [54,55]),(3,⟨none,.clr 1
[.int .i64 (0)] (.t 56),none,[],[56]⟩)] (sR [(0,oT 57 0 []),(1,oT 58 3 [3]),(2,oP 59 (.sls 1 (.t 57) none (some (.t 58)) none) [57,58]),(3,oT 2 59 [59])] .ret))))) (sK [25] .skip)))) (.reg false [(0,oT 14 3 [3]),(1,oP
15 (.bin .add (.t 14) (.c (.int .i64 1))) [14]),(2,oT 3 15 [15])])))
abbrev B110 : CCode := (sR [(0,oP 2 (.mv (.c (.nils))) [2])] (.seq (sR [(0,oT 6 0 []),(1,oP 7 (.len (.t 6)) [6]),(2,oP 8 (.bin .lss (.t 7) (.c (.int .i64 2))) [7])] (.cond (.t 8) (sK [8] (sR [(0,oT 9 0 []),(1,oT 2 9
[9])] .ret)) (sK [8] .skip))) (.seq (sR [(0,oP 3 (.mv (.c (.int .i64 1))) [])] (.block 0 (.loop L110_0))) (sR [(0,oT 60 0 []),(1,oT 2 60 [60])] .ret))))
def C110 : CFn := ⟨61,1,[.t 2],B110⟩
abbrev B111 : CCode := (sR [(0,oP 2 (.mv (.c (.bool false))) [2])] (sR [(0,oT 3 0 []),(1,oT 4 0 [0]),(2,oP 5 (.bin .neq (.t 3) (.t 4)) [3,4]),(3,oT 2 5 [5])] .ret))
def C111 : CFn := ⟨6,1,[.t 2],B111⟩
abbrev B116 : CCode := (sR [(0,oP 4 (.mv (.c (.nils))) [4])] (.seq (sR [(0,oT 5 1 []),(1,oP 6 (.bin .lss (.t 5) (.c (.int .i64 0))) [5])] (.cond (.t 6) (sK [6] (.reg false [(0,oP 7 .fail
[7]),(1,⟨none,.fail,none,[],[]⟩)])) (sK [6] .skip))) (.seq (sR [(0,oT 8 1 [1]),(1,oT 9 0 []),(2,oP 10 (.cap (.t 9)) [9]),(3,oT 11 0 []),(4,oP 12 (.len (.t 11)) [11]),(5,oP 13 (.bin .sub (.t 10) (.t 12)) [10,12]),(6,oP
14 (.bin .sub (.t 8) (.t 13)) [8,13]),(7,oT 1 14 [14])] (sR [(0,oT 15 1 []),(1,oP 16 (.bin .gtr (.t 15) (.c (.int .i64 0))) [15])] (.cond (.t 16) (sK [16] (.reg false [(0,oT 17 0 []),(1,oT 18 0 []),(2,oP 19 (.cap (.t
18)) [18]),(3,oP 20 (.sls 1 (.t 17) none (some (.t 19)) none) [17,19]),(4,oT 21 1 [1]),(5,oP 22 (.appm 1 8 [.int .i64 (0)] (.t 20) (.t 21)) [20,21]),(6,oT 23 0 [0]),(7,oP 24 (.len (.t 23)) [23]),(8,oP 25 (.sls 1 (.t 22)
none (some (.t 24)) none) [22,24]),(9,oT 0 25 [25])])) (sK [1,16] .skip)))) (sR [(0,oT 26 0 [0]),(1,oT 4 26 [26])] .ret))))
def C116 : CFn := ⟨27,2,[.t 4],B116⟩
abbrev L117_0 : CCode := (.block 1 (sR [(0,oT 19 2 []),(1,oT 20 1 []),(2,oP 21 (.bin .sub (.t 19) (.t 20)) [19,20]),(3,oT 10 21 [21])] (.seq (sR [(0,oT 22 10 []),(1,oP 23 (.bin .leq (.t 22) (.c (.int .i64 12))) [22])]
(.cond (.t 23) (sK [3,8,9,10,23] (sR [(0,oT 24 0 []),(1,oT 25 1 [1]),(2,oT 26 2 [2]),(3,oP 27 (.call 124 [.t 24,.t 25,.t 26]) [24,25,26,27])] .ret)) (sK [23] .skip))) (.seq (sR [(0,oT 28 3 []),(1,oP 29 (.bin .eql (.t
28) (.c (.int .i64 0))) [28])] (.cond (.t 29) (sK [3,8,9,10,29] (sR [(0,oT 30 0 []),(1,oT 31 1 [1]),(2,oT 32 2 [2]),(3,oP 33 (.call 125 [.t 30,.t 31,.t 32]) [30,31,32,33])] .ret)) (sK [29] .skip))) (.seq (sR [(0,oT 34 8
[]),(1,oP 35 (.not (.t 34)) [34])] (.cond (.t 35) (sK [35] (sR [(0,oT 36 0 []),(1,oT 37 1 []),(2,oT 38 2 []),(3,oP 39 (.call 126 [.t 36,.t 37,.t 38]) [36,37,38,39])] (.reg false [(0,oT 40 3 [3]),(1,oP 41 (.bin .sub (.t
40) (.c (.int .i64 1))) [40]),(2,oT 3 41 [41])]))) (sK [35] .skip))) (sR [(0,oT 43 0 []),(1,oT 44 1 []),(2,oT 45 2 []),(3,oP 46 (.call 127 [.t 43,.t 44,.t 45]) [43,44,45]),(4,oT 42 46 [46]),(5,oP 47 (.ex (.t 42) 0)
[]),(6,oP 48 (.ex (.t 42) 1) [42]),(7,oT 11 47 [47]),(8,oT 12 48 [48])] (.seq (sR [(0,oT 49 12 []),(1,oP 50 (.bin .eql (.t 49) (.c (.int .i64 2))) [49])] (.cond (.t 50) (sK [12,50] (sR [(0,oT 51 0 []),(1,oT 52 1
[]),(2,oT 53 2 []),(3,oP 54 (.call 128 [.t 51,.t 52,.t 53]) [51,52,53,54])] (sR [(0,oT 55 2 []),(1,oP 56 (.bin .sub (.t 55) (.c (.int .i64 1))) [55]),(2,oT 57 11 [11]),(3,oT 58 1 []),(4,oP 59 (.bin .sub (.t 57) (.t 58))
[57,58]),(5,oP 60 (.bin .sub (.t 56) (.t 59)) [56,59]),(6,oT 11 60 [60])] (.reg false [(0,oP 12 (.mv (.c (.int .i64 1))) [])])))) (sK [50] .skip))) (.seq (sR [(0,oT 61 8 []),(1,oT 62 61 [61]),(2,oG 63 (.mv (.t 9)) 62
true []),(3,oP 64 (.pick (.t 62) (.t 63) (.c (.bool false))) [62,63]),(4,oT 65 64 [64]),(5,oG 66 (.mv (.t 12)) 65 true [12]),(6,oG 67 (.bin .eql (.t 66) (.c (.int .i64 1))) 65 true [66]),(7,oP 68 (.pick (.t 65) (.t 67)
(.c (.bool false))) [65,67])] (.cond (.t 68) (sK [68] (sR [(0,oT 69 0 []),(1,oT 70 1 []),(2,oT 71 2 []),(3,oP 72 (.call 129 [.t 69,.t 70,.t 71]) [69,70,71])] (.cond (.t 72) (sK [1,2,3,8,9,10,11,72] .ret) (sK [72]
.skip)))) (sK [68] .skip))) (.seq (.seq (.reg true [(0,oT 73 1 []),(1,oP 74 (.bin .gtr (.t 73) (.c (.int .i64 0))) [73]),(2,oT 75 74 [74]),(3,oG 76 (.mv (.t 0)) 75 true []),(4,oG 77 (.mv (.t 1)) 75 true []),(5,oG 78
(.bin .sub (.t 77) (.c (.int .i64 1))) 75 true [77]),(6,oG 79 (.ia 1 (.t 76) (.t 78)) 75 true []),(7,oG 80 (.ld 1 false (.t 79)) 75 true [76,78,79]),(8,oG 81 (.mv (.t 0)) 75 true []),(9,oG 82 (.mv (.t 11)) 75 true
[]),(10,oG 83 (.ia 1 (.t 81) (.t 82)) 75 true []),(11,oG 84 (.ld 1 false (.t 83)) 75 true [81,82,83]),(12,oG 85 (.call 130 [.t 80,.t 84]) 75 true [80,84]),(13,oG 86 (.not (.t 85)) 75 true [85]),(14,oP 87 (.pick (.t 75)
(.t 86) (.c (.bool false))) [75,86])]) (.cond (.t 87) (sK [10,87] (sR [(0,oT 88 0 []),(1,oT 89 1 [1]),(2,oT 90 2 []),(3,oT 91 11 [11]),(4,oP 92 (.call 131 [.t 88,.t 89,.t 90,.t 91]) [88,89,90,91]),(5,oT 13 92 [92])] (sR
[(0,oT 93 13 [13]),(1,oT 1 93 [93])] (.exit 1)))) (sK [8,9,87] .skip))) (sR [(0,oT 95 0 []),(1,oT 96 1 []),(2,oT 97 2 []),(3,oT 98 11 [11]),(4,oP 99 (.call 132 [.t 95,.t 96,.t 97,.t 98]) [95,96,97,98]),(5,oT 94 99
[99]),(6,oP 100 (.ex (.t 94) 0) []),(7,oP 101 (.ex (.t 94) 1) [94]),(8,oT 14 100 [100]),(9,oT 15 101 [101])] (sR [(0,oT 102 15 [15]),(1,oT 9 102 [102])] (sR [(0,oT 103 14 []),(1,oT 104 1 []),(2,oP 105 (.bin .sub (.t
103) (.t 104)) [103,104]),(3,oT 106 2 []),(4,oT 107 14 []),(5,oP 108 (.bin .sub (.t 106) (.t 107)) [106,107]),(6,oT 16 105 [105]),(7,oT 17 108 [108])] (sR [(0,oT 109 10 [10]),(1,oP 110 (.bin .quo (.t 109) (.c (.int .i64
8))) [109]),(2,oT 18 110 [110])] (sR [(0,oT 111 16 []),(1,oT 112 17 []),(2,oP 113 (.bin .lss (.t 111) (.t 112)) [111,112])] (.cond (.t 113) (sK [17,113] (sR [(0,oT 114 16 [16]),(1,oT 115 18 [18]),(2,oP 116 (.bin .geq
(.t 114) (.t 115)) [114,115]),(3,oT 8 116 [116])] (sR [(0,oT 117 0 []),(1,oT 118 1 [1]),(2,oT 119 14 []),(3,oT 120 3 []),(4,oP 121 (.call 117 [.t 117,.t 118,.t 119,.t 120]) [117,118,119,120,121])] (.reg false [(0,oT 122
14 [14]),(1,oP 123 (.bin .add (.t 122) (.c (.int .i64 1))) [122]),(2,oT 1 123 [123])])))) (sK [16,113] (sR [(0,oT 124 17 [17]),(1,oT 125 18 [18]),(2,oP 126 (.bin .geq (.t 124) (.t 125)) [124,125]),(3,oT 8 126 [126])]
(sR [(0,oT 127 0 []),(1,oT 128 14 []),(2,oP 129 (.bin .add (.t 128) (.c (.int .i64 1))) [128]),(3,oT 130 2 [2]),(4,oT 131 3 []),(5,oP 132 (.call 117 [.t 127,.t 129,.t 130,.t 131]) [127,129,130,131,132])] (.reg false
[(0,oT 133 14 [14]),(1,oT 2 133 [133])])))))))))))))))))))
abbrev B117 : CCode := (sR [(0,oP 8 (.mv (.c (.bool true))) [])] (sR [(0,oP 9 (.mv (.c (.bool true))) [])] (.block 0 (.loop L117_0))))
def C117 : CFn := ⟨134,4,[],B117⟩
abbrev B118 : CCode := (sR [(0,oP 2 (.mv (.c (.int .i64 0))) [2])] (.seq (.cond (.c (.bool false)) (sR [(0,oT 3 0 [0]),(1,oP 4 (.conv .u32 (.t 3)) [3]),(2,oP 5 (.call 133 [.t 4]) [4]),(3,oT 2 5 [5])] .ret) .skip) (sR
[(0,oT 6 0 [0]),(1,oP 7 (.call 120 [.t 6]) [6]),(2,oT 2 7 [7])] .ret)))
def C118 : CFn := ⟨8,1,[.t 2],B118⟩
abbrev B120 : CCode := (sR [(0,oP 2 (.mv (.c (.int .i64 0))) [])] (.seq (sR [(0,oT 3 0 []),(1,oP 4 (.bin .geq (.t 3) (.c (.int .u64 (4294967296)))) [3])] (.cond (.t 4) (sK [2,4] (sR [(0,oT 5 0 [0]),(1,oP 6 (.bin .shr
(.t 5) (.c (.int .u64 (32)))) [5]),(2,oT 0 6 [6])] (.reg false [(0,oP 2 (.mv (.c (.int .i64 32))) [])]))) (sK [4] .skip))) (.seq (sR [(0,oT 7 0 []),(1,oP 8 (.bin .geq (.t 7) (.c (.int .u64 (65536)))) [7])] (.cond (.t 8)
(sK [8] (sR [(0,oT 9 0 [0]),(1,oP 10 (.bin .shr (.t 9) (.c (.int .u64 (16)))) [9]),(2,oT 0 10 [10])] (.reg false [(0,oT 11 2 [2]),(1,oP 12 (.bin .add (.t 11) (.c (.int .i64 16))) [11]),(2,oT 2 12 [12])]))) (sK [8]
.skip))) (.seq (sR [(0,oT 13 0 []),(1,oP 14 (.bin .geq (.t 13) (.c (.int .u64 (256)))) [13])] (.cond (.t 14) (sK [14] (sR [(0,oT 15 0 [0]),(1,oP 16 (.bin .shr (.t 15) (.c (.int .u64 (8)))) [15]),(2,oT 0 16 [16])] (.reg
false [(0,oT 17 2 [2]),(1,oP 18 (.bin .add (.t 17) (.c (.int .i64 8))) [17]),(2,oT 2 18 [18])]))) (sK [14] .skip))) (sR [(0,oT 19 2 [2]),(1,oT 20 0 [0]),(2,oP 21 (.conv .u8 (.t 20)) [20]),(3,oP 22 (.ix (.c (.str
[0,1,2,2,3,3,3,3,4,4,4,4,4,4,4,4,5,5,5,5,5,5,5,5,5,5,5,5,5,5,5,5,6,6,6,6,6,6,6,6,6,6,6,6,6,6,6,6,6,6,6,6,6,6,6,6,6,6,6,6,6,6,6,6,7,7,7,7,7,7,7,7,7,7,7,7,7,7,7,7,7,7,7,7,7,7,7,7,7,7,7,7,7,7,7,7,7,7,7,7,7,7,7,7,7,7,7,7,7,7,7,7,7,7,7,7,7,7,7,7,7,7,7,7,7,7,7,7,8,8,8,8,8,8,8,8,8,8,8,8,8,8,8,8,8,8,8,8,8,8,8,8,8,8,8,8,8,8,8,8,8,8,8,8,8,8,8,8,8,8,8,8,8,8,8,8,8,8,8,8,8,8,8,8,8,8,8,8,8,8,8,8,8,8,8,8,8,8,8,8,8,8,8,8,8,8,8,8,8,8,8,8,8,8,8,8,8,8,8,8,8,8,8,8,8,8,8,8,8,8,8,8,8,8,8,8,8,8,8,8,8,8,8,8,8,8,8,8,8,8,8,8,8,8,8,8])) (.t 21)) [21]),(4,oP 23 (.conv .i64 (.t 22)) [22]),(5,oP 24 (.bin .add (.t 19) (.t 23)) [19,23]),(6,oT 2 24 [24])] .ret)))))
def C120 : CFn := ⟨25,1,[.t 2],B120⟩
abbrev L124_1 : CCode := (.seq (.seq (.reg true [(0,oT 16 7 []),(1,oT 17 1 []),(2,oP 18 (.bin .gtr (.t 16) (.t 17)) [16,17]),(3,oT 19 18 [18]),(4,oG 20 (.mv (.t 0)) 19 true []),(5,oG 21 (.mv (.t 7)) 19 true []),(6,oG 22
(.ia 1 (.t 20) (.t 21)) 19 true []),(7,oG 23 (.ld 1 false (.t 22)) 19 true [20,21,22]),(8,oG 24 (.mv (.t 0)) 19 true []),(9,oG 25 (.mv (.t 7)) 19 true []),(10,oG 26 (.bin .sub (.t 25) (.c (.int .i64 1))) 19 true
[25]),(11,oG 27 (.ia 1 (.t 24) (.t 26)) 19 true []),(12,oG 28 (.ld 1 false (.t 27)) 19 true [24,26,27]),(13,oG 29 (.call 130 [.t 23,.t 28]) 19 true [23,28]),(14,oP 30 (.pick (.t 19) (.t 29) (.c (.bool false)))
[19,29])]) (.cond (.t 30) (sK [30] .skip) (sK [7,30] (.exit 2)))) (.seq (.block 3 (.reg true [(0,oT 33 0 []),(1,oT 34 7 []),(2,oT 35 0 []),(3,oT 36 7 []),(4,oP 37 (.bin .sub (.t 36) (.c (.int .i64 1))) [36]),(5,oT 38 0
[]),(6,oT 39 7 []),(7,oP 40 (.bin .sub (.t 39) (.c (.int .i64 1))) [39]),(8,oP 41 (.ia 1 (.t 38) (.t 40)) []),(9,oP 42 (.ld 1 false (.t 41)) [38,40,41]),(10,oT 43 0 []),(11,oT 44 7 []),(12,oP 45 (.ia 1 (.t 43) (.t 44))
[]),(13,oP 46 (.ld 1 false (.t 45)) [43,44,45]),(14,oP 47 (.ia 1 (.t 33) (.t 34)) []),(15,⟨none,.st 1 (.t 47) (.t 42),none,[],[33,34,42,47]⟩),(16,oP 48 (.ia 1 (.t 35) (.t 37)) []),(17,⟨none,.st 1 (.t 48) (.t
46),none,[],[35,37,46,48]⟩)])) (.reg false [(0,oT 31 7 [7]),(1,oP 32 (.bin .sub (.t 31) (.c (.int .i64 1))) [31]),(2,oT 7 32 [32])])))
abbrev L124_0 : CCode := (.seq (sR [(0,oT 10 6 []),(1,oT 11 2 []),(2,oP 12 (.bin .lss (.t 10) (.t 11)) [10,11])] (.cond (.t 12) (sK [12] .skip) (sK [1,2,6,12] (.exit 0)))) (.seq (.block 1 (sR [(0,oT 15 6 []),(1,oT 7 15
[15])] (.block 2 (.loop L124_1)))) (.reg false [(0,oT 13 6 [6]),(1,oP 14 (.bin .add (.t 13) (.c (.int .i64 1))) [13]),(2,oT 6 14 [14])])))
abbrev B124 : CCode := (sR [(0,oT 8 1 []),(1,oP 9 (.bin .add (.t 8) (.c (.int .i64 1))) [8]),(2,oT 6 9 [9])] (.block 0 (.loop L124_0)))
def C124 : CFn := ⟨49,3,[],B124⟩
abbrev L125_0 : CCode := (.seq (sR [(0,oT 18 9 []),(1,oP 19 (.bin .geq (.t 18) (.c (.int .i64 0))) [18])] (.cond (.t 19) (sK [19] .skip) (sK [9,19] (.exit 0)))) (.seq (.block 1 (.reg false [(0,oT 22 0 []),(1,oT 23 9
[]),(2,oT 24 8 []),(3,oT 25 6 []),(4,oP 26 (.call 136 [.t 22,.t 23,.t 24,.t 25]) [22,23,24,25,26])])) (.reg false [(0,oT 20 9 [9]),(1,oP 21 (.bin .sub (.t 20) (.c (.int .i64 1))) [20]),(2,oT 9 21 [21])])))
abbrev L125_1 : CCode := (.seq (sR [(0,oT 29 10 []),(1,oP 30 (.bin .geq (.t 29) (.c (.int .i64 0))) [29])] (.cond (.t 30) (sK [30] .skip) (sK [6,7,10,30] (.exit 2)))) (.seq (.block 3 (.seq (.reg true [(0,oT 33 0
[]),(1,oT 34 6 []),(2,oT 35 0 []),(3,oT 36 6 []),(4,oT 37 10 []),(5,oP 38 (.bin .add (.t 36) (.t 37)) [36,37]),(6,oT 39 0 []),(7,oT 40 6 []),(8,oT 41 10 []),(9,oP 42 (.bin .add (.t 40) (.t 41)) [40,41]),(10,oP 43 (.ia 1
(.t 39) (.t 42)) []),(11,oP 44 (.ld 1 false (.t 43)) [39,42,43]),(12,oT 45 0 []),(13,oT 46 6 []),(14,oP 47 (.ia 1 (.t 45) (.t 46)) []),(15,oP 48 (.ld 1 false (.t 47)) [45,46,47]),(16,oP 49 (.ia 1 (.t 33) (.t 34))
[]),(17,⟨none,.st 1 (.t 49) (.t 44),none,[],[33,34,44,49]⟩),(18,oP 50 (.ia 1 (.t 35) (.t 38)) []),(19,⟨none,.st 1 (.t 50) (.t 48),none,[],[35,38,48,50]⟩)]) (.reg false [(0,oT 51 0 []),(1,oT 52 7 []),(2,oT 53 10
[]),(3,oT 54 6 []),(4,oP 55 (.call 136 [.t 51,.t 52,.t 53,.t 54]) [51,52,53,54,55])]))) (.reg false [(0,oT 31 10 [10]),(1,oP 32 (.bin .sub (.t 31) (.c (.int .i64 1))) [31]),(2,oT 10 32 [32])])))
abbrev B125 : CCode := (sR [(0,oT 11 1 []),(1,oT 6 11 [11])] (sR [(0,oP 7 (.mv (.c (.int .i64 0))) [])] (sR [(0,oT 12 2 [2]),(1,oT 13 1 [1]),(2,oP 14 (.bin .sub (.t 12) (.t 13)) [12,13]),(3,oT 8 14 [14])] (.seq (sR
[(0,oT 15 8 []),(1,oP 16 (.bin .sub (.t 15) (.c (.int .i64 1))) [15]),(2,oP 17 (.bin .quo (.t 16) (.c (.int .i64 2))) [16]),(3,oT 9 17 [17])] (.block 0 (.loop L125_0))) (sR [(0,oT 27 8 [8]),(1,oP 28 (.bin .sub (.t 27)
(.c (.int .i64 1))) [27]),(2,oT 10 28 [28])] (.block 2 (.loop L125_1)))))))
def C125 : CFn := ⟨56,3,[],B125⟩
abbrev L126_0 : CCode := (.seq (sR [(0,oT 26 9 []),(1,oT 27 1 []),(2,oT 28 6 []),(3,oP 29 (.bin .quo (.t 28) (.c (.int .i64 4))) [28]),(4,oP 30 (.bin .mul (.t 29) (.c (.int .i64 2))) [29]),(5,oP 31 (.bin .add (.t 27)
(.t 30)) [27,30]),(6,oP 32 (.bin .add (.t 31) (.c (.int .i64 1))) [31]),(7,oP 33 (.bin .leq (.t 26) (.t 32)) [26,32])] (.cond (.t 33) (sK [33] .skip) (sK [1,6,7,8,9,33] (.exit 0)))) (.seq (.block 1 (sR [(0,oP 36 (.call
138 [.t 7]) []),(1,oT 37 8 []),(2,oP 38 (.bin .sub (.t 37) (.c (.int .u64 (1)))) [37]),(3,oP 39 (.bin .and (.t 36) (.t 38)) [36,38]),(4,oP 40 (.conv .i64 (.t 39)) [39]),(5,oT 10 40 [40])] (.seq (sR [(0,oT 41 10
[]),(1,oT 42 6 []),(2,oP 43 (.bin .geq (.t 41) (.t 42)) [41,42])] (.cond (.t 43) (sK [43] (.reg false [(0,oT 44 10 [10]),(1,oT 45 6 []),(2,oP 46 (.bin .sub (.t 44) (.t 45)) [44,45]),(3,oT 10 46 [46])])) (sK [43]
.skip))) (.reg true [(0,oT 47 0 []),(1,oT 48 9 []),(2,oT 49 0 []),(3,oT 50 1 []),(4,oT 51 10 []),(5,oP 52 (.bin .add (.t 50) (.t 51)) [50,51]),(6,oT 53 0 []),(7,oT 54 1 []),(8,oT 55 10 [10]),(9,oP 56 (.bin .add (.t 54)
(.t 55)) [54,55]),(10,oP 57 (.ia 1 (.t 53) (.t 56)) []),(11,oP 58 (.ld 1 false (.t 57)) [53,56,57]),(12,oT 59 0 []),(13,oT 60 9 []),(14,oP 61 (.ia 1 (.t 59) (.t 60)) []),(15,oP 62 (.ld 1 false (.t 61))
[59,60,61]),(16,oP 63 (.ia 1 (.t 47) (.t 48)) []),(17,⟨none,.st 1 (.t 63) (.t 58),none,[],[47,48,58,63]⟩),(18,oP 64 (.ia 1 (.t 49) (.t 52)) []),(19,⟨none,.st 1 (.t 64) (.t 62),none,[],[49,52,62,64]⟩)])))) (.reg false
[(0,oT 34 9 [9]),(1,oP 35 (.bin .add (.t 34) (.c (.int .i64 1))) [34]),(2,oT 9 35 [35])])))
abbrev B126 : CCode := (sR [(0,oT 11 2 [2]),(1,oT 12 1 []),(2,oP 13 (.bin .sub (.t 11) (.t 12)) [11,12]),(3,oT 6 13 [13])] (sR [(0,oT 14 6 []),(1,oP 15 (.bin .geq (.t 14) (.c (.int .i64 8))) [14])] (.cond (.t 15) (sK
[15] (sR [(0,oT 16 6 []),(1,oP 17 (.conv .u64 (.t 16)) [16]),(2,oP 7 (.al [.int .u64 (0)]) []),(3,⟨none,.st 1 (.t 7) (.t 17),none,[],[17]⟩)] (sR [(0,oT 18 6 []),(1,oP 19 (.call 137 [.t 18]) [18]),(2,oT 8 19 [19])] (sR
[(0,oT 20 1 []),(1,oT 21 6 []),(2,oP 22 (.bin .quo (.t 21) (.c (.int .i64 4))) [21]),(3,oP 23 (.bin .mul (.t 22) (.c (.int .i64 2))) [22]),(4,oP 24 (.bin .add (.t 20) (.t 23)) [20,23]),(5,oP 25 (.bin .sub (.t 24) (.c
(.int .i64 1))) [24]),(6,oT 9 25 [25])] (.block 0 (.loop L126_0)))))) (sK [1,6,15] .skip))))
def C126 : CFn := ⟨65,3,[],B126⟩
abbrev B127 : CCode := (sR [(0,oP 6 (.mv (.c (.int .i64 0))) [6]),(1,oP 7 (.mv (.c (.int .i64 0))) [7])] (sR [(0,oT 13 2 [2]),(1,oT 14 1 []),(2,oP 15 (.bin .sub (.t 13) (.t 14)) [13,14]),(3,oT 8 15 [15])] (sR [(0,oP 9
(.al [.int .i64 (0)]) [])] (sR [(0,oT 16 1 []),(1,oT 17 8 []),(2,oP 18 (.bin .quo (.t 17) (.c (.int .i64 4))) [17]),(3,oP 19 (.bin .mul (.t 18) (.c (.int .i64 1))) [18]),(4,oP 20 (.bin .add (.t 16) (.t 19))
[16,19]),(5,oT 10 20 [20])] (sR [(0,oT 21 1 []),(1,oT 22 8 []),(2,oP 23 (.bin .quo (.t 22) (.c (.int .i64 4))) [22]),(3,oP 24 (.bin .mul (.t 23) (.c (.int .i64 2))) [23]),(4,oP 25 (.bin .add (.t 21) (.t 24))
[21,24]),(5,oT 11 25 [25])] (sR [(0,oT 26 1 [1]),(1,oT 27 8 []),(2,oP 28 (.bin .quo (.t 27) (.c (.int .i64 4))) [27]),(3,oP 29 (.bin .mul (.t 28) (.c (.int .i64 3))) [28]),(4,oP 30 (.bin .add (.t 26) (.t 29))
[26,29]),(5,oT 12 30 [30])] (.seq (sR [(0,oT 31 8 []),(1,oP 32 (.bin .geq (.t 31) (.c (.int .i64 8))) [31])] (.cond (.t 32) (sK [32] (.seq (sR [(0,oT 33 8 [8]),(1,oP 34 (.bin .geq (.t 33) (.c (.int .i64 50))) [33])]
(.cond (.t 34) (sK [34] (sR [(0,oT 35 0 []),(1,oT 36 10 [10]),(2,oP 37 (.call 139 [.t 35,.t 36,.t 9]) [35,36]),(3,oT 10 37 [37])] (sR [(0,oT 38 0 []),(1,oT 39 11 [11]),(2,oP 40 (.call 139 [.t 38,.t 39,.t 9])
[38,39]),(3,oT 11 40 [40])] (.reg false [(0,oT 41 0 []),(1,oT 42 12 [12]),(2,oP 43 (.call 139 [.t 41,.t 42,.t 9]) [41,42]),(3,oT 12 43 [43])])))) (sK [34] .skip))) (.reg false [(0,oT 44 0 [0]),(1,oT 45 10 [10]),(2,oT 46
11 [11]),(3,oT 47 12 [12]),(4,oP 48 (.call 140 [.t 44,.t 45,.t 46,.t 47,.t 9]) [44,45,46,47]),(5,oT 11 48 [48])]))) (sK [0,8,10,12,32] .skip))) (sR [(0,oP 49 (.ld 1 false (.t 9)) [9])] (.block 0 (sR [(0,oP 52 (.bin .eql
(.t 49) (.c (.int .i64 0))) []),(1,oT 51 52 [52])] (.cond (.t 51) (sK [49,51] (sR [(0,oT 53 11 [11]),(1,oT 6 53 [53]),(2,oP 7 (.mv (.c (.int .i64 1))) [])] .ret)) (sK [51] (sR [(0,oP 55 (.bin .eql (.t 49) (.c (.int .i64
12))) [49]),(1,oT 54 55 [55])] (.cond (.t 54) (sK [54] (sR [(0,oT 56 11 [11]),(1,oT 6 56 [56]),(2,oP 7 (.mv (.c (.int .i64 2))) [])] .ret)) (sK [54] (sR [(0,oT 50 11 [11]),(1,oT 6 50 [50]),(2,oP 7 (.mv (.c (.int .i64
0))) [])] .ret))))))))))))))))
def C127 : CFn := ⟨57,3,[.t 6,.t 7],B127⟩
abbrev L128_0 : CCode := (.seq (sR [(0,oT 11 6 []),(1,oT 12 7 []),(2,oP 13 (.bin .lss (.t 11) (.t 12)) [11,12])] (.cond (.t 13) (sK [13] .skip) (sK [6,7,13] (.exit 0)))) (.block 1 (.seq (.reg true [(0,oT 14 0 []),(1,oT
15 6 []),(2,oT 16 0 []),(3,oT 17 7 []),(4,oT 18 0 []),(5,oT 19 7 []),(6,oP 20 (.ia 1 (.t 18) (.t 19)) []),(7,oP 21 (.ld 1 false (.t 20)) [18,19,20]),(8,oT 22 0 []),(9,oT 23 6 []),(10,oP 24 (.ia 1 (.t 22) (.t 23))
[]),(11,oP 25 (.ld 1 false (.t 24)) [22,23,24]),(12,oP 26 (.ia 1 (.t 14) (.t 15)) []),(13,⟨none,.st 1 (.t 26) (.t 21),none,[],[14,15,21,26]⟩),(14,oP 27 (.ia 1 (.t 16) (.t 17)) []),(15,⟨none,.st 1 (.t 27) (.t
25),none,[],[16,17,25,27]⟩)]) (sR [(0,oT 28 6 [6]),(1,oP 29 (.bin .add (.t 28) (.c (.int .i64 1))) [28]),(2,oT 6 29 [29])] (.reg false [(0,oT 30 7 [7]),(1,oP 31 (.bin .sub (.t 30) (.c (.int .i64 1))) [30]),(2,oT 7 31
[31])])))))
abbrev B128 : CCode := (sR [(0,oT 8 1 [1]),(1,oT 6 8 [8])] (sR [(0,oT 9 2 [2]),(1,oP 10 (.bin .sub (.t 9) (.c (.int .i64 1))) [9]),(2,oT 7 10 [10])] (.block 0 (.loop L128_0))))
def C128 : CFn := ⟨32,3,[],B128⟩
abbrev L129_1 : CCode := (.seq (.seq (.reg true [(0,oT 17 7 []),(1,oT 18 2 []),(2,oP 19 (.bin .lss (.t 17) (.t 18)) [17,18]),(3,oT 20 19 [19]),(4,oG 21 (.mv (.t 0)) 20 true []),(5,oG 22 (.mv (.t 7)) 20 true []),(6,oG 23
(.ia 1 (.t 21) (.t 22)) 20 true []),(7,oG 24 (.ld 1 false (.t 23)) 20 true [21,22,23]),(8,oG 25 (.mv (.t 0)) 20 true []),(9,oG 26 (.mv (.t 7)) 20 true []),(10,oG 27 (.bin .sub (.t 26) (.c (.int .i64 1))) 20 true
[26]),(11,oG 28 (.ia 1 (.t 25) (.t 27)) 20 true []),(12,oG 29 (.ld 1 false (.t 28)) 20 true [25,27,28]),(13,oG 30 (.call 130 [.t 24,.t 29]) 20 true [24,29]),(14,oG 31 (.not (.t 30)) 20 true [30]),(15,oP 32 (.pick (.t
20) (.t 31) (.c (.bool false))) [20,31])]) (.cond (.t 32) (sK [32] .skip) (sK [32] (.exit 2)))) (.block 3 (.reg false [(0,oT 33 7 [7]),(1,oP 34 (.bin .add (.t 33) (.c (.int .i64 1))) [33]),(2,oT 7 34 [34])])))
abbrev L129_2 : CCode := (.seq (sR [(0,oT 64 9 []),(1,oP 65 (.bin .geq (.t 64) (.c (.int .i64 1))) [64])] (.cond (.t 65) (sK [65] .skip) (sK [9,65] (.exit 4)))) (.seq (.block 5 (.seq (.seq (.reg true [(0,oT 68 0
[]),(1,oT 69 9 []),(2,oP 70 (.ia 1 (.t 68) (.t 69)) []),(3,oP 71 (.ld 1 false (.t 70)) [68,69,70]),(4,oT 72 0 []),(5,oT 73 9 []),(6,oP 74 (.bin .sub (.t 73) (.c (.int .i64 1))) [73]),(7,oP 75 (.ia 1 (.t 72) (.t 74))
[]),(8,oP 76 (.ld 1 false (.t 75)) [72,74,75]),(9,oP 77 (.call 130 [.t 71,.t 76]) [71,76]),(10,oP 78 (.not (.t 77)) [77])]) (.cond (.t 78) (sK [9,78] (.exit 4)) (sK [78] .skip))) (.reg true [(0,oT 79 0 []),(1,oT 80 9
[]),(2,oT 81 0 []),(3,oT 82 9 []),(4,oP 83 (.bin .sub (.t 82) (.c (.int .i64 1))) [82]),(5,oT 84 0 []),(6,oT 85 9 []),(7,oP 86 (.bin .sub (.t 85) (.c (.int .i64 1))) [85]),(8,oP 87 (.ia 1 (.t 84) (.t 86)) []),(9,oP 88
(.ld 1 false (.t 87)) [84,86,87]),(10,oT 89 0 []),(11,oT 90 9 []),(12,oP 91 (.ia 1 (.t 89) (.t 90)) []),(13,oP 92 (.ld 1 false (.t 91)) [89,90,91]),(14,oP 93 (.ia 1 (.t 79) (.t 80)) []),(15,⟨none,.st 1 (.t 93) (.t
88),none,[],[79,80,88,93]⟩),(16,oP 94 (.ia 1 (.t 81) (.t 83)) []),(17,⟨none,.st 1 (.t 94) (.t 92),none,[],[81,83,92,94]⟩)]))) (.reg false [(0,oT 66 9 [9]),(1,oP 67 (.bin .sub (.t 66) (.c (.int .i64 1))) [66]),(2,oT 9 67
[67])])))
abbrev L129_3 : CCode := (.seq (sR [(0,oT 101 10 []),(1,oT 102 2 []),(2,oP 103 (.bin .lss (.t 101) (.t 102)) [101,102])] (.cond (.t 103) (sK [103] .skip) (sK [10,103] (.exit 6)))) (.seq (.block 7 (.seq (.seq (.reg true
[(0,oT 106 0 []),(1,oT 107 10 []),(2,oP 108 (.ia 1 (.t 106) (.t 107)) []),(3,oP 109 (.ld 1 false (.t 108)) [106,107,108]),(4,oT 110 0 []),(5,oT 111 10 []),(6,oP 112 (.bin .sub (.t 111) (.c (.int .i64 1))) [111]),(7,oP
113 (.ia 1 (.t 110) (.t 112)) []),(8,oP 114 (.ld 1 false (.t 113)) [110,112,113]),(9,oP 115 (.call 130 [.t 109,.t 114]) [109,114]),(10,oP 116 (.not (.t 115)) [115])]) (.cond (.t 116) (sK [10,116] (.exit 6)) (sK [116]
.skip))) (.reg true [(0,oT 117 0 []),(1,oT 118 10 []),(2,oT 119 0 []),(3,oT 120 10 []),(4,oP 121 (.bin .sub (.t 120) (.c (.int .i64 1))) [120]),(5,oT 122 0 []),(6,oT 123 10 []),(7,oP 124 (.bin .sub (.t 123) (.c (.int
.i64 1))) [123]),(8,oP 125 (.ia 1 (.t 122) (.t 124)) []),(9,oP 126 (.ld 1 false (.t 125)) [122,124,125]),(10,oT 127 0 []),(11,oT 128 10 []),(12,oP 129 (.ia 1 (.t 127) (.t 128)) []),(13,oP 130 (.ld 1 false (.t 129))
[127,128,129]),(14,oP 131 (.ia 1 (.t 117) (.t 118)) []),(15,⟨none,.st 1 (.t 131) (.t 126),none,[],[117,118,126,131]⟩),(16,oP 132 (.ia 1 (.t 119) (.t 121)) []),(17,⟨none,.st 1 (.t 132) (.t
130),none,[],[119,121,130,132]⟩)]))) (.reg false [(0,oT 104 10 [10]),(1,oP 105 (.bin .add (.t 104) (.c (.int .i64 1))) [104]),(2,oT 10 105 [105])])))
abbrev L129_0 : CCode := (.seq (sR [(0,oT 13 8 []),(1,oP 14 (.bin .lss (.t 13) (.c (.int .i64 5))) [13])] (.cond (.t 14) (sK [14] .skip) (sK [1,2,7,8,14] (.exit 0)))) (.seq (.block 1 (.seq (.block 2 (.loop L129_1))
(.seq (sR [(0,oT 35 7 []),(1,oT 36 2 []),(2,oP 37 (.bin .eql (.t 35) (.t 36)) [35,36])] (.cond (.t 37) (sK [1,2,7,8,37] (sR [(0,oP 6 (.mv (.c (.bool true))) [])] .ret)) (sK [37] .skip))) (.seq (sR [(0,oT 38 2 []),(1,oT
39 1 []),(2,oP 40 (.bin .sub (.t 38) (.t 39)) [38,39]),(3,oP 41 (.bin .lss (.t 40) (.c (.int .i64 50))) [40])] (.cond (.t 41) (sK [1,2,7,8,41] (sR [(0,oP 6 (.mv (.c (.bool false))) [])] .ret)) (sK [41] .skip))) (.seq
(.reg true [(0,oT 42 0 []),(1,oT 43 7 []),(2,oT 44 0 []),(3,oT 45 7 []),(4,oP 46 (.bin .sub (.t 45) (.c (.int .i64 1))) [45]),(5,oT 47 0 []),(6,oT 48 7 []),(7,oP 49 (.bin .sub (.t 48) (.c (.int .i64 1))) [48]),(8,oP 50
(.ia 1 (.t 47) (.t 49)) []),(9,oP 51 (.ld 1 false (.t 50)) [47,49,50]),(10,oT 52 0 []),(11,oT 53 7 []),(12,oP 54 (.ia 1 (.t 52) (.t 53)) []),(13,oP 55 (.ld 1 false (.t 54)) [52,53,54]),(14,oP 56 (.ia 1 (.t 42) (.t 43))
[]),(15,⟨none,.st 1 (.t 56) (.t 51),none,[],[42,43,51,56]⟩),(16,oP 57 (.ia 1 (.t 44) (.t 46)) []),(17,⟨none,.st 1 (.t 57) (.t 55),none,[],[44,46,55,57]⟩)]) (.seq (sR [(0,oT 58 7 []),(1,oT 59 1 []),(2,oP 60 (.bin .sub
(.t 58) (.t 59)) [58,59]),(3,oP 61 (.bin .geq (.t 60) (.c (.int .i64 2))) [60])] (.cond (.t 61) (sK [61] (sR [(0,oT 62 7 []),(1,oP 63 (.bin .sub (.t 62) (.c (.int .i64 1))) [62]),(2,oT 9 63 [63])] (.block 4 (.loop
L129_2)))) (sK [61] .skip))) (sR [(0,oT 95 2 []),(1,oT 96 7 []),(2,oP 97 (.bin .sub (.t 95) (.t 96)) [95,96]),(3,oP 98 (.bin .geq (.t 97) (.c (.int .i64 2))) [97])] (.cond (.t 98) (sK [98] (sR [(0,oT 99 7 []),(1,oP 100
(.bin .add (.t 99) (.c (.int .i64 1))) [99]),(2,oT 10 100 [100])] (.block 6 (.loop L129_3)))) (sK [98] .skip))))))))) (.reg false [(0,oT 15 8 [8]),(1,oP 16 (.bin .add (.t 15) (.c (.int .i64 1))) [15]),(2,oT 8 16
[16])])))
abbrev B129 : CCode := (sR [(0,oP 6 (.mv (.c (.bool false))) [6])] (sR [(0,oT 11 1 []),(1,oP 12 (.bin .add (.t 11) (.c (.int .i64 1))) [11]),(2,oT 7 12 [12])] (.seq (sR [(0,oP 8 (.mv (.c (.int .i64 0))) [])] (.block 0
(.loop L129_0))) (sR [(0,oP 6 (.mv (.c (.bool false))) [])] .ret))))
def C129 : CFn := ⟨133,3,[.t 6],B129⟩
abbrev B130 : CCode := (sR [(0,oP 4 (.mv (.c (.bool false))) [4])] (sR [(0,oT 5 0 []),(1,oP 6 (.call 111 [.t 5]) [5]),(2,oT 7 6 [6]),(3,oG 8 (.mv (.t 1)) 7 true []),(4,oG 9 (.call 111 [.t 8]) 7 true [8]),(5,oG 10 (.not
(.t 9)) 7 true [9]),(6,oP 11 (.pick (.t 7) (.t 10) (.c (.bool false))) [7,10]),(7,oT 12 11 [11]),(8,oG 13 (.mv (.t 0)) 12 false [0]),(9,oG 14 (.mv (.t 1)) 12 false [1]),(10,oG 15 (.bin .lss (.t 13) (.t 14)) 12 false
[13,14]),(11,oP 16 (.pick (.t 12) (.c (.bool true)) (.t 15)) [12,15]),(12,oT 4 16 [16])] .ret))
def C130 : CFn := ⟨17,2,[.t 4],B130⟩
abbrev L131_1 : CCode := (.seq (.seq (.reg true [(0,oT 29 9 []),(1,oT 30 10 []),(2,oP 31 (.bin .leq (.t 29) (.t 30)) [29,30]),(3,oT 32 31 [31]),(4,oG 33 (.mv (.t 0)) 32 true []),(5,oG 34 (.mv (.t 1)) 32 true []),(6,oG
35 (.ia 1 (.t 33) (.t 34)) 32 true []),(7,oG 36 (.ld 1 false (.t 35)) 32 true [33,34,35]),(8,oG 37 (.mv (.t 0)) 32 true []),(9,oG 38 (.mv (.t 9)) 32 true []),(10,oG 39 (.ia 1 (.t 37) (.t 38)) 32 true []),(11,oG 40 (.ld
1 false (.t 39)) 32 true [37,38,39]),(12,oG 41 (.call 130 [.t 36,.t 40]) 32 true [36,40]),(13,oG 42 (.not (.t 41)) 32 true [41]),(14,oP 43 (.pick (.t 32) (.t 42) (.c (.bool false))) [32,42])]) (.cond (.t 43) (sK [43]
.skip) (sK [43] (.exit 2)))) (.block 3 (.reg false [(0,oT 44 9 [9]),(1,oP 45 (.bin .add (.t 44) (.c (.int .i64 1))) [44]),(2,oT 9 45 [45])])))
abbrev L131_2 : CCode := (.seq (.seq (.reg true [(0,oT 46 9 []),(1,oT 47 10 []),(2,oP 48 (.bin .leq (.t 46) (.t 47)) [46,47]),(3,oT 49 48 [48]),(4,oG 50 (.mv (.t 0)) 49 true []),(5,oG 51 (.mv (.t 1)) 49 true []),(6,oG
52 (.ia 1 (.t 50) (.t 51)) 49 true []),(7,oG 53 (.ld 1 false (.t 52)) 49 true [50,51,52]),(8,oG 54 (.mv (.t 0)) 49 true []),(9,oG 55 (.mv (.t 10)) 49 true []),(10,oG 56 (.ia 1 (.t 54) (.t 55)) 49 true []),(11,oG 57 (.ld
1 false (.t 56)) 49 true [54,55,56]),(12,oG 58 (.call 130 [.t 53,.t 57]) 49 true [53,57]),(13,oP 59 (.pick (.t 49) (.t 58) (.c (.bool false))) [49,58])]) (.cond (.t 59) (sK [59] .skip) (sK [59] (.exit 4)))) (.block 5
(.reg false [(0,oT 60 10 [10]),(1,oP 61 (.bin .sub (.t 60) (.c (.int .i64 1))) [60]),(2,oT 10 61 [61])])))
abbrev L131_0 : CCode := (.block 1 (.seq (.block 2 (.loop L131_1)) (.seq (.block 4 (.loop L131_2)) (.seq (sR [(0,oT 62 9 []),(1,oT 63 10 []),(2,oP 64 (.bin .gtr (.t 62) (.t 63)) [62,63])] (.cond (.t 64) (sK [1,10,64]
(.exit 0)) (sK [64] .skip))) (.seq (.reg true [(0,oT 65 0 []),(1,oT 66 9 []),(2,oT 67 0 []),(3,oT 68 10 []),(4,oT 69 0 []),(5,oT 70 10 []),(6,oP 71 (.ia 1 (.t 69) (.t 70)) []),(7,oP 72 (.ld 1 false (.t 71))
[69,70,71]),(8,oT 73 0 []),(9,oT 74 9 []),(10,oP 75 (.ia 1 (.t 73) (.t 74)) []),(11,oP 76 (.ld 1 false (.t 75)) [73,74,75]),(12,oP 77 (.ia 1 (.t 65) (.t 66)) []),(13,⟨none,.st 1 (.t 77) (.t
72),none,[],[65,66,72,77]⟩),(14,oP 78 (.ia 1 (.t 67) (.t 68)) []),(15,⟨none,.st 1 (.t 78) (.t 76),none,[],[67,68,76,78]⟩)]) (sR [(0,oT 79 9 [9]),(1,oP 80 (.bin .add (.t 79) (.c (.int .i64 1))) [79]),(2,oT 9 80 [80])]
(.reg false [(0,oT 81 10 [10]),(1,oP 82 (.bin .sub (.t 81) (.c (.int .i64 1))) [81]),(2,oT 10 82 [82])])))))))
abbrev B131 : CCode := (sR [(0,oP 8 (.mv (.c (.int .i64 0))) [8])] (.seq (.reg true [(0,oT 11 0 []),(1,oT 12 1 []),(2,oT 13 0 []),(3,oT 14 3 []),(4,oT 15 0 []),(5,oT 16 3 [3]),(6,oP 17 (.ia 1 (.t 15) (.t 16)) []),(7,oP
18 (.ld 1 false (.t 17)) [15,16,17]),(8,oT 19 0 []),(9,oT 20 1 []),(10,oP 21 (.ia 1 (.t 19) (.t 20)) []),(11,oP 22 (.ld 1 false (.t 21)) [19,20,21]),(12,oP 23 (.ia 1 (.t 11) (.t 12)) []),(13,⟨none,.st 1 (.t 23) (.t
18),none,[],[11,12,18,23]⟩),(14,oP 24 (.ia 1 (.t 13) (.t 14)) []),(15,⟨none,.st 1 (.t 24) (.t 22),none,[],[13,14,22,24]⟩)]) (sR [(0,oT 25 1 []),(1,oP 26 (.bin .add (.t 25) (.c (.int .i64 1))) [25]),(2,oT 27 2 [2]),(3,oP
28 (.bin .sub (.t 27) (.c (.int .i64 1))) [27]),(4,oT 9 26 [26]),(5,oT 10 28 [28])] (.seq (.block 0 (.loop L131_0)) (sR [(0,oT 83 9 [9]),(1,oT 8 83 [83])] .ret)))))
def C131 : CFn := ⟨84,4,[.t 8],B131⟩
abbrev L132_0 : CCode := (.seq (.seq (.reg true [(0,oT 30 10 []),(1,oT 31 11 []),(2,oP 32 (.bin .leq (.t 30) (.t 31)) [30,31]),(3,oT 33 32 [32]),(4,oG 34 (.mv (.t 0)) 33 true []),(5,oG 35 (.mv (.t 10)) 33 true []),(6,oG
36 (.ia 1 (.t 34) (.t 35)) 33 true []),(7,oG 37 (.ld 1 false (.t 36)) 33 true [34,35,36]),(8,oG 38 (.mv (.t 0)) 33 true []),(9,oG 39 (.mv (.t 1)) 33 true []),(10,oG 40 (.ia 1 (.t 38) (.t 39)) 33 true []),(11,oG 41 (.ld
1 false (.t 40)) 33 true [38,39,40]),(12,oG 42 (.call 130 [.t 37,.t 41]) 33 true [37,41]),(13,oP 43 (.pick (.t 33) (.t 42) (.c (.bool false))) [33,42])]) (.cond (.t 43) (sK [43] .skip) (sK [43] (.exit 0)))) (.block 1
(.reg false [(0,oT 44 10 [10]),(1,oP 45 (.bin .add (.t 44) (.c (.int .i64 1))) [44]),(2,oT 10 45 [45])])))
abbrev L132_1 : CCode := (.seq (.seq (.reg true [(0,oT 46 10 []),(1,oT 47 11 []),(2,oP 48 (.bin .leq (.t 46) (.t 47)) [46,47]),(3,oT 49 48 [48]),(4,oG 50 (.mv (.t 0)) 49 true []),(5,oG 51 (.mv (.t 11)) 49 true []),(6,oG
52 (.ia 1 (.t 50) (.t 51)) 49 true []),(7,oG 53 (.ld 1 false (.t 52)) 49 true [50,51,52]),(8,oG 54 (.mv (.t 0)) 49 true []),(9,oG 55 (.mv (.t 1)) 49 true []),(10,oG 56 (.ia 1 (.t 54) (.t 55)) 49 true []),(11,oG 57 (.ld
1 false (.t 56)) 49 true [54,55,56]),(12,oG 58 (.call 130 [.t 53,.t 57]) 49 true [53,57]),(13,oG 59 (.not (.t 58)) 49 true [58]),(14,oP 60 (.pick (.t 49) (.t 59) (.c (.bool false))) [49,59])]) (.cond (.t 60) (sK [60]
.skip) (sK [60] (.exit 2)))) (.block 3 (.reg false [(0,oT 61 11 [11]),(1,oP 62 (.bin .sub (.t 61) (.c (.int .i64 1))) [61]),(2,oT 11 62 [62])])))
abbrev L132_3 : CCode := (.seq (.seq (.reg true [(0,oT 99 10 []),(1,oT 100 11 []),(2,oP 101 (.bin .leq (.t 99) (.t 100)) [99,100]),(3,oT 102 101 [101]),(4,oG 103 (.mv (.t 0)) 102 true []),(5,oG 104 (.mv (.t 10)) 102
true []),(6,oG 105 (.ia 1 (.t 103) (.t 104)) 102 true []),(7,oG 106 (.ld 1 false (.t 105)) 102 true [103,104,105]),(8,oG 107 (.mv (.t 0)) 102 true []),(9,oG 108 (.mv (.t 1)) 102 true []),(10,oG 109 (.ia 1 (.t 107) (.t
108)) 102 true []),(11,oG 110 (.ld 1 false (.t 109)) 102 true [107,108,109]),(12,oG 111 (.call 130 [.t 106,.t 110]) 102 true [106,110]),(13,oP 112 (.pick (.t 102) (.t 111) (.c (.bool false))) [102,111])]) (.cond (.t
112) (sK [112] .skip) (sK [112] (.exit 6)))) (.block 7 (.reg false [(0,oT 113 10 [10]),(1,oP 114 (.bin .add (.t 113) (.c (.int .i64 1))) [113]),(2,oT 10 114 [114])])))
abbrev L132_4 : CCode := (.seq (.seq (.reg true [(0,oT 115 10 []),(1,oT 116 11 []),(2,oP 117 (.bin .leq (.t 115) (.t 116)) [115,116]),(3,oT 118 117 [117]),(4,oG 119 (.mv (.t 0)) 118 true []),(5,oG 120 (.mv (.t 11)) 118
true []),(6,oG 121 (.ia 1 (.t 119) (.t 120)) 118 true []),(7,oG 122 (.ld 1 false (.t 121)) 118 true [119,120,121]),(8,oG 123 (.mv (.t 0)) 118 true []),(9,oG 124 (.mv (.t 1)) 118 true []),(10,oG 125 (.ia 1 (.t 123) (.t
124)) 118 true []),(11,oG 126 (.ld 1 false (.t 125)) 118 true [123,124,125]),(12,oG 127 (.call 130 [.t 122,.t 126]) 118 true [122,126]),(13,oG 128 (.not (.t 127)) 118 true [127]),(14,oP 129 (.pick (.t 118) (.t 128) (.c
(.bool false))) [118,128])]) (.cond (.t 129) (sK [129] .skip) (sK [129] (.exit 8)))) (.block 9 (.reg false [(0,oT 130 11 [11]),(1,oP 131 (.bin .sub (.t 130) (.c (.int .i64 1))) [130]),(2,oT 11 131 [131])])))
abbrev L132_2 : CCode := (.block 5 (.seq (.block 6 (.loop L132_3)) (.seq (.block 8 (.loop L132_4)) (.seq (sR [(0,oT 132 10 []),(1,oT 133 11 []),(2,oP 134 (.bin .gtr (.t 132) (.t 133)) [132,133])] (.cond (.t 134) (sK
[10,134] (.exit 4)) (sK [134] .skip))) (.seq (.reg true [(0,oT 135 0 []),(1,oT 136 10 []),(2,oT 137 0 []),(3,oT 138 11 []),(4,oT 139 0 []),(5,oT 140 11 []),(6,oP 141 (.ia 1 (.t 139) (.t 140)) []),(7,oP 142 (.ld 1 false
(.t 141)) [139,140,141]),(8,oT 143 0 []),(9,oT 144 10 []),(10,oP 145 (.ia 1 (.t 143) (.t 144)) []),(11,oP 146 (.ld 1 false (.t 145)) [143,144,145]),(12,oP 147 (.ia 1 (.t 135) (.t 136)) []),(13,⟨none,.st 1 (.t 147) (.t
142),none,[],[135,136,142,147]⟩),(14,oP 148 (.ia 1 (.t 137) (.t 138)) []),(15,⟨none,.st 1 (.t 148) (.t 146),none,[],[137,138,146,148]⟩)]) (sR [(0,oT 149 10 [10]),(1,oP 150 (.bin .add (.t 149) (.c (.int .i64 1)))
[149]),(2,oT 10 150 [150])] (.reg false [(0,oT 151 11 [11]),(1,oP 152 (.bin .sub (.t 151) (.c (.int .i64 1))) [151]),(2,oT 11 152 [152])])))))))
abbrev B132 : CCode := (sR [(0,oP 8 (.mv (.c (.int .i64 0))) [8]),(1,oP 9 (.mv (.c (.bool false))) [9])] (.seq (.reg true [(0,oT 12 0 []),(1,oT 13 1 []),(2,oT 14 0 []),(3,oT 15 3 []),(4,oT 16 0 []),(5,oT 17 3 [3]),(6,oP
18 (.ia 1 (.t 16) (.t 17)) []),(7,oP 19 (.ld 1 false (.t 18)) [16,17,18]),(8,oT 20 0 []),(9,oT 21 1 []),(10,oP 22 (.ia 1 (.t 20) (.t 21)) []),(11,oP 23 (.ld 1 false (.t 22)) [20,21,22]),(12,oP 24 (.ia 1 (.t 12) (.t 13))
[]),(13,⟨none,.st 1 (.t 24) (.t 19),none,[],[12,13,19,24]⟩),(14,oP 25 (.ia 1 (.t 14) (.t 15)) []),(15,⟨none,.st 1 (.t 25) (.t 23),none,[],[14,15,23,25]⟩)]) (sR [(0,oT 26 1 []),(1,oP 27 (.bin .add (.t 26) (.c (.int .i64
1))) [26]),(2,oT 28 2 [2]),(3,oP 29 (.bin .sub (.t 28) (.c (.int .i64 1))) [28]),(4,oT 10 27 [27]),(5,oT 11 29 [29])] (.seq (.block 0 (.loop L132_0)) (.seq (.block 2 (.loop L132_1)) (.seq (sR [(0,oT 63 10 []),(1,oT 64
11 []),(2,oP 65 (.bin .gtr (.t 63) (.t 64)) [63,64])] (.cond (.t 65) (sK [10,65] (.seq (.reg true [(0,oT 66 0 []),(1,oT 67 11 []),(2,oT 68 0 []),(3,oT 69 1 []),(4,oT 70 0 []),(5,oT 71 1 [1]),(6,oP 72 (.ia 1 (.t 70) (.t
71)) []),(7,oP 73 (.ld 1 false (.t 72)) [70,71,72]),(8,oT 74 0 []),(9,oT 75 11 []),(10,oP 76 (.ia 1 (.t 74) (.t 75)) []),(11,oP 77 (.ld 1 false (.t 76)) [74,75,76]),(12,oP 78 (.ia 1 (.t 66) (.t 67)) []),(13,⟨none,.st 1
(.t 78) (.t 73),none,[],[66,67,73,78]⟩),(14,oP 79 (.ia 1 (.t 68) (.t 69)) []),(15,⟨none,.st 1 (.t 79) (.t 77),none,[],[68,69,77,79]⟩)]) (sR [(0,oT 80 11 [11]),(1,oT 8 80 [80]),(2,oP 9 (.mv (.c (.bool true))) [])]
.ret))) (sK [65] .skip))) (.seq (.reg true [(0,oT 81 0 []),(1,oT 82 10 []),(2,oT 83 0 []),(3,oT 84 11 []),(4,oT 85 0 []),(5,oT 86 11 []),(6,oP 87 (.ia 1 (.t 85) (.t 86)) []),(7,oP 88 (.ld 1 false (.t 87))
[85,86,87]),(8,oT 89 0 []),(9,oT 90 10 []),(10,oP 91 (.ia 1 (.t 89) (.t 90)) []),(11,oP 92 (.ld 1 false (.t 91)) [89,90,91]),(12,oP 93 (.ia 1 (.t 81) (.t 82)) []),(13,⟨none,.st 1 (.t 93) (.t
88),none,[],[81,82,88,93]⟩),(14,oP 94 (.ia 1 (.t 83) (.t 84)) []),(15,⟨none,.st 1 (.t 94) (.t 92),none,[],[83,84,92,94]⟩)]) (sR [(0,oT 95 10 [10]),(1,oP 96 (.bin .add (.t 95) (.c (.int .i64 1))) [95]),(2,oT 10 96 [96])]
(sR [(0,oT 97 11 [11]),(1,oP 98 (.bin .sub (.t 97) (.c (.int .i64 1))) [97]),(2,oT 11 98 [98])] (.seq (.block 4 (.loop L132_2)) (.seq (.reg true [(0,oT 153 0 []),(1,oT 154 11 []),(2,oT 155 0 []),(3,oT 156 1 []),(4,oT
157 0 []),(5,oT 158 1 [1]),(6,oP 159 (.ia 1 (.t 157) (.t 158)) []),(7,oP 160 (.ld 1 false (.t 159)) [157,158,159]),(8,oT 161 0 []),(9,oT 162 11 []),(10,oP 163 (.ia 1 (.t 161) (.t 162)) []),(11,oP 164 (.ld 1 false (.t
163)) [161,162,163]),(12,oP 165 (.ia 1 (.t 153) (.t 154)) []),(13,⟨none,.st 1 (.t 165) (.t 160),none,[],[153,154,160,165]⟩),(14,oP 166 (.ia 1 (.t 155) (.t 156)) []),(15,⟨none,.st 1 (.t 166) (.t
164),none,[],[155,156,164,166]⟩)]) (sR [(0,oT 167 11 [11]),(1,oT 8 167 [167]),(2,oP 9 (.mv (.c (.bool false))) [])] .ret))))))))))))
def C132 : CFn := ⟨168,4,[.t 8,.t 9],B132⟩
abbrev L136_0 : CCode := (.block 1 (sR [(0,oT 11 8 []),(1,oP 12 (.bin .mul (.c (.int .i64 2)) (.t 11)) [11]),(2,oP 13 (.bin .add (.t 12) (.c (.int .i64 1))) [12]),(3,oT 9 13 [13])] (.seq (sR [(0,oT 14 9 []),(1,oT 15 2
[]),(2,oP 16 (.bin .geq (.t 14) (.t 15)) [14,15])] (.cond (.t 16) (sK [2,3,8,9,16] (.exit 0)) (sK [16] .skip))) (.seq (.seq (.reg true [(0,oT 17 9 []),(1,oP 18 (.bin .add (.t 17) (.c (.int .i64 1))) [17]),(2,oT 19 2
[]),(3,oP 20 (.bin .lss (.t 18) (.t 19)) [18,19]),(4,oT 21 20 [20]),(5,oG 22 (.mv (.t 0)) 21 true []),(6,oG 23 (.mv (.t 3)) 21 true []),(7,oG 24 (.mv (.t 9)) 21 true []),(8,oG 25 (.bin .add (.t 23) (.t 24)) 21 true
[23,24]),(9,oG 26 (.ia 1 (.t 22) (.t 25)) 21 true []),(10,oG 27 (.ld 1 false (.t 26)) 21 true [22,25,26]),(11,oG 28 (.mv (.t 0)) 21 true []),(12,oG 29 (.mv (.t 3)) 21 true []),(13,oG 30 (.mv (.t 9)) 21 true []),(14,oG
31 (.bin .add (.t 29) (.t 30)) 21 true [29,30]),(15,oG 32 (.bin .add (.t 31) (.c (.int .i64 1))) 21 true [31]),(16,oG 33 (.ia 1 (.t 28) (.t 32)) 21 true []),(17,oG 34 (.ld 1 false (.t 33)) 21 true [28,32,33]),(18,oG 35
(.call 130 [.t 27,.t 34]) 21 true [27,34]),(19,oP 36 (.pick (.t 21) (.t 35) (.c (.bool false))) [21,35])]) (.cond (.t 36) (sK [36] (.reg false [(0,oT 37 9 [9]),(1,oP 38 (.bin .add (.t 37) (.c (.int .i64 1))) [37]),(2,oT
9 38 [38])])) (sK [36] .skip))) (.seq (.seq (.reg true [(0,oT 39 0 []),(1,oT 40 3 []),(2,oT 41 8 []),(3,oP 42 (.bin .add (.t 40) (.t 41)) [40,41]),(4,oP 43 (.ia 1 (.t 39) (.t 42)) []),(5,oP 44 (.ld 1 false (.t 43))
[39,42,43]),(6,oT 45 0 []),(7,oT 46 3 []),(8,oT 47 9 []),(9,oP 48 (.bin .add (.t 46) (.t 47)) [46,47]),(10,oP 49 (.ia 1 (.t 45) (.t 48)) []),(11,oP 50 (.ld 1 false (.t 49)) [45,48,49]),(12,oP 51 (.call 130 [.t 44,.t
50]) [44,50]),(13,oP 52 (.not (.t 51)) [51])]) (.cond (.t 52) (sK [2,3,8,9,52] .ret) (sK [52] .skip))) (.seq (.reg true [(0,oT 53 0 []),(1,oT 54 3 []),(2,oT 55 8 []),(3,oP 56 (.bin .add (.t 54) (.t 55)) [54,55]),(4,oT
57 0 []),(5,oT 58 3 []),(6,oT 59 9 []),(7,oP 60 (.bin .add (.t 58) (.t 59)) [58,59]),(8,oT 61 0 []),(9,oT 62 3 []),(10,oT 63 9 []),(11,oP 64 (.bin .add (.t 62) (.t 63)) [62,63]),(12,oP 65 (.ia 1 (.t 61) (.t 64))
[]),(13,oP 66 (.ld 1 false (.t 65)) [61,64,65]),(14,oT 67 0 []),(15,oT 68 3 []),(16,oT 69 8 [8]),(17,oP 70 (.bin .add (.t 68) (.t 69)) [68,69]),(18,oP 71 (.ia 1 (.t 67) (.t 70)) []),(19,oP 72 (.ld 1 false (.t 71))
[67,70,71]),(20,oP 73 (.ia 1 (.t 53) (.t 56)) []),(21,⟨none,.st 1 (.t 73) (.t 66),none,[],[53,56,66,73]⟩),(22,oP 74 (.ia 1 (.t 57) (.t 60)) []),(23,⟨none,.st 1 (.t 74) (.t 72),none,[],[57,60,72,74]⟩)]) (.reg false
[(0,oT 75 9 [9]),(1,oT 8 75 [75])])))))))
abbrev B136 : CCode := (sR [(0,oT 10 1 [1]),(1,oT 8 10 [10])] (.block 0 (.loop L136_0)))
def C136 : CFn := ⟨76,4,[],B136⟩
abbrev B137 : CCode := (sR [(0,oP 2 (.mv (.c (.int .u64 (0)))) [2])] (sR [(0,oT 3 0 [0]),(1,oP 4 (.conv .u64 (.t 3)) [3]),(2,oP 5 (.call 118 [.t 4]) [4]),(3,oP 6 (.bin .shl (.c (.int .u64 (1))) (.t 5)) [5]),(4,oT 2 6
[6])] .ret))
def C137 : CFn := ⟨7,1,[.t 2],B137⟩
abbrev B138 : CCode := (sR [(0,oP 2 (.mv (.c (.int .u64 (0)))) [2])] (.seq (.reg true [(0,oT 3 0 []),(1,oP 4 (.nc (.t 3)) []),(2,oP 5 (.ld 1 false (.t 4)) [4]),(3,oT 6 0 []),(4,oP 7 (.nc (.t 6)) []),(5,oP 8 (.ld 1 false
(.t 7)) [6,7]),(6,oP 9 (.bin .shl (.t 8) (.c (.int .u64 (13)))) [8]),(7,oP 10 (.bin .xor (.t 5) (.t 9)) [5,9]),(8,oP 11 (.nc (.t 3)) []),(9,⟨none,.st 1 (.t 11) (.t 10),none,[],[3,10,11]⟩)]) (.seq (.reg true [(0,oT 12 0
[]),(1,oP 13 (.nc (.t 12)) []),(2,oP 14 (.ld 1 false (.t 13)) [13]),(3,oT 15 0 []),(4,oP 16 (.nc (.t 15)) []),(5,oP 17 (.ld 1 false (.t 16)) [15,16]),(6,oP 18 (.bin .shr (.t 17) (.c (.int .u64 (7)))) [17]),(7,oP 19
(.bin .xor (.t 14) (.t 18)) [14,18]),(8,oP 20 (.nc (.t 12)) []),(9,⟨none,.st 1 (.t 20) (.t 19),none,[],[12,19,20]⟩)]) (.seq (.reg true [(0,oT 21 0 []),(1,oP 22 (.nc (.t 21)) []),(2,oP 23 (.ld 1 false (.t 22))
[22]),(3,oT 24 0 []),(4,oP 25 (.nc (.t 24)) []),(5,oP 26 (.ld 1 false (.t 25)) [24,25]),(6,oP 27 (.bin .shl (.t 26) (.c (.int .u64 (17)))) [26]),(7,oP 28 (.bin .xor (.t 23) (.t 27)) [23,27]),(8,oP 29 (.nc (.t 21))
[]),(9,⟨none,.st 1 (.t 29) (.t 28),none,[],[21,28,29]⟩)]) (sR [(0,oT 30 0 []),(1,oP 31 (.nc (.t 30)) []),(2,oP 32 (.ld 1 false (.t 31)) [30,31]),(3,oT 2 32 [32])] .ret)))))
def C138 : CFn := ⟨33,1,[.t 2],B138⟩
abbrev B139 : CCode := (sR [(0,oP 6 (.mv (.c (.int .i64 0))) [6])] (sR [(0,oT 7 0 [0]),(1,oT 8 1 []),(2,oP 9 (.bin .sub (.t 8) (.c (.int .i64 1))) [8]),(3,oT 10 1 []),(4,oT 11 1 [1]),(5,oP 12 (.bin .add (.t 11) (.c
(.int .i64 1))) [11]),(6,oT 13 2 []),(7,oP 14 (.call 140 [.t 7,.t 9,.t 10,.t 12,.t 13]) [7,9,10,12,13]),(8,oT 6 14 [14])] .ret))
def C139 : CFn := ⟨15,3,[.t 6],B139⟩
abbrev B140 : CCode := (sR [(0,oP 10 (.mv (.c (.int .i64 0))) [10])] (sR [(0,oT 12 0 []),(1,oT 13 1 [1]),(2,oT 14 2 [2]),(3,oT 15 4 []),(4,oP 16 (.call 141 [.t 12,.t 13,.t 14,.t 15]) [12,13,14,15]),(5,oT 11 16
[16]),(6,oP 17 (.ex (.t 11) 0) []),(7,oP 18 (.ex (.t 11) 1) [11]),(8,oT 1 17 [17]),(9,oT 2 18 [18])] (sR [(0,oT 20 0 []),(1,oT 21 2 [2]),(2,oT 22 3 [3]),(3,oT 23 4 []),(4,oP 24 (.call 141 [.t 20,.t 21,.t 22,.t 23])
[20,21,22,23]),(5,oT 19 24 [24]),(6,oP 25 (.ex (.t 19) 0) []),(7,oP 26 (.ex (.t 19) 1) [19]),(8,oT 2 25 [25]),(9,oT 3 26 [3,26])] (sR [(0,oT 28 0 [0]),(1,oT 29 1 [1]),(2,oT 30 2 [2]),(3,oT 31 4 []),(4,oP 32 (.call 141
[.t 28,.t 29,.t 30,.t 31]) [28,29,30,31]),(5,oT 27 32 [32]),(6,oP 33 (.ex (.t 27) 0) []),(7,oP 34 (.ex (.t 27) 1) [27]),(8,oT 1 33 [1,33]),(9,oT 2 34 [34])] (sR [(0,oT 35 2 [2]),(1,oT 10 35 [35])] .ret)))))
def C140 : CFn := ⟨36,5,[.t 10],B140⟩
abbrev B141 : CCode := (sR [(0,oP 8 (.mv (.c (.int .i64 0))) [8]),(1,oP 9 (.mv (.c (.int .i64 0))) [9])] (.seq (.seq (.reg true [(0,oT 10 0 []),(1,oT 11 2 []),(2,oP 12 (.ia 1 (.t 10) (.t 11)) []),(3,oP 13 (.ld 1 false
(.t 12)) [10,11,12]),(4,oT 14 0 [0]),(5,oT 15 1 []),(6,oP 16 (.ia 1 (.t 14) (.t 15)) []),(7,oP 17 (.ld 1 false (.t 16)) [14,15,16]),(8,oP 18 (.call 130 [.t 13,.t 17]) [13,17])]) (.cond (.t 18) (sK [18] (sR [(0,oT 19 3
[]),(1,oP 20 (.nc (.t 19)) []),(2,oP 21 (.ld 1 false (.t 20)) [20]),(3,oP 22 (.bin .add (.t 21) (.c (.int .i64 1))) [21]),(4,oP 23 (.nc (.t 19)) []),(5,⟨none,.st 1 (.t 23) (.t 22),none,[],[19,22,23]⟩)] (sR [(0,oT 24 2
[2]),(1,oT 25 1 [1]),(2,oT 8 24 [24]),(3,oT 9 25 [25])] .ret))) (sK [18] .skip))) (sR [(0,oT 26 1 [1]),(1,oT 27 2 [2]),(2,oT 8 26 [26]),(3,oT 9 27 [27])] .ret)))
def C141 : CFn := ⟨28,4,[.t 8,.t 9],B141⟩
theorem chk4 : chkFn Go.Proofs.Tryd.prog 4 C4 = true := by kernel_rfl
theorem chk13 : chkFn Go.Proofs.Tryd.prog 13 C13 = true := by kernel_rfl
theorem chk14 : chkFn Go.Proofs.Tryd.prog 14 C14 = true := by kernel_rfl
theorem chk15 : chkFn Go.Proofs.Tryd.prog 15 C15 = true := by kernel_rfl
theorem chk16 : chkFn Go.Proofs.Tryd.prog 16 C16 = true := by kernel_rfl
theorem chk17 : chkFn Go.Proofs.Tryd.prog 17 C17 = true := by kernel_rfl
theorem chk18 : chkFn Go.Proofs.Tryd.prog 18 C18 = true := by kernel_rfl
theorem chk19 : chkFn Go.Proofs.Tryd.prog 19 C19 = true := by kernel_rfl
theorem chk20 : chkFn Go.Proofs.Tryd.prog 20 C20 = true := by kernel_rfl
theorem chk25 : chkFn Go.Proofs.Tryd.prog 25 C25 = true := by kernel_rfl
theorem chk30 : chkFn Go.Proofs.Tryd.prog 30 C30 = true := by kernel_rfl
theorem chk34 : chkFn Go.Proofs.Tryd.prog 34 C34 = true := by kernel_rfl
theorem chk35 : chkFn Go.Proofs.Tryd.prog 35 C35 = true := by kernel_rfl
theorem chk36 : chkFn Go.Proofs.Tryd.prog 36 C36 = true := by kernel_rfl
theorem chk37 : chkFn Go.Proofs.Tryd.prog 37 C37 = true := by kernel_rfl
theorem chk38 : chkFn Go.Proofs.Tryd.prog 38 C38 = true := by kernel_rfl
theorem chk39 : chkFn Go.Proofs.Tryd.prog 39 C39 = true := by kernel_rfl
theorem chk40 : chkFn Go.Proofs.Tryd.prog 40 C40 = true := by kernel_rfl
theorem chk41 : chkFn Go.Proofs.Tryd.prog 41 C41 = true := by kernel_rfl
theorem chk42 : chkFn Go.Proofs.Tryd.prog 42 C42 = true := by kernel_rfl
theorem chk43 : chkFn Go.Proofs.Tryd.prog 43 C43 = true := by kernel_rfl
theorem chk44 : chkFn Go.Proofs.Tryd.prog 44 C44 = true := by kernel_rfl
theorem chk45 : chkFn Go.Proofs.Tryd.prog 45 C45 = true := by kernel_rfl
theorem chk47 : chkFn Go.Proofs.Tryd.prog 47 C47 = true := by kernel_rfl
theorem chk50 : chkFn Go.Proofs.Tryd.prog 50 C50 = true := by kernel_rfl
theorem chk54 : chkFn Go.Proofs.Tryd.prog 54 C54 = true := by kernel_rfl
theorem chk55 : chkFn Go.Proofs.Tryd.prog 55 C55 = true := by kernel_rfl
theorem chk65 : chkFn Go.Proofs.Tryd.prog 65 C65 = true := by kernel_rfl
theorem chk66 : chkFn Go.Proofs.Tryd.prog 66 C66 = true := by kernel_rfl
theorem chk67 : chkFn Go.Proofs.Tryd.prog 67 C67 = true := by kernel_rfl
theorem chk68 : chkFn Go.Proofs.Tryd.prog 68 C68 = true := by kernel_rfl
theorem chk69 : chkFn Go.Proofs.Tryd.prog 69 C69 = true := by kernel_rfl
theorem chk70 : chkFn Go.Proofs.Tryd.prog 70 C70 = true := by kernel_rfl
theorem chk71 : chkFn Go.Proofs.Tryd.prog 71 C71 = true := by kernel_rfl
theorem chk72 : chkFn Go.Proofs.Tryd.prog 72 C72 = true := by kernel_rfl
theorem chk73 : chkFn Go.Proofs.Tryd.prog 73 C73 = true := by kernel_rfl
theorem chk74 : chkFn Go.Proofs.Tryd.prog 74 C74 = true := by kernel_rfl
theorem chk75 : chkFn Go.Proofs.Tryd.prog 75 C75 = true := by kernel_rfl
theorem chk76 : chkFn Go.Proofs.Tryd.prog 76 C76 = true := by kernel_rfl
theorem chk77 : chkFn Go.Proofs.Tryd.prog 77 C77 = true := by kernel_rfl
theorem chk78 : chkFn Go.Proofs.Tryd.prog 78 C78 = true := by kernel_rfl
theorem chk79 : chkFn Go.Proofs.Tryd.prog 79 C79 = true := by kernel_rfl
theorem chk80 : chkFn Go.Proofs.Tryd.prog 80 C80 = true := by kernel_rfl
theorem chk81 : chkFn Go.Proofs.Tryd.prog 81 C81 = true := by kernel_rfl
theorem chk83 : chkFn Go.Proofs.Tryd.prog 83 C83 = true := by kernel_rfl
theorem chk84 : chkFn Go.Proofs.Tryd.prog 84 C84 = true := by kernel_rfl
theorem chk94 : chkFn Go.Proofs.Tryd.prog 94 C94 = true := by kernel_rfl
theorem chk95 : chkFn Go.Proofs.Tryd.prog 95 C95 = true := by kernel_rfl
theorem chk96 : chkFn Go.Proofs.Tryd.prog 96 C96 = true := by kernel_rfl
theorem chk97 : chkFn Go.Proofs.Tryd.prog 97 C97 = true := by kernel_rfl
theorem chk98 : chkFn Go.Proofs.Tryd.prog 98 C98 = true := by kernel_rfl
theorem chk99 : chkFn Go.Proofs.Tryd.prog 99 C99 = true := by kernel_rfl
theorem chk100 : chkFn Go.Proofs.Tryd.prog 100 C100 = true := by kernel_rfl
theorem chk107 : chkFn Go.Proofs.Tryd.prog 107 C107 = true := by kernel_rfl
theorem chk108 : chkFn Go.Proofs.Tryd.prog 108 C108 = true := by kernel_rfl
theorem chk109 : chkFn Go.Proofs.Tryd.prog 109 C109 = true := by kernel_rfl
theorem chk110 : chkFn Go.Proofs.Tryd.prog 110 C110 = true := by kernel_rfl
theorem chk111 : chkFn Go.Proofs.Tryd.prog 111 C111 = true := by kernel_rfl
theorem chk116 : chkFn Go.Proofs.Tryd.prog 116 C116 = true := by kernel_rfl
theorem chk117 : chkFn Go.Proofs.Tryd.prog 117 C117 = true := by kernel_rfl
theorem chk118 : chkFn Go.Proofs.Tryd.prog 118 C118 = true := by kernel_rfl
theorem chk120 : chkFn Go.Proofs.Tryd.prog 120 C120 = true := by kernel_rfl
theorem chk124 : chkFn Go.Proofs.Tryd.prog 124 C124 = true := by kernel_rfl
theorem chk125 : chkFn Go.Proofs.Tryd.prog 125 C125 = true := by kernel_rfl
theorem chk126 : chkFn Go.Proofs.Tryd.prog 126 C126 = true := by kernel_rfl
theorem chk127 : chkFn Go.Proofs.Tryd.prog 127 C127 = true := by kernel_rfl
theorem chk128 : chkFn Go.Proofs.Tryd.prog 128 C128 = true := by kernel_rfl
theorem chk129 : chkFn Go.Proofs.Tryd.prog 129 C129 = true := by kernel_rfl
theorem chk130 : chkFn Go.Proofs.Tryd.prog 130 C130 = true := by kernel_rfl
theorem chk131 : chkFn Go.Proofs.Tryd.prog 131 C131 = true := by kernel_rfl
theorem chk132 : chkFn Go.Proofs.Tryd.prog 132 C132 = true := by kernel_rfl
theorem chk136 : chkFn Go.Proofs.Tryd.prog 136 C136 = true := by kernel_rfl
theorem chk137 : chkFn Go.Proofs.Tryd.prog 137 C137 = true := by kernel_rfl
theorem chk138 : chkFn Go.Proofs.Tryd.prog 138 C138 = true := by kernel_rfl
theorem chk139 : chkFn Go.Proofs.Tryd.prog 139 C139 = true := by kernel_rfl
theorem chk140 : chkFn Go.Proofs.Tryd.prog 140 C140 = true := by kernel_rfl
theorem chk141 : chkFn Go.Proofs.Tryd.prog 141 C141 = true := by kernel_rfl
def Tab (f : Nat) : Option CFn :=
  match f with
  | 4 => some C4
  | 13 => some C13
  | 14 => some C14
  | 15 => some C15
  | 16 => some C16
  | 17 => some C17
  | 18 => some C18
  | 19 => some C19
  | 20 => some C20
  | 25 => some C25
  | 30 => some C30
  | 34 => some C34
  | 35 => some C35
  | 36 => some C36
  | 37 => some C37
  | 38 => some C38
  | 39 => some C39
  | 40 => some C40
  | 41 => some C41
  | 42 => some C42
  | 43 => some C43
  | 44 => some C44
  | 45 => some C45
  | 47 => some C47
  | 50 => some C50
  | 54 => some C54
  | 55 => some C55
  | 65 => some C65
  | 66 => some C66
  | 67 => some C67
  | 68 => some C68
  | 69 => some C69
  | 70 => some C70
  | 71 => some C71
  | 72 => some C72
  | 73 => some C73
  | 74 => some C74
  | 75 => some C75
  | 76 => some C76
  | 77 => some C77
  | 78 => some C78
  | 79 => some C79
  | 80 => some C80
  | 81 => some C81
  | 83 => some C83
  | 84 => some C84
  | 94 => some C94
  | 95 => some C95
  | 96 => some C96
  | 97 => some C97
  | 98 => some C98
  | 99 => some C99
  | 100 => some C100
  | 107 => some C107
  | 108 => some C108
  | 109 => some C109
  | 110 => some C110
  | 111 => some C111
  | 116 => some C116
  | 117 => some C117
  | 118 => some C118
  | 120 => some C120
  | 124 => some C124
  | 125 => some C125
  | 126 => some C126
  | 127 => some C127
  | 128 => some C128
  | 129 => some C129
  | 130 => some C130
  | 131 => some C131
  | 132 => some C132
  | 136 => some C136
  | 137 => some C137
  | 138 => some C138
  | 139 => some C139
  | 140 => some C140
  | 141 => some C141
  | _ => none
theorem tabOk : TabOk Go.Proofs.Tryd.prog Tab := by
  intro f cf h
  unfold Tab at h
  split at h <;> simp only [Option.some.injEq, reduceCtorEq] at h <;> subst h
  · exact chk4
  · exact chk13
  · exact chk14
  · exact chk15
  · exact chk16
  · exact chk17
  · exact chk18
  · exact chk19
  · exact chk20
  · exact chk25
  · exact chk30
  · exact chk34
  · exact chk35
  · exact chk36
  · exact chk37
  · exact chk38
  · exact chk39
  · exact chk40
  · exact chk41
  · exact chk42
  · exact chk43
  · exact chk44
  · exact chk45
  · exact chk47
  · exact chk50
  · exact chk54
  · exact chk55
  · exact chk65
  · exact chk66
  · exact chk67
  · exact chk68
  · exact chk69
  · exact chk70
  · exact chk71
  · exact chk72
  · exact chk73
  · exact chk74
  · exact chk75
  · exact chk76
  · exact chk77
  · exact chk78
  · exact chk79
  · exact chk80
  · exact chk81
  · exact chk83
  · exact chk84
  · exact chk94
  · exact chk95
  · exact chk96
  · exact chk97
  · exact chk98
  · exact chk99
  · exact chk100
  · exact chk107
  · exact chk108
  · exact chk109
  · exact chk110
  · exact chk111
  · exact chk116
  · exact chk117
  · exact chk118
  · exact chk120
  · exact chk124
  · exact chk125
  · exact chk126
  · exact chk127
  · exact chk128
  · exact chk129
  · exact chk130
  · exact chk131
  · exact chk132
  · exact chk136
  · exact chk137
  · exact chk138
  · exact chk139
  · exact chk140
  · exact chk141

end Go.Proofs.YtcllfkplpdppiaaDoorH
