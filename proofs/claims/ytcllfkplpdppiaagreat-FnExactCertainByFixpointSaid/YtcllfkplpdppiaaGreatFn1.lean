import Derived.Test.YtcllfkplpdppiaaGreatX3
import Derived.Test.YtcllfkplpdppiaaGreatProg
set_option linter.unusedVariables false
set_option maxRecDepth 100000
namespace Go.Proofs.YtcllfkplpdppiaaGreatH
open Go
@[simp] abbrev oP (d : Nat) (p : COp) (k : List Nat) : COper := ⟨some d, p, none, [], k⟩
@[simp] abbrev oT (d a : Nat) (k : List Nat) : COper := ⟨some d, .mv (.t a), none, [], k⟩
@[simp] abbrev oG (d : Nat) (p : COp) (g : Nat) (b : Bool) (k : List Nat) : COper := ⟨some d, p, some (g, b), [], k⟩
abbrev sR (l : List (Nat × COper)) (c : CCode) : CCode := .seq (.reg false l) c
abbrev sK (l : List Nat) (c : CCode) : CCode := .seq (.kill l) c
abbrev B10 : CCode := (sR [(0,oP 2 (.box 2 (.t 0)) [0]),(1,oP 3 (.box 3 (.t 1)) [1]),(2,oP 4 (.mv (.c (.bool false))) [4])] (sR [(0,oP 5 (.mv (.c (.int .i64 1048576))) [])] (sR [(0,oP 10 (.ld 2 true (.t 2)) []),(1,oT 11
5 [5]),(2,oP 12 (.call 11 [.t 10,.t 11]) [10,11]),(3,oT 5 12 [12])] (.seq (sR [(0,oT 13 5 []),(1,oP 14 (.bin .lss (.t 13) (.c (.int .i64 0))) [13])] (.cond (.t 14) (sK [2,3,5,14] (sR [(0,oP 4 (.mv (.c (.bool true)))
[])] .ret)) (sK [14] .skip))) (sR [(0,oP 15 (.ld 3 true (.t 3)) []),(1,oT 16 5 [5]),(2,oP 17 (.call 21 [.t 15,.t 16]) [15,16]),(3,oT 5 17 [17])] (.seq (sR [(0,oT 18 5 [5]),(1,oP 19 (.bin .lss (.t 18) (.c (.int .i64 0)))
[18])] (.cond (.t 19) (sK [2,3,19] (sR [(0,oP 4 (.mv (.c (.bool true))) [])] .ret)) (sK [19] .skip))) (.seq (.reg true [(0,oP 20 (.ld 2 true (.t 2)) []),(2,oP 22 (.ld 3 true (.t 3)) []),(1,⟨some 21,.call 14 [.t
20],none,[(3,3)],[20]⟩),(3,oP 23 (.call 23 [.t 22]) [22]),(4,oP 24 (.call 69 [.t 21,.t 23]) [21,23]),(5,oT 6 24 [24])]) (sR [(0,oP 25 (.ld 2 true (.t 2)) []),(1,oP 26 (.call 14 [.t 25]) [25]),(2,oP 7 (.al [.nils,.nils])
[]),(3,⟨none,.st 2 (.t 7) (.t 26),none,[],[26]⟩)] (sR [(0,oP 27 (.ld 3 true (.t 3)) []),(1,oP 28 (.call 23 [.t 27]) [27]),(2,oP 8 (.al [.int .i64 (0),.nils,.nils]) []),(3,⟨none,.st 3 (.t 8) (.t 28),none,[],[28]⟩)] (sR
[(0,oP 29 (.ld 2 true (.t 7)) []),(1,oP 30 (.ld 3 true (.t 8)) []),(2,oP 31 (.call 70 [.t 29,.t 30]) [29,30]),(3,oT 9 31 [31])] (.seq (sR [(0,oT 32 9 [9]),(1,oT 33 6 [6]),(2,oP 34 (.beq true (.t 32) (.t 33)) [32,33])]
(.cond (.t 34) (sK [2,3,7,8,34] (sR [(0,oP 4 (.mv (.c (.bool false))) [])] .ret)) (sK [34] .skip))) (.seq (.seq (.reg true [(0,oP 35 (.ld 2 true (.t 7)) []),(1,oP 36 (.ld 2 true (.t 2)) []),(2,⟨some 37,.call 14 [.t
36],none,[(7,2)],[2,36]⟩),(3,oP 38 (.call 18 [.t 35,.t 37]) [7,35,37]),(4,oP 39 (.not (.t 38)) [38])]) (.cond (.t 39) (sK [3,8,39] (sR [(0,oP 4 (.mv (.c (.bool false))) [])] .ret)) (sK [39] .skip))) (.seq (.seq (.reg
true [(0,oP 40 (.ld 3 true (.t 8)) []),(1,oP 41 (.ld 3 true (.t 3)) []),(2,⟨some 42,.call 23 [.t 41],none,[(8,3)],[3,41]⟩),(3,oP 43 (.call 25 [.t 40,.t 42]) [8,40,42]),(4,oP 44 (.not (.t 43)) [43])]) (.cond (.t 44) (sK
[44] (sR [(0,oP 4 (.mv (.c (.bool false))) [])] .ret)) (sK [44] .skip))) (sR [(0,oP 4 (.mv (.c (.bool true))) [])] .ret))))))))))))))
def C10 : CFn := ⟨45,2,[.t 4],B10⟩
abbrev B11 : CCode := (sR [(0,oP 2 (.box 2 (.t 0)) [0]),(1,oP 4 (.mv (.c (.int .i64 0))) [4])] (sR [(0,oP 5 (.fa 0 (.t 2)) []),(1,oP 6 (.ld 1 false (.t 5)) [5]),(2,oT 7 1 [1]),(3,oP 8 (.call 26 [.t 6,.t 7]) [6,7]),(4,oT
1 8 [8])] (.seq (sR [(0,oT 9 1 []),(1,oP 10 (.bin .lss (.t 9) (.c (.int .i64 0))) [9])] (.cond (.t 10) (sK [1,2,10] (sR [(0,oP 4 (.mv (.c (.int .i64 (-1)))) [])] .ret)) (sK [10] .skip))) (sR [(0,oP 11 (.fa 1 (.t 2))
[]),(1,oP 12 (.ld 1 false (.t 11)) [11]),(2,oT 13 1 [1]),(3,oP 14 (.call 71 [.t 12,.t 13]) [2,12,13]),(4,oT 1 14 [14])] (.seq (sR [(0,oT 15 1 []),(1,oP 16 (.bin .lss (.t 15) (.c (.int .i64 0))) [15])] (.cond (.t 16) (sK
[1,16] (sR [(0,oP 4 (.mv (.c (.int .i64 (-1)))) [])] .ret)) (sK [16] .skip))) (sR [(0,oT 17 1 [1]),(1,oT 4 17 [17])] .ret))))))
def C11 : CFn := ⟨18,2,[.t 4],B11⟩
abbrev B14 : CCode := (sR [(0,oP 1 (.box 2 (.t 0)) [0]),(1,oP 2 (.al [.nils,.nils]) [])] (sR [(0,oP 3 (.al [.nils,.nils]) [])] (sR [(0,oP 4 (.fa 0 (.t 1)) []),(1,oP 5 (.ld 1 false (.t 4)) [4]),(2,oP 6 (.call 28 [.t 5])
[5]),(3,oP 7 (.fa 0 (.t 3)) []),(4,⟨none,.st 1 (.t 7) (.t 6),none,[],[6,7]⟩)] (sR [(0,oP 8 (.fa 1 (.t 1)) []),(1,oP 9 (.ld 1 false (.t 8)) [8]),(2,oP 10 (.call 77 [.t 9]) [1,9]),(3,oP 11 (.fa 1 (.t 3)) []),(4,⟨none,.st
1 (.t 11) (.t 10),none,[],[10,11]⟩)] (sR [(0,oP 12 (.ld 2 true (.t 3)) []),(1,⟨none,.st 2 (.t 2) (.t 12),none,[],[3,12]⟩)] .ret)))))
def C14 : CFn := ⟨13,1,[.m 2 2 true],B14⟩
abbrev L16_0 : CCode := (.seq (sR [(0,oT 8 4 []),(1,oT 9 0 []),(2,oP 10 (.len (.t 9)) [9]),(3,oP 11 (.bin .lss (.t 8) (.t 10)) [8,10])] (.cond (.t 11) (sK [11] .skip) (sK [0,4,11] (.exit 0)))) (.seq (.block 1 (.reg
false [(0,oT 14 3 []),(1,oT 15 4 []),(2,oT 16 0 []),(3,oT 17 4 []),(4,oP 18 (.ia 1 (.t 16) (.t 17)) []),(5,oP 19 (.ld 1 false (.t 18)) [16,17,18]),(6,oP 20 (.ia 1 (.t 14) (.t 15)) []),(7,⟨none,.st 1 (.t 20) (.t
19),none,[],[14,15,19,20]⟩)])) (.reg false [(0,oT 12 4 [4]),(1,oP 13 (.bin .add (.t 12) (.c (.int .i64 1))) [12]),(2,oT 4 13 [13])])))
abbrev B16 : CCode := (sR [(0,oP 2 (.mv (.c (.nils))) [2])] (sR [(0,oT 5 0 []),(1,oP 6 (.len (.t 5)) [5]),(2,oP 7 (.mk 1 8 [.int .i64 (0)] (.t 6) (.t 6)) [6]),(3,oT 3 7 [7])] (.seq (sR [(0,oP 4 (.mv (.c (.int .i64 0)))
[])] (.block 0 (.loop L16_0))) (sR [(0,oT 21 3 [3]),(1,oT 2 21 [21])] .ret))))
def C16 : CFn := ⟨22,1,[.t 2],B16⟩
abbrev B18 : CCode := (sR [(0,oP 2 (.box 2 (.t 0)) [0]),(1,oP 3 (.box 2 (.t 1)) [1]),(2,oP 4 (.mv (.c (.bool false))) [4])] (.seq (sR [(0,oP 5 (.fa 0 (.t 2)) []),(1,oP 6 (.ld 1 false (.t 5)) [5]),(2,oP 7 (.fa 0 (.t 3))
[]),(3,oP 8 (.ld 1 false (.t 7)) [7]),(4,oP 9 (.call 30 [.t 6,.t 8]) [6,8]),(5,oP 10 (.not (.t 9)) [9])] (.cond (.t 10) (sK [2,3,10] (sR [(0,oP 4 (.mv (.c (.bool false))) [])] .ret)) (sK [10] .skip))) (.seq (sR [(0,oP
11 (.fa 1 (.t 2)) []),(1,oP 12 (.ld 1 false (.t 11)) [11]),(2,oP 13 (.fa 1 (.t 3)) []),(3,oP 14 (.ld 1 false (.t 13)) [13]),(4,oP 15 (.call 84 [.t 12,.t 14]) [2,3,12,14]),(5,oP 16 (.not (.t 15)) [15])] (.cond (.t 16)
(sK [16] (sR [(0,oP 4 (.mv (.c (.bool false))) [])] .ret)) (sK [16] .skip))) (sR [(0,oP 4 (.mv (.c (.bool true))) [])] .ret))))
def C18 : CFn := ⟨17,2,[.t 4],B18⟩
abbrev L20_0 : CCode := (.seq (sR [(0,oT 11 5 []),(1,oT 12 0 []),(2,oP 13 (.len (.t 12)) [12]),(3,oP 14 (.bin .lss (.t 11) (.t 13)) [11,13])] (.cond (.t 14) (sK [14] .skip) (sK [0,1,5,14] (.exit 0)))) (.seq (.block 1
(.seq (.reg true [(0,oT 17 0 []),(1,oT 18 5 []),(2,oP 19 (.ia 1 (.t 17) (.t 18)) []),(3,oP 20 (.ld 1 false (.t 19)) [17,18,19]),(4,oT 21 1 []),(5,oT 22 5 []),(6,oP 23 (.ia 1 (.t 21) (.t 22)) []),(7,oP 24 (.ld 1 false
(.t 23)) [21,22,23]),(8,oP 25 (.bin .neq (.t 20) (.t 24)) [20,24])]) (.cond (.t 25) (sK [0,1,5,25] (sR [(0,oP 4 (.mv (.c (.bool false))) [])] .ret)) (sK [25] .skip)))) (.reg false [(0,oT 15 5 [5]),(1,oP 16 (.bin .add
(.t 15) (.c (.int .i64 1))) [15]),(2,oT 5 16 [16])])))
abbrev B20 : CCode := (sR [(0,oP 4 (.mv (.c (.bool false))) [4])] (.seq (sR [(0,oT 6 0 []),(1,oP 7 (.len (.t 6)) [6]),(2,oT 8 1 []),(3,oP 9 (.len (.t 8)) [8]),(4,oP 10 (.bin .neq (.t 7) (.t 9)) [7,9])] (.cond (.t 10)
(sK [0,1,10] (sR [(0,oP 4 (.mv (.c (.bool false))) [])] .ret)) (sK [10] .skip))) (.seq (sR [(0,oP 5 (.mv (.c (.int .i64 0))) [])] (.block 0 (.loop L20_0))) (sR [(0,oP 4 (.mv (.c (.bool true))) [])] .ret))))
def C20 : CFn := ⟨26,2,[.t 4],B20⟩
abbrev B21 : CCode := (sR [(0,oP 2 (.box 3 (.t 0)) [0]),(1,oP 4 (.mv (.c (.int .i64 0))) [4])] (sR [(0,oP 5 (.fa 1 (.t 2)) []),(1,oP 6 (.ld 1 false (.t 5)) [5]),(2,oT 7 1 [1]),(3,oP 8 (.call 86 [.t 6,.t 7]) [6,7]),(4,oT
1 8 [8])] (.seq (sR [(0,oT 9 1 []),(1,oP 10 (.bin .lss (.t 9) (.c (.int .i64 0))) [9])] (.cond (.t 10) (sK [1,2,10] (sR [(0,oP 4 (.mv (.c (.int .i64 (-1)))) [])] .ret)) (sK [10] .skip))) (sR [(0,oP 11 (.fa 2 (.t 2))
[]),(1,oP 12 (.ld 1 false (.t 11)) [11]),(2,oT 13 1 [1]),(3,oP 14 (.call 87 [.t 12,.t 13]) [2,12,13]),(4,oT 1 14 [14])] (.seq (sR [(0,oT 15 1 []),(1,oP 16 (.bin .lss (.t 15) (.c (.int .i64 0))) [15])] (.cond (.t 16) (sK
[1,16] (sR [(0,oP 4 (.mv (.c (.int .i64 (-1)))) [])] .ret)) (sK [16] .skip))) (sR [(0,oT 17 1 [1]),(1,oT 4 17 [17])] .ret))))))
def C21 : CFn := ⟨18,2,[.t 4],B21⟩
abbrev B23 : CCode := (sR [(0,oP 1 (.box 3 (.t 0)) [0]),(1,oP 2 (.al [.int .i64 (0),.nils,.nils]) [])] (sR [(0,oP 3 (.al [.int .i64 (0),.nils,.nils]) [])] (sR [(0,oP 4 (.fa 0 (.t 1)) []),(1,oP 5 (.ld 1 false (.t 4))
[4]),(2,oP 6 (.fa 0 (.t 3)) []),(3,⟨none,.st 1 (.t 6) (.t 5),none,[],[5,6]⟩)] (sR [(0,oP 7 (.fa 1 (.t 1)) []),(1,oP 8 (.ld 1 false (.t 7)) [7]),(2,oP 9 (.call 89 [.t 8]) [8]),(3,oP 10 (.fa 1 (.t 3)) []),(4,⟨none,.st 1
(.t 10) (.t 9),none,[],[9,10]⟩)] (sR [(0,oP 11 (.fa 2 (.t 1)) []),(1,oP 12 (.ld 1 false (.t 11)) [11]),(2,oP 13 (.call 16 [.t 12]) [1,12]),(3,oP 14 (.fa 2 (.t 3)) []),(4,⟨none,.st 1 (.t 14) (.t 13),none,[],[13,14]⟩)]
(sR [(0,oP 15 (.ld 3 true (.t 3)) []),(1,⟨none,.st 3 (.t 2) (.t 15),none,[],[3,15]⟩)] .ret))))))
def C23 : CFn := ⟨16,1,[.m 2 3 true],B23⟩
abbrev B25 : CCode := (sR [(0,oP 2 (.box 3 (.t 0)) [0]),(1,oP 3 (.box 3 (.t 1)) [1]),(2,oP 4 (.mv (.c (.bool false))) [4])] (.seq (sR [(0,oP 5 (.fa 0 (.t 2)) []),(1,oP 6 (.ld 1 false (.t 5)) [5]),(2,oP 7 (.fa 0 (.t 3))
[]),(3,oP 8 (.ld 1 false (.t 7)) [7]),(4,oP 9 (.bin .neq (.t 6) (.t 8)) [6,8])] (.cond (.t 9) (sK [2,3,9] (sR [(0,oP 4 (.mv (.c (.bool false))) [])] .ret)) (sK [9] .skip))) (.seq (sR [(0,oP 10 (.fa 1 (.t 2)) []),(1,oP
11 (.ld 1 false (.t 10)) [10]),(2,oP 12 (.fa 1 (.t 3)) []),(3,oP 13 (.ld 1 false (.t 12)) [12]),(4,oP 14 (.call 91 [.t 11,.t 13]) [11,13]),(5,oP 15 (.not (.t 14)) [14])] (.cond (.t 15) (sK [2,3,15] (sR [(0,oP 4 (.mv (.c
(.bool false))) [])] .ret)) (sK [15] .skip))) (.seq (sR [(0,oP 16 (.fa 2 (.t 2)) []),(1,oP 17 (.ld 1 false (.t 16)) [16]),(2,oP 18 (.fa 2 (.t 3)) []),(3,oP 19 (.ld 1 false (.t 18)) [18]),(4,oP 20 (.call 20 [.t 17,.t
19]) [2,3,17,19]),(5,oP 21 (.not (.t 20)) [20])] (.cond (.t 21) (sK [21] (sR [(0,oP 4 (.mv (.c (.bool false))) [])] .ret)) (sK [21] .skip))) (sR [(0,oP 4 (.mv (.c (.bool true))) [])] .ret)))))
def C25 : CFn := ⟨22,2,[.t 4],B25⟩
abbrev L26_0 : CCode := (.seq (sR [(0,oT 12 5 []),(1,oT 13 0 []),(2,oP 14 (.len (.t 13)) [13]),(3,oP 15 (.bin .lss (.t 12) (.t 14)) [12,14])] (.cond (.t 15) (sK [15] .skip) (sK [0,5,15] (.exit 0)))) (.seq (.block 1 (sR
[(0,oT 18 0 []),(1,oT 19 5 []),(2,oP 20 (.ia 3 (.t 18) (.t 19)) []),(3,oP 21 (.ld 3 true (.t 20)) [20]),(4,oT 22 1 [1]),(5,oP 23 (.call 92 [.t 21,.t 22]) [18,19,21,22]),(6,oT 1 23 [23])] (sR [(0,oT 24 1 []),(1,oP 25
(.bin .lss (.t 24) (.c (.int .i64 0))) [24])] (.cond (.t 25) (sK [0,1,5,25] (sR [(0,oP 4 (.mv (.c (.int .i64 (-1)))) [])] .ret)) (sK [25] .skip))))) (.reg false [(0,oT 16 5 [5]),(1,oP 17 (.bin .add (.t 16) (.c (.int
.i64 1))) [16]),(2,oT 5 17 [17])])))
abbrev B26 : CCode := (sR [(0,oP 4 (.mv (.c (.int .i64 0))) [4])] (sR [(0,oT 6 1 [1]),(1,oT 7 0 []),(2,oP 8 (.len (.t 7)) [7]),(3,oP 9 (.bin .sub (.t 6) (.t 8)) [6,8]),(4,oT 1 9 [9])] (.seq (sR [(0,oT 10 1 []),(1,oP 11
(.bin .lss (.t 10) (.c (.int .i64 0))) [10])] (.cond (.t 11) (sK [0,1,11] (sR [(0,oP 4 (.mv (.c (.int .i64 (-1)))) [])] .ret)) (sK [11] .skip))) (.seq (sR [(0,oP 5 (.mv (.c (.int .i64 0))) [])] (.block 0 (.loop L26_0)))
(sR [(0,oT 26 1 [1]),(1,oT 4 26 [26])] .ret)))))
def C26 : CFn := ⟨27,2,[.t 4],B26⟩
abbrev L28_0 : CCode := (.seq (sR [(0,oT 8 4 []),(1,oT 9 0 []),(2,oP 10 (.len (.t 9)) [9]),(3,oP 11 (.bin .lss (.t 8) (.t 10)) [8,10])] (.cond (.t 11) (sK [11] .skip) (sK [0,4,11] (.exit 0)))) (.seq (.block 1 (.reg
false [(0,oT 14 3 []),(1,oT 15 4 []),(2,oT 16 0 []),(3,oT 17 4 []),(4,oP 18 (.ia 3 (.t 16) (.t 17)) []),(5,oP 19 (.ld 3 true (.t 18)) [18]),(6,oP 20 (.call 98 [.t 19]) [16,17,19]),(7,oP 21 (.ia 3 (.t 14) (.t 15))
[]),(8,⟨none,.st 3 (.t 21) (.t 20),none,[],[14,15,20,21]⟩)])) (.reg false [(0,oT 12 4 [4]),(1,oP 13 (.bin .add (.t 12) (.c (.int .i64 1))) [12]),(2,oT 4 13 [13])])))
abbrev B28 : CCode := (sR [(0,oP 2 (.mv (.c (.nils))) [2])] (sR [(0,oT 5 0 []),(1,oP 6 (.len (.t 5)) [5]),(2,oP 7 (.mk 3 32 [.str [],.int .i64 (0),.int .i64 (0)] (.t 6) (.t 6)) [6]),(3,oT 3 7 [7])] (.seq (sR [(0,oP 4
(.mv (.c (.int .i64 0))) [])] (.block 0 (.loop L28_0))) (sR [(0,oT 22 3 [3]),(1,oT 2 22 [22])] .ret))))
def C28 : CFn := ⟨23,1,[.t 2],B28⟩
abbrev L30_0 : CCode := (.seq (sR [(0,oT 11 5 []),(1,oT 12 0 []),(2,oP 13 (.len (.t 12)) [12]),(3,oP 14 (.bin .lss (.t 11) (.t 13)) [11,13])] (.cond (.t 14) (sK [14] .skip) (sK [0,1,5,14] (.exit 0)))) (.seq (.block 1
(.seq (.reg true [(0,oT 17 0 []),(1,oT 18 5 []),(2,oP 19 (.ia 3 (.t 17) (.t 18)) []),(3,oP 20 (.ld 3 true (.t 19)) [19]),(4,oT 21 1 []),(5,oT 22 5 []),(6,oP 23 (.ia 3 (.t 21) (.t 22)) []),(7,oP 24 (.ld 3 true (.t 23))
[23]),(8,oP 25 (.call 107 [.t 20,.t 24]) [17,18,20,21,22,24]),(9,oP 26 (.not (.t 25)) [25])]) (.cond (.t 26) (sK [0,1,5,26] (sR [(0,oP 4 (.mv (.c (.bool false))) [])] .ret)) (sK [26] .skip)))) (.reg false [(0,oT 15 5
[5]),(1,oP 16 (.bin .add (.t 15) (.c (.int .i64 1))) [15]),(2,oT 5 16 [16])])))
abbrev B30 : CCode := (sR [(0,oP 4 (.mv (.c (.bool false))) [4])] (.seq (sR [(0,oT 6 0 []),(1,oP 7 (.len (.t 6)) [6]),(2,oT 8 1 []),(3,oP 9 (.len (.t 8)) [8]),(4,oP 10 (.bin .neq (.t 7) (.t 9)) [7,9])] (.cond (.t 10)
(sK [0,1,10] (sR [(0,oP 4 (.mv (.c (.bool false))) [])] .ret)) (sK [10] .skip))) (.seq (sR [(0,oP 5 (.mv (.c (.int .i64 0))) [])] (.block 0 (.loop L30_0))) (sR [(0,oP 4 (.mv (.c (.bool true))) [])] .ret))))
def C30 : CFn := ⟨27,2,[.t 4],B30⟩
abbrev L48_3 : CCode := (.seq (sR [(0,oT 60 8 []),(1,oT 61 6 []),(2,oP 62 (.bin .lss (.t 60) (.t 61)) [60,61])] (.cond (.t 62) (sK [62] .skip) (sK [8,62] (.exit 2)))) (.seq (.block 3 (.seq (.reg true [(0,oP 65 (.fa 1
(.t 3)) []),(1,oP 66 (.ld 1 false (.t 65)) [65]),(2,oT 67 8 []),(3,oP 68 (.ia 2 (.t 66) (.t 67)) [66]),(4,oP 69 (.fa 0 (.t 68)) [68]),(5,oP 70 (.ld 1 false (.t 69)) [67,69]),(6,oP 71 (.fa 0 (.t 7)) []),(7,oP 72 (.ld 1
false (.t 71)) [71]),(8,oP 73 (.bin .eql (.t 70) (.t 72)) [70,72])]) (.cond (.t 73) (sK [0,3,5,6,7,8,73] (sR [(0,oP 4 (.mv (.c (.bool false))) [])] .ret)) (sK [73] .skip)))) (.reg false [(0,oT 63 8 [8]),(1,oP 64 (.bin
.add (.t 63) (.c (.int .i64 1))) [63]),(2,oT 8 64 [64])])))
abbrev L48_4 : CCode := (.seq (sR [(0,oT 74 9 []),(1,oP 75 (.fa 1 (.t 7)) []),(2,oP 76 (.ld 1 false (.t 75)) [75]),(3,oP 77 (.len (.t 76)) [76]),(4,oP 78 (.bin .lss (.t 74) (.t 77)) [74,77])] (.cond (.t 78) (sK [78]
.skip) (sK [7,9,78] (.exit 4)))) (.seq (.block 5 (.seq (.seq (.reg true [(0,oP 81 (.fa 1 (.t 7)) []),(1,oP 82 (.ld 1 false (.t 81)) [81]),(2,oT 83 9 []),(3,oP 84 (.ia 1 (.t 82) (.t 83)) [82]),(4,oP 85 (.ld 1 false (.t
84)) [83,84]),(5,oP 86 (.fa 0 (.t 3)) []),(6,oP 87 (.ld 1 false (.t 86)) [86]),(7,oP 88 (.bin .sub (.t 87) (.c (.int .i64 1))) [87]),(8,oP 89 (.call 118 [.t 85,(.c (.int .i64 (-10))),.t 88]) [85,88]),(9,oP 90 (.not (.t
89)) [89])]) (.cond (.t 90) (sK [0,3,5,6,7,9,90] (sR [(0,oP 4 (.mv (.c (.bool false))) [])] .ret)) (sK [90] .skip))) (sR [(0,oP 91 (.fa 1 (.t 7)) []),(1,oP 92 (.ld 1 false (.t 91)) [91]),(2,oT 93 9 []),(3,oP 94 (.ia 1
(.t 92) (.t 93)) [92]),(4,oP 95 (.ld 1 false (.t 94)) [93,94]),(5,oP 96 (.bin .geq (.t 95) (.c (.int .i64 0))) [95])] (.cond (.t 96) (sK [96] (.reg false [(0,oT 97 5 []),(1,oP 98 (.fa 1 (.t 7)) []),(2,oP 99 (.ld 1 false
(.t 98)) [98]),(3,oT 100 9 []),(4,oP 101 (.ia 1 (.t 99) (.t 100)) [99]),(5,oP 102 (.ld 1 false (.t 101)) [100,101]),(6,oP 103 (.ia 1 (.t 97) (.t 102)) []),(7,⟨none,.st 1 (.t 103) (.c (.bool
true)),none,[],[97,102,103]⟩)])) (sK [96] .skip))))) (.reg false [(0,oT 79 9 [9]),(1,oP 80 (.bin .add (.t 79) (.c (.int .i64 1))) [79]),(2,oT 9 80 [80])])))
abbrev L48_0 : CCode := (.seq (sR [(0,oT 29 6 []),(1,oP 30 (.fa 1 (.t 3)) []),(2,oP 31 (.ld 1 false (.t 30)) [30]),(3,oP 32 (.len (.t 31)) [31]),(4,oP 33 (.bin .lss (.t 29) (.t 32)) [29,32])] (.cond (.t 33) (sK [33]
.skip) (sK [0,6,33] (.exit 0)))) (.seq (.block 1 (sR [(0,oP 36 (.fa 1 (.t 3)) []),(1,oP 37 (.ld 1 false (.t 36)) [36]),(2,oT 38 6 []),(3,oP 39 (.ia 2 (.t 37) (.t 38)) [37]),(4,oP 40 (.ld 2 true (.t 39)) [39]),(5,oP 7
(.al [.int .i64 (0),.nils]) []),(6,⟨none,.st 2 (.t 7) (.t 40),none,[],[38,40]⟩)] (.seq (.seq (.reg true [(0,oP 41 (.fa 0 (.t 7)) []),(1,oP 42 (.ld 1 false (.t 41)) [41]),(2,oT 43 0 []),(3,oP 44 (.len (.t 43))
[43]),(4,oP 45 (.bin .sub (.t 44) (.c (.int .i64 1))) [44]),(5,oP 46 (.call 118 [.t 42,(.c (.int .i64 0)),.t 45]) [42,45]),(6,oP 47 (.not (.t 46)) [46]),(7,oT 48 47 [47]),(8,oG 49 (.fa 1 (.t 7)) 48 false []),(9,oG 50
(.ld 1 false (.t 49)) 48 false [49]),(10,oG 51 (.len (.t 50)) 48 false [50]),(11,oG 52 (.mv (.t 0)) 48 false []),(12,oG 53 (.fa 0 (.t 7)) 48 false []),(13,oG 54 (.ld 1 false (.t 53)) 48 false [53]),(14,oG 55 (.ia 3 (.t
52) (.t 54)) 48 false []),(15,oG 56 (.fa 1 (.t 55)) 48 false [55]),(16,oG 57 (.ld 1 false (.t 56)) 48 false [52,54,56]),(17,oG 58 (.bin .neq (.t 51) (.t 57)) 48 false [51,57]),(18,oP 59 (.pick (.t 48) (.c (.bool true))
(.t 58)) [48,58])]) (.cond (.t 59) (sK [0,3,5,6,7,59] (sR [(0,oP 4 (.mv (.c (.bool false))) [])] .ret)) (sK [59] .skip))) (.seq (sR [(0,oP 8 (.mv (.c (.int .i64 0))) [])] (.block 2 (.loop L48_3))) (sR [(0,oP 9 (.mv (.c
(.int .i64 0))) [])] (.block 4 (.loop L48_4))))))) (.reg false [(0,oT 34 6 [6]),(1,oP 35 (.bin .add (.t 34) (.c (.int .i64 1))) [34]),(2,oT 6 35 [35])])))
abbrev L48_1 : CCode := (.seq (sR [(0,oT 104 10 []),(1,oP 105 (.fa 0 (.t 3)) []),(2,oP 106 (.ld 1 false (.t 105)) [105]),(3,oP 107 (.bin .lss (.t 104) (.t 106)) [104,106])] (.cond (.t 107) (sK [107] .skip) (sK
[5,10,107] (.exit 6)))) (.seq (.block 7 (sR [(0,oT 110 5 []),(1,oT 111 10 []),(2,oP 112 (.ia 1 (.t 110) (.t 111)) []),(3,oP 113 (.ld 1 false (.t 112)) [110,111,112]),(4,oP 114 (.not (.t 113)) [113])] (.cond (.t 114) (sK
[3,5,10,114] (sR [(0,oP 4 (.mv (.c (.bool false))) [])] .ret)) (sK [114] .skip)))) (.reg false [(0,oT 108 10 [10]),(1,oP 109 (.bin .add (.t 108) (.c (.int .i64 1))) [108]),(2,oT 10 109 [109])])))
abbrev L48_2 : CCode := (.seq (sR [(0,oT 115 11 []),(1,oP 116 (.fa 2 (.t 3)) []),(2,oP 117 (.ld 1 false (.t 116)) [116]),(3,oP 118 (.len (.t 117)) [117]),(4,oP 119 (.bin .lss (.t 115) (.t 118)) [115,118])] (.cond (.t
119) (sK [119] .skip) (sK [3,11,119] (.exit 8)))) (.seq (.block 9 (.seq (.reg true [(0,oP 122 (.fa 2 (.t 3)) []),(1,oP 123 (.ld 1 false (.t 122)) [122]),(2,oT 124 11 []),(3,oP 125 (.ia 1 (.t 123) (.t 124)) [123]),(4,oP
126 (.ld 1 false (.t 125)) [124,125]),(5,oP 127 (.fa 0 (.t 3)) []),(6,oP 128 (.ld 1 false (.t 127)) [127]),(7,oP 129 (.bin .sub (.t 128) (.c (.int .i64 1))) [128]),(8,oP 130 (.call 118 [.t 126,(.c (.int .i64 0)),.t
129]) [126,129]),(9,oP 131 (.not (.t 130)) [130]),(10,oT 132 131 [131]),(11,oG 133 (.mv (.t 11)) 132 false []),(12,oG 134 (.bin .gtr (.t 133) (.c (.int .i64 0))) 132 false [133]),(13,oG 135 (.mv (.t 134)) 132 false
[134]),(14,oG 136 (.fa 2 (.t 3)) 135 true []),(15,oG 137 (.ld 1 false (.t 136)) 135 true [136]),(16,oG 138 (.mv (.t 11)) 135 true []),(17,oG 139 (.ia 1 (.t 137) (.t 138)) 135 true [137]),(18,oG 140 (.ld 1 false (.t
139)) 135 true [138,139]),(19,oG 141 (.fa 2 (.t 3)) 135 true []),(20,oG 142 (.ld 1 false (.t 141)) 135 true [141]),(21,oG 143 (.mv (.t 11)) 135 true []),(22,oG 144 (.bin .sub (.t 143) (.c (.int .i64 1))) 135 true
[143]),(23,oG 145 (.ia 1 (.t 142) (.t 144)) 135 true [142]),(24,oG 146 (.ld 1 false (.t 145)) 135 true [144,145]),(25,oG 147 (.bin .leq (.t 140) (.t 146)) 135 true [140,146]),(26,oG 148 (.pick (.t 135) (.t 147) (.c
(.bool false))) 132 false [135,147]),(27,oP 149 (.pick (.t 132) (.c (.bool true)) (.t 148)) [132,148])]) (.cond (.t 149) (sK [3,11,149] (sR [(0,oP 4 (.mv (.c (.bool false))) [])] .ret)) (sK [149] .skip)))) (.reg false
[(0,oT 120 11 [11]),(1,oP 121 (.bin .add (.t 120) (.c (.int .i64 1))) [120]),(2,oT 11 121 [121])])))
abbrev B48 : CCode := (sR [(0,oP 3 (.box 3 (.t 1)) [1]),(1,oP 4 (.mv (.c (.bool false))) [4])] (.seq (sR [(0,oT 12 0 []),(1,oP 13 (.call 117 [.t 12]) [12]),(2,oP 14 (.not (.t 13)) [13]),(3,oT 15 14 [14]),(4,oG 16 (.fa 0
(.t 3)) 15 false []),(5,oG 17 (.ld 1 false (.t 16)) 15 false [16]),(6,oG 18 (.call 118 [.t 17,(.c (.int .i64 0)),(.c (.int .i64 4))]) 15 false [17]),(7,oG 19 (.not (.t 18)) 15 false [18]),(8,oP 20 (.pick (.t 15) (.c
(.bool true)) (.t 19)) [15,19]),(9,oT 21 20 [20]),(10,oG 22 (.fa 1 (.t 3)) 21 false []),(11,oG 23 (.ld 1 false (.t 22)) 21 false [22]),(12,oG 24 (.len (.t 23)) 21 false [23]),(13,oG 25 (.call 118 [.t 24,(.c (.int .i64
1)),(.c (.int .i64 3))]) 21 false [24]),(14,oG 26 (.not (.t 25)) 21 false [25]),(15,oP 27 (.pick (.t 21) (.c (.bool true)) (.t 26)) [21,26])] (.cond (.t 27) (sK [0,3,27] (sR [(0,oP 4 (.mv (.c (.bool false))) [])] .ret))
(sK [27] .skip))) (sR [(0,oP 28 (.mk 1 1 [.bool false] (.c (.int .i64 4)) (.c (.int .i64 4))) []),(1,oT 5 28 [28])] (.seq (sR [(0,oP 6 (.mv (.c (.int .i64 0))) [])] (.block 0 (.loop L48_0))) (.seq (sR [(0,oP 10 (.mv (.c
(.int .i64 0))) [])] (.block 6 (.loop L48_1))) (.seq (sR [(0,oP 11 (.mv (.c (.int .i64 0))) [])] (.block 8 (.loop L48_2))) (sR [(0,oP 4 (.mv (.c (.bool true))) [])] .ret)))))))
def C48 : CFn := ⟨150,2,[.t 4],B48⟩
abbrev L60_0 : CCode := (.seq (sR [(0,oT 24 7 []),(1,oT 25 1 []),(2,oP 26 (.len (.t 25)) [25]),(3,oP 27 (.bin .lss (.t 24) (.t 26)) [24,26])] (.cond (.t 27) (sK [27] .skip) (sK [1,2,7,27] (.exit 0)))) (.seq (.block 1
(.seq (.reg true [(0,oP 30 (.fa 1 (.t 2)) []),(1,oP 31 (.ld 1 false (.t 30)) [30]),(2,oT 32 1 []),(3,oT 33 7 []),(4,oP 34 (.ia 1 (.t 32) (.t 33)) []),(5,oP 35 (.ld 1 false (.t 34)) [32,33,34]),(6,oP 36 (.ia 2 (.t 31)
(.t 35)) [31]),(7,oP 37 (.ld 2 true (.t 36)) [36]),(8,oP 8 (.al [.int .i64 (0),.nils]) []),(9,⟨none,.st 2 (.t 8) (.t 37),none,[],[35,37]⟩)]) (.reg true [(0,oP 38 (.fa 1 (.t 6)) []),(1,oP 39 (.ld 1 false (.t 38))
[]),(2,oP 40 (.fa 0 (.t 8)) []),(3,oP 41 (.ld 1 false (.t 40)) []),(4,oP 42 (.bsl 1 0 [.int .i64 (0)] []) []),(5,oP 43 (.fa 1 (.t 8)) []),(6,oP 44 (.ld 1 false (.t 43)) [43]),(7,⟨some 45,.app 1 8 (.t 42) (.t
44),none,[(38,1),(40,1)],[8,38,40,42,44]⟩),(8,oP 46 (.bld [.int .i64 (0),.nils] [(0,1,(.t 41)),(1,1,(.t 45))]) [41,45]),(9,oP 47 (.bsl 2 1 [.int .i64 (0),.nils] [(0,2,(.t 46))]) [46]),(10,oP 48 (.app 2 32 (.t 39) (.t
47)) [39,47]),(11,oP 49 (.fa 1 (.t 6)) []),(12,⟨none,.st 1 (.t 49) (.t 48),none,[],[48,49]⟩)]))) (.reg false [(0,oT 28 7 [7]),(1,oP 29 (.bin .add (.t 28) (.c (.int .i64 1))) [28]),(2,oT 7 29 [29])])))
abbrev B60 : CCode := (sR [(0,oP 2 (.box 2 (.t 0)) [0]),(1,oP 4 (.al [.nils,.nils]) []),(2,oP 5 (.mv (.c (.bool false))) [5])] (.seq (sR [(0,oP 9 (.ld 2 true (.t 2)) []),(1,oP 10 (.call 73 [.t 9]) [9]),(2,oP 11 (.not
(.t 10)) [10]),(3,oT 12 11 [11]),(4,oG 13 (.ld 2 true (.t 2)) 12 false []),(5,oG 14 (.mv (.t 1)) 12 false []),(6,oG 15 (.call 133 [.t 13,.t 14]) 12 false [13,14]),(7,oG 16 (.not (.t 15)) 12 false [15]),(8,oP 17 (.pick
(.t 12) (.c (.bool true)) (.t 16)) [12,16])] (.cond (.t 17) (sK [1,2,17] (sR [(0,oP 18 (.bld [.nils,.nils] []) []),(1,⟨none,.st 2 (.t 4) (.t 18),none,[],[18]⟩),(2,oP 5 (.mv (.c (.bool false))) [])] .ret)) (sK [17]
.skip))) (sR [(0,oP 19 (.bsl 3 0 [.str [],.int .i64 (0),.int .i64 (0)] []) []),(1,oP 20 (.fa 0 (.t 2)) []),(2,oP 21 (.ld 1 false (.t 20)) [20]),(3,oP 22 (.app 3 32 (.t 19) (.t 21)) [19,21]),(4,oP 23 (.bld [.nils,.nils]
[(0,1,(.t 22))]) [22]),(5,oP 6 (.al [.nils,.nils]) []),(6,⟨none,.st 2 (.t 6) (.t 23),none,[],[23]⟩)] (.seq (sR [(0,oP 7 (.mv (.c (.int .i64 0))) [])] (.block 0 (.loop L60_0))) (sR [(0,oP 50 (.ld 2 true (.t 6))
[]),(1,⟨none,.st 2 (.t 4) (.t 50),none,[],[6,50]⟩),(2,oP 5 (.mv (.c (.bool true))) [])] .ret)))))
def C60 : CFn := ⟨51,2,[.m 4 2 true,.t 5],B60⟩
abbrev B61 : CCode := (sR [(0,oP 2 (.box 2 (.t 0)) [0]),(1,oP 3 (.box 3 (.t 1)) [1]),(2,oP 4 (.mv (.c (.nils))) [4])] (sR [(0,oP 7 (.bsl 2 0 [.nils,.nils] []) []),(1,oP 5 (.al [.nils]) []),(2,⟨none,.st 1 (.t 5) (.t
7),none,[],[7]⟩)] (.seq (sR [(0,oP 8 (.ld 2 true (.t 2)) []),(1,oP 9 (.ld 3 true (.t 3)) []),(2,oP 10 (.call 90 [.t 8,.t 9]) [8,9]),(3,oP 11 (.not (.t 10)) [10])] (.cond (.t 11) (sK [2,3,11] (sR [(0,oP 12 (.ld 1 false
(.t 5)) []),(1,oT 4 12 [12])] .ret)) (sK [11] .skip))) (sR [(0,oP 6 (.al [.nilf]) [])] (sR [(0,oP 13 (.fn 134 [.t 3,.t 5,.t 2,.t 6]) []),(1,⟨none,.st 1 (.t 6) (.t 13),none,[],[13]⟩)] (.seq (.reg true [(0,oP 14 (.ld 1
false (.t 6)) []),(1,oP 15 (.fa 0 (.t 3)) []),(2,oP 16 (.ld 1 false (.t 15)) [15]),(3,⟨some 17,.call 81 [.t 16],none,[(6,1)],[16]⟩),(4,oP 18 (.callv (.t 14) [.t 17,(.c (.nils))]) [2,3,6,14,17,18])]) (sR [(0,oP 19 (.ld 1
false (.t 5)) []),(1,oT 4 19 [19])] .ret)))))))
def C61 : CFn := ⟨20,2,[.t 4],B61⟩
abbrev B62 : CCode := (sR [(0,oP 3 (.box 1 (.t 1)) [1]),(1,oP 4 (.mv (.c (.bool false))) [4])] (sR [(0,oT 5 0 [0]),(1,oP 6 (.fn 138 [.t 3]) []),(2,oP 7 (.call 137 [.t 5,.t 6]) [3,5,6]),(3,oT 4 7 [7])] .ret))
def C62 : CFn := ⟨8,2,[.t 4],B62⟩
abbrev L63_0 : CCode := (sR [(0,oP 14 (.bin .lss (.t 13) (.t 12)) [])] (.seq (.cond (.t 14) (sK [14] .skip) (sK [11,12,13,14] (.exit 0))) (.seq (.block 1 (sR [(0,oP 15 (.ia 2 (.t 11) (.t 13)) []),(1,oP 16 (.ld 2 true
(.t 15)) [15]),(2,oP 7 (.al [.nils,.nils]) []),(3,⟨none,.st 2 (.t 7) (.t 16),none,[],[16]⟩)] (sR [(0,oP 17 (.fa 1 (.t 7)) []),(1,oP 18 (.ld 1 false (.t 17)) [17]),(2,oP 19 (.call 140 [.t 18]) [18,19])] (.reg false
[(0,oT 20 5 [5]),(1,oP 21 (.fa 1 (.t 7)) []),(2,oP 22 (.ld 1 false (.t 21)) [21]),(3,oP 23 (.bsl 1 1 [.nils] [(0,1,(.t 22))]) [7,22]),(4,oP 24 (.app 1 24 (.t 20) (.t 23)) [20,23]),(5,oT 5 24 [24])])))) (.reg false
[(0,oP 25 (.bin .add (.t 13) (.c (.int .i64 1))) [13]),(1,oT 13 25 [25])]))))
abbrev B63 : CCode := (sR [(0,oP 2 (.box 2 (.t 0)) [0]),(1,oP 3 (.box 3 (.t 1)) [1]),(2,oP 4 (.mv (.c (.nils))) [4])] (sR [(0,oP 8 (.bsl 1 0 [.nils] []) []),(1,oT 5 8 [8])] (.seq (sR [(0,oP 9 (.ld 2 true (.t 2))
[]),(1,oP 10 (.ld 3 true (.t 3)) []),(2,oP 11 (.call 61 [.t 9,.t 10]) [2,3,9,10]),(3,oP 12 (.len (.t 11)) []),(4,oP 13 (.mv (.c (.int .i64 0))) [])] (.block 0 (.loop L63_0))) (sR [(0,oT 26 5 [5]),(1,oT 4 26 [26])]
.ret))))
def C63 : CFn := ⟨27,2,[.t 4],B63⟩
abbrev B69 : CCode := (sR [(0,oP 2 (.box 2 (.t 0)) [0]),(1,oP 3 (.box 3 (.t 1)) [1]),(2,oP 4 (.mv (.c (.bool false))) [4])] (sR [(0,oP 5 (.ld 2 true (.t 2)) []),(1,oP 6 (.ld 3 true (.t 3)) []),(2,oP 7 (.call 145 [.t
5,.t 6]) [2,3,5,6]),(3,oP 8 (.bsl 1 0 [.int .i64 (0)] []) []),(4,oP 9 (.call 144 [.t 7,.t 8]) [7,8]),(5,oT 4 9 [9])] .ret))
def C69 : CFn := ⟨10,2,[.t 4],B69⟩
abbrev B70 : CCode := (sR [(0,oP 2 (.box 2 (.t 0)) [0]),(1,oP 3 (.box 3 (.t 1)) [1]),(2,oP 4 (.mv (.c (.bool false))) [4])] (sR [(0,oP 5 (.ld 2 true (.t 2)) []),(1,oP 6 (.ld 3 true (.t 3)) []),(2,oP 7 (.call 146 [.t
5,.t 6]) [2,3,5,6]),(3,oP 8 (.call 137 [.t 7,(.c (.fn 147 []))]) [7]),(4,oT 4 8 [8])] .ret))
def C70 : CFn := ⟨9,2,[.t 4],B70⟩
abbrev L71_0 : CCode := (.seq (sR [(0,oT 12 5 []),(1,oT 13 0 []),(2,oP 14 (.len (.t 13)) [13]),(3,oP 15 (.bin .lss (.t 12) (.t 14)) [12,14])] (.cond (.t 15) (sK [15] .skip) (sK [0,5,15] (.exit 0)))) (.seq (.block 1 (sR
[(0,oT 18 0 []),(1,oT 19 5 []),(2,oP 20 (.ia 2 (.t 18) (.t 19)) []),(3,oP 21 (.ld 2 true (.t 20)) [20]),(4,oT 22 1 [1]),(5,oP 23 (.call 148 [.t 21,.t 22]) [18,19,21,22]),(6,oT 1 23 [23])] (sR [(0,oT 24 1 []),(1,oP 25
(.bin .lss (.t 24) (.c (.int .i64 0))) [24])] (.cond (.t 25) (sK [0,1,5,25] (sR [(0,oP 4 (.mv (.c (.int .i64 (-1)))) [])] .ret)) (sK [25] .skip))))) (.reg false [(0,oT 16 5 [5]),(1,oP 17 (.bin .add (.t 16) (.c (.int
.i64 1))) [16]),(2,oT 5 17 [17])])))
abbrev B71 : CCode := (sR [(0,oP 4 (.mv (.c (.int .i64 0))) [4])] (sR [(0,oT 6 1 [1]),(1,oT 7 0 []),(2,oP 8 (.len (.t 7)) [7]),(3,oP 9 (.bin .sub (.t 6) (.t 8)) [6,8]),(4,oT 1 9 [9])] (.seq (sR [(0,oT 10 1 []),(1,oP 11
(.bin .lss (.t 10) (.c (.int .i64 0))) [10])] (.cond (.t 11) (sK [0,1,11] (sR [(0,oP 4 (.mv (.c (.int .i64 (-1)))) [])] .ret)) (sK [11] .skip))) (.seq (sR [(0,oP 5 (.mv (.c (.int .i64 0))) [])] (.block 0 (.loop L71_0)))
(sR [(0,oT 26 1 [1]),(1,oT 4 26 [26])] .ret)))))
def C71 : CFn := ⟨27,2,[.t 4],B71⟩
abbrev L73_0 : CCode := (.seq (sR [(0,oT 4 3 []),(1,oP 5 (.fa 1 (.t 1)) []),(2,oP 6 (.ld 1 false (.t 5)) [5]),(3,oP 7 (.len (.t 6)) [6]),(4,oP 8 (.bin .lss (.t 4) (.t 7)) [4,7])] (.cond (.t 8) (sK [8] .skip) (sK [3,8]
(.exit 0)))) (.seq (.block 1 (.seq (.reg true [(0,oP 11 (.fa 0 (.t 1)) []),(1,oP 12 (.ld 1 false (.t 11)) [11]),(2,oP 13 (.fa 1 (.t 1)) []),(3,oP 14 (.ld 1 false (.t 13)) [13]),(4,oT 15 3 []),(5,oP 16 (.ia 2 (.t 14) (.t
15)) [14]),(6,oP 17 (.ld 2 true (.t 16)) [16]),(7,oP 18 (.call 150 [.t 12,.t 17]) [12,15,17]),(8,oP 19 (.not (.t 18)) [18]),(9,oT 20 19 [19]),(10,oG 21 (.mv (.t 3)) 20 false []),(11,oG 22 (.bin .gtr (.t 21) (.c (.int
.i64 0))) 20 false [21]),(12,oG 23 (.mv (.t 22)) 20 false [22]),(13,oG 24 (.fa 1 (.t 1)) 23 true []),(14,oG 25 (.ld 1 false (.t 24)) 23 true [24]),(15,oG 26 (.mv (.t 3)) 23 true []),(16,oG 27 (.bin .sub (.t 26) (.c
(.int .i64 1))) 23 true [26]),(17,oG 28 (.ia 2 (.t 25) (.t 27)) 23 true [25]),(18,oG 29 (.ld 2 true (.t 28)) 23 true [28]),(19,oG 30 (.fa 1 (.t 1)) 23 true []),(20,oG 31 (.ld 1 false (.t 30)) 23 true [30]),(21,oG 32
(.mv (.t 3)) 23 true []),(22,oG 33 (.ia 2 (.t 31) (.t 32)) 23 true [31]),(23,oG 34 (.ld 2 true (.t 33)) 23 true [33]),(24,oG 35 (.call 151 [.t 29,.t 34]) 23 true [27,29,32,34]),(25,oG 36 (.bin .geq (.t 35) (.c (.int
.i64 0))) 23 true [35]),(26,oG 37 (.pick (.t 23) (.t 36) (.c (.bool false))) 20 false [23,36]),(27,oP 38 (.pick (.t 20) (.c (.bool true)) (.t 37)) [20,37])]) (.cond (.t 38) (sK [1,3,38] (sR [(0,oP 2 (.mv (.c (.bool
false))) [])] .ret)) (sK [38] .skip)))) (.reg false [(0,oT 9 3 [3]),(1,oP 10 (.bin .add (.t 9) (.c (.int .i64 1))) [9]),(2,oT 3 10 [10])])))
abbrev B73 : CCode := (sR [(0,oP 1 (.box 2 (.t 0)) [0]),(1,oP 2 (.mv (.c (.bool false))) [2])] (.seq (sR [(0,oP 3 (.mv (.c (.int .i64 0))) [])] (.block 0 (.loop L73_0))) (sR [(0,oP 39 (.fa 0 (.t 1)) []),(1,oP 40 (.ld 1
false (.t 39)) [39]),(2,oP 41 (.call 117 [.t 40]) [40]),(3,oT 42 41 [41]),(4,oG 43 (.fa 1 (.t 1)) 42 true []),(5,oG 44 (.ld 1 false (.t 43)) 42 true [43]),(6,oG 45 (.len (.t 44)) 42 true [1,44]),(7,oG 46 (.bin .leq (.t
45) (.c (.int .i64 14))) 42 true [45]),(8,oP 47 (.pick (.t 42) (.t 46) (.c (.bool false))) [42,46]),(9,oT 2 47 [47])] .ret)))
def C73 : CFn := ⟨48,1,[.t 2],B73⟩
abbrev L75_0 : CCode := (.seq (sR [(0,oT 5 3 []),(1,oP 6 (.len (.t 5)) [5]),(2,oT 7 0 []),(3,oP 8 (.bin .lss (.t 6) (.t 7)) [6,7])] (.cond (.t 8) (sK [8] .skip) (sK [0,8] (.exit 0)))) (.block 1 (.reg false [(0,oT 9 3
[3]),(1,oP 10 (.bsl 1 1 [.int .i64 (0)] [(0,1,(.c (.int .i64 (-1))))]) []),(2,oP 11 (.app 1 8 (.t 9) (.t 10)) [9,10]),(3,oT 3 11 [11])])))
abbrev B75 : CCode := (sR [(0,oP 2 (.mv (.c (.nils))) [2])] (sR [(0,oP 4 (.bsl 1 0 [.int .i64 (0)] []) []),(1,oT 3 4 [4])] (.seq (.block 0 (.loop L75_0)) (sR [(0,oT 12 3 [3]),(1,oT 2 12 [12])] .ret))))
def C75 : CFn := ⟨13,1,[.t 2],B75⟩
abbrev L77_0 : CCode := (.seq (sR [(0,oT 8 4 []),(1,oT 9 0 []),(2,oP 10 (.len (.t 9)) [9]),(3,oP 11 (.bin .lss (.t 8) (.t 10)) [8,10])] (.cond (.t 11) (sK [11] .skip) (sK [0,4,11] (.exit 0)))) (.seq (.block 1 (.reg
false [(0,oT 14 3 []),(1,oT 15 4 []),(2,oT 16 0 []),(3,oT 17 4 []),(4,oP 18 (.ia 2 (.t 16) (.t 17)) []),(5,oP 19 (.ld 2 true (.t 18)) [18]),(6,oP 20 (.call 154 [.t 19]) [16,17,19]),(7,oP 21 (.ia 2 (.t 14) (.t 15))
[]),(8,⟨none,.st 2 (.t 21) (.t 20),none,[],[14,15,20,21]⟩)])) (.reg false [(0,oT 12 4 [4]),(1,oP 13 (.bin .add (.t 12) (.c (.int .i64 1))) [12]),(2,oT 4 13 [13])])))
abbrev B77 : CCode := (sR [(0,oP 2 (.mv (.c (.nils))) [2])] (sR [(0,oT 5 0 []),(1,oP 6 (.len (.t 5)) [5]),(2,oP 7 (.mk 2 32 [.int .i64 (0),.nils] (.t 6) (.t 6)) [6]),(3,oT 3 7 [7])] (.seq (sR [(0,oP 4 (.mv (.c (.int
.i64 0))) [])] (.block 0 (.loop L77_0))) (sR [(0,oT 22 3 [3]),(1,oT 2 22 [22])] .ret))))
def C77 : CFn := ⟨23,1,[.t 2],B77⟩
abbrev L79_0 : CCode := (sR [(0,oP 19 (.bin .lss (.t 18) (.t 17)) [])] (.seq (.cond (.t 19) (sK [19] .skip) (sK [1,16,17,18,19] (.exit 0))) (.seq (.block 1 (sR [(0,oT 20 18 []),(1,oP 21 (.ia 2 (.t 16) (.t 18)) []),(2,oP
22 (.ld 2 true (.t 21)) [21]),(3,oP 4 (.al [.int .i64 (0),.nils]) []),(4,oT 3 20 [20]),(5,⟨none,.st 2 (.t 4) (.t 22),none,[],[22]⟩)] (.seq (.reg true [(0,oP 23 (.fa 0 (.t 1)) []),(1,oP 24 (.ld 1 false (.t 23))
[23]),(2,oP 25 (.ld 2 true (.t 4)) []),(3,oP 26 (.call 157 [.t 24,.t 25]) [24,25]),(4,oP 27 (.not (.t 26)) [26]),(5,oT 28 27 [27]),(6,oG 29 (.mv (.t 3)) 28 false []),(7,oG 30 (.bin .gtr (.t 29) (.c (.int .i64 0))) 28
false [29]),(8,oG 31 (.mv (.t 30)) 28 false [30]),(9,oG 32 (.fa 1 (.t 1)) 31 true []),(10,oG 33 (.ld 1 false (.t 32)) 31 true [32]),(11,oG 34 (.mv (.t 3)) 31 true [3]),(12,oG 35 (.bin .sub (.t 34) (.c (.int .i64 1))) 31
true [34]),(13,oG 36 (.ia 2 (.t 33) (.t 35)) 31 true [33]),(14,oG 37 (.ld 2 true (.t 36)) 31 true [36]),(15,oG 38 (.ld 2 true (.t 4)) 31 true []),(16,oG 39 (.call 158 [.t 37,.t 38]) 31 true [4,35,37,38]),(17,oG 40 (.bin
.geq (.t 39) (.c (.int .i64 0))) 31 true [39]),(18,oG 41 (.pick (.t 31) (.t 40) (.c (.bool false))) 28 false [31,40]),(19,oP 42 (.pick (.t 28) (.c (.bool true)) (.t 41)) [28,41])]) (.cond (.t 42) (sK [1,16,17,18,42] (sR
[(0,oP 2 (.mv (.c (.bool false))) [])] .ret)) (sK [42] .skip))))) (.reg false [(0,oP 43 (.bin .add (.t 18) (.c (.int .i64 1))) [18]),(1,oT 18 43 [43])]))))
abbrev B79 : CCode := (sR [(0,oP 1 (.box 2 (.t 0)) [0]),(1,oP 2 (.mv (.c (.bool false))) [2])] (.seq (sR [(0,oP 5 (.fa 0 (.t 1)) []),(1,oP 6 (.ld 1 false (.t 5)) [5]),(2,oP 7 (.call 156 [.t 6]) [6]),(3,oP 8 (.not (.t
7)) [7]),(4,oT 9 8 [8]),(5,oG 10 (.fa 1 (.t 1)) 9 false []),(6,oG 11 (.ld 1 false (.t 10)) 9 false [10]),(7,oG 12 (.len (.t 11)) 9 false [11]),(8,oG 13 (.bin .gtr (.t 12) (.c (.int .i64 14))) 9 false [12]),(9,oP 14
(.pick (.t 9) (.c (.bool true)) (.t 13)) [9,13])] (.cond (.t 14) (sK [1,14] (sR [(0,oP 2 (.mv (.c (.bool false))) [])] .ret)) (sK [14] .skip))) (.seq (sR [(0,oP 15 (.fa 1 (.t 1)) []),(1,oP 16 (.ld 1 false (.t 15))
[15]),(2,oP 17 (.len (.t 16)) []),(3,oP 18 (.mv (.c (.int .i64 0))) [])] (.block 0 (.loop L79_0))) (sR [(0,oP 2 (.mv (.c (.bool true))) [])] .ret))))
def C79 : CFn := ⟨44,1,[.t 2],B79⟩
abbrev B81 : CCode := (sR [(0,oP 2 (.mv (.c (.nils))) [2])] (sR [(0,oP 3 (.bsl 1 1 [.int .i64 (0)] [(0,1,(.c (.int .i64 (-1))))]) []),(1,oT 4 0 [0]),(2,oP 5 (.call 161 [.t 3,.t 4]) [3,4]),(3,oT 2 5 [5])] .ret))
def C81 : CFn := ⟨6,1,[.t 2],B81⟩
abbrev L83_0 : CCode := (sR [(0,oP 12 (.bin .lss (.t 11) (.t 10)) [])] (.seq (.cond (.t 12) (sK [12] .skip) (sK [1,9,10,11,12] (.exit 0))) (.seq (.block 1 (sR [(0,oT 13 11 []),(1,oP 14 (.ia 2 (.t 9) (.t 11)) []),(2,oP
15 (.ld 2 true (.t 14)) [14]),(3,oP 5 (.al [.int .i64 (0),.nils]) []),(4,oT 4 13 [13]),(5,⟨none,.st 2 (.t 5) (.t 15),none,[],[15]⟩)] (sR [(0,oT 16 3 []),(1,oP 17 (.len (.t 16)) [16]),(2,oP 18 (.bin .sub (.t 17) (.c
(.int .i64 1))) [17]),(3,oT 6 18 [18])] (.seq (.reg true [(0,oT 19 6 []),(1,oP 20 (.bin .geq (.t 19) (.c (.int .i64 0))) [19]),(2,oT 21 20 [20]),(3,oG 22 (.fa 0 (.t 1)) 21 true []),(4,oG 23 (.ld 1 false (.t 22)) 21 true
[22]),(5,oG 24 (.fa 1 (.t 1)) 21 true []),(6,oG 25 (.ld 1 false (.t 24)) 21 true [24]),(7,oG 26 (.mv (.t 3)) 21 true []),(8,oG 27 (.mv (.t 6)) 21 true []),(9,oG 28 (.ia 1 (.t 26) (.t 27)) 21 true []),(10,oG 29 (.ld 1
false (.t 28)) 21 true [28]),(11,oG 30 (.ia 1 (.t 29) (.c (.int .i64 0))) 21 true [29]),(12,oG 31 (.ld 1 false (.t 30)) 21 true [26,27,30]),(13,oG 32 (.ia 2 (.t 25) (.t 31)) 21 true [25]),(14,oG 33 (.ld 2 true (.t 32))
21 true [32]),(15,oG 34 (.ld 2 true (.t 5)) 21 true []),(16,oG 35 (.call 162 [.t 23,.t 33,.t 34]) 21 true [5,23,31,33,34]),(17,oP 36 (.pick (.t 21) (.t 35) (.c (.bool false))) [21,35])]) (.cond (.t 36) (sK [36] (.reg
false [(0,oT 37 3 []),(1,oT 38 6 []),(2,oT 39 3 []),(3,oT 40 6 [6]),(4,oP 41 (.ia 1 (.t 39) (.t 40)) []),(5,oP 42 (.ld 1 false (.t 41)) [41]),(6,oT 43 4 [4]),(7,oP 44 (.bsl 1 1 [.int .i64 (0)] [(0,1,(.t 43))])
[43]),(8,oP 45 (.app 1 8 (.t 42) (.t 44)) [39,40,42,44]),(9,oP 46 (.ia 1 (.t 37) (.t 38)) []),(10,⟨none,.st 1 (.t 46) (.t 45),none,[],[37,38,45,46]⟩)])) (sK [6,36] (.reg false [(0,oT 47 3 [3]),(1,oT 48 4 [4]),(2,oP 49
(.bsl 1 1 [.int .i64 (0)] [(0,1,(.t 48))]) [48]),(3,oP 50 (.bsl 1 1 [.nils] [(0,1,(.t 49))]) [49]),(4,oP 51 (.app 1 24 (.t 47) (.t 50)) [47,50]),(5,oT 3 51 [51])]))))))) (.reg false [(0,oP 52 (.bin .add (.t 11) (.c
(.int .i64 1))) [11]),(1,oT 11 52 [52])]))))
abbrev B83 : CCode := (sR [(0,oP 1 (.box 2 (.t 0)) [0]),(1,oP 2 (.mv (.c (.nils))) [2])] (sR [(0,oP 7 (.bsl 1 0 [.nils] []) []),(1,oT 3 7 [7])] (.seq (sR [(0,oP 8 (.fa 1 (.t 1)) []),(1,oP 9 (.ld 1 false (.t 8))
[8]),(2,oP 10 (.len (.t 9)) []),(3,oP 11 (.mv (.c (.int .i64 0))) [])] (.block 0 (.loop L83_0))) (sR [(0,oT 53 3 [3]),(1,oT 2 53 [53])] .ret))))
def C83 : CFn := ⟨54,1,[.t 2],B83⟩
abbrev L84_0 : CCode := (.seq (sR [(0,oT 11 5 []),(1,oT 12 0 []),(2,oP 13 (.len (.t 12)) [12]),(3,oP 14 (.bin .lss (.t 11) (.t 13)) [11,13])] (.cond (.t 14) (sK [14] .skip) (sK [0,1,5,14] (.exit 0)))) (.seq (.block 1
(.seq (.reg true [(0,oT 17 0 []),(1,oT 18 5 []),(2,oP 19 (.ia 2 (.t 17) (.t 18)) []),(3,oP 20 (.ld 2 true (.t 19)) [19]),(4,oT 21 1 []),(5,oT 22 5 []),(6,oP 23 (.ia 2 (.t 21) (.t 22)) []),(7,oP 24 (.ld 2 true (.t 23))
[23]),(8,oP 25 (.call 163 [.t 20,.t 24]) [17,18,20,21,22,24]),(9,oP 26 (.not (.t 25)) [25])]) (.cond (.t 26) (sK [0,1,5,26] (sR [(0,oP 4 (.mv (.c (.bool false))) [])] .ret)) (sK [26] .skip)))) (.reg false [(0,oT 15 5
[5]),(1,oP 16 (.bin .add (.t 15) (.c (.int .i64 1))) [15]),(2,oT 5 16 [16])])))
abbrev B84 : CCode := (sR [(0,oP 4 (.mv (.c (.bool false))) [4])] (.seq (sR [(0,oT 6 0 []),(1,oP 7 (.len (.t 6)) [6]),(2,oT 8 1 []),(3,oP 9 (.len (.t 8)) [8]),(4,oP 10 (.bin .neq (.t 7) (.t 9)) [7,9])] (.cond (.t 10)
(sK [0,1,10] (sR [(0,oP 4 (.mv (.c (.bool false))) [])] .ret)) (sK [10] .skip))) (.seq (sR [(0,oP 5 (.mv (.c (.int .i64 0))) [])] (.block 0 (.loop L84_0))) (sR [(0,oP 4 (.mv (.c (.bool true))) [])] .ret))))
def C84 : CFn := ⟨27,2,[.t 4],B84⟩
abbrev L86_0 : CCode := (.seq (sR [(0,oT 12 5 []),(1,oT 13 0 []),(2,oP 14 (.len (.t 13)) [13]),(3,oP 15 (.bin .lss (.t 12) (.t 14)) [12,14])] (.cond (.t 15) (sK [15] .skip) (sK [0,5,15] (.exit 0)))) (.seq (.block 1 (sR
[(0,oT 18 0 []),(1,oT 19 5 []),(2,oP 20 (.ia 2 (.t 18) (.t 19)) []),(3,oP 21 (.ld 2 true (.t 20)) [20]),(4,oT 22 1 [1]),(5,oP 23 (.call 149 [.t 21,.t 22]) [18,19,21,22]),(6,oT 1 23 [23])] (sR [(0,oT 24 1 []),(1,oP 25
(.bin .lss (.t 24) (.c (.int .i64 0))) [24])] (.cond (.t 25) (sK [0,1,5,25] (sR [(0,oP 4 (.mv (.c (.int .i64 (-1)))) [])] .ret)) (sK [25] .skip))))) (.reg false [(0,oT 16 5 [5]),(1,oP 17 (.bin .add (.t 16) (.c (.int
.i64 1))) [16]),(2,oT 5 17 [17])])))
abbrev B86 : CCode := (sR [(0,oP 4 (.mv (.c (.int .i64 0))) [4])] (sR [(0,oT 6 1 [1]),(1,oT 7 0 []),(2,oP 8 (.len (.t 7)) [7]),(3,oP 9 (.bin .sub (.t 6) (.t 8)) [6,8]),(4,oT 1 9 [9])] (.seq (sR [(0,oT 10 1 []),(1,oP 11
(.bin .lss (.t 10) (.c (.int .i64 0))) [10])] (.cond (.t 11) (sK [0,1,11] (sR [(0,oP 4 (.mv (.c (.int .i64 (-1)))) [])] .ret)) (sK [11] .skip))) (.seq (sR [(0,oP 5 (.mv (.c (.int .i64 0))) [])] (.block 0 (.loop L86_0)))
(sR [(0,oT 26 1 [1]),(1,oT 4 26 [26])] .ret)))))
def C86 : CFn := ⟨27,2,[.t 4],B86⟩
abbrev B87 : CCode := (sR [(0,oP 4 (.mv (.c (.int .i64 0))) [4])] (sR [(0,oT 5 1 [1]),(1,oT 6 0 [0]),(2,oP 7 (.len (.t 6)) [6]),(3,oP 8 (.bin .sub (.t 5) (.t 7)) [5,7]),(4,oT 1 8 [8])] (.seq (sR [(0,oT 9 1 []),(1,oP 10
(.bin .lss (.t 9) (.c (.int .i64 0))) [9])] (.cond (.t 10) (sK [1,10] (sR [(0,oP 4 (.mv (.c (.int .i64 (-1)))) [])] .ret)) (sK [10] .skip))) (sR [(0,oT 11 1 [1]),(1,oT 4 11 [11])] .ret))))
def C87 : CFn := ⟨12,2,[.t 4],B87⟩
abbrev B88 : CCode := (sR [(0,oP 2 (.box 2 (.t 0)) [0]),(1,oP 3 (.box 3 (.t 1)) [1]),(2,oP 4 (.mv (.c (.bool false))) [4])] (sR [(0,oP 5 (.ld 2 true (.t 2)) []),(1,oP 6 (.call 73 [.t 5]) [5]),(2,oT 7 6 [6]),(3,oG 8 (.fa
0 (.t 2)) 7 true []),(4,oG 9 (.ld 1 false (.t 8)) 7 true [8]),(5,oG 10 (.ld 3 true (.t 3)) 7 true []),(6,oG 11 (.call 48 [.t 9,.t 10]) 7 true [2,3,9,10]),(7,oP 12 (.pick (.t 7) (.t 11) (.c (.bool false))) [7,11]),(8,oT
4 12 [12])] .ret))
def C88 : CFn := ⟨13,2,[.t 4],B88⟩
abbrev L89_0 : CCode := (.seq (sR [(0,oT 8 4 []),(1,oT 9 0 []),(2,oP 10 (.len (.t 9)) [9]),(3,oP 11 (.bin .lss (.t 8) (.t 10)) [8,10])] (.cond (.t 11) (sK [11] .skip) (sK [0,4,11] (.exit 0)))) (.seq (.block 1 (.reg
false [(0,oT 14 3 []),(1,oT 15 4 []),(2,oT 16 0 []),(3,oT 17 4 []),(4,oP 18 (.ia 2 (.t 16) (.t 17)) []),(5,oP 19 (.ld 2 true (.t 18)) [18]),(6,oP 20 (.call 155 [.t 19]) [16,17,19]),(7,oP 21 (.ia 2 (.t 14) (.t 15))
[]),(8,⟨none,.st 2 (.t 21) (.t 20),none,[],[14,15,20,21]⟩)])) (.reg false [(0,oT 12 4 [4]),(1,oP 13 (.bin .add (.t 12) (.c (.int .i64 1))) [12]),(2,oT 4 13 [13])])))
abbrev B89 : CCode := (sR [(0,oP 2 (.mv (.c (.nils))) [2])] (sR [(0,oT 5 0 []),(1,oP 6 (.len (.t 5)) [5]),(2,oP 7 (.mk 2 32 [.int .i64 (0),.nils] (.t 6) (.t 6)) [6]),(3,oT 3 7 [7])] (.seq (sR [(0,oP 4 (.mv (.c (.int
.i64 0))) [])] (.block 0 (.loop L89_0))) (sR [(0,oT 22 3 [3]),(1,oT 2 22 [22])] .ret))))
def C89 : CFn := ⟨23,1,[.t 2],B89⟩
abbrev B90 : CCode := (sR [(0,oP 2 (.box 2 (.t 0)) [0]),(1,oP 3 (.box 3 (.t 1)) [1]),(2,oP 4 (.mv (.c (.bool false))) [4])] (sR [(0,oP 5 (.ld 2 true (.t 2)) []),(1,oP 6 (.call 79 [.t 5]) [5]),(2,oT 7 6 [6]),(3,oG 8 (.fa
0 (.t 2)) 7 true []),(4,oG 9 (.ld 1 false (.t 8)) 7 true [8]),(5,oG 10 (.ld 3 true (.t 3)) 7 true []),(6,oG 11 (.call 111 [.t 9,.t 10]) 7 true [2,3,9,10]),(7,oP 12 (.pick (.t 7) (.t 11) (.c (.bool false))) [7,11]),(8,oT
4 12 [12])] .ret))
def C90 : CFn := ⟨13,2,[.t 4],B90⟩
abbrev L91_0 : CCode := (.seq (sR [(0,oT 11 5 []),(1,oT 12 0 []),(2,oP 13 (.len (.t 12)) [12]),(3,oP 14 (.bin .lss (.t 11) (.t 13)) [11,13])] (.cond (.t 14) (sK [14] .skip) (sK [0,1,5,14] (.exit 0)))) (.seq (.block 1
(.seq (.reg true [(0,oT 17 0 []),(1,oT 18 5 []),(2,oP 19 (.ia 2 (.t 17) (.t 18)) []),(3,oP 20 (.ld 2 true (.t 19)) [19]),(4,oT 21 1 []),(5,oT 22 5 []),(6,oP 23 (.ia 2 (.t 21) (.t 22)) []),(7,oP 24 (.ld 2 true (.t 23))
[23]),(8,oP 25 (.call 164 [.t 20,.t 24]) [17,18,20,21,22,24]),(9,oP 26 (.not (.t 25)) [25])]) (.cond (.t 26) (sK [0,1,5,26] (sR [(0,oP 4 (.mv (.c (.bool false))) [])] .ret)) (sK [26] .skip)))) (.reg false [(0,oT 15 5
[5]),(1,oP 16 (.bin .add (.t 15) (.c (.int .i64 1))) [15]),(2,oT 5 16 [16])])))
abbrev B91 : CCode := (sR [(0,oP 4 (.mv (.c (.bool false))) [4])] (.seq (sR [(0,oT 6 0 []),(1,oP 7 (.len (.t 6)) [6]),(2,oT 8 1 []),(3,oP 9 (.len (.t 8)) [8]),(4,oP 10 (.bin .neq (.t 7) (.t 9)) [7,9])] (.cond (.t 10)
(sK [0,1,10] (sR [(0,oP 4 (.mv (.c (.bool false))) [])] .ret)) (sK [10] .skip))) (.seq (sR [(0,oP 5 (.mv (.c (.int .i64 0))) [])] (.block 0 (.loop L91_0))) (sR [(0,oP 4 (.mv (.c (.bool true))) [])] .ret))))
def C91 : CFn := ⟨27,2,[.t 4],B91⟩
abbrev B92 : CCode := (sR [(0,oP 2 (.box 3 (.t 0)) [0]),(1,oP 4 (.mv (.c (.int .i64 0))) [4])] (sR [(0,oT 5 1 [1]),(1,oP 6 (.fa 0 (.t 2)) []),(2,oP 7 (.ld 1 false (.t 6)) [2,6]),(3,oP 8 (.lens (.t 7)) [7]),(4,oP 9 (.bin
.sub (.t 5) (.t 8)) [5,8]),(5,oT 1 9 [9])] (.seq (sR [(0,oT 10 1 []),(1,oP 11 (.bin .lss (.t 10) (.c (.int .i64 0))) [10])] (.cond (.t 11) (sK [1,11] (sR [(0,oP 4 (.mv (.c (.int .i64 (-1)))) [])] .ret)) (sK [11]
.skip))) (sR [(0,oT 12 1 [1]),(1,oT 4 12 [12])] .ret))))
def C92 : CFn := ⟨13,2,[.t 4],B92⟩
abbrev L95_0 : CCode := (.seq (sR [(0,oT 6 5 []),(1,oT 7 0 []),(2,oP 8 (.len (.t 7)) [7]),(3,oP 9 (.bin .lss (.t 6) (.t 8)) [6,8])] (.cond (.t 9) (sK [9] .skip) (sK [0,1,5,9] (.exit 0)))) (.seq (.block 1 (sR [(0,oT 12 0
[]),(1,oT 13 5 []),(2,oP 14 (.ia 1 (.t 12) (.t 13)) []),(3,oP 15 (.ld 1 false (.t 14)) [12,13,14]),(4,oT 16 1 []),(5,oP 17 (.bin .eql (.t 15) (.t 16)) [15,16])] (.cond (.t 17) (sK [0,1,5,17] (sR [(0,oP 4 (.mv (.c (.bool
true))) [])] .ret)) (sK [17] .skip)))) (.reg false [(0,oT 10 5 [5]),(1,oP 11 (.bin .add (.t 10) (.c (.int .i64 1))) [10]),(2,oT 5 11 [11])])))
abbrev B95 : CCode := (sR [(0,oP 4 (.mv (.c (.bool false))) [4])] (.seq (sR [(0,oP 5 (.mv (.c (.int .i64 0))) [])] (.block 0 (.loop L95_0))) (sR [(0,oP 4 (.mv (.c (.bool false))) [])] .ret)))
def C95 : CFn := ⟨18,2,[.t 4],B95⟩
abbrev B98 : CCode := (sR [(0,oP 1 (.box 3 (.t 0)) [0]),(1,oP 2 (.al [.str [],.int .i64 (0),.int .i64 (0)]) [])] (sR [(0,oP 3 (.al [.str [],.int .i64 (0),.int .i64 (0)]) [])] (sR [(0,oP 4 (.fa 0 (.t 1)) []),(1,oP 5 (.ld
1 false (.t 4)) [4]),(2,oP 6 (.fa 0 (.t 3)) []),(3,⟨none,.st 1 (.t 6) (.t 5),none,[],[5,6]⟩)] (sR [(0,oP 7 (.fa 1 (.t 1)) []),(1,oP 8 (.ld 1 false (.t 7)) [7]),(2,oP 9 (.fa 1 (.t 3)) []),(3,⟨none,.st 1 (.t 9) (.t
8),none,[],[8,9]⟩)] (sR [(0,oP 10 (.fa 2 (.t 1)) []),(1,oP 11 (.ld 1 false (.t 10)) [1,10]),(2,oP 12 (.fa 2 (.t 3)) []),(3,⟨none,.st 1 (.t 12) (.t 11),none,[],[11,12]⟩)] (sR [(0,oP 13 (.ld 3 true (.t 3))
[]),(1,⟨none,.st 3 (.t 2) (.t 13),none,[],[3,13]⟩)] .ret))))))
def C98 : CFn := ⟨14,1,[.m 2 3 true],B98⟩
abbrev L102_0 : CCode := (sR [(0,oP 11 (.bin .lss (.t 10) (.t 9)) [])] (.seq (.cond (.t 11) (sK [11] .skip) (sK [1,8,9,10,11] (.exit 0))) (.seq (.block 1 (sR [(0,oP 12 (.ia 1 (.t 8) (.t 10)) []),(1,oP 13 (.ld 1 false
(.t 12)) [12]),(2,oT 5 13 [13])] (sR [(0,oT 14 5 []),(1,oP 15 (.call 122 [.t 14,(.c (.int .i64 0)),(.c (.int .i64 3))]) [14])] (.cond (.t 15) (sK [15] (.reg false [(0,oT 16 3 [3]),(1,oT 17 5 [5]),(2,oP 18 (.bsl 1 1
[.int .i64 (0)] [(0,1,(.t 17))]) [17]),(3,oP 19 (.app 1 8 (.t 16) (.t 18)) [16,18]),(4,oT 3 19 [19])])) (sK [5,15] .skip))))) (.reg false [(0,oP 20 (.bin .add (.t 10) (.c (.int .i64 1))) [10]),(1,oT 10 20 [20])]))))
abbrev B102 : CCode := (sR [(0,oP 1 (.box 2 (.t 0)) [0]),(1,oP 2 (.mv (.c (.nils))) [2])] (sR [(0,oP 6 (.bsl 1 0 [.int .i64 (0)] []) []),(1,oT 3 6 [6])] (.seq (sR [(0,oP 7 (.fa 1 (.t 1)) []),(1,oP 8 (.ld 1 false (.t 7))
[7]),(2,oP 9 (.len (.t 8)) []),(3,oP 10 (.mv (.c (.int .i64 0))) [])] (.block 0 (.loop L102_0))) (sR [(0,oT 21 3 [3]),(1,oP 22 (.call 104 [.t 21,(.c (.nils))]) [21]),(2,oT 2 22 [22])] .ret))))
def C102 : CFn := ⟨23,1,[.t 2],B102⟩
abbrev B104 : CCode := (sR [(0,oP 4 (.mv (.c (.nils))) [4])] (sR [(0,oT 6 0 [0]),(1,oT 7 1 [1]),(2,oP 8 (.bsl 1 2 [.nils] [(0,1,(.t 6)),(1,1,(.t 7))]) [6,7]),(3,oP 9 (.call 169 [.t 8]) [8]),(4,oT 5 9 [9])] (sR [(0,oT 10
5 []),(1,oP 11 (.call 140 [.t 10]) [10,11])] (sR [(0,oT 12 5 [5]),(1,oP 13 (.call 170 [.t 12]) [12]),(2,oT 4 13 [13])] .ret))))
def C104 : CFn := ⟨14,2,[.t 4],B104⟩
abbrev B107 : CCode := (sR [(0,oP 2 (.box 3 (.t 0)) [0]),(1,oP 3 (.box 3 (.t 1)) [1]),(2,oP 4 (.mv (.c (.bool false))) [4])] (.seq (sR [(0,oP 5 (.fa 0 (.t 2)) []),(1,oP 6 (.ld 1 false (.t 5)) [5]),(2,oP 7 (.fa 0 (.t 3))
[]),(3,oP 8 (.ld 1 false (.t 7)) [7]),(4,oP 9 (.bin .neq (.t 6) (.t 8)) [6,8])] (.cond (.t 9) (sK [2,3,9] (sR [(0,oP 4 (.mv (.c (.bool false))) [])] .ret)) (sK [9] .skip))) (.seq (sR [(0,oP 10 (.fa 1 (.t 2)) []),(1,oP
11 (.ld 1 false (.t 10)) [10]),(2,oP 12 (.fa 1 (.t 3)) []),(3,oP 13 (.ld 1 false (.t 12)) [12]),(4,oP 14 (.bin .neq (.t 11) (.t 13)) [11,13])] (.cond (.t 14) (sK [2,3,14] (sR [(0,oP 4 (.mv (.c (.bool false))) [])]
.ret)) (sK [14] .skip))) (.seq (sR [(0,oP 15 (.fa 2 (.t 2)) []),(1,oP 16 (.ld 1 false (.t 15)) [2,15]),(2,oP 17 (.fa 2 (.t 3)) []),(3,oP 18 (.ld 1 false (.t 17)) [3,17]),(4,oP 19 (.bin .neq (.t 16) (.t 18)) [16,18])]
(.cond (.t 19) (sK [19] (sR [(0,oP 4 (.mv (.c (.bool false))) [])] .ret)) (sK [19] .skip))) (sR [(0,oP 4 (.mv (.c (.bool true))) [])] .ret)))))
def C107 : CFn := ⟨20,2,[.t 4],B107⟩
abbrev L111_1 : CCode := (sR [(0,oP 74 (.bin .lss (.t 73) (.t 72)) [])] (.seq (.cond (.t 74) (sK [74] .skip) (sK [71,72,73,74] (.exit 2))) (.seq (.block 3 (sR [(0,oP 75 (.ia 1 (.t 71) (.t 73)) []),(1,oP 76 (.ld 1 false
(.t 75)) [75]),(2,oT 9 76 [76])] (sR [(0,oT 77 9 [9]),(1,oP 78 (.fa 0 (.t 3)) []),(2,oP 79 (.ld 1 false (.t 78)) [78]),(3,oP 80 (.bin .sub (.t 79) (.c (.int .i64 1))) [79]),(4,oP 81 (.call 122 [.t 77,(.c (.int .i64
(-10))),.t 80]) [77,80]),(5,oP 82 (.not (.t 81)) [81])] (.cond (.t 82) (sK [0,3,5,7,36,37,38,71,72,73,82] (sR [(0,oP 4 (.mv (.c (.bool false))) [])] .ret)) (sK [82] .skip))))) (.reg false [(0,oP 83 (.bin .add (.t 73)
(.c (.int .i64 1))) [73]),(1,oT 73 83 [83])]))))
abbrev L111_0 : CCode := (sR [(0,oP 39 (.bin .lss (.t 38) (.t 37)) [])] (.seq (.cond (.t 39) (sK [39] .skip) (sK [0,36,37,38,39] (.exit 0))) (.seq (.block 1 (sR [(0,oT 40 38 []),(1,oP 41 (.ia 2 (.t 36) (.t 38))
[]),(2,oP 42 (.ld 2 true (.t 41)) [41]),(3,oP 7 (.al [.int .i64 (0),.nils]) []),(4,oT 6 40 [40]),(5,⟨none,.st 2 (.t 7) (.t 42),none,[],[42]⟩)] (.seq (.seq (.reg true [(0,oP 43 (.fa 0 (.t 7)) []),(1,oP 44 (.ld 1 false
(.t 43)) [43]),(2,oT 45 0 []),(3,oP 46 (.len (.t 45)) [45]),(4,oP 47 (.bin .sub (.t 46) (.c (.int .i64 1))) [46]),(5,oP 48 (.call 122 [.t 44,(.c (.int .i64 0)),.t 47]) [44,47]),(6,oP 49 (.not (.t 48)) [48]),(7,oT 50 49
[49]),(8,oG 51 (.fa 1 (.t 7)) 50 false []),(9,oG 52 (.ld 1 false (.t 51)) 50 false [51]),(10,oG 53 (.len (.t 52)) 50 false [52]),(11,oG 54 (.mv (.t 0)) 50 false []),(12,oG 55 (.fa 0 (.t 7)) 50 false []),(13,oG 56 (.ld 1
false (.t 55)) 50 false [55]),(14,oG 57 (.ia 3 (.t 54) (.t 56)) 50 false []),(15,oG 58 (.fa 1 (.t 57)) 50 false [57]),(16,oG 59 (.ld 1 false (.t 58)) 50 false [54,56,58]),(17,oG 60 (.bin .neq (.t 53) (.t 59)) 50 false
[53,59]),(18,oP 61 (.pick (.t 50) (.c (.bool true)) (.t 60)) [50,60]),(19,oT 62 61 [61]),(20,oG 63 (.fa 1 (.t 3)) 62 false []),(21,oG 64 (.ld 1 false (.t 63)) 62 false [63]),(22,oG 65 (.mv (.t 6)) 62 false [6]),(23,oG
66 (.sls 2 (.t 64) none (some (.t 65)) none) 62 false [64,65]),(24,oG 67 (.fn 174 [.t 7]) 62 false []),(25,oG 68 (.call 173 [.t 66,.t 67]) 62 false [66,67]),(26,oP 69 (.pick (.t 62) (.c (.bool true)) (.t 68)) [62,68])])
(.cond (.t 69) (sK [0,3,5,7,36,37,38,69] (sR [(0,oP 4 (.mv (.c (.bool false))) [])] .ret)) (sK [69] .skip))) (.seq (sR [(0,oP 70 (.fa 1 (.t 7)) []),(1,oP 71 (.ld 1 false (.t 70)) [70]),(2,oP 72 (.len (.t 71)) []),(3,oP
73 (.mv (.c (.int .i64 0))) [])] (.block 2 (.loop L111_1))) (.reg false [(0,oT 84 5 [5]),(1,oP 85 (.ld 2 true (.t 7)) []),(2,oP 86 (.call 102 [.t 85]) [7,85]),(3,oP 87 (.call 104 [.t 84,.t 86]) [84,86]),(4,oT 5 87
[87])]))))) (.reg false [(0,oP 88 (.bin .add (.t 38) (.c (.int .i64 1))) [38]),(1,oT 38 88 [88])]))))
abbrev B111 : CCode := (sR [(0,oP 3 (.box 3 (.t 1)) [1]),(1,oP 4 (.mv (.c (.bool false))) [4])] (.seq (sR [(0,oT 10 0 []),(1,oP 11 (.call 156 [.t 10]) [10]),(2,oP 12 (.not (.t 11)) [11]),(3,oT 13 12 [12]),(4,oG 14 (.fa
0 (.t 3)) 13 false []),(5,oG 15 (.ld 1 false (.t 14)) 13 false [14]),(6,oG 16 (.call 122 [.t 15,(.c (.int .i64 0)),(.c (.int .i64 4))]) 13 false [15]),(7,oG 17 (.not (.t 16)) 13 false [16]),(8,oP 18 (.pick (.t 13) (.c
(.bool true)) (.t 17)) [13,17]),(9,oT 19 18 [18]),(10,oG 20 (.fa 1 (.t 3)) 19 false []),(11,oG 21 (.ld 1 false (.t 20)) 19 false [20]),(12,oG 22 (.len (.t 21)) 19 false [21]),(13,oG 23 (.call 122 [.t 22,(.c (.int .i64
1)),(.c (.int .i64 3))]) 19 false [22]),(14,oG 24 (.not (.t 23)) 19 false [23]),(15,oP 25 (.pick (.t 19) (.c (.bool true)) (.t 24)) [19,24]),(16,oT 26 25 [25]),(17,oG 27 (.fa 2 (.t 3)) 26 false []),(18,oG 28 (.ld 1
false (.t 27)) 26 false [27]),(19,oG 29 (.fa 0 (.t 3)) 26 false []),(20,oG 30 (.ld 1 false (.t 29)) 26 false [29]),(21,oG 31 (.call 172 [.t 28,.t 30]) 26 false [28,30]),(22,oG 32 (.not (.t 31)) 26 false [31]),(23,oP 33
(.pick (.t 26) (.c (.bool true)) (.t 32)) [26,32])] (.cond (.t 33) (sK [0,3,33] (sR [(0,oP 4 (.mv (.c (.bool false))) [])] .ret)) (sK [33] .skip))) (sR [(0,oP 34 (.bsl 1 0 [.int .i64 (0)] []) []),(1,oT 5 34 [34])] (.seq
(sR [(0,oP 35 (.fa 1 (.t 3)) []),(1,oP 36 (.ld 1 false (.t 35)) [35]),(2,oP 37 (.len (.t 36)) []),(3,oP 38 (.mv (.c (.int .i64 0))) [])] (.block 0 (.loop L111_0))) (sR [(0,oT 89 5 [5]),(1,oP 90 (.len (.t 89))
[89]),(2,oP 91 (.fa 0 (.t 3)) []),(3,oP 92 (.ld 1 false (.t 91)) [3,91]),(4,oP 93 (.bin .eql (.t 90) (.t 92)) [90,92]),(5,oT 4 93 [93])] .ret)))))
def C111 : CFn := ⟨94,2,[.t 4],B111⟩
abbrev L117_0 : CCode := (.seq (sR [(0,oT 4 3 []),(1,oT 5 0 []),(2,oP 6 (.len (.t 5)) [5]),(3,oP 7 (.bin .lss (.t 4) (.t 6)) [4,6])] (.cond (.t 7) (sK [7] .skip) (sK [3,7] (.exit 0)))) (.seq (.block 1 (.seq (.reg true
[(0,oT 10 0 []),(1,oT 11 3 []),(2,oP 12 (.ia 3 (.t 10) (.t 11)) []),(3,oP 13 (.ld 3 true (.t 12)) [12]),(4,oP 14 (.call 179 [.t 13]) [10,11,13]),(5,oP 15 (.not (.t 14)) [14]),(6,oT 16 15 [15]),(7,oG 17 (.mv (.t 3)) 16
false []),(8,oG 18 (.bin .gtr (.t 17) (.c (.int .i64 0))) 16 false [17]),(9,oG 19 (.mv (.t 18)) 16 false [18]),(10,oG 20 (.mv (.t 0)) 19 true []),(11,oG 21 (.mv (.t 3)) 19 true []),(12,oG 22 (.bin .sub (.t 21) (.c (.int
.i64 1))) 19 true [21]),(13,oG 23 (.ia 3 (.t 20) (.t 22)) 19 true []),(14,oG 24 (.fa 0 (.t 23)) 19 true [23]),(15,oG 25 (.ld 1 false (.t 24)) 19 true [20,22,24]),(16,oG 26 (.mv (.t 0)) 19 true []),(17,oG 27 (.mv (.t 3))
19 true []),(18,oG 28 (.ia 3 (.t 26) (.t 27)) 19 true []),(19,oG 29 (.fa 0 (.t 28)) 19 true [28]),(20,oG 30 (.ld 1 false (.t 29)) 19 true [26,27,29]),(21,oG 31 (.bin .geq (.t 25) (.t 30)) 19 true [25,30]),(22,oG 32
(.pick (.t 19) (.t 31) (.c (.bool false))) 16 false [19,31]),(23,oP 33 (.pick (.t 16) (.c (.bool true)) (.t 32)) [16,32])]) (.cond (.t 33) (sK [0,3,33] (sR [(0,oP 2 (.mv (.c (.bool false))) [])] .ret)) (sK [33]
.skip)))) (.reg false [(0,oT 8 3 [3]),(1,oP 9 (.bin .add (.t 8) (.c (.int .i64 1))) [8]),(2,oT 3 9 [9])])))
abbrev B117 : CCode := (sR [(0,oP 2 (.mv (.c (.bool false))) [2])] (.seq (sR [(0,oP 3 (.mv (.c (.int .i64 0))) [])] (.block 0 (.loop L117_0))) (sR [(0,oT 34 0 [0]),(1,oP 35 (.len (.t 34)) [34]),(2,oP 36 (.bin .leq (.t
35) (.c (.int .i64 4))) [35]),(3,oT 2 36 [36])] .ret)))
def C117 : CFn := ⟨37,1,[.t 2],B117⟩
abbrev B118 : CCode := (sR [(0,oP 6 (.mv (.c (.bool false))) [6])] (sR [(0,oT 7 0 []),(1,oT 8 1 [1]),(2,oP 9 (.bin .geq (.t 7) (.t 8)) [7,8]),(3,oT 10 9 [9]),(4,oG 11 (.mv (.t 0)) 10 true [0]),(5,oG 12 (.mv (.t 2)) 10
true [2]),(6,oG 13 (.bin .leq (.t 11) (.t 12)) 10 true [11,12]),(7,oP 14 (.pick (.t 10) (.t 13) (.c (.bool false))) [10,13]),(8,oT 6 14 [14])] .ret))
def C118 : CFn := ⟨15,3,[.t 6],B118⟩
abbrev B122 : CCode := (sR [(0,oP 6 (.mv (.c (.bool false))) [6])] (sR [(0,oT 7 1 [1]),(1,oT 8 0 []),(2,oP 9 (.bin .leq (.t 7) (.t 8)) [7,8]),(3,oT 10 9 [9]),(4,oG 11 (.mv (.t 0)) 10 true [0]),(5,oG 12 (.mv (.t 2)) 10
true [2]),(6,oG 13 (.bin .leq (.t 11) (.t 12)) 10 true [11,12]),(7,oP 14 (.pick (.t 10) (.t 13) (.c (.bool false))) [10,13]),(8,oT 6 14 [14])] .ret))
def C122 : CFn := ⟨15,3,[.t 6],B122⟩
abbrev B125 : CCode := (sR [(0,oP 4 (.mv (.c (.bool false))) [4])] (sR [(0,oT 5 0 [0]),(1,oT 6 1 [1]),(2,oP 7 (.call 182 [.t 5,.t 6]) [5,6]),(3,oP 8 (.bin .geq (.t 7) (.c (.int .i64 0))) [7]),(4,oT 4 8 [8])] .ret))
def C125 : CFn := ⟨9,2,[.t 4],B125⟩
abbrev B132 : CCode := (sR [(0,oP 2 (.box 2 (.t 0)) [0]),(1,oP 3 (.box 3 (.t 1)) [1]),(2,oP 4 (.mv (.c (.nils))) [4])] (.seq (sR [(0,oP 5 (.ld 2 true (.t 2)) []),(1,oP 6 (.ld 3 true (.t 3)) []),(2,oP 7 (.call 88 [.t
5,.t 6]) [5,6]),(3,oP 8 (.not (.t 7)) [7])] (.cond (.t 8) (sK [2,3,8] (sR [(0,oP 9 (.bsl 2 0 [.nils,.nils] []) []),(1,oT 4 9 [9])] .ret)) (sK [8] .skip))) (.seq (.reg true [(0,oP 10 (.ld 2 true (.t 2)) []),(1,oP 11 (.ld
3 true (.t 3)) []),(2,oP 12 (.fa 0 (.t 3)) []),(3,oP 13 (.ld 1 false (.t 12)) [12]),(5,oP 15 (.bsl 1 0 [.int .i64 (0)] []) []),(4,⟨some 14,.call 75 [.t 13],none,[(2,2),(3,3)],[13]⟩),(6,oP 16 (.call 191 [.t 10,.t 11,(.c
(.int .i64 0)),.t 14,.t 15]) [2,3,10,11,14,15]),(7,oT 4 16 [16])]) .ret)))
def C132 : CFn := ⟨17,2,[.t 4],B132⟩
abbrev L133_0 : CCode := (.seq (sR [(0,oT 6 5 []),(1,oT 7 1 []),(2,oP 8 (.len (.t 7)) [7]),(3,oP 9 (.bin .lss (.t 6) (.t 8)) [6,8])] (.cond (.t 9) (sK [9] .skip) (sK [1,2,5,9] (.exit 0)))) (.seq (.block 1 (.seq (.reg
true [(0,oT 12 1 []),(1,oT 13 5 []),(2,oP 14 (.ia 1 (.t 12) (.t 13)) []),(3,oP 15 (.ld 1 false (.t 14)) [12,13,14]),(4,oP 16 (.fa 1 (.t 2)) []),(5,oP 17 (.ld 1 false (.t 16)) [16]),(6,oP 18 (.len (.t 17)) [17]),(7,oP 19
(.bin .sub (.t 18) (.c (.int .i64 1))) [18]),(8,oP 20 (.call 118 [.t 15,(.c (.int .i64 0)),.t 19]) [15,19]),(9,oP 21 (.not (.t 20)) [20]),(10,oT 22 21 [21]),(11,oG 23 (.mv (.t 5)) 22 false []),(12,oG 24 (.bin .gtr (.t
23) (.c (.int .i64 0))) 22 false [23]),(13,oG 25 (.mv (.t 24)) 22 false [24]),(14,oG 26 (.mv (.t 1)) 25 true []),(15,oG 27 (.mv (.t 5)) 25 true []),(16,oG 28 (.ia 1 (.t 26) (.t 27)) 25 true []),(17,oG 29 (.ld 1 false
(.t 28)) 25 true [26,27,28]),(18,oG 30 (.mv (.t 1)) 25 true []),(19,oG 31 (.mv (.t 5)) 25 true []),(20,oG 32 (.bin .sub (.t 31) (.c (.int .i64 1))) 25 true [31]),(21,oG 33 (.ia 1 (.t 30) (.t 32)) 25 true []),(22,oG 34
(.ld 1 false (.t 33)) 25 true [30,32,33]),(23,oG 35 (.bin .leq (.t 29) (.t 34)) 25 true [29,34]),(24,oG 36 (.pick (.t 25) (.t 35) (.c (.bool false))) 22 false [25,35]),(25,oP 37 (.pick (.t 22) (.c (.bool true)) (.t 36))
[22,36])]) (.cond (.t 37) (sK [1,2,5,37] (sR [(0,oP 4 (.mv (.c (.bool false))) [])] .ret)) (sK [37] .skip)))) (.reg false [(0,oT 10 5 [5]),(1,oP 11 (.bin .add (.t 10) (.c (.int .i64 1))) [10]),(2,oT 5 11 [11])])))
abbrev B133 : CCode := (sR [(0,oP 2 (.box 2 (.t 0)) [0]),(1,oP 4 (.mv (.c (.bool false))) [4])] (.seq (sR [(0,oP 5 (.mv (.c (.int .i64 0))) [])] (.block 0 (.loop L133_0))) (sR [(0,oP 4 (.mv (.c (.bool true))) [])]
.ret)))
def C133 : CFn := ⟨38,2,[.t 4],B133⟩
abbrev L134_0 : CCode := (sR [(0,oP 37 (.bin .lss (.t 36) (.t 35)) [])] (.seq (.cond (.t 37) (sK [37] .skip) (sK [0,1,2,4,5,8,34,35,36,37] (.exit 0))) (.seq (.block 1 (sR [(0,oT 38 36 []),(1,oP 39 (.ia 2 (.t 34) (.t
36)) []),(2,oP 40 (.ld 2 true (.t 39)) [39]),(3,oP 10 (.al [.int .i64 (0),.nils]) []),(4,oT 9 38 [38]),(5,⟨none,.st 2 (.t 10) (.t 40),none,[],[40]⟩)] (.seq (sR [(0,oP 41 (.fa 0 (.t 10)) []),(1,oP 42 (.ld 1 false (.t
41)) [41]),(2,oP 43 (.fa 0 (.t 8)) []),(3,oP 44 (.ld 1 false (.t 43)) [43]),(4,oP 45 (.bin .neq (.t 42) (.t 44)) [42,44])] (.cond (.t 45) (sK [9,10,45] (.exit 1)) (sK [45] .skip))) (sR [(0,oT 47 0 []),(1,oP 48 (.fa 1
(.t 8)) []),(2,oP 49 (.ld 1 false (.t 48)) [48]),(3,oP 50 (.fa 1 (.t 10)) []),(4,oP 51 (.ld 1 false (.t 50)) [50]),(5,oP 52 (.call 136 [.t 47,.t 49,.t 51]) [10,47,49,51]),(6,oT 46 52 [52]),(7,oP 53 (.ex (.t 46) 0)
[]),(8,oP 54 (.ex (.t 46) 1) [46]),(9,oT 11 53 [53]),(10,oT 12 54 [54])] (sR [(0,oT 55 12 [12])] (.cond (.t 55) (sK [55] (.reg true [(0,oP 56 (.ld 1 false (.t 5)) []),(1,oT 57 11 [11]),(2,oT 58 1 []),(4,oT 60 9
[9]),(5,oP 61 (.bsl 1 1 [.int .i64 (0)] [(0,1,(.t 60))]) [60]),(3,⟨some 59,.call 135 [.t 58],none,[(5,1)],[58]⟩),(6,⟨some 62,.app 1 8 (.t 59) (.t 61),none,[(5,1)],[59,61]⟩),(7,oP 63 (.callv (.t 56) [.t 57,.t 62])
[56,57,62,63])])) (sK [9,11,55] .skip))))))) (.reg false [(0,oP 64 (.bin .add (.t 36) (.c (.int .i64 1))) [36]),(1,oT 36 64 [64])]))))
abbrev B134 : CCode := (.seq (sR [(0,oT 13 1 []),(1,oP 14 (.len (.t 13)) [13]),(2,oP 15 (.fa 1 (.t 2)) []),(3,oP 16 (.ld 1 false (.t 15)) [15]),(4,oP 17 (.len (.t 16)) [16]),(5,oP 18 (.bin .eql (.t 14) (.t 17))
[14,17])] (.cond (.t 18) (sK [2,4,5,18] (.seq (.reg true [(0,oP 19 (.ld 1 false (.t 3)) []),(1,oT 20 0 [0]),(3,oT 22 1 [1]),(2,⟨some 21,.call 135 [.t 20],none,[(3,1)],[20]⟩),(4,⟨some 23,.call 135 [.t
22],none,[(3,1)],[22]⟩),(5,oP 24 (.bld [.nils,.nils] [(0,1,(.t 21)),(1,1,(.t 23))]) [21,23]),(6,oP 25 (.bsl 2 1 [.nils,.nils] [(0,2,(.t 24))]) [24]),(7,oP 26 (.app 2 48 (.t 19) (.t 25)) [19,25]),(8,⟨none,.st 1 (.t 3)
(.t 26),none,[],[26]⟩)]) .ret)) (sK [18] .skip))) (sR [(0,oP 27 (.fa 1 (.t 2)) []),(1,oP 28 (.ld 1 false (.t 27)) [27]),(2,oT 29 1 []),(3,oP 30 (.len (.t 29)) [29]),(4,oP 31 (.ia 2 (.t 28) (.t 30)) [28]),(5,oP 32 (.ld 2
true (.t 31)) [31]),(6,oP 8 (.al [.int .i64 (0),.nils]) []),(7,⟨none,.st 2 (.t 8) (.t 32),none,[],[30,32]⟩)] (sR [(0,oP 33 (.fa 1 (.t 4)) []),(1,oP 34 (.ld 1 false (.t 33)) [33]),(2,oP 35 (.len (.t 34)) []),(3,oP 36
(.mv (.c (.int .i64 0))) [])] (.block 0 (.loop L134_0)))))
def C134 : CFn := ⟨65,6,[],B134⟩
abbrev B135 : CCode := (sR [(0,oP 2 (.mv (.c (.nils))) [2])] (.seq (sR [(0,oT 3 0 []),(1,oP 4 (.isnil false (.t 3)) [3])] (.cond (.t 4) (sK [0,4] (sR [(0,oP 2 (.mv (.c (.nils))) [])] .ret)) (sK [4] .skip))) (sR [(0,oP 5
(.bsl 1 0 [.int .i64 (0)] []) []),(1,oT 6 0 [0]),(2,oP 7 (.app 1 8 (.t 5) (.t 6)) [5,6]),(3,oT 2 7 [7])] .ret)))
def C135 : CFn := ⟨8,1,[.t 2],B135⟩
abbrev L136_0 : CCode := (sR [(0,oP 16 (.bin .lss (.t 15) (.t 14)) [])] (.seq (.cond (.t 16) (sK [16] .skip) (sK [2,13,14,15,16] (.exit 0))) (.seq (.block 1 (sR [(0,oT 17 15 []),(1,oP 18 (.ia 1 (.t 13) (.t 15))
[]),(2,oP 19 (.ld 1 false (.t 18)) [18]),(3,oT 9 17 [17]),(4,oT 10 19 [19])] (.block 2 (sR [(0,oT 21 10 []),(1,oP 22 (.call 192 [.t 21]) [21]),(2,oP 23 (.not (.t 22)) [22]),(3,oT 20 23 [23])] (.cond (.t 20) (sK [20]
(.seq (.reg true [(0,oT 24 10 [10]),(2,oT 26 2 []),(3,oT 27 9 [9]),(4,oP 28 (.ia 1 (.t 26) (.t 27)) []),(5,oP 29 (.ld 1 false (.t 28)) []),(1,⟨some 25,.call 193 [.t 24],none,[(28,1)],[24,26,27,28]⟩),(6,oP 30 (.bin .neq
(.t 25) (.t 29)) [25,29])]) (.cond (.t 30) (sK [2,8,13,14,15,30] (sR [(0,oP 6 (.mv (.c (.nils))) []),(1,oP 7 (.mv (.c (.bool false))) [])] .ret)) (sK [30] .skip)))) (sK [20] (sR [(0,oT 32 8 []),(1,oT 33 10 []),(2,oP 34
(.ia 1 (.t 32) (.t 33)) []),(3,oP 35 (.ld 1 false (.t 34)) [32,33,34]),(4,oP 36 (.bin .lss (.t 35) (.c (.int .i64 0))) [35]),(5,oT 31 36 [36])] (.cond (.t 31) (sK [31] (.reg false [(0,oT 37 8 []),(1,oT 38 10 [10]),(2,oT
39 2 []),(3,oT 40 9 [9]),(4,oP 41 (.ia 1 (.t 39) (.t 40)) []),(5,oP 42 (.ld 1 false (.t 41)) [39,40,41]),(6,oP 43 (.ia 1 (.t 37) (.t 38)) []),(7,⟨none,.st 1 (.t 43) (.t 42),none,[],[37,38,42,43]⟩)])) (sK [31] (.seq
(.reg true [(0,oT 45 8 []),(1,oT 46 10 [10]),(2,oP 47 (.ia 1 (.t 45) (.t 46)) []),(3,oP 48 (.ld 1 false (.t 47)) [45,46,47]),(4,oT 49 2 []),(5,oT 50 9 [9]),(6,oP 51 (.ia 1 (.t 49) (.t 50)) []),(7,oP 52 (.ld 1 false (.t
51)) [49,50,51]),(8,oP 53 (.bin .neq (.t 48) (.t 52)) [48,52]),(9,oT 44 53 [53])]) (.cond (.t 44) (sK [2,8,13,14,15,44] (sR [(0,oP 6 (.mv (.c (.nils))) []),(1,oP 7 (.mv (.c (.bool false))) [])] .ret)) (sK [44]
.skip)))))))))))) (.reg false [(0,oP 54 (.bin .add (.t 15) (.c (.int .i64 1))) [15]),(1,oT 15 54 [54])]))))
abbrev B136 : CCode := (sR [(0,oP 6 (.mv (.c (.nils))) [6]),(1,oP 7 (.mv (.c (.bool false))) [7])] (sR [(0,oT 11 0 [0]),(1,oP 12 (.call 135 [.t 11]) [11]),(2,oT 8 12 [12])] (.seq (sR [(0,oT 13 1 [1]),(1,oP 14 (.len (.t
13)) []),(2,oP 15 (.mv (.c (.int .i64 0))) [])] (.block 0 (.loop L136_0))) (sR [(0,oT 55 8 [8]),(1,oT 6 55 [55]),(2,oP 7 (.mv (.c (.bool true))) [])] .ret))))
def C136 : CFn := ⟨56,3,[.t 6,.t 7],B136⟩
abbrev B137 : CCode := (sR [(0,oP 4 (.mv (.c (.bool false))) [4])] (sR [(0,oT 5 0 [0]),(1,oT 6 1 [1]),(2,oP 7 (.call 194 [.t 5,.t 6]) [5,6]),(3,oP 8 (.bin .geq (.t 7) (.c (.int .i64 0))) [7]),(4,oT 4 8 [8])] .ret))
def C137 : CFn := ⟨9,2,[.t 4],B137⟩
abbrev B138 : CCode := (sR [(0,oP 3 (.mv (.c (.bool false))) [3])] (sR [(0,oT 4 0 [0]),(1,oP 5 (.ld 1 false (.t 1)) []),(2,oP 6 (.call 139 [.t 4,.t 5]) [1,4,5]),(3,oT 3 6 [6])] .ret))
def C138 : CFn := ⟨7,2,[.t 3],B138⟩
abbrev B139 : CCode := (sR [(0,oP 3 (.box 1 (.t 1)) [1]),(1,oP 4 (.mv (.c (.bool false))) [4])] (sR [(0,oT 5 0 [0]),(1,oP 6 (.fn 195 [.t 3]) []),(2,oP 7 (.call 159 [.t 5,.t 6]) [3,5,6]),(3,oP 8 (.not (.t 7)) [7]),(4,oT
4 8 [8])] .ret))
def C139 : CFn := ⟨9,2,[.t 4],B139⟩
abbrev B140 : CCode := (sR [(0,oT 3 0 []),(1,oP 4 (.len (.t 3)) [3]),(2,oT 2 4 [4])] (.reg false [(0,oT 5 0 []),(1,oT 6 2 []),(2,oT 7 2 [2]),(3,oP 8 (.conv .u64 (.t 7)) [7]),(4,oP 9 (.call 197 [.t 8]) [8]),(5,oP 10
(.call 196 [.t 5,(.c (.int .i64 0)),.t 6,.t 9]) [5,6,9,10])]))
def C140 : CFn := ⟨11,1,[],B140⟩
abbrev L141_0 : CCode := (.seq (sR [(0,oT 7 4 []),(1,oP 8 (.fa 1 (.t 1)) []),(2,oP 9 (.ld 1 false (.t 8)) [8]),(3,oP 10 (.len (.t 9)) [9]),(4,oP 11 (.bin .lss (.t 7) (.t 10)) [7,10]),(5,oT 12 11 [11]),(6,oG 13 (.ld 2
true (.t 1)) 12 true []),(7,oG 14 (.call 73 [.t 13]) 12 true [13]),(8,oP 15 (.pick (.t 12) (.t 14) (.c (.bool false))) [12,14])] (.cond (.t 15) (sK [15] .skip) (sK [1,4,15] (.exit 0)))) (.seq (.block 1 (sR [(0,oP 18
(.ld 2 true (.t 1)) []),(1,oT 19 4 []),(2,oP 20 (.call 198 [.t 18,.t 19]) [18,19]),(3,oT 5 20 [20])] (sR [(0,oT 21 5 []),(1,oP 22 (.ia 1 (.t 21) (.c (.int .i64 0))) []),(2,oP 23 (.ld 1 false (.t 22)) [21,22]),(3,oT 24 4
[]),(4,oP 25 (.bin .eql (.t 23) (.t 24)) [23,24])] (.cond (.t 25) (sK [25] (.reg false [(0,oT 26 3 [3]),(1,oT 27 5 [5]),(2,oP 28 (.bsl 1 1 [.nils] [(0,1,(.t 27))]) [27]),(3,oP 29 (.app 1 24 (.t 26) (.t 28))
[26,28]),(4,oT 3 29 [29])])) (sK [5,25] .skip))))) (.reg false [(0,oT 16 4 [4]),(1,oP 17 (.bin .add (.t 16) (.c (.int .i64 1))) [16]),(2,oT 4 17 [17])])))
abbrev B141 : CCode := (sR [(0,oP 1 (.box 2 (.t 0)) [0]),(1,oP 2 (.mv (.c (.nils))) [2])] (sR [(0,oP 6 (.bsl 1 0 [.nils] []) []),(1,oT 3 6 [6])] (.seq (sR [(0,oP 4 (.mv (.c (.int .i64 0))) [])] (.block 0 (.loop
L141_0))) (sR [(0,oT 30 3 [3]),(1,oT 2 30 [30])] .ret))))
def C141 : CFn := ⟨31,1,[.t 2],B141⟩
abbrev L142_0 : CCode := (.seq (sR [(0,oT 13 7 []),(1,oT 14 6 []),(2,oP 15 (.len (.t 14)) [14]),(3,oP 16 (.bin .lss (.t 13) (.t 15)) [13,15])] (.cond (.t 16) (sK [16] .skip) (sK [2,6,7,16] (.exit 0)))) (.seq (.block 1
(sR [(0,oT 19 6 []),(1,oT 20 7 []),(2,oP 21 (.ia 2 (.t 19) (.t 20)) []),(3,oP 22 (.fa 1 (.t 21)) [21]),(4,oP 23 (.ld 1 false (.t 22)) [22]),(5,oP 24 (.call 199 [.t 23]) [19,20,23]),(6,oT 8 24 [24])] (sR [(0,oP 25 (.ld 2
true (.t 2)) []),(1,oT 26 8 []),(2,oP 27 (.call 200 [.t 25,.t 26]) [25,26])] (.cond (.t 27) (sK [27] (.reg false [(0,oT 28 5 [5]),(1,oT 29 8 [8]),(2,oP 30 (.bsl 1 1 [.nils] [(0,1,(.t 29))]) [29]),(3,oP 31 (.app 1 24 (.t
28) (.t 30)) [28,30]),(4,oT 5 31 [31])])) (sK [8,27] .skip))))) (.reg false [(0,oT 17 7 [7]),(1,oP 18 (.bin .add (.t 17) (.c (.int .i64 1))) [17]),(2,oT 7 18 [18])])))
abbrev B142 : CCode := (sR [(0,oP 2 (.box 2 (.t 0)) [0]),(1,oP 3 (.box 3 (.t 1)) [1]),(2,oP 4 (.mv (.c (.nils))) [4])] (sR [(0,oP 9 (.bsl 1 0 [.nils] []) []),(1,oT 5 9 [9])] (sR [(0,oP 10 (.ld 2 true (.t 2)) []),(1,oP
11 (.ld 3 true (.t 3)) []),(2,oP 12 (.call 132 [.t 10,.t 11]) [3,10,11]),(3,oT 6 12 [12])] (.seq (sR [(0,oP 7 (.mv (.c (.int .i64 0))) [])] (.block 0 (.loop L142_0))) (sR [(0,oT 32 5 [5]),(1,oT 4 32 [32])] .ret)))))
def C142 : CFn := ⟨33,2,[.t 4],B142⟩
abbrev B144 : CCode := (sR [(0,oP 4 (.mv (.c (.bool false))) [4])] (sR [(0,oT 5 0 [0]),(1,oT 6 1 [1]),(2,oP 7 (.call 201 [.t 5,.t 6]) [5,6]),(3,oT 4 7 [7])] .ret))
def C144 : CFn := ⟨8,2,[.t 4],B144⟩
abbrev L145_0 : CCode := (.seq (sR [(0,oT 30 9 []),(1,oT 31 6 []),(2,oP 32 (.len (.t 31)) [31]),(3,oP 33 (.bin .lss (.t 30) (.t 32)) [30,32])] (.cond (.t 33) (sK [33] .skip) (sK [7,9,33] (.exit 0)))) (.seq (.block 1 (sR
[(0,oT 36 7 []),(1,oT 37 6 []),(2,oT 38 9 []),(3,oP 39 (.ia 1 (.t 37) (.t 38)) []),(4,oP 40 (.ld 1 false (.t 39)) [39]),(5,oP 41 (.call 144 [.t 36,.t 40]) [36,37,38,40])] (.cond (.t 41) (sK [41] (sR [(0,oT 42 8
[]),(1,oT 43 9 []),(2,oP 44 (.ia 1 (.t 42) (.t 43)) []),(3,⟨none,.st 1 (.t 44) (.c (.bool true)),none,[],[42,43,44]⟩)] (.reg false [(0,oT 45 5 [5]),(1,oT 46 6 []),(2,oT 47 9 []),(3,oP 48 (.ia 1 (.t 46) (.t 47))
[]),(4,oP 49 (.ld 1 false (.t 48)) [48]),(5,oP 50 (.bsl 1 1 [.nils] [(0,1,(.t 49))]) [46,47,49]),(6,oP 51 (.app 1 24 (.t 45) (.t 50)) [45,50]),(7,oT 5 51 [51])]))) (sK [41] .skip)))) (.reg false [(0,oT 34 9 [9]),(1,oP
35 (.bin .add (.t 34) (.c (.int .i64 1))) [34]),(2,oT 9 35 [35])])))
abbrev L145_2 : CCode := (.seq (sR [(0,oT 55 12 []),(1,oT 56 6 []),(2,oP 57 (.len (.t 56)) [56]),(3,oP 58 (.bin .lss (.t 55) (.t 57)) [55,57])] (.cond (.t 58) (sK [58] .skip) (sK [12,58] (.exit 4)))) (.seq (.block 5 (sR
[(0,oT 61 8 []),(1,oT 62 12 []),(2,oP 63 (.ia 1 (.t 61) (.t 62)) []),(3,oP 64 (.ld 1 false (.t 63)) [61,62,63]),(4,oP 65 (.not (.t 64)) [64]),(5,oT 66 65 [65]),(6,oG 67 (.mv (.t 5)) 66 true []),(7,oG 68 (.mv (.t 10)) 66
true []),(8,oG 69 (.mv (.t 6)) 66 true []),(9,oG 70 (.mv (.t 12)) 66 true []),(10,oG 71 (.ia 1 (.t 69) (.t 70)) 66 true []),(11,oG 72 (.ld 1 false (.t 71)) 66 true [71]),(12,oG 73 (.call 203 [.t 67,.t 68,.t 72]) 66 true
[67,68,69,70,72]),(13,oG 74 (.bin .geq (.t 73) (.c (.int .i64 0))) 66 true [73]),(14,oP 75 (.pick (.t 66) (.t 74) (.c (.bool false))) [66,74])] (.cond (.t 75) (sK [11,75] (sR [(0,oT 76 8 []),(1,oT 77 12 []),(2,oP 78
(.ia 1 (.t 76) (.t 77)) []),(3,⟨none,.st 1 (.t 78) (.c (.bool true)),none,[],[76,77,78]⟩)] (sR [(0,oT 79 5 [5]),(1,oT 80 6 []),(2,oT 81 12 []),(3,oP 82 (.ia 1 (.t 80) (.t 81)) []),(4,oP 83 (.ld 1 false (.t 82))
[82]),(5,oP 84 (.bsl 1 1 [.nils] [(0,1,(.t 83))]) [80,81,83]),(6,oP 85 (.app 1 24 (.t 79) (.t 84)) [79,84]),(7,oT 5 85 [85])] (.reg false [(0,oP 11 (.mv (.c (.bool true))) [])])))) (sK [75] .skip)))) (.reg false [(0,oT
59 12 [12]),(1,oP 60 (.bin .add (.t 59) (.c (.int .i64 1))) [59]),(2,oT 12 60 [60])])))
abbrev L145_1 : CCode := (.seq (sR [(0,oT 54 11 [11])] (.cond (.t 54) (sK [54] .skip) (sK [6,8,10,54] (.exit 2)))) (.block 3 (sR [(0,oP 11 (.mv (.c (.bool false))) [])] (sR [(0,oP 12 (.mv (.c (.int .i64 0))) [])]
(.block 4 (.loop L145_2))))))
abbrev B145 : CCode := (sR [(0,oP 2 (.box 2 (.t 0)) [0]),(1,oP 3 (.box 3 (.t 1)) [1]),(2,oP 4 (.mv (.c (.nils))) [4])] (sR [(0,oP 13 (.bsl 1 0 [.nils] []) []),(1,oT 5 13 [13])] (.seq (sR [(0,oP 14 (.ld 2 true (.t 2))
[]),(1,oP 15 (.ld 3 true (.t 3)) []),(2,oP 16 (.call 88 [.t 14,.t 15]) [14,15]),(3,oP 17 (.not (.t 16)) [16])] (.cond (.t 17) (sK [2,3,17] (sR [(0,oT 18 5 [5]),(1,oT 4 18 [18])] .ret)) (sK [17] .skip))) (sR [(0,oP 19
(.ld 2 true (.t 2)) []),(1,oP 20 (.fa 1 (.t 3)) []),(2,oP 21 (.ld 1 false (.t 20)) [20]),(3,oP 22 (.len (.t 21)) [21]),(4,oP 23 (.call 202 [.t 19,.t 22]) [19,22]),(5,oT 6 23 [23])] (sR [(0,oP 24 (.ld 2 true (.t 2))
[]),(1,oP 25 (.ld 3 true (.t 3)) []),(2,oP 26 (.call 142 [.t 24,.t 25]) [3,24,25]),(3,oT 7 26 [26])] (sR [(0,oT 27 6 []),(1,oP 28 (.len (.t 27)) [27]),(2,oP 29 (.mk 1 1 [.bool false] (.t 28) (.t 28)) [28]),(3,oT 8 29
[29])] (.seq (sR [(0,oP 9 (.mv (.c (.int .i64 0))) [])] (.block 0 (.loop L145_0))) (sR [(0,oP 52 (.ld 2 true (.t 2)) []),(1,oP 53 (.call 141 [.t 52]) [2,52]),(2,oT 10 53 [53])] (.seq (sR [(0,oP 11 (.mv (.c (.bool
true))) [])] (.block 2 (.loop L145_1))) (sR [(0,oT 86 5 [5]),(1,oT 4 86 [86])] .ret))))))))))
def C145 : CFn := ⟨87,2,[.t 4],B145⟩
abbrev L146_0 : CCode := (sR [(0,oP 32 (.bin .lss (.t 31) (.t 30)) [])] (.seq (.cond (.t 32) (sK [32] .skip) (sK [7,29,30,31,32] (.exit 0))) (.seq (.block 1 (sR [(0,oP 33 (.ia 1 (.t 29) (.t 31)) []),(1,oP 34 (.ld 1
false (.t 33)) [33]),(2,oT 10 34 [34])] (sR [(0,oT 35 7 []),(1,oT 36 10 []),(2,oP 37 (.call 62 [.t 35,.t 36]) [35,36])] (.cond (.t 37) (sK [37] (.reg false [(0,oP 38 (.ld 1 false (.t 5)) []),(1,oT 39 10 [10]),(2,oP 40
(.bsl 1 1 [.nils] [(0,1,(.t 39))]) [39]),(3,oP 41 (.app 1 24 (.t 38) (.t 40)) [38,40]),(4,⟨none,.st 1 (.t 5) (.t 41),none,[],[41]⟩)])) (sK [37] (.reg false [(0,oT 42 6 [6]),(1,oT 43 10 [10]),(2,oP 44 (.bsl 1 1 [.nils]
[(0,1,(.t 43))]) [43]),(3,oP 45 (.app 1 24 (.t 42) (.t 44)) [42,44]),(4,oT 6 45 [45])])))))) (.reg false [(0,oP 46 (.bin .add (.t 31) (.c (.int .i64 1))) [31]),(1,oT 31 46 [46])]))))
abbrev L146_2 : CCode := (sR [(0,oP 51 (.bin .lss (.t 50) (.t 49)) [])] (.seq (.cond (.t 51) (sK [51] .skip) (sK [48,49,50,51] (.exit 4))) (.seq (.block 5 (sR [(0,oP 52 (.ia 1 (.t 48) (.t 50)) []),(1,oP 53 (.ld 1 false
(.t 52)) [52]),(2,oP 13 (.al [.nils]) []),(3,⟨none,.st 1 (.t 13) (.t 53),none,[],[53]⟩)] (sR [(0,oT 54 8 []),(1,oP 55 (.fn 205 [.t 5,.t 13]) []),(2,oP 56 (.call 137 [.t 54,.t 55]) [54,55])] (.cond (.t 56) (sK [56] (.reg
false [(0,oP 57 (.ld 1 false (.t 5)) []),(1,oP 58 (.ld 1 false (.t 13)) []),(2,oP 59 (.bsl 1 1 [.nils] [(0,1,(.t 58))]) [13,58]),(3,oP 60 (.app 1 24 (.t 57) (.t 59)) [57,59]),(4,⟨none,.st 1 (.t 5) (.t
60),none,[],[60]⟩)])) (sK [56] (.reg false [(0,oT 61 11 [11]),(1,oP 62 (.ld 1 false (.t 13)) []),(2,oP 63 (.bsl 1 1 [.nils] [(0,1,(.t 62))]) [13,62]),(3,oP 64 (.app 1 24 (.t 61) (.t 63)) [61,63]),(4,oT 11 64
[64])])))))) (.reg false [(0,oP 65 (.bin .add (.t 50) (.c (.int .i64 1))) [50]),(1,oT 50 65 [65])]))))
abbrev L146_1 : CCode := (.block 3 (sR [(0,oP 47 (.bsl 1 0 [.nils] []) []),(1,oT 11 47 [47])] (.seq (sR [(0,oT 48 6 []),(1,oP 49 (.len (.t 48)) []),(2,oP 50 (.mv (.c (.int .i64 0))) [])] (.block 4 (.loop L146_2))) (.seq
(sR [(0,oT 66 11 []),(1,oP 67 (.len (.t 66)) [66]),(2,oT 68 6 [6]),(3,oP 69 (.len (.t 68)) [68]),(4,oP 70 (.bin .eql (.t 67) (.t 69)) [67,69])] (.cond (.t 70) (sK [8,11,70] (sR [(0,oP 71 (.ld 1 false (.t 5)) []),(1,oT 4
71 [71])] .ret)) (sK [70] .skip))) (.reg false [(0,oT 72 11 [11]),(1,oT 6 72 [72])])))))
abbrev B146 : CCode := (sR [(0,oP 2 (.box 2 (.t 0)) [0]),(1,oP 3 (.box 3 (.t 1)) [1]),(2,oP 4 (.mv (.c (.nils))) [4])] (.seq (sR [(0,oP 14 (.ld 2 true (.t 2)) []),(1,oP 15 (.ld 3 true (.t 3)) []),(2,oP 16 (.call 90 [.t
14,.t 15]) [14,15]),(3,oP 17 (.not (.t 16)) [16])] (.cond (.t 17) (sK [2,3,17] (sR [(0,oP 4 (.mv (.c (.nils))) [])] .ret)) (sK [17] .skip))) (.seq (.reg true [(0,oP 18 (.bsl 1 0 [.nils] []) []),(1,oP 19 (.bsl 1 0
[.nils] []) []),(2,oP 20 (.ld 2 true (.t 2)) []),(3,oP 21 (.ld 3 true (.t 3)) []),(5,oP 23 (.ld 2 true (.t 2)) []),(7,oP 5 (.al [.nils]) []),(4,⟨some 22,.call 63 [.t 20,.t 21],none,[(2,2)],[20,21]⟩),(6,oP 24 (.call 83
[.t 23]) [23]),(8,⟨none,.st 1 (.t 5) (.t 18),none,[],[18]⟩),(9,oT 6 19 [19]),(10,oT 7 22 [22]),(11,oT 8 24 [24])]) (.seq (sR [(0,oP 25 (.ld 2 true (.t 2)) []),(1,oP 26 (.fa 1 (.t 3)) []),(2,oP 27 (.ld 1 false (.t 26))
[26]),(3,oP 28 (.len (.t 27)) [3,27]),(4,oP 29 (.call 204 [.t 25,.t 28]) [2,25,28]),(5,oP 30 (.len (.t 29)) []),(6,oP 31 (.mv (.c (.int .i64 0))) [])] (.block 0 (.loop L146_0))) (.block 2 (.loop L146_1))))))
def C146 : CFn := ⟨73,2,[.t 4],B146⟩
abbrev B147 : CCode := (sR [(0,oP 2 (.mv (.c (.bool false))) [2])] (sR [(0,oT 3 0 [0]),(1,oP 4 (.len (.t 3)) [3]),(2,oP 5 (.bin .eql (.t 4) (.c (.int .i64 0))) [4]),(3,oT 2 5 [5])] .ret))
def C147 : CFn := ⟨6,1,[.t 2],B147⟩
abbrev B148 : CCode := (sR [(0,oP 2 (.box 2 (.t 0)) [0]),(1,oP 4 (.mv (.c (.int .i64 0))) [4])] (sR [(0,oP 5 (.fa 1 (.t 2)) []),(1,oP 6 (.ld 1 false (.t 5)) [5]),(2,oT 7 1 [1]),(3,oP 8 (.call 87 [.t 6,.t 7])
[2,6,7]),(4,oT 1 8 [8])] (.seq (sR [(0,oT 9 1 []),(1,oP 10 (.bin .lss (.t 9) (.c (.int .i64 0))) [9])] (.cond (.t 10) (sK [1,10] (sR [(0,oP 4 (.mv (.c (.int .i64 (-1)))) [])] .ret)) (sK [10] .skip))) (sR [(0,oT 11 1
[1]),(1,oT 4 11 [11])] .ret))))
def C148 : CFn := ⟨12,2,[.t 4],B148⟩
abbrev B149 : CCode := (sR [(0,oP 2 (.box 2 (.t 0)) [0]),(1,oP 4 (.mv (.c (.int .i64 0))) [4])] (sR [(0,oP 5 (.fa 1 (.t 2)) []),(1,oP 6 (.ld 1 false (.t 5)) [5]),(2,oT 7 1 [1]),(3,oP 8 (.call 87 [.t 6,.t 7])
[2,6,7]),(4,oT 1 8 [8])] (.seq (sR [(0,oT 9 1 []),(1,oP 10 (.bin .lss (.t 9) (.c (.int .i64 0))) [9])] (.cond (.t 10) (sK [1,10] (sR [(0,oP 4 (.mv (.c (.int .i64 (-1)))) [])] .ret)) (sK [10] .skip))) (sR [(0,oT 11 1
[1]),(1,oT 4 11 [11])] .ret))))
def C149 : CFn := ⟨12,2,[.t 4],B149⟩
abbrev L150_0 : CCode := (.seq (sR [(0,oT 30 5 []),(1,oP 31 (.fa 1 (.t 3)) []),(2,oP 32 (.ld 1 false (.t 31)) [31]),(3,oP 33 (.len (.t 32)) [32]),(4,oP 34 (.bin .lss (.t 30) (.t 33)) [30,33])] (.cond (.t 34) (sK [34]
.skip) (sK [3,5,34] (.exit 0)))) (.seq (.block 1 (sR [(0,oP 37 (.fa 1 (.t 3)) []),(1,oP 38 (.ld 1 false (.t 37)) [37]),(2,oT 39 5 []),(3,oP 40 (.ia 1 (.t 38) (.t 39)) [38]),(4,oP 41 (.ld 1 false (.t 40)) [39,40]),(5,oP
42 (.call 118 [.t 41,(.c (.int .i64 0)),(.c (.int .i64 9))]) [41]),(6,oP 43 (.not (.t 42)) [42])] (.cond (.t 43) (sK [3,5,43] (sR [(0,oP 4 (.mv (.c (.bool false))) [])] .ret)) (sK [43] .skip)))) (.reg false [(0,oT 35 5
[5]),(1,oP 36 (.bin .add (.t 35) (.c (.int .i64 1))) [35]),(2,oT 5 36 [36])])))
abbrev B150 : CCode := (sR [(0,oP 3 (.box 2 (.t 1)) [1]),(1,oP 4 (.mv (.c (.bool false))) [4])] (.seq (.seq (.reg true [(0,oT 6 0 []),(1,oP 7 (.call 117 [.t 6]) [6]),(2,oP 8 (.not (.t 7)) [7]),(3,oT 9 8 [8]),(4,oG 10
(.fa 0 (.t 3)) 9 false []),(5,oG 11 (.ld 1 false (.t 10)) 9 false [10]),(6,oG 12 (.mv (.t 0)) 9 false []),(7,oG 13 (.len (.t 12)) 9 false [12]),(8,oG 14 (.bin .sub (.t 13) (.c (.int .i64 1))) 9 false [13]),(9,oG 15
(.call 118 [.t 11,(.c (.int .i64 0)),.t 14]) 9 false [11,14]),(10,oG 16 (.not (.t 15)) 9 false [15]),(11,oP 17 (.pick (.t 9) (.c (.bool true)) (.t 16)) [9,16]),(12,oT 18 17 [17]),(13,oG 19 (.fa 1 (.t 3)) 18 false
[]),(14,oG 20 (.ld 1 false (.t 19)) 18 false [19]),(15,oG 21 (.len (.t 20)) 18 false [20]),(16,oG 22 (.mv (.t 0)) 18 false [0]),(17,oG 23 (.fa 0 (.t 3)) 18 false []),(18,oG 24 (.ld 1 false (.t 23)) 18 false [23]),(19,oG
25 (.ia 3 (.t 22) (.t 24)) 18 false []),(20,oG 26 (.fa 1 (.t 25)) 18 false [25]),(21,oG 27 (.ld 1 false (.t 26)) 18 false [22,24,26]),(22,oG 28 (.bin .neq (.t 21) (.t 27)) 18 false [21,27]),(23,oP 29 (.pick (.t 18) (.c
(.bool true)) (.t 28)) [18,28])]) (.cond (.t 29) (sK [3,29] (sR [(0,oP 4 (.mv (.c (.bool false))) [])] .ret)) (sK [29] .skip))) (.seq (sR [(0,oP 5 (.mv (.c (.int .i64 0))) [])] (.block 0 (.loop L150_0))) (sR [(0,oP 4
(.mv (.c (.bool true))) [])] .ret))))
def C150 : CFn := ⟨44,2,[.t 4],B150⟩
abbrev B151 : CCode := (sR [(0,oP 2 (.box 2 (.t 0)) [0]),(1,oP 3 (.box 2 (.t 1)) [1]),(2,oP 4 (.mv (.c (.int .i64 0))) [4])] (.seq (sR [(0,oP 5 (.fa 0 (.t 2)) []),(1,oP 6 (.ld 1 false (.t 5)) [5]),(2,oP 7 (.fa 0 (.t 3))
[]),(3,oP 8 (.ld 1 false (.t 7)) [7]),(4,oP 9 (.bin .lss (.t 6) (.t 8)) [6,8])] (.cond (.t 9) (sK [2,3,9] (sR [(0,oP 4 (.mv (.c (.int .i64 (-1)))) [])] .ret)) (sK [9] .skip))) (.seq (sR [(0,oP 10 (.fa 0 (.t 2))
[]),(1,oP 11 (.ld 1 false (.t 10)) [10]),(2,oP 12 (.fa 0 (.t 3)) []),(3,oP 13 (.ld 1 false (.t 12)) [12]),(4,oP 14 (.bin .gtr (.t 11) (.t 13)) [11,13])] (.cond (.t 14) (sK [2,3,14] (sR [(0,oP 4 (.mv (.c (.int .i64 1)))
[])] .ret)) (sK [14] .skip))) (sR [(0,oP 15 (.fa 1 (.t 2)) []),(1,oP 16 (.ld 1 false (.t 15)) [15]),(2,oP 17 (.fa 1 (.t 3)) []),(3,oP 18 (.ld 1 false (.t 17)) [17]),(4,oP 19 (.call 207 [.t 16,.t 18]) [2,3,16,18]),(5,oT
4 19 [19])] .ret))))
def C151 : CFn := ⟨20,2,[.t 4],B151⟩
abbrev L153_0 : CCode := (.seq (sR [(0,oT 29 9 []),(1,oP 30 (.fa 1 (.t 3)) []),(2,oP 31 (.ld 1 false (.t 30)) [30]),(3,oP 32 (.len (.t 31)) [31]),(4,oP 33 (.bin .lss (.t 29) (.t 32)) [29,32])] (.cond (.t 33) (sK [33]
.skip) (sK [3,4,9,33] (.exit 0)))) (.seq (.block 1 (sR [(0,oP 36 (.fa 1 (.t 3)) []),(1,oP 37 (.ld 1 false (.t 36)) [36]),(2,oT 38 9 []),(3,oP 39 (.ia 1 (.t 37) (.t 38)) [37]),(4,oP 40 (.ld 1 false (.t 39))
[38,39]),(5,oT 10 40 [40])] (.seq (sR [(0,oT 41 10 []),(1,oP 42 (.bin .lss (.t 41) (.c (.int .i64 0))) [41])] (.cond (.t 42) (sK [42] (.seq (sR [(0,oT 43 10 [10]),(1,oP 44 (.bin .sub (.c (.int .i64 (-1))) (.t 43))
[43]),(2,oP 45 (.fa 1 (.t 4)) []),(3,oP 46 (.ld 1 false (.t 45)) [45]),(4,oT 47 9 []),(5,oP 48 (.ia 1 (.t 46) (.t 47)) [46]),(6,oP 49 (.ld 1 false (.t 48)) [47,48]),(7,oP 50 (.bin .neq (.t 44) (.t 49)) [44,49])] (.cond
(.t 50) (sK [3,4,9,50] (sR [(0,oT 51 8 [8]),(1,oT 6 51 [51]),(2,oP 7 (.mv (.c (.bool false))) [])] .ret)) (sK [50] .skip))) (.exit 1))) (sK [42] .skip))) (.seq (.seq (.reg true [(0,oT 52 8 []),(1,oT 53 10 []),(2,oP 54
(.ia 1 (.t 52) (.t 53)) []),(3,oP 55 (.ld 1 false (.t 54)) [52,53,54]),(4,oP 56 (.bin .geq (.t 55) (.c (.int .i64 0))) [55]),(5,oT 57 56 [56]),(6,oG 58 (.mv (.t 8)) 57 true []),(7,oG 59 (.mv (.t 10)) 57 true []),(8,oG
60 (.ia 1 (.t 58) (.t 59)) 57 true []),(9,oG 61 (.ld 1 false (.t 60)) 57 true [58,59,60]),(10,oG 62 (.fa 1 (.t 4)) 57 true []),(11,oG 63 (.ld 1 false (.t 62)) 57 true [62]),(12,oG 64 (.mv (.t 9)) 57 true []),(13,oG 65
(.ia 1 (.t 63) (.t 64)) 57 true [63]),(14,oG 66 (.ld 1 false (.t 65)) 57 true [64,65]),(15,oG 67 (.bin .neq (.t 61) (.t 66)) 57 true [61,66]),(16,oP 68 (.pick (.t 57) (.t 67) (.c (.bool false))) [57,67])]) (.cond (.t
68) (sK [3,4,9,10,68] (sR [(0,oT 69 8 [8]),(1,oT 6 69 [69]),(2,oP 7 (.mv (.c (.bool false))) [])] .ret)) (sK [68] .skip))) (.reg false [(0,oT 70 8 []),(1,oT 71 10 [10]),(2,oP 72 (.fa 1 (.t 4)) []),(3,oP 73 (.ld 1 false
(.t 72)) [72]),(4,oT 74 9 []),(5,oP 75 (.ia 1 (.t 73) (.t 74)) [73]),(6,oP 76 (.ld 1 false (.t 75)) [74,75]),(7,oP 77 (.ia 1 (.t 70) (.t 71)) []),(8,⟨none,.st 1 (.t 77) (.t 76),none,[],[70,71,76,77]⟩)]))))) (.reg false
[(0,oT 34 9 [9]),(1,oP 35 (.bin .add (.t 34) (.c (.int .i64 1))) [34]),(2,oT 9 35 [35])])))
abbrev B153 : CCode := (sR [(0,oP 3 (.box 2 (.t 0)) [0]),(1,oP 4 (.box 2 (.t 1)) [1]),(2,oP 6 (.mv (.c (.nils))) [6]),(3,oP 7 (.mv (.c (.bool false))) [7])] (sR [(0,oP 11 (.bsl 1 0 [.int .i64 (0)] []) []),(1,oT 12 2
[2]),(2,oP 13 (.app 1 8 (.t 11) (.t 12)) [11,12]),(3,oT 8 13 [13])] (.seq (sR [(0,oP 14 (.fa 0 (.t 4)) []),(1,oP 15 (.ld 1 false (.t 14)) [14]),(2,oP 16 (.fa 0 (.t 3)) []),(3,oP 17 (.ld 1 false (.t 16)) [16]),(4,oP 18
(.bin .neq (.t 15) (.t 17)) [15,17]),(5,oT 19 18 [18]),(6,oG 20 (.fa 1 (.t 4)) 19 false []),(7,oG 21 (.ld 1 false (.t 20)) 19 false [20]),(8,oG 22 (.len (.t 21)) 19 false [21]),(9,oG 23 (.fa 1 (.t 3)) 19 false
[]),(10,oG 24 (.ld 1 false (.t 23)) 19 false [23]),(11,oG 25 (.len (.t 24)) 19 false [24]),(12,oG 26 (.bin .neq (.t 22) (.t 25)) 19 false [22,25]),(13,oP 27 (.pick (.t 19) (.c (.bool true)) (.t 26)) [19,26])] (.cond (.t
27) (sK [3,4,27] (sR [(0,oT 28 8 [8]),(1,oT 6 28 [28]),(2,oP 7 (.mv (.c (.bool false))) [])] .ret)) (sK [27] .skip))) (.seq (sR [(0,oP 9 (.mv (.c (.int .i64 0))) [])] (.block 0 (.loop L153_0))) (sR [(0,oT 78 8
[8]),(1,oT 6 78 [78]),(2,oP 7 (.mv (.c (.bool true))) [])] .ret)))))
def C153 : CFn := ⟨79,3,[.t 6,.t 7],B153⟩
abbrev B154 : CCode := (sR [(0,oP 1 (.box 2 (.t 0)) [0]),(1,oP 2 (.al [.int .i64 (0),.nils]) [])] (sR [(0,oP 3 (.al [.int .i64 (0),.nils]) [])] (sR [(0,oP 4 (.fa 0 (.t 1)) []),(1,oP 5 (.ld 1 false (.t 4)) [4]),(2,oP 6
(.fa 0 (.t 3)) []),(3,⟨none,.st 1 (.t 6) (.t 5),none,[],[5,6]⟩)] (sR [(0,oP 7 (.fa 1 (.t 1)) []),(1,oP 8 (.ld 1 false (.t 7)) [7]),(2,oP 9 (.call 16 [.t 8]) [1,8]),(3,oP 10 (.fa 1 (.t 3)) []),(4,⟨none,.st 1 (.t 10) (.t
9),none,[],[9,10]⟩)] (sR [(0,oP 11 (.ld 2 true (.t 3)) []),(1,⟨none,.st 2 (.t 2) (.t 11),none,[],[3,11]⟩)] .ret)))))
def C154 : CFn := ⟨12,1,[.m 2 2 true],B154⟩
abbrev B155 : CCode := (sR [(0,oP 1 (.box 2 (.t 0)) [0]),(1,oP 2 (.al [.int .i64 (0),.nils]) [])] (sR [(0,oP 3 (.al [.int .i64 (0),.nils]) [])] (sR [(0,oP 4 (.fa 0 (.t 1)) []),(1,oP 5 (.ld 1 false (.t 4)) [4]),(2,oP 6
(.fa 0 (.t 3)) []),(3,⟨none,.st 1 (.t 6) (.t 5),none,[],[5,6]⟩)] (sR [(0,oP 7 (.fa 1 (.t 1)) []),(1,oP 8 (.ld 1 false (.t 7)) [7]),(2,oP 9 (.call 16 [.t 8]) [1,8]),(3,oP 10 (.fa 1 (.t 3)) []),(4,⟨none,.st 1 (.t 10) (.t
9),none,[],[9,10]⟩)] (sR [(0,oP 11 (.ld 2 true (.t 3)) []),(1,⟨none,.st 2 (.t 2) (.t 11),none,[],[3,11]⟩)] .ret)))))
def C155 : CFn := ⟨12,1,[.m 2 2 true],B155⟩
abbrev L156_0 : CCode := (sR [(0,oP 8 (.bin .lss (.t 7) (.t 6)) [])] (.seq (.cond (.t 8) (sK [8] .skip) (sK [5,6,7,8] (.exit 0))) (.seq (.block 1 (sR [(0,oT 9 7 []),(1,oP 10 (.ia 3 (.t 5) (.t 7)) []),(2,oP 11 (.ld 3
true (.t 10)) [10]),(3,oP 4 (.al [.str [],.int .i64 (0),.int .i64 (0)]) []),(4,oT 3 9 [9]),(5,⟨none,.st 3 (.t 4) (.t 11),none,[],[11]⟩)] (.seq (.reg true [(0,oP 12 (.ld 3 true (.t 4)) []),(1,oP 13 (.call 208 [.t 12])
[12]),(2,oP 14 (.not (.t 13)) [13]),(3,oT 15 14 [14]),(4,oG 16 (.mv (.t 3)) 15 false []),(5,oG 17 (.bin .gtr (.t 16) (.c (.int .i64 0))) 15 false [16]),(6,oG 18 (.mv (.t 17)) 15 false [17]),(7,oG 19 (.mv (.t 0)) 18 true
[]),(8,oG 20 (.mv (.t 3)) 18 true [3]),(9,oG 21 (.bin .sub (.t 20) (.c (.int .i64 1))) 18 true [20]),(10,oG 22 (.ia 3 (.t 19) (.t 21)) 18 true []),(11,oG 23 (.fa 0 (.t 22)) 18 true [22]),(12,oG 24 (.ld 1 false (.t 23))
18 true [19,21,23]),(13,oG 25 (.fa 0 (.t 4)) 18 true []),(14,oG 26 (.ld 1 false (.t 25)) 18 true [4,25]),(15,oG 27 (.bin .geq (.t 24) (.t 26)) 18 true [24,26]),(16,oG 28 (.pick (.t 18) (.t 27) (.c (.bool false))) 15
false [18,27]),(17,oP 29 (.pick (.t 15) (.c (.bool true)) (.t 28)) [15,28])]) (.cond (.t 29) (sK [0,5,6,7,29] (sR [(0,oP 2 (.mv (.c (.bool false))) [])] .ret)) (sK [29] .skip))))) (.reg false [(0,oP 30 (.bin .add (.t 7)
(.c (.int .i64 1))) [7]),(1,oT 7 30 [30])]))))
abbrev B156 : CCode := (sR [(0,oP 2 (.mv (.c (.bool false))) [2])] (.seq (sR [(0,oT 5 0 []),(1,oP 6 (.len (.t 5)) []),(2,oP 7 (.mv (.c (.int .i64 0))) [])] (.block 0 (.loop L156_0))) (sR [(0,oT 31 0 [0]),(1,oP 32 (.len
(.t 31)) [31]),(2,oP 33 (.bin .leq (.t 32) (.c (.int .i64 4))) [32]),(3,oT 2 33 [33])] .ret)))
def C156 : CFn := ⟨34,1,[.t 2],B156⟩
abbrev B157 : CCode := (sR [(0,oP 3 (.box 2 (.t 1)) [1]),(1,oP 4 (.mv (.c (.bool false))) [4])] (.seq (.reg true [(0,oP 5 (.fa 0 (.t 3)) []),(1,oP 6 (.ld 1 false (.t 5)) [5]),(2,oT 7 0 []),(3,oP 8 (.len (.t 7))
[7]),(4,oP 9 (.bin .sub (.t 8) (.c (.int .i64 1))) [8]),(5,oP 10 (.call 122 [.t 6,(.c (.int .i64 0)),.t 9]) [6,9]),(6,oT 11 10 [10]),(7,oG 12 (.fa 1 (.t 3)) 11 true []),(8,oG 13 (.ld 1 false (.t 12)) 11 true [12]),(9,oG
14 (.len (.t 13)) 11 true [13]),(10,oG 15 (.mv (.t 0)) 11 true [0]),(11,oG 16 (.fa 0 (.t 3)) 11 true []),(12,oG 17 (.ld 1 false (.t 16)) 11 true [16]),(13,oG 18 (.ia 3 (.t 15) (.t 17)) 11 true []),(14,oG 19 (.fa 1 (.t
18)) 11 true [18]),(15,oG 20 (.ld 1 false (.t 19)) 11 true [15,17,19]),(16,oG 21 (.bin .eql (.t 14) (.t 20)) 11 true [14,20]),(17,oP 22 (.pick (.t 11) (.t 21) (.c (.bool false))) [11,21]),(18,oT 23 22 [22]),(19,oG 24
(.fa 1 (.t 3)) 23 true []),(20,oG 25 (.ld 1 false (.t 24)) 23 true [24]),(21,oG 26 (.call 209 [.t 25]) 23 true [3,25]),(22,oP 27 (.pick (.t 23) (.t 26) (.c (.bool false))) [23,26]),(23,oT 4 27 [27])]) .ret))
def C157 : CFn := ⟨28,2,[.t 4],B157⟩
abbrev B158 : CCode := (sR [(0,oP 2 (.box 2 (.t 0)) [0]),(1,oP 3 (.box 2 (.t 1)) [1]),(2,oP 4 (.mv (.c (.int .i64 0))) [4])] (.seq (sR [(0,oP 5 (.fa 0 (.t 2)) []),(1,oP 6 (.ld 1 false (.t 5)) [5]),(2,oP 7 (.fa 0 (.t 3))
[]),(3,oP 8 (.ld 1 false (.t 7)) [7]),(4,oP 9 (.bin .neq (.t 6) (.t 8)) [6,8])] (.cond (.t 9) (sK [9] (sR [(0,oP 10 (.fa 0 (.t 2)) []),(1,oP 11 (.ld 1 false (.t 10)) [2,10]),(2,oP 12 (.fa 0 (.t 3)) []),(3,oP 13 (.ld 1
false (.t 12)) [3,12]),(4,oP 14 (.call 210 [.t 11,.t 13]) [11,13]),(5,oT 4 14 [14])] .ret)) (sK [9] .skip))) (sR [(0,oP 15 (.fa 1 (.t 2)) []),(1,oP 16 (.ld 1 false (.t 15)) [15]),(2,oP 17 (.fa 1 (.t 3)) []),(3,oP 18
(.ld 1 false (.t 17)) [17]),(4,oP 19 (.call 211 [.t 16,.t 18]) [2,3,16,18]),(5,oT 4 19 [19])] .ret)))
def C158 : CFn := ⟨20,2,[.t 4],B158⟩
abbrev B159 : CCode := (sR [(0,oP 4 (.mv (.c (.bool false))) [4])] (sR [(0,oT 5 0 [0]),(1,oT 6 1 [1]),(2,oP 7 (.call 212 [.t 5,.t 6]) [5,6]),(3,oP 8 (.bin .geq (.t 7) (.c (.int .i64 0))) [7]),(4,oT 4 8 [8])] .ret))
def C159 : CFn := ⟨9,2,[.t 4],B159⟩
abbrev L161_0 : CCode := (.seq (sR [(0,oT 34 8 []),(1,oT 35 7 []),(2,oP 36 (.len (.t 35)) [35]),(3,oP 37 (.bin .lss (.t 34) (.t 36)) [34,36])] (.cond (.t 37) (sK [37] .skip) (sK [8,37] (.exit 0)))) (.block 1 (.reg true
[(0,oT 38 8 []),(1,oT 39 7 []),(2,oT 40 8 []),(3,oP 41 (.sls 1 (.t 39) (some (.t 40)) none none) [39,40]),(4,oT 42 7 []),(5,oT 43 8 [8]),(6,oP 44 (.sls 1 (.t 42) none (some (.t 43)) none) [42,43]),(7,oP 45 (.cpy 1 (.t
41) (.t 44)) [41,44]),(8,oP 46 (.bin .add (.t 38) (.t 45)) [38,45]),(9,oT 8 46 [46])])))
abbrev B161 : CCode := (sR [(0,oP 4 (.mv (.c (.nils))) [4])] (.seq (sR [(0,oT 9 1 []),(1,oP 10 (.bin .lss (.t 9) (.c (.int .i64 0))) [9])] (.cond (.t 10) (sK [10] (.reg false [(0,oP 11 .fail
[11]),(1,⟨none,.fail,none,[],[]⟩)])) (sK [10] .skip))) (sR [(0,oT 13 0 []),(1,oP 14 (.len (.t 13)) [13]),(2,oP 15 (.conv .u64 (.t 14)) [14]),(3,oT 16 1 [1]),(4,oP 17 (.conv .u64 (.t 16)) [16]),(5,oP 18 (.call 213 [.t
15,.t 17]) [15,17]),(6,oT 12 18 [18]),(7,oP 19 (.ex (.t 12) 0) []),(8,oP 20 (.ex (.t 12) 1) [12]),(9,oT 5 19 [19]),(10,oT 6 20 [20])] (.seq (sR [(0,oT 21 5 [5]),(1,oP 22 (.bin .gtr (.t 21) (.c (.int .u64 (0))))
[21]),(2,oT 23 22 [22]),(3,oG 24 (.mv (.t 6)) 23 false []),(4,oG 25 (.bin .gtr (.t 24) (.c (.int .u64 (9223372036854775807)))) 23 false [24]),(5,oP 26 (.pick (.t 23) (.c (.bool true)) (.t 25)) [23,25])] (.cond (.t 26)
(sK [26] (.reg false [(0,oP 27 .fail [27]),(1,⟨none,.fail,none,[],[]⟩)])) (sK [26] .skip))) (sR [(0,oT 28 6 [6]),(1,oP 29 (.conv .i64 (.t 28)) [28]),(2,oP 30 (.mk 1 8 [.int .i64 (0)] (.t 29) (.t 29)) [29]),(3,oT 7 30
[30])] (sR [(0,oT 31 7 []),(1,oT 32 0 [0]),(2,oP 33 (.cpy 1 (.t 31) (.t 32)) [31,32]),(3,oT 8 33 [33])] (.seq (.block 0 (.loop L161_0)) (sR [(0,oT 47 7 [7]),(1,oT 4 47 [47])] .ret))))))))
def C161 : CFn := ⟨48,2,[.t 4],B161⟩
abbrev B162 : CCode := (sR [(0,oP 4 (.box 2 (.t 1)) [1]),(1,oP 5 (.box 2 (.t 2)) [2]),(2,oP 6 (.mv (.c (.bool false))) [6])] (.seq (sR [(0,oP 8 (.fa 0 (.t 4)) []),(1,oP 9 (.ld 1 false (.t 8)) [8]),(2,oP 10 (.fa 0 (.t
5)) []),(3,oP 11 (.ld 1 false (.t 10)) [10]),(4,oP 12 (.bin .neq (.t 9) (.t 11)) [9,11])] (.cond (.t 12) (sK [0,4,5,12] (sR [(0,oP 6 (.mv (.c (.bool false))) [])] .ret)) (sK [12] .skip))) (sR [(0,oT 13 0 [0]),(1,oP 14
(.fa 0 (.t 4)) []),(2,oP 15 (.ld 1 false (.t 14)) [14]),(3,oP 16 (.ia 3 (.t 13) (.t 15)) []),(4,oP 17 (.fa 2 (.t 16)) [16]),(5,oP 18 (.ld 1 false (.t 17)) [13,15,17]),(6,oT 7 18 [18])] (.seq (.reg true [(0,oP 19 (.fa 1
(.t 4)) []),(1,oP 20 (.ld 1 false (.t 19)) [19]),(2,oT 21 7 []),(3,oP 22 (.sls 1 (.t 20) none (some (.t 21)) none) [4,20,21]),(4,oP 23 (.fa 1 (.t 5)) []),(5,oP 24 (.ld 1 false (.t 23)) [23]),(6,oT 25 7 [7]),(7,oP 26
(.sls 1 (.t 24) none (some (.t 25)) none) [5,24,25]),(8,oP 27 (.call 214 [.t 22,.t 26]) [22,26]),(9,oT 6 27 [27])]) .ret))))
def C162 : CFn := ⟨28,3,[.t 6],B162⟩
abbrev B163 : CCode := (sR [(0,oP 2 (.box 2 (.t 0)) [0]),(1,oP 3 (.box 2 (.t 1)) [1]),(2,oP 4 (.mv (.c (.bool false))) [4])] (.seq (sR [(0,oP 5 (.fa 0 (.t 2)) []),(1,oP 6 (.ld 1 false (.t 5)) [5]),(2,oP 7 (.fa 0 (.t 3))
[]),(3,oP 8 (.ld 1 false (.t 7)) [7]),(4,oP 9 (.bin .neq (.t 6) (.t 8)) [6,8])] (.cond (.t 9) (sK [2,3,9] (sR [(0,oP 4 (.mv (.c (.bool false))) [])] .ret)) (sK [9] .skip))) (.seq (sR [(0,oP 10 (.fa 1 (.t 2)) []),(1,oP
11 (.ld 1 false (.t 10)) [10]),(2,oP 12 (.fa 1 (.t 3)) []),(3,oP 13 (.ld 1 false (.t 12)) [12]),(4,oP 14 (.call 20 [.t 11,.t 13]) [2,3,11,13]),(5,oP 15 (.not (.t 14)) [14])] (.cond (.t 15) (sK [15] (sR [(0,oP 4 (.mv (.c
(.bool false))) [])] .ret)) (sK [15] .skip))) (sR [(0,oP 4 (.mv (.c (.bool true))) [])] .ret))))
def C163 : CFn := ⟨16,2,[.t 4],B163⟩
abbrev B164 : CCode := (sR [(0,oP 2 (.box 2 (.t 0)) [0]),(1,oP 3 (.box 2 (.t 1)) [1]),(2,oP 4 (.mv (.c (.bool false))) [4])] (.seq (sR [(0,oP 5 (.fa 0 (.t 2)) []),(1,oP 6 (.ld 1 false (.t 5)) [5]),(2,oP 7 (.fa 0 (.t 3))
[]),(3,oP 8 (.ld 1 false (.t 7)) [7]),(4,oP 9 (.bin .neq (.t 6) (.t 8)) [6,8])] (.cond (.t 9) (sK [2,3,9] (sR [(0,oP 4 (.mv (.c (.bool false))) [])] .ret)) (sK [9] .skip))) (.seq (sR [(0,oP 10 (.fa 1 (.t 2)) []),(1,oP
11 (.ld 1 false (.t 10)) [10]),(2,oP 12 (.fa 1 (.t 3)) []),(3,oP 13 (.ld 1 false (.t 12)) [12]),(4,oP 14 (.call 20 [.t 11,.t 13]) [2,3,11,13]),(5,oP 15 (.not (.t 14)) [14])] (.cond (.t 15) (sK [15] (sR [(0,oP 4 (.mv (.c
(.bool false))) [])] .ret)) (sK [15] .skip))) (sR [(0,oP 4 (.mv (.c (.bool true))) [])] .ret))))
def C164 : CFn := ⟨16,2,[.t 4],B164⟩
abbrev L169_0 : CCode := (sR [(0,oP 12 (.bin .lss (.t 11) (.t 10)) [])] (.seq (.cond (.t 12) (sK [12] .skip) (sK [9,10,11,12] (.exit 0))) (.seq (.block 1 (sR [(0,oP 13 (.ia 1 (.t 9) (.t 11)) []),(1,oP 14 (.ld 1 false
(.t 13)) [13]),(2,oT 5 14 [14])] (sR [(0,oT 15 3 [3]),(1,oT 16 5 [5]),(2,oP 17 (.len (.t 16)) [16]),(3,oP 18 (.bin .add (.t 15) (.t 17)) [15,17]),(4,oT 3 18 [18])] (sR [(0,oT 19 3 []),(1,oP 20 (.bin .lss (.t 19) (.c
(.int .i64 0))) [19])] (.cond (.t 20) (sK [20] (.reg false [(0,oP 21 .fail [21]),(1,⟨none,.fail,none,[],[]⟩)])) (sK [20] .skip)))))) (.reg false [(0,oP 22 (.bin .add (.t 11) (.c (.int .i64 1))) [11]),(1,oT 11 22
[22])]))))
abbrev L169_1 : CCode := (sR [(0,oP 28 (.bin .lss (.t 27) (.t 26)) [])] (.seq (.cond (.t 28) (sK [28] .skip) (sK [25,26,27,28] (.exit 2))) (.seq (.block 3 (sR [(0,oP 29 (.ia 1 (.t 25) (.t 27)) []),(1,oP 30 (.ld 1 false
(.t 29)) [29]),(2,oT 8 30 [30])] (.reg false [(0,oT 31 6 [6]),(1,oT 32 8 [8]),(2,oP 33 (.app 1 8 (.t 31) (.t 32)) [31,32]),(3,oT 6 33 [33])]))) (.reg false [(0,oP 34 (.bin .add (.t 27) (.c (.int .i64 1))) [27]),(1,oT 27
34 [34])]))))
abbrev B169 : CCode := (sR [(0,oP 2 (.mv (.c (.nils))) [2])] (sR [(0,oP 3 (.mv (.c (.int .i64 0))) [])] (.seq (sR [(0,oT 9 0 []),(1,oP 10 (.len (.t 9)) []),(2,oP 11 (.mv (.c (.int .i64 0))) [])] (.block 0 (.loop
L169_0))) (sR [(0,oT 23 3 [3]),(1,oP 24 (.call 217 [(.c (.nils)),.t 23]) [23]),(2,oT 6 24 [24])] (.seq (sR [(0,oT 25 0 [0]),(1,oP 26 (.len (.t 25)) []),(2,oP 27 (.mv (.c (.int .i64 0))) [])] (.block 2 (.loop L169_1)))
(sR [(0,oT 35 6 [6]),(1,oT 2 35 [35])] .ret))))))
def C169 : CFn := ⟨36,1,[.t 2],B169⟩
abbrev L170_1 : CCode := (.seq (sR [(0,oT 29 5 []),(1,oT 30 4 []),(2,oP 31 (.len (.t 30)) [30]),(3,oP 32 (.bin .lss (.t 29) (.t 31)) [29,31])] (.cond (.t 32) (sK [32] .skip) (sK [4,5,32] (.exit 2)))) (.seq (.block 3
(.seq (.reg true [(0,oT 35 4 []),(1,oT 36 5 []),(2,oP 37 (.ia 1 (.t 35) (.t 36)) []),(3,oP 38 (.ld 1 false (.t 37)) [35,36,37]),(4,oT 39 4 []),(5,oT 40 5 []),(6,oP 41 (.bin .sub (.t 40) (.c (.int .i64 1))) [40]),(7,oP
42 (.ia 1 (.t 39) (.t 41)) []),(8,oP 43 (.ld 1 false (.t 42)) [39,41,42]),(9,oP 44 (.bin .neq (.t 38) (.t 43)) [38,43])]) (.cond (.t 44) (sK [44] (sR [(0,oT 45 0 []),(1,oT 46 3 []),(2,oT 47 4 []),(3,oT 48 5 []),(4,oP 49
(.ia 1 (.t 47) (.t 48)) []),(5,oP 50 (.ld 1 false (.t 49)) [47,48,49]),(6,oP 51 (.ia 1 (.t 45) (.t 46)) []),(7,⟨none,.st 1 (.t 51) (.t 50),none,[],[45,46,50,51]⟩)] (.reg false [(0,oT 52 3 [3]),(1,oP 53 (.bin .add (.t
52) (.c (.int .i64 1))) [52]),(2,oT 3 53 [53])]))) (sK [44] .skip)))) (.reg false [(0,oT 33 5 [5]),(1,oP 34 (.bin .add (.t 33) (.c (.int .i64 1))) [33]),(2,oT 5 34 [34])])))
abbrev L170_0 : CCode := (.seq (sR [(0,oT 10 3 []),(1,oT 11 0 []),(2,oP 12 (.len (.t 11)) [11]),(3,oP 13 (.bin .lss (.t 10) (.t 12)) [10,12])] (.cond (.t 13) (sK [13] .skip) (sK [3,13] (.exit 0)))) (.seq (.block 1 (.seq
(.reg true [(0,oT 16 0 []),(1,oT 17 3 []),(2,oP 18 (.ia 1 (.t 16) (.t 17)) []),(3,oP 19 (.ld 1 false (.t 18)) [16,17,18]),(4,oT 20 0 []),(5,oT 21 3 []),(6,oP 22 (.bin .sub (.t 21) (.c (.int .i64 1))) [21]),(7,oP 23 (.ia
1 (.t 20) (.t 22)) []),(8,oP 24 (.ld 1 false (.t 23)) [20,22,23]),(9,oP 25 (.bin .eql (.t 19) (.t 24)) [19,24])]) (.cond (.t 25) (sK [25] (sR [(0,oT 26 0 []),(1,oT 27 3 []),(2,oP 28 (.sls 1 (.t 26) (some (.t 27)) none
none) [26,27]),(3,oT 4 28 [28])] (.seq (sR [(0,oP 5 (.mv (.c (.int .i64 1))) [])] (.block 2 (.loop L170_1))) (sR [(0,oT 54 0 []),(1,oT 55 3 []),(2,oP 56 (.sls 1 (.t 54) (some (.t 55)) none none) [54,55]),(3,⟨none,.clr 1
[.int .i64 (0)] (.t 56),none,[],[56]⟩)] (sR [(0,oT 57 0 []),(1,oT 58 3 [3]),(2,oP 59 (.sls 1 (.t 57) none (some (.t 58)) none) [57,58]),(3,oT 2 59 [59])] .ret))))) (sK [25] .skip)))) (.reg false [(0,oT 14 3 [3]),(1,oP
15 (.bin .add (.t 14) (.c (.int .i64 1))) [14]),(2,oT 3 15 [15])])))
abbrev B170 : CCode := (sR [(0,oP 2 (.mv (.c (.nils))) [2])] (.seq (sR [(0,oT 6 0 []),(1,oP 7 (.len (.t 6)) [6]),(2,oP 8 (.bin .lss (.t 7) (.c (.int .i64 2))) [7])] (.cond (.t 8) (sK [8] (sR [(0,oT 9 0 []),(1,oT 2 9
[9])] .ret)) (sK [8] .skip))) (.seq (sR [(0,oP 3 (.mv (.c (.int .i64 1))) [])] (.block 0 (.loop L170_0))) (sR [(0,oT 60 0 []),(1,oT 2 60 [60])] .ret))))
def C170 : CFn := ⟨61,1,[.t 2],B170⟩
abbrev L172_0 : CCode := (sR [(0,oP 10 (.bin .lss (.t 9) (.t 8)) [])] (.seq (.cond (.t 10) (sK [10] .skip) (sK [0,1,7,8,9,10] (.exit 0))) (.seq (.block 1 (sR [(0,oT 11 9 []),(1,oP 12 (.ia 1 (.t 7) (.t 9)) []),(2,oP 13
(.ld 1 false (.t 12)) [12]),(3,oT 5 11 [11]),(4,oT 6 13 [13])] (sR [(0,oT 14 6 []),(1,oT 15 1 []),(2,oP 16 (.bin .sub (.t 15) (.c (.int .i64 1))) [15]),(3,oP 17 (.call 122 [.t 14,(.c (.int .i64 0)),.t 16])
[14,16]),(4,oP 18 (.not (.t 17)) [17]),(5,oT 19 18 [18]),(6,oG 20 (.mv (.t 5)) 19 false []),(7,oG 21 (.bin .gtr (.t 20) (.c (.int .i64 0))) 19 false [20]),(8,oG 22 (.mv (.t 21)) 19 false [21]),(9,oG 23 (.mv (.t 0)) 22
true []),(10,oG 24 (.mv (.t 5)) 22 true [5]),(11,oG 25 (.bin .sub (.t 24) (.c (.int .i64 1))) 22 true [24]),(12,oG 26 (.ia 1 (.t 23) (.t 25)) 22 true []),(13,oG 27 (.ld 1 false (.t 26)) 22 true [23,25,26]),(14,oG 28
(.mv (.t 6)) 22 true [6]),(15,oG 29 (.bin .geq (.t 27) (.t 28)) 22 true [27,28]),(16,oG 30 (.pick (.t 22) (.t 29) (.c (.bool false))) 19 false [22,29]),(17,oP 31 (.pick (.t 19) (.c (.bool true)) (.t 30)) [19,30])]
(.cond (.t 31) (sK [0,1,7,8,9,31] (sR [(0,oP 4 (.mv (.c (.bool false))) [])] .ret)) (sK [31] .skip))))) (.reg false [(0,oP 32 (.bin .add (.t 9) (.c (.int .i64 1))) [9]),(1,oT 9 32 [32])]))))
abbrev B172 : CCode := (sR [(0,oP 4 (.mv (.c (.bool false))) [4])] (.seq (sR [(0,oT 7 0 []),(1,oP 8 (.len (.t 7)) []),(2,oP 9 (.mv (.c (.int .i64 0))) [])] (.block 0 (.loop L172_0))) (sR [(0,oP 4 (.mv (.c (.bool true)))
[])] .ret)))
def C172 : CFn := ⟨33,2,[.t 4],B172⟩
abbrev B173 : CCode := (sR [(0,oP 4 (.mv (.c (.bool false))) [4])] (sR [(0,oT 5 0 [0]),(1,oT 6 1 [1]),(2,oP 7 (.call 219 [.t 5,.t 6]) [5,6]),(3,oP 8 (.bin .geq (.t 7) (.c (.int .i64 0))) [7]),(4,oT 4 8 [8])] .ret))
def C173 : CFn := ⟨9,2,[.t 4],B173⟩
abbrev B174 : CCode := (sR [(0,oP 2 (.box 2 (.t 0)) [0]),(1,oP 3 (.mv (.c (.bool false))) [3])] (sR [(0,oP 4 (.fa 0 (.t 2)) []),(1,oP 5 (.ld 1 false (.t 4)) [2,4]),(2,oP 6 (.fa 0 (.t 1)) []),(3,oP 7 (.ld 1 false (.t 6))
[1,6]),(4,oP 8 (.bin .eql (.t 5) (.t 7)) [5,7]),(5,oT 3 8 [8])] .ret))
def C174 : CFn := ⟨9,2,[.t 3],B174⟩
abbrev B179 : CCode := (sR [(0,oP 1 (.box 3 (.t 0)) [0]),(1,oP 2 (.mv (.c (.bool false))) [2])] (sR [(0,oP 3 (.fa 0 (.t 1)) []),(1,oP 4 (.ld 1 false (.t 3)) [3]),(2,oP 5 (.lens (.t 4)) [4]),(3,oP 6 (.bin .eql (.t 5) (.c
(.int .i64 1))) [5]),(4,oT 7 6 [6]),(5,oG 8 (.fa 0 (.t 1)) 7 true []),(6,oG 9 (.ld 1 false (.t 8)) 7 true [8]),(7,oG 10 (.ix (.t 9) (.c (.int .i64 0))) 7 true [9]),(8,oG 11 (.bin .geq (.t 10) (.c (.int .u8 (97)))) 7
true [10]),(9,oP 12 (.pick (.t 7) (.t 11) (.c (.bool false))) [7,11]),(10,oT 13 12 [12]),(11,oG 14 (.fa 0 (.t 1)) 13 true []),(12,oG 15 (.ld 1 false (.t 14)) 13 true [14]),(13,oG 16 (.ix (.t 15) (.c (.int .i64 0))) 13
true [15]),(14,oG 17 (.bin .leq (.t 16) (.c (.int .u8 (122)))) 13 true [16]),(15,oP 18 (.pick (.t 13) (.t 17) (.c (.bool false))) [13,17]),(16,oT 19 18 [18]),(17,oG 20 (.fa 1 (.t 1)) 19 true []),(18,oG 21 (.ld 1 false
(.t 20)) 19 true [20]),(19,oG 22 (.call 118 [.t 21,(.c (.int .i64 1)),(.c (.int .i64 3))]) 19 true [21]),(20,oP 23 (.pick (.t 19) (.t 22) (.c (.bool false))) [19,22]),(21,oT 24 23 [23]),(22,oG 25 (.fa 2 (.t 1)) 24 true
[]),(23,oG 26 (.ld 1 false (.t 25)) 24 true [25]),(24,oG 27 (.fa 1 (.t 1)) 24 true []),(25,oG 28 (.ld 1 false (.t 27)) 24 true [1,27]),(26,oG 29 (.call 118 [.t 26,(.c (.int .i64 0)),.t 28]) 24 true [26,28]),(27,oP 30
(.pick (.t 24) (.t 29) (.c (.bool false))) [24,29]),(28,oT 2 30 [30])] .ret))
def C179 : CFn := ⟨31,1,[.t 2],B179⟩
abbrev L182_0 : CCode := (sR [(0,oP 9 (.bin .lss (.t 8) (.t 7)) [])] (.seq (.cond (.t 9) (sK [9] .skip) (sK [0,1,7,8,9] (.exit 0))) (.seq (.block 1 (sR [(0,oT 10 8 []),(1,oT 5 10 [10])] (sR [(0,oT 11 1 []),(1,oT 12 0
[]),(2,oT 13 5 []),(3,oP 14 (.ia 1 (.t 12) (.t 13)) []),(4,oP 15 (.ld 1 false (.t 14)) [12,13,14]),(5,oP 16 (.bin .eql (.t 11) (.t 15)) [11,15])] (.cond (.t 16) (sK [0,1,7,8,16] (sR [(0,oT 17 5 [5]),(1,oT 4 17 [17])]
.ret)) (sK [5,16] .skip))))) (.reg false [(0,oP 18 (.bin .add (.t 8) (.c (.int .i64 1))) [8]),(1,oT 8 18 [18])]))))
abbrev B182 : CCode := (sR [(0,oP 4 (.mv (.c (.int .i64 0))) [4])] (.seq (sR [(0,oT 6 0 []),(1,oP 7 (.len (.t 6)) [6]),(2,oP 8 (.mv (.c (.int .i64 0))) [])] (.block 0 (.loop L182_0))) (sR [(0,oP 4 (.mv (.c (.int .i64
(-1)))) [])] .ret)))
def C182 : CFn := ⟨19,2,[.t 4],B182⟩
abbrev L191_0 : CCode := (.seq (sR [(0,oT 29 12 []),(1,oP 30 (.fa 1 (.t 5)) []),(2,oP 31 (.ld 1 false (.t 30)) [30]),(3,oP 32 (.len (.t 31)) [31]),(4,oP 33 (.bin .lss (.t 29) (.t 32)) [29,32])] (.cond (.t 33) (sK [33]
.skip) (sK [2,3,4,5,6,12,33] (.exit 0)))) (.seq (.block 1 (.seq (.reg true [(0,oP 37 (.fa 1 (.t 6)) []),(1,oP 38 (.ld 1 false (.t 37)) [37]),(2,oT 39 2 []),(3,oP 40 (.ia 2 (.t 38) (.t 39)) [38]),(4,oP 41 (.ld 2 true (.t
40)) [40]),(5,oP 42 (.fa 1 (.t 5)) []),(6,oP 43 (.ld 1 false (.t 42)) [42]),(7,oT 44 12 []),(8,oP 45 (.ia 2 (.t 43) (.t 44)) [43]),(9,oP 46 (.ld 2 true (.t 45)) [45]),(10,oT 47 3 []),(11,oP 48 (.call 153 [.t 41,.t 46,.t
47]) [39,41,44,46,47]),(12,oT 36 48 [48]),(13,oP 49 (.ex (.t 36) 0) []),(14,oP 50 (.ex (.t 36) 1) [36]),(15,oT 13 49 [49]),(16,oT 14 50 [50])]) (sR [(0,oT 51 14 [14])] (.cond (.t 51) (sK [51] (.reg true [(0,oT 52 11
[11]),(1,oP 53 (.ld 2 true (.t 5)) []),(2,oP 54 (.ld 3 true (.t 6)) []),(3,oT 55 2 []),(4,oP 56 (.bin .add (.t 55) (.c (.int .i64 1))) [55]),(5,oT 57 13 [13]),(6,oP 58 (.bsl 1 0 [.int .i64 (0)] []) []),(7,oT 59 4
[]),(9,oT 61 12 []),(10,oP 62 (.bsl 1 1 [.int .i64 (0)] [(0,1,(.t 61))]) [61]),(8,⟨some 60,.app 1 8 (.t 58) (.t 59),none,[(5,2),(6,3)],[58,59]⟩),(11,⟨some 63,.app 1 8 (.t 60) (.t 62),none,[(5,2),(6,3)],[60,62]⟩),(12,oP
64 (.call 191 [.t 53,.t 54,.t 56,.t 57,.t 63]) [53,54,56,57,63]),(13,oP 65 (.app 2 48 (.t 52) (.t 64)) [52,64]),(14,oT 11 65 [65])])) (sK [13,51] .skip))))) (.reg false [(0,oT 34 12 [12]),(1,oP 35 (.bin .add (.t 34) (.c
(.int .i64 1))) [34]),(2,oT 12 35 [35])])))
abbrev B191 : CCode := (sR [(0,oP 5 (.box 2 (.t 0)) [0]),(1,oP 6 (.box 3 (.t 1)) [1]),(2,oP 10 (.mv (.c (.nils))) [10])] (.seq (sR [(0,oT 15 2 []),(1,oP 16 (.fa 1 (.t 6)) []),(2,oP 17 (.ld 1 false (.t 16)) [16]),(3,oP
18 (.len (.t 17)) [17]),(4,oP 19 (.bin .eql (.t 15) (.t 18)) [15,18])] (.cond (.t 19) (sK [2,5,6,19] (sR [(0,oP 20 (.bsl 1 0 [.int .i64 (0)] []) []),(1,oT 21 3 [3]),(2,oP 22 (.app 1 8 (.t 20) (.t 21)) [20,21]),(3,oP 23
(.bsl 1 0 [.int .i64 (0)] []) []),(4,oT 24 4 [4]),(5,oP 25 (.app 1 8 (.t 23) (.t 24)) [23,24]),(6,oP 26 (.bld [.nils,.nils] [(0,1,(.t 22)),(1,1,(.t 25))]) [22,25]),(7,oP 27 (.bsl 2 1 [.nils,.nils] [(0,2,(.t 26))])
[26]),(8,oT 10 27 [27])] .ret)) (sK [19] .skip))) (sR [(0,oP 28 (.bsl 2 0 [.nils,.nils] []) []),(1,oT 11 28 [28])] (.seq (sR [(0,oP 12 (.mv (.c (.int .i64 0))) [])] (.block 0 (.loop L191_0))) (sR [(0,oT 66 11
[11]),(1,oT 10 66 [66])] .ret)))))
def C191 : CFn := ⟨67,5,[.t 10],B191⟩
abbrev B192 : CCode := (sR [(0,oP 2 (.mv (.c (.bool false))) [2])] (sR [(0,oT 3 0 [0]),(1,oP 4 (.bin .geq (.t 3) (.c (.int .i64 0))) [3]),(2,oT 2 4 [4])] .ret))
def C192 : CFn := ⟨5,1,[.t 2],B192⟩
abbrev B193 : CCode := (sR [(0,oP 2 (.mv (.c (.int .i64 0))) [2])] (sR [(0,oT 3 0 [0]),(1,oP 4 (.bin .sub (.c (.int .i64 (-1))) (.t 3)) [3]),(2,oT 2 4 [4])] .ret))
def C193 : CFn := ⟨5,1,[.t 2],B193⟩
abbrev L194_0 : CCode := (sR [(0,oP 9 (.bin .lss (.t 8) (.t 7)) [])] (.seq (.cond (.t 9) (sK [9] .skip) (sK [0,1,7,8,9] (.exit 0))) (.seq (.block 1 (sR [(0,oT 10 8 []),(1,oT 5 10 [10])] (sR [(0,oT 11 1 []),(1,oT 12 0
[]),(2,oT 13 5 []),(3,oP 14 (.ia 1 (.t 12) (.t 13)) []),(4,oP 15 (.ld 1 false (.t 14)) [14]),(5,oP 16 (.callv (.t 11) [.t 15]) [11,12,13,15])] (.cond (.t 16) (sK [0,1,7,8,16] (sR [(0,oT 17 5 [5]),(1,oT 4 17 [17])]
.ret)) (sK [5,16] .skip))))) (.reg false [(0,oP 18 (.bin .add (.t 8) (.c (.int .i64 1))) [8]),(1,oT 8 18 [18])]))))
abbrev B194 : CCode := (sR [(0,oP 4 (.mv (.c (.int .i64 0))) [4])] (.seq (sR [(0,oT 6 0 []),(1,oP 7 (.len (.t 6)) [6]),(2,oP 8 (.mv (.c (.int .i64 0))) [])] (.block 0 (.loop L194_0))) (sR [(0,oP 4 (.mv (.c (.int .i64
(-1)))) [])] .ret)))
def C194 : CFn := ⟨19,2,[.t 4],B194⟩
abbrev B195 : CCode := (sR [(0,oP 3 (.mv (.c (.bool false))) [3])] (sR [(0,oP 4 (.ld 1 false (.t 1)) []),(1,oT 5 0 [0]),(2,oP 6 (.call 125 [.t 4,.t 5]) [1,4,5]),(3,oP 7 (.not (.t 6)) [6]),(4,oT 3 7 [7])] .ret))
def C195 : CFn := ⟨8,2,[.t 3],B195⟩
abbrev L196_0 : CCode := (.block 1 (sR [(0,oT 19 2 []),(1,oT 20 1 []),(2,oP 21 (.bin .sub (.t 19) (.t 20)) [19,20]),(3,oT 10 21 [21])] (.seq (sR [(0,oT 22 10 []),(1,oP 23 (.bin .leq (.t 22) (.c (.int .i64 12))) [22])]
(.cond (.t 23) (sK [3,8,9,10,23] (sR [(0,oT 24 0 []),(1,oT 25 1 [1]),(2,oT 26 2 [2]),(3,oP 27 (.call 230 [.t 24,.t 25,.t 26]) [24,25,26,27])] .ret)) (sK [23] .skip))) (.seq (sR [(0,oT 28 3 []),(1,oP 29 (.bin .eql (.t
28) (.c (.int .i64 0))) [28])] (.cond (.t 29) (sK [3,8,9,10,29] (sR [(0,oT 30 0 []),(1,oT 31 1 [1]),(2,oT 32 2 [2]),(3,oP 33 (.call 231 [.t 30,.t 31,.t 32]) [30,31,32,33])] .ret)) (sK [29] .skip))) (.seq (sR [(0,oT 34 8
[]),(1,oP 35 (.not (.t 34)) [34])] (.cond (.t 35) (sK [35] (sR [(0,oT 36 0 []),(1,oT 37 1 []),(2,oT 38 2 []),(3,oP 39 (.call 232 [.t 36,.t 37,.t 38]) [36,37,38,39])] (.reg false [(0,oT 40 3 [3]),(1,oP 41 (.bin .sub (.t
40) (.c (.int .i64 1))) [40]),(2,oT 3 41 [41])]))) (sK [35] .skip))) (sR [(0,oT 43 0 []),(1,oT 44 1 []),(2,oT 45 2 []),(3,oP 46 (.call 233 [.t 43,.t 44,.t 45]) [43,44,45]),(4,oT 42 46 [46]),(5,oP 47 (.ex (.t 42) 0)
[]),(6,oP 48 (.ex (.t 42) 1) [42]),(7,oT 11 47 [47]),(8,oT 12 48 [48])] (.seq (sR [(0,oT 49 12 []),(1,oP 50 (.bin .eql (.t 49) (.c (.int .i64 2))) [49])] (.cond (.t 50) (sK [12,50] (sR [(0,oT 51 0 []),(1,oT 52 1
[]),(2,oT 53 2 []),(3,oP 54 (.call 234 [.t 51,.t 52,.t 53]) [51,52,53,54])] (sR [(0,oT 55 2 []),(1,oP 56 (.bin .sub (.t 55) (.c (.int .i64 1))) [55]),(2,oT 57 11 [11]),(3,oT 58 1 []),(4,oP 59 (.bin .sub (.t 57) (.t 58))
[57,58]),(5,oP 60 (.bin .sub (.t 56) (.t 59)) [56,59]),(6,oT 11 60 [60])] (.reg false [(0,oP 12 (.mv (.c (.int .i64 1))) [])])))) (sK [50] .skip))) (.seq (sR [(0,oT 61 8 []),(1,oT 62 61 [61]),(2,oG 63 (.mv (.t 9)) 62
true []),(3,oP 64 (.pick (.t 62) (.t 63) (.c (.bool false))) [62,63]),(4,oT 65 64 [64]),(5,oG 66 (.mv (.t 12)) 65 true [12]),(6,oG 67 (.bin .eql (.t 66) (.c (.int .i64 1))) 65 true [66]),(7,oP 68 (.pick (.t 65) (.t 67)
(.c (.bool false))) [65,67])] (.cond (.t 68) (sK [68] (sR [(0,oT 69 0 []),(1,oT 70 1 []),(2,oT 71 2 []),(3,oP 72 (.call 235 [.t 69,.t 70,.t 71]) [69,70,71])] (.cond (.t 72) (sK [1,2,3,8,9,10,11,72] .ret) (sK [72]
.skip)))) (sK [68] .skip))) (.seq (.seq (.reg true [(0,oT 73 1 []),(1,oP 74 (.bin .gtr (.t 73) (.c (.int .i64 0))) [73]),(2,oT 75 74 [74]),(3,oG 76 (.mv (.t 0)) 75 true []),(4,oG 77 (.mv (.t 1)) 75 true []),(5,oG 78
(.bin .sub (.t 77) (.c (.int .i64 1))) 75 true [77]),(6,oG 79 (.ia 1 (.t 76) (.t 78)) 75 true []),(7,oG 80 (.ld 1 false (.t 79)) 75 true [76,78,79]),(8,oG 81 (.mv (.t 0)) 75 true []),(9,oG 82 (.mv (.t 11)) 75 true
[]),(10,oG 83 (.ia 1 (.t 81) (.t 82)) 75 true []),(11,oG 84 (.ld 1 false (.t 83)) 75 true [81,82,83]),(12,oG 85 (.call 236 [.t 80,.t 84]) 75 true [80,84]),(13,oG 86 (.not (.t 85)) 75 true [85]),(14,oP 87 (.pick (.t 75)
(.t 86) (.c (.bool false))) [75,86])]) (.cond (.t 87) (sK [10,87] (sR [(0,oT 88 0 []),(1,oT 89 1 [1]),(2,oT 90 2 []),(3,oT 91 11 [11]),(4,oP 92 (.call 237 [.t 88,.t 89,.t 90,.t 91]) [88,89,90,91]),(5,oT 13 92 [92])] (sR
[(0,oT 93 13 [13]),(1,oT 1 93 [93])] (.exit 1)))) (sK [8,9,87] .skip))) (sR [(0,oT 95 0 []),(1,oT 96 1 []),(2,oT 97 2 []),(3,oT 98 11 [11]),(4,oP 99 (.call 238 [.t 95,.t 96,.t 97,.t 98]) [95,96,97,98]),(5,oT 94 99
[99]),(6,oP 100 (.ex (.t 94) 0) []),(7,oP 101 (.ex (.t 94) 1) [94]),(8,oT 14 100 [100]),(9,oT 15 101 [101])] (sR [(0,oT 102 15 [15]),(1,oT 9 102 [102])] (sR [(0,oT 103 14 []),(1,oT 104 1 []),(2,oP 105 (.bin .sub (.t
103) (.t 104)) [103,104]),(3,oT 106 2 []),(4,oT 107 14 []),(5,oP 108 (.bin .sub (.t 106) (.t 107)) [106,107]),(6,oT 16 105 [105]),(7,oT 17 108 [108])] (sR [(0,oT 109 10 [10]),(1,oP 110 (.bin .quo (.t 109) (.c (.int .i64
8))) [109]),(2,oT 18 110 [110])] (sR [(0,oT 111 16 []),(1,oT 112 17 []),(2,oP 113 (.bin .lss (.t 111) (.t 112)) [111,112])] (.cond (.t 113) (sK [17,113] (sR [(0,oT 114 16 [16]),(1,oT 115 18 [18]),(2,oP 116 (.bin .geq
(.t 114) (.t 115)) [114,115]),(3,oT 8 116 [116])] (sR [(0,oT 117 0 []),(1,oT 118 1 [1]),(2,oT 119 14 []),(3,oT 120 3 []),(4,oP 121 (.call 196 [.t 117,.t 118,.t 119,.t 120]) [117,118,119,120,121])] (.reg false [(0,oT 122
14 [14]),(1,oP 123 (.bin .add (.t 122) (.c (.int .i64 1))) [122]),(2,oT 1 123 [123])])))) (sK [16,113] (sR [(0,oT 124 17 [17]),(1,oT 125 18 [18]),(2,oP 126 (.bin .geq (.t 124) (.t 125)) [124,125]),(3,oT 8 126 [126])]
(sR [(0,oT 127 0 []),(1,oT 128 14 []),(2,oP 129 (.bin .add (.t 128) (.c (.int .i64 1))) [128]),(3,oT 130 2 [2]),(4,oT 131 3 []),(5,oP 132 (.call 196 [.t 127,.t 129,.t 130,.t 131]) [127,129,130,131,132])] (.reg false
[(0,oT 133 14 [14]),(1,oT 2 133 [133])])))))))))))))))))))
abbrev B196 : CCode := (sR [(0,oP 8 (.mv (.c (.bool true))) [])] (sR [(0,oP 9 (.mv (.c (.bool true))) [])] (.block 0 (.loop L196_0))))
def C196 : CFn := ⟨134,4,[],B196⟩
abbrev B197 : CCode := (sR [(0,oP 2 (.mv (.c (.int .i64 0))) [2])] (.seq (.cond (.c (.bool false)) (sR [(0,oT 3 0 [0]),(1,oP 4 (.conv .u32 (.t 3)) [3]),(2,oP 5 (.call 239 [.t 4]) [4]),(3,oT 2 5 [5])] .ret) .skip) (sR
[(0,oT 6 0 [0]),(1,oP 7 (.call 240 [.t 6]) [6]),(2,oT 2 7 [7])] .ret)))
def C197 : CFn := ⟨8,1,[.t 2],B197⟩
abbrev L198_0 : CCode := (.seq (sR [(0,oT 8 6 []),(1,oP 9 (.fa 1 (.t 2)) []),(2,oP 10 (.ld 1 false (.t 9)) [9]),(3,oP 11 (.len (.t 10)) [10]),(4,oP 12 (.bin .lss (.t 8) (.t 11)) [8,11]),(5,oT 13 12 [12]),(6,oG 14 (.ld 2
true (.t 2)) 13 true []),(7,oG 15 (.call 73 [.t 14]) 13 true [14]),(8,oP 16 (.pick (.t 13) (.t 15) (.c (.bool false))) [13,15]),(9,oT 17 16 [16]),(10,oG 18 (.mv (.t 1)) 17 true []),(11,oG 19 (.fa 1 (.t 2)) 17 true
[]),(12,oG 20 (.ld 1 false (.t 19)) 17 true [19]),(13,oG 21 (.len (.t 20)) 17 true [20]),(14,oG 22 (.bin .sub (.t 21) (.c (.int .i64 1))) 17 true [21]),(15,oG 23 (.call 118 [.t 18,(.c (.int .i64 0)),.t 22]) 17 true
[18,22]),(16,oP 24 (.pick (.t 17) (.t 23) (.c (.bool false))) [17,23])] (.cond (.t 24) (sK [24] .skip) (sK [1,2,6,24] (.exit 0)))) (.seq (.block 1 (.seq (.reg true [(0,oP 27 (.fa 0 (.t 2)) []),(1,oP 28 (.ld 1 false (.t
27)) [27]),(2,oP 29 (.fa 1 (.t 2)) []),(3,oP 30 (.ld 1 false (.t 29)) [29]),(4,oT 31 1 []),(5,oP 32 (.ia 2 (.t 30) (.t 31)) [30]),(6,oP 33 (.ld 2 true (.t 32)) [32]),(7,oP 34 (.fa 1 (.t 2)) []),(8,oP 35 (.ld 1 false (.t
34)) [34]),(9,oT 36 6 []),(10,oP 37 (.ia 2 (.t 35) (.t 36)) [35]),(11,oP 38 (.ld 2 true (.t 37)) [37]),(12,oP 39 (.call 241 [.t 28,.t 33,.t 38]) [28,31,33,36,38])]) (.cond (.t 39) (sK [39] (.reg false [(0,oT 40 5
[5]),(1,oT 41 6 []),(2,oP 42 (.bsl 1 1 [.int .i64 (0)] [(0,1,(.t 41))]) [41]),(3,oP 43 (.app 1 8 (.t 40) (.t 42)) [40,42]),(4,oT 5 43 [43])])) (sK [39] .skip)))) (.reg false [(0,oT 25 6 [6]),(1,oP 26 (.bin .add (.t 25)
(.c (.int .i64 1))) [25]),(2,oT 6 26 [26])])))
abbrev B198 : CCode := (sR [(0,oP 2 (.box 2 (.t 0)) [0]),(1,oP 4 (.mv (.c (.nils))) [4])] (sR [(0,oP 7 (.bsl 1 0 [.int .i64 (0)] []) []),(1,oT 5 7 [7])] (.seq (sR [(0,oP 6 (.mv (.c (.int .i64 0))) [])] (.block 0 (.loop
L198_0))) (sR [(0,oT 44 5 [5]),(1,oT 4 44 [44])] .ret))))
def C198 : CFn := ⟨45,2,[.t 4],B198⟩
abbrev L199_1 : CCode := (.seq (.seq (.reg true [(0,oT 15 5 []),(1,oP 16 (.bin .gtr (.t 15) (.c (.int .i64 0))) [15]),(2,oT 17 16 [16]),(3,oG 18 (.mv (.t 3)) 17 true []),(4,oG 19 (.mv (.t 5)) 17 true []),(5,oG 20 (.bin
.sub (.t 19) (.c (.int .i64 1))) 17 true [19]),(6,oG 21 (.ia 1 (.t 18) (.t 20)) 17 true []),(7,oG 22 (.ld 1 false (.t 21)) 17 true [18,20,21]),(8,oG 23 (.mv (.t 0)) 17 true []),(9,oG 24 (.mv (.t 4)) 17 true []),(10,oG
25 (.ia 1 (.t 23) (.t 24)) 17 true []),(11,oG 26 (.ld 1 false (.t 25)) 17 true [23,24,25]),(12,oG 27 (.bin .gtr (.t 22) (.t 26)) 17 true [22,26]),(13,oP 28 (.pick (.t 17) (.t 27) (.c (.bool false))) [17,27])]) (.cond
(.t 28) (sK [28] .skip) (sK [28] (.exit 2)))) (.block 3 (.reg false [(0,oT 29 5 [5]),(1,oP 30 (.bin .sub (.t 29) (.c (.int .i64 1))) [29]),(2,oT 5 30 [30])])))
abbrev L199_0 : CCode := (.seq (sR [(0,oT 7 4 []),(1,oT 8 0 []),(2,oP 9 (.len (.t 8)) [8]),(3,oP 10 (.bin .lss (.t 7) (.t 9)) [7,9])] (.cond (.t 10) (sK [10] .skip) (sK [0,4,10] (.exit 0)))) (.seq (.block 1 (sR [(0,oT
13 3 []),(1,oP 14 (.len (.t 13)) [13]),(2,oT 5 14 [14])] (.seq (.block 2 (.loop L199_1)) (.reg true [(0,oP 31 (.bsl 1 0 [.int .i64 (0)] []) []),(1,oT 32 3 []),(2,oT 33 5 []),(3,oP 34 (.sls 1 (.t 32) none (some (.t 33))
none) [32,33]),(5,oT 36 0 []),(6,oT 37 4 []),(7,oP 38 (.ia 1 (.t 36) (.t 37)) []),(8,oP 39 (.ld 1 false (.t 38)) []),(9,oP 40 (.bsl 1 1 [.int .i64 (0)] [(0,1,(.t 39))]) [39]),(11,oT 42 3 [3]),(12,oT 43 5 [5]),(13,oP 44
(.sls 1 (.t 42) (some (.t 43)) none none) [42,43]),(4,⟨some 35,.app 1 8 (.t 31) (.t 34),none,[(38,1)],[31,34,36,37,38]⟩),(10,oP 41 (.app 1 8 (.t 35) (.t 40)) [35,40]),(14,oP 45 (.app 1 8 (.t 41) (.t 44)) [41,44]),(15,oT
3 45 [45])])))) (.reg false [(0,oT 11 4 [4]),(1,oP 12 (.bin .add (.t 11) (.c (.int .i64 1))) [11]),(2,oT 4 12 [12])])))
abbrev B199 : CCode := (sR [(0,oP 2 (.mv (.c (.nils))) [2])] (sR [(0,oP 6 (.bsl 1 0 [.int .i64 (0)] []) []),(1,oT 3 6 [6])] (.seq (sR [(0,oP 4 (.mv (.c (.int .i64 0))) [])] (.block 0 (.loop L199_0))) (sR [(0,oT 46 3
[3]),(1,oT 2 46 [46])] .ret))))
def C199 : CFn := ⟨47,1,[.t 2],B199⟩
abbrev B200 : CCode := (sR [(0,oP 2 (.box 2 (.t 0)) [0]),(1,oP 4 (.mv (.c (.bool false))) [4])] (sR [(0,oP 8 (.ld 2 true (.t 2)) []),(1,oT 9 1 [1]),(2,oP 10 (.call 60 [.t 8,.t 9]) [2,8,9]),(3,oT 7 10 [10]),(4,oP 11 (.ex
(.t 7) 0) []),(5,oP 12 (.ex (.t 7) 1) [7]),(6,oP 5 (.al [.nils,.nils]) []),(7,⟨none,.st 2 (.t 5) (.t 11),none,[],[11]⟩),(8,oT 6 12 [12])] (sR [(0,oT 13 6 [6]),(1,oT 14 13 [13]),(2,oG 15 (.ld 2 true (.t 5)) 14 true
[]),(3,oG 16 (.call 242 [.t 15]) 14 true [5,15]),(4,oP 17 (.pick (.t 14) (.t 16) (.c (.bool false))) [14,16]),(5,oT 4 17 [17])] .ret)))
def C200 : CFn := ⟨18,2,[.t 4],B200⟩
abbrev L201_1 : CCode := (.seq (sR [(0,oT 14 7 []),(1,oT 15 0 []),(2,oT 16 5 []),(3,oP 17 (.ia 1 (.t 15) (.t 16)) []),(4,oP 18 (.ld 1 false (.t 17)) [17]),(5,oP 19 (.len (.t 18)) [15,16,18]),(6,oP 20 (.bin .lss (.t 14)
(.t 19)) [14,19])] (.cond (.t 20) (sK [20] .skip) (sK [7,20] (.exit 2)))) (.seq (.block 3 (.reg false [(0,oT 23 6 [6]),(1,oT 24 23 [23]),(2,oG 25 (.mv (.t 1)) 24 true []),(3,oG 26 (.mv (.t 0)) 24 true []),(4,oG 27 (.mv
(.t 5)) 24 true []),(5,oG 28 (.ia 1 (.t 26) (.t 27)) 24 true []),(6,oG 29 (.ld 1 false (.t 28)) 24 true [28]),(7,oG 30 (.mv (.t 7)) 24 true []),(8,oG 31 (.ia 1 (.t 29) (.t 30)) 24 true [29]),(9,oG 32 (.ld 1 false (.t
31)) 24 true [26,27,30,31]),(10,oG 33 (.call 95 [.t 25,.t 32]) 24 true [25,32]),(11,oP 34 (.pick (.t 24) (.t 33) (.c (.bool false))) [24,33]),(12,oT 6 34 [34])])) (.reg false [(0,oT 21 7 [7]),(1,oP 22 (.bin .add (.t 21)
(.c (.int .i64 1))) [21]),(2,oT 7 22 [22])])))
abbrev L201_0 : CCode := (.seq (sR [(0,oT 8 5 []),(1,oT 9 0 []),(2,oP 10 (.len (.t 9)) [9]),(3,oP 11 (.bin .lss (.t 8) (.t 10)) [8,10])] (.cond (.t 11) (sK [11] .skip) (sK [0,1,5,11] (.exit 0)))) (.seq (.block 1 (sR
[(0,oP 6 (.mv (.c (.bool true))) [])] (.seq (sR [(0,oP 7 (.mv (.c (.int .i64 0))) [])] (.block 2 (.loop L201_1))) (sR [(0,oT 35 6 [6])] (.cond (.t 35) (sK [0,1,5,35] (sR [(0,oP 4 (.mv (.c (.bool true))) [])] .ret)) (sK
[35] .skip)))))) (.reg false [(0,oT 12 5 [5]),(1,oP 13 (.bin .add (.t 12) (.c (.int .i64 1))) [12]),(2,oT 5 13 [13])])))
abbrev B201 : CCode := (sR [(0,oP 4 (.mv (.c (.bool false))) [4])] (.seq (sR [(0,oP 5 (.mv (.c (.int .i64 0))) [])] (.block 0 (.loop L201_0))) (sR [(0,oP 4 (.mv (.c (.bool false))) [])] .ret)))
def C201 : CFn := ⟨36,2,[.t 4],B201⟩
abbrev L202_2 : CCode := (.seq (sR [(0,oT 61 11 []),(1,oP 62 (.fa 1 (.t 2)) []),(2,oP 63 (.ld 1 false (.t 62)) [62]),(3,oP 64 (.len (.t 63)) [63]),(4,oP 65 (.bin .lss (.t 61) (.t 64)) [61,64])] (.cond (.t 65) (sK [65]
.skip) (sK [11,65] (.exit 4)))) (.seq (.block 5 (sR [(0,oP 68 (.bsl 1 0 [.int .i64 (0)] []) []),(1,oT 69 6 []),(2,oT 70 9 []),(3,oP 71 (.ia 1 (.t 69) (.t 70)) []),(4,oP 72 (.ld 1 false (.t 71)) [71]),(5,oP 73 (.app 1 8
(.t 68) (.t 72)) [68,69,70,72]),(6,oT 74 11 []),(7,oP 75 (.bsl 1 1 [.int .i64 (0)] [(0,1,(.t 74))]) [74]),(8,oP 76 (.app 1 8 (.t 73) (.t 75)) [73,75]),(9,oT 12 76 [76])] (sR [(0,oP 77 (.ld 2 true (.t 2)) []),(1,oT 78 12
[]),(2,oP 79 (.call 200 [.t 77,.t 78]) [77,78])] (.cond (.t 79) (sK [79] (.reg false [(0,oT 80 8 [8]),(1,oT 81 12 [12]),(2,oP 82 (.bsl 1 1 [.nils] [(0,1,(.t 81))]) [81]),(3,oP 83 (.app 1 24 (.t 80) (.t 82))
[80,82]),(4,oT 8 83 [83])])) (sK [12,79] .skip))))) (.reg false [(0,oT 66 11 [11]),(1,oP 67 (.bin .add (.t 66) (.c (.int .i64 1))) [66]),(2,oT 11 67 [67])])))
abbrev L202_1 : CCode := (.seq (sR [(0,oT 35 9 []),(1,oT 36 6 []),(2,oP 37 (.len (.t 36)) [36]),(3,oP 38 (.bin .lss (.t 35) (.t 37)) [35,37])] (.cond (.t 38) (sK [38] .skip) (sK [6,9,38] (.exit 2)))) (.seq (.block 3 (sR
[(0,oP 10 (.mv (.c (.int .i64 0))) [])] (.seq (sR [(0,oT 41 6 []),(1,oT 42 9 []),(2,oP 43 (.ia 1 (.t 41) (.t 42)) []),(3,oP 44 (.ld 1 false (.t 43)) [43]),(4,oP 45 (.len (.t 44)) [41,42,44]),(5,oP 46 (.bin .gtr (.t 45)
(.c (.int .i64 0))) [45])] (.cond (.t 46) (sK [10,46] (.reg true [(0,oT 47 6 []),(1,oT 48 9 []),(2,oP 49 (.ia 1 (.t 47) (.t 48)) []),(3,oP 50 (.ld 1 false (.t 49)) [49]),(4,oT 51 6 []),(5,oT 52 9 []),(6,oP 53 (.ia 1 (.t
51) (.t 52)) []),(7,oP 54 (.ld 1 false (.t 53)) [53]),(8,oP 55 (.len (.t 54)) [51,52,54]),(9,oP 56 (.bin .sub (.t 55) (.c (.int .i64 1))) [55]),(10,oP 57 (.ia 1 (.t 50) (.t 56)) [50]),(11,oP 58 (.ld 1 false (.t 57))
[47,48,56,57]),(12,oP 59 (.bin .add (.t 58) (.c (.int .i64 1))) [58]),(13,oT 10 59 [59])])) (sK [46] .skip))) (sR [(0,oT 60 10 [10]),(1,oT 11 60 [60])] (.block 4 (.loop L202_2)))))) (.reg false [(0,oT 39 9 [9]),(1,oP 40
(.bin .add (.t 39) (.c (.int .i64 1))) [39]),(2,oT 9 40 [40])])))
abbrev L202_0 : CCode := (.seq (sR [(0,oT 29 7 []),(1,oT 30 1 []),(2,oP 31 (.bin .lss (.t 29) (.t 30)) [29,30])] (.cond (.t 31) (sK [31] .skip) (sK [1,2,6,7,31] (.exit 0)))) (.seq (.block 1 (sR [(0,oP 34 (.bsl 1 0
[.nils] []) []),(1,oT 8 34 [34])] (.seq (sR [(0,oP 9 (.mv (.c (.int .i64 0))) [])] (.block 2 (.loop L202_1))) (sR [(0,oT 84 5 [5]),(1,oT 85 8 []),(2,oP 86 (.app 1 24 (.t 84) (.t 85)) [84,85]),(3,oT 5 86 [86])] (.reg
false [(0,oT 87 8 [8]),(1,oT 6 87 [87])]))))) (.reg false [(0,oT 32 7 [7]),(1,oP 33 (.bin .add (.t 32) (.c (.int .i64 1))) [32]),(2,oT 7 33 [33])])))
abbrev B202 : CCode := (sR [(0,oP 2 (.box 2 (.t 0)) [0]),(1,oP 4 (.mv (.c (.nils))) [4])] (sR [(0,oP 13 (.bsl 1 0 [.nils] []) []),(1,oT 5 13 [13])] (.seq (sR [(0,oP 14 (.ld 2 true (.t 2)) []),(1,oP 15 (.call 73 [.t 14])
[14]),(2,oP 16 (.not (.t 15)) [15]),(3,oT 17 16 [16]),(4,oG 18 (.mv (.t 1)) 17 false []),(5,oG 19 (.call 118 [.t 18,(.c (.int .i64 0)),(.c (.int .i64 3))]) 17 false [18]),(6,oG 20 (.not (.t 19)) 17 false [19]),(7,oP 21
(.pick (.t 17) (.c (.bool true)) (.t 20)) [17,20])] (.cond (.t 21) (sK [1,2,21] (sR [(0,oT 22 5 [5]),(1,oT 4 22 [22])] .ret)) (sK [21] .skip))) (sR [(0,oP 23 (.bsl 1 0 [.int .i64 (0)] []) []),(1,oP 24 (.bsl 1 1 [.nils]
[(0,1,(.t 23))]) [23]),(2,oT 6 24 [24])] (sR [(0,oT 25 5 [5]),(1,oP 26 (.bsl 1 0 [.int .i64 (0)] []) []),(2,oP 27 (.bsl 1 1 [.nils] [(0,1,(.t 26))]) [26]),(3,oP 28 (.app 1 24 (.t 25) (.t 27)) [25,27]),(4,oT 5 28 [28])]
(.seq (sR [(0,oP 7 (.mv (.c (.int .i64 0))) [])] (.block 0 (.loop L202_0))) (sR [(0,oT 88 5 [5]),(1,oT 4 88 [88])] .ret)))))))
def C202 : CFn := ⟨89,2,[.t 4],B202⟩
abbrev L203_1 : CCode := (.seq (sR [(0,oT 17 9 []),(1,oT 18 1 []),(2,oT 19 7 []),(3,oP 20 (.ia 1 (.t 18) (.t 19)) []),(4,oP 21 (.ld 1 false (.t 20)) [20]),(5,oP 22 (.len (.t 21)) [18,19,21]),(6,oP 23 (.bin .lss (.t 17)
(.t 22)) [17,22])] (.cond (.t 23) (sK [23] .skip) (sK [9,23] (.exit 2)))) (.seq (.block 3 (.reg false [(0,oT 26 8 [8]),(1,oT 27 26 [26]),(2,oG 28 (.mv (.t 2)) 27 true []),(3,oG 29 (.mv (.t 1)) 27 true []),(4,oG 30 (.mv
(.t 7)) 27 true []),(5,oG 31 (.ia 1 (.t 29) (.t 30)) 27 true []),(6,oG 32 (.ld 1 false (.t 31)) 27 true [31]),(7,oG 33 (.mv (.t 9)) 27 true []),(8,oG 34 (.ia 1 (.t 32) (.t 33)) 27 true [32]),(9,oG 35 (.ld 1 false (.t
34)) 27 true [29,30,33,34]),(10,oG 36 (.call 95 [.t 28,.t 35]) 27 true [28,35]),(11,oG 37 (.not (.t 36)) 27 true [36]),(12,oP 38 (.pick (.t 27) (.t 37) (.c (.bool false))) [27,37]),(13,oT 8 38 [38])])) (.reg false
[(0,oT 24 9 [9]),(1,oP 25 (.bin .add (.t 24) (.c (.int .i64 1))) [24]),(2,oT 9 25 [25])])))
abbrev L203_2 : CCode := (.seq (sR [(0,oT 39 10 []),(1,oT 40 1 []),(2,oT 41 7 []),(3,oP 42 (.ia 1 (.t 40) (.t 41)) []),(4,oP 43 (.ld 1 false (.t 42)) [42]),(5,oP 44 (.len (.t 43)) [40,41,43]),(6,oP 45 (.bin .lss (.t 39)
(.t 44)) [39,44]),(7,oT 46 45 [45]),(8,oG 47 (.mv (.t 8)) 46 true []),(9,oP 48 (.pick (.t 46) (.t 47) (.c (.bool false))) [46,47])] (.cond (.t 48) (sK [8,48] .skip) (sK [10,48] (.exit 4)))) (.seq (.block 5 (.reg true
[(0,oT 51 0 []),(1,oP 52 (.bsl 1 0 [.int .i64 (0)] []) []),(2,oT 53 2 []),(4,oT 55 1 []),(5,oT 56 7 []),(6,oP 57 (.ia 1 (.t 55) (.t 56)) []),(7,oP 58 (.ld 1 false (.t 57)) []),(8,oT 59 10 []),(9,oP 60 (.ia 1 (.t 58) (.t
59)) [58]),(10,oP 61 (.ld 1 false (.t 60)) []),(11,oP 62 (.bsl 1 1 [.int .i64 (0)] [(0,1,(.t 61))]) [61]),(3,⟨some 54,.app 1 8 (.t 52) (.t 53),none,[(57,1),(60,1)],[52,53,55,56,57,59,60]⟩),(12,oP 63 (.app 1 8 (.t 54)
(.t 62)) [54,62]),(13,oP 64 (.call 144 [.t 51,.t 63]) [51,63]),(14,oT 8 64 [64])])) (.reg false [(0,oT 49 10 [10]),(1,oP 50 (.bin .add (.t 49) (.c (.int .i64 1))) [49]),(2,oT 10 50 [50])])))
abbrev L203_0 : CCode := (.seq (sR [(0,oT 11 7 []),(1,oT 12 1 []),(2,oP 13 (.len (.t 12)) [12]),(3,oP 14 (.bin .lss (.t 11) (.t 13)) [11,13])] (.cond (.t 14) (sK [14] .skip) (sK [0,1,2,7,14] (.exit 0)))) (.seq (.block 1
(sR [(0,oP 8 (.mv (.c (.bool true))) [])] (.seq (sR [(0,oP 9 (.mv (.c (.int .i64 0))) [])] (.block 2 (.loop L203_1))) (.seq (sR [(0,oP 10 (.mv (.c (.int .i64 0))) [])] (.block 4 (.loop L203_2))) (sR [(0,oT 65 8 [8])]
(.cond (.t 65) (sK [0,1,2,65] (sR [(0,oT 66 7 [7]),(1,oT 6 66 [66])] .ret)) (sK [65] .skip))))))) (.reg false [(0,oT 15 7 [7]),(1,oP 16 (.bin .add (.t 15) (.c (.int .i64 1))) [15]),(2,oT 7 16 [16])])))
abbrev B203 : CCode := (sR [(0,oP 6 (.mv (.c (.int .i64 0))) [6])] (.seq (sR [(0,oP 7 (.mv (.c (.int .i64 0))) [])] (.block 0 (.loop L203_0))) (sR [(0,oP 6 (.mv (.c (.int .i64 (-1)))) [])] .ret)))
def C203 : CFn := ⟨67,3,[.t 6],B203⟩
abbrev L204_0 : CCode := (sR [(0,oP 20 (.bin .lss (.t 19) (.t 18)) [])] (.seq (.cond (.t 20) (sK [20] .skip) (sK [2,18,19,20] (.exit 0))) (.seq (.block 1 (sR [(0,oT 21 19 []),(1,oT 6 21 [21])] (.reg false [(0,oT 22 5
[5]),(1,oP 23 (.ld 2 true (.t 2)) []),(2,oT 24 6 [6]),(3,oP 25 (.call 243 [.t 23,.t 24]) [23,24]),(4,oP 26 (.app 1 24 (.t 22) (.t 25)) [22,25]),(5,oT 5 26 [26])]))) (.reg false [(0,oP 27 (.bin .add (.t 19) (.c (.int
.i64 1))) [19]),(1,oT 19 27 [27])]))))
abbrev B204 : CCode := (sR [(0,oP 2 (.box 2 (.t 0)) [0]),(1,oP 4 (.mv (.c (.nils))) [4])] (sR [(0,oP 7 (.bsl 1 0 [.nils] []) []),(1,oT 5 7 [7])] (.seq (sR [(0,oP 8 (.ld 2 true (.t 2)) []),(1,oP 9 (.call 79 [.t 8])
[8]),(2,oP 10 (.not (.t 9)) [9]),(3,oT 11 10 [10]),(4,oG 12 (.mv (.t 1)) 11 false []),(5,oG 13 (.call 122 [.t 12,(.c (.int .i64 0)),(.c (.int .i64 3))]) 11 false [12]),(6,oG 14 (.not (.t 13)) 11 false [13]),(7,oP 15
(.pick (.t 11) (.c (.bool true)) (.t 14)) [11,14])] (.cond (.t 15) (sK [1,2,15] (sR [(0,oT 16 5 [5]),(1,oT 4 16 [16])] .ret)) (sK [15] .skip))) (.seq (sR [(0,oT 17 1 [1]),(1,oP 18 (.bin .add (.t 17) (.c (.int .i64 1)))
[17]),(2,oP 19 (.mv (.c (.int .i64 0))) [])] (.block 0 (.loop L204_0))) (sR [(0,oT 28 5 [5]),(1,oT 4 28 [28])] .ret)))))
def C204 : CFn := ⟨29,2,[.t 4],B204⟩
abbrev B205 : CCode := (sR [(0,oP 4 (.mv (.c (.bool false))) [4])] (sR [(0,oP 5 (.ld 1 false (.t 1)) []),(1,oP 6 (.ld 1 false (.t 2)) []),(2,oT 7 0 [0]),(3,oP 8 (.call 206 [.t 5,.t 6,.t 7]) [1,2,5,6,7]),(4,oT 4 8 [8])]
.ret))
def C205 : CFn := ⟨9,3,[.t 4],B205⟩
abbrev L206_0 : CCode := (sR [(0,oP 12 (.bin .lss (.t 11) (.t 10)) [])] (.seq (.cond (.t 12) (sK [12] .skip) (sK [0,1,9,10,11,12] (.exit 0))) (.seq (.block 1 (sR [(0,oP 13 (.ia 1 (.t 9) (.t 11)) []),(1,oP 14 (.ld 1
false (.t 13)) [13]),(2,oT 8 14 [14])] (sR [(0,oT 15 1 []),(1,oT 16 8 []),(2,oP 17 (.call 125 [.t 15,.t 16]) [15,16]),(3,oT 18 17 [17]),(4,oG 19 (.mv (.t 0)) 18 false []),(5,oG 20 (.mv (.t 1)) 18 false []),(6,oG 21 (.mv
(.t 8)) 18 false [8]),(7,oG 22 (.call 244 [.t 20,.t 21]) 18 false [20,21]),(8,oG 23 (.call 62 [.t 19,.t 22]) 18 false [19,22]),(9,oG 24 (.not (.t 23)) 18 false [23]),(10,oP 25 (.pick (.t 18) (.c (.bool true)) (.t 24))
[18,24])] (.cond (.t 25) (sK [0,1,9,10,11,25] (sR [(0,oP 6 (.mv (.c (.bool false))) [])] .ret)) (sK [25] .skip))))) (.reg false [(0,oP 26 (.bin .add (.t 11) (.c (.int .i64 1))) [11]),(1,oT 11 26 [26])]))))
abbrev B206 : CCode := (sR [(0,oP 6 (.mv (.c (.bool false))) [6])] (.seq (sR [(0,oT 9 2 [2]),(1,oP 10 (.len (.t 9)) []),(2,oP 11 (.mv (.c (.int .i64 0))) [])] (.block 0 (.loop L206_0))) (sR [(0,oP 6 (.mv (.c (.bool
true))) [])] .ret)))
def C206 : CFn := ⟨27,3,[.t 6],B206⟩
abbrev L207_0 : CCode := (.seq (sR [(0,oT 6 5 []),(1,oT 7 0 []),(2,oP 8 (.len (.t 7)) [7]),(3,oP 9 (.bin .lss (.t 6) (.t 8)) [6,8]),(4,oT 10 9 [9]),(5,oG 11 (.mv (.t 5)) 10 true []),(6,oG 12 (.mv (.t 1)) 10 true
[]),(7,oG 13 (.len (.t 12)) 10 true [12]),(8,oG 14 (.bin .lss (.t 11) (.t 13)) 10 true [11,13]),(9,oP 15 (.pick (.t 10) (.t 14) (.c (.bool false))) [10,14])] (.cond (.t 15) (sK [15] .skip) (sK [5,15] (.exit 0)))) (.seq
(.block 1 (.seq (.seq (.reg true [(0,oT 18 0 []),(1,oT 19 5 []),(2,oP 20 (.ia 1 (.t 18) (.t 19)) []),(3,oP 21 (.ld 1 false (.t 20)) [18,19,20]),(4,oT 22 1 []),(5,oT 23 5 []),(6,oP 24 (.ia 1 (.t 22) (.t 23)) []),(7,oP 25
(.ld 1 false (.t 24)) [22,23,24]),(8,oP 26 (.bin .lss (.t 21) (.t 25)) [21,25])]) (.cond (.t 26) (sK [0,1,5,26] (sR [(0,oP 4 (.mv (.c (.int .i64 (-1)))) [])] .ret)) (sK [26] .skip))) (.seq (.reg true [(0,oT 27 0
[]),(1,oT 28 5 []),(2,oP 29 (.ia 1 (.t 27) (.t 28)) []),(3,oP 30 (.ld 1 false (.t 29)) [27,28,29]),(4,oT 31 1 []),(5,oT 32 5 []),(6,oP 33 (.ia 1 (.t 31) (.t 32)) []),(7,oP 34 (.ld 1 false (.t 33)) [31,32,33]),(8,oP 35
(.bin .gtr (.t 30) (.t 34)) [30,34])]) (.cond (.t 35) (sK [0,1,5,35] (sR [(0,oP 4 (.mv (.c (.int .i64 1))) [])] .ret)) (sK [35] .skip))))) (.reg false [(0,oT 16 5 [5]),(1,oP 17 (.bin .add (.t 16) (.c (.int .i64 1)))
[16]),(2,oT 5 17 [17])])))
abbrev B207 : CCode := (sR [(0,oP 4 (.mv (.c (.int .i64 0))) [4])] (.seq (sR [(0,oP 5 (.mv (.c (.int .i64 0))) [])] (.block 0 (.loop L207_0))) (.seq (sR [(0,oT 36 0 []),(1,oP 37 (.len (.t 36)) [36]),(2,oT 38 1 []),(3,oP
39 (.len (.t 38)) [38]),(4,oP 40 (.bin .lss (.t 37) (.t 39)) [37,39])] (.cond (.t 40) (sK [0,1,40] (sR [(0,oP 4 (.mv (.c (.int .i64 (-1)))) [])] .ret)) (sK [40] .skip))) (.seq (sR [(0,oT 41 0 [0]),(1,oP 42 (.len (.t
41)) [41]),(2,oT 43 1 [1]),(3,oP 44 (.len (.t 43)) [43]),(4,oP 45 (.bin .gtr (.t 42) (.t 44)) [42,44])] (.cond (.t 45) (sK [45] (sR [(0,oP 4 (.mv (.c (.int .i64 1))) [])] .ret)) (sK [45] .skip))) (sR [(0,oP 4 (.mv (.c
(.int .i64 0))) [])] .ret)))))
def C207 : CFn := ⟨46,2,[.t 4],B207⟩
abbrev B208 : CCode := (sR [(0,oP 1 (.box 3 (.t 0)) [0]),(1,oP 2 (.mv (.c (.bool false))) [2])] (sR [(0,oP 3 (.fa 0 (.t 1)) []),(1,oP 4 (.ld 1 false (.t 3)) [3]),(2,oP 5 (.lens (.t 4)) [4]),(3,oP 6 (.bin .eql (.t 5) (.c
(.int .i64 1))) [5]),(4,oT 7 6 [6]),(5,oG 8 (.fa 0 (.t 1)) 7 true []),(6,oG 9 (.ld 1 false (.t 8)) 7 true [8]),(7,oG 10 (.ix (.t 9) (.c (.int .i64 0))) 7 true [9]),(8,oG 11 (.bin .geq (.t 10) (.c (.int .u8 (97)))) 7
true [10]),(9,oP 12 (.pick (.t 7) (.t 11) (.c (.bool false))) [7,11]),(10,oT 13 12 [12]),(11,oG 14 (.fa 0 (.t 1)) 13 true []),(12,oG 15 (.ld 1 false (.t 14)) 13 true [14]),(13,oG 16 (.ix (.t 15) (.c (.int .i64 0))) 13
true [15]),(14,oG 17 (.bin .leq (.t 16) (.c (.int .u8 (122)))) 13 true [16]),(15,oP 18 (.pick (.t 13) (.t 17) (.c (.bool false))) [13,17]),(16,oT 19 18 [18]),(17,oG 20 (.fa 1 (.t 1)) 19 true []),(18,oG 21 (.ld 1 false
(.t 20)) 19 true [20]),(19,oG 22 (.call 122 [.t 21,(.c (.int .i64 1)),(.c (.int .i64 3))]) 19 true [21]),(20,oP 23 (.pick (.t 19) (.t 22) (.c (.bool false))) [19,22]),(21,oT 24 23 [23]),(22,oG 25 (.fa 2 (.t 1)) 24 true
[]),(23,oG 26 (.ld 1 false (.t 25)) 24 true [25]),(24,oG 27 (.fa 1 (.t 1)) 24 true []),(25,oG 28 (.ld 1 false (.t 27)) 24 true [1,27]),(26,oG 29 (.call 122 [.t 26,(.c (.int .i64 0)),.t 28]) 24 true [26,28]),(27,oP 30
(.pick (.t 24) (.t 29) (.c (.bool false))) [24,29]),(28,oT 2 30 [30])] .ret))
def C208 : CFn := ⟨31,1,[.t 2],B208⟩
abbrev B209 : CCode := (sR [(0,oP 2 (.mv (.c (.bool false))) [2])] (sR [(0,oT 3 0 [0]),(1,oP 4 (.call 159 [.t 3,(.c (.fn 245 []))]) [3]),(2,oP 5 (.not (.t 4)) [4]),(3,oT 2 5 [5])] .ret))
def C209 : CFn := ⟨6,1,[.t 2],B209⟩
abbrev B210 : CCode := (sR [(0,oP 4 (.mv (.c (.int .i64 0))) [4])] (.seq (.block 0 (sR [(0,oT 6 0 []),(1,oT 7 1 []),(2,oP 8 (.bin .lss (.t 6) (.t 7)) [6,7]),(3,oT 5 8 [8])] (.cond (.t 5) (sK [0,1,5] (sR [(0,oP 4 (.mv
(.c (.int .i64 (-1)))) [])] .ret)) (sK [5] (sR [(0,oT 10 0 [0]),(1,oT 11 1 [1]),(2,oP 12 (.bin .gtr (.t 10) (.t 11)) [10,11]),(3,oT 9 12 [12])] (.cond (.t 9) (sK [9] (sR [(0,oP 4 (.mv (.c (.int .i64 1))) [])] .ret)) (sK
[9] .skip))))))) (sR [(0,oP 4 (.mv (.c (.int .i64 0))) [])] .ret)))
def C210 : CFn := ⟨13,2,[.t 4],B210⟩
abbrev L211_0 : CCode := (sR [(0,oP 12 (.bin .lss (.t 11) (.t 10)) [])] (.seq (.cond (.t 12) (sK [12] .skip) (sK [9,10,11,12] (.exit 0))) (.seq (.block 1 (sR [(0,oT 13 11 []),(1,oP 14 (.ia 1 (.t 9) (.t 11)) []),(2,oP 15
(.ld 1 false (.t 14)) [14]),(3,oT 5 13 [13]),(4,oT 6 15 [15])] (.seq (sR [(0,oT 16 5 []),(1,oT 17 1 []),(2,oP 18 (.len (.t 17)) [17]),(3,oP 19 (.bin .geq (.t 16) (.t 18)) [16,18])] (.cond (.t 19) (sK
[0,1,5,6,9,10,11,19] (sR [(0,oP 4 (.mv (.c (.int .i64 1))) [])] .ret)) (sK [19] .skip))) (sR [(0,oT 20 1 []),(1,oT 21 5 [5]),(2,oP 22 (.ia 1 (.t 20) (.t 21)) []),(3,oP 23 (.ld 1 false (.t 22)) [20,21,22]),(4,oT 7 23
[23])] (sR [(0,oT 24 6 [6]),(1,oT 25 7 [7]),(2,oP 26 (.call 246 [.t 24,.t 25]) [24,25]),(3,oT 8 26 [26])] (sR [(0,oT 27 8 []),(1,oP 28 (.bin .neq (.t 27) (.c (.int .i64 0))) [27])] (.cond (.t 28) (sK [0,1,9,10,11,28]
(sR [(0,oT 29 8 [8]),(1,oT 4 29 [29])] .ret)) (sK [8,28] .skip)))))))) (.reg false [(0,oP 30 (.bin .add (.t 11) (.c (.int .i64 1))) [11]),(1,oT 11 30 [30])]))))
abbrev B211 : CCode := (sR [(0,oP 4 (.mv (.c (.int .i64 0))) [4])] (.seq (sR [(0,oT 9 0 []),(1,oP 10 (.len (.t 9)) []),(2,oP 11 (.mv (.c (.int .i64 0))) [])] (.block 0 (.loop L211_0))) (.seq (sR [(0,oT 31 0 [0]),(1,oP
32 (.len (.t 31)) [31]),(2,oT 33 1 [1]),(3,oP 34 (.len (.t 33)) [33]),(4,oP 35 (.bin .lss (.t 32) (.t 34)) [32,34])] (.cond (.t 35) (sK [35] (sR [(0,oP 4 (.mv (.c (.int .i64 (-1)))) [])] .ret)) (sK [35] .skip))) (sR
[(0,oP 4 (.mv (.c (.int .i64 0))) [])] .ret))))
def C211 : CFn := ⟨36,2,[.t 4],B211⟩
abbrev L212_0 : CCode := (sR [(0,oP 9 (.bin .lss (.t 8) (.t 7)) [])] (.seq (.cond (.t 9) (sK [9] .skip) (sK [0,1,7,8,9] (.exit 0))) (.seq (.block 1 (sR [(0,oT 10 8 []),(1,oT 5 10 [10])] (sR [(0,oT 11 1 []),(1,oT 12 0
[]),(2,oT 13 5 []),(3,oP 14 (.ia 1 (.t 12) (.t 13)) []),(4,oP 15 (.ld 1 false (.t 14)) [12,13,14]),(5,oP 16 (.callv (.t 11) [.t 15]) [11,15])] (.cond (.t 16) (sK [0,1,7,8,16] (sR [(0,oT 17 5 [5]),(1,oT 4 17 [17])]
.ret)) (sK [5,16] .skip))))) (.reg false [(0,oP 18 (.bin .add (.t 8) (.c (.int .i64 1))) [8]),(1,oT 8 18 [18])]))))
abbrev B212 : CCode := (sR [(0,oP 4 (.mv (.c (.int .i64 0))) [4])] (.seq (sR [(0,oT 6 0 []),(1,oP 7 (.len (.t 6)) [6]),(2,oP 8 (.mv (.c (.int .i64 0))) [])] (.block 0 (.loop L212_0))) (sR [(0,oP 4 (.mv (.c (.int .i64
(-1)))) [])] .ret)))
def C212 : CFn := ⟨19,2,[.t 4],B212⟩
abbrev B213 : CCode := (sR [(0,oP 4 (.mv (.c (.int .u64 (0)))) [4]),(1,oP 5 (.mv (.c (.int .u64 (0)))) [5])] (.seq (.cond (.c (.bool false)) (sR [(0,oT 11 0 [0]),(1,oP 12 (.conv .u32 (.t 11)) [11]),(2,oT 13 1 [1]),(3,oP
14 (.conv .u32 (.t 13)) [13]),(4,oP 15 (.call 247 [.t 12,.t 14]) [12,14]),(5,oT 10 15 [15]),(6,oP 16 (.ex (.t 10) 0) []),(7,oP 17 (.ex (.t 10) 1) [10]),(8,oT 6 16 [16]),(9,oT 7 17 [17])] (sR [(0,oT 18 6 [6]),(1,oP 19
(.conv .u64 (.t 18)) [18]),(2,oT 20 7 [7]),(3,oP 21 (.conv .u64 (.t 20)) [20]),(4,oT 4 19 [19]),(5,oT 5 21 [21])] .ret)) .skip) (sR [(0,oT 23 0 [0]),(1,oT 24 1 [1]),(2,oP 25 (.call 248 [.t 23,.t 24]) [23,24]),(3,oT 22
25 [25]),(4,oP 26 (.ex (.t 22) 0) []),(5,oP 27 (.ex (.t 22) 1) [22]),(6,oT 8 26 [26]),(7,oT 9 27 [27])] (sR [(0,oT 28 8 [8]),(1,oT 29 9 [9]),(2,oT 4 28 [28]),(3,oT 5 29 [29])] .ret))))
def C213 : CFn := ⟨30,2,[.t 4,.t 5],B213⟩
abbrev L214_0 : CCode := (sR [(0,oP 14 (.bin .lss (.t 13) (.t 12)) [])] (.seq (.cond (.t 14) (sK [14] .skip) (sK [0,1,12,13,14] (.exit 0))) (.seq (.block 1 (sR [(0,oT 15 13 []),(1,oT 5 15 [15])] (.seq (.reg true [(0,oT
16 0 []),(1,oT 17 5 []),(2,oP 18 (.ia 1 (.t 16) (.t 17)) []),(3,oP 19 (.ld 1 false (.t 18)) [16,17,18]),(4,oT 20 1 []),(5,oT 21 5 [5]),(6,oP 22 (.ia 1 (.t 20) (.t 21)) []),(7,oP 23 (.ld 1 false (.t 22))
[20,21,22]),(8,oP 24 (.bin .neq (.t 19) (.t 23)) [19,23])]) (.cond (.t 24) (sK [0,1,12,13,24] (sR [(0,oP 4 (.mv (.c (.bool false))) [])] .ret)) (sK [24] .skip))))) (.reg false [(0,oP 25 (.bin .add (.t 13) (.c (.int .i64
1))) [13]),(1,oT 13 25 [25])]))))
abbrev B214 : CCode := (sR [(0,oP 4 (.mv (.c (.bool false))) [4])] (.seq (sR [(0,oT 6 0 []),(1,oP 7 (.len (.t 6)) [6]),(2,oT 8 1 []),(3,oP 9 (.len (.t 8)) [8]),(4,oP 10 (.bin .neq (.t 7) (.t 9)) [7,9])] (.cond (.t 10)
(sK [0,1,10] (sR [(0,oP 4 (.mv (.c (.bool false))) [])] .ret)) (sK [10] .skip))) (.seq (sR [(0,oT 11 0 []),(1,oP 12 (.len (.t 11)) [11]),(2,oP 13 (.mv (.c (.int .i64 0))) [])] (.block 0 (.loop L214_0))) (sR [(0,oP 4
(.mv (.c (.bool true))) [])] .ret))))
def C214 : CFn := ⟨26,2,[.t 4],B214⟩
abbrev B217 : CCode := (sR [(0,oP 4 (.mv (.c (.nils))) [4])] (.seq (sR [(0,oT 5 1 []),(1,oP 6 (.bin .lss (.t 5) (.c (.int .i64 0))) [5])] (.cond (.t 6) (sK [6] (.reg false [(0,oP 7 .fail
[7]),(1,⟨none,.fail,none,[],[]⟩)])) (sK [6] .skip))) (.seq (sR [(0,oT 8 1 [1]),(1,oT 9 0 []),(2,oP 10 (.cap (.t 9)) [9]),(3,oT 11 0 []),(4,oP 12 (.len (.t 11)) [11]),(5,oP 13 (.bin .sub (.t 10) (.t 12)) [10,12]),(6,oP
14 (.bin .sub (.t 8) (.t 13)) [8,13]),(7,oT 1 14 [14])] (sR [(0,oT 15 1 []),(1,oP 16 (.bin .gtr (.t 15) (.c (.int .i64 0))) [15])] (.cond (.t 16) (sK [16] (.reg false [(0,oT 17 0 []),(1,oT 18 0 []),(2,oP 19 (.cap (.t
18)) [18]),(3,oP 20 (.sls 1 (.t 17) none (some (.t 19)) none) [17,19]),(4,oT 21 1 [1]),(5,oP 22 (.appm 1 8 [.int .i64 (0)] (.t 20) (.t 21)) [20,21]),(6,oT 23 0 [0]),(7,oP 24 (.len (.t 23)) [23]),(8,oP 25 (.sls 1 (.t 22)
none (some (.t 24)) none) [22,24]),(9,oT 0 25 [25])])) (sK [1,16] .skip)))) (sR [(0,oT 26 0 [0]),(1,oT 4 26 [26])] .ret))))
def C217 : CFn := ⟨27,2,[.t 4],B217⟩
abbrev L219_0 : CCode := (sR [(0,oP 9 (.bin .lss (.t 8) (.t 7)) [])] (.seq (.cond (.t 9) (sK [9] .skip) (sK [0,1,7,8,9] (.exit 0))) (.seq (.block 1 (sR [(0,oT 10 8 []),(1,oT 5 10 [10])] (sR [(0,oT 11 1 []),(1,oT 12 0
[]),(2,oT 13 5 []),(3,oP 14 (.ia 2 (.t 12) (.t 13)) []),(4,oP 15 (.ld 2 true (.t 14)) [14]),(5,oP 16 (.callv (.t 11) [.t 15]) [11,12,13,15])] (.cond (.t 16) (sK [0,1,7,8,16] (sR [(0,oT 17 5 [5]),(1,oT 4 17 [17])] .ret))
(sK [5,16] .skip))))) (.reg false [(0,oP 18 (.bin .add (.t 8) (.c (.int .i64 1))) [8]),(1,oT 8 18 [18])]))))
abbrev B219 : CCode := (sR [(0,oP 4 (.mv (.c (.int .i64 0))) [4])] (.seq (sR [(0,oT 6 0 []),(1,oP 7 (.len (.t 6)) [6]),(2,oP 8 (.mv (.c (.int .i64 0))) [])] (.block 0 (.loop L219_0))) (sR [(0,oP 4 (.mv (.c (.int .i64
(-1)))) [])] .ret)))
def C219 : CFn := ⟨19,2,[.t 4],B219⟩
abbrev L230_1 : CCode := (.seq (.seq (.reg true [(0,oT 16 7 []),(1,oT 17 1 []),(2,oP 18 (.bin .gtr (.t 16) (.t 17)) [16,17]),(3,oT 19 18 [18]),(4,oG 20 (.mv (.t 0)) 19 true []),(5,oG 21 (.mv (.t 7)) 19 true []),(6,oG 22
(.ia 1 (.t 20) (.t 21)) 19 true []),(7,oG 23 (.ld 1 false (.t 22)) 19 true [20,21,22]),(8,oG 24 (.mv (.t 0)) 19 true []),(9,oG 25 (.mv (.t 7)) 19 true []),(10,oG 26 (.bin .sub (.t 25) (.c (.int .i64 1))) 19 true
[25]),(11,oG 27 (.ia 1 (.t 24) (.t 26)) 19 true []),(12,oG 28 (.ld 1 false (.t 27)) 19 true [24,26,27]),(13,oG 29 (.call 236 [.t 23,.t 28]) 19 true [23,28]),(14,oP 30 (.pick (.t 19) (.t 29) (.c (.bool false)))
[19,29])]) (.cond (.t 30) (sK [30] .skip) (sK [7,30] (.exit 2)))) (.seq (.block 3 (.reg true [(0,oT 33 0 []),(1,oT 34 7 []),(2,oT 35 0 []),(3,oT 36 7 []),(4,oP 37 (.bin .sub (.t 36) (.c (.int .i64 1))) [36]),(5,oT 38 0
[]),(6,oT 39 7 []),(7,oP 40 (.bin .sub (.t 39) (.c (.int .i64 1))) [39]),(8,oP 41 (.ia 1 (.t 38) (.t 40)) []),(9,oP 42 (.ld 1 false (.t 41)) [38,40,41]),(10,oT 43 0 []),(11,oT 44 7 []),(12,oP 45 (.ia 1 (.t 43) (.t 44))
[]),(13,oP 46 (.ld 1 false (.t 45)) [43,44,45]),(14,oP 47 (.ia 1 (.t 33) (.t 34)) []),(15,⟨none,.st 1 (.t 47) (.t 42),none,[],[33,34,42,47]⟩),(16,oP 48 (.ia 1 (.t 35) (.t 37)) []),(17,⟨none,.st 1 (.t 48) (.t
46),none,[],[35,37,46,48]⟩)])) (.reg false [(0,oT 31 7 [7]),(1,oP 32 (.bin .sub (.t 31) (.c (.int .i64 1))) [31]),(2,oT 7 32 [32])])))
abbrev L230_0 : CCode := (.seq (sR [(0,oT 10 6 []),(1,oT 11 2 []),(2,oP 12 (.bin .lss (.t 10) (.t 11)) [10,11])] (.cond (.t 12) (sK [12] .skip) (sK [1,2,6,12] (.exit 0)))) (.seq (.block 1 (sR [(0,oT 15 6 []),(1,oT 7 15
[15])] (.block 2 (.loop L230_1)))) (.reg false [(0,oT 13 6 [6]),(1,oP 14 (.bin .add (.t 13) (.c (.int .i64 1))) [13]),(2,oT 6 14 [14])])))
abbrev B230 : CCode := (sR [(0,oT 8 1 []),(1,oP 9 (.bin .add (.t 8) (.c (.int .i64 1))) [8]),(2,oT 6 9 [9])] (.block 0 (.loop L230_0)))
def C230 : CFn := ⟨49,3,[],B230⟩
abbrev L231_0 : CCode := (.seq (sR [(0,oT 18 9 []),(1,oP 19 (.bin .geq (.t 18) (.c (.int .i64 0))) [18])] (.cond (.t 19) (sK [19] .skip) (sK [9,19] (.exit 0)))) (.seq (.block 1 (.reg false [(0,oT 22 0 []),(1,oT 23 9
[]),(2,oT 24 8 []),(3,oT 25 6 []),(4,oP 26 (.call 257 [.t 22,.t 23,.t 24,.t 25]) [22,23,24,25,26])])) (.reg false [(0,oT 20 9 [9]),(1,oP 21 (.bin .sub (.t 20) (.c (.int .i64 1))) [20]),(2,oT 9 21 [21])])))
abbrev L231_1 : CCode := (.seq (sR [(0,oT 29 10 []),(1,oP 30 (.bin .geq (.t 29) (.c (.int .i64 0))) [29])] (.cond (.t 30) (sK [30] .skip) (sK [6,7,10,30] (.exit 2)))) (.seq (.block 3 (.seq (.reg true [(0,oT 33 0
[]),(1,oT 34 6 []),(2,oT 35 0 []),(3,oT 36 6 []),(4,oT 37 10 []),(5,oP 38 (.bin .add (.t 36) (.t 37)) [36,37]),(6,oT 39 0 []),(7,oT 40 6 []),(8,oT 41 10 []),(9,oP 42 (.bin .add (.t 40) (.t 41)) [40,41]),(10,oP 43 (.ia 1
(.t 39) (.t 42)) []),(11,oP 44 (.ld 1 false (.t 43)) [39,42,43]),(12,oT 45 0 []),(13,oT 46 6 []),(14,oP 47 (.ia 1 (.t 45) (.t 46)) []),(15,oP 48 (.ld 1 false (.t 47)) [45,46,47]),(16,oP 49 (.ia 1 (.t 33) (.t 34))
[]),(17,⟨none,.st 1 (.t 49) (.t 44),none,[],[33,34,44,49]⟩),(18,oP 50 (.ia 1 (.t 35) (.t 38)) []),(19,⟨none,.st 1 (.t 50) (.t 48),none,[],[35,38,48,50]⟩)]) (.reg false [(0,oT 51 0 []),(1,oT 52 7 []),(2,oT 53 10
[]),(3,oT 54 6 []),(4,oP 55 (.call 257 [.t 51,.t 52,.t 53,.t 54]) [51,52,53,54,55])]))) (.reg false [(0,oT 31 10 [10]),(1,oP 32 (.bin .sub (.t 31) (.c (.int .i64 1))) [31]),(2,oT 10 32 [32])])))
abbrev B231 : CCode := (sR [(0,oT 11 1 []),(1,oT 6 11 [11])] (sR [(0,oP 7 (.mv (.c (.int .i64 0))) [])] (sR [(0,oT 12 2 [2]),(1,oT 13 1 [1]),(2,oP 14 (.bin .sub (.t 12) (.t 13)) [12,13]),(3,oT 8 14 [14])] (.seq (sR
[(0,oT 15 8 []),(1,oP 16 (.bin .sub (.t 15) (.c (.int .i64 1))) [15]),(2,oP 17 (.bin .quo (.t 16) (.c (.int .i64 2))) [16]),(3,oT 9 17 [17])] (.block 0 (.loop L231_0))) (sR [(0,oT 27 8 [8]),(1,oP 28 (.bin .sub (.t 27)
(.c (.int .i64 1))) [27]),(2,oT 10 28 [28])] (.block 2 (.loop L231_1)))))))
def C231 : CFn := ⟨56,3,[],B231⟩
abbrev L232_0 : CCode := (.seq (sR [(0,oT 26 9 []),(1,oT 27 1 []),(2,oT 28 6 []),(3,oP 29 (.bin .quo (.t 28) (.c (.int .i64 4))) [28]),(4,oP 30 (.bin .mul (.t 29) (.c (.int .i64 2))) [29]),(5,oP 31 (.bin .add (.t 27)
(.t 30)) [27,30]),(6,oP 32 (.bin .add (.t 31) (.c (.int .i64 1))) [31]),(7,oP 33 (.bin .leq (.t 26) (.t 32)) [26,32])] (.cond (.t 33) (sK [33] .skip) (sK [1,6,7,8,9,33] (.exit 0)))) (.seq (.block 1 (sR [(0,oP 36 (.call
259 [.t 7]) []),(1,oT 37 8 []),(2,oP 38 (.bin .sub (.t 37) (.c (.int .u64 (1)))) [37]),(3,oP 39 (.bin .and (.t 36) (.t 38)) [36,38]),(4,oP 40 (.conv .i64 (.t 39)) [39]),(5,oT 10 40 [40])] (.seq (sR [(0,oT 41 10
[]),(1,oT 42 6 []),(2,oP 43 (.bin .geq (.t 41) (.t 42)) [41,42])] (.cond (.t 43) (sK [43] (.reg false [(0,oT 44 10 [10]),(1,oT 45 6 []),(2,oP 46 (.bin .sub (.t 44) (.t 45)) [44,45]),(3,oT 10 46 [46])])) (sK [43]
.skip))) (.reg true [(0,oT 47 0 []),(1,oT 48 9 []),(2,oT 49 0 []),(3,oT 50 1 []),(4,oT 51 10 []),(5,oP 52 (.bin .add (.t 50) (.t 51)) [50,51]),(6,oT 53 0 []),(7,oT 54 1 []),(8,oT 55 10 [10]),(9,oP 56 (.bin .add (.t 54)
(.t 55)) [54,55]),(10,oP 57 (.ia 1 (.t 53) (.t 56)) []),(11,oP 58 (.ld 1 false (.t 57)) [53,56,57]),(12,oT 59 0 []),(13,oT 60 9 []),(14,oP 61 (.ia 1 (.t 59) (.t 60)) []),(15,oP 62 (.ld 1 false (.t 61))
[59,60,61]),(16,oP 63 (.ia 1 (.t 47) (.t 48)) []),(17,⟨none,.st 1 (.t 63) (.t 58),none,[],[47,48,58,63]⟩),(18,oP 64 (.ia 1 (.t 49) (.t 52)) []),(19,⟨none,.st 1 (.t 64) (.t 62),none,[],[49,52,62,64]⟩)])))) (.reg false
[(0,oT 34 9 [9]),(1,oP 35 (.bin .add (.t 34) (.c (.int .i64 1))) [34]),(2,oT 9 35 [35])])))
abbrev B232 : CCode := (sR [(0,oT 11 2 [2]),(1,oT 12 1 []),(2,oP 13 (.bin .sub (.t 11) (.t 12)) [11,12]),(3,oT 6 13 [13])] (sR [(0,oT 14 6 []),(1,oP 15 (.bin .geq (.t 14) (.c (.int .i64 8))) [14])] (.cond (.t 15) (sK
[15] (sR [(0,oT 16 6 []),(1,oP 17 (.conv .u64 (.t 16)) [16]),(2,oP 7 (.al [.int .u64 (0)]) []),(3,⟨none,.st 1 (.t 7) (.t 17),none,[],[17]⟩)] (sR [(0,oT 18 6 []),(1,oP 19 (.call 258 [.t 18]) [18]),(2,oT 8 19 [19])] (sR
[(0,oT 20 1 []),(1,oT 21 6 []),(2,oP 22 (.bin .quo (.t 21) (.c (.int .i64 4))) [21]),(3,oP 23 (.bin .mul (.t 22) (.c (.int .i64 2))) [22]),(4,oP 24 (.bin .add (.t 20) (.t 23)) [20,23]),(5,oP 25 (.bin .sub (.t 24) (.c
(.int .i64 1))) [24]),(6,oT 9 25 [25])] (.block 0 (.loop L232_0)))))) (sK [1,6,15] .skip))))
def C232 : CFn := ⟨65,3,[],B232⟩
abbrev B233 : CCode := (sR [(0,oP 6 (.mv (.c (.int .i64 0))) [6]),(1,oP 7 (.mv (.c (.int .i64 0))) [7])] (sR [(0,oT 13 2 [2]),(1,oT 14 1 []),(2,oP 15 (.bin .sub (.t 13) (.t 14)) [13,14]),(3,oT 8 15 [15])] (sR [(0,oP 9
(.al [.int .i64 (0)]) [])] (sR [(0,oT 16 1 []),(1,oT 17 8 []),(2,oP 18 (.bin .quo (.t 17) (.c (.int .i64 4))) [17]),(3,oP 19 (.bin .mul (.t 18) (.c (.int .i64 1))) [18]),(4,oP 20 (.bin .add (.t 16) (.t 19))
[16,19]),(5,oT 10 20 [20])] (sR [(0,oT 21 1 []),(1,oT 22 8 []),(2,oP 23 (.bin .quo (.t 22) (.c (.int .i64 4))) [22]),(3,oP 24 (.bin .mul (.t 23) (.c (.int .i64 2))) [23]),(4,oP 25 (.bin .add (.t 21) (.t 24))
[21,24]),(5,oT 11 25 [25])] (sR [(0,oT 26 1 [1]),(1,oT 27 8 []),(2,oP 28 (.bin .quo (.t 27) (.c (.int .i64 4))) [27]),(3,oP 29 (.bin .mul (.t 28) (.c (.int .i64 3))) [28]),(4,oP 30 (.bin .add (.t 26) (.t 29))
[26,29]),(5,oT 12 30 [30])] (.seq (sR [(0,oT 31 8 []),(1,oP 32 (.bin .geq (.t 31) (.c (.int .i64 8))) [31])] (.cond (.t 32) (sK [32] (.seq (sR [(0,oT 33 8 [8]),(1,oP 34 (.bin .geq (.t 33) (.c (.int .i64 50))) [33])]
(.cond (.t 34) (sK [34] (sR [(0,oT 35 0 []),(1,oT 36 10 [10]),(2,oP 37 (.call 260 [.t 35,.t 36,.t 9]) [35,36]),(3,oT 10 37 [37])] (sR [(0,oT 38 0 []),(1,oT 39 11 [11]),(2,oP 40 (.call 260 [.t 38,.t 39,.t 9])
[38,39]),(3,oT 11 40 [40])] (.reg false [(0,oT 41 0 []),(1,oT 42 12 [12]),(2,oP 43 (.call 260 [.t 41,.t 42,.t 9]) [41,42]),(3,oT 12 43 [43])])))) (sK [34] .skip))) (.reg false [(0,oT 44 0 [0]),(1,oT 45 10 [10]),(2,oT 46
11 [11]),(3,oT 47 12 [12]),(4,oP 48 (.call 261 [.t 44,.t 45,.t 46,.t 47,.t 9]) [44,45,46,47]),(5,oT 11 48 [48])]))) (sK [0,8,10,12,32] .skip))) (sR [(0,oP 49 (.ld 1 false (.t 9)) [9])] (.block 0 (sR [(0,oP 52 (.bin .eql
(.t 49) (.c (.int .i64 0))) []),(1,oT 51 52 [52])] (.cond (.t 51) (sK [49,51] (sR [(0,oT 53 11 [11]),(1,oT 6 53 [53]),(2,oP 7 (.mv (.c (.int .i64 1))) [])] .ret)) (sK [51] (sR [(0,oP 55 (.bin .eql (.t 49) (.c (.int .i64
12))) [49]),(1,oT 54 55 [55])] (.cond (.t 54) (sK [54] (sR [(0,oT 56 11 [11]),(1,oT 6 56 [56]),(2,oP 7 (.mv (.c (.int .i64 2))) [])] .ret)) (sK [54] (sR [(0,oT 50 11 [11]),(1,oT 6 50 [50]),(2,oP 7 (.mv (.c (.int .i64
0))) [])] .ret))))))))))))))))
def C233 : CFn := ⟨57,3,[.t 6,.t 7],B233⟩
abbrev L234_0 : CCode := (.seq (sR [(0,oT 11 6 []),(1,oT 12 7 []),(2,oP 13 (.bin .lss (.t 11) (.t 12)) [11,12])] (.cond (.t 13) (sK [13] .skip) (sK [6,7,13] (.exit 0)))) (.block 1 (.seq (.reg true [(0,oT 14 0 []),(1,oT
15 6 []),(2,oT 16 0 []),(3,oT 17 7 []),(4,oT 18 0 []),(5,oT 19 7 []),(6,oP 20 (.ia 1 (.t 18) (.t 19)) []),(7,oP 21 (.ld 1 false (.t 20)) [18,19,20]),(8,oT 22 0 []),(9,oT 23 6 []),(10,oP 24 (.ia 1 (.t 22) (.t 23))
[]),(11,oP 25 (.ld 1 false (.t 24)) [22,23,24]),(12,oP 26 (.ia 1 (.t 14) (.t 15)) []),(13,⟨none,.st 1 (.t 26) (.t 21),none,[],[14,15,21,26]⟩),(14,oP 27 (.ia 1 (.t 16) (.t 17)) []),(15,⟨none,.st 1 (.t 27) (.t
25),none,[],[16,17,25,27]⟩)]) (sR [(0,oT 28 6 [6]),(1,oP 29 (.bin .add (.t 28) (.c (.int .i64 1))) [28]),(2,oT 6 29 [29])] (.reg false [(0,oT 30 7 [7]),(1,oP 31 (.bin .sub (.t 30) (.c (.int .i64 1))) [30]),(2,oT 7 31
[31])])))))
abbrev B234 : CCode := (sR [(0,oT 8 1 [1]),(1,oT 6 8 [8])] (sR [(0,oT 9 2 [2]),(1,oP 10 (.bin .sub (.t 9) (.c (.int .i64 1))) [9]),(2,oT 7 10 [10])] (.block 0 (.loop L234_0))))
def C234 : CFn := ⟨32,3,[],B234⟩
abbrev L235_1 : CCode := (.seq (.seq (.reg true [(0,oT 17 7 []),(1,oT 18 2 []),(2,oP 19 (.bin .lss (.t 17) (.t 18)) [17,18]),(3,oT 20 19 [19]),(4,oG 21 (.mv (.t 0)) 20 true []),(5,oG 22 (.mv (.t 7)) 20 true []),(6,oG 23
(.ia 1 (.t 21) (.t 22)) 20 true []),(7,oG 24 (.ld 1 false (.t 23)) 20 true [21,22,23]),(8,oG 25 (.mv (.t 0)) 20 true []),(9,oG 26 (.mv (.t 7)) 20 true []),(10,oG 27 (.bin .sub (.t 26) (.c (.int .i64 1))) 20 true
[26]),(11,oG 28 (.ia 1 (.t 25) (.t 27)) 20 true []),(12,oG 29 (.ld 1 false (.t 28)) 20 true [25,27,28]),(13,oG 30 (.call 236 [.t 24,.t 29]) 20 true [24,29]),(14,oG 31 (.not (.t 30)) 20 true [30]),(15,oP 32 (.pick (.t
20) (.t 31) (.c (.bool false))) [20,31])]) (.cond (.t 32) (sK [32] .skip) (sK [32] (.exit 2)))) (.block 3 (.reg false [(0,oT 33 7 [7]),(1,oP 34 (.bin .add (.t 33) (.c (.int .i64 1))) [33]),(2,oT 7 34 [34])])))
abbrev L235_2 : CCode := (.seq (sR [(0,oT 64 9 []),(1,oP 65 (.bin .geq (.t 64) (.c (.int .i64 1))) [64])] (.cond (.t 65) (sK [65] .skip) (sK [9,65] (.exit 4)))) (.seq (.block 5 (.seq (.seq (.reg true [(0,oT 68 0
[]),(1,oT 69 9 []),(2,oP 70 (.ia 1 (.t 68) (.t 69)) []),(3,oP 71 (.ld 1 false (.t 70)) [68,69,70]),(4,oT 72 0 []),(5,oT 73 9 []),(6,oP 74 (.bin .sub (.t 73) (.c (.int .i64 1))) [73]),(7,oP 75 (.ia 1 (.t 72) (.t 74))
[]),(8,oP 76 (.ld 1 false (.t 75)) [72,74,75]),(9,oP 77 (.call 236 [.t 71,.t 76]) [71,76]),(10,oP 78 (.not (.t 77)) [77])]) (.cond (.t 78) (sK [9,78] (.exit 4)) (sK [78] .skip))) (.reg true [(0,oT 79 0 []),(1,oT 80 9
[]),(2,oT 81 0 []),(3,oT 82 9 []),(4,oP 83 (.bin .sub (.t 82) (.c (.int .i64 1))) [82]),(5,oT 84 0 []),(6,oT 85 9 []),(7,oP 86 (.bin .sub (.t 85) (.c (.int .i64 1))) [85]),(8,oP 87 (.ia 1 (.t 84) (.t 86)) []),(9,oP 88
(.ld 1 false (.t 87)) [84,86,87]),(10,oT 89 0 []),(11,oT 90 9 []),(12,oP 91 (.ia 1 (.t 89) (.t 90)) []),(13,oP 92 (.ld 1 false (.t 91)) [89,90,91]),(14,oP 93 (.ia 1 (.t 79) (.t 80)) []),(15,⟨none,.st 1 (.t 93) (.t
88),none,[],[79,80,88,93]⟩),(16,oP 94 (.ia 1 (.t 81) (.t 83)) []),(17,⟨none,.st 1 (.t 94) (.t 92),none,[],[81,83,92,94]⟩)]))) (.reg false [(0,oT 66 9 [9]),(1,oP 67 (.bin .sub (.t 66) (.c (.int .i64 1))) [66]),(2,oT 9 67
[67])])))
abbrev L235_3 : CCode := (.seq (sR [(0,oT 101 10 []),(1,oT 102 2 []),(2,oP 103 (.bin .lss (.t 101) (.t 102)) [101,102])] (.cond (.t 103) (sK [103] .skip) (sK [10,103] (.exit 6)))) (.seq (.block 7 (.seq (.seq (.reg true
[(0,oT 106 0 []),(1,oT 107 10 []),(2,oP 108 (.ia 1 (.t 106) (.t 107)) []),(3,oP 109 (.ld 1 false (.t 108)) [106,107,108]),(4,oT 110 0 []),(5,oT 111 10 []),(6,oP 112 (.bin .sub (.t 111) (.c (.int .i64 1))) [111]),(7,oP
113 (.ia 1 (.t 110) (.t 112)) []),(8,oP 114 (.ld 1 false (.t 113)) [110,112,113]),(9,oP 115 (.call 236 [.t 109,.t 114]) [109,114]),(10,oP 116 (.not (.t 115)) [115])]) (.cond (.t 116) (sK [10,116] (.exit 6)) (sK [116]
.skip))) (.reg true [(0,oT 117 0 []),(1,oT 118 10 []),(2,oT 119 0 []),(3,oT 120 10 []),(4,oP 121 (.bin .sub (.t 120) (.c (.int .i64 1))) [120]),(5,oT 122 0 []),(6,oT 123 10 []),(7,oP 124 (.bin .sub (.t 123) (.c (.int
.i64 1))) [123]),(8,oP 125 (.ia 1 (.t 122) (.t 124)) []),(9,oP 126 (.ld 1 false (.t 125)) [122,124,125]),(10,oT 127 0 []),(11,oT 128 10 []),(12,oP 129 (.ia 1 (.t 127) (.t 128)) []),(13,oP 130 (.ld 1 false (.t 129))
[127,128,129]),(14,oP 131 (.ia 1 (.t 117) (.t 118)) []),(15,⟨none,.st 1 (.t 131) (.t 126),none,[],[117,118,126,131]⟩),(16,oP 132 (.ia 1 (.t 119) (.t 121)) []),(17,⟨none,.st 1 (.t 132) (.t
130),none,[],[119,121,130,132]⟩)]))) (.reg false [(0,oT 104 10 [10]),(1,oP 105 (.bin .add (.t 104) (.c (.int .i64 1))) [104]),(2,oT 10 105 [105])])))
abbrev L235_0 : CCode := (.seq (sR [(0,oT 13 8 []),(1,oP 14 (.bin .lss (.t 13) (.c (.int .i64 5))) [13])] (.cond (.t 14) (sK [14] .skip) (sK [1,2,7,8,14] (.exit 0)))) (.seq (.block 1 (.seq (.block 2 (.loop L235_1))
(.seq (sR [(0,oT 35 7 []),(1,oT 36 2 []),(2,oP 37 (.bin .eql (.t 35) (.t 36)) [35,36])] (.cond (.t 37) (sK [1,2,7,8,37] (sR [(0,oP 6 (.mv (.c (.bool true))) [])] .ret)) (sK [37] .skip))) (.seq (sR [(0,oT 38 2 []),(1,oT
39 1 []),(2,oP 40 (.bin .sub (.t 38) (.t 39)) [38,39]),(3,oP 41 (.bin .lss (.t 40) (.c (.int .i64 50))) [40])] (.cond (.t 41) (sK [1,2,7,8,41] (sR [(0,oP 6 (.mv (.c (.bool false))) [])] .ret)) (sK [41] .skip))) (.seq
(.reg true [(0,oT 42 0 []),(1,oT 43 7 []),(2,oT 44 0 []),(3,oT 45 7 []),(4,oP 46 (.bin .sub (.t 45) (.c (.int .i64 1))) [45]),(5,oT 47 0 []),(6,oT 48 7 []),(7,oP 49 (.bin .sub (.t 48) (.c (.int .i64 1))) [48]),(8,oP 50
(.ia 1 (.t 47) (.t 49)) []),(9,oP 51 (.ld 1 false (.t 50)) [47,49,50]),(10,oT 52 0 []),(11,oT 53 7 []),(12,oP 54 (.ia 1 (.t 52) (.t 53)) []),(13,oP 55 (.ld 1 false (.t 54)) [52,53,54]),(14,oP 56 (.ia 1 (.t 42) (.t 43))
[]),(15,⟨none,.st 1 (.t 56) (.t 51),none,[],[42,43,51,56]⟩),(16,oP 57 (.ia 1 (.t 44) (.t 46)) []),(17,⟨none,.st 1 (.t 57) (.t 55),none,[],[44,46,55,57]⟩)]) (.seq (sR [(0,oT 58 7 []),(1,oT 59 1 []),(2,oP 60 (.bin .sub
(.t 58) (.t 59)) [58,59]),(3,oP 61 (.bin .geq (.t 60) (.c (.int .i64 2))) [60])] (.cond (.t 61) (sK [61] (sR [(0,oT 62 7 []),(1,oP 63 (.bin .sub (.t 62) (.c (.int .i64 1))) [62]),(2,oT 9 63 [63])] (.block 4 (.loop
L235_2)))) (sK [61] .skip))) (sR [(0,oT 95 2 []),(1,oT 96 7 []),(2,oP 97 (.bin .sub (.t 95) (.t 96)) [95,96]),(3,oP 98 (.bin .geq (.t 97) (.c (.int .i64 2))) [97])] (.cond (.t 98) (sK [98] (sR [(0,oT 99 7 []),(1,oP 100
(.bin .add (.t 99) (.c (.int .i64 1))) [99]),(2,oT 10 100 [100])] (.block 6 (.loop L235_3)))) (sK [98] .skip))))))))) (.reg false [(0,oT 15 8 [8]),(1,oP 16 (.bin .add (.t 15) (.c (.int .i64 1))) [15]),(2,oT 8 16
[16])])))
abbrev B235 : CCode := (sR [(0,oP 6 (.mv (.c (.bool false))) [6])] (sR [(0,oT 11 1 []),(1,oP 12 (.bin .add (.t 11) (.c (.int .i64 1))) [11]),(2,oT 7 12 [12])] (.seq (sR [(0,oP 8 (.mv (.c (.int .i64 0))) [])] (.block 0
(.loop L235_0))) (sR [(0,oP 6 (.mv (.c (.bool false))) [])] .ret))))
def C235 : CFn := ⟨133,3,[.t 6],B235⟩
abbrev B236 : CCode := (sR [(0,oP 4 (.mv (.c (.bool false))) [4])] (sR [(0,oT 5 0 []),(1,oP 6 (.call 262 [.t 5]) [5]),(2,oT 7 6 [6]),(3,oG 8 (.mv (.t 1)) 7 true []),(4,oG 9 (.call 262 [.t 8]) 7 true [8]),(5,oG 10 (.not
(.t 9)) 7 true [9]),(6,oP 11 (.pick (.t 7) (.t 10) (.c (.bool false))) [7,10]),(7,oT 12 11 [11]),(8,oG 13 (.mv (.t 0)) 12 false [0]),(9,oG 14 (.mv (.t 1)) 12 false [1]),(10,oG 15 (.bin .lss (.t 13) (.t 14)) 12 false
[13,14]),(11,oP 16 (.pick (.t 12) (.c (.bool true)) (.t 15)) [12,15]),(12,oT 4 16 [16])] .ret))
def C236 : CFn := ⟨17,2,[.t 4],B236⟩
abbrev L237_1 : CCode := (.seq (.seq (.reg true [(0,oT 29 9 []),(1,oT 30 10 []),(2,oP 31 (.bin .leq (.t 29) (.t 30)) [29,30]),(3,oT 32 31 [31]),(4,oG 33 (.mv (.t 0)) 32 true []),(5,oG 34 (.mv (.t 1)) 32 true []),(6,oG
35 (.ia 1 (.t 33) (.t 34)) 32 true []),(7,oG 36 (.ld 1 false (.t 35)) 32 true [33,34,35]),(8,oG 37 (.mv (.t 0)) 32 true []),(9,oG 38 (.mv (.t 9)) 32 true []),(10,oG 39 (.ia 1 (.t 37) (.t 38)) 32 true []),(11,oG 40 (.ld
1 false (.t 39)) 32 true [37,38,39]),(12,oG 41 (.call 236 [.t 36,.t 40]) 32 true [36,40]),(13,oG 42 (.not (.t 41)) 32 true [41]),(14,oP 43 (.pick (.t 32) (.t 42) (.c (.bool false))) [32,42])]) (.cond (.t 43) (sK [43]
.skip) (sK [43] (.exit 2)))) (.block 3 (.reg false [(0,oT 44 9 [9]),(1,oP 45 (.bin .add (.t 44) (.c (.int .i64 1))) [44]),(2,oT 9 45 [45])])))
abbrev L237_2 : CCode := (.seq (.seq (.reg true [(0,oT 46 9 []),(1,oT 47 10 []),(2,oP 48 (.bin .leq (.t 46) (.t 47)) [46,47]),(3,oT 49 48 [48]),(4,oG 50 (.mv (.t 0)) 49 true []),(5,oG 51 (.mv (.t 1)) 49 true []),(6,oG
52 (.ia 1 (.t 50) (.t 51)) 49 true []),(7,oG 53 (.ld 1 false (.t 52)) 49 true [50,51,52]),(8,oG 54 (.mv (.t 0)) 49 true []),(9,oG 55 (.mv (.t 10)) 49 true []),(10,oG 56 (.ia 1 (.t 54) (.t 55)) 49 true []),(11,oG 57 (.ld
1 false (.t 56)) 49 true [54,55,56]),(12,oG 58 (.call 236 [.t 53,.t 57]) 49 true [53,57]),(13,oP 59 (.pick (.t 49) (.t 58) (.c (.bool false))) [49,58])]) (.cond (.t 59) (sK [59] .skip) (sK [59] (.exit 4)))) (.block 5
(.reg false [(0,oT 60 10 [10]),(1,oP 61 (.bin .sub (.t 60) (.c (.int .i64 1))) [60]),(2,oT 10 61 [61])])))
abbrev L237_0 : CCode := (.block 1 (.seq (.block 2 (.loop L237_1)) (.seq (.block 4 (.loop L237_2)) (.seq (sR [(0,oT 62 9 []),(1,oT 63 10 []),(2,oP 64 (.bin .gtr (.t 62) (.t 63)) [62,63])] (.cond (.t 64) (sK [1,10,64]
(.exit 0)) (sK [64] .skip))) (.seq (.reg true [(0,oT 65 0 []),(1,oT 66 9 []),(2,oT 67 0 []),(3,oT 68 10 []),(4,oT 69 0 []),(5,oT 70 10 []),(6,oP 71 (.ia 1 (.t 69) (.t 70)) []),(7,oP 72 (.ld 1 false (.t 71))
[69,70,71]),(8,oT 73 0 []),(9,oT 74 9 []),(10,oP 75 (.ia 1 (.t 73) (.t 74)) []),(11,oP 76 (.ld 1 false (.t 75)) [73,74,75]),(12,oP 77 (.ia 1 (.t 65) (.t 66)) []),(13,⟨none,.st 1 (.t 77) (.t
72),none,[],[65,66,72,77]⟩),(14,oP 78 (.ia 1 (.t 67) (.t 68)) []),(15,⟨none,.st 1 (.t 78) (.t 76),none,[],[67,68,76,78]⟩)]) (sR [(0,oT 79 9 [9]),(1,oP 80 (.bin .add (.t 79) (.c (.int .i64 1))) [79]),(2,oT 9 80 [80])]
(.reg false [(0,oT 81 10 [10]),(1,oP 82 (.bin .sub (.t 81) (.c (.int .i64 1))) [81]),(2,oT 10 82 [82])])))))))
abbrev B237 : CCode := (sR [(0,oP 8 (.mv (.c (.int .i64 0))) [8])] (.seq (.reg true [(0,oT 11 0 []),(1,oT 12 1 []),(2,oT 13 0 []),(3,oT 14 3 []),(4,oT 15 0 []),(5,oT 16 3 [3]),(6,oP 17 (.ia 1 (.t 15) (.t 16)) []),(7,oP
18 (.ld 1 false (.t 17)) [15,16,17]),(8,oT 19 0 []),(9,oT 20 1 []),(10,oP 21 (.ia 1 (.t 19) (.t 20)) []),(11,oP 22 (.ld 1 false (.t 21)) [19,20,21]),(12,oP 23 (.ia 1 (.t 11) (.t 12)) []),(13,⟨none,.st 1 (.t 23) (.t
18),none,[],[11,12,18,23]⟩),(14,oP 24 (.ia 1 (.t 13) (.t 14)) []),(15,⟨none,.st 1 (.t 24) (.t 22),none,[],[13,14,22,24]⟩)]) (sR [(0,oT 25 1 []),(1,oP 26 (.bin .add (.t 25) (.c (.int .i64 1))) [25]),(2,oT 27 2 [2]),(3,oP
28 (.bin .sub (.t 27) (.c (.int .i64 1))) [27]),(4,oT 9 26 [26]),(5,oT 10 28 [28])] (.seq (.block 0 (.loop L237_0)) (sR [(0,oT 83 9 [9]),(1,oT 8 83 [83])] .ret)))))
def C237 : CFn := ⟨84,4,[.t 8],B237⟩
abbrev L238_0 : CCode := (.seq (.seq (.reg true [(0,oT 30 10 []),(1,oT 31 11 []),(2,oP 32 (.bin .leq (.t 30) (.t 31)) [30,31]),(3,oT 33 32 [32]),(4,oG 34 (.mv (.t 0)) 33 true []),(5,oG 35 (.mv (.t 10)) 33 true []),(6,oG
36 (.ia 1 (.t 34) (.t 35)) 33 true []),(7,oG 37 (.ld 1 false (.t 36)) 33 true [34,35,36]),(8,oG 38 (.mv (.t 0)) 33 true []),(9,oG 39 (.mv (.t 1)) 33 true []),(10,oG 40 (.ia 1 (.t 38) (.t 39)) 33 true []),(11,oG 41 (.ld
1 false (.t 40)) 33 true [38,39,40]),(12,oG 42 (.call 236 [.t 37,.t 41]) 33 true [37,41]),(13,oP 43 (.pick (.t 33) (.t 42) (.c (.bool false))) [33,42])]) (.cond (.t 43) (sK [43] .skip) (sK [43] (.exit 0)))) (.block 1
(.reg false [(0,oT 44 10 [10]),(1,oP 45 (.bin .add (.t 44) (.c (.int .i64 1))) [44]),(2,oT 10 45 [45])])))
abbrev L238_1 : CCode := (.seq (.seq (.reg true [(0,oT 46 10 []),(1,oT 47 11 []),(2,oP 48 (.bin .leq (.t 46) (.t 47)) [46,47]),(3,oT 49 48 [48]),(4,oG 50 (.mv (.t 0)) 49 true []),(5,oG 51 (.mv (.t 11)) 49 true []),(6,oG
52 (.ia 1 (.t 50) (.t 51)) 49 true []),(7,oG 53 (.ld 1 false (.t 52)) 49 true [50,51,52]),(8,oG 54 (.mv (.t 0)) 49 true []),(9,oG 55 (.mv (.t 1)) 49 true []),(10,oG 56 (.ia 1 (.t 54) (.t 55)) 49 true []),(11,oG 57 (.ld
1 false (.t 56)) 49 true [54,55,56]),(12,oG 58 (.call 236 [.t 53,.t 57]) 49 true [53,57]),(13,oG 59 (.not (.t 58)) 49 true [58]),(14,oP 60 (.pick (.t 49) (.t 59) (.c (.bool false))) [49,59])]) (.cond (.t 60) (sK [60]
.skip) (sK [60] (.exit 2)))) (.block 3 (.reg false [(0,oT 61 11 [11]),(1,oP 62 (.bin .sub (.t 61) (.c (.int .i64 1))) [61]),(2,oT 11 62 [62])])))
abbrev L238_3 : CCode := (.seq (.seq (.reg true [(0,oT 99 10 []),(1,oT 100 11 []),(2,oP 101 (.bin .leq (.t 99) (.t 100)) [99,100]),(3,oT 102 101 [101]),(4,oG 103 (.mv (.t 0)) 102 true []),(5,oG 104 (.mv (.t 10)) 102
true []),(6,oG 105 (.ia 1 (.t 103) (.t 104)) 102 true []),(7,oG 106 (.ld 1 false (.t 105)) 102 true [103,104,105]),(8,oG 107 (.mv (.t 0)) 102 true []),(9,oG 108 (.mv (.t 1)) 102 true []),(10,oG 109 (.ia 1 (.t 107) (.t
108)) 102 true []),(11,oG 110 (.ld 1 false (.t 109)) 102 true [107,108,109]),(12,oG 111 (.call 236 [.t 106,.t 110]) 102 true [106,110]),(13,oP 112 (.pick (.t 102) (.t 111) (.c (.bool false))) [102,111])]) (.cond (.t
112) (sK [112] .skip) (sK [112] (.exit 6)))) (.block 7 (.reg false [(0,oT 113 10 [10]),(1,oP 114 (.bin .add (.t 113) (.c (.int .i64 1))) [113]),(2,oT 10 114 [114])])))
abbrev L238_4 : CCode := (.seq (.seq (.reg true [(0,oT 115 10 []),(1,oT 116 11 []),(2,oP 117 (.bin .leq (.t 115) (.t 116)) [115,116]),(3,oT 118 117 [117]),(4,oG 119 (.mv (.t 0)) 118 true []),(5,oG 120 (.mv (.t 11)) 118
true []),(6,oG 121 (.ia 1 (.t 119) (.t 120)) 118 true []),(7,oG 122 (.ld 1 false (.t 121)) 118 true [119,120,121]),(8,oG 123 (.mv (.t 0)) 118 true []),(9,oG 124 (.mv (.t 1)) 118 true []),(10,oG 125 (.ia 1 (.t 123) (.t
124)) 118 true []),(11,oG 126 (.ld 1 false (.t 125)) 118 true [123,124,125]),(12,oG 127 (.call 236 [.t 122,.t 126]) 118 true [122,126]),(13,oG 128 (.not (.t 127)) 118 true [127]),(14,oP 129 (.pick (.t 118) (.t 128) (.c
(.bool false))) [118,128])]) (.cond (.t 129) (sK [129] .skip) (sK [129] (.exit 8)))) (.block 9 (.reg false [(0,oT 130 11 [11]),(1,oP 131 (.bin .sub (.t 130) (.c (.int .i64 1))) [130]),(2,oT 11 131 [131])])))
abbrev L238_2 : CCode := (.block 5 (.seq (.block 6 (.loop L238_3)) (.seq (.block 8 (.loop L238_4)) (.seq (sR [(0,oT 132 10 []),(1,oT 133 11 []),(2,oP 134 (.bin .gtr (.t 132) (.t 133)) [132,133])] (.cond (.t 134) (sK
[10,134] (.exit 4)) (sK [134] .skip))) (.seq (.reg true [(0,oT 135 0 []),(1,oT 136 10 []),(2,oT 137 0 []),(3,oT 138 11 []),(4,oT 139 0 []),(5,oT 140 11 []),(6,oP 141 (.ia 1 (.t 139) (.t 140)) []),(7,oP 142 (.ld 1 false
(.t 141)) [139,140,141]),(8,oT 143 0 []),(9,oT 144 10 []),(10,oP 145 (.ia 1 (.t 143) (.t 144)) []),(11,oP 146 (.ld 1 false (.t 145)) [143,144,145]),(12,oP 147 (.ia 1 (.t 135) (.t 136)) []),(13,⟨none,.st 1 (.t 147) (.t
142),none,[],[135,136,142,147]⟩),(14,oP 148 (.ia 1 (.t 137) (.t 138)) []),(15,⟨none,.st 1 (.t 148) (.t 146),none,[],[137,138,146,148]⟩)]) (sR [(0,oT 149 10 [10]),(1,oP 150 (.bin .add (.t 149) (.c (.int .i64 1)))
[149]),(2,oT 10 150 [150])] (.reg false [(0,oT 151 11 [11]),(1,oP 152 (.bin .sub (.t 151) (.c (.int .i64 1))) [151]),(2,oT 11 152 [152])])))))))
abbrev B238 : CCode := (sR [(0,oP 8 (.mv (.c (.int .i64 0))) [8]),(1,oP 9 (.mv (.c (.bool false))) [9])] (.seq (.reg true [(0,oT 12 0 []),(1,oT 13 1 []),(2,oT 14 0 []),(3,oT 15 3 []),(4,oT 16 0 []),(5,oT 17 3 [3]),(6,oP
18 (.ia 1 (.t 16) (.t 17)) []),(7,oP 19 (.ld 1 false (.t 18)) [16,17,18]),(8,oT 20 0 []),(9,oT 21 1 []),(10,oP 22 (.ia 1 (.t 20) (.t 21)) []),(11,oP 23 (.ld 1 false (.t 22)) [20,21,22]),(12,oP 24 (.ia 1 (.t 12) (.t 13))
[]),(13,⟨none,.st 1 (.t 24) (.t 19),none,[],[12,13,19,24]⟩),(14,oP 25 (.ia 1 (.t 14) (.t 15)) []),(15,⟨none,.st 1 (.t 25) (.t 23),none,[],[14,15,23,25]⟩)]) (sR [(0,oT 26 1 []),(1,oP 27 (.bin .add (.t 26) (.c (.int .i64
1))) [26]),(2,oT 28 2 [2]),(3,oP 29 (.bin .sub (.t 28) (.c (.int .i64 1))) [28]),(4,oT 10 27 [27]),(5,oT 11 29 [29])] (.seq (.block 0 (.loop L238_0)) (.seq (.block 2 (.loop L238_1)) (.seq (sR [(0,oT 63 10 []),(1,oT 64
11 []),(2,oP 65 (.bin .gtr (.t 63) (.t 64)) [63,64])] (.cond (.t 65) (sK [10,65] (.seq (.reg true [(0,oT 66 0 []),(1,oT 67 11 []),(2,oT 68 0 []),(3,oT 69 1 []),(4,oT 70 0 []),(5,oT 71 1 [1]),(6,oP 72 (.ia 1 (.t 70) (.t
71)) []),(7,oP 73 (.ld 1 false (.t 72)) [70,71,72]),(8,oT 74 0 []),(9,oT 75 11 []),(10,oP 76 (.ia 1 (.t 74) (.t 75)) []),(11,oP 77 (.ld 1 false (.t 76)) [74,75,76]),(12,oP 78 (.ia 1 (.t 66) (.t 67)) []),(13,⟨none,.st 1
(.t 78) (.t 73),none,[],[66,67,73,78]⟩),(14,oP 79 (.ia 1 (.t 68) (.t 69)) []),(15,⟨none,.st 1 (.t 79) (.t 77),none,[],[68,69,77,79]⟩)]) (sR [(0,oT 80 11 [11]),(1,oT 8 80 [80]),(2,oP 9 (.mv (.c (.bool true))) [])]
.ret))) (sK [65] .skip))) (.seq (.reg true [(0,oT 81 0 []),(1,oT 82 10 []),(2,oT 83 0 []),(3,oT 84 11 []),(4,oT 85 0 []),(5,oT 86 11 []),(6,oP 87 (.ia 1 (.t 85) (.t 86)) []),(7,oP 88 (.ld 1 false (.t 87))
[85,86,87]),(8,oT 89 0 []),(9,oT 90 10 []),(10,oP 91 (.ia 1 (.t 89) (.t 90)) []),(11,oP 92 (.ld 1 false (.t 91)) [89,90,91]),(12,oP 93 (.ia 1 (.t 81) (.t 82)) []),(13,⟨none,.st 1 (.t 93) (.t
88),none,[],[81,82,88,93]⟩),(14,oP 94 (.ia 1 (.t 83) (.t 84)) []),(15,⟨none,.st 1 (.t 94) (.t 92),none,[],[83,84,92,94]⟩)]) (sR [(0,oT 95 10 [10]),(1,oP 96 (.bin .add (.t 95) (.c (.int .i64 1))) [95]),(2,oT 10 96 [96])]
(sR [(0,oT 97 11 [11]),(1,oP 98 (.bin .sub (.t 97) (.c (.int .i64 1))) [97]),(2,oT 11 98 [98])] (.seq (.block 4 (.loop L238_2)) (.seq (.reg true [(0,oT 153 0 []),(1,oT 154 11 []),(2,oT 155 0 []),(3,oT 156 1 []),(4,oT
157 0 []),(5,oT 158 1 [1]),(6,oP 159 (.ia 1 (.t 157) (.t 158)) []),(7,oP 160 (.ld 1 false (.t 159)) [157,158,159]),(8,oT 161 0 []),(9,oT 162 11 []),(10,oP 163 (.ia 1 (.t 161) (.t 162)) []),(11,oP 164 (.ld 1 false (.t
163)) [161,162,163]),(12,oP 165 (.ia 1 (.t 153) (.t 154)) []),(13,⟨none,.st 1 (.t 165) (.t 160),none,[],[153,154,160,165]⟩),(14,oP 166 (.ia 1 (.t 155) (.t 156)) []),(15,⟨none,.st 1 (.t 166) (.t
164),none,[],[155,156,164,166]⟩)]) (sR [(0,oT 167 11 [11]),(1,oT 8 167 [167]),(2,oP 9 (.mv (.c (.bool false))) [])] .ret))))))))))))
def C238 : CFn := ⟨168,4,[.t 8,.t 9],B238⟩
abbrev B240 : CCode := (sR [(0,oP 2 (.mv (.c (.int .i64 0))) [])] (.seq (sR [(0,oT 3 0 []),(1,oP 4 (.bin .geq (.t 3) (.c (.int .u64 (4294967296)))) [3])] (.cond (.t 4) (sK [2,4] (sR [(0,oT 5 0 [0]),(1,oP 6 (.bin .shr
(.t 5) (.c (.int .u64 (32)))) [5]),(2,oT 0 6 [6])] (.reg false [(0,oP 2 (.mv (.c (.int .i64 32))) [])]))) (sK [4] .skip))) (.seq (sR [(0,oT 7 0 []),(1,oP 8 (.bin .geq (.t 7) (.c (.int .u64 (65536)))) [7])] (.cond (.t 8)
(sK [8] (sR [(0,oT 9 0 [0]),(1,oP 10 (.bin .shr (.t 9) (.c (.int .u64 (16)))) [9]),(2,oT 0 10 [10])] (.reg false [(0,oT 11 2 [2]),(1,oP 12 (.bin .add (.t 11) (.c (.int .i64 16))) [11]),(2,oT 2 12 [12])]))) (sK [8]
.skip))) (.seq (sR [(0,oT 13 0 []),(1,oP 14 (.bin .geq (.t 13) (.c (.int .u64 (256)))) [13])] (.cond (.t 14) (sK [14] (sR [(0,oT 15 0 [0]),(1,oP 16 (.bin .shr (.t 15) (.c (.int .u64 (8)))) [15]),(2,oT 0 16 [16])] (.reg
false [(0,oT 17 2 [2]),(1,oP 18 (.bin .add (.t 17) (.c (.int .i64 8))) [17]),(2,oT 2 18 [18])]))) (sK [14] .skip))) (sR [(0,oT 19 2 [2]),(1,oT 20 0 [0]),(2,oP 21 (.conv .u8 (.t 20)) [20]),(3,oP 22 (.ix (.c (.str
[0,1,2,2,3,3,3,3,4,4,4,4,4,4,4,4,5,5,5,5,5,5,5,5,5,5,5,5,5,5,5,5,6,6,6,6,6,6,6,6,6,6,6,6,6,6,6,6,6,6,6,6,6,6,6,6,6,6,6,6,6,6,6,6,7,7,7,7,7,7,7,7,7,7,7,7,7,7,7,7,7,7,7,7,7,7,7,7,7,7,7,7,7,7,7,7,7,7,7,7,7,7,7,7,7,7,7,7,7,7,7,7,7,7,7,7,7,7,7,7,7,7,7,7,7,7,7,7,8,8,8,8,8,8,8,8,8,8,8,8,8,8,8,8,8,8,8,8,8,8,8,8,8,8,8,8,8,8,8,8,8,8,8,8,8,8,8,8,8,8,8,8,8,8,8,8,8,8,8,8,8,8,8,8,8,8,8,8,8,8,8,8,8,8,8,8,8,8,8,8,8,8,8,8,8,8,8,8,8,8,8,8,8,8,8,8,8,8,8,8,8,8,8,8,8,8,8,8,8,8,8,8,8,8,8,8,8,8,8,8,8,8,8,8,8,8,8,8,8,8,8,8,8,8,8,8])) (.t 21)) [21]),(4,oP 23 (.conv .i64 (.t 22)) [22]),(5,oP 24 (.bin .add (.t 19) (.t 23)) [19,23]),(6,oT 2 24 [24])] .ret)))))
def C240 : CFn := ⟨25,1,[.t 2],B240⟩
abbrev B241 : CCode := (sR [(0,oP 4 (.box 2 (.t 1)) [1]),(1,oP 5 (.box 2 (.t 2)) [2]),(2,oP 6 (.mv (.c (.bool false))) [6])] (.seq (.reg true [(0,oT 7 0 []),(1,oP 8 (.ld 2 true (.t 4)) []),(2,oP 9 (.call 150 [.t 7,.t
8]) [7,8]),(3,oT 10 9 [9]),(4,oG 11 (.mv (.t 0)) 10 true []),(5,oG 12 (.ld 2 true (.t 5)) 10 true []),(6,oG 13 (.call 150 [.t 11,.t 12]) 10 true [11,12]),(7,oP 14 (.pick (.t 10) (.t 13) (.c (.bool false)))
[10,13]),(8,oT 15 14 [14]),(9,oG 16 (.fa 0 (.t 4)) 15 true []),(10,oG 17 (.ld 1 false (.t 16)) 15 true [16]),(11,oG 18 (.fa 0 (.t 5)) 15 true []),(12,oG 19 (.ld 1 false (.t 18)) 15 true [18]),(13,oG 20 (.bin .eql (.t
17) (.t 19)) 15 true [17,19]),(14,oP 21 (.pick (.t 15) (.t 20) (.c (.bool false))) [15,20]),(15,oT 22 21 [21]),(16,oG 23 (.mv (.t 0)) 22 true []),(17,oG 24 (.ld 2 true (.t 4)) 22 true []),(19,oG 26 (.mv (.t 0)) 22 true
[]),(20,oG 27 (.ld 2 true (.t 5)) 22 true []),(18,⟨some 25,.call 263 [.t 23,.t 24],some (22,true),[(5,2)],[4,23,24]⟩),(21,oG 28 (.call 263 [.t 26,.t 27]) 22 true [5,26,27]),(22,oG 29 (.call 207 [.t 25,.t 28]) 22 true
[25,28]),(23,oG 30 (.bin .eql (.t 29) (.c (.int .i64 0))) 22 true [29]),(24,oP 31 (.pick (.t 22) (.t 30) (.c (.bool false))) [22,30]),(25,oT 6 31 [31])]) .ret))
def C241 : CFn := ⟨32,3,[.t 6],B241⟩
abbrev B242 : CCode := (sR [(0,oP 1 (.box 2 (.t 0)) [0]),(1,oP 2 (.mv (.c (.bool false))) [2])] (.seq (.reg true [(0,oP 3 (.ld 2 true (.t 1)) []),(1,oP 4 (.call 73 [.t 3]) [3]),(2,oT 5 4 [4]),(3,oG 6 (.ld 2 true (.t 1))
5 true []),(6,oG 9 (.fa 1 (.t 1)) 5 true []),(7,oG 10 (.ld 1 false (.t 9)) 5 true []),(8,oG 11 (.len (.t 10)) 5 true [10]),(4,⟨some 7,.call 141 [.t 6],some (5,true),[(9,1)],[1,6,9]⟩),(5,oG 8 (.len (.t 7)) 5 true
[7]),(9,oG 12 (.bin .eql (.t 8) (.t 11)) 5 true [8,11]),(10,oP 13 (.pick (.t 5) (.t 12) (.c (.bool false))) [5,12]),(11,oT 2 13 [13])]) .ret))
def C242 : CFn := ⟨14,1,[.t 2],B242⟩
abbrev B243 : CCode := (sR [(0,oP 2 (.box 2 (.t 0)) [0]),(1,oP 3 (.box 1 (.t 1)) [1]),(2,oP 4 (.mv (.c (.nils))) [4])] (sR [(0,oP 7 (.bsl 1 0 [.nils] []) []),(1,oP 5 (.al [.nils]) []),(2,⟨none,.st 1 (.t 5) (.t
7),none,[],[7]⟩)] (sR [(0,oP 6 (.al [.nilf]) [])] (sR [(0,oP 8 (.fn 264 [.t 3,.t 5,.t 2,.t 6]) []),(1,⟨none,.st 1 (.t 6) (.t 8),none,[],[8]⟩)] (sR [(0,oP 9 (.ld 1 false (.t 6)) []),(1,oP 10 (.callv (.t 9) [(.c
(.nils)),(.c (.int .i64 0))]) [2,3,6,9,10])] (sR [(0,oP 11 (.ld 1 false (.t 5)) []),(1,oT 4 11 [11])] .ret))))))
def C243 : CFn := ⟨12,2,[.t 4],B243⟩
abbrev B244 : CCode := (sR [(0,oP 4 (.mv (.c (.nils))) [4])] (sR [(0,oT 5 0 [0]),(1,oT 6 1 [1]),(2,oP 7 (.bsl 1 1 [.int .i64 (0)] [(0,1,(.t 6))]) [6]),(3,oP 8 (.call 104 [.t 5,.t 7]) [5,7]),(4,oT 4 8 [8])] .ret))
def C244 : CFn := ⟨9,2,[.t 4],B244⟩
abbrev B245 : CCode := (sR [(0,oP 2 (.mv (.c (.bool false))) [2])] (sR [(0,oT 3 0 [0]),(1,oP 4 (.call 122 [.t 3,(.c (.int .i64 0)),(.c (.int .i64 9))]) [3]),(2,oP 5 (.not (.t 4)) [4]),(3,oT 2 5 [5])] .ret))
def C245 : CFn := ⟨6,1,[.t 2],B245⟩
abbrev B246 : CCode := (sR [(0,oP 4 (.mv (.c (.int .i64 0))) [4])] (sR [(0,oT 7 0 []),(1,oP 8 (.call 262 [.t 7]) [7]),(2,oT 5 8 [8])] (sR [(0,oT 9 1 []),(1,oP 10 (.call 262 [.t 9]) [9]),(2,oT 6 10 [10])] (.seq (sR
[(0,oT 11 5 [5])] (.cond (.t 11) (sK [0,1,11] (.seq (sR [(0,oT 12 6 [6])] (.cond (.t 12) (sK [12] (sR [(0,oP 4 (.mv (.c (.int .i64 0))) [])] .ret)) (sK [12] .skip))) (sR [(0,oP 4 (.mv (.c (.int .i64 (-1)))) [])] .ret)))
(sK [11] .skip))) (.seq (sR [(0,oT 13 6 [6])] (.cond (.t 13) (sK [0,1,13] (sR [(0,oP 4 (.mv (.c (.int .i64 1))) [])] .ret)) (sK [13] .skip))) (.seq (sR [(0,oT 14 0 []),(1,oT 15 1 []),(2,oP 16 (.bin .lss (.t 14) (.t 15))
[14,15])] (.cond (.t 16) (sK [0,1,16] (sR [(0,oP 4 (.mv (.c (.int .i64 (-1)))) [])] .ret)) (sK [16] .skip))) (.seq (sR [(0,oT 17 0 [0]),(1,oT 18 1 [1]),(2,oP 19 (.bin .gtr (.t 17) (.t 18)) [17,18])] (.cond (.t 19) (sK
[19] (sR [(0,oP 4 (.mv (.c (.int .i64 1))) [])] .ret)) (sK [19] .skip))) (sR [(0,oP 4 (.mv (.c (.int .i64 0))) [])] .ret))))))))
def C246 : CFn := ⟨20,2,[.t 4],B246⟩
abbrev B248 : CCode := (sR [(0,oP 4 (.mv (.c (.int .u64 (0)))) [4]),(1,oP 5 (.mv (.c (.int .u64 (0)))) [5])] (sR [(0,oT 14 0 []),(1,oP 15 (.bin .and (.t 14) (.c (.int .u64 (4294967295)))) [14]),(2,oT 6 15 [15])] (sR
[(0,oT 16 0 []),(1,oP 17 (.bin .shr (.t 16) (.c (.int .u64 (32)))) [16]),(2,oT 7 17 [17])] (sR [(0,oT 18 1 []),(1,oP 19 (.bin .and (.t 18) (.c (.int .u64 (4294967295)))) [18]),(2,oT 8 19 [19])] (sR [(0,oT 20 1 []),(1,oP
21 (.bin .shr (.t 20) (.c (.int .u64 (32)))) [20]),(2,oT 9 21 [21])] (sR [(0,oT 22 6 []),(1,oT 23 8 []),(2,oP 24 (.bin .mul (.t 22) (.t 23)) [22,23]),(3,oT 10 24 [24])] (sR [(0,oT 25 7 []),(1,oT 26 8 [8]),(2,oP 27 (.bin
.mul (.t 25) (.t 26)) [25,26]),(3,oT 28 10 [10]),(4,oP 29 (.bin .shr (.t 28) (.c (.int .u64 (32)))) [28]),(5,oP 30 (.bin .add (.t 27) (.t 29)) [27,29]),(6,oT 11 30 [30])] (sR [(0,oT 31 11 []),(1,oP 32 (.bin .and (.t 31)
(.c (.int .u64 (4294967295)))) [31]),(2,oT 12 32 [32])] (sR [(0,oT 33 11 [11]),(1,oP 34 (.bin .shr (.t 33) (.c (.int .u64 (32)))) [33]),(2,oT 13 34 [34])] (sR [(0,oT 35 12 [12]),(1,oT 36 6 [6]),(2,oT 37 9 []),(3,oP 38
(.bin .mul (.t 36) (.t 37)) [36,37]),(4,oP 39 (.bin .add (.t 35) (.t 38)) [35,38]),(5,oT 12 39 [39])] (sR [(0,oT 40 7 [7]),(1,oT 41 9 [9]),(2,oP 42 (.bin .mul (.t 40) (.t 41)) [40,41]),(3,oT 43 13 [13]),(4,oP 44 (.bin
.add (.t 42) (.t 43)) [42,43]),(5,oT 45 12 [12]),(6,oP 46 (.bin .shr (.t 45) (.c (.int .u64 (32)))) [45]),(7,oP 47 (.bin .add (.t 44) (.t 46)) [44,46]),(8,oT 4 47 [47])] (sR [(0,oT 48 0 [0]),(1,oT 49 1 [1]),(2,oP 50
(.bin .mul (.t 48) (.t 49)) [48,49]),(3,oT 5 50 [50])] .ret))))))))))))
def C248 : CFn := ⟨51,2,[.t 4,.t 5],B248⟩
abbrev L257_0 : CCode := (.block 1 (sR [(0,oT 11 8 []),(1,oP 12 (.bin .mul (.c (.int .i64 2)) (.t 11)) [11]),(2,oP 13 (.bin .add (.t 12) (.c (.int .i64 1))) [12]),(3,oT 9 13 [13])] (.seq (sR [(0,oT 14 9 []),(1,oT 15 2
[]),(2,oP 16 (.bin .geq (.t 14) (.t 15)) [14,15])] (.cond (.t 16) (sK [2,3,8,9,16] (.exit 0)) (sK [16] .skip))) (.seq (.seq (.reg true [(0,oT 17 9 []),(1,oP 18 (.bin .add (.t 17) (.c (.int .i64 1))) [17]),(2,oT 19 2
[]),(3,oP 20 (.bin .lss (.t 18) (.t 19)) [18,19]),(4,oT 21 20 [20]),(5,oG 22 (.mv (.t 0)) 21 true []),(6,oG 23 (.mv (.t 3)) 21 true []),(7,oG 24 (.mv (.t 9)) 21 true []),(8,oG 25 (.bin .add (.t 23) (.t 24)) 21 true
[23,24]),(9,oG 26 (.ia 1 (.t 22) (.t 25)) 21 true []),(10,oG 27 (.ld 1 false (.t 26)) 21 true [22,25,26]),(11,oG 28 (.mv (.t 0)) 21 true []),(12,oG 29 (.mv (.t 3)) 21 true []),(13,oG 30 (.mv (.t 9)) 21 true []),(14,oG
31 (.bin .add (.t 29) (.t 30)) 21 true [29,30]),(15,oG 32 (.bin .add (.t 31) (.c (.int .i64 1))) 21 true [31]),(16,oG 33 (.ia 1 (.t 28) (.t 32)) 21 true []),(17,oG 34 (.ld 1 false (.t 33)) 21 true [28,32,33]),(18,oG 35
(.call 236 [.t 27,.t 34]) 21 true [27,34]),(19,oP 36 (.pick (.t 21) (.t 35) (.c (.bool false))) [21,35])]) (.cond (.t 36) (sK [36] (.reg false [(0,oT 37 9 [9]),(1,oP 38 (.bin .add (.t 37) (.c (.int .i64 1))) [37]),(2,oT
9 38 [38])])) (sK [36] .skip))) (.seq (.seq (.reg true [(0,oT 39 0 []),(1,oT 40 3 []),(2,oT 41 8 []),(3,oP 42 (.bin .add (.t 40) (.t 41)) [40,41]),(4,oP 43 (.ia 1 (.t 39) (.t 42)) []),(5,oP 44 (.ld 1 false (.t 43))
[39,42,43]),(6,oT 45 0 []),(7,oT 46 3 []),(8,oT 47 9 []),(9,oP 48 (.bin .add (.t 46) (.t 47)) [46,47]),(10,oP 49 (.ia 1 (.t 45) (.t 48)) []),(11,oP 50 (.ld 1 false (.t 49)) [45,48,49]),(12,oP 51 (.call 236 [.t 44,.t
50]) [44,50]),(13,oP 52 (.not (.t 51)) [51])]) (.cond (.t 52) (sK [2,3,8,9,52] .ret) (sK [52] .skip))) (.seq (.reg true [(0,oT 53 0 []),(1,oT 54 3 []),(2,oT 55 8 []),(3,oP 56 (.bin .add (.t 54) (.t 55)) [54,55]),(4,oT
57 0 []),(5,oT 58 3 []),(6,oT 59 9 []),(7,oP 60 (.bin .add (.t 58) (.t 59)) [58,59]),(8,oT 61 0 []),(9,oT 62 3 []),(10,oT 63 9 []),(11,oP 64 (.bin .add (.t 62) (.t 63)) [62,63]),(12,oP 65 (.ia 1 (.t 61) (.t 64))
[]),(13,oP 66 (.ld 1 false (.t 65)) [61,64,65]),(14,oT 67 0 []),(15,oT 68 3 []),(16,oT 69 8 [8]),(17,oP 70 (.bin .add (.t 68) (.t 69)) [68,69]),(18,oP 71 (.ia 1 (.t 67) (.t 70)) []),(19,oP 72 (.ld 1 false (.t 71))
[67,70,71]),(20,oP 73 (.ia 1 (.t 53) (.t 56)) []),(21,⟨none,.st 1 (.t 73) (.t 66),none,[],[53,56,66,73]⟩),(22,oP 74 (.ia 1 (.t 57) (.t 60)) []),(23,⟨none,.st 1 (.t 74) (.t 72),none,[],[57,60,72,74]⟩)]) (.reg false
[(0,oT 75 9 [9]),(1,oT 8 75 [75])])))))))
abbrev B257 : CCode := (sR [(0,oT 10 1 [1]),(1,oT 8 10 [10])] (.block 0 (.loop L257_0)))
def C257 : CFn := ⟨76,4,[],B257⟩
abbrev B258 : CCode := (sR [(0,oP 2 (.mv (.c (.int .u64 (0)))) [2])] (sR [(0,oT 3 0 [0]),(1,oP 4 (.conv .u64 (.t 3)) [3]),(2,oP 5 (.call 197 [.t 4]) [4]),(3,oP 6 (.bin .shl (.c (.int .u64 (1))) (.t 5)) [5]),(4,oT 2 6
[6])] .ret))
def C258 : CFn := ⟨7,1,[.t 2],B258⟩
abbrev B259 : CCode := (sR [(0,oP 2 (.mv (.c (.int .u64 (0)))) [2])] (.seq (.reg true [(0,oT 3 0 []),(1,oP 4 (.nc (.t 3)) []),(2,oP 5 (.ld 1 false (.t 4)) [4]),(3,oT 6 0 []),(4,oP 7 (.nc (.t 6)) []),(5,oP 8 (.ld 1 false
(.t 7)) [6,7]),(6,oP 9 (.bin .shl (.t 8) (.c (.int .u64 (13)))) [8]),(7,oP 10 (.bin .xor (.t 5) (.t 9)) [5,9]),(8,oP 11 (.nc (.t 3)) []),(9,⟨none,.st 1 (.t 11) (.t 10),none,[],[3,10,11]⟩)]) (.seq (.reg true [(0,oT 12 0
[]),(1,oP 13 (.nc (.t 12)) []),(2,oP 14 (.ld 1 false (.t 13)) [13]),(3,oT 15 0 []),(4,oP 16 (.nc (.t 15)) []),(5,oP 17 (.ld 1 false (.t 16)) [15,16]),(6,oP 18 (.bin .shr (.t 17) (.c (.int .u64 (7)))) [17]),(7,oP 19
(.bin .xor (.t 14) (.t 18)) [14,18]),(8,oP 20 (.nc (.t 12)) []),(9,⟨none,.st 1 (.t 20) (.t 19),none,[],[12,19,20]⟩)]) (.seq (.reg true [(0,oT 21 0 []),(1,oP 22 (.nc (.t 21)) []),(2,oP 23 (.ld 1 false (.t 22))
[22]),(3,oT 24 0 []),(4,oP 25 (.nc (.t 24)) []),(5,oP 26 (.ld 1 false (.t 25)) [24,25]),(6,oP 27 (.bin .shl (.t 26) (.c (.int .u64 (17)))) [26]),(7,oP 28 (.bin .xor (.t 23) (.t 27)) [23,27]),(8,oP 29 (.nc (.t 21))
[]),(9,⟨none,.st 1 (.t 29) (.t 28),none,[],[21,28,29]⟩)]) (sR [(0,oT 30 0 []),(1,oP 31 (.nc (.t 30)) []),(2,oP 32 (.ld 1 false (.t 31)) [30,31]),(3,oT 2 32 [32])] .ret)))))
def C259 : CFn := ⟨33,1,[.t 2],B259⟩
abbrev B260 : CCode := (sR [(0,oP 6 (.mv (.c (.int .i64 0))) [6])] (sR [(0,oT 7 0 [0]),(1,oT 8 1 []),(2,oP 9 (.bin .sub (.t 8) (.c (.int .i64 1))) [8]),(3,oT 10 1 []),(4,oT 11 1 [1]),(5,oP 12 (.bin .add (.t 11) (.c
(.int .i64 1))) [11]),(6,oT 13 2 []),(7,oP 14 (.call 261 [.t 7,.t 9,.t 10,.t 12,.t 13]) [7,9,10,12,13]),(8,oT 6 14 [14])] .ret))
def C260 : CFn := ⟨15,3,[.t 6],B260⟩
abbrev B261 : CCode := (sR [(0,oP 10 (.mv (.c (.int .i64 0))) [10])] (sR [(0,oT 12 0 []),(1,oT 13 1 [1]),(2,oT 14 2 [2]),(3,oT 15 4 []),(4,oP 16 (.call 271 [.t 12,.t 13,.t 14,.t 15]) [12,13,14,15]),(5,oT 11 16
[16]),(6,oP 17 (.ex (.t 11) 0) []),(7,oP 18 (.ex (.t 11) 1) [11]),(8,oT 1 17 [17]),(9,oT 2 18 [18])] (sR [(0,oT 20 0 []),(1,oT 21 2 [2]),(2,oT 22 3 [3]),(3,oT 23 4 []),(4,oP 24 (.call 271 [.t 20,.t 21,.t 22,.t 23])
[20,21,22,23]),(5,oT 19 24 [24]),(6,oP 25 (.ex (.t 19) 0) []),(7,oP 26 (.ex (.t 19) 1) [19]),(8,oT 2 25 [25]),(9,oT 3 26 [3,26])] (sR [(0,oT 28 0 [0]),(1,oT 29 1 [1]),(2,oT 30 2 [2]),(3,oT 31 4 []),(4,oP 32 (.call 271
[.t 28,.t 29,.t 30,.t 31]) [28,29,30,31]),(5,oT 27 32 [32]),(6,oP 33 (.ex (.t 27) 0) []),(7,oP 34 (.ex (.t 27) 1) [27]),(8,oT 1 33 [1,33]),(9,oT 2 34 [34])] (sR [(0,oT 35 2 [2]),(1,oT 10 35 [35])] .ret)))))
def C261 : CFn := ⟨36,5,[.t 10],B261⟩
abbrev B262 : CCode := (sR [(0,oP 2 (.mv (.c (.bool false))) [2])] (sR [(0,oT 3 0 []),(1,oT 4 0 [0]),(2,oP 5 (.bin .neq (.t 3) (.t 4)) [3,4]),(3,oT 2 5 [5])] .ret))
def C262 : CFn := ⟨6,1,[.t 2],B262⟩
abbrev B263 : CCode := (sR [(0,oP 3 (.box 2 (.t 1)) [1]),(1,oP 4 (.mv (.c (.nils))) [4])] (.seq (sR [(0,oT 5 0 []),(1,oP 6 (.ld 2 true (.t 3)) []),(2,oP 7 (.call 150 [.t 5,.t 6]) [5,6]),(3,oP 8 (.not (.t 7)) [7])]
(.cond (.t 8) (sK [0,3,8] (sR [(0,oP 9 (.bsl 1 0 [.int .i64 (0)] []) []),(1,oT 4 9 [9])] .ret)) (sK [8] .skip))) (.seq (.reg true [(0,oP 10 (.bsl 1 0 [.int .i64 (0)] []) []),(1,oP 11 (.fa 1 (.t 3)) []),(2,oP 12 (.ld 1
false (.t 11)) [11]),(3,oT 13 0 [0]),(4,oP 14 (.fa 0 (.t 3)) []),(5,oP 15 (.ld 1 false (.t 14)) [14]),(6,oP 16 (.ia 3 (.t 13) (.t 15)) []),(7,oP 17 (.fa 2 (.t 16)) [16]),(8,oP 18 (.ld 1 false (.t 17)) [13,15,17]),(9,oP
19 (.sls 1 (.t 12) none (some (.t 18)) none) [3,12,18]),(10,oP 20 (.app 1 8 (.t 10) (.t 19)) [10,19]),(11,oT 4 20 [20])]) .ret)))
def C263 : CFn := ⟨21,2,[.t 4],B263⟩
abbrev L264_0 : CCode := (.seq (sR [(0,oP 20 (.ld 1 false (.t 8)) []),(1,oP 21 (.fa 1 (.t 4)) []),(2,oP 22 (.ld 1 false (.t 21)) [21]),(3,oP 23 (.len (.t 22)) [22]),(4,oP 24 (.bin .lss (.t 20) (.t 23)) [20,23])] (.cond
(.t 24) (sK [24] .skip) (sK [0,2,4,5,8,24] (.exit 0)))) (.seq (.block 1 (sR [(0,oT 27 0 []),(1,oP 28 (.fn 265 [.t 4,.t 8]) []),(2,oP 29 (.call 159 [.t 27,.t 28]) [27,28]),(3,oP 30 (.not (.t 29)) [29])] (.cond (.t 30)
(sK [30] (.reg true [(0,oP 31 (.ld 1 false (.t 5)) []),(1,oT 32 0 []),(3,oP 34 (.ld 1 false (.t 8)) []),(4,oP 35 (.bsl 1 1 [.int .i64 (0)] [(0,1,(.t 34))]) [34]),(6,oP 37 (.ld 1 false (.t 8)) []),(7,oP 38 (.bin .add (.t
37) (.c (.int .i64 1))) [37]),(2,⟨some 33,.call 135 [.t 32],none,[(5,1),(8,1),(8,1)],[32]⟩),(5,⟨some 36,.app 1 8 (.t 33) (.t 35),none,[(5,1),(8,1)],[33,35]⟩),(8,oP 39 (.callv (.t 31) [.t 36,.t 38]) [31,36,38,39])])) (sK
[30] .skip)))) (.seq (sR [(0,oP 40 (.ld 1 false (.t 8)) [8])] (.reg false [(0,oP 8 (.al [.int .i64 (0)]) []),(1,⟨none,.st 1 (.t 8) (.t 40),none,[],[40]⟩)])) (.reg false [(0,oP 25 (.ld 1 false (.t 8)) []),(1,oP 26 (.bin
.add (.t 25) (.c (.int .i64 1))) [25]),(2,⟨none,.st 1 (.t 8) (.t 26),none,[],[26]⟩)]))))
abbrev B264 : CCode := (.seq (sR [(0,oT 9 0 []),(1,oP 10 (.len (.t 9)) [9]),(2,oP 11 (.ld 1 false (.t 2)) []),(3,oP 12 (.bin .eql (.t 10) (.t 11)) [10,11])] (.cond (.t 12) (sK [1,2,4,5,12] (.seq (.reg true [(0,oP 13
(.ld 1 false (.t 3)) []),(1,oP 14 (.bsl 1 0 [.int .i64 (0)] []) []),(2,oT 15 0 [0]),(3,⟨some 16,.app 1 8 (.t 14) (.t 15),none,[(3,1)],[14,15]⟩),(4,oP 17 (.bsl 1 1 [.nils] [(0,1,(.t 16))]) [16]),(5,oP 18 (.app 1 24 (.t
13) (.t 17)) [13,17]),(6,⟨none,.st 1 (.t 3) (.t 18),none,[],[18]⟩)]) .ret)) (sK [12] .skip))) (sR [(0,oT 19 1 [1]),(1,oP 8 (.al [.int .i64 (0)]) []),(2,⟨none,.st 1 (.t 8) (.t 19),none,[],[19]⟩)] (.block 0 (.loop
L264_0))))
def C264 : CFn := ⟨41,6,[],B264⟩
abbrev B265 : CCode := (sR [(0,oP 4 (.mv (.c (.bool false))) [4])] (.seq (.reg true [(0,oP 5 (.fa 0 (.t 1)) []),(1,oP 6 (.ld 1 false (.t 5)) [5]),(2,oP 7 (.fa 1 (.t 1)) []),(3,oP 8 (.ld 1 false (.t 7)) [7]),(4,oT 9 0
[0]),(5,oP 10 (.ia 2 (.t 8) (.t 9)) [8]),(6,oP 11 (.ld 2 true (.t 10)) [10]),(7,oP 12 (.fa 1 (.t 1)) []),(8,oP 13 (.ld 1 false (.t 12)) [12]),(9,oP 14 (.ld 1 false (.t 2)) [2]),(10,oP 15 (.ia 2 (.t 13) (.t 14))
[13]),(11,oP 16 (.ld 2 true (.t 15)) [15]),(12,oP 17 (.call 162 [.t 6,.t 11,.t 16]) [1,6,9,11,14,16]),(13,oT 4 17 [17])]) .ret))
def C265 : CFn := ⟨18,3,[.t 4],B265⟩
abbrev B271 : CCode := (sR [(0,oP 8 (.mv (.c (.int .i64 0))) [8]),(1,oP 9 (.mv (.c (.int .i64 0))) [9])] (.seq (.seq (.reg true [(0,oT 10 0 []),(1,oT 11 2 []),(2,oP 12 (.ia 1 (.t 10) (.t 11)) []),(3,oP 13 (.ld 1 false
(.t 12)) [10,11,12]),(4,oT 14 0 [0]),(5,oT 15 1 []),(6,oP 16 (.ia 1 (.t 14) (.t 15)) []),(7,oP 17 (.ld 1 false (.t 16)) [14,15,16]),(8,oP 18 (.call 236 [.t 13,.t 17]) [13,17])]) (.cond (.t 18) (sK [18] (sR [(0,oT 19 3
[]),(1,oP 20 (.nc (.t 19)) []),(2,oP 21 (.ld 1 false (.t 20)) [20]),(3,oP 22 (.bin .add (.t 21) (.c (.int .i64 1))) [21]),(4,oP 23 (.nc (.t 19)) []),(5,⟨none,.st 1 (.t 23) (.t 22),none,[],[19,22,23]⟩)] (sR [(0,oT 24 2
[2]),(1,oT 25 1 [1]),(2,oT 8 24 [24]),(3,oT 9 25 [25])] .ret))) (sK [18] .skip))) (sR [(0,oT 26 1 [1]),(1,oT 27 2 [2]),(2,oT 8 26 [26]),(3,oT 9 27 [27])] .ret)))
def C271 : CFn := ⟨28,4,[.t 8,.t 9],B271⟩
theorem chk10 : chkFn Go.Proofs.Tryz.prog 10 C10 = true := by kernel_rfl
theorem chk11 : chkFn Go.Proofs.Tryz.prog 11 C11 = true := by kernel_rfl
theorem chk14 : chkFn Go.Proofs.Tryz.prog 14 C14 = true := by kernel_rfl
theorem chk16 : chkFn Go.Proofs.Tryz.prog 16 C16 = true := by kernel_rfl
theorem chk18 : chkFn Go.Proofs.Tryz.prog 18 C18 = true := by kernel_rfl
theorem chk20 : chkFn Go.Proofs.Tryz.prog 20 C20 = true := by kernel_rfl
theorem chk21 : chkFn Go.Proofs.Tryz.prog 21 C21 = true := by kernel_rfl
theorem chk23 : chkFn Go.Proofs.Tryz.prog 23 C23 = true := by kernel_rfl
theorem chk25 : chkFn Go.Proofs.Tryz.prog 25 C25 = true := by kernel_rfl
theorem chk26 : chkFn Go.Proofs.Tryz.prog 26 C26 = true := by kernel_rfl
theorem chk28 : chkFn Go.Proofs.Tryz.prog 28 C28 = true := by kernel_rfl
theorem chk30 : chkFn Go.Proofs.Tryz.prog 30 C30 = true := by kernel_rfl
theorem chk48 : chkFn Go.Proofs.Tryz.prog 48 C48 = true := by kernel_rfl
theorem chk60 : chkFn Go.Proofs.Tryz.prog 60 C60 = true := by kernel_rfl
theorem chk61 : chkFn Go.Proofs.Tryz.prog 61 C61 = true := by kernel_rfl
theorem chk62 : chkFn Go.Proofs.Tryz.prog 62 C62 = true := by kernel_rfl
theorem chk63 : chkFn Go.Proofs.Tryz.prog 63 C63 = true := by kernel_rfl
theorem chk69 : chkFn Go.Proofs.Tryz.prog 69 C69 = true := by kernel_rfl
theorem chk70 : chkFn Go.Proofs.Tryz.prog 70 C70 = true := by kernel_rfl
theorem chk71 : chkFn Go.Proofs.Tryz.prog 71 C71 = true := by kernel_rfl
theorem chk73 : chkFn Go.Proofs.Tryz.prog 73 C73 = true := by kernel_rfl
theorem chk75 : chkFn Go.Proofs.Tryz.prog 75 C75 = true := by kernel_rfl
theorem chk77 : chkFn Go.Proofs.Tryz.prog 77 C77 = true := by kernel_rfl
theorem chk79 : chkFn Go.Proofs.Tryz.prog 79 C79 = true := by kernel_rfl
theorem chk81 : chkFn Go.Proofs.Tryz.prog 81 C81 = true := by kernel_rfl
theorem chk83 : chkFn Go.Proofs.Tryz.prog 83 C83 = true := by kernel_rfl
theorem chk84 : chkFn Go.Proofs.Tryz.prog 84 C84 = true := by kernel_rfl
theorem chk86 : chkFn Go.Proofs.Tryz.prog 86 C86 = true := by kernel_rfl
theorem chk87 : chkFn Go.Proofs.Tryz.prog 87 C87 = true := by kernel_rfl
theorem chk88 : chkFn Go.Proofs.Tryz.prog 88 C88 = true := by kernel_rfl
theorem chk89 : chkFn Go.Proofs.Tryz.prog 89 C89 = true := by kernel_rfl
theorem chk90 : chkFn Go.Proofs.Tryz.prog 90 C90 = true := by kernel_rfl
theorem chk91 : chkFn Go.Proofs.Tryz.prog 91 C91 = true := by kernel_rfl
theorem chk92 : chkFn Go.Proofs.Tryz.prog 92 C92 = true := by kernel_rfl
theorem chk95 : chkFn Go.Proofs.Tryz.prog 95 C95 = true := by kernel_rfl
theorem chk98 : chkFn Go.Proofs.Tryz.prog 98 C98 = true := by kernel_rfl
theorem chk102 : chkFn Go.Proofs.Tryz.prog 102 C102 = true := by kernel_rfl
theorem chk104 : chkFn Go.Proofs.Tryz.prog 104 C104 = true := by kernel_rfl
theorem chk107 : chkFn Go.Proofs.Tryz.prog 107 C107 = true := by kernel_rfl
theorem chk111 : chkFn Go.Proofs.Tryz.prog 111 C111 = true := by kernel_rfl
theorem chk117 : chkFn Go.Proofs.Tryz.prog 117 C117 = true := by kernel_rfl
theorem chk118 : chkFn Go.Proofs.Tryz.prog 118 C118 = true := by kernel_rfl
theorem chk122 : chkFn Go.Proofs.Tryz.prog 122 C122 = true := by kernel_rfl
theorem chk125 : chkFn Go.Proofs.Tryz.prog 125 C125 = true := by kernel_rfl
theorem chk132 : chkFn Go.Proofs.Tryz.prog 132 C132 = true := by kernel_rfl
theorem chk133 : chkFn Go.Proofs.Tryz.prog 133 C133 = true := by kernel_rfl
theorem chk134 : chkFn Go.Proofs.Tryz.prog 134 C134 = true := by kernel_rfl
theorem chk135 : chkFn Go.Proofs.Tryz.prog 135 C135 = true := by kernel_rfl
theorem chk136 : chkFn Go.Proofs.Tryz.prog 136 C136 = true := by kernel_rfl
theorem chk137 : chkFn Go.Proofs.Tryz.prog 137 C137 = true := by kernel_rfl
theorem chk138 : chkFn Go.Proofs.Tryz.prog 138 C138 = true := by kernel_rfl
theorem chk139 : chkFn Go.Proofs.Tryz.prog 139 C139 = true := by kernel_rfl
theorem chk140 : chkFn Go.Proofs.Tryz.prog 140 C140 = true := by kernel_rfl
theorem chk141 : chkFn Go.Proofs.Tryz.prog 141 C141 = true := by kernel_rfl
theorem chk142 : chkFn Go.Proofs.Tryz.prog 142 C142 = true := by kernel_rfl
theorem chk144 : chkFn Go.Proofs.Tryz.prog 144 C144 = true := by kernel_rfl
theorem chk145 : chkFn Go.Proofs.Tryz.prog 145 C145 = true := by kernel_rfl
theorem chk146 : chkFn Go.Proofs.Tryz.prog 146 C146 = true := by kernel_rfl
theorem chk147 : chkFn Go.Proofs.Tryz.prog 147 C147 = true := by kernel_rfl
theorem chk148 : chkFn Go.Proofs.Tryz.prog 148 C148 = true := by kernel_rfl
theorem chk149 : chkFn Go.Proofs.Tryz.prog 149 C149 = true := by kernel_rfl
theorem chk150 : chkFn Go.Proofs.Tryz.prog 150 C150 = true := by kernel_rfl
theorem chk151 : chkFn Go.Proofs.Tryz.prog 151 C151 = true := by kernel_rfl
theorem chk153 : chkFn Go.Proofs.Tryz.prog 153 C153 = true := by kernel_rfl
theorem chk154 : chkFn Go.Proofs.Tryz.prog 154 C154 = true := by kernel_rfl
theorem chk155 : chkFn Go.Proofs.Tryz.prog 155 C155 = true := by kernel_rfl
theorem chk156 : chkFn Go.Proofs.Tryz.prog 156 C156 = true := by kernel_rfl
theorem chk157 : chkFn Go.Proofs.Tryz.prog 157 C157 = true := by kernel_rfl
theorem chk158 : chkFn Go.Proofs.Tryz.prog 158 C158 = true := by kernel_rfl
theorem chk159 : chkFn Go.Proofs.Tryz.prog 159 C159 = true := by kernel_rfl
theorem chk161 : chkFn Go.Proofs.Tryz.prog 161 C161 = true := by kernel_rfl
theorem chk162 : chkFn Go.Proofs.Tryz.prog 162 C162 = true := by kernel_rfl
theorem chk163 : chkFn Go.Proofs.Tryz.prog 163 C163 = true := by kernel_rfl
theorem chk164 : chkFn Go.Proofs.Tryz.prog 164 C164 = true := by kernel_rfl
theorem chk169 : chkFn Go.Proofs.Tryz.prog 169 C169 = true := by kernel_rfl
theorem chk170 : chkFn Go.Proofs.Tryz.prog 170 C170 = true := by kernel_rfl
theorem chk172 : chkFn Go.Proofs.Tryz.prog 172 C172 = true := by kernel_rfl
theorem chk173 : chkFn Go.Proofs.Tryz.prog 173 C173 = true := by kernel_rfl
theorem chk174 : chkFn Go.Proofs.Tryz.prog 174 C174 = true := by kernel_rfl
theorem chk179 : chkFn Go.Proofs.Tryz.prog 179 C179 = true := by kernel_rfl
theorem chk182 : chkFn Go.Proofs.Tryz.prog 182 C182 = true := by kernel_rfl
theorem chk191 : chkFn Go.Proofs.Tryz.prog 191 C191 = true := by kernel_rfl
theorem chk192 : chkFn Go.Proofs.Tryz.prog 192 C192 = true := by kernel_rfl
theorem chk193 : chkFn Go.Proofs.Tryz.prog 193 C193 = true := by kernel_rfl
theorem chk194 : chkFn Go.Proofs.Tryz.prog 194 C194 = true := by kernel_rfl
theorem chk195 : chkFn Go.Proofs.Tryz.prog 195 C195 = true := by kernel_rfl
theorem chk196 : chkFn Go.Proofs.Tryz.prog 196 C196 = true := by kernel_rfl
theorem chk197 : chkFn Go.Proofs.Tryz.prog 197 C197 = true := by kernel_rfl
theorem chk198 : chkFn Go.Proofs.Tryz.prog 198 C198 = true := by kernel_rfl
theorem chk199 : chkFn Go.Proofs.Tryz.prog 199 C199 = true := by kernel_rfl
theorem chk200 : chkFn Go.Proofs.Tryz.prog 200 C200 = true := by kernel_rfl
theorem chk201 : chkFn Go.Proofs.Tryz.prog 201 C201 = true := by kernel_rfl
theorem chk202 : chkFn Go.Proofs.Tryz.prog 202 C202 = true := by kernel_rfl
theorem chk203 : chkFn Go.Proofs.Tryz.prog 203 C203 = true := by kernel_rfl
theorem chk204 : chkFn Go.Proofs.Tryz.prog 204 C204 = true := by kernel_rfl
theorem chk205 : chkFn Go.Proofs.Tryz.prog 205 C205 = true := by kernel_rfl
theorem chk206 : chkFn Go.Proofs.Tryz.prog 206 C206 = true := by kernel_rfl
theorem chk207 : chkFn Go.Proofs.Tryz.prog 207 C207 = true := by kernel_rfl
theorem chk208 : chkFn Go.Proofs.Tryz.prog 208 C208 = true := by kernel_rfl
theorem chk209 : chkFn Go.Proofs.Tryz.prog 209 C209 = true := by kernel_rfl
theorem chk210 : chkFn Go.Proofs.Tryz.prog 210 C210 = true := by kernel_rfl
theorem chk211 : chkFn Go.Proofs.Tryz.prog 211 C211 = true := by kernel_rfl
theorem chk212 : chkFn Go.Proofs.Tryz.prog 212 C212 = true := by kernel_rfl
theorem chk213 : chkFn Go.Proofs.Tryz.prog 213 C213 = true := by kernel_rfl
theorem chk214 : chkFn Go.Proofs.Tryz.prog 214 C214 = true := by kernel_rfl
theorem chk217 : chkFn Go.Proofs.Tryz.prog 217 C217 = true := by kernel_rfl
theorem chk219 : chkFn Go.Proofs.Tryz.prog 219 C219 = true := by kernel_rfl
theorem chk230 : chkFn Go.Proofs.Tryz.prog 230 C230 = true := by kernel_rfl
theorem chk231 : chkFn Go.Proofs.Tryz.prog 231 C231 = true := by kernel_rfl
theorem chk232 : chkFn Go.Proofs.Tryz.prog 232 C232 = true := by kernel_rfl
theorem chk233 : chkFn Go.Proofs.Tryz.prog 233 C233 = true := by kernel_rfl
theorem chk234 : chkFn Go.Proofs.Tryz.prog 234 C234 = true := by kernel_rfl
theorem chk235 : chkFn Go.Proofs.Tryz.prog 235 C235 = true := by kernel_rfl
theorem chk236 : chkFn Go.Proofs.Tryz.prog 236 C236 = true := by kernel_rfl
theorem chk237 : chkFn Go.Proofs.Tryz.prog 237 C237 = true := by kernel_rfl
theorem chk238 : chkFn Go.Proofs.Tryz.prog 238 C238 = true := by kernel_rfl
theorem chk240 : chkFn Go.Proofs.Tryz.prog 240 C240 = true := by kernel_rfl
theorem chk241 : chkFn Go.Proofs.Tryz.prog 241 C241 = true := by kernel_rfl
theorem chk242 : chkFn Go.Proofs.Tryz.prog 242 C242 = true := by kernel_rfl
theorem chk243 : chkFn Go.Proofs.Tryz.prog 243 C243 = true := by kernel_rfl
theorem chk244 : chkFn Go.Proofs.Tryz.prog 244 C244 = true := by kernel_rfl
theorem chk245 : chkFn Go.Proofs.Tryz.prog 245 C245 = true := by kernel_rfl
theorem chk246 : chkFn Go.Proofs.Tryz.prog 246 C246 = true := by kernel_rfl
theorem chk248 : chkFn Go.Proofs.Tryz.prog 248 C248 = true := by kernel_rfl
theorem chk257 : chkFn Go.Proofs.Tryz.prog 257 C257 = true := by kernel_rfl
theorem chk258 : chkFn Go.Proofs.Tryz.prog 258 C258 = true := by kernel_rfl
theorem chk259 : chkFn Go.Proofs.Tryz.prog 259 C259 = true := by kernel_rfl
theorem chk260 : chkFn Go.Proofs.Tryz.prog 260 C260 = true := by kernel_rfl
theorem chk261 : chkFn Go.Proofs.Tryz.prog 261 C261 = true := by kernel_rfl
theorem chk262 : chkFn Go.Proofs.Tryz.prog 262 C262 = true := by kernel_rfl
theorem chk263 : chkFn Go.Proofs.Tryz.prog 263 C263 = true := by kernel_rfl
theorem chk264 : chkFn Go.Proofs.Tryz.prog 264 C264 = true := by kernel_rfl
theorem chk265 : chkFn Go.Proofs.Tryz.prog 265 C265 = true := by kernel_rfl
theorem chk271 : chkFn Go.Proofs.Tryz.prog 271 C271 = true := by kernel_rfl
def Tab (f : Nat) : Option CFn :=
  match f with
  | 10 => some C10
  | 11 => some C11
  | 14 => some C14
  | 16 => some C16
  | 18 => some C18
  | 20 => some C20
  | 21 => some C21
  | 23 => some C23
  | 25 => some C25
  | 26 => some C26
  | 28 => some C28
  | 30 => some C30
  | 48 => some C48
  | 60 => some C60
  | 61 => some C61
  | 62 => some C62
  | 63 => some C63
  | 69 => some C69
  | 70 => some C70
  | 71 => some C71
  | 73 => some C73
  | 75 => some C75
  | 77 => some C77
  | 79 => some C79
  | 81 => some C81
  | 83 => some C83
  | 84 => some C84
  | 86 => some C86
  | 87 => some C87
  | 88 => some C88
  | 89 => some C89
  | 90 => some C90
  | 91 => some C91
  | 92 => some C92
  | 95 => some C95
  | 98 => some C98
  | 102 => some C102
  | 104 => some C104
  | 107 => some C107
  | 111 => some C111
  | 117 => some C117
  | 118 => some C118
  | 122 => some C122
  | 125 => some C125
  | 132 => some C132
  | 133 => some C133
  | 134 => some C134
  | 135 => some C135
  | 136 => some C136
  | 137 => some C137
  | 138 => some C138
  | 139 => some C139
  | 140 => some C140
  | 141 => some C141
  | 142 => some C142
  | 144 => some C144
  | 145 => some C145
  | 146 => some C146
  | 147 => some C147
  | 148 => some C148
  | 149 => some C149
  | 150 => some C150
  | 151 => some C151
  | 153 => some C153
  | 154 => some C154
  | 155 => some C155
  | 156 => some C156
  | 157 => some C157
  | 158 => some C158
  | 159 => some C159
  | 161 => some C161
  | 162 => some C162
  | 163 => some C163
  | 164 => some C164
  | 169 => some C169
  | 170 => some C170
  | 172 => some C172
  | 173 => some C173
  | 174 => some C174
  | 179 => some C179
  | 182 => some C182
  | 191 => some C191
  | 192 => some C192
  | 193 => some C193
  | 194 => some C194
  | 195 => some C195
  | 196 => some C196
  | 197 => some C197
  | 198 => some C198
  | 199 => some C199
  | 200 => some C200
  | 201 => some C201
  | 202 => some C202
  | 203 => some C203
  | 204 => some C204
  | 205 => some C205
  | 206 => some C206
  | 207 => some C207
  | 208 => some C208
  | 209 => some C209
  | 210 => some C210
  | 211 => some C211
  | 212 => some C212
  | 213 => some C213
  | 214 => some C214
  | 217 => some C217
  | 219 => some C219
  | 230 => some C230
  | 231 => some C231
  | 232 => some C232
  | 233 => some C233
  | 234 => some C234
  | 235 => some C235
  | 236 => some C236
  | 237 => some C237
  | 238 => some C238
  | 240 => some C240
  | 241 => some C241
  | 242 => some C242
  | 243 => some C243
  | 244 => some C244
  | 245 => some C245
  | 246 => some C246
  | 248 => some C248
  | 257 => some C257
  | 258 => some C258
  | 259 => some C259
  | 260 => some C260
  | 261 => some C261
  | 262 => some C262
  | 263 => some C263
  | 264 => some C264
  | 265 => some C265
  | 271 => some C271
  | _ => none
theorem tabOk : TabOk Go.Proofs.Tryz.prog Tab := by
  intro f cf h
  unfold Tab at h
  split at h <;> simp only [Option.some.injEq, reduceCtorEq] at h <;> subst h
  · exact chk10
  · exact chk11
  · exact chk14
  · exact chk16
  · exact chk18
  · exact chk20
  · exact chk21
  · exact chk23
  · exact chk25
  · exact chk26
  · exact chk28
  · exact chk30
  · exact chk48
  · exact chk60
  · exact chk61
  · exact chk62
  · exact chk63
  · exact chk69
  · exact chk70
  · exact chk71
  · exact chk73
  · exact chk75
  · exact chk77
  · exact chk79
  · exact chk81
  · exact chk83
  · exact chk84
  · exact chk86
  · exact chk87
  · exact chk88
  · exact chk89
  · exact chk90
  · exact chk91
  · exact chk92
  · exact chk95
  · exact chk98
  · exact chk102
  · exact chk104
  · exact chk107
  · exact chk111
  · exact chk117
  · exact chk118
  · exact chk122
  · exact chk125
  · exact chk132
  · exact chk133
  · exact chk134
  · exact chk135
  · exact chk136
  · exact chk137
  · exact chk138
  · exact chk139
  · exact chk140
  · exact chk141
  · exact chk142
  · exact chk144
  · exact chk145
  · exact chk146
  · exact chk147
  · exact chk148
  · exact chk149
  · exact chk150
  · exact chk151
  · exact chk153
  · exact chk154
  · exact chk155
  · exact chk156
  · exact chk157
  · exact chk158
  · exact chk159
  · exact chk161
  · exact chk162
  · exact chk163
  · exact chk164
  · exact chk169
  · exact chk170
  · exact chk172
  · exact chk173
  · exact chk174
  · exact chk179
  · exact chk182
  · exact chk191
  · exact chk192
  · exact chk193
  · exact chk194
  · exact chk195
  · exact chk196
  · exact chk197
  · exact chk198
  · exact chk199
  · exact chk200
  · exact chk201
  · exact chk202
  · exact chk203
  · exact chk204
  · exact chk205
  · exact chk206
  · exact chk207
  · exact chk208
  · exact chk209
  · exact chk210
  · exact chk211
  · exact chk212
  · exact chk213
  · exact chk214
  · exact chk217
  · exact chk219
  · exact chk230
  · exact chk231
  · exact chk232
  · exact chk233
  · exact chk234
  · exact chk235
  · exact chk236
  · exact chk237
  · exact chk238
  · exact chk240
  · exact chk241
  · exact chk242
  · exact chk243
  · exact chk244
  · exact chk245
  · exact chk246
  · exact chk248
  · exact chk257
  · exact chk258
  · exact chk259
  · exact chk260
  · exact chk261
  · exact chk262
  · exact chk263
  · exact chk264
  · exact chk265
  · exact chk271

end Go.Proofs.YtcllfkplpdppiaaGreatH
