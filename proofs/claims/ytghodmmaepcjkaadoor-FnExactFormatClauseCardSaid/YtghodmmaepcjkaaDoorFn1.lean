import Derived.Test.YtghodmmaepcjkaaDoorX3
import Derived.Test.YtghodmmaepcjkaaDoorProg
set_option linter.unusedVariables false
set_option maxRecDepth 100000
namespace Go.Proofs.YtghodmmaepcjkaaDoorH
open Go
@[simp] abbrev oP (d : Nat) (p : COp) (k : List Nat) : COper := ⟨some d, p, none, [], k⟩
@[simp] abbrev oT (d a : Nat) (k : List Nat) : COper := ⟨some d, .mv (.t a), none, [], k⟩
@[simp] abbrev oG (d : Nat) (p : COp) (g : Nat) (b : Bool) (k : List Nat) : COper := ⟨some d, p, some (g, b), [], k⟩
abbrev sR (l : List (Nat × COper)) (c : CCode) : CCode := .seq (.reg false l) c
abbrev sK (l : List Nat) (c : CCode) : CCode := .seq (.kill l) c
abbrev B3 : CCode := (sR [(0,oP 2 (.mv (.c (.bool false))) [2])] (.seq (sR [(0,oT 6 0 []),(1,oP 7 (.len (.t 6)) [6]),(2,oP 8 (.bin .gtr (.t 7) (.c (.int .i64 1048576))) [7])] (.cond (.t 8) (sK [0,8] (sR [(0,oP 2 (.mv
(.c (.bool true))) [])] .ret)) (sK [8] .skip))) (sR [(0,oT 9 0 []),(1,oP 10 (.call 7 [.t 9]) [9]),(2,oP 11 (.call 6 [.t 10]) [10]),(3,oT 3 11 [11])] (sR [(0,oT 12 0 []),(1,oP 13 (.call 7 [.t 12]) [12]),(2,oT 4 13 [13])]
(sR [(0,oT 14 4 []),(1,oP 15 (.call 8 [.t 14]) [14]),(2,oT 5 15 [15])] (.seq (sR [(0,oT 16 5 [5]),(1,oT 17 3 [3]),(2,oP 18 (.bin .neq (.t 16) (.t 17)) [16,17])] (.cond (.t 18) (sK [0,4,18] (sR [(0,oP 2 (.mv (.c (.bool
false))) [])] .ret)) (sK [18] .skip))) (.seq (sR [(0,oT 19 4 [4]),(1,oT 20 0 [0]),(2,oP 21 (.call 7 [.t 20]) [20]),(3,oP 22 (.call 9 [.t 19,.t 21]) [19,21]),(4,oP 23 (.not (.t 22)) [22])] (.cond (.t 23) (sK [23] (sR
[(0,oP 2 (.mv (.c (.bool false))) [])] .ret)) (sK [23] .skip))) (sR [(0,oP 2 (.mv (.c (.bool true))) [])] .ret))))))))
def C3 : CFn := ⟨24,1,[.t 2],B3⟩
abbrev L6_0 : CCode := (.seq (sR [(0,oT 5 4 []),(1,oT 6 0 []),(2,oP 7 (.len (.t 6)) [6]),(3,oP 8 (.bin .lss (.t 5) (.t 7)) [5,7])] (.cond (.t 8) (sK [8] .skip) (sK [0,4,8] (.exit 0)))) (.seq (.block 1 (.seq (sR [(0,oT
11 4 []),(1,oP 12 (.bin .gtr (.t 11) (.c (.int .i64 0))) [11])] (.cond (.t 12) (sK [12] (.reg false [(0,oT 13 3 [3]),(1,oP 14 (.bin .add (.t 13) (.c (.str [32]))) [13]),(2,oT 3 14 [14])])) (sK [12] .skip))) (.reg false
[(0,oT 15 3 [3]),(1,oT 16 0 []),(2,oT 17 4 []),(3,oP 18 (.ia 1 (.t 16) (.t 17)) []),(4,oP 19 (.ld 1 false (.t 18)) [16,17,18]),(5,oP 20 (.call 22 [.t 19]) [19]),(6,oP 21 (.bin .add (.t 15) (.t 20)) [15,20]),(7,oT 3 21
[21])]))) (.reg false [(0,oT 9 4 [4]),(1,oP 10 (.bin .add (.t 9) (.c (.int .i64 1))) [9]),(2,oT 4 10 [10])])))
abbrev B6 : CCode := (sR [(0,oP 2 (.mv (.c (.str []))) [2])] (sR [(0,oP 3 (.mv (.c (.str [40]))) [])] (.seq (sR [(0,oP 4 (.mv (.c (.int .i64 0))) [])] (.block 0 (.loop L6_0))) (sR [(0,oT 22 3 [3]),(1,oP 23 (.bin .add
(.t 22) (.c (.str [41]))) [22]),(2,oT 2 23 [23])] .ret))))
def C6 : CFn := ⟨24,1,[.t 2],B6⟩
abbrev L7_0 : CCode := (.seq (sR [(0,oT 8 4 []),(1,oT 9 0 []),(2,oP 10 (.len (.t 9)) [9]),(3,oP 11 (.bin .lss (.t 8) (.t 10)) [8,10])] (.cond (.t 11) (sK [11] .skip) (sK [0,4,11] (.exit 0)))) (.seq (.block 1 (.reg false
[(0,oT 14 3 []),(1,oT 15 4 []),(2,oT 16 0 []),(3,oT 17 4 []),(4,oP 18 (.ia 1 (.t 16) (.t 17)) []),(5,oP 19 (.ld 1 false (.t 18)) [16,17,18]),(6,oP 20 (.ia 1 (.t 14) (.t 15)) []),(7,⟨none,.st 1 (.t 20) (.t
19),none,[],[14,15,19,20]⟩)])) (.reg false [(0,oT 12 4 [4]),(1,oP 13 (.bin .add (.t 12) (.c (.int .i64 1))) [12]),(2,oT 4 13 [13])])))
abbrev B7 : CCode := (sR [(0,oP 2 (.mv (.c (.nils))) [2])] (sR [(0,oT 5 0 []),(1,oP 6 (.len (.t 5)) [5]),(2,oP 7 (.mk 1 8 [.int .i64 (0)] (.t 6) (.t 6)) [6]),(3,oT 3 7 [7])] (.seq (sR [(0,oP 4 (.mv (.c (.int .i64 0)))
[])] (.block 0 (.loop L7_0))) (sR [(0,oT 21 3 [3]),(1,oT 2 21 [21])] .ret))))
def C7 : CFn := ⟨22,1,[.t 2],B7⟩
abbrev L8_0 : CCode := (sR [(0,oP 10 (.bin .lss (.t 9) (.t 8)) [])] (.seq (.cond (.t 10) (sK [10] .skip) (sK [7,8,9,10] (.exit 0))) (.seq (.block 1 (sR [(0,oP 11 (.ia 1 (.t 7) (.t 9)) []),(1,oP 12 (.ld 1 false (.t 11))
[11]),(2,oT 5 12 [12])] (.reg false [(0,oT 13 3 [3]),(1,oT 14 5 [5]),(2,oP 15 (.call 23 [.t 14]) [14]),(3,oP 16 (.bsl 1 1 [.str []] [(0,1,(.t 15))]) [15]),(4,oP 17 (.app 1 16 (.t 13) (.t 16)) [13,16]),(5,oT 3 17
[17])]))) (.reg false [(0,oP 18 (.bin .add (.t 9) (.c (.int .i64 1))) [9]),(1,oT 9 18 [18])]))))
abbrev B8 : CCode := (sR [(0,oP 2 (.mv (.c (.str []))) [2])] (sR [(0,oP 6 (.bsl 1 0 [.str []] []) []),(1,oT 3 6 [6])] (.seq (sR [(0,oT 7 0 [0]),(1,oP 8 (.len (.t 7)) []),(2,oP 9 (.mv (.c (.int .i64 0))) [])] (.block 0
(.loop L8_0))) (sR [(0,oT 19 3 [3]),(1,oP 20 (.call 24 [.t 19,(.c (.str [32]))]) [19]),(2,oP 21 (.bin .add (.c (.str [40])) (.t 20)) [20]),(3,oP 22 (.bin .add (.t 21) (.c (.str [41]))) [21]),(4,oT 2 22 [22])] .ret))))
def C8 : CFn := ⟨23,1,[.t 2],B8⟩
abbrev L9_0 : CCode := (.seq (sR [(0,oT 11 5 []),(1,oT 12 0 []),(2,oP 13 (.len (.t 12)) [12]),(3,oP 14 (.bin .lss (.t 11) (.t 13)) [11,13])] (.cond (.t 14) (sK [14] .skip) (sK [0,1,5,14] (.exit 0)))) (.seq (.block 1
(.seq (.reg true [(0,oT 17 0 []),(1,oT 18 5 []),(2,oP 19 (.ia 1 (.t 17) (.t 18)) []),(3,oP 20 (.ld 1 false (.t 19)) [17,18,19]),(4,oT 21 1 []),(5,oT 22 5 []),(6,oP 23 (.ia 1 (.t 21) (.t 22)) []),(7,oP 24 (.ld 1 false
(.t 23)) [21,22,23]),(8,oP 25 (.bin .neq (.t 20) (.t 24)) [20,24])]) (.cond (.t 25) (sK [0,1,5,25] (sR [(0,oP 4 (.mv (.c (.bool false))) [])] .ret)) (sK [25] .skip)))) (.reg false [(0,oT 15 5 [5]),(1,oP 16 (.bin .add
(.t 15) (.c (.int .i64 1))) [15]),(2,oT 5 16 [16])])))
abbrev B9 : CCode := (sR [(0,oP 4 (.mv (.c (.bool false))) [4])] (.seq (sR [(0,oT 6 0 []),(1,oP 7 (.len (.t 6)) [6]),(2,oT 8 1 []),(3,oP 9 (.len (.t 8)) [8]),(4,oP 10 (.bin .neq (.t 7) (.t 9)) [7,9])] (.cond (.t 10) (sK
[0,1,10] (sR [(0,oP 4 (.mv (.c (.bool false))) [])] .ret)) (sK [10] .skip))) (.seq (sR [(0,oP 5 (.mv (.c (.int .i64 0))) [])] (.block 0 (.loop L9_0))) (sR [(0,oP 4 (.mv (.c (.bool true))) [])] .ret))))
def C9 : CFn := ⟨26,2,[.t 4],B9⟩
abbrev L22_0 : CCode := (.seq (sR [(0,oT 10 0 []),(1,oP 11 (.bin .neq (.t 10) (.c (.int .i64 0))) [10])] (.cond (.t 11) (sK [11] .skip) (sK [0,11] (.exit 0)))) (.block 1 (sR [(0,oT 12 0 []),(1,oP 13 (.bin .rem (.t 12)
(.c (.int .i64 10))) [12]),(2,oT 5 13 [13])] (.seq (sR [(0,oT 14 5 []),(1,oP 15 (.bin .lss (.t 14) (.c (.int .i64 0))) [14])] (.cond (.t 15) (sK [15] (.reg false [(0,oT 16 5 [5]),(1,oP 17 (.neg (.t 16)) [16]),(2,oT 5 17
[17])])) (sK [15] .skip))) (sR [(0,oT 18 5 [5]),(1,oP 19 (.bin .add (.c (.int .i64 48)) (.t 18)) [18]),(2,oP 20 (.conv .u8 (.t 19)) [19]),(3,oP 21 (.bsl 1 1 [.int .u8 (0)] [(0,1,(.t 20))]) [20]),(4,oP 22 (.b2s (.t 21))
[21]),(5,oT 23 3 [3]),(6,oP 24 (.bin .add (.t 22) (.t 23)) [22,23]),(7,oT 3 24 [24])] (.reg false [(0,oT 25 0 [0]),(1,oP 26 (.bin .quo (.t 25) (.c (.int .i64 10))) [25]),(2,oT 0 26 [26])]))))))
abbrev B22 : CCode := (sR [(0,oP 2 (.mv (.c (.str []))) [2])] (.seq (sR [(0,oT 6 0 []),(1,oP 7 (.bin .eql (.t 6) (.c (.int .i64 0))) [6])] (.cond (.t 7) (sK [0,7] (sR [(0,oP 2 (.mv (.c (.str [48]))) [])] .ret)) (sK [7]
.skip))) (sR [(0,oP 3 (.mv (.c (.str []))) [])] (sR [(0,oT 8 0 []),(1,oP 9 (.bin .lss (.t 8) (.c (.int .i64 0))) [8]),(2,oT 4 9 [9])] (.seq (.block 0 (.loop L22_0)) (.seq (sR [(0,oT 27 4 [4])] (.cond (.t 27) (sK [27]
(sR [(0,oT 28 3 [3]),(1,oP 29 (.bin .add (.c (.str [45])) (.t 28)) [28]),(2,oT 2 29 [29])] .ret)) (sK [27] .skip))) (sR [(0,oT 30 3 [3]),(1,oT 2 30 [30])] .ret)))))))
def C22 : CFn := ⟨31,1,[.t 2],B22⟩
abbrev B23 : CCode := (sR [(0,oP 2 (.mv (.c (.str []))) [2])] (sR [(0,oT 3 0 [0]),(1,oP 4 (.call 43 [.t 3]) [3]),(2,oT 2 4 [4])] .ret))
def C23 : CFn := ⟨5,1,[.t 2],B23⟩
theorem chk3 : chkFn Go.Proofs.Tryd.prog 3 C3 = true := by kernel_rfl
theorem chk6 : chkFn Go.Proofs.Tryd.prog 6 C6 = true := by kernel_rfl
theorem chk7 : chkFn Go.Proofs.Tryd.prog 7 C7 = true := by kernel_rfl
theorem chk8 : chkFn Go.Proofs.Tryd.prog 8 C8 = true := by kernel_rfl
theorem chk9 : chkFn Go.Proofs.Tryd.prog 9 C9 = true := by kernel_rfl
theorem chk22 : chkFn Go.Proofs.Tryd.prog 22 C22 = true := by kernel_rfl
theorem chk23 : chkFn Go.Proofs.Tryd.prog 23 C23 = true := by kernel_rfl
def Tab (f : Nat) : Option CFn :=
  match f with
  | 3 => some C3
  | 6 => some C6
  | 7 => some C7
  | 8 => some C8
  | 9 => some C9
  | 22 => some C22
  | 23 => some C23
  | _ => none
theorem tabOk : TabOk Go.Proofs.Tryd.prog Tab := by
  intro f cf h
  unfold Tab at h
  split at h <;> simp only [Option.some.injEq, reduceCtorEq] at h <;> subst h
  · exact chk3
  · exact chk6
  · exact chk7
  · exact chk8
  · exact chk9
  · exact chk22
  · exact chk23

end Go.Proofs.YtghodmmaepcjkaaDoorH
