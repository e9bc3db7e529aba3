import Derived.Test.YtjfeimhiiomgoaaX3
import Derived.Test.YtjfeimhiiomgoaaProg
set_option linter.unusedVariables false
set_option maxRecDepth 100000
namespace Go.Proofs.YtjfeimhiiomgoaaH
open Go
noncomputable abbrev pG := Go.Proofs.Try.prog
abbrev sR (l : List (Nat × COper)) (c : CCode) : CCode := .seq (.reg false l) c
abbrev sK (l : List Nat) (c : CCode) : CCode := .seq (.kill l) c
@[simp] abbrev gA (i d : Nat) (a b : Nat) (g : Nat) (k : List Nat) : Nat × COper := (i, ⟨some d, .pick (.t a) (.t b) (.c (.bool false)), some (g, false), [], k⟩)
@[simp] abbrev gB (i d : Nat) (o : BinOp) (a b : Nat) (g : Nat) (k : List Nat) : Nat × COper := (i, ⟨some d, .bin o (.t a) (.t b), some (g, false), [], k⟩)
@[simp] abbrev gC (i d : Nat) (o : BinOp) (a : Nat) (n : Int) (g : Nat) (k : List Nat) : Nat × COper := (i, ⟨some d, .bin o (.t a) (.c (.int .i64 n)), some (g, false), [], k⟩)
@[simp] abbrev gE (i d : Nat) (a : Nat) (g : Nat) (k : List Nat) : Nat × COper := (i, ⟨some d, .not (.t a), some (g, false), [], k⟩)
@[simp] abbrev gG (i d : Nat) (p : COp) (g : Nat) (k : List Nat) : Nat × COper := (i, ⟨some d, p, some (g, false), [], k⟩)
@[simp] abbrev gK (i d : Nat) (f : Nat) (l : List Opd) (g : Nat) (k : List Nat) : Nat × COper := (i, ⟨some d, .call f l, some (g, false), [], k⟩)
@[simp] abbrev gL (i d : Nat) (w a : Nat) (g : Nat) (k : List Nat) : Nat × COper := (i, ⟨some d, .ld w false (.t a), some (g, false), [], k⟩)
@[simp] abbrev gN (i d : Nat) (a : Nat) (g : Nat) (k : List Nat) : Nat × COper := (i, ⟨some d, .len (.t a), some (g, false), [], k⟩)
@[simp] abbrev gT (i d : Nat) (a : Nat) (g : Nat) (k : List Nat) : Nat × COper := (i, ⟨some d, .mv (.t a), some (g, false), [], k⟩)
@[simp] abbrev gX (i d : Nat) (w n a b : Nat) (g : Nat) (k : List Nat) : Nat × COper := (i, ⟨some d, .app w n (.t a) (.t b), some (g, false), [], k⟩)
@[simp] abbrev hB (i d : Nat) (o : BinOp) (a b : Nat) (g : Nat) (k : List Nat) : Nat × COper := (i, ⟨some d, .bin o (.t a) (.t b), some (g, true), [], k⟩)
@[simp] abbrev hC (i d : Nat) (o : BinOp) (a : Nat) (n : Int) (g : Nat) (k : List Nat) : Nat × COper := (i, ⟨some d, .bin o (.t a) (.c (.int .i64 n)), some (g, true), [], k⟩)
@[simp] abbrev hE (i d : Nat) (a : Nat) (g : Nat) (k : List Nat) : Nat × COper := (i, ⟨some d, .not (.t a), some (g, true), [], k⟩)
@[simp] abbrev hG (i d : Nat) (p : COp) (g : Nat) (k : List Nat) : Nat × COper := (i, ⟨some d, p, some (g, true), [], k⟩)
@[simp] abbrev hK (i d : Nat) (f : Nat) (l : List Opd) (g : Nat) (k : List Nat) : Nat × COper := (i, ⟨some d, .call f l, some (g, true), [], k⟩)
@[simp] abbrev hL (i d : Nat) (w a : Nat) (g : Nat) (k : List Nat) : Nat × COper := (i, ⟨some d, .ld w false (.t a), some (g, true), [], k⟩)
@[simp] abbrev hN (i d : Nat) (a : Nat) (g : Nat) (k : List Nat) : Nat × COper := (i, ⟨some d, .len (.t a), some (g, true), [], k⟩)
@[simp] abbrev hT (i d : Nat) (a : Nat) (g : Nat) (k : List Nat) : Nat × COper := (i, ⟨some d, .mv (.t a), some (g, true), [], k⟩)
@[simp] abbrev oA (i d : Nat) (a b : Nat) (k : List Nat) : Nat × COper := (i, ⟨some d, .pick (.t a) (.t b) (.c (.bool false)), none, [], k⟩)
@[simp] abbrev oB (i d : Nat) (o : BinOp) (a b : Nat) (k : List Nat) : Nat × COper := (i, ⟨some d, .bin o (.t a) (.t b), none, [], k⟩)
@[simp] abbrev oC (i d : Nat) (o : BinOp) (a : Nat) (n : Int) (k : List Nat) : Nat × COper := (i, ⟨some d, .bin o (.t a) (.c (.int .i64 n)), none, [], k⟩)
@[simp] abbrev oE (i d : Nat) (a : Nat) (k : List Nat) : Nat × COper := (i, ⟨some d, .not (.t a), none, [], k⟩)
@[simp] abbrev oF (i d : Nat) (w a : Nat) (k : List Nat) : Nat × COper := (i, ⟨some d, .fa w (.t a), none, [], k⟩)
@[simp] abbrev oI (i d : Nat) (w a b : Nat) (k : List Nat) : Nat × COper := (i, ⟨some d, .ia w (.t a) (.t b), none, [], k⟩)
@[simp] abbrev oK (i d : Nat) (f : Nat) (l : List Opd) (k : List Nat) : Nat × COper := (i, ⟨some d, .call f l, none, [], k⟩)
@[simp] abbrev oL (i d : Nat) (w a : Nat) (k : List Nat) : Nat × COper := (i, ⟨some d, .ld w false (.t a), none, [], k⟩)
@[simp] abbrev oN (i d : Nat) (a : Nat) (k : List Nat) : Nat × COper := (i, ⟨some d, .len (.t a), none, [], k⟩)
@[simp] abbrev oO (i d : Nat) (a b : Nat) (k : List Nat) : Nat × COper := (i, ⟨some d, .pick (.t a) (.c (.bool true)) (.t b), none, [], k⟩)
@[simp] abbrev oP (i d : Nat) (p : COp) (k : List Nat) : Nat × COper := (i, ⟨some d, p, none, [], k⟩)
@[simp] abbrev oQ (i d : Nat) (w a : Nat) (k : List Nat) : Nat × COper := (i, ⟨some d, .box w (.t a), none, [], k⟩)
@[simp] abbrev oS (i w a b : Nat) (k : List Nat) : Nat × COper := (i, ⟨none, .st w (.t a) (.t b), none, [], k⟩)
@[simp] abbrev oT (i d : Nat) (a : Nat) (k : List Nat) : Nat × COper := (i, ⟨some d, .mv (.t a), none, [], k⟩)
@[simp] abbrev oU (i d : Nat) (a n : Nat) (k : List Nat) : Nat × COper := (i, ⟨some d, .ex (.t a) n, none, [], k⟩)
@[simp] abbrev oV (i d : Nat) (k : List Nat) : Nat × COper := (i, ⟨some d, .mv (.c .nils), none, [], k⟩)
@[simp] abbrev oX (i d : Nat) (w n a b : Nat) (k : List Nat) : Nat × COper := (i, ⟨some d, .app w n (.t a) (.t b), none, [], k⟩)
@[simp] abbrev oY (i d : Nat) (b : Bool) (k : List Nat) : Nat × COper := (i, ⟨some d, .mv (.c (.bool b)), none, [], k⟩)
@[simp] abbrev oZ (i d : Nat) (n : Int) (k : List Nat) : Nat × COper := (i, ⟨some d, .mv (.c (.int .i64 n)), none, [], k⟩)
@[simp] abbrev uB (i d : Nat) (o : BinOp) (a b : Nat) : Nat × COper := (i, ⟨some d, .bin o (.t a) (.t b), none, [], []⟩)
@[simp] abbrev uH (i d : Nat) (l : List AV) : Nat × COper := (i, ⟨some d, .al l, none, [], []⟩)
@[simp] abbrev uI (i d : Nat) (w a b : Nat) : Nat × COper := (i, ⟨some d, .ia w (.t a) (.t b), none, [], []⟩)
@[simp] abbrev uL (i d : Nat) (w a : Nat) : Nat × COper := (i, ⟨some d, .ld w false (.t a), none, [], []⟩)
@[simp] abbrev uN (i d : Nat) (a : Nat) : Nat × COper := (i, ⟨some d, .len (.t a), none, [], []⟩)
@[simp] abbrev uP (i d : Nat) (p : COp) : Nat × COper := (i, ⟨some d, p, none, [], []⟩)
@[simp] abbrev uT (i d : Nat) (a : Nat) : Nat × COper := (i, ⟨some d, .mv (.t a), none, [], []⟩)
@[simp] abbrev uU (i d : Nat) (a n : Nat) : Nat × COper := (i, ⟨some d, .ex (.t a) n, none, [], []⟩)
@[simp] abbrev uV (i d : Nat) : Nat × COper := (i, ⟨some d, .mv (.c .nils), none, [], []⟩)
@[simp] abbrev uW (i d : Nat) (w : Nat) (l : List AV) : Nat × COper := (i, ⟨some d, .bsl w 0 l [], none, [], []⟩)
@[simp] abbrev uY (i d : Nat) (b : Bool) : Nat × COper := (i, ⟨some d, .mv (.c (.bool b)), none, [], []⟩)
@[simp] abbrev uZ (i d : Nat) (n : Int) : Nat × COper := (i, ⟨some d, .mv (.c (.int .i64 n)), none, [], []⟩)
@[simp] abbrev vI (i d : Nat) (w a b : Nat) (g : Nat) : Nat × COper := (i, ⟨some d, .ia w (.t a) (.t b), some (g, false), [], []⟩)
@[simp] abbrev vT (i d : Nat) (a : Nat) (g : Nat) : Nat × COper := (i, ⟨some d, .mv (.t a), some (g, false), [], []⟩)
@[simp] abbrev vW (i d : Nat) (w : Nat) (l : List AV) (g : Nat) : Nat × COper := (i, ⟨some d, .bsl w 0 l [], some (g, false), [], []⟩)
@[simp] abbrev wG (i d : Nat) (p : COp) (g : Nat) : Nat × COper := (i, ⟨some d, p, some (g, true), [], []⟩)
@[simp] abbrev wI (i d : Nat) (w a b : Nat) (g : Nat) : Nat × COper := (i, ⟨some d, .ia w (.t a) (.t b), some (g, true), [], []⟩)
@[simp] abbrev wT (i d : Nat) (a : Nat) (g : Nat) : Nat × COper := (i, ⟨some d, .mv (.t a), some (g, true), [], []⟩)
abbrev sI (a b x : Nat) : CCode := .reg false [oT 0 a x [x],oC 1 b .add a 1 [a],oT 2 x b [b]]
abbrev sC (t : Nat) (k : List Nat) (n : Nat) : CCode := .cond (.t t) (.seq (.kill [t]) .skip) (.seq (.kill k) (.exit n))
abbrev sD (t : Nat) (k : List Nat) (l : List (Nat × COper)) : CCode := .cond (.t t) (.seq (.kill k) (.seq (.reg false l) .ret)) (.seq (.kill [t]) .skip)
abbrev sL (x k : Nat) (l c : CCode) : CCode := .seq (.seq (.reg false [uZ 0 x 0]) (.block k (.loop l))) c
abbrev B3 : CCode := (sR [oY 0 2 false [2]] (.seq (sR [uT 0 12 0,oK 1 13 5 [.t 12] [12]] (sD 13 [0,13] [uY 0 2 true])) (sR [oT 0 15 0 [0],oK 1 16 6 [.t 15] [15],oT 2 14 16 [16],uU 3 17 14 0,oU 4 18 14 1 [14],oT 5 3 17
[17],oT 6 4 18 [18]] (sR [uT 0 20 3,uT 1 21 4,oK 2 22 7 [.t 20,.t 21] [20,21],oT 3 19 22 [22],uU 4 23 19 0,uU 5 24 19 1,oU 6 25 19 2 [19],oT 7 5 23 [23],oT 8 6 24 [24],oT 9 7 25 [25]] (sR [uT 0 27 3,uT 1 28 4,oK 2 29 8
[.t 27,.t 28] [27,28],oT 3 26 29 [29],uU 4 30 26 0,uU 5 31 26 1,oU 6 32 26 2 [26],oT 7 8 30 [30],oT 8 9 31 [31],oT 9 10 32 [32]] (sR [uT 0 33 3,uT 1 34 4,oK 2 35 9 [.t 33,.t 34] [33,34],oT 3 11 35 [35]] (.seq (sR [uT 0
36 7,oT 1 37 10 [10],oP 2 38 (.beq true (.t 36) (.t 37)) [36,37],oT 3 39 38 [38],vT 4 40 6 39,gT 5 41 9 39 [9],gK 6 42 10 [.t 40,.t 41] 39 [40,41],gE 7 43 42 39 [42],oO 8 44 39 43 [39,43],oT 9 45 44 [44],vT 10 46 5
45,gN 11 47 46 45 [46],gT 12 48 8 45 [8],gN 13 49 48 45 [48],gB 14 50 .neq 47 49 45 [47,49],oO 15 51 45 50 [45,50],oT 16 52 51 [51],vT 17 53 11 52,vT 18 54 3 52,vT 19 55 4 52,gK 20 56 11 [.t 54,.t 55] 52 [54,55],gB 21
57 .neq 53 56 52 [53,56],oO 22 58 52 57 [52,57]] (sD 58 [3,4,5,6,7,11,58] [uY 0 2 false])) (.seq (sR [uT 0 59 3,uT 1 60 4,oK 2 61 12 [.t 59,.t 60] [59,60],oE 3 62 61 [61]] (sD 62 [3,4,5,62] [oT 0 63 7 [7],oE 1 64 63
[63],oT 2 65 64 [64],hT 3 66 6 65 [6],hN 4 67 66 65 [66],hC 5 68 .eql 67 0 65 [67],oA 6 69 65 68 [65,68],oT 7 70 69 [69],hT 8 71 11 70 [11],hC 9 72 .eql 71 0 70 [71],oA 10 73 70 72 [70,72],oT 11 2 73 [73]])) (.seq (sR
[oT 0 74 7 [7]] (.cond (.t 74) (sK [74] (sR [uT 0 75 5,oN 1 76 75 [75],oT 2 77 3 [3],oB 3 78 .eql 76 77 [76,77],oT 4 79 78 [78],wT 5 80 4 79,wT 6 81 5 79,hK 7 82 13 [.t 80,.t 81] 79 [80,81],oA 8 83 79 82 [79,82],oT 9 84
83 [83],hT 10 85 4 84 [4],hT 11 86 5 84 [5],hK 12 87 14 [.t 85,.t 86] 84 [85,86],oA 13 88 84 87 [84,87],oT 14 89 88 [88],hT 15 90 6 89 [6],hN 16 91 90 89 [90],hC 17 92 .eql 91 0 89 [91],oA 18 93 89 92 [89,92],oT 19 94
93 [93],hT 20 95 11 94 [11],hC 21 96 .gtr 95 0 94 [95],oA 22 97 94 96 [94,96],oT 23 2 97 [97]] .ret)) (sK [5,74] .skip))) (sR [uT 0 98 3,uT 1 99 4,uT 2 100 6,oK 3 101 15 [.t 98,.t 99,.t 100] [98,99,100],oT 4 102 101
[101],hT 5 103 3 102 [3],hT 6 104 4 102 [4],hT 7 105 6 102 [6],hK 8 106 16 [.t 103,.t 104,.t 105] 102 [103,104,105],oA 9 107 102 106 [102,106],oT 10 108 107 [107],hT 11 109 11 108 [11],hC 12 110 .eql 109 0 108 [109],oA
13 111 108 110 [108,110],oT 14 2 111 [111]] .ret))))))))))
def C3 : CFn := ⟨112,1,[.t 2],B3⟩
abbrev B5 : CCode := (sR [oY 0 2 false [2]] (sR [oT 0 3 0 [0],oN 1 4 3 [3],oC 2 5 .gtr 4 1048576 [4],oT 3 2 5 [5]] .ret))
def C5 : CFn := ⟨6,1,[.t 2],B5⟩
abbrev B6 : CCode := (sR [oZ 0 2 0 [2],oV 1 3 [3]] (sR [oT 0 4 0 [0],oK 1 5 25 [.t 4] [4],uU 2 6 5 0,oU 3 7 5 1 [5],oT 4 2 6 [6],oT 5 3 7 [7]] .ret))
def C6 : CFn := ⟨8,1,[.t 2,.t 3],B6⟩
abbrev L7_0 : CCode := (sR [uB 0 33 .lss 32 31] (.seq (sC 33 [30,31,32,33] 0) (.seq (.block 1 (sR [uI 0 34 1 30 32,oL 1 35 1 34 [34],oT 2 11 35 [35]] (sR [uT 0 36 11,oC 1 37 .gtr 36 0 [36]] (.cond (.t 37) (sK [37] (.reg
false [uT 0 38 9,oT 1 39 11 [11],oC 2 40 .sub 39 1 [39],uI 3 41 1 38 40,(4,⟨none,.st 1 (.t 41) (.c (.bool true)),none,[],[38,40,41]⟩)])) (sK [11,37] .skip))))) (.reg false [oC 0 42 .add 32 1 [32],oT 1 32 42 [42]]))))
abbrev B7 : CCode := (sR [oV 0 4 [4],oV 1 5 [5],oY 2 6 false [6]] (.seq (sR [uT 0 12 0,uT 1 13 1,oK 2 14 26 [.t 12,.t 13] [12,13],oE 3 15 14 [14]] (sD 15 [0,1,15] [uV 0 4,uV 1 5,uY 2 6 false])) (sR [uT 0 16 0,oT 1 17 1
[1],oP 2 18 (.bld [.int .i64 (0),.nils,.nils] [(0,1,(.t 16)),(1,1,(.t 17))]) [16,17],oQ 3 19 3 18 [18],oT 4 7 19 [19]] (sR [uT 0 20 7,oK 1 21 27 [.t 20,(.c (.nils))] [20],oT 2 8 21 [21]] (.seq (sR [uT 0 22 8,oP 1 23
(.isnil false (.t 22)) [22]] (.cond (.t 23) (sK [0,8,23] (.seq (.reg true [oT 0 24 7 [7],uP 1 25 (.nc (.t 24)),oF 2 26 2 25 [25],oL 3 27 1 26 [26],uV 4 4,oT 5 5 27 [27],uY 6 6 false]) .ret)) (sK [7,23] .skip))) (sR [oT
0 28 0 [0],oP 1 29 (.mk 1 1 [.bool false] (.t 28) (.t 28)) [28],oT 2 9 29 [29]] (.seq (sR [oT 0 30 8 [8],uN 1 31 30,uZ 2 32 0] (.block 0 (.loop L7_0))) (sR [oT 0 43 9 [9],oT 1 4 43 [43],uV 2 5,uY 3 6 true] .ret))))))))
def C7 : CFn := ⟨44,2,[.t 4,.t 5,.t 6],B7⟩
abbrev B8 : CCode := (sR [oV 0 4 [4],oV 1 5 [5],oY 2 6 false [6]] (.seq (sR [uT 0 8 0,uT 1 9 1,oK 2 10 12 [.t 8,.t 9] [8,9],oE 3 11 10 [10]] (sD 11 [0,1,11] [uW 0 12 1 [.bool false],uW 1 13 1 [.nils],oT 2 4 12 [12],oT 3
5 13 [13],uY 4 6 false])) (sR [oT 0 14 0 [0],uW 1 15 1 [.nils],oT 2 16 1 [1],oX 3 17 1 24 15 16 [15,16],oP 4 18 (.bld [.int .i64 (0),.nils,.nils,.nils] [(0,1,(.t 14)),(1,1,(.t 17))]) [14,17],oQ 5 19 4 18 [18],oT 6 7 19
[19]] (.seq (sR [uT 0 20 7,uW 1 21 1 [.int .i64 (0)],oK 2 22 28 [.t 20,.t 21] [20,21]] (sD 22 [22] [oT 0 23 7 [7],uP 1 24 (.nc (.t 23)),oF 2 25 3 24 [24],oL 3 26 1 25 [25],uW 4 27 1 [.nils],oT 5 4 26 [26],oT 6 5 27
[27],uY 7 6 true])) (.seq (.reg true [uW 0 28 1 [.bool false],oT 1 29 7 [7],uP 2 30 (.nc (.t 29)),oF 3 31 2 30 [30],oL 4 32 1 31 [31],oT 5 4 28 [28],oT 6 5 32 [32],uY 7 6 false]) .ret)))))
def C8 : CFn := ⟨33,2,[.t 4,.t 5,.t 6],B8⟩
abbrev L9_1 : CCode := (sR [uB 0 23 .lss 22 21] (.seq (sC 23 [7,21,22,23] 2) (.seq (.block 3 (sR [uT 0 24 22,oT 1 8 24 [24]] (.reg false [uT 0 25 6,uT 1 26 8,uT 2 27 7,oT 3 28 8 [8],oB 4 29 .shr 27 28 [27,28],oC 5 30
.and 29 1 [29],oC 6 31 .eql 30 1 [30],uI 7 32 1 25 26,oS 8 1 32 31 [25,26,31,32]]))) (.reg false [oC 0 33 .add 22 1 [22],oT 1 22 33 [33]]))))
abbrev L9_0 : CCode := (sR [uB 0 18 .lss 17 16] (.seq (sC 18 [1,6,16,17,18] 0) (.seq (.block 1 (sR [uT 0 19 17,oT 1 7 19 [19]] (.seq (sR [uT 0 20 6,oN 1 21 20 [20],uZ 2 22 0] (.block 2 (.loop L9_1))) (sR [uT 0 34 1,uT 1
35 6,oK 2 36 13 [.t 34,.t 35] [34,35]] (.cond (.t 36) (sK [36] (sI 37 38 5)) (sK [36] .skip)))))) (.reg false [oC 0 39 .add 17 1 [17],oT 1 17 39 [39]]))))
abbrev B9 : CCode := (sR [oZ 0 4 0 [4]] (.seq (sR [uT 0 9 0,uT 1 10 1,oK 2 11 26 [.t 9,.t 10] [9,10],oE 3 12 11 [11]] (sD 12 [0,1,12] [uZ 0 4 0])) (.seq (.reg true [uT 0 13 0,oP 1 14 (.mk 1 1 [.bool false] (.t 13) (.t
13)) [13],uZ 2 5 0,oT 3 6 14 [14]]) (.seq (sR [oT 0 15 0 [0],oP 1 16 (.bin .shl (.c (.int .i64 1)) (.t 15)) [15],uZ 2 17 0] (.block 0 (.loop L9_0))) (sR [oT 0 40 5 [5],oT 1 4 40 [40]] .ret)))))
def C9 : CFn := ⟨41,2,[.t 4],B9⟩
abbrev L10_0 : CCode := (.seq (sR [uT 0 11 5,uT 1 12 0,oN 2 13 12 [12],oB 3 14 .lss 11 13 [11,13]] (sC 14 [0,1,5,14] 0)) (.seq (.block 1 (.seq (.reg true [uT 0 17 0,uT 1 18 5,uI 2 19 1 17 18,oL 3 20 1 19 [19],uT 4 21
1,uT 5 22 5,uI 6 23 1 21 22,oL 7 24 1 23 [23],oK 8 25 29 [.t 20,.t 24] [17,18,20,21,22,24],oE 9 26 25 [25]]) (sD 26 [0,1,5,26] [uY 0 4 false]))) (sI 15 16 5)))
abbrev B10 : CCode := (sR [oY 0 4 false [4]] (.seq (sR [uT 0 6 0,oN 1 7 6 [6],uT 2 8 1,oN 3 9 8 [8],oB 4 10 .neq 7 9 [7,9]] (sD 10 [0,1,10] [uY 0 4 false])) (sL 5 0 L10_0 (sR [uY 0 4 true] .ret))))
def C10 : CFn := ⟨27,2,[.t 4],B10⟩
abbrev L11_1 : CCode := (.seq (sR [uT 0 20 8,uT 1 21 0,oB 2 22 .lss 20 21 [20,21]] (sC 22 [8,22] 2)) (.seq (.block 3 (.reg false [oT 0 25 7 [7],uT 1 26 6,uT 2 27 8,oB 3 28 .shr 26 27 [26,27],oC 4 29 .and 28 1 [28],oC 5
30 .eql 29 1 [29],oP 6 31 (.bsl 1 1 [.bool false] [(0,1,(.t 30))]) [30],oX 7 32 1 1 25 31 [25,31],oT 8 7 32 [32]])) (sI 23 24 8)))
abbrev L11_0 : CCode := (.seq (sR [uT 0 13 6,uT 1 14 0,oP 2 15 (.bin .shl (.c (.int .i64 1)) (.t 14)) [14],oB 3 16 .lss 13 15 [13,15]] (sC 16 [0,1,6,16] 0)) (.seq (.block 1 (sR [uW 0 19 1 [.bool false],oT 1 7 19 [19]]
(sL 8 2 L11_1 (sR [uT 0 33 1,oT 1 34 7 [7],oK 2 35 14 [.t 33,.t 34] [33,34]] (.cond (.t 35) (sK [35] (sI 36 37 5)) (sK [35] .skip)))))) (sI 17 18 6)))
abbrev B11 : CCode := (sR [oZ 0 4 0 [4]] (.seq (sR [uT 0 9 0,uT 1 10 1,oK 2 11 12 [.t 9,.t 10] [9,10],oE 3 12 11 [11]] (sD 12 [0,1,12] [uZ 0 4 0])) (sR [uZ 0 5 0] (sL 6 0 L11_0 (sR [oT 0 38 5 [5],oT 1 4 38 [38]]
.ret)))))
def C11 : CFn := ⟨39,2,[.t 4],B11⟩
abbrev L12_0 : CCode := (.seq (sR [uT 0 6 5,uT 1 7 1,oN 2 8 7 [7],oB 3 9 .lss 6 8 [6,8]] (sC 9 [5,9] 0)) (.seq (.block 1 (sR [uT 0 12 0,uT 1 13 1,uT 2 14 5,uI 3 15 1 13 14,oL 4 16 1 15 [15],oK 5 17 30 [.t 12,.t 16]
[12,13,14,16],oE 6 18 17 [17]] (sD 18 [0,1,5,18] [uY 0 4 false]))) (sI 10 11 5)))
abbrev B12 : CCode := (sR [oY 0 4 false [4]] (sL 5 0 L12_0 (sR [oT 0 19 0 [0],oK 1 20 31 [.t 19,(.c (.int .i64 0)),(.c (.int .i64 14))] [19],oT 2 21 20 [20],hT 3 22 1 21 [1],hN 4 23 22 21 [22],hC 5 24 .leq 23 400 21
[23],oA 6 25 21 24 [21,24],oT 7 4 25 [25]] .ret)))
def C12 : CFn := ⟨26,2,[.t 4],B12⟩
abbrev B13 : CCode := (sR [oQ 0 3 1 1 [1],oY 1 4 false [4]] (sR [oT 0 5 0 [0],uP 1 6 (.fn 33 [.t 3]),oK 2 7 32 [.t 5,.t 6] [3,5,6],oE 3 8 7 [7],oT 4 4 8 [8]] .ret))
def C13 : CFn := ⟨9,2,[.t 4],B13⟩
abbrev L14_1 : CCode := (.seq (sR [uT 0 15 7,uT 1 16 0,uT 2 17 5,uI 3 18 1 16 17,oL 4 19 1 18 [18],oN 5 20 19 [16,17,19],oB 6 21 .lss 15 20 [15,20]] (sC 21 [7,21] 2)) (.seq (.block 3 (sR [uT 0 24 0,uT 1 25 5,uI 2 26 1
24 25,oL 3 27 1 26 [26],uT 4 28 7,oI 5 29 1 27 28 [27],oL 6 30 1 29 [24,25,28,29],oT 7 8 30 [30]] (.reg false [oT 0 31 6 [6],oT 1 32 31 [31],vT 2 33 8 32,gC 3 34 .gtr 33 0 32 [33],gT 4 35 34 32 [34],wT 5 36 8 35,wT 6 37
1 35,hN 7 38 37 35 [37],hB 8 39 .leq 36 38 35 [36,38],gA 9 40 35 39 32 [35,39],gT 10 41 40 32 [40],wT 11 42 1 41,wT 12 43 8 41,hC 13 44 .sub 43 1 41 [43],wI 14 45 1 42 44 41,hL 15 46 1 45 41 [42,44,45],gA 16 47 41 46 32
[41,46],oO 17 48 32 47 [32,47],oT 18 49 48 [48],vT 19 50 8 49,gC 20 51 .lss 50 0 49 [50],gT 21 52 51 49 [51],wT 22 53 8 52,wT 23 54 1 52,hN 24 55 54 52 [54],hG 25 56 (.neg (.t 55)) 52 [55],hB 26 57 .geq 53 56 52
[53,56],gA 27 58 52 57 49 [52,57],gT 28 59 58 49 [58],wT 29 60 1 59,hT 30 61 8 59 [8],hG 31 62 (.neg (.t 61)) 59 [61],hC 32 63 .sub 62 1 59 [62],wI 33 64 1 60 63 59,hL 34 65 1 64 59 [60,63,64],hE 35 66 65 59 [65],gA 36
67 59 66 49 [59,66],oO 37 68 49 67 [49,67],oT 38 6 68 [68]]))) (sI 22 23 7)))
abbrev L14_0 : CCode := (.seq (sR [uT 0 9 5,uT 1 10 0,oN 2 11 10 [10],oB 3 12 .lss 9 11 [9,11]] (sC 12 [0,1,5,12] 0)) (.seq (.block 1 (sR [uY 0 6 false] (sL 7 2 L14_1 (sR [oT 0 69 6 [6],oE 1 70 69 [69]] (sD 70
[0,1,5,70] [uY 0 4 false]))))) (sI 13 14 5)))
abbrev B14 : CCode := (sR [oY 0 4 false [4]] (sL 5 0 L14_0 (sR [uY 0 4 true] .ret)))
def C14 : CFn := ⟨71,2,[.t 4],B14⟩
abbrev L15_0 : CCode := (sR [uB 0 32 .lss 31 30] (.seq (sC 32 [7,29,30,31,32] 0) (.seq (.block 1 (sR [uI 0 33 1 29 31,oL 1 34 1 33 [33],oT 2 9 34 [34]] (.seq (sR [uT 0 36 7,uT 1 37 9,oK 2 38 40 [.t 37] [37],oK 3 39 39
[.t 36,.t 38] [36,38],oT 4 35 39 [39],uU 5 40 35 0,oU 6 41 35 1 [35],oT 7 10 40 [10,40],oT 8 11 41 [41]] (sR [oT 0 42 11 [11],oE 1 43 42 [42]] (sD 43 [2,7,9,29,30,31,43] [uY 0 6 false]))) (.reg false [oT 0 44 7 [7],oT 1
45 9 [9],oP 2 46 (.bsl 1 1 [.nils] [(0,1,(.t 45))]) [45],oX 3 47 1 24 44 46 [44,46],oT 4 7 47 [47]])))) (.reg false [oC 0 48 .add 31 1 [31],oT 1 31 48 [48]]))))
abbrev B15 : CCode := (sR [oY 0 6 false [6]] (.seq (sR [uT 0 12 0,uT 1 13 1,oK 2 14 26 [.t 12,.t 13] [12,13],oE 3 15 14 [14],oT 4 16 15 [15],vT 5 17 2 16,gN 6 18 17 16 [17],gC 7 19 .eql 18 0 16 [18],oO 8 20 16 19
[16,19],oT 9 21 20 [20],gT 10 22 0 21 [0],vT 11 23 2 21,gK 12 24 37 [.t 22,.t 23] 21 [22,23],gE 13 25 24 21 [24],oO 14 26 21 25 [21,25]] (sD 26 [1,2,26] [uY 0 6 false])) (sR [oT 0 27 1 [1],oK 1 28 38 [.t 27] [27],oT 2 7
28 [28]] (.seq (sR [uT 0 29 2,uN 1 30 29,uZ 2 31 0] (.block 0 (.loop L15_0))) (sR [uT 0 49 2,uT 1 50 2,oN 2 51 50 [50],oC 3 52 .sub 51 1 [51],uI 4 53 1 49 52,oL 5 54 1 53 [53],oN 6 55 54 [49,52,54],oC 7 56 .eql 55 0
[55],oT 8 6 56 [56]] .ret)))))
def C15 : CFn := ⟨57,3,[.t 6],B15⟩
abbrev L16_0 : CCode := (.seq (sR [uT 0 33 8,uT 1 34 2,oN 2 35 34 [34],oB 3 36 .lss 33 35 [33,35]] (sC 36 [0,2,7,8,36] 0)) (.seq (.block 1 (.seq (sR [uT 0 39 0,uT 1 40 2,uT 2 41 8,uI 3 42 1 40 41,oL 4 43 1 42 [42],oK 5
44 30 [.t 39,.t 43] [39,40,41,43],oE 6 45 44 [44]] (sD 45 [0,2,7,8,45] [uY 0 6 false])) (sR [uT 0 47 7,uT 1 48 2,uT 2 49 8,uI 3 50 1 48 49,oL 4 51 1 50 [50],oK 5 52 42 [.t 51] [48,49,51],oK 6 53 41 [.t 47,.t 52]
[47,52],oT 7 46 53 [53],uU 8 54 46 0,oU 9 55 46 1 [46],oT 10 9 54 [9,54],oT 11 10 55 [55]] (.seq (sR [oT 0 56 10 [10],oE 1 57 56 [56]] (sD 57 [0,2,7,8,57] [uY 0 6 false])) (.reg false [oT 0 58 7 [7],uT 1 59 2,uT 2 60
8,uI 3 61 1 59 60,oL 4 62 1 61 [61],oP 5 63 (.bsl 1 1 [.nils] [(0,1,(.t 62))]) [59,60,62],oX 6 64 1 24 58 63 [58,63],oT 7 7 64 [64]]))))) (sI 37 38 8)))
abbrev B16 : CCode := (sR [oY 0 6 false [6]] (.seq (sR [uT 0 11 0,uT 1 12 1,oK 2 13 12 [.t 11,.t 12] [11,12],oE 3 14 13 [13],oT 4 15 14 [14],vT 5 16 2 15,gN 6 17 16 15 [16],gC 7 18 .eql 17 0 15 [17],oO 8 19 15 18
[15,18],oT 9 20 19 [19],vT 10 21 2 20,vT 11 22 2 20,gN 12 23 22 20 [22],gC 13 24 .sub 23 1 20 [23],vI 14 25 1 21 24 20,gL 15 26 1 25 20 [25],gN 16 27 26 20 [21,24,26],gC 17 28 .gtr 27 0 20 [27],oO 18 29 20 28 [20,28]]
(sD 29 [0,1,2,29] [uY 0 6 false])) (sR [uW 0 30 1 [.nils],oT 1 31 1 [1],oX 2 32 1 24 30 31 [30,31],oT 3 7 32 [32]] (sL 8 0 L16_0 (sR [uY 0 6 true] .ret)))))
def C16 : CFn := ⟨65,3,[.t 6],B16⟩
abbrev B25 : CCode := (sR [oZ 0 2 0 [2],oV 1 3 [3]] (sR [oT 0 7 0 [0],oK 1 8 49 [.t 7] [7],oK 2 9 48 [.t 8] [8],oT 3 6 9 [9],uU 4 10 6 0,oU 5 11 6 1 [6],oT 6 4 10 [10],oT 7 5 11 [11]] (sR [oT 0 12 4 [4],oT 1 13 5 [5],oT
2 2 12 [12],oT 3 3 13 [13]] .ret)))
def C25 : CFn := ⟨14,1,[.t 2,.t 3],B25⟩
abbrev B26 : CCode := (sR [oY 0 4 false [4]] (sR [uT 0 5 1,oN 1 6 5 [5],oC 2 7 .leq 6 400 [6],oT 3 8 7 [7],hT 4 9 0 8 [0],hT 5 10 1 8 [1],hK 6 11 37 [.t 9,.t 10] 8 [9,10],oA 7 12 8 11 [8,11],oT 8 4 12 [12]] .ret))
def C26 : CFn := ⟨13,2,[.t 4],B26⟩
abbrev L27_1 : CCode := (sR [uB 0 53 .lss 52 51] (.seq (sC 53 [50,51,52,53] 2) (.seq (.block 3 (sR [uI 0 54 1 50 52,oL 1 55 1 54 [54],oT 2 9 55 [55]] (sR [uT 0 56 0,uT 1 57 1,oK 2 58 53 [.t 57] [57],oT 3 59 9 [9],oP 4
60 (.bsl 1 1 [.int .i64 (0)] [(0,1,(.t 59))]) [59],oX 5 61 1 8 58 60 [58,60],oK 6 62 27 [.t 56,.t 61] [56,61],oT 7 10 62 [62]] (sR [uT 0 63 10,oP 1 64 (.isnil true (.t 63)) [63]] (.cond (.t 64) (sK [1,50,51,52,64] (sR
[oT 0 65 10 [10],oT 1 4 65 [65]] .ret)) (sK [10,64] .skip)))))) (.reg false [oC 0 66 .add 52 1 [52],oT 1 52 66 [66]]))))
abbrev L27_0 : CCode := (.seq (sR [uT 0 30 7,uT 1 31 0,uP 2 32 (.nc (.t 31)),oF 3 33 0 32 [32],oL 4 34 1 33 [31,33],oB 5 35 .leq 30 34 [30,34]] (sC 35 [1,7,35] 0)) (.seq (.block 1 (.seq (sR [uT 0 38 5,uT 1 39 7,oK 2 40
52 [.t 38,.t 39] [38,39],oT 3 41 40 [40],vT 4 42 5 41,vT 5 43 7 41,gG 6 44 (.neg (.t 43)) 41 [43],gK 7 45 52 [.t 42,.t 44] 41 [42,44],oO 8 46 41 45 [41,45]] (.cond (.t 46) (sK [46] (.exit 1)) (sK [5,46] .skip))) (.seq
(sR [uT 0 47 7,oT 1 48 7 [7],oP 2 49 (.neg (.t 48)) [48],oP 3 50 (.bsl 1 2 [.int .i64 (0)] [(0,1,(.t 47)),(1,1,(.t 49))]) [47,49],uN 4 51 50,uZ 5 52 0] (.block 2 (.loop L27_1))) (sR [uT 0 67 0,oT 1 68 1 [1],oK 2 69 51
[.t 67,.t 68] [67,68],oT 3 4 69 [69]] .ret)))) (sI 36 37 7)))
abbrev B27 : CCode := (sR [oV 0 4 [4]] (.seq (.reg true [uT 0 12 0,uP 1 13 (.nc (.t 12)),oF 2 14 1 13 [13],oL 3 15 1 14 [14],uT 4 16 0,uP 5 17 (.nc (.t 16)),oF 6 18 2 17 [17],oL 7 19 1 18 [18],oP 8 20 (.bsl 1 2 [.nils]
[(0,1,(.t 15)),(1,1,(.t 19))]) [12,15,16,19],uT 10 22 1,oK 9 21 50 [.t 20] [20],oK 11 23 39 [.t 21,.t 22] [21,22],oT 12 11 23 [23],uU 13 24 11 0,oU 14 25 11 1 [11],oT 15 5 24 [24],oT 16 6 25 [25]]) (.seq (sR [oT 0 26 6
[6]] (sD 26 [5,26] [uT 0 27 0,oT 1 28 1 [1],oK 2 29 51 [.t 27,.t 28] [27,28],oT 3 4 29 [29]])) (.seq (sR [uZ 0 7 1] (.block 0 (.loop L27_0))) (sR [oT 0 70 5 [5],oT 1 4 70 [70]] .ret)))))
def C27 : CFn := ⟨71,2,[.t 4],B27⟩
abbrev L28_0 : CCode := (.seq (sR [uT 0 22 7,uT 1 23 0,uP 2 24 (.nc (.t 23)),oF 3 25 0 24 [24],oL 4 26 1 25 [23,25],oB 5 27 .leq 22 26 [22,26]] (sC 27 [1,7,27] 0)) (.seq (.block 1 (.seq (sR [uT 0 30 5,uT 1 31 7,oK 2 32
55 [.t 30,.t 31] [30,31],oT 3 33 32 [32],vT 4 34 5 33,vT 5 35 7 33,gG 6 36 (.neg (.t 35)) 33 [35],gK 7 37 55 [.t 34,.t 36] 33 [34,36],oO 8 38 33 37 [33,37]] (.cond (.t 38) (sK [38] (.exit 1)) (sK [5,38] .skip))) (.seq
(sR [uT 0 39 0,uW 1 40 1 [.int .i64 (0)],uT 2 41 1,oX 3 42 1 8 40 41 [40,41],uT 4 43 7,oP 5 44 (.bsl 1 1 [.int .i64 (0)] [(0,1,(.t 43))]) [43],oX 6 45 1 8 42 44 [42,44],oK 7 46 28 [.t 39,.t 45] [39,45],oT 8 47 46
[46],vT 9 48 0 47,vW 10 49 1 [.int .i64 (0)] 47,vT 11 50 1 47,gX 12 51 1 8 49 50 47 [49,50],gT 13 52 7 47 [7],gG 14 53 (.neg (.t 52)) 47 [52],gG 15 54 (.bsl 1 1 [.int .i64 (0)] [(0,1,(.t 53))]) 47 [53],gX 16 55 1 8 51
54 47 [51,54],gK 17 56 28 [.t 48,.t 55] 47 [48,55],oO 18 57 47 56 [47,56]] (sD 57 [1,57] [uY 0 4 true])) (sR [uT 0 58 0,oT 1 59 1 [1],oK 2 60 54 [.t 58,.t 59] [58,59,60]] (sR [uY 0 4 false] .ret))))) (sI 28 29 7)))
abbrev L28_1 : CCode := (.seq (sR [uT 0 61 8,uT 1 62 0,uP 2 63 (.nc (.t 62)),oF 3 64 0 63 [63],oL 4 65 1 64 [62,64],oB 5 66 .leq 61 65 [61,65]] (sC 66 [5,8,66] 2)) (.seq (.block 3 (.reg true [uT 0 69 0,uT 1 70 0,uP 2 71
(.nc (.t 70)),oF 3 72 3 71 [71],uL 4 73 1 72,uT 5 74 5,uT 6 75 8,(7,⟨some 76,.call 55 [.t 74,.t 75],none,[(72,1)],[72,74,75]⟩),oP 8 77 (.bsl 1 1 [.bool false] [(0,1,(.t 76))]) [76],oX 9 78 1 1 73 77 [70,73,77],uP 10 79
(.nc (.t 69)),oF 11 80 3 79 [79],oS 12 1 80 78 [69,78,80]])) (sI 67 68 8)))
abbrev B28 : CCode := (sR [oY 0 4 false [4]] (sR [uT 0 10 0,uP 1 11 (.nc (.t 10)),oF 2 12 1 11 [11],oL 3 13 1 12 [12],uT 4 14 1,oK 5 15 41 [.t 13,.t 14] [10,13,14],oT 6 9 15 [15],uU 7 16 9 0,oU 8 17 9 1 [9],oT 9 5 16
[16],oT 10 6 17 [17]] (.seq (sR [oT 0 18 6 [6]] (.cond (.t 18) (sK [5,18] (sR [uT 0 19 0,oT 1 20 1 [1],oK 2 21 54 [.t 19,.t 20] [19,20,21]] (sR [uY 0 4 false] .ret))) (sK [18] .skip))) (.seq (sR [uZ 0 7 1] (.block 0
(.loop L28_0))) (.seq (sR [uZ 0 8 1] (.block 2 (.loop L28_1))) (sR [uY 0 4 true] .ret))))))
def C28 : CFn := ⟨81,2,[.t 4],B28⟩
abbrev L29_0 : CCode := (.seq (sR [uT 0 11 5,uT 1 12 0,oN 2 13 12 [12],oB 3 14 .lss 11 13 [11,13]] (sC 14 [0,1,5,14] 0)) (.seq (.block 1 (.seq (.reg true [uT 0 17 0,uT 1 18 5,uI 2 19 1 17 18,oL 3 20 1 19 [17,18,19],uT 4
21 1,uT 5 22 5,uI 6 23 1 21 22,oL 7 24 1 23 [21,22,23],oB 8 25 .neq 20 24 [20,24]]) (sD 25 [0,1,5,25] [uY 0 4 false]))) (sI 15 16 5)))
abbrev B29 : CCode := (sR [oY 0 4 false [4]] (.seq (sR [uT 0 6 0,oN 1 7 6 [6],uT 2 8 1,oN 3 9 8 [8],oB 4 10 .neq 7 9 [7,9]] (sD 10 [0,1,10] [uY 0 4 false])) (sL 5 0 L29_0 (sR [uY 0 4 true] .ret))))
def C29 : CFn := ⟨26,2,[.t 4],B29⟩
abbrev L30_1 : CCode := (.seq (sR [uT 0 42 7,uT 1 43 5,oB 2 44 .lss 42 43 [42,43]] (sC 44 [7,44] 2)) (.seq (.block 3 (.seq (.reg true [uT 0 47 1,uT 1 48 7,uI 2 49 1 47 48,oL 3 50 1 49 [47,48,49],uT 4 51 1,uT 5 52 5,uI 6
53 1 51 52,oL 7 54 1 53 [51,52,53],oB 8 55 .eql 50 54 [50,54],oT 9 56 55 [55],vT 10 57 1 56,vT 11 58 7 56,vI 12 59 1 57 58 56,gL 13 60 1 59 56 [57,58,59],vT 14 61 1 56,vT 15 62 5 56,vI 16 63 1 61 62 56,gL 17 64 1 63 56
[61,62,63],gG 18 65 (.neg (.t 64)) 56 [64],gB 19 66 .eql 60 65 56 [60,65],oO 20 67 56 66 [56,66]]) (sD 67 [0,1,5,7,67] [uY 0 4 false]))) (sI 45 46 7)))
abbrev L30_0 : CCode := (.seq (sR [uT 0 8 5,uT 1 9 1,oN 2 10 9 [9],oB 3 11 .lss 8 10 [8,10]] (sC 11 [0,1,5,11] 0)) (.seq (.block 1 (sR [uT 0 14 1,uT 1 15 5,uI 2 16 1 14 15,oL 3 17 1 16 [14,15,16],oP 4 18 (.max (.t 17)
(.c (.int .i64 0))) [17],oT 5 6 18 [18]] (.seq (sR [uT 0 19 1,uT 1 20 5,uI 2 21 1 19 20,oL 3 22 1 21 [19,20,21],oC 4 23 .lss 22 0 [22],oT 5 24 23 [23],wT 6 25 1 24,wT 7 26 5 24,wI 8 27 1 25 26 24,hL 9 28 1 27 24
[25,26,27],wT 10 29 0 24,hG 11 30 (.neg (.t 29)) 24 [29],hB 12 31 .geq 28 30 24 [28,30],oA 13 32 24 31 [24,31]] (.cond (.t 32) (sK [6,32] (.reg false [uT 0 33 1,uT 1 34 5,uI 2 35 1 33 34,oL 3 36 1 35 [33,34,35],oP 4 37
(.neg (.t 36)) [36],oT 5 6 37 [37]])) (sK [32] .skip))) (.seq (sR [oT 0 38 6 [6],uT 1 39 0,oK 2 40 31 [.t 38,(.c (.int .i64 1)),.t 39] [38,39],oE 3 41 40 [40]] (sD 41 [0,1,5,41] [uY 0 4 false])) (sR [uZ 0 7 0] (.block 2
(.loop L30_1))))))) (sI 12 13 5)))
abbrev B30 : CCode := (sR [oY 0 4 false [4]] (sL 5 0 L30_0 (sR [uY 0 4 true] .ret)))
def C30 : CFn := ⟨68,2,[.t 4],B30⟩
abbrev B31 : CCode := (sR [oY 0 6 false [6]] (sR [uT 0 7 0,oT 1 8 1 [1],oB 2 9 .geq 7 8 [7,8],oT 3 10 9 [9],hT 4 11 0 10 [0],hT 5 12 2 10 [2],hB 6 13 .leq 11 12 10 [11,12],oA 7 14 10 13 [10,13],oT 8 6 14 [14]] .ret))
def C31 : CFn := ⟨15,3,[.t 6],B31⟩
abbrev B32 : CCode := (sR [oY 0 4 false [4]] (sR [oT 0 5 0 [0],oT 1 6 1 [1],oK 2 7 56 [.t 5,.t 6] [5,6],oC 3 8 .geq 7 0 [7],oT 4 4 8 [8]] .ret))
def C32 : CFn := ⟨9,2,[.t 4],B32⟩
abbrev B33 : CCode := (sR [oY 0 3 false [3]] (sR [oT 0 4 0 [0],uP 1 5 (.fn 35 [.t 1]),oK 2 6 34 [.t 4,.t 5] [1,4,5],oE 3 7 6 [6],oT 4 3 7 [7]] .ret))
def C33 : CFn := ⟨8,2,[.t 3],B33⟩
abbrev B34 : CCode := (sR [oY 0 4 false [4]] (sR [oT 0 5 0 [0],oT 1 6 1 [1],oK 2 7 57 [.t 5,.t 6] [5,6],oC 3 8 .geq 7 0 [7],oT 4 4 8 [8]] .ret))
def C34 : CFn := ⟨9,2,[.t 4],B34⟩
abbrev B35 : CCode := (sR [oY 0 3 false [3]] (sR [uL 0 4 1 1,oT 1 5 0 [0],oK 2 6 36 [.t 4,.t 5] [1,4,5],oT 3 3 6 [6]] .ret))
def C35 : CFn := ⟨7,2,[.t 3],B35⟩
abbrev B36 : CCode := (sR [oY 0 4 false [4]] (.seq (sR [uT 0 5 1,oC 1 6 .gtr 5 0 [5]] (sD 6 [6] [uT 0 7 1,uT 1 8 0,oN 2 9 8 [8],oB 3 10 .leq 7 9 [7,9],oT 4 11 10 [10],hT 5 12 0 11 [0],hT 6 13 1 11 [1],hC 7 14 .sub 13 1
11 [13],wI 8 15 1 12 14 11,hL 9 16 1 15 11 [12,14,15],oA 10 17 11 16 [11,16],oT 11 4 17 [17]])) (sR [uT 0 18 1,oC 1 19 .lss 18 0 [18],oT 2 20 19 [19],wT 3 21 1 20,wT 4 22 0 20,hN 5 23 22 20 [22],hG 6 24 (.neg (.t 23))
20 [23],hB 7 25 .geq 21 24 20 [21,24],oA 8 26 20 25 [20,25],oT 9 27 26 [26],hT 10 28 0 27 [0],hT 11 29 1 27 [1],hG 12 30 (.neg (.t 29)) 27 [29],hC 13 31 .sub 30 1 27 [30],wI 14 32 1 28 31 27,hL 15 33 1 32 27
[28,31,32],hE 16 34 33 27 [33],oA 17 35 27 34 [27,34],oT 18 4 35 [35]] .ret)))
def C36 : CFn := ⟨36,2,[.t 4],B36⟩
abbrev B37 : CCode := (sR [oQ 0 2 1 0 [0],oY 1 4 false [4]] (sR [uL 0 5 1 2,oK 1 6 58 [.t 5,(.c (.int .i64 0)),(.c (.int .i64 14))] [5],oT 2 7 6 [6],hT 3 8 1 7 [1],wG 4 9 (.fn 59 [.t 2]) 7,hK 5 10 32 [.t 8,.t 9] 7
[2,8,9],hE 6 11 10 7 [10],oA 7 12 7 11 [7,11],oT 8 4 12 [12]] .ret))
def C37 : CFn := ⟨13,2,[.t 4],B37⟩
abbrev B38 : CCode := (sR [oV 0 2 [2]] (.seq (sR [uT 0 3 0,oP 1 4 (.isnil false (.t 3)) [3]] (sD 4 [0,4] [uV 0 2])) (sR [uW 0 5 1 [.nils],oT 1 6 0 [0],oX 2 7 1 24 5 6 [5,6],oT 3 2 7 [7]] .ret)))
def C38 : CFn := ⟨8,1,[.t 2],B38⟩
abbrev L39_1 : CCode := (sR [uB 0 17 .lss 16 15] (.seq (sC 17 [14,15,16,17] 2) (.seq (.block 3 (sR [uI 0 18 1 14 16,oL 1 19 1 18 [18],oT 2 9 19 [19]] (.seq (sR [uT 0 20 9,uP 1 21 (.fn 61 [.t 6]),oK 2 22 34 [.t 20,.t 21]
[20,21]] (.cond (.t 22) (sK [9,22] (.exit 3)) (sK [22] .skip))) (sR [oT 0 23 9 [9],uL 1 24 1 6,oK 2 25 40 [.t 24] [24],oK 3 26 62 [.t 23,.t 25] [23,25],oT 4 10 26 [26]] (.seq (sR [uT 0 27 10,oN 1 28 27 [27],oC 2 29 .eql
28 0 [28]] (sD 29 [0,7,10,14,15,16,29] [uL 0 30 1 6,oT 1 4 30 [30],uY 2 5 true])) (sR [uT 0 31 10,oN 1 32 31 [31],oC 2 33 .eql 32 1 [32]] (.cond (.t 33) (sK [7,14,15,16,33] (.seq (.reg true [uL 0 34 1 6,oT 1 35 10
[10],uP 2 36 (.ia 1 (.t 35) (.c (.int .i64 0))),oL 3 37 1 36 [35,36],oP 4 38 (.bsl 1 1 [.int .i64 (0)] [(0,1,(.t 37))]) [37],oX 5 39 1 8 34 38 [34,38],oS 6 1 6 39 [39],uY 7 7 true]) (.exit 2))) (sK [10,33] .skip))))))))
(.reg false [oC 0 40 .add 16 1 [16],oT 1 16 40 [40]]))))
abbrev L39_0 : CCode := (.block 1 (sR [uY 0 7 false] (.seq (sR [uT 0 14 0,uN 1 15 14,uZ 2 16 0] (.block 2 (.loop L39_1))) (sR [oT 0 41 7 [7],oE 1 42 41 [41]] (sD 42 [0,42] [uL 0 43 1 6,oT 1 4 43 [43],uY 2 5 false])))))
abbrev B39 : CCode := (sR [oV 0 4 [4],oY 1 5 false [5]] (sR [uW 0 11 1 [.int .i64 (0)],oT 1 12 1 [1],oX 2 13 1 8 11 12 [11,12],uH 3 6 [.nils],oS 4 1 6 13 [13]] (.block 0 (.loop L39_0))))
def C39 : CFn := ⟨44,2,[.t 4,.t 5],B39⟩
abbrev L40_0 : CCode := (sR [uB 0 10 .lss 9 8] (.seq (sC 10 [7,8,9,10] 0) (.seq (.block 1 (sR [uI 0 11 1 7 9,oL 1 12 1 11 [11],oT 2 5 12 [12]] (.reg false [oT 0 13 3 [3],oT 1 14 5 [5],oP 2 15 (.neg (.t 14)) [14],oP 3 16
(.bsl 1 1 [.int .i64 (0)] [(0,1,(.t 15))]) [15],oX 4 17 1 8 13 16 [13,16],oT 5 3 17 [17]]))) (.reg false [oC 0 18 .add 9 1 [9],oT 1 9 18 [18]]))))
abbrev B40 : CCode := (sR [oV 0 2 [2]] (sR [uW 0 6 1 [.int .i64 (0)],oT 1 3 6 [6]] (.seq (sR [oT 0 7 0 [0],uN 1 8 7,uZ 2 9 0] (.block 0 (.loop L40_0))) (sR [oT 0 19 3 [3],oT 1 2 19 [19]] .ret))))
def C40 : CFn := ⟨20,1,[.t 2],B40⟩
abbrev L41_1 : CCode := (.seq (sR [uT 0 15 8,uT 1 16 0,oN 2 17 16 [16],oB 3 18 .lss 15 17 [15,17],oT 4 19 18 [18],wT 5 20 7 19,hE 6 21 20 19 [20],oA 7 22 19 21 [19,21]] (sC 22 [8,22] 2)) (.seq (.block 3 (sR [uT 0 26
0,uT 1 27 8,uI 2 28 1 26 27,oL 3 29 1 28 [28],uT 4 30 6,oK 5 31 63 [.t 29,.t 30] [26,27,29,30],oT 6 25 31 [31],uU 7 32 25 0,oU 8 33 25 1 [25],oT 9 9 32 [32],oT 10 10 33 [33]] (.seq (sR [oT 0 34 10 [10]] (.cond (.t 34)
(sK [9,34] (.exit 3)) (sK [34] .skip))) (.seq (sR [uT 0 35 9,oN 1 36 35 [35],oC 2 37 .eql 36 0 [36]] (sD 37 [0,7,8,9,37] [oT 0 38 6 [6],oT 1 4 38 [38],uY 2 5 true])) (sR [uT 0 39 9,oN 1 40 39 [39],oC 2 41 .eql 40 1
[40]] (.cond (.t 41) (sK [7,41] (sR [oT 0 42 6 [6],oT 1 43 9 [9],uP 2 44 (.ia 1 (.t 43) (.c (.int .i64 0))),oL 3 45 1 44 [43,44],oP 4 46 (.bsl 1 1 [.int .i64 (0)] [(0,1,(.t 45))]) [45],oX 5 47 1 8 42 46 [42,46],oT 6 6
47 [47]] (.reg false [uY 0 7 true]))) (sK [9,41] .skip))))))) (sI 23 24 8)))
abbrev L41_0 : CCode := (.seq (sR [oT 0 14 7 [7]] (sC 14 [0,14] 0)) (.block 1 (sR [uY 0 7 false] (sR [uZ 0 8 0] (.block 2 (.loop L41_1))))))
abbrev B41 : CCode := (sR [oV 0 4 [4],oY 1 5 false [5]] (sR [uW 0 11 1 [.int .i64 (0)],oT 1 12 1 [1],oX 2 13 1 8 11 12 [11,12],oT 3 6 13 [13]] (.seq (sR [uY 0 7 true] (.block 0 (.loop L41_0))) (sR [oT 0 48 6 [6],oT 1 4
48 [48],uY 2 5 false] .ret))))
def C41 : CFn := ⟨49,2,[.t 4,.t 5],B41⟩
abbrev L42_0 : CCode := (.seq (sR [uT 0 6 4,uT 1 7 0,oN 2 8 7 [7],oB 3 9 .lss 6 8 [6,8]] (sC 9 [0,4,9] 0)) (.seq (.block 1 (.reg false [oT 0 12 3 [3],uT 1 13 0,uT 2 14 4,uI 3 15 1 13 14,oL 4 16 1 15 [13,14,15],oP 5 17
(.neg (.t 16)) [16],oP 6 18 (.bsl 1 1 [.int .i64 (0)] [(0,1,(.t 17))]) [17],oX 7 19 1 8 12 18 [12,18],oT 8 3 19 [19]])) (sI 10 11 4)))
abbrev B42 : CCode := (sR [oV 0 2 [2]] (sR [uW 0 5 1 [.int .i64 (0)],oT 1 3 5 [5]] (sL 4 0 L42_0 (sR [oT 0 20 3 [3],oT 1 2 20 [20]] .ret))))
def C42 : CFn := ⟨21,1,[.t 2],B42⟩
abbrev L48_1 : CCode := (.seq (sR [uT 0 20 8,uT 1 21 4,oB 2 22 .leq 20 21 [20,21]] (sC 22 [8,22] 2)) (.seq (.block 3 (sR [uT 0 25 0,oK 1 26 65 [.t 25,(.c (.int .i64 2))] [25],oT 2 27 26 [26],wT 3 28 7 27,hN 4 29 28 27
[28],hC 5 30 .lss 29 3 27 [29],oA 6 31 27 30 [27,30]] (.cond (.t 31) (sK [31] (.reg false [oT 0 32 7 [7],uT 1 33 8,uT 2 34 0,oK 3 35 64 [.t 34,(.c (.int .i64 2))] [34],oP 4 36 (.bin .mul (.c (.int .i64 2)) (.t 35))
[35],oP 5 37 (.bin .sub (.c (.int .i64 1)) (.t 36)) [36],oB 6 38 .mul 33 37 [33,37],oP 7 39 (.bsl 1 1 [.int .i64 (0)] [(0,1,(.t 38))]) [38],oX 8 40 1 8 32 39 [32,39],oT 9 7 40 [40]])) (sK [31] .skip)))) (sI 23 24 8)))
abbrev L48_0 : CCode := (.seq (sR [uT 0 15 6,oC 1 16 .gtr 15 0 [15]] (sC 16 [6,16] 0)) (.seq (.block 1 (sR [uW 0 19 1 [.int .i64 (0)],oT 1 7 19 [19]] (.seq (sR [uZ 0 8 1] (.block 2 (.loop L48_1))) (.reg false [oT 0 41 5
[5],oT 1 42 7 [7],oP 2 43 (.bsl 1 1 [.nils] [(0,1,(.t 42))]) [42],oX 3 44 1 24 41 43 [41,43],oT 4 5 44 [44]])))) (.reg false [oT 0 17 6 [6],oC 1 18 .sub 17 1 [17],oT 2 6 18 [18]])))
abbrev B48 : CCode := (sR [oZ 0 2 0 [2],oV 1 3 [3]] (sR [uT 0 9 0,oK 1 10 64 [.t 9,(.c (.int .i64 5))] [9],oP 2 11 (.bin .add (.c (.int .i64 1)) (.t 10)) [10],oT 3 4 11 [11]] (sR [uW 0 12 1 [.nils],oT 1 5 12 [12]] (.seq
(sR [uT 0 13 0,oK 1 14 64 [.t 13,(.c (.int .i64 11))] [13],oT 2 6 14 [14]] (.block 0 (.loop L48_0))) (.seq (sR [uT 0 45 5,oN 1 46 45 [45],oC 2 47 .gtr 46 0 [46],oT 3 48 47 [47],wT 4 49 0 48,hK 5 50 65 [.t 49,(.c (.int
.i64 14))] 48 [49],oA 6 51 48 50 [48,50]] (.cond (.t 51) (sK [51] (.reg true [uT 0 52 5,uT 1 53 5,uP 2 54 (.ia 1 (.t 53) (.c (.int .i64 0))),uL 3 55 1 54,uT 4 56 0,uP 5 57 (.bsl 1 5 [.int .i64 (0)] [(0,1,(.c (.int .i64
0))),(1,1,(.c (.int .i64 6))),(2,1,(.c (.int .i64 (-7)))),(3,1,(.c (.int .i64 1))),(4,1,(.c (.int .i64 (-9223372036854775808))))]),(6,⟨some 58,.call 66 [.t 56,.t 57],none,[(54,1)],[54,56,57]⟩),oP 7 59 (.bsl 1 1 [.int
.i64 (0)] [(0,1,(.t 58))]) [58],oX 8 60 1 8 55 59 [53,55,59],uP 9 61 (.ia 1 (.t 52) (.c (.int .i64 0))),oS 10 1 61 60 [52,60,61]])) (sK [51] .skip))) (sR [oT 0 62 4 [4],oT 1 63 5 [5],oT 2 2 62 [62],oT 3 3 63 [63]]
.ret))))))
def C48 : CFn := ⟨64,1,[.t 2,.t 3],B48⟩
abbrev L49_0 : CCode := (.seq (sR [uT 0 8 4,uT 1 9 0,oN 2 10 9 [9],oB 3 11 .lss 8 10 [8,10],oT 4 12 11 [11],wT 5 13 4 12,hC 6 14 .lss 13 4000 12 [13],oA 7 15 12 14 [12,14]] (sC 15 [4,15] 0)) (.seq (.block 1 (.reg false
[oT 0 18 3 [3],oC 1 19 .mul 18 131 [18],uT 2 20 0,uT 3 21 4,uI 4 22 1 20 21,oL 5 23 1 22 [20,21,22],oP 6 24 (.conv .i64 (.t 23)) [23],oB 7 25 .add 19 24 [19,24],oC 8 26 .add 25 7 [25],oC 9 27 .and 26 1073741823 [26],oT
10 3 27 [27]])) (sI 16 17 4)))
abbrev B49 : CCode := (sR [oP 0 2 (.mv (.c (.nilp))) [2]] (sR [uT 0 5 0,oN 1 6 5 [5],oP 2 7 (.bin .add (.c (.int .i64 10101)) (.t 6)) [6],oT 3 3 7 [7]] (sL 4 0 L49_0 (sR [oT 0 28 0 [0],oT 1 29 3 [3],oP 2 30 (.bld
[.nils,.int .i64 (0),.int .i64 (0)] [(0,1,(.t 28)),(2,1,(.t 29))]) [28,29],oQ 3 31 3 30 [30],oT 4 2 31 [31]] .ret))))
def C49 : CFn := ⟨32,1,[.t 2],B49⟩
abbrev L50_0 : CCode := (sR [uB 0 12 .lss 11 10] (.seq (sC 12 [9,10,11,12] 0) (.seq (.block 1 (sR [uI 0 13 1 9 11,oL 1 14 1 13 [13],oT 2 5 14 [14]] (sR [oT 0 15 3 [3],oT 1 16 5 [5],oN 2 17 16 [16],oB 3 18 .add 15 17
[15,17],oT 4 3 18 [18]] (sR [uT 0 19 3,oC 1 20 .lss 19 0 [19]] (.cond (.t 20) (sK [20] (.reg false [oP 0 21 .fail [21],(1,⟨none,.fail,none,[],[]⟩)])) (sK [20] .skip)))))) (.reg false [oC 0 22 .add 11 1 [11],oT 1 11 22
[22]]))))
abbrev L50_1 : CCode := (sR [uB 0 28 .lss 27 26] (.seq (sC 28 [25,26,27,28] 2) (.seq (.block 3 (sR [uI 0 29 1 25 27,oL 1 30 1 29 [29],oT 2 8 30 [30]] (.reg false [oT 0 31 6 [6],oT 1 32 8 [8],oX 2 33 1 24 31 32
[31,32],oT 3 6 33 [33]]))) (.reg false [oC 0 34 .add 27 1 [27],oT 1 27 34 [34]]))))
abbrev B50 : CCode := (sR [oV 0 2 [2]] (sR [uZ 0 3 0] (.seq (sR [uT 0 9 0,uN 1 10 9,uZ 2 11 0] (.block 0 (.loop L50_0))) (sR [oT 0 23 3 [3],oK 1 24 67 [(.c (.nils)),.t 23] [23],oT 2 6 24 [24]] (.seq (sR [oT 0 25 0
[0],uN 1 26 25,uZ 2 27 0] (.block 2 (.loop L50_1))) (sR [oT 0 35 6 [6],oT 1 2 35 [35]] .ret))))))
def C50 : CFn := ⟨36,1,[.t 2],B50⟩
abbrev B51 : CCode := (sR [oV 0 4 [4]] (.seq (.reg true [uT 0 5 0,uT 1 6 0,uP 2 7 (.nc (.t 6)),oF 3 8 2 7 [7],uL 4 9 1 8,oT 5 10 1 [1],(6,⟨some 11,.call 40 [.t 10],none,[(8,1)],[8,10]⟩),oP 7 12 (.bsl 1 1 [.nils]
[(0,1,(.t 11))]) [11],oX 8 13 1 24 9 12 [6,9,12],uP 9 14 (.nc (.t 5)),oF 10 15 2 14 [14],oS 11 1 15 13 [5,13,15]]) (sR [uV 0 4] .ret)))
def C51 : CFn := ⟨16,2,[.t 4],B51⟩
abbrev B52 : CCode := (sR [oY 0 4 false [4]] (sR [oT 0 5 0 [0],oT 1 6 1 [1],oK 2 7 68 [.t 5,.t 6] [5,6],oC 3 8 .geq 7 0 [7],oT 4 4 8 [8]] .ret))
def C52 : CFn := ⟨9,2,[.t 4],B52⟩
abbrev B53 : CCode := (sR [oV 0 2 [2]] (.seq (sR [uT 0 3 0,oP 1 4 (.isnil false (.t 3)) [3]] (sD 4 [0,4] [uV 0 2])) (sR [uW 0 5 1 [.int .i64 (0)],oT 1 6 0 [0],oX 2 7 1 8 5 6 [5,6],oT 3 2 7 [7]] .ret)))
def C53 : CFn := ⟨8,1,[.t 2],B53⟩
abbrev B54 : CCode := (sR [oT 0 5 1 [1],oK 1 6 42 [.t 5] [5],oT 2 4 6 [6]] (sR [uT 0 7 0,uT 1 8 0,uP 2 9 (.nc (.t 8)),oF 3 10 1 9 [9],oL 4 11 1 10 [10],uT 5 12 4,oP 6 13 (.bsl 1 1 [.nils] [(0,1,(.t 12))]) [12],oX 7 14 1
24 11 13 [8,11,13],uP 8 15 (.nc (.t 7)),oF 9 16 1 15 [15],oS 10 1 16 14 [7,14,16]] (.reg false [uT 0 17 0,uT 1 18 0,uP 2 19 (.nc (.t 18)),oF 3 20 2 19 [19],oL 4 21 1 20 [20],oT 5 22 4 [4],oP 6 23 (.bsl 1 1 [.nils]
[(0,1,(.t 22))]) [22],oX 7 24 1 24 21 23 [18,21,23],uP 8 25 (.nc (.t 17)),oF 9 26 2 25 [25],oS 10 1 26 24 [17,24,26]])))
def C54 : CFn := ⟨27,2,[],B54⟩
abbrev L55_0 : CCode := (.seq (sR [uT 0 6 5,uT 1 7 0,oN 2 8 7 [7],oB 3 9 .lss 6 8 [6,8]] (sC 9 [0,1,5,9] 0)) (.seq (.block 1 (sR [uT 0 12 0,uT 1 13 5,uI 2 14 1 12 13,oL 3 15 1 14 [12,13,14],uT 4 16 1,oB 5 17 .eql 15 16
[15,16]] (sD 17 [0,1,5,17] [uY 0 4 true]))) (sI 10 11 5)))
abbrev B55 : CCode := (sR [oY 0 4 false [4]] (sL 5 0 L55_0 (sR [uY 0 4 false] .ret)))
def C55 : CFn := ⟨18,2,[.t 4],B55⟩
abbrev L56_0 : CCode := (sR [uB 0 9 .lss 8 7] (.seq (sC 9 [0,1,7,8,9] 0) (.seq (.block 1 (sR [uT 0 10 8,oT 1 5 10 [10]] (sR [uT 0 11 1,uT 1 12 0,uT 2 13 5,uI 3 14 1 12 13,oL 4 15 1 14 [14],oP 5 16 (.callv (.t 11) [.t
15]) [11,12,13,15]] (.cond (.t 16) (sK [0,1,7,8,16] (sR [oT 0 17 5 [5],oT 1 4 17 [17]] .ret)) (sK [5,16] .skip))))) (.reg false [oC 0 18 .add 8 1 [8],oT 1 8 18 [18]]))))
abbrev B56 : CCode := (sR [oZ 0 4 0 [4]] (.seq (sR [uT 0 6 0,oN 1 7 6 [6],uZ 2 8 0] (.block 0 (.loop L56_0))) (sR [uZ 0 4 (-1)] .ret)))
def C56 : CFn := ⟨19,2,[.t 4],B56⟩
abbrev L57_0 : CCode := (sR [uB 0 9 .lss 8 7] (.seq (sC 9 [0,1,7,8,9] 0) (.seq (.block 1 (sR [uT 0 10 8,oT 1 5 10 [10]] (sR [uT 0 11 1,uT 1 12 0,uT 2 13 5,uI 3 14 1 12 13,oL 4 15 1 14 [12,13,14],oP 5 16 (.callv (.t 11)
[.t 15]) [11,15]] (.cond (.t 16) (sK [0,1,7,8,16] (sR [oT 0 17 5 [5],oT 1 4 17 [17]] .ret)) (sK [5,16] .skip))))) (.reg false [oC 0 18 .add 8 1 [8],oT 1 8 18 [18]]))))
abbrev B57 : CCode := (sR [oZ 0 4 0 [4]] (.seq (sR [uT 0 6 0,oN 1 7 6 [6],uZ 2 8 0] (.block 0 (.loop L57_0))) (sR [uZ 0 4 (-1)] .ret)))
def C57 : CFn := ⟨19,2,[.t 4],B57⟩
abbrev B58 : CCode := (sR [oY 0 6 false [6]] (sR [oT 0 7 1 [1],uT 1 8 0,oB 2 9 .leq 7 8 [7,8],oT 3 10 9 [9],hT 4 11 0 10 [0],hT 5 12 2 10 [2],hB 6 13 .leq 11 12 10 [11,12],oA 7 14 10 13 [10,13],oT 8 6 14 [14]] .ret))
def C58 : CFn := ⟨15,3,[.t 6],B58⟩
abbrev B59 : CCode := (sR [oY 0 3 false [3]] (sR [oL 0 4 1 1 [1],oT 1 5 0 [0],oK 2 6 60 [.t 4,.t 5] [4,5],oE 3 7 6 [6],oT 4 3 7 [7]] .ret))
def C59 : CFn := ⟨8,2,[.t 3],B59⟩
abbrev L60_0 : CCode := (sR [uB 0 10 .lss 9 8] (.seq (sC 10 [0,1,7,8,9,10] 0) (.seq (.block 1 (sR [uT 0 11 9,uI 1 12 1 7 9,oL 2 13 1 12 [12],oT 3 5 11 [11],oT 4 6 13 [13]] (sR [uT 0 14 6,oC 1 15 .eql 14 0 [14],oT 2 16
15 [15],vT 3 17 6 16,vT 4 18 0 16,gG 5 19 (.neg (.t 18)) 16 [18],vT 6 20 0 16,gK 7 21 58 [.t 17,.t 19,.t 20] 16 [17,19,20],gE 8 22 21 16 [21],oO 9 23 16 22 [16,22],oT 10 24 23 [23],vT 11 25 1 24,vT 12 26 5 24,gG 13 27
(.sls 1 (.t 25) none (some (.t 26)) none) 24 [25,26],vT 14 28 6 24,gK 15 29 52 [.t 27,.t 28] 24 [27,28],oO 16 30 24 29 [24,29],oT 17 31 30 [30],vT 18 32 1 31,gT 19 33 5 31 [5],gG 20 34 (.sls 1 (.t 32) none (some (.t
33)) none) 31 [32,33],gT 21 35 6 31 [6],gG 22 36 (.neg (.t 35)) 31 [35],gK 23 37 52 [.t 34,.t 36] 31 [34,36],oO 24 38 31 37 [31,37]] (sD 38 [0,1,7,8,9,38] [uY 0 4 false])))) (.reg false [oC 0 39 .add 9 1 [9],oT 1 9 39
[39]]))))
abbrev B60 : CCode := (sR [oY 0 4 false [4]] (.seq (sR [uT 0 7 1,uN 1 8 7,uZ 2 9 0] (.block 0 (.loop L60_0))) (sR [uY 0 4 true] .ret)))
def C60 : CFn := ⟨40,2,[.t 4],B60⟩
abbrev B61 : CCode := (sR [oY 0 3 false [3]] (sR [uL 0 4 1 1,oT 1 5 0 [0],oK 2 6 52 [.t 4,.t 5] [1,4,5],oT 3 3 6 [6]] .ret))
def C61 : CFn := ⟨7,2,[.t 3],B61⟩
abbrev L62_0 : CCode := (sR [uB 0 12 .lss 11 10] (.seq (sC 12 [1,9,10,11,12] 0) (.seq (.block 1 (sR [uI 0 13 1 9 11,oL 1 14 1 13 [13],oT 2 7 14 [14]] (sR [uT 0 15 1,uT 1 16 7,oK 2 17 52 [.t 15,.t 16] [15,16],oE 3 18 17
[17]] (.cond (.t 18) (sK [18] (.reg false [oT 0 19 5 [5],oT 1 20 7 [7],oP 2 21 (.bsl 1 1 [.int .i64 (0)] [(0,1,(.t 20))]) [20],oX 3 22 1 8 19 21 [19,21],oT 4 5 22 [22]])) (sK [7,18] .skip))))) (.reg false [oC 0 23 .add
11 1 [11],oT 1 11 23 [23]]))))
abbrev B62 : CCode := (sR [oV 0 4 [4]] (sR [uW 0 8 1 [.int .i64 (0)],oT 1 5 8 [8]] (.seq (sR [oT 0 9 0 [0],uN 1 10 9,uZ 2 11 0] (.block 0 (.loop L62_0))) (sR [oT 0 24 5 [5],oT 1 4 24 [24]] .ret))))
def C62 : CFn := ⟨25,2,[.t 4],B62⟩
abbrev L63_0 : CCode := (.seq (sR [uT 0 9 7,uT 1 10 0,oN 2 11 10 [10],oB 3 12 .lss 9 11 [9,11]] (sC 12 [0,1,7,12] 0)) (.seq (.block 1 (.seq (sR [uT 0 15 1,uT 1 16 0,uT 2 17 7,uI 3 18 1 16 17,oL 4 19 1 18 [16,17,18],oK 5
20 55 [.t 15,.t 19] [15,19]] (sD 20 [0,1,7,20] [oT 0 21 6 [6],oT 1 4 21 [21],uY 2 5 true])) (sR [uT 0 22 1,uT 1 23 0,uT 2 24 7,uI 3 25 1 23 24,oL 4 26 1 25 [23,24,25],oP 5 27 (.neg (.t 26)) [26],oK 6 28 55 [.t 22,.t 27]
[22,27],oE 7 29 28 [28]] (.cond (.t 29) (sK [29] (.reg false [oT 0 30 6 [6],uT 1 31 0,uT 2 32 7,uI 3 33 1 31 32,oL 4 34 1 33 [31,32,33],oP 5 35 (.bsl 1 1 [.int .i64 (0)] [(0,1,(.t 34))]) [34],oX 6 36 1 8 30 35
[30,35],oT 7 6 36 [36]])) (sK [29] .skip))))) (sI 13 14 7)))
abbrev B63 : CCode := (sR [oV 0 4 [4],oY 1 5 false [5]] (sR [uW 0 8 1 [.int .i64 (0)],oT 1 6 8 [8]] (sL 7 0 L63_0 (sR [oT 0 37 6 [6],oT 1 4 37 [37],uY 2 5 false] .ret))))
def C63 : CFn := ⟨38,2,[.t 4,.t 5],B63⟩
abbrev B64 : CCode := (sR [oZ 0 4 0 [4]] (.seq (sR [uT 0 9 1,oC 1 10 .leq 9 0 [9]] (sD 10 [1,10] [uZ 0 4 0])) (.seq (sR [uT 0 11 1,oC 1 12 .leq 11 256 [11]] (sD 12 [12] [uT 0 13 0,oK 1 14 69 [.t 13] [13],oT 2 15 1
[1],oB 3 16 .rem 14 15 [14,15],oT 4 4 16 [16]])) (sR [uT 0 17 0,oK 1 18 69 [.t 17] [17],oT 2 5 18 [18]] (sR [uT 0 19 0,oK 1 20 69 [.t 19] [19],oT 2 6 20 [20]] (sR [uT 0 21 0,oK 1 22 69 [.t 21] [21],oT 2 7 22 [22]] (sR
[uT 0 23 0,oK 1 24 69 [.t 23] [23],oT 2 8 24 [24]] (sR [oT 0 25 5 [5],oC 1 26 .mul 25 16777216 [25],oT 2 27 6 [6],oC 3 28 .mul 27 65536 [27],oB 4 29 .add 26 28 [26,28],oT 5 30 7 [7],oC 6 31 .mul 30 256 [30],oB 7 32 .add
29 31 [29,31],oT 8 33 8 [8],oB 9 34 .add 32 33 [32,33],oT 10 35 1 [1],oB 11 36 .rem 34 35 [34,35],oT 12 4 36 [36]] .ret))))))))
def C64 : CFn := ⟨37,2,[.t 4],B64⟩
abbrev B65 : CCode := (sR [oY 0 4 false [4]] (sR [uT 0 5 0,oT 1 6 1 [1],oK 2 7 64 [.t 5,.t 6] [5,6],oC 3 8 .eql 7 0 [7],oT 4 4 8 [8]] .ret))
def C65 : CFn := ⟨9,2,[.t 4],B65⟩
abbrev B66 : CCode := (sR [oZ 0 4 0 [4]] (sR [uT 0 5 1,uT 1 6 0,uT 2 7 1,oN 3 8 7 [7],oK 4 9 64 [.t 6,.t 8] [6,8],uI 5 10 1 5 9,oL 6 11 1 10 [5,9,10],oT 7 4 11 [11]] .ret))
def C66 : CFn := ⟨12,2,[.t 4],B66⟩
abbrev B67 : CCode := (sR [oV 0 4 [4]] (.seq (sR [uT 0 5 1,oC 1 6 .lss 5 0 [5]] (.cond (.t 6) (sK [6] (.reg false [oP 0 7 .fail [7],(1,⟨none,.fail,none,[],[]⟩)])) (sK [6] .skip))) (.seq (sR [oT 0 8 1 [1],uT 1 9 0,oP 2
10 (.cap (.t 9)) [9],uT 3 11 0,oN 4 12 11 [11],oB 5 13 .sub 10 12 [10,12],oB 6 14 .sub 8 13 [8,13],oT 7 1 14 [14]] (sR [uT 0 15 1,oC 1 16 .gtr 15 0 [15]] (.cond (.t 16) (sK [16] (.reg false [uT 0 17 0,uT 1 18 0,oP 2 19
(.cap (.t 18)) [18],oP 3 20 (.sls 1 (.t 17) none (some (.t 19)) none) [17,19],oT 4 21 1 [1],oP 5 22 (.appm 1 24 [.nils] (.t 20) (.t 21)) [20,21],oT 6 23 0 [0],oN 7 24 23 [23],oP 8 25 (.sls 1 (.t 22) none (some (.t 24))
none) [22,24],oT 9 0 25 [25]])) (sK [1,16] .skip)))) (sR [oT 0 26 0 [0],oT 1 4 26 [26]] .ret))))
def C67 : CFn := ⟨27,2,[.t 4],B67⟩
abbrev L68_0 : CCode := (sR [uB 0 9 .lss 8 7] (.seq (sC 9 [0,1,7,8,9] 0) (.seq (.block 1 (sR [uT 0 10 8,oT 1 5 10 [10]] (sR [uT 0 11 1,uT 1 12 0,uT 2 13 5,uI 3 14 1 12 13,oL 4 15 1 14 [12,13,14],oB 5 16 .eql 11 15
[11,15]] (.cond (.t 16) (sK [0,1,7,8,16] (sR [oT 0 17 5 [5],oT 1 4 17 [17]] .ret)) (sK [5,16] .skip))))) (.reg false [oC 0 18 .add 8 1 [8],oT 1 8 18 [18]]))))
abbrev B68 : CCode := (sR [oZ 0 4 0 [4]] (.seq (sR [uT 0 6 0,oN 1 7 6 [6],uZ 2 8 0] (.block 0 (.loop L68_0))) (sR [uZ 0 4 (-1)] .ret)))
def C68 : CFn := ⟨19,2,[.t 4],B68⟩
abbrev B69 : CCode := (sR [oZ 0 2 0 [2]] (sR [uT 0 4 0,uT 1 5 0,uP 2 6 (.nc (.t 5)),oF 3 7 2 6 [6],oL 4 8 1 7 [5,7],oC 5 9 .mul 8 6364136223846793005 [8],oC 6 10 .add 9 1442695040888963407 [9],uP 7 11 (.nc (.t 4)),oF 8
12 2 11 [11],oS 9 1 12 10 [4,10,12]] (.seq (.reg true [uT 0 13 0,uP 1 14 (.nc (.t 13)),oF 2 15 2 14 [14],oL 3 16 1 15 [13,15],oP 4 17 (.bin .shr (.t 16) (.c (.int .u64 (33)))) [16],uT 5 18 0,uP 6 19 (.nc (.t 18)),oF 7
20 2 19 [19],oL 8 21 1 20 [18,20],oP 9 22 (.bin .shr (.t 21) (.c (.int .u64 (45)))) [21],oB 10 23 .xor 17 22 [17,22],oC 11 24 .and 23 255 [23],oT 12 3 24 [24]]) (.seq (.seq (.reg true [uT 0 25 0,uP 1 26 (.nc (.t 25)),oF
2 27 1 26 [26],oL 3 28 1 27 [25,27],uT 4 29 0,uP 5 30 (.nc (.t 29)),oF 6 31 0 30 [30],oL 7 32 1 31 [31],oN 8 33 32 [29,32],oB 9 34 .lss 28 33 [28,33]]) (.cond (.t 34) (sK [34] (.seq (.reg true [oT 0 35 3 [3],uT 1 36
0,uP 2 37 (.nc (.t 36)),oF 3 38 0 37 [37],oL 4 39 1 38 [38],uT 5 40 0,uP 6 41 (.nc (.t 40)),oF 7 42 1 41 [41],oL 8 43 1 42 [40,42],oI 9 44 1 39 43 [39],oL 10 45 1 44 [36,43,44],oP 11 46 (.conv .i64 (.t 45)) [45],oB 12
47 .add 35 46 [35,46],oC 13 48 .and 47 255 [47],oT 14 3 48 [48]]) (.reg false [uT 0 49 0,uT 1 50 0,uP 2 51 (.nc (.t 50)),oF 3 52 1 51 [51],oL 4 53 1 52 [50,52],oC 5 54 .add 53 1 [53],uP 6 55 (.nc (.t 49)),oF 7 56 1 55
[55],oS 8 1 56 54 [49,54,56]]))) (sK [34] .skip))) (sR [oT 0 57 3 [3],oT 1 2 57 [57]] .ret)))))
def C69 : CFn := ⟨58,1,[.t 2],B69⟩ def Tab (f : Nat) : Option CFn :=
  match f with
  |3=>C3
  |5=>C5
  |6=>C6
  |7=>C7
  |8=>C8
  |9=>C9
  |10=>C10
  |11=>C11
  |12=>C12
  |13=>C13
  |14=>C14
  |15=>C15
  |16=>C16
  |25=>C25
  |26=>C26
  |27=>C27
  |28=>C28
  |29=>C29
  |30=>C30
  |31=>C31
  |32=>C32
  |33=>C33
  |34=>C34
  |35=>C35
  |36=>C36
  |37=>C37
  |38=>C38
  |39=>C39
  |40=>C40
  |41=>C41
  |42=>C42
  |48=>C48
  |49=>C49
  |50=>C50
  |51=>C51
  |52=>C52
  |53=>C53
  |54=>C54
  |55=>C55
  |56=>C56
  |57=>C57
  |58=>C58
  |59=>C59
  |60=>C60
  |61=>C61
  |62=>C62
  |63=>C63
  |64=>C64
  |65=>C65
  |66=>C66
  |67=>C67
  |68=>C68
  |69=>C69
  | _ => none
theorem tabOk : TabOk Go.Proofs.Try.prog Tab := by
  intro f cf h
  unfold Tab at h
  split at h <;> simp only [Option.some.injEq, reduceCtorEq] at h <;> subst h <;> kernel_rfl

end Go.Proofs.YtjfeimhiiomgoaaH
