import Derived.Test.YtjfeimhiiomgoaaGreatDoorX3
import Derived.Test.YtjfeimhiiomgoaaGreatDoorProg
set_option linter.unusedVariables false
set_option maxRecDepth 100000
namespace Go.Proofs.YtjfeimhiiomgoaaGreatDoorH
open Go
noncomputable abbrev pG := Go.Proofs.Tryz.prog
abbrev sR (l : List (Nat × COper)) (c : CCode) : CCode := .seq (.reg false l) c
abbrev sK (l : List Nat) (c : CCode) : CCode := .seq (.kill l) c
@[simp] abbrev gA (i d : Nat) (a b : Nat) (g : Nat) (k : List Nat) : Nat × COper := (i, ⟨some d, .pick (.t a) (.t b) (.c (.bool false)), some (g, false), [], k⟩)
@[simp] abbrev gB (i d : Nat) (o : BinOp) (a b : Nat) (g : Nat) (k : List Nat) : Nat × COper := (i, ⟨some d, .bin o (.t a) (.t b), some (g, false), [], k⟩)
@[simp] abbrev gC (i d : Nat) (o : BinOp) (a : Nat) (n : Int) (g : Nat) (k : List Nat) : Nat × COper := (i, ⟨some d, .bin o (.t a) (.c (.int .i64 n)), some (g, false), [], k⟩)
@[simp] abbrev gE (i d : Nat) (a : Nat) (g : Nat) (k : List Nat) : Nat × COper := (i, ⟨some d, .not (.t a), some (g, false), [], k⟩)
@[simp] abbrev gF (i d : Nat) (w a : Nat) (g : Nat) (k : List Nat) : Nat × COper := (i, ⟨some d, .fa w (.t a), some (g, false), [], k⟩)
@[simp] abbrev gG (i d : Nat) (p : COp) (g : Nat) (k : List Nat) : Nat × COper := (i, ⟨some d, p, some (g, false), [], k⟩)
@[simp] abbrev gK (i d : Nat) (f : Nat) (l : List Opd) (g : Nat) (k : List Nat) : Nat × COper := (i, ⟨some d, .call f l, some (g, false), [], k⟩)
@[simp] abbrev gL (i d : Nat) (w a : Nat) (g : Nat) (k : List Nat) : Nat × COper := (i, ⟨some d, .ld w false (.t a), some (g, false), [], k⟩)
@[simp] abbrev gN (i d : Nat) (a : Nat) (g : Nat) (k : List Nat) : Nat × COper := (i, ⟨some d, .len (.t a), some (g, false), [], k⟩)
@[simp] abbrev gT (i d : Nat) (a : Nat) (g : Nat) (k : List Nat) : Nat × COper := (i, ⟨some d, .mv (.t a), some (g, false), [], k⟩)
@[simp] abbrev hB (i d : Nat) (o : BinOp) (a b : Nat) (g : Nat) (k : List Nat) : Nat × COper := (i, ⟨some d, .bin o (.t a) (.t b), some (g, true), [], k⟩)
@[simp] abbrev hC (i d : Nat) (o : BinOp) (a : Nat) (n : Int) (g : Nat) (k : List Nat) : Nat × COper := (i, ⟨some d, .bin o (.t a) (.c (.int .i64 n)), some (g, true), [], k⟩)
@[simp] abbrev hE (i d : Nat) (a : Nat) (g : Nat) (k : List Nat) : Nat × COper := (i, ⟨some d, .not (.t a), some (g, true), [], k⟩)
@[simp] abbrev hF (i d : Nat) (w a : Nat) (g : Nat) (k : List Nat) : Nat × COper := (i, ⟨some d, .fa w (.t a), some (g, true), [], k⟩)
@[simp] abbrev hG (i d : Nat) (p : COp) (g : Nat) (k : List Nat) : Nat × COper := (i, ⟨some d, p, some (g, true), [], k⟩)
@[simp] abbrev hI (i d : Nat) (w a b : Nat) (g : Nat) (k : List Nat) : Nat × COper := (i, ⟨some d, .ia w (.t a) (.t b), some (g, true), [], k⟩)
@[simp] abbrev hK (i d : Nat) (f : Nat) (l : List Opd) (g : Nat) (k : List Nat) : Nat × COper := (i, ⟨some d, .call f l, some (g, true), [], k⟩)
@[simp] abbrev hL (i d : Nat) (w a : Nat) (g : Nat) (k : List Nat) : Nat × COper := (i, ⟨some d, .ld w false (.t a), some (g, true), [], k⟩)
@[simp] abbrev hM (i d : Nat) (w a : Nat) (g : Nat) (k : List Nat) : Nat × COper := (i, ⟨some d, .ld w true (.t a), some (g, true), [], k⟩)
@[simp] abbrev hN (i d : Nat) (a : Nat) (g : Nat) (k : List Nat) : Nat × COper := (i, ⟨some d, .len (.t a), some (g, true), [], k⟩)
@[simp] abbrev hT (i d : Nat) (a : Nat) (g : Nat) (k : List Nat) : Nat × COper := (i, ⟨some d, .mv (.t a), some (g, true), [], k⟩)
@[simp] abbrev oA (i d : Nat) (a b : Nat) (k : List Nat) : Nat × COper := (i, ⟨some d, .pick (.t a) (.t b) (.c (.bool false)), none, [], k⟩)
@[simp] abbrev oB (i d : Nat) (o : BinOp) (a b : Nat) (k : List Nat) : Nat × COper := (i, ⟨some d, .bin o (.t a) (.t b), none, [], k⟩)
@[simp] abbrev oC (i d : Nat) (o : BinOp) (a : Nat) (n : Int) (k : List Nat) : Nat × COper := (i, ⟨some d, .bin o (.t a) (.c (.int .i64 n)), none, [], k⟩)
@[simp] abbrev oE (i d : Nat) (a : Nat) (k : List Nat) : Nat × COper := (i, ⟨some d, .not (.t a), none, [], k⟩)
@[simp] abbrev oF (i d : Nat) (w a : Nat) (k : List Nat) : Nat × COper := (i, ⟨some d, .fa w (.t a), none, [], k⟩)
@[simp] abbrev oI (i d : Nat) (w a b : Nat) (k : List Nat) : Nat × COper := (i, ⟨some d, .ia w (.t a) (.t b), none, [], k⟩)
@[simp] abbrev oK (i d : Nat) (f : Nat) (l : List Opd) (k : List Nat) : Nat × COper := (i, ⟨some d, .call f l, none, [], k⟩)
@[simp] abbrev oL (i d : Nat) (w a : Nat) (k : List Nat) : Nat × COper := (i, ⟨some d, .ld w false (.t a), none, [], k⟩)
@[simp] abbrev oM (i d : Nat) (w a : Nat) (k : List Nat) : Nat × COper := (i, ⟨some d, .ld w true (.t a), none, [], k⟩)
@[simp] abbrev oN (i d : Nat) (a : Nat) (k : List Nat) : Nat × COper := (i, ⟨some d, .len (.t a), none, [], k⟩)
@[simp] abbrev oO (i d : Nat) (a b : Nat) (k : List Nat) : Nat × COper := (i, ⟨some d, .pick (.t a) (.c (.bool true)) (.t b), none, [], k⟩)
@[simp] abbrev oP (i d : Nat) (p : COp) (k : List Nat) : Nat × COper := (i, ⟨some d, p, none, [], k⟩)
@[simp] abbrev oQ (i d : Nat) (w a : Nat) (k : List Nat) : Nat × COper := (i, ⟨some d, .box w (.t a), none, [], k⟩)
@[simp] abbrev oS (i w a b : Nat) (k : List Nat) : Nat × COper := (i, ⟨none, .st w (.t a) (.t b), none, [], k⟩)
@[simp] abbrev oT (i d : Nat) (a : Nat) (k : List Nat) : Nat × COper := (i, ⟨some d, .mv (.t a), none, [], k⟩)
@[simp] abbrev oU (i d : Nat) (a n : Nat) (k : List Nat) : Nat × COper := (i, ⟨some d, .ex (.t a) n, none, [], k⟩)
@[simp] abbrev oV (i d : Nat) (k : List Nat) : Nat × COper := (i, ⟨some d, .mv (.c .nils), none, [], k⟩)
@[simp] abbrev oX (i d : Nat) (w n a b : Nat) (k : List Nat) : Nat × COper := (i, ⟨some d, .app w n (.t a) (.t b), none, [], k⟩)
@[simp] abbrev oY (i d : Nat) (b : Bool) (k : List Nat) : Nat × COper := (i, ⟨some d, .mv (.c (.bool b)), none, [], k⟩)
@[simp] abbrev oZ (i d : Nat) (n : Int) (k : List Nat) : Nat × COper := (i, ⟨some d, .mv (.c (.int .i64 n)), none, [], k⟩)
@[simp] abbrev uB (i d : Nat) (o : BinOp) (a b : Nat) : Nat × COper := (i, ⟨some d, .bin o (.t a) (.t b), none, [], []⟩)
@[simp] abbrev uC (i d : Nat) (o : BinOp) (a : Nat) (n : Int) : Nat × COper := (i, ⟨some d, .bin o (.t a) (.c (.int .i64 n)), none, [], []⟩)
@[simp] abbrev uF (i d : Nat) (w a : Nat) : Nat × COper := (i, ⟨some d, .fa w (.t a), none, [], []⟩)
@[simp] abbrev uH (i d : Nat) (l : List AV) : Nat × COper := (i, ⟨some d, .al l, none, [], []⟩)
@[simp] abbrev uI (i d : Nat) (w a b : Nat) : Nat × COper := (i, ⟨some d, .ia w (.t a) (.t b), none, [], []⟩)
@[simp] abbrev uL (i d : Nat) (w a : Nat) : Nat × COper := (i, ⟨some d, .ld w false (.t a), none, [], []⟩)
@[simp] abbrev uM (i d : Nat) (w a : Nat) : Nat × COper := (i, ⟨some d, .ld w true (.t a), none, [], []⟩)
@[simp] abbrev uN (i d : Nat) (a : Nat) : Nat × COper := (i, ⟨some d, .len (.t a), none, [], []⟩)
@[simp] abbrev uP (i d : Nat) (p : COp) : Nat × COper := (i, ⟨some d, p, none, [], []⟩)
@[simp] abbrev uT (i d : Nat) (a : Nat) : Nat × COper := (i, ⟨some d, .mv (.t a), none, [], []⟩)
@[simp] abbrev uU (i d : Nat) (a n : Nat) : Nat × COper := (i, ⟨some d, .ex (.t a) n, none, [], []⟩)
@[simp] abbrev uV (i d : Nat) : Nat × COper := (i, ⟨some d, .mv (.c .nils), none, [], []⟩)
@[simp] abbrev uW (i d : Nat) (w : Nat) (l : List AV) : Nat × COper := (i, ⟨some d, .bsl w 0 l [], none, [], []⟩)
@[simp] abbrev uY (i d : Nat) (b : Bool) : Nat × COper := (i, ⟨some d, .mv (.c (.bool b)), none, [], []⟩)
@[simp] abbrev uZ (i d : Nat) (n : Int) : Nat × COper := (i, ⟨some d, .mv (.c (.int .i64 n)), none, [], []⟩)
@[simp] abbrev vF (i d : Nat) (w a : Nat) (g : Nat) : Nat × COper := (i, ⟨some d, .fa w (.t a), some (g, false), [], []⟩)
@[simp] abbrev vG (i d : Nat) (p : COp) (g : Nat) : Nat × COper := (i, ⟨some d, p, some (g, false), [], []⟩)
@[simp] abbrev vI (i d : Nat) (w a b : Nat) (g : Nat) : Nat × COper := (i, ⟨some d, .ia w (.t a) (.t b), some (g, false), [], []⟩)
@[simp] abbrev vL (i d : Nat) (w a : Nat) (g : Nat) : Nat × COper := (i, ⟨some d, .ld w false (.t a), some (g, false), [], []⟩)
@[simp] abbrev vM (i d : Nat) (w a : Nat) (g : Nat) : Nat × COper := (i, ⟨some d, .ld w true (.t a), some (g, false), [], []⟩)
@[simp] abbrev vT (i d : Nat) (a : Nat) (g : Nat) : Nat × COper := (i, ⟨some d, .mv (.t a), some (g, false), [], []⟩)
@[simp] abbrev wF (i d : Nat) (w a : Nat) (g : Nat) : Nat × COper := (i, ⟨some d, .fa w (.t a), some (g, true), [], []⟩)
@[simp] abbrev wI (i d : Nat) (w a b : Nat) (g : Nat) : Nat × COper := (i, ⟨some d, .ia w (.t a) (.t b), some (g, true), [], []⟩)
@[simp] abbrev wL (i d : Nat) (w a : Nat) (g : Nat) : Nat × COper := (i, ⟨some d, .ld w false (.t a), some (g, true), [], []⟩)
@[simp] abbrev wM (i d : Nat) (w a : Nat) (g : Nat) : Nat × COper := (i, ⟨some d, .ld w true (.t a), some (g, true), [], []⟩)
@[simp] abbrev wT (i d : Nat) (a : Nat) (g : Nat) : Nat × COper := (i, ⟨some d, .mv (.t a), some (g, true), [], []⟩)
abbrev sI (a b x : Nat) : CCode := .reg false [oT 0 a x [x],oC 1 b .add a 1 [a],oT 2 x b [b]]
abbrev sC (t : Nat) (k : List Nat) (n : Nat) : CCode := .cond (.t t) (.seq (.kill [t]) .skip) (.seq (.kill k) (.exit n))
abbrev sD (t : Nat) (k : List Nat) (l : List (Nat × COper)) : CCode := .cond (.t t) (.seq (.kill k) (.seq (.reg false l) .ret)) (.seq (.kill [t]) .skip)
abbrev sL (x k : Nat) (l c : CCode) : CCode := .seq (.seq (.reg false [uZ 0 x 0]) (.block k (.loop l))) c
abbrev L3_1 : CCode := (.seq (sR [uT 0 69 11,uT 1 70 5,uT 2 71 10,uI 3 72 4 70 71,oF 4 73 2 72 [72],oL 5 74 1 73 [73],oN 6 75 74 [70,71,74],oB 7 76 .lss 69 75 [69,75]] (sC 76 [11,76] 2)) (.seq (.block 3 (sR [uT 0 79
9,uT 1 80 5,uT 2 81 10,uI 3 82 4 80 81,oF 4 83 2 82 [82],oL 5 84 1 83 [83],uT 6 85 11,oI 7 86 1 84 85 [84],oL 8 87 1 86 [80,81,85,86],oK 9 88 11 [.t 79,.t 87] [79,87]] (sD 88 [3,4,5,9,10,11,88] [uY 0 2 false]))) (sI 77
78 11)))
abbrev L3_2 : CCode := (.seq (sR [uT 0 103 13,uT 1 104 12,oN 2 105 104 [104],oB 3 106 .lss 103 105 [103,105]] (sC 106 [12,13,106] 4)) (.seq (.block 5 (sR [uT 0 109 9,uT 1 110 12,uT 2 111 13,uI 3 112 1 110 111,oL 4 113 1
112 [110,111,112],oK 5 114 11 [.t 109,.t 113] [109,113],oE 6 115 114 [114]] (sD 115 [3,4,5,9,10,12,13,115] [uY 0 2 false]))) (sI 107 108 13)))
abbrev L3_3 : CCode := (.seq (sR [uT 0 116 14,uT 1 117 5,uT 2 118 10,uI 3 119 4 117 118,oF 4 120 3 119 [119],oL 5 121 1 120 [120],oN 6 122 121 [117,118,121],oB 7 123 .lss 116 122 [116,122]] (sC 123 [14,123] 6)) (.seq
(.block 7 (sR [uT 0 126 9,uT 1 127 5,uT 2 128 10,uI 3 129 4 127 128,oF 4 130 3 129 [129],oL 5 131 1 130 [130],uT 6 132 14,oI 7 133 1 131 132 [131],oL 8 134 1 133 [127,128,132,133],oK 9 135 11 [.t 126,.t 134] [126,134]]
(sD 135 [3,4,5,9,10,14,135] [uY 0 2 false]))) (sI 124 125 14)))
abbrev L3_0 : CCode := (.seq (sR [uT 0 63 10,uT 1 64 5,oN 2 65 64 [64],oB 3 66 .lss 63 65 [63,65]] (sC 66 [10,66] 0)) (.seq (.block 1 (sL 11 2 L3_1 (sR [oT 0 89 9 [9],uT 1 90 5,uT 2 91 10,uI 3 92 4 90 91,oF 4 93 2 92
[92],oL 5 94 1 93 [93],oX 6 95 1 8 89 94 [89,90,91,94],oT 7 9 95 [95]] (sR [uT 0 96 3,uT 1 97 5,uT 2 98 10,uI 3 99 4 97 98,oF 4 100 0 99 [99],oM 5 101 2 100 [100],oK 6 102 12 [.t 96,.t 101] [96,97,98,101],oT 7 12 102
[102]] (sL 13 4 L3_2 (sL 14 6 L3_3 (.reg false [oT 0 136 9 [9],uT 1 137 5,uT 2 138 10,uI 3 139 4 137 138,oF 4 140 3 139 [139],oL 5 141 1 140 [140],oX 6 142 1 8 136 141 [136,137,138,141],oT 7 9 142 [142]]))))))) (sI 67
68 10)))
abbrev B3 : CCode := (sR [oY 0 2 false [2]] (.seq (sR [uT 0 15 0,oK 1 16 4 [.t 15] [15]] (sD 16 [0,16] [uY 0 2 true])) (sR [oT 0 18 0 [0],oK 1 19 5 [.t 18] [18],oT 2 17 19 [19],uU 3 20 17 0,oU 4 21 17 1 [17],uH 5 4
[.int .i64 (0),.nils,.nils],oT 6 3 20 [20],oS 7 3 4 21 [21]] (sR [uT 0 23 3,uM 1 24 3 4,oK 2 25 6 [.t 23,.t 24] [23,24],oT 3 22 25 [25],uU 4 26 22 0,oU 5 27 22 1 [22],oT 6 5 26 [26],oT 7 6 27 [27]] (sR [uT 0 29 3,uM 1
30 3 4,oK 2 31 7 [.t 29,.t 30] [29,30],oT 3 28 31 [31],uU 4 32 28 0,oU 5 33 28 1 [28],oT 6 7 32 [32],oT 7 8 33 [33]] (.seq (sR [uT 0 34 6,oT 1 35 8 [8],oP 2 36 (.beq true (.t 34) (.t 35)) [34,35],oT 3 37 36 [36],vT 4 38
6 37,vT 5 39 3 37,vM 6 40 3 4 37,gK 7 41 8 [.t 39,.t 40] 37 [39,40],gC 8 42 .eql 41 1 37 [41],gG 9 43 (.beq true (.t 38) (.t 42)) 37 [38,42],oO 10 44 37 43 [37,43],oT 11 45 44 [44],vT 12 46 3 45,vT 13 47 5 45,gK 14 48 9
[.t 46,.t 47] 45 [46,47],vT 15 49 3 45,gT 16 50 7 45 [7],gK 17 51 10 [.t 49,.t 50] 45 [49,50],gB 18 52 .neq 48 51 45 [48,51],oO 19 53 45 52 [45,52]] (sD 53 [3,4,5,6,53] [uY 0 2 false])) (.seq (sR [oT 0 54 6 [6],oE 1 55
54 [54]] (sD 55 [3,4,55] [oT 0 56 5 [5],oN 1 57 56 [56],oC 2 58 .eql 57 0 [57],oT 3 2 58 [58]])) (sR [uW 0 59 1 [.int .i64 (0)],uF 1 60 2 4,oL 2 61 1 60 [60],oX 3 62 1 8 59 61 [59,61],oT 4 9 62 [62]] (sL 10 0 L3_0 (sR
[uT 0 143 5,oN 1 144 143 [143],uF 2 145 1 4,oL 3 146 1 145 [145],oN 4 147 146 [146],oB 5 148 .eql 144 147 [144,147],oT 6 149 148 [148],hT 7 150 9 149 [9],hN 8 151 150 149 [150],wF 9 152 0 4 149,hL 10 153 1 152 149
[4,152],hB 11 154 .eql 151 153 149 [151,153],oA 12 155 149 154 [149,154],oT 13 156 155 [155],wT 14 157 3 156,wT 15 158 5 156,hK 16 159 13 [.t 157,.t 158] 156 [157,158],oA 17 160 156 159 [156,159],oT 18 161 160 [160],hT
19 162 3 161 [3],hT 20 163 5 161 [5],hK 21 164 14 [.t 162,.t 163] 161 [162,163],oA 22 165 161 164 [161,164],oT 23 2 165 [165]] .ret))))))))))
def C3 : CFn := ⟨166,1,[.t 2],B3⟩
abbrev B4 : CCode := (sR [oY 0 2 false [2]] (sR [oT 0 3 0 [0],oN 1 4 3 [3],oC 2 5 .gtr 4 1048576 [4],oT 3 2 5 [5]] .ret))
def C4 : CFn := ⟨6,1,[.t 2],B4⟩
abbrev B5 : CCode := (sR [oV 0 2 [2],uH 1 3 [.int .i64 (0),.nils,.nils]] (sR [oT 0 4 0 [0],oK 1 5 15 [.t 4] [4],uU 2 6 5 0,oU 3 7 5 1 [5],oT 4 2 6 [6],oS 5 3 3 7 [7]] .ret))
def C5 : CFn := ⟨8,1,[.t 2,.m 3 3 true],B5⟩
abbrev L6_0 : CCode := (.seq (sR [uT 0 22 8,oN 1 23 22 [22],oC 2 24 .gtr 23 0 [23]] (sC 24 [0,3,7,8,24] 0)) (.block 1 (sR [uT 0 25 0,uT 1 26 8,uT 2 27 7,oK 3 28 17 [.t 25,.t 26,.t 27] [25,26,27],oT 4 9 28 [28]] (.seq
(sR [uT 0 29 9,oN 1 30 29 [29],oC 2 31 .eql 30 0 [30]] (sD 31 [0,3,6,7,8,9,31] [uV 0 4,uY 1 5 false])) (sR [uT 0 32 8,uT 1 33 9,uP 2 34 (.ia 1 (.t 33) (.c (.int .i64 0))),oL 3 35 1 34 [33,34],uI 4 36 2 32 35,oM 5 37 2
36 [36],oK 6 38 18 [.t 37] [32,35,37],uH 7 10 [.int .i64 (0),.nils],oS 8 2 10 38 [38]] (.seq (.reg true [uT 0 39 0,uM 1 40 2 10,uM 3 42 2 10,(2,⟨some 41,.call 19 [.t 39,.t 40],none,[(10,2)],[39,40]⟩),oK 4 43 20 [.t 42]
[42],oT 5 11 41 [41],oT 6 12 43 [43]]) (.seq (.reg true [oT 0 44 6 [6],uM 1 45 2 10,uT 2 46 11,uT 3 47 7,uT 5 49 12,uT 6 50 11,uT 8 52 7,(4,⟨some 48,.call 21 [.t 46,.t 47],none,[(10,2)],[46,47]⟩),(7,⟨some 51,.call 21
[.t 49,.t 50],none,[(10,2)],[49,50]⟩),(9,⟨some 53,.call 21 [.t 51,.t 52],none,[(10,2)],[51,52]⟩),oP 10 54 (.bld [.int .i64 (0),.nils,.nils,.nils] [(0,2,(.t 45)),(2,1,(.t 48)),(3,1,(.t 53))]) [10,45,48,53],oP 11 55 (.bsl
4 1 [.int .i64 (0),.nils,.nils,.nils] [(0,4,(.t 54))]) [54],oX 12 56 4 80 44 55 [44,55],oT 13 6 56 [56]]) (sR [oT 0 57 7 [7],oT 1 58 12 [12],oK 2 59 22 [.t 57,.t 58] [57,58],oT 3 7 59 [59]] (.reg true [oT 0 60 8 [8],uT
2 62 9,uP 3 63 (.ia 1 (.t 62) (.c (.int .i64 0))),uL 4 64 1 63,oT 5 65 9 [9],uP 6 66 (.ia 1 (.t 65) (.c (.int .i64 0))),uL 7 67 1 66,oC 8 68 .add 67 1 [67],(1,⟨some 61,.call 24 [.t
60],none,[(63,1),(66,1)],[60,62,63,65,66]⟩),oK 9 69 23 [.t 61,.t 64,.t 68] [61,64,68],oT 10 8 69 [69]])))))))))
abbrev B6 : CCode := (sR [oQ 0 3 3 1 [1],oV 1 4 [4],oY 2 5 false [5]] (.seq (sR [uT 0 13 0,uM 1 14 3 3,oK 2 15 16 [.t 13,.t 14] [13,14],oC 3 16 .neq 15 1 [15]] (sD 16 [0,3,16] [uV 0 4,uY 1 5 false])) (.seq (.reg true
[uW 0 17 4 [.int .i64 (0),.nils,.nils,.nils],uF 1 18 2 3,oL 2 19 1 18 [18],uF 3 20 1 3,oL 4 21 1 20 [20],oT 5 6 17 [17],oT 6 7 19 [19],oT 7 8 21 [21]]) (.seq (.block 0 (.loop L6_0)) (sR [oT 0 70 6 [6],oT 1 4 70 [70],uY
2 5 true] .ret)))))
def C6 : CFn := ⟨71,2,[.t 4,.t 5],B6⟩
abbrev L7_1 : CCode := (.seq (sR [uT 0 43 11,oC 1 44 .lss 43 4 [43]] (sC 44 [9,11,44] 2)) (.seq (.block 3 (.seq (sR [uF 0 47 2 7,oL 1 48 1 47 [47],uT 2 49 11,oK 3 50 27 [.t 48,.t 49] [48,49],oT 4 51 50 [50],vF 5 52 1 9
51,gL 6 53 1 52 51 [52],vT 7 54 11 51,gK 8 55 27 [.t 53,.t 54] 51 [53,54],gE 9 56 55 51 [55],oO 10 57 51 56 [51,56]] (.cond (.t 57) (sK [57] (.exit 3)) (sK [57] .skip))) (sR [uT 0 58 0,uM 1 59 2 9,oK 2 60 12 [.t 58,.t
59] [58,59],uT 3 61 11,oK 4 62 27 [.t 60,.t 61] [60,61]] (.cond (.t 62) (sK [62] (.reg false [uF 0 63 2 10,oL 1 64 1 63 [63],uT 2 65 11,oP 3 66 (.bsl 1 1 [.int .i64 (0)] [(0,1,(.t 65))]) [65],oX 4 67 1 8 64 66
[64,66],uF 5 68 2 10,oS 6 1 68 67 [67,68]])) (sK [62] (.reg false [uF 0 69 3 10,oL 1 70 1 69 [69],uT 2 71 11,oP 3 72 (.bsl 1 1 [.int .i64 (0)] [(0,1,(.t 71))]) [71],oX 4 73 1 8 70 72 [70,72],uF 5 74 3 10,oS 6 1 74 73
[73,74]])))))) (sI 45 46 11)))
abbrev L7_0 : CCode := (.seq (sR [uF 0 20 1 7,oL 1 21 1 20 [20],oN 2 22 21 [21],oC 3 23 .gtr 22 0 [22]] (sC 23 [0,7,23] 0)) (.block 1 (sR [uT 0 24 0,uM 1 25 3 7,oK 2 26 26 [.t 24,.t 25] [24,25],oT 3 8 26 [26]] (.seq (sR
[uT 0 27 8,oC 1 28 .lss 27 0 [27]] (sD 28 [0,6,7,8,28] [uW 0 29 4 [.int .i64 (0),.nils,.nils,.nils],oT 1 4 29 [29],uY 2 5 false])) (sR [uF 0 30 1 7,oL 1 31 1 30 [30],uT 2 32 8,oI 3 33 2 31 32 [31],oM 4 34 2 33 [33],uH 5
9 [.int .i64 (0),.nils],oS 6 2 9 34 [32,34]] (.seq (.reg true [uF 0 35 0 9,uL 1 36 1 35,uW 2 37 1 [.int .i64 (0)],uF 3 38 1 9,oL 4 39 1 38 [38],uH 8 10 [.int .i64 (0),.nils,.nils,.nils],(5,⟨some 40,.app 1 8 (.t 37) (.t
39),none,[(35,1)],[35,37,39]⟩),oP 6 41 (.bld [.int .i64 (0),.nils] [(0,1,(.t 36)),(1,1,(.t 40))]) [36,40],oP 7 42 (.bld [.int .i64 (0),.nils,.nils,.nils] [(0,2,(.t 41))]) [41],oS 9 4 10 42 [42]]) (sL 11 2 L7_1 (sR [oT 0
75 6 [6],uM 1 76 4 10,oP 2 77 (.bsl 4 1 [.int .i64 (0),.nils,.nils,.nils] [(0,4,(.t 76))]) [10,76],oX 3 78 4 80 75 77 [75,77],oT 4 6 78 [78]] (.reg false [uM 0 79 3 7,oT 1 80 8 [8],oK 2 81 28 [.t 79,.t 80] [79,80],oS 3
3 7 81 [81]])))))))))
abbrev B7 : CCode := (sR [oQ 0 3 3 1 [1],oV 1 4 [4],oY 2 5 false [5]] (sR [uW 0 12 4 [.int .i64 (0),.nils,.nils,.nils],oT 1 6 12 [12]] (.seq (sR [uT 0 13 0,uM 1 14 3 3,oK 2 15 8 [.t 13,.t 14] [13,14],oC 3 16 .neq 15 1
[15]] (sD 16 [0,3,16] [oT 0 17 6 [6],oT 1 4 17 [17],uY 2 5 false])) (sR [uM 0 18 3 3,oK 1 19 25 [.t 18] [3,18],uH 2 7 [.int .i64 (0),.nils,.nils],oS 3 3 7 19 [19]] (.seq (.block 0 (.loop L7_0)) (sR [oT 0 82 6 [6],oT 1 4
82 [82],uY 2 5 true] .ret))))))
def C7 : CFn := ⟨83,2,[.t 4,.t 5],B7⟩
abbrev L8_1 : CCode := (.seq (sR [uT 0 18 6,uF 1 19 1 3,oL 2 20 1 19 [19],oN 3 21 20 [20],oB 4 22 .lss 18 21 [18,21]] (sC 22 [6,22] 2)) (.seq (.block 3 (sR [uT 0 25 0,uM 1 26 3 3,uT 2 27 5,uT 3 28 6,oK 4 29 30 [.t 25,.t
26,.t 27,.t 28] [25,26,27,28],oT 5 30 29 [29],wT 6 31 0 30,wM 7 32 3 3 30,wT 8 33 5 30,wT 9 34 6 30,hK 10 35 31 [.t 31,.t 32,.t 33,.t 34] 30 [31,32,33,34],hE 11 36 35 30 [35],oA 12 37 30 36 [30,36],oT 13 38 37 [37],wT
14 39 0 38,wM 15 40 3 3 38,wT 16 41 6 38,wT 17 42 5 38,hK 18 43 32 [.t 39,.t 40,.t 41,.t 42] 38 [39,40,41,42],oA 19 44 38 43 [38,43]] (sD 44 [0,3,5,6,44] [uZ 0 4 3]))) (sI 23 24 6)))
abbrev L8_0 : CCode := (.seq (sR [uT 0 11 5,uF 1 12 1 3,oL 2 13 1 12 [12],oN 3 14 13 [13],oB 4 15 .lss 11 14 [11,14]] (sC 15 [5,15] 0)) (.seq (.block 1 (sR [uZ 0 6 0] (.block 2 (.loop L8_1)))) (sI 16 17 5)))
abbrev B8 : CCode := (sR [oQ 0 3 3 1 [1],oZ 1 4 0 [4]] (.seq (sR [uT 0 7 0,uM 1 8 3 3,oK 2 9 29 [.t 7,.t 8] [7,8],oE 3 10 9 [9]] (sD 10 [0,3,10] [uZ 0 4 0])) (sL 5 0 L8_0 (.seq (sR [oT 0 45 0 [0],uM 1 46 3 3,oK 2 47 33
[.t 45,.t 46] [3,45,46]] (sD 47 [47] [uZ 0 4 2])) (sR [uZ 0 4 1] .ret)))))
def C8 : CFn := ⟨48,2,[.t 4],B8⟩
abbrev L9_0 : CCode := (sR [uB 0 16 .lss 15 14] (.seq (sC 16 [0,13,14,15,16] 0) (.seq (.block 1 (sR [uI 0 17 4 13 15,oM 1 18 4 17 [17],uH 2 7 [.int .i64 (0),.nils,.nils,.nils],oS 3 4 7 18 [18]] (.reg true [oT 0 19 5
[5],uF 1 20 2 7,oL 2 21 1 20 [20],uF 7 26 3 7,uL 8 27 1 26,uT 13 32 0,uF 14 33 0 7,uM 15 34 2 33,(3,⟨some 22,.call 35 [.t 21],none,[(26,1),(33,2)],[21]⟩),(4,⟨some 23,.call 34 [.t 22,(.c (.str
[]))],none,[(26,1),(33,2)],[22,26]⟩),oP 5 24 (.bin .add (.c (.str [69])) (.t 23)) [23],oP 6 25 (.bin .add (.t 24) (.c (.str [32,65]))) [24],(9,⟨some 28,.call 35 [.t 27],none,[(33,2)],[27]⟩),(10,⟨some 29,.call 34 [.t
28,(.c (.str []))],none,[(33,2)],[28,33]⟩),oB 11 30 .add 25 29 [25,29],oP 12 31 (.bin .add (.t 30) (.c (.str [32]))) [30],oK 16 35 36 [.t 32,.t 34] [7,32,34],oB 17 36 .add 31 35 [31,35],oP 18 37 (.bsl 1 1 [.str []]
[(0,1,(.t 36))]) [36],oX 19 38 1 16 19 37 [19,37],oT 20 5 38 [38]]))) (.reg false [oC 0 39 .add 15 1 [15],oT 1 15 39 [39]]))))
abbrev B9 : CCode := (sR [oP 0 4 (.mv (.c (.str []))) [4]] (.seq (sR [uT 0 8 0,uT 1 9 1,oK 2 10 13 [.t 8,.t 9] [8,9],oE 3 11 10 [10]] (sD 11 [0,1,11] [uP 0 4 (.mv (.c (.str [])))])) (sR [uP 0 12 (.bsl 1 0 [.str []]
[]),oT 1 5 12 [12]] (.seq (sR [oT 0 13 1 [1],uN 1 14 13,uZ 2 15 0] (.block 0 (.loop L9_0))) (sR [oT 0 40 5 [5],oP 1 41 (.call 34 [.t 40,(.c (.str [32]))]) [40],oT 2 4 41 [41]] .ret)))))
def C9 : CFn := ⟨42,2,[.t 4],B9⟩
abbrev L10_0 : CCode := (.seq (sR [uT 0 7 6,uT 1 8 1,oN 2 9 8 [8],oB 3 10 .lss 7 9 [7,9],oT 4 11 10 [10],wT 5 12 0 11,wT 6 13 1 11,hK 7 14 14 [.t 12,.t 13] 11 [12,13],oA 8 15 11 14 [11,14]] (sC 15 [0,1,6,15] 0)) (.seq
(.block 1 (.seq (sR [uT 0 18 6,oC 1 19 .gtr 18 0 [18]] (.cond (.t 19) (sK [19] (.reg false [oT 0 20 5 [5],oP 1 21 (.bin .add (.t 20) (.c (.str [32]))) [20],oT 2 5 21 [21]])) (sK [19] .skip))) (.reg true [oT 0 22 5
[5],oP 1 23 (.bin .add (.t 22) (.c (.str [69]))) [22],uT 2 24 1,uT 3 25 6,uI 4 26 4 24 25,oF 5 27 2 26 [26],oL 6 28 1 27 [27],uT 10 32 1,uT 11 33 6,uI 12 34 4 32 33,oF 13 35 3 34 [34],uL 14 36 1 35,uT 18 40 0,uT 19 41
1,uT 20 42 6,uI 21 43 4 41 42,oF 22 44 0 43 [43],uM 23 45 2 44,(7,⟨some 29,.call 37 [.t 28],none,[(35,1),(44,2)],[24,25,28,35]⟩),oB 8 30 .add 23 29 [23,29],oP 9 31 (.bin .add (.t 30) (.c (.str [32,65]))) [30],(15,⟨some
37,.call 37 [.t 36],none,[(44,2)],[32,33,36,44]⟩),oB 16 38 .add 31 37 [31,37],oP 17 39 (.bin .add (.t 38) (.c (.str [32]))) [38],oK 24 46 38 [.t 40,.t 45] [40,41,42,45],oB 25 47 .add 39 46 [39,46],oT 26 5 47 [47]])))
(sI 16 17 6)))
abbrev B10 : CCode := (sR [oP 0 4 (.mv (.c (.str []))) [4]] (sR [uP 0 5 (.mv (.c (.str [])))] (sL 6 0 L10_0 (sR [oT 0 48 5 [5],oT 1 4 48 [48]] .ret))))
def C10 : CFn := ⟨49,2,[.t 4],B10⟩
abbrev L11_0 : CCode := (.seq (sR [uT 0 6 5,uT 1 7 0,oN 2 8 7 [7],oB 3 9 .lss 6 8 [6,8]] (sC 9 [0,1,5,9] 0)) (.seq (.block 1 (sR [uT 0 12 0,uT 1 13 5,uI 2 14 1 12 13,oL 3 15 1 14 [12,13,14],uT 4 16 1,oB 5 17 .eql 15 16
[15,16]] (sD 17 [0,1,5,17] [uY 0 4 true]))) (sI 10 11 5)))
abbrev B11 : CCode := (sR [oY 0 4 false [4]] (sL 5 0 L11_0 (sR [uY 0 4 false] .ret)))
def C11 : CFn := ⟨18,2,[.t 4],B11⟩
abbrev B12 : CCode := (sR [oQ 0 3 2 1 [1],oV 1 4 [4]] (.seq (.seq (.reg true [uF 0 5 0 3,oL 1 6 1 5 [5],uT 2 7 0,oN 3 8 7 [7],oC 4 9 .sub 8 1 [8],oK 5 10 39 [.t 6,(.c (.int .i64 0)),.t 9] [6,9],oE 6 11 10 [10],oT 7 12
11 [11],vT 8 13 0 12,vF 9 14 0 3 12,gL 10 15 1 14 12 [14],vI 11 16 3 13 15 12,gF 12 17 2 16 12 [16],gL 13 18 1 17 12 [13,15,17],vF 14 19 1 3 12,gL 15 20 1 19 12 [19],gN 16 21 20 12 [20],gK 17 22 39 [.t 18,(.c (.int .i64
0)),.t 21] 12 [18,21],gE 18 23 22 12 [22],oO 19 24 12 23 [12,23]]) (sD 24 [0,3,24] [uW 0 25 1 [.int .i64 (0)],oT 1 4 25 [25]])) (.seq (.reg true [uF 0 26 1 3,oL 1 27 1 26 [26],oT 2 28 0 [0],uF 3 29 0 3,oL 4 30 1 29
[29],uI 5 31 3 28 30,oF 6 32 2 31 [31],oL 7 33 1 32 [28,30,32],oP 8 34 (.sls 1 (.t 27) none (some (.t 33)) none) [3,27,33],oP 9 35 (.bld [.int .i64 (0),.nils] [(1,1,(.t 34))]) [34],oK 10 36 40 [.t 35] [35],oT 11 4 36
[36]]) .ret)))
def C12 : CFn := ⟨37,2,[.t 4],B12⟩
abbrev L13_0 : CCode := (sR [uB 0 11 .lss 10 9] (.seq (sC 11 [0,8,9,10,11] 0) (.seq (.block 1 (sR [uT 0 12 10,uI 1 13 4 8 10,oM 2 14 4 13 [13],uH 3 6 [.int .i64 (0),.nils,.nils,.nils],oT 4 5 12 [12],oS 5 4 6 14 [14]]
(sR [uF 0 15 0 6,oM 1 16 2 15 [15],uH 2 7 [.int .i64 (0),.nils],oS 3 2 7 16 [16]] (.seq (.seq (.reg true [oT 0 17 5 [5],oC 1 18 .geq 17 3 [17],oT 2 19 18 [18],vT 3 20 0 19,gK 4 21 41 [.t 20] 19 [20],gE 5 22 21 19
[21],oO 6 23 19 22 [19,22],oT 7 24 23 [23],vF 8 25 0 7 24,gL 9 26 1 25 24 [25],vT 10 27 0 24,gN 11 28 27 24 [27],gC 12 29 .sub 28 1 24 [28],gK 13 30 42 [.t 26,(.c (.int .i64 0)),.t 29] 24 [26,29],gE 14 31 30 24 [30],oO
15 32 24 31 [24,31],oT 16 33 32 [32],vF 17 34 1 7 33,gL 18 35 1 34 33 [34],gN 19 36 35 33 [35],vT 20 37 0 33,vF 21 38 0 7 33,gL 22 39 1 38 33 [38],vI 23 40 3 37 39 33,gF 24 41 1 40 33 [40],gL 25 42 1 41 33 [37,39,41],gB
26 43 .neq 36 42 33 [36,42],oO 27 44 33 43 [33,43]]) (sD 44 [0,6,7,8,9,10,44] [uY 0 4 false])) (.seq (sR [uF 0 45 1 7,oL 1 46 1 45 [45],oP 2 47 (.call 43 [.t 46,(.c (.fn 44 []))]) [46]] (sD 47 [0,6,7,8,9,10,47] [uY 0 4
false])) (.seq (.reg true [uF 0 48 2 6,uL 1 49 1 48,uT 2 50 0,uM 3 51 2 7,(4,⟨some 52,.call 19 [.t 50,.t 51],none,[(48,1)],[48,50,51]⟩),oK 5 53 45 [.t 49,.t 52] [49,52],oE 6 54 53 [53],oT 7 55 54 [54],vF 8 56 3 6 55,vL
9 57 1 56 55,vM 10 58 2 7 55,(11,⟨some 59,.call 20 [.t 58],some (55,false),[(56,1)],[7,56,58]⟩),gK 12 60 45 [.t 57,.t 59] 55 [6,57,59],gE 13 61 60 55 [60],oO 14 62 55 61 [55,61]]) (sD 62 [0,8,9,10,62] [uY 0 4
false]))))))) (.reg false [oC 0 63 .add 10 1 [10],oT 1 10 63 [63]]))))
abbrev B13 : CCode := (sR [oY 0 4 false [4]] (.seq (sR [oT 0 8 1 [1],uN 1 9 8,uZ 2 10 0] (.block 0 (.loop L13_0))) (sR [uY 0 4 true] .ret)))
def C13 : CFn := ⟨64,2,[.t 4],B13⟩
abbrev L14_1 : CCode := (.seq (sR [uT 0 43 7,uF 1 44 1 6,oL 2 45 1 44 [44],oN 3 46 45 [45],oB 4 47 .lss 43 46 [43,46]] (sC 47 [7,47] 2)) (.seq (.block 3 (sR [uF 0 50 1 6,oL 1 51 1 50 [50],uT 2 52 7,oI 3 53 1 51 52
[51],oL 4 54 1 53 [52,53],oK 5 55 39 [.t 54,(.c (.int .i64 (-10))),(.c (.int .i64 3))] [54],oE 6 56 55 [55]] (sD 56 [0,1,5,6,7,56] [uY 0 4 false]))) (sI 48 49 7)))
abbrev L14_0 : CCode := (.seq (sR [uT 0 8 5,uT 1 9 1,oN 2 10 9 [9],oB 3 11 .lss 8 10 [8,10]] (sC 11 [0,5,11] 0)) (.seq (.block 1 (sR [uT 0 14 1,uT 1 15 5,uI 2 16 4 14 15,oF 3 17 0 16 [16],oM 4 18 2 17 [17],uH 5 6 [.int
.i64 (0),.nils],oS 6 2 6 18 [14,15,18]] (.seq (.seq (.reg true [uT 0 19 0,oK 1 20 46 [.t 19] [19],oE 2 21 20 [20],oT 3 22 21 [21],vF 4 23 0 6 22,gL 5 24 1 23 22 [23],vT 6 25 0 22,gN 7 26 25 22 [25],gC 8 27 .sub 26 1 22
[26],gK 9 28 39 [.t 24,(.c (.int .i64 0)),.t 27] 22 [24,27],gE 10 29 28 22 [28],oO 11 30 22 29 [22,29],oT 12 31 30 [30],vF 13 32 1 6 31,gL 14 33 1 32 31 [32],gN 15 34 33 31 [33],vT 16 35 0 31,vF 17 36 0 6 31,gL 18 37 1
36 31 [36],vI 19 38 3 35 37 31,gF 20 39 1 38 31 [38],gL 21 40 1 39 31 [35,37,39],gB 22 41 .neq 34 40 31 [34,40],oO 23 42 31 41 [31,41]]) (sD 42 [0,1,5,6,42] [uY 0 4 false])) (sL 7 2 L14_1 (.seq (.reg true [uT 0 57 0,uM
1 58 2 6,uT 3 60 1,uT 4 61 5,uI 5 62 4 60 61,oF 6 63 2 62 [62],uL 7 64 1 63,(2,⟨some 59,.call 12 [.t 57,.t 58],none,[(63,1)],[57,58,63]⟩),oK 8 65 47 [.t 59,.t 64] [59,60,61,64],oE 9 66 65 [65],oT 10 67 66 [66],vM 11 68
2 6 67,vT 13 70 1 67,vT 14 71 5 67,vI 15 72 4 70 71 67,gF 16 73 3 72 67 [72],vL 17 74 1 73 67,(12,⟨some 69,.call 40 [.t 68],some (67,false),[(73,1)],[6,68,73]⟩),gK 18 75 47 [.t 69,.t 74] 67 [69,70,71,74],gE 19 76 75 67
[75],oO 20 77 67 76 [67,76]]) (sD 77 [0,1,5,77] [uY 0 4 false])))))) (sI 12 13 5)))
abbrev B14 : CCode := (sR [oY 0 4 false [4]] (sL 5 0 L14_0 (sR [oT 0 78 1 [1],oN 1 79 78 [78],oC 2 80 .leq 79 3 [79],oT 3 4 80 [80]] .ret)))
def C14 : CFn := ⟨81,2,[.t 4],B14⟩
abbrev B15 : CCode := (sR [oV 0 2 [2],uH 1 3 [.int .i64 (0),.nils,.nils]] (sR [oT 0 8 0 [0],oK 1 9 48 [.t 8] [8],oT 2 7 9 [9],uU 3 10 7 0,uU 4 11 7 1,oU 5 12 7 2 [7],uH 6 6 [.int .i64 (0),.nils,.nils],oT 7 4 10
[4,10],oT 8 5 11 [11],oS 9 3 6 12 [12]] (.seq (.reg true [oT 0 13 5 [5],uM 1 14 3 6,oT 2 2 13 [13],oS 3 3 3 14 [6,14]]) .ret)))
def C15 : CFn := ⟨15,1,[.t 2,.m 3 3 true],B15⟩
abbrev L16_1 : CCode := (sR [uB 0 21 .lss 20 19] (.seq (sC 21 [5,19,20,21] 2) (.seq (.block 3 (sR [uT 0 22 20,oT 1 6 22 [22]] (sR [uT 0 23 0,uM 1 24 3 3,uT 2 25 5,uT 3 26 6,oK 4 27 50 [.t 23,.t 24,.t 25,.t 26]
[23,24,25,26],oT 5 28 27 [27],wT 6 29 0 28,wM 7 30 3 3 28,wT 8 31 5 28,wT 9 32 6 28,hK 10 33 51 [.t 29,.t 30,.t 31,.t 32] 28 [29,30,31,32],hE 11 34 33 28 [33],oA 12 35 28 34 [28,34],oT 13 36 35 [35],wT 14 37 0 36,wM 15
38 3 3 36,hT 16 39 6 36 [6],wT 17 40 5 36,hK 18 41 52 [.t 37,.t 38,.t 39,.t 40] 36 [37,38,39,40],oA 19 42 36 41 [36,41]] (sD 42 [0,3,5,13,14,19,20,42] [uZ 0 4 3])))) (.reg false [oC 0 43 .add 20 1 [20],oT 1 20 43
[43]]))))
abbrev L16_0 : CCode := (sR [uB 0 15 .lss 14 13] (.seq (sC 15 [13,14,15] 0) (.seq (.block 1 (sR [uT 0 16 14,oT 1 5 16 [16]] (sR [uF 0 17 1 3,oL 1 18 1 17 [17],oN 2 19 18 [18],uZ 3 20 0] (.block 2 (.loop L16_1))))) (.reg
false [oC 0 44 .add 14 1 [14],oT 1 14 44 [44]]))))
abbrev B16 : CCode := (sR [oQ 0 3 3 1 [1],oZ 1 4 0 [4]] (.seq (sR [uT 0 7 0,uM 1 8 3 3,oK 2 9 49 [.t 7,.t 8] [7,8],oE 3 10 9 [9]] (sD 10 [0,3,10] [uZ 0 4 0])) (.seq (sR [uF 0 11 1 3,oL 1 12 1 11 [11],oN 2 13 12 [12],uZ
3 14 0] (.block 0 (.loop L16_0))) (.seq (sR [oT 0 45 0 [0],uM 1 46 3 3,oK 2 47 53 [.t 45,.t 46] [3,45,46]] (sD 47 [47] [uZ 0 4 2])) (sR [uZ 0 4 1] .ret)))))
def C16 : CFn := ⟨48,2,[.t 4],B16⟩
abbrev L17_1 : CCode := (sR [uB 0 20 .lss 19 18] (.seq (sC 20 [18,19,20] 2) (.seq (.block 3 (sR [uT 0 21 19,oT 1 10 21 [21]] (.reg false [oT 0 22 9 [9],oT 1 23 22 [22],wT 2 24 0 23,wT 3 25 1 23,wT 4 26 2 23,hT 5 27 10
23 [10],wT 6 28 8 23,hK 7 29 54 [.t 24,.t 25,.t 26,.t 27,.t 28] 23 [24,25,26,27,28],hE 8 30 29 23 [29],oA 9 31 23 30 [23,30],oT 10 9 31 [31]]))) (.reg false [oC 0 32 .add 19 1 [19],oT 1 19 32 [32]]))))
abbrev L17_0 : CCode := (sR [uB 0 15 .lss 14 13] (.seq (sC 15 [0,1,2,13,14,15] 0) (.seq (.block 1 (sR [uT 0 16 14,oT 1 8 16 [16]] (sR [uY 0 9 true] (.seq (sR [uT 0 17 1,oN 1 18 17 [17],uZ 2 19 0] (.block 2 (.loop
L17_1))) (sR [oT 0 33 9 [9]] (.cond (.t 33) (sK [33] (.reg false [oT 0 34 7 [7],oT 1 35 8 [8],oP 2 36 (.bsl 1 1 [.int .i64 (0)] [(0,1,(.t 35))]) [35],oX 3 37 1 8 34 36 [34,36],oT 4 7 37 [37]])) (sK [8,33] .skip)))))))
(.reg false [oC 0 38 .add 14 1 [14],oT 1 14 38 [38]]))))
abbrev B17 : CCode := (sR [oV 0 6 [6]] (sR [uW 0 11 1 [.int .i64 (0)],oT 1 7 11 [11]] (.seq (sR [uT 0 12 1,oN 1 13 12 [12],uZ 2 14 0] (.block 0 (.loop L17_0))) (sR [oT 0 39 7 [7],oT 1 6 39 [39]] .ret))))
def C17 : CFn := ⟨40,3,[.t 6],B17⟩
abbrev B18 : CCode := (sR [oQ 0 1 2 0 [0],uH 1 2 [.int .i64 (0),.nils]] (.seq (.reg true [uF 0 3 0 1,uL 1 4 1 3,uW 2 5 1 [.int .i64 (0)],uF 3 6 1 1,oL 4 7 1 6 [6],(5,⟨some 8,.app 1 8 (.t 5) (.t
7),none,[(3,1)],[1,3,5,7]⟩),oP 6 9 (.bld [.int .i64 (0),.nils] [(0,1,(.t 4)),(1,1,(.t 8))]) [4,8],oS 7 2 2 9 [9]]) .ret))
def C18 : CFn := ⟨10,1,[.m 2 2 true],B18⟩
abbrev B19 : CCode := (sR [oQ 0 3 2 1 [1],oV 1 4 [4]] (.seq (.seq (.reg true [uF 0 5 0 3,oL 1 6 1 5 [5],uT 2 7 0,oN 3 8 7 [7],oC 4 9 .sub 8 1 [8],oK 5 10 42 [.t 6,(.c (.int .i64 0)),.t 9] [6,9],oE 6 11 10 [10],oT 7 12
11 [11],vT 8 13 0 12,vF 9 14 0 3 12,gL 10 15 1 14 12 [14],vI 11 16 3 13 15 12,gF 12 17 2 16 12 [16],gL 13 18 1 17 12 [13,15,17],vF 14 19 1 3 12,gL 15 20 1 19 12 [19],gN 16 21 20 12 [20],gK 17 22 42 [.t 18,(.c (.int .i64
0)),.t 21] 12 [18,21],gE 18 23 22 12 [22],oO 19 24 12 23 [12,23]]) (sD 24 [0,3,24] [uV 0 4])) (.seq (.reg true [uF 0 25 1 3,oL 1 26 1 25 [25],oT 2 27 0 [0],uF 3 28 0 3,oL 4 29 1 28 [28],uI 5 30 3 27 29,oF 6 31 2 30
[30],oL 7 32 1 31 [27,29,31],oP 8 33 (.sls 1 (.t 26) none (some (.t 32)) none) [3,26,32],oP 9 34 (.bld [.int .i64 (0),.nils] [(1,1,(.t 33))]) [33],oK 10 35 20 [.t 34] [34],oT 11 4 35 [35]]) .ret)))
def C19 : CFn := ⟨36,2,[.t 4],B19⟩
abbrev L20_0 : CCode := (sR [uB 0 11 .lss 10 9] (.seq (sC 11 [1,8,9,10,11] 0) (.seq (.block 1 (sR [uI 0 12 1 8 10,oL 1 13 1 12 [12],oT 2 5 13 [13]] (sR [uT 0 14 5,oK 1 15 42 [.t 14,(.c (.int .i64 0)),(.c (.int .i64 3))]
[14]] (.cond (.t 15) (sK [15] (.reg false [oT 0 16 3 [3],oT 1 17 5 [5],oP 2 18 (.bsl 1 1 [.int .i64 (0)] [(0,1,(.t 17))]) [17],oX 3 19 1 8 16 18 [16,18],oT 4 3 19 [19]])) (sK [5,15] .skip))))) (.reg false [oC 0 20 .add
10 1 [10],oT 1 10 20 [20]]))))
abbrev B20 : CCode := (sR [oQ 0 1 2 0 [0],oV 1 2 [2]] (sR [uW 0 6 1 [.int .i64 (0)],oT 1 3 6 [6]] (.seq (sR [uF 0 7 1 1,oL 1 8 1 7 [7],uN 2 9 8,uZ 3 10 0] (.block 0 (.loop L20_0))) (sR [oT 0 21 3 [3],oK 1 22 22 [.t
21,(.c (.nils))] [21],oT 2 2 22 [22]] .ret))))
def C20 : CFn := ⟨23,1,[.t 2],B20⟩
abbrev L21_0 : CCode := (sR [uB 0 12 .lss 11 10] (.seq (sC 12 [1,9,10,11,12] 0) (.seq (.block 1 (sR [uI 0 13 1 9 11,oL 1 14 1 13 [13],oT 2 7 14 [14]] (sR [uT 0 15 1,uT 1 16 7,oK 2 17 55 [.t 15,.t 16] [15,16],oE 3 18 17
[17]] (.cond (.t 18) (sK [18] (.reg false [oT 0 19 5 [5],oT 1 20 7 [7],oP 2 21 (.bsl 1 1 [.int .i64 (0)] [(0,1,(.t 20))]) [20],oX 3 22 1 8 19 21 [19,21],oT 4 5 22 [22]])) (sK [7,18] .skip))))) (.reg false [oC 0 23 .add
11 1 [11],oT 1 11 23 [23]]))))
abbrev B21 : CCode := (sR [oV 0 4 [4]] (sR [uW 0 8 1 [.int .i64 (0)],oT 1 5 8 [8]] (.seq (sR [oT 0 9 0 [0],uN 1 10 9,uZ 2 11 0] (.block 0 (.loop L21_0))) (sR [oT 0 24 5 [5],oT 1 4 24 [24]] .ret))))
def C21 : CFn := ⟨25,2,[.t 4],B21⟩
abbrev B22 : CCode := (sR [oV 0 4 [4]] (sR [oT 0 6 0 [0],oT 1 7 1 [1],oP 2 8 (.bsl 1 2 [.nils] [(0,1,(.t 6)),(1,1,(.t 7))]) [6,7],oK 3 9 56 [.t 8] [8],oT 4 5 9 [9]] (sR [uT 0 10 5,oK 1 11 57 [.t 10] [10,11]] (sR [oT 0
12 5 [5],oK 1 13 58 [.t 12] [12],oT 2 4 13 [13]] .ret))))
def C22 : CFn := ⟨14,2,[.t 4],B22⟩
abbrev B23 : CCode := (sR [oV 0 6 [6]] (sR [uT 0 8 0,uT 1 9 1,uT 2 10 2,uT 3 11 0,oN 4 12 11 [11],oP 5 13 (.slx 2 (.t 8) (some (.t 9)) (some (.t 10)) (some (.t 12))) [8,9,10,12,13]] (.seq (sR [uT 0 14 1,uT 1 15 2,oB 2
16 .eql 14 15 [14,15]] (sD 16 [1,2,16] [uT 0 17 0,oT 1 6 17 [17]])) (sR [uT 0 18 0,oN 1 19 18 [18],oT 2 7 19 [19]] (.seq (.reg true [uT 0 20 0,oT 1 21 1 [1],oP 2 22 (.sls 2 (.t 20) none (some (.t 21)) none) [20,21],oT 3
23 0 [0],oT 4 24 2 [2],oP 5 25 (.sls 2 (.t 23) (some (.t 24)) none none) [23,24],oX 6 26 2 32 22 25 [22,25],oT 7 0 26 [26]]) (sR [uT 0 27 0,uT 1 28 0,oN 2 29 28 [28],oT 3 30 7 [7],oP 4 31 (.slx 2 (.t 27) (some (.t 29))
(some (.t 30)) none) [27,29,30],(5,⟨none,.clr 2 [.int .i64 (0),.nils] (.t 31),none,[],[31]⟩)] (sR [uT 0 32 0,oT 1 6 32 [32]] .ret)))))))
def C23 : CFn := ⟨33,3,[.t 6],B23⟩
abbrev B24 : CCode := (sR [oV 0 2 [2]] (.seq (sR [uT 0 3 0,oP 1 4 (.isnil false (.t 3)) [3]] (sD 4 [0,4] [uV 0 2])) (sR [uW 0 5 2 [.int .i64 (0),.nils],oT 1 6 0 [0],oX 2 7 2 32 5 6 [5,6],oT 3 2 7 [7]] .ret)))
def C24 : CFn := ⟨8,1,[.t 2],B24⟩
abbrev L25_0 : CCode := (.seq (sR [uT 0 12 4,uF 1 13 1 1,oL 2 14 1 13 [13],oN 3 15 14 [14],oB 4 16 .lss 12 15 [12,15]] (sC 16 [1,4,16] 0)) (.seq (.block 1 (.reg true [uF 0 19 1 3,uL 1 20 1 19,uF 2 21 1 1,uL 3 22 1 21,uT
4 23 4,oI 5 24 2 22 23 [22],oF 6 25 0 24 [24],uL 7 26 1 25,uW 8 27 1 [.int .i64 (0)],uF 9 28 1 1,oL 10 29 1 28 [28],uT 11 30 4,oI 12 31 2 29 30 [29],oF 13 32 1 31 [31],oL 14 33 1 32 [32],(15,⟨some 34,.app 1 8 (.t 27)
(.t 33),none,[(19,1),(21,1),(25,1)],[19,21,23,25,27,30,33]⟩),oP 16 35 (.bld [.int .i64 (0),.nils] [(0,1,(.t 26)),(1,1,(.t 34))]) [26,34],oP 17 36 (.bsl 2 1 [.int .i64 (0),.nils] [(0,2,(.t 35))]) [35],oX 18 37 2 32 20 36
[20,36],uF 19 38 1 3,oS 20 1 38 37 [37,38]])) (sI 17 18 4)))
abbrev B25 : CCode := (sR [oQ 0 1 3 0 [0],uH 1 2 [.int .i64 (0),.nils,.nils]] (.seq (.reg true [uF 0 5 0 1,uL 1 6 1 5,uW 2 7 1 [.int .i64 (0)],uF 3 8 2 1,oL 4 9 1 8 [8],uH 7 3 [.int .i64 (0),.nils,.nils],(5,⟨some
10,.app 1 8 (.t 7) (.t 9),none,[(5,1)],[5,7,9]⟩),oP 6 11 (.bld [.int .i64 (0),.nils,.nils] [(0,1,(.t 6)),(2,1,(.t 10))]) [6,10],oS 8 3 3 11 [11]]) (sL 4 0 L25_0 (sR [uM 0 39 3 3,oS 1 3 2 39 [3,39]] .ret))))
def C25 : CFn := ⟨40,1,[.m 2 3 true],B25⟩
abbrev L26_1 : CCode := (.seq (sR [uT 0 15 7,uF 1 16 1 3,oL 2 17 1 16 [16],oN 3 18 17 [17],oB 4 19 .lss 15 18 [15,18]] (sC 19 [7,19] 2)) (.seq (.block 3 (.reg false [oT 0 22 6 [6],oT 1 23 22 [22],vT 2 24 0 23,vM 3 25 3
3 23,vT 4 26 7 23,vT 5 27 5 23,gK 6 28 59 [.t 24,.t 25,.t 26,.t 27] 23 [24,25,26,27],oO 7 29 23 28 [23,28],oT 8 6 29 [29]])) (sI 20 21 7)))
abbrev L26_0 : CCode := (.seq (sR [uT 0 8 5,uF 1 9 1 3,oL 2 10 1 9 [9],oN 3 11 10 [10],oB 4 12 .lss 8 11 [8,11]] (sC 12 [0,3,5,12] 0)) (.seq (.block 1 (sR [uY 0 6 false] (sL 7 2 L26_1 (sR [oT 0 30 6 [6],oE 1 31 30 [30]]
(sD 31 [0,3,31] [oT 0 32 5 [5],oT 1 4 32 [32]]))))) (sI 13 14 5)))
abbrev B26 : CCode := (sR [oQ 0 3 3 1 [1],oZ 1 4 0 [4]] (sL 5 0 L26_0 (sR [uZ 0 4 (-1)] .ret)))
def C26 : CFn := ⟨33,2,[.t 4],B26⟩
abbrev L27_0 : CCode := (.seq (sR [uT 0 6 5,uT 1 7 0,oN 2 8 7 [7],oB 3 9 .lss 6 8 [6,8]] (sC 9 [0,1,5,9] 0)) (.seq (.block 1 (sR [uT 0 12 0,uT 1 13 5,uI 2 14 1 12 13,oL 3 15 1 14 [12,13,14],uT 4 16 1,oB 5 17 .eql 15 16
[15,16]] (sD 17 [0,1,5,17] [uY 0 4 true]))) (sI 10 11 5)))
abbrev B27 : CCode := (sR [oY 0 4 false [4]] (sL 5 0 L27_0 (sR [uY 0 4 false] .ret)))
def C27 : CFn := ⟨18,2,[.t 4],B27⟩
abbrev B28 : CCode := (sR [oQ 0 2 3 0 [0],uH 1 4 [.int .i64 (0),.nils,.nils]] (sR [uM 0 6 3 2,uT 1 7 1,oK 2 8 60 [.t 6,.t 7] [6,7],uH 3 5 [.int .i64 (0),.nils,.nils],oS 4 3 5 8 [8]] (.seq (.reg true [uF 0 9 2 2,uL 1 10
1 9,uF 2 11 1 2,oL 3 12 1 11 [11],oT 4 13 1 [1],oI 5 14 2 12 13 [12],oM 6 15 2 14 [14],(7,⟨some 16,.call 40 [.t 15],none,[(9,1)],[9,13,15]⟩),oK 8 17 61 [.t 10,.t 16] [2,10,16],uF 9 18 2 5,oS 10 1 18 17 [17,18]]) (sR [uM
0 19 3 5,oS 1 3 4 19 [5,19]] .ret))))
def C28 : CFn := ⟨20,2,[.m 4 3 true],B28⟩
abbrev L29_3 : CCode := (.seq (sR [uT 0 60 8,uT 1 61 6,oB 2 62 .lss 60 61 [60,61]] (sC 62 [8,62] 2)) (.seq (.block 3 (.seq (.reg true [uF 0 65 1 3,oL 1 66 1 65 [65],uT 2 67 8,oI 3 68 2 66 67 [66],oF 4 69 0 68 [68],oL 5
70 1 69 [67,69],uF 6 71 0 7,oL 7 72 1 71 [71],oB 8 73 .eql 70 72 [70,72]]) (sD 73 [0,3,5,6,7,8,73] [uY 0 4 false]))) (sI 63 64 8)))
abbrev L29_4 : CCode := (.seq (sR [uT 0 74 9,uF 1 75 1 7,oL 2 76 1 75 [75],oN 3 77 76 [76],oB 4 78 .lss 74 77 [74,77]] (sC 78 [7,9,78] 4)) (.seq (.block 5 (.seq (.seq (.reg true [uF 0 81 1 7,oL 1 82 1 81 [81],uT 2 83
9,oI 3 84 1 82 83 [82],oL 4 85 1 84 [83,84],uF 5 86 0 3,oL 6 87 1 86 [86],oC 7 88 .sub 87 1 [87],oK 8 89 39 [.t 85,(.c (.int .i64 (-10))),.t 88] [85,88],oE 9 90 89 [89]]) (sD 90 [0,3,5,6,7,9,90] [uY 0 4 false])) (sR [uF
0 91 1 7,oL 1 92 1 91 [91],uT 2 93 9,oI 3 94 1 92 93 [92],oL 4 95 1 94 [93,94],oC 5 96 .geq 95 0 [95]] (.cond (.t 96) (sK [96] (.reg false [uT 0 97 5,uF 1 98 1 7,oL 2 99 1 98 [98],uT 3 100 9,oI 4 101 1 99 100 [99],oL 5
102 1 101 [100,101],uI 6 103 1 97 102,(7,⟨none,.st 1 (.t 103) (.c (.bool true)),none,[],[97,102,103]⟩)])) (sK [96] .skip))))) (sI 79 80 9)))
abbrev L29_0 : CCode := (.seq (sR [uT 0 29 6,uF 1 30 1 3,oL 2 31 1 30 [30],oN 3 32 31 [31],oB 4 33 .lss 29 32 [29,32]] (sC 33 [0,6,33] 0)) (.seq (.block 1 (sR [uF 0 36 1 3,oL 1 37 1 36 [36],uT 2 38 6,oI 3 39 2 37 38
[37],oM 4 40 2 39 [39],uH 5 7 [.int .i64 (0),.nils],oS 6 2 7 40 [38,40]] (.seq (.seq (.reg true [uF 0 41 0 7,oL 1 42 1 41 [41],uT 2 43 0,oN 3 44 43 [43],oC 4 45 .sub 44 1 [44],oK 5 46 39 [.t 42,(.c (.int .i64 0)),.t 45]
[42,45],oE 6 47 46 [46],oT 7 48 47 [47],vF 8 49 1 7 48,gL 9 50 1 49 48 [49],gN 10 51 50 48 [50],vT 11 52 0 48,vF 12 53 0 7 48,gL 13 54 1 53 48 [53],vI 14 55 3 52 54 48,gF 15 56 1 55 48 [55],gL 16 57 1 56 48
[52,54,56],gB 17 58 .neq 51 57 48 [51,57],oO 18 59 48 58 [48,58]]) (sD 59 [0,3,5,6,7,59] [uY 0 4 false])) (sL 8 2 L29_3 (sR [uZ 0 9 0] (.block 4 (.loop L29_4))))))) (sI 34 35 6)))
abbrev L29_1 : CCode := (.seq (sR [uT 0 104 10,uF 1 105 0 3,oL 2 106 1 105 [105],oB 3 107 .lss 104 106 [104,106]] (sC 107 [5,10,107] 6)) (.seq (.block 7 (sR [uT 0 110 5,uT 1 111 10,uI 2 112 1 110 111,oL 3 113 1 112
[110,111,112],oE 4 114 113 [113]] (sD 114 [3,5,10,114] [uY 0 4 false]))) (sI 108 109 10)))
abbrev L29_2 : CCode := (.seq (sR [uT 0 115 11,uF 1 116 2 3,oL 2 117 1 116 [116],oN 3 118 117 [117],oB 4 119 .lss 115 118 [115,118]] (sC 119 [3,11,119] 8)) (.seq (.block 9 (.seq (.reg true [uF 0 122 2 3,oL 1 123 1 122
[122],uT 2 124 11,oI 3 125 1 123 124 [123],oL 4 126 1 125 [124,125],uF 5 127 0 3,oL 6 128 1 127 [127],oC 7 129 .sub 128 1 [128],oK 8 130 39 [.t 126,(.c (.int .i64 0)),.t 129] [126,129],oE 9 131 130 [130],oT 10 132 131
[131],vT 11 133 11 132,gC 12 134 .gtr 133 0 132 [133],gT 13 135 134 132 [134],wF 14 136 2 3 135,hL 15 137 1 136 135 [136],wT 16 138 11 135,hI 17 139 1 137 138 135 [137],hL 18 140 1 139 135 [138,139],wF 19 141 2 3 135,hL
20 142 1 141 135 [141],wT 21 143 11 135,hC 22 144 .sub 143 1 135 [143],hI 23 145 1 142 144 135 [142],hL 24 146 1 145 135 [144,145],hB 25 147 .leq 140 146 135 [140,146],gA 26 148 135 147 132 [135,147],oO 27 149 132 148
[132,148]]) (sD 149 [3,11,149] [uY 0 4 false]))) (sI 120 121 11)))
abbrev B29 : CCode := (sR [oQ 0 3 3 1 [1],oY 1 4 false [4]] (.seq (sR [uT 0 12 0,oK 1 13 46 [.t 12] [12],oE 2 14 13 [13],oT 3 15 14 [14],vF 4 16 0 3 15,gL 5 17 1 16 15 [16],gK 6 18 39 [.t 17,(.c (.int .i64 0)),(.c (.int
.i64 4))] 15 [17],gE 7 19 18 15 [18],oO 8 20 15 19 [15,19],oT 9 21 20 [20],vF 10 22 1 3 21,gL 11 23 1 22 21 [22],gN 12 24 23 21 [23],gK 13 25 39 [.t 24,(.c (.int .i64 1)),(.c (.int .i64 3))] 21 [24],gE 14 26 25 21
[25],oO 15 27 21 26 [21,26]] (sD 27 [0,3,27] [uY 0 4 false])) (sR [uP 0 28 (.mk 1 1 [.bool false] (.c (.int .i64 4)) (.c (.int .i64 4))),oT 1 5 28 [28]] (sL 6 0 L29_0 (sL 10 6 L29_1 (sL 11 8 L29_2 (sR [uY 0 4 true]
.ret)))))))
def C29 : CFn := ⟨150,2,[.t 4],B29⟩
abbrev L30_0 : CCode := (.seq (sR [uT 0 49 11,uT 1 50 10,oN 2 51 50 [50],oB 3 52 .lss 49 51 [49,51]] (sC 52 [9,10,11,52] 0)) (.seq (.block 1 (sR [uT 0 55 9,uT 1 56 10,uT 2 57 11,uI 3 58 1 56 57,oL 4 59 1 58
[56,57,58],oK 5 60 27 [.t 55,.t 59] [55,59]] (sD 60 [9,10,11,60] [uY 0 8 true]))) (sI 53 54 11)))
abbrev B30 : CCode := (sR [oQ 0 5 3 1 [1],oY 1 8 false [8]] (.seq (sR [uT 0 12 0,uM 1 13 3 5,oK 2 14 29 [.t 12,.t 13] [12,13],oE 3 15 14 [14],oT 4 16 15 [15],vT 5 17 2 16,vF 6 18 1 5 16,gL 7 19 1 18 16 [18],gN 8 20 19
16 [19],gC 9 21 .sub 20 1 16 [20],gK 10 22 39 [.t 17,(.c (.int .i64 0)),.t 21] 16 [17,21],gE 11 23 22 16 [22],oO 12 24 16 23 [16,23],oT 13 25 24 [24],vT 14 26 3 25,vF 15 27 1 5 25,gL 16 28 1 27 25 [27],gN 17 29 28 25
[28],gC 18 30 .sub 29 1 25 [29],gK 19 31 39 [.t 26,(.c (.int .i64 0)),.t 30] 25 [26,30],gE 20 32 31 25 [31],oO 21 33 25 32 [25,32],oT 22 34 33 [33],vT 23 35 2 34,vT 24 36 3 34,gB 25 37 .eql 35 36 34 [35,36],oO 26 38 34
37 [34,37]] (sD 38 [0,2,3,5,38] [uY 0 8 false])) (sR [oT 0 39 0 [0],uM 1 40 3 5,oT 2 41 2 [2],oK 3 42 62 [.t 39,.t 40,.t 41] [39,40,41],oT 4 9 42 [42]] (sR [uF 0 43 1 5,oL 1 44 1 43 [43],oT 2 45 3 [3],oI 3 46 2 44 45
[44],oM 4 47 2 46 [46],oK 5 48 40 [.t 47] [5,45,47],oT 6 10 48 [48]] (sL 11 0 L30_0 (sR [uY 0 8 false] .ret))))))
def C30 : CFn := ⟨61,4,[.t 8],B30⟩
abbrev B31 : CCode := (sR [oQ 0 5 3 1 [1],oY 1 8 false [8]] (.seq (.reg true [uT 0 9 0,uM 1 10 3 5,uT 2 11 2,uT 3 12 3,oK 4 13 30 [.t 9,.t 10,.t 11,.t 12] [9,10,11,12],oT 5 14 13 [13],wT 6 15 0 14,wM 7 16 3 5 14,wT 8 17
0 14,wF 9 18 1 5 14,hL 10 19 1 18 14 [18],hT 11 20 2 14 [2],hI 12 21 2 19 20 14 [19],hM 13 22 2 21 14 [21],wT 15 24 0 14,wF 16 25 1 5 14,wL 17 26 1 25 14,hT 18 27 3 14 [3],hI 19 28 2 26 27 14 [26],wM 20 29 2 28
14,(14,⟨some 23,.call 12 [.t 17,.t 22],some (14,true),[(5,3),(25,1),(28,2)],[17,20,22,25,28]⟩),(21,⟨some 30,.call 12 [.t 24,.t 29],some (14,true),[(5,3)],[24,27,29]⟩),hK 22 31 63 [.t 15,.t 16,.t 23,.t 30] 14
[5,15,16,23,30],oA 23 32 14 31 [14,31],oT 24 8 32 [32]]) .ret))
def C31 : CFn := ⟨33,4,[.t 8],B31⟩
abbrev L32_2 : CCode := (.seq (sR [uT 0 53 12,uF 1 54 1 5,oL 2 55 1 54 [54],oN 3 56 55 [55],oB 4 57 .lss 53 56 [53,56]] (sC 57 [12,57] 4)) (.seq (.block 5 (sR [uT 0 60 11,uT 1 61 2,oB 2 62 .eql 60 61 [60,61],oT 3 63 62
[62],vT 4 64 9 63,vT 5 65 11 63,vI 6 66 1 64 65 63,gL 7 67 1 66 63 [64,65,66],oO 8 68 63 67 [63,67],oT 9 69 68 [68],wT 10 70 0 69,wM 11 71 3 5 69,wT 12 72 11 69,wT 13 73 12 69,hK 14 74 30 [.t 70,.t 71,.t 72,.t 73] 69
[70,71,72,73],oA 15 75 69 74 [69,74]] (.cond (.t 75) (sK [75] (.reg false [uT 0 76 9,uT 1 77 12,uI 2 78 1 76 77,(3,⟨none,.st 1 (.t 78) (.c (.bool true)),none,[],[76,77,78]⟩)])) (sK [75] .skip)))) (sI 58 59 12)))
abbrev L32_1 : CCode := (.seq (sR [uT 0 46 11,uF 1 47 1 5,oL 2 48 1 47 [47],oN 3 49 48 [48],oB 4 50 .lss 46 49 [46,49]] (sC 50 [11,50] 2)) (.seq (.block 3 (sR [uZ 0 12 0] (.block 4 (.loop L32_2)))) (sI 51 52 11)))
abbrev L32_0 : CCode := (.seq (sR [uT 0 39 10,uF 1 40 1 5,oL 2 41 1 40 [40],oN 3 42 41 [41],oB 4 43 .leq 39 42 [39,42]] (sC 43 [0,2,5,10,43] 0)) (.seq (.block 1 (sR [uZ 0 11 0] (.block 2 (.loop L32_1)))) (sI 44 45 10)))
abbrev B32 : CCode := (sR [oQ 0 5 3 1 [1],oY 1 8 false [8]] (.seq (sR [uT 0 13 0,uM 1 14 3 5,oK 2 15 29 [.t 13,.t 14] [13,14],oE 3 16 15 [15],oT 4 17 16 [16],vT 5 18 2 17,vF 6 19 1 5 17,gL 7 20 1 19 17 [19],gN 8 21 20
17 [20],gC 9 22 .sub 21 1 17 [21],gK 10 23 39 [.t 18,(.c (.int .i64 0)),.t 22] 17 [18,22],gE 11 24 23 17 [23],oO 12 25 17 24 [17,24],oT 13 26 25 [25],vT 14 27 3 26,vF 15 28 1 5 26,gL 16 29 1 28 26 [28],gN 17 30 29 26
[29],gC 18 31 .sub 30 1 26 [30],gK 19 32 39 [.t 27,(.c (.int .i64 0)),.t 31] 26 [27,31],gE 20 33 32 26 [32],oO 21 34 26 33 [26,33]] (sD 34 [0,2,3,5,34] [uY 0 8 false])) (sR [uF 0 35 1 5,oL 1 36 1 35 [35],oN 2 37 36
[36],oP 3 38 (.mk 1 1 [.bool false] (.t 37) (.t 37)) [37],oT 4 9 38 [38]] (sL 10 0 L32_0 (sR [oT 0 79 9 [9],oT 1 80 3 [3],uI 2 81 1 79 80,oL 3 82 1 81 [79,80,81],oT 4 8 82 [82]] .ret)))))
def C32 : CFn := ⟨83,4,[.t 8],B32⟩
abbrev L33_0 : CCode := (.seq (sR [uT 0 6 5,uF 1 7 1 3,oL 2 8 1 7 [7],oN 3 9 8 [8],oB 4 10 .lss 6 9 [6,9]] (sC 10 [0,3,5,10] 0)) (.seq (.block 1 (sR [uT 0 13 0,uM 1 14 3 3,uT 2 15 5,uT 3 16 5,oK 4 17 32 [.t 13,.t 14,.t
15,.t 16] [13,14,15,16]] (sD 17 [0,3,5,17] [uY 0 4 true]))) (sI 11 12 5)))
abbrev B33 : CCode := (sR [oQ 0 3 3 1 [1],oY 1 4 false [4]] (sL 5 0 L33_0 (sR [uY 0 4 false] .ret)))
def C33 : CFn := ⟨18,2,[.t 4],B33⟩
abbrev L35_0 : CCode := (sR [uB 0 10 .lss 9 8] (.seq (sC 10 [7,8,9,10] 0) (.seq (.block 1 (sR [uI 0 11 1 7 9,oL 1 12 1 11 [11],oT 2 5 12 [12]] (.reg false [oT 0 13 3 [3],oT 1 14 5 [5],oK 2 15 67 [.t 14] [14],oP 3 16
(.bsl 1 1 [.str []] [(0,1,(.t 15))]) [15],oX 4 17 1 16 13 16 [13,16],oT 5 3 17 [17]]))) (.reg false [oC 0 18 .add 9 1 [9],oT 1 9 18 [18]]))))
abbrev B35 : CCode := (sR [oV 0 2 [2]] (sR [uP 0 6 (.bsl 1 0 [.str []] []),oT 1 3 6 [6]] (.seq (sR [oT 0 7 0 [0],uN 1 8 7,uZ 2 9 0] (.block 0 (.loop L35_0))) (sR [oT 0 19 3 [3],oT 1 2 19 [19]] .ret))))
def C35 : CFn := ⟨20,1,[.t 2],B35⟩
abbrev B36 : CCode := (sR [oQ 0 3 2 1 [1],oP 1 4 (.mv (.c (.str []))) [4]] (sR [oT 0 6 0 [0],uF 1 7 0 3,oL 2 8 1 7 [7],uI 3 9 3 6 8,oM 4 10 3 9 [9],uP 5 5 (.al [.str [],.int .i64 (0),.int .i64 (0)]),oS 6 3 5 10
[6,8,10]] (.seq (.reg true [uF 0 11 0 5,uL 1 12 1 11,uF 2 13 1 3,oL 3 14 1 13 [13],uF 5 16 2 5,uL 6 17 1 16,(4,⟨some 15,.call 35 [.t 14],none,[(11,1),(16,1)],[3,14,16]⟩),(7,⟨some 18,.call 68 [.t 15,.t
17],none,[(11,1)],[5,11,15,17]⟩),oB 8 19 .add 12 18 [12,18],oT 9 4 19 [19]]) .ret)))
def C36 : CFn := ⟨20,2,[.t 4],B36⟩
abbrev L37_0 : CCode := (.seq (sR [uT 0 5 4,uT 1 6 0,oN 2 7 6 [6],oB 3 8 .lss 5 7 [5,7]] (sC 8 [0,4,8] 0)) (.seq (.block 1 (.reg false [oT 0 11 3 [3],uT 1 12 0,uT 2 13 4,uI 3 14 1 12 13,oL 4 15 1 14 [12,13,14],oK 5 16
69 [.t 15] [15],oB 6 17 .add 11 16 [11,16],oT 7 3 17 [17]])) (sI 9 10 4)))
abbrev B37 : CCode := (sR [oP 0 2 (.mv (.c (.str []))) [2]] (sR [uP 0 3 (.mv (.c (.str [])))] (sL 4 0 L37_0 (sR [oT 0 18 3 [3],oT 1 2 18 [18]] .ret))))
def C37 : CFn := ⟨19,1,[.t 2],B37⟩
abbrev L38_0 : CCode := (.seq (sR [uT 0 13 6,uF 1 14 1 3,oL 2 15 1 14 [14],oN 3 16 15 [15],oB 4 17 .lss 13 16 [13,16]] (sC 17 [0,3,6,17] 0)) (.seq (.block 1 (.seq (sR [uT 0 20 6,uT 1 21 0,uF 2 22 0 3,oL 3 23 1 22
[22],uI 4 24 3 21 23,oF 5 25 2 24 [24],oL 6 26 1 25 [21,23,25],oB 7 27 .eql 20 26 [20,26]] (.cond (.t 27) (sK [27] (.reg false [oT 0 28 5 [5],oP 1 29 (.bin .add (.t 28) (.c (.str [124]))) [28],oT 2 5 29 [29]])) (sK [27]
.skip))) (.reg false [oT 0 30 5 [5],uF 1 31 1 3,oL 2 32 1 31 [31],uT 3 33 6,oI 4 34 1 32 33 [32],oL 5 35 1 34 [33,34],oK 6 36 69 [.t 35] [35],oB 7 37 .add 30 36 [30,36],oT 8 5 37 [37]]))) (sI 18 19 6)))
abbrev B38 : CCode := (sR [oQ 0 3 2 1 [1],oP 1 4 (.mv (.c (.str []))) [4]] (sR [uT 0 7 0,uF 1 8 0 3,oL 2 9 1 8 [8],uI 3 10 3 7 9,oF 4 11 0 10 [10],oL 5 12 1 11 [7,9,11],oT 6 5 12 [12]] (sL 6 0 L38_0 (sR [oT 0 38 5
[5],oT 1 4 38 [38]] .ret))))
def C38 : CFn := ⟨39,2,[.t 4],B38⟩
abbrev B39 : CCode := (sR [oY 0 6 false [6]] (sR [uT 0 7 0,oT 1 8 1 [1],oB 2 9 .geq 7 8 [7,8],oT 3 10 9 [9],hT 4 11 0 10 [0],hT 5 12 2 10 [2],hB 6 13 .leq 11 12 10 [11,12],oA 7 14 10 13 [10,13],oT 8 6 14 [14]] .ret))
def C39 : CFn := ⟨15,3,[.t 6],B39⟩
abbrev L40_0 : CCode := (.seq (sR [uT 0 6 4,oC 1 7 .lss 6 4 [6]] (sC 7 [1,4,7] 0)) (.seq (.block 1 (sR [uF 0 10 1 1,oL 1 11 1 10 [10],uT 2 12 4,oK 3 13 27 [.t 11,.t 12] [11,12]] (.cond (.t 13) (sK [13] (.reg false [oT 0
14 3 [3],uT 1 15 4,oP 2 16 (.bsl 1 1 [.int .i64 (0)] [(0,1,(.t 15))]) [15],oX 3 17 1 8 14 16 [14,16],oT 4 3 17 [17]])) (sK [13] .skip)))) (sI 8 9 4)))
abbrev B40 : CCode := (sR [oQ 0 1 2 0 [0],oV 1 2 [2]] (sR [uW 0 5 1 [.int .i64 (0)],oT 1 3 5 [5]] (sL 4 0 L40_0 (sR [oT 0 18 3 [3],oT 1 2 18 [18]] .ret))))
def C40 : CFn := ⟨19,1,[.t 2],B40⟩
abbrev L41_0 : CCode := (sR [uB 0 8 .lss 7 6] (.seq (sC 8 [5,6,7,8] 0) (.seq (.block 1 (sR [uT 0 9 7,uI 1 10 3 5 7,oM 2 11 3 10 [10],uP 3 4 (.al [.str [],.int .i64 (0),.int .i64 (0)]),oT 4 3 9 [9],oS 5 3 4 11 [11]]
(.seq (.reg true [uM 0 12 3 4,oK 1 13 70 [.t 12] [12],oE 2 14 13 [13],oT 3 15 14 [14],vT 4 16 3 15,gC 5 17 .gtr 16 0 15 [16],gT 6 18 17 15 [17],wT 7 19 0 18,hT 8 20 3 18 [3],hC 9 21 .sub 20 1 18 [20],wI 10 22 3 19 21
18,hF 11 23 0 22 18 [22],hL 12 24 1 23 18 [19,21,23],wF 13 25 0 4 18,hL 14 26 1 25 18 [4,25],hB 15 27 .geq 24 26 18 [24,26],gA 16 28 18 27 15 [18,27],oO 17 29 15 28 [15,28]]) (sD 29 [0,5,6,7,29] [uY 0 2 false])))) (.reg
false [oC 0 30 .add 7 1 [7],oT 1 7 30 [30]]))))
abbrev B41 : CCode := (sR [oY 0 2 false [2]] (.seq (sR [uT 0 5 0,uN 1 6 5,uZ 2 7 0] (.block 0 (.loop L41_0))) (sR [oT 0 31 0 [0],oN 1 32 31 [31],oC 2 33 .leq 32 4 [32],oT 3 2 33 [33]] .ret)))
def C41 : CFn := ⟨34,1,[.t 2],B41⟩
abbrev B42 : CCode := (sR [oY 0 6 false [6]] (sR [oT 0 7 1 [1],uT 1 8 0,oB 2 9 .leq 7 8 [7,8],oT 3 10 9 [9],hT 4 11 0 10 [0],hT 5 12 2 10 [2],hB 6 13 .leq 11 12 10 [11,12],oA 7 14 10 13 [10,13],oT 8 6 14 [14]] .ret))
def C42 : CFn := ⟨15,3,[.t 6],B42⟩
abbrev B43 : CCode := (sR [oY 0 4 false [4]] (sR [oT 0 5 0 [0],oT 1 6 1 [1],oK 2 7 71 [.t 5,.t 6] [5,6],oC 3 8 .geq 7 0 [7],oT 4 4 8 [8]] .ret))
def C43 : CFn := ⟨9,2,[.t 4],B43⟩
abbrev B44 : CCode := (sR [oY 0 2 false [2]] (sR [oT 0 3 0 [0],oK 1 4 42 [.t 3,(.c (.int .i64 (-10))),(.c (.int .i64 3))] [3],oE 2 5 4 [4],oT 3 2 5 [5]] .ret))
def C44 : CFn := ⟨6,1,[.t 2],B44⟩
abbrev B45 : CCode := (sR [oQ 0 3 1 1 [1],oY 1 4 false [4]] (sR [oT 0 5 0 [0],uP 1 6 (.fn 72 [.t 3]),oK 2 7 43 [.t 5,.t 6] [3,5,6],oE 3 8 7 [7],oT 4 4 8 [8]] .ret))
def C45 : CFn := ⟨9,2,[.t 4],B45⟩
abbrev L46_0 : CCode := (.seq (sR [uT 0 4 3,uT 1 5 0,oN 2 6 5 [5],oB 3 7 .lss 4 6 [4,6]] (sC 7 [3,7] 0)) (.seq (.block 1 (.seq (.reg true [uT 0 10 0,uT 1 11 3,uI 2 12 3 10 11,oM 3 13 3 12 [12],oK 4 14 73 [.t 13]
[10,11,13],oE 5 15 14 [14],oT 6 16 15 [15],vT 7 17 3 16,gC 8 18 .gtr 17 0 16 [17],gT 9 19 18 16 [18],wT 10 20 0 19,wT 11 21 3 19,hC 12 22 .sub 21 1 19 [21],wI 13 23 3 20 22 19,hF 14 24 0 23 19 [23],hL 15 25 1 24 19
[20,22,24],wT 16 26 0 19,wT 17 27 3 19,wI 18 28 3 26 27 19,hF 19 29 0 28 19 [28],hL 20 30 1 29 19 [26,27,29],hB 21 31 .geq 25 30 19 [25,30],gA 22 32 19 31 16 [19,31],oO 23 33 16 32 [16,32]]) (sD 33 [0,3,33] [uY 0 2
false]))) (sI 8 9 3)))
abbrev B46 : CCode := (sR [oY 0 2 false [2]] (sL 3 0 L46_0 (sR [oT 0 34 0 [0],oN 1 35 34 [34],oC 2 36 .leq 35 4 [35],oT 3 2 36 [36]] .ret)))
def C46 : CFn := ⟨37,1,[.t 2],B46⟩
abbrev L47_0 : CCode := (.seq (sR [uT 0 6 5,uT 1 7 1,oN 2 8 7 [7],oB 3 9 .lss 6 8 [6,8]] (sC 9 [0,1,5,9] 0)) (.seq (.block 1 (sR [uT 0 12 0,uT 1 13 1,uT 2 14 5,uI 3 15 1 13 14,oL 4 16 1 15 [13,14,15],oK 5 17 27 [.t
12,.t 16] [12,16],oE 6 18 17 [17]] (sD 18 [0,1,5,18] [uY 0 4 false]))) (sI 10 11 5)))
abbrev B47 : CCode := (sR [oY 0 4 false [4]] (sL 5 0 L47_0 (sR [uY 0 4 true] .ret)))
def C47 : CFn := ⟨19,2,[.t 4],B47⟩
abbrev B48 : CCode := (sR [oP 0 2 (.mv (.c (.nilp))) [2],oV 1 3 [3],uH 2 4 [.int .i64 (0),.nils,.nils]] (sR [oT 0 7 0 [0],oK 1 8 74 [.t 7] [7],oT 2 5 8 [8]] (sR [uT 0 9 5,oK 1 10 75 [.t 9] [9],oT 2 6 10 [10]] (sR [uT 0
11 5,uT 1 12 6,uT 2 13 5,uT 3 14 6,oK 4 15 76 [.t 13,.t 14] [13,14],oT 5 2 11 [11],oT 6 3 12 [12],oS 7 3 4 15 [15]] .ret))))
def C48 : CFn := ⟨16,1,[.t 2,.t 3,.m 4 3 true],B48⟩
abbrev L49_1 : CCode := (sR [uB 0 74 .lss 73 72] (.seq (sC 74 [71,72,73,74] 2) (.seq (.block 3 (sR [uI 0 75 1 71 73,oL 1 76 1 75 [75],oT 2 9 76 [76]] (sR [oT 0 77 9 [9],uF 1 78 0 3,oL 2 79 1 78 [78],oC 3 80 .sub 79 1
[79],oK 4 81 42 [.t 77,(.c (.int .i64 (-10))),.t 80] [77,80],oE 5 82 81 [81]] (sD 82 [0,3,5,7,36,37,38,71,72,73,82] [uY 0 4 false])))) (.reg false [oC 0 83 .add 73 1 [73],oT 1 73 83 [83]]))))
abbrev L49_0 : CCode := (sR [uB 0 39 .lss 38 37] (.seq (sC 39 [0,36,37,38,39] 0) (.seq (.block 1 (sR [uT 0 40 38,uI 1 41 2 36 38,oM 2 42 2 41 [41],uH 3 7 [.int .i64 (0),.nils],oT 4 6 40 [40],oS 5 2 7 42 [42]] (.seq
(.seq (.reg true [uF 0 43 0 7,oL 1 44 1 43 [43],uT 2 45 0,oN 3 46 45 [45],oC 4 47 .sub 46 1 [46],oK 5 48 42 [.t 44,(.c (.int .i64 0)),.t 47] [44,47],oE 6 49 48 [48],oT 7 50 49 [49],vF 8 51 1 7 50,gL 9 52 1 51 50 [51],gN
10 53 52 50 [52],vT 11 54 0 50,vF 12 55 0 7 50,gL 13 56 1 55 50 [55],vI 14 57 3 54 56 50,gF 15 58 1 57 50 [57],gL 16 59 1 58 50 [54,56,58],gB 17 60 .neq 53 59 50 [53,59],oO 18 61 50 60 [50,60],oT 19 62 61 [61],vF 20 63
1 3 62,gL 21 64 1 63 62 [63],gT 22 65 6 62 [6],gG 23 66 (.sls 2 (.t 64) none (some (.t 65)) none) 62 [64,65],vG 24 67 (.fn 79 [.t 7]) 62,gK 25 68 78 [.t 66,.t 67] 62 [66,67],oO 26 69 62 68 [62,68]]) (sD 69
[0,3,5,7,36,37,38,69] [uY 0 4 false])) (.seq (sR [uF 0 70 1 7,oL 1 71 1 70 [70],uN 2 72 71,uZ 3 73 0] (.block 2 (.loop L49_1))) (.reg false [oT 0 84 5 [5],uM 1 85 2 7,oK 2 86 20 [.t 85] [7,85],oK 3 87 22 [.t 84,.t 86]
[84,86],oT 4 5 87 [87]]))))) (.reg false [oC 0 88 .add 38 1 [38],oT 1 38 88 [88]]))))
abbrev B49 : CCode := (sR [oQ 0 3 3 1 [1],oY 1 4 false [4]] (.seq (sR [uT 0 10 0,oK 1 11 41 [.t 10] [10],oE 2 12 11 [11],oT 3 13 12 [12],vF 4 14 0 3 13,gL 5 15 1 14 13 [14],gK 6 16 42 [.t 15,(.c (.int .i64 0)),(.c (.int
.i64 4))] 13 [15],gE 7 17 16 13 [16],oO 8 18 13 17 [13,17],oT 9 19 18 [18],vF 10 20 1 3 19,gL 11 21 1 20 19 [20],gN 12 22 21 19 [21],gK 13 23 42 [.t 22,(.c (.int .i64 1)),(.c (.int .i64 3))] 19 [22],gE 14 24 23 19
[23],oO 15 25 19 24 [19,24],oT 16 26 25 [25],vF 17 27 2 3 26,gL 18 28 1 27 26 [27],vF 19 29 0 3 26,gL 20 30 1 29 26 [29],gK 21 31 77 [.t 28,.t 30] 26 [28,30],gE 22 32 31 26 [31],oO 23 33 26 32 [26,32]] (sD 33 [0,3,33]
[uY 0 4 false])) (sR [uW 0 34 1 [.int .i64 (0)],oT 1 5 34 [34]] (.seq (sR [uF 0 35 1 3,oL 1 36 1 35 [35],uN 2 37 36,uZ 3 38 0] (.block 0 (.loop L49_0))) (sR [oT 0 89 5 [5],oN 1 90 89 [89],uF 2 91 0 3,oL 3 92 1 91
[3,91],oB 4 93 .eql 90 92 [90,92],oT 5 4 93 [93]] .ret)))))
def C49 : CFn := ⟨94,2,[.t 4],B49⟩
abbrev B50 : CCode := (sR [oQ 0 5 3 1 [1],oY 1 8 false [8]] (sR [uF 0 10 1 5,oL 1 11 1 10 [10],oN 2 12 11 [11],oC 3 13 .sub 12 1 [12],oT 4 9 13 [13]] (sR [uT 0 14 0,uM 1 15 3 5,oK 2 16 49 [.t 14,.t 15] [14,15],oT 3 17
16 [16],wT 4 18 2 17,wT 5 19 9 17,hK 6 20 42 [.t 18,(.c (.int .i64 0)),.t 19] 17 [18,19],oA 7 21 17 20 [17,20],oT 8 22 21 [21],wT 9 23 3 22,hT 10 24 9 22 [9],hK 11 25 42 [.t 23,(.c (.int .i64 0)),.t 24] 22 [23,24],oA 12
26 22 25 [22,25],oT 13 27 26 [26],hT 14 28 0 27 [0],wF 15 29 1 5 27,hL 16 30 1 29 27 [29],wF 17 31 2 5 27,hL 18 32 1 31 27 [31],hT 19 33 2 27 [2],hT 20 34 3 27 [3],hK 21 35 54 [.t 28,.t 30,.t 32,.t 33,.t 34] 27
[5,28,30,32,33,34],oA 22 36 27 35 [27,35],oT 23 8 36 [36]] .ret)))
def C50 : CFn := ⟨37,4,[.t 8],B50⟩
abbrev B51 : CCode := (sR [oQ 0 5 3 1 [1],oY 1 8 false [8]] (.seq (.reg true [uT 0 9 0,uM 1 10 3 5,uT 2 11 2,uT 3 12 3,oK 4 13 50 [.t 9,.t 10,.t 11,.t 12] [9,10,11,12],oT 5 14 13 [13],wT 6 15 0 14,wM 7 16 3 5 14,wT 8 17
0 14,wF 9 18 1 5 14,hL 10 19 1 18 14 [18],hT 11 20 2 14 [2],hI 12 21 2 19 20 14 [19],hM 13 22 2 21 14 [21],wT 15 24 0 14,wF 16 25 1 5 14,wL 17 26 1 25 14,hT 18 27 3 14 [3],hI 19 28 2 26 27 14 [26],wM 20 29 2 28
14,(14,⟨some 23,.call 19 [.t 17,.t 22],some (14,true),[(5,3),(25,1),(28,2)],[17,20,22,25,28]⟩),(21,⟨some 30,.call 19 [.t 24,.t 29],some (14,true),[(5,3)],[24,27,29]⟩),hK 22 31 80 [.t 15,.t 16,.t 23,.t 30] 14
[5,15,16,23,30],oA 23 32 14 31 [14,31],oT 24 8 32 [32]]) .ret))
def C51 : CFn := ⟨33,4,[.t 8],B51⟩
abbrev L52_1 : CCode := (sR [uB 0 51 .lss 50 49] (.seq (sC 51 [12,49,50,51] 2) (.seq (.block 3 (sR [uT 0 52 50,oT 1 13 52 [52]] (sR [uT 0 53 10,uT 1 54 13,uI 2 55 1 53 54,oL 3 56 1 55 [53,54,55],oE 4 57 56 [56],oT 5 58
57 [57],wT 6 59 0 58,wM 7 60 3 5 58,wT 8 61 12 58,wT 9 62 13 58,hK 10 63 50 [.t 59,.t 60,.t 61,.t 62] 58 [59,60,61,62],oA 11 64 58 63 [58,63]] (.cond (.t 64) (sK [64] (sR [uT 0 65 10,uT 1 66 13,uI 2 67 1 65
66,(3,⟨none,.st 1 (.t 67) (.c (.bool true)),none,[],[65,66,67]⟩)] (.reg false [oT 0 68 11 [11],oT 1 69 13 [13],oP 2 70 (.bsl 1 1 [.int .i64 (0)] [(0,1,(.t 69))]) [69],oX 3 71 1 8 68 70 [68,70],oT 4 11 71 [71]]))) (sK
[13,64] .skip))))) (.reg false [oC 0 72 .add 50 1 [50],oT 1 50 72 [72]]))))
abbrev L52_0 : CCode := (.seq (sR [uT 0 39 11,oN 1 40 39 [39],oC 2 41 .gtr 40 0 [40]] (sC 41 [0,5,11,41] 0)) (.block 1 (sR [uT 0 42 11,uP 1 43 (.ia 1 (.t 42) (.c (.int .i64 0))),oL 2 44 1 43 [42,43],oT 3 12 44 [44]] (sR
[oT 0 45 11 [11],oP 1 46 (.sls 1 (.t 45) (some (.c (.int .i64 1))) none none) [45],oT 2 11 46 [46]] (sR [uF 0 47 1 5,oL 1 48 1 47 [47],oN 2 49 48 [48],uZ 3 50 0] (.block 2 (.loop L52_1)))))))
abbrev B52 : CCode := (sR [oQ 0 5 3 1 [1],oY 1 8 false [8]] (sR [uF 0 14 1 5,oL 1 15 1 14 [14],oN 2 16 15 [15],oC 3 17 .sub 16 1 [16],oT 4 9 17 [17]] (.seq (sR [uT 0 18 0,uM 1 19 3 5,oK 2 20 49 [.t 18,.t 19] [18,19],oE
3 21 20 [20],oT 4 22 21 [21],vT 5 23 2 22,vT 6 24 9 22,gK 7 25 42 [.t 23,(.c (.int .i64 0)),.t 24] 22 [23,24],gE 8 26 25 22 [25],oO 9 27 22 26 [22,26],oT 10 28 27 [27],vT 11 29 3 28,vT 12 30 9 28,gK 13 31 42 [.t 29,(.c
(.int .i64 0)),.t 30] 28 [29,30],gE 14 32 31 28 [31],oO 15 33 28 32 [28,32]] (sD 33 [0,2,3,5,9,33] [uY 0 8 false])) (sR [oT 0 34 9 [9],oC 1 35 .add 34 1 [34],oP 2 36 (.mk 1 1 [.bool false] (.t 35) (.t 35)) [35],oT 3 10
36 [36]] (sR [oT 0 37 2 [2],oP 1 38 (.bsl 1 1 [.int .i64 (0)] [(0,1,(.t 37))]) [37],oT 2 11 38 [38]] (.seq (.block 0 (.loop L52_0)) (sR [oT 0 73 10 [10],oT 1 74 3 [3],uI 2 75 1 73 74,oL 3 76 1 75 [73,74,75],oT 4 8 76
[76]] .ret)))))))
def C52 : CFn := ⟨77,4,[.t 8],B52⟩
abbrev L53_0 : CCode := (sR [uB 0 10 .lss 9 8] (.seq (sC 10 [0,3,8,9,10] 0) (.seq (.block 1 (sR [uT 0 11 9,oT 1 5 11 [11]] (sR [uT 0 12 0,uM 1 13 3 3,uT 2 14 5,oT 3 15 5 [5],oK 4 16 52 [.t 12,.t 13,.t 14,.t 15]
[12,13,14,15]] (sD 16 [0,3,8,9,16] [uY 0 4 true])))) (.reg false [oC 0 17 .add 9 1 [9],oT 1 9 17 [17]]))))
abbrev B53 : CCode := (sR [oQ 0 3 3 1 [1],oY 1 4 false [4]] (.seq (sR [uF 0 6 1 3,oL 1 7 1 6 [6],oN 2 8 7 [7],uZ 3 9 0] (.block 0 (.loop L53_0))) (sR [uY 0 4 false] .ret)))
def C53 : CFn := ⟨18,2,[.t 4],B53⟩
abbrev B54 : CCode := (sR [oY 0 10 false [10]] (sR [uT 0 12 1,uT 1 13 4,uI 2 14 2 12 13,oM 3 15 2 14 [14],oK 4 16 20 [.t 15] [12,13,15],oT 5 11 16 [16]] (sR [uT 0 17 3,oT 1 18 4 [4],oB 2 19 .neq 17 18 [17,18],oT 3 20 19
[19],wT 4 21 11 20,hT 5 22 0 20 [0],hT 6 23 1 20 [1],hT 7 24 2 20 [2],hT 8 25 3 20 [3],hK 9 26 81 [.t 22,.t 23,.t 24,.t 25] 20 [22,23,24,25],hK 10 27 21 [.t 21,.t 26] 20 [21,26],hN 11 28 27 20 [27],hT 12 29 11 20
[11],hN 13 30 29 20 [29],hB 14 31 .lss 28 30 20 [28,30],oA 15 32 20 31 [20,31],oT 16 10 32 [32]] .ret)))
def C54 : CFn := ⟨33,5,[.t 10],B54⟩
abbrev B55 : CCode := (sR [oY 0 4 false [4]] (sR [oT 0 5 0 [0],oT 1 6 1 [1],oK 2 7 82 [.t 5,.t 6] [5,6],oC 3 8 .geq 7 0 [7],oT 4 4 8 [8]] .ret))
def C55 : CFn := ⟨9,2,[.t 4],B55⟩
abbrev L56_0 : CCode := (sR [uB 0 12 .lss 11 10] (.seq (sC 12 [9,10,11,12] 0) (.seq (.block 1 (sR [uI 0 13 1 9 11,oL 1 14 1 13 [13],oT 2 5 14 [14]] (sR [oT 0 15 3 [3],oT 1 16 5 [5],oN 2 17 16 [16],oB 3 18 .add 15 17
[15,17],oT 4 3 18 [18]] (sR [uT 0 19 3,oC 1 20 .lss 19 0 [19]] (.cond (.t 20) (sK [20] (.reg false [oP 0 21 .fail [21],(1,⟨none,.fail,none,[],[]⟩)])) (sK [20] .skip)))))) (.reg false [oC 0 22 .add 11 1 [11],oT 1 11 22
[22]]))))
abbrev L56_1 : CCode := (sR [uB 0 28 .lss 27 26] (.seq (sC 28 [25,26,27,28] 2) (.seq (.block 3 (sR [uI 0 29 1 25 27,oL 1 30 1 29 [29],oT 2 8 30 [30]] (.reg false [oT 0 31 6 [6],oT 1 32 8 [8],oX 2 33 1 8 31 32 [31,32],oT
3 6 33 [33]]))) (.reg false [oC 0 34 .add 27 1 [27],oT 1 27 34 [34]]))))
abbrev B56 : CCode := (sR [oV 0 2 [2]] (sR [uZ 0 3 0] (.seq (sR [uT 0 9 0,uN 1 10 9,uZ 2 11 0] (.block 0 (.loop L56_0))) (sR [oT 0 23 3 [3],oK 1 24 83 [(.c (.nils)),.t 23] [23],oT 2 6 24 [24]] (.seq (sR [oT 0 25 0
[0],uN 1 26 25,uZ 2 27 0] (.block 2 (.loop L56_1))) (sR [oT 0 35 6 [6],oT 1 2 35 [35]] .ret))))))
def C56 : CFn := ⟨36,1,[.t 2],B56⟩
abbrev L59_2 : CCode := (.seq (sR [uT 0 36 11,uF 1 37 1 5,oL 2 38 1 37 [37],oN 3 39 38 [38],oB 4 40 .lss 36 39 [36,39]] (sC 40 [11,40] 2)) (.seq (.block 3 (sR [uT 0 43 11,uT 1 44 2,oB 2 45 .neq 43 44 [43,44],oT 3 46 45
[45],wT 4 47 9 46,wT 5 48 0 46,wF 6 49 1 5 46,hL 7 50 1 49 46 [49],wT 8 51 11 46,hI 9 52 2 50 51 46 [50],hM 10 53 2 52 46 [52],hK 11 54 12 [.t 48,.t 53] 46 [48,51,53],hK 12 55 47 [.t 47,.t 54] 46 [47,54],oA 13 56 46 55
[46,55]] (.cond (.t 56) (sK [56] (.reg false [oT 0 57 9 [9],uF 1 58 1 5,oL 2 59 1 58 [58],uT 3 60 11,oI 4 61 2 59 60 [59],oM 5 62 2 61 [61],oK 6 63 40 [.t 62] [60,62],oK 7 64 61 [.t 57,.t 63] [57,63],oT 8 9 64 [64]]))
(sK [56] .skip)))) (sI 41 42 11)))
abbrev L59_0 : CCode := (.seq (sR [uT 0 29 10,uF 1 30 1 5,oL 2 31 1 30 [30],oN 3 32 31 [31],oB 4 33 .lss 29 32 [29,32]] (sC 33 [0,10,33] 0)) (.seq (.block 1 (sR [uZ 0 11 0] (.block 2 (.loop L59_2)))) (sI 34 35 10)))
abbrev L59_4 : CCode := (.seq (sR [uT 0 81 15,uF 1 82 1 5,oL 2 83 1 82 [82],oN 3 84 83 [83],oB 4 85 .lss 81 84 [81,84]] (sC 85 [15,85] 8)) (.seq (.block 9 (.seq (.reg true [uT 0 88 12,uT 1 89 14,oK 2 90 27 [.t 88,.t 89]
[88,89],oT 3 91 90 [90],wT 4 92 12 91,wT 5 93 15 91,hK 6 94 27 [.t 92,.t 93] 91 [92,93],hE 7 95 94 91 [94],oA 8 96 91 95 [91,95],oT 9 97 96 [96],wF 10 98 1 5 97,hL 11 99 1 98 97 [98],wT 12 100 14 97,hI 13 101 2 99 100
97 [99],hM 14 102 2 101 97 [101],wF 16 104 1 5 97,wL 17 105 1 104 97,wT 18 106 15 97,hI 19 107 2 105 106 97 [105],wM 20 108 2 107 97,wT 22 110 9 97,(15,⟨some 103,.call 40 [.t 102],some
(97,true),[(104,1),(107,2)],[100,102,104,107]⟩),hK 21 109 40 [.t 108] 97 [106,108],hK 23 111 86 [.t 103,.t 109,.t 110] 97 [103,109,110],oA 24 112 97 111 [97,111]]) (.cond (.t 112) (sK [112] (.reg false [oT 0 113 12
[12],uT 1 114 15,oP 2 115 (.bsl 1 1 [.int .i64 (0)] [(0,1,(.t 114))]) [114],oX 3 116 1 8 113 115 [113,115],oT 4 12 116 [116]])) (sK [112] .skip)))) (sI 86 87 15)))
abbrev L59_3 : CCode := (.seq (sR [uT 0 74 14,uF 1 75 1 5,oL 2 76 1 75 [75],oN 3 77 76 [76],oB 4 78 .lss 74 77 [74,77]] (sC 78 [14,78] 6)) (.seq (.block 7 (sR [uZ 0 15 0] (.block 8 (.loop L59_4)))) (sI 79 80 14)))
abbrev L59_1 : CCode := (.seq (sR [uT 0 67 13,uF 1 68 1 5,oL 2 69 1 68 [68],oN 3 70 69 [69],oB 4 71 .lss 67 70 [67,70]] (sC 71 [5,9,13,71] 4)) (.seq (.block 5 (sR [uZ 0 14 0] (.block 6 (.loop L59_3)))) (sI 72 73 13)))
abbrev B59 : CCode := (sR [oQ 0 5 3 1 [1],oY 1 8 false [8]] (.seq (sR [uT 0 16 2,uT 1 17 3,oB 2 18 .eql 16 17 [16,17]] (sD 18 [0,2,3,5,18] [uY 0 8 false])) (.seq (.reg true [uF 0 19 2 5,uL 1 20 1 19,uT 2 21 0,uF 3 22 1
5,oL 4 23 1 22 [22],uT 5 24 2,oI 6 25 2 23 24 [23],oM 7 26 2 25 [25],(8,⟨some 27,.call 12 [.t 21,.t 26],none,[(19,1)],[19,21,24,26]⟩),oK 9 28 61 [.t 20,.t 27] [20,27],oT 10 9 28 [28]]) (sL 10 0 L59_0 (sR [oT 0 65 2
[2],oP 1 66 (.bsl 1 1 [.int .i64 (0)] [(0,1,(.t 65))]) [65],oT 2 12 66 [66]] (sL 13 4 L59_1 (sR [oT 0 117 12 [12],oT 1 118 3 [3],oK 2 119 27 [.t 117,.t 118] [117,118],oT 3 8 119 [119]] .ret)))))))
def C59 : CFn := ⟨120,4,[.t 8],B59⟩
abbrev B60 : CCode := (sR [oQ 0 2 3 0 [0],uH 1 4 [.int .i64 (0),.nils,.nils]] (sR [uM 0 6 3 2,oK 1 7 25 [.t 6] [6],uH 2 5 [.int .i64 (0),.nils,.nils],oS 3 3 5 7 [7]] (.seq (sR [uT 0 8 1,uF 1 9 1 2,oL 2 10 1 9 [9],oN 3
11 10 [2,10],oC 4 12 .sub 11 1 [11],oK 5 13 39 [.t 8,(.c (.int .i64 0)),.t 12] [8,12]] (.cond (.t 13) (sK [13] (.reg true [uW 0 14 2 [.int .i64 (0),.nils],uF 1 15 1 5,oL 2 16 1 15 [15],uT 3 17 1,oP 4 18 (.sls 2 (.t 16)
none (some (.t 17)) none) [16,17],uF 6 20 1 5,uL 7 21 1 20,oT 8 22 1 [1],oC 9 23 .add 22 1 [22],oP 10 24 (.sls 2 (.t 21) (some (.t 23)) none none) [21,23],(5,⟨some 19,.app 2 32 (.t 14) (.t
18),none,[(20,1)],[14,18,20]⟩),oX 11 25 2 32 19 24 [19,24],uF 12 26 1 5,oS 13 1 26 25 [25,26]])) (sK [1,13] .skip))) (sR [uM 0 27 3 5,oS 1 3 4 27 [5,27]] .ret))))
def C60 : CFn := ⟨28,2,[.m 4 3 true],B60⟩
abbrev L61_0 : CCode := (.seq (sR [uT 0 8 6,oC 1 9 .lss 8 4 [8]] (sC 9 [0,1,6,9] 0)) (.seq (.block 1 (sR [uT 0 12 0,uT 1 13 6,oK 2 14 27 [.t 12,.t 13] [12,13],oT 3 15 14 [14],vT 4 16 1 15,vT 5 17 6 15,gK 6 18 27 [.t
16,.t 17] 15 [16,17],oO 7 19 15 18 [15,18]] (.cond (.t 19) (sK [19] (.reg false [oT 0 20 5 [5],uT 1 21 6,oP 2 22 (.bsl 1 1 [.int .i64 (0)] [(0,1,(.t 21))]) [21],oX 3 23 1 8 20 22 [20,22],oT 4 5 23 [23]])) (sK [19]
.skip)))) (sI 10 11 6)))
abbrev B61 : CCode := (sR [oV 0 4 [4]] (sR [uW 0 7 1 [.int .i64 (0)],oT 1 5 7 [7]] (sL 6 0 L61_0 (sR [oT 0 24 5 [5],oT 1 4 24 [24]] .ret))))
def C61 : CFn := ⟨25,2,[.t 4],B61⟩
abbrev L62_2 : CCode := (.seq (sR [uT 0 57 13,uT 1 58 11,oN 2 59 58 [58],oB 3 60 .lss 57 59 [57,59]] (sC 60 [13,60] 4)) (.seq (.block 5 (.reg false [oT 0 63 12 [12],oT 1 64 63 [63],vT 2 65 7 64,vT 3 66 11 64,vT 4 67 13
64,vI 5 68 1 66 67 64,gL 6 69 1 68 64 [66,67,68],gK 7 70 27 [.t 65,.t 69] 64 [65,69],oO 8 71 64 70 [64,70],oT 9 12 71 [71]])) (sI 61 62 13)))
abbrev L62_3 : CCode := (.seq (sR [uT 0 72 14,uT 1 73 11,oN 2 74 73 [73],oB 3 75 .lss 72 74 [72,74],oT 4 76 75 [75],wT 5 77 12 76,oA 6 78 76 77 [76,77]] (sC 78 [11,12,14,78] 6)) (.seq (.block 7 (sR [uT 0 81 8,uT 1 82
11,uT 2 83 14,uI 3 84 1 82 83,oL 4 85 1 84 [82,83,84],oK 5 86 27 [.t 81,.t 85] [81,85],oE 6 87 86 [86]] (.cond (.t 87) (sK [87] (.reg false [oT 0 88 7 [7],uT 1 89 11,uT 2 90 14,uI 3 91 1 89 90,oL 4 92 1 91 [89,90,91],oP
5 93 (.bsl 1 1 [.int .i64 (0)] [(0,1,(.t 92))]) [92],oK 6 94 61 [.t 88,.t 93] [88,93],oT 7 7 94 [94]])) (sK [87] .skip)))) (sI 79 80 14)))
abbrev L62_1 : CCode := (.seq (sR [uT 0 41 10,uF 1 42 1 4,oL 2 43 1 42 [42],oN 3 44 43 [43],oB 4 45 .lss 41 44 [41,44]] (sC 45 [10,45] 2)) (.seq (.block 3 (sR [uF 0 48 1 4,oL 1 49 1 48 [48],uT 2 50 10,oI 3 51 2 49 50
[49],oM 4 52 2 51 [51],oK 5 53 40 [.t 52] [50,52],oT 6 11 53 [53]] (sR [uT 0 54 10,uT 1 55 2,oB 2 56 .eql 54 55 [54,55],oT 3 12 56 [56]] (sL 13 4 L62_2 (sR [uZ 0 14 0] (.block 6 (.loop L62_3))))))) (sI 46 47 10)))
abbrev L62_0 : CCode := (.seq (sR [uT 0 34 9,uF 1 35 1 4,oL 2 36 1 35 [35],oN 3 37 36 [36],oB 4 38 .leq 34 37 [34,37]] (sC 38 [2,4,8,9,38] 0)) (.seq (.block 1 (sR [uZ 0 10 0] (.block 2 (.loop L62_1)))) (sI 39 40 9)))
abbrev B62 : CCode := (sR [oQ 0 4 3 1 [1],oV 1 6 [6]] (sR [uW 0 15 1 [.int .i64 (0)],oT 1 7 15 [15]] (.seq (sR [uT 0 16 0,uM 1 17 3 4,oK 2 18 29 [.t 16,.t 17] [16,17],oE 3 19 18 [18],oT 4 20 19 [19],vT 5 21 2 20,vF 6 22
1 4 20,gL 7 23 1 22 20 [22],gN 8 24 23 20 [23],gC 9 25 .sub 24 1 20 [24],gK 10 26 39 [.t 21,(.c (.int .i64 0)),.t 25] 20 [21,25],gE 11 27 26 20 [26],oO 12 28 20 27 [20,27]] (sD 28 [0,2,4,28] [oT 0 29 7 [7],oT 1 6 29
[29]])) (sR [oT 0 30 0 [0],uM 1 31 3 4,uT 2 32 2,oK 3 33 87 [.t 30,.t 31,.t 32] [30,31,32],oT 4 8 33 [33]] (sL 9 0 L62_0 (sR [oT 0 95 7 [7],oT 1 6 95 [95]] .ret))))))
def C62 : CFn := ⟨96,3,[.t 6],B62⟩
abbrev B63 : CCode := (sR [oQ 0 5 3 1 [1],oY 1 8 false [8]] (sR [uT 0 9 0,uM 1 10 3 5,oK 2 11 29 [.t 9,.t 10] [9,10],oT 3 12 11 [11],hT 4 13 0 12 [0],wM 5 14 3 5 12,hT 6 15 2 12 [2],hK 7 16 88 [.t 13,.t 14,(.c (.int
.i64 (-1))),.t 15] 12 [5,13,14,15],hT 8 17 3 12 [3],hK 9 18 47 [.t 16,.t 17] 12 [16,17],oA 10 19 12 18 [12,18],oT 11 8 19 [19]] .ret))
def C63 : CFn := ⟨20,4,[.t 8],B63⟩
abbrev B67 : CCode := (sR [oP 0 2 (.mv (.c (.str []))) [2]] (.seq (sR [uT 0 6 0,oK 1 7 91 [.t 6] [6],oT 2 5 7 [7],uU 3 8 5 0,oU 4 9 5 1 [5],oT 5 3 8 [8],oT 6 4 9 [9]] (sR [oT 0 10 4 [4]] (.cond (.t 10) (sK [0,10] (sR
[oT 0 11 3 [3],oK 1 12 92 [.t 11] [11],oT 2 2 12 [12]] .ret)) (sK [3,10] .skip)))) (.seq (sR [uT 0 13 0,oK 1 14 42 [.t 13,(.c (.int .i64 0)),(.c (.int .i64 3))] [13]] (.cond (.t 14) (sK [14] (sR [uT 0 15 0,oT 1 16 0
[0],oC 2 17 .add 16 1 [16],oP 3 18 (.sst (.c (.str [120,121,122,119])) (some (.t 15)) (some (.t 17))) [15,17],oT 4 2 18 [18]] .ret)) (sK [0,14] .skip))) (sR [uP 0 2 (.mv (.c (.str [])))] .ret))))
def C67 : CFn := ⟨19,1,[.t 2],B67⟩
abbrev B68 : CCode := (sR [oP 0 4 (.mv (.c (.str []))) [4]] (sR [uT 0 6 0,uT 1 7 1,oP 2 8 (.sls 1 (.t 6) none (some (.t 7)) none) [6,7],oP 3 9 (.call 34 [.t 8,(.c (.str []))]) [8],oT 4 5 9 [9]] (.seq (sR [uT 0 10 1,uT 1
11 0,oN 2 12 11 [11],oB 3 13 .lss 10 12 [10,12]] (.cond (.t 13) (sK [13] (.reg false [oT 0 14 5 [5],oT 1 15 0 [0],oT 2 16 1 [1],oP 3 17 (.sls 1 (.t 15) (some (.t 16)) none none) [15,16],oP 4 18 (.call 34 [.t 17,(.c
(.str []))]) [17],oP 5 19 (.bin .add (.c (.str [124])) (.t 18)) [18],oB 6 20 .add 14 19 [14,19],oT 7 5 20 [20]])) (sK [0,1,13] .skip))) (sR [oT 0 21 5 [5],oT 1 4 21 [21]] .ret))))
def C68 : CFn := ⟨22,2,[.t 4],B68⟩
abbrev B69 : CCode := (sR [oP 0 2 (.mv (.c (.str []))) [2]] (sR [uT 0 6 0,oK 1 7 93 [.t 6] [6],oT 2 5 7 [7],uU 3 8 5 0,oU 4 9 5 1 [5],oT 5 3 8 [8],oT 6 4 9 [9]] (.seq (sR [oT 0 10 4 [4]] (.cond (.t 10) (sK [0,10] (sR
[oT 0 11 3 [3],oK 1 12 94 [.t 11] [11],oT 2 2 12 [12]] .ret)) (sK [3,10] .skip))) (.seq (sR [uT 0 13 0,oK 1 14 39 [.t 13,(.c (.int .i64 0)),(.c (.int .i64 3))] [13],oE 2 15 14 [14]] (sD 15 [0,15] [uP 0 2 (.mv (.c (.str
[])))])) (sR [uT 0 16 0,oT 1 17 0 [0],oC 2 18 .add 17 1 [17],oP 3 19 (.sst (.c (.str [120,121,122,119])) (some (.t 16)) (some (.t 18))) [16,18],oT 4 2 19 [19]] .ret)))))
def C69 : CFn := ⟨20,1,[.t 2],B69⟩
abbrev B70 : CCode := (sR [oQ 0 1 3 0 [0],oY 1 2 false [2]] (sR [uF 0 3 0 1,oL 1 4 1 3 [3],oP 2 5 (.lens (.t 4)) [4],oC 3 6 .eql 5 1 [5],oT 4 7 6 [6],wF 5 8 0 1 7,hL 6 9 1 8 7 [8],hG 7 10 (.ix (.t 9) (.c (.int .i64 0)))
7 [9],hG 8 11 (.bin .geq (.t 10) (.c (.int .u8 (97)))) 7 [10],oA 9 12 7 11 [7,11],oT 10 13 12 [12],wF 11 14 0 1 13,hL 12 15 1 14 13 [14],hG 13 16 (.ix (.t 15) (.c (.int .i64 0))) 13 [15],hG 14 17 (.bin .leq (.t 16) (.c
(.int .u8 (122)))) 13 [16],oA 15 18 13 17 [13,17],oT 16 19 18 [18],wF 17 20 1 1 19,hL 18 21 1 20 19 [20],hK 19 22 42 [.t 21,(.c (.int .i64 1)),(.c (.int .i64 3))] 19 [21],oA 20 23 19 22 [19,22],oT 21 24 23 [23],wF 22 25
2 1 24,hL 23 26 1 25 24 [25],wF 24 27 1 1 24,hL 25 28 1 27 24 [1,27],hK 26 29 42 [.t 26,(.c (.int .i64 0)),.t 28] 24 [26,28],oA 27 30 24 29 [24,29],oT 28 2 30 [30]] .ret))
def C70 : CFn := ⟨31,1,[.t 2],B70⟩
abbrev L71_0 : CCode := (sR [uB 0 9 .lss 8 7] (.seq (sC 9 [0,1,7,8,9] 0) (.seq (.block 1 (sR [uT 0 10 8,oT 1 5 10 [10]] (sR [uT 0 11 1,uT 1 12 0,uT 2 13 5,uI 3 14 1 12 13,oL 4 15 1 14 [12,13,14],oP 5 16 (.callv (.t 11)
[.t 15]) [11,15]] (.cond (.t 16) (sK [0,1,7,8,16] (sR [oT 0 17 5 [5],oT 1 4 17 [17]] .ret)) (sK [5,16] .skip))))) (.reg false [oC 0 18 .add 8 1 [8],oT 1 8 18 [18]]))))
abbrev B71 : CCode := (sR [oZ 0 4 0 [4]] (.seq (sR [uT 0 6 0,oN 1 7 6 [6],uZ 2 8 0] (.block 0 (.loop L71_0))) (sR [uZ 0 4 (-1)] .ret)))
def C71 : CFn := ⟨19,2,[.t 4],B71⟩
abbrev B72 : CCode := (sR [oY 0 3 false [3]] (sR [uL 0 4 1 1,oT 1 5 0 [0],oK 2 6 55 [.t 4,.t 5] [1,4,5],oE 3 7 6 [6],oT 4 3 7 [7]] .ret))
def C72 : CFn := ⟨8,2,[.t 3],B72⟩
abbrev B73 : CCode := (sR [oQ 0 1 3 0 [0],oY 1 2 false [2]] (sR [uF 0 3 0 1,oL 1 4 1 3 [3],oP 2 5 (.lens (.t 4)) [4],oC 3 6 .eql 5 1 [5],oT 4 7 6 [6],wF 5 8 0 1 7,hL 6 9 1 8 7 [8],hG 7 10 (.ix (.t 9) (.c (.int .i64 0)))
7 [9],hG 8 11 (.bin .geq (.t 10) (.c (.int .u8 (97)))) 7 [10],oA 9 12 7 11 [7,11],oT 10 13 12 [12],wF 11 14 0 1 13,hL 12 15 1 14 13 [14],hG 13 16 (.ix (.t 15) (.c (.int .i64 0))) 13 [15],hG 14 17 (.bin .leq (.t 16) (.c
(.int .u8 (122)))) 13 [16],oA 15 18 13 17 [13,17],oT 16 19 18 [18],wF 17 20 1 1 19,hL 18 21 1 20 19 [20],hK 19 22 39 [.t 21,(.c (.int .i64 1)),(.c (.int .i64 3))] 19 [21],oA 20 23 19 22 [19,22],oT 21 24 23 [23],wF 22 25
2 1 24,hL 23 26 1 25 24 [25],wF 24 27 1 1 24,hL 25 28 1 27 24 [1,27],hK 26 29 39 [.t 26,(.c (.int .i64 0)),.t 28] 24 [26,28],oA 27 30 24 29 [24,29],oT 28 2 30 [30]] .ret))
def C73 : CFn := ⟨31,1,[.t 2],B73⟩
abbrev L74_0 : CCode := (.seq (sR [uT 0 8 4,uT 1 9 0,oN 2 10 9 [9],oB 3 11 .lss 8 10 [8,10],oT 4 12 11 [11],wT 5 13 4 12,hC 6 14 .lss 13 4000 12 [13],oA 7 15 12 14 [12,14]] (sC 15 [4,15] 0)) (.seq (.block 1 (.reg false
[oT 0 18 3 [3],oC 1 19 .mul 18 131 [18],uT 2 20 0,uT 3 21 4,uI 4 22 1 20 21,oL 5 23 1 22 [20,21,22],oP 6 24 (.conv .i64 (.t 23)) [23],oB 7 25 .add 19 24 [19,24],oC 8 26 .add 25 7 [25],oC 9 27 .and 26 1073741823 [26],oT
10 3 27 [27]])) (sI 16 17 4)))
abbrev B74 : CCode := (sR [oP 0 2 (.mv (.c (.nilp))) [2]] (sR [uT 0 5 0,oN 1 6 5 [5],oP 2 7 (.bin .add (.c (.int .i64 10101)) (.t 6)) [6],oT 3 3 7 [7]] (sL 4 0 L74_0 (sR [oT 0 28 0 [0],oT 1 29 3 [3],oP 2 30 (.bld
[.nils,.int .i64 (0),.int .i64 (0)] [(0,1,(.t 28)),(2,1,(.t 29))]) [28,29],oQ 3 31 3 30 [30],oT 4 2 31 [31]] .ret))))
def C74 : CFn := ⟨32,1,[.t 2],B74⟩
abbrev B75 : CCode := (sR [oV 0 2 [2]] (sR [uP 0 3 (.bld [.str [],.int .i64 (0),.int .i64 (0)] [(0,1,(.c (.str [114]))),(1,1,(.c (.int .i64 2))),(2,1,(.c (.int .i64 1)))]),uP 1 4 (.bld [.str [],.int .i64 (0),.int .i64
(0)] [(0,1,(.c (.str [115]))),(1,1,(.c (.int .i64 2))),(2,1,(.c (.int .i64 1)))]),uT 2 5 0,uP 3 6 (.bsl 1 4 [.int .i64 (0)] [(0,1,(.c (.int .i64 1))),(1,1,(.c (.int .i64 1))),(2,1,(.c (.int .i64 2))),(3,1,(.c (.int .i64
0)))]),oK 4 7 95 [.t 5,.t 6] [5,6],oP 5 8 (.bld [.str [],.int .i64 (0),.int .i64 (0)] [(0,1,(.c (.str [116]))),(1,1,(.c (.int .i64 2))),(2,1,(.t 7))]) [7],uT 6 9 0,oK 7 10 96 [.t 9,(.c (.int .i64 2))] [9],oP 8 11 (.bin
.add (.c (.int .i64 1)) (.t 10)) [10],oP 9 12 (.bld [.str [],.int .i64 (0),.int .i64 (0)] [(0,1,(.c (.str [117]))),(1,1,(.c (.int .i64 3))),(2,1,(.t 11))]) [11],oP 10 13 (.bsl 3 4 [.str [],.int .i64 (0),.int .i64 (0)]
[(0,3,(.t 3)),(3,3,(.t 4)),(6,3,(.t 8)),(9,3,(.t 12))]) [3,4,8,12],oT 11 2 13 [13]] .ret))
def C75 : CFn := ⟨14,1,[.t 2],B75⟩
abbrev B76 : CCode := (sR [uH 0 4 [.int .i64 (0),.nils,.nils]] (sR [uT 0 6 0,oT 1 7 1 [1],oK 2 8 97 [.t 6,.t 7] [6,7],uH 3 5 [.int .i64 (0),.nils,.nils],oS 4 3 5 8 [8]] (.seq (sR [uT 0 9 0,oK 1 10 96 [.t 9,(.c (.int
.i64 14))] [9]] (.block 0 (sR [uC 0 12 .eql 10 0,oT 1 11 12 [12]] (.cond (.t 11) (sK [10,11] (.reg false [uT 0 13 0,uF 1 14 0 5,oL 2 15 1 14 [14],oC 3 16 .add 15 1 [15],oP 4 17 (.bsl 1 3 [.int .i64 (0)] [(0,1,(.c (.int
.i64 (-1)))),(1,1,(.t 16)),(2,1,(.c (.int .i64 5)))]) [16],oK 5 18 95 [.t 13,.t 17] [13,17],uF 6 19 0 5,oS 7 1 19 18 [18,19]])) (sK [11] (sR [uC 0 21 .eql 10 1,oT 1 20 21 [21]] (.cond (.t 20) (sK [10,20] (.reg true [uF
0 22 1 5,uL 1 23 1 22,uT 2 24 0,uP 5 27 (.bsl 1 2 [.int .i64 (0)] [(0,1,(.c (.int .i64 0))),(1,1,(.c (.int .i64 0)))]),(3,⟨some 25,.call 96 [.t 24,(.c (.int .i64 6))],none,[(22,1)],[22,24]⟩),oC 4 26 .sub 25 1 [25],oP 6
28 (.bld [.int .i64 (0),.nils] [(0,1,(.t 26)),(1,1,(.t 27))]) [26,27],oP 7 29 (.bsl 2 1 [.int .i64 (0),.nils] [(0,2,(.t 28))]) [28],oX 8 30 2 32 23 29 [23,29],uF 9 31 1 5,oS 10 1 31 30 [30,31]])) (sK [20] (sR [uC 0 33
.eql 10 2,oT 1 32 33 [33]] (.cond (.t 32) (sK [10,32] (.reg true [uF 0 34 1 5,uL 1 35 1 34,oP 2 36 (.ia 2 (.t 35) (.c (.int .i64 0))) [35],oF 3 37 1 36 [36],uL 4 38 1 37,uT 5 39 0,uP 6 40 (.bsl 1 3 [.int .i64 (0)]
[(0,1,(.c (.int .i64 (-11)))),(1,1,(.c (.int .i64 4))),(2,1,(.c (.int .i64 3)))]),(7,⟨some 41,.call 95 [.t 39,.t 40],none,[(34,1),(37,1)],[34,37,39,40]⟩),oP 8 42 (.ia 1 (.t 38) (.c (.int .i64 0))) [38],oS 9 1 42 41
[41,42]])) (sK [32] (sR [oC 0 44 .eql 10 3 [10],oT 1 43 44 [44]] (.cond (.t 43) (sK [43] (.reg true [uF 0 45 2 5,uL 1 46 1 45,uT 2 47 0,(3,⟨some 48,.call 96 [.t 47,(.c (.int .i64 5))],none,[(45,1)],[45,47]⟩),oP 4 49
(.bsl 1 1 [.int .i64 (0)] [(0,1,(.t 48))]) [48],oX 5 50 1 8 46 49 [46,49],uF 6 51 2 5,oS 7 1 51 50 [50,51]])) (sK [43] .skip)))))))))))))) (sR [uM 0 52 3 5,oS 1 3 4 52 [5,52]] .ret))))
def C76 : CFn := ⟨53,2,[.m 4 3 true],B76⟩
abbrev L77_0 : CCode := (sR [uB 0 10 .lss 9 8] (.seq (sC 10 [0,1,7,8,9,10] 0) (.seq (.block 1 (sR [uT 0 11 9,uI 1 12 1 7 9,oL 2 13 1 12 [12],oT 3 5 11 [11],oT 4 6 13 [13]] (sR [uT 0 14 6,uT 1 15 1,oC 2 16 .sub 15 1
[15],oK 3 17 42 [.t 14,(.c (.int .i64 0)),.t 16] [14,16],oE 4 18 17 [17],oT 5 19 18 [18],vT 6 20 5 19,gC 7 21 .gtr 20 0 19 [20],gT 8 22 21 19 [21],wT 9 23 0 22,hT 10 24 5 22 [5],hC 11 25 .sub 24 1 22 [24],wI 12 26 1 23
25 22,hL 13 27 1 26 22 [23,25,26],hT 14 28 6 22 [6],hB 15 29 .geq 27 28 22 [27,28],gA 16 30 22 29 19 [22,29],oO 17 31 19 30 [19,30]] (sD 31 [0,1,7,8,9,31] [uY 0 4 false])))) (.reg false [oC 0 32 .add 9 1 [9],oT 1 9 32
[32]]))))
abbrev B77 : CCode := (sR [oY 0 4 false [4]] (.seq (sR [uT 0 7 0,uN 1 8 7,uZ 2 9 0] (.block 0 (.loop L77_0))) (sR [uY 0 4 true] .ret)))
def C77 : CFn := ⟨33,2,[.t 4],B77⟩
abbrev B78 : CCode := (sR [oY 0 4 false [4]] (sR [oT 0 5 0 [0],oT 1 6 1 [1],oK 2 7 98 [.t 5,.t 6] [5,6],oC 3 8 .geq 7 0 [7],oT 4 4 8 [8]] .ret))
def C78 : CFn := ⟨9,2,[.t 4],B78⟩
abbrev B79 : CCode := (sR [oQ 0 2 2 0 [0],oY 1 3 false [3]] (sR [uF 0 4 0 2,oL 1 5 1 4 [2,4],uF 2 6 0 1,oL 3 7 1 6 [1,6],oB 4 8 .eql 5 7 [5,7],oT 5 3 8 [8]] .ret))
def C79 : CFn := ⟨9,2,[.t 3],B79⟩
abbrev B80 : CCode := (sR [oQ 0 5 3 1 [1],oY 1 8 false [8]] (sR [uT 0 9 0,uM 1 10 3 5,oK 2 11 49 [.t 9,.t 10] [9,10],oT 3 12 11 [11],hT 4 13 3 12 [3],hT 5 14 0 12 [0],wM 6 15 3 5 12,hT 7 16 2 12 [2],hK 8 17 99 [.t 14,.t
15,(.c (.int .i64 (-1))),.t 16] 12 [5,14,15,16],hK 9 18 45 [.t 13,.t 17] 12 [13,17],oA 10 19 12 18 [12,18],oT 11 8 19 [19]] .ret))
def C80 : CFn := ⟨20,4,[.t 8],B80⟩
abbrev L81_1 : CCode := (sR [uB 0 39 .lss 38 37] (.seq (sC 39 [36,37,38,39] 2) (.seq (.block 3 (sR [uI 0 40 2 36 38,oM 1 41 2 40 [40],uH 2 13 [.int .i64 (0),.nils],oS 3 2 13 41 [41]] (sR [uM 0 42 2 13,oK 1 43 20 [.t 42]
[13,42],uT 2 44 9,oK 3 45 21 [.t 43,.t 44] [43,44],oT 4 14 45 [45]] (sR [uT 0 46 14,uT 1 47 11,oK 2 48 21 [.t 46,.t 47] [46,47],oN 3 49 48 [48],uT 4 50 14,oN 5 51 50 [50],oB 6 52 .lss 49 51 [49,51]] (.cond (.t 52) (sK
[52] (.reg false [oT 0 53 11 [11],oT 1 54 14 [14],oK 2 55 22 [.t 53,.t 54] [53,54],oT 3 11 55 [55]])) (sK [14,52] .skip)))))) (.reg false [oC 0 56 .add 38 1 [38],oT 1 38 56 [56]]))))
abbrev L81_0 : CCode := (.block 1 (sR [uT 0 35 10,oT 1 11 35 [35]] (.seq (sR [uT 0 36 1,uN 1 37 36,uZ 2 38 0] (.block 2 (.loop L81_1))) (.seq (sR [uT 0 57 11,oN 1 58 57 [57],uT 2 59 10,oN 3 60 59 [59],oB 4 61 .eql 58 60
[58,60]] (.cond (.t 61) (sK [1,9,11,61] (sR [oT 0 62 10 [10],oT 1 8 62 [62]] .ret)) (sK [10,61] .skip))) (.reg false [oT 0 63 11 [11],oT 1 10 63 [63]])))))
abbrev B81 : CCode := (sR [oV 0 8 [8]] (sR [uT 0 15 0,uT 1 16 1,uT 2 17 3,oT 3 18 2 [2],uT 4 19 0,uT 5 20 1,uT 6 21 3,uI 7 22 2 20 21,oM 8 23 2 22 [22],oK 9 24 19 [.t 19,.t 23] [19,20,21,23],oP 10 25 (.bsl 1 2 [.nils]
[(0,1,(.t 18)),(1,1,(.t 24))]) [18,24],oK 11 26 56 [.t 25] [25],oK 12 27 100 [.t 15,.t 16,.t 17,.t 26] [15,16,17,26],oT 13 9 27 [27]] (sR [uT 0 28 1,oT 1 29 3 [3],uI 2 30 2 28 29,oM 3 31 2 30 [30],oK 4 32 20 [.t 31]
[28,29,31],uT 5 33 9,oK 6 34 21 [.t 32,.t 33] [32,33],oT 7 10 34 [34]] (.block 0 (.loop L81_0)))))
def C81 : CFn := ⟨64,4,[.t 8],B81⟩
abbrev L82_0 : CCode := (sR [uB 0 9 .lss 8 7] (.seq (sC 9 [0,1,7,8,9] 0) (.seq (.block 1 (sR [uT 0 10 8,oT 1 5 10 [10]] (sR [uT 0 11 1,uT 1 12 0,uT 2 13 5,uI 3 14 1 12 13,oL 4 15 1 14 [12,13,14],oB 5 16 .eql 11 15
[11,15]] (.cond (.t 16) (sK [0,1,7,8,16] (sR [oT 0 17 5 [5],oT 1 4 17 [17]] .ret)) (sK [5,16] .skip))))) (.reg false [oC 0 18 .add 8 1 [8],oT 1 8 18 [18]]))))
abbrev B82 : CCode := (sR [oZ 0 4 0 [4]] (.seq (sR [uT 0 6 0,oN 1 7 6 [6],uZ 2 8 0] (.block 0 (.loop L82_0))) (sR [uZ 0 4 (-1)] .ret)))
def C82 : CFn := ⟨19,2,[.t 4],B82⟩
abbrev B83 : CCode := (sR [oV 0 4 [4]] (.seq (sR [uT 0 5 1,oC 1 6 .lss 5 0 [5]] (.cond (.t 6) (sK [6] (.reg false [oP 0 7 .fail [7],(1,⟨none,.fail,none,[],[]⟩)])) (sK [6] .skip))) (.seq (sR [oT 0 8 1 [1],uT 1 9 0,oP 2
10 (.cap (.t 9)) [9],uT 3 11 0,oN 4 12 11 [11],oB 5 13 .sub 10 12 [10,12],oB 6 14 .sub 8 13 [8,13],oT 7 1 14 [14]] (sR [uT 0 15 1,oC 1 16 .gtr 15 0 [15]] (.cond (.t 16) (sK [16] (.reg false [uT 0 17 0,uT 1 18 0,oP 2 19
(.cap (.t 18)) [18],oP 3 20 (.sls 1 (.t 17) none (some (.t 19)) none) [17,19],oT 4 21 1 [1],oP 5 22 (.appm 1 8 [.int .i64 (0)] (.t 20) (.t 21)) [20,21],oT 6 23 0 [0],oN 7 24 23 [23],oP 8 25 (.sls 1 (.t 22) none (some
(.t 24)) none) [22,24],oT 9 0 25 [25]])) (sK [1,16] .skip)))) (sR [oT 0 26 0 [0],oT 1 4 26 [26]] .ret))))
def C83 : CFn := ⟨27,2,[.t 4],B83⟩
abbrev L86_0 : CCode := (.seq (sR [uT 0 8 7,uT 1 9 0,oN 2 10 9 [9],oB 3 11 .lss 8 10 [8,10]] (sC 11 [0,1,2,7,11] 0)) (.seq (.block 1 (sR [uT 0 14 1,uT 1 15 0,uT 2 16 7,uI 3 17 1 15 16,oL 4 18 1 17 [15,16,17],oK 5 19 27
[.t 14,.t 18] [14,18],oT 6 20 19 [19],wT 7 21 2 20,wT 8 22 0 20,wT 9 23 7 20,wI 10 24 1 22 23 20,hL 11 25 1 24 20 [22,23,24],hK 12 26 27 [.t 21,.t 25] 20 [21,25],hE 13 27 26 20 [26],oA 14 28 20 27 [20,27]] (sD 28
[0,1,2,7,28] [uY 0 6 true]))) (sI 12 13 7)))
abbrev B86 : CCode := (sR [oY 0 6 false [6]] (sL 7 0 L86_0 (sR [uY 0 6 false] .ret)))
def C86 : CFn := ⟨29,3,[.t 6],B86⟩
abbrev B87 : CCode := (sR [oQ 0 4 3 1 [1],oV 1 6 [6]] (.seq (sR [uT 0 7 0,uM 1 8 3 4,oK 2 9 29 [.t 7,.t 8] [7,8],oE 3 10 9 [9],oT 4 11 10 [10],vT 5 12 2 11,vF 6 13 1 4 11,gL 7 14 1 13 11 [13],gN 8 15 14 11 [14],gC 9 16
.sub 15 1 11 [15],gK 10 17 39 [.t 12,(.c (.int .i64 0)),.t 16] 11 [12,16],gE 11 18 17 11 [17],oO 12 19 11 18 [11,18]] (sD 19 [0,2,4,19] [uW 0 20 1 [.int .i64 (0)],oT 1 6 20 [20]])) (.seq (.reg true [uT 0 21 0,uM 1 22 3
4,uT 2 23 2,uT 3 24 0,uF 4 25 1 4,oL 5 26 1 25 [25],oT 6 27 2 [2],oI 7 28 2 26 27 [26],oM 8 29 2 28 [28],(9,⟨some 30,.call 12 [.t 24,.t 29],none,[(4,3)],[24,27,29]⟩),oK 10 31 88 [.t 21,.t 22,.t 23,.t 30]
[4,21,22,23,30],oT 11 6 31 [31]]) .ret)))
def C87 : CFn := ⟨32,3,[.t 6],B87⟩
abbrev L88_1 : CCode := (.seq (sR [uT 0 28 11,uF 1 29 1 5,oL 2 30 1 29 [29],oN 3 31 30 [30],oB 4 32 .lss 28 31 [28,31]] (sC 32 [11,32] 2)) (.seq (.block 3 (sR [uT 0 35 11,uT 1 36 2,oB 2 37 .neq 35 36 [35,36],oT 3 38 37
[37],wT 4 39 9 38,wT 5 40 0 38,wF 6 41 1 5 38,hL 7 42 1 41 38 [41],wT 8 43 11 38,hI 9 44 2 42 43 38 [42],hM 10 45 2 44 38 [44],hK 11 46 12 [.t 40,.t 45] 38 [40,43,45],hK 12 47 47 [.t 39,.t 46] 38 [39,46],oA 13 48 38 47
[38,47]] (.cond (.t 48) (sK [48] (.reg false [oT 0 49 9 [9],uF 1 50 1 5,oL 2 51 1 50 [50],uT 3 52 11,oI 4 53 2 51 52 [51],oM 5 54 2 53 [53],oK 6 55 40 [.t 54] [52,54],oK 7 56 61 [.t 49,.t 55] [49,55],oT 8 9 56 [56]]))
(sK [48] .skip)))) (sI 33 34 11)))
abbrev L88_0 : CCode := (.seq (sR [uT 0 21 10,uF 1 22 1 5,oL 2 23 1 22 [22],oN 3 24 23 [23],oB 4 25 .lss 21 24 [21,24]] (sC 25 [0,2,5,10,25] 0)) (.seq (.block 1 (sR [uZ 0 11 0] (.block 2 (.loop L88_1)))) (sI 26 27 10)))
abbrev B88 : CCode := (sR [oQ 0 5 3 1 [1],oV 1 8 [8]] (.seq (sR [uT 0 12 0,uM 1 13 3 5,oK 2 14 29 [.t 12,.t 13] [12,13],oE 3 15 14 [14]] (sD 15 [0,2,3,5,15] [uW 0 16 1 [.int .i64 (0)],oT 1 8 16 [16]])) (sR [oT 0 17 3
[3],uF 1 18 2 5,oL 2 19 1 18 [18],oK 3 20 61 [.t 17,.t 19] [17,19],oT 4 9 20 [20]] (sL 10 0 L88_0 (sR [oT 0 57 9 [9],oT 1 8 57 [57]] .ret)))))
def C88 : CFn := ⟨58,4,[.t 8],B88⟩
abbrev B91 : CCode := (sR [oZ 0 2 0 [2],oY 1 3 false [3]] (.seq (sR [uT 0 4 0,oK 1 5 42 [.t 4,(.c (.int .i64 (-10))),(.c (.int .i64 (-1)))] [4],oE 2 6 5 [5]] (sD 6 [0,6] [uZ 0 2 0,uY 1 3 false])) (sR [oT 0 7 0 [0],oP 1
8 (.bin .sub (.c (.int .i64 (-1))) (.t 7)) [7],oT 2 2 8 [8],uY 3 3 true] .ret)))
def C91 : CFn := ⟨9,1,[.t 2,.t 3],B91⟩
abbrev B92 : CCode := (sR [oP 0 2 (.mv (.c (.str []))) [2]] (sR [oT 0 3 0 [0],oK 1 4 114 [.t 3] [3],oT 2 2 4 [4]] .ret))
def C92 : CFn := ⟨5,1,[.t 2],B92⟩
abbrev B93 : CCode := (sR [oZ 0 2 0 [2],oY 1 3 false [3]] (.seq (sR [uT 0 4 0,oC 1 5 .geq 4 0 [4],oT 2 6 5 [5],vT 3 7 0 6,gG 4 8 (.bin .sub (.c (.int .i64 (-1))) (.t 7)) 6 [7],gK 5 9 39 [.t 8,(.c (.int .i64 0)),(.c
(.int .i64 9))] 6 [8],gE 6 10 9 6 [9],oO 7 11 6 10 [6,10]] (sD 11 [0,11] [uZ 0 2 0,uY 1 3 false])) (sR [oT 0 12 0 [0],oP 1 13 (.bin .sub (.c (.int .i64 (-1))) (.t 12)) [12],oT 2 2 13 [13],uY 3 3 true] .ret)))
def C93 : CFn := ⟨14,1,[.t 2,.t 3],B93⟩
abbrev L94_0 : CCode := (.seq (sR [uT 0 10 0,oC 1 11 .neq 10 0 [10]] (sC 11 [0,11] 0)) (.block 1 (sR [uT 0 12 0,oC 1 13 .rem 12 10 [12],oT 2 5 13 [13]] (.seq (sR [uT 0 14 5,oC 1 15 .lss 14 0 [14]] (.cond (.t 15) (sK
[15] (.reg false [oT 0 16 5 [5],oP 1 17 (.neg (.t 16)) [16],oT 2 5 17 [17]])) (sK [15] .skip))) (sR [oT 0 18 5 [5],oP 1 19 (.bin .add (.c (.int .i64 48)) (.t 18)) [18],oP 2 20 (.conv .u8 (.t 19)) [19],oP 3 21 (.bsl 1 1
[.int .u8 (0)] [(0,1,(.t 20))]) [20],oP 4 22 (.b2s (.t 21)) [21],oT 5 23 3 [3],oB 6 24 .add 22 23 [22,23],oT 7 3 24 [24]] (.reg false [oT 0 25 0 [0],oC 1 26 .quo 25 10 [25],oT 2 0 26 [26]]))))))
abbrev B94 : CCode := (sR [oP 0 2 (.mv (.c (.str []))) [2]] (.seq (sR [uT 0 6 0,oC 1 7 .eql 6 0 [6]] (sD 7 [0,7] [uP 0 2 (.mv (.c (.str [48])))])) (sR [uP 0 3 (.mv (.c (.str [])))] (sR [uT 0 8 0,oC 1 9 .lss 8 0 [8],oT 2
4 9 [9]] (.seq (.block 0 (.loop L94_0)) (.seq (sR [oT 0 27 4 [4]] (sD 27 [27] [oT 0 28 3 [3],oP 1 29 (.bin .add (.c (.str [45])) (.t 28)) [28],oT 2 2 29 [29]])) (sR [oT 0 30 3 [3],oT 1 2 30 [30]] .ret)))))))
def C94 : CFn := ⟨31,1,[.t 2],B94⟩
abbrev B95 : CCode := (sR [oZ 0 4 0 [4]] (sR [uT 0 5 1,uT 1 6 0,uT 2 7 1,oN 3 8 7 [7],oK 4 9 96 [.t 6,.t 8] [6,8],uI 5 10 1 5 9,oL 6 11 1 10 [5,9,10],oT 7 4 11 [11]] .ret))
def C95 : CFn := ⟨12,2,[.t 4],B95⟩
abbrev B96 : CCode := (sR [oZ 0 4 0 [4]] (.seq (sR [uT 0 9 1,oC 1 10 .leq 9 0 [9]] (sD 10 [1,10] [uZ 0 4 0])) (.seq (sR [uT 0 11 1,oC 1 12 .leq 11 256 [11]] (sD 12 [12] [uT 0 13 0,oK 1 14 115 [.t 13] [13],oT 2 15 1
[1],oB 3 16 .rem 14 15 [14,15],oT 4 4 16 [16]])) (sR [uT 0 17 0,oK 1 18 115 [.t 17] [17],oT 2 5 18 [18]] (sR [uT 0 19 0,oK 1 20 115 [.t 19] [19],oT 2 6 20 [20]] (sR [uT 0 21 0,oK 1 22 115 [.t 21] [21],oT 2 7 22 [22]]
(sR [uT 0 23 0,oK 1 24 115 [.t 23] [23],oT 2 8 24 [24]] (sR [oT 0 25 5 [5],oC 1 26 .mul 25 16777216 [25],oT 2 27 6 [6],oC 3 28 .mul 27 65536 [27],oB 4 29 .add 26 28 [26,28],oT 5 30 7 [7],oC 6 31 .mul 30 256 [30],oB 7 32
.add 29 31 [29,31],oT 8 33 8 [8],oB 9 34 .add 32 33 [32,33],oT 10 35 1 [1],oB 11 36 .rem 34 35 [34,35],oT 12 4 36 [36]] .ret))))))))
def C96 : CFn := ⟨37,2,[.t 4],B96⟩
abbrev L97_0 : CCode := (.seq (sR [uT 0 16 6,uF 1 17 0 5,oL 2 18 1 17 [17],oB 3 19 .lss 16 18 [16,18]] (sC 19 [6,19] 0)) (.seq (.block 1 (sR [uT 0 22 0,oK 1 23 117 [.t 22,(.c (.int .i64 3))] [22]] (.cond (.t 23) (sK
[23] (.reg false [uF 0 24 2 5,oL 1 25 1 24 [24],uT 2 26 6,oP 3 27 (.bsl 1 1 [.int .i64 (0)] [(0,1,(.t 26))]) [26],oX 4 28 1 8 25 27 [25,27],uF 5 29 2 5,oS 6 1 29 28 [28,29]])) (sK [23] .skip)))) (sI 20 21 6)))
abbrev B97 : CCode := (sR [uH 0 4 [.int .i64 (0),.nils,.nils]] (sR [uT 0 7 0,oK 1 8 116 [.t 7] [7],uH 2 5 [.int .i64 (0),.nils,.nils],oS 3 3 5 8 [8]] (.seq (sR [uT 0 9 0,oK 1 10 117 [.t 9,(.c (.int .i64 3))] [9]] (.cond
(.t 10) (sK [10] (.reg false [uT 0 11 0,oT 1 12 1 [1],oK 2 13 118 [.t 11,.t 12] [11,12],oS 3 3 5 13 [13]])) (sK [1,10] .skip))) (.seq (sR [uT 0 14 0,oK 1 15 117 [.t 14,(.c (.int .i64 4))] [14]] (.cond (.t 15) (sK [15]
(sR [uZ 0 6 0] (.block 0 (.loop L97_0)))) (sK [15] .skip))) (sR [uM 0 30 3 5,oS 1 3 4 30 [5,30]] .ret)))))
def C97 : CFn := ⟨31,2,[.m 4 3 true],B97⟩
abbrev L98_0 : CCode := (sR [uB 0 9 .lss 8 7] (.seq (sC 9 [0,1,7,8,9] 0) (.seq (.block 1 (sR [uT 0 10 8,oT 1 5 10 [10]] (sR [uT 0 11 1,uT 1 12 0,uT 2 13 5,uI 3 14 2 12 13,oM 4 15 2 14 [14],oP 5 16 (.callv (.t 11) [.t
15]) [11,12,13,15]] (.cond (.t 16) (sK [0,1,7,8,16] (sR [oT 0 17 5 [5],oT 1 4 17 [17]] .ret)) (sK [5,16] .skip))))) (.reg false [oC 0 18 .add 8 1 [8],oT 1 8 18 [18]]))))
abbrev B98 : CCode := (sR [oZ 0 4 0 [4]] (.seq (sR [uT 0 6 0,oN 1 7 6 [6],uZ 2 8 0] (.block 0 (.loop L98_0))) (sR [uZ 0 4 (-1)] .ret)))
def C98 : CFn := ⟨19,2,[.t 4],B98⟩
abbrev L99_0 : CCode := (sR [uB 0 22 .lss 21 20] (.seq (sC 22 [19,20,21,22] 0) (.seq (.block 1 (sR [uI 0 23 1 19 21,oL 1 24 1 23 [23],oT 2 11 24 [24]] (sR [uT 0 25 11,oK 1 26 42 [.t 25,(.c (.int .i64 0)),(.c (.int .i64
3))] [25]] (.cond (.t 26) (sK [26] (.reg false [oT 0 27 9 [9],oT 1 28 11 [11],oP 2 29 (.bsl 1 1 [.int .i64 (0)] [(0,1,(.t 28))]) [28],oX 3 30 1 8 27 29 [27,29],oT 4 9 30 [30]])) (sK [11,26] .skip))))) (.reg false [oC 0
31 .add 21 1 [21],oT 1 21 31 [31]]))))
abbrev B99 : CCode := (sR [oQ 0 5 3 1 [1],oV 1 8 [8]] (.seq (sR [uT 0 12 0,uM 1 13 3 5,oK 2 14 49 [.t 12,.t 13] [12,13],oE 3 15 14 [14]] (sD 15 [0,2,3,5,15] [uV 0 8])) (sR [uF 0 16 2 5,oL 1 17 1 16 [16],oK 2 18 119 [.t
17] [17],oT 3 9 18 [18]] (.seq (sR [oT 0 19 3 [3],uN 1 20 19,uZ 2 21 0] (.block 0 (.loop L99_0))) (sR [oT 0 32 0 [0],uF 1 33 1 5,oL 2 34 1 33 [33],oT 3 35 2 [2],oT 4 36 9 [9],oK 5 37 100 [.t 32,.t 34,.t 35,.t 36]
[5,32,34,35,36],oT 6 8 37 [37]] .ret)))))
def C99 : CFn := ⟨38,4,[.t 8],B99⟩
abbrev L100_1 : CCode := (sR [uB 0 19 .lss 18 17] (.seq (sC 19 [16,17,18,19] 2) (.seq (.block 3 (sR [uT 0 20 18,uI 1 21 2 16 18,oM 2 22 2 21 [21],uH 3 12 [.int .i64 (0),.nils],oT 4 11 20 [20],oS 5 2 12 22 [22]] (sR [oT
0 23 11 [11],uT 1 24 2,oB 2 25 .neq 23 24 [23,24],oT 3 26 25 [25],wT 4 27 0 26,wM 5 28 2 12 26,hK 6 29 19 [.t 27,.t 28] 26 [27,28],wT 7 30 10 26,hK 8 31 45 [.t 29,.t 30] 26 [29,30],oA 9 32 26 31 [26,31]] (.cond (.t 32)
(sK [32] (.reg false [oT 0 33 10 [10],uM 1 34 2 12,oK 2 35 20 [.t 34] [12,34],oK 3 36 22 [.t 33,.t 35] [33,35],oT 4 10 36 [36]])) (sK [12,32] .skip))))) (.reg false [oC 0 37 .add 18 1 [18],oT 1 18 37 [37]]))))
abbrev L100_0 : CCode := (.block 1 (sR [uT 0 15 9,oT 1 10 15 [15]] (.seq (sR [uT 0 16 1,uN 1 17 16,uZ 2 18 0] (.block 2 (.loop L100_1))) (.seq (sR [uT 0 38 10,oN 1 39 38 [38],uT 2 40 9,oN 3 41 40 [40],oB 4 42 .eql 39 41
[39,41]] (.cond (.t 42) (sK [0,1,2,10,42] (sR [oT 0 43 9 [9],oT 1 8 43 [43]] .ret)) (sK [9,42] .skip))) (.reg false [oT 0 44 10 [10],oT 1 9 44 [44]])))))
abbrev B100 : CCode := (sR [oV 0 8 [8]] (sR [oT 0 13 3 [3],oK 1 14 22 [.t 13,(.c (.nils))] [13],oT 2 9 14 [14]] (.block 0 (.loop L100_0))))
def C100 : CFn := ⟨45,4,[.t 8],B100⟩
abbrev B115 : CCode := (sR [oZ 0 2 0 [2]] (sR [uT 0 4 0,uT 1 5 0,uP 2 6 (.nc (.t 5)),oF 3 7 2 6 [6],oL 4 8 1 7 [5,7],oC 5 9 .mul 8 6364136223846793005 [8],oC 6 10 .add 9 1442695040888963407 [9],uP 7 11 (.nc (.t 4)),oF 8
12 2 11 [11],oS 9 1 12 10 [4,10,12]] (.seq (.reg true [uT 0 13 0,uP 1 14 (.nc (.t 13)),oF 2 15 2 14 [14],oL 3 16 1 15 [13,15],oP 4 17 (.bin .shr (.t 16) (.c (.int .u64 (33)))) [16],uT 5 18 0,uP 6 19 (.nc (.t 18)),oF 7
20 2 19 [19],oL 8 21 1 20 [18,20],oP 9 22 (.bin .shr (.t 21) (.c (.int .u64 (45)))) [21],oB 10 23 .xor 17 22 [17,22],oC 11 24 .and 23 255 [23],oT 12 3 24 [24]]) (.seq (.seq (.reg true [uT 0 25 0,uP 1 26 (.nc (.t 25)),oF
2 27 1 26 [26],oL 3 28 1 27 [25,27],uT 4 29 0,uP 5 30 (.nc (.t 29)),oF 6 31 0 30 [30],oL 7 32 1 31 [31],oN 8 33 32 [29,32],oB 9 34 .lss 28 33 [28,33]]) (.cond (.t 34) (sK [34] (.seq (.reg true [oT 0 35 3 [3],uT 1 36
0,uP 2 37 (.nc (.t 36)),oF 3 38 0 37 [37],oL 4 39 1 38 [38],uT 5 40 0,uP 6 41 (.nc (.t 40)),oF 7 42 1 41 [41],oL 8 43 1 42 [40,42],oI 9 44 1 39 43 [39],oL 10 45 1 44 [36,43,44],oP 11 46 (.conv .i64 (.t 45)) [45],oB 12
47 .add 35 46 [35,46],oC 13 48 .and 47 255 [47],oT 14 3 48 [48]]) (.reg false [uT 0 49 0,uT 1 50 0,uP 2 51 (.nc (.t 50)),oF 3 52 1 51 [51],oL 4 53 1 52 [50,52],oC 5 54 .add 53 1 [53],uP 6 55 (.nc (.t 49)),oF 7 56 1 55
[55],oS 8 1 56 54 [49,54,56]]))) (sK [34] .skip))) (sR [oT 0 57 3 [3],oT 1 2 57 [57]] .ret)))))
def C115 : CFn := ⟨58,1,[.t 2],B115⟩
abbrev L116_1 : CCode := (.seq (sR [uT 0 34 10,oC 1 35 .gtr 34 0 [34]] (sC 35 [10,35] 2)) (.seq (.block 3 (sR [uT 0 38 0,oK 1 39 117 [.t 38,(.c (.int .i64 12))] [38]] (.cond (.t 39) (sK [39] (.reg true [uF 0 40 1 9,uL 1
41 1 40,uT 2 42 0,(3,⟨some 43,.call 96 [.t 42,(.c (.int .i64 2))],none,[(40,1)],[40,42]⟩),oP 4 44 (.bin .sub (.c (.int .i64 (-1))) (.t 43)) [43],oP 5 45 (.bsl 1 1 [.int .i64 (0)] [(0,1,(.t 44))]) [44],oX 6 46 1 8 41 45
[41,45],uF 7 47 1 9,oS 8 1 47 46 [46,47]])) (sK [39] (.reg true [uF 0 48 1 9,uL 1 49 1 48,uT 2 50 0,uT 3 51 5,(4,⟨some 52,.call 96 [.t 50,.t 51],none,[(48,1)],[48,50,51]⟩),oP 5 53 (.bsl 1 1 [.int .i64 (0)] [(0,1,(.t
52))]) [52],oX 6 54 1 8 49 53 [49,53],uF 7 55 1 9,oS 8 1 55 54 [54,55]]))))) (.reg false [oT 0 36 10 [10],oC 1 37 .sub 36 1 [36],oT 2 10 37 [37]])))
abbrev L116_0 : CCode := (.seq (sR [uT 0 20 7,uT 1 21 4,oB 2 22 .lss 20 21 [20,21]] (sC 22 [4,5,6,7,22] 0)) (.seq (.block 1 (sR [uT 0 25 6,uT 1 26 7,oB 2 27 .add 25 26 [25,26],oC 3 28 .rem 27 4 [27],oT 4 8 28 [28]] (sR
[uT 0 29 8,oP 1 30 (.bld [.int .i64 (0),.nils] [(0,1,(.t 29))]) [29],uH 2 9 [.int .i64 (0),.nils],oS 3 2 9 30 [30]] (.seq (sR [oT 0 31 8 [8],oC 1 32 .quo 31 3 [31],oP 2 33 (.bin .add (.c (.int .i64 2)) (.t 32)) [32],oT
3 10 33 [33]] (.block 2 (.loop L116_1))) (.reg false [uF 0 56 1 3,oL 1 57 1 56 [56],uM 2 58 2 9,oP 3 59 (.bsl 2 1 [.int .i64 (0),.nils] [(0,2,(.t 58))]) [9,58],oX 4 60 2 32 57 59 [57,59],uF 5 61 1 3,oS 6 1 61 60
[60,61]]))))) (sI 23 24 7)))
abbrev B116 : CCode := (sR [uH 0 2 [.int .i64 (0),.nils,.nils]] (sR [uP 0 11 (.bld [.int .i64 (0),.nils,.nils] []),uH 1 3 [.int .i64 (0),.nils,.nils],oS 2 3 3 11 [11]] (sR [uT 0 12 0,oK 1 13 96 [.t 12,(.c (.int .i64
3))] [12],oP 2 14 (.bin .add (.c (.int .i64 1)) (.t 13)) [13],oT 3 4 14 [14]] (sR [uT 0 15 0,oK 1 16 96 [.t 15,(.c (.int .i64 4))] [15],oP 2 17 (.bin .add (.c (.int .i64 1)) (.t 16)) [16],oT 3 5 17 [17]] (sR [uT 0 18
0,oK 1 19 96 [.t 18,(.c (.int .i64 4))] [18],oT 2 6 19 [19]] (sL 7 0 L116_0 (sR [uM 0 62 3 3,oK 1 63 127 [.t 62] [3,62],oS 2 3 2 63 [63]] .ret)))))))
def C116 : CFn := ⟨64,1,[.m 2 3 true],B116⟩
abbrev B117 : CCode := (sR [oY 0 4 false [4]] (sR [uT 0 5 0,oT 1 6 1 [1],oK 2 7 96 [.t 5,.t 6] [5,6],oC 3 8 .eql 7 0 [7],oT 4 4 8 [8]] .ret))
def C117 : CFn := ⟨9,2,[.t 4],B117⟩
abbrev B118 : CCode := (sR [uH 0 4 [.int .i64 (0),.nils,.nils]] (sR [uT 0 8 1,uT 1 9 0,uP 2 10 (.bsl 1 10 [.str []] [(0,1,(.c (.str [63,114,120,124,121,32,115,121,124,122]))),(1,1,(.c (.str
[63,114,120,124,121,32,115,121,124,120]))),(2,1,(.c (.str [63,114,120,124,121,32,115,122,124,121]))),(3,1,(.c (.str [63,114,120,124,121,32,115,120,124,122]))),(4,1,(.c (.str [63,114,120,124,49]))),(5,1,(.c (.str
[63,114,120,124,120]))),(6,1,(.c (.str [63,114,120,124,121,32,115,121,124,49]))),(7,1,(.c (.str [63,114,120,124,121,32,115,121,124,122,32,114]))),(8,1,(.c (.str [63,114,120,124,121]))),(9,1,(.c (.str
[63,114,120,124,122,32,115,121,124,122])))]),oK 3 11 129 [.t 9,.t 10] [9,10],oK 4 12 128 [.t 8,.t 11] [8,11],oT 5 7 12 [12],uU 6 13 7 0,oU 7 14 7 1 [7],uH 8 5 [.int .i64 (0),.nils,.nils],oS 9 3 5 13 [13],oT 10 6 14
[14]] (.seq (sR [oT 0 15 6 [6],oE 1 16 15 [15]] (.cond (.t 16) (sK [16] (.reg false [oT 0 18 1 [1],oP 1 19 (.call 128 [.t 18,(.c (.str [63,114,120,124,121,32,115,121,124,122]))]) [18],oT 2 17 19 [19],uU 3 20 17 0,oU 4
21 17 1 [17,21],oS 5 3 5 20 [20]])) (sK [1,16] .skip))) (sR [uM 0 22 3 5,oS 1 3 4 22 [5,22]] .ret))))
def C118 : CFn := ⟨23,2,[.m 4 3 true],B118⟩
abbrev B119 : CCode := (sR [oV 0 2 [2]] (.seq (sR [uT 0 3 0,oP 1 4 (.isnil false (.t 3)) [3]] (sD 4 [0,4] [uV 0 2])) (sR [uW 0 5 1 [.int .i64 (0)],oT 1 6 0 [0],oX 2 7 1 8 5 6 [5,6],oT 3 2 7 [7]] .ret)))
def C119 : CFn := ⟨8,1,[.t 2],B119⟩
abbrev L127_2 : CCode := (.seq (sR [uT 0 42 9,uT 1 43 4,oN 2 44 43 [43],oB 3 45 .lss 42 44 [42,44]] (sC 45 [9,45] 4)) (.seq (.block 5 (sR [uT 0 48 4,uT 1 49 9,uI 2 50 1 48 49,oL 3 51 1 50 [48,49,50],uT 4 52 7,oB 5 53
.eql 51 52 [51,52]] (.cond (.t 53) (sK [8,53] (.reg false [uT 0 54 9,oT 1 8 54 [54]])) (sK [53] .skip)))) (sI 46 47 9)))
abbrev L127_1 : CCode := (.seq (sR [uT 0 20 6,uF 1 21 1 3,oL 2 22 1 21 [21],uT 3 23 5,oI 4 24 2 22 23 [22],oF 5 25 1 24 [24],oL 6 26 1 25 [25],oN 7 27 26 [23,26],oB 8 28 .lss 20 27 [20,27]] (sC 28 [6,28] 2)) (.seq
(.block 3 (sR [uF 0 31 1 3,oL 1 32 1 31 [31],uT 2 33 5,oI 3 34 2 32 33 [32],oF 4 35 1 34 [34],oL 5 36 1 35 [35],uT 6 37 6,oI 7 38 1 36 37 [36],oL 8 39 1 38 [33,37,38],oT 9 7 39 [39]] (.seq (sR [uT 0 40 7,oC 1 41 .lss 40
0 [40]] (.cond (.t 41) (sK [7,41] (.exit 3)) (sK [41] .skip))) (sR [uZ 0 8 (-1)] (sL 9 4 L127_2 (.seq (sR [uT 0 55 8,oC 1 56 .lss 55 0 [55]] (.cond (.t 56) (sK [8,56] (sR [uT 0 57 4,oN 1 58 57 [57],oT 2 8 58 [58]] (.reg
false [oT 0 59 4 [4],oT 1 60 7 [7],oP 2 61 (.bsl 1 1 [.int .i64 (0)] [(0,1,(.t 60))]) [60],oX 3 62 1 8 59 61 [59,61],oT 4 4 62 [62]]))) (sK [7,56] .skip))) (.reg false [uF 0 63 1 3,oL 1 64 1 63 [63],uT 2 65 5,oI 3 66 2
64 65 [64],oF 4 67 1 66 [66],oL 5 68 1 67 [67],uT 6 69 6,oT 7 70 8 [8],oI 8 71 1 68 69 [68],oS 9 1 71 70 [65,69,70,71]]))))))) (sI 29 30 6)))
abbrev L127_0 : CCode := (.seq (sR [uT 0 13 5,uF 1 14 1 3,oL 2 15 1 14 [14],oN 3 16 15 [15],oB 4 17 .lss 13 16 [13,16]] (sC 17 [5,17] 0)) (.seq (.block 1 (sR [uZ 0 6 0] (.block 2 (.loop L127_1)))) (sI 18 19 5)))
abbrev B127 : CCode := (sR [oQ 0 1 3 0 [0],uH 1 2 [.int .i64 (0),.nils,.nils]] (sR [uM 0 10 3 1,oK 1 11 25 [.t 10] [1,10],uH 2 3 [.int .i64 (0),.nils,.nils],oS 3 3 3 11 [11]] (sR [uW 0 12 1 [.int .i64 (0)],oT 1 4 12
[12]] (sL 5 0 L127_0 (sR [oT 0 72 4 [4],oN 1 73 72 [72],uF 2 74 0 3,oS 3 1 74 73 [73,74]] (sR [uM 0 75 3 3,oS 1 3 2 75 [3,75]] .ret))))))
def C127 : CFn := ⟨76,1,[.m 2 3 true],B127⟩
abbrev L128_0 : CCode := (.seq (sR [uT 0 24 8,uT 1 25 6,uP 2 26 (.ia 1 (.t 25) (.c (.int .i64 0))),oL 3 27 1 26 [25,26],oP 4 28 (.lens (.t 27)) [27],oB 5 29 .lss 24 28 [24,28]] (sC 29 [8,29] 0)) (.seq (.block 1 (sR [uT
0 33 6,uP 1 34 (.ia 1 (.t 33) (.c (.int .i64 0))),oL 2 35 1 34 [33,34],uT 3 36 8,uT 4 37 8,oC 5 38 .add 37 1 [37],oP 6 39 (.sst (.t 35) (some (.t 36)) (some (.t 38))) [35,36,38],oK 7 40 133 [.t 39] [39],oT 8 32 40
[40],uU 9 41 32 0,oU 10 42 32 1 [32],oT 11 9 41 [41],oT 12 10 42 [10,42]] (.reg false [uF 0 43 2 7,oL 1 44 1 43 [43],oT 2 45 9 [9],oP 3 46 (.bsl 1 1 [.int .i64 (0)] [(0,1,(.t 45))]) [45],oX 4 47 1 8 44 46 [44,46],uF 5
48 2 7,oS 6 1 48 47 [47,48]]))) (sI 30 31 8)))
abbrev L128_2 : CCode := (.seq (sR [uT 0 60 14,uT 1 61 11,uT 2 62 12,uI 3 63 1 61 62,oL 4 64 1 63 [61,62,63],oP 5 65 (.lens (.t 64)) [64],oB 6 66 .lss 60 65 [60,65]] (sC 66 [14,66] 4)) (.seq (.block 5 (.seq (sR [uT 0 69
14,oC 1 70 .eql 69 0 [69]] (.cond (.t 70) (sK [70] (sR [uT 0 71 0,uT 1 72 11,uT 2 73 12,uI 3 74 1 72 73,oL 4 75 1 74 [72,73,74],oP 5 76 (.sst (.t 75) none (some (.c (.int .i64 1)))) [75],oK 6 77 134 [.t 71,.t 76]
[71,76],uF 7 78 0 13,oS 8 1 78 77 [77,78]] (.exit 5))) (sK [70] .skip))) (.seq (sR [uT 0 79 11,uT 1 80 12,uI 2 81 1 79 80,oL 3 82 1 81 [79,80,81],uT 4 83 14,oP 5 84 (.ix (.t 82) (.t 83)) [82,83],oP 6 85 (.bin .eql (.t
84) (.c (.int .u8 (124)))) [84]] (.cond (.t 85) (sK [85] (.exit 5)) (sK [85] .skip))) (sR [uT 0 87 11,uT 1 88 12,uI 2 89 1 87 88,oL 3 90 1 89 [87,88,89],uT 4 91 14,uT 5 92 14,oC 6 93 .add 92 1 [92],oP 7 94 (.sst (.t 90)
(some (.t 91)) (some (.t 93))) [90,91,93],oK 8 95 133 [.t 94] [94],oT 9 86 95 [95],uU 10 96 86 0,oU 11 97 86 1 [86],oT 12 15 96 [96],oT 13 16 97 [16,97]] (sR [uF 0 98 1 13,oL 1 99 1 98 [98],uT 2 100 15,oP 3 101 (.bsl 1
1 [.int .i64 (0)] [(0,1,(.t 100))]) [100],oX 4 102 1 8 99 101 [99,101],uF 5 103 1 13,oS 6 1 103 102 [102,103]] (.reg false [uF 0 104 0 7,oL 1 105 1 104 [104],oT 2 106 15 [15],oC 3 107 .add 106 1 [106],oP 4 108 (.max (.t
105) (.t 107)) [105,107],uF 5 109 0 7,oS 6 1 109 108 [108,109]])))))) (sI 67 68 14)))
abbrev L128_1 : CCode := (.seq (sR [uT 0 53 12,uT 1 54 11,oN 2 55 54 [54],oB 3 56 .lss 53 55 [53,55]] (sC 56 [11,12,56] 2)) (.seq (.block 3 (sR [uP 0 59 (.bld [.int .i64 (0),.nils] []),uH 1 13 [.int .i64 (0),.nils],oS 2
2 13 59 [59]] (sL 14 4 L128_2 (.reg false [uF 0 110 1 7,oL 1 111 1 110 [110],uM 2 112 2 13,oP 3 113 (.bsl 2 1 [.int .i64 (0),.nils] [(0,2,(.t 112))]) [13,112],oX 4 114 2 32 111 113 [111,113],uF 5 115 1 7,oS 6 1 115 114
[114,115]])))) (sI 57 58 12)))
abbrev B128 : CCode := (sR [uH 0 4 [.int .i64 (0),.nils,.nils],oY 1 5 false [5]] (sR [uT 0 17 1,oK 1 18 132 [.t 17,(.c (.int .u8 (63)))] [17],oT 2 6 18 [18]] (.seq (sR [uT 0 19 6,oN 1 20 19 [19],oC 2 21 .neq 20 2 [20]]
(sD 21 [0,1,6,21] [uP 0 22 (.bld [.int .i64 (0),.nils,.nils] []),oS 1 3 4 22 [22],uY 2 5 false])) (sR [uP 0 23 (.bld [.int .i64 (0),.nils,.nils] []),uH 1 7 [.int .i64 (0),.nils,.nils],oS 2 3 7 23 [23]] (sL 8 0 L128_0
(sR [oT 0 49 6 [6],uP 1 50 (.ia 1 (.t 49) (.c (.int .i64 1))),oL 2 51 1 50 [49,50],oK 3 52 132 [.t 51,(.c (.int .u8 (32)))] [51],oT 4 11 52 [52]] (sL 12 2 L128_1 (.seq (sR [oT 0 116 0 [0],uM 1 117 3 7,oK 2 118 135 [.t
116,.t 117] [116,117],oT 3 119 1 [1],oB 4 120 .neq 118 119 [118,119]] (sD 120 [7,120] [uP 0 121 (.bld [.int .i64 (0),.nils,.nils] []),oS 1 3 4 121 [121],uY 2 5 false])) (sR [uM 0 122 3 7,oS 1 3 4 122 [7,122],uY 2 5
true] .ret)))))))))
def C128 : CFn := ⟨123,2,[.m 4 3 true,.t 5],B128⟩
abbrev B129 : CCode := (sR [oP 0 4 (.mv (.c (.str []))) [4]] (sR [uT 0 5 1,uT 1 6 0,uT 2 7 1,oN 3 8 7 [7],oK 4 9 96 [.t 6,.t 8] [6,8],uI 5 10 1 5 9,oL 6 11 1 10 [5,9,10],oT 7 4 11 [11]] .ret))
def C129 : CFn := ⟨12,2,[.t 4],B129⟩
abbrev L132_0 : CCode := (.seq (sR [uT 0 9 7,uT 1 10 0,oP 2 11 (.lens (.t 10)) [10],oB 3 12 .lss 9 11 [9,11]] (sC 12 [1,7,12] 0)) (.seq (.block 1 (sR [uT 0 15 0,uT 1 16 7,oP 2 17 (.ix (.t 15) (.t 16)) [15,16],uT 3 18
1,oB 4 19 .eql 17 18 [17,18]] (.cond (.t 19) (sK [19] (sR [oT 0 20 5 [5],uT 1 21 0,oT 2 22 6 [6],uT 3 23 7,oP 4 24 (.sst (.t 21) (some (.t 22)) (some (.t 23))) [21,22,23],oP 5 25 (.bsl 1 1 [.str []] [(0,1,(.t 24))])
[24],oX 6 26 1 16 20 25 [20,25],oT 7 5 26 [26]] (.reg false [uT 0 27 7,oC 1 28 .add 27 1 [27],oT 2 6 28 [28]]))) (sK [19] .skip)))) (sI 13 14 7)))
abbrev B132 : CCode := (sR [oV 0 4 [4]] (sR [uP 0 8 (.bsl 1 0 [.str []] []),oT 1 5 8 [8]] (sR [uZ 0 6 0] (sL 7 0 L132_0 (sR [oT 0 29 5 [5],oT 1 30 0 [0],oT 2 31 6 [6],oP 3 32 (.sst (.t 30) (some (.t 31)) none)
[30,31],oP 4 33 (.bsl 1 1 [.str []] [(0,1,(.t 32))]) [32],oX 5 34 1 16 29 33 [29,33],oT 6 4 34 [34]] .ret)))))
def C132 : CFn := ⟨35,2,[.t 4],B132⟩
abbrev L133_0 : CCode := (.seq (sR [uT 0 5 4,oC 1 6 .lss 5 4 [5]] (sC 6 [0,4,6] 0)) (.seq (.block 1 (sR [uT 0 9 4,oK 1 10 69 [.t 9] [9],uT 2 11 0,oB 3 12 .eql 10 11 [10,11]] (sD 12 [0,12] [oT 0 13 4 [4],oT 1 2 13
[13],uY 2 3 true]))) (sI 7 8 4)))
abbrev B133 : CCode := (sR [oZ 0 2 0 [2],oY 1 3 false [3]] (.seq (sR [uZ 0 4 (-10)] (.block 0 (.loop L133_0))) (sR [uZ 0 2 0,uY 1 3 false] .ret)))
def C133 : CFn := ⟨14,1,[.t 2,.t 3],B133⟩
abbrev L134_0 : CCode := (.seq (sR [uT 0 6 5,uT 1 7 0,oN 2 8 7 [7],oB 3 9 .lss 6 8 [6,8]] (sC 9 [0,1,5,9] 0)) (.seq (.block 1 (sR [uT 0 12 0,uT 1 13 5,uI 2 14 3 12 13,oF 3 15 0 14 [14],oL 4 16 1 15 [12,13,15],uT 5 17
1,oB 6 18 .eql 16 17 [16,17]] (sD 18 [0,1,18] [oT 0 19 5 [5],oT 1 4 19 [19]]))) (sI 10 11 5)))
abbrev B134 : CCode := (sR [oZ 0 4 0 [4]] (sL 5 0 L134_0 (sR [uZ 0 4 (-1)] .ret)))
def C134 : CFn := ⟨20,2,[.t 4],B134⟩
abbrev L135_0 : CCode := (.seq (sR [uT 0 12 6,uF 1 13 2 3,oL 2 14 1 13 [13],oN 3 15 14 [14],oB 4 16 .lss 12 15 [12,15]] (sC 16 [6,16] 0)) (.seq (.block 1 (.reg false [oT 0 19 5 [5],uF 1 20 2 3,oL 2 21 1 20 [20],uT 3 22
6,oI 4 23 1 21 22 [21],oL 5 24 1 23 [22,23],oK 6 25 69 [.t 24] [24],oB 7 26 .add 19 25 [19,25],oT 8 5 26 [26]])) (sI 17 18 6)))
abbrev L135_1 : CCode := (.seq (sR [uT 0 29 7,uF 1 30 1 3,oL 2 31 1 30 [30],oN 3 32 31 [31],oB 4 33 .lss 29 32 [29,32]] (sC 33 [0,3,7,33] 2)) (.seq (.block 3 (.seq (sR [uT 0 36 7,oC 1 37 .gtr 36 0 [36]] (.cond (.t 37)
(sK [37] (.reg false [oT 0 38 5 [5],oP 1 39 (.bin .add (.t 38) (.c (.str [32]))) [38],oT 2 5 39 [39]])) (sK [37] .skip))) (.reg false [oT 0 40 5 [5],uT 1 41 0,uF 2 42 1 3,oL 3 43 1 42 [42],uT 4 44 7,oI 5 45 2 43 44
[43],oM 6 46 2 45 [45],oK 7 47 38 [.t 41,.t 46] [41,44,46],oB 8 48 .add 40 47 [40,47],oT 9 5 48 [48]]))) (sI 34 35 7)))
abbrev B135 : CCode := (sR [oQ 0 3 3 1 [1],oP 1 4 (.mv (.c (.str []))) [4]] (.seq (sR [uT 0 8 0,uM 1 9 3 3,oK 2 10 29 [.t 8,.t 9] [8,9],oE 3 11 10 [10]] (sD 11 [0,3,11] [uP 0 4 (.mv (.c (.str [])))])) (sR [uP 0 5 (.mv
(.c (.str [])))] (sL 6 0 L135_0 (sR [oT 0 27 5 [5],oP 1 28 (.bin .add (.t 27) (.c (.str [63]))) [27],oT 2 5 28 [28]] (sL 7 2 L135_1 (sR [oT 0 49 5 [5],oT 1 4 49 [49]] .ret)))))))
def C135 : CFn := ⟨50,2,[.t 4],B135⟩ def Tab (f : Nat) : Option CFn :=
  match f with
  |3=>C3
  |4=>C4
  |5=>C5
  |6=>C6
  |7=>C7
  |8=>C8
  |9=>C9
  |10=>C10
  |11=>C11
  |12=>C12
  |13=>C13
  |14=>C14
  |15=>C15
  |16=>C16
  |17=>C17
  |18=>C18
  |19=>C19
  |20=>C20
  |21=>C21
  |22=>C22
  |23=>C23
  |24=>C24
  |25=>C25
  |26=>C26
  |27=>C27
  |28=>C28
  |29=>C29
  |30=>C30
  |31=>C31
  |32=>C32
  |33=>C33
  |35=>C35
  |36=>C36
  |37=>C37
  |38=>C38
  |39=>C39
  |40=>C40
  |41=>C41
  |42=>C42
  |43=>C43
  |44=>C44
  |45=>C45
  |46=>C46
  |47=>C47
  |48=>C48
  |49=>C49
  |50=>C50
  |51=>C51
  |52=>C52
  |53=>C53
  |54=>C54
  |55=>C55
  |56=>C56
  |59=>C59
  |60=>C60
  |61=>C61
  |62=>C62
  |63=>C63
  |67=>C67
  |68=>C68
  |69=>C69
  |70=>C70
  |71=>C71
  |72=>C72
  |73=>C73
  |74=>C74
  |75=>C75
  |76=>C76
  |77=>C77
  |78=>C78
  |79=>C79
  |80=>C80
  |81=>C81
  |82=>C82
  |83=>C83
  |86=>C86
  |87=>C87
  |88=>C88
  |91=>C91
  |92=>C92
  |93=>C93
  |94=>C94
  |95=>C95
  |96=>C96
  |97=>C97
  |98=>C98
  |99=>C99
  |100=>C100
  |115=>C115
  |116=>C116
  |117=>C117
  |118=>C118
  |119=>C119
  |127=>C127
  |128=>C128
  |129=>C129
  |132=>C132
  |133=>C133
  |134=>C134
  |135=>C135
  | _ => none
theorem tabOk : TabOk Go.Proofs.Tryz.prog Tab := by
  intro f cf h
  unfold Tab at h
  split at h <;> simp only [Option.some.injEq, reduceCtorEq] at h <;> subst h <;> kernel_rfl

end Go.Proofs.YtjfeimhiiomgoaaGreatDoorH
