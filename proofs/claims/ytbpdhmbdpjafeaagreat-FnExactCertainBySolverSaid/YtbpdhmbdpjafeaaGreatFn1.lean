import Derived.Test.YtbpdhmbdpjafeaaGreatX3
import Derived.Test.YtbpdhmbdpjafeaaGreatProg
set_option linter.unusedVariables false
set_option maxRecDepth 100000
namespace Go.Proofs.YtbpdhmbdpjafeaaGreatH
open Go
noncomputable abbrev pG := Go.Proofs.Tryz.prog
abbrev sR (l : List (Nat × COper)) (c : CCode) : CCode := .seq (.reg false l) c
abbrev sK (l : List Nat) (c : CCode) : CCode := .seq (.kill l) c
@[simp] abbrev gA (i d : Nat) (a b : Nat) (g : Nat) (k : List Nat) : Nat × COper := (i, ⟨some d, .pick (.t a) (.t b) (.c (.bool false)), some (g, false), [], k⟩)
@[simp] abbrev gB (i d : Nat) (o : BinOp) (a b : Nat) (g : Nat) (k : List Nat) : Nat × COper := (i, ⟨some d, .bin o (.t a) (.t b), some (g, false), [], k⟩)
@[simp] abbrev gC (i d : Nat) (o : BinOp) (a : Nat) (n : Int) (g : Nat) (k : List Nat) : Nat × COper := (i, ⟨some d, .bin o (.t a) (.c (.int .i64 n)), some (g, false), [], k⟩)
@[simp] abbrev gE (i d : Nat) (a : Nat) (g : Nat) (k : List Nat) : Nat × COper := (i, ⟨some d, .not (.t a), some (g, false), [], k⟩)
@[simp] abbrev gF (i d : Nat) (w a : Nat) (g : Nat) (k : List Nat) : Nat × COper := (i, ⟨some d, .fa w (.t a), some (g, false), [], k⟩)
@[simp] abbrev gG (i d : Nat) (p : COp) (g : Nat) (k : List Nat) : Nat × COper := (i, ⟨some d, p, some (g, false), [], k⟩)
@[simp] abbrev gK (i d : Nat) (f : Nat) (l : List Opd) (g : Nat) (k : List Nat) : Nat × COper := (i, ⟨some d, .call f l, some (g, false), [], k⟩)
@[simp] abbrev gL (i d : Nat) (w a : Nat) (g : Nat) (k : List Nat) : Nat × COper := (i, ⟨some d, .ld w false (.t a), some (g, false), [], k⟩)
@[simp] abbrev gN (i d : Nat) (a : Nat) (g : Nat) (k : List Nat) : Nat × COper := (i, ⟨some d, .len (.t a), some (g, false), [], k⟩)
@[simp] abbrev gT (i d : Nat) (a : Nat) (g : Nat) (k : List Nat) : Nat × COper := (i, ⟨some d, .mv (.t a), some (g, false), [], k⟩)
@[simp] abbrev gX (i d : Nat) (w n a b : Nat) (g : Nat) (k : List Nat) : Nat × COper := (i, ⟨some d, .app w n (.t a) (.t b), some (g, false), [], k⟩)
@[simp] abbrev hB (i d : Nat) (o : BinOp) (a b : Nat) (g : Nat) (k : List Nat) : Nat × COper := (i, ⟨some d, .bin o (.t a) (.t b), some (g, true), [], k⟩)
@[simp] abbrev hC (i d : Nat) (o : BinOp) (a : Nat) (n : Int) (g : Nat) (k : List Nat) : Nat × COper := (i, ⟨some d, .bin o (.t a) (.c (.int .i64 n)), some (g, true), [], k⟩)
@[simp] abbrev hE (i d : Nat) (a : Nat) (g : Nat) (k : List Nat) : Nat × COper := (i, ⟨some d, .not (.t a), some (g, true), [], k⟩)
@[simp] abbrev hF (i d : Nat) (w a : Nat) (g : Nat) (k : List Nat) : Nat × COper := (i, ⟨some d, .fa w (.t a), some (g, true), [], k⟩)
@[simp] abbrev hG (i d : Nat) (p : COp) (g : Nat) (k : List Nat) : Nat × COper := (i, ⟨some d, p, some (g, true), [], k⟩)
@[simp] abbrev hI (i d : Nat) (w a b : Nat) (g : Nat) (k : List Nat) : Nat × COper := (i, ⟨some d, .ia w (.t a) (.t b), some (g, true), [], k⟩)
@[simp] abbrev hK (i d : Nat) (f : Nat) (l : List Opd) (g : Nat) (k : List Nat) : Nat × COper := (i, ⟨some d, .call f l, some (g, true), [], k⟩)
@[simp] abbrev hL (i d : Nat) (w a : Nat) (g : Nat) (k : List Nat) : Nat × COper := (i, ⟨some d, .ld w false (.t a), some (g, true), [], k⟩)
@[simp] abbrev hM (i d : Nat) (w a : Nat) (g : Nat) (k : List Nat) : Nat × COper := (i, ⟨some d, .ld w true (.t a), some (g, true), [], k⟩)
@[simp] abbrev hN (i d : Nat) (a : Nat) (g : Nat) (k : List Nat) : Nat × COper := (i, ⟨some d, .len (.t a), some (g, true), [], k⟩)
@[simp] abbrev hT (i d : Nat) (a : Nat) (g : Nat) (k : List Nat) : Nat × COper := (i, ⟨some d, .mv (.t a), some (g, true), [], k⟩)
@[simp] abbrev oA (i d : Nat) (a b : Nat) (k : List Nat) : Nat × COper := (i, ⟨some d, .pick (.t a) (.t b) (.c (.bool false)), none, [], k⟩)
@[simp] abbrev oB (i d : Nat) (o : BinOp) (a b : Nat) (k : List Nat) : Nat × COper := (i, ⟨some d, .bin o (.t a) (.t b), none, [], k⟩)
@[simp] abbrev oC (i d : Nat) (o : BinOp) (a : Nat) (n : Int) (k : List Nat) : Nat × COper := (i, ⟨some d, .bin o (.t a) (.c (.int .i64 n)), none, [], k⟩)
@[simp] abbrev oE (i d : Nat) (a : Nat) (k : List Nat) : Nat × COper := (i, ⟨some d, .not (.t a), none, [], k⟩)
@[simp] abbrev oF (i d : Nat) (w a : Nat) (k : List Nat) : Nat × COper := (i, ⟨some d, .fa w (.t a), none, [], k⟩)
@[simp] abbrev oI (i d : Nat) (w a b : Nat) (k : List Nat) : Nat × COper := (i, ⟨some d, .ia w (.t a) (.t b), none, [], k⟩)
@[simp] abbrev oK (i d : Nat) (f : Nat) (l : List Opd) (k : List Nat) : Nat × COper := (i, ⟨some d, .call f l, none, [], k⟩)
@[simp] abbrev oL (i d : Nat) (w a : Nat) (k : List Nat) : Nat × COper := (i, ⟨some d, .ld w false (.t a), none, [], k⟩)
@[simp] abbrev oM (i d : Nat) (w a : Nat) (k : List Nat) : Nat × COper := (i, ⟨some d, .ld w true (.t a), none, [], k⟩)
@[simp] abbrev oN (i d : Nat) (a : Nat) (k : List Nat) : Nat × COper := (i, ⟨some d, .len (.t a), none, [], k⟩)
@[simp] abbrev oO (i d : Nat) (a b : Nat) (k : List Nat) : Nat × COper := (i, ⟨some d, .pick (.t a) (.c (.bool true)) (.t b), none, [], k⟩)
@[simp] abbrev oP (i d : Nat) (p : COp) (k : List Nat) : Nat × COper := (i, ⟨some d, p, none, [], k⟩)
@[simp] abbrev oQ (i d : Nat) (w a : Nat) (k : List Nat) : Nat × COper := (i, ⟨some d, .box w (.t a), none, [], k⟩)
@[simp] abbrev oS (i w a b : Nat) (k : List Nat) : Nat × COper := (i, ⟨none, .st w (.t a) (.t b), none, [], k⟩)
@[simp] abbrev oT (i d : Nat) (a : Nat) (k : List Nat) : Nat × COper := (i, ⟨some d, .mv (.t a), none, [], k⟩)
@[simp] abbrev oU (i d : Nat) (a n : Nat) (k : List Nat) : Nat × COper := (i, ⟨some d, .ex (.t a) n, none, [], k⟩)
@[simp] abbrev oV (i d : Nat) (k : List Nat) : Nat × COper := (i, ⟨some d, .mv (.c .nils), none, [], k⟩)
@[simp] abbrev oX (i d : Nat) (w n a b : Nat) (k : List Nat) : Nat × COper := (i, ⟨some d, .app w n (.t a) (.t b), none, [], k⟩)
@[simp] abbrev oY (i d : Nat) (b : Bool) (k : List Nat) : Nat × COper := (i, ⟨some d, .mv (.c (.bool b)), none, [], k⟩)
@[simp] abbrev oZ (i d : Nat) (n : Int) (k : List Nat) : Nat × COper := (i, ⟨some d, .mv (.c (.int .i64 n)), none, [], k⟩)
@[simp] abbrev uB (i d : Nat) (o : BinOp) (a b : Nat) : Nat × COper := (i, ⟨some d, .bin o (.t a) (.t b), none, [], []⟩)
@[simp] abbrev uF (i d : Nat) (w a : Nat) : Nat × COper := (i, ⟨some d, .fa w (.t a), none, [], []⟩)
@[simp] abbrev uH (i d : Nat) (l : List AV) : Nat × COper := (i, ⟨some d, .al l, none, [], []⟩)
@[simp] abbrev uI (i d : Nat) (w a b : Nat) : Nat × COper := (i, ⟨some d, .ia w (.t a) (.t b), none, [], []⟩)
@[simp] abbrev uL (i d : Nat) (w a : Nat) : Nat × COper := (i, ⟨some d, .ld w false (.t a), none, [], []⟩)
@[simp] abbrev uM (i d : Nat) (w a : Nat) : Nat × COper := (i, ⟨some d, .ld w true (.t a), none, [], []⟩)
@[simp] abbrev uN (i d : Nat) (a : Nat) : Nat × COper := (i, ⟨some d, .len (.t a), none, [], []⟩)
@[simp] abbrev uP (i d : Nat) (p : COp) : Nat × COper := (i, ⟨some d, p, none, [], []⟩)
@[simp] abbrev uQ (i d : Nat) (w a : Nat) : Nat × COper := (i, ⟨some d, .box w (.t a), none, [], []⟩)
@[simp] abbrev uT (i d : Nat) (a : Nat) : Nat × COper := (i, ⟨some d, .mv (.t a), none, [], []⟩)
@[simp] abbrev uU (i d : Nat) (a n : Nat) : Nat × COper := (i, ⟨some d, .ex (.t a) n, none, [], []⟩)
@[simp] abbrev uV (i d : Nat) : Nat × COper := (i, ⟨some d, .mv (.c .nils), none, [], []⟩)
@[simp] abbrev uW (i d : Nat) (w : Nat) (l : List AV) : Nat × COper := (i, ⟨some d, .bsl w 0 l [], none, [], []⟩)
@[simp] abbrev uY (i d : Nat) (b : Bool) : Nat × COper := (i, ⟨some d, .mv (.c (.bool b)), none, [], []⟩)
@[simp] abbrev uZ (i d : Nat) (n : Int) : Nat × COper := (i, ⟨some d, .mv (.c (.int .i64 n)), none, [], []⟩)
@[simp] abbrev vF (i d : Nat) (w a : Nat) (g : Nat) : Nat × COper := (i, ⟨some d, .fa w (.t a), some (g, false), [], []⟩)
@[simp] abbrev vG (i d : Nat) (p : COp) (g : Nat) : Nat × COper := (i, ⟨some d, p, some (g, false), [], []⟩)
@[simp] abbrev vI (i d : Nat) (w a b : Nat) (g : Nat) : Nat × COper := (i, ⟨some d, .ia w (.t a) (.t b), some (g, false), [], []⟩)
@[simp] abbrev vL (i d : Nat) (w a : Nat) (g : Nat) : Nat × COper := (i, ⟨some d, .ld w false (.t a), some (g, false), [], []⟩)
@[simp] abbrev vM (i d : Nat) (w a : Nat) (g : Nat) : Nat × COper := (i, ⟨some d, .ld w true (.t a), some (g, false), [], []⟩)
@[simp] abbrev vT (i d : Nat) (a : Nat) (g : Nat) : Nat × COper := (i, ⟨some d, .mv (.t a), some (g, false), [], []⟩)
@[simp] abbrev vW (i d : Nat) (w : Nat) (l : List AV) (g : Nat) : Nat × COper := (i, ⟨some d, .bsl w 0 l [], some (g, false), [], []⟩)
@[simp] abbrev wF (i d : Nat) (w a : Nat) (g : Nat) : Nat × COper := (i, ⟨some d, .fa w (.t a), some (g, true), [], []⟩)
@[simp] abbrev wG (i d : Nat) (p : COp) (g : Nat) : Nat × COper := (i, ⟨some d, p, some (g, true), [], []⟩)
@[simp] abbrev wI (i d : Nat) (w a b : Nat) (g : Nat) : Nat × COper := (i, ⟨some d, .ia w (.t a) (.t b), some (g, true), [], []⟩)
@[simp] abbrev wL (i d : Nat) (w a : Nat) (g : Nat) : Nat × COper := (i, ⟨some d, .ld w false (.t a), some (g, true), [], []⟩)
@[simp] abbrev wM (i d : Nat) (w a : Nat) (g : Nat) : Nat × COper := (i, ⟨some d, .ld w true (.t a), some (g, true), [], []⟩)
@[simp] abbrev wT (i d : Nat) (a : Nat) (g : Nat) : Nat × COper := (i, ⟨some d, .mv (.t a), some (g, true), [], []⟩)
abbrev sI (a b x : Nat) : CCode := .reg false [oT 0 a x [x],oC 1 b .add a 1 [a],oT 2 x b [b]]
abbrev sC (t : Nat) (k : List Nat) (n : Nat) : CCode := .cond (.t t) (.seq (.kill [t]) .skip) (.seq (.kill k) (.exit n))
abbrev sD (t : Nat) (k : List Nat) (l : List (Nat × COper)) : CCode := .cond (.t t) (.seq (.kill k) (.seq (.reg false l) .ret)) (.seq (.kill [t]) .skip)
abbrev sL (x k : Nat) (l c : CCode) : CCode := .seq (.seq (.reg false [uZ 0 x 0]) (.block k (.loop l))) c
abbrev B3 : CCode := (sR [oQ 0 2 2 0 [0],oQ 1 3 3 1 [1],oY 2 4 false [4]] (sR [uZ 0 5 1048576] (sR [uM 0 20 2 2,oT 1 21 5 [5],oK 2 22 4 [.t 20,.t 21] [20,21],oT 3 5 22 [22]] (.seq (sR [uT 0 23 5,oC 1 24 .lss 23 0 [23]]
(sD 24 [2,3,5,24] [uY 0 4 true])) (sR [uM 0 25 3 3,oT 1 26 5 [5],oK 2 27 5 [.t 25,.t 26] [25,26],oT 3 5 27 [27]] (.seq (sR [oT 0 28 5 [5],oC 1 29 .lss 28 0 [28]] (sD 29 [2,3,29] [uY 0 4 true])) (.seq (.reg true [uM 0 31
2 2,uM 2 33 3 3,(1,⟨some 32,.call 7 [.t 31],none,[(3,3)],[31]⟩),oK 3 34 8 [.t 33] [33],oK 4 35 6 [.t 32,.t 34] [32,34],oT 5 30 35 [35],uU 6 36 30 0,uU 7 37 30 1,oU 8 38 30 2 [30],oT 9 6 36 [36],oT 10 7 37 [37],oT 11 8
38 [38]]) (sR [uM 0 39 2 2,oK 1 40 7 [.t 39] [39],uH 2 9 [.nils,.nils],oS 3 2 9 40 [40]] (sR [uM 0 41 3 3,oK 1 42 8 [.t 41] [41],uH 2 10 [.int .i64 (0),.nils,.nils],oS 3 3 10 42 [42]] (sR [uM 0 44 2 9,uM 1 45 3 10,oK 2
46 9 [.t 44,.t 45] [44,45],oT 3 43 46 [46],uU 4 47 43 0,uU 5 48 43 1,oU 6 49 43 2 [43],oT 7 11 47 [47],oT 8 12 48 [48],oT 9 13 49 [49]] (.seq (sR [uT 0 50 11,uT 1 51 6,oK 2 52 10 [.t 50,.t 51] [50,51],oE 3 53 52 [52],oT
4 54 53 [53],vT 5 55 12 54,vT 6 56 7 54,gK 7 57 11 [.t 55,.t 56] 54 [55,56],gE 8 58 57 54 [57],oO 9 59 54 58 [54,58],oT 10 60 59 [59],vT 11 61 13 60,vT 12 62 8 60,gG 13 63 (.beq true (.t 61) (.t 62)) 60 [61,62],oO 14 64
60 63 [60,63]] (sD 64 [2,3,6,7,8,9,10,11,12,13,64] [uY 0 4 false])) (.seq (.seq (.reg true [uM 0 65 2 9,uM 1 66 2 2,(2,⟨some 67,.call 7 [.t 66],none,[(9,2)],[66]⟩),oK 3 68 12 [.t 65,.t 67] [65,67],oE 4 69 68 [68]]) (sD
69 [2,3,6,7,8,9,10,11,12,13,69] [uY 0 4 false])) (.seq (.seq (.reg true [uM 0 70 3 10,uM 1 71 3 3,(2,⟨some 72,.call 8 [.t 71],none,[(10,3)],[71]⟩),oK 3 73 13 [.t 70,.t 72] [70,72],oE 4 74 73 [73]]) (sD 74
[2,3,6,7,8,9,10,11,12,13,74] [uY 0 4 false])) (sR [uZ 0 14 1] (sR [uM 0 75 2 9,oT 1 76 14 [14],oK 2 77 14 [.t 75,.t 76] [9,75,76],oT 3 14 77 [77]] (sR [uM 0 78 3 10,oT 1 79 14 [14],oK 2 80 15 [.t 78,.t 79] [10,78,79],oT
3 14 80 [80]] (.seq (sR [oT 0 81 14 [14],oC 1 82 .lss 81 0 [81],oT 2 83 82 [82],vT 3 84 11 83,vT 4 85 6 83,gK 5 86 10 [.t 84,.t 85] 83 [84,85],gE 6 87 86 83 [86],oO 7 88 83 87 [83,87],oT 8 89 88 [88],vT 9 90 12 89,vT 10
91 7 89,gK 11 92 11 [.t 90,.t 91] 89 [90,91],gE 12 93 92 89 [92],oO 13 94 89 93 [89,93],oT 14 95 94 [94],gT 15 96 13 95 [13],vT 16 97 8 95,gG 17 98 (.beq true (.t 96) (.t 97)) 95 [96,97],oO 18 99 95 98 [95,98]] (sD 99
[2,3,6,7,8,11,12,99] [uY 0 4 false])) (sR [uZ 0 15 1] (sR [uT 0 100 11,oT 1 101 15 [15],oK 2 102 16 [.t 100,.t 101] [100,101],oT 3 15 102 [102]] (sR [uT 0 103 12,oT 1 104 15 [15],oK 2 105 17 [.t 103,.t 104] [103,104],oT
3 15 105 [105]] (sR [uZ 0 16 1] (sR [uT 0 106 11,oT 1 107 16 [16],oK 2 108 18 [.t 106,.t 107] [106,107],oT 3 16 108 [108]] (.seq (sR [uT 0 109 16,oC 1 110 .lss 109 0 [109]] (sD 110 [2,3,6,7,8,11,12,15,16,110] [uY 0 4
false])) (sR [uT 0 111 12,oT 1 112 16 [16],oK 2 113 19 [.t 111,.t 112] [111,112],oT 3 16 113 [113]] (.seq (sR [uT 0 114 16,oC 1 115 .lss 114 0 [114]] (sD 115 [2,3,6,7,8,11,12,15,16,115] [uY 0 4 false])) (.seq (sR [oT 0
116 16 [16],uT 1 117 15,oB 2 118 .neq 116 117 [116,117]] (sD 118 [2,3,6,7,8,11,12,15,118] [uY 0 4 false])) (.seq (.reg true [uM 0 120 2 2,uM 2 122 3 3,(1,⟨some 121,.call 7 [.t 120],none,[(3,3)],[2,120]⟩),oK 3 123 8 [.t
122] [3,122],oK 4 124 9 [.t 121,.t 123] [121,123],oT 5 119 124 [124],uU 6 125 119 0,uU 7 126 119 1,oU 8 127 119 2 [119],oT 9 17 125 [125],oT 10 18 126 [126],oT 11 19 127 [127]]) (.seq (sR [oT 0 128 17 [17],oT 1 129 6
[6],oK 2 130 10 [.t 128,.t 129] [128,129],oE 3 131 130 [130],oT 4 132 131 [131],gT 5 133 18 132 [18],gT 6 134 7 132 [7],gK 7 135 11 [.t 133,.t 134] 132 [133,134],gE 8 136 135 132 [135],oO 9 137 132 136 [132,136],oT 10
138 137 [137],gT 11 139 19 138 [19],gT 12 140 8 138 [8],gG 13 141 (.beq true (.t 139) (.t 140)) 138 [139,140],oO 14 142 138 141 [138,141]] (sD 142 [11,12,15,142] [uY 0 4 false])) (sR [uZ 0 16 1] (sR [oT 0 143 11 [11],oT
1 144 16 [16],oK 2 145 18 [.t 143,.t 144] [143,144],oT 3 16 145 [145]] (.seq (sR [uT 0 146 16,oC 1 147 .lss 146 0 [146]] (sD 147 [12,15,16,147] [uY 0 4 false])) (sR [oT 0 148 12 [12],oT 1 149 16 [16],oK 2 150 19 [.t
148,.t 149] [148,149],oT 3 16 150 [150]] (.seq (sR [uT 0 151 16,oC 1 152 .lss 151 0 [151]] (sD 152 [15,16,152] [uY 0 4 false])) (.seq (sR [oT 0 153 16 [16],oT 1 154 15 [15],oB 2 155 .neq 153 154 [153,154]] (sD 155 [155]
[uY 0 4 false])) (sR [uY 0 4 true] .ret)))))))))))))))))))))))))))))))))))
def C3 : CFn := ⟨156,2,[.t 4],B3⟩
abbrev B4 : CCode := (sR [oQ 0 2 2 0 [0],oZ 1 4 0 [4]] (sR [uF 0 5 0 2,oL 1 6 1 5 [5],oT 2 7 1 [1],oK 3 8 20 [.t 6,.t 7] [6,7],oT 4 1 8 [8]] (.seq (sR [uT 0 9 1,oC 1 10 .lss 9 0 [9]] (sD 10 [1,2,10] [uZ 0 4 (-1)])) (sR
[uF 0 11 1 2,oL 1 12 1 11 [11],oT 2 13 1 [1],oK 3 14 21 [.t 12,.t 13] [2,12,13],oT 4 1 14 [14]] (.seq (sR [uT 0 15 1,oC 1 16 .lss 15 0 [15]] (sD 16 [1,16] [uZ 0 4 (-1)])) (sR [oT 0 17 1 [1],oT 1 4 17 [17]] .ret))))))
def C4 : CFn := ⟨18,2,[.t 4],B4⟩
abbrev B5 : CCode := (sR [oQ 0 2 3 0 [0],oZ 1 4 0 [4]] (sR [uF 0 5 1 2,oL 1 6 1 5 [5],oT 2 7 1 [1],oK 3 8 22 [.t 6,.t 7] [6,7],oT 4 1 8 [8]] (.seq (sR [uT 0 9 1,oC 1 10 .lss 9 0 [9]] (sD 10 [1,2,10] [uZ 0 4 (-1)])) (sR
[uF 0 11 2 2,oL 1 12 1 11 [11],oT 2 13 1 [1],oK 3 14 23 [.t 12,.t 13] [2,12,13],oT 4 1 14 [14]] (.seq (sR [uT 0 15 1,oC 1 16 .lss 15 0 [15]] (sD 16 [1,16] [uZ 0 4 (-1)])) (sR [oT 0 17 1 [1],oT 1 4 17 [17]] .ret))))))
def C5 : CFn := ⟨18,2,[.t 4],B5⟩
abbrev B6 : CCode := (sR [oQ 0 2 2 0 [0],oQ 1 3 3 1 [1],oV 2 4 [4],oV 3 5 [5],oY 4 6 false [6]] (sR [uM 0 13 2 2,uM 1 14 3 3,oK 2 15 24 [.t 13,.t 14] [13,14],oT 3 7 15 [15]] (.seq (sR [uM 0 16 2 2,uM 1 17 3 3,oK 2 18 25
[.t 16,.t 17] [3,16,17],oE 3 19 18 [18],oT 4 20 19 [19],vT 5 21 7 20,gN 6 22 21 20 [21],gC 7 23 .gtr 22 400 20 [22],oO 8 24 20 23 [20,23]] (sD 24 [2,7,24] [uW 0 25 1 [.int .i64 (0)],uW 1 26 1 [.nils],oT 2 4 25 [25],oT 3
5 26 [26],uY 4 6 false])) (sR [uF 0 28 1 2,oL 1 29 1 28 [28],oN 2 30 29 [29],oT 3 31 7 [7],oK 4 32 26 [.t 30,.t 31] [30,31],oT 5 27 32 [32],uU 6 33 27 0,uU 7 34 27 1,oU 8 35 27 2 [27],oT 9 8 33 [33],oT 10 9 34 [34],oT
11 10 35 [35]] (.seq (sR [oT 0 36 10 [10],oE 1 37 36 [36]] (.cond (.t 37) (sK [2,8,37] (sR [uW 0 38 1 [.int .i64 (0)],oT 1 39 9 [9],oT 2 4 38 [38],oT 3 5 39 [39],uY 4 6 true] .ret)) (sK [9,37] .skip))) (.seq (.reg true
[uM 0 41 2 2,oT 1 42 8 [8],(2,⟨some 43,.call 28 [.t 42],none,[(2,2)],[42]⟩),oK 3 44 27 [.t 41,.t 43] [2,41,43],oT 4 40 44 [44],uU 5 45 40 0,oU 6 46 40 1 [40],oT 7 11 45 [45],oT 8 12 46 [12,46]]) (sR [oT 0 47 11 [11],uW
1 48 1 [.nils],oT 2 4 47 [47],oT 3 5 48 [48],uY 4 6 false] .ret)))))))
def C6 : CFn := ⟨49,2,[.t 4,.t 5,.t 6],B6⟩
abbrev B7 : CCode := (sR [oQ 0 1 2 0 [0],uH 1 2 [.nils,.nils]] (sR [uH 0 3 [.nils,.nils]] (sR [uF 0 4 0 1,oL 1 5 1 4 [4],oK 2 6 29 [.t 5] [5],uF 3 7 0 3,oS 4 1 7 6 [6,7]] (sR [uF 0 8 1 1,oL 1 9 1 8 [8],oK 2 10 30 [.t 9]
[1,9],uF 3 11 1 3,oS 4 1 11 10 [10,11]] (sR [uM 0 12 2 3,oS 1 2 2 12 [3,12]] .ret)))))
def C7 : CFn := ⟨13,1,[.m 2 2 true],B7⟩
abbrev B8 : CCode := (sR [oQ 0 1 3 0 [0],uH 1 2 [.int .i64 (0),.nils,.nils]] (sR [uH 0 3 [.int .i64 (0),.nils,.nils]] (sR [uF 0 4 0 1,oL 1 5 1 4 [4],uF 2 6 0 3,oS 3 1 6 5 [5,6]] (sR [uF 0 7 1 1,oL 1 8 1 7 [7],oK 2 9 31
[.t 8] [8],uF 3 10 1 3,oS 4 1 10 9 [9,10]] (sR [uF 0 11 2 1,oL 1 12 1 11 [11],oK 2 13 32 [.t 12] [1,12],uF 3 14 2 3,oS 4 1 14 13 [13,14]] (sR [uM 0 15 3 3,oS 1 3 2 15 [3,15]] .ret))))))
def C8 : CFn := ⟨16,1,[.m 2 3 true],B8⟩
abbrev B9 : CCode := (sR [oQ 0 2 2 0 [0],oQ 1 3 3 1 [1],oV 2 4 [4],oV 3 5 [5],oY 4 6 false [6]] (sR [uM 0 13 2 2,uM 1 14 3 3,oK 2 15 33 [.t 13,.t 14] [13,14],oT 3 7 15 [15]] (.seq (sR [uM 0 16 2 2,uM 1 17 3 3,oK 2 18 34
[.t 16,.t 17] [3,16,17],oE 3 19 18 [18],oT 4 20 19 [19],vT 5 21 7 20,gN 6 22 21 20 [21],gC 7 23 .gtr 22 400 20 [22],oO 8 24 20 23 [20,23]] (sD 24 [2,7,24] [uV 0 4,uV 1 5,uY 2 6 false])) (sR [uF 0 26 1 2,oL 1 27 1 26
[26],oN 2 28 27 [27],oT 3 29 7 [7],oK 4 30 35 [.t 28,.t 29] [28,29],oT 5 25 30 [30],uU 6 31 25 0,uU 7 32 25 1,oU 8 33 25 2 [25],oT 9 8 31 [31],oT 10 9 32 [32],oT 11 10 33 [33]] (.seq (sR [oT 0 34 10 [10]] (.cond (.t 34)
(sK [9,34] (.seq (.reg true [uM 0 36 2 2,oT 1 37 8 [8],(2,⟨some 38,.call 37 [.t 37],none,[(2,2)],[37]⟩),oK 3 39 36 [.t 36,.t 38] [2,36,38],oT 4 35 39 [39],uU 5 40 35 0,oU 6 41 35 1 [35],oT 7 11 40 [40],oT 8 12 41
[12,41]]) (sR [oT 0 42 11 [11],oT 1 4 42 [42],uV 2 5,uY 3 6 false] .ret))) (sK [2,8,34] .skip))) (sR [oT 0 43 9 [9],uV 1 4,oT 2 5 43 [43],uY 3 6 true] .ret))))))
def C9 : CFn := ⟨44,2,[.t 4,.t 5,.t 6],B9⟩
abbrev L10_0 : CCode := (.seq (sR [uT 0 11 5,uT 1 12 0,oN 2 13 12 [12],oB 3 14 .lss 11 13 [11,13]] (sC 14 [0,1,5,14] 0)) (.seq (.block 1 (.seq (.reg true [uT 0 17 0,uT 1 18 5,uI 2 19 1 17 18,oL 3 20 1 19 [17,18,19],uT 4
21 1,uT 5 22 5,uI 6 23 1 21 22,oL 7 24 1 23 [21,22,23],oB 8 25 .neq 20 24 [20,24]]) (sD 25 [0,1,5,25] [uY 0 4 false]))) (sI 15 16 5)))
abbrev B10 : CCode := (sR [oY 0 4 false [4]] (.seq (sR [uT 0 6 0,oN 1 7 6 [6],uT 2 8 1,oN 3 9 8 [8],oB 4 10 .neq 7 9 [7,9]] (sD 10 [0,1,10] [uY 0 4 false])) (sL 5 0 L10_0 (sR [uY 0 4 true] .ret))))
def C10 : CFn := ⟨26,2,[.t 4],B10⟩
abbrev L11_0 : CCode := (.seq (sR [uT 0 11 5,uT 1 12 0,oN 2 13 12 [12],oB 3 14 .lss 11 13 [11,13]] (sC 14 [0,1,5,14] 0)) (.seq (.block 1 (.seq (.reg true [uT 0 17 0,uT 1 18 5,uI 2 19 1 17 18,oL 3 20 1 19 [19],uT 4 21
1,uT 5 22 5,uI 6 23 1 21 22,oL 7 24 1 23 [23],oK 8 25 10 [.t 20,.t 24] [17,18,20,21,22,24],oE 9 26 25 [25]]) (sD 26 [0,1,5,26] [uY 0 4 false]))) (sI 15 16 5)))
abbrev B11 : CCode := (sR [oY 0 4 false [4]] (.seq (sR [uT 0 6 0,oN 1 7 6 [6],uT 2 8 1,oN 3 9 8 [8],oB 4 10 .neq 7 9 [7,9]] (sD 10 [0,1,10] [uY 0 4 false])) (sL 5 0 L11_0 (sR [uY 0 4 true] .ret))))
def C11 : CFn := ⟨27,2,[.t 4],B11⟩
abbrev B12 : CCode := (sR [oQ 0 2 2 0 [0],oQ 1 3 2 1 [1],oY 2 4 false [4]] (.seq (sR [uF 0 5 0 2,oL 1 6 1 5 [5],uF 2 7 0 3,oL 3 8 1 7 [7],oK 4 9 38 [.t 6,.t 8] [6,8],oE 5 10 9 [9]] (sD 10 [2,3,10] [uY 0 4 false])) (.seq
(sR [uF 0 11 1 2,oL 1 12 1 11 [11],uF 2 13 1 3,oL 3 14 1 13 [13],oK 4 15 39 [.t 12,.t 14] [2,3,12,14],oE 5 16 15 [15]] (sD 16 [16] [uY 0 4 false])) (sR [uY 0 4 true] .ret))))
def C12 : CFn := ⟨17,2,[.t 4],B12⟩
abbrev B13 : CCode := (sR [oQ 0 2 3 0 [0],oQ 1 3 3 1 [1],oY 2 4 false [4]] (.seq (sR [uF 0 5 0 2,oL 1 6 1 5 [5],uF 2 7 0 3,oL 3 8 1 7 [7],oB 4 9 .neq 6 8 [6,8]] (sD 9 [2,3,9] [uY 0 4 false])) (.seq (sR [uF 0 10 1 2,oL 1
11 1 10 [10],uF 2 12 1 3,oL 3 13 1 12 [12],oK 4 14 40 [.t 11,.t 13] [11,13],oE 5 15 14 [14]] (sD 15 [2,3,15] [uY 0 4 false])) (.seq (sR [uF 0 16 2 2,oL 1 17 1 16 [16],uF 2 18 2 3,oL 3 19 1 18 [18],oK 4 20 10 [.t 17,.t
19] [2,3,17,19],oE 5 21 20 [20]] (sD 21 [21] [uY 0 4 false])) (sR [uY 0 4 true] .ret)))))
def C13 : CFn := ⟨22,2,[.t 4],B13⟩
abbrev B14 : CCode := (sR [uQ 0 2 2 0,oZ 1 4 0 [4]] (sR [uF 0 5 0 2,oL 1 6 1 5 [5],oT 2 7 1 [1],oK 3 8 41 [.t 6,.t 7] [6,7],oT 4 1 8 [8]] (sR [uF 0 9 1 2,oL 1 10 1 9 [9],oT 2 11 1 [1],oK 3 12 42 [.t 10,.t 11]
[2,10,11],oT 4 1 12 [12]] (sR [oT 0 13 1 [1],oT 1 4 13 [13]] .ret))))
def C14 : CFn := ⟨14,2,[.t 4],B14⟩
abbrev B15 : CCode := (sR [uQ 0 2 3 0,oZ 1 4 0 [4]] (sR [uF 0 5 1 2,oL 1 6 1 5 [5],oT 2 7 1 [1],oK 3 8 43 [.t 6,.t 7] [6,7],oT 4 1 8 [8]] (sR [uF 0 9 2 2,oL 1 10 1 9 [9],oT 2 11 1 [1],oK 3 12 16 [.t 10,.t 11]
[2,10,11],oT 4 1 12 [12]] (sR [oT 0 13 1 [1],oT 1 4 13 [13]] .ret))))
def C15 : CFn := ⟨14,2,[.t 4],B15⟩
abbrev L16_0 : CCode := (.seq (sR [uT 0 6 5,uT 1 7 0,oN 2 8 7 [7],oB 3 9 .lss 6 8 [6,8]] (sC 9 [5,9] 0)) (.seq (.block 1 (sR [uT 0 12 0,uT 1 13 5,uT 2 14 1,uI 3 15 1 12 13,oS 4 1 15 14 [12,13,14,15]] (sI 16 17 1))) (sI
10 11 5)))
abbrev B16 : CCode := (sR [oZ 0 4 0 [4]] (sL 5 0 L16_0 (sR [oT 0 18 1 [1],oT 1 4 18 [18]] .ret)))
def C16 : CFn := ⟨19,2,[.t 4],B16⟩
abbrev L17_0 : CCode := (.seq (sR [uT 0 6 5,uT 1 7 0,oN 2 8 7 [7],oB 3 9 .lss 6 8 [6,8]] (sC 9 [5,9] 0)) (.seq (.block 1 (.reg false [uT 0 12 0,uT 1 13 5,uI 2 14 1 12 13,oL 3 15 1 14 [14],oT 4 16 1 [1],oK 5 17 16 [.t
15,.t 16] [12,13,15,16],oT 6 1 17 [17]])) (sI 10 11 5)))
abbrev B17 : CCode := (sR [oZ 0 4 0 [4]] (sL 5 0 L17_0 (sR [oT 0 18 1 [1],oT 1 4 18 [18]] .ret)))
def C17 : CFn := ⟨19,2,[.t 4],B17⟩
abbrev L18_0 : CCode := (.seq (sR [uT 0 6 5,uT 1 7 0,oN 2 8 7 [7],oB 3 9 .lss 6 8 [6,8]] (sC 9 [0,5,9] 0)) (.seq (.block 1 (.seq (sR [uT 0 12 0,uT 1 13 5,uI 2 14 1 12 13,oL 3 15 1 14 [12,13,14],uT 4 16 1,oB 5 17 .neq 15
16 [15,16]] (sD 17 [0,1,5,17] [uZ 0 4 (-1)])) (sI 18 19 1))) (sI 10 11 5)))
abbrev B18 : CCode := (sR [oZ 0 4 0 [4]] (sL 5 0 L18_0 (sR [oT 0 20 1 [1],oT 1 4 20 [20]] .ret)))
def C18 : CFn := ⟨21,2,[.t 4],B18⟩
abbrev L19_0 : CCode := (.seq (sR [uT 0 6 5,uT 1 7 0,oN 2 8 7 [7],oB 3 9 .lss 6 8 [6,8]] (sC 9 [0,5,9] 0)) (.seq (.block 1 (sR [uT 0 12 0,uT 1 13 5,uI 2 14 1 12 13,oL 3 15 1 14 [14],oT 4 16 1 [1],oK 5 17 18 [.t 15,.t
16] [12,13,15,16],oT 6 1 17 [17]] (sR [uT 0 18 1,oC 1 19 .lss 18 0 [18]] (sD 19 [0,1,5,19] [uZ 0 4 (-1)])))) (sI 10 11 5)))
abbrev B19 : CCode := (sR [oZ 0 4 0 [4]] (sL 5 0 L19_0 (sR [oT 0 20 1 [1],oT 1 4 20 [20]] .ret)))
def C19 : CFn := ⟨21,2,[.t 4],B19⟩
abbrev L20_0 : CCode := (.seq (sR [uT 0 12 5,uT 1 13 0,oN 2 14 13 [13],oB 3 15 .lss 12 14 [12,14]] (sC 15 [0,5,15] 0)) (.seq (.block 1 (sR [uT 0 18 0,uT 1 19 5,uI 2 20 3 18 19,oM 3 21 3 20 [20],oT 4 22 1 [1],oK 5 23 44
[.t 21,.t 22] [18,19,21,22],oT 6 1 23 [23]] (sR [uT 0 24 1,oC 1 25 .lss 24 0 [24]] (sD 25 [0,1,5,25] [uZ 0 4 (-1)])))) (sI 16 17 5)))
abbrev B20 : CCode := (sR [oZ 0 4 0 [4]] (sR [oT 0 6 1 [1],uT 1 7 0,oN 2 8 7 [7],oB 3 9 .sub 6 8 [6,8],oT 4 1 9 [9]] (.seq (sR [uT 0 10 1,oC 1 11 .lss 10 0 [10]] (sD 11 [0,1,11] [uZ 0 4 (-1)])) (sL 5 0 L20_0 (sR [oT 0
26 1 [1],oT 1 4 26 [26]] .ret)))))
def C20 : CFn := ⟨27,2,[.t 4],B20⟩
abbrev L21_0 : CCode := (.seq (sR [uT 0 12 5,uT 1 13 0,oN 2 14 13 [13],oB 3 15 .lss 12 14 [12,14]] (sC 15 [0,5,15] 0)) (.seq (.block 1 (sR [uT 0 18 0,uT 1 19 5,uI 2 20 2 18 19,oM 3 21 2 20 [20],oT 4 22 1 [1],oK 5 23 45
[.t 21,.t 22] [18,19,21,22],oT 6 1 23 [23]] (sR [uT 0 24 1,oC 1 25 .lss 24 0 [24]] (sD 25 [0,1,5,25] [uZ 0 4 (-1)])))) (sI 16 17 5)))
abbrev B21 : CCode := (sR [oZ 0 4 0 [4]] (sR [oT 0 6 1 [1],uT 1 7 0,oN 2 8 7 [7],oB 3 9 .sub 6 8 [6,8],oT 4 1 9 [9]] (.seq (sR [uT 0 10 1,oC 1 11 .lss 10 0 [10]] (sD 11 [0,1,11] [uZ 0 4 (-1)])) (sL 5 0 L21_0 (sR [oT 0
26 1 [1],oT 1 4 26 [26]] .ret)))))
def C21 : CFn := ⟨27,2,[.t 4],B21⟩
abbrev L22_0 : CCode := (.seq (sR [uT 0 12 5,uT 1 13 0,oN 2 14 13 [13],oB 3 15 .lss 12 14 [12,14]] (sC 15 [0,5,15] 0)) (.seq (.block 1 (sR [uT 0 18 0,uT 1 19 5,uI 2 20 2 18 19,oM 3 21 2 20 [20],oT 4 22 1 [1],oK 5 23 46
[.t 21,.t 22] [18,19,21,22],oT 6 1 23 [23]] (sR [uT 0 24 1,oC 1 25 .lss 24 0 [24]] (sD 25 [0,1,5,25] [uZ 0 4 (-1)])))) (sI 16 17 5)))
abbrev B22 : CCode := (sR [oZ 0 4 0 [4]] (sR [oT 0 6 1 [1],uT 1 7 0,oN 2 8 7 [7],oB 3 9 .sub 6 8 [6,8],oT 4 1 9 [9]] (.seq (sR [uT 0 10 1,oC 1 11 .lss 10 0 [10]] (sD 11 [0,1,11] [uZ 0 4 (-1)])) (sL 5 0 L22_0 (sR [oT 0
26 1 [1],oT 1 4 26 [26]] .ret)))))
def C22 : CFn := ⟨27,2,[.t 4],B22⟩
abbrev B23 : CCode := (sR [oZ 0 4 0 [4]] (sR [oT 0 5 1 [1],oT 1 6 0 [0],oN 2 7 6 [6],oB 3 8 .sub 5 7 [5,7],oT 4 1 8 [8]] (.seq (sR [uT 0 9 1,oC 1 10 .lss 9 0 [9]] (sD 10 [1,10] [uZ 0 4 (-1)])) (sR [oT 0 11 1 [1],oT 1 4
11 [11]] .ret))))
def C23 : CFn := ⟨12,2,[.t 4],B23⟩
abbrev L24_2 : CCode := (.seq (sR [uT 0 29 9,uT 1 30 6,uT 2 31 7,uI 3 32 1 30 31,oL 4 33 1 32 [32],oN 5 34 33 [30,31,33],oB 6 35 .lss 29 34 [29,34]] (sC 35 [9,35] 2)) (.seq (.block 3 (.reg false [oT 0 38 8 [8],uT 1 39
6,uT 2 40 7,uI 3 41 1 39 40,oL 4 42 1 41 [41],uT 5 43 9,oI 6 44 1 42 43 [42],oL 7 45 1 44 [39,40,43,44],oC 8 46 .add 45 1 [45],oP 9 47 (.bsl 1 1 [.int .i64 (0)] [(0,1,(.t 46))]) [46],oX 10 48 1 8 38 47 [38,47],oT 11 8
48 [48]])) (sI 36 37 9)))
abbrev L24_0 : CCode := (.seq (sR [uT 0 22 7,uT 1 23 6,oN 2 24 23 [23],oB 3 25 .lss 22 24 [22,24]] (sC 25 [6,7,25] 0)) (.seq (.block 1 (sR [uW 0 28 1 [.int .i64 (0)],oT 1 8 28 [28]] (sL 9 2 L24_2 (.reg false [oT 0 49 5
[5],oT 1 50 8 [8],oP 2 51 (.bsl 1 1 [.nils] [(0,1,(.t 50))]) [50],oX 3 52 1 24 49 51 [49,51],oT 4 5 52 [52]])))) (sI 26 27 7)))
abbrev L24_3 : CCode := (.seq (sR [uT 0 63 13,uT 1 64 10,uT 2 65 11,uI 3 66 1 64 65,oL 4 67 1 66 [66],oN 5 68 67 [64,65,67],oB 6 69 .lss 63 68 [63,68]] (sC 69 [13,69] 6)) (.seq (.block 7 (.reg false [oT 0 72 12 [12],uT
1 73 10,uT 2 74 11,uI 3 75 1 73 74,oL 4 76 1 75 [75],uT 5 77 13,oI 6 78 1 76 77 [76],oL 7 79 1 78 [73,74,77,78],oP 8 80 (.bin .sub (.c (.int .i64 (-1))) (.t 79)) [79],oP 9 81 (.bsl 1 1 [.int .i64 (0)] [(0,1,(.t 80))])
[80],oX 10 82 1 8 72 81 [72,81],oT 11 12 82 [82]])) (sI 70 71 13)))
abbrev L24_1 : CCode := (.seq (sR [uT 0 56 11,uT 1 57 10,oN 2 58 57 [57],oB 3 59 .lss 56 58 [56,58]] (sC 59 [10,11,59] 4)) (.seq (.block 5 (sR [uW 0 62 1 [.int .i64 (0)],oT 1 12 62 [62]] (sL 13 6 L24_3 (.reg false [oT 0
83 5 [5],oT 1 84 12 [12],oP 2 85 (.bsl 1 1 [.nils] [(0,1,(.t 84))]) [84],oX 3 86 1 24 83 85 [83,85],oT 4 5 86 [86]])))) (sI 60 61 11)))
abbrev B24 : CCode := (sR [oQ 0 2 2 0 [0],oQ 1 3 3 1 [1],oV 2 4 [4]] (sR [uW 0 14 1 [.nils],oT 1 5 14 [14]] (.seq (sR [uM 0 15 2 2,uM 1 16 3 3,oK 2 17 25 [.t 15,.t 16] [15,16],oE 3 18 17 [17]] (sD 18 [2,3,18] [oT 0 19 5
[5],oT 1 4 19 [19]])) (sR [uM 0 20 2 2,oK 1 21 47 [.t 20] [20],oT 2 6 21 [21]] (sL 7 0 L24_0 (sR [uM 0 53 2 2,uM 1 54 3 3,oK 2 55 48 [.t 53,.t 54] [2,3,53,54],oT 3 10 55 [55]] (sL 11 4 L24_1 (sR [oT 0 87 5 [5],oT 1 4 87
[87]] .ret))))))))
def C24 : CFn := ⟨88,2,[.t 4],B24⟩
abbrev B25 : CCode := (sR [oQ 0 2 2 0 [0],oQ 1 3 3 1 [1],oY 2 4 false [4]] (sR [uM 0 5 2 2,oK 1 6 49 [.t 5] [5],oT 2 7 6 [6],wF 3 8 0 2 7,hL 4 9 1 8 7 [8],wM 5 10 3 3 7,hK 6 11 50 [.t 9,.t 10] 7 [2,3,9,10],oA 7 12 7 11
[7,11],oT 8 4 12 [12]] .ret))
def C25 : CFn := ⟨13,2,[.t 4],B25⟩
abbrev B26 : CCode := (sR [oV 0 4 [4],oV 1 5 [5],oY 2 6 false [6]] (.seq (sR [uT 0 8 0,uT 1 9 1,oK 2 10 51 [.t 8,.t 9] [8,9],oE 3 11 10 [10]] (sD 11 [0,1,11] [uW 0 12 1 [.bool false],uW 1 13 1 [.nils],oT 2 4 12 [12],oT
3 5 13 [13],uY 4 6 false])) (sR [oT 0 14 0 [0],uW 1 15 1 [.nils],oT 2 16 1 [1],oX 3 17 1 24 15 16 [15,16],oP 4 18 (.bld [.int .i64 (0),.nils,.nils,.nils] [(0,1,(.t 14)),(1,1,(.t 17))]) [14,17],oQ 5 19 4 18 [18],oT 6 7
19 [19]] (.seq (sR [uT 0 20 7,uW 1 21 1 [.int .i64 (0)],oK 2 22 52 [.t 20,.t 21] [20,21]] (sD 22 [22] [oT 0 23 7 [7],uP 1 24 (.nc (.t 23)),oF 2 25 3 24 [24],oL 3 26 1 25 [25],uW 4 27 1 [.nils],oT 5 4 26 [26],oT 6 5 27
[27],uY 7 6 true])) (.seq (.reg true [uW 0 28 1 [.bool false],oT 1 29 7 [7],uP 2 30 (.nc (.t 29)),oF 3 31 2 30 [30],oL 4 32 1 31 [31],oT 5 4 28 [28],oT 6 5 32 [32],uY 7 6 false]) .ret)))))
def C26 : CFn := ⟨33,2,[.t 4,.t 5,.t 6],B26⟩
abbrev L27_1 : CCode := (.seq (sR [uT 0 30 10,uT 1 31 7,uT 2 32 8,uI 3 33 1 31 32,oL 4 34 1 33 [33],oN 5 35 34 [31,32,34],oB 6 36 .lss 30 35 [30,35],oT 7 37 36 [36],wT 8 38 9 37,hE 9 39 38 37 [38],oA 10 40 37 39
[37,39]] (sC 40 [10,40] 2)) (.seq (.block 3 (sR [uT 0 43 1,uT 1 44 7,uT 2 45 8,uI 3 46 1 44 45,oL 4 47 1 46 [46],uT 5 48 10,oI 6 49 1 47 48 [47],oL 7 50 1 49 [44,45,48,49],oK 8 51 54 [.t 43,.t 50] [43,50]] (.cond (.t
51) (sK [9,51] (sR [oT 0 52 6 [6],uT 1 53 7,uT 2 54 8,uI 3 55 1 53 54,oL 4 56 1 55 [55],uT 5 57 10,oI 6 58 1 56 57 [56],oL 7 59 1 58 [53,54,57,58],oP 8 60 (.bsl 1 1 [.int .i64 (0)] [(0,1,(.t 59))]) [59],oX 9 61 1 8 52
60 [52,60],oT 10 6 61 [61]] (.reg false [uY 0 9 true]))) (sK [51] .skip)))) (sI 41 42 10)))
abbrev L27_0 : CCode := (.seq (sR [uT 0 24 8,uT 1 25 7,oN 2 26 25 [25],oB 3 27 .lss 24 26 [24,26]] (sC 27 [1,7,8,27] 0)) (.seq (.block 1 (sR [uY 0 9 false] (sL 10 2 L27_1 (sR [oT 0 62 9 [9],oE 1 63 62 [62]] (sD 63
[1,6,7,8,63] [uW 0 64 1 [.int .i64 (0)],oT 1 4 64 [64],uY 2 5 false]))))) (sI 28 29 8)))
abbrev B27 : CCode := (sR [oQ 0 2 2 0 [0],oV 1 4 [4],oY 2 5 false [5]] (.seq (sR [uM 0 11 2 2,oK 1 12 49 [.t 11] [11],oE 2 13 12 [12],oT 3 14 13 [13],vM 4 15 2 2 14,vT 5 16 1 14,gK 6 17 53 [.t 15,.t 16] 14 [15,16],gE 7
18 17 14 [17],oO 8 19 14 18 [14,18]] (sD 19 [1,2,19] [uW 0 20 1 [.int .i64 (0)],oT 1 4 20 [20],uY 2 5 false])) (sR [uW 0 21 1 [.int .i64 (0)],oT 1 6 21 [21]] (sR [uM 0 22 2 2,oK 1 23 47 [.t 22] [2,22],oT 2 7 23 [23]]
(sL 8 0 L27_0 (sR [oT 0 65 6 [6],oK 1 66 55 [.t 65] [65],oT 2 4 66 [66],uY 3 5 true] .ret))))))
def C27 : CFn := ⟨67,2,[.t 4,.t 5],B27⟩
abbrev L28_0 : CCode := (.seq (sR [uT 0 6 4,uT 1 7 0,oN 2 8 7 [7],oB 3 9 .lss 6 8 [6,8]] (sC 9 [0,4,9] 0)) (.seq (.block 1 (sR [uT 0 12 0,uT 1 13 4,uI 2 14 1 12 13,oL 3 15 1 14 [12,13,14]] (.cond (.t 15) (sK [15] (.reg
false [oT 0 16 3 [3],uT 1 17 4,oP 2 18 (.bsl 1 1 [.int .i64 (0)] [(0,1,(.t 17))]) [17],oX 3 19 1 8 16 18 [16,18],oT 4 3 19 [19]])) (sK [15] .skip)))) (sI 10 11 4)))
abbrev B28 : CCode := (sR [oV 0 2 [2]] (sR [uW 0 5 1 [.int .i64 (0)],oT 1 3 5 [5]] (sL 4 0 L28_0 (sR [oT 0 20 3 [3],oT 1 2 20 [20]] .ret))))
def C28 : CFn := ⟨21,1,[.t 2],B28⟩
abbrev L29_0 : CCode := (.seq (sR [uT 0 8 4,uT 1 9 0,oN 2 10 9 [9],oB 3 11 .lss 8 10 [8,10]] (sC 11 [0,4,11] 0)) (.seq (.block 1 (.reg false [uT 0 14 3,uT 1 15 4,uT 2 16 0,uT 3 17 4,uI 4 18 3 16 17,oM 5 19 3 18 [18],oK
6 20 56 [.t 19] [16,17,19],uI 7 21 3 14 15,oS 8 3 21 20 [14,15,20,21]])) (sI 12 13 4)))
abbrev B29 : CCode := (sR [oV 0 2 [2]] (sR [uT 0 5 0,oN 1 6 5 [5],oP 2 7 (.mk 3 32 [.str [],.int .i64 (0),.int .i64 (0)] (.t 6) (.t 6)) [6],oT 3 3 7 [7]] (sL 4 0 L29_0 (sR [oT 0 22 3 [3],oT 1 2 22 [22]] .ret))))
def C29 : CFn := ⟨23,1,[.t 2],B29⟩
abbrev L30_0 : CCode := (.seq (sR [uT 0 8 4,uT 1 9 0,oN 2 10 9 [9],oB 3 11 .lss 8 10 [8,10]] (sC 11 [0,4,11] 0)) (.seq (.block 1 (.reg false [uT 0 14 3,uT 1 15 4,uT 2 16 0,uT 3 17 4,uI 4 18 2 16 17,oM 5 19 2 18 [18],oK
6 20 57 [.t 19] [16,17,19],uI 7 21 2 14 15,oS 8 2 21 20 [14,15,20,21]])) (sI 12 13 4)))
abbrev B30 : CCode := (sR [oV 0 2 [2]] (sR [uT 0 5 0,oN 1 6 5 [5],oP 2 7 (.mk 2 32 [.int .i64 (0),.nils] (.t 6) (.t 6)) [6],oT 3 3 7 [7]] (sL 4 0 L30_0 (sR [oT 0 22 3 [3],oT 1 2 22 [22]] .ret))))
def C30 : CFn := ⟨23,1,[.t 2],B30⟩
abbrev L31_0 : CCode := (.seq (sR [uT 0 8 4,uT 1 9 0,oN 2 10 9 [9],oB 3 11 .lss 8 10 [8,10]] (sC 11 [0,4,11] 0)) (.seq (.block 1 (.reg false [uT 0 14 3,uT 1 15 4,uT 2 16 0,uT 3 17 4,uI 4 18 2 16 17,oM 5 19 2 18 [18],oK
6 20 58 [.t 19] [16,17,19],uI 7 21 2 14 15,oS 8 2 21 20 [14,15,20,21]])) (sI 12 13 4)))
abbrev B31 : CCode := (sR [oV 0 2 [2]] (sR [uT 0 5 0,oN 1 6 5 [5],oP 2 7 (.mk 2 32 [.int .i64 (0),.nils] (.t 6) (.t 6)) [6],oT 3 3 7 [7]] (sL 4 0 L31_0 (sR [oT 0 22 3 [3],oT 1 2 22 [22]] .ret))))
def C31 : CFn := ⟨23,1,[.t 2],B31⟩
abbrev L32_0 : CCode := (.seq (sR [uT 0 8 4,uT 1 9 0,oN 2 10 9 [9],oB 3 11 .lss 8 10 [8,10]] (sC 11 [0,4,11] 0)) (.seq (.block 1 (.reg false [uT 0 14 3,uT 1 15 4,uT 2 16 0,uT 3 17 4,uI 4 18 1 16 17,oL 5 19 1 18
[16,17,18],uI 6 20 1 14 15,oS 7 1 20 19 [14,15,19,20]])) (sI 12 13 4)))
abbrev B32 : CCode := (sR [oV 0 2 [2]] (sR [uT 0 5 0,oN 1 6 5 [5],oP 2 7 (.mk 1 8 [.int .i64 (0)] (.t 6) (.t 6)) [6],oT 3 3 7 [7]] (sL 4 0 L32_0 (sR [oT 0 21 3 [3],oT 1 2 21 [21]] .ret))))
def C32 : CFn := ⟨22,1,[.t 2],B32⟩
abbrev L33_0 : CCode := (sR [uB 0 19 .lss 18 17] (.seq (sC 19 [16,17,18,19] 0) (.seq (.block 1 (sR [uI 0 20 1 16 18,oL 1 21 1 20 [20],oT 2 7 21 [21]] (.reg false [oT 0 22 5 [5],oT 1 23 7 [7],oK 2 24 60 [.t 23,(.c (.int
.i64 1))] [23],oP 3 25 (.bsl 1 1 [.nils] [(0,1,(.t 24))]) [24],oX 4 26 1 24 22 25 [22,25],oT 5 5 26 [26]]))) (.reg false [oC 0 27 .add 18 1 [18],oT 1 18 27 [27]]))))
abbrev L33_1 : CCode := (sR [uB 0 33 .lss 32 31] (.seq (sC 33 [30,31,32,33] 2) (.seq (.block 3 (sR [uI 0 34 1 30 32,oL 1 35 1 34 [34],oT 2 9 35 [35]] (.reg false [oT 0 36 5 [5],oT 1 37 9 [9],oK 2 38 60 [.t 37,(.c (.int
.i64 (-1)))] [37],oP 3 39 (.bsl 1 1 [.nils] [(0,1,(.t 38))]) [38],oX 4 40 1 24 36 39 [36,39],oT 5 5 40 [40]]))) (.reg false [oC 0 41 .add 32 1 [32],oT 1 32 41 [41]]))))
abbrev B33 : CCode := (sR [oQ 0 2 2 0 [0],oQ 1 3 3 1 [1],oV 2 4 [4]] (.seq (sR [uM 0 10 2 2,uM 1 11 3 3,oK 2 12 34 [.t 10,.t 11] [10,11],oE 3 13 12 [12]] (sD 13 [2,3,13] [uV 0 4])) (sR [uW 0 14 1 [.nils],oT 1 5 14 [14]]
(.seq (sR [uM 0 15 2 2,oK 1 16 59 [.t 15] [15],uN 2 17 16,uZ 3 18 0] (.block 0 (.loop L33_0))) (.seq (sR [uM 0 28 2 2,uM 1 29 3 3,oK 2 30 61 [.t 28,.t 29] [2,3,28,29],uN 3 31 30,uZ 4 32 0] (.block 2 (.loop L33_1))) (sR
[oT 0 42 5 [5],oT 1 4 42 [42]] .ret))))))
def C33 : CFn := ⟨43,2,[.t 4],B33⟩
abbrev B34 : CCode := (sR [oQ 0 2 2 0 [0],oQ 1 3 3 1 [1],oY 2 4 false [4]] (sR [uM 0 5 2 2,oK 1 6 62 [.t 5] [5],oT 2 7 6 [6],wF 3 8 0 2 7,hL 4 9 1 8 7 [8],wM 5 10 3 3 7,hK 6 11 63 [.t 9,.t 10] 7 [2,3,9,10],oA 7 12 7 11
[7,11],oT 8 4 12 [12]] .ret))
def C34 : CFn := ⟨13,2,[.t 4],B34⟩
abbrev L35_0 : CCode := (sR [uB 0 33 .lss 32 31] (.seq (sC 33 [30,31,32,33] 0) (.seq (.block 1 (sR [uI 0 34 1 30 32,oL 1 35 1 34 [34],oT 2 11 35 [35]] (sR [uT 0 36 11,oC 1 37 .gtr 36 0 [36]] (.cond (.t 37) (sK [37]
(.reg false [uT 0 38 9,oT 1 39 11 [11],oC 2 40 .sub 39 1 [39],uI 3 41 1 38 40,(4,⟨none,.st 1 (.t 41) (.c (.bool true)),none,[],[38,40,41]⟩)])) (sK [11,37] .skip))))) (.reg false [oC 0 42 .add 32 1 [32],oT 1 32 42
[42]]))))
abbrev B35 : CCode := (sR [oV 0 4 [4],oV 1 5 [5],oY 2 6 false [6]] (.seq (sR [uT 0 12 0,uT 1 13 1,oK 2 14 64 [.t 12,.t 13] [12,13],oE 3 15 14 [14]] (sD 15 [0,1,15] [uV 0 4,uV 1 5,uY 2 6 false])) (sR [uT 0 16 0,oT 1 17 1
[1],oP 2 18 (.bld [.int .i64 (0),.nils,.nils] [(0,1,(.t 16)),(1,1,(.t 17))]) [16,17],oQ 3 19 3 18 [18],oT 4 7 19 [19]] (sR [uT 0 20 7,oK 1 21 65 [.t 20,(.c (.nils))] [20],oT 2 8 21 [21]] (.seq (sR [uT 0 22 8,oP 1 23
(.isnil false (.t 22)) [22]] (.cond (.t 23) (sK [0,8,23] (.seq (.reg true [oT 0 24 7 [7],uP 1 25 (.nc (.t 24)),oF 2 26 2 25 [25],oL 3 27 1 26 [26],uV 4 4,oT 5 5 27 [27],uY 6 6 false]) .ret)) (sK [7,23] .skip))) (sR [oT
0 28 0 [0],oP 1 29 (.mk 1 1 [.bool false] (.t 28) (.t 28)) [28],oT 2 9 29 [29]] (.seq (sR [oT 0 30 8 [8],uN 1 31 30,uZ 2 32 0] (.block 0 (.loop L35_0))) (sR [oT 0 43 9 [9],oT 1 4 43 [43],uV 2 5,uY 3 6 true] .ret))))))))
def C35 : CFn := ⟨44,2,[.t 4,.t 5,.t 6],B35⟩
abbrev L36_0 : CCode := (sR [uB 0 26 .lss 25 24] (.seq (sC 26 [3,23,24,25,26] 0) (.seq (.block 1 (sR [uI 0 27 1 23 25,oL 1 28 1 27 [27],oT 2 8 28 [28]] (sR [uT 0 29 8,uP 1 30 (.fn 68 [.t 3]),oK 2 31 67 [.t 29,.t 30]
[29,30],oT 3 9 31 [31]] (.seq (sR [uT 0 32 9,oC 1 33 .lss 32 0 [32]] (sD 33 [3,6,8,9,23,24,25,33] [uV 0 4,uY 1 5 false])) (.reg false [oT 0 34 6 [6],oT 1 35 8 [8],oT 2 36 9 [9],uI 3 37 1 35 36,oL 4 38 1 37 [35,36,37],oP
5 39 (.bsl 1 1 [.int .i64 (0)] [(0,1,(.t 38))]) [38],oX 6 40 1 8 34 39 [34,39],oT 7 6 40 [40]]))))) (.reg false [oC 0 41 .add 25 1 [25],oT 1 25 41 [41]]))))
abbrev B36 : CCode := (sR [oQ 0 2 2 0 [0],oQ 1 3 1 1 [1],oV 2 4 [4],oY 3 5 false [5]] (.seq (sR [uM 0 10 2 2,oK 1 11 62 [.t 10] [10],oE 2 12 11 [11],oT 3 13 12 [12],vL 4 14 1 3 13,vF 5 15 1 2 13,gL 6 16 1 15 13 [15],gN
7 17 16 13 [16],gK 8 18 66 [.t 14,.t 17] 13 [14,17],gE 9 19 18 13 [18],oO 10 20 13 19 [13,19]] (sD 20 [2,3,20] [uV 0 4,uY 1 5 false])) (sR [uW 0 21 1 [.int .i64 (0)],oT 1 6 21 [21]] (.seq (sR [uM 0 22 2 2,oK 1 23 59 [.t
22] [2,22],uN 2 24 23,uZ 3 25 0] (.block 0 (.loop L36_0))) (sR [oT 0 42 6 [6],oT 1 4 42 [42],uY 2 5 true] .ret)))))
def C36 : CFn := ⟨43,2,[.t 4,.t 5],B36⟩
abbrev L37_0 : CCode := (sR [uB 0 10 .lss 9 8] (.seq (sC 10 [7,8,9,10] 0) (.seq (.block 1 (sR [uT 0 11 9,uI 1 12 1 7 9,oL 2 13 1 12 [12],oT 3 4 11 [11],oT 4 5 13 [13]] (sR [oT 0 14 5 [5]] (.cond (.t 14) (sK [14] (.reg
false [oT 0 15 3 [3],oT 1 16 4 [4],oP 2 17 (.bsl 1 1 [.int .i64 (0)] [(0,1,(.t 16))]) [16],oX 3 18 1 8 15 17 [15,17],oT 4 3 18 [18]])) (sK [4,14] .skip))))) (.reg false [oC 0 19 .add 9 1 [9],oT 1 9 19 [19]]))))
abbrev B37 : CCode := (sR [oV 0 2 [2]] (sR [uW 0 6 1 [.int .i64 (0)],oT 1 3 6 [6]] (.seq (sR [oT 0 7 0 [0],uN 1 8 7,uZ 2 9 0] (.block 0 (.loop L37_0))) (sR [oT 0 20 3 [3],oT 1 2 20 [20]] .ret))))
def C37 : CFn := ⟨21,1,[.t 2],B37⟩
abbrev L38_0 : CCode := (.seq (sR [uT 0 11 5,uT 1 12 0,oN 2 13 12 [12],oB 3 14 .lss 11 13 [11,13]] (sC 14 [0,1,5,14] 0)) (.seq (.block 1 (.seq (.reg true [uT 0 17 0,uT 1 18 5,uI 2 19 3 17 18,oM 3 20 3 19 [19],uT 4 21
1,uT 5 22 5,uI 6 23 3 21 22,oM 7 24 3 23 [23],oK 8 25 70 [.t 20,.t 24] [17,18,20,21,22,24],oE 9 26 25 [25]]) (sD 26 [0,1,5,26] [uY 0 4 false]))) (sI 15 16 5)))
abbrev B38 : CCode := (sR [oY 0 4 false [4]] (.seq (sR [uT 0 6 0,oN 1 7 6 [6],uT 2 8 1,oN 3 9 8 [8],oB 4 10 .neq 7 9 [7,9]] (sD 10 [0,1,10] [uY 0 4 false])) (sL 5 0 L38_0 (sR [uY 0 4 true] .ret))))
def C38 : CFn := ⟨27,2,[.t 4],B38⟩
abbrev L39_0 : CCode := (.seq (sR [uT 0 11 5,uT 1 12 0,oN 2 13 12 [12],oB 3 14 .lss 11 13 [11,13]] (sC 14 [0,1,5,14] 0)) (.seq (.block 1 (.seq (.reg true [uT 0 17 0,uT 1 18 5,uI 2 19 2 17 18,oM 3 20 2 19 [19],uT 4 21
1,uT 5 22 5,uI 6 23 2 21 22,oM 7 24 2 23 [23],oK 8 25 71 [.t 20,.t 24] [17,18,20,21,22,24],oE 9 26 25 [25]]) (sD 26 [0,1,5,26] [uY 0 4 false]))) (sI 15 16 5)))
abbrev B39 : CCode := (sR [oY 0 4 false [4]] (.seq (sR [uT 0 6 0,oN 1 7 6 [6],uT 2 8 1,oN 3 9 8 [8],oB 4 10 .neq 7 9 [7,9]] (sD 10 [0,1,10] [uY 0 4 false])) (sL 5 0 L39_0 (sR [uY 0 4 true] .ret))))
def C39 : CFn := ⟨27,2,[.t 4],B39⟩
abbrev L40_0 : CCode := (.seq (sR [uT 0 11 5,uT 1 12 0,oN 2 13 12 [12],oB 3 14 .lss 11 13 [11,13]] (sC 14 [0,1,5,14] 0)) (.seq (.block 1 (.seq (.reg true [uT 0 17 0,uT 1 18 5,uI 2 19 2 17 18,oM 3 20 2 19 [19],uT 4 21
1,uT 5 22 5,uI 6 23 2 21 22,oM 7 24 2 23 [23],oK 8 25 72 [.t 20,.t 24] [17,18,20,21,22,24],oE 9 26 25 [25]]) (sD 26 [0,1,5,26] [uY 0 4 false]))) (sI 15 16 5)))
abbrev B40 : CCode := (sR [oY 0 4 false [4]] (.seq (sR [uT 0 6 0,oN 1 7 6 [6],uT 2 8 1,oN 3 9 8 [8],oB 4 10 .neq 7 9 [7,9]] (sD 10 [0,1,10] [uY 0 4 false])) (sL 5 0 L40_0 (sR [uY 0 4 true] .ret))))
def C40 : CFn := ⟨27,2,[.t 4],B40⟩
abbrev L41_0 : CCode := (.seq (sR [uT 0 6 5,uT 1 7 0,oN 2 8 7 [7],oB 3 9 .lss 6 8 [6,8]] (sC 9 [5,9] 0)) (.seq (.block 1 (sR [uT 0 12 0,uT 1 13 5,uT 2 14 1,oK 3 15 73 [.t 14] [14],uI 4 16 3 12 13,oF 5 17 0 16 [16],oS 6
1 17 15 [12,13,15,17]] (sR [oT 0 18 1 [1],oC 1 19 .add 18 1 [18],oT 2 1 19 [19]] (sR [uT 0 20 0,uT 1 21 5,uT 2 22 1,uI 3 23 3 20 21,oF 4 24 1 23 [23],oS 5 1 24 22 [20,21,22,24]] (sR [oT 0 25 1 [1],oC 1 26 .add 25 1
[25],oT 2 1 26 [26]] (sR [uT 0 27 0,uT 1 28 5,uT 2 29 1,uI 3 30 3 27 28,oF 4 31 2 30 [30],oS 5 1 31 29 [27,28,29,31]] (sI 32 33 1))))))) (sI 10 11 5)))
abbrev B41 : CCode := (sR [oZ 0 4 0 [4]] (sL 5 0 L41_0 (sR [oT 0 34 1 [1],oT 1 4 34 [34]] .ret)))
def C41 : CFn := ⟨35,2,[.t 4],B41⟩
abbrev L42_0 : CCode := (.seq (sR [uT 0 6 5,uT 1 7 0,oN 2 8 7 [7],oB 3 9 .lss 6 8 [6,8]] (sC 9 [5,9] 0)) (.seq (.block 1 (sR [uT 0 12 0,uT 1 13 5,uT 2 14 1,uI 3 15 2 12 13,oF 4 16 0 15 [15],oS 5 1 16 14 [12,13,14,16]]
(sR [oT 0 17 1 [1],oC 1 18 .add 17 1 [17],oT 2 1 18 [18]] (.reg false [uT 0 19 0,uT 1 20 5,uI 2 21 2 19 20,oF 3 22 1 21 [21],oL 4 23 1 22 [22],oT 5 24 1 [1],oK 6 25 16 [.t 23,.t 24] [19,20,23,24],oT 7 1 25 [25]])))) (sI
10 11 5)))
abbrev B42 : CCode := (sR [oZ 0 4 0 [4]] (sL 5 0 L42_0 (sR [oT 0 26 1 [1],oT 1 4 26 [26]] .ret)))
def C42 : CFn := ⟨27,2,[.t 4],B42⟩
abbrev L43_0 : CCode := (.seq (sR [uT 0 6 5,uT 1 7 0,oN 2 8 7 [7],oB 3 9 .lss 6 8 [6,8]] (sC 9 [5,9] 0)) (.seq (.block 1 (sR [uT 0 12 0,uT 1 13 5,uT 2 14 1,uI 3 15 2 12 13,oF 4 16 0 15 [15],oS 5 1 16 14 [12,13,14,16]]
(sR [oT 0 17 1 [1],oC 1 18 .add 17 1 [17],oT 2 1 18 [18]] (.reg false [uT 0 19 0,uT 1 20 5,uI 2 21 2 19 20,oF 3 22 1 21 [21],oL 4 23 1 22 [22],oT 5 24 1 [1],oK 6 25 16 [.t 23,.t 24] [19,20,23,24],oT 7 1 25 [25]])))) (sI
10 11 5)))
abbrev B43 : CCode := (sR [oZ 0 4 0 [4]] (sL 5 0 L43_0 (sR [oT 0 26 1 [1],oT 1 4 26 [26]] .ret)))
def C43 : CFn := ⟨27,2,[.t 4],B43⟩
abbrev B44 : CCode := (sR [oQ 0 2 3 0 [0],oZ 1 4 0 [4]] (sR [oT 0 5 1 [1],uF 1 6 0 2,oL 2 7 1 6 [2,6],oP 3 8 (.lens (.t 7)) [7],oB 4 9 .sub 5 8 [5,8],oT 5 1 9 [9]] (.seq (sR [uT 0 10 1,oC 1 11 .lss 10 0 [10]] (sD 11
[1,11] [uZ 0 4 (-1)])) (sR [oT 0 12 1 [1],oT 1 4 12 [12]] .ret))))
def C44 : CFn := ⟨13,2,[.t 4],B44⟩
abbrev B45 : CCode := (sR [oQ 0 2 2 0 [0],oZ 1 4 0 [4]] (sR [uF 0 5 1 2,oL 1 6 1 5 [5],oT 2 7 1 [1],oK 3 8 23 [.t 6,.t 7] [2,6,7],oT 4 1 8 [8]] (.seq (sR [uT 0 9 1,oC 1 10 .lss 9 0 [9]] (sD 10 [1,10] [uZ 0 4 (-1)])) (sR
[oT 0 11 1 [1],oT 1 4 11 [11]] .ret))))
def C45 : CFn := ⟨12,2,[.t 4],B45⟩
abbrev B46 : CCode := (sR [oQ 0 2 2 0 [0],oZ 1 4 0 [4]] (sR [uF 0 5 1 2,oL 1 6 1 5 [5],oT 2 7 1 [1],oK 3 8 23 [.t 6,.t 7] [2,6,7],oT 4 1 8 [8]] (.seq (sR [uT 0 9 1,oC 1 10 .lss 9 0 [9]] (sD 10 [1,10] [uZ 0 4 (-1)])) (sR
[oT 0 11 1 [1],oT 1 4 11 [11]] .ret))))
def C46 : CFn := ⟨12,2,[.t 4],B46⟩
abbrev L47_0 : CCode := (.seq (sR [uT 0 7 4,uF 1 8 1 1,oL 2 9 1 8 [8],oN 3 10 9 [9],oB 4 11 .lss 7 10 [7,10],oT 5 12 11 [11],wM 6 13 2 1 12,hK 7 14 49 [.t 13] 12 [13],oA 8 15 12 14 [12,14]] (sC 15 [1,4,15] 0)) (.seq
(.block 1 (sR [uM 0 18 2 1,uT 1 19 4,oK 2 20 74 [.t 18,.t 19] [18,19],oT 3 5 20 [20]] (sR [uT 0 21 5,uP 1 22 (.ia 1 (.t 21) (.c (.int .i64 0))),oL 2 23 1 22 [21,22],uT 3 24 4,oB 4 25 .eql 23 24 [23,24]] (.cond (.t 25)
(sK [25] (.reg false [oT 0 26 3 [3],oT 1 27 5 [5],oP 2 28 (.bsl 1 1 [.nils] [(0,1,(.t 27))]) [27],oX 3 29 1 24 26 28 [26,28],oT 4 3 29 [29]])) (sK [5,25] .skip))))) (sI 16 17 4)))
abbrev B47 : CCode := (sR [oQ 0 1 2 0 [0],oV 1 2 [2]] (sR [uW 0 6 1 [.nils],oT 1 3 6 [6]] (sL 4 0 L47_0 (sR [oT 0 30 3 [3],oT 1 2 30 [30]] .ret))))
def C47 : CFn := ⟨31,1,[.t 2],B47⟩
abbrev L48_0 : CCode := (.seq (sR [uT 0 13 7,uT 1 14 6,oN 2 15 14 [14],oB 3 16 .lss 13 15 [13,15]] (sC 16 [2,6,7,16] 0)) (.seq (.block 1 (sR [uT 0 19 6,uT 1 20 7,uI 2 21 2 19 20,oF 3 22 1 21 [21],oL 4 23 1 22 [22],oK 5
24 55 [.t 23] [19,20,23],oT 6 8 24 [24]] (sR [uM 0 25 2 2,uT 1 26 8,oK 2 27 76 [.t 25,.t 26] [25,26]] (.cond (.t 27) (sK [27] (.reg false [oT 0 28 5 [5],oT 1 29 8 [8],oP 2 30 (.bsl 1 1 [.nils] [(0,1,(.t 29))]) [29],oX 3
31 1 24 28 30 [28,30],oT 4 5 31 [31]])) (sK [8,27] .skip))))) (sI 17 18 7)))
abbrev B48 : CCode := (sR [oQ 0 2 2 0 [0],oQ 1 3 3 1 [1],oV 2 4 [4]] (sR [uW 0 9 1 [.nils],oT 1 5 9 [9]] (sR [uM 0 10 2 2,uM 1 11 3 3,oK 2 12 75 [.t 10,.t 11] [3,10,11],oT 3 6 12 [12]] (sL 7 0 L48_0 (sR [oT 0 32 5
[5],oT 1 4 32 [32]] .ret)))))
def C48 : CFn := ⟨33,2,[.t 4],B48⟩
abbrev L49_0 : CCode := (.seq (sR [uT 0 4 3,uF 1 5 1 1,oL 2 6 1 5 [5],oN 3 7 6 [6],oB 4 8 .lss 4 7 [4,7]] (sC 8 [3,8] 0)) (.seq (.block 1 (.seq (.reg true [uF 0 11 0 1,oL 1 12 1 11 [11],uF 2 13 1 1,oL 3 14 1 13 [13],uT
4 15 3,oI 5 16 2 14 15 [14],oM 6 17 2 16 [16],oK 7 18 77 [.t 12,.t 17] [12,15,17],oE 8 19 18 [18],oT 9 20 19 [19],vT 10 21 3 20,gC 11 22 .gtr 21 0 20 [21],gT 12 23 22 20 [22],wF 13 24 1 1 23,hL 14 25 1 24 23 [24],wT 15
26 3 23,hC 16 27 .sub 26 1 23 [26],hI 17 28 2 25 27 23 [25],hM 18 29 2 28 23 [28],wF 19 30 1 1 23,hL 20 31 1 30 23 [30],wT 21 32 3 23,hI 22 33 2 31 32 23 [31],hM 23 34 2 33 23 [33],hK 24 35 78 [.t 29,.t 34] 23
[27,29,32,34],hC 25 36 .geq 35 0 23 [35],gA 26 37 23 36 20 [23,36],oO 27 38 20 37 [20,37]]) (sD 38 [1,3,38] [uY 0 2 false]))) (sI 9 10 3)))
abbrev B49 : CCode := (sR [oQ 0 1 2 0 [0],oY 1 2 false [2]] (sL 3 0 L49_0 (sR [uF 0 39 0 1,oL 1 40 1 39 [39],oK 2 41 79 [.t 40] [40],oT 3 42 41 [41],wF 4 43 1 1 42,hL 5 44 1 43 42 [43],hN 6 45 44 42 [1,44],hC 7 46 .leq
45 14 42 [45],oA 8 47 42 46 [42,46],oT 9 2 47 [47]] .ret)))
def C49 : CFn := ⟨48,1,[.t 2],B49⟩
abbrev L50_3 : CCode := (.seq (sR [uT 0 60 8,uT 1 61 6,oB 2 62 .lss 60 61 [60,61]] (sC 62 [8,62] 2)) (.seq (.block 3 (.seq (.reg true [uF 0 65 1 3,oL 1 66 1 65 [65],uT 2 67 8,oI 3 68 2 66 67 [66],oF 4 69 0 68 [68],oL 5
70 1 69 [67,69],uF 6 71 0 7,oL 7 72 1 71 [71],oB 8 73 .eql 70 72 [70,72]]) (sD 73 [0,3,5,6,7,8,73] [uY 0 4 false]))) (sI 63 64 8)))
abbrev L50_4 : CCode := (.seq (sR [uT 0 74 9,uF 1 75 1 7,oL 2 76 1 75 [75],oN 3 77 76 [76],oB 4 78 .lss 74 77 [74,77]] (sC 78 [7,9,78] 4)) (.seq (.block 5 (.seq (.seq (.reg true [uF 0 81 1 7,oL 1 82 1 81 [81],uT 2 83
9,oI 3 84 1 82 83 [82],oL 4 85 1 84 [83,84],uF 5 86 0 3,oL 6 87 1 86 [86],oC 7 88 .sub 87 1 [87],oK 8 89 80 [.t 85,(.c (.int .i64 (-10))),.t 88] [85,88],oE 9 90 89 [89]]) (sD 90 [0,3,5,6,7,9,90] [uY 0 4 false])) (sR [uF
0 91 1 7,oL 1 92 1 91 [91],uT 2 93 9,oI 3 94 1 92 93 [92],oL 4 95 1 94 [93,94],oC 5 96 .geq 95 0 [95]] (.cond (.t 96) (sK [96] (.reg false [uT 0 97 5,uF 1 98 1 7,oL 2 99 1 98 [98],uT 3 100 9,oI 4 101 1 99 100 [99],oL 5
102 1 101 [100,101],uI 6 103 1 97 102,(7,⟨none,.st 1 (.t 103) (.c (.bool true)),none,[],[97,102,103]⟩)])) (sK [96] .skip))))) (sI 79 80 9)))
abbrev L50_0 : CCode := (.seq (sR [uT 0 29 6,uF 1 30 1 3,oL 2 31 1 30 [30],oN 3 32 31 [31],oB 4 33 .lss 29 32 [29,32]] (sC 33 [0,6,33] 0)) (.seq (.block 1 (sR [uF 0 36 1 3,oL 1 37 1 36 [36],uT 2 38 6,oI 3 39 2 37 38
[37],oM 4 40 2 39 [39],uH 5 7 [.int .i64 (0),.nils],oS 6 2 7 40 [38,40]] (.seq (.seq (.reg true [uF 0 41 0 7,oL 1 42 1 41 [41],uT 2 43 0,oN 3 44 43 [43],oC 4 45 .sub 44 1 [44],oK 5 46 80 [.t 42,(.c (.int .i64 0)),.t 45]
[42,45],oE 6 47 46 [46],oT 7 48 47 [47],vF 8 49 1 7 48,gL 9 50 1 49 48 [49],gN 10 51 50 48 [50],vT 11 52 0 48,vF 12 53 0 7 48,gL 13 54 1 53 48 [53],vI 14 55 3 52 54 48,gF 15 56 1 55 48 [55],gL 16 57 1 56 48
[52,54,56],gB 17 58 .neq 51 57 48 [51,57],oO 18 59 48 58 [48,58]]) (sD 59 [0,3,5,6,7,59] [uY 0 4 false])) (sL 8 2 L50_3 (sR [uZ 0 9 0] (.block 4 (.loop L50_4))))))) (sI 34 35 6)))
abbrev L50_1 : CCode := (.seq (sR [uT 0 104 10,uF 1 105 0 3,oL 2 106 1 105 [105],oB 3 107 .lss 104 106 [104,106]] (sC 107 [5,10,107] 6)) (.seq (.block 7 (sR [uT 0 110 5,uT 1 111 10,uI 2 112 1 110 111,oL 3 113 1 112
[110,111,112],oE 4 114 113 [113]] (sD 114 [3,5,10,114] [uY 0 4 false]))) (sI 108 109 10)))
abbrev L50_2 : CCode := (.seq (sR [uT 0 115 11,uF 1 116 2 3,oL 2 117 1 116 [116],oN 3 118 117 [117],oB 4 119 .lss 115 118 [115,118]] (sC 119 [3,11,119] 8)) (.seq (.block 9 (.seq (.reg true [uF 0 122 2 3,oL 1 123 1 122
[122],uT 2 124 11,oI 3 125 1 123 124 [123],oL 4 126 1 125 [124,125],uF 5 127 0 3,oL 6 128 1 127 [127],oC 7 129 .sub 128 1 [128],oK 8 130 80 [.t 126,(.c (.int .i64 0)),.t 129] [126,129],oE 9 131 130 [130],oT 10 132 131
[131],vT 11 133 11 132,gC 12 134 .gtr 133 0 132 [133],gT 13 135 134 132 [134],wF 14 136 2 3 135,hL 15 137 1 136 135 [136],wT 16 138 11 135,hI 17 139 1 137 138 135 [137],hL 18 140 1 139 135 [138,139],wF 19 141 2 3 135,hL
20 142 1 141 135 [141],wT 21 143 11 135,hC 22 144 .sub 143 1 135 [143],hI 23 145 1 142 144 135 [142],hL 24 146 1 145 135 [144,145],hB 25 147 .leq 140 146 135 [140,146],gA 26 148 135 147 132 [135,147],oO 27 149 132 148
[132,148]]) (sD 149 [3,11,149] [uY 0 4 false]))) (sI 120 121 11)))
abbrev B50 : CCode := (sR [oQ 0 3 3 1 [1],oY 1 4 false [4]] (.seq (sR [uT 0 12 0,oK 1 13 79 [.t 12] [12],oE 2 14 13 [13],oT 3 15 14 [14],vF 4 16 0 3 15,gL 5 17 1 16 15 [16],gK 6 18 80 [.t 17,(.c (.int .i64 0)),(.c (.int
.i64 4))] 15 [17],gE 7 19 18 15 [18],oO 8 20 15 19 [15,19],oT 9 21 20 [20],vF 10 22 1 3 21,gL 11 23 1 22 21 [22],gN 12 24 23 21 [23],gK 13 25 80 [.t 24,(.c (.int .i64 1)),(.c (.int .i64 3))] 21 [24],gE 14 26 25 21
[25],oO 15 27 21 26 [21,26]] (sD 27 [0,3,27] [uY 0 4 false])) (sR [uP 0 28 (.mk 1 1 [.bool false] (.c (.int .i64 4)) (.c (.int .i64 4))),oT 1 5 28 [28]] (sL 6 0 L50_0 (sL 10 6 L50_1 (sL 11 8 L50_2 (sR [uY 0 4 true]
.ret)))))))
def C50 : CFn := ⟨150,2,[.t 4],B50⟩
abbrev L51_0 : CCode := (.seq (sR [uT 0 6 5,uT 1 7 1,oN 2 8 7 [7],oB 3 9 .lss 6 8 [6,8]] (sC 9 [5,9] 0)) (.seq (.block 1 (sR [uT 0 12 0,uT 1 13 1,uT 2 14 5,uI 3 15 1 13 14,oL 4 16 1 15 [15],oK 5 17 81 [.t 12,.t 16]
[12,13,14,16],oE 6 18 17 [17]] (sD 18 [0,1,5,18] [uY 0 4 false]))) (sI 10 11 5)))
abbrev B51 : CCode := (sR [oY 0 4 false [4]] (sL 5 0 L51_0 (sR [oT 0 19 0 [0],oK 1 20 80 [.t 19,(.c (.int .i64 0)),(.c (.int .i64 14))] [19],oT 2 21 20 [20],hT 3 22 1 21 [1],hN 4 23 22 21 [22],hC 5 24 .leq 23 400 21
[23],oA 6 25 21 24 [21,24],oT 7 4 25 [25]] .ret)))
def C51 : CFn := ⟨26,2,[.t 4],B51⟩
abbrev L52_0 : CCode := (.seq (sR [uT 0 22 7,uT 1 23 0,uP 2 24 (.nc (.t 23)),oF 3 25 0 24 [24],oL 4 26 1 25 [23,25],oB 5 27 .leq 22 26 [22,26]] (sC 27 [1,7,27] 0)) (.seq (.block 1 (.seq (sR [uT 0 30 5,uT 1 31 7,oK 2 32
54 [.t 30,.t 31] [30,31],oT 3 33 32 [32],vT 4 34 5 33,vT 5 35 7 33,gG 6 36 (.neg (.t 35)) 33 [35],gK 7 37 54 [.t 34,.t 36] 33 [34,36],oO 8 38 33 37 [33,37]] (.cond (.t 38) (sK [38] (.exit 1)) (sK [5,38] .skip))) (.seq
(sR [uT 0 39 0,uW 1 40 1 [.int .i64 (0)],uT 2 41 1,oX 3 42 1 8 40 41 [40,41],uT 4 43 7,oP 5 44 (.bsl 1 1 [.int .i64 (0)] [(0,1,(.t 43))]) [43],oX 6 45 1 8 42 44 [42,44],oK 7 46 52 [.t 39,.t 45] [39,45],oT 8 47 46
[46],vT 9 48 0 47,vW 10 49 1 [.int .i64 (0)] 47,vT 11 50 1 47,gX 12 51 1 8 49 50 47 [49,50],gT 13 52 7 47 [7],gG 14 53 (.neg (.t 52)) 47 [52],gG 15 54 (.bsl 1 1 [.int .i64 (0)] [(0,1,(.t 53))]) 47 [53],gX 16 55 1 8 51
54 47 [51,54],gK 17 56 52 [.t 48,.t 55] 47 [48,55],oO 18 57 47 56 [47,56]] (sD 57 [1,57] [uY 0 4 true])) (sR [uT 0 58 0,oT 1 59 1 [1],oK 2 60 83 [.t 58,.t 59] [58,59,60]] (sR [uY 0 4 false] .ret))))) (sI 28 29 7)))
abbrev L52_1 : CCode := (.seq (sR [uT 0 61 8,uT 1 62 0,uP 2 63 (.nc (.t 62)),oF 3 64 0 63 [63],oL 4 65 1 64 [62,64],oB 5 66 .leq 61 65 [61,65]] (sC 66 [5,8,66] 2)) (.seq (.block 3 (.reg true [uT 0 69 0,uT 1 70 0,uP 2 71
(.nc (.t 70)),oF 3 72 3 71 [71],uL 4 73 1 72,uT 5 74 5,uT 6 75 8,(7,⟨some 76,.call 54 [.t 74,.t 75],none,[(72,1)],[72,74,75]⟩),oP 8 77 (.bsl 1 1 [.bool false] [(0,1,(.t 76))]) [76],oX 9 78 1 1 73 77 [70,73,77],uP 10 79
(.nc (.t 69)),oF 11 80 3 79 [79],oS 12 1 80 78 [69,78,80]])) (sI 67 68 8)))
abbrev B52 : CCode := (sR [oY 0 4 false [4]] (sR [uT 0 10 0,uP 1 11 (.nc (.t 10)),oF 2 12 1 11 [11],oL 3 13 1 12 [12],uT 4 14 1,oK 5 15 82 [.t 13,.t 14] [10,13,14],oT 6 9 15 [15],uU 7 16 9 0,oU 8 17 9 1 [9],oT 9 5 16
[16],oT 10 6 17 [17]] (.seq (sR [oT 0 18 6 [6]] (.cond (.t 18) (sK [5,18] (sR [uT 0 19 0,oT 1 20 1 [1],oK 2 21 83 [.t 19,.t 20] [19,20,21]] (sR [uY 0 4 false] .ret))) (sK [18] .skip))) (.seq (sR [uZ 0 7 1] (.block 0
(.loop L52_0))) (.seq (sR [uZ 0 8 1] (.block 2 (.loop L52_1))) (sR [uY 0 4 true] .ret))))))
def C52 : CFn := ⟨81,2,[.t 4],B52⟩
abbrev L53_0 : CCode := (.seq (sR [uT 0 6 5,uT 1 7 1,oN 2 8 7 [7],oB 3 9 .lss 6 8 [6,8]] (sC 9 [1,2,5,9] 0)) (.seq (.block 1 (.seq (.reg true [uT 0 12 1,uT 1 13 5,uI 2 14 1 12 13,oL 3 15 1 14 [12,13,14],uF 4 16 1 2,oL 5
17 1 16 [16],oN 6 18 17 [17],oC 7 19 .sub 18 1 [18],oK 8 20 80 [.t 15,(.c (.int .i64 0)),.t 19] [15,19],oE 9 21 20 [20],oT 10 22 21 [21],vT 11 23 5 22,gC 12 24 .gtr 23 0 22 [23],gT 13 25 24 22 [24],wT 14 26 1 25,wT 15
27 5 25,wI 16 28 1 26 27 25,hL 17 29 1 28 25 [26,27,28],wT 18 30 1 25,wT 19 31 5 25,hC 20 32 .sub 31 1 25 [31],wI 21 33 1 30 32 25,hL 22 34 1 33 25 [30,32,33],hB 23 35 .leq 29 34 25 [29,34],gA 24 36 25 35 22 [25,35],oO
25 37 22 36 [22,36]]) (sD 37 [1,2,5,37] [uY 0 4 false]))) (sI 10 11 5)))
abbrev B53 : CCode := (sR [oQ 0 2 2 0 [0],oY 1 4 false [4]] (sL 5 0 L53_0 (sR [uY 0 4 true] .ret)))
def C53 : CFn := ⟨38,2,[.t 4],B53⟩
abbrev L54_0 : CCode := (.seq (sR [uT 0 6 5,uT 1 7 0,oN 2 8 7 [7],oB 3 9 .lss 6 8 [6,8]] (sC 9 [0,1,5,9] 0)) (.seq (.block 1 (sR [uT 0 12 0,uT 1 13 5,uI 2 14 1 12 13,oL 3 15 1 14 [12,13,14],uT 4 16 1,oB 5 17 .eql 15 16
[15,16]] (sD 17 [0,1,5,17] [uY 0 4 true]))) (sI 10 11 5)))
abbrev B54 : CCode := (sR [oY 0 4 false [4]] (sL 5 0 L54_0 (sR [uY 0 4 false] .ret)))
def C54 : CFn := ⟨18,2,[.t 4],B54⟩
abbrev L55_1 : CCode := (.seq (.seq (.reg true [uT 0 15 5,oC 1 16 .gtr 15 0 [15],oT 2 17 16 [16],wT 3 18 3 17,wT 4 19 5 17,hC 5 20 .sub 19 1 17 [19],wI 6 21 1 18 20 17,hL 7 22 1 21 17 [18,20,21],wT 8 23 0 17,wT 9 24 4
17,wI 10 25 1 23 24 17,hL 11 26 1 25 17 [23,24,25],hB 12 27 .gtr 22 26 17 [22,26],oA 13 28 17 27 [17,27]]) (sC 28 [28] 2)) (.block 3 (.reg false [oT 0 29 5 [5],oC 1 30 .sub 29 1 [29],oT 2 5 30 [30]])))
abbrev L55_0 : CCode := (.seq (sR [uT 0 7 4,uT 1 8 0,oN 2 9 8 [8],oB 3 10 .lss 7 9 [7,9]] (sC 10 [0,4,10] 0)) (.seq (.block 1 (sR [uT 0 13 3,oN 1 14 13 [13],oT 2 5 14 [14]] (.seq (.block 2 (.loop L55_1)) (.reg true [uW
0 31 1 [.int .i64 (0)],uT 1 32 3,uT 2 33 5,oP 3 34 (.sls 1 (.t 32) none (some (.t 33)) none) [32,33],uT 5 36 0,uT 6 37 4,uI 7 38 1 36 37,uL 8 39 1 38,oP 9 40 (.bsl 1 1 [.int .i64 (0)] [(0,1,(.t 39))]) [39],oT 11 42 3
[3],oT 12 43 5 [5],oP 13 44 (.sls 1 (.t 42) (some (.t 43)) none none) [42,43],(4,⟨some 35,.app 1 8 (.t 31) (.t 34),none,[(38,1)],[31,34,36,37,38]⟩),oX 10 41 1 8 35 40 [35,40],oX 14 45 1 8 41 44 [41,44],oT 15 3 45
[45]])))) (sI 11 12 4)))
abbrev B55 : CCode := (sR [oV 0 2 [2]] (sR [uW 0 6 1 [.int .i64 (0)],oT 1 3 6 [6]] (sL 4 0 L55_0 (sR [oT 0 46 3 [3],oT 1 2 46 [46]] .ret))))
def C55 : CFn := ⟨47,1,[.t 2],B55⟩
abbrev B56 : CCode := (sR [oQ 0 1 3 0 [0],uP 1 2 (.al [.str [],.int .i64 (0),.int .i64 (0)])] (sR [uP 0 3 (.al [.str [],.int .i64 (0),.int .i64 (0)])] (sR [uF 0 4 0 1,oL 1 5 1 4 [4],uF 2 6 0 3,oS 3 1 6 5 [5,6]] (sR [uF
0 7 1 1,oL 1 8 1 7 [7],uF 2 9 1 3,oS 3 1 9 8 [8,9]] (sR [uF 0 10 2 1,oL 1 11 1 10 [1,10],uF 2 12 2 3,oS 3 1 12 11 [11,12]] (sR [uM 0 13 3 3,oS 1 3 2 13 [3,13]] .ret))))))
def C56 : CFn := ⟨14,1,[.m 2 3 true],B56⟩
abbrev B57 : CCode := (sR [oQ 0 1 2 0 [0],uH 1 2 [.int .i64 (0),.nils]] (sR [uH 0 3 [.int .i64 (0),.nils]] (sR [uF 0 4 0 1,oL 1 5 1 4 [4],uF 2 6 0 3,oS 3 1 6 5 [5,6]] (sR [uF 0 7 1 1,oL 1 8 1 7 [7],oK 2 9 32 [.t 8]
[1,8],uF 3 10 1 3,oS 4 1 10 9 [9,10]] (sR [uM 0 11 2 3,oS 1 2 2 11 [3,11]] .ret)))))
def C57 : CFn := ⟨12,1,[.m 2 2 true],B57⟩
abbrev B58 : CCode := (sR [oQ 0 1 2 0 [0],uH 1 2 [.int .i64 (0),.nils]] (sR [uH 0 3 [.int .i64 (0),.nils]] (sR [uF 0 4 0 1,oL 1 5 1 4 [4],uF 2 6 0 3,oS 3 1 6 5 [5,6]] (sR [uF 0 7 1 1,oL 1 8 1 7 [7],oK 2 9 32 [.t 8]
[1,8],uF 3 10 1 3,oS 4 1 10 9 [9,10]] (sR [uM 0 11 2 3,oS 1 2 2 11 [3,11]] .ret)))))
def C58 : CFn := ⟨12,1,[.m 2 2 true],B58⟩
abbrev L59_0 : CCode := (sR [uB 0 12 .lss 11 10] (.seq (sC 12 [1,9,10,11,12] 0) (.seq (.block 1 (sR [uT 0 13 11,uI 1 14 2 9 11,oM 2 15 2 14 [14],uH 3 5 [.int .i64 (0),.nils],oT 4 4 13 [13],oS 5 2 5 15 [15]] (sR [uT 0 16
3,oN 1 17 16 [16],oC 2 18 .sub 17 1 [17],oT 3 6 18 [18]] (.seq (.reg true [uT 0 19 6,oC 1 20 .geq 19 0 [19],oT 2 21 20 [20],wF 3 22 0 1 21,hL 4 23 1 22 21 [22],wF 5 24 1 1 21,hL 6 25 1 24 21 [24],wT 7 26 3 21,wT 8 27 6
21,wI 9 28 1 26 27 21,hL 10 29 1 28 21 [28],hG 11 30 (.ia 1 (.t 29) (.c (.int .i64 0))) 21 [29],hL 12 31 1 30 21 [26,27,30],hI 13 32 2 25 31 21 [25],hM 14 33 2 32 21 [32],wM 15 34 2 5 21,hK 16 35 84 [.t 23,.t 33,.t 34]
21 [5,23,31,33,34],oA 17 36 21 35 [21,35]]) (.cond (.t 36) (sK [36] (.reg false [uT 0 37 3,uT 1 38 6,uT 2 39 3,oT 3 40 6 [6],uI 4 41 1 39 40,oL 5 42 1 41 [41],oT 6 43 4 [4],oP 7 44 (.bsl 1 1 [.int .i64 (0)] [(0,1,(.t
43))]) [43],oX 8 45 1 8 42 44 [39,40,42,44],uI 9 46 1 37 38,oS 10 1 46 45 [37,38,45,46]])) (sK [6,36] (.reg false [oT 0 47 3 [3],oT 1 48 4 [4],oP 2 49 (.bsl 1 1 [.int .i64 (0)] [(0,1,(.t 48))]) [48],oP 3 50 (.bsl 1 1
[.nils] [(0,1,(.t 49))]) [49],oX 4 51 1 24 47 50 [47,50],oT 5 3 51 [51]]))))))) (.reg false [oC 0 52 .add 11 1 [11],oT 1 11 52 [52]]))))
abbrev B59 : CCode := (sR [oQ 0 1 2 0 [0],oV 1 2 [2]] (sR [uW 0 7 1 [.nils],oT 1 3 7 [7]] (.seq (sR [uF 0 8 1 1,oL 1 9 1 8 [8],uN 2 10 9,uZ 3 11 0] (.block 0 (.loop L59_0))) (sR [oT 0 53 3 [3],oT 1 2 53 [53]] .ret))))
def C59 : CFn := ⟨54,1,[.t 2],B59⟩
abbrev L60_0 : CCode := (sR [uB 0 12 .lss 11 10] (.seq (sC 12 [1,9,10,11,12] 0) (.seq (.block 1 (sR [uI 0 13 1 9 11,oL 1 14 1 13 [13],oT 2 7 14 [14]] (.reg false [oT 0 15 5 [5],uT 1 16 1,oT 2 17 7 [7],oC 3 18 .add 17 1
[17],oB 4 19 .mul 16 18 [16,18],oP 5 20 (.bsl 1 1 [.int .i64 (0)] [(0,1,(.t 19))]) [19],oX 6 21 1 8 15 20 [15,20],oT 7 5 21 [21]]))) (.reg false [oC 0 22 .add 11 1 [11],oT 1 11 22 [22]]))))
abbrev B60 : CCode := (sR [oV 0 4 [4]] (sR [uW 0 8 1 [.int .i64 (0)],oT 1 5 8 [8]] (.seq (sR [oT 0 9 0 [0],uN 1 10 9,uZ 2 11 0] (.block 0 (.loop L60_0))) (sR [oT 0 23 5 [5],oT 1 4 23 [23]] .ret))))
def C60 : CFn := ⟨24,2,[.t 4],B60⟩
abbrev L61_0 : CCode := (sR [uB 0 14 .lss 13 12] (.seq (sC 14 [11,12,13,14] 0) (.seq (.block 1 (sR [uI 0 15 2 11 13,oM 1 16 2 15 [15],uH 2 7 [.nils,.nils],oS 3 2 7 16 [16]] (sR [uF 0 17 1 7,oL 1 18 1 17 [17],oK 2 19 86
[.t 18] [18,19]] (.reg false [oT 0 20 5 [5],uF 1 21 1 7,oL 2 22 1 21 [21],oP 3 23 (.bsl 1 1 [.nils] [(0,1,(.t 22))]) [7,22],oX 4 24 1 24 20 23 [20,23],oT 5 5 24 [24]])))) (.reg false [oC 0 25 .add 13 1 [13],oT 1 13 25
[25]]))))
abbrev B61 : CCode := (sR [oQ 0 2 2 0 [0],oQ 1 3 3 1 [1],oV 2 4 [4]] (sR [uW 0 8 1 [.nils],oT 1 5 8 [8]] (.seq (sR [uM 0 9 2 2,uM 1 10 3 3,oK 2 11 85 [.t 9,.t 10] [2,3,9,10],uN 3 12 11,uZ 4 13 0] (.block 0 (.loop
L61_0))) (sR [oT 0 26 5 [5],oT 1 4 26 [26]] .ret))))
def C61 : CFn := ⟨27,2,[.t 4],B61⟩
abbrev L62_0 : CCode := (sR [uB 0 19 .lss 18 17] (.seq (sC 19 [1,16,17,18,19] 0) (.seq (.block 1 (sR [uT 0 20 18,uI 1 21 2 16 18,oM 2 22 2 21 [21],uH 3 4 [.int .i64 (0),.nils],oT 4 3 20 [20],oS 5 2 4 22 [22]] (.seq
(.reg true [uF 0 23 0 1,oL 1 24 1 23 [23],uM 2 25 2 4,oK 3 26 88 [.t 24,.t 25] [24,25],oE 4 27 26 [26],oT 5 28 27 [27],vT 6 29 3 28,gC 7 30 .gtr 29 0 28 [29],gT 8 31 30 28 [30],wF 9 32 1 1 31,hL 10 33 1 32 31 [32],hT 11
34 3 31 [3],hC 12 35 .sub 34 1 31 [34],hI 13 36 2 33 35 31 [33],hM 14 37 2 36 31 [36],wM 15 38 2 4 31,hK 16 39 89 [.t 37,.t 38] 31 [4,35,37,38],hC 17 40 .geq 39 0 31 [39],gA 18 41 31 40 28 [31,40],oO 19 42 28 41
[28,41]]) (sD 42 [1,16,17,18,42] [uY 0 2 false])))) (.reg false [oC 0 43 .add 18 1 [18],oT 1 18 43 [43]]))))
abbrev B62 : CCode := (sR [oQ 0 1 2 0 [0],oY 1 2 false [2]] (.seq (sR [uF 0 5 0 1,oL 1 6 1 5 [5],oK 2 7 87 [.t 6] [6],oE 3 8 7 [7],oT 4 9 8 [8],vF 5 10 1 1 9,gL 6 11 1 10 9 [10],gN 7 12 11 9 [11],gC 8 13 .gtr 12 14 9
[12],oO 9 14 9 13 [9,13]] (sD 14 [1,14] [uY 0 2 false])) (.seq (sR [uF 0 15 1 1,oL 1 16 1 15 [15],uN 2 17 16,uZ 3 18 0] (.block 0 (.loop L62_0))) (sR [uY 0 2 true] .ret))))
def C62 : CFn := ⟨44,1,[.t 2],B62⟩
abbrev L63_1 : CCode := (sR [uB 0 74 .lss 73 72] (.seq (sC 74 [71,72,73,74] 2) (.seq (.block 3 (sR [uI 0 75 1 71 73,oL 1 76 1 75 [75],oT 2 9 76 [76]] (sR [oT 0 77 9 [9],uF 1 78 0 3,oL 2 79 1 78 [78],oC 3 80 .sub 79 1
[79],oK 4 81 90 [.t 77,(.c (.int .i64 (-10))),.t 80] [77,80],oE 5 82 81 [81]] (sD 82 [0,3,5,7,36,37,38,71,72,73,82] [uY 0 4 false])))) (.reg false [oC 0 83 .add 73 1 [73],oT 1 73 83 [83]]))))
abbrev L63_0 : CCode := (sR [uB 0 39 .lss 38 37] (.seq (sC 39 [0,36,37,38,39] 0) (.seq (.block 1 (sR [uT 0 40 38,uI 1 41 2 36 38,oM 2 42 2 41 [41],uH 3 7 [.int .i64 (0),.nils],oT 4 6 40 [40],oS 5 2 7 42 [42]] (.seq
(.seq (.reg true [uF 0 43 0 7,oL 1 44 1 43 [43],uT 2 45 0,oN 3 46 45 [45],oC 4 47 .sub 46 1 [46],oK 5 48 90 [.t 44,(.c (.int .i64 0)),.t 47] [44,47],oE 6 49 48 [48],oT 7 50 49 [49],vF 8 51 1 7 50,gL 9 52 1 51 50 [51],gN
10 53 52 50 [52],vT 11 54 0 50,vF 12 55 0 7 50,gL 13 56 1 55 50 [55],vI 14 57 3 54 56 50,gF 15 58 1 57 50 [57],gL 16 59 1 58 50 [54,56,58],gB 17 60 .neq 53 59 50 [53,59],oO 18 61 50 60 [50,60],oT 19 62 61 [61],vF 20 63
1 3 62,gL 21 64 1 63 62 [63],gT 22 65 6 62 [6],gG 23 66 (.sls 2 (.t 64) none (some (.t 65)) none) 62 [64,65],vG 24 67 (.fn 92 [.t 7]) 62,gK 25 68 91 [.t 66,.t 67] 62 [66,67],oO 26 69 62 68 [62,68]]) (sD 69
[0,3,5,7,36,37,38,69] [uY 0 4 false])) (.seq (sR [uF 0 70 1 7,oL 1 71 1 70 [70],uN 2 72 71,uZ 3 73 0] (.block 2 (.loop L63_1))) (.reg false [oT 0 84 5 [5],uM 1 85 2 7,oK 2 86 94 [.t 85] [7,85],oK 3 87 93 [.t 84,.t 86]
[84,86],oT 4 5 87 [87]]))))) (.reg false [oC 0 88 .add 38 1 [38],oT 1 38 88 [88]]))))
abbrev B63 : CCode := (sR [oQ 0 3 3 1 [1],oY 1 4 false [4]] (.seq (sR [uT 0 10 0,oK 1 11 87 [.t 10] [10],oE 2 12 11 [11],oT 3 13 12 [12],vF 4 14 0 3 13,gL 5 15 1 14 13 [14],gK 6 16 90 [.t 15,(.c (.int .i64 0)),(.c (.int
.i64 4))] 13 [15],gE 7 17 16 13 [16],oO 8 18 13 17 [13,17],oT 9 19 18 [18],vF 10 20 1 3 19,gL 11 21 1 20 19 [20],gN 12 22 21 19 [21],gK 13 23 90 [.t 22,(.c (.int .i64 1)),(.c (.int .i64 3))] 19 [22],gE 14 24 23 19
[23],oO 15 25 19 24 [19,24],oT 16 26 25 [25],vF 17 27 2 3 26,gL 18 28 1 27 26 [27],vF 19 29 0 3 26,gL 20 30 1 29 26 [29],gK 21 31 66 [.t 28,.t 30] 26 [28,30],gE 22 32 31 26 [31],oO 23 33 26 32 [26,32]] (sD 33 [0,3,33]
[uY 0 4 false])) (sR [uW 0 34 1 [.int .i64 (0)],oT 1 5 34 [34]] (.seq (sR [uF 0 35 1 3,oL 1 36 1 35 [35],uN 2 37 36,uZ 3 38 0] (.block 0 (.loop L63_0))) (sR [oT 0 89 5 [5],oN 1 90 89 [89],uF 2 91 0 3,oL 3 92 1 91
[3,91],oB 4 93 .eql 90 92 [90,92],oT 5 4 93 [93]] .ret)))))
def C63 : CFn := ⟨94,2,[.t 4],B63⟩
abbrev B64 : CCode := (sR [oY 0 4 false [4]] (sR [uT 0 5 1,oN 1 6 5 [5],oC 2 7 .leq 6 400 [6],oT 3 8 7 [7],hT 4 9 0 8 [0],hT 5 10 1 8 [1],hK 6 11 95 [.t 9,.t 10] 8 [9,10],oA 7 12 8 11 [8,11],oT 8 4 12 [12]] .ret))
def C64 : CFn := ⟨13,2,[.t 4],B64⟩
abbrev L65_1 : CCode := (sR [uB 0 53 .lss 52 51] (.seq (sC 53 [50,51,52,53] 2) (.seq (.block 3 (sR [uI 0 54 1 50 52,oL 1 55 1 54 [54],oT 2 9 55 [55]] (sR [uT 0 56 0,uT 1 57 1,oK 2 58 99 [.t 57] [57],oT 3 59 9 [9],oP 4
60 (.bsl 1 1 [.int .i64 (0)] [(0,1,(.t 59))]) [59],oX 5 61 1 8 58 60 [58,60],oK 6 62 65 [.t 56,.t 61] [56,61],oT 7 10 62 [62]] (sR [uT 0 63 10,oP 1 64 (.isnil true (.t 63)) [63]] (.cond (.t 64) (sK [1,50,51,52,64] (sR
[oT 0 65 10 [10],oT 1 4 65 [65]] .ret)) (sK [10,64] .skip)))))) (.reg false [oC 0 66 .add 52 1 [52],oT 1 52 66 [66]]))))
abbrev L65_0 : CCode := (.seq (sR [uT 0 30 7,uT 1 31 0,uP 2 32 (.nc (.t 31)),oF 3 33 0 32 [32],oL 4 34 1 33 [31,33],oB 5 35 .leq 30 34 [30,34]] (sC 35 [1,7,35] 0)) (.seq (.block 1 (.seq (sR [uT 0 38 5,uT 1 39 7,oK 2 40
69 [.t 38,.t 39] [38,39],oT 3 41 40 [40],vT 4 42 5 41,vT 5 43 7 41,gG 6 44 (.neg (.t 43)) 41 [43],gK 7 45 69 [.t 42,.t 44] 41 [42,44],oO 8 46 41 45 [41,45]] (.cond (.t 46) (sK [46] (.exit 1)) (sK [5,46] .skip))) (.seq
(sR [uT 0 47 7,oT 1 48 7 [7],oP 2 49 (.neg (.t 48)) [48],oP 3 50 (.bsl 1 2 [.int .i64 (0)] [(0,1,(.t 47)),(1,1,(.t 49))]) [47,49],uN 4 51 50,uZ 5 52 0] (.block 2 (.loop L65_1))) (sR [uT 0 67 0,oT 1 68 1 [1],oK 2 69 98
[.t 67,.t 68] [67,68],oT 3 4 69 [69]] .ret)))) (sI 36 37 7)))
abbrev B65 : CCode := (sR [oV 0 4 [4]] (.seq (.reg true [uT 0 12 0,uP 1 13 (.nc (.t 12)),oF 2 14 1 13 [13],oL 3 15 1 14 [14],uT 4 16 0,uP 5 17 (.nc (.t 16)),oF 6 18 2 17 [17],oL 7 19 1 18 [18],oP 8 20 (.bsl 1 2 [.nils]
[(0,1,(.t 15)),(1,1,(.t 19))]) [12,15,16,19],uT 10 22 1,oK 9 21 97 [.t 20] [20],oK 11 23 96 [.t 21,.t 22] [21,22],oT 12 11 23 [23],uU 13 24 11 0,oU 14 25 11 1 [11],oT 15 5 24 [24],oT 16 6 25 [25]]) (.seq (sR [oT 0 26 6
[6]] (sD 26 [5,26] [uT 0 27 0,oT 1 28 1 [1],oK 2 29 98 [.t 27,.t 28] [27,28],oT 3 4 29 [29]])) (.seq (sR [uZ 0 7 1] (.block 0 (.loop L65_0))) (sR [oT 0 70 5 [5],oT 1 4 70 [70]] .ret)))))
def C65 : CFn := ⟨71,2,[.t 4],B65⟩
abbrev L66_0 : CCode := (sR [uB 0 10 .lss 9 8] (.seq (sC 10 [0,1,7,8,9,10] 0) (.seq (.block 1 (sR [uT 0 11 9,uI 1 12 1 7 9,oL 2 13 1 12 [12],oT 3 5 11 [11],oT 4 6 13 [13]] (sR [uT 0 14 6,uT 1 15 1,oC 2 16 .sub 15 1
[15],oK 3 17 90 [.t 14,(.c (.int .i64 0)),.t 16] [14,16],oE 4 18 17 [17],oT 5 19 18 [18],vT 6 20 5 19,gC 7 21 .gtr 20 0 19 [20],gT 8 22 21 19 [21],wT 9 23 0 22,hT 10 24 5 22 [5],hC 11 25 .sub 24 1 22 [24],wI 12 26 1 23
25 22,hL 13 27 1 26 22 [23,25,26],hT 14 28 6 22 [6],hB 15 29 .geq 27 28 22 [27,28],gA 16 30 22 29 19 [22,29],oO 17 31 19 30 [19,30]] (sD 31 [0,1,7,8,9,31] [uY 0 4 false])))) (.reg false [oC 0 32 .add 9 1 [9],oT 1 9 32
[32]]))))
abbrev B66 : CCode := (sR [oY 0 4 false [4]] (.seq (sR [uT 0 7 0,uN 1 8 7,uZ 2 9 0] (.block 0 (.loop L66_0))) (sR [uY 0 4 true] .ret)))
def C66 : CFn := ⟨33,2,[.t 4],B66⟩
abbrev L67_0 : CCode := (sR [uB 0 9 .lss 8 7] (.seq (sC 9 [0,1,7,8,9] 0) (.seq (.block 1 (sR [uT 0 10 8,oT 1 5 10 [10]] (sR [uT 0 11 1,uT 1 12 0,uT 2 13 5,uI 3 14 1 12 13,oL 4 15 1 14 [12,13,14],oP 5 16 (.callv (.t 11)
[.t 15]) [11,15]] (.cond (.t 16) (sK [0,1,7,8,16] (sR [oT 0 17 5 [5],oT 1 4 17 [17]] .ret)) (sK [5,16] .skip))))) (.reg false [oC 0 18 .add 8 1 [8],oT 1 8 18 [18]]))))
abbrev B67 : CCode := (sR [oZ 0 4 0 [4]] (.seq (sR [uT 0 6 0,oN 1 7 6 [6],uZ 2 8 0] (.block 0 (.loop L67_0))) (sR [uZ 0 4 (-1)] .ret)))
def C67 : CFn := ⟨19,2,[.t 4],B67⟩
abbrev B68 : CCode := (sR [oY 0 3 false [3]] (sR [uL 0 4 1 1,oT 1 5 0 [0],oK 2 6 69 [.t 4,.t 5] [1,4,5],oT 3 3 6 [6]] .ret))
def C68 : CFn := ⟨7,2,[.t 3],B68⟩
abbrev B69 : CCode := (sR [oY 0 4 false [4]] (sR [oT 0 5 0 [0],oT 1 6 1 [1],oK 2 7 100 [.t 5,.t 6] [5,6],oC 3 8 .geq 7 0 [7],oT 4 4 8 [8]] .ret))
def C69 : CFn := ⟨9,2,[.t 4],B69⟩
abbrev B70 : CCode := (sR [oQ 0 2 3 0 [0],oQ 1 3 3 1 [1],oY 2 4 false [4]] (.seq (sR [uF 0 5 0 2,oL 1 6 1 5 [5],uF 2 7 0 3,oL 3 8 1 7 [7],oB 4 9 .neq 6 8 [6,8]] (sD 9 [2,3,9] [uY 0 4 false])) (.seq (sR [uF 0 10 1 2,oL 1
11 1 10 [10],uF 2 12 1 3,oL 3 13 1 12 [12],oB 4 14 .neq 11 13 [11,13]] (sD 14 [2,3,14] [uY 0 4 false])) (.seq (sR [uF 0 15 2 2,oL 1 16 1 15 [2,15],uF 2 17 2 3,oL 3 18 1 17 [3,17],oB 4 19 .neq 16 18 [16,18]] (sD 19 [19]
[uY 0 4 false])) (sR [uY 0 4 true] .ret)))))
def C70 : CFn := ⟨20,2,[.t 4],B70⟩
abbrev B71 : CCode := (sR [oQ 0 2 2 0 [0],oQ 1 3 2 1 [1],oY 2 4 false [4]] (.seq (sR [uF 0 5 0 2,oL 1 6 1 5 [5],uF 2 7 0 3,oL 3 8 1 7 [7],oB 4 9 .neq 6 8 [6,8]] (sD 9 [2,3,9] [uY 0 4 false])) (.seq (sR [uF 0 10 1 2,oL 1
11 1 10 [10],uF 2 12 1 3,oL 3 13 1 12 [12],oK 4 14 10 [.t 11,.t 13] [2,3,11,13],oE 5 15 14 [14]] (sD 15 [15] [uY 0 4 false])) (sR [uY 0 4 true] .ret))))
def C71 : CFn := ⟨16,2,[.t 4],B71⟩
abbrev B72 : CCode := (sR [oQ 0 2 2 0 [0],oQ 1 3 2 1 [1],oY 2 4 false [4]] (.seq (sR [uF 0 5 0 2,oL 1 6 1 5 [5],uF 2 7 0 3,oL 3 8 1 7 [7],oB 4 9 .neq 6 8 [6,8]] (sD 9 [2,3,9] [uY 0 4 false])) (.seq (sR [uF 0 10 1 2,oL 1
11 1 10 [10],uF 2 12 1 3,oL 3 13 1 12 [12],oK 4 14 10 [.t 11,.t 13] [2,3,11,13],oE 5 15 14 [14]] (sD 15 [15] [uY 0 4 false])) (sR [uY 0 4 true] .ret))))
def C72 : CFn := ⟨16,2,[.t 4],B72⟩
abbrev L73_0 : CCode := (.seq (sR [uT 0 6 0,oC 1 7 .gtr 6 0 [6]] (sC 7 [0,7] 0)) (.block 1 (sR [uT 0 8 0,oC 1 9 .rem 8 10 [8],oP 2 10 (.bin .add (.c (.int .i64 48)) (.t 9)) [9],oP 3 11 (.conv .u8 (.t 10)) [10],oP 4 12
(.bsl 1 1 [.int .u8 (0)] [(0,1,(.t 11))]) [11],oP 5 13 (.b2s (.t 12)) [12],oT 6 14 3 [3],oB 7 15 .add 13 14 [13,14],oT 8 3 15 [15]] (.reg false [oT 0 16 0 [0],oC 1 17 .quo 16 10 [16],oT 2 0 17 [17]]))))
abbrev B73 : CCode := (sR [oP 0 2 (.mv (.c (.str []))) [2]] (.seq (sR [uT 0 4 0,oC 1 5 .leq 4 0 [4]] (sD 5 [0,5] [uP 0 2 (.mv (.c (.str [109,48])))])) (sR [uP 0 3 (.mv (.c (.str [])))] (.seq (.block 0 (.loop L73_0)) (sR
[oT 0 18 3 [3],oP 1 19 (.bin .add (.c (.str [109])) (.t 18)) [18],oT 2 2 19 [19]] .ret)))))
def C73 : CFn := ⟨20,1,[.t 2],B73⟩
abbrev L74_0 : CCode := (.seq (sR [uT 0 8 6,uF 1 9 1 2,oL 2 10 1 9 [9],oN 3 11 10 [10],oB 4 12 .lss 8 11 [8,11],oT 5 13 12 [12],wM 6 14 2 2 13,hK 7 15 49 [.t 14] 13 [14],oA 8 16 13 15 [13,15],oT 9 17 16 [16],wT 10 18 1
17,wF 11 19 1 2 17,hL 12 20 1 19 17 [19],hN 13 21 20 17 [20],hC 14 22 .sub 21 1 17 [21],hK 15 23 80 [.t 18,(.c (.int .i64 0)),.t 22] 17 [18,22],oA 16 24 17 23 [17,23]] (sC 24 [1,2,6,24] 0)) (.seq (.block 1 (.seq (.reg
true [uF 0 27 0 2,oL 1 28 1 27 [27],uF 2 29 1 2,oL 3 30 1 29 [29],uT 4 31 1,oI 5 32 2 30 31 [30],oM 6 33 2 32 [32],uF 7 34 1 2,oL 8 35 1 34 [34],uT 9 36 6,oI 10 37 2 35 36 [35],oM 11 38 2 37 [37],oK 12 39 101 [.t 28,.t
33,.t 38] [28,31,33,36,38]]) (.cond (.t 39) (sK [39] (.reg false [oT 0 40 5 [5],uT 1 41 6,oP 2 42 (.bsl 1 1 [.int .i64 (0)] [(0,1,(.t 41))]) [41],oX 3 43 1 8 40 42 [40,42],oT 4 5 43 [43]])) (sK [39] .skip)))) (sI 25 26
6)))
abbrev B74 : CCode := (sR [oQ 0 2 2 0 [0],oV 1 4 [4]] (sR [uW 0 7 1 [.int .i64 (0)],oT 1 5 7 [7]] (sL 6 0 L74_0 (sR [oT 0 44 5 [5],oT 1 4 44 [44]] .ret))))
def C74 : CFn := ⟨45,2,[.t 4],B74⟩
abbrev B75 : CCode := (sR [oQ 0 2 2 0 [0],oQ 1 3 3 1 [1],oV 2 4 [4]] (.seq (sR [uM 0 5 2 2,uM 1 6 3 3,oK 2 7 25 [.t 5,.t 6] [5,6],oE 3 8 7 [7]] (sD 8 [2,3,8] [uW 0 9 2 [.nils,.nils],oT 1 4 9 [9]])) (.seq (.reg true [uM
0 10 2 2,uM 1 11 3 3,uF 2 12 0 3,oL 3 13 1 12 [12],uW 5 15 1 [.int .i64 (0)],(4,⟨some 14,.call 103 [.t 13],none,[(2,2),(3,3)],[13]⟩),oK 6 16 102 [.t 10,.t 11,(.c (.int .i64 0)),.t 14,.t 15] [2,3,10,11,14,15],oT 7 4 16
[16]]) .ret)))
def C75 : CFn := ⟨17,2,[.t 4],B75⟩
abbrev B76 : CCode := (sR [oQ 0 2 2 0 [0],oY 1 4 false [4]] (sR [uM 0 8 2 2,oT 1 9 1 [1],oK 2 10 104 [.t 8,.t 9] [2,8,9],oT 3 7 10 [10],uU 4 11 7 0,oU 5 12 7 1 [7],uH 6 5 [.nils,.nils],oS 7 2 5 11 [11],oT 8 6 12 [12]]
(sR [oT 0 13 6 [6],oT 1 14 13 [13],wM 2 15 2 5 14,hK 3 16 105 [.t 15] 14 [5,15],oA 4 17 14 16 [14,16],oT 5 4 17 [17]] .ret)))
def C76 : CFn := ⟨18,2,[.t 4],B76⟩
abbrev L77_0 : CCode := (.seq (sR [uT 0 30 5,uF 1 31 1 3,oL 2 32 1 31 [31],oN 3 33 32 [32],oB 4 34 .lss 30 33 [30,33]] (sC 34 [3,5,34] 0)) (.seq (.block 1 (sR [uF 0 37 1 3,oL 1 38 1 37 [37],uT 2 39 5,oI 3 40 1 38 39
[38],oL 4 41 1 40 [39,40],oK 5 42 80 [.t 41,(.c (.int .i64 0)),(.c (.int .i64 9))] [41],oE 6 43 42 [42]] (sD 43 [3,5,43] [uY 0 4 false]))) (sI 35 36 5)))
abbrev B77 : CCode := (sR [oQ 0 3 2 1 [1],oY 1 4 false [4]] (.seq (.seq (.reg true [uT 0 6 0,oK 1 7 79 [.t 6] [6],oE 2 8 7 [7],oT 3 9 8 [8],vF 4 10 0 3 9,gL 5 11 1 10 9 [10],vT 6 12 0 9,gN 7 13 12 9 [12],gC 8 14 .sub 13
1 9 [13],gK 9 15 80 [.t 11,(.c (.int .i64 0)),.t 14] 9 [11,14],gE 10 16 15 9 [15],oO 11 17 9 16 [9,16],oT 12 18 17 [17],vF 13 19 1 3 18,gL 14 20 1 19 18 [19],gN 15 21 20 18 [20],gT 16 22 0 18 [0],vF 17 23 0 3 18,gL 18
24 1 23 18 [23],vI 19 25 3 22 24 18,gF 20 26 1 25 18 [25],gL 21 27 1 26 18 [22,24,26],gB 22 28 .neq 21 27 18 [21,27],oO 23 29 18 28 [18,28]]) (sD 29 [3,29] [uY 0 4 false])) (sL 5 0 L77_0 (sR [uY 0 4 true] .ret))))
def C77 : CFn := ⟨44,2,[.t 4],B77⟩
abbrev B78 : CCode := (sR [oQ 0 2 2 0 [0],oQ 1 3 2 1 [1],oZ 2 4 0 [4]] (.seq (sR [uF 0 5 0 2,oL 1 6 1 5 [5],uF 2 7 0 3,oL 3 8 1 7 [7],oB 4 9 .lss 6 8 [6,8]] (sD 9 [2,3,9] [uZ 0 4 (-1)])) (.seq (sR [uF 0 10 0 2,oL 1 11 1
10 [10],uF 2 12 0 3,oL 3 13 1 12 [12],oB 4 14 .gtr 11 13 [11,13]] (sD 14 [2,3,14] [uZ 0 4 1])) (sR [uF 0 15 1 2,oL 1 16 1 15 [15],uF 2 17 1 3,oL 3 18 1 17 [17],oK 4 19 106 [.t 16,.t 18] [2,3,16,18],oT 5 4 19 [19]]
.ret))))
def C78 : CFn := ⟨20,2,[.t 4],B78⟩
abbrev L79_0 : CCode := (.seq (sR [uT 0 4 3,uT 1 5 0,oN 2 6 5 [5],oB 3 7 .lss 4 6 [4,6]] (sC 7 [3,7] 0)) (.seq (.block 1 (.seq (.reg true [uT 0 10 0,uT 1 11 3,uI 2 12 3 10 11,oM 3 13 3 12 [12],oK 4 14 107 [.t 13]
[10,11,13],oE 5 15 14 [14],oT 6 16 15 [15],vT 7 17 3 16,gC 8 18 .gtr 17 0 16 [17],gT 9 19 18 16 [18],wT 10 20 0 19,wT 11 21 3 19,hC 12 22 .sub 21 1 19 [21],wI 13 23 3 20 22 19,hF 14 24 0 23 19 [23],hL 15 25 1 24 19
[20,22,24],wT 16 26 0 19,wT 17 27 3 19,wI 18 28 3 26 27 19,hF 19 29 0 28 19 [28],hL 20 30 1 29 19 [26,27,29],hB 21 31 .geq 25 30 19 [25,30],gA 22 32 19 31 16 [19,31],oO 23 33 16 32 [16,32]]) (sD 33 [0,3,33] [uY 0 2
false]))) (sI 8 9 3)))
abbrev B79 : CCode := (sR [oY 0 2 false [2]] (sL 3 0 L79_0 (sR [oT 0 34 0 [0],oN 1 35 34 [34],oC 2 36 .leq 35 4 [35],oT 3 2 36 [36]] .ret)))
def C79 : CFn := ⟨37,1,[.t 2],B79⟩
abbrev B80 : CCode := (sR [oY 0 6 false [6]] (sR [uT 0 7 0,oT 1 8 1 [1],oB 2 9 .geq 7 8 [7,8],oT 3 10 9 [9],hT 4 11 0 10 [0],hT 5 12 2 10 [2],hB 6 13 .leq 11 12 10 [11,12],oA 7 14 10 13 [10,13],oT 8 6 14 [14]] .ret))
def C80 : CFn := ⟨15,3,[.t 6],B80⟩
abbrev L81_1 : CCode := (.seq (sR [uT 0 42 7,uT 1 43 5,oB 2 44 .lss 42 43 [42,43]] (sC 44 [7,44] 2)) (.seq (.block 3 (.seq (.reg true [uT 0 47 1,uT 1 48 7,uI 2 49 1 47 48,oL 3 50 1 49 [47,48,49],uT 4 51 1,uT 5 52 5,uI 6
53 1 51 52,oL 7 54 1 53 [51,52,53],oB 8 55 .eql 50 54 [50,54],oT 9 56 55 [55],vT 10 57 1 56,vT 11 58 7 56,vI 12 59 1 57 58 56,gL 13 60 1 59 56 [57,58,59],vT 14 61 1 56,vT 15 62 5 56,vI 16 63 1 61 62 56,gL 17 64 1 63 56
[61,62,63],gG 18 65 (.neg (.t 64)) 56 [64],gB 19 66 .eql 60 65 56 [60,65],oO 20 67 56 66 [56,66]]) (sD 67 [0,1,5,7,67] [uY 0 4 false]))) (sI 45 46 7)))
abbrev L81_0 : CCode := (.seq (sR [uT 0 8 5,uT 1 9 1,oN 2 10 9 [9],oB 3 11 .lss 8 10 [8,10]] (sC 11 [0,1,5,11] 0)) (.seq (.block 1 (sR [uT 0 14 1,uT 1 15 5,uI 2 16 1 14 15,oL 3 17 1 16 [14,15,16],oP 4 18 (.max (.t 17)
(.c (.int .i64 0))) [17],oT 5 6 18 [18]] (.seq (sR [uT 0 19 1,uT 1 20 5,uI 2 21 1 19 20,oL 3 22 1 21 [19,20,21],oC 4 23 .lss 22 0 [22],oT 5 24 23 [23],wT 6 25 1 24,wT 7 26 5 24,wI 8 27 1 25 26 24,hL 9 28 1 27 24
[25,26,27],wT 10 29 0 24,hG 11 30 (.neg (.t 29)) 24 [29],hB 12 31 .geq 28 30 24 [28,30],oA 13 32 24 31 [24,31]] (.cond (.t 32) (sK [6,32] (.reg false [uT 0 33 1,uT 1 34 5,uI 2 35 1 33 34,oL 3 36 1 35 [33,34,35],oP 4 37
(.neg (.t 36)) [36],oT 5 6 37 [37]])) (sK [32] .skip))) (.seq (sR [oT 0 38 6 [6],uT 1 39 0,oK 2 40 80 [.t 38,(.c (.int .i64 1)),.t 39] [38,39],oE 3 41 40 [40]] (sD 41 [0,1,5,41] [uY 0 4 false])) (sR [uZ 0 7 0] (.block 2
(.loop L81_1))))))) (sI 12 13 5)))
abbrev B81 : CCode := (sR [oY 0 4 false [4]] (sL 5 0 L81_0 (sR [uY 0 4 true] .ret)))
def C81 : CFn := ⟨68,2,[.t 4],B81⟩
abbrev L82_1 : CCode := (.seq (sR [uT 0 15 8,uT 1 16 0,oN 2 17 16 [16],oB 3 18 .lss 15 17 [15,17],oT 4 19 18 [18],wT 5 20 7 19,hE 6 21 20 19 [20],oA 7 22 19 21 [19,21]] (sC 22 [8,22] 2)) (.seq (.block 3 (sR [uT 0 26
0,uT 1 27 8,uI 2 28 1 26 27,oL 3 29 1 28 [28],uT 4 30 6,oK 5 31 108 [.t 29,.t 30] [26,27,29,30],oT 6 25 31 [31],uU 7 32 25 0,oU 8 33 25 1 [25],oT 9 9 32 [32],oT 10 10 33 [33]] (.seq (sR [oT 0 34 10 [10]] (.cond (.t 34)
(sK [9,34] (.exit 3)) (sK [34] .skip))) (.seq (sR [uT 0 35 9,oN 1 36 35 [35],oC 2 37 .eql 36 0 [36]] (sD 37 [0,7,8,9,37] [oT 0 38 6 [6],oT 1 4 38 [38],uY 2 5 true])) (sR [uT 0 39 9,oN 1 40 39 [39],oC 2 41 .eql 40 1
[40]] (.cond (.t 41) (sK [7,41] (sR [oT 0 42 6 [6],oT 1 43 9 [9],uP 2 44 (.ia 1 (.t 43) (.c (.int .i64 0))),oL 3 45 1 44 [43,44],oP 4 46 (.bsl 1 1 [.int .i64 (0)] [(0,1,(.t 45))]) [45],oX 5 47 1 8 42 46 [42,46],oT 6 6
47 [47]] (.reg false [uY 0 7 true]))) (sK [9,41] .skip))))))) (sI 23 24 8)))
abbrev L82_0 : CCode := (.seq (sR [oT 0 14 7 [7]] (sC 14 [0,14] 0)) (.block 1 (sR [uY 0 7 false] (sR [uZ 0 8 0] (.block 2 (.loop L82_1))))))
abbrev B82 : CCode := (sR [oV 0 4 [4],oY 1 5 false [5]] (sR [uW 0 11 1 [.int .i64 (0)],oT 1 12 1 [1],oX 2 13 1 8 11 12 [11,12],oT 3 6 13 [13]] (.seq (sR [uY 0 7 true] (.block 0 (.loop L82_0))) (sR [oT 0 48 6 [6],oT 1 4
48 [48],uY 2 5 false] .ret))))
def C82 : CFn := ⟨49,2,[.t 4,.t 5],B82⟩
abbrev B83 : CCode := (sR [oT 0 5 1 [1],oK 1 6 109 [.t 5] [5],oT 2 4 6 [6]] (sR [uT 0 7 0,uT 1 8 0,uP 2 9 (.nc (.t 8)),oF 3 10 1 9 [9],oL 4 11 1 10 [10],uT 5 12 4,oP 6 13 (.bsl 1 1 [.nils] [(0,1,(.t 12))]) [12],oX 7 14
1 24 11 13 [8,11,13],uP 8 15 (.nc (.t 7)),oF 9 16 1 15 [15],oS 10 1 16 14 [7,14,16]] (.reg false [uT 0 17 0,uT 1 18 0,uP 2 19 (.nc (.t 18)),oF 3 20 2 19 [19],oL 4 21 1 20 [20],oT 5 22 4 [4],oP 6 23 (.bsl 1 1 [.nils]
[(0,1,(.t 22))]) [22],oX 7 24 1 24 21 23 [18,21,23],uP 8 25 (.nc (.t 17)),oF 9 26 2 25 [25],oS 10 1 26 24 [17,24,26]])))
def C83 : CFn := ⟨27,2,[],B83⟩
abbrev B84 : CCode := (sR [oQ 0 4 2 1 [1],oQ 1 5 2 2 [2],oY 2 6 false [6]] (.seq (sR [uF 0 8 0 4,oL 1 9 1 8 [8],uF 2 10 0 5,oL 3 11 1 10 [10],oB 4 12 .neq 9 11 [9,11]] (sD 12 [0,4,5,12] [uY 0 6 false])) (sR [oT 0 13 0
[0],uF 1 14 0 4,oL 2 15 1 14 [14],uI 3 16 3 13 15,oF 4 17 2 16 [16],oL 5 18 1 17 [13,15,17],oT 6 7 18 [18]] (.seq (.reg true [uF 0 19 1 4,oL 1 20 1 19 [19],uT 2 21 7,oP 3 22 (.sls 1 (.t 20) none (some (.t 21)) none)
[4,20,21],uF 4 23 1 5,oL 5 24 1 23 [23],oT 6 25 7 [7],oP 7 26 (.sls 1 (.t 24) none (some (.t 25)) none) [5,24,25],oK 8 27 110 [.t 22,.t 26] [22,26],oT 9 6 27 [27]]) .ret))))
def C84 : CFn := ⟨28,3,[.t 6],B84⟩
abbrev B85 : CCode := (sR [oQ 0 2 2 0 [0],oQ 1 3 3 1 [1],oV 2 4 [4]] (sR [uW 0 7 2 [.nils,.nils],uH 1 5 [.nils],oS 2 1 5 7 [7]] (.seq (sR [uM 0 8 2 2,uM 1 9 3 3,oK 2 10 34 [.t 8,.t 9] [8,9],oE 3 11 10 [10]] (sD 11
[2,3,11] [uL 0 12 1 5,oT 1 4 12 [12]])) (sR [uH 0 6 [.nilf]] (sR [uP 0 13 (.fn 111 [.t 3,.t 5,.t 2,.t 6]),oS 1 1 6 13 [13]] (.seq (.reg true [uL 0 14 1 6,uF 1 15 0 3,oL 2 16 1 15 [15],(3,⟨some 17,.call 113 [.t
16],none,[(6,1)],[16]⟩),oP 4 18 (.callv (.t 14) [.t 17,(.c (.nils))]) [2,3,6,14,17,18]]) (sR [uL 0 19 1 5,oT 1 4 19 [19]] .ret)))))))
def C85 : CFn := ⟨20,2,[.t 4],B85⟩
abbrev L87_0 : CCode := (sR [uB 0 8 .lss 7 6] (.seq (sC 8 [5,6,7,8] 0) (.seq (.block 1 (sR [uT 0 9 7,uI 1 10 3 5 7,oM 2 11 3 10 [10],uP 3 4 (.al [.str [],.int .i64 (0),.int .i64 (0)]),oT 4 3 9 [9],oS 5 3 4 11 [11]]
(.seq (.reg true [uM 0 12 3 4,oK 1 13 116 [.t 12] [12],oE 2 14 13 [13],oT 3 15 14 [14],vT 4 16 3 15,gC 5 17 .gtr 16 0 15 [16],gT 6 18 17 15 [17],wT 7 19 0 18,hT 8 20 3 18 [3],hC 9 21 .sub 20 1 18 [20],wI 10 22 3 19 21
18,hF 11 23 0 22 18 [22],hL 12 24 1 23 18 [19,21,23],wF 13 25 0 4 18,hL 14 26 1 25 18 [4,25],hB 15 27 .geq 24 26 18 [24,26],gA 16 28 18 27 15 [18,27],oO 17 29 15 28 [15,28]]) (sD 29 [0,5,6,7,29] [uY 0 2 false])))) (.reg
false [oC 0 30 .add 7 1 [7],oT 1 7 30 [30]]))))
abbrev B87 : CCode := (sR [oY 0 2 false [2]] (.seq (sR [uT 0 5 0,uN 1 6 5,uZ 2 7 0] (.block 0 (.loop L87_0))) (sR [oT 0 31 0 [0],oN 1 32 31 [31],oC 2 33 .leq 32 4 [32],oT 3 2 33 [33]] .ret)))
def C87 : CFn := ⟨34,1,[.t 2],B87⟩
abbrev B88 : CCode := (sR [oQ 0 3 2 1 [1],oY 1 4 false [4]] (.seq (.reg true [uF 0 5 0 3,oL 1 6 1 5 [5],uT 2 7 0,oN 3 8 7 [7],oC 4 9 .sub 8 1 [8],oK 5 10 90 [.t 6,(.c (.int .i64 0)),.t 9] [6,9],oT 6 11 10 [10],wF 7 12 1
3 11,hL 8 13 1 12 11 [12],hN 9 14 13 11 [13],hT 10 15 0 11 [0],wF 11 16 0 3 11,hL 12 17 1 16 11 [16],wI 13 18 3 15 17 11,hF 14 19 1 18 11 [18],hL 15 20 1 19 11 [15,17,19],hB 16 21 .eql 14 20 11 [14,20],oA 17 22 11 21
[11,21],oT 18 23 22 [22],wF 19 24 1 3 23,hL 20 25 1 24 23 [24],hK 21 26 117 [.t 25] 23 [3,25],oA 22 27 23 26 [23,26],oT 23 4 27 [27]]) .ret))
def C88 : CFn := ⟨28,2,[.t 4],B88⟩
abbrev B89 : CCode := (sR [oQ 0 2 2 0 [0],oQ 1 3 2 1 [1],oZ 2 4 0 [4]] (.seq (sR [uF 0 5 0 2,oL 1 6 1 5 [5],uF 2 7 0 3,oL 3 8 1 7 [7],oB 4 9 .neq 6 8 [6,8]] (sD 9 [9] [uF 0 10 0 2,oL 1 11 1 10 [2,10],uF 2 12 0 3,oL 3 13
1 12 [3,12],oK 4 14 118 [.t 11,.t 13] [11,13],oT 5 4 14 [14]])) (sR [uF 0 15 1 2,oL 1 16 1 15 [15],uF 2 17 1 3,oL 3 18 1 17 [17],oK 4 19 119 [.t 16,.t 18] [2,3,16,18],oT 5 4 19 [19]] .ret)))
def C89 : CFn := ⟨20,2,[.t 4],B89⟩
abbrev B90 : CCode := (sR [oY 0 6 false [6]] (sR [oT 0 7 1 [1],uT 1 8 0,oB 2 9 .leq 7 8 [7,8],oT 3 10 9 [9],hT 4 11 0 10 [0],hT 5 12 2 10 [2],hB 6 13 .leq 11 12 10 [11,12],oA 7 14 10 13 [10,13],oT 8 6 14 [14]] .ret))
def C90 : CFn := ⟨15,3,[.t 6],B90⟩
abbrev B91 : CCode := (sR [oY 0 4 false [4]] (sR [oT 0 5 0 [0],oT 1 6 1 [1],oK 2 7 120 [.t 5,.t 6] [5,6],oC 3 8 .geq 7 0 [7],oT 4 4 8 [8]] .ret))
def C91 : CFn := ⟨9,2,[.t 4],B91⟩
abbrev B92 : CCode := (sR [oQ 0 2 2 0 [0],oY 1 3 false [3]] (sR [uF 0 4 0 2,oL 1 5 1 4 [2,4],uF 2 6 0 1,oL 3 7 1 6 [1,6],oB 4 8 .eql 5 7 [5,7],oT 5 3 8 [8]] .ret))
def C92 : CFn := ⟨9,2,[.t 3],B92⟩
abbrev B93 : CCode := (sR [oV 0 4 [4]] (sR [oT 0 6 0 [0],oT 1 7 1 [1],oP 2 8 (.bsl 1 2 [.nils] [(0,1,(.t 6)),(1,1,(.t 7))]) [6,7],oK 3 9 121 [.t 8] [8],oT 4 5 9 [9]] (sR [uT 0 10 5,oK 1 11 86 [.t 10] [10,11]] (sR [oT 0
12 5 [5],oK 1 13 122 [.t 12] [12],oT 2 4 13 [13]] .ret))))
def C93 : CFn := ⟨14,2,[.t 4],B93⟩
abbrev L94_0 : CCode := (sR [uB 0 11 .lss 10 9] (.seq (sC 11 [1,8,9,10,11] 0) (.seq (.block 1 (sR [uI 0 12 1 8 10,oL 1 13 1 12 [12],oT 2 5 13 [13]] (sR [uT 0 14 5,oK 1 15 90 [.t 14,(.c (.int .i64 0)),(.c (.int .i64 3))]
[14]] (.cond (.t 15) (sK [15] (.reg false [oT 0 16 3 [3],oT 1 17 5 [5],oP 2 18 (.bsl 1 1 [.int .i64 (0)] [(0,1,(.t 17))]) [17],oX 3 19 1 8 16 18 [16,18],oT 4 3 19 [19]])) (sK [5,15] .skip))))) (.reg false [oC 0 20 .add
10 1 [10],oT 1 10 20 [20]]))))
abbrev B94 : CCode := (sR [oQ 0 1 2 0 [0],oV 1 2 [2]] (sR [uW 0 6 1 [.int .i64 (0)],oT 1 3 6 [6]] (.seq (sR [uF 0 7 1 1,oL 1 8 1 7 [7],uN 2 9 8,uZ 3 10 0] (.block 0 (.loop L94_0))) (sR [oT 0 21 3 [3],oK 1 22 93 [.t
21,(.c (.nils))] [21],oT 2 2 22 [22]] .ret))))
def C94 : CFn := ⟨23,1,[.t 2],B94⟩
abbrev B95 : CCode := (sR [oQ 0 2 1 0 [0],oY 1 4 false [4]] (sR [uL 0 5 1 2,oK 1 6 90 [.t 5,(.c (.int .i64 0)),(.c (.int .i64 14))] [5],oT 2 7 6 [6],hT 3 8 1 7 [1],wG 4 9 (.fn 124 [.t 2]) 7,hK 5 10 123 [.t 8,.t 9] 7
[2,8,9],hE 6 11 10 7 [10],oA 7 12 7 11 [7,11],oT 8 4 12 [12]] .ret))
def C95 : CFn := ⟨13,2,[.t 4],B95⟩
abbrev L96_1 : CCode := (sR [uB 0 17 .lss 16 15] (.seq (sC 17 [14,15,16,17] 2) (.seq (.block 3 (sR [uI 0 18 1 14 16,oL 1 19 1 18 [18],oT 2 9 19 [19]] (.seq (sR [uT 0 20 9,uP 1 21 (.fn 127 [.t 6]),oK 2 22 126 [.t 20,.t
21] [20,21]] (.cond (.t 22) (sK [9,22] (.exit 3)) (sK [22] .skip))) (sR [oT 0 23 9 [9],uL 1 24 1 6,oK 2 25 129 [.t 24] [24],oK 3 26 128 [.t 23,.t 25] [23,25],oT 4 10 26 [26]] (.seq (sR [uT 0 27 10,oN 1 28 27 [27],oC 2
29 .eql 28 0 [28]] (sD 29 [0,7,10,14,15,16,29] [uL 0 30 1 6,oT 1 4 30 [30],uY 2 5 true])) (sR [uT 0 31 10,oN 1 32 31 [31],oC 2 33 .eql 32 1 [32]] (.cond (.t 33) (sK [7,14,15,16,33] (.seq (.reg true [uL 0 34 1 6,oT 1 35
10 [10],uP 2 36 (.ia 1 (.t 35) (.c (.int .i64 0))),oL 3 37 1 36 [35,36],oP 4 38 (.bsl 1 1 [.int .i64 (0)] [(0,1,(.t 37))]) [37],oX 5 39 1 8 34 38 [34,38],oS 6 1 6 39 [39],uY 7 7 true]) (.exit 2))) (sK [10,33]
.skip)))))))) (.reg false [oC 0 40 .add 16 1 [16],oT 1 16 40 [40]]))))
abbrev L96_0 : CCode := (.block 1 (sR [uY 0 7 false] (.seq (sR [uT 0 14 0,uN 1 15 14,uZ 2 16 0] (.block 2 (.loop L96_1))) (sR [oT 0 41 7 [7],oE 1 42 41 [41]] (sD 42 [0,42] [uL 0 43 1 6,oT 1 4 43 [43],uY 2 5 false])))))
abbrev B96 : CCode := (sR [oV 0 4 [4],oY 1 5 false [5]] (sR [uW 0 11 1 [.int .i64 (0)],oT 1 12 1 [1],oX 2 13 1 8 11 12 [11,12],uH 3 6 [.nils],oS 4 1 6 13 [13]] (.block 0 (.loop L96_0))))
def C96 : CFn := ⟨44,2,[.t 4,.t 5],B96⟩
abbrev L97_0 : CCode := (sR [uB 0 12 .lss 11 10] (.seq (sC 12 [9,10,11,12] 0) (.seq (.block 1 (sR [uI 0 13 1 9 11,oL 1 14 1 13 [13],oT 2 5 14 [14]] (sR [oT 0 15 3 [3],oT 1 16 5 [5],oN 2 17 16 [16],oB 3 18 .add 15 17
[15,17],oT 4 3 18 [18]] (sR [uT 0 19 3,oC 1 20 .lss 19 0 [19]] (.cond (.t 20) (sK [20] (.reg false [oP 0 21 .fail [21],(1,⟨none,.fail,none,[],[]⟩)])) (sK [20] .skip)))))) (.reg false [oC 0 22 .add 11 1 [11],oT 1 11 22
[22]]))))
abbrev L97_1 : CCode := (sR [uB 0 28 .lss 27 26] (.seq (sC 28 [25,26,27,28] 2) (.seq (.block 3 (sR [uI 0 29 1 25 27,oL 1 30 1 29 [29],oT 2 8 30 [30]] (.reg false [oT 0 31 6 [6],oT 1 32 8 [8],oX 2 33 1 24 31 32
[31,32],oT 3 6 33 [33]]))) (.reg false [oC 0 34 .add 27 1 [27],oT 1 27 34 [34]]))))
abbrev B97 : CCode := (sR [oV 0 2 [2]] (sR [uZ 0 3 0] (.seq (sR [uT 0 9 0,uN 1 10 9,uZ 2 11 0] (.block 0 (.loop L97_0))) (sR [oT 0 23 3 [3],oK 1 24 130 [(.c (.nils)),.t 23] [23],oT 2 6 24 [24]] (.seq (sR [oT 0 25 0
[0],uN 1 26 25,uZ 2 27 0] (.block 2 (.loop L97_1))) (sR [oT 0 35 6 [6],oT 1 2 35 [35]] .ret))))))
def C97 : CFn := ⟨36,1,[.t 2],B97⟩
abbrev B98 : CCode := (sR [oV 0 4 [4]] (.seq (.reg true [uT 0 5 0,uT 1 6 0,uP 2 7 (.nc (.t 6)),oF 3 8 2 7 [7],uL 4 9 1 8,oT 5 10 1 [1],(6,⟨some 11,.call 129 [.t 10],none,[(8,1)],[8,10]⟩),oP 7 12 (.bsl 1 1 [.nils]
[(0,1,(.t 11))]) [11],oX 8 13 1 24 9 12 [6,9,12],uP 9 14 (.nc (.t 5)),oF 10 15 2 14 [14],oS 11 1 15 13 [5,13,15]]) (sR [uV 0 4] .ret)))
def C98 : CFn := ⟨16,2,[.t 4],B98⟩
abbrev B99 : CCode := (sR [oV 0 2 [2]] (.seq (sR [uT 0 3 0,oP 1 4 (.isnil false (.t 3)) [3]] (sD 4 [0,4] [uV 0 2])) (sR [uW 0 5 1 [.int .i64 (0)],oT 1 6 0 [0],oX 2 7 1 8 5 6 [5,6],oT 3 2 7 [7]] .ret)))
def C99 : CFn := ⟨8,1,[.t 2],B99⟩
abbrev L100_0 : CCode := (sR [uB 0 9 .lss 8 7] (.seq (sC 9 [0,1,7,8,9] 0) (.seq (.block 1 (sR [uT 0 10 8,oT 1 5 10 [10]] (sR [uT 0 11 1,uT 1 12 0,uT 2 13 5,uI 3 14 1 12 13,oL 4 15 1 14 [12,13,14],oB 5 16 .eql 11 15
[11,15]] (.cond (.t 16) (sK [0,1,7,8,16] (sR [oT 0 17 5 [5],oT 1 4 17 [17]] .ret)) (sK [5,16] .skip))))) (.reg false [oC 0 18 .add 8 1 [8],oT 1 8 18 [18]]))))
abbrev B100 : CCode := (sR [oZ 0 4 0 [4]] (.seq (sR [uT 0 6 0,oN 1 7 6 [6],uZ 2 8 0] (.block 0 (.loop L100_0))) (sR [uZ 0 4 (-1)] .ret)))
def C100 : CFn := ⟨19,2,[.t 4],B100⟩
abbrev B101 : CCode := (sR [oQ 0 4 2 1 [1],oQ 1 5 2 2 [2],oY 2 6 false [6]] (.seq (.reg true [uT 0 7 0,uM 1 8 2 4,oK 2 9 77 [.t 7,.t 8] [7,8],oT 3 10 9 [9],wT 4 11 0 10,wM 5 12 2 5 10,hK 6 13 77 [.t 11,.t 12] 10
[11,12],oA 7 14 10 13 [10,13],oT 8 15 14 [14],wF 9 16 0 4 15,hL 10 17 1 16 15 [16],wF 11 18 0 5 15,hL 12 19 1 18 15 [18],hB 13 20 .eql 17 19 15 [17,19],oA 14 21 15 20 [15,20],oT 15 22 21 [21],wT 16 23 0 22,wM 17 24 2 4
22,wT 19 26 0 22,wM 20 27 2 5 22,(18,⟨some 25,.call 131 [.t 23,.t 24],some (22,true),[(5,2)],[4,23,24]⟩),hK 21 28 131 [.t 26,.t 27] 22 [5,26,27],hK 22 29 106 [.t 25,.t 28] 22 [25,28],hC 23 30 .eql 29 0 22 [29],oA 24 31
22 30 [22,30],oT 25 6 31 [31]]) .ret))
def C101 : CFn := ⟨32,3,[.t 6],B101⟩
abbrev L102_0 : CCode := (.seq (sR [uT 0 29 12,uF 1 30 1 5,oL 2 31 1 30 [30],oN 3 32 31 [31],oB 4 33 .lss 29 32 [29,32]] (sC 33 [2,3,4,5,6,12,33] 0)) (.seq (.block 1 (.seq (.reg true [uF 0 37 1 6,oL 1 38 1 37 [37],uT 2
39 2,oI 3 40 2 38 39 [38],oM 4 41 2 40 [40],uF 5 42 1 5,oL 6 43 1 42 [42],uT 7 44 12,oI 8 45 2 43 44 [43],oM 9 46 2 45 [45],uT 10 47 3,oK 11 48 132 [.t 41,.t 46,.t 47] [39,41,44,46,47],oT 12 36 48 [48],uU 13 49 36 0,oU
14 50 36 1 [36],oT 15 13 49 [49],oT 16 14 50 [50]]) (sR [oT 0 51 14 [14]] (.cond (.t 51) (sK [51] (.reg true [oT 0 52 11 [11],uM 1 53 2 5,uM 2 54 3 6,uT 3 55 2,oC 4 56 .add 55 1 [55],oT 5 57 13 [13],uW 6 58 1 [.int .i64
(0)],uT 7 59 4,uT 9 61 12,oP 10 62 (.bsl 1 1 [.int .i64 (0)] [(0,1,(.t 61))]) [61],(8,⟨some 60,.app 1 8 (.t 58) (.t 59),none,[(5,2),(6,3)],[58,59]⟩),(11,⟨some 63,.app 1 8 (.t 60) (.t 62),none,[(5,2),(6,3)],[60,62]⟩),oK
12 64 102 [.t 53,.t 54,.t 56,.t 57,.t 63] [53,54,56,57,63],oX 13 65 2 48 52 64 [52,64],oT 14 11 65 [65]])) (sK [13,51] .skip))))) (sI 34 35 12)))
abbrev B102 : CCode := (sR [oQ 0 5 2 0 [0],oQ 1 6 3 1 [1],oV 2 10 [10]] (.seq (sR [uT 0 15 2,uF 1 16 1 6,oL 2 17 1 16 [16],oN 3 18 17 [17],oB 4 19 .eql 15 18 [15,18]] (sD 19 [2,5,6,19] [uW 0 20 1 [.int .i64 (0)],oT 1 21
3 [3],oX 2 22 1 8 20 21 [20,21],uW 3 23 1 [.int .i64 (0)],oT 4 24 4 [4],oX 5 25 1 8 23 24 [23,24],oP 6 26 (.bld [.nils,.nils] [(0,1,(.t 22)),(1,1,(.t 25))]) [22,25],oP 7 27 (.bsl 2 1 [.nils,.nils] [(0,2,(.t 26))])
[26],oT 8 10 27 [27]])) (sR [uW 0 28 2 [.nils,.nils],oT 1 11 28 [28]] (sL 12 0 L102_0 (sR [oT 0 66 11 [11],oT 1 10 66 [66]] .ret)))))
def C102 : CFn := ⟨67,5,[.t 10],B102⟩
abbrev L103_0 : CCode := (.seq (sR [uT 0 5 3,oN 1 6 5 [5],uT 2 7 0,oB 3 8 .lss 6 7 [6,7]] (sC 8 [0,8] 0)) (.block 1 (.reg false [oT 0 9 3 [3],uP 1 10 (.bsl 1 1 [.int .i64 (0)] [(0,1,(.c (.int .i64 (-1))))]),oX 2 11 1 8
9 10 [9,10],oT 3 3 11 [11]])))
abbrev B103 : CCode := (sR [oV 0 2 [2]] (sR [uW 0 4 1 [.int .i64 (0)],oT 1 3 4 [4]] (.seq (.block 0 (.loop L103_0)) (sR [oT 0 12 3 [3],oT 1 2 12 [12]] .ret))))
def C103 : CFn := ⟨13,1,[.t 2],B103⟩
abbrev L104_0 : CCode := (.seq (sR [uT 0 24 7,uT 1 25 1,oN 2 26 25 [25],oB 3 27 .lss 24 26 [24,26]] (sC 27 [1,2,7,27] 0)) (.seq (.block 1 (.seq (.reg true [uF 0 30 1 2,oL 1 31 1 30 [30],uT 2 32 1,uT 3 33 7,uI 4 34 1 32
33,oL 5 35 1 34 [32,33,34],oI 6 36 2 31 35 [31],oM 7 37 2 36 [36],uH 8 8 [.int .i64 (0),.nils],oS 9 2 8 37 [35,37]]) (.reg true [uF 0 38 1 6,uL 1 39 1 38,uF 2 40 0 8,uL 3 41 1 40,uW 4 42 1 [.int .i64 (0)],uF 5 43 1 8,oL
6 44 1 43 [43],(7,⟨some 45,.app 1 8 (.t 42) (.t 44),none,[(38,1),(40,1)],[8,38,40,42,44]⟩),oP 8 46 (.bld [.int .i64 (0),.nils] [(0,1,(.t 41)),(1,1,(.t 45))]) [41,45],oP 9 47 (.bsl 2 1 [.int .i64 (0),.nils] [(0,2,(.t
46))]) [46],oX 10 48 2 32 39 47 [39,47],uF 11 49 1 6,oS 12 1 49 48 [48,49]]))) (sI 28 29 7)))
abbrev B104 : CCode := (sR [oQ 0 2 2 0 [0],uH 1 4 [.nils,.nils],oY 2 5 false [5]] (.seq (sR [uM 0 9 2 2,oK 1 10 49 [.t 9] [9],oE 2 11 10 [10],oT 3 12 11 [11],vM 4 13 2 2 12,vT 5 14 1 12,gK 6 15 53 [.t 13,.t 14] 12
[13,14],gE 7 16 15 12 [15],oO 8 17 12 16 [12,16]] (sD 17 [1,2,17] [uP 0 18 (.bld [.nils,.nils] []),oS 1 2 4 18 [18],uY 2 5 false])) (sR [uP 0 19 (.bsl 3 0 [.str [],.int .i64 (0),.int .i64 (0)] []),uF 1 20 0 2,oL 2 21 1
20 [20],oX 3 22 3 32 19 21 [19,21],oP 4 23 (.bld [.nils,.nils] [(0,1,(.t 22))]) [22],uH 5 6 [.nils,.nils],oS 6 2 6 23 [23]] (sL 7 0 L104_0 (sR [uM 0 50 2 6,oS 1 2 4 50 [6,50],uY 2 5 true] .ret)))))
def C104 : CFn := ⟨51,2,[.m 4 2 true,.t 5],B104⟩
abbrev B105 : CCode := (sR [oQ 0 1 2 0 [0],oY 1 2 false [2]] (.seq (.reg true [uM 0 3 2 1,oK 1 4 49 [.t 3] [3],oT 2 5 4 [4],wM 3 6 2 1 5,wF 6 9 1 1 5,wL 7 10 1 9 5,hN 8 11 10 5 [10],(4,⟨some 7,.call 47 [.t 6],some
(5,true),[(9,1)],[1,6,9]⟩),hN 5 8 7 5 [7],hB 9 12 .eql 8 11 5 [8,11],oA 10 13 5 12 [5,12],oT 11 2 13 [13]]) .ret))
def C105 : CFn := ⟨14,1,[.t 2],B105⟩
abbrev L106_0 : CCode := (.seq (sR [uT 0 6 5,uT 1 7 0,oN 2 8 7 [7],oB 3 9 .lss 6 8 [6,8],oT 4 10 9 [9],wT 5 11 5 10,wT 6 12 1 10,hN 7 13 12 10 [12],hB 8 14 .lss 11 13 10 [11,13],oA 9 15 10 14 [10,14]] (sC 15 [5,15] 0))
(.seq (.block 1 (.seq (.seq (.reg true [uT 0 18 0,uT 1 19 5,uI 2 20 1 18 19,oL 3 21 1 20 [18,19,20],uT 4 22 1,uT 5 23 5,uI 6 24 1 22 23,oL 7 25 1 24 [22,23,24],oB 8 26 .lss 21 25 [21,25]]) (sD 26 [0,1,5,26] [uZ 0 4
(-1)])) (.seq (.reg true [uT 0 27 0,uT 1 28 5,uI 2 29 1 27 28,oL 3 30 1 29 [27,28,29],uT 4 31 1,uT 5 32 5,uI 6 33 1 31 32,oL 7 34 1 33 [31,32,33],oB 8 35 .gtr 30 34 [30,34]]) (sD 35 [0,1,5,35] [uZ 0 4 1])))) (sI 16 17
5)))
abbrev B106 : CCode := (sR [oZ 0 4 0 [4]] (sL 5 0 L106_0 (.seq (sR [uT 0 36 0,oN 1 37 36 [36],uT 2 38 1,oN 3 39 38 [38],oB 4 40 .lss 37 39 [37,39]] (sD 40 [0,1,40] [uZ 0 4 (-1)])) (.seq (sR [oT 0 41 0 [0],oN 1 42 41
[41],oT 2 43 1 [1],oN 3 44 43 [43],oB 4 45 .gtr 42 44 [42,44]] (sD 45 [45] [uZ 0 4 1])) (sR [uZ 0 4 0] .ret)))))
def C106 : CFn := ⟨46,2,[.t 4],B106⟩
abbrev B107 : CCode := (sR [oQ 0 1 3 0 [0],oY 1 2 false [2]] (sR [uF 0 3 0 1,oL 1 4 1 3 [3],oP 2 5 (.lens (.t 4)) [4],oC 3 6 .eql 5 1 [5],oT 4 7 6 [6],wF 5 8 0 1 7,hL 6 9 1 8 7 [8],hG 7 10 (.ix (.t 9) (.c (.int .i64
0))) 7 [9],hG 8 11 (.bin .geq (.t 10) (.c (.int .u8 (97)))) 7 [10],oA 9 12 7 11 [7,11],oT 10 13 12 [12],wF 11 14 0 1 13,hL 12 15 1 14 13 [14],hG 13 16 (.ix (.t 15) (.c (.int .i64 0))) 13 [15],hG 14 17 (.bin .leq (.t 16)
(.c (.int .u8 (122)))) 13 [16],oA 15 18 13 17 [13,17],oT 16 19 18 [18],wF 17 20 1 1 19,hL 18 21 1 20 19 [20],hK 19 22 80 [.t 21,(.c (.int .i64 1)),(.c (.int .i64 3))] 19 [21],oA 20 23 19 22 [19,22],oT 21 24 23 [23],wF
22 25 2 1 24,hL 23 26 1 25 24 [25],wF 24 27 1 1 24,hL 25 28 1 27 24 [1,27],hK 26 29 80 [.t 26,(.c (.int .i64 0)),.t 28] 24 [26,28],oA 27 30 24 29 [24,29],oT 28 2 30 [30]] .ret))
def C107 : CFn := ⟨31,1,[.t 2],B107⟩
abbrev L108_0 : CCode := (.seq (sR [uT 0 9 7,uT 1 10 0,oN 2 11 10 [10],oB 3 12 .lss 9 11 [9,11]] (sC 12 [0,1,7,12] 0)) (.seq (.block 1 (.seq (sR [uT 0 15 1,uT 1 16 0,uT 2 17 7,uI 3 18 1 16 17,oL 4 19 1 18 [16,17,18],oK
5 20 54 [.t 15,.t 19] [15,19]] (sD 20 [0,1,7,20] [oT 0 21 6 [6],oT 1 4 21 [21],uY 2 5 true])) (sR [uT 0 22 1,uT 1 23 0,uT 2 24 7,uI 3 25 1 23 24,oL 4 26 1 25 [23,24,25],oP 5 27 (.neg (.t 26)) [26],oK 6 28 54 [.t 22,.t
27] [22,27],oE 7 29 28 [28]] (.cond (.t 29) (sK [29] (.reg false [oT 0 30 6 [6],uT 1 31 0,uT 2 32 7,uI 3 33 1 31 32,oL 4 34 1 33 [31,32,33],oP 5 35 (.bsl 1 1 [.int .i64 (0)] [(0,1,(.t 34))]) [34],oX 6 36 1 8 30 35
[30,35],oT 7 6 36 [36]])) (sK [29] .skip))))) (sI 13 14 7)))
abbrev B108 : CCode := (sR [oV 0 4 [4],oY 1 5 false [5]] (sR [uW 0 8 1 [.int .i64 (0)],oT 1 6 8 [8]] (sL 7 0 L108_0 (sR [oT 0 37 6 [6],oT 1 4 37 [37],uY 2 5 false] .ret))))
def C108 : CFn := ⟨38,2,[.t 4,.t 5],B108⟩
abbrev L109_0 : CCode := (.seq (sR [uT 0 6 4,uT 1 7 0,oN 2 8 7 [7],oB 3 9 .lss 6 8 [6,8]] (sC 9 [0,4,9] 0)) (.seq (.block 1 (.reg false [oT 0 12 3 [3],uT 1 13 0,uT 2 14 4,uI 3 15 1 13 14,oL 4 16 1 15 [13,14,15],oP 5 17
(.neg (.t 16)) [16],oP 6 18 (.bsl 1 1 [.int .i64 (0)] [(0,1,(.t 17))]) [17],oX 7 19 1 8 12 18 [12,18],oT 8 3 19 [19]])) (sI 10 11 4)))
abbrev B109 : CCode := (sR [oV 0 2 [2]] (sR [uW 0 5 1 [.int .i64 (0)],oT 1 3 5 [5]] (sL 4 0 L109_0 (sR [oT 0 20 3 [3],oT 1 2 20 [20]] .ret))))
def C109 : CFn := ⟨21,1,[.t 2],B109⟩
abbrev L110_0 : CCode := (sR [uB 0 14 .lss 13 12] (.seq (sC 14 [0,1,12,13,14] 0) (.seq (.block 1 (sR [uT 0 15 13,oT 1 5 15 [15]] (.seq (.reg true [uT 0 16 0,uT 1 17 5,uI 2 18 1 16 17,oL 3 19 1 18 [16,17,18],uT 4 20 1,oT
5 21 5 [5],uI 6 22 1 20 21,oL 7 23 1 22 [20,21,22],oB 8 24 .neq 19 23 [19,23]]) (sD 24 [0,1,12,13,24] [uY 0 4 false])))) (.reg false [oC 0 25 .add 13 1 [13],oT 1 13 25 [25]]))))
abbrev B110 : CCode := (sR [oY 0 4 false [4]] (.seq (sR [uT 0 6 0,oN 1 7 6 [6],uT 2 8 1,oN 3 9 8 [8],oB 4 10 .neq 7 9 [7,9]] (sD 10 [0,1,10] [uY 0 4 false])) (.seq (sR [uT 0 11 0,oN 1 12 11 [11],uZ 2 13 0] (.block 0
(.loop L110_0))) (sR [uY 0 4 true] .ret))))
def C110 : CFn := ⟨26,2,[.t 4],B110⟩
abbrev L111_0 : CCode := (sR [uB 0 37 .lss 36 35] (.seq (sC 37 [0,1,2,4,5,8,34,35,36,37] 0) (.seq (.block 1 (sR [uT 0 38 36,uI 1 39 2 34 36,oM 2 40 2 39 [39],uH 3 10 [.int .i64 (0),.nils],oT 4 9 38 [38],oS 5 2 10 40
[40]] (.seq (sR [uF 0 41 0 10,oL 1 42 1 41 [41],uF 2 43 0 8,oL 3 44 1 43 [43],oB 4 45 .neq 42 44 [42,44]] (.cond (.t 45) (sK [9,10,45] (.exit 1)) (sK [45] .skip))) (sR [uT 0 47 0,uF 1 48 1 8,oL 2 49 1 48 [48],uF 3 50 1
10,oL 4 51 1 50 [50],oK 5 52 112 [.t 47,.t 49,.t 51] [10,47,49,51],oT 6 46 52 [52],uU 7 53 46 0,oU 8 54 46 1 [46],oT 9 11 53 [53],oT 10 12 54 [54]] (sR [oT 0 55 12 [12]] (.cond (.t 55) (sK [55] (.reg true [uL 0 56 1
5,oT 1 57 11 [11],uT 2 58 1,oT 4 60 9 [9],oP 5 61 (.bsl 1 1 [.int .i64 (0)] [(0,1,(.t 60))]) [60],(3,⟨some 59,.call 99 [.t 58],none,[(5,1)],[58]⟩),(6,⟨some 62,.app 1 8 (.t 59) (.t 61),none,[(5,1)],[59,61]⟩),oP 7 63
(.callv (.t 56) [.t 57,.t 62]) [56,57,62,63]])) (sK [9,11,55] .skip))))))) (.reg false [oC 0 64 .add 36 1 [36],oT 1 36 64 [64]]))))
abbrev B111 : CCode := (.seq (sR [uT 0 13 1,oN 1 14 13 [13],uF 2 15 1 2,oL 3 16 1 15 [15],oN 4 17 16 [16],oB 5 18 .eql 14 17 [14,17]] (.cond (.t 18) (sK [2,4,5,18] (.seq (.reg true [uL 0 19 1 3,oT 1 20 0 [0],oT 3 22 1
[1],(2,⟨some 21,.call 99 [.t 20],none,[(3,1)],[20]⟩),(4,⟨some 23,.call 99 [.t 22],none,[(3,1)],[22]⟩),oP 5 24 (.bld [.nils,.nils] [(0,1,(.t 21)),(1,1,(.t 23))]) [21,23],oP 6 25 (.bsl 2 1 [.nils,.nils] [(0,2,(.t 24))])
[24],oX 7 26 2 48 19 25 [19,25],oS 8 1 3 26 [26]]) .ret)) (sK [18] .skip))) (sR [uF 0 27 1 2,oL 1 28 1 27 [27],uT 2 29 1,oN 3 30 29 [29],oI 4 31 2 28 30 [28],oM 5 32 2 31 [31],uH 6 8 [.int .i64 (0),.nils],oS 7 2 8 32
[30,32]] (sR [uF 0 33 1 4,oL 1 34 1 33 [33],uN 2 35 34,uZ 3 36 0] (.block 0 (.loop L111_0)))))
def C111 : CFn := ⟨65,6,[],B111⟩
abbrev L112_0 : CCode := (sR [uB 0 16 .lss 15 14] (.seq (sC 16 [2,13,14,15,16] 0) (.seq (.block 1 (sR [uT 0 17 15,uI 1 18 1 13 15,oL 2 19 1 18 [18],oT 3 9 17 [17],oT 4 10 19 [19]] (.block 2 (sR [uT 0 21 10,oK 1 22 133
[.t 21] [21],oE 2 23 22 [22],oT 3 20 23 [23]] (.cond (.t 20) (sK [20] (.seq (.reg true [oT 0 24 10 [10],uT 2 26 2,oT 3 27 9 [9],uI 4 28 1 26 27,uL 5 29 1 28,(1,⟨some 25,.call 134 [.t 24],none,[(28,1)],[24,26,27,28]⟩),oB
6 30 .neq 25 29 [25,29]]) (sD 30 [2,8,13,14,15,30] [uV 0 6,uY 1 7 false]))) (sK [20] (sR [uT 0 32 8,uT 1 33 10,uI 2 34 1 32 33,oL 3 35 1 34 [32,33,34],oC 4 36 .lss 35 0 [35],oT 5 31 36 [36]] (.cond (.t 31) (sK [31]
(.reg false [uT 0 37 8,oT 1 38 10 [10],uT 2 39 2,oT 3 40 9 [9],uI 4 41 1 39 40,oL 5 42 1 41 [39,40,41],uI 6 43 1 37 38,oS 7 1 43 42 [37,38,42,43]])) (sK [31] (.seq (.reg true [uT 0 45 8,oT 1 46 10 [10],uI 2 47 1 45
46,oL 3 48 1 47 [45,46,47],uT 4 49 2,oT 5 50 9 [9],uI 6 51 1 49 50,oL 7 52 1 51 [49,50,51],oB 8 53 .neq 48 52 [48,52],oT 9 44 53 [53]]) (sD 44 [2,8,13,14,15,44] [uV 0 6,uY 1 7 false]))))))))))) (.reg false [oC 0 54 .add
15 1 [15],oT 1 15 54 [54]]))))
abbrev B112 : CCode := (sR [oV 0 6 [6],oY 1 7 false [7]] (sR [oT 0 11 0 [0],oK 1 12 99 [.t 11] [11],oT 2 8 12 [12]] (.seq (sR [oT 0 13 1 [1],uN 1 14 13,uZ 2 15 0] (.block 0 (.loop L112_0))) (sR [oT 0 55 8 [8],oT 1 6 55
[55],uY 2 7 true] .ret))))
def C112 : CFn := ⟨56,3,[.t 6,.t 7],B112⟩
abbrev B113 : CCode := (sR [oV 0 2 [2]] (sR [uP 0 3 (.bsl 1 1 [.int .i64 (0)] [(0,1,(.c (.int .i64 (-1))))]),oT 1 4 0 [0],oK 2 5 135 [.t 3,.t 4] [3,4],oT 3 2 5 [5]] .ret))
def C113 : CFn := ⟨6,1,[.t 2],B113⟩
abbrev B116 : CCode := (sR [oQ 0 1 3 0 [0],oY 1 2 false [2]] (sR [uF 0 3 0 1,oL 1 4 1 3 [3],oP 2 5 (.lens (.t 4)) [4],oC 3 6 .eql 5 1 [5],oT 4 7 6 [6],wF 5 8 0 1 7,hL 6 9 1 8 7 [8],hG 7 10 (.ix (.t 9) (.c (.int .i64
0))) 7 [9],hG 8 11 (.bin .geq (.t 10) (.c (.int .u8 (97)))) 7 [10],oA 9 12 7 11 [7,11],oT 10 13 12 [12],wF 11 14 0 1 13,hL 12 15 1 14 13 [14],hG 13 16 (.ix (.t 15) (.c (.int .i64 0))) 13 [15],hG 14 17 (.bin .leq (.t 16)
(.c (.int .u8 (122)))) 13 [16],oA 15 18 13 17 [13,17],oT 16 19 18 [18],wF 17 20 1 1 19,hL 18 21 1 20 19 [20],hK 19 22 90 [.t 21,(.c (.int .i64 1)),(.c (.int .i64 3))] 19 [21],oA 20 23 19 22 [19,22],oT 21 24 23 [23],wF
22 25 2 1 24,hL 23 26 1 25 24 [25],wF 24 27 1 1 24,hL 25 28 1 27 24 [1,27],hK 26 29 90 [.t 26,(.c (.int .i64 0)),.t 28] 24 [26,28],oA 27 30 24 29 [24,29],oT 28 2 30 [30]] .ret))
def C116 : CFn := ⟨31,1,[.t 2],B116⟩
abbrev B117 : CCode := (sR [oY 0 2 false [2]] (sR [oT 0 3 0 [0],oP 1 4 (.call 126 [.t 3,(.c (.fn 147 []))]) [3],oE 2 5 4 [4],oT 3 2 5 [5]] .ret))
def C117 : CFn := ⟨6,1,[.t 2],B117⟩
abbrev B118 : CCode := (sR [oZ 0 4 0 [4]] (.seq (.block 0 (sR [uT 0 6 0,uT 1 7 1,oB 2 8 .lss 6 7 [6,7],oT 3 5 8 [8]] (.cond (.t 5) (sK [0,1,5] (sR [uZ 0 4 (-1)] .ret)) (sK [5] (sR [oT 0 10 0 [0],oT 1 11 1 [1],oB 2 12
.gtr 10 11 [10,11],oT 3 9 12 [12]] (sD 9 [9] [uZ 0 4 1])))))) (sR [uZ 0 4 0] .ret)))
def C118 : CFn := ⟨13,2,[.t 4],B118⟩
abbrev L119_0 : CCode := (sR [uB 0 12 .lss 11 10] (.seq (sC 12 [9,10,11,12] 0) (.seq (.block 1 (sR [uT 0 13 11,uI 1 14 1 9 11,oL 2 15 1 14 [14],oT 3 5 13 [13],oT 4 6 15 [15]] (.seq (sR [uT 0 16 5,uT 1 17 1,oN 2 18 17
[17],oB 3 19 .geq 16 18 [16,18]] (sD 19 [0,1,5,6,9,10,11,19] [uZ 0 4 1])) (sR [uT 0 20 1,oT 1 21 5 [5],uI 2 22 1 20 21,oL 3 23 1 22 [20,21,22],oT 4 7 23 [23]] (sR [oT 0 24 6 [6],oT 1 25 7 [7],oK 2 26 148 [.t 24,.t 25]
[24,25],oT 3 8 26 [26]] (sR [uT 0 27 8,oC 1 28 .neq 27 0 [27]] (.cond (.t 28) (sK [0,1,9,10,11,28] (sR [oT 0 29 8 [8],oT 1 4 29 [29]] .ret)) (sK [8,28] .skip)))))))) (.reg false [oC 0 30 .add 11 1 [11],oT 1 11 30
[30]]))))
abbrev B119 : CCode := (sR [oZ 0 4 0 [4]] (.seq (sR [uT 0 9 0,uN 1 10 9,uZ 2 11 0] (.block 0 (.loop L119_0))) (.seq (sR [oT 0 31 0 [0],oN 1 32 31 [31],oT 2 33 1 [1],oN 3 34 33 [33],oB 4 35 .lss 32 34 [32,34]] (sD 35
[35] [uZ 0 4 (-1)])) (sR [uZ 0 4 0] .ret))))
def C119 : CFn := ⟨36,2,[.t 4],B119⟩
abbrev L120_0 : CCode := (sR [uB 0 9 .lss 8 7] (.seq (sC 9 [0,1,7,8,9] 0) (.seq (.block 1 (sR [uT 0 10 8,oT 1 5 10 [10]] (sR [uT 0 11 1,uT 1 12 0,uT 2 13 5,uI 3 14 2 12 13,oM 4 15 2 14 [14],oP 5 16 (.callv (.t 11) [.t
15]) [11,12,13,15]] (.cond (.t 16) (sK [0,1,7,8,16] (sR [oT 0 17 5 [5],oT 1 4 17 [17]] .ret)) (sK [5,16] .skip))))) (.reg false [oC 0 18 .add 8 1 [8],oT 1 8 18 [18]]))))
abbrev B120 : CCode := (sR [oZ 0 4 0 [4]] (.seq (sR [uT 0 6 0,oN 1 7 6 [6],uZ 2 8 0] (.block 0 (.loop L120_0))) (sR [uZ 0 4 (-1)] .ret)))
def C120 : CFn := ⟨19,2,[.t 4],B120⟩
abbrev L121_0 : CCode := (sR [uB 0 12 .lss 11 10] (.seq (sC 12 [9,10,11,12] 0) (.seq (.block 1 (sR [uI 0 13 1 9 11,oL 1 14 1 13 [13],oT 2 5 14 [14]] (sR [oT 0 15 3 [3],oT 1 16 5 [5],oN 2 17 16 [16],oB 3 18 .add 15 17
[15,17],oT 4 3 18 [18]] (sR [uT 0 19 3,oC 1 20 .lss 19 0 [19]] (.cond (.t 20) (sK [20] (.reg false [oP 0 21 .fail [21],(1,⟨none,.fail,none,[],[]⟩)])) (sK [20] .skip)))))) (.reg false [oC 0 22 .add 11 1 [11],oT 1 11 22
[22]]))))
abbrev L121_1 : CCode := (sR [uB 0 28 .lss 27 26] (.seq (sC 28 [25,26,27,28] 2) (.seq (.block 3 (sR [uI 0 29 1 25 27,oL 1 30 1 29 [29],oT 2 8 30 [30]] (.reg false [oT 0 31 6 [6],oT 1 32 8 [8],oX 2 33 1 8 31 32
[31,32],oT 3 6 33 [33]]))) (.reg false [oC 0 34 .add 27 1 [27],oT 1 27 34 [34]]))))
abbrev B121 : CCode := (sR [oV 0 2 [2]] (sR [uZ 0 3 0] (.seq (sR [uT 0 9 0,uN 1 10 9,uZ 2 11 0] (.block 0 (.loop L121_0))) (sR [oT 0 23 3 [3],oK 1 24 149 [(.c (.nils)),.t 23] [23],oT 2 6 24 [24]] (.seq (sR [oT 0 25 0
[0],uN 1 26 25,uZ 2 27 0] (.block 2 (.loop L121_1))) (sR [oT 0 35 6 [6],oT 1 2 35 [35]] .ret))))))
def C121 : CFn := ⟨36,1,[.t 2],B121⟩
abbrev B123 : CCode := (sR [oY 0 4 false [4]] (sR [oT 0 5 0 [0],oT 1 6 1 [1],oK 2 7 150 [.t 5,.t 6] [5,6],oC 3 8 .geq 7 0 [7],oT 4 4 8 [8]] .ret))
def C123 : CFn := ⟨9,2,[.t 4],B123⟩
abbrev B124 : CCode := (sR [oY 0 3 false [3]] (sR [oL 0 4 1 1 [1],oT 1 5 0 [0],oK 2 6 125 [.t 4,.t 5] [4,5],oE 3 7 6 [6],oT 4 3 7 [7]] .ret))
def C124 : CFn := ⟨8,2,[.t 3],B124⟩
abbrev L125_0 : CCode := (sR [uB 0 10 .lss 9 8] (.seq (sC 10 [0,1,7,8,9,10] 0) (.seq (.block 1 (sR [uT 0 11 9,uI 1 12 1 7 9,oL 2 13 1 12 [12],oT 3 5 11 [11],oT 4 6 13 [13]] (sR [uT 0 14 6,oC 1 15 .eql 14 0 [14],oT 2 16
15 [15],vT 3 17 6 16,vT 4 18 0 16,gG 5 19 (.neg (.t 18)) 16 [18],vT 6 20 0 16,gK 7 21 90 [.t 17,.t 19,.t 20] 16 [17,19,20],gE 8 22 21 16 [21],oO 9 23 16 22 [16,22],oT 10 24 23 [23],vT 11 25 1 24,vT 12 26 5 24,gG 13 27
(.sls 1 (.t 25) none (some (.t 26)) none) 24 [25,26],vT 14 28 6 24,gK 15 29 69 [.t 27,.t 28] 24 [27,28],oO 16 30 24 29 [24,29],oT 17 31 30 [30],vT 18 32 1 31,gT 19 33 5 31 [5],gG 20 34 (.sls 1 (.t 32) none (some (.t
33)) none) 31 [32,33],gT 21 35 6 31 [6],gG 22 36 (.neg (.t 35)) 31 [35],gK 23 37 69 [.t 34,.t 36] 31 [34,36],oO 24 38 31 37 [31,37]] (sD 38 [0,1,7,8,9,38] [uY 0 4 false])))) (.reg false [oC 0 39 .add 9 1 [9],oT 1 9 39
[39]]))))
abbrev B125 : CCode := (sR [oY 0 4 false [4]] (.seq (sR [uT 0 7 1,uN 1 8 7,uZ 2 9 0] (.block 0 (.loop L125_0))) (sR [uY 0 4 true] .ret)))
def C125 : CFn := ⟨40,2,[.t 4],B125⟩
abbrev B126 : CCode := (sR [oY 0 4 false [4]] (sR [oT 0 5 0 [0],oT 1 6 1 [1],oK 2 7 67 [.t 5,.t 6] [5,6],oC 3 8 .geq 7 0 [7],oT 4 4 8 [8]] .ret))
def C126 : CFn := ⟨9,2,[.t 4],B126⟩
abbrev B127 : CCode := (sR [oY 0 3 false [3]] (sR [uL 0 4 1 1,oT 1 5 0 [0],oK 2 6 69 [.t 4,.t 5] [1,4,5],oT 3 3 6 [6]] .ret))
def C127 : CFn := ⟨7,2,[.t 3],B127⟩
abbrev L128_0 : CCode := (sR [uB 0 12 .lss 11 10] (.seq (sC 12 [1,9,10,11,12] 0) (.seq (.block 1 (sR [uI 0 13 1 9 11,oL 1 14 1 13 [13],oT 2 7 14 [14]] (sR [uT 0 15 1,uT 1 16 7,oK 2 17 69 [.t 15,.t 16] [15,16],oE 3 18 17
[17]] (.cond (.t 18) (sK [18] (.reg false [oT 0 19 5 [5],oT 1 20 7 [7],oP 2 21 (.bsl 1 1 [.int .i64 (0)] [(0,1,(.t 20))]) [20],oX 3 22 1 8 19 21 [19,21],oT 4 5 22 [22]])) (sK [7,18] .skip))))) (.reg false [oC 0 23 .add
11 1 [11],oT 1 11 23 [23]]))))
abbrev B128 : CCode := (sR [oV 0 4 [4]] (sR [uW 0 8 1 [.int .i64 (0)],oT 1 5 8 [8]] (.seq (sR [oT 0 9 0 [0],uN 1 10 9,uZ 2 11 0] (.block 0 (.loop L128_0))) (sR [oT 0 24 5 [5],oT 1 4 24 [24]] .ret))))
def C128 : CFn := ⟨25,2,[.t 4],B128⟩
abbrev L129_0 : CCode := (sR [uB 0 10 .lss 9 8] (.seq (sC 10 [7,8,9,10] 0) (.seq (.block 1 (sR [uI 0 11 1 7 9,oL 1 12 1 11 [11],oT 2 5 12 [12]] (.reg false [oT 0 13 3 [3],oT 1 14 5 [5],oP 2 15 (.neg (.t 14)) [14],oP 3
16 (.bsl 1 1 [.int .i64 (0)] [(0,1,(.t 15))]) [15],oX 4 17 1 8 13 16 [13,16],oT 5 3 17 [17]]))) (.reg false [oC 0 18 .add 9 1 [9],oT 1 9 18 [18]]))))
abbrev B129 : CCode := (sR [oV 0 2 [2]] (sR [uW 0 6 1 [.int .i64 (0)],oT 1 3 6 [6]] (.seq (sR [oT 0 7 0 [0],uN 1 8 7,uZ 2 9 0] (.block 0 (.loop L129_0))) (sR [oT 0 19 3 [3],oT 1 2 19 [19]] .ret))))
def C129 : CFn := ⟨20,1,[.t 2],B129⟩
abbrev B130 : CCode := (sR [oV 0 4 [4]] (.seq (sR [uT 0 5 1,oC 1 6 .lss 5 0 [5]] (.cond (.t 6) (sK [6] (.reg false [oP 0 7 .fail [7],(1,⟨none,.fail,none,[],[]⟩)])) (sK [6] .skip))) (.seq (sR [oT 0 8 1 [1],uT 1 9 0,oP 2
10 (.cap (.t 9)) [9],uT 3 11 0,oN 4 12 11 [11],oB 5 13 .sub 10 12 [10,12],oB 6 14 .sub 8 13 [8,13],oT 7 1 14 [14]] (sR [uT 0 15 1,oC 1 16 .gtr 15 0 [15]] (.cond (.t 16) (sK [16] (.reg false [uT 0 17 0,uT 1 18 0,oP 2 19
(.cap (.t 18)) [18],oP 3 20 (.sls 1 (.t 17) none (some (.t 19)) none) [17,19],oT 4 21 1 [1],oP 5 22 (.appm 1 24 [.nils] (.t 20) (.t 21)) [20,21],oT 6 23 0 [0],oN 7 24 23 [23],oP 8 25 (.sls 1 (.t 22) none (some (.t 24))
none) [22,24],oT 9 0 25 [25]])) (sK [1,16] .skip)))) (sR [oT 0 26 0 [0],oT 1 4 26 [26]] .ret))))
def C130 : CFn := ⟨27,2,[.t 4],B130⟩
abbrev B131 : CCode := (sR [oQ 0 3 2 1 [1],oV 1 4 [4]] (.seq (sR [uT 0 5 0,uM 1 6 2 3,oK 2 7 77 [.t 5,.t 6] [5,6],oE 3 8 7 [7]] (sD 8 [0,3,8] [uW 0 9 1 [.int .i64 (0)],oT 1 4 9 [9]])) (.seq (.reg true [uW 0 10 1 [.int
.i64 (0)],uF 1 11 1 3,oL 2 12 1 11 [11],oT 3 13 0 [0],uF 4 14 0 3,oL 5 15 1 14 [14],uI 6 16 3 13 15,oF 7 17 2 16 [16],oL 8 18 1 17 [13,15,17],oP 9 19 (.sls 1 (.t 12) none (some (.t 18)) none) [3,12,18],oX 10 20 1 8 10
19 [10,19],oT 11 4 20 [20]]) .ret)))
def C131 : CFn := ⟨21,2,[.t 4],B131⟩
abbrev L132_0 : CCode := (.seq (sR [uT 0 29 9,uF 1 30 1 3,oL 2 31 1 30 [30],oN 3 32 31 [31],oB 4 33 .lss 29 32 [29,32]] (sC 33 [3,4,9,33] 0)) (.seq (.block 1 (sR [uF 0 36 1 3,oL 1 37 1 36 [36],uT 2 38 9,oI 3 39 1 37 38
[37],oL 4 40 1 39 [38,39],oT 5 10 40 [40]] (.seq (sR [uT 0 41 10,oC 1 42 .lss 41 0 [41]] (.cond (.t 42) (sK [42] (.seq (sR [oT 0 43 10 [10],oP 1 44 (.bin .sub (.c (.int .i64 (-1))) (.t 43)) [43],uF 2 45 1 4,oL 3 46 1 45
[45],uT 4 47 9,oI 5 48 1 46 47 [46],oL 6 49 1 48 [47,48],oB 7 50 .neq 44 49 [44,49]] (sD 50 [3,4,9,50] [oT 0 51 8 [8],oT 1 6 51 [51],uY 2 7 false])) (.exit 1))) (sK [42] .skip))) (.seq (.seq (.reg true [uT 0 52 8,uT 1
53 10,uI 2 54 1 52 53,oL 3 55 1 54 [52,53,54],oC 4 56 .geq 55 0 [55],oT 5 57 56 [56],wT 6 58 8 57,wT 7 59 10 57,wI 8 60 1 58 59 57,hL 9 61 1 60 57 [58,59,60],wF 10 62 1 4 57,hL 11 63 1 62 57 [62],wT 12 64 9 57,hI 13 65
1 63 64 57 [63],hL 14 66 1 65 57 [64,65],hB 15 67 .neq 61 66 57 [61,66],oA 16 68 57 67 [57,67]]) (sD 68 [3,4,9,10,68] [oT 0 69 8 [8],oT 1 6 69 [69],uY 2 7 false])) (.reg false [uT 0 70 8,oT 1 71 10 [10],uF 2 72 1 4,oL 3
73 1 72 [72],uT 4 74 9,oI 5 75 1 73 74 [73],oL 6 76 1 75 [74,75],uI 7 77 1 70 71,oS 8 1 77 76 [70,71,76,77]]))))) (sI 34 35 9)))
abbrev B132 : CCode := (sR [oQ 0 3 2 0 [0],oQ 1 4 2 1 [1],oV 2 6 [6],oY 3 7 false [7]] (sR [uW 0 11 1 [.int .i64 (0)],oT 1 12 2 [2],oX 2 13 1 8 11 12 [11,12],oT 3 8 13 [13]] (.seq (sR [uF 0 14 0 4,oL 1 15 1 14 [14],uF 2
16 0 3,oL 3 17 1 16 [16],oB 4 18 .neq 15 17 [15,17],oT 5 19 18 [18],vF 6 20 1 4 19,gL 7 21 1 20 19 [20],gN 8 22 21 19 [21],vF 9 23 1 3 19,gL 10 24 1 23 19 [23],gN 11 25 24 19 [24],gB 12 26 .neq 22 25 19 [22,25],oO 13 27
19 26 [19,26]] (sD 27 [3,4,27] [oT 0 28 8 [8],oT 1 6 28 [28],uY 2 7 false])) (sL 9 0 L132_0 (sR [oT 0 78 8 [8],oT 1 6 78 [78],uY 2 7 true] .ret)))))
def C132 : CFn := ⟨79,3,[.t 6,.t 7],B132⟩
abbrev B133 : CCode := (sR [oY 0 2 false [2]] (sR [oT 0 3 0 [0],oC 1 4 .geq 3 0 [3],oT 2 2 4 [4]] .ret))
def C133 : CFn := ⟨5,1,[.t 2],B133⟩
abbrev B134 : CCode := (sR [oZ 0 2 0 [2]] (sR [oT 0 3 0 [0],oP 1 4 (.bin .sub (.c (.int .i64 (-1))) (.t 3)) [3],oT 2 2 4 [4]] .ret))
def C134 : CFn := ⟨5,1,[.t 2],B134⟩
abbrev L135_0 : CCode := (.seq (sR [uT 0 34 8,uT 1 35 7,oN 2 36 35 [35],oB 3 37 .lss 34 36 [34,36]] (sC 37 [8,37] 0)) (.block 1 (.reg true [uT 0 38 8,uT 1 39 7,uT 2 40 8,oP 3 41 (.sls 1 (.t 39) (some (.t 40)) none none)
[39,40],uT 4 42 7,oT 5 43 8 [8],oP 6 44 (.sls 1 (.t 42) none (some (.t 43)) none) [42,43],oP 7 45 (.cpy 1 (.t 41) (.t 44)) [41,44],oB 8 46 .add 38 45 [38,45],oT 9 8 46 [46]])))
abbrev B135 : CCode := (sR [oV 0 4 [4]] (.seq (sR [uT 0 9 1,oC 1 10 .lss 9 0 [9]] (.cond (.t 10) (sK [10] (.reg false [oP 0 11 .fail [11],(1,⟨none,.fail,none,[],[]⟩)])) (sK [10] .skip))) (sR [uT 0 13 0,oN 1 14 13
[13],oP 2 15 (.conv .u64 (.t 14)) [14],oT 3 16 1 [1],oP 4 17 (.conv .u64 (.t 16)) [16],oK 5 18 151 [.t 15,.t 17] [15,17],oT 6 12 18 [18],uU 7 19 12 0,oU 8 20 12 1 [12],oT 9 5 19 [19],oT 10 6 20 [20]] (.seq (sR [oT 0 21
5 [5],oP 1 22 (.bin .gtr (.t 21) (.c (.int .u64 (0)))) [21],oT 2 23 22 [22],vT 3 24 6 23,gG 4 25 (.bin .gtr (.t 24) (.c (.int .u64 (9223372036854775807)))) 23 [24],oO 5 26 23 25 [23,25]] (.cond (.t 26) (sK [26] (.reg
false [oP 0 27 .fail [27],(1,⟨none,.fail,none,[],[]⟩)])) (sK [26] .skip))) (sR [oT 0 28 6 [6],oP 1 29 (.conv .i64 (.t 28)) [28],oP 2 30 (.mk 1 8 [.int .i64 (0)] (.t 29) (.t 29)) [29],oT 3 7 30 [30]] (sR [uT 0 31 7,oT 1
32 0 [0],oP 2 33 (.cpy 1 (.t 31) (.t 32)) [31,32],oT 3 8 33 [33]] (.seq (.block 0 (.loop L135_0)) (sR [oT 0 47 7 [7],oT 1 4 47 [47]] .ret))))))))
def C135 : CFn := ⟨48,2,[.t 4],B135⟩
abbrev B147 : CCode := (sR [oY 0 2 false [2]] (sR [oT 0 3 0 [0],oK 1 4 90 [.t 3,(.c (.int .i64 0)),(.c (.int .i64 9))] [3],oE 2 5 4 [4],oT 3 2 5 [5]] .ret))
def C147 : CFn := ⟨6,1,[.t 2],B147⟩
abbrev B148 : CCode := (sR [oZ 0 4 0 [4]] (sR [uT 0 7 0,oK 1 8 157 [.t 7] [7],oT 2 5 8 [8]] (sR [uT 0 9 1,oK 1 10 157 [.t 9] [9],oT 2 6 10 [10]] (.seq (sR [oT 0 11 5 [5]] (.cond (.t 11) (sK [0,1,11] (.seq (sR [oT 0 12 6
[6]] (sD 12 [12] [uZ 0 4 0])) (sR [uZ 0 4 (-1)] .ret))) (sK [11] .skip))) (.seq (sR [oT 0 13 6 [6]] (sD 13 [0,1,13] [uZ 0 4 1])) (.seq (sR [uT 0 14 0,uT 1 15 1,oB 2 16 .lss 14 15 [14,15]] (sD 16 [0,1,16] [uZ 0 4 (-1)]))
(.seq (sR [oT 0 17 0 [0],oT 1 18 1 [1],oB 2 19 .gtr 17 18 [17,18]] (sD 19 [19] [uZ 0 4 1])) (sR [uZ 0 4 0] .ret))))))))
def C148 : CFn := ⟨20,2,[.t 4],B148⟩
abbrev B149 : CCode := (sR [oV 0 4 [4]] (.seq (sR [uT 0 5 1,oC 1 6 .lss 5 0 [5]] (.cond (.t 6) (sK [6] (.reg false [oP 0 7 .fail [7],(1,⟨none,.fail,none,[],[]⟩)])) (sK [6] .skip))) (.seq (sR [oT 0 8 1 [1],uT 1 9 0,oP 2
10 (.cap (.t 9)) [9],uT 3 11 0,oN 4 12 11 [11],oB 5 13 .sub 10 12 [10,12],oB 6 14 .sub 8 13 [8,13],oT 7 1 14 [14]] (sR [uT 0 15 1,oC 1 16 .gtr 15 0 [15]] (.cond (.t 16) (sK [16] (.reg false [uT 0 17 0,uT 1 18 0,oP 2 19
(.cap (.t 18)) [18],oP 3 20 (.sls 1 (.t 17) none (some (.t 19)) none) [17,19],oT 4 21 1 [1],oP 5 22 (.appm 1 8 [.int .i64 (0)] (.t 20) (.t 21)) [20,21],oT 6 23 0 [0],oN 7 24 23 [23],oP 8 25 (.sls 1 (.t 22) none (some
(.t 24)) none) [22,24],oT 9 0 25 [25]])) (sK [1,16] .skip)))) (sR [oT 0 26 0 [0],oT 1 4 26 [26]] .ret))))
def C149 : CFn := ⟨27,2,[.t 4],B149⟩
abbrev L150_0 : CCode := (sR [uB 0 9 .lss 8 7] (.seq (sC 9 [0,1,7,8,9] 0) (.seq (.block 1 (sR [uT 0 10 8,oT 1 5 10 [10]] (sR [uT 0 11 1,uT 1 12 0,uT 2 13 5,uI 3 14 1 12 13,oL 4 15 1 14 [14],oP 5 16 (.callv (.t 11) [.t
15]) [11,12,13,15]] (.cond (.t 16) (sK [0,1,7,8,16] (sR [oT 0 17 5 [5],oT 1 4 17 [17]] .ret)) (sK [5,16] .skip))))) (.reg false [oC 0 18 .add 8 1 [8],oT 1 8 18 [18]]))))
abbrev B150 : CCode := (sR [oZ 0 4 0 [4]] (.seq (sR [uT 0 6 0,oN 1 7 6 [6],uZ 2 8 0] (.block 0 (.loop L150_0))) (sR [uZ 0 4 (-1)] .ret)))
def C150 : CFn := ⟨19,2,[.t 4],B150⟩
abbrev B151 : CCode := (sR [oP 0 4 (.mv (.c (.int .u64 (0)))) [4],oP 1 5 (.mv (.c (.int .u64 (0)))) [5]] (.seq (.cond (.c (.bool false)) (sR [oT 0 11 0 [0],oP 1 12 (.conv .u32 (.t 11)) [11],oT 2 13 1 [1],oP 3 14 (.conv
.u32 (.t 13)) [13],oK 4 15 158 [.t 12,.t 14] [12,14],oT 5 10 15 [15],uU 6 16 10 0,oU 7 17 10 1 [10],oT 8 6 16 [16],oT 9 7 17 [17]] (sR [oT 0 18 6 [6],oP 1 19 (.conv .u64 (.t 18)) [18],oT 2 20 7 [7],oP 3 21 (.conv .u64
(.t 20)) [20],oT 4 4 19 [19],oT 5 5 21 [21]] .ret)) .skip) (sR [oT 0 23 0 [0],oT 1 24 1 [1],oK 2 25 159 [.t 23,.t 24] [23,24],oT 3 22 25 [25],uU 4 26 22 0,oU 5 27 22 1 [22],oT 6 8 26 [26],oT 7 9 27 [27]] (sR [oT 0 28 8
[8],oT 1 29 9 [9],oT 2 4 28 [28],oT 3 5 29 [29]] .ret))))
def C151 : CFn := ⟨30,2,[.t 4,.t 5],B151⟩
abbrev B157 : CCode := (sR [oY 0 2 false [2]] (sR [uT 0 3 0,oT 1 4 0 [0],oB 2 5 .neq 3 4 [3,4],oT 3 2 5 [5]] .ret))
def C157 : CFn := ⟨6,1,[.t 2],B157⟩
abbrev B159 : CCode := (sR [oP 0 4 (.mv (.c (.int .u64 (0)))) [4],oP 1 5 (.mv (.c (.int .u64 (0)))) [5]] (sR [uT 0 14 0,oP 1 15 (.bin .and (.t 14) (.c (.int .u64 (4294967295)))) [14],oT 2 6 15 [15]] (sR [uT 0 16 0,oP 1
17 (.bin .shr (.t 16) (.c (.int .u64 (32)))) [16],oT 2 7 17 [17]] (sR [uT 0 18 1,oP 1 19 (.bin .and (.t 18) (.c (.int .u64 (4294967295)))) [18],oT 2 8 19 [19]] (sR [uT 0 20 1,oP 1 21 (.bin .shr (.t 20) (.c (.int .u64
(32)))) [20],oT 2 9 21 [21]] (sR [uT 0 22 6,uT 1 23 8,oB 2 24 .mul 22 23 [22,23],oT 3 10 24 [24]] (sR [uT 0 25 7,oT 1 26 8 [8],oB 2 27 .mul 25 26 [25,26],oT 3 28 10 [10],oP 4 29 (.bin .shr (.t 28) (.c (.int .u64 (32))))
[28],oB 5 30 .add 27 29 [27,29],oT 6 11 30 [30]] (sR [uT 0 31 11,oP 1 32 (.bin .and (.t 31) (.c (.int .u64 (4294967295)))) [31],oT 2 12 32 [32]] (sR [oT 0 33 11 [11],oP 1 34 (.bin .shr (.t 33) (.c (.int .u64 (32))))
[33],oT 2 13 34 [34]] (sR [oT 0 35 12 [12],oT 1 36 6 [6],uT 2 37 9,oB 3 38 .mul 36 37 [36,37],oB 4 39 .add 35 38 [35,38],oT 5 12 39 [39]] (sR [oT 0 40 7 [7],oT 1 41 9 [9],oB 2 42 .mul 40 41 [40,41],oT 3 43 13 [13],oB 4
44 .add 42 43 [42,43],oT 5 45 12 [12],oP 6 46 (.bin .shr (.t 45) (.c (.int .u64 (32)))) [45],oB 7 47 .add 44 46 [44,46],oT 8 4 47 [47]] (sR [oT 0 48 0 [0],oT 1 49 1 [1],oB 2 50 .mul 48 49 [48,49],oT 3 5 50 [50]]
.ret))))))))))))
def C159 : CFn := ⟨51,2,[.t 4,.t 5],B159⟩ def Tab (f : Nat) : Option CFn :=
  match f with
  |3=>C3
  |4=>C4
  |5=>C5
  |6=>C6
  |7=>C7
  |8=>C8
  |9=>C9
  |10=>C10
  |11=>C11
  |12=>C12
  |13=>C13
  |14=>C14
  |15=>C15
  |16=>C16
  |17=>C17
  |18=>C18
  |19=>C19
  |20=>C20
  |21=>C21
  |22=>C22
  |23=>C23
  |24=>C24
  |25=>C25
  |26=>C26
  |27=>C27
  |28=>C28
  |29=>C29
  |30=>C30
  |31=>C31
  |32=>C32
  |33=>C33
  |34=>C34
  |35=>C35
  |36=>C36
  |37=>C37
  |38=>C38
  |39=>C39
  |40=>C40
  |41=>C41
  |42=>C42
  |43=>C43
  |44=>C44
  |45=>C45
  |46=>C46
  |47=>C47
  |48=>C48
  |49=>C49
  |50=>C50
  |51=>C51
  |52=>C52
  |53=>C53
  |54=>C54
  |55=>C55
  |56=>C56
  |57=>C57
  |58=>C58
  |59=>C59
  |60=>C60
  |61=>C61
  |62=>C62
  |63=>C63
  |64=>C64
  |65=>C65
  |66=>C66
  |67=>C67
  |68=>C68
  |69=>C69
  |70=>C70
  |71=>C71
  |72=>C72
  |73=>C73
  |74=>C74
  |75=>C75
  |76=>C76
  |77=>C77
  |78=>C78
  |79=>C79
  |80=>C80
  |81=>C81
  |82=>C82
  |83=>C83
  |84=>C84
  |85=>C85
  |87=>C87
  |88=>C88
  |89=>C89
  |90=>C90
  |91=>C91
  |92=>C92
  |93=>C93
  |94=>C94
  |95=>C95
  |96=>C96
  |97=>C97
  |98=>C98
  |99=>C99
  |100=>C100
  |101=>C101
  |102=>C102
  |103=>C103
  |104=>C104
  |105=>C105
  |106=>C106
  |107=>C107
  |108=>C108
  |109=>C109
  |110=>C110
  |111=>C111
  |112=>C112
  |113=>C113
  |116=>C116
  |117=>C117
  |118=>C118
  |119=>C119
  |120=>C120
  |121=>C121
  |123=>C123
  |124=>C124
  |125=>C125
  |126=>C126
  |127=>C127
  |128=>C128
  |129=>C129
  |130=>C130
  |131=>C131
  |132=>C132
  |133=>C133
  |134=>C134
  |135=>C135
  |147=>C147
  |148=>C148
  |149=>C149
  |150=>C150
  |151=>C151
  |157=>C157
  |159=>C159
  | _ => none
theorem tabOk : TabOk Go.Proofs.Tryz.prog Tab := by
  intro f cf h
  unfold Tab at h
  split at h <;> simp only [Option.some.injEq, reduceCtorEq] at h <;> subst h <;> kernel_rfl

end Go.Proofs.YtbpdhmbdpjafeaaGreatH
