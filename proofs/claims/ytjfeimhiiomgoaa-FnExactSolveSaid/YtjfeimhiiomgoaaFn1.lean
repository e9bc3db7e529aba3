import Derived.Test.YtjfeimhiiomgoaaX3
import Derived.Test.YtjfeimhiiomgoaaProg
set_option linter.unusedVariables false
set_option maxRecDepth 100000
namespace Go.Proofs.YtjfeimhiiomgoaaH
open Go
noncomputable abbrev pG := Go.Proofs.Try.prog
abbrev sR (l : List (Nat × COper)) (c : CCode) : CCode := .seq (.reg false l) c
abbrev sK (l : List Nat) (c : CCode) : CCode := .seq (.kill l) c
@[simp] abbrev gB (i d : Nat) (o : BinOp) (a b : Nat) (g : Nat) (k : List Nat) : Nat × COper := (i, ⟨some d, .bin o (.t a) (.t b), some (g, false), [], k⟩)
@[simp] abbrev gE (i d : Nat) (a : Nat) (g : Nat) (k : List Nat) : Nat × COper := (i, ⟨some d, .not (.t a), some (g, false), [], k⟩)
@[simp] abbrev gG (i d : Nat) (p : COp) (g : Nat) (k : List Nat) : Nat × COper := (i, ⟨some d, p, some (g, false), [], k⟩)
@[simp] abbrev gK (i d : Nat) (f : Nat) (l : List Opd) (g : Nat) (k : List Nat) : Nat × COper := (i, ⟨some d, .call f l, some (g, false), [], k⟩)
@[simp] abbrev gL (i d : Nat) (w a : Nat) (g : Nat) (k : List Nat) : Nat × COper := (i, ⟨some d, .ld w false (.t a), some (g, false), [], k⟩)
@[simp] abbrev gT (i d : Nat) (a : Nat) (g : Nat) (k : List Nat) : Nat × COper := (i, ⟨some d, .mv (.t a), some (g, false), [], k⟩)
@[simp] abbrev gX (i d : Nat) (w n a b : Nat) (g : Nat) (k : List Nat) : Nat × COper := (i, ⟨some d, .app w n (.t a) (.t b), some (g, false), [], k⟩)
@[simp] abbrev hB (i d : Nat) (o : BinOp) (a b : Nat) (g : Nat) (k : List Nat) : Nat × COper := (i, ⟨some d, .bin o (.t a) (.t b), some (g, true), [], k⟩)
@[simp] abbrev hC (i d : Nat) (o : BinOp) (a : Nat) (n : Int) (g : Nat) (k : List Nat) : Nat × COper := (i, ⟨some d, .bin o (.t a) (.c (.int .i64 n)), some (g, true), [], k⟩)
@[simp] abbrev hE (i d : Nat) (a : Nat) (g : Nat) (k : List Nat) : Nat × COper := (i, ⟨some d, .not (.t a), some (g, true), [], k⟩)
@[simp] abbrev hG (i d : Nat) (p : COp) (g : Nat) (k : List Nat) : Nat × COper := (i, ⟨some d, p, some (g, true), [], k⟩)
@[simp] abbrev hK (i d : Nat) (f : Nat) (l : List Opd) (g : Nat) (k : List Nat) : Nat × COper := (i, ⟨some d, .call f l, some (g, true), [], k⟩)
@[simp] abbrev hL (i d : Nat) (w a : Nat) (g : Nat) (k : List Nat) : Nat × COper := (i, ⟨some d, .ld w false (.t a), some (g, true), [], k⟩)
@[simp] abbrev hN (i d : Nat) (a : Nat) (g : Nat) (k : List Nat) : Nat × COper := (i, ⟨some d, .len (.t a), some (g, true), [], k⟩)
@[simp] abbrev hT (i d : Nat) (a : Nat) (g : Nat) (k : List Nat) : Nat × COper := (i, ⟨some d, .mv (.t a), some (g, true), [], k⟩)
@[simp] abbrev oA (i d : Nat) (a b : Nat) (k : List Nat) : Nat × COper := (i, ⟨some d, .pick (.t a) (.t b) (.c (.bool false)), none, [], k⟩)
@[simp] abbrev oB (i d : Nat) (o : BinOp) (a b : Nat) (k : List Nat) : Nat × COper := (i, ⟨some d, .bin o (.t a) (.t b), none, [], k⟩)
@[simp] abbrev oC (i d : Nat) (o : BinOp) (a : Nat) (n : Int) (k : List Nat) : Nat × COper := (i, ⟨some d, .bin o (.t a) (.c (.int .i64 n)), none, [], k⟩)
@[simp] abbrev oE (i d : Nat) (a : Nat) (k : List Nat) : Nat × COper := (i, ⟨some d, .not (.t a), none, [], k⟩)
@[simp] abbrev oF (i d : Nat) (w a : Nat) (k : List Nat) : Nat × COper := (i, ⟨some d, .fa w (.t a), none, [], k⟩)
@[simp] abbrev oK (i d : Nat) (f : Nat) (l : List Opd) (k : List Nat) : Nat × COper := (i, ⟨some d, .call f l, none, [], k⟩)
@[simp] abbrev oL (i d : Nat) (w a : Nat) (k : List Nat) : Nat × COper := (i, ⟨some d, .ld w false (.t a), none, [], k⟩)
@[simp] abbrev oN (i d : Nat) (a : Nat) (k : List Nat) : Nat × COper := (i, ⟨some d, .len (.t a), none, [], k⟩)
@[simp] abbrev oO (i d : Nat) (a b : Nat) (k : List Nat) : Nat × COper := (i, ⟨some d, .pick (.t a) (.c (.bool true)) (.t b), none, [], k⟩)
@[simp] abbrev oP (i d : Nat) (p : COp) (k : List Nat) : Nat × COper := (i, ⟨some d, p, none, [], k⟩)
@[simp] abbrev oQ (i d : Nat) (w a : Nat) (k : List Nat) : Nat × COper := (i, ⟨some d, .box w (.t a), none, [], k⟩)
@[simp] abbrev oS (i w a b : Nat) (k : List Nat) : Nat × COper := (i, ⟨none, .st w (.t a) (.t b), none, [], k⟩)
@[simp] abbrev oT (i d : Nat) (a : Nat) (k : List Nat) : Nat × COper := (i, ⟨some d, .mv (.t a), none, [], k⟩)
@[simp] abbrev oU (i d : Nat) (a n : Nat) (k : List Nat) : Nat × COper := (i, ⟨some d, .ex (.t a) n, none, [], k⟩)
@[simp] abbrev oV (i d : Nat) (k : List Nat) : Nat × COper := (i, ⟨some d, .mv (.c .nils), none, [], k⟩)
@[simp] abbrev oX (i d : Nat) (w n a b : Nat) (k : List Nat) : Nat × COper := (i, ⟨some d, .app w n (.t a) (.t b), none, [], k⟩)
@[simp] abbrev oY (i d : Nat) (b : Bool) (k : List Nat) : Nat × COper := (i, ⟨some d, .mv (.c (.bool b)), none, [], k⟩)
@[simp] abbrev oZ (i d : Nat) (n : Int) (k : List Nat) : Nat × COper := (i, ⟨some d, .mv (.c (.int .i64 n)), none, [], k⟩)
@[simp] abbrev uB (i d : Nat) (o : BinOp) (a b : Nat) : Nat × COper := (i, ⟨some d, .bin o (.t a) (.t b), none, [], []⟩)
@[simp] abbrev uH (i d : Nat) (l : List AV) : Nat × COper := (i, ⟨some d, .al l, none, [], []⟩)
@[simp] abbrev uI (i d : Nat) (w a b : Nat) : Nat × COper := (i, ⟨some d, .ia w (.t a) (.t b), none, [], []⟩)
@[simp] abbrev uL (i d : Nat) (w a : Nat) : Nat × COper := (i, ⟨some d, .ld w false (.t a), none, [], []⟩)
@[simp] abbrev uN (i d : Nat) (a : Nat) : Nat × COper := (i, ⟨some d, .len (.t a), none, [], []⟩)
@[simp] abbrev uP (i d : Nat) (p : COp) : Nat × COper := (i, ⟨some d, p, none, [], []⟩)
@[simp] abbrev uT (i d : Nat) (a : Nat) : Nat × COper := (i, ⟨some d, .mv (.t a), none, [], []⟩)
@[simp] abbrev uU (i d : Nat) (a n : Nat) : Nat × COper := (i, ⟨some d, .ex (.t a) n, none, [], []⟩)
@[simp] abbrev uV (i d : Nat) : Nat × COper := (i, ⟨some d, .mv (.c .nils), none, [], []⟩)
@[simp] abbrev uW (i d : Nat) (w : Nat) (l : List AV) : Nat × COper := (i, ⟨some d, .bsl w 0 l [], none, [], []⟩)
@[simp] abbrev uY (i d : Nat) (b : Bool) : Nat × COper := (i, ⟨some d, .mv (.c (.bool b)), none, [], []⟩)
@[simp] abbrev uZ (i d : Nat) (n : Int) : Nat × COper := (i, ⟨some d, .mv (.c (.int .i64 n)), none, [], []⟩)
@[simp] abbrev vI (i d : Nat) (w a b : Nat) (g : Nat) : Nat × COper := (i, ⟨some d, .ia w (.t a) (.t b), some (g, false), [], []⟩)
@[simp] abbrev vT (i d : Nat) (a : Nat) (g : Nat) : Nat × COper := (i, ⟨some d, .mv (.t a), some (g, false), [], []⟩)
@[simp] abbrev vW (i d : Nat) (w : Nat) (l : List AV) (g : Nat) : Nat × COper := (i, ⟨some d, .bsl w 0 l [], some (g, false), [], []⟩)
@[simp] abbrev wG (i d : Nat) (p : COp) (g : Nat) : Nat × COper := (i, ⟨some d, p, some (g, true), [], []⟩)
@[simp] abbrev wI (i d : Nat) (w a b : Nat) (g : Nat) : Nat × COper := (i, ⟨some d, .ia w (.t a) (.t b), some (g, true), [], []⟩)
@[simp] abbrev wT (i d : Nat) (a : Nat) (g : Nat) : Nat × COper := (i, ⟨some d, .mv (.t a), some (g, true), [], []⟩)
abbrev sI (a b x : Nat) : CCode := .reg false [oT 0 a x [x],oC 1 b .add a 1 [a],oT 2 x b [b]]
abbrev sC (t : Nat) (k : List Nat) (n : Nat) : CCode := .cond (.t t) (.seq (.kill [t]) .skip) (.seq (.kill k) (.exit n))
abbrev sD (t : Nat) (k : List Nat) (l : List (Nat × COper)) : CCode := .cond (.t t) (.seq (.kill k) (.seq (.reg false l) .ret)) (.seq (.kill [t]) .skip)
abbrev sL (x k : Nat) (l c : CCode) : CCode := .seq (.seq (.reg false [uZ 0 x 0]) (.block k (.loop l))) c
abbrev B4 : CCode := (sR [oY 0 4 false [4]] (sR [uZ 0 5 1048576] (sR [uT 0 19 1,oT 1 20 5 [5],oK 2 21 17 [.t 19,.t 20] [19,20],oT 3 5 21 [21]] (.seq (sR [oT 0 22 5 [5],oC 1 23 .lss 22 0 [22]] (sD 23 [0,1,23] [uY 0 4
true])) (sR [uT 0 25 0,uT 1 26 1,oK 2 27 18 [.t 26] [26],oK 3 28 8 [.t 25,.t 27] [25,27],oT 4 24 28 [28],uU 5 29 24 0,uU 6 30 24 1,oU 7 31 24 2 [24],oT 8 6 29 [29],oT 9 7 30 [30],oT 10 8 31 [31]] (sR [uT 0 32 1,oK 1 33
18 [.t 32] [32],oT 2 9 33 [33]] (sR [uT 0 35 0,uT 1 36 9,oK 2 37 7 [.t 35,.t 36] [35,36],oT 3 34 37 [37],uU 4 38 34 0,uU 5 39 34 1,oU 6 40 34 2 [34],oT 7 10 38 [38],oT 8 11 39 [39],oT 9 12 40 [40]] (.seq (sR [uT 0 41
10,uT 1 42 6,oK 2 43 19 [.t 41,.t 42] [41,42],oE 3 44 43 [43],oT 4 45 44 [44],vT 5 46 11 45,vT 6 47 7 45,gK 7 48 20 [.t 46,.t 47] 45 [46,47],gE 8 49 48 45 [48],oO 9 50 45 49 [45,49],oT 10 51 50 [50],vT 11 52 12 51,vT 12
53 8 51,gG 13 54 (.beq true (.t 52) (.t 53)) 51 [52,53],oO 14 55 51 54 [51,54]] (sD 55 [0,1,6,7,8,9,10,11,12,55] [uY 0 4 false])) (.seq (sR [uT 0 56 9,uT 1 57 1,oK 2 58 18 [.t 57] [57],oK 3 59 20 [.t 56,.t 58]
[56,58],oE 4 60 59 [59]] (sD 60 [0,1,6,7,8,9,10,11,12,60] [uY 0 4 false])) (sR [uZ 0 13 1] (sR [oT 0 61 9 [9],oT 1 62 13 [13],oK 2 63 21 [.t 61,.t 62] [61,62],oT 3 13 63 [63]] (.seq (sR [oT 0 64 13 [13],oC 1 65 .lss 64
0 [64],oT 2 66 65 [65],vT 3 67 10 66,vT 4 68 6 66,gK 5 69 19 [.t 67,.t 68] 66 [67,68],gE 6 70 69 66 [69],oO 7 71 66 70 [66,70],oT 8 72 71 [71],vT 9 73 11 72,vT 10 74 7 72,gK 11 75 20 [.t 73,.t 74] 72 [73,74],gE 12 76 75
72 [75],oO 13 77 72 76 [72,76],oT 14 78 77 [77],gT 15 79 12 78 [12],vT 16 80 8 78,gG 17 81 (.beq true (.t 79) (.t 80)) 78 [79,80],oO 18 82 78 81 [78,81]] (sD 82 [0,1,6,7,8,10,11,82] [uY 0 4 false])) (sR [uZ 0 14 1] (sR
[uT 0 83 10,oT 1 84 14 [14],oK 2 85 22 [.t 83,.t 84] [83,84],oT 3 14 85 [85]] (sR [uT 0 86 11,oT 1 87 14 [14],oK 2 88 21 [.t 86,.t 87] [86,87],oT 3 14 88 [88]] (sR [uZ 0 15 1] (sR [uT 0 89 10,oT 1 90 15 [15],oK 2 91 23
[.t 89,.t 90] [89,90],oT 3 15 91 [91]] (.seq (sR [uT 0 92 15,oC 1 93 .lss 92 0 [92]] (sD 93 [0,1,6,7,8,10,11,14,15,93] [uY 0 4 false])) (sR [uT 0 94 11,oT 1 95 15 [15],oK 2 96 24 [.t 94,.t 95] [94,95],oT 3 15 96 [96]]
(.seq (sR [uT 0 97 15,oC 1 98 .lss 97 0 [97]] (sD 98 [0,1,6,7,8,10,11,14,15,98] [uY 0 4 false])) (.seq (sR [oT 0 99 15 [15],uT 1 100 14,oB 2 101 .neq 99 100 [99,100]] (sD 101 [0,1,6,7,8,10,11,14,101] [uY 0 4 false]))
(sR [oT 0 103 0 [0],oT 1 104 1 [1],oK 2 105 18 [.t 104] [104],oK 3 106 7 [.t 103,.t 105] [103,105],oT 4 102 106 [106],uU 5 107 102 0,uU 6 108 102 1,oU 7 109 102 2 [102],oT 8 16 107 [107],oT 9 17 108 [108],oT 10 18 109
[109]] (.seq (sR [oT 0 110 16 [16],oT 1 111 6 [6],oK 2 112 19 [.t 110,.t 111] [110,111],oE 3 113 112 [112],oT 4 114 113 [113],gT 5 115 17 114 [17],gT 6 116 7 114 [7],gK 7 117 20 [.t 115,.t 116] 114 [115,116],gE 8 118
117 114 [117],oO 9 119 114 118 [114,118],oT 10 120 119 [119],gT 11 121 18 120 [18],gT 12 122 8 120 [8],gG 13 123 (.beq true (.t 121) (.t 122)) 120 [121,122],oO 14 124 120 123 [120,123]] (sD 124 [10,11,14,124] [uY 0 4
false])) (sR [uZ 0 15 1] (sR [oT 0 125 10 [10],oT 1 126 15 [15],oK 2 127 23 [.t 125,.t 126] [125,126],oT 3 15 127 [127]] (.seq (sR [uT 0 128 15,oC 1 129 .lss 128 0 [128]] (sD 129 [11,14,15,129] [uY 0 4 false])) (sR [oT
0 130 11 [11],oT 1 131 15 [15],oK 2 132 24 [.t 130,.t 131] [130,131],oT 3 15 132 [132]] (.seq (sR [uT 0 133 15,oC 1 134 .lss 133 0 [133]] (sD 134 [14,15,134] [uY 0 4 false])) (.seq (sR [oT 0 135 15 [15],oT 1 136 14
[14],oB 2 137 .neq 135 136 [135,136]] (sD 137 [137] [uY 0 4 false])) (sR [uY 0 4 true] .ret))))))))))))))))))))))))))))))
def C4 : CFn := ⟨138,2,[.t 4],B4⟩
abbrev L7_0 : CCode := (sR [uB 0 33 .lss 32 31] (.seq (sC 33 [30,31,32,33] 0) (.seq (.block 1 (sR [uI 0 34 1 30 32,oL 1 35 1 34 [34],oT 2 11 35 [35]] (sR [uT 0 36 11,oC 1 37 .gtr 36 0 [36]] (.cond (.t 37) (sK [37] (.reg
false [uT 0 38 9,oT 1 39 11 [11],oC 2 40 .sub 39 1 [39],uI 3 41 1 38 40,(4,⟨none,.st 1 (.t 41) (.c (.bool true)),none,[],[38,40,41]⟩)])) (sK [11,37] .skip))))) (.reg false [oC 0 42 .add 32 1 [32],oT 1 32 42 [42]]))))
abbrev B7 : CCode := (sR [oV 0 4 [4],oV 1 5 [5],oY 2 6 false [6]] (.seq (sR [uT 0 12 0,uT 1 13 1,oK 2 14 26 [.t 12,.t 13] [12,13],oE 3 15 14 [14]] (sD 15 [0,1,15] [uV 0 4,uV 1 5,uY 2 6 false])) (sR [uT 0 16 0,oT 1 17 1
[1],oP 2 18 (.bld [.int .i64 (0),.nils,.nils] [(0,1,(.t 16)),(1,1,(.t 17))]) [16,17],oQ 3 19 3 18 [18],oT 4 7 19 [19]] (sR [uT 0 20 7,oK 1 21 27 [.t 20,(.c (.nils))] [20],oT 2 8 21 [21]] (.seq (sR [uT 0 22 8,oP 1 23
(.isnil false (.t 22)) [22]] (.cond (.t 23) (sK [0,8,23] (.seq (.reg true [oT 0 24 7 [7],uP 1 25 (.nc (.t 24)),oF 2 26 2 25 [25],oL 3 27 1 26 [26],uV 4 4,oT 5 5 27 [27],uY 6 6 false]) .ret)) (sK [7,23] .skip))) (sR [oT
0 28 0 [0],oP 1 29 (.mk 1 1 [.bool false] (.t 28) (.t 28)) [28],oT 2 9 29 [29]] (.seq (sR [oT 0 30 8 [8],uN 1 31 30,uZ 2 32 0] (.block 0 (.loop L7_0))) (sR [oT 0 43 9 [9],oT 1 4 43 [43],uV 2 5,uY 3 6 true] .ret))))))))
def C7 : CFn := ⟨44,2,[.t 4,.t 5,.t 6],B7⟩
abbrev B8 : CCode := (sR [oV 0 4 [4],oV 1 5 [5],oY 2 6 false [6]] (.seq (sR [uT 0 8 0,uT 1 9 1,oK 2 10 12 [.t 8,.t 9] [8,9],oE 3 11 10 [10]] (sD 11 [0,1,11] [uW 0 12 1 [.bool false],uW 1 13 1 [.nils],oT 2 4 12 [12],oT 3
5 13 [13],uY 4 6 false])) (sR [oT 0 14 0 [0],uW 1 15 1 [.nils],oT 2 16 1 [1],oX 3 17 1 24 15 16 [15,16],oP 4 18 (.bld [.int .i64 (0),.nils,.nils,.nils] [(0,1,(.t 14)),(1,1,(.t 17))]) [14,17],oQ 5 19 4 18 [18],oT 6 7 19
[19]] (.seq (sR [uT 0 20 7,uW 1 21 1 [.int .i64 (0)],oK 2 22 28 [.t 20,.t 21] [20,21]] (sD 22 [22] [oT 0 23 7 [7],uP 1 24 (.nc (.t 23)),oF 2 25 3 24 [24],oL 3 26 1 25 [25],uW 4 27 1 [.nils],oT 5 4 26 [26],oT 6 5 27
[27],uY 7 6 true])) (.seq (.reg true [uW 0 28 1 [.bool false],oT 1 29 7 [7],uP 2 30 (.nc (.t 29)),oF 3 31 2 30 [30],oL 4 32 1 31 [31],oT 5 4 28 [28],oT 6 5 32 [32],uY 7 6 false]) .ret)))))
def C8 : CFn := ⟨33,2,[.t 4,.t 5,.t 6],B8⟩
abbrev L12_0 : CCode := (.seq (sR [uT 0 6 5,uT 1 7 1,oN 2 8 7 [7],oB 3 9 .lss 6 8 [6,8]] (sC 9 [5,9] 0)) (.seq (.block 1 (sR [uT 0 12 0,uT 1 13 1,uT 2 14 5,uI 3 15 1 13 14,oL 4 16 1 15 [15],oK 5 17 30 [.t 12,.t 16]
[12,13,14,16],oE 6 18 17 [17]] (sD 18 [0,1,5,18] [uY 0 4 false]))) (sI 10 11 5)))
abbrev B12 : CCode := (sR [oY 0 4 false [4]] (sL 5 0 L12_0 (sR [oT 0 19 0 [0],oK 1 20 31 [.t 19,(.c (.int .i64 0)),(.c (.int .i64 14))] [19],oT 2 21 20 [20],hT 3 22 1 21 [1],hN 4 23 22 21 [22],hC 5 24 .leq 23 400 21
[23],oA 6 25 21 24 [21,24],oT 7 4 25 [25]] .ret)))
def C12 : CFn := ⟨26,2,[.t 4],B12⟩
abbrev L17_0 : CCode := (.seq (sR [uT 0 12 5,uT 1 13 0,oN 2 14 13 [13],oB 3 15 .lss 12 14 [12,14]] (sC 15 [0,5,15] 0)) (.seq (.block 1 (sR [uT 0 18 0,uT 1 19 5,uI 2 20 1 18 19,oL 3 21 1 20 [20],oT 4 22 1 [1],oK 5 23 43
[.t 21,.t 22] [18,19,21,22],oT 6 1 23 [23]] (sR [uT 0 24 1,oC 1 25 .lss 24 0 [24]] (sD 25 [0,1,5,25] [uZ 0 4 (-1)])))) (sI 16 17 5)))
abbrev B17 : CCode := (sR [oZ 0 4 0 [4]] (sR [oT 0 6 1 [1],uT 1 7 0,oN 2 8 7 [7],oB 3 9 .sub 6 8 [6,8],oT 4 1 9 [9]] (.seq (sR [uT 0 10 1,oC 1 11 .lss 10 0 [10]] (sD 11 [0,1,11] [uZ 0 4 (-1)])) (sL 5 0 L17_0 (sR [oT 0
26 1 [1],oT 1 4 26 [26]] .ret)))))
def C17 : CFn := ⟨27,2,[.t 4],B17⟩
abbrev L18_0 : CCode := (.seq (sR [uT 0 8 4,uT 1 9 0,oN 2 10 9 [9],oB 3 11 .lss 8 10 [8,10]] (sC 11 [0,4,11] 0)) (.seq (.block 1 (.reg false [uT 0 14 3,uT 1 15 4,uT 2 16 0,uT 3 17 4,uI 4 18 1 16 17,oL 5 19 1 18 [18],oK
6 20 44 [.t 19] [16,17,19],uI 7 21 1 14 15,oS 8 1 21 20 [14,15,20,21]])) (sI 12 13 4)))
abbrev B18 : CCode := (sR [oV 0 2 [2]] (sR [uT 0 5 0,oN 1 6 5 [5],oP 2 7 (.mk 1 24 [.nils] (.t 6) (.t 6)) [6],oT 3 3 7 [7]] (sL 4 0 L18_0 (sR [oT 0 22 3 [3],oT 1 2 22 [22]] .ret))))
def C18 : CFn := ⟨23,1,[.t 2],B18⟩
abbrev L19_0 : CCode := (.seq (sR [uT 0 11 5,uT 1 12 0,oN 2 13 12 [12],oB 3 14 .lss 11 13 [11,13]] (sC 14 [0,1,5,14] 0)) (.seq (.block 1 (.seq (.reg true [uT 0 17 0,uT 1 18 5,uI 2 19 1 17 18,oL 3 20 1 19 [17,18,19],uT 4
21 1,uT 5 22 5,uI 6 23 1 21 22,oL 7 24 1 23 [21,22,23],oP 8 25 (.beq true (.t 20) (.t 24)) [20,24]]) (sD 25 [0,1,5,25] [uY 0 4 false]))) (sI 15 16 5)))
abbrev B19 : CCode := (sR [oY 0 4 false [4]] (.seq (sR [uT 0 6 0,oN 1 7 6 [6],uT 2 8 1,oN 3 9 8 [8],oB 4 10 .neq 7 9 [7,9]] (sD 10 [0,1,10] [uY 0 4 false])) (sL 5 0 L19_0 (sR [uY 0 4 true] .ret))))
def C19 : CFn := ⟨26,2,[.t 4],B19⟩
abbrev L20_0 : CCode := (.seq (sR [uT 0 11 5,uT 1 12 0,oN 2 13 12 [12],oB 3 14 .lss 11 13 [11,13]] (sC 14 [0,1,5,14] 0)) (.seq (.block 1 (.seq (.reg true [uT 0 17 0,uT 1 18 5,uI 2 19 1 17 18,oL 3 20 1 19 [19],uT 4 21
1,uT 5 22 5,uI 6 23 1 21 22,oL 7 24 1 23 [23],oK 8 25 45 [.t 20,.t 24] [17,18,20,21,22,24],oE 9 26 25 [25]]) (sD 26 [0,1,5,26] [uY 0 4 false]))) (sI 15 16 5)))
abbrev B20 : CCode := (sR [oY 0 4 false [4]] (.seq (sR [uT 0 6 0,oN 1 7 6 [6],uT 2 8 1,oN 3 9 8 [8],oB 4 10 .neq 7 9 [7,9]] (sD 10 [0,1,10] [uY 0 4 false])) (sL 5 0 L20_0 (sR [uY 0 4 true] .ret))))
def C20 : CFn := ⟨27,2,[.t 4],B20⟩
abbrev L21_0 : CCode := (.seq (sR [uT 0 6 5,uT 1 7 0,oN 2 8 7 [7],oB 3 9 .lss 6 8 [6,8]] (sC 9 [5,9] 0)) (.seq (.block 1 (.reg false [uT 0 12 0,uT 1 13 5,uI 2 14 1 12 13,oL 3 15 1 14 [14],oT 4 16 1 [1],oK 5 17 46 [.t
15,.t 16] [12,13,15,16],oT 6 1 17 [17]])) (sI 10 11 5)))
abbrev B21 : CCode := (sR [oZ 0 4 0 [4]] (sL 5 0 L21_0 (sR [oT 0 18 1 [1],oT 1 4 18 [18]] .ret)))
def C21 : CFn := ⟨19,2,[.t 4],B21⟩
abbrev L22_0 : CCode := (.seq (sR [uT 0 6 5,uT 1 7 0,oN 2 8 7 [7],oB 3 9 .lss 6 8 [6,8]] (sC 9 [5,9] 0)) (.seq (.block 1 (sR [uT 0 12 0,uT 1 13 5,uT 2 14 1,oC 3 15 .rem 14 3 [14],oC 4 16 .eql 15 0 [15],uI 5 17 1 12
13,oS 6 1 17 16 [12,13,16,17]] (sI 18 19 1))) (sI 10 11 5)))
abbrev B22 : CCode := (sR [oZ 0 4 0 [4]] (sL 5 0 L22_0 (sR [oT 0 20 1 [1],oT 1 4 20 [20]] .ret)))
def C22 : CFn := ⟨21,2,[.t 4],B22⟩
abbrev L23_0 : CCode := (.seq (sR [uT 0 6 5,uT 1 7 0,oN 2 8 7 [7],oB 3 9 .lss 6 8 [6,8]] (sC 9 [0,5,9] 0)) (.seq (.block 1 (.seq (sR [uT 0 12 0,uT 1 13 5,uI 2 14 1 12 13,oL 3 15 1 14 [12,13,14],uT 4 16 1,oC 5 17 .rem 16
3 [16],oC 6 18 .eql 17 0 [17],oP 7 19 (.beq true (.t 15) (.t 18)) [15,18]] (sD 19 [0,1,5,19] [uZ 0 4 (-1)])) (sI 20 21 1))) (sI 10 11 5)))
abbrev B23 : CCode := (sR [oZ 0 4 0 [4]] (sL 5 0 L23_0 (sR [oT 0 22 1 [1],oT 1 4 22 [22]] .ret)))
def C23 : CFn := ⟨23,2,[.t 4],B23⟩
abbrev L24_0 : CCode := (.seq (sR [uT 0 6 5,uT 1 7 0,oN 2 8 7 [7],oB 3 9 .lss 6 8 [6,8]] (sC 9 [0,5,9] 0)) (.seq (.block 1 (sR [uT 0 12 0,uT 1 13 5,uI 2 14 1 12 13,oL 3 15 1 14 [14],oT 4 16 1 [1],oK 5 17 47 [.t 15,.t
16] [12,13,15,16],oT 6 1 17 [17]] (sR [uT 0 18 1,oC 1 19 .lss 18 0 [18]] (sD 19 [0,1,5,19] [uZ 0 4 (-1)])))) (sI 10 11 5)))
abbrev B24 : CCode := (sR [oZ 0 4 0 [4]] (sL 5 0 L24_0 (sR [oT 0 20 1 [1],oT 1 4 20 [20]] .ret)))
def C24 : CFn := ⟨21,2,[.t 4],B24⟩
abbrev B26 : CCode := (sR [oY 0 4 false [4]] (sR [uT 0 5 1,oN 1 6 5 [5],oC 2 7 .leq 6 400 [6],oT 3 8 7 [7],hT 4 9 0 8 [0],hT 5 10 1 8 [1],hK 6 11 37 [.t 9,.t 10] 8 [9,10],oA 7 12 8 11 [8,11],oT 8 4 12 [12]] .ret))
def C26 : CFn := ⟨13,2,[.t 4],B26⟩
abbrev L27_1 : CCode := (sR [uB 0 53 .lss 52 51] (.seq (sC 53 [50,51,52,53] 2) (.seq (.block 3 (sR [uI 0 54 1 50 52,oL 1 55 1 54 [54],oT 2 9 55 [55]] (sR [uT 0 56 0,uT 1 57 1,oK 2 58 53 [.t 57] [57],oT 3 59 9 [9],oP 4
60 (.bsl 1 1 [.int .i64 (0)] [(0,1,(.t 59))]) [59],oX 5 61 1 8 58 60 [58,60],oK 6 62 27 [.t 56,.t 61] [56,61],oT 7 10 62 [62]] (sR [uT 0 63 10,oP 1 64 (.isnil true (.t 63)) [63]] (.cond (.t 64) (sK [1,50,51,52,64] (sR
[oT 0 65 10 [10],oT 1 4 65 [65]] .ret)) (sK [10,64] .skip)))))) (.reg false [oC 0 66 .add 52 1 [52],oT 1 52 66 [66]]))))
abbrev L27_0 : CCode := (.seq (sR [uT 0 30 7,uT 1 31 0,uP 2 32 (.nc (.t 31)),oF 3 33 0 32 [32],oL 4 34 1 33 [31,33],oB 5 35 .leq 30 34 [30,34]] (sC 35 [1,7,35] 0)) (.seq (.block 1 (.seq (sR [uT 0 38 5,uT 1 39 7,oK 2 40
52 [.t 38,.t 39] [38,39],oT 3 41 40 [40],vT 4 42 5 41,vT 5 43 7 41,gG 6 44 (.neg (.t 43)) 41 [43],gK 7 45 52 [.t 42,.t 44] 41 [42,44],oO 8 46 41 45 [41,45]] (.cond (.t 46) (sK [46] (.exit 1)) (sK [5,46] .skip))) (.seq
(sR [uT 0 47 7,oT 1 48 7 [7],oP 2 49 (.neg (.t 48)) [48],oP 3 50 (.bsl 1 2 [.int .i64 (0)] [(0,1,(.t 47)),(1,1,(.t 49))]) [47,49],uN 4 51 50,uZ 5 52 0] (.block 2 (.loop L27_1))) (sR [uT 0 67 0,oT 1 68 1 [1],oK 2 69 51
[.t 67,.t 68] [67,68],oT 3 4 69 [69]] .ret)))) (sI 36 37 7)))
abbrev B27 : CCode := (sR [oV 0 4 [4]] (.seq (.reg true [uT 0 12 0,uP 1 13 (.nc (.t 12)),oF 2 14 1 13 [13],oL 3 15 1 14 [14],uT 4 16 0,uP 5 17 (.nc (.t 16)),oF 6 18 2 17 [17],oL 7 19 1 18 [18],oP 8 20 (.bsl 1 2 [.nils]
[(0,1,(.t 15)),(1,1,(.t 19))]) [12,15,16,19],uT 10 22 1,oK 9 21 50 [.t 20] [20],oK 11 23 39 [.t 21,.t 22] [21,22],oT 12 11 23 [23],uU 13 24 11 0,oU 14 25 11 1 [11],oT 15 5 24 [24],oT 16 6 25 [25]]) (.seq (sR [oT 0 26 6
[6]] (sD 26 [5,26] [uT 0 27 0,oT 1 28 1 [1],oK 2 29 51 [.t 27,.t 28] [27,28],oT 3 4 29 [29]])) (.seq (sR [uZ 0 7 1] (.block 0 (.loop L27_0))) (sR [oT 0 70 5 [5],oT 1 4 70 [70]] .ret)))))
def C27 : CFn := ⟨71,2,[.t 4],B27⟩
abbrev L28_0 : CCode := (.seq (sR [uT 0 22 7,uT 1 23 0,uP 2 24 (.nc (.t 23)),oF 3 25 0 24 [24],oL 4 26 1 25 [23,25],oB 5 27 .leq 22 26 [22,26]] (sC 27 [1,7,27] 0)) (.seq (.block 1 (.seq (sR [uT 0 30 5,uT 1 31 7,oK 2 32
55 [.t 30,.t 31] [30,31],oT 3 33 32 [32],vT 4 34 5 33,vT 5 35 7 33,gG 6 36 (.neg (.t 35)) 33 [35],gK 7 37 55 [.t 34,.t 36] 33 [34,36],oO 8 38 33 37 [33,37]] (.cond (.t 38) (sK [38] (.exit 1)) (sK [5,38] .skip))) (.seq
(sR [uT 0 39 0,uW 1 40 1 [.int .i64 (0)],uT 2 41 1,oX 3 42 1 8 40 41 [40,41],uT 4 43 7,oP 5 44 (.bsl 1 1 [.int .i64 (0)] [(0,1,(.t 43))]) [43],oX 6 45 1 8 42 44 [42,44],oK 7 46 28 [.t 39,.t 45] [39,45],oT 8 47 46
[46],vT 9 48 0 47,vW 10 49 1 [.int .i64 (0)] 47,vT 11 50 1 47,gX 12 51 1 8 49 50 47 [49,50],gT 13 52 7 47 [7],gG 14 53 (.neg (.t 52)) 47 [52],gG 15 54 (.bsl 1 1 [.int .i64 (0)] [(0,1,(.t 53))]) 47 [53],gX 16 55 1 8 51
54 47 [51,54],gK 17 56 28 [.t 48,.t 55] 47 [48,55],oO 18 57 47 56 [47,56]] (sD 57 [1,57] [uY 0 4 true])) (sR [uT 0 58 0,oT 1 59 1 [1],oK 2 60 54 [.t 58,.t 59] [58,59,60]] (sR [uY 0 4 false] .ret))))) (sI 28 29 7)))
abbrev L28_1 : CCode := (.seq (sR [uT 0 61 8,uT 1 62 0,uP 2 63 (.nc (.t 62)),oF 3 64 0 63 [63],oL 4 65 1 64 [62,64],oB 5 66 .leq 61 65 [61,65]] (sC 66 [5,8,66] 2)) (.seq (.block 3 (.reg true [uT 0 69 0,uT 1 70 0,uP 2 71
(.nc (.t 70)),oF 3 72 3 71 [71],uL 4 73 1 72,uT 5 74 5,uT 6 75 8,(7,⟨some 76,.call 55 [.t 74,.t 75],none,[(72,1)],[72,74,75]⟩),oP 8 77 (.bsl 1 1 [.bool false] [(0,1,(.t 76))]) [76],oX 9 78 1 1 73 77 [70,73,77],uP 10 79
(.nc (.t 69)),oF 11 80 3 79 [79],oS 12 1 80 78 [69,78,80]])) (sI 67 68 8)))
abbrev B28 : CCode := (sR [oY 0 4 false [4]] (sR [uT 0 10 0,uP 1 11 (.nc (.t 10)),oF 2 12 1 11 [11],oL 3 13 1 12 [12],uT 4 14 1,oK 5 15 41 [.t 13,.t 14] [10,13,14],oT 6 9 15 [15],uU 7 16 9 0,oU 8 17 9 1 [9],oT 9 5 16
[16],oT 10 6 17 [17]] (.seq (sR [oT 0 18 6 [6]] (.cond (.t 18) (sK [5,18] (sR [uT 0 19 0,oT 1 20 1 [1],oK 2 21 54 [.t 19,.t 20] [19,20,21]] (sR [uY 0 4 false] .ret))) (sK [18] .skip))) (.seq (sR [uZ 0 7 1] (.block 0
(.loop L28_0))) (.seq (sR [uZ 0 8 1] (.block 2 (.loop L28_1))) (sR [uY 0 4 true] .ret))))))
def C28 : CFn := ⟨81,2,[.t 4],B28⟩
abbrev L30_1 : CCode := (.seq (sR [uT 0 42 7,uT 1 43 5,oB 2 44 .lss 42 43 [42,43]] (sC 44 [7,44] 2)) (.seq (.block 3 (.seq (.reg true [uT 0 47 1,uT 1 48 7,uI 2 49 1 47 48,oL 3 50 1 49 [47,48,49],uT 4 51 1,uT 5 52 5,uI 6
53 1 51 52,oL 7 54 1 53 [51,52,53],oB 8 55 .eql 50 54 [50,54],oT 9 56 55 [55],vT 10 57 1 56,vT 11 58 7 56,vI 12 59 1 57 58 56,gL 13 60 1 59 56 [57,58,59],vT 14 61 1 56,vT 15 62 5 56,vI 16 63 1 61 62 56,gL 17 64 1 63 56
[61,62,63],gG 18 65 (.neg (.t 64)) 56 [64],gB 19 66 .eql 60 65 56 [60,65],oO 20 67 56 66 [56,66]]) (sD 67 [0,1,5,7,67] [uY 0 4 false]))) (sI 45 46 7)))
abbrev L30_0 : CCode := (.seq (sR [uT 0 8 5,uT 1 9 1,oN 2 10 9 [9],oB 3 11 .lss 8 10 [8,10]] (sC 11 [0,1,5,11] 0)) (.seq (.block 1 (sR [uT 0 14 1,uT 1 15 5,uI 2 16 1 14 15,oL 3 17 1 16 [14,15,16],oP 4 18 (.max (.t 17)
(.c (.int .i64 0))) [17],oT 5 6 18 [18]] (.seq (sR [uT 0 19 1,uT 1 20 5,uI 2 21 1 19 20,oL 3 22 1 21 [19,20,21],oC 4 23 .lss 22 0 [22],oT 5 24 23 [23],wT 6 25 1 24,wT 7 26 5 24,wI 8 27 1 25 26 24,hL 9 28 1 27 24
[25,26,27],wT 10 29 0 24,hG 11 30 (.neg (.t 29)) 24 [29],hB 12 31 .geq 28 30 24 [28,30],oA 13 32 24 31 [24,31]] (.cond (.t 32) (sK [6,32] (.reg false [uT 0 33 1,uT 1 34 5,uI 2 35 1 33 34,oL 3 36 1 35 [33,34,35],oP 4 37
(.neg (.t 36)) [36],oT 5 6 37 [37]])) (sK [32] .skip))) (.seq (sR [oT 0 38 6 [6],uT 1 39 0,oK 2 40 31 [.t 38,(.c (.int .i64 1)),.t 39] [38,39],oE 3 41 40 [40]] (sD 41 [0,1,5,41] [uY 0 4 false])) (sR [uZ 0 7 0] (.block 2
(.loop L30_1))))))) (sI 12 13 5)))
abbrev B30 : CCode := (sR [oY 0 4 false [4]] (sL 5 0 L30_0 (sR [uY 0 4 true] .ret)))
def C30 : CFn := ⟨68,2,[.t 4],B30⟩
abbrev B31 : CCode := (sR [oY 0 6 false [6]] (sR [uT 0 7 0,oT 1 8 1 [1],oB 2 9 .geq 7 8 [7,8],oT 3 10 9 [9],hT 4 11 0 10 [0],hT 5 12 2 10 [2],hB 6 13 .leq 11 12 10 [11,12],oA 7 14 10 13 [10,13],oT 8 6 14 [14]] .ret))
def C31 : CFn := ⟨15,3,[.t 6],B31⟩
abbrev B32 : CCode := (sR [oY 0 4 false [4]] (sR [oT 0 5 0 [0],oT 1 6 1 [1],oK 2 7 56 [.t 5,.t 6] [5,6],oC 3 8 .geq 7 0 [7],oT 4 4 8 [8]] .ret))
def C32 : CFn := ⟨9,2,[.t 4],B32⟩
abbrev B34 : CCode := (sR [oY 0 4 false [4]] (sR [oT 0 5 0 [0],oT 1 6 1 [1],oK 2 7 57 [.t 5,.t 6] [5,6],oC 3 8 .geq 7 0 [7],oT 4 4 8 [8]] .ret))
def C34 : CFn := ⟨9,2,[.t 4],B34⟩
abbrev B37 : CCode := (sR [oQ 0 2 1 0 [0],oY 1 4 false [4]] (sR [uL 0 5 1 2,oK 1 6 58 [.t 5,(.c (.int .i64 0)),(.c (.int .i64 14))] [5],oT 2 7 6 [6],hT 3 8 1 7 [1],wG 4 9 (.fn 59 [.t 2]) 7,hK 5 10 32 [.t 8,.t 9] 7
[2,8,9],hE 6 11 10 7 [10],oA 7 12 7 11 [7,11],oT 8 4 12 [12]] .ret))
def C37 : CFn := ⟨13,2,[.t 4],B37⟩
abbrev L39_1 : CCode := (sR [uB 0 17 .lss 16 15] (.seq (sC 17 [14,15,16,17] 2) (.seq (.block 3 (sR [uI 0 18 1 14 16,oL 1 19 1 18 [18],oT 2 9 19 [19]] (.seq (sR [uT 0 20 9,uP 1 21 (.fn 61 [.t 6]),oK 2 22 34 [.t 20,.t 21]
[20,21]] (.cond (.t 22) (sK [9,22] (.exit 3)) (sK [22] .skip))) (sR [oT 0 23 9 [9],uL 1 24 1 6,oK 2 25 40 [.t 24] [24],oK 3 26 62 [.t 23,.t 25] [23,25],oT 4 10 26 [26]] (.seq (sR [uT 0 27 10,oN 1 28 27 [27],oC 2 29 .eql
28 0 [28]] (sD 29 [0,7,10,14,15,16,29] [uL 0 30 1 6,oT 1 4 30 [30],uY 2 5 true])) (sR [uT 0 31 10,oN 1 32 31 [31],oC 2 33 .eql 32 1 [32]] (.cond (.t 33) (sK [7,14,15,16,33] (.seq (.reg true [uL 0 34 1 6,oT 1 35 10
[10],uP 2 36 (.ia 1 (.t 35) (.c (.int .i64 0))),oL 3 37 1 36 [35,36],oP 4 38 (.bsl 1 1 [.int .i64 (0)] [(0,1,(.t 37))]) [37],oX 5 39 1 8 34 38 [34,38],oS 6 1 6 39 [39],uY 7 7 true]) (.exit 2))) (sK [10,33] .skip))))))))
(.reg false [oC 0 40 .add 16 1 [16],oT 1 16 40 [40]]))))
abbrev L39_0 : CCode := (.block 1 (sR [uY 0 7 false] (.seq (sR [uT 0 14 0,uN 1 15 14,uZ 2 16 0] (.block 2 (.loop L39_1))) (sR [oT 0 41 7 [7],oE 1 42 41 [41]] (sD 42 [0,42] [uL 0 43 1 6,oT 1 4 43 [43],uY 2 5 false])))))
abbrev B39 : CCode := (sR [oV 0 4 [4],oY 1 5 false [5]] (sR [uW 0 11 1 [.int .i64 (0)],oT 1 12 1 [1],oX 2 13 1 8 11 12 [11,12],uH 3 6 [.nils],oS 4 1 6 13 [13]] (.block 0 (.loop L39_0))))
def C39 : CFn := ⟨44,2,[.t 4,.t 5],B39⟩
abbrev L40_0 : CCode := (sR [uB 0 10 .lss 9 8] (.seq (sC 10 [7,8,9,10] 0) (.seq (.block 1 (sR [uI 0 11 1 7 9,oL 1 12 1 11 [11],oT 2 5 12 [12]] (.reg false [oT 0 13 3 [3],oT 1 14 5 [5],oP 2 15 (.neg (.t 14)) [14],oP 3 16
(.bsl 1 1 [.int .i64 (0)] [(0,1,(.t 15))]) [15],oX 4 17 1 8 13 16 [13,16],oT 5 3 17 [17]]))) (.reg false [oC 0 18 .add 9 1 [9],oT 1 9 18 [18]]))))
abbrev B40 : CCode := (sR [oV 0 2 [2]] (sR [uW 0 6 1 [.int .i64 (0)],oT 1 3 6 [6]] (.seq (sR [oT 0 7 0 [0],uN 1 8 7,uZ 2 9 0] (.block 0 (.loop L40_0))) (sR [oT 0 19 3 [3],oT 1 2 19 [19]] .ret))))
def C40 : CFn := ⟨20,1,[.t 2],B40⟩
abbrev L41_1 : CCode := (.seq (sR [uT 0 15 8,uT 1 16 0,oN 2 17 16 [16],oB 3 18 .lss 15 17 [15,17],oT 4 19 18 [18],wT 5 20 7 19,hE 6 21 20 19 [20],oA 7 22 19 21 [19,21]] (sC 22 [8,22] 2)) (.seq (.block 3 (sR [uT 0 26
0,uT 1 27 8,uI 2 28 1 26 27,oL 3 29 1 28 [28],uT 4 30 6,oK 5 31 63 [.t 29,.t 30] [26,27,29,30],oT 6 25 31 [31],uU 7 32 25 0,oU 8 33 25 1 [25],oT 9 9 32 [32],oT 10 10 33 [33]] (.seq (sR [oT 0 34 10 [10]] (.cond (.t 34)
(sK [9,34] (.exit 3)) (sK [34] .skip))) (.seq (sR [uT 0 35 9,oN 1 36 35 [35],oC 2 37 .eql 36 0 [36]] (sD 37 [0,7,8,9,37] [oT 0 38 6 [6],oT 1 4 38 [38],uY 2 5 true])) (sR [uT 0 39 9,oN 1 40 39 [39],oC 2 41 .eql 40 1
[40]] (.cond (.t 41) (sK [7,41] (sR [oT 0 42 6 [6],oT 1 43 9 [9],uP 2 44 (.ia 1 (.t 43) (.c (.int .i64 0))),oL 3 45 1 44 [43,44],oP 4 46 (.bsl 1 1 [.int .i64 (0)] [(0,1,(.t 45))]) [45],oX 5 47 1 8 42 46 [42,46],oT 6 6
47 [47]] (.reg false [uY 0 7 true]))) (sK [9,41] .skip))))))) (sI 23 24 8)))
abbrev L41_0 : CCode := (.seq (sR [oT 0 14 7 [7]] (sC 14 [0,14] 0)) (.block 1 (sR [uY 0 7 false] (sR [uZ 0 8 0] (.block 2 (.loop L41_1))))))
abbrev B41 : CCode := (sR [oV 0 4 [4],oY 1 5 false [5]] (sR [uW 0 11 1 [.int .i64 (0)],oT 1 12 1 [1],oX 2 13 1 8 11 12 [11,12],oT 3 6 13 [13]] (.seq (sR [uY 0 7 true] (.block 0 (.loop L41_0))) (sR [oT 0 48 6 [6],oT 1 4
48 [48],uY 2 5 false] .ret))))
def C41 : CFn := ⟨49,2,[.t 4,.t 5],B41⟩
abbrev L42_0 : CCode := (.seq (sR [uT 0 6 4,uT 1 7 0,oN 2 8 7 [7],oB 3 9 .lss 6 8 [6,8]] (sC 9 [0,4,9] 0)) (.seq (.block 1 (.reg false [oT 0 12 3 [3],uT 1 13 0,uT 2 14 4,uI 3 15 1 13 14,oL 4 16 1 15 [13,14,15],oP 5 17
(.neg (.t 16)) [16],oP 6 18 (.bsl 1 1 [.int .i64 (0)] [(0,1,(.t 17))]) [17],oX 7 19 1 8 12 18 [12,18],oT 8 3 19 [19]])) (sI 10 11 4)))
abbrev B42 : CCode := (sR [oV 0 2 [2]] (sR [uW 0 5 1 [.int .i64 (0)],oT 1 3 5 [5]] (sL 4 0 L42_0 (sR [oT 0 20 3 [3],oT 1 2 20 [20]] .ret))))
def C42 : CFn := ⟨21,1,[.t 2],B42⟩
abbrev B43 : CCode := (sR [oZ 0 4 0 [4]] (sR [oT 0 5 1 [1],oT 1 6 0 [0],oN 2 7 6 [6],oB 3 8 .sub 5 7 [5,7],oT 4 1 8 [8]] (.seq (sR [uT 0 9 1,oC 1 10 .lss 9 0 [9]] (sD 10 [1,10] [uZ 0 4 (-1)])) (sR [oT 0 11 1 [1],oT 1 4
11 [11]] .ret))))
def C43 : CFn := ⟨12,2,[.t 4],B43⟩
abbrev L44_0 : CCode := (.seq (sR [uT 0 8 4,uT 1 9 0,oN 2 10 9 [9],oB 3 11 .lss 8 10 [8,10]] (sC 11 [0,4,11] 0)) (.seq (.block 1 (.reg false [uT 0 14 3,uT 1 15 4,uT 2 16 0,uT 3 17 4,uI 4 18 1 16 17,oL 5 19 1 18
[16,17,18],uI 6 20 1 14 15,oS 7 1 20 19 [14,15,19,20]])) (sI 12 13 4)))
abbrev B44 : CCode := (sR [oV 0 2 [2]] (sR [uT 0 5 0,oN 1 6 5 [5],oP 2 7 (.mk 1 8 [.int .i64 (0)] (.t 6) (.t 6)) [6],oT 3 3 7 [7]] (sL 4 0 L44_0 (sR [oT 0 21 3 [3],oT 1 2 21 [21]] .ret))))
def C44 : CFn := ⟨22,1,[.t 2],B44⟩
abbrev L45_0 : CCode := (.seq (sR [uT 0 11 5,uT 1 12 0,oN 2 13 12 [12],oB 3 14 .lss 11 13 [11,13]] (sC 14 [0,1,5,14] 0)) (.seq (.block 1 (.seq (.reg true [uT 0 17 0,uT 1 18 5,uI 2 19 1 17 18,oL 3 20 1 19 [17,18,19],uT 4
21 1,uT 5 22 5,uI 6 23 1 21 22,oL 7 24 1 23 [21,22,23],oB 8 25 .neq 20 24 [20,24]]) (sD 25 [0,1,5,25] [uY 0 4 false]))) (sI 15 16 5)))
abbrev B45 : CCode := (sR [oY 0 4 false [4]] (.seq (sR [uT 0 6 0,oN 1 7 6 [6],uT 2 8 1,oN 3 9 8 [8],oB 4 10 .neq 7 9 [7,9]] (sD 10 [0,1,10] [uY 0 4 false])) (sL 5 0 L45_0 (sR [uY 0 4 true] .ret))))
def C45 : CFn := ⟨26,2,[.t 4],B45⟩
abbrev L46_0 : CCode := (.seq (sR [uT 0 6 5,uT 1 7 0,oN 2 8 7 [7],oB 3 9 .lss 6 8 [6,8]] (sC 9 [5,9] 0)) (.seq (.block 1 (sR [uT 0 12 0,uT 1 13 5,uT 2 14 1,uI 3 15 1 12 13,oS 4 1 15 14 [12,13,14,15]] (sI 16 17 1))) (sI
10 11 5)))
abbrev B46 : CCode := (sR [oZ 0 4 0 [4]] (sL 5 0 L46_0 (sR [oT 0 18 1 [1],oT 1 4 18 [18]] .ret)))
def C46 : CFn := ⟨19,2,[.t 4],B46⟩
abbrev L47_0 : CCode := (.seq (sR [uT 0 6 5,uT 1 7 0,oN 2 8 7 [7],oB 3 9 .lss 6 8 [6,8]] (sC 9 [0,5,9] 0)) (.seq (.block 1 (.seq (sR [uT 0 12 0,uT 1 13 5,uI 2 14 1 12 13,oL 3 15 1 14 [12,13,14],uT 4 16 1,oB 5 17 .neq 15
16 [15,16]] (sD 17 [0,1,5,17] [uZ 0 4 (-1)])) (sI 18 19 1))) (sI 10 11 5)))
abbrev B47 : CCode := (sR [oZ 0 4 0 [4]] (sL 5 0 L47_0 (sR [oT 0 20 1 [1],oT 1 4 20 [20]] .ret)))
def C47 : CFn := ⟨21,2,[.t 4],B47⟩
abbrev L50_0 : CCode := (sR [uB 0 12 .lss 11 10] (.seq (sC 12 [9,10,11,12] 0) (.seq (.block 1 (sR [uI 0 13 1 9 11,oL 1 14 1 13 [13],oT 2 5 14 [14]] (sR [oT 0 15 3 [3],oT 1 16 5 [5],oN 2 17 16 [16],oB 3 18 .add 15 17
[15,17],oT 4 3 18 [18]] (sR [uT 0 19 3,oC 1 20 .lss 19 0 [19]] (.cond (.t 20) (sK [20] (.reg false [oP 0 21 .fail [21],(1,⟨none,.fail,none,[],[]⟩)])) (sK [20] .skip)))))) (.reg false [oC 0 22 .add 11 1 [11],oT 1 11 22
[22]]))))
abbrev L50_1 : CCode := (sR [uB 0 28 .lss 27 26] (.seq (sC 28 [25,26,27,28] 2) (.seq (.block 3 (sR [uI 0 29 1 25 27,oL 1 30 1 29 [29],oT 2 8 30 [30]] (.reg false [oT 0 31 6 [6],oT 1 32 8 [8],oX 2 33 1 24 31 32
[31,32],oT 3 6 33 [33]]))) (.reg false [oC 0 34 .add 27 1 [27],oT 1 27 34 [34]]))))
abbrev B50 : CCode := (sR [oV 0 2 [2]] (sR [uZ 0 3 0] (.seq (sR [uT 0 9 0,uN 1 10 9,uZ 2 11 0] (.block 0 (.loop L50_0))) (sR [oT 0 23 3 [3],oK 1 24 67 [(.c (.nils)),.t 23] [23],oT 2 6 24 [24]] (.seq (sR [oT 0 25 0
[0],uN 1 26 25,uZ 2 27 0] (.block 2 (.loop L50_1))) (sR [oT 0 35 6 [6],oT 1 2 35 [35]] .ret))))))
def C50 : CFn := ⟨36,1,[.t 2],B50⟩
abbrev B51 : CCode := (sR [oV 0 4 [4]] (.seq (.reg true [uT 0 5 0,uT 1 6 0,uP 2 7 (.nc (.t 6)),oF 3 8 2 7 [7],uL 4 9 1 8,oT 5 10 1 [1],(6,⟨some 11,.call 40 [.t 10],none,[(8,1)],[8,10]⟩),oP 7 12 (.bsl 1 1 [.nils]
[(0,1,(.t 11))]) [11],oX 8 13 1 24 9 12 [6,9,12],uP 9 14 (.nc (.t 5)),oF 10 15 2 14 [14],oS 11 1 15 13 [5,13,15]]) (sR [uV 0 4] .ret)))
def C51 : CFn := ⟨16,2,[.t 4],B51⟩
abbrev B52 : CCode := (sR [oY 0 4 false [4]] (sR [oT 0 5 0 [0],oT 1 6 1 [1],oK 2 7 68 [.t 5,.t 6] [5,6],oC 3 8 .geq 7 0 [7],oT 4 4 8 [8]] .ret))
def C52 : CFn := ⟨9,2,[.t 4],B52⟩
abbrev B53 : CCode := (sR [oV 0 2 [2]] (.seq (sR [uT 0 3 0,oP 1 4 (.isnil false (.t 3)) [3]] (sD 4 [0,4] [uV 0 2])) (sR [uW 0 5 1 [.int .i64 (0)],oT 1 6 0 [0],oX 2 7 1 8 5 6 [5,6],oT 3 2 7 [7]] .ret)))
def C53 : CFn := ⟨8,1,[.t 2],B53⟩
abbrev B54 : CCode := (sR [oT 0 5 1 [1],oK 1 6 42 [.t 5] [5],oT 2 4 6 [6]] (sR [uT 0 7 0,uT 1 8 0,uP 2 9 (.nc (.t 8)),oF 3 10 1 9 [9],oL 4 11 1 10 [10],uT 5 12 4,oP 6 13 (.bsl 1 1 [.nils] [(0,1,(.t 12))]) [12],oX 7 14 1
24 11 13 [8,11,13],uP 8 15 (.nc (.t 7)),oF 9 16 1 15 [15],oS 10 1 16 14 [7,14,16]] (.reg false [uT 0 17 0,uT 1 18 0,uP 2 19 (.nc (.t 18)),oF 3 20 2 19 [19],oL 4 21 1 20 [20],oT 5 22 4 [4],oP 6 23 (.bsl 1 1 [.nils]
[(0,1,(.t 22))]) [22],oX 7 24 1 24 21 23 [18,21,23],uP 8 25 (.nc (.t 17)),oF 9 26 2 25 [25],oS 10 1 26 24 [17,24,26]])))
def C54 : CFn := ⟨27,2,[],B54⟩
abbrev L55_0 : CCode := (.seq (sR [uT 0 6 5,uT 1 7 0,oN 2 8 7 [7],oB 3 9 .lss 6 8 [6,8]] (sC 9 [0,1,5,9] 0)) (.seq (.block 1 (sR [uT 0 12 0,uT 1 13 5,uI 2 14 1 12 13,oL 3 15 1 14 [12,13,14],uT 4 16 1,oB 5 17 .eql 15 16
[15,16]] (sD 17 [0,1,5,17] [uY 0 4 true]))) (sI 10 11 5)))
abbrev B55 : CCode := (sR [oY 0 4 false [4]] (sL 5 0 L55_0 (sR [uY 0 4 false] .ret)))
def C55 : CFn := ⟨18,2,[.t 4],B55⟩
abbrev L56_0 : CCode := (sR [uB 0 9 .lss 8 7] (.seq (sC 9 [0,1,7,8,9] 0) (.seq (.block 1 (sR [uT 0 10 8,oT 1 5 10 [10]] (sR [uT 0 11 1,uT 1 12 0,uT 2 13 5,uI 3 14 1 12 13,oL 4 15 1 14 [14],oP 5 16 (.callv (.t 11) [.t
15]) [11,12,13,15]] (.cond (.t 16) (sK [0,1,7,8,16] (sR [oT 0 17 5 [5],oT 1 4 17 [17]] .ret)) (sK [5,16] .skip))))) (.reg false [oC 0 18 .add 8 1 [8],oT 1 8 18 [18]]))))
abbrev B56 : CCode := (sR [oZ 0 4 0 [4]] (.seq (sR [uT 0 6 0,oN 1 7 6 [6],uZ 2 8 0] (.block 0 (.loop L56_0))) (sR [uZ 0 4 (-1)] .ret)))
def C56 : CFn := ⟨19,2,[.t 4],B56⟩
abbrev L57_0 : CCode := (sR [uB 0 9 .lss 8 7] (.seq (sC 9 [0,1,7,8,9] 0) (.seq (.block 1 (sR [uT 0 10 8,oT 1 5 10 [10]] (sR [uT 0 11 1,uT 1 12 0,uT 2 13 5,uI 3 14 1 12 13,oL 4 15 1 14 [12,13,14],oP 5 16 (.callv (.t 11)
[.t 15]) [11,15]] (.cond (.t 16) (sK [0,1,7,8,16] (sR [oT 0 17 5 [5],oT 1 4 17 [17]] .ret)) (sK [5,16] .skip))))) (.reg false [oC 0 18 .add 8 1 [8],oT 1 8 18 [18]]))))
abbrev B57 : CCode := (sR [oZ 0 4 0 [4]] (.seq (sR [uT 0 6 0,oN 1 7 6 [6],uZ 2 8 0] (.block 0 (.loop L57_0))) (sR [uZ 0 4 (-1)] .ret)))
def C57 : CFn := ⟨19,2,[.t 4],B57⟩
abbrev B58 : CCode := (sR [oY 0 6 false [6]] (sR [oT 0 7 1 [1],uT 1 8 0,oB 2 9 .leq 7 8 [7,8],oT 3 10 9 [9],hT 4 11 0 10 [0],hT 5 12 2 10 [2],hB 6 13 .leq 11 12 10 [11,12],oA 7 14 10 13 [10,13],oT 8 6 14 [14]] .ret))
def C58 : CFn := ⟨15,3,[.t 6],B58⟩
abbrev B59 : CCode := (sR [oY 0 3 false [3]] (sR [oL 0 4 1 1 [1],oT 1 5 0 [0],oK 2 6 60 [.t 4,.t 5] [4,5],oE 3 7 6 [6],oT 4 3 7 [7]] .ret))
def C59 : CFn := ⟨8,2,[.t 3],B59⟩
abbrev L60_0 : CCode := (sR [uB 0 10 .lss 9 8] (.seq (sC 10 [0,1,7,8,9,10] 0) (.seq (.block 1 (sR [uT 0 11 9,uI 1 12 1 7 9,oL 2 13 1 12 [12],oT 3 5 11 [11],oT 4 6 13 [13]] (sR [uT 0 14 6,oC 1 15 .eql 14 0 [14],oT 2 16
15 [15],vT 3 17 6 16,vT 4 18 0 16,gG 5 19 (.neg (.t 18)) 16 [18],vT 6 20 0 16,gK 7 21 58 [.t 17,.t 19,.t 20] 16 [17,19,20],gE 8 22 21 16 [21],oO 9 23 16 22 [16,22],oT 10 24 23 [23],vT 11 25 1 24,vT 12 26 5 24,gG 13 27
(.sls 1 (.t 25) none (some (.t 26)) none) 24 [25,26],vT 14 28 6 24,gK 15 29 52 [.t 27,.t 28] 24 [27,28],oO 16 30 24 29 [24,29],oT 17 31 30 [30],vT 18 32 1 31,gT 19 33 5 31 [5],gG 20 34 (.sls 1 (.t 32) none (some (.t
33)) none) 31 [32,33],gT 21 35 6 31 [6],gG 22 36 (.neg (.t 35)) 31 [35],gK 23 37 52 [.t 34,.t 36] 31 [34,36],oO 24 38 31 37 [31,37]] (sD 38 [0,1,7,8,9,38] [uY 0 4 false])))) (.reg false [oC 0 39 .add 9 1 [9],oT 1 9 39
[39]]))))
abbrev B60 : CCode := (sR [oY 0 4 false [4]] (.seq (sR [uT 0 7 1,uN 1 8 7,uZ 2 9 0] (.block 0 (.loop L60_0))) (sR [uY 0 4 true] .ret)))
def C60 : CFn := ⟨40,2,[.t 4],B60⟩
abbrev B61 : CCode := (sR [oY 0 3 false [3]] (sR [uL 0 4 1 1,oT 1 5 0 [0],oK 2 6 52 [.t 4,.t 5] [1,4,5],oT 3 3 6 [6]] .ret))
def C61 : CFn := ⟨7,2,[.t 3],B61⟩
abbrev L62_0 : CCode := (sR [uB 0 12 .lss 11 10] (.seq (sC 12 [1,9,10,11,12] 0) (.seq (.block 1 (sR [uI 0 13 1 9 11,oL 1 14 1 13 [13],oT 2 7 14 [14]] (sR [uT 0 15 1,uT 1 16 7,oK 2 17 52 [.t 15,.t 16] [15,16],oE 3 18 17
[17]] (.cond (.t 18) (sK [18] (.reg false [oT 0 19 5 [5],oT 1 20 7 [7],oP 2 21 (.bsl 1 1 [.int .i64 (0)] [(0,1,(.t 20))]) [20],oX 3 22 1 8 19 21 [19,21],oT 4 5 22 [22]])) (sK [7,18] .skip))))) (.reg false [oC 0 23 .add
11 1 [11],oT 1 11 23 [23]]))))
abbrev B62 : CCode := (sR [oV 0 4 [4]] (sR [uW 0 8 1 [.int .i64 (0)],oT 1 5 8 [8]] (.seq (sR [oT 0 9 0 [0],uN 1 10 9,uZ 2 11 0] (.block 0 (.loop L62_0))) (sR [oT 0 24 5 [5],oT 1 4 24 [24]] .ret))))
def C62 : CFn := ⟨25,2,[.t 4],B62⟩
abbrev L63_0 : CCode := (.seq (sR [uT 0 9 7,uT 1 10 0,oN 2 11 10 [10],oB 3 12 .lss 9 11 [9,11]] (sC 12 [0,1,7,12] 0)) (.seq (.block 1 (.seq (sR [uT 0 15 1,uT 1 16 0,uT 2 17 7,uI 3 18 1 16 17,oL 4 19 1 18 [16,17,18],oK 5
20 55 [.t 15,.t 19] [15,19]] (sD 20 [0,1,7,20] [oT 0 21 6 [6],oT 1 4 21 [21],uY 2 5 true])) (sR [uT 0 22 1,uT 1 23 0,uT 2 24 7,uI 3 25 1 23 24,oL 4 26 1 25 [23,24,25],oP 5 27 (.neg (.t 26)) [26],oK 6 28 55 [.t 22,.t 27]
[22,27],oE 7 29 28 [28]] (.cond (.t 29) (sK [29] (.reg false [oT 0 30 6 [6],uT 1 31 0,uT 2 32 7,uI 3 33 1 31 32,oL 4 34 1 33 [31,32,33],oP 5 35 (.bsl 1 1 [.int .i64 (0)] [(0,1,(.t 34))]) [34],oX 6 36 1 8 30 35
[30,35],oT 7 6 36 [36]])) (sK [29] .skip))))) (sI 13 14 7)))
abbrev B63 : CCode := (sR [oV 0 4 [4],oY 1 5 false [5]] (sR [uW 0 8 1 [.int .i64 (0)],oT 1 6 8 [8]] (sL 7 0 L63_0 (sR [oT 0 37 6 [6],oT 1 4 37 [37],uY 2 5 false] .ret))))
def C63 : CFn := ⟨38,2,[.t 4,.t 5],B63⟩
abbrev B67 : CCode := (sR [oV 0 4 [4]] (.seq (sR [uT 0 5 1,oC 1 6 .lss 5 0 [5]] (.cond (.t 6) (sK [6] (.reg false [oP 0 7 .fail [7],(1,⟨none,.fail,none,[],[]⟩)])) (sK [6] .skip))) (.seq (sR [oT 0 8 1 [1],uT 1 9 0,oP 2
10 (.cap (.t 9)) [9],uT 3 11 0,oN 4 12 11 [11],oB 5 13 .sub 10 12 [10,12],oB 6 14 .sub 8 13 [8,13],oT 7 1 14 [14]] (sR [uT 0 15 1,oC 1 16 .gtr 15 0 [15]] (.cond (.t 16) (sK [16] (.reg false [uT 0 17 0,uT 1 18 0,oP 2 19
(.cap (.t 18)) [18],oP 3 20 (.sls 1 (.t 17) none (some (.t 19)) none) [17,19],oT 4 21 1 [1],oP 5 22 (.appm 1 24 [.nils] (.t 20) (.t 21)) [20,21],oT 6 23 0 [0],oN 7 24 23 [23],oP 8 25 (.sls 1 (.t 22) none (some (.t 24))
none) [22,24],oT 9 0 25 [25]])) (sK [1,16] .skip)))) (sR [oT 0 26 0 [0],oT 1 4 26 [26]] .ret))))
def C67 : CFn := ⟨27,2,[.t 4],B67⟩
abbrev L68_0 : CCode := (sR [uB 0 9 .lss 8 7] (.seq (sC 9 [0,1,7,8,9] 0) (.seq (.block 1 (sR [uT 0 10 8,oT 1 5 10 [10]] (sR [uT 0 11 1,uT 1 12 0,uT 2 13 5,uI 3 14 1 12 13,oL 4 15 1 14 [12,13,14],oB 5 16 .eql 11 15
[11,15]] (.cond (.t 16) (sK [0,1,7,8,16] (sR [oT 0 17 5 [5],oT 1 4 17 [17]] .ret)) (sK [5,16] .skip))))) (.reg false [oC 0 18 .add 8 1 [8],oT 1 8 18 [18]]))))
abbrev B68 : CCode := (sR [oZ 0 4 0 [4]] (.seq (sR [uT 0 6 0,oN 1 7 6 [6],uZ 2 8 0] (.block 0 (.loop L68_0))) (sR [uZ 0 4 (-1)] .ret)))
def C68 : CFn := ⟨19,2,[.t 4],B68⟩ def Tab (f : Nat) : Option CFn :=
  match f with
  |4=>C4
  |7=>C7
  |8=>C8
  |12=>C12
  |17=>C17
  |18=>C18
  |19=>C19
  |20=>C20
  |21=>C21
  |22=>C22
  |23=>C23
  |24=>C24
  |26=>C26
  |27=>C27
  |28=>C28
  |30=>C30
  |31=>C31
  |32=>C32
  |34=>C34
  |37=>C37
  |39=>C39
  |40=>C40
  |41=>C41
  |42=>C42
  |43=>C43
  |44=>C44
  |45=>C45
  |46=>C46
  |47=>C47
  |50=>C50
  |51=>C51
  |52=>C52
  |53=>C53
  |54=>C54
  |55=>C55
  |56=>C56
  |57=>C57
  |58=>C58
  |59=>C59
  |60=>C60
  |61=>C61
  |62=>C62
  |63=>C63
  |67=>C67
  |68=>C68
  | _ => none
theorem tabOk : TabOk Go.Proofs.Try.prog Tab := by
  intro f cf h
  unfold Tab at h
  split at h <;> simp only [Option.some.injEq, reduceCtorEq] at h <;> subst h <;> kernel_rfl

end Go.Proofs.YtjfeimhiiomgoaaH
