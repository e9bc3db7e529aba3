import Derived.Test.YtjfeimhiiomgoaaGreatX4
import Derived.Test.YtjfeimhiiomgoaaGreatProg
set_option linter.unusedVariables false
set_option maxRecDepth 100000
namespace Go.Proofs.YtjfeimhiiomgoaaGreatH
open Go
noncomputable abbrev pG := Go.Proofs.Tryz.prog
abbrev sR (l : List (Nat × COper)) (c : CCode) : CCode := .seq (.reg false l) c
abbrev sK (l : List Nat) (c : CCode) : CCode := .seq (.kill l) c
@[simp] abbrev gA (i d : Nat) (a b : Nat) (g : Nat) (k : List Nat) : Nat × COper := (i, ⟨some d, .pick (.t a) (.t b) (.c (.bool false)), some (g, false), [], k⟩)
@[simp] abbrev gB (i d : Nat) (o : BinOp) (a b : Nat) (g : Nat) (k : List Nat) : Nat × COper := (i, ⟨some d, .bin o (.t a) (.t b), some (g, false), [], k⟩)
@[simp] abbrev gC (i d : Nat) (o : BinOp) (a : Nat) (n : Int) (g : Nat) (k : List Nat) : Nat × COper := (i, ⟨some d, .bin o (.t a) (.c (.int .i64 n)), some (g, false), [], k⟩)
@[simp] abbrev gE (i d : Nat) (a : Nat) (g : Nat) (k : List Nat) : Nat × COper := (i, ⟨some d, .not (.t a), some (g, false), [], k⟩)
@[simp] abbrev gF (i d : Nat) (w a : Nat) (g : Nat) (k : List Nat) : Nat × COper := (i, ⟨some d, .fa w (.t a), some (g, false), [], k⟩)
@[simp] abbrev gG (i d : Nat) (p : COp) (g : Nat) (k : List Nat) : Nat × COper := (i, ⟨some d, p, some (g, false), [], k⟩)
@[simp] abbrev gK (i d : Nat) (f : Nat) (l : List Opd) (g : Nat) (k : List Nat) : Nat × COper := (i, ⟨some d, .call f l, some (g, false), [], k⟩)
@[simp] abbrev gL (i d : Nat) (w a : Nat) (g : Nat) (k : List Nat) : Nat × COper := (i, ⟨some d, .ld w false (.t a), some (g, false), [], k⟩)
@[simp] abbrev gN (i d : Nat) (a : Nat) (g : Nat) (k : List Nat) : Nat × COper := (i, ⟨some d, .len (.t a), some (g, false), [], k⟩)
@[simp] abbrev gT (i d : Nat) (a : Nat) (g : Nat) (k : List Nat) : Nat × COper := (i, ⟨some d, .mv (.t a), some (g, false), [], k⟩)
@[simp] abbrev hB (i d : Nat) (o : BinOp) (a b : Nat) (g : Nat) (k : List Nat) : Nat × COper := (i, ⟨some d, .bin o (.t a) (.t b), some (g, true), [], k⟩)
@[simp] abbrev hC (i d : Nat) (o : BinOp) (a : Nat) (n : Int) (g : Nat) (k : List Nat) : Nat × COper := (i, ⟨some d, .bin o (.t a) (.c (.int .i64 n)), some (g, true), [], k⟩)
@[simp] abbrev hE (i d : Nat) (a : Nat) (g : Nat) (k : List Nat) : Nat × COper := (i, ⟨some d, .not (.t a), some (g, true), [], k⟩)
@[simp] abbrev hF (i d : Nat) (w a : Nat) (g : Nat) (k : List Nat) : Nat × COper := (i, ⟨some d, .fa w (.t a), some (g, true), [], k⟩)
@[simp] abbrev hG (i d : Nat) (p : COp) (g : Nat) (k : List Nat) : Nat × COper := (i, ⟨some d, p, some (g, true), [], k⟩)
@[simp] abbrev hI (i d : Nat) (w a b : Nat) (g : Nat) (k : List Nat) : Nat × COper := (i, ⟨some d, .ia w (.t a) (.t b), some (g, true), [], k⟩)
@[simp] abbrev hK (i d : Nat) (f : Nat) (l : List Opd) (g : Nat) (k : List Nat) : Nat × COper := (i, ⟨some d, .call f l, some (g, true), [], k⟩)
@[simp] abbrev hL (i d : Nat) (w a : Nat) (g : Nat) (k : List Nat) : Nat × COper := (i, ⟨some d, .ld w false (.t a), some (g, true), [], k⟩)
@[simp] abbrev hM (i d : Nat) (w a : Nat) (g : Nat) (k : List Nat) : Nat × COper := (i, ⟨some d, .ld w true (.t a), some (g, true), [], k⟩)
@[simp] abbrev hN (i d : Nat) (a : Nat) (g : Nat) (k : List Nat) : Nat × COper := (i, ⟨some d, .len (.t a), some (g, true), [], k⟩)
@[simp] abbrev hT (i d : Nat) (a : Nat) (g : Nat) (k : List Nat) : Nat × COper := (i, ⟨some d, .mv (.t a), some (g, true), [], k⟩)
@[simp] abbrev oA (i d : Nat) (a b : Nat) (k : List Nat) : Nat × COper := (i, ⟨some d, .pick (.t a) (.t b) (.c (.bool false)), none, [], k⟩)
@[simp] abbrev oB (i d : Nat) (o : BinOp) (a b : Nat) (k : List Nat) : Nat × COper := (i, ⟨some d, .bin o (.t a) (.t b), none, [], k⟩)
@[simp] abbrev oC (i d : Nat) (o : BinOp) (a : Nat) (n : Int) (k : List Nat) : Nat × COper := (i, ⟨some d, .bin o (.t a) (.c (.int .i64 n)), none, [], k⟩)
@[simp] abbrev oE (i d : Nat) (a : Nat) (k : List Nat) : Nat × COper := (i, ⟨some d, .not (.t a), none, [], k⟩)
@[simp] abbrev oF (i d : Nat) (w a : Nat) (k : List Nat) : Nat × COper := (i, ⟨some d, .fa w (.t a), none, [], k⟩)
@[simp] abbrev oI (i d : Nat) (w a b : Nat) (k : List Nat) : Nat × COper := (i, ⟨some d, .ia w (.t a) (.t b), none, [], k⟩)
@[simp] abbrev oK (i d : Nat) (f : Nat) (l : List Opd) (k : List Nat) : Nat × COper := (i, ⟨some d, .call f l, none, [], k⟩)
@[simp] abbrev oL (i d : Nat) (w a : Nat) (k : List Nat) : Nat × COper := (i, ⟨some d, .ld w false (.t a), none, [], k⟩)
@[simp] abbrev oM (i d : Nat) (w a : Nat) (k : List Nat) : Nat × COper := (i, ⟨some d, .ld w true (.t a), none, [], k⟩)
@[simp] abbrev oN (i d : Nat) (a : Nat) (k : List Nat) : Nat × COper := (i, ⟨some d, .len (.t a), none, [], k⟩)
@[simp] abbrev oO (i d : Nat) (a b : Nat) (k : List Nat) : Nat × COper := (i, ⟨some d, .pick (.t a) (.c (.bool true)) (.t b), none, [], k⟩)
@[simp] abbrev oP (i d : Nat) (p : COp) (k : List Nat) : Nat × COper := (i, ⟨some d, p, none, [], k⟩)
@[simp] abbrev oQ (i d : Nat) (w a : Nat) (k : List Nat) : Nat × COper := (i, ⟨some d, .box w (.t a), none, [], k⟩)
@[simp] abbrev oS (i w a b : Nat) (k : List Nat) : Nat × COper := (i, ⟨none, .st w (.t a) (.t b), none, [], k⟩)
@[simp] abbrev oT (i d : Nat) (a : Nat) (k : List Nat) : Nat × COper := (i, ⟨some d, .mv (.t a), none, [], k⟩)
@[simp] abbrev oU (i d : Nat) (a n : Nat) (k : List Nat) : Nat × COper := (i, ⟨some d, .ex (.t a) n, none, [], k⟩)
@[simp] abbrev oV (i d : Nat) (k : List Nat) : Nat × COper := (i, ⟨some d, .mv (.c .nils), none, [], k⟩)
@[simp] abbrev oX (i d : Nat) (w n a b : Nat) (k : List Nat) : Nat × COper := (i, ⟨some d, .app w n (.t a) (.t b), none, [], k⟩)
@[simp] abbrev oY (i d : Nat) (b : Bool) (k : List Nat) : Nat × COper := (i, ⟨some d, .mv (.c (.bool b)), none, [], k⟩)
@[simp] abbrev oZ (i d : Nat) (n : Int) (k : List Nat) : Nat × COper := (i, ⟨some d, .mv (.c (.int .i64 n)), none, [], k⟩)
@[simp] abbrev uB (i d : Nat) (o : BinOp) (a b : Nat) : Nat × COper := (i, ⟨some d, .bin o (.t a) (.t b), none, [], []⟩)
@[simp] abbrev uF (i d : Nat) (w a : Nat) : Nat × COper := (i, ⟨some d, .fa w (.t a), none, [], []⟩)
@[simp] abbrev uH (i d : Nat) (l : List AV) : Nat × COper := (i, ⟨some d, .al l, none, [], []⟩)
@[simp] abbrev uI (i d : Nat) (w a b : Nat) : Nat × COper := (i, ⟨some d, .ia w (.t a) (.t b), none, [], []⟩)
@[simp] abbrev uK (i d : Nat) (f : Nat) (l : List Opd) : Nat × COper := (i, ⟨some d, .call f l, none, [], []⟩)
@[simp] abbrev uL (i d : Nat) (w a : Nat) : Nat × COper := (i, ⟨some d, .ld w false (.t a), none, [], []⟩)
@[simp] abbrev uM (i d : Nat) (w a : Nat) : Nat × COper := (i, ⟨some d, .ld w true (.t a), none, [], []⟩)
@[simp] abbrev uN (i d : Nat) (a : Nat) : Nat × COper := (i, ⟨some d, .len (.t a), none, [], []⟩)
@[simp] abbrev uP (i d : Nat) (p : COp) : Nat × COper := (i, ⟨some d, p, none, [], []⟩)
@[simp] abbrev uT (i d : Nat) (a : Nat) : Nat × COper := (i, ⟨some d, .mv (.t a), none, [], []⟩)
@[simp] abbrev uU (i d : Nat) (a n : Nat) : Nat × COper := (i, ⟨some d, .ex (.t a) n, none, [], []⟩)
@[simp] abbrev uV (i d : Nat) : Nat × COper := (i, ⟨some d, .mv (.c .nils), none, [], []⟩)
@[simp] abbrev uW (i d : Nat) (w : Nat) (l : List AV) : Nat × COper := (i, ⟨some d, .bsl w 0 l [], none, [], []⟩)
@[simp] abbrev uY (i d : Nat) (b : Bool) : Nat × COper := (i, ⟨some d, .mv (.c (.bool b)), none, [], []⟩)
@[simp] abbrev uZ (i d : Nat) (n : Int) : Nat × COper := (i, ⟨some d, .mv (.c (.int .i64 n)), none, [], []⟩)
@[simp] abbrev vF (i d : Nat) (w a : Nat) (g : Nat) : Nat × COper := (i, ⟨some d, .fa w (.t a), some (g, false), [], []⟩)
@[simp] abbrev vG (i d : Nat) (p : COp) (g : Nat) : Nat × COper := (i, ⟨some d, p, some (g, false), [], []⟩)
@[simp] abbrev vI (i d : Nat) (w a b : Nat) (g : Nat) : Nat × COper := (i, ⟨some d, .ia w (.t a) (.t b), some (g, false), [], []⟩)
@[simp] abbrev vL (i d : Nat) (w a : Nat) (g : Nat) : Nat × COper := (i, ⟨some d, .ld w false (.t a), some (g, false), [], []⟩)
@[simp] abbrev vM (i d : Nat) (w a : Nat) (g : Nat) : Nat × COper := (i, ⟨some d, .ld w true (.t a), some (g, false), [], []⟩)
@[simp] abbrev vT (i d : Nat) (a : Nat) (g : Nat) : Nat × COper := (i, ⟨some d, .mv (.t a), some (g, false), [], []⟩)
@[simp] abbrev wF (i d : Nat) (w a : Nat) (g : Nat) : Nat × COper := (i, ⟨some d, .fa w (.t a), some (g, true), [], []⟩)
@[simp] abbrev wI (i d : Nat) (w a b : Nat) (g : Nat) : Nat × COper := (i, ⟨some d, .ia w (.t a) (.t b), some (g, true), [], []⟩)
@[simp] abbrev wL (i d : Nat) (w a : Nat) (g : Nat) : Nat × COper := (i, ⟨some d, .ld w false (.t a), some (g, true), [], []⟩)
@[simp] abbrev wM (i d : Nat) (w a : Nat) (g : Nat) : Nat × COper := (i, ⟨some d, .ld w true (.t a), some (g, true), [], []⟩)
@[simp] abbrev wT (i d : Nat) (a : Nat) (g : Nat) : Nat × COper := (i, ⟨some d, .mv (.t a), some (g, true), [], []⟩)
abbrev sI (a b x : Nat) : CCode := .reg false [oT 0 a x [x],oC 1 b .add a 1 [a],oT 2 x b [b]]
abbrev sC (t : Nat) (k : List Nat) (n : Nat) : CCode := .cond (.t t) (.seq (.kill [t]) .skip) (.seq (.kill k) (.exit n))
abbrev sD (t : Nat) (k : List Nat) (l : List (Nat × COper)) : CCode := .cond (.t t) (.seq (.kill k) (.seq (.reg false l) .ret)) (.seq (.kill [t]) .skip)
abbrev sL (x k : Nat) (l c : CCode) : CCode := .seq (.seq (.reg false [uZ 0 x 0]) (.block k (.loop l))) c
abbrev B4 : CCode := (sR [oQ 0 2 2 0 [0],oQ 1 3 3 1 [1],oY 2 4 false [4]] (sR [uZ 0 5 1048576] (sR [uM 0 12 2 2,oT 1 13 5 [5],oK 2 14 19 [.t 12,.t 13] [12,13],oT 3 5 14 [14]] (.seq (sR [uT 0 15 5,oC 1 16 .lss 15 0 [15]]
(sD 16 [2,3,5,16] [uY 0 4 true])) (sR [uM 0 17 3 3,oT 1 18 5 [5],oK 2 19 7 [.t 17,.t 18] [17,18],oT 3 5 19 [19]] (.seq (sR [oT 0 20 5 [5],oC 1 21 .lss 20 0 [20]] (sD 21 [2,3,21] [uY 0 4 true])) (.seq (.reg true [uM 0 23
2 2,uM 2 25 3 3,(1,⟨some 24,.call 21 [.t 23],none,[(3,3)],[23]⟩),oK 3 26 10 [.t 25] [25],oK 4 27 20 [.t 24,.t 26] [24,26],oT 5 22 27 [27],uU 6 28 22 0,oU 7 29 22 1 [22],oT 8 6 28 [28],oT 9 7 29 [29]]) (sR [uM 0 30 2
2,oK 1 31 21 [.t 30] [30],uH 2 8 [.nils,.nils],oS 3 2 8 31 [31]] (sR [uM 0 32 3 3,oK 1 33 10 [.t 32] [32],uH 2 9 [.int .i64 (0),.nils,.nils],oS 3 3 9 33 [33]] (sR [uM 0 35 2 8,uM 1 36 3 9,oK 2 37 22 [.t 35,.t 36]
[35,36],oT 3 34 37 [37],uU 4 38 34 0,oU 5 39 34 1 [34],oT 6 10 38 [38],oT 7 11 39 [39]] (.seq (sR [oT 0 40 10 [10],oT 1 41 6 [6],oP 2 42 (.beq true (.t 40) (.t 41)) [40,41],oT 3 43 42 [42],gT 4 44 11 43 [11],gT 5 45 7
43 [7],gG 6 46 (.beq true (.t 44) (.t 45)) 43 [44,45],oO 7 47 43 46 [43,46]] (sD 47 [2,3,8,9,47] [uY 0 4 false])) (.seq (.seq (.reg true [uM 0 48 2 8,uM 1 49 2 2,(2,⟨some 50,.call 21 [.t 49],none,[(8,2)],[2,49]⟩),oK 3
51 23 [.t 48,.t 50] [8,48,50],oE 4 52 51 [51]]) (sD 52 [3,9,52] [uY 0 4 false])) (.seq (.seq (.reg true [uM 0 53 3 9,uM 1 54 3 3,(2,⟨some 55,.call 10 [.t 54],none,[(9,3)],[3,54]⟩),oK 3 56 14 [.t 53,.t 55] [9,53,55],oE 4
57 56 [56]]) (sD 57 [57] [uY 0 4 false])) (sR [uY 0 4 true] .ret))))))))))))))
def C4 : CFn := ⟨58,2,[.t 4],B4⟩
abbrev L6_0 : CCode := (.seq (sR [uT 0 12 5,uT 1 13 0,oN 2 14 13 [13],oB 3 15 .lss 12 14 [12,14]] (sC 15 [0,5,15] 0)) (.seq (.block 1 (sR [uT 0 18 0,uT 1 19 5,uI 2 20 3 18 19,oM 3 21 3 20 [20],oT 4 22 1 [1],oK 5 23 39
[.t 21,.t 22] [18,19,21,22],oT 6 1 23 [23]] (sR [uT 0 24 1,oC 1 25 .lss 24 0 [24]] (sD 25 [0,1,5,25] [uZ 0 4 (-1)])))) (sI 16 17 5)))
abbrev B6 : CCode := (sR [oZ 0 4 0 [4]] (sR [oT 0 6 1 [1],uT 1 7 0,oN 2 8 7 [7],oB 3 9 .sub 6 8 [6,8],oT 4 1 9 [9]] (.seq (sR [uT 0 10 1,oC 1 11 .lss 10 0 [10]] (sD 11 [0,1,11] [uZ 0 4 (-1)])) (sL 5 0 L6_0 (sR [oT 0 26
1 [1],oT 1 4 26 [26]] .ret)))))
def C6 : CFn := ⟨27,2,[.t 4],B6⟩
abbrev B7 : CCode := (sR [oQ 0 2 3 0 [0],oZ 1 4 0 [4]] (sR [uF 0 5 1 2,oL 1 6 1 5 [5],oT 2 7 1 [1],oK 3 8 40 [.t 6,.t 7] [6,7],oT 4 1 8 [8]] (.seq (sR [uT 0 9 1,oC 1 10 .lss 9 0 [9]] (sD 10 [1,2,10] [uZ 0 4 (-1)])) (sR
[uF 0 11 2 2,oL 1 12 1 11 [11],oT 2 13 1 [1],oK 3 14 41 [.t 12,.t 13] [2,12,13],oT 4 1 14 [14]] (.seq (sR [uT 0 15 1,oC 1 16 .lss 15 0 [15]] (sD 16 [1,16] [uZ 0 4 (-1)])) (sR [oT 0 17 1 [1],oT 1 4 17 [17]] .ret))))))
def C7 : CFn := ⟨18,2,[.t 4],B7⟩
abbrev L8_1 : CCode := (.seq (sR [uT 0 43 11,oC 1 44 .lss 43 4 [43]] (sC 44 [9,11,44] 2)) (.seq (.block 3 (.seq (sR [uF 0 47 2 7,oL 1 48 1 47 [47],uT 2 49 11,oK 3 50 45 [.t 48,.t 49] [48,49],oT 4 51 50 [50],vF 5 52 1 9
51,gL 6 53 1 52 51 [52],vT 7 54 11 51,gK 8 55 45 [.t 53,.t 54] 51 [53,54],gE 9 56 55 51 [55],oO 10 57 51 56 [51,56]] (.cond (.t 57) (sK [57] (.exit 3)) (sK [57] .skip))) (sR [uT 0 58 0,uM 1 59 2 9,oK 2 60 46 [.t 58,.t
59] [58,59],uT 3 61 11,oK 4 62 45 [.t 60,.t 61] [60,61]] (.cond (.t 62) (sK [62] (.reg false [uF 0 63 2 10,oL 1 64 1 63 [63],uT 2 65 11,oP 3 66 (.bsl 1 1 [.int .i64 (0)] [(0,1,(.t 65))]) [65],oX 4 67 1 8 64 66
[64,66],uF 5 68 2 10,oS 6 1 68 67 [67,68]])) (sK [62] (.reg false [uF 0 69 3 10,oL 1 70 1 69 [69],uT 2 71 11,oP 3 72 (.bsl 1 1 [.int .i64 (0)] [(0,1,(.t 71))]) [71],oX 4 73 1 8 70 72 [70,72],uF 5 74 3 10,oS 6 1 74 73
[73,74]])))))) (sI 45 46 11)))
abbrev L8_0 : CCode := (.seq (sR [uF 0 20 1 7,oL 1 21 1 20 [20],oN 2 22 21 [21],oC 3 23 .gtr 22 0 [22]] (sC 23 [0,7,23] 0)) (.block 1 (sR [uT 0 24 0,uM 1 25 3 7,oK 2 26 44 [.t 24,.t 25] [24,25],oT 3 8 26 [26]] (.seq (sR
[uT 0 27 8,oC 1 28 .lss 27 0 [27]] (sD 28 [0,6,7,8,28] [uW 0 29 4 [.int .i64 (0),.nils,.nils,.nils],oT 1 4 29 [29],uY 2 5 false])) (sR [uF 0 30 1 7,oL 1 31 1 30 [30],uT 2 32 8,oI 3 33 2 31 32 [31],oM 4 34 2 33 [33],uH 5
9 [.int .i64 (0),.nils],oS 6 2 9 34 [32,34]] (.seq (.reg true [uF 0 35 0 9,uL 1 36 1 35,uW 2 37 1 [.int .i64 (0)],uF 3 38 1 9,oL 4 39 1 38 [38],uH 8 10 [.int .i64 (0),.nils,.nils,.nils],(5,⟨some 40,.app 1 8 (.t 37) (.t
39),none,[(35,1)],[35,37,39]⟩),oP 6 41 (.bld [.int .i64 (0),.nils] [(0,1,(.t 36)),(1,1,(.t 40))]) [36,40],oP 7 42 (.bld [.int .i64 (0),.nils,.nils,.nils] [(0,2,(.t 41))]) [41],oS 9 4 10 42 [42]]) (sL 11 2 L8_1 (sR [oT 0
75 6 [6],uM 1 76 4 10,oP 2 77 (.bsl 4 1 [.int .i64 (0),.nils,.nils,.nils] [(0,4,(.t 76))]) [10,76],oX 3 78 4 80 75 77 [75,77],oT 4 6 78 [78]] (.reg false [uM 0 79 3 7,oT 1 80 8 [8],oK 2 81 47 [.t 79,.t 80] [79,80],oS 3
3 7 81 [81]])))))))))
abbrev B8 : CCode := (sR [oQ 0 3 3 1 [1],oV 1 4 [4],oY 2 5 false [5]] (sR [uW 0 12 4 [.int .i64 (0),.nils,.nils,.nils],oT 1 6 12 [12]] (.seq (sR [uT 0 13 0,uM 1 14 3 3,oK 2 15 42 [.t 13,.t 14] [13,14],oC 3 16 .neq 15 1
[15]] (sD 16 [0,3,16] [oT 0 17 6 [6],oT 1 4 17 [17],uY 2 5 false])) (sR [uM 0 18 3 3,oK 1 19 43 [.t 18] [3,18],uH 2 7 [.int .i64 (0),.nils,.nils],oS 3 3 7 19 [19]] (.seq (.block 0 (.loop L8_0)) (sR [oT 0 82 6 [6],oT 1 4
82 [82],uY 2 5 true] .ret))))))
def C8 : CFn := ⟨83,2,[.t 4,.t 5],B8⟩
abbrev L9_0 : CCode := (.seq (sR [uT 0 8 4,uT 1 9 0,oN 2 10 9 [9],oB 3 11 .lss 8 10 [8,10]] (sC 11 [0,4,11] 0)) (.seq (.block 1 (.reg false [uT 0 14 3,uT 1 15 4,uT 2 16 0,uT 3 17 4,uI 4 18 3 16 17,oM 5 19 3 18 [18],oK 6
20 48 [.t 19] [16,17,19],uI 7 21 3 14 15,oS 8 3 21 20 [14,15,20,21]])) (sI 12 13 4)))
abbrev B9 : CCode := (sR [oV 0 2 [2]] (sR [uT 0 5 0,oN 1 6 5 [5],oP 2 7 (.mk 3 32 [.str [],.int .i64 (0),.int .i64 (0)] (.t 6) (.t 6)) [6],oT 3 3 7 [7]] (sL 4 0 L9_0 (sR [oT 0 22 3 [3],oT 1 2 22 [22]] .ret))))
def C9 : CFn := ⟨23,1,[.t 2],B9⟩
abbrev B10 : CCode := (sR [oQ 0 1 3 0 [0],uH 1 2 [.int .i64 (0),.nils,.nils]] (sR [uH 0 3 [.int .i64 (0),.nils,.nils]] (sR [uF 0 4 0 1,oL 1 5 1 4 [4],uF 2 6 0 3,oS 3 1 6 5 [5,6]] (sR [uF 0 7 1 1,oL 1 8 1 7 [7],oK 2 9 49
[.t 8] [8],uF 3 10 1 3,oS 4 1 10 9 [9,10]] (sR [uF 0 11 2 1,oL 1 12 1 11 [11],oK 2 13 50 [.t 12] [1,12],uF 3 14 2 3,oS 4 1 14 13 [13,14]] (sR [uM 0 15 3 3,oS 1 3 2 15 [3,15]] .ret))))))
def C10 : CFn := ⟨16,1,[.m 2 3 true],B10⟩
abbrev L11_0 : CCode := (.seq (sR [uT 0 22 8,oN 1 23 22 [22],oC 2 24 .gtr 23 0 [23]] (sC 24 [0,3,7,8,24] 0)) (.block 1 (sR [uT 0 25 0,uT 1 26 8,uT 2 27 7,oK 3 28 52 [.t 25,.t 26,.t 27] [25,26,27],oT 4 9 28 [28]] (.seq
(sR [uT 0 29 9,oN 1 30 29 [29],oC 2 31 .eql 30 0 [30]] (sD 31 [0,3,6,7,8,9,31] [uV 0 4,uY 1 5 false])) (sR [uT 0 32 8,uT 1 33 9,uP 2 34 (.ia 1 (.t 33) (.c (.int .i64 0))),oL 3 35 1 34 [33,34],uI 4 36 2 32 35,oM 5 37 2
36 [36],oK 6 38 53 [.t 37] [32,35,37],uH 7 10 [.int .i64 (0),.nils],oS 8 2 10 38 [38]] (.seq (.reg true [uT 0 39 0,uM 1 40 2 10,uM 3 42 2 10,(2,⟨some 41,.call 54 [.t 39,.t 40],none,[(10,2)],[39,40]⟩),oK 4 43 55 [.t 42]
[42],oT 5 11 41 [41],oT 6 12 43 [43]]) (.seq (.reg true [oT 0 44 6 [6],uM 1 45 2 10,uT 2 46 11,uT 3 47 7,uT 5 49 12,uT 6 50 11,uT 8 52 7,(4,⟨some 48,.call 56 [.t 46,.t 47],none,[(10,2)],[46,47]⟩),(7,⟨some 51,.call 56
[.t 49,.t 50],none,[(10,2)],[49,50]⟩),(9,⟨some 53,.call 56 [.t 51,.t 52],none,[(10,2)],[51,52]⟩),oP 10 54 (.bld [.int .i64 (0),.nils,.nils,.nils] [(0,2,(.t 45)),(2,1,(.t 48)),(3,1,(.t 53))]) [10,45,48,53],oP 11 55 (.bsl
4 1 [.int .i64 (0),.nils,.nils,.nils] [(0,4,(.t 54))]) [54],oX 12 56 4 80 44 55 [44,55],oT 13 6 56 [56]]) (sR [oT 0 57 7 [7],oT 1 58 12 [12],oK 2 59 57 [.t 57,.t 58] [57,58],oT 3 7 59 [59]] (.reg true [oT 0 60 8 [8],uT
2 62 9,uP 3 63 (.ia 1 (.t 62) (.c (.int .i64 0))),uL 4 64 1 63,oT 5 65 9 [9],uP 6 66 (.ia 1 (.t 65) (.c (.int .i64 0))),uL 7 67 1 66,oC 8 68 .add 67 1 [67],(1,⟨some 61,.call 59 [.t
60],none,[(63,1),(66,1)],[60,62,63,65,66]⟩),oK 9 69 58 [.t 61,.t 64,.t 68] [61,64,68],oT 10 8 69 [69]])))))))))
abbrev B11 : CCode := (sR [oQ 0 3 3 1 [1],oV 1 4 [4],oY 2 5 false [5]] (.seq (sR [uT 0 13 0,uM 1 14 3 3,oK 2 15 51 [.t 13,.t 14] [13,14],oC 3 16 .neq 15 1 [15]] (sD 16 [0,3,16] [uV 0 4,uY 1 5 false])) (.seq (.reg true
[uW 0 17 4 [.int .i64 (0),.nils,.nils,.nils],uF 1 18 2 3,oL 2 19 1 18 [18],uF 3 20 1 3,oL 4 21 1 20 [20],oT 5 6 17 [17],oT 6 7 19 [19],oT 7 8 21 [21]]) (.seq (.block 0 (.loop L11_0)) (sR [oT 0 70 6 [6],oT 1 4 70 [70],uY
2 5 true] .ret)))))
def C11 : CFn := ⟨71,2,[.t 4,.t 5],B11⟩
abbrev L13_0 : CCode := (.seq (sR [uT 0 11 5,uT 1 12 0,oN 2 13 12 [12],oB 3 14 .lss 11 13 [11,13]] (sC 14 [0,1,5,14] 0)) (.seq (.block 1 (.seq (.reg true [uT 0 17 0,uT 1 18 5,uI 2 19 3 17 18,oM 3 20 3 19 [19],uT 4 21
1,uT 5 22 5,uI 6 23 3 21 22,oM 7 24 3 23 [23],oK 8 25 61 [.t 20,.t 24] [17,18,20,21,22,24],oE 9 26 25 [25]]) (sD 26 [0,1,5,26] [uY 0 4 false]))) (sI 15 16 5)))
abbrev B13 : CCode := (sR [oY 0 4 false [4]] (.seq (sR [uT 0 6 0,oN 1 7 6 [6],uT 2 8 1,oN 3 9 8 [8],oB 4 10 .neq 7 9 [7,9]] (sD 10 [0,1,10] [uY 0 4 false])) (sL 5 0 L13_0 (sR [uY 0 4 true] .ret))))
def C13 : CFn := ⟨27,2,[.t 4],B13⟩
abbrev B14 : CCode := (sR [oQ 0 2 3 0 [0],oQ 1 3 3 1 [1],oY 2 4 false [4]] (.seq (sR [uF 0 5 0 2,oL 1 6 1 5 [5],uF 2 7 0 3,oL 3 8 1 7 [7],oB 4 9 .neq 6 8 [6,8]] (sD 9 [2,3,9] [uY 0 4 false])) (.seq (sR [uF 0 10 1 2,oL 1
11 1 10 [10],uF 2 12 1 3,oL 3 13 1 12 [12],oK 4 14 62 [.t 11,.t 13] [11,13],oE 5 15 14 [14]] (sD 15 [2,3,15] [uY 0 4 false])) (.seq (sR [uF 0 16 2 2,oL 1 17 1 16 [16],uF 2 18 2 3,oL 3 19 1 18 [18],oK 4 20 63 [.t 17,.t
19] [2,3,17,19],oE 5 21 20 [20]] (sD 21 [21] [uY 0 4 false])) (sR [uY 0 4 true] .ret)))))
def C14 : CFn := ⟨22,2,[.t 4],B14⟩
abbrev B19 : CCode := (sR [oQ 0 2 2 0 [0],oZ 1 4 0 [4]] (sR [uF 0 5 0 2,oL 1 6 1 5 [5],oT 2 7 1 [1],oK 3 8 6 [.t 6,.t 7] [6,7],oT 4 1 8 [8]] (.seq (sR [uT 0 9 1,oC 1 10 .lss 9 0 [9]] (sD 10 [1,2,10] [uZ 0 4 (-1)])) (sR
[uF 0 11 1 2,oL 1 12 1 11 [11],oT 2 13 1 [1],oK 3 14 68 [.t 12,.t 13] [2,12,13],oT 4 1 14 [14]] (.seq (sR [uT 0 15 1,oC 1 16 .lss 15 0 [15]] (sD 16 [1,16] [uZ 0 4 (-1)])) (sR [oT 0 17 1 [1],oT 1 4 17 [17]] .ret))))))
def C19 : CFn := ⟨18,2,[.t 4],B19⟩
abbrev B20 : CCode := (sR [oQ 0 2 2 0 [0],oQ 1 3 3 1 [1],oY 2 4 false [4],oY 3 5 false [5]] (sR [uF 0 9 0 2,oL 1 10 1 9 [9],uM 2 11 3 3,oK 3 12 8 [.t 10,.t 11] [10,11],oT 4 8 12 [12],uU 5 13 8 0,oU 6 14 8 1 [8],oT 7 6
13 [13],oT 8 7 14 [14]] (.seq (sR [oT 0 15 7 [7],oE 1 16 15 [15],oT 2 17 16 [16],vM 3 18 2 2 17,gK 4 19 69 [.t 18] 17 [18],gE 5 20 19 17 [19],oO 6 21 17 20 [17,20],oT 7 22 21 [21],vF 8 23 2 3 22,gL 9 24 1 23 22 [23],gN
10 25 24 22 [3,24],gC 11 26 .gtr 25 0 22 [25],oO 12 27 22 26 [22,26]] (sD 27 [2,6,27] [uY 0 4 false,uY 1 5 false])) (sR [uM 0 28 2 2,oT 1 29 6 [6],uW 2 30 1 [.int .i64 (0)],oK 3 31 70 [.t 28,.t 29,.t 30] [2,28,29,30],oT
4 4 31 [31],uY 5 5 true] .ret))))
def C20 : CFn := ⟨32,2,[.t 4,.t 5],B20⟩
abbrev B21 : CCode := (sR [oQ 0 1 2 0 [0],uH 1 2 [.nils,.nils]] (sR [uH 0 3 [.nils,.nils]] (sR [uF 0 4 0 1,oL 1 5 1 4 [4],oK 2 6 9 [.t 5] [5],uF 3 7 0 3,oS 4 1 7 6 [6,7]] (sR [uF 0 8 1 1,oL 1 9 1 8 [8],oK 2 10 71 [.t 9]
[1,9],uF 3 11 1 3,oS 4 1 11 10 [10,11]] (sR [uM 0 12 2 3,oS 1 2 2 12 [3,12]] .ret)))))
def C21 : CFn := ⟨13,1,[.m 2 2 true],B21⟩
abbrev B22 : CCode := (sR [oQ 0 2 2 0 [0],oQ 1 3 3 1 [1],oY 2 4 false [4],oY 3 5 false [5]] (sR [uF 0 9 0 2,oL 1 10 1 9 [9],uM 2 11 3 3,oK 3 12 11 [.t 10,.t 11] [10,11],oT 4 8 12 [12],uU 5 13 8 0,oU 6 14 8 1 [8],oT 7 6
13 [13],oT 8 7 14 [14]] (.seq (sR [oT 0 15 7 [7],oE 1 16 15 [15],oT 2 17 16 [16],vM 3 18 2 2 17,gK 4 19 72 [.t 18] 17 [18],gE 5 20 19 17 [19],oO 6 21 17 20 [17,20],oT 7 22 21 [21],vF 8 23 2 3 22,gL 9 24 1 23 22 [23],gN
10 25 24 22 [3,24],gC 11 26 .gtr 25 0 22 [25],oO 12 27 22 26 [22,26]] (sD 27 [2,6,27] [uY 0 4 false,uY 1 5 false])) (sR [uM 0 28 2 2,oT 1 29 6 [6],oK 2 30 73 [.t 28,.t 29,(.c (.nils))] [2,28,29],oT 3 4 30 [30],uY 4 5
true] .ret))))
def C22 : CFn := ⟨31,2,[.t 4,.t 5],B22⟩
abbrev B23 : CCode := (sR [oQ 0 2 2 0 [0],oQ 1 3 2 1 [1],oY 2 4 false [4]] (.seq (sR [uF 0 5 0 2,oL 1 6 1 5 [5],uF 2 7 0 3,oL 3 8 1 7 [7],oK 4 9 13 [.t 6,.t 8] [6,8],oE 5 10 9 [9]] (sD 10 [2,3,10] [uY 0 4 false])) (.seq
(sR [uF 0 11 1 2,oL 1 12 1 11 [11],uF 2 13 1 3,oL 3 14 1 13 [13],oK 4 15 74 [.t 12,.t 14] [2,3,12,14],oE 5 16 15 [15]] (sD 16 [16] [uY 0 4 false])) (sR [uY 0 4 true] .ret))))
def C23 : CFn := ⟨17,2,[.t 4],B23⟩
abbrev B39 : CCode := (sR [oQ 0 2 3 0 [0],oZ 1 4 0 [4]] (sR [oT 0 5 1 [1],uF 1 6 0 2,oL 2 7 1 6 [2,6],oP 3 8 (.lens (.t 7)) [7],oB 4 9 .sub 5 8 [5,8],oT 5 1 9 [9]] (.seq (sR [uT 0 10 1,oC 1 11 .lss 10 0 [10]] (sD 11
[1,11] [uZ 0 4 (-1)])) (sR [oT 0 12 1 [1],oT 1 4 12 [12]] .ret))))
def C39 : CFn := ⟨13,2,[.t 4],B39⟩
abbrev L40_0 : CCode := (.seq (sR [uT 0 12 5,uT 1 13 0,oN 2 14 13 [13],oB 3 15 .lss 12 14 [12,14]] (sC 15 [0,5,15] 0)) (.seq (.block 1 (sR [uT 0 18 0,uT 1 19 5,uI 2 20 2 18 19,oM 3 21 2 20 [20],oT 4 22 1 [1],oK 5 23 104
[.t 21,.t 22] [18,19,21,22],oT 6 1 23 [23]] (sR [uT 0 24 1,oC 1 25 .lss 24 0 [24]] (sD 25 [0,1,5,25] [uZ 0 4 (-1)])))) (sI 16 17 5)))
abbrev B40 : CCode := (sR [oZ 0 4 0 [4]] (sR [oT 0 6 1 [1],uT 1 7 0,oN 2 8 7 [7],oB 3 9 .sub 6 8 [6,8],oT 4 1 9 [9]] (.seq (sR [uT 0 10 1,oC 1 11 .lss 10 0 [10]] (sD 11 [0,1,11] [uZ 0 4 (-1)])) (sL 5 0 L40_0 (sR [oT 0
26 1 [1],oT 1 4 26 [26]] .ret)))))
def C40 : CFn := ⟨27,2,[.t 4],B40⟩
abbrev B41 : CCode := (sR [oZ 0 4 0 [4]] (sR [oT 0 5 1 [1],oT 1 6 0 [0],oN 2 7 6 [6],oB 3 8 .sub 5 7 [5,7],oT 4 1 8 [8]] (.seq (sR [uT 0 9 1,oC 1 10 .lss 9 0 [9]] (sD 10 [1,10] [uZ 0 4 (-1)])) (sR [oT 0 11 1 [1],oT 1 4
11 [11]] .ret))))
def C41 : CFn := ⟨12,2,[.t 4],B41⟩
abbrev L42_1 : CCode := (.seq (sR [uT 0 18 6,uF 1 19 1 3,oL 2 20 1 19 [19],oN 3 21 20 [20],oB 4 22 .lss 18 21 [18,21]] (sC 22 [6,22] 2)) (.seq (.block 3 (sR [uT 0 25 0,uM 1 26 3 3,uT 2 27 5,uT 3 28 6,oK 4 29 105 [.t
25,.t 26,.t 27,.t 28] [25,26,27,28],oT 5 30 29 [29],wT 6 31 0 30,wM 7 32 3 3 30,wT 8 33 5 30,wT 9 34 6 30,hK 10 35 106 [.t 31,.t 32,.t 33,.t 34] 30 [31,32,33,34],hE 11 36 35 30 [35],oA 12 37 30 36 [30,36],oT 13 38 37
[37],wT 14 39 0 38,wM 15 40 3 3 38,wT 16 41 6 38,wT 17 42 5 38,hK 18 43 107 [.t 39,.t 40,.t 41,.t 42] 38 [39,40,41,42],oA 19 44 38 43 [38,43]] (sD 44 [0,3,5,6,44] [uZ 0 4 3]))) (sI 23 24 6)))
abbrev L42_0 : CCode := (.seq (sR [uT 0 11 5,uF 1 12 1 3,oL 2 13 1 12 [12],oN 3 14 13 [13],oB 4 15 .lss 11 14 [11,14]] (sC 15 [5,15] 0)) (.seq (.block 1 (sR [uZ 0 6 0] (.block 2 (.loop L42_1)))) (sI 16 17 5)))
abbrev B42 : CCode := (sR [oQ 0 3 3 1 [1],oZ 1 4 0 [4]] (.seq (sR [uT 0 7 0,uM 1 8 3 3,oK 2 9 80 [.t 7,.t 8] [7,8],oE 3 10 9 [9]] (sD 10 [0,3,10] [uZ 0 4 0])) (sL 5 0 L42_0 (.seq (sR [oT 0 45 0 [0],uM 1 46 3 3,oK 2 47
108 [.t 45,.t 46] [3,45,46]] (sD 47 [47] [uZ 0 4 2])) (sR [uZ 0 4 1] .ret)))))
def C42 : CFn := ⟨48,2,[.t 4],B42⟩
abbrev L43_0 : CCode := (.seq (sR [uT 0 12 4,uF 1 13 1 1,oL 2 14 1 13 [13],oN 3 15 14 [14],oB 4 16 .lss 12 15 [12,15]] (sC 16 [1,4,16] 0)) (.seq (.block 1 (.reg true [uF 0 19 1 3,uL 1 20 1 19,uF 2 21 1 1,uL 3 22 1 21,uT
4 23 4,oI 5 24 2 22 23 [22],oF 6 25 0 24 [24],uL 7 26 1 25,uW 8 27 1 [.int .i64 (0)],uF 9 28 1 1,oL 10 29 1 28 [28],uT 11 30 4,oI 12 31 2 29 30 [29],oF 13 32 1 31 [31],oL 14 33 1 32 [32],(15,⟨some 34,.app 1 8 (.t 27)
(.t 33),none,[(19,1),(21,1),(25,1)],[19,21,23,25,27,30,33]⟩),oP 16 35 (.bld [.int .i64 (0),.nils] [(0,1,(.t 26)),(1,1,(.t 34))]) [26,34],oP 17 36 (.bsl 2 1 [.int .i64 (0),.nils] [(0,2,(.t 35))]) [35],oX 18 37 2 32 20 36
[20,36],uF 19 38 1 3,oS 20 1 38 37 [37,38]])) (sI 17 18 4)))
abbrev B43 : CCode := (sR [oQ 0 1 3 0 [0],uH 1 2 [.int .i64 (0),.nils,.nils]] (.seq (.reg true [uF 0 5 0 1,uL 1 6 1 5,uW 2 7 1 [.int .i64 (0)],uF 3 8 2 1,oL 4 9 1 8 [8],uH 7 3 [.int .i64 (0),.nils,.nils],(5,⟨some
10,.app 1 8 (.t 7) (.t 9),none,[(5,1)],[5,7,9]⟩),oP 6 11 (.bld [.int .i64 (0),.nils,.nils] [(0,1,(.t 6)),(2,1,(.t 10))]) [6,10],oS 8 3 3 11 [11]]) (sL 4 0 L43_0 (sR [uM 0 39 3 3,oS 1 3 2 39 [3,39]] .ret))))
def C43 : CFn := ⟨40,1,[.m 2 3 true],B43⟩
abbrev L44_1 : CCode := (.seq (sR [uT 0 15 7,uF 1 16 1 3,oL 2 17 1 16 [16],oN 3 18 17 [17],oB 4 19 .lss 15 18 [15,18]] (sC 19 [7,19] 2)) (.seq (.block 3 (.reg false [oT 0 22 6 [6],oT 1 23 22 [22],vT 2 24 0 23,vM 3 25 3
3 23,vT 4 26 7 23,vT 5 27 5 23,gK 6 28 109 [.t 24,.t 25,.t 26,.t 27] 23 [24,25,26,27],oO 7 29 23 28 [23,28],oT 8 6 29 [29]])) (sI 20 21 7)))
abbrev L44_0 : CCode := (.seq (sR [uT 0 8 5,uF 1 9 1 3,oL 2 10 1 9 [9],oN 3 11 10 [10],oB 4 12 .lss 8 11 [8,11]] (sC 12 [0,3,5,12] 0)) (.seq (.block 1 (sR [uY 0 6 false] (sL 7 2 L44_1 (sR [oT 0 30 6 [6],oE 1 31 30 [30]]
(sD 31 [0,3,31] [oT 0 32 5 [5],oT 1 4 32 [32]]))))) (sI 13 14 5)))
abbrev B44 : CCode := (sR [oQ 0 3 3 1 [1],oZ 1 4 0 [4]] (sL 5 0 L44_0 (sR [uZ 0 4 (-1)] .ret)))
def C44 : CFn := ⟨33,2,[.t 4],B44⟩
abbrev L45_0 : CCode := (.seq (sR [uT 0 6 5,uT 1 7 0,oN 2 8 7 [7],oB 3 9 .lss 6 8 [6,8]] (sC 9 [0,1,5,9] 0)) (.seq (.block 1 (sR [uT 0 12 0,uT 1 13 5,uI 2 14 1 12 13,oL 3 15 1 14 [12,13,14],uT 4 16 1,oB 5 17 .eql 15 16
[15,16]] (sD 17 [0,1,5,17] [uY 0 4 true]))) (sI 10 11 5)))
abbrev B45 : CCode := (sR [oY 0 4 false [4]] (sL 5 0 L45_0 (sR [uY 0 4 false] .ret)))
def C45 : CFn := ⟨18,2,[.t 4],B45⟩
abbrev B46 : CCode := (sR [oQ 0 3 2 1 [1],oV 1 4 [4]] (.seq (.seq (.reg true [uF 0 5 0 3,oL 1 6 1 5 [5],uT 2 7 0,oN 3 8 7 [7],oC 4 9 .sub 8 1 [8],oK 5 10 110 [.t 6,(.c (.int .i64 0)),.t 9] [6,9],oE 6 11 10 [10],oT 7 12
11 [11],vT 8 13 0 12,vF 9 14 0 3 12,gL 10 15 1 14 12 [14],vI 11 16 3 13 15 12,gF 12 17 2 16 12 [16],gL 13 18 1 17 12 [13,15,17],vF 14 19 1 3 12,gL 15 20 1 19 12 [19],gN 16 21 20 12 [20],gK 17 22 110 [.t 18,(.c (.int
.i64 0)),.t 21] 12 [18,21],gE 18 23 22 12 [22],oO 19 24 12 23 [12,23]]) (sD 24 [0,3,24] [uW 0 25 1 [.int .i64 (0)],oT 1 4 25 [25]])) (.seq (.reg true [uF 0 26 1 3,oL 1 27 1 26 [26],oT 2 28 0 [0],uF 3 29 0 3,oL 4 30 1 29
[29],uI 5 31 3 28 30,oF 6 32 2 31 [31],oL 7 33 1 32 [28,30,32],oP 8 34 (.sls 1 (.t 27) none (some (.t 33)) none) [3,27,33],oP 9 35 (.bld [.int .i64 (0),.nils] [(1,1,(.t 34))]) [34],oK 10 36 111 [.t 35] [35],oT 11 4 36
[36]]) .ret)))
def C46 : CFn := ⟨37,2,[.t 4],B46⟩
abbrev B47 : CCode := (sR [oQ 0 2 3 0 [0],uH 1 4 [.int .i64 (0),.nils,.nils]] (sR [uM 0 6 3 2,uT 1 7 1,oK 2 8 112 [.t 6,.t 7] [6,7],uH 3 5 [.int .i64 (0),.nils,.nils],oS 4 3 5 8 [8]] (.seq (.reg true [uF 0 9 2 2,uL 1 10
1 9,uF 2 11 1 2,oL 3 12 1 11 [11],oT 4 13 1 [1],oI 5 14 2 12 13 [12],oM 6 15 2 14 [14],(7,⟨some 16,.call 111 [.t 15],none,[(9,1)],[9,13,15]⟩),oK 8 17 113 [.t 10,.t 16] [2,10,16],uF 9 18 2 5,oS 10 1 18 17 [17,18]]) (sR
[uM 0 19 3 5,oS 1 3 4 19 [5,19]] .ret))))
def C47 : CFn := ⟨20,2,[.m 4 3 true],B47⟩
abbrev B48 : CCode := (sR [oQ 0 1 3 0 [0],uP 1 2 (.al [.str [],.int .i64 (0),.int .i64 (0)])] (sR [uP 0 3 (.al [.str [],.int .i64 (0),.int .i64 (0)])] (sR [uF 0 4 0 1,oL 1 5 1 4 [4],uF 2 6 0 3,oS 3 1 6 5 [5,6]] (sR [uF
0 7 1 1,oL 1 8 1 7 [7],uF 2 9 1 3,oS 3 1 9 8 [8,9]] (sR [uF 0 10 2 1,oL 1 11 1 10 [1,10],uF 2 12 2 3,oS 3 1 12 11 [11,12]] (sR [uM 0 13 3 3,oS 1 3 2 13 [3,13]] .ret))))))
def C48 : CFn := ⟨14,1,[.m 2 3 true],B48⟩
abbrev L49_0 : CCode := (.seq (sR [uT 0 8 4,uT 1 9 0,oN 2 10 9 [9],oB 3 11 .lss 8 10 [8,10]] (sC 11 [0,4,11] 0)) (.seq (.block 1 (.reg false [uT 0 14 3,uT 1 15 4,uT 2 16 0,uT 3 17 4,uI 4 18 2 16 17,oM 5 19 2 18 [18],oK
6 20 114 [.t 19] [16,17,19],uI 7 21 2 14 15,oS 8 2 21 20 [14,15,20,21]])) (sI 12 13 4)))
abbrev B49 : CCode := (sR [oV 0 2 [2]] (sR [uT 0 5 0,oN 1 6 5 [5],oP 2 7 (.mk 2 32 [.int .i64 (0),.nils] (.t 6) (.t 6)) [6],oT 3 3 7 [7]] (sL 4 0 L49_0 (sR [oT 0 22 3 [3],oT 1 2 22 [22]] .ret))))
def C49 : CFn := ⟨23,1,[.t 2],B49⟩
abbrev L50_0 : CCode := (.seq (sR [uT 0 8 4,uT 1 9 0,oN 2 10 9 [9],oB 3 11 .lss 8 10 [8,10]] (sC 11 [0,4,11] 0)) (.seq (.block 1 (.reg false [uT 0 14 3,uT 1 15 4,uT 2 16 0,uT 3 17 4,uI 4 18 1 16 17,oL 5 19 1 18
[16,17,18],uI 6 20 1 14 15,oS 7 1 20 19 [14,15,19,20]])) (sI 12 13 4)))
abbrev B50 : CCode := (sR [oV 0 2 [2]] (sR [uT 0 5 0,oN 1 6 5 [5],oP 2 7 (.mk 1 8 [.int .i64 (0)] (.t 6) (.t 6)) [6],oT 3 3 7 [7]] (sL 4 0 L50_0 (sR [oT 0 21 3 [3],oT 1 2 21 [21]] .ret))))
def C50 : CFn := ⟨22,1,[.t 2],B50⟩
abbrev L51_1 : CCode := (sR [uB 0 21 .lss 20 19] (.seq (sC 21 [5,19,20,21] 2) (.seq (.block 3 (sR [uT 0 22 20,oT 1 6 22 [22]] (sR [uT 0 23 0,uM 1 24 3 3,uT 2 25 5,uT 3 26 6,oK 4 27 116 [.t 23,.t 24,.t 25,.t 26]
[23,24,25,26],oT 5 28 27 [27],wT 6 29 0 28,wM 7 30 3 3 28,wT 8 31 5 28,wT 9 32 6 28,hK 10 33 117 [.t 29,.t 30,.t 31,.t 32] 28 [29,30,31,32],hE 11 34 33 28 [33],oA 12 35 28 34 [28,34],oT 13 36 35 [35],wT 14 37 0 36,wM 15
38 3 3 36,hT 16 39 6 36 [6],wT 17 40 5 36,hK 18 41 118 [.t 37,.t 38,.t 39,.t 40] 36 [37,38,39,40],oA 19 42 36 41 [36,41]] (sD 42 [0,3,5,13,14,19,20,42] [uZ 0 4 3])))) (.reg false [oC 0 43 .add 20 1 [20],oT 1 20 43
[43]]))))
abbrev L51_0 : CCode := (sR [uB 0 15 .lss 14 13] (.seq (sC 15 [13,14,15] 0) (.seq (.block 1 (sR [uT 0 16 14,oT 1 5 16 [16]] (sR [uF 0 17 1 3,oL 1 18 1 17 [17],oN 2 19 18 [18],uZ 3 20 0] (.block 2 (.loop L51_1))))) (.reg
false [oC 0 44 .add 14 1 [14],oT 1 14 44 [44]]))))
abbrev B51 : CCode := (sR [oQ 0 3 3 1 [1],oZ 1 4 0 [4]] (.seq (sR [uT 0 7 0,uM 1 8 3 3,oK 2 9 115 [.t 7,.t 8] [7,8],oE 3 10 9 [9]] (sD 10 [0,3,10] [uZ 0 4 0])) (.seq (sR [uF 0 11 1 3,oL 1 12 1 11 [11],oN 2 13 12 [12],uZ
3 14 0] (.block 0 (.loop L51_0))) (.seq (sR [oT 0 45 0 [0],uM 1 46 3 3,oK 2 47 119 [.t 45,.t 46] [3,45,46]] (sD 47 [47] [uZ 0 4 2])) (sR [uZ 0 4 1] .ret)))))
def C51 : CFn := ⟨48,2,[.t 4],B51⟩
abbrev L52_1 : CCode := (sR [uB 0 20 .lss 19 18] (.seq (sC 20 [18,19,20] 2) (.seq (.block 3 (sR [uT 0 21 19,oT 1 10 21 [21]] (.reg false [oT 0 22 9 [9],oT 1 23 22 [22],wT 2 24 0 23,wT 3 25 1 23,wT 4 26 2 23,hT 5 27 10
23 [10],wT 6 28 8 23,hK 7 29 120 [.t 24,.t 25,.t 26,.t 27,.t 28] 23 [24,25,26,27,28],hE 8 30 29 23 [29],oA 9 31 23 30 [23,30],oT 10 9 31 [31]]))) (.reg false [oC 0 32 .add 19 1 [19],oT 1 19 32 [32]]))))
abbrev L52_0 : CCode := (sR [uB 0 15 .lss 14 13] (.seq (sC 15 [0,1,2,13,14,15] 0) (.seq (.block 1 (sR [uT 0 16 14,oT 1 8 16 [16]] (sR [uY 0 9 true] (.seq (sR [uT 0 17 1,oN 1 18 17 [17],uZ 2 19 0] (.block 2 (.loop
L52_1))) (sR [oT 0 33 9 [9]] (.cond (.t 33) (sK [33] (.reg false [oT 0 34 7 [7],oT 1 35 8 [8],oP 2 36 (.bsl 1 1 [.int .i64 (0)] [(0,1,(.t 35))]) [35],oX 3 37 1 8 34 36 [34,36],oT 4 7 37 [37]])) (sK [8,33] .skip)))))))
(.reg false [oC 0 38 .add 14 1 [14],oT 1 14 38 [38]]))))
abbrev B52 : CCode := (sR [oV 0 6 [6]] (sR [uW 0 11 1 [.int .i64 (0)],oT 1 7 11 [11]] (.seq (sR [uT 0 12 1,oN 1 13 12 [12],uZ 2 14 0] (.block 0 (.loop L52_0))) (sR [oT 0 39 7 [7],oT 1 6 39 [39]] .ret))))
def C52 : CFn := ⟨40,3,[.t 6],B52⟩
abbrev B53 : CCode := (sR [oQ 0 1 2 0 [0],uH 1 2 [.int .i64 (0),.nils]] (.seq (.reg true [uF 0 3 0 1,uL 1 4 1 3,uW 2 5 1 [.int .i64 (0)],uF 3 6 1 1,oL 4 7 1 6 [6],(5,⟨some 8,.app 1 8 (.t 5) (.t
7),none,[(3,1)],[1,3,5,7]⟩),oP 6 9 (.bld [.int .i64 (0),.nils] [(0,1,(.t 4)),(1,1,(.t 8))]) [4,8],oS 7 2 2 9 [9]]) .ret))
def C53 : CFn := ⟨10,1,[.m 2 2 true],B53⟩
abbrev B54 : CCode := (sR [oQ 0 3 2 1 [1],oV 1 4 [4]] (.seq (.seq (.reg true [uF 0 5 0 3,oL 1 6 1 5 [5],uT 2 7 0,oN 3 8 7 [7],oC 4 9 .sub 8 1 [8],oK 5 10 121 [.t 6,(.c (.int .i64 0)),.t 9] [6,9],oE 6 11 10 [10],oT 7 12
11 [11],vT 8 13 0 12,vF 9 14 0 3 12,gL 10 15 1 14 12 [14],vI 11 16 3 13 15 12,gF 12 17 2 16 12 [16],gL 13 18 1 17 12 [13,15,17],vF 14 19 1 3 12,gL 15 20 1 19 12 [19],gN 16 21 20 12 [20],gK 17 22 121 [.t 18,(.c (.int
.i64 0)),.t 21] 12 [18,21],gE 18 23 22 12 [22],oO 19 24 12 23 [12,23]]) (sD 24 [0,3,24] [uV 0 4])) (.seq (.reg true [uF 0 25 1 3,oL 1 26 1 25 [25],oT 2 27 0 [0],uF 3 28 0 3,oL 4 29 1 28 [28],uI 5 30 3 27 29,oF 6 31 2 30
[30],oL 7 32 1 31 [27,29,31],oP 8 33 (.sls 1 (.t 26) none (some (.t 32)) none) [3,26,32],oP 9 34 (.bld [.int .i64 (0),.nils] [(1,1,(.t 33))]) [33],oK 10 35 55 [.t 34] [34],oT 11 4 35 [35]]) .ret)))
def C54 : CFn := ⟨36,2,[.t 4],B54⟩
abbrev L55_0 : CCode := (sR [uB 0 11 .lss 10 9] (.seq (sC 11 [1,8,9,10,11] 0) (.seq (.block 1 (sR [uI 0 12 1 8 10,oL 1 13 1 12 [12],oT 2 5 13 [13]] (sR [uT 0 14 5,oK 1 15 121 [.t 14,(.c (.int .i64 0)),(.c (.int .i64
3))] [14]] (.cond (.t 15) (sK [15] (.reg false [oT 0 16 3 [3],oT 1 17 5 [5],oP 2 18 (.bsl 1 1 [.int .i64 (0)] [(0,1,(.t 17))]) [17],oX 3 19 1 8 16 18 [16,18],oT 4 3 19 [19]])) (sK [5,15] .skip))))) (.reg false [oC 0 20
.add 10 1 [10],oT 1 10 20 [20]]))))
abbrev B55 : CCode := (sR [oQ 0 1 2 0 [0],oV 1 2 [2]] (sR [uW 0 6 1 [.int .i64 (0)],oT 1 3 6 [6]] (.seq (sR [uF 0 7 1 1,oL 1 8 1 7 [7],uN 2 9 8,uZ 3 10 0] (.block 0 (.loop L55_0))) (sR [oT 0 21 3 [3],oK 1 22 57 [.t
21,(.c (.nils))] [21],oT 2 2 22 [22]] .ret))))
def C55 : CFn := ⟨23,1,[.t 2],B55⟩
abbrev L56_0 : CCode := (sR [uB 0 12 .lss 11 10] (.seq (sC 12 [1,9,10,11,12] 0) (.seq (.block 1 (sR [uI 0 13 1 9 11,oL 1 14 1 13 [13],oT 2 7 14 [14]] (sR [uT 0 15 1,uT 1 16 7,oK 2 17 97 [.t 15,.t 16] [15,16],oE 3 18 17
[17]] (.cond (.t 18) (sK [18] (.reg false [oT 0 19 5 [5],oT 1 20 7 [7],oP 2 21 (.bsl 1 1 [.int .i64 (0)] [(0,1,(.t 20))]) [20],oX 3 22 1 8 19 21 [19,21],oT 4 5 22 [22]])) (sK [7,18] .skip))))) (.reg false [oC 0 23 .add
11 1 [11],oT 1 11 23 [23]]))))
abbrev B56 : CCode := (sR [oV 0 4 [4]] (sR [uW 0 8 1 [.int .i64 (0)],oT 1 5 8 [8]] (.seq (sR [oT 0 9 0 [0],uN 1 10 9,uZ 2 11 0] (.block 0 (.loop L56_0))) (sR [oT 0 24 5 [5],oT 1 4 24 [24]] .ret))))
def C56 : CFn := ⟨25,2,[.t 4],B56⟩
abbrev B57 : CCode := (sR [oV 0 4 [4]] (sR [oT 0 6 0 [0],oT 1 7 1 [1],oP 2 8 (.bsl 1 2 [.nils] [(0,1,(.t 6)),(1,1,(.t 7))]) [6,7],oK 3 9 122 [.t 8] [8],oT 4 5 9 [9]] (sR [uT 0 10 5,oK 1 11 123 [.t 10] [10,11]] (sR [oT 0
12 5 [5],oK 1 13 124 [.t 12] [12],oT 2 4 13 [13]] .ret))))
def C57 : CFn := ⟨14,2,[.t 4],B57⟩
abbrev B58 : CCode := (sR [oV 0 6 [6]] (sR [uT 0 8 0,uT 1 9 1,uT 2 10 2,uT 3 11 0,oN 4 12 11 [11],oP 5 13 (.slx 2 (.t 8) (some (.t 9)) (some (.t 10)) (some (.t 12))) [8,9,10,12,13]] (.seq (sR [uT 0 14 1,uT 1 15 2,oB 2
16 .eql 14 15 [14,15]] (sD 16 [1,2,16] [uT 0 17 0,oT 1 6 17 [17]])) (sR [uT 0 18 0,oN 1 19 18 [18],oT 2 7 19 [19]] (.seq (.reg true [uT 0 20 0,oT 1 21 1 [1],oP 2 22 (.sls 2 (.t 20) none (some (.t 21)) none) [20,21],oT 3
23 0 [0],oT 4 24 2 [2],oP 5 25 (.sls 2 (.t 23) (some (.t 24)) none none) [23,24],oX 6 26 2 32 22 25 [22,25],oT 7 0 26 [26]]) (sR [uT 0 27 0,uT 1 28 0,oN 2 29 28 [28],oT 3 30 7 [7],oP 4 31 (.slx 2 (.t 27) (some (.t 29))
(some (.t 30)) none) [27,29,30],(5,⟨none,.clr 2 [.int .i64 (0),.nils] (.t 31),none,[],[31]⟩)] (sR [uT 0 32 0,oT 1 6 32 [32]] .ret)))))))
def C58 : CFn := ⟨33,3,[.t 6],B58⟩
abbrev B59 : CCode := (sR [oV 0 2 [2]] (.seq (sR [uT 0 3 0,oP 1 4 (.isnil false (.t 3)) [3]] (sD 4 [0,4] [uV 0 2])) (sR [uW 0 5 2 [.int .i64 (0),.nils],oT 1 6 0 [0],oX 2 7 2 32 5 6 [5,6],oT 3 2 7 [7]] .ret)))
def C59 : CFn := ⟨8,1,[.t 2],B59⟩
abbrev B61 : CCode := (sR [oQ 0 2 3 0 [0],oQ 1 3 3 1 [1],oY 2 4 false [4]] (.seq (sR [uF 0 5 0 2,oL 1 6 1 5 [5],uF 2 7 0 3,oL 3 8 1 7 [7],oB 4 9 .neq 6 8 [6,8]] (sD 9 [2,3,9] [uY 0 4 false])) (.seq (sR [uF 0 10 1 2,oL 1
11 1 10 [10],uF 2 12 1 3,oL 3 13 1 12 [12],oB 4 14 .neq 11 13 [11,13]] (sD 14 [2,3,14] [uY 0 4 false])) (.seq (sR [uF 0 15 2 2,oL 1 16 1 15 [2,15],uF 2 17 2 3,oL 3 18 1 17 [3,17],oB 4 19 .neq 16 18 [16,18]] (sD 19 [19]
[uY 0 4 false])) (sR [uY 0 4 true] .ret)))))
def C61 : CFn := ⟨20,2,[.t 4],B61⟩
abbrev L62_0 : CCode := (.seq (sR [uT 0 11 5,uT 1 12 0,oN 2 13 12 [12],oB 3 14 .lss 11 13 [11,13]] (sC 14 [0,1,5,14] 0)) (.seq (.block 1 (.seq (.reg true [uT 0 17 0,uT 1 18 5,uI 2 19 2 17 18,oM 3 20 2 19 [19],uT 4 21
1,uT 5 22 5,uI 6 23 2 21 22,oM 7 24 2 23 [23],oK 8 25 125 [.t 20,.t 24] [17,18,20,21,22,24],oE 9 26 25 [25]]) (sD 26 [0,1,5,26] [uY 0 4 false]))) (sI 15 16 5)))
abbrev B62 : CCode := (sR [oY 0 4 false [4]] (.seq (sR [uT 0 6 0,oN 1 7 6 [6],uT 2 8 1,oN 3 9 8 [8],oB 4 10 .neq 7 9 [7,9]] (sD 10 [0,1,10] [uY 0 4 false])) (sL 5 0 L62_0 (sR [uY 0 4 true] .ret))))
def C62 : CFn := ⟨27,2,[.t 4],B62⟩
abbrev L63_0 : CCode := (.seq (sR [uT 0 11 5,uT 1 12 0,oN 2 13 12 [12],oB 3 14 .lss 11 13 [11,13]] (sC 14 [0,1,5,14] 0)) (.seq (.block 1 (.seq (.reg true [uT 0 17 0,uT 1 18 5,uI 2 19 1 17 18,oL 3 20 1 19 [17,18,19],uT 4
21 1,uT 5 22 5,uI 6 23 1 21 22,oL 7 24 1 23 [21,22,23],oB 8 25 .neq 20 24 [20,24]]) (sD 25 [0,1,5,25] [uY 0 4 false]))) (sI 15 16 5)))
abbrev B63 : CCode := (sR [oY 0 4 false [4]] (.seq (sR [uT 0 6 0,oN 1 7 6 [6],uT 2 8 1,oN 3 9 8 [8],oB 4 10 .neq 7 9 [7,9]] (sD 10 [0,1,10] [uY 0 4 false])) (sL 5 0 L63_0 (sR [uY 0 4 true] .ret))))
def C63 : CFn := ⟨26,2,[.t 4],B63⟩
abbrev L68_0 : CCode := (.seq (sR [uT 0 12 5,uT 1 13 0,oN 2 14 13 [13],oB 3 15 .lss 12 14 [12,14]] (sC 15 [0,5,15] 0)) (.seq (.block 1 (sR [uT 0 18 0,uT 1 19 5,uI 2 20 2 18 19,oM 3 21 2 20 [20],oT 4 22 1 [1],oK 5 23 126
[.t 21,.t 22] [18,19,21,22],oT 6 1 23 [23]] (sR [uT 0 24 1,oC 1 25 .lss 24 0 [24]] (sD 25 [0,1,5,25] [uZ 0 4 (-1)])))) (sI 16 17 5)))
abbrev B68 : CCode := (sR [oZ 0 4 0 [4]] (sR [oT 0 6 1 [1],uT 1 7 0,oN 2 8 7 [7],oB 3 9 .sub 6 8 [6,8],oT 4 1 9 [9]] (.seq (sR [uT 0 10 1,oC 1 11 .lss 10 0 [10]] (sD 11 [0,1,11] [uZ 0 4 (-1)])) (sL 5 0 L68_0 (sR [oT 0
26 1 [1],oT 1 4 26 [26]] .ret)))))
def C68 : CFn := ⟨27,2,[.t 4],B68⟩
abbrev L69_0 : CCode := (.seq (sR [uT 0 4 3,uF 1 5 1 1,oL 2 6 1 5 [5],oN 3 7 6 [6],oB 4 8 .lss 4 7 [4,7]] (sC 8 [3,8] 0)) (.seq (.block 1 (.seq (.reg true [uF 0 11 0 1,oL 1 12 1 11 [11],uF 2 13 1 1,oL 3 14 1 13 [13],uT
4 15 3,oI 5 16 2 14 15 [14],oM 6 17 2 16 [16],oK 7 18 127 [.t 12,.t 17] [12,15,17],oE 8 19 18 [18],oT 9 20 19 [19],vT 10 21 3 20,gC 11 22 .gtr 21 0 20 [21],gT 12 23 22 20 [22],wF 13 24 1 1 23,hL 14 25 1 24 23 [24],wT 15
26 3 23,hC 16 27 .sub 26 1 23 [26],hI 17 28 2 25 27 23 [25],hM 18 29 2 28 23 [28],wF 19 30 1 1 23,hL 20 31 1 30 23 [30],wT 21 32 3 23,hI 22 33 2 31 32 23 [31],hM 23 34 2 33 23 [33],hK 24 35 128 [.t 29,.t 34] 23
[27,29,32,34],hC 25 36 .geq 35 0 23 [35],gA 26 37 23 36 20 [23,36],oO 27 38 20 37 [20,37]]) (sD 38 [1,3,38] [uY 0 2 false]))) (sI 9 10 3)))
abbrev B69 : CCode := (sR [oQ 0 1 2 0 [0],oY 1 2 false [2]] (sL 3 0 L69_0 (sR [uF 0 39 0 1,oL 1 40 1 39 [39],oK 2 41 129 [.t 40] [40],oT 3 42 41 [41],wF 4 43 1 1 42,hL 5 44 1 43 42 [43],hN 6 45 44 42 [1,44],hC 7 46 .leq
45 14 42 [45],oA 8 47 42 46 [42,46],oT 9 2 47 [47]] .ret)))
def C69 : CFn := ⟨48,1,[.t 2],B69⟩
abbrev L70_0 : CCode := (.seq (sR [uT 0 25 8,uT 1 26 2,oN 2 27 26 [26],oB 3 28 .lss 25 27 [25,27]] (sC 28 [2,8,28] 0)) (.seq (.block 1 (.reg false [uT 0 31 7,uT 1 32 8,uT 2 33 2,uT 3 34 8,uI 4 35 1 33 34,oL 5 36 1 35
[33,34,35],oP 6 37 (.max (.c (.int .i64 (-1))) (.t 36)) [36],uI 7 38 1 31 32,oS 8 1 38 37 [31,32,37,38]])) (sI 29 30 8)))
abbrev B70 : CCode := (sR [oQ 0 3 2 0 [0],oY 1 6 false [6]] (.seq (sR [uM 0 9 2 3,oK 1 10 69 [.t 9] [9],oE 2 11 10 [10],oT 3 12 11 [11],vF 4 13 0 3 12,gL 5 14 1 13 12 [13],vT 6 15 1 12,gK 7 16 130 [.t 14,.t 15] 12
[14,15],gE 8 17 16 12 [16],oO 9 18 12 17 [12,17],oT 10 19 18 [18],vT 11 20 2 19,gN 12 21 20 19 [20],gC 13 22 .gtr 21 4 19 [21],oO 14 23 19 22 [19,22]] (sD 23 [1,2,3,23] [uY 0 6 false])) (sR [uK 0 24 131 [(.c (.int .i64
4))],oT 1 7 24 [24]] (sL 8 0 L70_0 (sR [uM 0 39 2 3,oT 1 40 1 [1],oT 2 41 7 [7],oK 3 42 132 [.t 39,.t 40,(.c (.int .i64 0)),.t 41] [3,39,40,41],oT 4 6 42 [42]] .ret)))))
def C70 : CFn := ⟨43,3,[.t 6],B70⟩
abbrev L71_0 : CCode := (.seq (sR [uT 0 8 4,uT 1 9 0,oN 2 10 9 [9],oB 3 11 .lss 8 10 [8,10]] (sC 11 [0,4,11] 0)) (.seq (.block 1 (.reg false [uT 0 14 3,uT 1 15 4,uT 2 16 0,uT 3 17 4,uI 4 18 2 16 17,oM 5 19 2 18 [18],oK
6 20 133 [.t 19] [16,17,19],uI 7 21 2 14 15,oS 8 2 21 20 [14,15,20,21]])) (sI 12 13 4)))
abbrev B71 : CCode := (sR [oV 0 2 [2]] (sR [uT 0 5 0,oN 1 6 5 [5],oP 2 7 (.mk 2 32 [.int .i64 (0),.nils] (.t 6) (.t 6)) [6],oT 3 3 7 [7]] (sL 4 0 L71_0 (sR [oT 0 22 3 [3],oT 1 2 22 [22]] .ret))))
def C71 : CFn := ⟨23,1,[.t 2],B71⟩
abbrev L72_0 : CCode := (sR [uB 0 19 .lss 18 17] (.seq (sC 19 [1,16,17,18,19] 0) (.seq (.block 1 (sR [uT 0 20 18,uI 1 21 2 16 18,oM 2 22 2 21 [21],uH 3 4 [.int .i64 (0),.nils],oT 4 3 20 [20],oS 5 2 4 22 [22]] (.seq
(.reg true [uF 0 23 0 1,oL 1 24 1 23 [23],uM 2 25 2 4,oK 3 26 135 [.t 24,.t 25] [24,25],oE 4 27 26 [26],oT 5 28 27 [27],vT 6 29 3 28,gC 7 30 .gtr 29 0 28 [29],gT 8 31 30 28 [30],wF 9 32 1 1 31,hL 10 33 1 32 31 [32],hT
11 34 3 31 [3],hC 12 35 .sub 34 1 31 [34],hI 13 36 2 33 35 31 [33],hM 14 37 2 36 31 [36],wM 15 38 2 4 31,hK 16 39 136 [.t 37,.t 38] 31 [4,35,37,38],hC 17 40 .geq 39 0 31 [39],gA 18 41 31 40 28 [31,40],oO 19 42 28 41
[28,41]]) (sD 42 [1,16,17,18,42] [uY 0 2 false])))) (.reg false [oC 0 43 .add 18 1 [18],oT 1 18 43 [43]]))))
abbrev B72 : CCode := (sR [oQ 0 1 2 0 [0],oY 1 2 false [2]] (.seq (sR [uF 0 5 0 1,oL 1 6 1 5 [5],oK 2 7 134 [.t 6] [6],oE 3 8 7 [7],oT 4 9 8 [8],vF 5 10 1 1 9,gL 6 11 1 10 9 [10],gN 7 12 11 9 [11],gC 8 13 .gtr 12 14 9
[12],oO 9 14 9 13 [9,13]] (sD 14 [1,14] [uY 0 2 false])) (.seq (sR [uF 0 15 1 1,oL 1 16 1 15 [15],uN 2 17 16,uZ 3 18 0] (.block 0 (.loop L72_0))) (sR [uY 0 2 true] .ret))))
def C72 : CFn := ⟨44,1,[.t 2],B72⟩
abbrev B73 : CCode := (sR [oQ 0 3 2 0 [0],oY 1 6 false [6]] (.seq (sR [uM 0 8 2 3,oK 1 9 72 [.t 8] [8],oE 2 10 9 [9],oT 3 11 10 [10],vF 4 12 0 3 11,gL 5 13 1 12 11 [12],vT 6 14 1 11,gK 7 15 137 [.t 13,.t 14] 11
[13,14],gE 8 16 15 11 [15],oO 9 17 11 16 [11,16],oT 10 18 17 [17],vT 11 19 2 18,gN 12 20 19 18 [19],gC 13 21 .gtr 20 4 18 [20],oO 14 22 18 21 [18,21]] (sD 22 [1,2,3,22] [uY 0 6 false])) (sR [uK 0 23 138 [(.c (.int .i64
4))],oT 1 7 23 [23]] (sR [uT 0 24 7,oT 1 25 2 [2],oP 2 26 (.cpy 1 (.t 24) (.t 25)) [24,25,26]] (.seq (.reg true [uM 0 27 2 3,uM 1 28 2 3,oT 3 30 1 [1],oT 4 31 7 [7],(2,⟨some 29,.call 94 [.t 28],none,[(3,2)],[28]⟩),oK 5
32 139 [.t 27,.t 29,.t 30,.t 31] [3,27,29,30,31],oT 6 6 32 [32]]) .ret)))))
def C73 : CFn := ⟨33,3,[.t 6],B73⟩
abbrev L74_0 : CCode := (.seq (sR [uT 0 11 5,uT 1 12 0,oN 2 13 12 [12],oB 3 14 .lss 11 13 [11,13]] (sC 14 [0,1,5,14] 0)) (.seq (.block 1 (.seq (.reg true [uT 0 17 0,uT 1 18 5,uI 2 19 2 17 18,oM 3 20 2 19 [19],uT 4 21
1,uT 5 22 5,uI 6 23 2 21 22,oM 7 24 2 23 [23],oK 8 25 140 [.t 20,.t 24] [17,18,20,21,22,24],oE 9 26 25 [25]]) (sD 26 [0,1,5,26] [uY 0 4 false]))) (sI 15 16 5)))
abbrev B74 : CCode := (sR [oY 0 4 false [4]] (.seq (sR [uT 0 6 0,oN 1 7 6 [6],uT 2 8 1,oN 3 9 8 [8],oB 4 10 .neq 7 9 [7,9]] (sD 10 [0,1,10] [uY 0 4 false])) (sL 5 0 L74_0 (sR [uY 0 4 true] .ret))))
def C74 : CFn := ⟨27,2,[.t 4],B74⟩
abbrev L80_3 : CCode := (.seq (sR [uT 0 60 8,uT 1 61 6,oB 2 62 .lss 60 61 [60,61]] (sC 62 [8,62] 2)) (.seq (.block 3 (.seq (.reg true [uF 0 65 1 3,oL 1 66 1 65 [65],uT 2 67 8,oI 3 68 2 66 67 [66],oF 4 69 0 68 [68],oL 5
70 1 69 [67,69],uF 6 71 0 7,oL 7 72 1 71 [71],oB 8 73 .eql 70 72 [70,72]]) (sD 73 [0,3,5,6,7,8,73] [uY 0 4 false]))) (sI 63 64 8)))
abbrev L80_4 : CCode := (.seq (sR [uT 0 74 9,uF 1 75 1 7,oL 2 76 1 75 [75],oN 3 77 76 [76],oB 4 78 .lss 74 77 [74,77]] (sC 78 [7,9,78] 4)) (.seq (.block 5 (.seq (.seq (.reg true [uF 0 81 1 7,oL 1 82 1 81 [81],uT 2 83
9,oI 3 84 1 82 83 [82],oL 4 85 1 84 [83,84],uF 5 86 0 3,oL 6 87 1 86 [86],oC 7 88 .sub 87 1 [87],oK 8 89 110 [.t 85,(.c (.int .i64 (-10))),.t 88] [85,88],oE 9 90 89 [89]]) (sD 90 [0,3,5,6,7,9,90] [uY 0 4 false])) (sR
[uF 0 91 1 7,oL 1 92 1 91 [91],uT 2 93 9,oI 3 94 1 92 93 [92],oL 4 95 1 94 [93,94],oC 5 96 .geq 95 0 [95]] (.cond (.t 96) (sK [96] (.reg false [uT 0 97 5,uF 1 98 1 7,oL 2 99 1 98 [98],uT 3 100 9,oI 4 101 1 99 100
[99],oL 5 102 1 101 [100,101],uI 6 103 1 97 102,(7,⟨none,.st 1 (.t 103) (.c (.bool true)),none,[],[97,102,103]⟩)])) (sK [96] .skip))))) (sI 79 80 9)))
abbrev L80_0 : CCode := (.seq (sR [uT 0 29 6,uF 1 30 1 3,oL 2 31 1 30 [30],oN 3 32 31 [31],oB 4 33 .lss 29 32 [29,32]] (sC 33 [0,6,33] 0)) (.seq (.block 1 (sR [uF 0 36 1 3,oL 1 37 1 36 [36],uT 2 38 6,oI 3 39 2 37 38
[37],oM 4 40 2 39 [39],uH 5 7 [.int .i64 (0),.nils],oS 6 2 7 40 [38,40]] (.seq (.seq (.reg true [uF 0 41 0 7,oL 1 42 1 41 [41],uT 2 43 0,oN 3 44 43 [43],oC 4 45 .sub 44 1 [44],oK 5 46 110 [.t 42,(.c (.int .i64 0)),.t
45] [42,45],oE 6 47 46 [46],oT 7 48 47 [47],vF 8 49 1 7 48,gL 9 50 1 49 48 [49],gN 10 51 50 48 [50],vT 11 52 0 48,vF 12 53 0 7 48,gL 13 54 1 53 48 [53],vI 14 55 3 52 54 48,gF 15 56 1 55 48 [55],gL 16 57 1 56 48
[52,54,56],gB 17 58 .neq 51 57 48 [51,57],oO 18 59 48 58 [48,58]]) (sD 59 [0,3,5,6,7,59] [uY 0 4 false])) (sL 8 2 L80_3 (sR [uZ 0 9 0] (.block 4 (.loop L80_4))))))) (sI 34 35 6)))
abbrev L80_1 : CCode := (.seq (sR [uT 0 104 10,uF 1 105 0 3,oL 2 106 1 105 [105],oB 3 107 .lss 104 106 [104,106]] (sC 107 [5,10,107] 6)) (.seq (.block 7 (sR [uT 0 110 5,uT 1 111 10,uI 2 112 1 110 111,oL 3 113 1 112
[110,111,112],oE 4 114 113 [113]] (sD 114 [3,5,10,114] [uY 0 4 false]))) (sI 108 109 10)))
abbrev L80_2 : CCode := (.seq (sR [uT 0 115 11,uF 1 116 2 3,oL 2 117 1 116 [116],oN 3 118 117 [117],oB 4 119 .lss 115 118 [115,118]] (sC 119 [3,11,119] 8)) (.seq (.block 9 (.seq (.reg true [uF 0 122 2 3,oL 1 123 1 122
[122],uT 2 124 11,oI 3 125 1 123 124 [123],oL 4 126 1 125 [124,125],uF 5 127 0 3,oL 6 128 1 127 [127],oC 7 129 .sub 128 1 [128],oK 8 130 110 [.t 126,(.c (.int .i64 0)),.t 129] [126,129],oE 9 131 130 [130],oT 10 132 131
[131],vT 11 133 11 132,gC 12 134 .gtr 133 0 132 [133],gT 13 135 134 132 [134],wF 14 136 2 3 135,hL 15 137 1 136 135 [136],wT 16 138 11 135,hI 17 139 1 137 138 135 [137],hL 18 140 1 139 135 [138,139],wF 19 141 2 3 135,hL
20 142 1 141 135 [141],wT 21 143 11 135,hC 22 144 .sub 143 1 135 [143],hI 23 145 1 142 144 135 [142],hL 24 146 1 145 135 [144,145],hB 25 147 .leq 140 146 135 [140,146],gA 26 148 135 147 132 [135,147],oO 27 149 132 148
[132,148]]) (sD 149 [3,11,149] [uY 0 4 false]))) (sI 120 121 11)))
abbrev B80 : CCode := (sR [oQ 0 3 3 1 [1],oY 1 4 false [4]] (.seq (sR [uT 0 12 0,oK 1 13 129 [.t 12] [12],oE 2 14 13 [13],oT 3 15 14 [14],vF 4 16 0 3 15,gL 5 17 1 16 15 [16],gK 6 18 110 [.t 17,(.c (.int .i64 0)),(.c
(.int .i64 4))] 15 [17],gE 7 19 18 15 [18],oO 8 20 15 19 [15,19],oT 9 21 20 [20],vF 10 22 1 3 21,gL 11 23 1 22 21 [22],gN 12 24 23 21 [23],gK 13 25 110 [.t 24,(.c (.int .i64 1)),(.c (.int .i64 3))] 21 [24],gE 14 26 25
21 [25],oO 15 27 21 26 [21,26]] (sD 27 [0,3,27] [uY 0 4 false])) (sR [uP 0 28 (.mk 1 1 [.bool false] (.c (.int .i64 4)) (.c (.int .i64 4))),oT 1 5 28 [28]] (sL 6 0 L80_0 (sL 10 6 L80_1 (sL 11 8 L80_2 (sR [uY 0 4 true]
.ret)))))))
def C80 : CFn := ⟨150,2,[.t 4],B80⟩
abbrev L86_0 : CCode := (.seq (sR [uT 0 7 4,uF 1 8 1 1,oL 2 9 1 8 [8],oN 3 10 9 [9],oB 4 11 .lss 7 10 [7,10],oT 5 12 11 [11],wM 6 13 2 1 12,hK 7 14 69 [.t 13] 12 [13],oA 8 15 12 14 [12,14]] (sC 15 [1,4,15] 0)) (.seq
(.block 1 (sR [uM 0 18 2 1,uT 1 19 4,oK 2 20 150 [.t 18,.t 19] [18,19],oT 3 5 20 [20]] (sR [uT 0 21 5,uP 1 22 (.ia 1 (.t 21) (.c (.int .i64 0))),oL 2 23 1 22 [21,22],uT 3 24 4,oB 4 25 .eql 23 24 [23,24]] (.cond (.t 25)
(sK [25] (.reg false [oT 0 26 3 [3],oT 1 27 5 [5],oP 2 28 (.bsl 1 1 [.nils] [(0,1,(.t 27))]) [27],oX 3 29 1 24 26 28 [26,28],oT 4 3 29 [29]])) (sK [5,25] .skip))))) (sI 16 17 4)))
abbrev B86 : CCode := (sR [oQ 0 1 2 0 [0],oV 1 2 [2]] (sR [uW 0 6 1 [.nils],oT 1 3 6 [6]] (sL 4 0 L86_0 (sR [oT 0 30 3 [3],oT 1 2 30 [30]] .ret))))
def C86 : CFn := ⟨31,1,[.t 2],B86⟩
abbrev L93_0 : CCode := (sR [uB 0 10 .lss 9 8] (.seq (sC 10 [0,1,7,8,9,10] 0) (.seq (.block 1 (sR [uT 0 11 9,uI 1 12 1 7 9,oL 2 13 1 12 [12],oT 3 5 11 [11],oT 4 6 13 [13]] (sR [uT 0 14 6,uT 1 15 1,oC 2 16 .sub 15 1
[15],oK 3 17 121 [.t 14,(.c (.int .i64 0)),.t 16] [14,16],oE 4 18 17 [17],oT 5 19 18 [18],vT 6 20 5 19,gC 7 21 .gtr 20 0 19 [20],gT 8 22 21 19 [21],wT 9 23 0 22,hT 10 24 5 22 [5],hC 11 25 .sub 24 1 22 [24],wI 12 26 1 23
25 22,hL 13 27 1 26 22 [23,25,26],hT 14 28 6 22 [6],hB 15 29 .geq 27 28 22 [27,28],gA 16 30 22 29 19 [22,29],oO 17 31 19 30 [19,30]] (sD 31 [0,1,7,8,9,31] [uY 0 4 false])))) (.reg false [oC 0 32 .add 9 1 [9],oT 1 9 32
[32]]))))
abbrev B93 : CCode := (sR [oY 0 4 false [4]] (.seq (sR [uT 0 7 0,uN 1 8 7,uZ 2 9 0] (.block 0 (.loop L93_0))) (sR [uY 0 4 true] .ret)))
def C93 : CFn := ⟨33,2,[.t 4],B93⟩
abbrev L94_0 : CCode := (sR [uB 0 12 .lss 11 10] (.seq (sC 12 [1,9,10,11,12] 0) (.seq (.block 1 (sR [uT 0 13 11,uI 1 14 2 9 11,oM 2 15 2 14 [14],uH 3 5 [.int .i64 (0),.nils],oT 4 4 13 [13],oS 5 2 5 15 [15]] (sR [uT 0 16
3,oN 1 17 16 [16],oC 2 18 .sub 17 1 [17],oT 3 6 18 [18]] (.seq (.reg true [uT 0 19 6,oC 1 20 .geq 19 0 [19],oT 2 21 20 [20],wF 3 22 0 1 21,hL 4 23 1 22 21 [22],wF 5 24 1 1 21,hL 6 25 1 24 21 [24],wT 7 26 3 21,wT 8 27 6
21,wI 9 28 1 26 27 21,hL 10 29 1 28 21 [28],hG 11 30 (.ia 1 (.t 29) (.c (.int .i64 0))) 21 [29],hL 12 31 1 30 21 [26,27,30],hI 13 32 2 25 31 21 [25],hM 14 33 2 32 21 [32],wM 15 34 2 5 21,hK 16 35 155 [.t 23,.t 33,.t 34]
21 [5,23,31,33,34],oA 17 36 21 35 [21,35]]) (.cond (.t 36) (sK [36] (.reg false [uT 0 37 3,uT 1 38 6,uT 2 39 3,oT 3 40 6 [6],uI 4 41 1 39 40,oL 5 42 1 41 [41],oT 6 43 4 [4],oP 7 44 (.bsl 1 1 [.int .i64 (0)] [(0,1,(.t
43))]) [43],oX 8 45 1 8 42 44 [39,40,42,44],uI 9 46 1 37 38,oS 10 1 46 45 [37,38,45,46]])) (sK [6,36] (.reg false [oT 0 47 3 [3],oT 1 48 4 [4],oP 2 49 (.bsl 1 1 [.int .i64 (0)] [(0,1,(.t 48))]) [48],oP 3 50 (.bsl 1 1
[.nils] [(0,1,(.t 49))]) [49],oX 4 51 1 24 47 50 [47,50],oT 5 3 51 [51]]))))))) (.reg false [oC 0 52 .add 11 1 [11],oT 1 11 52 [52]]))))
abbrev B94 : CCode := (sR [oQ 0 1 2 0 [0],oV 1 2 [2]] (sR [uW 0 7 1 [.nils],oT 1 3 7 [7]] (.seq (sR [uF 0 8 1 1,oL 1 9 1 8 [8],uN 2 10 9,uZ 3 11 0] (.block 0 (.loop L94_0))) (sR [oT 0 53 3 [3],oT 1 2 53 [53]] .ret))))
def C94 : CFn := ⟨54,1,[.t 2],B94⟩
abbrev L95_0 : CCode := (sR [uB 0 9 .lss 8 7] (.seq (sC 9 [0,1,7,8,9] 0) (.seq (.block 1 (sR [uT 0 10 8,oT 1 5 10 [10]] (sR [uT 0 11 1,uT 1 12 0,uT 2 13 5,uI 3 14 1 12 13,oL 4 15 1 14 [12,13,14],oP 5 16 (.callv (.t 11)
[.t 15]) [11,15]] (.cond (.t 16) (sK [0,1,7,8,16] (sR [oT 0 17 5 [5],oT 1 4 17 [17]] .ret)) (sK [5,16] .skip))))) (.reg false [oC 0 18 .add 8 1 [8],oT 1 8 18 [18]]))))
abbrev B95 : CCode := (sR [oZ 0 4 0 [4]] (.seq (sR [uT 0 6 0,oN 1 7 6 [6],uZ 2 8 0] (.block 0 (.loop L95_0))) (sR [uZ 0 4 (-1)] .ret)))
def C95 : CFn := ⟨19,2,[.t 4],B95⟩
abbrev B97 : CCode := (sR [oY 0 4 false [4]] (sR [oT 0 5 0 [0],oT 1 6 1 [1],oK 2 7 156 [.t 5,.t 6] [5,6],oC 3 8 .geq 7 0 [7],oT 4 4 8 [8]] .ret))
def C97 : CFn := ⟨9,2,[.t 4],B97⟩
abbrev B104 : CCode := (sR [oQ 0 2 2 0 [0],oZ 1 4 0 [4]] (sR [uF 0 5 1 2,oL 1 6 1 5 [5],oT 2 7 1 [1],oK 3 8 41 [.t 6,.t 7] [2,6,7],oT 4 1 8 [8]] (.seq (sR [uT 0 9 1,oC 1 10 .lss 9 0 [9]] (sD 10 [1,10] [uZ 0 4 (-1)]))
(sR [oT 0 11 1 [1],oT 1 4 11 [11]] .ret))))
def C104 : CFn := ⟨12,2,[.t 4],B104⟩
abbrev L105_0 : CCode := (.seq (sR [uT 0 49 11,uT 1 50 10,oN 2 51 50 [50],oB 3 52 .lss 49 51 [49,51]] (sC 52 [9,10,11,52] 0)) (.seq (.block 1 (sR [uT 0 55 9,uT 1 56 10,uT 2 57 11,uI 3 58 1 56 57,oL 4 59 1 58
[56,57,58],oK 5 60 45 [.t 55,.t 59] [55,59]] (sD 60 [9,10,11,60] [uY 0 8 true]))) (sI 53 54 11)))
abbrev B105 : CCode := (sR [oQ 0 5 3 1 [1],oY 1 8 false [8]] (.seq (sR [uT 0 12 0,uM 1 13 3 5,oK 2 14 80 [.t 12,.t 13] [12,13],oE 3 15 14 [14],oT 4 16 15 [15],vT 5 17 2 16,vF 6 18 1 5 16,gL 7 19 1 18 16 [18],gN 8 20 19
16 [19],gC 9 21 .sub 20 1 16 [20],gK 10 22 110 [.t 17,(.c (.int .i64 0)),.t 21] 16 [17,21],gE 11 23 22 16 [22],oO 12 24 16 23 [16,23],oT 13 25 24 [24],vT 14 26 3 25,vF 15 27 1 5 25,gL 16 28 1 27 25 [27],gN 17 29 28 25
[28],gC 18 30 .sub 29 1 25 [29],gK 19 31 110 [.t 26,(.c (.int .i64 0)),.t 30] 25 [26,30],gE 20 32 31 25 [31],oO 21 33 25 32 [25,32],oT 22 34 33 [33],vT 23 35 2 34,vT 24 36 3 34,gB 25 37 .eql 35 36 34 [35,36],oO 26 38 34
37 [34,37]] (sD 38 [0,2,3,5,38] [uY 0 8 false])) (sR [oT 0 39 0 [0],uM 1 40 3 5,oT 2 41 2 [2],oK 3 42 161 [.t 39,.t 40,.t 41] [39,40,41],oT 4 9 42 [42]] (sR [uF 0 43 1 5,oL 1 44 1 43 [43],oT 2 45 3 [3],oI 3 46 2 44 45
[44],oM 4 47 2 46 [46],oK 5 48 111 [.t 47] [5,45,47],oT 6 10 48 [48]] (sL 11 0 L105_0 (sR [uY 0 8 false] .ret))))))
def C105 : CFn := ⟨61,4,[.t 8],B105⟩
abbrev B106 : CCode := (sR [oQ 0 5 3 1 [1],oY 1 8 false [8]] (.seq (.reg true [uT 0 9 0,uM 1 10 3 5,uT 2 11 2,uT 3 12 3,oK 4 13 105 [.t 9,.t 10,.t 11,.t 12] [9,10,11,12],oT 5 14 13 [13],wT 6 15 0 14,wM 7 16 3 5 14,wT 8
17 0 14,wF 9 18 1 5 14,hL 10 19 1 18 14 [18],hT 11 20 2 14 [2],hI 12 21 2 19 20 14 [19],hM 13 22 2 21 14 [21],wT 15 24 0 14,wF 16 25 1 5 14,wL 17 26 1 25 14,hT 18 27 3 14 [3],hI 19 28 2 26 27 14 [26],wM 20 29 2 28
14,(14,⟨some 23,.call 46 [.t 17,.t 22],some (14,true),[(5,3),(25,1),(28,2)],[17,20,22,25,28]⟩),(21,⟨some 30,.call 46 [.t 24,.t 29],some (14,true),[(5,3)],[24,27,29]⟩),hK 22 31 162 [.t 15,.t 16,.t 23,.t 30] 14
[5,15,16,23,30],oA 23 32 14 31 [14,31],oT 24 8 32 [32]]) .ret))
def C106 : CFn := ⟨33,4,[.t 8],B106⟩
abbrev L107_2 : CCode := (.seq (sR [uT 0 53 12,uF 1 54 1 5,oL 2 55 1 54 [54],oN 3 56 55 [55],oB 4 57 .lss 53 56 [53,56]] (sC 57 [12,57] 4)) (.seq (.block 5 (sR [uT 0 60 11,uT 1 61 2,oB 2 62 .eql 60 61 [60,61],oT 3 63 62
[62],vT 4 64 9 63,vT 5 65 11 63,vI 6 66 1 64 65 63,gL 7 67 1 66 63 [64,65,66],oO 8 68 63 67 [63,67],oT 9 69 68 [68],wT 10 70 0 69,wM 11 71 3 5 69,wT 12 72 11 69,wT 13 73 12 69,hK 14 74 105 [.t 70,.t 71,.t 72,.t 73] 69
[70,71,72,73],oA 15 75 69 74 [69,74]] (.cond (.t 75) (sK [75] (.reg false [uT 0 76 9,uT 1 77 12,uI 2 78 1 76 77,(3,⟨none,.st 1 (.t 78) (.c (.bool true)),none,[],[76,77,78]⟩)])) (sK [75] .skip)))) (sI 58 59 12)))
abbrev L107_1 : CCode := (.seq (sR [uT 0 46 11,uF 1 47 1 5,oL 2 48 1 47 [47],oN 3 49 48 [48],oB 4 50 .lss 46 49 [46,49]] (sC 50 [11,50] 2)) (.seq (.block 3 (sR [uZ 0 12 0] (.block 4 (.loop L107_2)))) (sI 51 52 11)))
abbrev L107_0 : CCode := (.seq (sR [uT 0 39 10,uF 1 40 1 5,oL 2 41 1 40 [40],oN 3 42 41 [41],oB 4 43 .leq 39 42 [39,42]] (sC 43 [0,2,5,10,43] 0)) (.seq (.block 1 (sR [uZ 0 11 0] (.block 2 (.loop L107_1)))) (sI 44 45
10)))
abbrev B107 : CCode := (sR [oQ 0 5 3 1 [1],oY 1 8 false [8]] (.seq (sR [uT 0 13 0,uM 1 14 3 5,oK 2 15 80 [.t 13,.t 14] [13,14],oE 3 16 15 [15],oT 4 17 16 [16],vT 5 18 2 17,vF 6 19 1 5 17,gL 7 20 1 19 17 [19],gN 8 21 20
17 [20],gC 9 22 .sub 21 1 17 [21],gK 10 23 110 [.t 18,(.c (.int .i64 0)),.t 22] 17 [18,22],gE 11 24 23 17 [23],oO 12 25 17 24 [17,24],oT 13 26 25 [25],vT 14 27 3 26,vF 15 28 1 5 26,gL 16 29 1 28 26 [28],gN 17 30 29 26
[29],gC 18 31 .sub 30 1 26 [30],gK 19 32 110 [.t 27,(.c (.int .i64 0)),.t 31] 26 [27,31],gE 20 33 32 26 [32],oO 21 34 26 33 [26,33]] (sD 34 [0,2,3,5,34] [uY 0 8 false])) (sR [uF 0 35 1 5,oL 1 36 1 35 [35],oN 2 37 36
[36],oP 3 38 (.mk 1 1 [.bool false] (.t 37) (.t 37)) [37],oT 4 9 38 [38]] (sL 10 0 L107_0 (sR [oT 0 79 9 [9],oT 1 80 3 [3],uI 2 81 1 79 80,oL 3 82 1 81 [79,80,81],oT 4 8 82 [82]] .ret)))))
def C107 : CFn := ⟨83,4,[.t 8],B107⟩
abbrev L108_0 : CCode := (.seq (sR [uT 0 6 5,uF 1 7 1 3,oL 2 8 1 7 [7],oN 3 9 8 [8],oB 4 10 .lss 6 9 [6,9]] (sC 10 [0,3,5,10] 0)) (.seq (.block 1 (sR [uT 0 13 0,uM 1 14 3 3,uT 2 15 5,uT 3 16 5,oK 4 17 107 [.t 13,.t
14,.t 15,.t 16] [13,14,15,16]] (sD 17 [0,3,5,17] [uY 0 4 true]))) (sI 11 12 5)))
abbrev B108 : CCode := (sR [oQ 0 3 3 1 [1],oY 1 4 false [4]] (sL 5 0 L108_0 (sR [uY 0 4 false] .ret)))
def C108 : CFn := ⟨18,2,[.t 4],B108⟩
abbrev L109_2 : CCode := (.seq (sR [uT 0 36 11,uF 1 37 1 5,oL 2 38 1 37 [37],oN 3 39 38 [38],oB 4 40 .lss 36 39 [36,39]] (sC 40 [11,40] 2)) (.seq (.block 3 (sR [uT 0 43 11,uT 1 44 2,oB 2 45 .neq 43 44 [43,44],oT 3 46 45
[45],wT 4 47 9 46,wT 5 48 0 46,wF 6 49 1 5 46,hL 7 50 1 49 46 [49],wT 8 51 11 46,hI 9 52 2 50 51 46 [50],hM 10 53 2 52 46 [52],hK 11 54 46 [.t 48,.t 53] 46 [48,51,53],hK 12 55 163 [.t 47,.t 54] 46 [47,54],oA 13 56 46 55
[46,55]] (.cond (.t 56) (sK [56] (.reg false [oT 0 57 9 [9],uF 1 58 1 5,oL 2 59 1 58 [58],uT 3 60 11,oI 4 61 2 59 60 [59],oM 5 62 2 61 [61],oK 6 63 111 [.t 62] [60,62],oK 7 64 113 [.t 57,.t 63] [57,63],oT 8 9 64 [64]]))
(sK [56] .skip)))) (sI 41 42 11)))
abbrev L109_0 : CCode := (.seq (sR [uT 0 29 10,uF 1 30 1 5,oL 2 31 1 30 [30],oN 3 32 31 [31],oB 4 33 .lss 29 32 [29,32]] (sC 33 [0,10,33] 0)) (.seq (.block 1 (sR [uZ 0 11 0] (.block 2 (.loop L109_2)))) (sI 34 35 10)))
abbrev L109_4 : CCode := (.seq (sR [uT 0 81 15,uF 1 82 1 5,oL 2 83 1 82 [82],oN 3 84 83 [83],oB 4 85 .lss 81 84 [81,84]] (sC 85 [15,85] 8)) (.seq (.block 9 (.seq (.reg true [uT 0 88 12,uT 1 89 14,oK 2 90 45 [.t 88,.t
89] [88,89],oT 3 91 90 [90],wT 4 92 12 91,wT 5 93 15 91,hK 6 94 45 [.t 92,.t 93] 91 [92,93],hE 7 95 94 91 [94],oA 8 96 91 95 [91,95],oT 9 97 96 [96],wF 10 98 1 5 97,hL 11 99 1 98 97 [98],wT 12 100 14 97,hI 13 101 2 99
100 97 [99],hM 14 102 2 101 97 [101],wF 16 104 1 5 97,wL 17 105 1 104 97,wT 18 106 15 97,hI 19 107 2 105 106 97 [105],wM 20 108 2 107 97,wT 22 110 9 97,(15,⟨some 103,.call 111 [.t 102],some
(97,true),[(104,1),(107,2)],[100,102,104,107]⟩),hK 21 109 111 [.t 108] 97 [106,108],hK 23 111 164 [.t 103,.t 109,.t 110] 97 [103,109,110],oA 24 112 97 111 [97,111]]) (.cond (.t 112) (sK [112] (.reg false [oT 0 113 12
[12],uT 1 114 15,oP 2 115 (.bsl 1 1 [.int .i64 (0)] [(0,1,(.t 114))]) [114],oX 3 116 1 8 113 115 [113,115],oT 4 12 116 [116]])) (sK [112] .skip)))) (sI 86 87 15)))
abbrev L109_3 : CCode := (.seq (sR [uT 0 74 14,uF 1 75 1 5,oL 2 76 1 75 [75],oN 3 77 76 [76],oB 4 78 .lss 74 77 [74,77]] (sC 78 [14,78] 6)) (.seq (.block 7 (sR [uZ 0 15 0] (.block 8 (.loop L109_4)))) (sI 79 80 14)))
abbrev L109_1 : CCode := (.seq (sR [uT 0 67 13,uF 1 68 1 5,oL 2 69 1 68 [68],oN 3 70 69 [69],oB 4 71 .lss 67 70 [67,70]] (sC 71 [5,9,13,71] 4)) (.seq (.block 5 (sR [uZ 0 14 0] (.block 6 (.loop L109_3)))) (sI 72 73 13)))
abbrev B109 : CCode := (sR [oQ 0 5 3 1 [1],oY 1 8 false [8]] (.seq (sR [uT 0 16 2,uT 1 17 3,oB 2 18 .eql 16 17 [16,17]] (sD 18 [0,2,3,5,18] [uY 0 8 false])) (.seq (.reg true [uF 0 19 2 5,uL 1 20 1 19,uT 2 21 0,uF 3 22 1
5,oL 4 23 1 22 [22],uT 5 24 2,oI 6 25 2 23 24 [23],oM 7 26 2 25 [25],(8,⟨some 27,.call 46 [.t 21,.t 26],none,[(19,1)],[19,21,24,26]⟩),oK 9 28 113 [.t 20,.t 27] [20,27],oT 10 9 28 [28]]) (sL 10 0 L109_0 (sR [oT 0 65 2
[2],oP 1 66 (.bsl 1 1 [.int .i64 (0)] [(0,1,(.t 65))]) [65],oT 2 12 66 [66]] (sL 13 4 L109_1 (sR [oT 0 117 12 [12],oT 1 118 3 [3],oK 2 119 45 [.t 117,.t 118] [117,118],oT 3 8 119 [119]] .ret)))))))
def C109 : CFn := ⟨120,4,[.t 8],B109⟩
abbrev B110 : CCode := (sR [oY 0 6 false [6]] (sR [uT 0 7 0,oT 1 8 1 [1],oB 2 9 .geq 7 8 [7,8],oT 3 10 9 [9],hT 4 11 0 10 [0],hT 5 12 2 10 [2],hB 6 13 .leq 11 12 10 [11,12],oA 7 14 10 13 [10,13],oT 8 6 14 [14]] .ret))
def C110 : CFn := ⟨15,3,[.t 6],B110⟩
abbrev L111_0 : CCode := (.seq (sR [uT 0 6 4,oC 1 7 .lss 6 4 [6]] (sC 7 [1,4,7] 0)) (.seq (.block 1 (sR [uF 0 10 1 1,oL 1 11 1 10 [10],uT 2 12 4,oK 3 13 45 [.t 11,.t 12] [11,12]] (.cond (.t 13) (sK [13] (.reg false [oT
0 14 3 [3],uT 1 15 4,oP 2 16 (.bsl 1 1 [.int .i64 (0)] [(0,1,(.t 15))]) [15],oX 3 17 1 8 14 16 [14,16],oT 4 3 17 [17]])) (sK [13] .skip)))) (sI 8 9 4)))
abbrev B111 : CCode := (sR [oQ 0 1 2 0 [0],oV 1 2 [2]] (sR [uW 0 5 1 [.int .i64 (0)],oT 1 3 5 [5]] (sL 4 0 L111_0 (sR [oT 0 18 3 [3],oT 1 2 18 [18]] .ret))))
def C111 : CFn := ⟨19,1,[.t 2],B111⟩
abbrev B112 : CCode := (sR [oQ 0 2 3 0 [0],uH 1 4 [.int .i64 (0),.nils,.nils]] (sR [uM 0 6 3 2,oK 1 7 43 [.t 6] [6],uH 2 5 [.int .i64 (0),.nils,.nils],oS 3 3 5 7 [7]] (.seq (sR [uT 0 8 1,uF 1 9 1 2,oL 2 10 1 9 [9],oN 3
11 10 [2,10],oC 4 12 .sub 11 1 [11],oK 5 13 110 [.t 8,(.c (.int .i64 0)),.t 12] [8,12]] (.cond (.t 13) (sK [13] (.reg true [uW 0 14 2 [.int .i64 (0),.nils],uF 1 15 1 5,oL 2 16 1 15 [15],uT 3 17 1,oP 4 18 (.sls 2 (.t 16)
none (some (.t 17)) none) [16,17],uF 6 20 1 5,uL 7 21 1 20,oT 8 22 1 [1],oC 9 23 .add 22 1 [22],oP 10 24 (.sls 2 (.t 21) (some (.t 23)) none none) [21,23],(5,⟨some 19,.app 2 32 (.t 14) (.t
18),none,[(20,1)],[14,18,20]⟩),oX 11 25 2 32 19 24 [19,24],uF 12 26 1 5,oS 13 1 26 25 [25,26]])) (sK [1,13] .skip))) (sR [uM 0 27 3 5,oS 1 3 4 27 [5,27]] .ret))))
def C112 : CFn := ⟨28,2,[.m 4 3 true],B112⟩
abbrev L113_0 : CCode := (.seq (sR [uT 0 8 6,oC 1 9 .lss 8 4 [8]] (sC 9 [0,1,6,9] 0)) (.seq (.block 1 (sR [uT 0 12 0,uT 1 13 6,oK 2 14 45 [.t 12,.t 13] [12,13],oT 3 15 14 [14],vT 4 16 1 15,vT 5 17 6 15,gK 6 18 45 [.t
16,.t 17] 15 [16,17],oO 7 19 15 18 [15,18]] (.cond (.t 19) (sK [19] (.reg false [oT 0 20 5 [5],uT 1 21 6,oP 2 22 (.bsl 1 1 [.int .i64 (0)] [(0,1,(.t 21))]) [21],oX 3 23 1 8 20 22 [20,22],oT 4 5 23 [23]])) (sK [19]
.skip)))) (sI 10 11 6)))
abbrev B113 : CCode := (sR [oV 0 4 [4]] (sR [uW 0 7 1 [.int .i64 (0)],oT 1 5 7 [7]] (sL 6 0 L113_0 (sR [oT 0 24 5 [5],oT 1 4 24 [24]] .ret))))
def C113 : CFn := ⟨25,2,[.t 4],B113⟩
abbrev B114 : CCode := (sR [oQ 0 1 2 0 [0],uH 1 2 [.int .i64 (0),.nils]] (sR [uH 0 3 [.int .i64 (0),.nils]] (sR [uF 0 4 0 1,oL 1 5 1 4 [4],uF 2 6 0 3,oS 3 1 6 5 [5,6]] (sR [uF 0 7 1 1,oL 1 8 1 7 [7],oK 2 9 50 [.t 8]
[1,8],uF 3 10 1 3,oS 4 1 10 9 [9,10]] (sR [uM 0 11 2 3,oS 1 2 2 11 [3,11]] .ret)))))
def C114 : CFn := ⟨12,1,[.m 2 2 true],B114⟩
abbrev L115_1 : CCode := (sR [uB 0 74 .lss 73 72] (.seq (sC 74 [71,72,73,74] 2) (.seq (.block 3 (sR [uI 0 75 1 71 73,oL 1 76 1 75 [75],oT 2 9 76 [76]] (sR [oT 0 77 9 [9],uF 1 78 0 3,oL 2 79 1 78 [78],oC 3 80 .sub 79 1
[79],oK 4 81 121 [.t 77,(.c (.int .i64 (-10))),.t 80] [77,80],oE 5 82 81 [81]] (sD 82 [0,3,5,7,36,37,38,71,72,73,82] [uY 0 4 false])))) (.reg false [oC 0 83 .add 73 1 [73],oT 1 73 83 [83]]))))
abbrev L115_0 : CCode := (sR [uB 0 39 .lss 38 37] (.seq (sC 39 [0,36,37,38,39] 0) (.seq (.block 1 (sR [uT 0 40 38,uI 1 41 2 36 38,oM 2 42 2 41 [41],uH 3 7 [.int .i64 (0),.nils],oT 4 6 40 [40],oS 5 2 7 42 [42]] (.seq
(.seq (.reg true [uF 0 43 0 7,oL 1 44 1 43 [43],uT 2 45 0,oN 3 46 45 [45],oC 4 47 .sub 46 1 [46],oK 5 48 121 [.t 44,(.c (.int .i64 0)),.t 47] [44,47],oE 6 49 48 [48],oT 7 50 49 [49],vF 8 51 1 7 50,gL 9 52 1 51 50
[51],gN 10 53 52 50 [52],vT 11 54 0 50,vF 12 55 0 7 50,gL 13 56 1 55 50 [55],vI 14 57 3 54 56 50,gF 15 58 1 57 50 [57],gL 16 59 1 58 50 [54,56,58],gB 17 60 .neq 53 59 50 [53,59],oO 18 61 50 60 [50,60],oT 19 62 61
[61],vF 20 63 1 3 62,gL 21 64 1 63 62 [63],gT 22 65 6 62 [6],gG 23 66 (.sls 2 (.t 64) none (some (.t 65)) none) 62 [64,65],vG 24 67 (.fn 166 [.t 7]) 62,gK 25 68 165 [.t 66,.t 67] 62 [66,67],oO 26 69 62 68 [62,68]]) (sD
69 [0,3,5,7,36,37,38,69] [uY 0 4 false])) (.seq (sR [uF 0 70 1 7,oL 1 71 1 70 [70],uN 2 72 71,uZ 3 73 0] (.block 2 (.loop L115_1))) (.reg false [oT 0 84 5 [5],uM 1 85 2 7,oK 2 86 55 [.t 85] [7,85],oK 3 87 57 [.t 84,.t
86] [84,86],oT 4 5 87 [87]]))))) (.reg false [oC 0 88 .add 38 1 [38],oT 1 38 88 [88]]))))
abbrev B115 : CCode := (sR [oQ 0 3 3 1 [1],oY 1 4 false [4]] (.seq (sR [uT 0 10 0,oK 1 11 134 [.t 10] [10],oE 2 12 11 [11],oT 3 13 12 [12],vF 4 14 0 3 13,gL 5 15 1 14 13 [14],gK 6 16 121 [.t 15,(.c (.int .i64 0)),(.c
(.int .i64 4))] 13 [15],gE 7 17 16 13 [16],oO 8 18 13 17 [13,17],oT 9 19 18 [18],vF 10 20 1 3 19,gL 11 21 1 20 19 [20],gN 12 22 21 19 [21],gK 13 23 121 [.t 22,(.c (.int .i64 1)),(.c (.int .i64 3))] 19 [22],gE 14 24 23
19 [23],oO 15 25 19 24 [19,24],oT 16 26 25 [25],vF 17 27 2 3 26,gL 18 28 1 27 26 [27],vF 19 29 0 3 26,gL 20 30 1 29 26 [29],gK 21 31 93 [.t 28,.t 30] 26 [28,30],gE 22 32 31 26 [31],oO 23 33 26 32 [26,32]] (sD 33
[0,3,33] [uY 0 4 false])) (sR [uW 0 34 1 [.int .i64 (0)],oT 1 5 34 [34]] (.seq (sR [uF 0 35 1 3,oL 1 36 1 35 [35],uN 2 37 36,uZ 3 38 0] (.block 0 (.loop L115_0))) (sR [oT 0 89 5 [5],oN 1 90 89 [89],uF 2 91 0 3,oL 3 92 1
91 [3,91],oB 4 93 .eql 90 92 [90,92],oT 5 4 93 [93]] .ret)))))
def C115 : CFn := ⟨94,2,[.t 4],B115⟩
abbrev B116 : CCode := (sR [oQ 0 5 3 1 [1],oY 1 8 false [8]] (sR [uF 0 10 1 5,oL 1 11 1 10 [10],oN 2 12 11 [11],oC 3 13 .sub 12 1 [12],oT 4 9 13 [13]] (sR [uT 0 14 0,uM 1 15 3 5,oK 2 16 115 [.t 14,.t 15] [14,15],oT 3 17
16 [16],wT 4 18 2 17,wT 5 19 9 17,hK 6 20 121 [.t 18,(.c (.int .i64 0)),.t 19] 17 [18,19],oA 7 21 17 20 [17,20],oT 8 22 21 [21],wT 9 23 3 22,hT 10 24 9 22 [9],hK 11 25 121 [.t 23,(.c (.int .i64 0)),.t 24] 22 [23,24],oA
12 26 22 25 [22,25],oT 13 27 26 [26],hT 14 28 0 27 [0],wF 15 29 1 5 27,hL 16 30 1 29 27 [29],wF 17 31 2 5 27,hL 18 32 1 31 27 [31],hT 19 33 2 27 [2],hT 20 34 3 27 [3],hK 21 35 120 [.t 28,.t 30,.t 32,.t 33,.t 34] 27
[5,28,30,32,33,34],oA 22 36 27 35 [27,35],oT 23 8 36 [36]] .ret)))
def C116 : CFn := ⟨37,4,[.t 8],B116⟩
abbrev B117 : CCode := (sR [oQ 0 5 3 1 [1],oY 1 8 false [8]] (.seq (.reg true [uT 0 9 0,uM 1 10 3 5,uT 2 11 2,uT 3 12 3,oK 4 13 116 [.t 9,.t 10,.t 11,.t 12] [9,10,11,12],oT 5 14 13 [13],wT 6 15 0 14,wM 7 16 3 5 14,wT 8
17 0 14,wF 9 18 1 5 14,hL 10 19 1 18 14 [18],hT 11 20 2 14 [2],hI 12 21 2 19 20 14 [19],hM 13 22 2 21 14 [21],wT 15 24 0 14,wF 16 25 1 5 14,wL 17 26 1 25 14,hT 18 27 3 14 [3],hI 19 28 2 26 27 14 [26],wM 20 29 2 28
14,(14,⟨some 23,.call 54 [.t 17,.t 22],some (14,true),[(5,3),(25,1),(28,2)],[17,20,22,25,28]⟩),(21,⟨some 30,.call 54 [.t 24,.t 29],some (14,true),[(5,3)],[24,27,29]⟩),hK 22 31 167 [.t 15,.t 16,.t 23,.t 30] 14
[5,15,16,23,30],oA 23 32 14 31 [14,31],oT 24 8 32 [32]]) .ret))
def C117 : CFn := ⟨33,4,[.t 8],B117⟩
abbrev L118_1 : CCode := (sR [uB 0 51 .lss 50 49] (.seq (sC 51 [12,49,50,51] 2) (.seq (.block 3 (sR [uT 0 52 50,oT 1 13 52 [52]] (sR [uT 0 53 10,uT 1 54 13,uI 2 55 1 53 54,oL 3 56 1 55 [53,54,55],oE 4 57 56 [56],oT 5 58
57 [57],wT 6 59 0 58,wM 7 60 3 5 58,wT 8 61 12 58,wT 9 62 13 58,hK 10 63 116 [.t 59,.t 60,.t 61,.t 62] 58 [59,60,61,62],oA 11 64 58 63 [58,63]] (.cond (.t 64) (sK [64] (sR [uT 0 65 10,uT 1 66 13,uI 2 67 1 65
66,(3,⟨none,.st 1 (.t 67) (.c (.bool true)),none,[],[65,66,67]⟩)] (.reg false [oT 0 68 11 [11],oT 1 69 13 [13],oP 2 70 (.bsl 1 1 [.int .i64 (0)] [(0,1,(.t 69))]) [69],oX 3 71 1 8 68 70 [68,70],oT 4 11 71 [71]]))) (sK
[13,64] .skip))))) (.reg false [oC 0 72 .add 50 1 [50],oT 1 50 72 [72]]))))
abbrev L118_0 : CCode := (.seq (sR [uT 0 39 11,oN 1 40 39 [39],oC 2 41 .gtr 40 0 [40]] (sC 41 [0,5,11,41] 0)) (.block 1 (sR [uT 0 42 11,uP 1 43 (.ia 1 (.t 42) (.c (.int .i64 0))),oL 2 44 1 43 [42,43],oT 3 12 44 [44]]
(sR [oT 0 45 11 [11],oP 1 46 (.sls 1 (.t 45) (some (.c (.int .i64 1))) none none) [45],oT 2 11 46 [46]] (sR [uF 0 47 1 5,oL 1 48 1 47 [47],oN 2 49 48 [48],uZ 3 50 0] (.block 2 (.loop L118_1)))))))
abbrev B118 : CCode := (sR [oQ 0 5 3 1 [1],oY 1 8 false [8]] (sR [uF 0 14 1 5,oL 1 15 1 14 [14],oN 2 16 15 [15],oC 3 17 .sub 16 1 [16],oT 4 9 17 [17]] (.seq (sR [uT 0 18 0,uM 1 19 3 5,oK 2 20 115 [.t 18,.t 19]
[18,19],oE 3 21 20 [20],oT 4 22 21 [21],vT 5 23 2 22,vT 6 24 9 22,gK 7 25 121 [.t 23,(.c (.int .i64 0)),.t 24] 22 [23,24],gE 8 26 25 22 [25],oO 9 27 22 26 [22,26],oT 10 28 27 [27],vT 11 29 3 28,vT 12 30 9 28,gK 13 31
121 [.t 29,(.c (.int .i64 0)),.t 30] 28 [29,30],gE 14 32 31 28 [31],oO 15 33 28 32 [28,32]] (sD 33 [0,2,3,5,9,33] [uY 0 8 false])) (sR [oT 0 34 9 [9],oC 1 35 .add 34 1 [34],oP 2 36 (.mk 1 1 [.bool false] (.t 35) (.t
35)) [35],oT 3 10 36 [36]] (sR [oT 0 37 2 [2],oP 1 38 (.bsl 1 1 [.int .i64 (0)] [(0,1,(.t 37))]) [37],oT 2 11 38 [38]] (.seq (.block 0 (.loop L118_0)) (sR [oT 0 73 10 [10],oT 1 74 3 [3],uI 2 75 1 73 74,oL 3 76 1 75
[73,74,75],oT 4 8 76 [76]] .ret)))))))
def C118 : CFn := ⟨77,4,[.t 8],B118⟩
abbrev L119_0 : CCode := (sR [uB 0 10 .lss 9 8] (.seq (sC 10 [0,3,8,9,10] 0) (.seq (.block 1 (sR [uT 0 11 9,oT 1 5 11 [11]] (sR [uT 0 12 0,uM 1 13 3 3,uT 2 14 5,oT 3 15 5 [5],oK 4 16 118 [.t 12,.t 13,.t 14,.t 15]
[12,13,14,15]] (sD 16 [0,3,8,9,16] [uY 0 4 true])))) (.reg false [oC 0 17 .add 9 1 [9],oT 1 9 17 [17]]))))
abbrev B119 : CCode := (sR [oQ 0 3 3 1 [1],oY 1 4 false [4]] (.seq (sR [uF 0 6 1 3,oL 1 7 1 6 [6],oN 2 8 7 [7],uZ 3 9 0] (.block 0 (.loop L119_0))) (sR [uY 0 4 false] .ret)))
def C119 : CFn := ⟨18,2,[.t 4],B119⟩
abbrev B120 : CCode := (sR [oY 0 10 false [10]] (sR [uT 0 12 1,uT 1 13 4,uI 2 14 2 12 13,oM 3 15 2 14 [14],oK 4 16 55 [.t 15] [12,13,15],oT 5 11 16 [16]] (sR [uT 0 17 3,oT 1 18 4 [4],oB 2 19 .neq 17 18 [17,18],oT 3 20
19 [19],wT 4 21 11 20,hT 5 22 0 20 [0],hT 6 23 1 20 [1],hT 7 24 2 20 [2],hT 8 25 3 20 [3],hK 9 26 168 [.t 22,.t 23,.t 24,.t 25] 20 [22,23,24,25],hK 10 27 56 [.t 21,.t 26] 20 [21,26],hN 11 28 27 20 [27],hT 12 29 11 20
[11],hN 13 30 29 20 [29],hB 14 31 .lss 28 30 20 [28,30],oA 15 32 20 31 [20,31],oT 16 10 32 [32]] .ret)))
def C120 : CFn := ⟨33,5,[.t 10],B120⟩
abbrev B121 : CCode := (sR [oY 0 6 false [6]] (sR [oT 0 7 1 [1],uT 1 8 0,oB 2 9 .leq 7 8 [7,8],oT 3 10 9 [9],hT 4 11 0 10 [0],hT 5 12 2 10 [2],hB 6 13 .leq 11 12 10 [11,12],oA 7 14 10 13 [10,13],oT 8 6 14 [14]] .ret))
def C121 : CFn := ⟨15,3,[.t 6],B121⟩
abbrev L122_0 : CCode := (sR [uB 0 12 .lss 11 10] (.seq (sC 12 [9,10,11,12] 0) (.seq (.block 1 (sR [uI 0 13 1 9 11,oL 1 14 1 13 [13],oT 2 5 14 [14]] (sR [oT 0 15 3 [3],oT 1 16 5 [5],oN 2 17 16 [16],oB 3 18 .add 15 17
[15,17],oT 4 3 18 [18]] (sR [uT 0 19 3,oC 1 20 .lss 19 0 [19]] (.cond (.t 20) (sK [20] (.reg false [oP 0 21 .fail [21],(1,⟨none,.fail,none,[],[]⟩)])) (sK [20] .skip)))))) (.reg false [oC 0 22 .add 11 1 [11],oT 1 11 22
[22]]))))
abbrev L122_1 : CCode := (sR [uB 0 28 .lss 27 26] (.seq (sC 28 [25,26,27,28] 2) (.seq (.block 3 (sR [uI 0 29 1 25 27,oL 1 30 1 29 [29],oT 2 8 30 [30]] (.reg false [oT 0 31 6 [6],oT 1 32 8 [8],oX 2 33 1 8 31 32
[31,32],oT 3 6 33 [33]]))) (.reg false [oC 0 34 .add 27 1 [27],oT 1 27 34 [34]]))))
abbrev B122 : CCode := (sR [oV 0 2 [2]] (sR [uZ 0 3 0] (.seq (sR [uT 0 9 0,uN 1 10 9,uZ 2 11 0] (.block 0 (.loop L122_0))) (sR [oT 0 23 3 [3],oK 1 24 169 [(.c (.nils)),.t 23] [23],oT 2 6 24 [24]] (.seq (sR [oT 0 25 0
[0],uN 1 26 25,uZ 2 27 0] (.block 2 (.loop L122_1))) (sR [oT 0 35 6 [6],oT 1 2 35 [35]] .ret))))))
def C122 : CFn := ⟨36,1,[.t 2],B122⟩
abbrev B125 : CCode := (sR [oQ 0 2 2 0 [0],oQ 1 3 2 1 [1],oY 2 4 false [4]] (.seq (sR [uF 0 5 0 2,oL 1 6 1 5 [5],uF 2 7 0 3,oL 3 8 1 7 [7],oB 4 9 .neq 6 8 [6,8]] (sD 9 [2,3,9] [uY 0 4 false])) (.seq (sR [uF 0 10 1 2,oL
1 11 1 10 [10],uF 2 12 1 3,oL 3 13 1 12 [12],oK 4 14 63 [.t 11,.t 13] [2,3,11,13],oE 5 15 14 [14]] (sD 15 [15] [uY 0 4 false])) (sR [uY 0 4 true] .ret))))
def C125 : CFn := ⟨16,2,[.t 4],B125⟩
abbrev B126 : CCode := (sR [oQ 0 2 2 0 [0],oZ 1 4 0 [4]] (sR [uF 0 5 1 2,oL 1 6 1 5 [5],oT 2 7 1 [1],oK 3 8 41 [.t 6,.t 7] [2,6,7],oT 4 1 8 [8]] (.seq (sR [uT 0 9 1,oC 1 10 .lss 9 0 [9]] (sD 10 [1,10] [uZ 0 4 (-1)]))
(sR [oT 0 11 1 [1],oT 1 4 11 [11]] .ret))))
def C126 : CFn := ⟨12,2,[.t 4],B126⟩
abbrev L127_0 : CCode := (.seq (sR [uT 0 30 5,uF 1 31 1 3,oL 2 32 1 31 [31],oN 3 33 32 [32],oB 4 34 .lss 30 33 [30,33]] (sC 34 [3,5,34] 0)) (.seq (.block 1 (sR [uF 0 37 1 3,oL 1 38 1 37 [37],uT 2 39 5,oI 3 40 1 38 39
[38],oL 4 41 1 40 [39,40],oK 5 42 110 [.t 41,(.c (.int .i64 0)),(.c (.int .i64 9))] [41],oE 6 43 42 [42]] (sD 43 [3,5,43] [uY 0 4 false]))) (sI 35 36 5)))
abbrev B127 : CCode := (sR [oQ 0 3 2 1 [1],oY 1 4 false [4]] (.seq (.seq (.reg true [uT 0 6 0,oK 1 7 129 [.t 6] [6],oE 2 8 7 [7],oT 3 9 8 [8],vF 4 10 0 3 9,gL 5 11 1 10 9 [10],vT 6 12 0 9,gN 7 13 12 9 [12],gC 8 14 .sub
13 1 9 [13],gK 9 15 110 [.t 11,(.c (.int .i64 0)),.t 14] 9 [11,14],gE 10 16 15 9 [15],oO 11 17 9 16 [9,16],oT 12 18 17 [17],vF 13 19 1 3 18,gL 14 20 1 19 18 [19],gN 15 21 20 18 [20],gT 16 22 0 18 [0],vF 17 23 0 3 18,gL
18 24 1 23 18 [23],vI 19 25 3 22 24 18,gF 20 26 1 25 18 [25],gL 21 27 1 26 18 [22,24,26],gB 22 28 .neq 21 27 18 [21,27],oO 23 29 18 28 [18,28]]) (sD 29 [3,29] [uY 0 4 false])) (sL 5 0 L127_0 (sR [uY 0 4 true] .ret))))
def C127 : CFn := ⟨44,2,[.t 4],B127⟩
abbrev B128 : CCode := (sR [oQ 0 2 2 0 [0],oQ 1 3 2 1 [1],oZ 2 4 0 [4]] (.seq (sR [uF 0 5 0 2,oL 1 6 1 5 [5],uF 2 7 0 3,oL 3 8 1 7 [7],oB 4 9 .lss 6 8 [6,8]] (sD 9 [2,3,9] [uZ 0 4 (-1)])) (.seq (sR [uF 0 10 0 2,oL 1 11
1 10 [10],uF 2 12 0 3,oL 3 13 1 12 [12],oB 4 14 .gtr 11 13 [11,13]] (sD 14 [2,3,14] [uZ 0 4 1])) (sR [uF 0 15 1 2,oL 1 16 1 15 [15],uF 2 17 1 3,oL 3 18 1 17 [17],oK 4 19 172 [.t 16,.t 18] [2,3,16,18],oT 5 4 19 [19]]
.ret))))
def C128 : CFn := ⟨20,2,[.t 4],B128⟩
abbrev L129_0 : CCode := (.seq (sR [uT 0 4 3,uT 1 5 0,oN 2 6 5 [5],oB 3 7 .lss 4 6 [4,6]] (sC 7 [3,7] 0)) (.seq (.block 1 (.seq (.reg true [uT 0 10 0,uT 1 11 3,uI 2 12 3 10 11,oM 3 13 3 12 [12],oK 4 14 173 [.t 13]
[10,11,13],oE 5 15 14 [14],oT 6 16 15 [15],vT 7 17 3 16,gC 8 18 .gtr 17 0 16 [17],gT 9 19 18 16 [18],wT 10 20 0 19,wT 11 21 3 19,hC 12 22 .sub 21 1 19 [21],wI 13 23 3 20 22 19,hF 14 24 0 23 19 [23],hL 15 25 1 24 19
[20,22,24],wT 16 26 0 19,wT 17 27 3 19,wI 18 28 3 26 27 19,hF 19 29 0 28 19 [28],hL 20 30 1 29 19 [26,27,29],hB 21 31 .geq 25 30 19 [25,30],gA 22 32 19 31 16 [19,31],oO 23 33 16 32 [16,32]]) (sD 33 [0,3,33] [uY 0 2
false]))) (sI 8 9 3)))
abbrev B129 : CCode := (sR [oY 0 2 false [2]] (sL 3 0 L129_0 (sR [oT 0 34 0 [0],oN 1 35 34 [34],oC 2 36 .leq 35 4 [35],oT 3 2 36 [36]] .ret)))
def C129 : CFn := ⟨37,1,[.t 2],B129⟩
abbrev L130_1 : CCode := (.seq (sR [uT 0 43 7,uF 1 44 1 6,oL 2 45 1 44 [44],oN 3 46 45 [45],oB 4 47 .lss 43 46 [43,46]] (sC 47 [7,47] 2)) (.seq (.block 3 (sR [uF 0 50 1 6,oL 1 51 1 50 [50],uT 2 52 7,oI 3 53 1 51 52
[51],oL 4 54 1 53 [52,53],oK 5 55 110 [.t 54,(.c (.int .i64 (-10))),(.c (.int .i64 3))] [54],oE 6 56 55 [55]] (sD 56 [0,1,5,6,7,56] [uY 0 4 false]))) (sI 48 49 7)))
abbrev L130_0 : CCode := (.seq (sR [uT 0 8 5,uT 1 9 1,oN 2 10 9 [9],oB 3 11 .lss 8 10 [8,10]] (sC 11 [0,5,11] 0)) (.seq (.block 1 (sR [uT 0 14 1,uT 1 15 5,uI 2 16 4 14 15,oF 3 17 0 16 [16],oM 4 18 2 17 [17],uH 5 6 [.int
.i64 (0),.nils],oS 6 2 6 18 [14,15,18]] (.seq (.seq (.reg true [uT 0 19 0,oK 1 20 129 [.t 19] [19],oE 2 21 20 [20],oT 3 22 21 [21],vF 4 23 0 6 22,gL 5 24 1 23 22 [23],vT 6 25 0 22,gN 7 26 25 22 [25],gC 8 27 .sub 26 1 22
[26],gK 9 28 110 [.t 24,(.c (.int .i64 0)),.t 27] 22 [24,27],gE 10 29 28 22 [28],oO 11 30 22 29 [22,29],oT 12 31 30 [30],vF 13 32 1 6 31,gL 14 33 1 32 31 [32],gN 15 34 33 31 [33],vT 16 35 0 31,vF 17 36 0 6 31,gL 18 37 1
36 31 [36],vI 19 38 3 35 37 31,gF 20 39 1 38 31 [38],gL 21 40 1 39 31 [35,37,39],gB 22 41 .neq 34 40 31 [34,40],oO 23 42 31 41 [31,41]]) (sD 42 [0,1,5,6,42] [uY 0 4 false])) (sL 7 2 L130_1 (.seq (.reg true [uT 0 57 0,uM
1 58 2 6,uT 3 60 1,uT 4 61 5,uI 5 62 4 60 61,oF 6 63 2 62 [62],uL 7 64 1 63,(2,⟨some 59,.call 46 [.t 57,.t 58],none,[(63,1)],[57,58,63]⟩),oK 8 65 163 [.t 59,.t 64] [59,60,61,64],oE 9 66 65 [65],oT 10 67 66 [66],vM 11 68
2 6 67,vT 13 70 1 67,vT 14 71 5 67,vI 15 72 4 70 71 67,gF 16 73 3 72 67 [72],vL 17 74 1 73 67,(12,⟨some 69,.call 111 [.t 68],some (67,false),[(73,1)],[6,68,73]⟩),gK 18 75 163 [.t 69,.t 74] 67 [69,70,71,74],gE 19 76 75
67 [75],oO 20 77 67 76 [67,76]]) (sD 77 [0,1,5,77] [uY 0 4 false])))))) (sI 12 13 5)))
abbrev B130 : CCode := (sR [oY 0 4 false [4]] (sL 5 0 L130_0 (sR [oT 0 78 1 [1],oN 1 79 78 [78],oC 2 80 .leq 79 3 [79],oT 3 4 80 [80]] .ret)))
def C130 : CFn := ⟨81,2,[.t 4],B130⟩
abbrev L131_0 : CCode := (.seq (sR [uT 0 5 3,oN 1 6 5 [5],uT 2 7 0,oB 3 8 .lss 6 7 [6,7]] (sC 8 [0,8] 0)) (.block 1 (.reg false [oT 0 9 3 [3],uP 1 10 (.bsl 1 1 [.int .i64 (0)] [(0,1,(.c (.int .i64 (-1))))]),oX 2 11 1 8
9 10 [9,10],oT 3 3 11 [11]])))
abbrev B131 : CCode := (sR [oV 0 2 [2]] (sR [uW 0 4 1 [.int .i64 (0)],oT 1 3 4 [4]] (.seq (.block 0 (.loop L131_0)) (sR [oT 0 12 3 [3],oT 1 2 12 [12]] .ret))))
def C131 : CFn := ⟨13,1,[.t 2],B131⟩
abbrev L132_1 : CCode := (.seq (sR [uT 0 77 16,uT 1 78 11,uT 2 79 12,uI 3 80 1 78 79,oL 4 81 1 80 [80],oN 5 82 81 [78,79,81],oB 6 83 .lss 77 82 [77,82],oT 7 84 83 [83],wT 8 85 15 84,oA 9 86 84 85 [84,85]] (.cond (.t 86)
(sK [15,86] .skip) (sK [14,16,86] (.exit 2)))) (.seq (.block 3 (.seq (.reg true [uM 0 90 2 9,uF 1 91 1 4,oL 2 92 1 91 [91],uT 3 93 11,uT 4 94 12,uI 5 95 1 93 94,oL 6 96 1 95 [95],uT 7 97 16,oI 8 98 1 96 97 [96],oL 9 99
1 98 [93,94,97,98],oI 10 100 2 92 99 [92],oM 11 101 2 100 [100],uT 12 102 14,oK 13 103 174 [.t 90,.t 101,.t 102] [90,99,101,102],oT 14 89 103 [103],uU 15 104 89 0,oU 16 105 89 1 [89],oT 17 17 104 [104],oT 18 18 105
[105]]) (.reg false [oT 0 106 18 [18],oT 1 107 106 [106],wM 2 108 2 4 107,wT 3 109 1 107,wT 4 110 2 107,hC 5 111 .add 110 1 107 [110],hT 6 112 17 107 [17],hK 7 113 132 [.t 108,.t 109,.t 111,.t 112] 107
[108,109,111,112],oA 8 114 107 113 [107,113],oT 9 15 114 [114]]))) (sI 87 88 16)))
abbrev L132_0 : CCode := (.seq (sR [uT 0 37 12,uT 1 38 11,oN 2 39 38 [38],oB 3 40 .lss 37 39 [37,39]] (sC 40 [1,2,3,4,9,10,11,12,40] 0)) (.seq (.block 1 (.seq (.reg true [uF 0 43 1 4,oL 1 44 1 43 [43],uT 2 45 11,uT 3 46
12,uI 4 47 1 45 46,oL 5 48 1 47 [47],oP 6 49 (.ia 1 (.t 48) (.c (.int .i64 0))) [48],oL 7 50 1 49 [45,46,49],oI 8 51 2 44 50 [44],oM 9 52 2 51 [51],uH 10 13 [.int .i64 (0),.nils],oS 11 2 13 52 [50,52]]) (.seq (sR [uF 0
53 0 13,oL 1 54 1 53 [53],uF 2 55 0 9,oL 3 56 1 55 [55],oB 4 57 .neq 54 56 [54,56]] (.cond (.t 57) (sK [13,57] (.exit 1)) (sK [57] .skip))) (.seq (.reg true [uF 0 59 0 9,oL 1 60 1 59 [59],uF 2 61 1 9,oL 3 62 1 61
[61],uT 4 63 10,oP 5 64 (.sls 1 (.t 62) none (some (.t 63)) none) [62,63],oP 6 65 (.bld [.int .i64 (0),.nils] [(0,1,(.t 60)),(1,1,(.t 64))]) [60,64],uF 7 66 0 9,oL 8 67 1 66 [66],uF 9 68 1 13,oL 10 69 1 68 [68],uT 11 70
10,oP 12 71 (.sls 1 (.t 69) none (some (.t 70)) none) [13,69,70],oP 13 72 (.bld [.int .i64 (0),.nils] [(0,1,(.t 67)),(1,1,(.t 71))]) [67,71],uT 14 73 3,oK 15 74 174 [.t 65,.t 72,.t 73] [65,72,73],oT 16 58 74 [74],uU 17
75 58 0,oU 18 76 58 1 [58],oT 19 14 75 [75],oT 20 15 76 [76]]) (sL 16 2 L132_1 (sR [oT 0 115 15 [15]] (sD 115 [1,2,3,4,9,10,11,12,115] [uY 0 8 true]))))))) (sI 41 42 12)))
abbrev B132 : CCode := (sR [oQ 0 4 2 0 [0],oY 1 8 false [8]] (.seq (sR [uT 0 19 2,uT 1 20 1,oN 2 21 20 [20],oB 3 22 .eql 19 21 [19,21]] (sD 22 [1,2,3,4,22] [uY 0 8 true])) (sR [uT 0 23 1,uT 1 24 2,uI 2 25 4 23 24,oF 3
26 0 25 [25],oM 4 27 2 26 [26],uH 5 9 [.int .i64 (0),.nils],oS 6 2 9 27 [23,24,27]] (sR [uF 0 28 0 4,oL 1 29 1 28 [28],uF 2 30 0 9,oL 3 31 1 30 [30],oI 4 32 3 29 31 [29],oF 5 33 2 32 [32],oL 6 34 1 33 [31,33],oT 7 10 34
[34]] (sR [uM 0 35 2 4,oK 1 36 86 [.t 35] [35],oT 2 11 36 [36]] (sL 12 0 L132_0 (sR [uY 0 8 false] .ret)))))))
def C132 : CFn := ⟨116,4,[.t 8],B132⟩
abbrev B133 : CCode := (sR [oQ 0 1 2 0 [0],uH 1 2 [.int .i64 (0),.nils]] (sR [uH 0 3 [.int .i64 (0),.nils]] (sR [uF 0 4 0 1,oL 1 5 1 4 [4],uF 2 6 0 3,oS 3 1 6 5 [5,6]] (sR [uF 0 7 1 1,oL 1 8 1 7 [7],oK 2 9 50 [.t 8]
[1,8],uF 3 10 1 3,oS 4 1 10 9 [9,10]] (sR [uM 0 11 2 3,oS 1 2 2 11 [3,11]] .ret)))))
def C133 : CFn := ⟨12,1,[.m 2 2 true],B133⟩
abbrev L134_0 : CCode := (sR [uB 0 8 .lss 7 6] (.seq (sC 8 [5,6,7,8] 0) (.seq (.block 1 (sR [uT 0 9 7,uI 1 10 3 5 7,oM 2 11 3 10 [10],uP 3 4 (.al [.str [],.int .i64 (0),.int .i64 (0)]),oT 4 3 9 [9],oS 5 3 4 11 [11]]
(.seq (.reg true [uM 0 12 3 4,oK 1 13 175 [.t 12] [12],oE 2 14 13 [13],oT 3 15 14 [14],vT 4 16 3 15,gC 5 17 .gtr 16 0 15 [16],gT 6 18 17 15 [17],wT 7 19 0 18,hT 8 20 3 18 [3],hC 9 21 .sub 20 1 18 [20],wI 10 22 3 19 21
18,hF 11 23 0 22 18 [22],hL 12 24 1 23 18 [19,21,23],wF 13 25 0 4 18,hL 14 26 1 25 18 [4,25],hB 15 27 .geq 24 26 18 [24,26],gA 16 28 18 27 15 [18,27],oO 17 29 15 28 [15,28]]) (sD 29 [0,5,6,7,29] [uY 0 2 false])))) (.reg
false [oC 0 30 .add 7 1 [7],oT 1 7 30 [30]]))))
abbrev B134 : CCode := (sR [oY 0 2 false [2]] (.seq (sR [uT 0 5 0,uN 1 6 5,uZ 2 7 0] (.block 0 (.loop L134_0))) (sR [oT 0 31 0 [0],oN 1 32 31 [31],oC 2 33 .leq 32 4 [32],oT 3 2 33 [33]] .ret)))
def C134 : CFn := ⟨34,1,[.t 2],B134⟩
abbrev B135 : CCode := (sR [oQ 0 3 2 1 [1],oY 1 4 false [4]] (.seq (.reg true [uF 0 5 0 3,oL 1 6 1 5 [5],uT 2 7 0,oN 3 8 7 [7],oC 4 9 .sub 8 1 [8],oK 5 10 121 [.t 6,(.c (.int .i64 0)),.t 9] [6,9],oT 6 11 10 [10],wF 7 12
1 3 11,hL 8 13 1 12 11 [12],hN 9 14 13 11 [13],hT 10 15 0 11 [0],wF 11 16 0 3 11,hL 12 17 1 16 11 [16],wI 13 18 3 15 17 11,hF 14 19 1 18 11 [18],hL 15 20 1 19 11 [15,17,19],hB 16 21 .eql 14 20 11 [14,20],oA 17 22 11 21
[11,21],oT 18 23 22 [22],wF 19 24 1 3 23,hL 20 25 1 24 23 [24],hK 21 26 176 [.t 25] 23 [3,25],oA 22 27 23 26 [23,26],oT 23 4 27 [27]]) .ret))
def C135 : CFn := ⟨28,2,[.t 4],B135⟩
abbrev B136 : CCode := (sR [oQ 0 2 2 0 [0],oQ 1 3 2 1 [1],oZ 2 4 0 [4]] (.seq (sR [uF 0 5 0 2,oL 1 6 1 5 [5],uF 2 7 0 3,oL 3 8 1 7 [7],oB 4 9 .neq 6 8 [6,8]] (sD 9 [9] [uF 0 10 0 2,oL 1 11 1 10 [2,10],uF 2 12 0 3,oL 3
13 1 12 [3,12],oK 4 14 177 [.t 11,.t 13] [11,13],oT 5 4 14 [14]])) (sR [uF 0 15 1 2,oL 1 16 1 15 [15],uF 2 17 1 3,oL 3 18 1 17 [17],oK 4 19 178 [.t 16,.t 18] [2,3,16,18],oT 5 4 19 [19]] .ret)))
def C136 : CFn := ⟨20,2,[.t 4],B136⟩
abbrev L137_0 : CCode := (sR [uB 0 11 .lss 10 9] (.seq (sC 11 [0,8,9,10,11] 0) (.seq (.block 1 (sR [uT 0 12 10,uI 1 13 4 8 10,oM 2 14 4 13 [13],uH 3 6 [.int .i64 (0),.nils,.nils,.nils],oT 4 5 12 [12],oS 5 4 6 14 [14]]
(sR [uF 0 15 0 6,oM 1 16 2 15 [15],uH 2 7 [.int .i64 (0),.nils],oS 3 2 7 16 [16]] (.seq (.seq (.reg true [oT 0 17 5 [5],oC 1 18 .geq 17 3 [17],oT 2 19 18 [18],vT 3 20 0 19,gK 4 21 134 [.t 20] 19 [20],gE 5 22 21 19
[21],oO 6 23 19 22 [19,22],oT 7 24 23 [23],vF 8 25 0 7 24,gL 9 26 1 25 24 [25],vT 10 27 0 24,gN 11 28 27 24 [27],gC 12 29 .sub 28 1 24 [28],gK 13 30 121 [.t 26,(.c (.int .i64 0)),.t 29] 24 [26,29],gE 14 31 30 24 [30],oO
15 32 24 31 [24,31],oT 16 33 32 [32],vF 17 34 1 7 33,gL 18 35 1 34 33 [34],gN 19 36 35 33 [35],vT 20 37 0 33,vF 21 38 0 7 33,gL 22 39 1 38 33 [38],vI 23 40 3 37 39 33,gF 24 41 1 40 33 [40],gL 25 42 1 41 33 [37,39,41],gB
26 43 .neq 36 42 33 [36,42],oO 27 44 33 43 [33,43]]) (sD 44 [0,6,7,8,9,10,44] [uY 0 4 false])) (.seq (sR [uF 0 45 1 7,oL 1 46 1 45 [45],oP 2 47 (.call 179 [.t 46,(.c (.fn 180 []))]) [46]] (sD 47 [0,6,7,8,9,10,47] [uY 0
4 false])) (.seq (.reg true [uF 0 48 2 6,uL 1 49 1 48,uT 2 50 0,uM 3 51 2 7,(4,⟨some 52,.call 54 [.t 50,.t 51],none,[(48,1)],[48,50,51]⟩),oK 5 53 181 [.t 49,.t 52] [49,52],oE 6 54 53 [53],oT 7 55 54 [54],vF 8 56 3 6
55,vL 9 57 1 56 55,vM 10 58 2 7 55,(11,⟨some 59,.call 55 [.t 58],some (55,false),[(56,1)],[7,56,58]⟩),gK 12 60 181 [.t 57,.t 59] 55 [6,57,59],gE 13 61 60 55 [60],oO 14 62 55 61 [55,61]]) (sD 62 [0,8,9,10,62] [uY 0 4
false]))))))) (.reg false [oC 0 63 .add 10 1 [10],oT 1 10 63 [63]]))))
abbrev B137 : CCode := (sR [oY 0 4 false [4]] (.seq (sR [oT 0 8 1 [1],uN 1 9 8,uZ 2 10 0] (.block 0 (.loop L137_0))) (sR [uY 0 4 true] .ret)))
def C137 : CFn := ⟨64,2,[.t 4],B137⟩
abbrev B138 : CCode := (sR [oV 0 2 [2]] (sR [uP 0 3 (.bsl 1 1 [.int .i64 (0)] [(0,1,(.c (.int .i64 (-1))))]),oT 1 4 0 [0],oK 2 5 182 [.t 3,.t 4] [3,4],oT 3 2 5 [5]] .ret))
def C138 : CFn := ⟨6,1,[.t 2],B138⟩
abbrev L139_1 : CCode := (.seq (sR [uT 0 64 16,uT 1 65 12,oN 2 66 65 [65],oB 3 67 .lss 64 66 [64,66],oT 4 68 67 [67],wT 5 69 15 68,oA 6 70 68 69 [68,69]] (.cond (.t 70) (sK [15,70] .skip) (sK [12,14,16,70] (.exit 2))))
(.seq (.block 3 (.seq (.reg true [uT 0 74 14,uF 1 75 1 9,oL 2 76 1 75 [75],uF 3 77 1 4,oL 4 78 1 77 [77],uT 5 79 12,uT 6 80 16,uI 7 81 1 79 80,oL 8 82 1 81 [79,80,81],oI 9 83 2 78 82 [78],oF 10 84 1 83 [83],oL 11 85 1
84 [84],oK 12 86 183 [.t 74,.t 76,.t 85] [74,76,82,85],oT 13 73 86 [86],uU 14 87 73 0,oU 15 88 73 1 [73],oT 16 17 87 [87],oT 17 18 88 [88]]) (.reg true [oT 0 89 18 [18],oT 1 90 89 [89],wM 2 91 2 4 90,wT 3 92 1 90,wT 4
93 2 90,hG 5 94 (.sls 4 (.t 93) (some (.c (.int .i64 1))) none none) 90 [93],hT 6 95 17 90 [17],hK 7 96 139 [.t 91,.t 92,.t 94,.t 95] 90 [91,92,94,95],oA 8 97 90 96 [90,96],oT 9 15 97 [97]]))) (sI 71 72 16)))
abbrev L139_0 : CCode := (sR [uB 0 36 .lss 35 34] (.seq (sC 36 [1,2,3,4,9,10,33,34,35,36] 0) (.seq (.block 1 (sR [uI 0 37 1 33 35,oL 1 38 1 37 [37],oT 2 12 38 [38]] (.seq (.reg true [uF 0 39 1 4,oL 1 40 1 39 [39],uT 2
41 12,uP 3 42 (.ia 1 (.t 41) (.c (.int .i64 0))),oL 4 43 1 42 [41,42],oI 5 44 2 40 43 [40],oM 6 45 2 44 [44],uH 7 13 [.int .i64 (0),.nils],oS 8 2 13 45 [43,45]]) (.seq (sR [uF 0 46 0 13,oL 1 47 1 46 [46],uF 2 48 0 9,oL
3 49 1 48 [48],oB 4 50 .neq 47 49 [47,49]] (.cond (.t 50) (sK [12,13,50] (.exit 1)) (sK [50] .skip))) (.seq (.reg true [uT 0 52 3,uF 1 53 1 9,oL 2 54 1 53 [53],uT 3 55 10,oP 4 56 (.sls 1 (.t 54) none (some (.t 55))
none) [54,55],uF 5 57 1 13,oL 6 58 1 57 [57],uT 7 59 10,oP 8 60 (.sls 1 (.t 58) none (some (.t 59)) none) [13,58,59],oK 9 61 183 [.t 52,.t 56,.t 60] [52,56,60],oT 10 51 61 [61],uU 11 62 51 0,oU 12 63 51 1 [51],oT 13 14
62 [62],oT 14 15 63 [63]]) (sL 16 2 L139_1 (sR [oT 0 98 15 [15]] (sD 98 [1,2,3,4,9,10,33,34,35,98] [uY 0 8 true])))))))) (.reg false [oC 0 99 .add 35 1 [35],oT 1 35 99 [99]]))))
abbrev B139 : CCode := (sR [oQ 0 4 2 0 [0],oY 1 8 false [8]] (.seq (sR [uT 0 19 2,oN 1 20 19 [19],oC 2 21 .eql 20 0 [20]] (sD 21 [1,2,3,4,21] [uY 0 8 true])) (sR [uT 0 22 2,uP 1 23 (.ia 4 (.t 22) (.c (.int .i64 0))),oF
2 24 0 23 [23],oM 3 25 2 24 [24],uH 4 9 [.int .i64 (0),.nils],oS 5 2 9 25 [22,25]] (sR [uF 0 26 0 4,oL 1 27 1 26 [26],uF 2 28 0 9,oL 3 29 1 28 [28],oI 4 30 3 27 29 [27],oF 5 31 2 30 [30],oL 6 32 1 31 [29,31],oT 7 10 32
[32]] (.seq (sR [uT 0 33 1,uN 1 34 33,uZ 2 35 0] (.block 0 (.loop L139_0))) (sR [uY 0 8 false] .ret))))))
def C139 : CFn := ⟨100,4,[.t 8],B139⟩
abbrev B140 : CCode := (sR [oQ 0 2 2 0 [0],oQ 1 3 2 1 [1],oY 2 4 false [4]] (.seq (sR [uF 0 5 0 2,oL 1 6 1 5 [5],uF 2 7 0 3,oL 3 8 1 7 [7],oB 4 9 .neq 6 8 [6,8]] (sD 9 [2,3,9] [uY 0 4 false])) (.seq (sR [uF 0 10 1 2,oL
1 11 1 10 [10],uF 2 12 1 3,oL 3 13 1 12 [12],oK 4 14 63 [.t 11,.t 13] [2,3,11,13],oE 5 15 14 [14]] (sD 15 [15] [uY 0 4 false])) (sR [uY 0 4 true] .ret))))
def C140 : CFn := ⟨16,2,[.t 4],B140⟩
abbrev L150_0 : CCode := (.seq (sR [uT 0 8 6,uF 1 9 1 2,oL 2 10 1 9 [9],oN 3 11 10 [10],oB 4 12 .lss 8 11 [8,11],oT 5 13 12 [12],wM 6 14 2 2 13,hK 7 15 69 [.t 14] 13 [14],oA 8 16 13 15 [13,15],oT 9 17 16 [16],wT 10 18 1
17,wF 11 19 1 2 17,hL 12 20 1 19 17 [19],hN 13 21 20 17 [20],hC 14 22 .sub 21 1 17 [21],hK 15 23 110 [.t 18,(.c (.int .i64 0)),.t 22] 17 [18,22],oA 16 24 17 23 [17,23]] (sC 24 [1,2,6,24] 0)) (.seq (.block 1 (.seq (.reg
true [uF 0 27 0 2,oL 1 28 1 27 [27],uF 2 29 1 2,oL 3 30 1 29 [29],uT 4 31 1,oI 5 32 2 30 31 [30],oM 6 33 2 32 [32],uF 7 34 1 2,oL 8 35 1 34 [34],uT 9 36 6,oI 10 37 2 35 36 [35],oM 11 38 2 37 [37],oK 12 39 196 [.t 28,.t
33,.t 38] [28,31,33,36,38]]) (.cond (.t 39) (sK [39] (.reg false [oT 0 40 5 [5],uT 1 41 6,oP 2 42 (.bsl 1 1 [.int .i64 (0)] [(0,1,(.t 41))]) [41],oX 3 43 1 8 40 42 [40,42],oT 4 5 43 [43]])) (sK [39] .skip)))) (sI 25 26
6)))
abbrev B150 : CCode := (sR [oQ 0 2 2 0 [0],oV 1 4 [4]] (sR [uW 0 7 1 [.int .i64 (0)],oT 1 5 7 [7]] (sL 6 0 L150_0 (sR [oT 0 44 5 [5],oT 1 4 44 [44]] .ret))))
def C150 : CFn := ⟨45,2,[.t 4],B150⟩
abbrev B155 : CCode := (sR [oQ 0 4 2 1 [1],oQ 1 5 2 2 [2],oY 2 6 false [6]] (.seq (sR [uF 0 8 0 4,oL 1 9 1 8 [8],uF 2 10 0 5,oL 3 11 1 10 [10],oB 4 12 .neq 9 11 [9,11]] (sD 12 [0,4,5,12] [uY 0 6 false])) (sR [oT 0 13 0
[0],uF 1 14 0 4,oL 2 15 1 14 [14],uI 3 16 3 13 15,oF 4 17 2 16 [16],oL 5 18 1 17 [13,15,17],oT 6 7 18 [18]] (.seq (.reg true [uF 0 19 1 4,oL 1 20 1 19 [19],uT 2 21 7,oP 3 22 (.sls 1 (.t 20) none (some (.t 21)) none)
[4,20,21],uF 4 23 1 5,oL 5 24 1 23 [23],oT 6 25 7 [7],oP 7 26 (.sls 1 (.t 24) none (some (.t 25)) none) [5,24,25],oK 8 27 202 [.t 22,.t 26] [22,26],oT 9 6 27 [27]]) .ret))))
def C155 : CFn := ⟨28,3,[.t 6],B155⟩
abbrev L156_0 : CCode := (sR [uB 0 9 .lss 8 7] (.seq (sC 9 [0,1,7,8,9] 0) (.seq (.block 1 (sR [uT 0 10 8,oT 1 5 10 [10]] (sR [uT 0 11 1,uT 1 12 0,uT 2 13 5,uI 3 14 1 12 13,oL 4 15 1 14 [12,13,14],oB 5 16 .eql 11 15
[11,15]] (.cond (.t 16) (sK [0,1,7,8,16] (sR [oT 0 17 5 [5],oT 1 4 17 [17]] .ret)) (sK [5,16] .skip))))) (.reg false [oC 0 18 .add 8 1 [8],oT 1 8 18 [18]]))))
abbrev B156 : CCode := (sR [oZ 0 4 0 [4]] (.seq (sR [uT 0 6 0,oN 1 7 6 [6],uZ 2 8 0] (.block 0 (.loop L156_0))) (sR [uZ 0 4 (-1)] .ret)))
def C156 : CFn := ⟨19,2,[.t 4],B156⟩
abbrev L161_2 : CCode := (.seq (sR [uT 0 57 13,uT 1 58 11,oN 2 59 58 [58],oB 3 60 .lss 57 59 [57,59]] (sC 60 [13,60] 4)) (.seq (.block 5 (.reg false [oT 0 63 12 [12],oT 1 64 63 [63],vT 2 65 7 64,vT 3 66 11 64,vT 4 67 13
64,vI 5 68 1 66 67 64,gL 6 69 1 68 64 [66,67,68],gK 7 70 45 [.t 65,.t 69] 64 [65,69],oO 8 71 64 70 [64,70],oT 9 12 71 [71]])) (sI 61 62 13)))
abbrev L161_3 : CCode := (.seq (sR [uT 0 72 14,uT 1 73 11,oN 2 74 73 [73],oB 3 75 .lss 72 74 [72,74],oT 4 76 75 [75],wT 5 77 12 76,oA 6 78 76 77 [76,77]] (sC 78 [11,12,14,78] 6)) (.seq (.block 7 (sR [uT 0 81 8,uT 1 82
11,uT 2 83 14,uI 3 84 1 82 83,oL 4 85 1 84 [82,83,84],oK 5 86 45 [.t 81,.t 85] [81,85],oE 6 87 86 [86]] (.cond (.t 87) (sK [87] (.reg false [oT 0 88 7 [7],uT 1 89 11,uT 2 90 14,uI 3 91 1 89 90,oL 4 92 1 91 [89,90,91],oP
5 93 (.bsl 1 1 [.int .i64 (0)] [(0,1,(.t 92))]) [92],oK 6 94 113 [.t 88,.t 93] [88,93],oT 7 7 94 [94]])) (sK [87] .skip)))) (sI 79 80 14)))
abbrev L161_1 : CCode := (.seq (sR [uT 0 41 10,uF 1 42 1 4,oL 2 43 1 42 [42],oN 3 44 43 [43],oB 4 45 .lss 41 44 [41,44]] (sC 45 [10,45] 2)) (.seq (.block 3 (sR [uF 0 48 1 4,oL 1 49 1 48 [48],uT 2 50 10,oI 3 51 2 49 50
[49],oM 4 52 2 51 [51],oK 5 53 111 [.t 52] [50,52],oT 6 11 53 [53]] (sR [uT 0 54 10,uT 1 55 2,oB 2 56 .eql 54 55 [54,55],oT 3 12 56 [56]] (sL 13 4 L161_2 (sR [uZ 0 14 0] (.block 6 (.loop L161_3))))))) (sI 46 47 10)))
abbrev L161_0 : CCode := (.seq (sR [uT 0 34 9,uF 1 35 1 4,oL 2 36 1 35 [35],oN 3 37 36 [36],oB 4 38 .leq 34 37 [34,37]] (sC 38 [2,4,8,9,38] 0)) (.seq (.block 1 (sR [uZ 0 10 0] (.block 2 (.loop L161_1)))) (sI 39 40 9)))
abbrev B161 : CCode := (sR [oQ 0 4 3 1 [1],oV 1 6 [6]] (sR [uW 0 15 1 [.int .i64 (0)],oT 1 7 15 [15]] (.seq (sR [uT 0 16 0,uM 1 17 3 4,oK 2 18 80 [.t 16,.t 17] [16,17],oE 3 19 18 [18],oT 4 20 19 [19],vT 5 21 2 20,vF 6
22 1 4 20,gL 7 23 1 22 20 [22],gN 8 24 23 20 [23],gC 9 25 .sub 24 1 20 [24],gK 10 26 110 [.t 21,(.c (.int .i64 0)),.t 25] 20 [21,25],gE 11 27 26 20 [26],oO 12 28 20 27 [20,27]] (sD 28 [0,2,4,28] [oT 0 29 7 [7],oT 1 6 29
[29]])) (sR [oT 0 30 0 [0],uM 1 31 3 4,uT 2 32 2,oK 3 33 204 [.t 30,.t 31,.t 32] [30,31,32],oT 4 8 33 [33]] (sL 9 0 L161_0 (sR [oT 0 95 7 [7],oT 1 6 95 [95]] .ret))))))
def C161 : CFn := ⟨96,3,[.t 6],B161⟩
abbrev B162 : CCode := (sR [oQ 0 5 3 1 [1],oY 1 8 false [8]] (sR [uT 0 9 0,uM 1 10 3 5,oK 2 11 80 [.t 9,.t 10] [9,10],oT 3 12 11 [11],hT 4 13 0 12 [0],wM 5 14 3 5 12,hT 6 15 2 12 [2],hK 7 16 205 [.t 13,.t 14,(.c (.int
.i64 (-1))),.t 15] 12 [5,13,14,15],hT 8 17 3 12 [3],hK 9 18 163 [.t 16,.t 17] 12 [16,17],oA 10 19 12 18 [12,18],oT 11 8 19 [19]] .ret))
def C162 : CFn := ⟨20,4,[.t 8],B162⟩
abbrev L163_0 : CCode := (.seq (sR [uT 0 6 5,uT 1 7 1,oN 2 8 7 [7],oB 3 9 .lss 6 8 [6,8]] (sC 9 [0,1,5,9] 0)) (.seq (.block 1 (sR [uT 0 12 0,uT 1 13 1,uT 2 14 5,uI 3 15 1 13 14,oL 4 16 1 15 [13,14,15],oK 5 17 45 [.t
12,.t 16] [12,16],oE 6 18 17 [17]] (sD 18 [0,1,5,18] [uY 0 4 false]))) (sI 10 11 5)))
abbrev B163 : CCode := (sR [oY 0 4 false [4]] (sL 5 0 L163_0 (sR [uY 0 4 true] .ret)))
def C163 : CFn := ⟨19,2,[.t 4],B163⟩
abbrev L164_0 : CCode := (.seq (sR [uT 0 8 7,uT 1 9 0,oN 2 10 9 [9],oB 3 11 .lss 8 10 [8,10]] (sC 11 [0,1,2,7,11] 0)) (.seq (.block 1 (sR [uT 0 14 1,uT 1 15 0,uT 2 16 7,uI 3 17 1 15 16,oL 4 18 1 17 [15,16,17],oK 5 19 45
[.t 14,.t 18] [14,18],oT 6 20 19 [19],wT 7 21 2 20,wT 8 22 0 20,wT 9 23 7 20,wI 10 24 1 22 23 20,hL 11 25 1 24 20 [22,23,24],hK 12 26 45 [.t 21,.t 25] 20 [21,25],hE 13 27 26 20 [26],oA 14 28 20 27 [20,27]] (sD 28
[0,1,2,7,28] [uY 0 6 true]))) (sI 12 13 7)))
abbrev B164 : CCode := (sR [oY 0 6 false [6]] (sL 7 0 L164_0 (sR [uY 0 6 false] .ret)))
def C164 : CFn := ⟨29,3,[.t 6],B164⟩
abbrev B165 : CCode := (sR [oY 0 4 false [4]] (sR [oT 0 5 0 [0],oT 1 6 1 [1],oK 2 7 206 [.t 5,.t 6] [5,6],oC 3 8 .geq 7 0 [7],oT 4 4 8 [8]] .ret))
def C165 : CFn := ⟨9,2,[.t 4],B165⟩
abbrev B166 : CCode := (sR [oQ 0 2 2 0 [0],oY 1 3 false [3]] (sR [uF 0 4 0 2,oL 1 5 1 4 [2,4],uF 2 6 0 1,oL 3 7 1 6 [1,6],oB 4 8 .eql 5 7 [5,7],oT 5 3 8 [8]] .ret))
def C166 : CFn := ⟨9,2,[.t 3],B166⟩
abbrev B167 : CCode := (sR [oQ 0 5 3 1 [1],oY 1 8 false [8]] (sR [uT 0 9 0,uM 1 10 3 5,oK 2 11 115 [.t 9,.t 10] [9,10],oT 3 12 11 [11],hT 4 13 3 12 [3],hT 5 14 0 12 [0],wM 6 15 3 5 12,hT 7 16 2 12 [2],hK 8 17 207 [.t
14,.t 15,(.c (.int .i64 (-1))),.t 16] 12 [5,14,15,16],hK 9 18 181 [.t 13,.t 17] 12 [13,17],oA 10 19 12 18 [12,18],oT 11 8 19 [19]] .ret))
def C167 : CFn := ⟨20,4,[.t 8],B167⟩
abbrev L168_1 : CCode := (sR [uB 0 39 .lss 38 37] (.seq (sC 39 [36,37,38,39] 2) (.seq (.block 3 (sR [uI 0 40 2 36 38,oM 1 41 2 40 [40],uH 2 13 [.int .i64 (0),.nils],oS 3 2 13 41 [41]] (sR [uM 0 42 2 13,oK 1 43 55 [.t
42] [13,42],uT 2 44 9,oK 3 45 56 [.t 43,.t 44] [43,44],oT 4 14 45 [45]] (sR [uT 0 46 14,uT 1 47 11,oK 2 48 56 [.t 46,.t 47] [46,47],oN 3 49 48 [48],uT 4 50 14,oN 5 51 50 [50],oB 6 52 .lss 49 51 [49,51]] (.cond (.t 52)
(sK [52] (.reg false [oT 0 53 11 [11],oT 1 54 14 [14],oK 2 55 57 [.t 53,.t 54] [53,54],oT 3 11 55 [55]])) (sK [14,52] .skip)))))) (.reg false [oC 0 56 .add 38 1 [38],oT 1 38 56 [56]]))))
abbrev L168_0 : CCode := (.block 1 (sR [uT 0 35 10,oT 1 11 35 [35]] (.seq (sR [uT 0 36 1,uN 1 37 36,uZ 2 38 0] (.block 2 (.loop L168_1))) (.seq (sR [uT 0 57 11,oN 1 58 57 [57],uT 2 59 10,oN 3 60 59 [59],oB 4 61 .eql 58
60 [58,60]] (.cond (.t 61) (sK [1,9,11,61] (sR [oT 0 62 10 [10],oT 1 8 62 [62]] .ret)) (sK [10,61] .skip))) (.reg false [oT 0 63 11 [11],oT 1 10 63 [63]])))))
abbrev B168 : CCode := (sR [oV 0 8 [8]] (sR [uT 0 15 0,uT 1 16 1,uT 2 17 3,oT 3 18 2 [2],uT 4 19 0,uT 5 20 1,uT 6 21 3,uI 7 22 2 20 21,oM 8 23 2 22 [22],oK 9 24 54 [.t 19,.t 23] [19,20,21,23],oP 10 25 (.bsl 1 2 [.nils]
[(0,1,(.t 18)),(1,1,(.t 24))]) [18,24],oK 11 26 122 [.t 25] [25],oK 12 27 208 [.t 15,.t 16,.t 17,.t 26] [15,16,17,26],oT 13 9 27 [27]] (sR [uT 0 28 1,oT 1 29 3 [3],uI 2 30 2 28 29,oM 3 31 2 30 [30],oK 4 32 55 [.t 31]
[28,29,31],uT 5 33 9,oK 6 34 56 [.t 32,.t 33] [32,33],oT 7 10 34 [34]] (.block 0 (.loop L168_0)))))
def C168 : CFn := ⟨64,4,[.t 8],B168⟩
abbrev B169 : CCode := (sR [oV 0 4 [4]] (.seq (sR [uT 0 5 1,oC 1 6 .lss 5 0 [5]] (.cond (.t 6) (sK [6] (.reg false [oP 0 7 .fail [7],(1,⟨none,.fail,none,[],[]⟩)])) (sK [6] .skip))) (.seq (sR [oT 0 8 1 [1],uT 1 9 0,oP 2
10 (.cap (.t 9)) [9],uT 3 11 0,oN 4 12 11 [11],oB 5 13 .sub 10 12 [10,12],oB 6 14 .sub 8 13 [8,13],oT 7 1 14 [14]] (sR [uT 0 15 1,oC 1 16 .gtr 15 0 [15]] (.cond (.t 16) (sK [16] (.reg false [uT 0 17 0,uT 1 18 0,oP 2 19
(.cap (.t 18)) [18],oP 3 20 (.sls 1 (.t 17) none (some (.t 19)) none) [17,19],oT 4 21 1 [1],oP 5 22 (.appm 1 8 [.int .i64 (0)] (.t 20) (.t 21)) [20,21],oT 6 23 0 [0],oN 7 24 23 [23],oP 8 25 (.sls 1 (.t 22) none (some
(.t 24)) none) [22,24],oT 9 0 25 [25]])) (sK [1,16] .skip)))) (sR [oT 0 26 0 [0],oT 1 4 26 [26]] .ret))))
def C169 : CFn := ⟨27,2,[.t 4],B169⟩
abbrev L172_0 : CCode := (.seq (sR [uT 0 6 5,uT 1 7 0,oN 2 8 7 [7],oB 3 9 .lss 6 8 [6,8],oT 4 10 9 [9],wT 5 11 5 10,wT 6 12 1 10,hN 7 13 12 10 [12],hB 8 14 .lss 11 13 10 [11,13],oA 9 15 10 14 [10,14]] (sC 15 [5,15] 0))
(.seq (.block 1 (.seq (.seq (.reg true [uT 0 18 0,uT 1 19 5,uI 2 20 1 18 19,oL 3 21 1 20 [18,19,20],uT 4 22 1,uT 5 23 5,uI 6 24 1 22 23,oL 7 25 1 24 [22,23,24],oB 8 26 .lss 21 25 [21,25]]) (sD 26 [0,1,5,26] [uZ 0 4
(-1)])) (.seq (.reg true [uT 0 27 0,uT 1 28 5,uI 2 29 1 27 28,oL 3 30 1 29 [27,28,29],uT 4 31 1,uT 5 32 5,uI 6 33 1 31 32,oL 7 34 1 33 [31,32,33],oB 8 35 .gtr 30 34 [30,34]]) (sD 35 [0,1,5,35] [uZ 0 4 1])))) (sI 16 17
5)))
abbrev B172 : CCode := (sR [oZ 0 4 0 [4]] (sL 5 0 L172_0 (.seq (sR [uT 0 36 0,oN 1 37 36 [36],uT 2 38 1,oN 3 39 38 [38],oB 4 40 .lss 37 39 [37,39]] (sD 40 [0,1,40] [uZ 0 4 (-1)])) (.seq (sR [oT 0 41 0 [0],oN 1 42 41
[41],oT 2 43 1 [1],oN 3 44 43 [43],oB 4 45 .gtr 42 44 [42,44]] (sD 45 [45] [uZ 0 4 1])) (sR [uZ 0 4 0] .ret)))))
def C172 : CFn := ⟨46,2,[.t 4],B172⟩
abbrev B173 : CCode := (sR [oQ 0 1 3 0 [0],oY 1 2 false [2]] (sR [uF 0 3 0 1,oL 1 4 1 3 [3],oP 2 5 (.lens (.t 4)) [4],oC 3 6 .eql 5 1 [5],oT 4 7 6 [6],wF 5 8 0 1 7,hL 6 9 1 8 7 [8],hG 7 10 (.ix (.t 9) (.c (.int .i64
0))) 7 [9],hG 8 11 (.bin .geq (.t 10) (.c (.int .u8 (97)))) 7 [10],oA 9 12 7 11 [7,11],oT 10 13 12 [12],wF 11 14 0 1 13,hL 12 15 1 14 13 [14],hG 13 16 (.ix (.t 15) (.c (.int .i64 0))) 13 [15],hG 14 17 (.bin .leq (.t 16)
(.c (.int .u8 (122)))) 13 [16],oA 15 18 13 17 [13,17],oT 16 19 18 [18],wF 17 20 1 1 19,hL 18 21 1 20 19 [20],hK 19 22 110 [.t 21,(.c (.int .i64 1)),(.c (.int .i64 3))] 19 [21],oA 20 23 19 22 [19,22],oT 21 24 23 [23],wF
22 25 2 1 24,hL 23 26 1 25 24 [25],wF 24 27 1 1 24,hL 25 28 1 27 24 [1,27],hK 26 29 110 [.t 26,(.c (.int .i64 0)),.t 28] 24 [26,28],oA 27 30 24 29 [24,29],oT 28 2 30 [30]] .ret))
def C173 : CFn := ⟨31,1,[.t 2],B173⟩
abbrev L174_0 : CCode := (.seq (sR [uT 0 29 9,uF 1 30 1 3,oL 2 31 1 30 [30],oN 3 32 31 [31],oB 4 33 .lss 29 32 [29,32]] (sC 33 [3,4,9,33] 0)) (.seq (.block 1 (sR [uF 0 36 1 3,oL 1 37 1 36 [36],uT 2 38 9,oI 3 39 1 37 38
[37],oL 4 40 1 39 [38,39],oT 5 10 40 [40]] (.seq (sR [uT 0 41 10,oC 1 42 .lss 41 0 [41]] (.cond (.t 42) (sK [42] (.seq (sR [oT 0 43 10 [10],oP 1 44 (.bin .sub (.c (.int .i64 (-1))) (.t 43)) [43],uF 2 45 1 4,oL 3 46 1 45
[45],uT 4 47 9,oI 5 48 1 46 47 [46],oL 6 49 1 48 [47,48],oB 7 50 .neq 44 49 [44,49]] (sD 50 [3,4,9,50] [oT 0 51 8 [8],oT 1 6 51 [51],uY 2 7 false])) (.exit 1))) (sK [42] .skip))) (.seq (.seq (.reg true [uT 0 52 8,uT 1
53 10,uI 2 54 1 52 53,oL 3 55 1 54 [52,53,54],oC 4 56 .geq 55 0 [55],oT 5 57 56 [56],wT 6 58 8 57,wT 7 59 10 57,wI 8 60 1 58 59 57,hL 9 61 1 60 57 [58,59,60],wF 10 62 1 4 57,hL 11 63 1 62 57 [62],wT 12 64 9 57,hI 13 65
1 63 64 57 [63],hL 14 66 1 65 57 [64,65],hB 15 67 .neq 61 66 57 [61,66],oA 16 68 57 67 [57,67]]) (sD 68 [3,4,9,10,68] [oT 0 69 8 [8],oT 1 6 69 [69],uY 2 7 false])) (.reg false [uT 0 70 8,oT 1 71 10 [10],uF 2 72 1 4,oL 3
73 1 72 [72],uT 4 74 9,oI 5 75 1 73 74 [73],oL 6 76 1 75 [74,75],uI 7 77 1 70 71,oS 8 1 77 76 [70,71,76,77]]))))) (sI 34 35 9)))
abbrev B174 : CCode := (sR [oQ 0 3 2 0 [0],oQ 1 4 2 1 [1],oV 2 6 [6],oY 3 7 false [7]] (sR [uW 0 11 1 [.int .i64 (0)],oT 1 12 2 [2],oX 2 13 1 8 11 12 [11,12],oT 3 8 13 [13]] (.seq (sR [uF 0 14 0 4,oL 1 15 1 14 [14],uF 2
16 0 3,oL 3 17 1 16 [16],oB 4 18 .neq 15 17 [15,17],oT 5 19 18 [18],vF 6 20 1 4 19,gL 7 21 1 20 19 [20],gN 8 22 21 19 [21],vF 9 23 1 3 19,gL 10 24 1 23 19 [23],gN 11 25 24 19 [24],gB 12 26 .neq 22 25 19 [22,25],oO 13 27
19 26 [19,26]] (sD 27 [3,4,27] [oT 0 28 8 [8],oT 1 6 28 [28],uY 2 7 false])) (sL 9 0 L174_0 (sR [oT 0 78 8 [8],oT 1 6 78 [78],uY 2 7 true] .ret)))))
def C174 : CFn := ⟨79,3,[.t 6,.t 7],B174⟩
abbrev B175 : CCode := (sR [oQ 0 1 3 0 [0],oY 1 2 false [2]] (sR [uF 0 3 0 1,oL 1 4 1 3 [3],oP 2 5 (.lens (.t 4)) [4],oC 3 6 .eql 5 1 [5],oT 4 7 6 [6],wF 5 8 0 1 7,hL 6 9 1 8 7 [8],hG 7 10 (.ix (.t 9) (.c (.int .i64
0))) 7 [9],hG 8 11 (.bin .geq (.t 10) (.c (.int .u8 (97)))) 7 [10],oA 9 12 7 11 [7,11],oT 10 13 12 [12],wF 11 14 0 1 13,hL 12 15 1 14 13 [14],hG 13 16 (.ix (.t 15) (.c (.int .i64 0))) 13 [15],hG 14 17 (.bin .leq (.t 16)
(.c (.int .u8 (122)))) 13 [16],oA 15 18 13 17 [13,17],oT 16 19 18 [18],wF 17 20 1 1 19,hL 18 21 1 20 19 [20],hK 19 22 121 [.t 21,(.c (.int .i64 1)),(.c (.int .i64 3))] 19 [21],oA 20 23 19 22 [19,22],oT 21 24 23 [23],wF
22 25 2 1 24,hL 23 26 1 25 24 [25],wF 24 27 1 1 24,hL 25 28 1 27 24 [1,27],hK 26 29 121 [.t 26,(.c (.int .i64 0)),.t 28] 24 [26,28],oA 27 30 24 29 [24,29],oT 28 2 30 [30]] .ret))
def C175 : CFn := ⟨31,1,[.t 2],B175⟩
abbrev B176 : CCode := (sR [oY 0 2 false [2]] (sR [oT 0 3 0 [0],oP 1 4 (.call 179 [.t 3,(.c (.fn 220 []))]) [3],oE 2 5 4 [4],oT 3 2 5 [5]] .ret))
def C176 : CFn := ⟨6,1,[.t 2],B176⟩
abbrev B177 : CCode := (sR [oZ 0 4 0 [4]] (.seq (.block 0 (sR [uT 0 6 0,uT 1 7 1,oB 2 8 .lss 6 7 [6,7],oT 3 5 8 [8]] (.cond (.t 5) (sK [0,1,5] (sR [uZ 0 4 (-1)] .ret)) (sK [5] (sR [oT 0 10 0 [0],oT 1 11 1 [1],oB 2 12
.gtr 10 11 [10,11],oT 3 9 12 [12]] (sD 9 [9] [uZ 0 4 1])))))) (sR [uZ 0 4 0] .ret)))
def C177 : CFn := ⟨13,2,[.t 4],B177⟩
abbrev L178_0 : CCode := (sR [uB 0 12 .lss 11 10] (.seq (sC 12 [9,10,11,12] 0) (.seq (.block 1 (sR [uT 0 13 11,uI 1 14 1 9 11,oL 2 15 1 14 [14],oT 3 5 13 [13],oT 4 6 15 [15]] (.seq (sR [uT 0 16 5,uT 1 17 1,oN 2 18 17
[17],oB 3 19 .geq 16 18 [16,18]] (sD 19 [0,1,5,6,9,10,11,19] [uZ 0 4 1])) (sR [uT 0 20 1,oT 1 21 5 [5],uI 2 22 1 20 21,oL 3 23 1 22 [20,21,22],oT 4 7 23 [23]] (sR [oT 0 24 6 [6],oT 1 25 7 [7],oK 2 26 221 [.t 24,.t 25]
[24,25],oT 3 8 26 [26]] (sR [uT 0 27 8,oC 1 28 .neq 27 0 [27]] (.cond (.t 28) (sK [0,1,9,10,11,28] (sR [oT 0 29 8 [8],oT 1 4 29 [29]] .ret)) (sK [8,28] .skip)))))))) (.reg false [oC 0 30 .add 11 1 [11],oT 1 11 30
[30]]))))
abbrev B178 : CCode := (sR [oZ 0 4 0 [4]] (.seq (sR [uT 0 9 0,uN 1 10 9,uZ 2 11 0] (.block 0 (.loop L178_0))) (.seq (sR [oT 0 31 0 [0],oN 1 32 31 [31],oT 2 33 1 [1],oN 3 34 33 [33],oB 4 35 .lss 32 34 [32,34]] (sD 35
[35] [uZ 0 4 (-1)])) (sR [uZ 0 4 0] .ret))))
def C178 : CFn := ⟨36,2,[.t 4],B178⟩
abbrev B179 : CCode := (sR [oY 0 4 false [4]] (sR [oT 0 5 0 [0],oT 1 6 1 [1],oK 2 7 95 [.t 5,.t 6] [5,6],oC 3 8 .geq 7 0 [7],oT 4 4 8 [8]] .ret))
def C179 : CFn := ⟨9,2,[.t 4],B179⟩
abbrev B180 : CCode := (sR [oY 0 2 false [2]] (sR [oT 0 3 0 [0],oK 1 4 121 [.t 3,(.c (.int .i64 (-10))),(.c (.int .i64 3))] [3],oE 2 5 4 [4],oT 3 2 5 [5]] .ret))
def C180 : CFn := ⟨6,1,[.t 2],B180⟩
abbrev B181 : CCode := (sR [oQ 0 3 1 1 [1],oY 1 4 false [4]] (sR [oT 0 5 0 [0],uP 1 6 (.fn 222 [.t 3]),oK 2 7 179 [.t 5,.t 6] [3,5,6],oE 3 8 7 [7],oT 4 4 8 [8]] .ret))
def C181 : CFn := ⟨9,2,[.t 4],B181⟩
abbrev L182_0 : CCode := (.seq (sR [uT 0 34 8,uT 1 35 7,oN 2 36 35 [35],oB 3 37 .lss 34 36 [34,36]] (sC 37 [8,37] 0)) (.block 1 (.reg true [uT 0 38 8,uT 1 39 7,uT 2 40 8,oP 3 41 (.sls 1 (.t 39) (some (.t 40)) none none)
[39,40],uT 4 42 7,oT 5 43 8 [8],oP 6 44 (.sls 1 (.t 42) none (some (.t 43)) none) [42,43],oP 7 45 (.cpy 1 (.t 41) (.t 44)) [41,44],oB 8 46 .add 38 45 [38,45],oT 9 8 46 [46]])))
abbrev B182 : CCode := (sR [oV 0 4 [4]] (.seq (sR [uT 0 9 1,oC 1 10 .lss 9 0 [9]] (.cond (.t 10) (sK [10] (.reg false [oP 0 11 .fail [11],(1,⟨none,.fail,none,[],[]⟩)])) (sK [10] .skip))) (sR [uT 0 13 0,oN 1 14 13
[13],oP 2 15 (.conv .u64 (.t 14)) [14],oT 3 16 1 [1],oP 4 17 (.conv .u64 (.t 16)) [16],oK 5 18 223 [.t 15,.t 17] [15,17],oT 6 12 18 [18],uU 7 19 12 0,oU 8 20 12 1 [12],oT 9 5 19 [19],oT 10 6 20 [20]] (.seq (sR [oT 0 21
5 [5],oP 1 22 (.bin .gtr (.t 21) (.c (.int .u64 (0)))) [21],oT 2 23 22 [22],vT 3 24 6 23,gG 4 25 (.bin .gtr (.t 24) (.c (.int .u64 (9223372036854775807)))) 23 [24],oO 5 26 23 25 [23,25]] (.cond (.t 26) (sK [26] (.reg
false [oP 0 27 .fail [27],(1,⟨none,.fail,none,[],[]⟩)])) (sK [26] .skip))) (sR [oT 0 28 6 [6],oP 1 29 (.conv .i64 (.t 28)) [28],oP 2 30 (.mk 1 8 [.int .i64 (0)] (.t 29) (.t 29)) [29],oT 3 7 30 [30]] (sR [uT 0 31 7,oT 1
32 0 [0],oP 2 33 (.cpy 1 (.t 31) (.t 32)) [31,32],oT 3 8 33 [33]] (.seq (.block 0 (.loop L182_0)) (sR [oT 0 47 7 [7],oT 1 4 47 [47]] .ret))))))))
def C182 : CFn := ⟨48,2,[.t 4],B182⟩
abbrev L183_0 : CCode := (sR [uB 0 16 .lss 15 14] (.seq (sC 16 [2,13,14,15,16] 0) (.seq (.block 1 (sR [uT 0 17 15,uI 1 18 1 13 15,oL 2 19 1 18 [18],oT 3 9 17 [17],oT 4 10 19 [19]] (.block 2 (sR [uT 0 21 10,oK 1 22 224
[.t 21] [21],oE 2 23 22 [22],oT 3 20 23 [23]] (.cond (.t 20) (sK [20] (.seq (.reg true [oT 0 24 10 [10],uT 2 26 2,oT 3 27 9 [9],uI 4 28 1 26 27,uL 5 29 1 28,(1,⟨some 25,.call 225 [.t 24],none,[(28,1)],[24,26,27,28]⟩),oB
6 30 .neq 25 29 [25,29]]) (sD 30 [2,8,13,14,15,30] [uV 0 6,uY 1 7 false]))) (sK [20] (sR [uT 0 32 8,uT 1 33 10,uI 2 34 1 32 33,oL 3 35 1 34 [32,33,34],oC 4 36 .lss 35 0 [35],oT 5 31 36 [36]] (.cond (.t 31) (sK [31]
(.reg false [uT 0 37 8,oT 1 38 10 [10],uT 2 39 2,oT 3 40 9 [9],uI 4 41 1 39 40,oL 5 42 1 41 [39,40,41],uI 6 43 1 37 38,oS 7 1 43 42 [37,38,42,43]])) (sK [31] (.seq (.reg true [uT 0 45 8,oT 1 46 10 [10],uI 2 47 1 45
46,oL 3 48 1 47 [45,46,47],uT 4 49 2,oT 5 50 9 [9],uI 6 51 1 49 50,oL 7 52 1 51 [49,50,51],oB 8 53 .neq 48 52 [48,52],oT 9 44 53 [53]]) (sD 44 [2,8,13,14,15,44] [uV 0 6,uY 1 7 false]))))))))))) (.reg false [oC 0 54 .add
15 1 [15],oT 1 15 54 [54]]))))
abbrev B183 : CCode := (sR [oV 0 6 [6],oY 1 7 false [7]] (sR [oT 0 11 0 [0],oK 1 12 192 [.t 11] [11],oT 2 8 12 [12]] (.seq (sR [oT 0 13 1 [1],uN 1 14 13,uZ 2 15 0] (.block 0 (.loop L183_0))) (sR [oT 0 55 8 [8],oT 1 6 55
[55],uY 2 7 true] .ret))))
def C183 : CFn := ⟨56,3,[.t 6,.t 7],B183⟩
abbrev B192 : CCode := (sR [oV 0 2 [2]] (.seq (sR [uT 0 3 0,oP 1 4 (.isnil false (.t 3)) [3]] (sD 4 [0,4] [uV 0 2])) (sR [uW 0 5 1 [.int .i64 (0)],oT 1 6 0 [0],oX 2 7 1 8 5 6 [5,6],oT 3 2 7 [7]] .ret)))
def C192 : CFn := ⟨8,1,[.t 2],B192⟩
abbrev B196 : CCode := (sR [oQ 0 4 2 1 [1],oQ 1 5 2 2 [2],oY 2 6 false [6]] (.seq (.reg true [uT 0 7 0,uM 1 8 2 4,oK 2 9 127 [.t 7,.t 8] [7,8],oT 3 10 9 [9],wT 4 11 0 10,wM 5 12 2 5 10,hK 6 13 127 [.t 11,.t 12] 10
[11,12],oA 7 14 10 13 [10,13],oT 8 15 14 [14],wF 9 16 0 4 15,hL 10 17 1 16 15 [16],wF 11 18 0 5 15,hL 12 19 1 18 15 [18],hB 13 20 .eql 17 19 15 [17,19],oA 14 21 15 20 [15,20],oT 15 22 21 [21],wT 16 23 0 22,wM 17 24 2 4
22,wT 19 26 0 22,wM 20 27 2 5 22,(18,⟨some 25,.call 236 [.t 23,.t 24],some (22,true),[(5,2)],[4,23,24]⟩),hK 21 28 236 [.t 26,.t 27] 22 [5,26,27],hK 22 29 172 [.t 25,.t 28] 22 [25,28],hC 23 30 .eql 29 0 22 [29],oA 24 31
22 30 [22,30],oT 25 6 31 [31]]) .ret))
def C196 : CFn := ⟨32,3,[.t 6],B196⟩
abbrev L202_0 : CCode := (sR [uB 0 14 .lss 13 12] (.seq (sC 14 [0,1,12,13,14] 0) (.seq (.block 1 (sR [uT 0 15 13,oT 1 5 15 [15]] (.seq (.reg true [uT 0 16 0,uT 1 17 5,uI 2 18 1 16 17,oL 3 19 1 18 [16,17,18],uT 4 20 1,oT
5 21 5 [5],uI 6 22 1 20 21,oL 7 23 1 22 [20,21,22],oB 8 24 .neq 19 23 [19,23]]) (sD 24 [0,1,12,13,24] [uY 0 4 false])))) (.reg false [oC 0 25 .add 13 1 [13],oT 1 13 25 [25]]))))
abbrev B202 : CCode := (sR [oY 0 4 false [4]] (.seq (sR [uT 0 6 0,oN 1 7 6 [6],uT 2 8 1,oN 3 9 8 [8],oB 4 10 .neq 7 9 [7,9]] (sD 10 [0,1,10] [uY 0 4 false])) (.seq (sR [uT 0 11 0,oN 1 12 11 [11],uZ 2 13 0] (.block 0
(.loop L202_0))) (sR [uY 0 4 true] .ret))))
def C202 : CFn := ⟨26,2,[.t 4],B202⟩
abbrev B204 : CCode := (sR [oQ 0 4 3 1 [1],oV 1 6 [6]] (.seq (sR [uT 0 7 0,uM 1 8 3 4,oK 2 9 80 [.t 7,.t 8] [7,8],oE 3 10 9 [9],oT 4 11 10 [10],vT 5 12 2 11,vF 6 13 1 4 11,gL 7 14 1 13 11 [13],gN 8 15 14 11 [14],gC 9 16
.sub 15 1 11 [15],gK 10 17 110 [.t 12,(.c (.int .i64 0)),.t 16] 11 [12,16],gE 11 18 17 11 [17],oO 12 19 11 18 [11,18]] (sD 19 [0,2,4,19] [uW 0 20 1 [.int .i64 (0)],oT 1 6 20 [20]])) (.seq (.reg true [uT 0 21 0,uM 1 22 3
4,uT 2 23 2,uT 3 24 0,uF 4 25 1 4,oL 5 26 1 25 [25],oT 6 27 2 [2],oI 7 28 2 26 27 [26],oM 8 29 2 28 [28],(9,⟨some 30,.call 46 [.t 24,.t 29],none,[(4,3)],[24,27,29]⟩),oK 10 31 205 [.t 21,.t 22,.t 23,.t 30]
[4,21,22,23,30],oT 11 6 31 [31]]) .ret)))
def C204 : CFn := ⟨32,3,[.t 6],B204⟩
abbrev L205_1 : CCode := (.seq (sR [uT 0 28 11,uF 1 29 1 5,oL 2 30 1 29 [29],oN 3 31 30 [30],oB 4 32 .lss 28 31 [28,31]] (sC 32 [11,32] 2)) (.seq (.block 3 (sR [uT 0 35 11,uT 1 36 2,oB 2 37 .neq 35 36 [35,36],oT 3 38 37
[37],wT 4 39 9 38,wT 5 40 0 38,wF 6 41 1 5 38,hL 7 42 1 41 38 [41],wT 8 43 11 38,hI 9 44 2 42 43 38 [42],hM 10 45 2 44 38 [44],hK 11 46 46 [.t 40,.t 45] 38 [40,43,45],hK 12 47 163 [.t 39,.t 46] 38 [39,46],oA 13 48 38 47
[38,47]] (.cond (.t 48) (sK [48] (.reg false [oT 0 49 9 [9],uF 1 50 1 5,oL 2 51 1 50 [50],uT 3 52 11,oI 4 53 2 51 52 [51],oM 5 54 2 53 [53],oK 6 55 111 [.t 54] [52,54],oK 7 56 113 [.t 49,.t 55] [49,55],oT 8 9 56 [56]]))
(sK [48] .skip)))) (sI 33 34 11)))
abbrev L205_0 : CCode := (.seq (sR [uT 0 21 10,uF 1 22 1 5,oL 2 23 1 22 [22],oN 3 24 23 [23],oB 4 25 .lss 21 24 [21,24]] (sC 25 [0,2,5,10,25] 0)) (.seq (.block 1 (sR [uZ 0 11 0] (.block 2 (.loop L205_1)))) (sI 26 27
10)))
abbrev B205 : CCode := (sR [oQ 0 5 3 1 [1],oV 1 8 [8]] (.seq (sR [uT 0 12 0,uM 1 13 3 5,oK 2 14 80 [.t 12,.t 13] [12,13],oE 3 15 14 [14]] (sD 15 [0,2,3,5,15] [uW 0 16 1 [.int .i64 (0)],oT 1 8 16 [16]])) (sR [oT 0 17 3
[3],uF 1 18 2 5,oL 2 19 1 18 [18],oK 3 20 113 [.t 17,.t 19] [17,19],oT 4 9 20 [20]] (sL 10 0 L205_0 (sR [oT 0 57 9 [9],oT 1 8 57 [57]] .ret)))))
def C205 : CFn := ⟨58,4,[.t 8],B205⟩
abbrev L206_0 : CCode := (sR [uB 0 9 .lss 8 7] (.seq (sC 9 [0,1,7,8,9] 0) (.seq (.block 1 (sR [uT 0 10 8,oT 1 5 10 [10]] (sR [uT 0 11 1,uT 1 12 0,uT 2 13 5,uI 3 14 2 12 13,oM 4 15 2 14 [14],oP 5 16 (.callv (.t 11) [.t
15]) [11,12,13,15]] (.cond (.t 16) (sK [0,1,7,8,16] (sR [oT 0 17 5 [5],oT 1 4 17 [17]] .ret)) (sK [5,16] .skip))))) (.reg false [oC 0 18 .add 8 1 [8],oT 1 8 18 [18]]))))
abbrev B206 : CCode := (sR [oZ 0 4 0 [4]] (.seq (sR [uT 0 6 0,oN 1 7 6 [6],uZ 2 8 0] (.block 0 (.loop L206_0))) (sR [uZ 0 4 (-1)] .ret)))
def C206 : CFn := ⟨19,2,[.t 4],B206⟩
abbrev L207_0 : CCode := (sR [uB 0 22 .lss 21 20] (.seq (sC 22 [19,20,21,22] 0) (.seq (.block 1 (sR [uI 0 23 1 19 21,oL 1 24 1 23 [23],oT 2 11 24 [24]] (sR [uT 0 25 11,oK 1 26 121 [.t 25,(.c (.int .i64 0)),(.c (.int
.i64 3))] [25]] (.cond (.t 26) (sK [26] (.reg false [oT 0 27 9 [9],oT 1 28 11 [11],oP 2 29 (.bsl 1 1 [.int .i64 (0)] [(0,1,(.t 28))]) [28],oX 3 30 1 8 27 29 [27,29],oT 4 9 30 [30]])) (sK [11,26] .skip))))) (.reg false
[oC 0 31 .add 21 1 [21],oT 1 21 31 [31]]))))
abbrev B207 : CCode := (sR [oQ 0 5 3 1 [1],oV 1 8 [8]] (.seq (sR [uT 0 12 0,uM 1 13 3 5,oK 2 14 115 [.t 12,.t 13] [12,13],oE 3 15 14 [14]] (sD 15 [0,2,3,5,15] [uV 0 8])) (sR [uF 0 16 2 5,oL 1 17 1 16 [16],oK 2 18 192
[.t 17] [17],oT 3 9 18 [18]] (.seq (sR [oT 0 19 3 [3],uN 1 20 19,uZ 2 21 0] (.block 0 (.loop L207_0))) (sR [oT 0 32 0 [0],uF 1 33 1 5,oL 2 34 1 33 [33],oT 3 35 2 [2],oT 4 36 9 [9],oK 5 37 208 [.t 32,.t 34,.t 35,.t 36]
[5,32,34,35,36],oT 6 8 37 [37]] .ret)))))
def C207 : CFn := ⟨38,4,[.t 8],B207⟩
abbrev L208_1 : CCode := (sR [uB 0 19 .lss 18 17] (.seq (sC 19 [16,17,18,19] 2) (.seq (.block 3 (sR [uT 0 20 18,uI 1 21 2 16 18,oM 2 22 2 21 [21],uH 3 12 [.int .i64 (0),.nils],oT 4 11 20 [20],oS 5 2 12 22 [22]] (sR [oT
0 23 11 [11],uT 1 24 2,oB 2 25 .neq 23 24 [23,24],oT 3 26 25 [25],wT 4 27 0 26,wM 5 28 2 12 26,hK 6 29 54 [.t 27,.t 28] 26 [27,28],wT 7 30 10 26,hK 8 31 181 [.t 29,.t 30] 26 [29,30],oA 9 32 26 31 [26,31]] (.cond (.t 32)
(sK [32] (.reg false [oT 0 33 10 [10],uM 1 34 2 12,oK 2 35 55 [.t 34] [12,34],oK 3 36 57 [.t 33,.t 35] [33,35],oT 4 10 36 [36]])) (sK [12,32] .skip))))) (.reg false [oC 0 37 .add 18 1 [18],oT 1 18 37 [37]]))))
abbrev L208_0 : CCode := (.block 1 (sR [uT 0 15 9,oT 1 10 15 [15]] (.seq (sR [uT 0 16 1,uN 1 17 16,uZ 2 18 0] (.block 2 (.loop L208_1))) (.seq (sR [uT 0 38 10,oN 1 39 38 [38],uT 2 40 9,oN 3 41 40 [40],oB 4 42 .eql 39 41
[39,41]] (.cond (.t 42) (sK [0,1,2,10,42] (sR [oT 0 43 9 [9],oT 1 8 43 [43]] .ret)) (sK [9,42] .skip))) (.reg false [oT 0 44 10 [10],oT 1 9 44 [44]])))))
abbrev B208 : CCode := (sR [oV 0 8 [8]] (sR [oT 0 13 3 [3],oK 1 14 57 [.t 13,(.c (.nils))] [13],oT 2 9 14 [14]] (.block 0 (.loop L208_0))))
def C208 : CFn := ⟨45,4,[.t 8],B208⟩
abbrev B220 : CCode := (sR [oY 0 2 false [2]] (sR [oT 0 3 0 [0],oK 1 4 121 [.t 3,(.c (.int .i64 0)),(.c (.int .i64 9))] [3],oE 2 5 4 [4],oT 3 2 5 [5]] .ret))
def C220 : CFn := ⟨6,1,[.t 2],B220⟩
abbrev B221 : CCode := (sR [oZ 0 4 0 [4]] (sR [uT 0 7 0,oK 1 8 244 [.t 7] [7],oT 2 5 8 [8]] (sR [uT 0 9 1,oK 1 10 244 [.t 9] [9],oT 2 6 10 [10]] (.seq (sR [oT 0 11 5 [5]] (.cond (.t 11) (sK [0,1,11] (.seq (sR [oT 0 12 6
[6]] (sD 12 [12] [uZ 0 4 0])) (sR [uZ 0 4 (-1)] .ret))) (sK [11] .skip))) (.seq (sR [oT 0 13 6 [6]] (sD 13 [0,1,13] [uZ 0 4 1])) (.seq (sR [uT 0 14 0,uT 1 15 1,oB 2 16 .lss 14 15 [14,15]] (sD 16 [0,1,16] [uZ 0 4 (-1)]))
(.seq (sR [oT 0 17 0 [0],oT 1 18 1 [1],oB 2 19 .gtr 17 18 [17,18]] (sD 19 [19] [uZ 0 4 1])) (sR [uZ 0 4 0] .ret))))))))
def C221 : CFn := ⟨20,2,[.t 4],B221⟩
abbrev B222 : CCode := (sR [oY 0 3 false [3]] (sR [uL 0 4 1 1,oT 1 5 0 [0],oK 2 6 97 [.t 4,.t 5] [1,4,5],oE 3 7 6 [6],oT 4 3 7 [7]] .ret))
def C222 : CFn := ⟨8,2,[.t 3],B222⟩
abbrev B223 : CCode := (sR [oP 0 4 (.mv (.c (.int .u64 (0)))) [4],oP 1 5 (.mv (.c (.int .u64 (0)))) [5]] (.seq (.cond (.c (.bool false)) (sR [oT 0 11 0 [0],oP 1 12 (.conv .u32 (.t 11)) [11],oT 2 13 1 [1],oP 3 14 (.conv
.u32 (.t 13)) [13],oK 4 15 245 [.t 12,.t 14] [12,14],oT 5 10 15 [15],uU 6 16 10 0,oU 7 17 10 1 [10],oT 8 6 16 [16],oT 9 7 17 [17]] (sR [oT 0 18 6 [6],oP 1 19 (.conv .u64 (.t 18)) [18],oT 2 20 7 [7],oP 3 21 (.conv .u64
(.t 20)) [20],oT 4 4 19 [19],oT 5 5 21 [21]] .ret)) .skip) (sR [oT 0 23 0 [0],oT 1 24 1 [1],oK 2 25 246 [.t 23,.t 24] [23,24],oT 3 22 25 [25],uU 4 26 22 0,oU 5 27 22 1 [22],oT 6 8 26 [26],oT 7 9 27 [27]] (sR [oT 0 28 8
[8],oT 1 29 9 [9],oT 2 4 28 [28],oT 3 5 29 [29]] .ret))))
def C223 : CFn := ⟨30,2,[.t 4,.t 5],B223⟩
abbrev B224 : CCode := (sR [oY 0 2 false [2]] (sR [oT 0 3 0 [0],oC 1 4 .geq 3 0 [3],oT 2 2 4 [4]] .ret))
def C224 : CFn := ⟨5,1,[.t 2],B224⟩
abbrev B225 : CCode := (sR [oZ 0 2 0 [2]] (sR [oT 0 3 0 [0],oP 1 4 (.bin .sub (.c (.int .i64 (-1))) (.t 3)) [3],oT 2 2 4 [4]] .ret))
def C225 : CFn := ⟨5,1,[.t 2],B225⟩
abbrev B236 : CCode := (sR [oQ 0 3 2 1 [1],oV 1 4 [4]] (.seq (sR [uT 0 5 0,uM 1 6 2 3,oK 2 7 127 [.t 5,.t 6] [5,6],oE 3 8 7 [7]] (sD 8 [0,3,8] [uW 0 9 1 [.int .i64 (0)],oT 1 4 9 [9]])) (.seq (.reg true [uW 0 10 1 [.int
.i64 (0)],uF 1 11 1 3,oL 2 12 1 11 [11],oT 3 13 0 [0],uF 4 14 0 3,oL 5 15 1 14 [14],uI 6 16 3 13 15,oF 7 17 2 16 [16],oL 8 18 1 17 [13,15,17],oP 9 19 (.sls 1 (.t 12) none (some (.t 18)) none) [3,12,18],oX 10 20 1 8 10
19 [10,19],oT 11 4 20 [20]]) .ret)))
def C236 : CFn := ⟨21,2,[.t 4],B236⟩
abbrev B244 : CCode := (sR [oY 0 2 false [2]] (sR [uT 0 3 0,oT 1 4 0 [0],oB 2 5 .neq 3 4 [3,4],oT 3 2 5 [5]] .ret))
def C244 : CFn := ⟨6,1,[.t 2],B244⟩
abbrev B246 : CCode := (sR [oP 0 4 (.mv (.c (.int .u64 (0)))) [4],oP 1 5 (.mv (.c (.int .u64 (0)))) [5]] (sR [uT 0 14 0,oP 1 15 (.bin .and (.t 14) (.c (.int .u64 (4294967295)))) [14],oT 2 6 15 [15]] (sR [uT 0 16 0,oP 1
17 (.bin .shr (.t 16) (.c (.int .u64 (32)))) [16],oT 2 7 17 [17]] (sR [uT 0 18 1,oP 1 19 (.bin .and (.t 18) (.c (.int .u64 (4294967295)))) [18],oT 2 8 19 [19]] (sR [uT 0 20 1,oP 1 21 (.bin .shr (.t 20) (.c (.int .u64
(32)))) [20],oT 2 9 21 [21]] (sR [uT 0 22 6,uT 1 23 8,oB 2 24 .mul 22 23 [22,23],oT 3 10 24 [24]] (sR [uT 0 25 7,oT 1 26 8 [8],oB 2 27 .mul 25 26 [25,26],oT 3 28 10 [10],oP 4 29 (.bin .shr (.t 28) (.c (.int .u64 (32))))
[28],oB 5 30 .add 27 29 [27,29],oT 6 11 30 [30]] (sR [uT 0 31 11,oP 1 32 (.bin .and (.t 31) (.c (.int .u64 (4294967295)))) [31],oT 2 12 32 [32]] (sR [oT 0 33 11 [11],oP 1 34 (.bin .shr (.t 33) (.c (.int .u64 (32))))
[33],oT 2 13 34 [34]] (sR [oT 0 35 12 [12],oT 1 36 6 [6],uT 2 37 9,oB 3 38 .mul 36 37 [36,37],oB 4 39 .add 35 38 [35,38],oT 5 12 39 [39]] (sR [oT 0 40 7 [7],oT 1 41 9 [9],oB 2 42 .mul 40 41 [40,41],oT 3 43 13 [13],oB 4
44 .add 42 43 [42,43],oT 5 45 12 [12],oP 6 46 (.bin .shr (.t 45) (.c (.int .u64 (32)))) [45],oB 7 47 .add 44 46 [44,46],oT 8 4 47 [47]] (sR [oT 0 48 0 [0],oT 1 49 1 [1],oB 2 50 .mul 48 49 [48,49],oT 3 5 50 [50]]
.ret))))))))))))
def C246 : CFn := ⟨51,2,[.t 4,.t 5],B246⟩ def Tab (f : Nat) : Option CFn :=
  match f with
  |4=>C4
  |6=>C6
  |7=>C7
  |8=>C8
  |9=>C9
  |10=>C10
  |11=>C11
  |13=>C13
  |14=>C14
  |19=>C19
  |20=>C20
  |21=>C21
  |22=>C22
  |23=>C23
  |39=>C39
  |40=>C40
  |41=>C41
  |42=>C42
  |43=>C43
  |44=>C44
  |45=>C45
  |46=>C46
  |47=>C47
  |48=>C48
  |49=>C49
  |50=>C50
  |51=>C51
  |52=>C52
  |53=>C53
  |54=>C54
  |55=>C55
  |56=>C56
  |57=>C57
  |58=>C58
  |59=>C59
  |61=>C61
  |62=>C62
  |63=>C63
  |68=>C68
  |69=>C69
  |70=>C70
  |71=>C71
  |72=>C72
  |73=>C73
  |74=>C74
  |80=>C80
  |86=>C86
  |93=>C93
  |94=>C94
  |95=>C95
  |97=>C97
  |104=>C104
  |105=>C105
  |106=>C106
  |107=>C107
  |108=>C108
  |109=>C109
  |110=>C110
  |111=>C111
  |112=>C112
  |113=>C113
  |114=>C114
  |115=>C115
  |116=>C116
  |117=>C117
  |118=>C118
  |119=>C119
  |120=>C120
  |121=>C121
  |122=>C122
  |125=>C125
  |126=>C126
  |127=>C127
  |128=>C128
  |129=>C129
  |130=>C130
  |131=>C131
  |132=>C132
  |133=>C133
  |134=>C134
  |135=>C135
  |136=>C136
  |137=>C137
  |138=>C138
  |139=>C139
  |140=>C140
  |150=>C150
  |155=>C155
  |156=>C156
  |161=>C161
  |162=>C162
  |163=>C163
  |164=>C164
  |165=>C165
  |166=>C166
  |167=>C167
  |168=>C168
  |169=>C169
  |172=>C172
  |173=>C173
  |174=>C174
  |175=>C175
  |176=>C176
  |177=>C177
  |178=>C178
  |179=>C179
  |180=>C180
  |181=>C181
  |182=>C182
  |183=>C183
  |192=>C192
  |196=>C196
  |202=>C202
  |204=>C204
  |205=>C205
  |206=>C206
  |207=>C207
  |208=>C208
  |220=>C220
  |221=>C221
  |222=>C222
  |223=>C223
  |224=>C224
  |225=>C225
  |236=>C236
  |244=>C244
  |246=>C246
  | _ => none
theorem tabOk : TabOk Go.Proofs.Tryz.prog Tab := by
  intro f cf h
  unfold Tab at h
  split at h <;> simp only [Option.some.injEq, reduceCtorEq] at h <;> subst h <;> kernel_rfl

end Go.Proofs.YtjfeimhiiomgoaaGreatH
