import Derived.Test.YtamibblcpccjlaaGreatX4
import Derived.Test.YtamibblcpccjlaaGreatProg
set_option linter.unusedVariables false
set_option maxRecDepth 100000
namespace Go.Proofs.YtamibblcpccjlaaGreatH
open Go
noncomputable abbrev pG := Go.Proofs.Tryz.prog
abbrev sR (l : List (Nat × COper)) (c : CCode) : CCode := .seq (.reg false l) c
abbrev sK (l : List Nat) (c : CCode) : CCode := .seq (.kill l) c
@[simp] abbrev gA (i d : Nat) (a b : Nat) (g : Nat) (k : List Nat) : Nat × COper := (i, ⟨some d, .pick (.t a) (.t b) (.c (.bool false)), some (g, false), [], k⟩)
@[simp] abbrev gB (i d : Nat) (o : BinOp) (a b : Nat) (g : Nat) (k : List Nat) : Nat × COper := (i, ⟨some d, .bin o (.t a) (.t b), some (g, false), [], k⟩)
@[simp] abbrev gC (i d : Nat) (o : BinOp) (a : Nat) (n : Int) (g : Nat) (k : List Nat) : Nat × COper := (i, ⟨some d, .bin o (.t a) (.c (.int .i64 n)), some (g, false), [], k⟩)
@[simp] abbrev gE (i d : Nat) (a : Nat) (g : Nat) (k : List Nat) : Nat × COper := (i, ⟨some d, .not (.t a), some (g, false), [], k⟩)
@[simp] abbrev gF (i d : Nat) (w a : Nat) (g : Nat) (k : List Nat) : Nat × COper := (i, ⟨some d, .fa w (.t a), some (g, false), [], k⟩)
@[simp] abbrev gG (i d : Nat) (p : COp) (g : Nat) (k : List Nat) : Nat × COper := (i, ⟨some d, p, some (g, false), [], k⟩)
@[simp] abbrev gK (i d : Nat) (f : Nat) (l : List Opd) (g : Nat) (k : List Nat) : Nat × COper := (i, ⟨some d, .call f l, some (g, false), [], k⟩)
@[simp] abbrev gL (i d : Nat) (w a : Nat) (g : Nat) (k : List Nat) : Nat × COper := (i, ⟨some d, .ld w false (.t a), some (g, false), [], k⟩)
@[simp] abbrev gN (i d : Nat) (a : Nat) (g : Nat) (k : List Nat) : Nat × COper := (i, ⟨some d, .len (.t a), some (g, false), [], k⟩)
@[simp] abbrev gT (i d : Nat) (a : Nat) (g : Nat) (k : List Nat) : Nat × COper := (i, ⟨some d, .mv (.t a), some (g, false), [], k⟩)
@[simp] abbrev gX (i d : Nat) (w n a b : Nat) (g : Nat) (k : List Nat) : Nat × COper := (i, ⟨some d, .app w n (.t a) (.t b), some (g, false), [], k⟩)
@[simp] abbrev hB (i d : Nat) (o : BinOp) (a b : Nat) (g : Nat) (k : List Nat) : Nat × COper := (i, ⟨some d, .bin o (.t a) (.t b), some (g, true), [], k⟩)
@[simp] abbrev hC (i d : Nat) (o : BinOp) (a : Nat) (n : Int) (g : Nat) (k : List Nat) : Nat × COper := (i, ⟨some d, .bin o (.t a) (.c (.int .i64 n)), some (g, true), [], k⟩)
@[simp] abbrev hE (i d : Nat) (a : Nat) (g : Nat) (k : List Nat) : Nat × COper := (i, ⟨some d, .not (.t a), some (g, true), [], k⟩)
@[simp] abbrev hF (i d : Nat) (w a : Nat) (g : Nat) (k : List Nat) : Nat × COper := (i, ⟨some d, .fa w (.t a), some (g, true), [], k⟩)
@[simp] abbrev hG (i d : Nat) (p : COp) (g : Nat) (k : List Nat) : Nat × COper := (i, ⟨some d, p, some (g, true), [], k⟩)
@[simp] abbrev hI (i d : Nat) (w a b : Nat) (g : Nat) (k : List Nat) : Nat × COper := (i, ⟨some d, .ia w (.t a) (.t b), some (g, true), [], k⟩)
@[simp] abbrev hK (i d : Nat) (f : Nat) (l : List Opd) (g : Nat) (k : List Nat) : Nat × COper := (i, ⟨some d, .call f l, some (g, true), [], k⟩)
@[simp] abbrev hL (i d : Nat) (w a : Nat) (g : Nat) (k : List Nat) : Nat × COper := (i, ⟨some d, .ld w false (.t a), some (g, true), [], k⟩)
@[simp] abbrev hM (i d : Nat) (w a : Nat) (g : Nat) (k : List Nat) : Nat × COper := (i, ⟨some d, .ld w true (.t a), some (g, true), [], k⟩)
@[simp] abbrev hN (i d : Nat) (a : Nat) (g : Nat) (k : List Nat) : Nat × COper := (i, ⟨some d, .len (.t a), some (g, true), [], k⟩)
@[simp] abbrev hO (i d : Nat) (a b : Nat) (g : Nat) (k : List Nat) : Nat × COper := (i, ⟨some d, .pick (.t a) (.c (.bool true)) (.t b), some (g, true), [], k⟩)
@[simp] abbrev hT (i d : Nat) (a : Nat) (g : Nat) (k : List Nat) : Nat × COper := (i, ⟨some d, .mv (.t a), some (g, true), [], k⟩)
@[simp] abbrev hX (i d : Nat) (w n a b : Nat) (g : Nat) (k : List Nat) : Nat × COper := (i, ⟨some d, .app w n (.t a) (.t b), some (g, true), [], k⟩)
@[simp] abbrev oA (i d : Nat) (a b : Nat) (k : List Nat) : Nat × COper := (i, ⟨some d, .pick (.t a) (.t b) (.c (.bool false)), none, [], k⟩)
@[simp] abbrev oB (i d : Nat) (o : BinOp) (a b : Nat) (k : List Nat) : Nat × COper := (i, ⟨some d, .bin o (.t a) (.t b), none, [], k⟩)
@[simp] abbrev oC (i d : Nat) (o : BinOp) (a : Nat) (n : Int) (k : List Nat) : Nat × COper := (i, ⟨some d, .bin o (.t a) (.c (.int .i64 n)), none, [], k⟩)
@[simp] abbrev oE (i d : Nat) (a : Nat) (k : List Nat) : Nat × COper := (i, ⟨some d, .not (.t a), none, [], k⟩)
@[simp] abbrev oF (i d : Nat) (w a : Nat) (k : List Nat) : Nat × COper := (i, ⟨some d, .fa w (.t a), none, [], k⟩)
@[simp] abbrev oI (i d : Nat) (w a b : Nat) (k : List Nat) : Nat × COper := (i, ⟨some d, .ia w (.t a) (.t b), none, [], k⟩)
@[simp] abbrev oK (i d : Nat) (f : Nat) (l : List Opd) (k : List Nat) : Nat × COper := (i, ⟨some d, .call f l, none, [], k⟩)
@[simp] abbrev oL (i d : Nat) (w a : Nat) (k : List Nat) : Nat × COper := (i, ⟨some d, .ld w false (.t a), none, [], k⟩)
@[simp] abbrev oM (i d : Nat) (w a : Nat) (k : List Nat) : Nat × COper := (i, ⟨some d, .ld w true (.t a), none, [], k⟩)
@[simp] abbrev oN (i d : Nat) (a : Nat) (k : List Nat) : Nat × COper := (i, ⟨some d, .len (.t a), none, [], k⟩)
@[simp] abbrev oO (i d : Nat) (a b : Nat) (k : List Nat) : Nat × COper := (i, ⟨some d, .pick (.t a) (.c (.bool true)) (.t b), none, [], k⟩)
@[simp] abbrev oP (i d : Nat) (p : COp) (k : List Nat) : Nat × COper := (i, ⟨some d, p, none, [], k⟩)
@[simp] abbrev oQ (i d : Nat) (w a : Nat) (k : List Nat) : Nat × COper := (i, ⟨some d, .box w (.t a), none, [], k⟩)
@[simp] abbrev oS (i w a b : Nat) (k : List Nat) : Nat × COper := (i, ⟨none, .st w (.t a) (.t b), none, [], k⟩)
@[simp] abbrev oT (i d : Nat) (a : Nat) (k : List Nat) : Nat × COper := (i, ⟨some d, .mv (.t a), none, [], k⟩)
@[simp] abbrev oU (i d : Nat) (a n : Nat) (k : List Nat) : Nat × COper := (i, ⟨some d, .ex (.t a) n, none, [], k⟩)
@[simp] abbrev oV (i d : Nat) (k : List Nat) : Nat × COper := (i, ⟨some d, .mv (.c .nils), none, [], k⟩)
@[simp] abbrev oX (i d : Nat) (w n a b : Nat) (k : List Nat) : Nat × COper := (i, ⟨some d, .app w n (.t a) (.t b), none, [], k⟩)
@[simp] abbrev oY (i d : Nat) (b : Bool) (k : List Nat) : Nat × COper := (i, ⟨some d, .mv (.c (.bool b)), none, [], k⟩)
@[simp] abbrev oZ (i d : Nat) (n : Int) (k : List Nat) : Nat × COper := (i, ⟨some d, .mv (.c (.int .i64 n)), none, [], k⟩)
@[simp] abbrev uB (i d : Nat) (o : BinOp) (a b : Nat) : Nat × COper := (i, ⟨some d, .bin o (.t a) (.t b), none, [], []⟩)
@[simp] abbrev uC (i d : Nat) (o : BinOp) (a : Nat) (n : Int) : Nat × COper := (i, ⟨some d, .bin o (.t a) (.c (.int .i64 n)), none, [], []⟩)
@[simp] abbrev uF (i d : Nat) (w a : Nat) : Nat × COper := (i, ⟨some d, .fa w (.t a), none, [], []⟩)
@[simp] abbrev uH (i d : Nat) (l : List AV) : Nat × COper := (i, ⟨some d, .al l, none, [], []⟩)
@[simp] abbrev uI (i d : Nat) (w a b : Nat) : Nat × COper := (i, ⟨some d, .ia w (.t a) (.t b), none, [], []⟩)
@[simp] abbrev uL (i d : Nat) (w a : Nat) : Nat × COper := (i, ⟨some d, .ld w false (.t a), none, [], []⟩)
@[simp] abbrev uM (i d : Nat) (w a : Nat) : Nat × COper := (i, ⟨some d, .ld w true (.t a), none, [], []⟩)
@[simp] abbrev uN (i d : Nat) (a : Nat) : Nat × COper := (i, ⟨some d, .len (.t a), none, [], []⟩)
@[simp] abbrev uP (i d : Nat) (p : COp) : Nat × COper := (i, ⟨some d, p, none, [], []⟩)
@[simp] abbrev uT (i d : Nat) (a : Nat) : Nat × COper := (i, ⟨some d, .mv (.t a), none, [], []⟩)
@[simp] abbrev uU (i d : Nat) (a n : Nat) : Nat × COper := (i, ⟨some d, .ex (.t a) n, none, [], []⟩)
@[simp] abbrev uV (i d : Nat) : Nat × COper := (i, ⟨some d, .mv (.c .nils), none, [], []⟩)
@[simp] abbrev uW (i d : Nat) (w : Nat) (l : List AV) : Nat × COper := (i, ⟨some d, .bsl w 0 l [], none, [], []⟩)
@[simp] abbrev uY (i d : Nat) (b : Bool) : Nat × COper := (i, ⟨some d, .mv (.c (.bool b)), none, [], []⟩)
@[simp] abbrev uZ (i d : Nat) (n : Int) : Nat × COper := (i, ⟨some d, .mv (.c (.int .i64 n)), none, [], []⟩)
@[simp] abbrev vF (i d : Nat) (w a : Nat) (g : Nat) : Nat × COper := (i, ⟨some d, .fa w (.t a), some (g, false), [], []⟩)
@[simp] abbrev vG (i d : Nat) (p : COp) (g : Nat) : Nat × COper := (i, ⟨some d, p, some (g, false), [], []⟩)
@[simp] abbrev vI (i d : Nat) (w a b : Nat) (g : Nat) : Nat × COper := (i, ⟨some d, .ia w (.t a) (.t b), some (g, false), [], []⟩)
@[simp] abbrev vL (i d : Nat) (w a : Nat) (g : Nat) : Nat × COper := (i, ⟨some d, .ld w false (.t a), some (g, false), [], []⟩)
@[simp] abbrev vM (i d : Nat) (w a : Nat) (g : Nat) : Nat × COper := (i, ⟨some d, .ld w true (.t a), some (g, false), [], []⟩)
@[simp] abbrev vT (i d : Nat) (a : Nat) (g : Nat) : Nat × COper := (i, ⟨some d, .mv (.t a), some (g, false), [], []⟩)
@[simp] abbrev vW (i d : Nat) (w : Nat) (l : List AV) (g : Nat) : Nat × COper := (i, ⟨some d, .bsl w 0 l [], some (g, false), [], []⟩)
@[simp] abbrev wF (i d : Nat) (w a : Nat) (g : Nat) : Nat × COper := (i, ⟨some d, .fa w (.t a), some (g, true), [], []⟩)
@[simp] abbrev wI (i d : Nat) (w a b : Nat) (g : Nat) : Nat × COper := (i, ⟨some d, .ia w (.t a) (.t b), some (g, true), [], []⟩)
@[simp] abbrev wL (i d : Nat) (w a : Nat) (g : Nat) : Nat × COper := (i, ⟨some d, .ld w false (.t a), some (g, true), [], []⟩)
@[simp] abbrev wM (i d : Nat) (w a : Nat) (g : Nat) : Nat × COper := (i, ⟨some d, .ld w true (.t a), some (g, true), [], []⟩)
@[simp] abbrev wT (i d : Nat) (a : Nat) (g : Nat) : Nat × COper := (i, ⟨some d, .mv (.t a), some (g, true), [], []⟩)
@[simp] abbrev wW (i d : Nat) (w : Nat) (l : List AV) (g : Nat) : Nat × COper := (i, ⟨some d, .bsl w 0 l [], some (g, true), [], []⟩)
abbrev sI (a b x : Nat) : CCode := .reg false [oT 0 a x [x],oC 1 b .add a 1 [a],oT 2 x b [b]]
abbrev sC (t : Nat) (k : List Nat) (n : Nat) : CCode := .cond (.t t) (.seq (.kill [t]) .skip) (.seq (.kill k) (.exit n))
abbrev sD (t : Nat) (k : List Nat) (l : List (Nat × COper)) : CCode := .cond (.t t) (.seq (.kill k) (.seq (.reg false l) .ret)) (.seq (.kill [t]) .skip)
abbrev sL (x k : Nat) (l c : CCode) : CCode := .seq (.seq (.reg false [uZ 0 x 0]) (.block k (.loop l))) c
abbrev L4_0 : CCode := (.seq (sR [uT 0 37 8,uT 1 38 6,oN 2 39 38 [38],oB 3 40 .lss 37 39 [37,39]] (sC 40 [7,8,40] 0)) (.seq (.block 1 (.seq (.reg true [uT 0 43 6,uT 1 44 8,uI 2 45 2 43 44,oF 3 46 1 45 [45],oL 4 47 1 46
[43,44,46],uT 5 48 7,uT 6 49 8,uI 7 50 2 48 49,oF 8 51 1 50 [50],oL 9 52 1 51 [48,49,51],oB 10 53 .neq 47 52 [47,52],oT 11 54 53 [53],vT 12 55 6 54,vT 13 56 8 54,vI 14 57 2 55 56 54,gF 15 58 0 57 54 [57],gL 16 59 1 58
54 [58],vT 17 60 7 54,vT 18 61 8 54,vI 19 62 2 60 61 54,gF 20 63 0 62 54 [62],gL 21 64 1 63 54 [63],gK 22 65 15 [.t 59,.t 64] 54 [55,56,59,60,61,64],gE 23 66 65 54 [65],oO 24 67 54 66 [54,66]]) (sD 67 [3,4,5,6,7,8,67]
[uY 0 2 false]))) (sI 41 42 8)))
abbrev B4 : CCode := (sR [oY 0 2 false [2]] (.seq (sR [uT 0 9 0,oK 1 10 5 [.t 9] [9]] (sD 10 [0,10] [uY 0 2 true])) (sR [oT 0 12 0 [0],oK 1 13 12 [.t 12] [12],oT 2 11 13 [13],uU 3 14 11 0,uU 4 15 11 1,oU 5 16 11 2
[11],uH 6 3 [.nils,.nils],uH 7 4 [.int .i64 (0),.nils,.nils],oS 8 2 3 14 [14],oS 9 3 4 15 [15],oT 10 5 16 [16]] (sR [uM 0 17 2 3,uM 1 18 3 4,uT 2 19 5,oK 3 20 13 [.t 17,.t 18,.t 19] [17,18,19],oT 4 6 20 [20]] (sR [uM 0
21 2 3,uM 1 22 3 4,uT 2 23 5,oK 3 24 14 [.t 21,.t 22,.t 23] [21,22,23],oT 4 7 24 [24]] (.seq (sR [uT 0 25 6,oN 1 26 25 [25],uT 2 27 7,oN 3 28 27 [27],oB 4 29 .neq 26 28 [26,28],oT 5 30 29 [29],vT 6 31 6 30,gN 7 32 31 30
[31],vT 8 33 5 30,gN 9 34 33 30 [33],gB 10 35 .gtr 32 34 30 [32,34],oO 11 36 30 35 [30,35]] (sD 36 [3,4,5,6,7,36] [uY 0 2 false])) (sL 8 0 L4_0 (.seq (.reg true [uM 0 68 2 3,uM 1 69 3 4,oT 2 70 6 [6],uM 4 72 2 3,uM 5 73
3 4,oT 6 74 5 [5],(3,⟨some 71,.call 16 [.t 68,.t 69,.t 70],none,[(3,2),(4,3)],[68,69,70]⟩),oK 7 75 17 [.t 72,.t 73,.t 74] [3,4,72,73,74],oP 8 76 (.beq false (.t 71) (.t 75)) [71,75],oT 9 2 76 [76]]) .ret))))))))
def C4 : CFn := ⟨77,1,[.t 2],B4⟩
abbrev B5 : CCode := (sR [oY 0 2 false [2]] (sR [oT 0 3 0 [0],oN 1 4 3 [3],oC 2 5 .gtr 4 1048576 [4],oT 3 2 5 [5]] .ret))
def C5 : CFn := ⟨6,1,[.t 2],B5⟩
abbrev L11_0 : CCode := (.seq (sR [uT 0 4 3,uF 1 5 1 1,oL 2 6 1 5 [5],oN 3 7 6 [6],oB 4 8 .lss 4 7 [4,7]] (sC 8 [3,8] 0)) (.seq (.block 1 (.seq (.reg true [uF 0 11 0 1,oL 1 12 1 11 [11],uF 2 13 1 1,oL 3 14 1 13 [13],uT
4 15 3,oI 5 16 2 14 15 [14],oM 6 17 2 16 [16],oK 7 18 42 [.t 12,.t 17] [12,15,17],oE 8 19 18 [18],oT 9 20 19 [19],vT 10 21 3 20,gC 11 22 .gtr 21 0 20 [21],gT 12 23 22 20 [22],wF 13 24 1 1 23,hL 14 25 1 24 23 [24],wT 15
26 3 23,hC 16 27 .sub 26 1 23 [26],hI 17 28 2 25 27 23 [25],hM 18 29 2 28 23 [28],wF 19 30 1 1 23,hL 20 31 1 30 23 [30],wT 21 32 3 23,hI 22 33 2 31 32 23 [31],hM 23 34 2 33 23 [33],hK 24 35 43 [.t 29,.t 34] 23
[27,29,32,34],hC 25 36 .geq 35 0 23 [35],gA 26 37 23 36 20 [23,36],oO 27 38 20 37 [20,37]]) (sD 38 [1,3,38] [uY 0 2 false]))) (sI 9 10 3)))
abbrev B11 : CCode := (sR [oQ 0 1 2 0 [0],oY 1 2 false [2]] (sL 3 0 L11_0 (sR [uF 0 39 0 1,oL 1 40 1 39 [39],oK 2 41 37 [.t 40] [40],oT 3 42 41 [41],wF 4 43 1 1 42,hL 5 44 1 43 42 [43],hN 6 45 44 42 [1,44],hC 7 46 .leq
45 14 42 [45],oA 8 47 42 46 [42,46],oT 9 2 47 [47]] .ret)))
def C11 : CFn := ⟨48,1,[.t 2],B11⟩
abbrev L12_0 : CCode := (.seq (sR [uF 0 14 1 6,oL 1 15 1 14 [14],oN 2 16 15 [15],oC 3 17 .gtr 16 5 [16]] (sC 17 [17] 0)) (.block 1 (.reg false [uF 0 18 1 6,oL 1 19 1 18 [18],uF 2 20 1 6,oL 3 21 1 20 [20],oN 4 22 21
[21],oC 5 23 .sub 22 1 [22],oP 6 24 (.sls 2 (.t 19) none (some (.t 23)) none) [19,23],uF 7 25 1 6,oS 8 1 25 24 [24,25]])))
abbrev B12 : CCode := (sR [uH 0 2 [.nils,.nils],uH 1 3 [.int .i64 (0),.nils,.nils],oV 2 4 [4]] (sR [oT 0 9 0 [0],oK 1 10 44 [.t 9] [9],oT 2 8 10 [10],uU 3 11 8 0,uU 4 12 8 1,oU 5 13 8 2 [8],uH 6 6 [.nils,.nils],uH 7 7
[.int .i64 (0),.nils,.nils],oT 8 5 11 [11],oS 9 2 6 12 [12],oS 10 3 7 13 [13]] (.seq (.block 0 (.loop L12_0)) (.seq (.reg true [uM 0 26 2 6,uM 1 27 3 7,oT 2 28 5 [5],uM 3 29 2 6,uM 4 30 3 7,(5,⟨some 31,.call 45 [.t
28,.t 29,.t 30],none,[(6,2),(7,3)],[28,29,30]⟩),(6,⟨none,.st 2 (.t 2) (.t 26),none,[(7,3)],[6,26]⟩),oS 7 3 3 27 [7,27],oT 8 4 31 [31]]) .ret))))
def C12 : CFn := ⟨32,1,[.m 2 2 true,.m 3 3 true,.t 4],B12⟩
abbrev L13_0 : CCode := (.seq (sR [uT 0 21 8,oC 1 22 .geq 21 0 [21]] (sC 22 [3,4,8,22] 0)) (.seq (.block 1 (sR [uT 0 25 7,oK 1 26 48 [.t 25] [25],uT 2 27 8,uT 3 28 8,oC 4 29 .add 28 1 [28],oK 5 30 47 [.t 26,.t 27,.t 29]
[26,27,29],oT 6 9 30 [30]] (sR [uM 0 31 2 3,uM 1 32 3 4,uT 2 33 9,oK 3 34 16 [.t 31,.t 32,.t 33] [31,32,33]] (.cond (.t 34) (sK [7,34] (.reg false [oT 0 35 9 [9],oT 1 7 35 [35]])) (sK [9,34] .skip))))) (.reg false [oT 0
23 8 [8],oC 1 24 .sub 23 1 [23],oT 2 8 24 [24]])))
abbrev B13 : CCode := (sR [oQ 0 3 2 0 [0],oQ 1 4 3 1 [1],oV 2 6 [6]] (sR [uT 0 10 2,oK 1 11 46 [.t 10] [10],oT 2 7 11 [11]] (.seq (sR [uM 0 12 2 3,uM 1 13 3 4,oT 2 14 2 [2],oK 3 15 16 [.t 12,.t 13,.t 14] [12,13,14],oE 4
16 15 [15]] (sD 16 [3,4,16] [oT 0 17 7 [7],oT 1 6 17 [17]])) (.seq (sR [uT 0 18 7,oN 1 19 18 [18],oC 2 20 .sub 19 2 [19],oT 3 8 20 [20]] (.block 0 (.loop L13_0))) (sR [oT 0 36 7 [7],oT 1 6 36 [36]] .ret)))))
def C13 : CFn := ⟨37,3,[.t 6],B13⟩
abbrev L14_0 : CCode := (.seq (sR [uT 0 21 8,oC 1 22 .geq 21 0 [21]] (sC 22 [3,4,8,22] 0)) (.seq (.block 1 (.seq (.reg true [uW 0 25 2 [.nils,.int .i64 (0)],uT 1 26 7,uT 2 27 8,oP 3 28 (.sls 2 (.t 26) none (some (.t
27)) none) [26,27],uT 5 30 7,uT 6 31 8,oC 7 32 .add 31 1 [31],oP 8 33 (.sls 2 (.t 30) (some (.t 32)) none none) [30,32],oX 4 29 2 32 25 28 [25,28],oX 9 34 2 32 29 33 [29,33],oT 10 9 34 [34]]) (sR [uM 0 35 2 3,uM 1 36 3
4,uT 2 37 9,oK 3 38 17 [.t 35,.t 36,.t 37] [35,36,37]] (.cond (.t 38) (sK [7,38] (.reg false [oT 0 39 9 [9],oT 1 7 39 [39]])) (sK [9,38] .skip))))) (.reg false [oT 0 23 8 [8],oC 1 24 .sub 23 1 [23],oT 2 8 24 [24]])))
abbrev B14 : CCode := (sR [oQ 0 3 2 0 [0],oQ 1 4 3 1 [1],oV 2 6 [6]] (sR [uT 0 10 2,oK 1 11 49 [.t 10] [10],oT 2 7 11 [11]] (.seq (sR [uM 0 12 2 3,uM 1 13 3 4,oT 2 14 2 [2],oK 3 15 17 [.t 12,.t 13,.t 14] [12,13,14],oE 4
16 15 [15]] (sD 16 [3,4,16] [oT 0 17 7 [7],oT 1 6 17 [17]])) (.seq (sR [uT 0 18 7,oN 1 19 18 [18],oC 2 20 .sub 19 2 [19],oT 3 8 20 [20]] (.block 0 (.loop L14_0))) (sR [oT 0 40 7 [7],oT 1 6 40 [40]] .ret)))))
def C14 : CFn := ⟨41,3,[.t 6],B14⟩
abbrev L15_0 : CCode := (.seq (sR [uT 0 11 5,uT 1 12 0,oN 2 13 12 [12],oB 3 14 .lss 11 13 [11,13]] (sC 14 [0,1,5,14] 0)) (.seq (.block 1 (.seq (.reg true [uT 0 17 0,uT 1 18 5,uI 2 19 1 17 18,oL 3 20 1 19 [17,18,19],uT 4
21 1,uT 5 22 5,uI 6 23 1 21 22,oL 7 24 1 23 [21,22,23],oB 8 25 .neq 20 24 [20,24]]) (sD 25 [0,1,5,25] [uY 0 4 false]))) (sI 15 16 5)))
abbrev B15 : CCode := (sR [oY 0 4 false [4]] (.seq (sR [uT 0 6 0,oN 1 7 6 [6],uT 2 8 1,oN 3 9 8 [8],oB 4 10 .neq 7 9 [7,9]] (sD 10 [0,1,10] [uY 0 4 false])) (sL 5 0 L15_0 (sR [uY 0 4 true] .ret))))
def C15 : CFn := ⟨26,2,[.t 4],B15⟩
abbrev L16_0 : CCode := (sR [uB 0 28 .lss 27 26] (.seq (sC 28 [3,7,8,25,26,27,28] 0) (.seq (.block 1 (sR [uT 0 29 27,uI 1 30 2 25 27,oM 2 31 2 30 [30],uH 3 10 [.nils,.int .i64 (0)],oT 4 9 29 [29],oS 5 2 10 31 [31]]
(.seq (sR [uM 0 32 2 3,uF 1 33 0 10,oL 2 34 1 33 [33],oK 3 35 52 [.t 32,.t 34] [32,34],oE 4 36 35 [35]] (sD 36 [2,3,7,8,9,10,25,26,27,36] [uY 0 6 false])) (.block 2 (sR [uF 0 38 1 10,oL 1 39 1 38 [38],oC 2 40 .eql 39
(-1) [39],oT 3 37 40 [40]] (.cond (.t 37) (sK [9,37] (sR [uT 0 41 7,uF 1 42 0 10,oL 2 43 1 42 [42],oK 3 44 53 [.t 41,.t 43] [10,41,43],oE 4 45 44 [44]] (sD 45 [2,3,7,8,25,26,27,45] [uY 0 6 false]))) (sK [37] (.seq (.reg
true [uF 0 47 1 10,oL 1 48 1 47 [47],uT 2 49 8,oN 3 50 49 [49],oC 4 51 .sub 50 1 [50],oK 5 52 31 [.t 48,(.c (.int .i64 0)),.t 51] [48,51],oE 6 53 52 [52],oT 7 54 53 [53],vT 8 55 2 54,gT 9 56 9 54 [9],gG 10 57 (.sls 2
(.t 55) none (some (.t 56)) none) 54 [55,56],vF 12 59 0 10 54,vL 13 60 1 59 54,vT 14 61 8 54,vF 15 62 1 10 54,vL 16 63 1 62 54,vI 17 64 1 61 63 54,vL 18 65 1 64 54,(11,⟨some 58,.call 55 [.t 57],some
(54,false),[(59,1),(62,1),(64,1)],[57,59,62,64]⟩),gK 19 66 54 [.t 58,.t 60,.t 65] 54 [10,58,60,61,63,65],gE 20 67 66 54 [66],oO 21 68 54 67 [54,67],oT 22 46 68 [68]]) (sD 46 [2,3,7,8,25,26,27,46] [uY 0 6 false])))))))))
(.reg false [oC 0 69 .add 27 1 [27],oT 1 27 69 [69]]))))
abbrev B16 : CCode := (sR [oQ 0 3 2 0 [0],oQ 1 4 3 1 [1],oY 2 6 false [6]] (.seq (sR [uM 0 11 2 3,uM 1 12 3 4,oK 2 13 50 [.t 11,.t 12] [11,12],oE 3 14 13 [13],oT 4 15 14 [14],vT 5 16 2 15,gN 6 17 16 15 [16],gC 7 18 .eql
17 0 15 [17],oO 8 19 15 18 [15,18]] (sD 19 [2,3,4,19] [uY 0 6 false])) (.seq (.reg true [uM 0 20 2 3,uM 1 21 3 4,uM 3 23 2 3,(2,⟨some 22,.call 51 [.t 20,.t 21],none,[(3,2)],[4,20,21]⟩),oK 4 24 27 [.t 23] [23],oT 5 7 22
[22],oT 6 8 24 [24]]) (.seq (sR [uT 0 25 2,uN 1 26 25,uZ 2 27 0] (.block 0 (.loop L16_0))) (sR [uT 0 70 2,uT 1 71 2,oN 2 72 71 [71],oC 3 73 .sub 72 1 [72],uI 4 74 2 70 73,oF 5 75 0 74 [74],oL 6 76 1 75 [75],oN 7 77 76
[70,73,76],oC 8 78 .eql 77 0 [77],oT 9 6 78 [78]] .ret)))))
def C16 : CFn := ⟨79,3,[.t 6],B16⟩
abbrev L17_0 : CCode := (.seq (sR [uT 0 35 9,uT 1 36 2,oN 2 37 36 [36],oB 3 38 .lss 35 37 [35,37]] (sC 38 [2,3,7,8,9,38] 0)) (.seq (.block 1 (sR [uM 0 41 2 3,uT 1 42 7,uT 2 43 8,uT 3 44 2,uT 4 45 9,oK 5 46 59 [.t 41,.t
42,.t 43,.t 44,.t 45] [41,42,43,44,45],oE 6 47 46 [46]] (sD 47 [2,3,7,8,9,47] [uY 0 6 false]))) (sI 39 40 9)))
abbrev B17 : CCode := (sR [oQ 0 3 2 0 [0],oQ 1 4 3 1 [1],oY 2 6 false [6]] (.seq (sR [uM 0 10 2 3,uM 1 11 3 4,oK 2 12 56 [.t 10,.t 11] [10,11],oE 3 13 12 [12],oT 4 14 13 [13],vT 5 15 2 14,gN 6 16 15 14 [15],gC 7 17 .eql
16 0 14 [16],oO 8 18 14 17 [14,17],oT 9 19 18 [18],vT 10 20 2 19,vT 11 21 2 19,gN 12 22 21 19 [21],gC 13 23 .sub 22 1 19 [22],vI 14 24 2 20 23 19,gF 15 25 0 24 19 [24],gL 16 26 1 25 19 [25],gN 17 27 26 19 [20,23,26],gC
18 28 .gtr 27 0 19 [27],oO 19 29 19 28 [19,28]] (sD 29 [2,3,4,29] [uY 0 6 false])) (sR [uM 0 30 2 3,uM 1 31 3 4,oK 2 32 57 [.t 30,.t 31] [4,30,31],oT 3 7 32 [32]] (sR [uM 0 33 2 3,oK 1 34 58 [.t 33] [33],oT 2 8 34 [34]]
(sL 9 0 L17_0 (sR [uY 0 6 true] .ret))))))
def C17 : CFn := ⟨48,3,[.t 6],B17⟩
abbrev L18_0 : CCode := (.seq (sR [uT 0 8 4,uT 1 9 0,oN 2 10 9 [9],oB 3 11 .lss 8 10 [8,10],oT 4 12 11 [11],wT 5 13 4 12,hC 6 14 .lss 13 4000 12 [13],oA 7 15 12 14 [12,14]] (sC 15 [4,15] 0)) (.seq (.block 1 (.reg false
[oT 0 18 3 [3],oC 1 19 .mul 18 131 [18],uT 2 20 0,uT 3 21 4,uI 4 22 1 20 21,oL 5 23 1 22 [20,21,22],oP 6 24 (.conv .i64 (.t 23)) [23],oB 7 25 .add 19 24 [19,24],oC 8 26 .add 25 7 [25],oC 9 27 .and 26 1073741823 [26],oT
10 3 27 [27]])) (sI 16 17 4)))
abbrev B18 : CCode := (sR [oP 0 2 (.mv (.c (.nilp))) [2]] (sR [uT 0 5 0,oN 1 6 5 [5],oP 2 7 (.bin .add (.c (.int .i64 10101)) (.t 6)) [6],oT 3 3 7 [7]] (sL 4 0 L18_0 (sR [oT 0 28 0 [0],oT 1 29 3 [3],oP 2 30 (.bld
[.nils,.int .i64 (0),.int .i64 (0)] [(0,1,(.t 28)),(2,1,(.t 29))]) [28,29],oQ 3 31 3 30 [30],oT 4 2 31 [31]] .ret))))
def C18 : CFn := ⟨32,1,[.t 2],B18⟩
abbrev B20 : CCode := (sR [oZ 0 4 0 [4]] (.seq (sR [uT 0 9 1,oC 1 10 .leq 9 0 [9]] (sD 10 [1,10] [uZ 0 4 0])) (.seq (sR [uT 0 11 1,oC 1 12 .leq 11 256 [11]] (sD 12 [12] [uT 0 13 0,oK 1 14 63 [.t 13] [13],oT 2 15 1
[1],oB 3 16 .rem 14 15 [14,15],oT 4 4 16 [16]])) (sR [uT 0 17 0,oK 1 18 63 [.t 17] [17],oT 2 5 18 [18]] (sR [uT 0 19 0,oK 1 20 63 [.t 19] [19],oT 2 6 20 [20]] (sR [uT 0 21 0,oK 1 22 63 [.t 21] [21],oT 2 7 22 [22]] (sR
[uT 0 23 0,oK 1 24 63 [.t 23] [23],oT 2 8 24 [24]] (sR [oT 0 25 5 [5],oC 1 26 .mul 25 16777216 [25],oT 2 27 6 [6],oC 3 28 .mul 27 65536 [27],oB 4 29 .add 26 28 [26,28],oT 5 30 7 [7],oC 6 31 .mul 30 256 [30],oB 7 32 .add
29 31 [29,31],oT 8 33 8 [8],oB 9 34 .add 32 33 [32,33],oT 10 35 1 [1],oB 11 36 .rem 34 35 [34,35],oT 12 4 36 [36]] .ret))))))))
def C20 : CFn := ⟨37,2,[.t 4],B20⟩
abbrev B21 : CCode := (sR [oY 0 4 false [4]] (sR [uT 0 5 0,oT 1 6 1 [1],oK 2 7 20 [.t 5,.t 6] [5,6],oC 3 8 .eql 7 0 [7],oT 4 4 8 [8]] .ret))
def C21 : CFn := ⟨9,2,[.t 4],B21⟩
abbrev B23 : CCode := (sR [oV 0 2 [2]] (sR [uP 0 3 (.bld [.str [],.int .i64 (0),.int .i64 (0)] [(0,1,(.c (.str [114]))),(1,1,(.c (.int .i64 2))),(2,1,(.c (.int .i64 1)))]),uP 1 4 (.bld [.str [],.int .i64 (0),.int .i64
(0)] [(0,1,(.c (.str [115]))),(1,1,(.c (.int .i64 2))),(2,1,(.c (.int .i64 1)))]),uT 2 5 0,uP 3 6 (.bsl 1 4 [.int .i64 (0)] [(0,1,(.c (.int .i64 1))),(1,1,(.c (.int .i64 1))),(2,1,(.c (.int .i64 2))),(3,1,(.c (.int .i64
0)))]),oK 4 7 67 [.t 5,.t 6] [5,6],oP 5 8 (.bld [.str [],.int .i64 (0),.int .i64 (0)] [(0,1,(.c (.str [116]))),(1,1,(.c (.int .i64 2))),(2,1,(.t 7))]) [7],uT 6 9 0,oK 7 10 20 [.t 9,(.c (.int .i64 2))] [9],oP 8 11 (.bin
.add (.c (.int .i64 1)) (.t 10)) [10],oP 9 12 (.bld [.str [],.int .i64 (0),.int .i64 (0)] [(0,1,(.c (.str [117]))),(1,1,(.c (.int .i64 3))),(2,1,(.t 11))]) [11],oP 10 13 (.bsl 3 4 [.str [],.int .i64 (0),.int .i64 (0)]
[(0,3,(.t 3)),(3,3,(.t 4)),(6,3,(.t 8)),(9,3,(.t 12))]) [3,4,8,12],oT 11 2 13 [13]] .ret))
def C23 : CFn := ⟨14,1,[.t 2],B23⟩
abbrev L24_0 : CCode := (sR [uB 0 19 .lss 18 17] (.seq (sC 19 [1,16,17,18,19] 0) (.seq (.block 1 (sR [uT 0 20 18,uI 1 21 2 16 18,oM 2 22 2 21 [21],uH 3 4 [.int .i64 (0),.nils],oT 4 3 20 [20],oS 5 2 4 22 [22]] (.seq
(.reg true [uF 0 23 0 1,oL 1 24 1 23 [23],uM 2 25 2 4,oK 3 26 68 [.t 24,.t 25] [24,25],oE 4 27 26 [26],oT 5 28 27 [27],vT 6 29 3 28,gC 7 30 .gtr 29 0 28 [29],gT 8 31 30 28 [30],wF 9 32 1 1 31,hL 10 33 1 32 31 [32],hT 11
34 3 31 [3],hC 12 35 .sub 34 1 31 [34],hI 13 36 2 33 35 31 [33],hM 14 37 2 36 31 [36],wM 15 38 2 4 31,hK 16 39 69 [.t 37,.t 38] 31 [4,35,37,38],hC 17 40 .geq 39 0 31 [39],gA 18 41 31 40 28 [31,40],oO 19 42 28 41
[28,41]]) (sD 42 [1,16,17,18,42] [uY 0 2 false])))) (.reg false [oC 0 43 .add 18 1 [18],oT 1 18 43 [43]]))))
abbrev B24 : CCode := (sR [oQ 0 1 2 0 [0],oY 1 2 false [2]] (.seq (sR [uF 0 5 0 1,oL 1 6 1 5 [5],oK 2 7 30 [.t 6] [6],oE 3 8 7 [7],oT 4 9 8 [8],vF 5 10 1 1 9,gL 6 11 1 10 9 [10],gN 7 12 11 9 [11],gC 8 13 .gtr 12 14 9
[12],oO 9 14 9 13 [9,13]] (sD 14 [1,14] [uY 0 2 false])) (.seq (sR [uF 0 15 1 1,oL 1 16 1 15 [15],uN 2 17 16,uZ 3 18 0] (.block 0 (.loop L24_0))) (sR [uY 0 2 true] .ret))))
def C24 : CFn := ⟨44,1,[.t 2],B24⟩
abbrev B25 : CCode := (sR [oV 0 2 [2]] (sR [uP 0 3 (.bsl 1 1 [.int .i64 (0)] [(0,1,(.c (.int .i64 (-1))))]),oT 1 4 0 [0],oK 2 5 70 [.t 3,.t 4] [3,4],oT 3 2 5 [5]] .ret))
def C25 : CFn := ⟨6,1,[.t 2],B25⟩
abbrev L27_0 : CCode := (sR [uB 0 12 .lss 11 10] (.seq (sC 12 [1,9,10,11,12] 0) (.seq (.block 1 (sR [uT 0 13 11,uI 1 14 2 9 11,oM 2 15 2 14 [14],uH 3 5 [.int .i64 (0),.nils],oT 4 4 13 [13],oS 5 2 5 15 [15]] (sR [uT 0 16
3,oN 1 17 16 [16],oC 2 18 .sub 17 1 [17],oT 3 6 18 [18]] (.seq (.reg true [uT 0 19 6,oC 1 20 .geq 19 0 [19],oT 2 21 20 [20],wF 3 22 0 1 21,hL 4 23 1 22 21 [22],wF 5 24 1 1 21,hL 6 25 1 24 21 [24],wT 7 26 3 21,wT 8 27 6
21,wI 9 28 1 26 27 21,hL 10 29 1 28 21 [28],hG 11 30 (.ia 1 (.t 29) (.c (.int .i64 0))) 21 [29],hL 12 31 1 30 21 [26,27,30],hI 13 32 2 25 31 21 [25],hM 14 33 2 32 21 [32],wM 15 34 2 5 21,hK 16 35 72 [.t 23,.t 33,.t 34]
21 [5,23,31,33,34],oA 17 36 21 35 [21,35]]) (.cond (.t 36) (sK [36] (.reg false [uT 0 37 3,uT 1 38 6,uT 2 39 3,oT 3 40 6 [6],uI 4 41 1 39 40,oL 5 42 1 41 [41],oT 6 43 4 [4],oP 7 44 (.bsl 1 1 [.int .i64 (0)] [(0,1,(.t
43))]) [43],oX 8 45 1 8 42 44 [39,40,42,44],uI 9 46 1 37 38,oS 10 1 46 45 [37,38,45,46]])) (sK [6,36] (.reg false [oT 0 47 3 [3],oT 1 48 4 [4],oP 2 49 (.bsl 1 1 [.int .i64 (0)] [(0,1,(.t 48))]) [48],oP 3 50 (.bsl 1 1
[.nils] [(0,1,(.t 49))]) [49],oX 4 51 1 24 47 50 [47,50],oT 5 3 51 [51]]))))))) (.reg false [oC 0 52 .add 11 1 [11],oT 1 11 52 [52]]))))
abbrev B27 : CCode := (sR [oQ 0 1 2 0 [0],oV 1 2 [2]] (sR [uW 0 7 1 [.nils],oT 1 3 7 [7]] (.seq (sR [uF 0 8 1 1,oL 1 9 1 8 [8],uN 2 10 9,uZ 3 11 0] (.block 0 (.loop L27_0))) (sR [oT 0 53 3 [3],oT 1 2 53 [53]] .ret))))
def C27 : CFn := ⟨54,1,[.t 2],B27⟩
abbrev L28_0 : CCode := (.seq (sR [uT 0 5 3,oN 1 6 5 [5],uT 2 7 0,oB 3 8 .lss 6 7 [6,7]] (sC 8 [0,8] 0)) (.block 1 (.reg false [oT 0 9 3 [3],uP 1 10 (.bsl 1 1 [.int .i64 (0)] [(0,1,(.c (.int .i64 (-1))))]),oX 2 11 1 8 9
10 [9,10],oT 3 3 11 [11]])))
abbrev B28 : CCode := (sR [oV 0 2 [2]] (sR [uW 0 4 1 [.int .i64 (0)],oT 1 3 4 [4]] (.seq (.block 0 (.loop L28_0)) (sR [oT 0 12 3 [3],oT 1 2 12 [12]] .ret))))
def C28 : CFn := ⟨13,1,[.t 2],B28⟩
abbrev L30_0 : CCode := (sR [uB 0 8 .lss 7 6] (.seq (sC 8 [5,6,7,8] 0) (.seq (.block 1 (sR [uT 0 9 7,uI 1 10 3 5 7,oM 2 11 3 10 [10],uP 3 4 (.al [.str [],.int .i64 (0),.int .i64 (0)]),oT 4 3 9 [9],oS 5 3 4 11 [11]]
(.seq (.reg true [uM 0 12 3 4,oK 1 13 74 [.t 12] [12],oE 2 14 13 [13],oT 3 15 14 [14],vT 4 16 3 15,gC 5 17 .gtr 16 0 15 [16],gT 6 18 17 15 [17],wT 7 19 0 18,hT 8 20 3 18 [3],hC 9 21 .sub 20 1 18 [20],wI 10 22 3 19 21
18,hF 11 23 0 22 18 [22],hL 12 24 1 23 18 [19,21,23],wF 13 25 0 4 18,hL 14 26 1 25 18 [4,25],hB 15 27 .geq 24 26 18 [24,26],gA 16 28 18 27 15 [18,27],oO 17 29 15 28 [15,28]]) (sD 29 [0,5,6,7,29] [uY 0 2 false])))) (.reg
false [oC 0 30 .add 7 1 [7],oT 1 7 30 [30]]))))
abbrev B30 : CCode := (sR [oY 0 2 false [2]] (.seq (sR [uT 0 5 0,uN 1 6 5,uZ 2 7 0] (.block 0 (.loop L30_0))) (sR [oT 0 31 0 [0],oN 1 32 31 [31],oC 2 33 .leq 32 4 [32],oT 3 2 33 [33]] .ret)))
def C30 : CFn := ⟨34,1,[.t 2],B30⟩
abbrev B31 : CCode := (sR [oY 0 6 false [6]] (sR [oT 0 7 1 [1],uT 1 8 0,oB 2 9 .leq 7 8 [7,8],oT 3 10 9 [9],hT 4 11 0 10 [0],hT 5 12 2 10 [2],hB 6 13 .leq 11 12 10 [11,12],oA 7 14 10 13 [10,13],oT 8 6 14 [14]] .ret))
def C31 : CFn := ⟨15,3,[.t 6],B31⟩
abbrev B32 : CCode := (sR [oY 0 4 false [4]] (sR [oT 0 5 0 [0],oT 1 6 1 [1],oK 2 7 75 [.t 5,.t 6] [5,6],oC 3 8 .geq 7 0 [7],oT 4 4 8 [8]] .ret))
def C32 : CFn := ⟨9,2,[.t 4],B32⟩
abbrev B34 : CCode := (sR [oQ 0 3 1 1 [1],oY 1 4 false [4]] (sR [oT 0 5 0 [0],uP 1 6 (.fn 76 [.t 3]),oK 2 7 32 [.t 5,.t 6] [3,5,6],oE 3 8 7 [7],oT 4 4 8 [8]] .ret))
def C34 : CFn := ⟨9,2,[.t 4],B34⟩
abbrev L36_0 : CCode := (sR [uB 0 11 .lss 10 9] (.seq (sC 11 [1,8,9,10,11] 0) (.seq (.block 1 (sR [uI 0 12 1 8 10,oL 1 13 1 12 [12],oT 2 5 13 [13]] (sR [uT 0 14 5,oK 1 15 31 [.t 14,(.c (.int .i64 0)),(.c (.int .i64 3))]
[14]] (.cond (.t 15) (sK [15] (.reg false [oT 0 16 3 [3],oT 1 17 5 [5],oP 2 18 (.bsl 1 1 [.int .i64 (0)] [(0,1,(.t 17))]) [17],oX 3 19 1 8 16 18 [16,18],oT 4 3 19 [19]])) (sK [5,15] .skip))))) (.reg false [oC 0 20 .add
10 1 [10],oT 1 10 20 [20]]))))
abbrev B36 : CCode := (sR [oQ 0 1 2 0 [0],oV 1 2 [2]] (sR [uW 0 6 1 [.int .i64 (0)],oT 1 3 6 [6]] (.seq (sR [uF 0 7 1 1,oL 1 8 1 7 [7],uN 2 9 8,uZ 3 10 0] (.block 0 (.loop L36_0))) (sR [oT 0 21 3 [3],oK 1 22 78 [.t
21,(.c (.nils))] [21],oT 2 2 22 [22]] .ret))))
def C36 : CFn := ⟨23,1,[.t 2],B36⟩
abbrev L37_0 : CCode := (.seq (sR [uT 0 4 3,uT 1 5 0,oN 2 6 5 [5],oB 3 7 .lss 4 6 [4,6]] (sC 7 [3,7] 0)) (.seq (.block 1 (.seq (.reg true [uT 0 10 0,uT 1 11 3,uI 2 12 3 10 11,oM 3 13 3 12 [12],oK 4 14 79 [.t 13]
[10,11,13],oE 5 15 14 [14],oT 6 16 15 [15],vT 7 17 3 16,gC 8 18 .gtr 17 0 16 [17],gT 9 19 18 16 [18],wT 10 20 0 19,wT 11 21 3 19,hC 12 22 .sub 21 1 19 [21],wI 13 23 3 20 22 19,hF 14 24 0 23 19 [23],hL 15 25 1 24 19
[20,22,24],wT 16 26 0 19,wT 17 27 3 19,wI 18 28 3 26 27 19,hF 19 29 0 28 19 [28],hL 20 30 1 29 19 [26,27,29],hB 21 31 .geq 25 30 19 [25,30],gA 22 32 19 31 16 [19,31],oO 23 33 16 32 [16,32]]) (sD 33 [0,3,33] [uY 0 2
false]))) (sI 8 9 3)))
abbrev B37 : CCode := (sR [oY 0 2 false [2]] (sL 3 0 L37_0 (sR [oT 0 34 0 [0],oN 1 35 34 [34],oC 2 36 .leq 35 4 [35],oT 3 2 36 [36]] .ret)))
def C37 : CFn := ⟨37,1,[.t 2],B37⟩
abbrev B38 : CCode := (sR [oY 0 6 false [6]] (sR [uT 0 7 0,oT 1 8 1 [1],oB 2 9 .geq 7 8 [7,8],oT 3 10 9 [9],hT 4 11 0 10 [0],hT 5 12 2 10 [2],hB 6 13 .leq 11 12 10 [11,12],oA 7 14 10 13 [10,13],oT 8 6 14 [14]] .ret))
def C38 : CFn := ⟨15,3,[.t 6],B38⟩
abbrev L42_0 : CCode := (.seq (sR [uT 0 30 5,uF 1 31 1 3,oL 2 32 1 31 [31],oN 3 33 32 [32],oB 4 34 .lss 30 33 [30,33]] (sC 34 [3,5,34] 0)) (.seq (.block 1 (sR [uF 0 37 1 3,oL 1 38 1 37 [37],uT 2 39 5,oI 3 40 1 38 39
[38],oL 4 41 1 40 [39,40],oK 5 42 38 [.t 41,(.c (.int .i64 0)),(.c (.int .i64 9))] [41],oE 6 43 42 [42]] (sD 43 [3,5,43] [uY 0 4 false]))) (sI 35 36 5)))
abbrev B42 : CCode := (sR [oQ 0 3 2 1 [1],oY 1 4 false [4]] (.seq (.seq (.reg true [uT 0 6 0,oK 1 7 37 [.t 6] [6],oE 2 8 7 [7],oT 3 9 8 [8],vF 4 10 0 3 9,gL 5 11 1 10 9 [10],vT 6 12 0 9,gN 7 13 12 9 [12],gC 8 14 .sub 13
1 9 [13],gK 9 15 38 [.t 11,(.c (.int .i64 0)),.t 14] 9 [11,14],gE 10 16 15 9 [15],oO 11 17 9 16 [9,16],oT 12 18 17 [17],vF 13 19 1 3 18,gL 14 20 1 19 18 [19],gN 15 21 20 18 [20],gT 16 22 0 18 [0],vF 17 23 0 3 18,gL 18
24 1 23 18 [23],vI 19 25 3 22 24 18,gF 20 26 1 25 18 [25],gL 21 27 1 26 18 [22,24,26],gB 22 28 .neq 21 27 18 [21,27],oO 23 29 18 28 [18,28]]) (sD 29 [3,29] [uY 0 4 false])) (sL 5 0 L42_0 (sR [uY 0 4 true] .ret))))
def C42 : CFn := ⟨44,2,[.t 4],B42⟩
abbrev B43 : CCode := (sR [oQ 0 2 2 0 [0],oQ 1 3 2 1 [1],oZ 2 4 0 [4]] (.seq (sR [uF 0 5 0 2,oL 1 6 1 5 [5],uF 2 7 0 3,oL 3 8 1 7 [7],oB 4 9 .lss 6 8 [6,8]] (sD 9 [2,3,9] [uZ 0 4 (-1)])) (.seq (sR [uF 0 10 0 2,oL 1 11 1
10 [10],uF 2 12 0 3,oL 3 13 1 12 [12],oB 4 14 .gtr 11 13 [11,13]] (sD 14 [2,3,14] [uZ 0 4 1])) (sR [uF 0 15 1 2,oL 1 16 1 15 [15],uF 2 17 1 3,oL 3 18 1 17 [17],oK 4 19 81 [.t 16,.t 18] [2,3,16,18],oT 5 4 19 [19]]
.ret))))
def C43 : CFn := ⟨20,2,[.t 4],B43⟩
abbrev L44_0 : CCode := (.seq (sR [uF 0 14 1 6,oL 1 15 1 14 [14],oN 2 16 15 [15],oC 3 17 .gtr 16 7 [16]] (sC 17 [17] 0)) (.block 1 (.reg false [uF 0 18 1 6,oL 1 19 1 18 [18],uF 2 20 1 6,oL 3 21 1 20 [20],oN 4 22 21
[21],oC 5 23 .sub 22 1 [22],oP 6 24 (.sls 2 (.t 19) none (some (.t 23)) none) [19,23],uF 7 25 1 6,oS 8 1 25 24 [24,25]])))
abbrev B44 : CCode := (sR [oP 0 2 (.mv (.c (.nilp))) [2],uH 1 3 [.nils,.nils],uH 2 4 [.int .i64 (0),.nils,.nils]] (sR [oT 0 9 0 [0],oK 1 10 82 [.t 9] [9],oT 2 8 10 [10],uU 3 11 8 0,uU 4 12 8 1,oU 5 13 8 2 [8],uH 6 6
[.nils,.nils],uH 7 7 [.int .i64 (0),.nils,.nils],oT 8 5 11 [11],oS 9 2 6 12 [12],oS 10 3 7 13 [13]] (.seq (.block 0 (.loop L44_0)) (.seq (.reg true [oT 0 26 5 [5],uM 1 27 2 6,uM 2 28 3 7,oT 3 2 26 [26],(4,⟨none,.st 2
(.t 3) (.t 27),none,[(7,3)],[6,27]⟩),oS 5 3 4 28 [7,28]]) .ret))))
def C44 : CFn := ⟨29,1,[.t 2,.m 3 2 true,.m 4 3 true],B44⟩
abbrev B45 : CCode := (sR [oQ 0 4 2 1 [1],oQ 1 5 3 2 [2],oV 2 6 [6]] (sR [uM 0 11 2 4,uM 1 12 3 5,oK 2 13 83 [.t 11,.t 12] [5,11,12],oT 3 10 13 [13],uU 4 14 10 0,oU 5 15 10 1 [10],oT 6 7 14 [14],oT 7 8 15 [8,15]] (.seq
(sR [uT 0 16 7,oN 1 17 16 [16],oC 2 18 .eql 17 0 [17]] (sD 18 [7,18] [uT 0 19 0,uF 1 20 1 4,oL 2 21 1 20 [20],oN 3 22 21 [4,21],oK 4 23 84 [.t 19,.t 22,(.c (.nils))] [19,22],uT 5 24 0,oK 6 25 20 [.t 24,(.c (.int .i64
4))] [24],oC 7 26 .sub 25 1 [25],oP 8 27 (.bld [.nils,.int .i64 (0)] [(0,1,(.t 23)),(1,1,(.t 26))]) [23,26],oP 9 28 (.bsl 2 1 [.nils,.int .i64 (0)] [(0,2,(.t 27))]) [27],oT 10 6 28 [28]])) (sR [uT 0 29 0,uT 1 30 7,oN 2
31 30 [30],oK 3 32 20 [.t 29,.t 31] [29,31],oT 4 9 32 [32]] (.seq (sR [uT 0 33 0,oK 1 34 20 [.t 33,(.c (.int .i64 6))] [33]] (.block 0 (sR [uC 0 36 .eql 34 0,oT 1 35 36 [36]] (.cond (.t 35) (sK [4,34,35] (.reg false [uT
0 37 7,oT 1 38 9 [9],uT 2 39 0,oK 3 40 20 [.t 39,(.c (.int .i64 7))] [39],oC 4 41 .sub 40 1 [40],uI 5 42 2 37 38,oF 6 43 1 42 [42],oS 7 1 43 41 [37,38,41,43]])) (sK [35] (sR [uC 0 45 .eql 34 1,oT 1 44 45 [45]] (.cond
(.t 44) (sK [34,44] (.reg false [uT 0 46 7,oT 1 47 9 [9],uT 2 48 0,uF 3 49 1 4,oL 4 50 1 49 [49],oN 5 51 50 [4,50],oK 6 52 84 [.t 48,.t 51,(.c (.nils))] [48,51],uI 7 53 2 46 47,oF 8 54 0 53 [53],oS 9 1 54 52
[46,47,52,54]])) (sK [4,44] (sR [oC 0 56 .eql 34 2 [34],oT 1 55 56 [56]] (.cond (.t 55) (sK [55] (.reg true [uT 0 57 7,uT 1 58 9,oP 2 59 (.sls 2 (.t 57) none (some (.t 58)) none) [57,58],oT 3 60 7 [7],oT 4 61 9 [9],oC 5
62 .add 61 1 [61],oP 6 63 (.sls 2 (.t 60) (some (.t 62)) none none) [60,62],oX 7 64 2 32 59 63 [59,63],oT 8 7 64 [64]])) (sK [9,55] .skip))))))))))) (sR [oT 0 65 7 [7],oT 1 6 65 [65]] .ret))))))
def C45 : CFn := ⟨66,3,[.t 6],B45⟩
abbrev L46_0 : CCode := (sR [uB 0 10 .lss 9 8] (.seq (sC 10 [7,8,9,10] 0) (.seq (.block 1 (sR [uI 0 11 2 7 9,oM 1 12 2 11 [11],uH 2 5 [.nils,.int .i64 (0)],oS 3 2 5 12 [12]] (.reg true [oT 0 13 3 [3],uW 1 14 1 [.int
.i64 (0)],uF 2 15 0 5,oL 3 16 1 15 [15],uF 5 18 1 5,uL 6 19 1 18,(4,⟨some 17,.app 1 8 (.t 14) (.t 16),none,[(18,1)],[5,14,16,18]⟩),oP 7 20 (.bld [.nils,.int .i64 (0)] [(0,1,(.t 17)),(1,1,(.t 19))]) [17,19],oP 8 21 (.bsl
2 1 [.nils,.int .i64 (0)] [(0,2,(.t 20))]) [20],oX 9 22 2 32 13 21 [13,21],oT 10 3 22 [22]]))) (.reg false [oC 0 23 .add 9 1 [9],oT 1 9 23 [23]]))))
abbrev B46 : CCode := (sR [oV 0 2 [2]] (sR [uW 0 6 2 [.nils,.int .i64 (0)],oT 1 3 6 [6]] (.seq (sR [oT 0 7 0 [0],uN 1 8 7,uZ 2 9 0] (.block 0 (.loop L46_0))) (sR [oT 0 24 3 [3],oT 1 2 24 [24]] .ret))))
def C46 : CFn := ⟨25,1,[.t 2],B46⟩
abbrev B47 : CCode := (sR [oV 0 6 [6]] (sR [uT 0 8 0,uT 1 9 1,uT 2 10 2,uT 3 11 0,oN 4 12 11 [11],oP 5 13 (.slx 2 (.t 8) (some (.t 9)) (some (.t 10)) (some (.t 12))) [8,9,10,12,13]] (.seq (sR [uT 0 14 1,uT 1 15 2,oB 2
16 .eql 14 15 [14,15]] (sD 16 [1,2,16] [uT 0 17 0,oT 1 6 17 [17]])) (sR [uT 0 18 0,oN 1 19 18 [18],oT 2 7 19 [19]] (.seq (.reg true [uT 0 20 0,oT 1 21 1 [1],oP 2 22 (.sls 2 (.t 20) none (some (.t 21)) none) [20,21],oT 3
23 0 [0],oT 4 24 2 [2],oP 5 25 (.sls 2 (.t 23) (some (.t 24)) none none) [23,24],oX 6 26 2 32 22 25 [22,25],oT 7 0 26 [26]]) (sR [uT 0 27 0,uT 1 28 0,oN 2 29 28 [28],oT 3 30 7 [7],oP 4 31 (.slx 2 (.t 27) (some (.t 29))
(some (.t 30)) none) [27,29,30],(5,⟨none,.clr 2 [.nils,.int .i64 (0)] (.t 31),none,[],[31]⟩)] (sR [uT 0 32 0,oT 1 6 32 [32]] .ret)))))))
def C47 : CFn := ⟨33,3,[.t 6],B47⟩
abbrev B48 : CCode := (sR [oV 0 2 [2]] (.seq (sR [uT 0 3 0,oP 1 4 (.isnil false (.t 3)) [3]] (sD 4 [0,4] [uV 0 2])) (sR [uW 0 5 2 [.nils,.int .i64 (0)],oT 1 6 0 [0],oX 2 7 2 32 5 6 [5,6],oT 3 2 7 [7]] .ret)))
def C48 : CFn := ⟨8,1,[.t 2],B48⟩
abbrev L49_0 : CCode := (.seq (sR [uT 0 6 4,uT 1 7 0,oN 2 8 7 [7],oB 3 9 .lss 6 8 [6,8]] (sC 9 [0,4,9] 0)) (.seq (.block 1 (.reg true [oT 0 12 3 [3],uW 1 13 1 [.int .i64 (0)],uT 2 14 0,uT 3 15 4,uI 4 16 2 14 15,oF 5 17
0 16 [16],oL 6 18 1 17 [17],uT 8 20 0,uT 9 21 4,uI 10 22 2 20 21,oF 11 23 1 22 [22],uL 12 24 1 23,(7,⟨some 19,.app 1 8 (.t 13) (.t 18),none,[(23,1)],[13,14,15,18,20,21,23]⟩),oP 13 25 (.bld [.nils,.int .i64 (0)]
[(0,1,(.t 19)),(1,1,(.t 24))]) [19,24],oP 14 26 (.bsl 2 1 [.nils,.int .i64 (0)] [(0,2,(.t 25))]) [25],oX 15 27 2 32 12 26 [12,26],oT 16 3 27 [27]])) (sI 10 11 4)))
abbrev B49 : CCode := (sR [oV 0 2 [2]] (sR [uW 0 5 2 [.nils,.int .i64 (0)],oT 1 3 5 [5]] (sL 4 0 L49_0 (sR [oT 0 28 3 [3],oT 1 2 28 [28]] .ret))))
def C49 : CFn := ⟨29,1,[.t 2],B49⟩
abbrev B50 : CCode := (sR [oQ 0 2 2 0 [0],oQ 1 3 3 1 [1],oY 2 4 false [4]] (sR [uM 0 5 2 2,oK 1 6 24 [.t 5] [5],oT 2 7 6 [6],wF 3 8 0 2 7,hL 4 9 1 8 7 [8],wM 5 10 3 3 7,hK 6 11 85 [.t 9,.t 10] 7 [2,3,9,10],oA 7 12 7 11
[7,11],oT 8 4 12 [12]] .ret))
def C50 : CFn := ⟨13,2,[.t 4],B50⟩
abbrev L51_0 : CCode := (sR [uB 0 14 .lss 13 12] (.seq (sC 14 [11,12,13,14] 0) (.seq (.block 1 (sR [uI 0 15 2 11 13,oM 1 16 2 15 [15],uH 2 7 [.nils,.nils],oS 3 2 7 16 [16]] (sR [uF 0 17 1 7,oL 1 18 1 17 [17],oK 2 19 87
[.t 18] [18,19]] (.reg false [oT 0 20 5 [5],uF 1 21 1 7,oL 2 22 1 21 [21],oP 3 23 (.bsl 1 1 [.nils] [(0,1,(.t 22))]) [7,22],oX 4 24 1 24 20 23 [20,23],oT 5 5 24 [24]])))) (.reg false [oC 0 25 .add 13 1 [13],oT 1 13 25
[25]]))))
abbrev B51 : CCode := (sR [oQ 0 2 2 0 [0],oQ 1 3 3 1 [1],oV 2 4 [4]] (sR [uW 0 8 1 [.nils],oT 1 5 8 [8]] (.seq (sR [uM 0 9 2 2,uM 1 10 3 3,oK 2 11 86 [.t 9,.t 10] [2,3,9,10],uN 3 12 11,uZ 4 13 0] (.block 0 (.loop
L51_0))) (sR [oT 0 26 5 [5],oT 1 4 26 [26]] .ret))))
def C51 : CFn := ⟨27,2,[.t 4],B51⟩
abbrev B52 : CCode := (sR [oQ 0 2 2 0 [0],oY 1 4 false [4]] (sR [uM 0 8 2 2,oT 1 9 1 [1],oK 2 10 88 [.t 8,.t 9] [2,8,9],oT 3 7 10 [10],uU 4 11 7 0,oU 5 12 7 1 [7],uH 6 5 [.nils,.nils],oS 7 2 5 11 [11],oT 8 6 12 [12]]
(sR [oT 0 13 6 [6],oT 1 14 13 [13],wM 2 15 2 5 14,hK 3 16 89 [.t 15] 14 [5,15],oA 4 17 14 16 [14,16],oT 5 4 17 [17]] .ret)))
def C52 : CFn := ⟨18,2,[.t 4],B52⟩
abbrev B53 : CCode := (sR [oQ 0 3 1 1 [1],oY 1 4 false [4]] (sR [oT 0 5 0 [0],uP 1 6 (.fn 91 [.t 3]),oK 2 7 90 [.t 5,.t 6] [3,5,6],oT 3 4 7 [7]] .ret))
def C53 : CFn := ⟨8,2,[.t 4],B53⟩
abbrev L54_0 : CCode := (sR [uB 0 12 .lss 11 10] (.seq (sC 12 [0,1,9,10,11,12] 0) (.seq (.block 1 (sR [uI 0 13 1 9 11,oL 1 14 1 13 [13],oT 2 8 14 [14]] (sR [uT 0 15 1,uT 1 16 8,oK 2 17 77 [.t 15,.t 16] [15,16],oT 3 18
17 [17],vT 4 19 0 18,vT 5 20 1 18,gT 6 21 8 18 [8],gK 7 22 92 [.t 20,.t 21] 18 [20,21],gK 8 23 53 [.t 19,.t 22] 18 [19,22],gE 9 24 23 18 [23],oO 10 25 18 24 [18,24]] (sD 25 [0,1,9,10,11,25] [uY 0 6 false])))) (.reg
false [oC 0 26 .add 11 1 [11],oT 1 11 26 [26]]))))
abbrev B54 : CCode := (sR [oY 0 6 false [6]] (.seq (sR [oT 0 9 2 [2],uN 1 10 9,uZ 2 11 0] (.block 0 (.loop L54_0))) (sR [uY 0 6 true] .ret)))
def C54 : CFn := ⟨27,3,[.t 6],B54⟩
abbrev L55_0 : CCode := (sR [uB 0 10 .lss 9 8] (.seq (sC 10 [7,8,9,10] 0) (.seq (.block 1 (sR [uI 0 11 2 7 9,oM 1 12 2 11 [11],uH 2 5 [.nils,.int .i64 (0)],oS 3 2 5 12 [12]] (.reg false [oT 0 13 3 [3],uF 1 14 0 5,oL 2
15 1 14 [14],oP 3 16 (.bsl 1 1 [.nils] [(0,1,(.t 15))]) [5,15],oX 4 17 1 24 13 16 [13,16],oT 5 3 17 [17]]))) (.reg false [oC 0 18 .add 9 1 [9],oT 1 9 18 [18]]))))
abbrev B55 : CCode := (sR [oV 0 2 [2]] (sR [uW 0 6 1 [.nils],oT 1 3 6 [6]] (.seq (sR [oT 0 7 0 [0],uN 1 8 7,uZ 2 9 0] (.block 0 (.loop L55_0))) (sR [oT 0 19 3 [3],oT 1 2 19 [19]] .ret))))
def C55 : CFn := ⟨20,1,[.t 2],B55⟩
abbrev B56 : CCode := (sR [oQ 0 2 2 0 [0],oQ 1 3 3 1 [1],oY 2 4 false [4]] (sR [uM 0 5 2 2,oK 1 6 11 [.t 5] [5],oT 2 7 6 [6],wF 3 8 0 2 7,hL 4 9 1 8 7 [8],wM 5 10 3 3 7,hK 6 11 93 [.t 9,.t 10] 7 [2,3,9,10],oA 7 12 7 11
[7,11],oT 8 4 12 [12]] .ret))
def C56 : CFn := ⟨13,2,[.t 4],B56⟩
abbrev L57_0 : CCode := (.seq (sR [uT 0 13 7,uT 1 14 6,oN 2 15 14 [14],oB 3 16 .lss 13 15 [13,15]] (sC 16 [2,6,7,16] 0)) (.seq (.block 1 (sR [uT 0 19 6,uT 1 20 7,uI 2 21 2 19 20,oF 3 22 1 21 [21],oL 4 23 1 22 [22],oK 5
24 95 [.t 23] [19,20,23],oT 6 8 24 [24]] (sR [uM 0 25 2 2,uT 1 26 8,oK 2 27 96 [.t 25,.t 26] [25,26]] (.cond (.t 27) (sK [27] (.reg false [oT 0 28 5 [5],oT 1 29 8 [8],oP 2 30 (.bsl 1 1 [.nils] [(0,1,(.t 29))]) [29],oX 3
31 1 24 28 30 [28,30],oT 4 5 31 [31]])) (sK [8,27] .skip))))) (sI 17 18 7)))
abbrev B57 : CCode := (sR [oQ 0 2 2 0 [0],oQ 1 3 3 1 [1],oV 2 4 [4]] (sR [uW 0 9 1 [.nils],oT 1 5 9 [9]] (sR [uM 0 10 2 2,uM 1 11 3 3,oK 2 12 94 [.t 10,.t 11] [3,10,11],oT 3 6 12 [12]] (sL 7 0 L57_0 (sR [oT 0 32 5
[5],oT 1 4 32 [32]] .ret)))))
def C57 : CFn := ⟨33,2,[.t 4],B57⟩
abbrev L58_0 : CCode := (.seq (sR [uT 0 7 4,uF 1 8 1 1,oL 2 9 1 8 [8],oN 3 10 9 [9],oB 4 11 .lss 7 10 [7,10],oT 5 12 11 [11],wM 6 13 2 1 12,hK 7 14 11 [.t 13] 12 [13],oA 8 15 12 14 [12,14]] (sC 15 [1,4,15] 0)) (.seq
(.block 1 (sR [uM 0 18 2 1,uT 1 19 4,oK 2 20 97 [.t 18,.t 19] [18,19],oT 3 5 20 [20]] (sR [uT 0 21 5,uP 1 22 (.ia 1 (.t 21) (.c (.int .i64 0))),oL 2 23 1 22 [21,22],uT 3 24 4,oB 4 25 .eql 23 24 [23,24]] (.cond (.t 25)
(sK [25] (.reg false [oT 0 26 3 [3],oT 1 27 5 [5],oP 2 28 (.bsl 1 1 [.nils] [(0,1,(.t 27))]) [27],oX 3 29 1 24 26 28 [26,28],oT 4 3 29 [29]])) (sK [5,25] .skip))))) (sI 16 17 4)))
abbrev B58 : CCode := (sR [oQ 0 1 2 0 [0],oV 1 2 [2]] (sR [uW 0 6 1 [.nils],oT 1 3 6 [6]] (sL 4 0 L58_0 (sR [oT 0 30 3 [3],oT 1 2 30 [30]] .ret))))
def C58 : CFn := ⟨31,1,[.t 2],B58⟩
abbrev L59_0 : CCode := (.seq (sR [uT 0 53 14,uT 1 54 4,oB 2 55 .lss 53 54 [53,54]] (sC 55 [3,4,14,55] 0)) (.seq (.block 1 (.reg false [oT 0 58 13 [13],uT 1 59 3,uT 2 60 14,uI 3 61 2 59 60,oF 4 62 0 61 [61],oL 5 63 1 62
[62],oP 6 64 (.bsl 1 1 [.nils] [(0,1,(.t 63))]) [59,60,63],oX 7 65 1 24 58 64 [58,64],oT 8 13 65 [65]])) (sI 56 57 14)))
abbrev L59_1 : CCode := (.seq (sR [uT 0 66 15,uT 1 67 12,oN 2 68 67 [67],oB 3 69 .lss 66 68 [66,68]] (sC 69 [11,12,13,15,16,17,44,49,69] 2)) (.seq (.block 3 (.seq (.reg true [uT 0 72 11,uT 1 73 12,uT 2 74 15,uI 3 75 1
73 74,oL 4 76 1 75 [73,74,75],oK 5 77 80 [.t 72,.t 76] [72,76],oT 6 78 77 [77],vT 7 79 13 78,vW 8 80 1 [.int .i64 (0)] 78,vT 9 81 11 78,vT 11 83 12 78,vT 12 84 15 78,vI 13 85 1 83 84 78,vL 14 86 1 85 78,gG 15 87 (.bsl 1
1 [.int .i64 (0)] [(0,1,(.t 86))]) 78 [86],(10,⟨some 82,.app 1 8 (.t 80) (.t 81),some (78,false),[(85,1)],[80,81,83,84,85]⟩),gX 16 88 1 8 82 87 78 [82,87],gK 17 89 98 [.t 79,.t 88] 78 [79,88],gE 18 90 89 78 [89],oO 19
91 78 90 [78,90]]) (sD 91 [11,12,13,15,16,17,44,49,91] [uY 0 10 false]))) (sI 70 71 15)))
abbrev B59 : CCode := (sR [oQ 0 5 2 0 [0],oY 1 10 false [10]] (sR [uT 0 16 3,uT 1 17 4,uI 2 18 2 16 17,oF 3 19 0 18 [18],oL 4 20 1 19 [19],oT 5 11 20 [20]] (.seq (sR [uM 0 21 2 5,uT 1 22 11,oK 2 23 96 [.t 21,.t 22]
[5,21,22],oE 3 24 23 [23]] (sD 24 [1,2,3,4,11,16,17,24] [uY 0 10 false])) (.seq (sR [uT 0 25 3,uT 1 26 4,uI 2 27 2 25 26,oF 3 28 1 27 [27],oL 4 29 1 28 [25,26,28],oC 5 30 .eql 29 (-1) [29]] (.cond (.t 30) (sK [2,3,4,30]
(sR [oT 0 31 1 [1],oT 1 32 11 [11],oK 2 33 98 [.t 31,.t 32] [16,17,31,32],oT 3 10 33 [33]] .ret)) (sK [1,30] .skip))) (.seq (sR [uT 0 34 3,uT 1 35 4,uI 2 36 2 34 35,oF 3 37 1 36 [36],oL 4 38 1 37 [34,35,37],uT 5 39 2,oN
6 40 39 [39],oC 7 41 .sub 40 1 [40],oK 8 42 38 [.t 38,(.c (.int .i64 0)),.t 41] [38,41],oE 9 43 42 [42]] (sD 43 [2,3,4,11,16,17,43] [uY 0 10 false])) (sR [oT 0 44 2 [2],uT 1 45 3,uT 2 46 4,uI 3 47 2 45 46,oF 4 48 1 47
[47],oL 5 49 1 48 [45,46,48],uI 6 50 1 44 49,oL 7 51 1 50 [50],oT 8 12 51 [51]] (sR [uW 0 52 1 [.nils],oT 1 13 52 [52]] (sL 14 0 L59_0 (sL 15 2 L59_1 (sR [uY 0 10 true] .ret))))))))))
def C59 : CFn := ⟨92,5,[.t 10],B59⟩
abbrev L60_0 : CCode := (.seq (sR [uT 0 15 5,oC 1 16 .gtr 15 0 [15]] (sC 16 [4,5,16] 0)) (.seq (.block 1 (.reg true [uM 0 20 2 3,uT 1 21 0,uF 2 22 0 3,oL 3 23 1 22 [22],uT 4 24 4,(5,⟨some 25,.call 100 [.t 21,.t 23,.t
24],none,[(3,2)],[21,23,24]⟩),oK 6 26 99 [.t 20,.t 25] [20,25],oT 7 19 26 [26],uU 8 27 19 0,oU 9 28 19 1 [19,28],oS 10 2 3 27 [27]])) (.reg false [oT 0 17 5 [5],oC 1 18 .sub 17 1 [17],oT 2 5 18 [18]])))
abbrev B60 : CCode := (sR [uH 0 2 [.nils,.nils]] (sR [uT 0 6 0,oK 1 7 23 [.t 6] [6],oP 2 8 (.bld [.nils,.nils] [(0,1,(.t 7))]) [7],uH 3 3 [.nils,.nils],oS 4 2 3 8 [8]] (sR [uT 0 9 0,uP 1 10 (.bsl 1 4 [.int .i64 (0)]
[(0,1,(.c (.int .i64 2))),(1,1,(.c (.int .i64 2))),(2,1,(.c (.int .i64 3))),(3,1,(.c (.int .i64 3)))]),oK 2 11 67 [.t 9,.t 10] [9,10],oT 3 4 11 [11]] (.seq (sR [uT 0 12 0,oK 1 13 20 [.t 12,(.c (.int .i64 11))] [12],oP 2
14 (.bin .add (.c (.int .i64 2)) (.t 13)) [13],oT 3 5 14 [14]] (.block 0 (.loop L60_0))) (sR [uM 0 29 2 3,oS 1 2 2 29 [3,29]] .ret)))))
def C60 : CFn := ⟨30,1,[.m 2 2 true],B60⟩
abbrev B63 : CCode := (sR [oZ 0 2 0 [2]] (sR [uT 0 4 0,uT 1 5 0,uP 2 6 (.nc (.t 5)),oF 3 7 2 6 [6],oL 4 8 1 7 [5,7],oC 5 9 .mul 8 6364136223846793005 [8],oC 6 10 .add 9 1442695040888963407 [9],uP 7 11 (.nc (.t 4)),oF 8
12 2 11 [11],oS 9 1 12 10 [4,10,12]] (.seq (.reg true [uT 0 13 0,uP 1 14 (.nc (.t 13)),oF 2 15 2 14 [14],oL 3 16 1 15 [13,15],oP 4 17 (.bin .shr (.t 16) (.c (.int .u64 (33)))) [16],uT 5 18 0,uP 6 19 (.nc (.t 18)),oF 7
20 2 19 [19],oL 8 21 1 20 [18,20],oP 9 22 (.bin .shr (.t 21) (.c (.int .u64 (45)))) [21],oB 10 23 .xor 17 22 [17,22],oC 11 24 .and 23 255 [23],oT 12 3 24 [24]]) (.seq (.seq (.reg true [uT 0 25 0,uP 1 26 (.nc (.t 25)),oF
2 27 1 26 [26],oL 3 28 1 27 [25,27],uT 4 29 0,uP 5 30 (.nc (.t 29)),oF 6 31 0 30 [30],oL 7 32 1 31 [31],oN 8 33 32 [29,32],oB 9 34 .lss 28 33 [28,33]]) (.cond (.t 34) (sK [34] (.seq (.reg true [oT 0 35 3 [3],uT 1 36
0,uP 2 37 (.nc (.t 36)),oF 3 38 0 37 [37],oL 4 39 1 38 [38],uT 5 40 0,uP 6 41 (.nc (.t 40)),oF 7 42 1 41 [41],oL 8 43 1 42 [40,42],oI 9 44 1 39 43 [39],oL 10 45 1 44 [36,43,44],oP 11 46 (.conv .i64 (.t 45)) [45],oB 12
47 .add 35 46 [35,46],oC 13 48 .and 47 255 [47],oT 14 3 48 [48]]) (.reg false [uT 0 49 0,uT 1 50 0,uP 2 51 (.nc (.t 50)),oF 3 52 1 51 [51],oL 4 53 1 52 [50,52],oC 5 54 .add 53 1 [53],uP 6 55 (.nc (.t 49)),oF 7 56 1 55
[55],oS 8 1 56 54 [49,54,56]]))) (sK [34] .skip))) (sR [oT 0 57 3 [3],oT 1 2 57 [57]] .ret)))))
def C63 : CFn := ⟨58,1,[.t 2],B63⟩
abbrev L64_0 : CCode := (.seq (sR [uT 0 16 6,uF 1 17 0 5,oL 2 18 1 17 [17],oB 3 19 .lss 16 18 [16,18]] (sC 19 [6,19] 0)) (.seq (.block 1 (sR [uT 0 22 0,oK 1 23 21 [.t 22,(.c (.int .i64 3))] [22]] (.cond (.t 23) (sK [23]
(.reg false [uF 0 24 2 5,oL 1 25 1 24 [24],uT 2 26 6,oP 3 27 (.bsl 1 1 [.int .i64 (0)] [(0,1,(.t 26))]) [26],oX 4 28 1 8 25 27 [25,27],uF 5 29 2 5,oS 6 1 29 28 [28,29]])) (sK [23] .skip)))) (sI 20 21 6)))
abbrev B64 : CCode := (sR [uH 0 4 [.int .i64 (0),.nils,.nils]] (sR [uT 0 7 0,oK 1 8 102 [.t 7] [7],uH 2 5 [.int .i64 (0),.nils,.nils],oS 3 3 5 8 [8]] (.seq (sR [uT 0 9 0,oK 1 10 21 [.t 9,(.c (.int .i64 3))] [9]] (.cond
(.t 10) (sK [10] (.reg false [uT 0 11 0,oT 1 12 1 [1],oK 2 13 103 [.t 11,.t 12] [11,12],oS 3 3 5 13 [13]])) (sK [1,10] .skip))) (.seq (sR [uT 0 14 0,oK 1 15 21 [.t 14,(.c (.int .i64 4))] [14]] (.cond (.t 15) (sK [15]
(sR [uZ 0 6 0] (.block 0 (.loop L64_0)))) (sK [15] .skip))) (sR [uM 0 30 3 5,oS 1 3 4 30 [5,30]] .ret)))))
def C64 : CFn := ⟨31,2,[.m 4 3 true],B64⟩
abbrev L66_0 : CCode := (.seq (sR [uT 0 24 8,uT 1 25 6,uP 2 26 (.ia 1 (.t 25) (.c (.int .i64 0))),oL 3 27 1 26 [25,26],oP 4 28 (.lens (.t 27)) [27],oB 5 29 .lss 24 28 [24,28]] (sC 29 [8,29] 0)) (.seq (.block 1 (sR [uT 0
33 6,uP 1 34 (.ia 1 (.t 33) (.c (.int .i64 0))),oL 2 35 1 34 [33,34],uT 3 36 8,uT 4 37 8,oC 5 38 .add 37 1 [37],oP 6 39 (.sst (.t 35) (some (.t 36)) (some (.t 38))) [35,36,38],oK 7 40 109 [.t 39] [39],oT 8 32 40 [40],uU
9 41 32 0,oU 10 42 32 1 [32],oT 11 9 41 [41],oT 12 10 42 [10,42]] (.reg false [uF 0 43 2 7,oL 1 44 1 43 [43],oT 2 45 9 [9],oP 3 46 (.bsl 1 1 [.int .i64 (0)] [(0,1,(.t 45))]) [45],oX 4 47 1 8 44 46 [44,46],uF 5 48 2 7,oS
6 1 48 47 [47,48]]))) (sI 30 31 8)))
abbrev L66_2 : CCode := (.seq (sR [uT 0 60 14,uT 1 61 11,uT 2 62 12,uI 3 63 1 61 62,oL 4 64 1 63 [61,62,63],oP 5 65 (.lens (.t 64)) [64],oB 6 66 .lss 60 65 [60,65]] (sC 66 [14,66] 4)) (.seq (.block 5 (.seq (sR [uT 0 69
14,oC 1 70 .eql 69 0 [69]] (.cond (.t 70) (sK [70] (sR [uT 0 71 0,uT 1 72 11,uT 2 73 12,uI 3 74 1 72 73,oL 4 75 1 74 [72,73,74],oP 5 76 (.sst (.t 75) none (some (.c (.int .i64 1)))) [75],oK 6 77 110 [.t 71,.t 76]
[71,76],uF 7 78 0 13,oS 8 1 78 77 [77,78]] (.exit 5))) (sK [70] .skip))) (.seq (sR [uT 0 79 11,uT 1 80 12,uI 2 81 1 79 80,oL 3 82 1 81 [79,80,81],uT 4 83 14,oP 5 84 (.ix (.t 82) (.t 83)) [82,83],oP 6 85 (.bin .eql (.t
84) (.c (.int .u8 (124)))) [84]] (.cond (.t 85) (sK [85] (.exit 5)) (sK [85] .skip))) (sR [uT 0 87 11,uT 1 88 12,uI 2 89 1 87 88,oL 3 90 1 89 [87,88,89],uT 4 91 14,uT 5 92 14,oC 6 93 .add 92 1 [92],oP 7 94 (.sst (.t 90)
(some (.t 91)) (some (.t 93))) [90,91,93],oK 8 95 109 [.t 94] [94],oT 9 86 95 [95],uU 10 96 86 0,oU 11 97 86 1 [86],oT 12 15 96 [96],oT 13 16 97 [16,97]] (sR [uF 0 98 1 13,oL 1 99 1 98 [98],uT 2 100 15,oP 3 101 (.bsl 1
1 [.int .i64 (0)] [(0,1,(.t 100))]) [100],oX 4 102 1 8 99 101 [99,101],uF 5 103 1 13,oS 6 1 103 102 [102,103]] (.reg false [uF 0 104 0 7,oL 1 105 1 104 [104],oT 2 106 15 [15],oC 3 107 .add 106 1 [106],oP 4 108 (.max (.t
105) (.t 107)) [105,107],uF 5 109 0 7,oS 6 1 109 108 [108,109]])))))) (sI 67 68 14)))
abbrev L66_1 : CCode := (.seq (sR [uT 0 53 12,uT 1 54 11,oN 2 55 54 [54],oB 3 56 .lss 53 55 [53,55]] (sC 56 [11,12,56] 2)) (.seq (.block 3 (sR [uP 0 59 (.bld [.int .i64 (0),.nils] []),uH 1 13 [.int .i64 (0),.nils],oS 2
2 13 59 [59]] (sL 14 4 L66_2 (.reg false [uF 0 110 1 7,oL 1 111 1 110 [110],uM 2 112 2 13,oP 3 113 (.bsl 2 1 [.int .i64 (0),.nils] [(0,2,(.t 112))]) [13,112],oX 4 114 2 32 111 113 [111,113],uF 5 115 1 7,oS 6 1 115 114
[114,115]])))) (sI 57 58 12)))
abbrev B66 : CCode := (sR [uH 0 4 [.int .i64 (0),.nils,.nils],oY 1 5 false [5]] (sR [uT 0 17 1,oK 1 18 108 [.t 17,(.c (.int .u8 (63)))] [17],oT 2 6 18 [18]] (.seq (sR [uT 0 19 6,oN 1 20 19 [19],oC 2 21 .neq 20 2 [20]]
(sD 21 [0,1,6,21] [uP 0 22 (.bld [.int .i64 (0),.nils,.nils] []),oS 1 3 4 22 [22],uY 2 5 false])) (sR [uP 0 23 (.bld [.int .i64 (0),.nils,.nils] []),uH 1 7 [.int .i64 (0),.nils,.nils],oS 2 3 7 23 [23]] (sL 8 0 L66_0 (sR
[oT 0 49 6 [6],uP 1 50 (.ia 1 (.t 49) (.c (.int .i64 1))),oL 2 51 1 50 [49,50],oK 3 52 108 [.t 51,(.c (.int .u8 (32)))] [51],oT 4 11 52 [52]] (sL 12 2 L66_1 (.seq (sR [oT 0 116 0 [0],uM 1 117 3 7,oK 2 118 111 [.t 116,.t
117] [116,117],oT 3 119 1 [1],oB 4 120 .neq 118 119 [118,119]] (sD 120 [7,120] [uP 0 121 (.bld [.int .i64 (0),.nils,.nils] []),oS 1 3 4 121 [121],uY 2 5 false])) (sR [uM 0 122 3 7,oS 1 3 4 122 [7,122],uY 2 5 true]
.ret)))))))))
def C66 : CFn := ⟨123,2,[.m 4 3 true,.t 5],B66⟩
abbrev B67 : CCode := (sR [oZ 0 4 0 [4]] (sR [uT 0 5 1,uT 1 6 0,uT 2 7 1,oN 3 8 7 [7],oK 4 9 20 [.t 6,.t 8] [6,8],uI 5 10 1 5 9,oL 6 11 1 10 [5,9,10],oT 7 4 11 [11]] .ret))
def C67 : CFn := ⟨12,2,[.t 4],B67⟩
abbrev B68 : CCode := (sR [oQ 0 3 2 1 [1],oY 1 4 false [4]] (.seq (.reg true [uF 0 5 0 3,oL 1 6 1 5 [5],uT 2 7 0,oN 3 8 7 [7],oC 4 9 .sub 8 1 [8],oK 5 10 31 [.t 6,(.c (.int .i64 0)),.t 9] [6,9],oT 6 11 10 [10],wF 7 12 1
3 11,hL 8 13 1 12 11 [12],hN 9 14 13 11 [13],hT 10 15 0 11 [0],wF 11 16 0 3 11,hL 12 17 1 16 11 [16],wI 13 18 3 15 17 11,hF 14 19 1 18 11 [18],hL 15 20 1 19 11 [15,17,19],hB 16 21 .eql 14 20 11 [14,20],oA 17 22 11 21
[11,21],oT 18 23 22 [22],wF 19 24 1 3 23,hL 20 25 1 24 23 [24],hK 21 26 112 [.t 25] 23 [3,25],oA 22 27 23 26 [23,26],oT 23 4 27 [27]]) .ret))
def C68 : CFn := ⟨28,2,[.t 4],B68⟩
abbrev B69 : CCode := (sR [oQ 0 2 2 0 [0],oQ 1 3 2 1 [1],oZ 2 4 0 [4]] (.seq (sR [uF 0 5 0 2,oL 1 6 1 5 [5],uF 2 7 0 3,oL 3 8 1 7 [7],oB 4 9 .neq 6 8 [6,8]] (sD 9 [9] [uF 0 10 0 2,oL 1 11 1 10 [2,10],uF 2 12 0 3,oL 3 13
1 12 [3,12],oK 4 14 113 [.t 11,.t 13] [11,13],oT 5 4 14 [14]])) (sR [uF 0 15 1 2,oL 1 16 1 15 [15],uF 2 17 1 3,oL 3 18 1 17 [17],oK 4 19 114 [.t 16,.t 18] [2,3,16,18],oT 5 4 19 [19]] .ret)))
def C69 : CFn := ⟨20,2,[.t 4],B69⟩
abbrev L70_0 : CCode := (.seq (sR [uT 0 34 8,uT 1 35 7,oN 2 36 35 [35],oB 3 37 .lss 34 36 [34,36]] (sC 37 [8,37] 0)) (.block 1 (.reg true [uT 0 38 8,uT 1 39 7,uT 2 40 8,oP 3 41 (.sls 1 (.t 39) (some (.t 40)) none none)
[39,40],uT 4 42 7,oT 5 43 8 [8],oP 6 44 (.sls 1 (.t 42) none (some (.t 43)) none) [42,43],oP 7 45 (.cpy 1 (.t 41) (.t 44)) [41,44],oB 8 46 .add 38 45 [38,45],oT 9 8 46 [46]])))
abbrev B70 : CCode := (sR [oV 0 4 [4]] (.seq (sR [uT 0 9 1,oC 1 10 .lss 9 0 [9]] (.cond (.t 10) (sK [10] (.reg false [oP 0 11 .fail [11],(1,⟨none,.fail,none,[],[]⟩)])) (sK [10] .skip))) (sR [uT 0 13 0,oN 1 14 13 [13],oP
2 15 (.conv .u64 (.t 14)) [14],oT 3 16 1 [1],oP 4 17 (.conv .u64 (.t 16)) [16],oK 5 18 115 [.t 15,.t 17] [15,17],oT 6 12 18 [18],uU 7 19 12 0,oU 8 20 12 1 [12],oT 9 5 19 [19],oT 10 6 20 [20]] (.seq (sR [oT 0 21 5 [5],oP
1 22 (.bin .gtr (.t 21) (.c (.int .u64 (0)))) [21],oT 2 23 22 [22],vT 3 24 6 23,gG 4 25 (.bin .gtr (.t 24) (.c (.int .u64 (9223372036854775807)))) 23 [24],oO 5 26 23 25 [23,25]] (.cond (.t 26) (sK [26] (.reg false [oP 0
27 .fail [27],(1,⟨none,.fail,none,[],[]⟩)])) (sK [26] .skip))) (sR [oT 0 28 6 [6],oP 1 29 (.conv .i64 (.t 28)) [28],oP 2 30 (.mk 1 8 [.int .i64 (0)] (.t 29) (.t 29)) [29],oT 3 7 30 [30]] (sR [uT 0 31 7,oT 1 32 0 [0],oP
2 33 (.cpy 1 (.t 31) (.t 32)) [31,32],oT 3 8 33 [33]] (.seq (.block 0 (.loop L70_0)) (sR [oT 0 47 7 [7],oT 1 4 47 [47]] .ret))))))))
def C70 : CFn := ⟨48,2,[.t 4],B70⟩
abbrev L71_0 : CCode := (sR [uB 0 16 .lss 15 14] (.seq (sC 16 [2,13,14,15,16] 0) (.seq (.block 1 (sR [uT 0 17 15,uI 1 18 1 13 15,oL 2 19 1 18 [18],oT 3 9 17 [17],oT 4 10 19 [19]] (.block 2 (sR [uT 0 21 10,oK 1 22 117
[.t 21] [21],oE 2 23 22 [22],oT 3 20 23 [23]] (.cond (.t 20) (sK [20] (.seq (.reg true [oT 0 24 10 [10],uT 2 26 2,oT 3 27 9 [9],uI 4 28 1 26 27,uL 5 29 1 28,(1,⟨some 25,.call 118 [.t 24],none,[(28,1)],[24,26,27,28]⟩),oB
6 30 .neq 25 29 [25,29]]) (sD 30 [2,8,13,14,15,30] [uV 0 6,uY 1 7 false]))) (sK [20] (sR [uT 0 32 8,uT 1 33 10,uI 2 34 1 32 33,oL 3 35 1 34 [32,33,34],oC 4 36 .lss 35 0 [35],oT 5 31 36 [36]] (.cond (.t 31) (sK [31]
(.reg false [uT 0 37 8,oT 1 38 10 [10],uT 2 39 2,oT 3 40 9 [9],uI 4 41 1 39 40,oL 5 42 1 41 [39,40,41],uI 6 43 1 37 38,oS 7 1 43 42 [37,38,42,43]])) (sK [31] (.seq (.reg true [uT 0 45 8,oT 1 46 10 [10],uI 2 47 1 45
46,oL 3 48 1 47 [45,46,47],uT 4 49 2,oT 5 50 9 [9],uI 6 51 1 49 50,oL 7 52 1 51 [49,50,51],oB 8 53 .neq 48 52 [48,52],oT 9 44 53 [53]]) (sD 44 [2,8,13,14,15,44] [uV 0 6,uY 1 7 false]))))))))))) (.reg false [oC 0 54 .add
15 1 [15],oT 1 15 54 [54]]))))
abbrev B71 : CCode := (sR [oV 0 6 [6],oY 1 7 false [7]] (sR [oT 0 11 0 [0],oK 1 12 116 [.t 11] [11],oT 2 8 12 [12]] (.seq (sR [oT 0 13 1 [1],uN 1 14 13,uZ 2 15 0] (.block 0 (.loop L71_0))) (sR [oT 0 55 8 [8],oT 1 6 55
[55],uY 2 7 true] .ret))))
def C71 : CFn := ⟨56,3,[.t 6,.t 7],B71⟩
abbrev B72 : CCode := (sR [oQ 0 4 2 1 [1],oQ 1 5 2 2 [2],oY 2 6 false [6]] (.seq (sR [uF 0 8 0 4,oL 1 9 1 8 [8],uF 2 10 0 5,oL 3 11 1 10 [10],oB 4 12 .neq 9 11 [9,11]] (sD 12 [0,4,5,12] [uY 0 6 false])) (sR [oT 0 13 0
[0],uF 1 14 0 4,oL 2 15 1 14 [14],uI 3 16 3 13 15,oF 4 17 2 16 [16],oL 5 18 1 17 [13,15,17],oT 6 7 18 [18]] (.seq (.reg true [uF 0 19 1 4,oL 1 20 1 19 [19],uT 2 21 7,oP 3 22 (.sls 1 (.t 20) none (some (.t 21)) none)
[4,20,21],uF 4 23 1 5,oL 5 24 1 23 [23],oT 6 25 7 [7],oP 7 26 (.sls 1 (.t 24) none (some (.t 25)) none) [5,24,25],oK 8 27 119 [.t 22,.t 26] [22,26],oT 9 6 27 [27]]) .ret))))
def C72 : CFn := ⟨28,3,[.t 6],B72⟩
abbrev L73_0 : CCode := (.seq (sR [uT 0 29 9,uF 1 30 1 3,oL 2 31 1 30 [30],oN 3 32 31 [31],oB 4 33 .lss 29 32 [29,32]] (sC 33 [3,4,9,33] 0)) (.seq (.block 1 (sR [uF 0 36 1 3,oL 1 37 1 36 [36],uT 2 38 9,oI 3 39 1 37 38
[37],oL 4 40 1 39 [38,39],oT 5 10 40 [40]] (.seq (sR [uT 0 41 10,oC 1 42 .lss 41 0 [41]] (.cond (.t 42) (sK [42] (.seq (sR [oT 0 43 10 [10],oP 1 44 (.bin .sub (.c (.int .i64 (-1))) (.t 43)) [43],uF 2 45 1 4,oL 3 46 1 45
[45],uT 4 47 9,oI 5 48 1 46 47 [46],oL 6 49 1 48 [47,48],oB 7 50 .neq 44 49 [44,49]] (sD 50 [3,4,9,50] [oT 0 51 8 [8],oT 1 6 51 [51],uY 2 7 false])) (.exit 1))) (sK [42] .skip))) (.seq (.seq (.reg true [uT 0 52 8,uT 1
53 10,uI 2 54 1 52 53,oL 3 55 1 54 [52,53,54],oC 4 56 .geq 55 0 [55],oT 5 57 56 [56],wT 6 58 8 57,wT 7 59 10 57,wI 8 60 1 58 59 57,hL 9 61 1 60 57 [58,59,60],wF 10 62 1 4 57,hL 11 63 1 62 57 [62],wT 12 64 9 57,hI 13 65
1 63 64 57 [63],hL 14 66 1 65 57 [64,65],hB 15 67 .neq 61 66 57 [61,66],oA 16 68 57 67 [57,67]]) (sD 68 [3,4,9,10,68] [oT 0 69 8 [8],oT 1 6 69 [69],uY 2 7 false])) (.reg false [uT 0 70 8,oT 1 71 10 [10],uF 2 72 1 4,oL 3
73 1 72 [72],uT 4 74 9,oI 5 75 1 73 74 [73],oL 6 76 1 75 [74,75],uI 7 77 1 70 71,oS 8 1 77 76 [70,71,76,77]]))))) (sI 34 35 9)))
abbrev B73 : CCode := (sR [oQ 0 3 2 0 [0],oQ 1 4 2 1 [1],oV 2 6 [6],oY 3 7 false [7]] (sR [uW 0 11 1 [.int .i64 (0)],oT 1 12 2 [2],oX 2 13 1 8 11 12 [11,12],oT 3 8 13 [13]] (.seq (sR [uF 0 14 0 4,oL 1 15 1 14 [14],uF 2
16 0 3,oL 3 17 1 16 [16],oB 4 18 .neq 15 17 [15,17],oT 5 19 18 [18],vF 6 20 1 4 19,gL 7 21 1 20 19 [20],gN 8 22 21 19 [21],vF 9 23 1 3 19,gL 10 24 1 23 19 [23],gN 11 25 24 19 [24],gB 12 26 .neq 22 25 19 [22,25],oO 13 27
19 26 [19,26]] (sD 27 [3,4,27] [oT 0 28 8 [8],oT 1 6 28 [28],uY 2 7 false])) (sL 9 0 L73_0 (sR [oT 0 78 8 [8],oT 1 6 78 [78],uY 2 7 true] .ret)))))
def C73 : CFn := ⟨79,3,[.t 6,.t 7],B73⟩
abbrev B74 : CCode := (sR [oQ 0 1 3 0 [0],oY 1 2 false [2]] (sR [uF 0 3 0 1,oL 1 4 1 3 [3],oP 2 5 (.lens (.t 4)) [4],oC 3 6 .eql 5 1 [5],oT 4 7 6 [6],wF 5 8 0 1 7,hL 6 9 1 8 7 [8],hG 7 10 (.ix (.t 9) (.c (.int .i64 0)))
7 [9],hG 8 11 (.bin .geq (.t 10) (.c (.int .u8 (97)))) 7 [10],oA 9 12 7 11 [7,11],oT 10 13 12 [12],wF 11 14 0 1 13,hL 12 15 1 14 13 [14],hG 13 16 (.ix (.t 15) (.c (.int .i64 0))) 13 [15],hG 14 17 (.bin .leq (.t 16) (.c
(.int .u8 (122)))) 13 [16],oA 15 18 13 17 [13,17],oT 16 19 18 [18],wF 17 20 1 1 19,hL 18 21 1 20 19 [20],hK 19 22 31 [.t 21,(.c (.int .i64 1)),(.c (.int .i64 3))] 19 [21],oA 20 23 19 22 [19,22],oT 21 24 23 [23],wF 22 25
2 1 24,hL 23 26 1 25 24 [25],wF 24 27 1 1 24,hL 25 28 1 27 24 [1,27],hK 26 29 31 [.t 26,(.c (.int .i64 0)),.t 28] 24 [26,28],oA 27 30 24 29 [24,29],oT 28 2 30 [30]] .ret))
def C74 : CFn := ⟨31,1,[.t 2],B74⟩
abbrev L75_0 : CCode := (sR [uB 0 9 .lss 8 7] (.seq (sC 9 [0,1,7,8,9] 0) (.seq (.block 1 (sR [uT 0 10 8,oT 1 5 10 [10]] (sR [uT 0 11 1,uT 1 12 0,uT 2 13 5,uI 3 14 1 12 13,oL 4 15 1 14 [12,13,14],oP 5 16 (.callv (.t 11)
[.t 15]) [11,15]] (.cond (.t 16) (sK [0,1,7,8,16] (sR [oT 0 17 5 [5],oT 1 4 17 [17]] .ret)) (sK [5,16] .skip))))) (.reg false [oC 0 18 .add 8 1 [8],oT 1 8 18 [18]]))))
abbrev B75 : CCode := (sR [oZ 0 4 0 [4]] (.seq (sR [uT 0 6 0,oN 1 7 6 [6],uZ 2 8 0] (.block 0 (.loop L75_0))) (sR [uZ 0 4 (-1)] .ret)))
def C75 : CFn := ⟨19,2,[.t 4],B75⟩
abbrev B76 : CCode := (sR [oY 0 3 false [3]] (sR [uL 0 4 1 1,oT 1 5 0 [0],oK 2 6 77 [.t 4,.t 5] [1,4,5],oE 3 7 6 [6],oT 4 3 7 [7]] .ret))
def C76 : CFn := ⟨8,2,[.t 3],B76⟩
abbrev B77 : CCode := (sR [oY 0 4 false [4]] (sR [oT 0 5 0 [0],oT 1 6 1 [1],oK 2 7 120 [.t 5,.t 6] [5,6],oC 3 8 .geq 7 0 [7],oT 4 4 8 [8]] .ret))
def C77 : CFn := ⟨9,2,[.t 4],B77⟩
abbrev B78 : CCode := (sR [oV 0 4 [4]] (sR [oT 0 6 0 [0],oT 1 7 1 [1],oP 2 8 (.bsl 1 2 [.nils] [(0,1,(.t 6)),(1,1,(.t 7))]) [6,7],oK 3 9 121 [.t 8] [8],oT 4 5 9 [9]] (sR [uT 0 10 5,oK 1 11 87 [.t 10] [10,11]] (sR [oT 0
12 5 [5],oK 1 13 122 [.t 12] [12],oT 2 4 13 [13]] .ret))))
def C78 : CFn := ⟨14,2,[.t 4],B78⟩
abbrev B79 : CCode := (sR [oQ 0 1 3 0 [0],oY 1 2 false [2]] (sR [uF 0 3 0 1,oL 1 4 1 3 [3],oP 2 5 (.lens (.t 4)) [4],oC 3 6 .eql 5 1 [5],oT 4 7 6 [6],wF 5 8 0 1 7,hL 6 9 1 8 7 [8],hG 7 10 (.ix (.t 9) (.c (.int .i64 0)))
7 [9],hG 8 11 (.bin .geq (.t 10) (.c (.int .u8 (97)))) 7 [10],oA 9 12 7 11 [7,11],oT 10 13 12 [12],wF 11 14 0 1 13,hL 12 15 1 14 13 [14],hG 13 16 (.ix (.t 15) (.c (.int .i64 0))) 13 [15],hG 14 17 (.bin .leq (.t 16) (.c
(.int .u8 (122)))) 13 [16],oA 15 18 13 17 [13,17],oT 16 19 18 [18],wF 17 20 1 1 19,hL 18 21 1 20 19 [20],hK 19 22 38 [.t 21,(.c (.int .i64 1)),(.c (.int .i64 3))] 19 [21],oA 20 23 19 22 [19,22],oT 21 24 23 [23],wF 22 25
2 1 24,hL 23 26 1 25 24 [25],wF 24 27 1 1 24,hL 25 28 1 27 24 [1,27],hK 26 29 38 [.t 26,(.c (.int .i64 0)),.t 28] 24 [26,28],oA 27 30 24 29 [24,29],oT 28 2 30 [30]] .ret))
def C79 : CFn := ⟨31,1,[.t 2],B79⟩
abbrev L80_0 : CCode := (.seq (sR [uT 0 6 5,uT 1 7 0,oN 2 8 7 [7],oB 3 9 .lss 6 8 [6,8]] (sC 9 [0,1,5,9] 0)) (.seq (.block 1 (sR [uT 0 12 0,uT 1 13 5,uI 2 14 1 12 13,oL 3 15 1 14 [12,13,14],uT 4 16 1,oB 5 17 .eql 15 16
[15,16]] (sD 17 [0,1,5,17] [uY 0 4 true]))) (sI 10 11 5)))
abbrev B80 : CCode := (sR [oY 0 4 false [4]] (sL 5 0 L80_0 (sR [uY 0 4 false] .ret)))
def C80 : CFn := ⟨18,2,[.t 4],B80⟩
abbrev L81_0 : CCode := (.seq (sR [uT 0 6 5,uT 1 7 0,oN 2 8 7 [7],oB 3 9 .lss 6 8 [6,8],oT 4 10 9 [9],wT 5 11 5 10,wT 6 12 1 10,hN 7 13 12 10 [12],hB 8 14 .lss 11 13 10 [11,13],oA 9 15 10 14 [10,14]] (sC 15 [5,15] 0))
(.seq (.block 1 (.seq (.seq (.reg true [uT 0 18 0,uT 1 19 5,uI 2 20 1 18 19,oL 3 21 1 20 [18,19,20],uT 4 22 1,uT 5 23 5,uI 6 24 1 22 23,oL 7 25 1 24 [22,23,24],oB 8 26 .lss 21 25 [21,25]]) (sD 26 [0,1,5,26] [uZ 0 4
(-1)])) (.seq (.reg true [uT 0 27 0,uT 1 28 5,uI 2 29 1 27 28,oL 3 30 1 29 [27,28,29],uT 4 31 1,uT 5 32 5,uI 6 33 1 31 32,oL 7 34 1 33 [31,32,33],oB 8 35 .gtr 30 34 [30,34]]) (sD 35 [0,1,5,35] [uZ 0 4 1])))) (sI 16 17
5)))
abbrev B81 : CCode := (sR [oZ 0 4 0 [4]] (sL 5 0 L81_0 (.seq (sR [uT 0 36 0,oN 1 37 36 [36],uT 2 38 1,oN 3 39 38 [38],oB 4 40 .lss 37 39 [37,39]] (sD 40 [0,1,40] [uZ 0 4 (-1)])) (.seq (sR [oT 0 41 0 [0],oN 1 42 41
[41],oT 2 43 1 [1],oN 3 44 43 [43],oB 4 45 .gtr 42 44 [42,44]] (sD 45 [45] [uZ 0 4 1])) (sR [uZ 0 4 0] .ret)))))
def C81 : CFn := ⟨46,2,[.t 4],B81⟩
abbrev B82 : CCode := (sR [oP 0 2 (.mv (.c (.nilp))) [2],uH 1 3 [.nils,.nils],uH 2 4 [.int .i64 (0),.nils,.nils]] (sR [oT 0 8 0 [0],oK 1 9 18 [.t 8] [8],oT 2 5 9 [9]] (sR [uT 0 10 5,oK 1 11 123 [.t 10] [10],uH 2 6
[.nils,.nils],oS 3 2 6 11 [11]] (sR [uT 0 12 5,uF 1 13 0 6,oL 2 14 1 13 [13],oK 3 15 64 [.t 12,.t 14] [12,14],uH 4 7 [.int .i64 (0),.nils,.nils],oS 5 3 7 15 [15]] (.seq (sR [uT 0 16 5,oK 1 17 21 [.t 16,(.c (.int .i64
20))] [16]] (.cond (.t 17) (sK [17] (.reg false [uT 0 18 5,uF 1 19 0 6,oL 2 20 1 19 [19],oK 3 21 124 [.t 18,.t 20] [18,20],oS 4 3 7 21 [21]])) (sK [17] .skip))) (.seq (.reg true [oT 0 22 5 [5],uM 1 23 2 6,uM 2 24 3 7,oT
3 2 22 [22],(4,⟨none,.st 2 (.t 3) (.t 23),none,[(7,3)],[6,23]⟩),oS 5 3 4 24 [7,24]]) .ret))))))
def C82 : CFn := ⟨25,1,[.t 2,.m 3 2 true,.m 4 3 true],B82⟩
abbrev L83_0 : CCode := (.seq (sR [uT 0 26 10,uT 1 27 7,oN 2 28 27 [27],oB 3 29 .lss 26 28 [26,28]] (sC 29 [7,8,9,10,29] 0)) (.seq (.block 1 (sR [uZ 0 11 (-1)] (.seq (sR [uT 0 32 8,uT 1 33 7,uT 2 34 10,uI 3 35 1 33
34,oL 4 36 1 35 [35],oK 5 37 98 [.t 32,.t 36] [32,33,34,36],oE 6 38 37 [37]] (.cond (.t 38) (sK [11,38] (.reg true [uT 0 39 7,uT 1 40 10,oP 2 41 (.sls 1 (.t 39) none (some (.t 40)) none) [39,40],uT 3 42 9,uT 4 43 7,uT 5
44 10,uI 6 45 1 43 44,oL 7 46 1 45 [45],oK 8 47 127 [.t 41,.t 42,.t 46] [41,42,43,44,46],oT 9 11 47 [47]])) (sK [38] .skip))) (sR [oT 0 48 6 [6],uW 1 49 1 [.int .i64 (0)],uT 2 50 7,uT 3 51 10,uI 4 52 1 50 51,oL 5 53 1
52 [52],oX 6 54 1 8 49 53 [49,50,51,53],oT 7 55 11 [11],oP 8 56 (.bld [.nils,.int .i64 (0)] [(0,1,(.t 54)),(1,1,(.t 55))]) [54,55],oP 9 57 (.bsl 2 1 [.nils,.int .i64 (0)] [(0,2,(.t 56))]) [56],oX 10 58 2 32 48 57
[48,57],oT 11 6 58 [58]] (sR [uT 0 59 7,uT 1 60 10,uI 2 61 1 59 60,oL 3 62 1 61 [61],oN 4 63 62 [59,60,62],oC 5 64 .eql 63 0 [63]] (sD 64 [7,8,9,10,64] [oT 0 65 6 [6],oT 1 4 65 [65],uY 2 5 true])))))) (sI 30 31 10)))
abbrev B83 : CCode := (sR [oQ 0 2 2 0 [0],oQ 1 3 3 1 [1],oV 2 4 [4],oY 3 5 false [5]] (sR [uW 0 12 2 [.nils,.int .i64 (0)],oT 1 6 12 [12]] (.seq (sR [uM 0 13 2 2,uM 1 14 3 3,oK 2 15 125 [.t 13,.t 14] [13,14],oE 3 16 15
[15]] (sD 16 [2,3,16] [oT 0 17 6 [6],oT 1 4 17 [17],uY 2 5 false])) (sR [uM 0 18 2 2,uM 1 19 3 3,oK 2 20 126 [.t 18,.t 19] [18,19],oT 3 7 20 [20]] (sR [uM 0 21 2 2,uM 1 22 3 3,oK 2 23 57 [.t 21,.t 22] [3,21,22],oT 3 8
23 [23]] (sR [uM 0 24 2 2,oK 1 25 58 [.t 24] [2,24],oT 2 9 25 [25]] (sL 10 0 L83_0 (sR [oT 0 66 6 [6],oT 1 4 66 [66],uY 2 5 false] .ret))))))))
def C83 : CFn := ⟨67,2,[.t 4,.t 5],B83⟩
abbrev L84_0 : CCode := (.seq (sR [uT 0 10 8,uT 1 11 1,oB 2 12 .lss 10 11 [10,11]] (sC 12 [2,8,12] 0)) (.seq (.block 1 (sR [uT 0 15 0,oK 1 16 21 [.t 15,(.c (.int .i64 2))] [15],oT 2 17 16 [16],wT 3 18 0 17,hK 4 19 21
[.t 18,(.c (.int .i64 8))] 17 [18],hT 5 20 19 17 [19],vT 6 21 2 20,vT 7 22 7 20,vT 8 23 8 20,gK 9 24 128 [.t 21,.t 22,.t 23] 20 [21,22,23],hO 10 25 20 24 17 [20,24],oA 11 26 17 25 [17,25]] (.cond (.t 26) (sK [26] (.reg
false [oT 0 27 7 [7],uT 1 28 8,oP 2 29 (.bsl 1 1 [.int .i64 (0)] [(0,1,(.t 28))]) [28],oX 3 30 1 8 27 29 [27,29],oT 4 7 30 [30]])) (sK [26] .skip)))) (sI 13 14 8)))
abbrev B84 : CCode := (sR [oV 0 6 [6]] (sR [uW 0 9 1 [.int .i64 (0)],oT 1 7 9 [9]] (sL 8 0 L84_0 (.seq (sR [uT 0 31 0,oK 1 32 21 [.t 31,(.c (.int .i64 12))] [31]] (.cond (.t 32) (sK [32] (sR [oT 0 33 7 [7],oT 1 34 1
[1],oP 2 35 (.bsl 1 1 [.int .i64 (0)] [(0,1,(.t 34))]) [34],oX 3 36 1 8 33 35 [33,35],oT 4 6 36 [36]] .ret)) (sK [1,32] .skip))) (sR [oT 0 37 7 [7],oT 1 6 37 [37]] .ret)))))
def C84 : CFn := ⟨38,3,[.t 6],B84⟩
abbrev L85_1 : CCode := (sR [uB 0 74 .lss 73 72] (.seq (sC 74 [71,72,73,74] 2) (.seq (.block 3 (sR [uI 0 75 1 71 73,oL 1 76 1 75 [75],oT 2 9 76 [76]] (sR [oT 0 77 9 [9],uF 1 78 0 3,oL 2 79 1 78 [78],oC 3 80 .sub 79 1
[79],oK 4 81 31 [.t 77,(.c (.int .i64 (-10))),.t 80] [77,80],oE 5 82 81 [81]] (sD 82 [0,3,5,7,36,37,38,71,72,73,82] [uY 0 4 false])))) (.reg false [oC 0 83 .add 73 1 [73],oT 1 73 83 [83]]))))
abbrev L85_0 : CCode := (sR [uB 0 39 .lss 38 37] (.seq (sC 39 [0,36,37,38,39] 0) (.seq (.block 1 (sR [uT 0 40 38,uI 1 41 2 36 38,oM 2 42 2 41 [41],uH 3 7 [.int .i64 (0),.nils],oT 4 6 40 [40],oS 5 2 7 42 [42]] (.seq
(.seq (.reg true [uF 0 43 0 7,oL 1 44 1 43 [43],uT 2 45 0,oN 3 46 45 [45],oC 4 47 .sub 46 1 [46],oK 5 48 31 [.t 44,(.c (.int .i64 0)),.t 47] [44,47],oE 6 49 48 [48],oT 7 50 49 [49],vF 8 51 1 7 50,gL 9 52 1 51 50 [51],gN
10 53 52 50 [52],vT 11 54 0 50,vF 12 55 0 7 50,gL 13 56 1 55 50 [55],vI 14 57 3 54 56 50,gF 15 58 1 57 50 [57],gL 16 59 1 58 50 [54,56,58],gB 17 60 .neq 53 59 50 [53,59],oO 18 61 50 60 [50,60],oT 19 62 61 [61],vF 20 63
1 3 62,gL 21 64 1 63 62 [63],gT 22 65 6 62 [6],gG 23 66 (.sls 2 (.t 64) none (some (.t 65)) none) 62 [64,65],vG 24 67 (.fn 131 [.t 7]) 62,gK 25 68 130 [.t 66,.t 67] 62 [66,67],oO 26 69 62 68 [62,68]]) (sD 69
[0,3,5,7,36,37,38,69] [uY 0 4 false])) (.seq (sR [uF 0 70 1 7,oL 1 71 1 70 [70],uN 2 72 71,uZ 3 73 0] (.block 2 (.loop L85_1))) (.reg false [oT 0 84 5 [5],uM 1 85 2 7,oK 2 86 36 [.t 85] [7,85],oK 3 87 78 [.t 84,.t 86]
[84,86],oT 4 5 87 [87]]))))) (.reg false [oC 0 88 .add 38 1 [38],oT 1 38 88 [88]]))))
abbrev B85 : CCode := (sR [oQ 0 3 3 1 [1],oY 1 4 false [4]] (.seq (sR [uT 0 10 0,oK 1 11 30 [.t 10] [10],oE 2 12 11 [11],oT 3 13 12 [12],vF 4 14 0 3 13,gL 5 15 1 14 13 [14],gK 6 16 31 [.t 15,(.c (.int .i64 0)),(.c (.int
.i64 4))] 13 [15],gE 7 17 16 13 [16],oO 8 18 13 17 [13,17],oT 9 19 18 [18],vF 10 20 1 3 19,gL 11 21 1 20 19 [20],gN 12 22 21 19 [21],gK 13 23 31 [.t 22,(.c (.int .i64 1)),(.c (.int .i64 3))] 19 [22],gE 14 24 23 19
[23],oO 15 25 19 24 [19,24],oT 16 26 25 [25],vF 17 27 2 3 26,gL 18 28 1 27 26 [27],vF 19 29 0 3 26,gL 20 30 1 29 26 [29],gK 21 31 129 [.t 28,.t 30] 26 [28,30],gE 22 32 31 26 [31],oO 23 33 26 32 [26,32]] (sD 33 [0,3,33]
[uY 0 4 false])) (sR [uW 0 34 1 [.int .i64 (0)],oT 1 5 34 [34]] (.seq (sR [uF 0 35 1 3,oL 1 36 1 35 [35],uN 2 37 36,uZ 3 38 0] (.block 0 (.loop L85_0))) (sR [oT 0 89 5 [5],oN 1 90 89 [89],uF 2 91 0 3,oL 3 92 1 91
[3,91],oB 4 93 .eql 90 92 [90,92],oT 5 4 93 [93]] .ret)))))
def C85 : CFn := ⟨94,2,[.t 4],B85⟩
abbrev B86 : CCode := (sR [oQ 0 2 2 0 [0],oQ 1 3 3 1 [1],oV 2 4 [4]] (sR [uW 0 7 2 [.nils,.nils],uH 1 5 [.nils],oS 2 1 5 7 [7]] (.seq (sR [uM 0 8 2 2,uM 1 9 3 3,oK 2 10 50 [.t 8,.t 9] [8,9],oE 3 11 10 [10]] (sD 11
[2,3,11] [uL 0 12 1 5,oT 1 4 12 [12]])) (sR [uH 0 6 [.nilf]] (sR [uP 0 13 (.fn 132 [.t 3,.t 5,.t 2,.t 6]),oS 1 1 6 13 [13]] (.seq (.reg true [uL 0 14 1 6,uF 1 15 0 3,oL 2 16 1 15 [15],(3,⟨some 17,.call 25 [.t
16],none,[(6,1)],[16]⟩),oP 4 18 (.callv (.t 14) [.t 17,(.c (.nils))]) [2,3,6,14,17,18]]) (sR [uL 0 19 1 5,oT 1 4 19 [19]] .ret)))))))
def C86 : CFn := ⟨20,2,[.t 4],B86⟩
abbrev L88_0 : CCode := (sR [uB 0 30 .lss 29 28] (.seq (sC 30 [6,27,28,29,30] 0) (.seq (.block 1 (sR [uI 0 31 1 27 29,oL 1 32 1 31 [31],oT 2 9 32 [32]] (.reg true [uF 0 33 1 7,oL 1 34 1 33 [33],uF 2 35 1 6,oL 3 36 1 35
[35],oT 4 37 9 [9],oI 5 38 2 36 37 [36],oM 6 39 2 38 [38],oP 7 40 (.bsl 2 1 [.int .i64 (0),.nils] [(0,2,(.t 39))]) [37,39],oX 8 41 2 32 34 40 [34,40],uF 9 42 1 7,oS 10 1 42 41 [41,42]]))) (.reg false [oC 0 43 .add 29 1
[29],oT 1 29 43 [43]]))))
abbrev B88 : CCode := (sR [oQ 0 2 2 0 [0],uH 1 4 [.nils,.nils],oY 2 5 false [5]] (.seq (sR [uM 0 10 2 2,oK 1 11 24 [.t 10] [10],oE 2 12 11 [11],oT 3 13 12 [12],vT 4 14 1 13,vF 5 15 1 2 13,gL 6 16 1 15 13 [15],gN 7 17 16
13 [16],gK 8 18 129 [.t 14,.t 17] 13 [14,17],gE 9 19 18 13 [18],oO 10 20 13 19 [13,19]] (sD 20 [1,2,20] [uP 0 21 (.bld [.nils,.nils] []),oS 1 2 4 21 [21],uY 2 5 false])) (sR [uM 0 22 2 2,oK 1 23 135 [.t 22] [2,22],uH 2
6 [.nils,.nils],oS 3 2 6 23 [23]] (sR [uF 0 24 0 6,oL 1 25 1 24 [24],oP 2 26 (.bld [.nils,.nils] [(0,1,(.t 25))]) [25],uH 3 7 [.nils,.nils],oS 4 2 7 26 [26]] (.seq (sR [oT 0 27 1 [1],uN 1 28 27,uZ 2 29 0] (.block 0
(.loop L88_0))) (sR [uM 0 44 2 7,oS 1 2 4 44 [7,44],uY 2 5 true] .ret))))))
def C88 : CFn := ⟨45,2,[.m 4 2 true,.t 5],B88⟩
abbrev B89 : CCode := (sR [oQ 0 1 2 0 [0],oY 1 2 false [2]] (.seq (.reg true [uM 0 3 2 1,oK 1 4 24 [.t 3] [3],oT 2 5 4 [4],wM 3 6 2 1 5,wF 6 9 1 1 5,wL 7 10 1 9 5,hN 8 11 10 5 [10],(4,⟨some 7,.call 27 [.t 6],some
(5,true),[(9,1)],[1,6,9]⟩),hN 5 8 7 5 [7],hB 9 12 .eql 8 11 5 [8,11],oA 10 13 5 12 [5,12],oT 11 2 13 [13]]) .ret))
def C89 : CFn := ⟨14,1,[.t 2],B89⟩
abbrev B90 : CCode := (sR [oY 0 4 false [4]] (sR [oT 0 5 0 [0],oT 1 6 1 [1],oK 2 7 136 [.t 5,.t 6] [5,6],oC 3 8 .geq 7 0 [7],oT 4 4 8 [8]] .ret))
def C90 : CFn := ⟨9,2,[.t 4],B90⟩
abbrev B91 : CCode := (sR [oY 0 3 false [3]] (sR [oT 0 4 0 [0],uL 1 5 1 1,oK 2 6 34 [.t 4,.t 5] [1,4,5],oT 3 3 6 [6]] .ret))
def C91 : CFn := ⟨7,2,[.t 3],B91⟩
abbrev B92 : CCode := (sR [oV 0 4 [4]] (sR [oT 0 5 0 [0],oT 1 6 1 [1],oP 2 7 (.bsl 1 1 [.int .i64 (0)] [(0,1,(.t 6))]) [6],oK 3 8 78 [.t 5,.t 7] [5,7],oT 4 4 8 [8]] .ret))
def C92 : CFn := ⟨9,2,[.t 4],B92⟩
abbrev L93_3 : CCode := (.seq (sR [uT 0 60 8,uT 1 61 6,oB 2 62 .lss 60 61 [60,61]] (sC 62 [8,62] 2)) (.seq (.block 3 (.seq (.reg true [uF 0 65 1 3,oL 1 66 1 65 [65],uT 2 67 8,oI 3 68 2 66 67 [66],oF 4 69 0 68 [68],oL 5
70 1 69 [67,69],uF 6 71 0 7,oL 7 72 1 71 [71],oB 8 73 .eql 70 72 [70,72]]) (sD 73 [0,3,5,6,7,8,73] [uY 0 4 false]))) (sI 63 64 8)))
abbrev L93_4 : CCode := (.seq (sR [uT 0 74 9,uF 1 75 1 7,oL 2 76 1 75 [75],oN 3 77 76 [76],oB 4 78 .lss 74 77 [74,77]] (sC 78 [7,9,78] 4)) (.seq (.block 5 (.seq (.seq (.reg true [uF 0 81 1 7,oL 1 82 1 81 [81],uT 2 83
9,oI 3 84 1 82 83 [82],oL 4 85 1 84 [83,84],uF 5 86 0 3,oL 6 87 1 86 [86],oC 7 88 .sub 87 1 [87],oK 8 89 38 [.t 85,(.c (.int .i64 (-10))),.t 88] [85,88],oE 9 90 89 [89]]) (sD 90 [0,3,5,6,7,9,90] [uY 0 4 false])) (sR [uF
0 91 1 7,oL 1 92 1 91 [91],uT 2 93 9,oI 3 94 1 92 93 [92],oL 4 95 1 94 [93,94],oC 5 96 .geq 95 0 [95]] (.cond (.t 96) (sK [96] (.reg false [uT 0 97 5,uF 1 98 1 7,oL 2 99 1 98 [98],uT 3 100 9,oI 4 101 1 99 100 [99],oL 5
102 1 101 [100,101],uI 6 103 1 97 102,(7,⟨none,.st 1 (.t 103) (.c (.bool true)),none,[],[97,102,103]⟩)])) (sK [96] .skip))))) (sI 79 80 9)))
abbrev L93_0 : CCode := (.seq (sR [uT 0 29 6,uF 1 30 1 3,oL 2 31 1 30 [30],oN 3 32 31 [31],oB 4 33 .lss 29 32 [29,32]] (sC 33 [0,6,33] 0)) (.seq (.block 1 (sR [uF 0 36 1 3,oL 1 37 1 36 [36],uT 2 38 6,oI 3 39 2 37 38
[37],oM 4 40 2 39 [39],uH 5 7 [.int .i64 (0),.nils],oS 6 2 7 40 [38,40]] (.seq (.seq (.reg true [uF 0 41 0 7,oL 1 42 1 41 [41],uT 2 43 0,oN 3 44 43 [43],oC 4 45 .sub 44 1 [44],oK 5 46 38 [.t 42,(.c (.int .i64 0)),.t 45]
[42,45],oE 6 47 46 [46],oT 7 48 47 [47],vF 8 49 1 7 48,gL 9 50 1 49 48 [49],gN 10 51 50 48 [50],vT 11 52 0 48,vF 12 53 0 7 48,gL 13 54 1 53 48 [53],vI 14 55 3 52 54 48,gF 15 56 1 55 48 [55],gL 16 57 1 56 48
[52,54,56],gB 17 58 .neq 51 57 48 [51,57],oO 18 59 48 58 [48,58]]) (sD 59 [0,3,5,6,7,59] [uY 0 4 false])) (sL 8 2 L93_3 (sR [uZ 0 9 0] (.block 4 (.loop L93_4))))))) (sI 34 35 6)))
abbrev L93_1 : CCode := (.seq (sR [uT 0 104 10,uF 1 105 0 3,oL 2 106 1 105 [105],oB 3 107 .lss 104 106 [104,106]] (sC 107 [5,10,107] 6)) (.seq (.block 7 (sR [uT 0 110 5,uT 1 111 10,uI 2 112 1 110 111,oL 3 113 1 112
[110,111,112],oE 4 114 113 [113]] (sD 114 [3,5,10,114] [uY 0 4 false]))) (sI 108 109 10)))
abbrev L93_2 : CCode := (.seq (sR [uT 0 115 11,uF 1 116 2 3,oL 2 117 1 116 [116],oN 3 118 117 [117],oB 4 119 .lss 115 118 [115,118]] (sC 119 [3,11,119] 8)) (.seq (.block 9 (.seq (.reg true [uF 0 122 2 3,oL 1 123 1 122
[122],uT 2 124 11,oI 3 125 1 123 124 [123],oL 4 126 1 125 [124,125],uF 5 127 0 3,oL 6 128 1 127 [127],oC 7 129 .sub 128 1 [128],oK 8 130 38 [.t 126,(.c (.int .i64 0)),.t 129] [126,129],oE 9 131 130 [130],oT 10 132 131
[131],vT 11 133 11 132,gC 12 134 .gtr 133 0 132 [133],gT 13 135 134 132 [134],wF 14 136 2 3 135,hL 15 137 1 136 135 [136],wT 16 138 11 135,hI 17 139 1 137 138 135 [137],hL 18 140 1 139 135 [138,139],wF 19 141 2 3 135,hL
20 142 1 141 135 [141],wT 21 143 11 135,hC 22 144 .sub 143 1 135 [143],hI 23 145 1 142 144 135 [142],hL 24 146 1 145 135 [144,145],hB 25 147 .leq 140 146 135 [140,146],gA 26 148 135 147 132 [135,147],oO 27 149 132 148
[132,148]]) (sD 149 [3,11,149] [uY 0 4 false]))) (sI 120 121 11)))
abbrev B93 : CCode := (sR [oQ 0 3 3 1 [1],oY 1 4 false [4]] (.seq (sR [uT 0 12 0,oK 1 13 37 [.t 12] [12],oE 2 14 13 [13],oT 3 15 14 [14],vF 4 16 0 3 15,gL 5 17 1 16 15 [16],gK 6 18 38 [.t 17,(.c (.int .i64 0)),(.c (.int
.i64 4))] 15 [17],gE 7 19 18 15 [18],oO 8 20 15 19 [15,19],oT 9 21 20 [20],vF 10 22 1 3 21,gL 11 23 1 22 21 [22],gN 12 24 23 21 [23],gK 13 25 38 [.t 24,(.c (.int .i64 1)),(.c (.int .i64 3))] 21 [24],gE 14 26 25 21
[25],oO 15 27 21 26 [21,26]] (sD 27 [0,3,27] [uY 0 4 false])) (sR [uP 0 28 (.mk 1 1 [.bool false] (.c (.int .i64 4)) (.c (.int .i64 4))),oT 1 5 28 [28]] (sL 6 0 L93_0 (sL 10 6 L93_1 (sL 11 8 L93_2 (sR [uY 0 4 true]
.ret)))))))
def C93 : CFn := ⟨150,2,[.t 4],B93⟩
abbrev B94 : CCode := (sR [oQ 0 2 2 0 [0],oQ 1 3 3 1 [1],oV 2 4 [4]] (.seq (sR [uM 0 5 2 2,uM 1 6 3 3,oK 2 7 56 [.t 5,.t 6] [5,6],oE 3 8 7 [7]] (sD 8 [2,3,8] [uW 0 9 2 [.nils,.nils],oT 1 4 9 [9]])) (.seq (.reg true [uM
0 10 2 2,uM 1 11 3 3,uF 2 12 0 3,oL 3 13 1 12 [12],uW 5 15 1 [.int .i64 (0)],(4,⟨some 14,.call 28 [.t 13],none,[(2,2),(3,3)],[13]⟩),oK 6 16 137 [.t 10,.t 11,(.c (.int .i64 0)),.t 14,.t 15] [2,3,10,11,14,15],oT 7 4 16
[16]]) .ret)))
def C94 : CFn := ⟨17,2,[.t 4],B94⟩
abbrev L95_1 : CCode := (.seq (.seq (.reg true [uT 0 15 5,oC 1 16 .gtr 15 0 [15],oT 2 17 16 [16],wT 3 18 3 17,wT 4 19 5 17,hC 5 20 .sub 19 1 17 [19],wI 6 21 1 18 20 17,hL 7 22 1 21 17 [18,20,21],wT 8 23 0 17,wT 9 24 4
17,wI 10 25 1 23 24 17,hL 11 26 1 25 17 [23,24,25],hB 12 27 .gtr 22 26 17 [22,26],oA 13 28 17 27 [17,27]]) (sC 28 [28] 2)) (.block 3 (.reg false [oT 0 29 5 [5],oC 1 30 .sub 29 1 [29],oT 2 5 30 [30]])))
abbrev L95_0 : CCode := (.seq (sR [uT 0 7 4,uT 1 8 0,oN 2 9 8 [8],oB 3 10 .lss 7 9 [7,9]] (sC 10 [0,4,10] 0)) (.seq (.block 1 (sR [uT 0 13 3,oN 1 14 13 [13],oT 2 5 14 [14]] (.seq (.block 2 (.loop L95_1)) (.reg true [uW
0 31 1 [.int .i64 (0)],uT 1 32 3,uT 2 33 5,oP 3 34 (.sls 1 (.t 32) none (some (.t 33)) none) [32,33],uT 5 36 0,uT 6 37 4,uI 7 38 1 36 37,uL 8 39 1 38,oP 9 40 (.bsl 1 1 [.int .i64 (0)] [(0,1,(.t 39))]) [39],oT 11 42 3
[3],oT 12 43 5 [5],oP 13 44 (.sls 1 (.t 42) (some (.t 43)) none none) [42,43],(4,⟨some 35,.app 1 8 (.t 31) (.t 34),none,[(38,1)],[31,34,36,37,38]⟩),oX 10 41 1 8 35 40 [35,40],oX 14 45 1 8 41 44 [41,44],oT 15 3 45
[45]])))) (sI 11 12 4)))
abbrev B95 : CCode := (sR [oV 0 2 [2]] (sR [uW 0 6 1 [.int .i64 (0)],oT 1 3 6 [6]] (sL 4 0 L95_0 (sR [oT 0 46 3 [3],oT 1 2 46 [46]] .ret))))
def C95 : CFn := ⟨47,1,[.t 2],B95⟩
abbrev B96 : CCode := (sR [oQ 0 2 2 0 [0],oY 1 4 false [4]] (sR [uM 0 8 2 2,oT 1 9 1 [1],oK 2 10 138 [.t 8,.t 9] [2,8,9],oT 3 7 10 [10],uU 4 11 7 0,oU 5 12 7 1 [7],uH 6 5 [.nils,.nils],oS 7 2 5 11 [11],oT 8 6 12 [12]]
(sR [oT 0 13 6 [6],oT 1 14 13 [13],wM 2 15 2 5 14,hK 3 16 139 [.t 15] 14 [5,15],oA 4 17 14 16 [14,16],oT 5 4 17 [17]] .ret)))
def C96 : CFn := ⟨18,2,[.t 4],B96⟩
abbrev L97_0 : CCode := (.seq (sR [uT 0 8 6,uF 1 9 1 2,oL 2 10 1 9 [9],oN 3 11 10 [10],oB 4 12 .lss 8 11 [8,11],oT 5 13 12 [12],wM 6 14 2 2 13,hK 7 15 11 [.t 14] 13 [14],oA 8 16 13 15 [13,15],oT 9 17 16 [16],wT 10 18 1
17,wF 11 19 1 2 17,hL 12 20 1 19 17 [19],hN 13 21 20 17 [20],hC 14 22 .sub 21 1 17 [21],hK 15 23 38 [.t 18,(.c (.int .i64 0)),.t 22] 17 [18,22],oA 16 24 17 23 [17,23]] (sC 24 [1,2,6,24] 0)) (.seq (.block 1 (.seq (.reg
true [uF 0 27 0 2,oL 1 28 1 27 [27],uF 2 29 1 2,oL 3 30 1 29 [29],uT 4 31 1,oI 5 32 2 30 31 [30],oM 6 33 2 32 [32],uF 7 34 1 2,oL 8 35 1 34 [34],uT 9 36 6,oI 10 37 2 35 36 [35],oM 11 38 2 37 [37],oK 12 39 140 [.t 28,.t
33,.t 38] [28,31,33,36,38]]) (.cond (.t 39) (sK [39] (.reg false [oT 0 40 5 [5],uT 1 41 6,oP 2 42 (.bsl 1 1 [.int .i64 (0)] [(0,1,(.t 41))]) [41],oX 3 43 1 8 40 42 [40,42],oT 4 5 43 [43]])) (sK [39] .skip)))) (sI 25 26
6)))
abbrev B97 : CCode := (sR [oQ 0 2 2 0 [0],oV 1 4 [4]] (sR [uW 0 7 1 [.int .i64 (0)],oT 1 5 7 [7]] (sL 6 0 L97_0 (sR [oT 0 44 5 [5],oT 1 4 44 [44]] .ret))))
def C97 : CFn := ⟨45,2,[.t 4],B97⟩
abbrev B98 : CCode := (sR [oY 0 4 false [4]] (sR [oT 0 5 0 [0],oT 1 6 1 [1],oK 2 7 141 [.t 5,.t 6] [5,6],oT 3 4 7 [7]] .ret))
def C98 : CFn := ⟨8,2,[.t 4],B98⟩
abbrev L99_0 : CCode := (.seq (.seq (.reg true [uT 0 33 7,uF 1 34 1 6,oL 2 35 1 34 [34],oN 3 36 35 [35],oB 4 37 .lss 33 36 [33,36],oT 5 38 37 [37],wF 6 39 1 6 38,hL 7 40 1 39 38 [39],wT 8 41 7 38,hI 9 42 2 40 41 38
[40],hM 10 43 2 42 38 [42],wM 11 44 2 3 38,hK 12 45 43 [.t 43,.t 44] 38 [41,43,44],hC 13 46 .lss 45 0 38 [45],oA 14 47 38 46 [38,46]]) (sC 47 [47] 0)) (.block 1 (sI 48 49 7)))
abbrev B99 : CCode := (sR [oQ 0 2 2 0 [0],oQ 1 3 2 1 [1],uH 2 4 [.nils,.nils],oY 3 5 false [5]] (sR [uM 0 9 2 2,oK 1 10 142 [.t 9] [9],uH 2 6 [.nils,.nils],oS 3 2 6 10 [10]] (.seq (sR [uM 0 11 2 2,oK 1 12 11 [.t 11]
[11],oE 2 13 12 [12],oT 3 14 13 [13],vF 4 15 0 2 14,gL 5 16 1 15 14 [15],vM 6 17 2 3 14,gK 7 18 42 [.t 16,.t 17] 14 [16,17],gE 8 19 18 14 [18],oO 9 20 14 19 [14,19],oT 10 21 20 [20],vM 11 22 2 2 21,vM 12 23 2 3 21,gK 13
24 143 [.t 22,.t 23] 21 [22,23],oO 14 25 21 24 [21,24],oT 15 26 25 [25],vF 16 27 1 2 26,gL 17 28 1 27 26 [27],gN 18 29 28 26 [2,28],gC 19 30 .eql 29 14 26 [29],oO 20 31 26 30 [26,30]] (sD 31 [3,31] [uM 0 32 2 6,oS 1 2 4
32 [6,32],uY 2 5 false])) (sR [uZ 0 7 0] (.seq (.block 0 (.loop L99_0)) (.seq (.reg true [uF 0 50 0 3,uL 1 51 1 50,uW 2 52 1 [.int .i64 (0)],uF 3 53 1 3,oL 4 54 1 53 [53],uF 8 58 1 6,uL 9 59 1 58,uT 10 60 7,oP 11 61
(.sls 2 (.t 59) (some (.t 60)) none none) [59,60],(5,⟨some 55,.app 1 8 (.t 52) (.t 54),none,[(50,1),(58,1)],[3,50,52,54,58]⟩),oP 6 56 (.bld [.int .i64 (0),.nils] [(0,1,(.t 51)),(1,1,(.t 55))]) [51,55],oP 7 57 (.bsl 2 1
[.int .i64 (0),.nils] [(0,2,(.t 56))]) [56],oX 12 62 2 32 57 61 [57,61],oT 13 8 62 [62]]) (sR [uW 0 63 2 [.int .i64 (0),.nils],uF 1 64 1 6,oL 2 65 1 64 [64],oT 3 66 7 [7],oP 4 67 (.sls 2 (.t 65) none (some (.t 66))
none) [65,66],oX 5 68 2 32 63 67 [63,67],oT 6 69 8 [8],oX 7 70 2 32 68 69 [68,69],uF 8 71 1 6,oS 9 1 71 70 [70,71]] (sR [uM 0 72 2 6,oS 1 2 4 72 [6,72],uY 2 5 true] .ret))))))))
def C99 : CFn := ⟨73,2,[.m 4 2 true,.t 5],B99⟩
abbrev L100_0 : CCode := (.seq (.seq (.reg true [uF 0 13 1 7,oL 1 14 1 13 [13],oN 2 15 14 [14],uT 3 16 1,uF 4 17 0 7,oL 5 18 1 17 [17],uI 6 19 3 16 18,oF 7 20 1 19 [19],oL 8 21 1 20 [16,18,20],oB 9 22 .lss 15 21
[15,21]]) (sC 22 [1,2,22] 0)) (.block 1 (.reg true [uF 0 23 1 7,uL 1 24 1 23,uT 2 25 0,uT 3 26 2,(4,⟨some 27,.call 20 [.t 25,.t 26],none,[(23,1)],[23,25,26]⟩),oP 5 28 (.bsl 1 1 [.int .i64 (0)] [(0,1,(.t 27))]) [27],oX 6
29 1 8 24 28 [24,28],uF 7 30 1 7,oS 8 1 30 29 [29,30]])))
abbrev B100 : CCode := (sR [uH 0 6 [.int .i64 (0),.nils]] (sR [uT 0 8 0,uT 1 9 1,oN 2 10 9 [9],oK 3 11 20 [.t 8,.t 10] [8,10],oP 4 12 (.bld [.int .i64 (0),.nils] [(0,1,(.t 11))]) [11],uH 5 7 [.int .i64 (0),.nils],oS 6 2
7 12 [12]] (.seq (.block 0 (.loop L100_0)) (sR [uM 0 31 2 7,oS 1 2 6 31 [7,31]] .ret))))
def C100 : CFn := ⟨32,3,[.m 6 2 true],B100⟩
abbrev B101 : CCode := (sR [oP 0 4 (.mv (.c (.str []))) [4]] (sR [uT 0 5 1,uT 1 6 0,uT 2 7 1,oN 3 8 7 [7],oK 4 9 20 [.t 6,.t 8] [6,8],uI 5 10 1 5 9,oL 6 11 1 10 [5,9,10],oT 7 4 11 [11]] .ret))
def C101 : CFn := ⟨12,2,[.t 4],B101⟩
abbrev L102_1 : CCode := (.seq (sR [uT 0 34 10,oC 1 35 .gtr 34 0 [34]] (sC 35 [10,35] 2)) (.seq (.block 3 (sR [uT 0 38 0,oK 1 39 21 [.t 38,(.c (.int .i64 12))] [38]] (.cond (.t 39) (sK [39] (.reg true [uF 0 40 1 9,uL 1
41 1 40,uT 2 42 0,(3,⟨some 43,.call 20 [.t 42,(.c (.int .i64 2))],none,[(40,1)],[40,42]⟩),oP 4 44 (.bin .sub (.c (.int .i64 (-1))) (.t 43)) [43],oP 5 45 (.bsl 1 1 [.int .i64 (0)] [(0,1,(.t 44))]) [44],oX 6 46 1 8 41 45
[41,45],uF 7 47 1 9,oS 8 1 47 46 [46,47]])) (sK [39] (.reg true [uF 0 48 1 9,uL 1 49 1 48,uT 2 50 0,uT 3 51 5,(4,⟨some 52,.call 20 [.t 50,.t 51],none,[(48,1)],[48,50,51]⟩),oP 5 53 (.bsl 1 1 [.int .i64 (0)] [(0,1,(.t
52))]) [52],oX 6 54 1 8 49 53 [49,53],uF 7 55 1 9,oS 8 1 55 54 [54,55]]))))) (.reg false [oT 0 36 10 [10],oC 1 37 .sub 36 1 [36],oT 2 10 37 [37]])))
abbrev L102_0 : CCode := (.seq (sR [uT 0 20 7,uT 1 21 4,oB 2 22 .lss 20 21 [20,21]] (sC 22 [4,5,6,7,22] 0)) (.seq (.block 1 (sR [uT 0 25 6,uT 1 26 7,oB 2 27 .add 25 26 [25,26],oC 3 28 .rem 27 4 [27],oT 4 8 28 [28]] (sR
[uT 0 29 8,oP 1 30 (.bld [.int .i64 (0),.nils] [(0,1,(.t 29))]) [29],uH 2 9 [.int .i64 (0),.nils],oS 3 2 9 30 [30]] (.seq (sR [oT 0 31 8 [8],oC 1 32 .quo 31 3 [31],oP 2 33 (.bin .add (.c (.int .i64 2)) (.t 32)) [32],oT
3 10 33 [33]] (.block 2 (.loop L102_1))) (.reg false [uF 0 56 1 3,oL 1 57 1 56 [56],uM 2 58 2 9,oP 3 59 (.bsl 2 1 [.int .i64 (0),.nils] [(0,2,(.t 58))]) [9,58],oX 4 60 2 32 57 59 [57,59],uF 5 61 1 3,oS 6 1 61 60
[60,61]]))))) (sI 23 24 7)))
abbrev B102 : CCode := (sR [uH 0 2 [.int .i64 (0),.nils,.nils]] (sR [uP 0 11 (.bld [.int .i64 (0),.nils,.nils] []),uH 1 3 [.int .i64 (0),.nils,.nils],oS 2 3 3 11 [11]] (sR [uT 0 12 0,oK 1 13 20 [.t 12,(.c (.int .i64
3))] [12],oP 2 14 (.bin .add (.c (.int .i64 1)) (.t 13)) [13],oT 3 4 14 [14]] (sR [uT 0 15 0,oK 1 16 20 [.t 15,(.c (.int .i64 4))] [15],oP 2 17 (.bin .add (.c (.int .i64 1)) (.t 16)) [16],oT 3 5 17 [17]] (sR [uT 0 18
0,oK 1 19 20 [.t 18,(.c (.int .i64 4))] [18],oT 2 6 19 [19]] (sL 7 0 L102_0 (sR [uM 0 62 3 3,oK 1 63 144 [.t 62] [3,62],oS 2 3 2 63 [63]] .ret)))))))
def C102 : CFn := ⟨64,1,[.m 2 3 true],B102⟩
abbrev B103 : CCode := (sR [uH 0 4 [.int .i64 (0),.nils,.nils]] (sR [uT 0 8 1,uT 1 9 0,uP 2 10 (.bsl 1 10 [.str []] [(0,1,(.c (.str [63,114,120,124,121,32,115,121,124,122]))),(1,1,(.c (.str
[63,114,120,124,121,32,115,121,124,120]))),(2,1,(.c (.str [63,114,120,124,121,32,115,122,124,121]))),(3,1,(.c (.str [63,114,120,124,121,32,115,120,124,122]))),(4,1,(.c (.str [63,114,120,124,49]))),(5,1,(.c (.str
[63,114,120,124,120]))),(6,1,(.c (.str [63,114,120,124,121,32,115,121,124,49]))),(7,1,(.c (.str [63,114,120,124,121,32,115,121,124,122,32,114]))),(8,1,(.c (.str [63,114,120,124,121]))),(9,1,(.c (.str
[63,114,120,124,122,32,115,121,124,122])))]),oK 3 11 101 [.t 9,.t 10] [9,10],oK 4 12 66 [.t 8,.t 11] [8,11],oT 5 7 12 [12],uU 6 13 7 0,oU 7 14 7 1 [7],uH 8 5 [.int .i64 (0),.nils,.nils],oS 9 3 5 13 [13],oT 10 6 14 [14]]
(.seq (sR [oT 0 15 6 [6],oE 1 16 15 [15]] (.cond (.t 16) (sK [16] (.reg false [oT 0 18 1 [1],oP 1 19 (.call 66 [.t 18,(.c (.str [63,114,120,124,121,32,115,121,124,122]))]) [18],oT 2 17 19 [19],uU 3 20 17 0,oU 4 21 17 1
[17,21],oS 5 3 5 20 [20]])) (sK [1,16] .skip))) (sR [uM 0 22 3 5,oS 1 3 4 22 [5,22]] .ret))))
def C103 : CFn := ⟨23,2,[.m 4 3 true],B103⟩
abbrev L105_0 : CCode := (.seq (sR [uT 0 12 4,uF 1 13 1 1,oL 2 14 1 13 [13],oN 3 15 14 [14],oB 4 16 .lss 12 15 [12,15]] (sC 16 [1,4,16] 0)) (.seq (.block 1 (.reg true [uF 0 19 1 3,uL 1 20 1 19,uF 2 21 1 1,uL 3 22 1
21,uT 4 23 4,oI 5 24 2 22 23 [22],oF 6 25 0 24 [24],uL 7 26 1 25,uW 8 27 1 [.int .i64 (0)],uF 9 28 1 1,oL 10 29 1 28 [28],uT 11 30 4,oI 12 31 2 29 30 [29],oF 13 32 1 31 [31],oL 14 33 1 32 [32],(15,⟨some 34,.app 1 8 (.t
27) (.t 33),none,[(19,1),(21,1),(25,1)],[19,21,23,25,27,30,33]⟩),oP 16 35 (.bld [.int .i64 (0),.nils] [(0,1,(.t 26)),(1,1,(.t 34))]) [26,34],oP 17 36 (.bsl 2 1 [.int .i64 (0),.nils] [(0,2,(.t 35))]) [35],oX 18 37 2 32
20 36 [20,36],uF 19 38 1 3,oS 20 1 38 37 [37,38]])) (sI 17 18 4)))
abbrev B105 : CCode := (sR [oQ 0 1 3 0 [0],uH 1 2 [.int .i64 (0),.nils,.nils]] (.seq (.reg true [uF 0 5 0 1,uL 1 6 1 5,uW 2 7 1 [.int .i64 (0)],uF 3 8 2 1,oL 4 9 1 8 [8],uH 7 3 [.int .i64 (0),.nils,.nils],(5,⟨some
10,.app 1 8 (.t 7) (.t 9),none,[(5,1)],[5,7,9]⟩),oP 6 11 (.bld [.int .i64 (0),.nils,.nils] [(0,1,(.t 6)),(2,1,(.t 10))]) [6,10],oS 8 3 3 11 [11]]) (sL 4 0 L105_0 (sR [uM 0 39 3 3,oS 1 3 2 39 [3,39]] .ret))))
def C105 : CFn := ⟨40,1,[.m 2 3 true],B105⟩
abbrev L108_0 : CCode := (.seq (sR [uT 0 9 7,uT 1 10 0,oP 2 11 (.lens (.t 10)) [10],oB 3 12 .lss 9 11 [9,11]] (sC 12 [1,7,12] 0)) (.seq (.block 1 (sR [uT 0 15 0,uT 1 16 7,oP 2 17 (.ix (.t 15) (.t 16)) [15,16],uT 3 18
1,oB 4 19 .eql 17 18 [17,18]] (.cond (.t 19) (sK [19] (sR [oT 0 20 5 [5],uT 1 21 0,oT 2 22 6 [6],uT 3 23 7,oP 4 24 (.sst (.t 21) (some (.t 22)) (some (.t 23))) [21,22,23],oP 5 25 (.bsl 1 1 [.str []] [(0,1,(.t 24))])
[24],oX 6 26 1 16 20 25 [20,25],oT 7 5 26 [26]] (.reg false [uT 0 27 7,oC 1 28 .add 27 1 [27],oT 2 6 28 [28]]))) (sK [19] .skip)))) (sI 13 14 7)))
abbrev B108 : CCode := (sR [oV 0 4 [4]] (sR [uP 0 8 (.bsl 1 0 [.str []] []),oT 1 5 8 [8]] (sR [uZ 0 6 0] (sL 7 0 L108_0 (sR [oT 0 29 5 [5],oT 1 30 0 [0],oT 2 31 6 [6],oP 3 32 (.sst (.t 30) (some (.t 31)) none)
[30,31],oP 4 33 (.bsl 1 1 [.str []] [(0,1,(.t 32))]) [32],oX 5 34 1 16 29 33 [29,33],oT 6 4 34 [34]] .ret)))))
def C108 : CFn := ⟨35,2,[.t 4],B108⟩
abbrev L109_0 : CCode := (.seq (sR [uT 0 5 4,oC 1 6 .lss 5 4 [5]] (sC 6 [0,4,6] 0)) (.seq (.block 1 (sR [uT 0 9 4,oK 1 10 152 [.t 9] [9],uT 2 11 0,oB 3 12 .eql 10 11 [10,11]] (sD 12 [0,12] [oT 0 13 4 [4],oT 1 2 13
[13],uY 2 3 true]))) (sI 7 8 4)))
abbrev B109 : CCode := (sR [oZ 0 2 0 [2],oY 1 3 false [3]] (.seq (sR [uZ 0 4 (-10)] (.block 0 (.loop L109_0))) (sR [uZ 0 2 0,uY 1 3 false] .ret)))
def C109 : CFn := ⟨14,1,[.t 2,.t 3],B109⟩
abbrev L110_0 : CCode := (.seq (sR [uT 0 6 5,uT 1 7 0,oN 2 8 7 [7],oB 3 9 .lss 6 8 [6,8]] (sC 9 [0,1,5,9] 0)) (.seq (.block 1 (sR [uT 0 12 0,uT 1 13 5,uI 2 14 3 12 13,oF 3 15 0 14 [14],oL 4 16 1 15 [12,13,15],uT 5 17
1,oB 6 18 .eql 16 17 [16,17]] (sD 18 [0,1,18] [oT 0 19 5 [5],oT 1 4 19 [19]]))) (sI 10 11 5)))
abbrev B110 : CCode := (sR [oZ 0 4 0 [4]] (sL 5 0 L110_0 (sR [uZ 0 4 (-1)] .ret)))
def C110 : CFn := ⟨20,2,[.t 4],B110⟩
abbrev L111_0 : CCode := (.seq (sR [uT 0 12 6,uF 1 13 2 3,oL 2 14 1 13 [13],oN 3 15 14 [14],oB 4 16 .lss 12 15 [12,15]] (sC 16 [6,16] 0)) (.seq (.block 1 (.reg false [oT 0 19 5 [5],uF 1 20 2 3,oL 2 21 1 20 [20],uT 3 22
6,oI 4 23 1 21 22 [21],oL 5 24 1 23 [22,23],oK 6 25 152 [.t 24] [24],oB 7 26 .add 19 25 [19,25],oT 8 5 26 [26]])) (sI 17 18 6)))
abbrev L111_1 : CCode := (.seq (sR [uT 0 29 7,uF 1 30 1 3,oL 2 31 1 30 [30],oN 3 32 31 [31],oB 4 33 .lss 29 32 [29,32]] (sC 33 [0,3,7,33] 2)) (.seq (.block 3 (.seq (sR [uT 0 36 7,oC 1 37 .gtr 36 0 [36]] (.cond (.t 37)
(sK [37] (.reg false [oT 0 38 5 [5],oP 1 39 (.bin .add (.t 38) (.c (.str [32]))) [38],oT 2 5 39 [39]])) (sK [37] .skip))) (.reg false [oT 0 40 5 [5],uT 1 41 0,uF 2 42 1 3,oL 3 43 1 42 [42],uT 4 44 7,oI 5 45 2 43 44
[43],oM 6 46 2 45 [45],oK 7 47 153 [.t 41,.t 46] [41,44,46],oB 8 48 .add 40 47 [40,47],oT 9 5 48 [48]]))) (sI 34 35 7)))
abbrev B111 : CCode := (sR [oQ 0 3 3 1 [1],oP 1 4 (.mv (.c (.str []))) [4]] (.seq (sR [uT 0 8 0,uM 1 9 3 3,oK 2 10 93 [.t 8,.t 9] [8,9],oE 3 11 10 [10]] (sD 11 [0,3,11] [uP 0 4 (.mv (.c (.str [])))])) (sR [uP 0 5 (.mv
(.c (.str [])))] (sL 6 0 L111_0 (sR [oT 0 27 5 [5],oP 1 28 (.bin .add (.t 27) (.c (.str [63]))) [27],oT 2 5 28 [28]] (sL 7 2 L111_1 (sR [oT 0 49 5 [5],oT 1 4 49 [49]] .ret)))))))
def C111 : CFn := ⟨50,2,[.t 4],B111⟩
abbrev B112 : CCode := (sR [oY 0 2 false [2]] (sR [oT 0 3 0 [0],oP 1 4 (.call 32 [.t 3,(.c (.fn 154 []))]) [3],oE 2 5 4 [4],oT 3 2 5 [5]] .ret))
def C112 : CFn := ⟨6,1,[.t 2],B112⟩
abbrev B113 : CCode := (sR [oZ 0 4 0 [4]] (.seq (.block 0 (sR [uT 0 6 0,uT 1 7 1,oB 2 8 .lss 6 7 [6,7],oT 3 5 8 [8]] (.cond (.t 5) (sK [0,1,5] (sR [uZ 0 4 (-1)] .ret)) (sK [5] (sR [oT 0 10 0 [0],oT 1 11 1 [1],oB 2 12
.gtr 10 11 [10,11],oT 3 9 12 [12]] (sD 9 [9] [uZ 0 4 1])))))) (sR [uZ 0 4 0] .ret)))
def C113 : CFn := ⟨13,2,[.t 4],B113⟩
abbrev L114_0 : CCode := (sR [uB 0 12 .lss 11 10] (.seq (sC 12 [9,10,11,12] 0) (.seq (.block 1 (sR [uT 0 13 11,uI 1 14 1 9 11,oL 2 15 1 14 [14],oT 3 5 13 [13],oT 4 6 15 [15]] (.seq (sR [uT 0 16 5,uT 1 17 1,oN 2 18 17
[17],oB 3 19 .geq 16 18 [16,18]] (sD 19 [0,1,5,6,9,10,11,19] [uZ 0 4 1])) (sR [uT 0 20 1,oT 1 21 5 [5],uI 2 22 1 20 21,oL 3 23 1 22 [20,21,22],oT 4 7 23 [23]] (sR [oT 0 24 6 [6],oT 1 25 7 [7],oK 2 26 155 [.t 24,.t 25]
[24,25],oT 3 8 26 [26]] (sR [uT 0 27 8,oC 1 28 .neq 27 0 [27]] (.cond (.t 28) (sK [0,1,9,10,11,28] (sR [oT 0 29 8 [8],oT 1 4 29 [29]] .ret)) (sK [8,28] .skip)))))))) (.reg false [oC 0 30 .add 11 1 [11],oT 1 11 30
[30]]))))
abbrev B114 : CCode := (sR [oZ 0 4 0 [4]] (.seq (sR [uT 0 9 0,uN 1 10 9,uZ 2 11 0] (.block 0 (.loop L114_0))) (.seq (sR [oT 0 31 0 [0],oN 1 32 31 [31],oT 2 33 1 [1],oN 3 34 33 [33],oB 4 35 .lss 32 34 [32,34]] (sD 35
[35] [uZ 0 4 (-1)])) (sR [uZ 0 4 0] .ret))))
def C114 : CFn := ⟨36,2,[.t 4],B114⟩
abbrev B115 : CCode := (sR [oP 0 4 (.mv (.c (.int .u64 (0)))) [4],oP 1 5 (.mv (.c (.int .u64 (0)))) [5]] (.seq (.cond (.c (.bool false)) (sR [oT 0 11 0 [0],oP 1 12 (.conv .u32 (.t 11)) [11],oT 2 13 1 [1],oP 3 14 (.conv
.u32 (.t 13)) [13],oK 4 15 156 [.t 12,.t 14] [12,14],oT 5 10 15 [15],uU 6 16 10 0,oU 7 17 10 1 [10],oT 8 6 16 [16],oT 9 7 17 [17]] (sR [oT 0 18 6 [6],oP 1 19 (.conv .u64 (.t 18)) [18],oT 2 20 7 [7],oP 3 21 (.conv .u64
(.t 20)) [20],oT 4 4 19 [19],oT 5 5 21 [21]] .ret)) .skip) (sR [oT 0 23 0 [0],oT 1 24 1 [1],oK 2 25 157 [.t 23,.t 24] [23,24],oT 3 22 25 [25],uU 4 26 22 0,oU 5 27 22 1 [22],oT 6 8 26 [26],oT 7 9 27 [27]] (sR [oT 0 28 8
[8],oT 1 29 9 [9],oT 2 4 28 [28],oT 3 5 29 [29]] .ret))))
def C115 : CFn := ⟨30,2,[.t 4,.t 5],B115⟩
abbrev B116 : CCode := (sR [oV 0 2 [2]] (.seq (sR [uT 0 3 0,oP 1 4 (.isnil false (.t 3)) [3]] (sD 4 [0,4] [uV 0 2])) (sR [uW 0 5 1 [.int .i64 (0)],oT 1 6 0 [0],oX 2 7 1 8 5 6 [5,6],oT 3 2 7 [7]] .ret)))
def C116 : CFn := ⟨8,1,[.t 2],B116⟩
abbrev B117 : CCode := (sR [oY 0 2 false [2]] (sR [oT 0 3 0 [0],oC 1 4 .geq 3 0 [3],oT 2 2 4 [4]] .ret))
def C117 : CFn := ⟨5,1,[.t 2],B117⟩
abbrev B118 : CCode := (sR [oZ 0 2 0 [2]] (sR [oT 0 3 0 [0],oP 1 4 (.bin .sub (.c (.int .i64 (-1))) (.t 3)) [3],oT 2 2 4 [4]] .ret))
def C118 : CFn := ⟨5,1,[.t 2],B118⟩
abbrev L119_0 : CCode := (sR [uB 0 14 .lss 13 12] (.seq (sC 14 [0,1,12,13,14] 0) (.seq (.block 1 (sR [uT 0 15 13,oT 1 5 15 [15]] (.seq (.reg true [uT 0 16 0,uT 1 17 5,uI 2 18 1 16 17,oL 3 19 1 18 [16,17,18],uT 4 20 1,oT
5 21 5 [5],uI 6 22 1 20 21,oL 7 23 1 22 [20,21,22],oB 8 24 .neq 19 23 [19,23]]) (sD 24 [0,1,12,13,24] [uY 0 4 false])))) (.reg false [oC 0 25 .add 13 1 [13],oT 1 13 25 [25]]))))
abbrev B119 : CCode := (sR [oY 0 4 false [4]] (.seq (sR [uT 0 6 0,oN 1 7 6 [6],uT 2 8 1,oN 3 9 8 [8],oB 4 10 .neq 7 9 [7,9]] (sD 10 [0,1,10] [uY 0 4 false])) (.seq (sR [uT 0 11 0,oN 1 12 11 [11],uZ 2 13 0] (.block 0
(.loop L119_0))) (sR [uY 0 4 true] .ret))))
def C119 : CFn := ⟨26,2,[.t 4],B119⟩
abbrev L120_0 : CCode := (sR [uB 0 9 .lss 8 7] (.seq (sC 9 [0,1,7,8,9] 0) (.seq (.block 1 (sR [uT 0 10 8,oT 1 5 10 [10]] (sR [uT 0 11 1,uT 1 12 0,uT 2 13 5,uI 3 14 1 12 13,oL 4 15 1 14 [12,13,14],oB 5 16 .eql 11 15
[11,15]] (.cond (.t 16) (sK [0,1,7,8,16] (sR [oT 0 17 5 [5],oT 1 4 17 [17]] .ret)) (sK [5,16] .skip))))) (.reg false [oC 0 18 .add 8 1 [8],oT 1 8 18 [18]]))))
abbrev B120 : CCode := (sR [oZ 0 4 0 [4]] (.seq (sR [uT 0 6 0,oN 1 7 6 [6],uZ 2 8 0] (.block 0 (.loop L120_0))) (sR [uZ 0 4 (-1)] .ret)))
def C120 : CFn := ⟨19,2,[.t 4],B120⟩
abbrev L121_0 : CCode := (sR [uB 0 12 .lss 11 10] (.seq (sC 12 [9,10,11,12] 0) (.seq (.block 1 (sR [uI 0 13 1 9 11,oL 1 14 1 13 [13],oT 2 5 14 [14]] (sR [oT 0 15 3 [3],oT 1 16 5 [5],oN 2 17 16 [16],oB 3 18 .add 15 17
[15,17],oT 4 3 18 [18]] (sR [uT 0 19 3,oC 1 20 .lss 19 0 [19]] (.cond (.t 20) (sK [20] (.reg false [oP 0 21 .fail [21],(1,⟨none,.fail,none,[],[]⟩)])) (sK [20] .skip)))))) (.reg false [oC 0 22 .add 11 1 [11],oT 1 11 22
[22]]))))
abbrev L121_1 : CCode := (sR [uB 0 28 .lss 27 26] (.seq (sC 28 [25,26,27,28] 2) (.seq (.block 3 (sR [uI 0 29 1 25 27,oL 1 30 1 29 [29],oT 2 8 30 [30]] (.reg false [oT 0 31 6 [6],oT 1 32 8 [8],oX 2 33 1 8 31 32
[31,32],oT 3 6 33 [33]]))) (.reg false [oC 0 34 .add 27 1 [27],oT 1 27 34 [34]]))))
abbrev B121 : CCode := (sR [oV 0 2 [2]] (sR [uZ 0 3 0] (.seq (sR [uT 0 9 0,uN 1 10 9,uZ 2 11 0] (.block 0 (.loop L121_0))) (sR [oT 0 23 3 [3],oK 1 24 158 [(.c (.nils)),.t 23] [23],oT 2 6 24 [24]] (.seq (sR [oT 0 25 0
[0],uN 1 26 25,uZ 2 27 0] (.block 2 (.loop L121_1))) (sR [oT 0 35 6 [6],oT 1 2 35 [35]] .ret))))))
def C121 : CFn := ⟨36,1,[.t 2],B121⟩
abbrev L123_0 : CCode := (.seq (sR [uF 0 6 1 3,oL 1 7 1 6 [6],oN 2 8 7 [7],oC 3 9 .gtr 8 9 [8]] (sC 9 [9] 0)) (.block 1 (.reg false [uF 0 10 1 3,oL 1 11 1 10 [10],uF 2 12 1 3,oL 3 13 1 12 [12],oN 4 14 13 [13],oC 5 15
.sub 14 1 [14],oP 6 16 (.sls 2 (.t 11) none (some (.t 15)) none) [11,15],uF 7 17 1 3,oS 8 1 17 16 [16,17]])))
abbrev B123 : CCode := (sR [uH 0 2 [.nils,.nils]] (sR [uT 0 4 0,oK 1 5 60 [.t 4] [4],uH 2 3 [.nils,.nils],oS 3 2 3 5 [5]] (.seq (.block 0 (.loop L123_0)) (sR [uM 0 18 2 3,oS 1 2 2 18 [3,18]] .ret))))
def C123 : CFn := ⟨19,1,[.m 2 2 true],B123⟩
abbrev B124 : CCode := (sR [uH 0 4 [.int .i64 (0),.nils,.nils]] (sR [uT 0 6 0,oT 1 7 1 [1],oK 2 8 64 [.t 6,.t 7] [6,7],uH 3 5 [.int .i64 (0),.nils,.nils],oS 4 3 5 8 [8]] (.seq (sR [uT 0 9 0,oK 1 10 20 [.t 9,(.c (.int
.i64 14))] [9]] (.block 0 (sR [uC 0 12 .eql 10 0,oT 1 11 12 [12]] (.cond (.t 11) (sK [10,11] (.reg false [uT 0 13 0,uF 1 14 0 5,oL 2 15 1 14 [14],oC 3 16 .add 15 1 [15],oP 4 17 (.bsl 1 3 [.int .i64 (0)] [(0,1,(.c (.int
.i64 (-1)))),(1,1,(.t 16)),(2,1,(.c (.int .i64 5)))]) [16],oK 5 18 67 [.t 13,.t 17] [13,17],uF 6 19 0 5,oS 7 1 19 18 [18,19]])) (sK [11] (sR [uC 0 21 .eql 10 1,oT 1 20 21 [21]] (.cond (.t 20) (sK [10,20] (.reg true [uF
0 22 1 5,uL 1 23 1 22,uT 2 24 0,uP 5 27 (.bsl 1 2 [.int .i64 (0)] [(0,1,(.c (.int .i64 0))),(1,1,(.c (.int .i64 0)))]),(3,⟨some 25,.call 20 [.t 24,(.c (.int .i64 6))],none,[(22,1)],[22,24]⟩),oC 4 26 .sub 25 1 [25],oP 6
28 (.bld [.int .i64 (0),.nils] [(0,1,(.t 26)),(1,1,(.t 27))]) [26,27],oP 7 29 (.bsl 2 1 [.int .i64 (0),.nils] [(0,2,(.t 28))]) [28],oX 8 30 2 32 23 29 [23,29],uF 9 31 1 5,oS 10 1 31 30 [30,31]])) (sK [20] (sR [uC 0 33
.eql 10 2,oT 1 32 33 [33]] (.cond (.t 32) (sK [10,32] (.reg true [uF 0 34 1 5,uL 1 35 1 34,oP 2 36 (.ia 2 (.t 35) (.c (.int .i64 0))) [35],oF 3 37 1 36 [36],uL 4 38 1 37,uT 5 39 0,uP 6 40 (.bsl 1 3 [.int .i64 (0)]
[(0,1,(.c (.int .i64 (-11)))),(1,1,(.c (.int .i64 4))),(2,1,(.c (.int .i64 3)))]),(7,⟨some 41,.call 67 [.t 39,.t 40],none,[(34,1),(37,1)],[34,37,39,40]⟩),oP 8 42 (.ia 1 (.t 38) (.c (.int .i64 0))) [38],oS 9 1 42 41
[41,42]])) (sK [32] (sR [oC 0 44 .eql 10 3 [10],oT 1 43 44 [44]] (.cond (.t 43) (sK [43] (.reg true [uF 0 45 2 5,uL 1 46 1 45,uT 2 47 0,(3,⟨some 48,.call 20 [.t 47,(.c (.int .i64 5))],none,[(45,1)],[45,47]⟩),oP 4 49
(.bsl 1 1 [.int .i64 (0)] [(0,1,(.t 48))]) [48],oX 5 50 1 8 46 49 [46,49],uF 6 51 2 5,oS 7 1 51 50 [50,51]])) (sK [43] .skip)))))))))))))) (sR [uM 0 52 3 5,oS 1 3 4 52 [5,52]] .ret))))
def C124 : CFn := ⟨53,2,[.m 4 3 true],B124⟩
abbrev B125 : CCode := (sR [oQ 0 2 2 0 [0],oQ 1 3 3 1 [1],oY 2 4 false [4]] (sR [uM 0 5 2 2,uM 1 6 3 3,oK 2 7 126 [.t 5,.t 6] [2,3,5,6],uW 3 8 1 [.int .i64 (0)],oK 4 9 98 [.t 7,.t 8] [7,8],oT 5 4 9 [9]] .ret))
def C125 : CFn := ⟨10,2,[.t 4],B125⟩
abbrev L126_0 : CCode := (.seq (sR [uT 0 30 9,uT 1 31 6,oN 2 32 31 [31],oB 3 33 .lss 30 32 [30,32]] (sC 33 [7,9,33] 0)) (.seq (.block 1 (sR [uT 0 36 7,uT 1 37 6,uT 2 38 9,uI 3 39 1 37 38,oL 4 40 1 39 [39],oK 5 41 98 [.t
36,.t 40] [36,37,38,40]] (.cond (.t 41) (sK [41] (sR [uT 0 42 8,uT 1 43 9,uI 2 44 1 42 43,(3,⟨none,.st 1 (.t 44) (.c (.bool true)),none,[],[42,43,44]⟩)] (.reg false [oT 0 45 5 [5],uT 1 46 6,uT 2 47 9,uI 3 48 1 46 47,oL
4 49 1 48 [48],oP 5 50 (.bsl 1 1 [.nils] [(0,1,(.t 49))]) [46,47,49],oX 6 51 1 24 45 50 [45,50],oT 7 5 51 [51]]))) (sK [41] .skip)))) (sI 34 35 9)))
abbrev L126_2 : CCode := (.seq (sR [uT 0 55 12,uT 1 56 6,oN 2 57 56 [56],oB 3 58 .lss 55 57 [55,57]] (sC 58 [12,58] 4)) (.seq (.block 5 (sR [uT 0 61 8,uT 1 62 12,uI 2 63 1 61 62,oL 3 64 1 63 [61,62,63],oE 4 65 64
[64],oT 5 66 65 [65],wT 6 67 5 66,wT 7 68 10 66,wT 8 69 6 66,wT 9 70 12 66,wI 10 71 1 69 70 66,hL 11 72 1 71 66 [71],hK 12 73 127 [.t 67,.t 68,.t 72] 66 [67,68,69,70,72],hC 13 74 .geq 73 0 66 [73],oA 14 75 66 74
[66,74]] (.cond (.t 75) (sK [11,75] (sR [uT 0 76 8,uT 1 77 12,uI 2 78 1 76 77,(3,⟨none,.st 1 (.t 78) (.c (.bool true)),none,[],[76,77,78]⟩)] (sR [oT 0 79 5 [5],uT 1 80 6,uT 2 81 12,uI 3 82 1 80 81,oL 4 83 1 82 [82],oP 5
84 (.bsl 1 1 [.nils] [(0,1,(.t 83))]) [80,81,83],oX 6 85 1 24 79 84 [79,84],oT 7 5 85 [85]] (.reg false [uY 0 11 true])))) (sK [75] .skip)))) (sI 59 60 12)))
abbrev L126_1 : CCode := (.seq (sR [oT 0 54 11 [11]] (sC 54 [6,8,10,54] 2)) (.block 3 (sR [uY 0 11 false] (sR [uZ 0 12 0] (.block 4 (.loop L126_2))))))
abbrev B126 : CCode := (sR [oQ 0 2 2 0 [0],oQ 1 3 3 1 [1],oV 2 4 [4]] (sR [uW 0 13 1 [.nils],oT 1 5 13 [13]] (.seq (sR [uM 0 14 2 2,uM 1 15 3 3,oK 2 16 56 [.t 14,.t 15] [14,15],oE 3 17 16 [16]] (sD 17 [2,3,17] [oT 0 18
5 [5],oT 1 4 18 [18]])) (sR [uM 0 19 2 2,uF 1 20 1 3,oL 2 21 1 20 [20],oN 3 22 21 [21],oK 4 23 159 [.t 19,.t 22] [19,22],oT 5 6 23 [23]] (sR [uM 0 24 2 2,uM 1 25 3 3,oK 2 26 57 [.t 24,.t 25] [3,24,25],oT 3 7 26 [26]]
(sR [uT 0 27 6,oN 1 28 27 [27],oP 2 29 (.mk 1 1 [.bool false] (.t 28) (.t 28)) [28],oT 3 8 29 [29]] (sL 9 0 L126_0 (sR [uM 0 52 2 2,oK 1 53 58 [.t 52] [2,52],oT 2 10 53 [53]] (.seq (sR [uY 0 11 true] (.block 2 (.loop
L126_1))) (sR [oT 0 86 5 [5],oT 1 4 86 [86]] .ret))))))))))
def C126 : CFn := ⟨87,2,[.t 4],B126⟩
abbrev L127_1 : CCode := (.seq (sR [uT 0 17 9,uT 1 18 1,uT 2 19 7,uI 3 20 1 18 19,oL 4 21 1 20 [20],oN 5 22 21 [18,19,21],oB 6 23 .lss 17 22 [17,22]] (sC 23 [9,23] 2)) (.seq (.block 3 (.reg false [oT 0 26 8 [8],oT 1 27
26 [26],wT 2 28 2 27,wT 3 29 1 27,wT 4 30 7 27,wI 5 31 1 29 30 27,hL 6 32 1 31 27 [31],wT 7 33 9 27,hI 8 34 1 32 33 27 [32],hL 9 35 1 34 27 [29,30,33,34],hK 10 36 80 [.t 28,.t 35] 27 [28,35],hE 11 37 36 27 [36],oA 12 38
27 37 [27,37],oT 13 8 38 [38]])) (sI 24 25 9)))
abbrev L127_2 : CCode := (.seq (sR [uT 0 39 10,uT 1 40 1,uT 2 41 7,uI 3 42 1 40 41,oL 4 43 1 42 [42],oN 5 44 43 [40,41,43],oB 6 45 .lss 39 44 [39,44],oT 7 46 45 [45],wT 8 47 8 46,oA 9 48 46 47 [46,47]] (.cond (.t 48)
(sK [8,48] .skip) (sK [10,48] (.exit 4)))) (.seq (.block 5 (.reg true [uT 0 51 0,uW 1 52 1 [.int .i64 (0)],uT 2 53 2,uT 4 55 1,uT 5 56 7,uI 6 57 1 55 56,uL 7 58 1 57,uT 8 59 10,oI 9 60 1 58 59 [58],uL 10 61 1 60,oP 11
62 (.bsl 1 1 [.int .i64 (0)] [(0,1,(.t 61))]) [61],(3,⟨some 54,.app 1 8 (.t 52) (.t 53),none,[(57,1),(60,1)],[52,53,55,56,57,59,60]⟩),oX 12 63 1 8 54 62 [54,62],oK 13 64 98 [.t 51,.t 63] [51,63],oT 14 8 64 [64]])) (sI
49 50 10)))
abbrev L127_0 : CCode := (.seq (sR [uT 0 11 7,uT 1 12 1,oN 2 13 12 [12],oB 3 14 .lss 11 13 [11,13]] (sC 14 [0,1,2,7,14] 0)) (.seq (.block 1 (sR [uY 0 8 true] (sL 9 2 L127_1 (sL 10 4 L127_2 (sR [oT 0 65 8 [8]] (sD 65
[0,1,2,65] [oT 0 66 7 [7],oT 1 6 66 [66]])))))) (sI 15 16 7)))
abbrev B127 : CCode := (sR [oZ 0 6 0 [6]] (sL 7 0 L127_0 (sR [uZ 0 6 (-1)] .ret)))
def C127 : CFn := ⟨67,3,[.t 6],B127⟩
abbrev B128 : CCode := (sR [oY 0 6 false [6]] (sR [uT 0 7 1,uT 1 8 2,oK 2 9 80 [.t 7,.t 8] [7,8],oE 3 10 9 [9],oT 4 11 10 [10],hT 5 12 0 11 [0],wW 6 13 1 [.int .i64 (0)] 11,hT 7 14 1 11 [1],hX 8 15 1 8 13 14 11
[13,14],hT 9 16 2 11 [2],hG 10 17 (.bsl 1 1 [.int .i64 (0)] [(0,1,(.t 16))]) 11 [16],hX 11 18 1 8 15 17 11 [15,17],hK 12 19 160 [.t 12,.t 18] 11 [12,18],oA 13 20 11 19 [11,19],oT 14 6 20 [20]] .ret))
def C128 : CFn := ⟨21,3,[.t 6],B128⟩
abbrev L129_0 : CCode := (sR [uB 0 10 .lss 9 8] (.seq (sC 10 [0,1,7,8,9,10] 0) (.seq (.block 1 (sR [uT 0 11 9,uI 1 12 1 7 9,oL 2 13 1 12 [12],oT 3 5 11 [11],oT 4 6 13 [13]] (sR [uT 0 14 6,uT 1 15 1,oC 2 16 .sub 15 1
[15],oK 3 17 31 [.t 14,(.c (.int .i64 0)),.t 16] [14,16],oE 4 18 17 [17],oT 5 19 18 [18],vT 6 20 5 19,gC 7 21 .gtr 20 0 19 [20],gT 8 22 21 19 [21],wT 9 23 0 22,hT 10 24 5 22 [5],hC 11 25 .sub 24 1 22 [24],wI 12 26 1 23
25 22,hL 13 27 1 26 22 [23,25,26],hT 14 28 6 22 [6],hB 15 29 .geq 27 28 22 [27,28],gA 16 30 22 29 19 [22,29],oO 17 31 19 30 [19,30]] (sD 31 [0,1,7,8,9,31] [uY 0 4 false])))) (.reg false [oC 0 32 .add 9 1 [9],oT 1 9 32
[32]]))))
abbrev B129 : CCode := (sR [oY 0 4 false [4]] (.seq (sR [uT 0 7 0,uN 1 8 7,uZ 2 9 0] (.block 0 (.loop L129_0))) (sR [uY 0 4 true] .ret)))
def C129 : CFn := ⟨33,2,[.t 4],B129⟩
abbrev B130 : CCode := (sR [oY 0 4 false [4]] (sR [oT 0 5 0 [0],oT 1 6 1 [1],oK 2 7 161 [.t 5,.t 6] [5,6],oC 3 8 .geq 7 0 [7],oT 4 4 8 [8]] .ret))
def C130 : CFn := ⟨9,2,[.t 4],B130⟩
abbrev B131 : CCode := (sR [oQ 0 2 2 0 [0],oY 1 3 false [3]] (sR [uF 0 4 0 2,oL 1 5 1 4 [2,4],uF 2 6 0 1,oL 3 7 1 6 [1,6],oB 4 8 .eql 5 7 [5,7],oT 5 3 8 [8]] .ret))
def C131 : CFn := ⟨9,2,[.t 3],B131⟩
abbrev L132_0 : CCode := (sR [uB 0 37 .lss 36 35] (.seq (sC 37 [0,1,2,4,5,8,34,35,36,37] 0) (.seq (.block 1 (sR [uT 0 38 36,uI 1 39 2 34 36,oM 2 40 2 39 [39],uH 3 10 [.int .i64 (0),.nils],oT 4 9 38 [38],oS 5 2 10 40
[40]] (.seq (sR [uF 0 41 0 10,oL 1 42 1 41 [41],uF 2 43 0 8,oL 3 44 1 43 [43],oB 4 45 .neq 42 44 [42,44]] (.cond (.t 45) (sK [9,10,45] (.exit 1)) (sK [45] .skip))) (sR [uT 0 47 0,uF 1 48 1 8,oL 2 49 1 48 [48],uF 3 50 1
10,oL 4 51 1 50 [50],oK 5 52 71 [.t 47,.t 49,.t 51] [10,47,49,51],oT 6 46 52 [52],uU 7 53 46 0,oU 8 54 46 1 [46],oT 9 11 53 [53],oT 10 12 54 [54]] (sR [oT 0 55 12 [12]] (.cond (.t 55) (sK [55] (.reg true [uL 0 56 1 5,oT
1 57 11 [11],uT 2 58 1,oT 4 60 9 [9],oP 5 61 (.bsl 1 1 [.int .i64 (0)] [(0,1,(.t 60))]) [60],(3,⟨some 59,.call 116 [.t 58],none,[(5,1)],[58]⟩),(6,⟨some 62,.app 1 8 (.t 59) (.t 61),none,[(5,1)],[59,61]⟩),oP 7 63 (.callv
(.t 56) [.t 57,.t 62]) [56,57,62,63]])) (sK [9,11,55] .skip))))))) (.reg false [oC 0 64 .add 36 1 [36],oT 1 36 64 [64]]))))
abbrev B132 : CCode := (.seq (sR [uT 0 13 1,oN 1 14 13 [13],uF 2 15 1 2,oL 3 16 1 15 [15],oN 4 17 16 [16],oB 5 18 .eql 14 17 [14,17]] (.cond (.t 18) (sK [2,4,5,18] (.seq (.reg true [uL 0 19 1 3,oT 1 20 0 [0],oT 3 22 1
[1],(2,⟨some 21,.call 116 [.t 20],none,[(3,1)],[20]⟩),(4,⟨some 23,.call 116 [.t 22],none,[(3,1)],[22]⟩),oP 5 24 (.bld [.nils,.nils] [(0,1,(.t 21)),(1,1,(.t 23))]) [21,23],oP 6 25 (.bsl 2 1 [.nils,.nils] [(0,2,(.t 24))])
[24],oX 7 26 2 48 19 25 [19,25],oS 8 1 3 26 [26]]) .ret)) (sK [18] .skip))) (sR [uF 0 27 1 2,oL 1 28 1 27 [27],uT 2 29 1,oN 3 30 29 [29],oI 4 31 2 28 30 [28],oM 5 32 2 31 [31],uH 6 8 [.int .i64 (0),.nils],oS 7 2 8 32
[30,32]] (sR [uF 0 33 1 4,oL 1 34 1 33 [33],uN 2 35 34,uZ 3 36 0] (.block 0 (.loop L132_0)))))
def C132 : CFn := ⟨65,6,[],B132⟩
abbrev L135_0 : CCode := (sR [uB 0 16 .lss 15 14] (.seq (sC 16 [1,13,14,15,16] 0) (.seq (.block 1 (sR [uI 0 17 2 13 15,oM 1 18 2 17 [17],uH 2 5 [.int .i64 (0),.nils],oS 3 2 5 18 [18]] (.reg true [uF 0 19 1 3,uL 1 20 1
19,uF 2 21 0 5,uL 3 22 1 21,uW 4 23 1 [.int .i64 (0)],uF 5 24 1 5,oL 6 25 1 24 [24],(7,⟨some 26,.app 1 8 (.t 23) (.t 25),none,[(19,1),(21,1)],[5,19,21,23,25]⟩),oP 8 27 (.bld [.int .i64 (0),.nils] [(0,1,(.t 22)),(1,1,(.t
26))]) [22,26],oP 9 28 (.bsl 2 1 [.int .i64 (0),.nils] [(0,2,(.t 27))]) [27],oX 10 29 2 32 20 28 [20,28],uF 11 30 1 3,oS 12 1 30 29 [29,30]]))) (.reg false [oC 0 31 .add 15 1 [15],oT 1 15 31 [31]]))))
abbrev B135 : CCode := (sR [oQ 0 1 2 0 [0],uH 1 2 [.nils,.nils]] (sR [uP 0 6 (.bsl 3 0 [.str [],.int .i64 (0),.int .i64 (0)] []),uF 1 7 0 1,oL 2 8 1 7 [7],oX 3 9 3 32 6 8 [6,8],uW 4 10 2 [.int .i64 (0),.nils],oP 5 11
(.bld [.nils,.nils] [(0,1,(.t 9)),(1,1,(.t 10))]) [9,10],uH 6 3 [.nils,.nils],oS 7 2 3 11 [11]] (.seq (sR [uF 0 12 1 1,oL 1 13 1 12 [12],uN 2 14 13,uZ 3 15 0] (.block 0 (.loop L135_0))) (sR [uM 0 32 2 3,oS 1 2 2 32
[3,32]] .ret))))
def C135 : CFn := ⟨33,1,[.m 2 2 true],B135⟩
abbrev L136_0 : CCode := (sR [uB 0 9 .lss 8 7] (.seq (sC 9 [0,1,7,8,9] 0) (.seq (.block 1 (sR [uT 0 10 8,oT 1 5 10 [10]] (sR [uT 0 11 1,uT 1 12 0,uT 2 13 5,uI 3 14 1 12 13,oL 4 15 1 14 [14],oP 5 16 (.callv (.t 11) [.t
15]) [11,12,13,15]] (.cond (.t 16) (sK [0,1,7,8,16] (sR [oT 0 17 5 [5],oT 1 4 17 [17]] .ret)) (sK [5,16] .skip))))) (.reg false [oC 0 18 .add 8 1 [8],oT 1 8 18 [18]]))))
abbrev B136 : CCode := (sR [oZ 0 4 0 [4]] (.seq (sR [uT 0 6 0,oN 1 7 6 [6],uZ 2 8 0] (.block 0 (.loop L136_0))) (sR [uZ 0 4 (-1)] .ret)))
def C136 : CFn := ⟨19,2,[.t 4],B136⟩
abbrev L137_0 : CCode := (.seq (sR [uT 0 29 12,uF 1 30 1 5,oL 2 31 1 30 [30],oN 3 32 31 [31],oB 4 33 .lss 29 32 [29,32]] (sC 33 [2,3,4,5,6,12,33] 0)) (.seq (.block 1 (.seq (.reg true [uF 0 37 1 6,oL 1 38 1 37 [37],uT 2
39 2,oI 3 40 2 38 39 [38],oM 4 41 2 40 [40],uF 5 42 1 5,oL 6 43 1 42 [42],uT 7 44 12,oI 8 45 2 43 44 [43],oM 9 46 2 45 [45],uT 10 47 3,oK 11 48 73 [.t 41,.t 46,.t 47] [39,41,44,46,47],oT 12 36 48 [48],uU 13 49 36 0,oU
14 50 36 1 [36],oT 15 13 49 [49],oT 16 14 50 [50]]) (sR [oT 0 51 14 [14]] (.cond (.t 51) (sK [51] (.reg true [oT 0 52 11 [11],uM 1 53 2 5,uM 2 54 3 6,uT 3 55 2,oC 4 56 .add 55 1 [55],oT 5 57 13 [13],uW 6 58 1 [.int .i64
(0)],uT 7 59 4,uT 9 61 12,oP 10 62 (.bsl 1 1 [.int .i64 (0)] [(0,1,(.t 61))]) [61],(8,⟨some 60,.app 1 8 (.t 58) (.t 59),none,[(5,2),(6,3)],[58,59]⟩),(11,⟨some 63,.app 1 8 (.t 60) (.t 62),none,[(5,2),(6,3)],[60,62]⟩),oK
12 64 137 [.t 53,.t 54,.t 56,.t 57,.t 63] [53,54,56,57,63],oX 13 65 2 48 52 64 [52,64],oT 14 11 65 [65]])) (sK [13,51] .skip))))) (sI 34 35 12)))
abbrev B137 : CCode := (sR [oQ 0 5 2 0 [0],oQ 1 6 3 1 [1],oV 2 10 [10]] (.seq (sR [uT 0 15 2,uF 1 16 1 6,oL 2 17 1 16 [16],oN 3 18 17 [17],oB 4 19 .eql 15 18 [15,18]] (sD 19 [2,5,6,19] [uW 0 20 1 [.int .i64 (0)],oT 1 21
3 [3],oX 2 22 1 8 20 21 [20,21],uW 3 23 1 [.int .i64 (0)],oT 4 24 4 [4],oX 5 25 1 8 23 24 [23,24],oP 6 26 (.bld [.nils,.nils] [(0,1,(.t 22)),(1,1,(.t 25))]) [22,25],oP 7 27 (.bsl 2 1 [.nils,.nils] [(0,2,(.t 26))])
[26],oT 8 10 27 [27]])) (sR [uW 0 28 2 [.nils,.nils],oT 1 11 28 [28]] (sL 12 0 L137_0 (sR [oT 0 66 11 [11],oT 1 10 66 [66]] .ret)))))
def C137 : CFn := ⟨67,5,[.t 10],B137⟩
abbrev L138_0 : CCode := (.seq (sR [uT 0 24 7,uT 1 25 1,oN 2 26 25 [25],oB 3 27 .lss 24 26 [24,26]] (sC 27 [1,2,7,27] 0)) (.seq (.block 1 (.seq (.reg true [uF 0 30 1 2,oL 1 31 1 30 [30],uT 2 32 1,uT 3 33 7,uI 4 34 1 32
33,oL 5 35 1 34 [32,33,34],oI 6 36 2 31 35 [31],oM 7 37 2 36 [36],uH 8 8 [.int .i64 (0),.nils],oS 9 2 8 37 [35,37]]) (.reg true [uF 0 38 1 6,uL 1 39 1 38,uF 2 40 0 8,uL 3 41 1 40,uW 4 42 1 [.int .i64 (0)],uF 5 43 1 8,oL
6 44 1 43 [43],(7,⟨some 45,.app 1 8 (.t 42) (.t 44),none,[(38,1),(40,1)],[8,38,40,42,44]⟩),oP 8 46 (.bld [.int .i64 (0),.nils] [(0,1,(.t 41)),(1,1,(.t 45))]) [41,45],oP 9 47 (.bsl 2 1 [.int .i64 (0),.nils] [(0,2,(.t
46))]) [46],oX 10 48 2 32 39 47 [39,47],uF 11 49 1 6,oS 12 1 49 48 [48,49]]))) (sI 28 29 7)))
abbrev B138 : CCode := (sR [oQ 0 2 2 0 [0],uH 1 4 [.nils,.nils],oY 2 5 false [5]] (.seq (sR [uM 0 9 2 2,oK 1 10 11 [.t 9] [9],oE 2 11 10 [10],oT 3 12 11 [11],vM 4 13 2 2 12,vT 5 14 1 12,gK 6 15 173 [.t 13,.t 14] 12
[13,14],gE 7 16 15 12 [15],oO 8 17 12 16 [12,16]] (sD 17 [1,2,17] [uP 0 18 (.bld [.nils,.nils] []),oS 1 2 4 18 [18],uY 2 5 false])) (sR [uP 0 19 (.bsl 3 0 [.str [],.int .i64 (0),.int .i64 (0)] []),uF 1 20 0 2,oL 2 21 1
20 [20],oX 3 22 3 32 19 21 [19,21],oP 4 23 (.bld [.nils,.nils] [(0,1,(.t 22))]) [22],uH 5 6 [.nils,.nils],oS 6 2 6 23 [23]] (sL 7 0 L138_0 (sR [uM 0 50 2 6,oS 1 2 4 50 [6,50],uY 2 5 true] .ret)))))
def C138 : CFn := ⟨51,2,[.m 4 2 true,.t 5],B138⟩
abbrev B139 : CCode := (sR [oQ 0 1 2 0 [0],oY 1 2 false [2]] (.seq (.reg true [uM 0 3 2 1,oK 1 4 11 [.t 3] [3],oT 2 5 4 [4],wM 3 6 2 1 5,wF 6 9 1 1 5,wL 7 10 1 9 5,hN 8 11 10 5 [10],(4,⟨some 7,.call 58 [.t 6],some
(5,true),[(9,1)],[1,6,9]⟩),hN 5 8 7 5 [7],hB 9 12 .eql 8 11 5 [8,11],oA 10 13 5 12 [5,12],oT 11 2 13 [13]]) .ret))
def C139 : CFn := ⟨14,1,[.t 2],B139⟩
abbrev B140 : CCode := (sR [oQ 0 4 2 1 [1],oQ 1 5 2 2 [2],oY 2 6 false [6]] (.seq (.reg true [uT 0 7 0,uM 1 8 2 4,oK 2 9 42 [.t 7,.t 8] [7,8],oT 3 10 9 [9],wT 4 11 0 10,wM 5 12 2 5 10,hK 6 13 42 [.t 11,.t 12] 10
[11,12],oA 7 14 10 13 [10,13],oT 8 15 14 [14],wF 9 16 0 4 15,hL 10 17 1 16 15 [16],wF 11 18 0 5 15,hL 12 19 1 18 15 [18],hB 13 20 .eql 17 19 15 [17,19],oA 14 21 15 20 [15,20],oT 15 22 21 [21],wT 16 23 0 22,wM 17 24 2 4
22,wT 19 26 0 22,wM 20 27 2 5 22,(18,⟨some 25,.call 174 [.t 23,.t 24],some (22,true),[(5,2)],[4,23,24]⟩),hK 21 28 174 [.t 26,.t 27] 22 [5,26,27],hK 22 29 81 [.t 25,.t 28] 22 [25,28],hC 23 30 .eql 29 0 22 [29],oA 24 31
22 30 [22,30],oT 25 6 31 [31]]) .ret))
def C140 : CFn := ⟨32,3,[.t 6],B140⟩
abbrev L141_1 : CCode := (.seq (sR [uT 0 14 7,uT 1 15 0,uT 2 16 5,uI 3 17 1 15 16,oL 4 18 1 17 [17],oN 5 19 18 [15,16,18],oB 6 20 .lss 14 19 [14,19]] (sC 20 [7,20] 2)) (.seq (.block 3 (.reg false [oT 0 23 6 [6],oT 1 24
23 [23],wT 2 25 1 24,wT 3 26 0 24,wT 4 27 5 24,wI 5 28 1 26 27 24,hL 6 29 1 28 24 [28],wT 7 30 7 24,hI 8 31 1 29 30 24 [29],hL 9 32 1 31 24 [26,27,30,31],hK 10 33 80 [.t 25,.t 32] 24 [25,32],oA 11 34 24 33 [24,33],oT 12
6 34 [34]])) (sI 21 22 7)))
abbrev L141_0 : CCode := (.seq (sR [uT 0 8 5,uT 1 9 0,oN 2 10 9 [9],oB 3 11 .lss 8 10 [8,10]] (sC 11 [0,1,5,11] 0)) (.seq (.block 1 (sR [uY 0 6 true] (sL 7 2 L141_1 (sR [oT 0 35 6 [6]] (sD 35 [0,1,5,35] [uY 0 4
true]))))) (sI 12 13 5)))
abbrev B141 : CCode := (sR [oY 0 4 false [4]] (sL 5 0 L141_0 (sR [uY 0 4 false] .ret)))
def C141 : CFn := ⟨36,2,[.t 4],B141⟩
abbrev L142_0 : CCode := (.seq (sR [uT 0 10 4,uF 1 11 1 1,oL 2 12 1 11 [11],oN 3 13 12 [12],oB 4 14 .lss 10 13 [10,13]] (sC 14 [1,4,14] 0)) (.seq (.block 1 (.reg true [uF 0 17 1 3,uL 1 18 1 17,uF 2 19 1 1,uL 3 20 1
19,uT 4 21 4,oI 5 22 2 20 21 [20],oF 6 23 0 22 [22],uL 7 24 1 23,uW 8 25 1 [.int .i64 (0)],uF 9 26 1 1,oL 10 27 1 26 [26],uT 11 28 4,oI 12 29 2 27 28 [27],oF 13 30 1 29 [29],oL 14 31 1 30 [30],(15,⟨some 32,.app 1 8 (.t
25) (.t 31),none,[(17,1),(19,1),(23,1)],[17,19,21,23,25,28,31]⟩),oP 16 33 (.bld [.int .i64 (0),.nils] [(0,1,(.t 24)),(1,1,(.t 32))]) [24,32],oP 17 34 (.bsl 2 1 [.int .i64 (0),.nils] [(0,2,(.t 33))]) [33],oX 18 35 2 32
18 34 [18,34],uF 19 36 1 3,oS 20 1 36 35 [35,36]])) (sI 15 16 4)))
abbrev B142 : CCode := (sR [oQ 0 1 2 0 [0],uH 1 2 [.nils,.nils]] (sR [uP 0 5 (.bsl 3 0 [.str [],.int .i64 (0),.int .i64 (0)] []),uF 1 6 0 1,oL 2 7 1 6 [6],oX 3 8 3 32 5 7 [5,7],oP 4 9 (.bld [.nils,.nils] [(0,1,(.t 8))])
[8],uH 5 3 [.nils,.nils],oS 6 2 3 9 [9]] (sL 4 0 L142_0 (sR [uM 0 37 2 3,oS 1 2 2 37 [3,37]] .ret))))
def C142 : CFn := ⟨38,1,[.m 2 2 true],B142⟩
abbrev B143 : CCode := (sR [oQ 0 2 2 0 [0],oQ 1 3 2 1 [1],oY 2 4 false [4]] (sR [uM 0 5 2 2,oK 1 6 11 [.t 5] [5],oT 2 7 6 [6],wM 3 8 2 2 7,wM 4 9 2 3 7,hK 5 10 175 [.t 8,.t 9] 7 [2,3,8,9],hC 6 11 .geq 10 0 7 [10],oA 7
12 7 11 [7,11],oT 8 4 12 [12]] .ret))
def C143 : CFn := ⟨13,2,[.t 4],B143⟩
abbrev L144_2 : CCode := (.seq (sR [uT 0 42 9,uT 1 43 4,oN 2 44 43 [43],oB 3 45 .lss 42 44 [42,44]] (sC 45 [9,45] 4)) (.seq (.block 5 (sR [uT 0 48 4,uT 1 49 9,uI 2 50 1 48 49,oL 3 51 1 50 [48,49,50],uT 4 52 7,oB 5 53
.eql 51 52 [51,52]] (.cond (.t 53) (sK [8,53] (.reg false [uT 0 54 9,oT 1 8 54 [54]])) (sK [53] .skip)))) (sI 46 47 9)))
abbrev L144_1 : CCode := (.seq (sR [uT 0 20 6,uF 1 21 1 3,oL 2 22 1 21 [21],uT 3 23 5,oI 4 24 2 22 23 [22],oF 5 25 1 24 [24],oL 6 26 1 25 [25],oN 7 27 26 [23,26],oB 8 28 .lss 20 27 [20,27]] (sC 28 [6,28] 2)) (.seq
(.block 3 (sR [uF 0 31 1 3,oL 1 32 1 31 [31],uT 2 33 5,oI 3 34 2 32 33 [32],oF 4 35 1 34 [34],oL 5 36 1 35 [35],uT 6 37 6,oI 7 38 1 36 37 [36],oL 8 39 1 38 [33,37,38],oT 9 7 39 [39]] (.seq (sR [uT 0 40 7,oC 1 41 .lss 40
0 [40]] (.cond (.t 41) (sK [7,41] (.exit 3)) (sK [41] .skip))) (sR [uZ 0 8 (-1)] (sL 9 4 L144_2 (.seq (sR [uT 0 55 8,oC 1 56 .lss 55 0 [55]] (.cond (.t 56) (sK [8,56] (sR [uT 0 57 4,oN 1 58 57 [57],oT 2 8 58 [58]] (.reg
false [oT 0 59 4 [4],oT 1 60 7 [7],oP 2 61 (.bsl 1 1 [.int .i64 (0)] [(0,1,(.t 60))]) [60],oX 3 62 1 8 59 61 [59,61],oT 4 4 62 [62]]))) (sK [7,56] .skip))) (.reg false [uF 0 63 1 3,oL 1 64 1 63 [63],uT 2 65 5,oI 3 66 2
64 65 [64],oF 4 67 1 66 [66],oL 5 68 1 67 [67],uT 6 69 6,oT 7 70 8 [8],oI 8 71 1 68 69 [68],oS 9 1 71 70 [65,69,70,71]]))))))) (sI 29 30 6)))
abbrev L144_0 : CCode := (.seq (sR [uT 0 13 5,uF 1 14 1 3,oL 2 15 1 14 [14],oN 3 16 15 [15],oB 4 17 .lss 13 16 [13,16]] (sC 17 [5,17] 0)) (.seq (.block 1 (sR [uZ 0 6 0] (.block 2 (.loop L144_1)))) (sI 18 19 5)))
abbrev B144 : CCode := (sR [oQ 0 1 3 0 [0],uH 1 2 [.int .i64 (0),.nils,.nils]] (sR [uM 0 10 3 1,oK 1 11 105 [.t 10] [1,10],uH 2 3 [.int .i64 (0),.nils,.nils],oS 3 3 3 11 [11]] (sR [uW 0 12 1 [.int .i64 (0)],oT 1 4 12
[12]] (sL 5 0 L144_0 (sR [oT 0 72 4 [4],oN 1 73 72 [72],uF 2 74 0 3,oS 3 1 74 73 [73,74]] (sR [uM 0 75 3 3,oS 1 3 2 75 [3,75]] .ret))))))
def C144 : CFn := ⟨76,1,[.m 2 3 true],B144⟩
abbrev B152 : CCode := (sR [oP 0 2 (.mv (.c (.str []))) [2]] (sR [uT 0 6 0,oK 1 7 179 [.t 6] [6],oT 2 5 7 [7],uU 3 8 5 0,oU 4 9 5 1 [5],oT 5 3 8 [8],oT 6 4 9 [9]] (.seq (sR [oT 0 10 4 [4]] (.cond (.t 10) (sK [0,10] (sR
[oT 0 11 3 [3],oK 1 12 180 [.t 11] [11],oT 2 2 12 [12]] .ret)) (sK [3,10] .skip))) (.seq (sR [uT 0 13 0,oK 1 14 38 [.t 13,(.c (.int .i64 0)),(.c (.int .i64 3))] [13],oE 2 15 14 [14]] (sD 15 [0,15] [uP 0 2 (.mv (.c (.str
[])))])) (sR [uT 0 16 0,oT 1 17 0 [0],oC 2 18 .add 17 1 [17],oP 3 19 (.sst (.c (.str [120,121,122,119])) (some (.t 16)) (some (.t 18))) [16,18],oT 4 2 19 [19]] .ret)))))
def C152 : CFn := ⟨20,1,[.t 2],B152⟩
abbrev L153_0 : CCode := (.seq (sR [uT 0 13 6,uF 1 14 1 3,oL 2 15 1 14 [14],oN 3 16 15 [15],oB 4 17 .lss 13 16 [13,16]] (sC 17 [0,3,6,17] 0)) (.seq (.block 1 (.seq (sR [uT 0 20 6,uT 1 21 0,uF 2 22 0 3,oL 3 23 1 22
[22],uI 4 24 3 21 23,oF 5 25 2 24 [24],oL 6 26 1 25 [21,23,25],oB 7 27 .eql 20 26 [20,26]] (.cond (.t 27) (sK [27] (.reg false [oT 0 28 5 [5],oP 1 29 (.bin .add (.t 28) (.c (.str [124]))) [28],oT 2 5 29 [29]])) (sK [27]
.skip))) (.reg false [oT 0 30 5 [5],uF 1 31 1 3,oL 2 32 1 31 [31],uT 3 33 6,oI 4 34 1 32 33 [32],oL 5 35 1 34 [33,34],oK 6 36 152 [.t 35] [35],oB 7 37 .add 30 36 [30,36],oT 8 5 37 [37]]))) (sI 18 19 6)))
abbrev B153 : CCode := (sR [oQ 0 3 2 1 [1],oP 1 4 (.mv (.c (.str []))) [4]] (sR [uT 0 7 0,uF 1 8 0 3,oL 2 9 1 8 [8],uI 3 10 3 7 9,oF 4 11 0 10 [10],oL 5 12 1 11 [7,9,11],oT 6 5 12 [12]] (sL 6 0 L153_0 (sR [oT 0 38 5
[5],oT 1 4 38 [38]] .ret))))
def C153 : CFn := ⟨39,2,[.t 4],B153⟩
abbrev B154 : CCode := (sR [oY 0 2 false [2]] (sR [oT 0 3 0 [0],oK 1 4 31 [.t 3,(.c (.int .i64 0)),(.c (.int .i64 9))] [3],oE 2 5 4 [4],oT 3 2 5 [5]] .ret))
def C154 : CFn := ⟨6,1,[.t 2],B154⟩
abbrev B155 : CCode := (sR [oZ 0 4 0 [4]] (sR [uT 0 7 0,oK 1 8 181 [.t 7] [7],oT 2 5 8 [8]] (sR [uT 0 9 1,oK 1 10 181 [.t 9] [9],oT 2 6 10 [10]] (.seq (sR [oT 0 11 5 [5]] (.cond (.t 11) (sK [0,1,11] (.seq (sR [oT 0 12 6
[6]] (sD 12 [12] [uZ 0 4 0])) (sR [uZ 0 4 (-1)] .ret))) (sK [11] .skip))) (.seq (sR [oT 0 13 6 [6]] (sD 13 [0,1,13] [uZ 0 4 1])) (.seq (sR [uT 0 14 0,uT 1 15 1,oB 2 16 .lss 14 15 [14,15]] (sD 16 [0,1,16] [uZ 0 4 (-1)]))
(.seq (sR [oT 0 17 0 [0],oT 1 18 1 [1],oB 2 19 .gtr 17 18 [17,18]] (sD 19 [19] [uZ 0 4 1])) (sR [uZ 0 4 0] .ret))))))))
def C155 : CFn := ⟨20,2,[.t 4],B155⟩
abbrev B157 : CCode := (sR [oP 0 4 (.mv (.c (.int .u64 (0)))) [4],oP 1 5 (.mv (.c (.int .u64 (0)))) [5]] (sR [uT 0 14 0,oP 1 15 (.bin .and (.t 14) (.c (.int .u64 (4294967295)))) [14],oT 2 6 15 [15]] (sR [uT 0 16 0,oP 1
17 (.bin .shr (.t 16) (.c (.int .u64 (32)))) [16],oT 2 7 17 [17]] (sR [uT 0 18 1,oP 1 19 (.bin .and (.t 18) (.c (.int .u64 (4294967295)))) [18],oT 2 8 19 [19]] (sR [uT 0 20 1,oP 1 21 (.bin .shr (.t 20) (.c (.int .u64
(32)))) [20],oT 2 9 21 [21]] (sR [uT 0 22 6,uT 1 23 8,oB 2 24 .mul 22 23 [22,23],oT 3 10 24 [24]] (sR [uT 0 25 7,oT 1 26 8 [8],oB 2 27 .mul 25 26 [25,26],oT 3 28 10 [10],oP 4 29 (.bin .shr (.t 28) (.c (.int .u64 (32))))
[28],oB 5 30 .add 27 29 [27,29],oT 6 11 30 [30]] (sR [uT 0 31 11,oP 1 32 (.bin .and (.t 31) (.c (.int .u64 (4294967295)))) [31],oT 2 12 32 [32]] (sR [oT 0 33 11 [11],oP 1 34 (.bin .shr (.t 33) (.c (.int .u64 (32))))
[33],oT 2 13 34 [34]] (sR [oT 0 35 12 [12],oT 1 36 6 [6],uT 2 37 9,oB 3 38 .mul 36 37 [36,37],oB 4 39 .add 35 38 [35,38],oT 5 12 39 [39]] (sR [oT 0 40 7 [7],oT 1 41 9 [9],oB 2 42 .mul 40 41 [40,41],oT 3 43 13 [13],oB 4
44 .add 42 43 [42,43],oT 5 45 12 [12],oP 6 46 (.bin .shr (.t 45) (.c (.int .u64 (32)))) [45],oB 7 47 .add 44 46 [44,46],oT 8 4 47 [47]] (sR [oT 0 48 0 [0],oT 1 49 1 [1],oB 2 50 .mul 48 49 [48,49],oT 3 5 50 [50]]
.ret))))))))))))
def C157 : CFn := ⟨51,2,[.t 4,.t 5],B157⟩
abbrev B158 : CCode := (sR [oV 0 4 [4]] (.seq (sR [uT 0 5 1,oC 1 6 .lss 5 0 [5]] (.cond (.t 6) (sK [6] (.reg false [oP 0 7 .fail [7],(1,⟨none,.fail,none,[],[]⟩)])) (sK [6] .skip))) (.seq (sR [oT 0 8 1 [1],uT 1 9 0,oP 2
10 (.cap (.t 9)) [9],uT 3 11 0,oN 4 12 11 [11],oB 5 13 .sub 10 12 [10,12],oB 6 14 .sub 8 13 [8,13],oT 7 1 14 [14]] (sR [uT 0 15 1,oC 1 16 .gtr 15 0 [15]] (.cond (.t 16) (sK [16] (.reg false [uT 0 17 0,uT 1 18 0,oP 2 19
(.cap (.t 18)) [18],oP 3 20 (.sls 1 (.t 17) none (some (.t 19)) none) [17,19],oT 4 21 1 [1],oP 5 22 (.appm 1 8 [.int .i64 (0)] (.t 20) (.t 21)) [20,21],oT 6 23 0 [0],oN 7 24 23 [23],oP 8 25 (.sls 1 (.t 22) none (some
(.t 24)) none) [22,24],oT 9 0 25 [25]])) (sK [1,16] .skip)))) (sR [oT 0 26 0 [0],oT 1 4 26 [26]] .ret))))
def C158 : CFn := ⟨27,2,[.t 4],B158⟩
abbrev L159_2 : CCode := (.seq (sR [uT 0 61 11,uF 1 62 1 2,oL 2 63 1 62 [62],oN 3 64 63 [63],oB 4 65 .lss 61 64 [61,64]] (sC 65 [11,65] 4)) (.seq (.block 5 (sR [uW 0 68 1 [.int .i64 (0)],uT 1 69 6,uT 2 70 9,uI 3 71 1 69
70,oL 4 72 1 71 [71],oX 5 73 1 8 68 72 [68,69,70,72],uT 6 74 11,oP 7 75 (.bsl 1 1 [.int .i64 (0)] [(0,1,(.t 74))]) [74],oX 8 76 1 8 73 75 [73,75],oT 9 12 76 [76]] (sR [uM 0 77 2 2,uT 1 78 12,oK 2 79 96 [.t 77,.t 78]
[77,78]] (.cond (.t 79) (sK [79] (.reg false [oT 0 80 8 [8],oT 1 81 12 [12],oP 2 82 (.bsl 1 1 [.nils] [(0,1,(.t 81))]) [81],oX 3 83 1 24 80 82 [80,82],oT 4 8 83 [83]])) (sK [12,79] .skip))))) (sI 66 67 11)))
abbrev L159_1 : CCode := (.seq (sR [uT 0 35 9,uT 1 36 6,oN 2 37 36 [36],oB 3 38 .lss 35 37 [35,37]] (sC 38 [6,9,38] 2)) (.seq (.block 3 (sR [uZ 0 10 0] (.seq (sR [uT 0 41 6,uT 1 42 9,uI 2 43 1 41 42,oL 3 44 1 43 [43],oN
4 45 44 [41,42,44],oC 5 46 .gtr 45 0 [45]] (.cond (.t 46) (sK [10,46] (.reg true [uT 0 47 6,uT 1 48 9,uI 2 49 1 47 48,oL 3 50 1 49 [49],uT 4 51 6,uT 5 52 9,uI 6 53 1 51 52,oL 7 54 1 53 [53],oN 8 55 54 [51,52,54],oC 9 56
.sub 55 1 [55],oI 10 57 1 50 56 [50],oL 11 58 1 57 [47,48,56,57],oC 12 59 .add 58 1 [58],oT 13 10 59 [59]])) (sK [46] .skip))) (sR [oT 0 60 10 [10],oT 1 11 60 [60]] (.block 4 (.loop L159_2)))))) (sI 39 40 9)))
abbrev L159_0 : CCode := (.seq (sR [uT 0 29 7,uT 1 30 1,oB 2 31 .lss 29 30 [29,30]] (sC 31 [1,2,6,7,31] 0)) (.seq (.block 1 (sR [uW 0 34 1 [.nils],oT 1 8 34 [34]] (sL 9 2 L159_1 (sR [oT 0 84 5 [5],uT 1 85 8,oX 2 86 1 24
84 85 [84,85],oT 3 5 86 [86]] (.reg false [oT 0 87 8 [8],oT 1 6 87 [87]]))))) (sI 32 33 7)))
abbrev B159 : CCode := (sR [oQ 0 2 2 0 [0],oV 1 4 [4]] (sR [uW 0 13 1 [.nils],oT 1 5 13 [13]] (.seq (sR [uM 0 14 2 2,oK 1 15 11 [.t 14] [14],oE 2 16 15 [15],oT 3 17 16 [16],vT 4 18 1 17,gK 5 19 38 [.t 18,(.c (.int .i64
0)),(.c (.int .i64 3))] 17 [18],gE 6 20 19 17 [19],oO 7 21 17 20 [17,20]] (sD 21 [1,2,21] [oT 0 22 5 [5],oT 1 4 22 [22]])) (sR [uW 0 23 1 [.int .i64 (0)],oP 1 24 (.bsl 1 1 [.nils] [(0,1,(.t 23))]) [23],oT 2 6 24 [24]]
(sR [oT 0 25 5 [5],uW 1 26 1 [.int .i64 (0)],oP 2 27 (.bsl 1 1 [.nils] [(0,1,(.t 26))]) [26],oX 3 28 1 24 25 27 [25,27],oT 4 5 28 [28]] (sL 7 0 L159_0 (sR [oT 0 88 5 [5],oT 1 4 88 [88]] .ret)))))))
def C159 : CFn := ⟨89,2,[.t 4],B159⟩
abbrev L160_0 : CCode := (.seq (sR [uT 0 6 5,uT 1 7 0,oN 2 8 7 [7],oB 3 9 .lss 6 8 [6,8]] (sC 9 [0,1,5,9] 0)) (.seq (.block 1 (sR [uT 0 12 1,uT 1 13 0,uT 2 14 5,uI 3 15 2 13 14,oF 4 16 0 15 [15],oL 5 17 1 16
[13,14,16],oK 6 18 80 [.t 12,.t 17] [12,17],oT 7 19 18 [18],wT 8 20 1 19,wT 9 21 0 19,wT 10 22 5 19,wI 11 23 2 21 22 19,hF 12 24 1 23 19 [23],hL 13 25 1 24 19 [21,22,24],hK 14 26 80 [.t 20,.t 25] 19 [20,25],oA 15 27 19
26 [19,26]] (sD 27 [0,1,5,27] [uY 0 4 false]))) (sI 10 11 5)))
abbrev B160 : CCode := (sR [oY 0 4 false [4]] (sL 5 0 L160_0 (sR [uY 0 4 true] .ret)))
def C160 : CFn := ⟨28,2,[.t 4],B160⟩
abbrev L161_0 : CCode := (sR [uB 0 9 .lss 8 7] (.seq (sC 9 [0,1,7,8,9] 0) (.seq (.block 1 (sR [uT 0 10 8,oT 1 5 10 [10]] (sR [uT 0 11 1,uT 1 12 0,uT 2 13 5,uI 3 14 2 12 13,oM 4 15 2 14 [14],oP 5 16 (.callv (.t 11) [.t
15]) [11,12,13,15]] (.cond (.t 16) (sK [0,1,7,8,16] (sR [oT 0 17 5 [5],oT 1 4 17 [17]] .ret)) (sK [5,16] .skip))))) (.reg false [oC 0 18 .add 8 1 [8],oT 1 8 18 [18]]))))
abbrev B161 : CCode := (sR [oZ 0 4 0 [4]] (.seq (sR [uT 0 6 0,oN 1 7 6 [6],uZ 2 8 0] (.block 0 (.loop L161_0))) (sR [uZ 0 4 (-1)] .ret)))
def C161 : CFn := ⟨19,2,[.t 4],B161⟩
abbrev L173_0 : CCode := (.seq (sR [uT 0 6 5,uT 1 7 1,oN 2 8 7 [7],oB 3 9 .lss 6 8 [6,8]] (sC 9 [1,2,5,9] 0)) (.seq (.block 1 (.seq (.reg true [uT 0 12 1,uT 1 13 5,uI 2 14 1 12 13,oL 3 15 1 14 [12,13,14],uF 4 16 1 2,oL
5 17 1 16 [16],oN 6 18 17 [17],oC 7 19 .sub 18 1 [18],oK 8 20 38 [.t 15,(.c (.int .i64 0)),.t 19] [15,19],oE 9 21 20 [20],oT 10 22 21 [21],vT 11 23 5 22,gC 12 24 .gtr 23 0 22 [23],gT 13 25 24 22 [24],wT 14 26 1 25,wT 15
27 5 25,wI 16 28 1 26 27 25,hL 17 29 1 28 25 [26,27,28],wT 18 30 1 25,wT 19 31 5 25,hC 20 32 .sub 31 1 25 [31],wI 21 33 1 30 32 25,hL 22 34 1 33 25 [30,32,33],hB 23 35 .leq 29 34 25 [29,34],gA 24 36 25 35 22 [25,35],oO
25 37 22 36 [22,36]]) (sD 37 [1,2,5,37] [uY 0 4 false]))) (sI 10 11 5)))
abbrev B173 : CCode := (sR [oQ 0 2 2 0 [0],oY 1 4 false [4]] (sL 5 0 L173_0 (sR [uY 0 4 true] .ret)))
def C173 : CFn := ⟨38,2,[.t 4],B173⟩
abbrev B174 : CCode := (sR [oQ 0 3 2 1 [1],oV 1 4 [4]] (.seq (sR [uT 0 5 0,uM 1 6 2 3,oK 2 7 42 [.t 5,.t 6] [5,6],oE 3 8 7 [7]] (sD 8 [0,3,8] [uW 0 9 1 [.int .i64 (0)],oT 1 4 9 [9]])) (.seq (.reg true [uW 0 10 1 [.int
.i64 (0)],uF 1 11 1 3,oL 2 12 1 11 [11],oT 3 13 0 [0],uF 4 14 0 3,oL 5 15 1 14 [14],uI 6 16 3 13 15,oF 7 17 2 16 [16],oL 8 18 1 17 [13,15,17],oP 9 19 (.sls 1 (.t 12) none (some (.t 18)) none) [3,12,18],oX 10 20 1 8 10
19 [10,19],oT 11 4 20 [20]]) .ret)))
def C174 : CFn := ⟨21,2,[.t 4],B174⟩
abbrev L175_0 : CCode := (.seq (sR [uT 0 6 5,uF 1 7 1 2,oL 2 8 1 7 [7],oN 3 9 8 [8],oB 4 10 .lss 6 9 [6,9]] (sC 10 [2,3,5,10] 0)) (.seq (.block 1 (.seq (.reg true [uF 0 13 1 2,oL 1 14 1 13 [13],uT 2 15 5,oI 3 16 2 14 15
[14],oM 4 17 2 16 [16],uM 5 18 2 3,oK 6 19 43 [.t 17,.t 18] [15,17,18],oC 7 20 .eql 19 0 [19]]) (sD 20 [2,3,20] [oT 0 21 5 [5],oT 1 4 21 [21]]))) (sI 11 12 5)))
abbrev B175 : CCode := (sR [oQ 0 2 2 0 [0],oQ 1 3 2 1 [1],oZ 2 4 0 [4]] (sL 5 0 L175_0 (sR [uZ 0 4 (-1)] .ret)))
def C175 : CFn := ⟨22,2,[.t 4],B175⟩
abbrev B179 : CCode := (sR [oZ 0 2 0 [2],oY 1 3 false [3]] (.seq (sR [uT 0 4 0,oC 1 5 .geq 4 0 [4],oT 2 6 5 [5],vT 3 7 0 6,gG 4 8 (.bin .sub (.c (.int .i64 (-1))) (.t 7)) 6 [7],gK 5 9 38 [.t 8,(.c (.int .i64 0)),(.c
(.int .i64 9))] 6 [8],gE 6 10 9 6 [9],oO 7 11 6 10 [6,10]] (sD 11 [0,11] [uZ 0 2 0,uY 1 3 false])) (sR [oT 0 12 0 [0],oP 1 13 (.bin .sub (.c (.int .i64 (-1))) (.t 12)) [12],oT 2 2 13 [13],uY 3 3 true] .ret)))
def C179 : CFn := ⟨14,1,[.t 2,.t 3],B179⟩
abbrev L180_0 : CCode := (.seq (sR [uT 0 10 0,oC 1 11 .neq 10 0 [10]] (sC 11 [0,11] 0)) (.block 1 (sR [uT 0 12 0,oC 1 13 .rem 12 10 [12],oT 2 5 13 [13]] (.seq (sR [uT 0 14 5,oC 1 15 .lss 14 0 [14]] (.cond (.t 15) (sK
[15] (.reg false [oT 0 16 5 [5],oP 1 17 (.neg (.t 16)) [16],oT 2 5 17 [17]])) (sK [15] .skip))) (sR [oT 0 18 5 [5],oP 1 19 (.bin .add (.c (.int .i64 48)) (.t 18)) [18],oP 2 20 (.conv .u8 (.t 19)) [19],oP 3 21 (.bsl 1 1
[.int .u8 (0)] [(0,1,(.t 20))]) [20],oP 4 22 (.b2s (.t 21)) [21],oT 5 23 3 [3],oB 6 24 .add 22 23 [22,23],oT 7 3 24 [24]] (.reg false [oT 0 25 0 [0],oC 1 26 .quo 25 10 [25],oT 2 0 26 [26]]))))))
abbrev B180 : CCode := (sR [oP 0 2 (.mv (.c (.str []))) [2]] (.seq (sR [uT 0 6 0,oC 1 7 .eql 6 0 [6]] (sD 7 [0,7] [uP 0 2 (.mv (.c (.str [48])))])) (sR [uP 0 3 (.mv (.c (.str [])))] (sR [uT 0 8 0,oC 1 9 .lss 8 0 [8],oT
2 4 9 [9]] (.seq (.block 0 (.loop L180_0)) (.seq (sR [oT 0 27 4 [4]] (sD 27 [27] [oT 0 28 3 [3],oP 1 29 (.bin .add (.c (.str [45])) (.t 28)) [28],oT 2 2 29 [29]])) (sR [oT 0 30 3 [3],oT 1 2 30 [30]] .ret)))))))
def C180 : CFn := ⟨31,1,[.t 2],B180⟩
abbrev B181 : CCode := (sR [oY 0 2 false [2]] (sR [uT 0 3 0,oT 1 4 0 [0],oB 2 5 .neq 3 4 [3,4],oT 3 2 5 [5]] .ret))
def C181 : CFn := ⟨6,1,[.t 2],B181⟩ def Tab (f : Nat) : Option CFn :=
  match f with
  |4=>C4
  |5=>C5
  |11=>C11
  |12=>C12
  |13=>C13
  |14=>C14
  |15=>C15
  |16=>C16
  |17=>C17
  |18=>C18
  |20=>C20
  |21=>C21
  |23=>C23
  |24=>C24
  |25=>C25
  |27=>C27
  |28=>C28
  |30=>C30
  |31=>C31
  |32=>C32
  |34=>C34
  |36=>C36
  |37=>C37
  |38=>C38
  |42=>C42
  |43=>C43
  |44=>C44
  |45=>C45
  |46=>C46
  |47=>C47
  |48=>C48
  |49=>C49
  |50=>C50
  |51=>C51
  |52=>C52
  |53=>C53
  |54=>C54
  |55=>C55
  |56=>C56
  |57=>C57
  |58=>C58
  |59=>C59
  |60=>C60
  |63=>C63
  |64=>C64
  |66=>C66
  |67=>C67
  |68=>C68
  |69=>C69
  |70=>C70
  |71=>C71
  |72=>C72
  |73=>C73
  |74=>C74
  |75=>C75
  |76=>C76
  |77=>C77
  |78=>C78
  |79=>C79
  |80=>C80
  |81=>C81
  |82=>C82
  |83=>C83
  |84=>C84
  |85=>C85
  |86=>C86
  |88=>C88
  |89=>C89
  |90=>C90
  |91=>C91
  |92=>C92
  |93=>C93
  |94=>C94
  |95=>C95
  |96=>C96
  |97=>C97
  |98=>C98
  |99=>C99
  |100=>C100
  |101=>C101
  |102=>C102
  |103=>C103
  |105=>C105
  |108=>C108
  |109=>C109
  |110=>C110
  |111=>C111
  |112=>C112
  |113=>C113
  |114=>C114
  |115=>C115
  |116=>C116
  |117=>C117
  |118=>C118
  |119=>C119
  |120=>C120
  |121=>C121
  |123=>C123
  |124=>C124
  |125=>C125
  |126=>C126
  |127=>C127
  |128=>C128
  |129=>C129
  |130=>C130
  |131=>C131
  |132=>C132
  |135=>C135
  |136=>C136
  |137=>C137
  |138=>C138
  |139=>C139
  |140=>C140
  |141=>C141
  |142=>C142
  |143=>C143
  |144=>C144
  |152=>C152
  |153=>C153
  |154=>C154
  |155=>C155
  |157=>C157
  |158=>C158
  |159=>C159
  |160=>C160
  |161=>C161
  |173=>C173
  |174=>C174
  |175=>C175
  |179=>C179
  |180=>C180
  |181=>C181
  | _ => none
theorem tabOk : TabOk Go.Proofs.Tryz.prog Tab := by
  intro f cf h
  unfold Tab at h
  split at h <;> simp only [Option.some.injEq, reduceCtorEq] at h <;> subst h <;> kernel_rfl

end Go.Proofs.YtamibblcpccjlaaGreatH
