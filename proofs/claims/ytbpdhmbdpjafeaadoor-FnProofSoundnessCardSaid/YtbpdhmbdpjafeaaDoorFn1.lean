import Derived.Test.YtbpdhmbdpjafeaaDoorX3
import Derived.Test.YtbpdhmbdpjafeaaDoorProg
set_option linter.unusedVariables false
set_option maxRecDepth 100000
namespace Go.Proofs.YtbpdhmbdpjafeaaDoorH
open Go
noncomputable abbrev pG := Go.Proofs.Tryd.prog
abbrev sR (l : List (Nat × COper)) (c : CCode) : CCode := .seq (.reg false l) c
abbrev sK (l : List Nat) (c : CCode) : CCode := .seq (.kill l) c
@[simp] abbrev gB (i d : Nat) (o : BinOp) (a b : Nat) (g : Nat) (k : List Nat) : Nat × COper := (i, ⟨some d, .bin o (.t a) (.t b), some (g, false), [], k⟩)
@[simp] abbrev gC (i d : Nat) (o : BinOp) (a : Nat) (n : Int) (g : Nat) (k : List Nat) : Nat × COper := (i, ⟨some d, .bin o (.t a) (.c (.int .i64 n)), some (g, false), [], k⟩)
@[simp] abbrev gE (i d : Nat) (a : Nat) (g : Nat) (k : List Nat) : Nat × COper := (i, ⟨some d, .not (.t a), some (g, false), [], k⟩)
@[simp] abbrev gG (i d : Nat) (p : COp) (g : Nat) (k : List Nat) : Nat × COper := (i, ⟨some d, p, some (g, false), [], k⟩)
@[simp] abbrev gK (i d : Nat) (f : Nat) (l : List Opd) (g : Nat) (k : List Nat) : Nat × COper := (i, ⟨some d, .call f l, some (g, false), [], k⟩)
@[simp] abbrev gL (i d : Nat) (w a : Nat) (g : Nat) (k : List Nat) : Nat × COper := (i, ⟨some d, .ld w false (.t a), some (g, false), [], k⟩)
@[simp] abbrev gN (i d : Nat) (a : Nat) (g : Nat) (k : List Nat) : Nat × COper := (i, ⟨some d, .len (.t a), some (g, false), [], k⟩)
@[simp] abbrev gT (i d : Nat) (a : Nat) (g : Nat) (k : List Nat) : Nat × COper := (i, ⟨some d, .mv (.t a), some (g, false), [], k⟩)
@[simp] abbrev gX (i d : Nat) (w n a b : Nat) (g : Nat) (k : List Nat) : Nat × COper := (i, ⟨some d, .app w n (.t a) (.t b), some (g, false), [], k⟩)
@[simp] abbrev hB (i d : Nat) (o : BinOp) (a b : Nat) (g : Nat) (k : List Nat) : Nat × COper := (i, ⟨some d, .bin o (.t a) (.t b), some (g, true), [], k⟩)
@[simp] abbrev hC (i d : Nat) (o : BinOp) (a : Nat) (n : Int) (g : Nat) (k : List Nat) : Nat × COper := (i, ⟨some d, .bin o (.t a) (.c (.int .i64 n)), some (g, true), [], k⟩)
@[simp] abbrev hE (i d : Nat) (a : Nat) (g : Nat) (k : List Nat) : Nat × COper := (i, ⟨some d, .not (.t a), some (g, true), [], k⟩)
@[simp] abbrev hG (i d : Nat) (p : COp) (g : Nat) (k : List Nat) : Nat × COper := (i, ⟨some d, p, some (g, true), [], k⟩)
@[simp] abbrev hK (i d : Nat) (f : Nat) (l : List Opd) (g : Nat) (k : List Nat) : Nat × COper := (i, ⟨some d, .call f l, some (g, true), [], k⟩)
@[simp] abbrev hL (i d : Nat) (w a : Nat) (g : Nat) (k : List Nat) : Nat × COper := (i, ⟨some d, .ld w false (.t a), some (g, true), [], k⟩)
@[simp] abbrev hN (i d : Nat) (a : Nat) (g : Nat) (k : List Nat) : Nat × COper := (i, ⟨some d, .len (.t a), some (g, true), [], k⟩)
@[simp] abbrev hO (i d : Nat) (a b : Nat) (g : Nat) (k : List Nat) : Nat × COper := (i, ⟨some d, .pick (.t a) (.c (.bool true)) (.t b), some (g, true), [], k⟩)
@[simp] abbrev hT (i d : Nat) (a : Nat) (g : Nat) (k : List Nat) : Nat × COper := (i, ⟨some d, .mv (.t a), some (g, true), [], k⟩)
@[simp] abbrev oA (i d : Nat) (a b : Nat) (k : List Nat) : Nat × COper := (i, ⟨some d, .pick (.t a) (.t b) (.c (.bool false)), none, [], k⟩)
@[simp] abbrev oB (i d : Nat) (o : BinOp) (a b : Nat) (k : List Nat) : Nat × COper := (i, ⟨some d, .bin o (.t a) (.t b), none, [], k⟩)
@[simp] abbrev oC (i d : Nat) (o : BinOp) (a : Nat) (n : Int) (k : List Nat) : Nat × COper := (i, ⟨some d, .bin o (.t a) (.c (.int .i64 n)), none, [], k⟩)
@[simp] abbrev oE (i d : Nat) (a : Nat) (k : List Nat) : Nat × COper := (i, ⟨some d, .not (.t a), none, [], k⟩)
@[simp] abbrev oF (i d : Nat) (w a : Nat) (k : List Nat) : Nat × COper := (i, ⟨some d, .fa w (.t a), none, [], k⟩)
@[simp] abbrev oI (i d : Nat) (w a b : Nat) (k : List Nat) : Nat × COper := (i, ⟨some d, .ia w (.t a) (.t b), none, [], k⟩)
@[simp] abbrev oK (i d : Nat) (f : Nat) (l : List Opd) (k : List Nat) : Nat × COper := (i, ⟨some d, .call f l, none, [], k⟩)
@[simp] abbrev oL (i d : Nat) (w a : Nat) (k : List Nat) : Nat × COper := (i, ⟨some d, .ld w false (.t a), none, [], k⟩)
@[simp] abbrev oN (i d : Nat) (a : Nat) (k : List Nat) : Nat × COper := (i, ⟨some d, .len (.t a), none, [], k⟩)
@[simp] abbrev oO (i d : Nat) (a b : Nat) (k : List Nat) : Nat × COper := (i, ⟨some d, .pick (.t a) (.c (.bool true)) (.t b), none, [], k⟩)
@[simp] abbrev oP (i d : Nat) (p : COp) (k : List Nat) : Nat × COper := (i, ⟨some d, p, none, [], k⟩)
@[simp] abbrev oQ (i d : Nat) (w a : Nat) (k : List Nat) : Nat × COper := (i, ⟨some d, .box w (.t a), none, [], k⟩)
@[simp] abbrev oS (i w a b : Nat) (k : List Nat) : Nat × COper := (i, ⟨none, .st w (.t a) (.t b), none, [], k⟩)
@[simp] abbrev oT (i d : Nat) (a : Nat) (k : List Nat) : Nat × COper := (i, ⟨some d, .mv (.t a), none, [], k⟩)
@[simp] abbrev oU (i d : Nat) (a n : Nat) (k : List Nat) : Nat × COper := (i, ⟨some d, .ex (.t a) n, none, [], k⟩)
@[simp] abbrev oV (i d : Nat) (k : List Nat) : Nat × COper := (i, ⟨some d, .mv (.c .nils), none, [], k⟩)
@[simp] abbrev oX (i d : Nat) (w n a b : Nat) (k : List Nat) : Nat × COper := (i, ⟨some d, .app w n (.t a) (.t b), none, [], k⟩)
@[simp] abbrev oY (i d : Nat) (b : Bool) (k : List Nat) : Nat × COper := (i, ⟨some d, .mv (.c (.bool b)), none, [], k⟩)
@[simp] abbrev oZ (i d : Nat) (n : Int) (k : List Nat) : Nat × COper := (i, ⟨some d, .mv (.c (.int .i64 n)), none, [], k⟩)
@[simp] abbrev uB (i d : Nat) (o : BinOp) (a b : Nat) : Nat × COper := (i, ⟨some d, .bin o (.t a) (.t b), none, [], []⟩)
@[simp] abbrev uH (i d : Nat) (l : List AV) : Nat × COper := (i, ⟨some d, .al l, none, [], []⟩)
@[simp] abbrev uI (i d : Nat) (w a b : Nat) : Nat × COper := (i, ⟨some d, .ia w (.t a) (.t b), none, [], []⟩)
@[simp] abbrev uL (i d : Nat) (w a : Nat) : Nat × COper := (i, ⟨some d, .ld w false (.t a), none, [], []⟩)
@[simp] abbrev uN (i d : Nat) (a : Nat) : Nat × COper := (i, ⟨some d, .len (.t a), none, [], []⟩)
@[simp] abbrev uP (i d : Nat) (p : COp) : Nat × COper := (i, ⟨some d, p, none, [], []⟩)
@[simp] abbrev uT (i d : Nat) (a : Nat) : Nat × COper := (i, ⟨some d, .mv (.t a), none, [], []⟩)
@[simp] abbrev uU (i d : Nat) (a n : Nat) : Nat × COper := (i, ⟨some d, .ex (.t a) n, none, [], []⟩)
@[simp] abbrev uV (i d : Nat) : Nat × COper := (i, ⟨some d, .mv (.c .nils), none, [], []⟩)
@[simp] abbrev uW (i d : Nat) (w : Nat) (l : List AV) : Nat × COper := (i, ⟨some d, .bsl w 0 l [], none, [], []⟩)
@[simp] abbrev uY (i d : Nat) (b : Bool) : Nat × COper := (i, ⟨some d, .mv (.c (.bool b)), none, [], []⟩)
@[simp] abbrev uZ (i d : Nat) (n : Int) : Nat × COper := (i, ⟨some d, .mv (.c (.int .i64 n)), none, [], []⟩)
@[simp] abbrev vI (i d : Nat) (w a b : Nat) (g : Nat) : Nat × COper := (i, ⟨some d, .ia w (.t a) (.t b), some (g, false), [], []⟩)
@[simp] abbrev vT (i d : Nat) (a : Nat) (g : Nat) : Nat × COper := (i, ⟨some d, .mv (.t a), some (g, false), [], []⟩)
@[simp] abbrev vW (i d : Nat) (w : Nat) (l : List AV) (g : Nat) : Nat × COper := (i, ⟨some d, .bsl w 0 l [], some (g, false), [], []⟩)
@[simp] abbrev wG (i d : Nat) (p : COp) (g : Nat) : Nat × COper := (i, ⟨some d, p, some (g, true), [], []⟩)
@[simp] abbrev wI (i d : Nat) (w a b : Nat) (g : Nat) : Nat × COper := (i, ⟨some d, .ia w (.t a) (.t b), some (g, true), [], []⟩)
@[simp] abbrev wT (i d : Nat) (a : Nat) (g : Nat) : Nat × COper := (i, ⟨some d, .mv (.t a), some (g, true), [], []⟩)
abbrev sI (a b x : Nat) : CCode := .reg false [oT 0 a x [x],oC 1 b .add a 1 [a],oT 2 x b [b]]
abbrev sC (t : Nat) (k : List Nat) (n : Nat) : CCode := .cond (.t t) (.seq (.kill [t]) .skip) (.seq (.kill k) (.exit n))
abbrev sD (t : Nat) (k : List Nat) (l : List (Nat × COper)) : CCode := .cond (.t t) (.seq (.kill k) (.seq (.reg false l) .ret)) (.seq (.kill [t]) .skip)
abbrev sL (x k : Nat) (l c : CCode) : CCode := .seq (.seq (.reg false [uZ 0 x 0]) (.block k (.loop l))) c
abbrev B3 : CCode := (sR [oY 0 2 false [2]] (.seq (sR [uT 0 9 0,oK 1 10 4 [.t 9] [9]] (sD 10 [0,10] [uY 0 2 true])) (sR [uT 0 12 0,oK 1 13 5 [.t 12] [12],oT 2 11 13 [13],uU 3 14 11 0,uU 4 15 11 1,oU 5 16 11 2 [11],oT 6
3 14 [14],oT 7 4 15 [15],oT 8 5 16 [16]] (sR [uT 0 17 3,uT 1 18 4,uT 2 19 5,oK 3 20 6 [.t 17,.t 18,.t 19] [17,18,19],oT 4 6 20 [20]] (sR [uT 0 22 0,oK 1 23 7 [.t 22] [22],oT 2 21 23 [23],uU 3 24 21 0,oU 4 25 21 1
[21],oT 5 7 24 [24],oT 6 8 25 [25]] (sR [uT 0 26 6,uT 1 27 3,uT 2 28 4,oT 3 29 5 [5],oK 4 30 8 [.t 27,.t 28,.t 29] [27,28,29],oP 5 31 (.beq false (.t 26) (.t 30)) [26,30],oT 6 32 31 [31],hT 7 33 6 32 [6],hE 8 34 33 32
[33],hT 9 35 34 32 [34],gT 10 36 3 35 [3],gT 11 37 4 35 [4],gK 12 38 9 [.t 36,.t 37] 35 [36,37],gC 13 39 .eql 38 0 35 [38],hO 14 40 35 39 32 [35,39],oA 15 41 32 40 [32,40],oT 16 42 41 [41],wT 17 43 7 42,wT 18 44 8 42,hK
19 45 10 [.t 43,.t 44] 42 [43,44],hT 20 46 7 42 [7],hT 21 47 8 42 [8],hK 22 48 11 [.t 46,.t 47] 42 [46,47],hB 23 49 .eql 45 48 42 [45,48],oA 24 50 42 49 [42,49],oT 25 51 50 [50],wT 26 52 0 51,hK 27 53 13 [.t 52] 51
[52],hK 28 54 12 [.t 53] 51 [53],hT 29 55 0 51 [0],hK 30 56 13 [.t 55] 51 [55],hK 31 57 14 [.t 56] 51 [56],hB 32 58 .eql 54 57 51 [54,57],oA 33 59 51 58 [51,58],oT 34 2 59 [59]] .ret))))))
def C3 : CFn := ⟨60,1,[.t 2],B3⟩
abbrev B4 : CCode := (sR [oY 0 2 false [2]] (sR [oT 0 3 0 [0],oN 1 4 3 [3],oC 2 5 .gtr 4 1048576 [4],oT 3 2 5 [5]] .ret))
def C4 : CFn := ⟨6,1,[.t 2],B4⟩
abbrev B5 : CCode := (sR [oZ 0 2 0 [2],oV 1 3 [3],oV 2 4 [4]] (sR [oT 0 12 0 [0],oK 1 13 15 [.t 12] [12],oT 2 5 13 [13]] (sR [uT 0 15 5,oK 1 16 16 [.t 15] [15],oT 2 14 16 [16],uU 3 17 14 0,oU 4 18 14 1 [14],oT 5 6 17
[17],oT 6 7 18 [18]] (sR [uT 0 20 6,uT 1 21 7,oK 2 22 17 [.t 20,.t 21] [20,21],oT 3 19 22 [22],uU 4 23 19 0,uU 5 24 19 1,oU 6 25 19 2 [19],oT 7 8 23 [8,23],oT 8 9 24 [24],oT 9 10 25 [10,25]] (.seq (sR [uT 0 26 9,oN 1 27
26 [26],oC 2 28 .gtr 27 0 [27],oT 3 29 28 [28],wT 4 30 5 29,hK 5 31 18 [.t 30,(.c (.int .i64 3))] 29 [30],oA 6 32 29 31 [29,31]] (.cond (.t 32) (sK [32] (sR [uT 0 33 5,uT 1 34 9,oN 2 35 34 [34],oK 3 36 19 [.t 33,.t 35]
[33,35],oT 4 11 36 [36]] (sR [uT 0 37 5,oK 1 38 18 [.t 37,(.c (.int .i64 2))] [37]] (.cond (.t 38) (sK [38] (.reg false [uT 0 39 9,oT 1 40 11 [11],oT 2 41 5 [5],uT 3 42 6,oK 4 43 20 [.t 41,.t 42] [41,42],uI 5 44 1 39
40,oS 6 1 44 43 [39,40,43,44]])) (sK [5,38] (.reg true [uT 0 45 9,uT 1 46 11,oP 2 47 (.sls 1 (.t 45) none (some (.t 46)) none) [45,46],oT 3 48 9 [9],oT 4 49 11 [11],oC 5 50 .add 49 1 [49],oP 6 51 (.sls 1 (.t 48) (some
(.t 50)) none none) [48,50],oX 7 52 1 24 47 51 [47,51],oT 8 9 52 [52]])))))) (sK [5,32] .skip))) (sR [oT 0 53 6 [6],oT 1 54 7 [7],oT 2 55 9 [9],oT 3 2 53 [53],oT 4 3 54 [54],oT 5 4 55 [55]] .ret))))))
def C5 : CFn := ⟨56,1,[.t 2,.t 3,.t 4],B5⟩
abbrev L6_0 : CCode := (sR [uB 0 32 .lss 31 30] (.seq (sC 32 [7,29,30,31,32] 0) (.seq (.block 1 (sR [uI 0 33 1 29 31,oL 1 34 1 33 [33],oT 2 9 34 [34]] (.seq (sR [uT 0 36 7,uT 1 37 9,oK 2 38 25 [.t 37] [37],oK 3 39 24
[.t 36,.t 38] [36,38],oT 4 35 39 [39],uU 5 40 35 0,oU 6 41 35 1 [35],oT 7 10 40 [10,40],oT 8 11 41 [41]] (sR [oT 0 42 11 [11],oE 1 43 42 [42]] (sD 43 [2,7,9,29,30,31,43] [uY 0 6 false]))) (.reg false [oT 0 44 7 [7],oT 1
45 9 [9],oP 2 46 (.bsl 1 1 [.nils] [(0,1,(.t 45))]) [45],oX 3 47 1 24 44 46 [44,46],oT 4 7 47 [47]])))) (.reg false [oC 0 48 .add 31 1 [31],oT 1 31 48 [48]]))))
abbrev B6 : CCode := (sR [oY 0 6 false [6]] (.seq (sR [uT 0 12 0,uT 1 13 1,oK 2 14 21 [.t 12,.t 13] [12,13],oE 3 15 14 [14],oT 4 16 15 [15],vT 5 17 2 16,gN 6 18 17 16 [17],gC 7 19 .eql 18 0 16 [18],oO 8 20 16 19
[16,19],oT 9 21 20 [20],gT 10 22 0 21 [0],vT 11 23 2 21,gK 12 24 22 [.t 22,.t 23] 21 [22,23],gE 13 25 24 21 [24],oO 14 26 21 25 [21,25]] (sD 26 [1,2,26] [uY 0 6 false])) (sR [oT 0 27 1 [1],oK 1 28 23 [.t 27] [27],oT 2 7
28 [28]] (.seq (sR [uT 0 29 2,uN 1 30 29,uZ 2 31 0] (.block 0 (.loop L6_0))) (sR [uT 0 49 2,uT 1 50 2,oN 2 51 50 [50],oC 3 52 .sub 51 1 [51],uI 4 53 1 49 52,oL 5 54 1 53 [53],oN 6 55 54 [49,52,54],oC 7 56 .eql 55 0
[55],oT 8 6 56 [56]] .ret)))))
def C6 : CFn := ⟨57,3,[.t 6],B6⟩
abbrev B7 : CCode := (sR [oZ 0 2 0 [2],oV 1 3 [3]] (sR [oT 0 4 0 [0],oK 1 5 26 [.t 4] [4],uU 2 6 5 0,oU 3 7 5 1 [5],oT 4 2 6 [6],oT 5 3 7 [7]] .ret))
def C7 : CFn := ⟨8,1,[.t 2,.t 3],B7⟩
abbrev L8_0 : CCode := (.seq (sR [uT 0 33 8,uT 1 34 2,oN 2 35 34 [34],oB 3 36 .lss 33 35 [33,35]] (sC 36 [0,2,7,8,36] 0)) (.seq (.block 1 (.seq (sR [uT 0 39 0,uT 1 40 2,uT 2 41 8,uI 3 42 1 40 41,oL 4 43 1 42 [42],oK 5
44 28 [.t 39,.t 43] [39,40,41,43],oE 6 45 44 [44]] (sD 45 [0,2,7,8,45] [uY 0 6 false])) (sR [uT 0 47 7,uT 1 48 2,uT 2 49 8,uI 3 50 1 48 49,oL 4 51 1 50 [50],oK 5 52 30 [.t 51] [48,49,51],oK 6 53 29 [.t 47,.t 52]
[47,52],oT 7 46 53 [53],uU 8 54 46 0,oU 9 55 46 1 [46],oT 10 9 54 [9,54],oT 11 10 55 [55]] (.seq (sR [oT 0 56 10 [10],oE 1 57 56 [56]] (sD 57 [0,2,7,8,57] [uY 0 6 false])) (.reg false [oT 0 58 7 [7],uT 1 59 2,uT 2 60
8,uI 3 61 1 59 60,oL 4 62 1 61 [61],oP 5 63 (.bsl 1 1 [.nils] [(0,1,(.t 62))]) [59,60,62],oX 6 64 1 24 58 63 [58,63],oT 7 7 64 [64]]))))) (sI 37 38 8)))
abbrev B8 : CCode := (sR [oY 0 6 false [6]] (.seq (sR [uT 0 11 0,uT 1 12 1,oK 2 13 27 [.t 11,.t 12] [11,12],oE 3 14 13 [13],oT 4 15 14 [14],vT 5 16 2 15,gN 6 17 16 15 [16],gC 7 18 .eql 17 0 15 [17],oO 8 19 15 18
[15,18],oT 9 20 19 [19],vT 10 21 2 20,vT 11 22 2 20,gN 12 23 22 20 [22],gC 13 24 .sub 23 1 20 [23],vI 14 25 1 21 24 20,gL 15 26 1 25 20 [25],gN 16 27 26 20 [21,24,26],gC 17 28 .gtr 27 0 20 [27],oO 18 29 20 28 [20,28]]
(sD 29 [0,1,2,29] [uY 0 6 false])) (sR [uW 0 30 1 [.nils],oT 1 31 1 [1],oX 2 32 1 24 30 31 [30,31],oT 3 7 32 [32]] (sL 8 0 L8_0 (sR [uY 0 6 true] .ret)))))
def C8 : CFn := ⟨65,3,[.t 6],B8⟩
abbrev L9_1 : CCode := (sR [uB 0 23 .lss 22 21] (.seq (sC 23 [7,21,22,23] 2) (.seq (.block 3 (sR [uT 0 24 22,oT 1 8 24 [24]] (.reg false [uT 0 25 6,uT 1 26 8,uT 2 27 7,oT 3 28 8 [8],oB 4 29 .shr 27 28 [27,28],oC 5 30
.and 29 1 [29],oC 6 31 .eql 30 1 [30],uI 7 32 1 25 26,oS 8 1 32 31 [25,26,31,32]]))) (.reg false [oC 0 33 .add 22 1 [22],oT 1 22 33 [33]]))))
abbrev L9_0 : CCode := (sR [uB 0 18 .lss 17 16] (.seq (sC 18 [1,6,16,17,18] 0) (.seq (.block 1 (sR [uT 0 19 17,oT 1 7 19 [19]] (.seq (sR [uT 0 20 6,oN 1 21 20 [20],uZ 2 22 0] (.block 2 (.loop L9_1))) (sR [uT 0 34 1,uT 1
35 6,oK 2 36 31 [.t 34,.t 35] [34,35]] (.cond (.t 36) (sK [36] (sI 37 38 5)) (sK [36] .skip)))))) (.reg false [oC 0 39 .add 17 1 [17],oT 1 17 39 [39]]))))
abbrev B9 : CCode := (sR [oZ 0 4 0 [4]] (.seq (sR [uT 0 9 0,uT 1 10 1,oK 2 11 21 [.t 9,.t 10] [9,10],oE 3 12 11 [11]] (sD 12 [0,1,12] [uZ 0 4 0])) (.seq (.reg true [uT 0 13 0,oP 1 14 (.mk 1 1 [.bool false] (.t 13) (.t
13)) [13],uZ 2 5 0,oT 3 6 14 [14]]) (.seq (sR [oT 0 15 0 [0],oP 1 16 (.bin .shl (.c (.int .i64 1)) (.t 15)) [15],uZ 2 17 0] (.block 0 (.loop L9_0))) (sR [oT 0 40 5 [5],oT 1 4 40 [40]] .ret)))))
def C9 : CFn := ⟨41,2,[.t 4],B9⟩
abbrev L10_0 : CCode := (sR [uB 0 18 .lss 17 16] (.seq (sC 18 [15,16,17,18] 0) (.seq (.block 1 (sR [uI 0 19 1 15 17,oL 1 20 1 19 [19],oT 2 7 20 [20]] (.reg false [oT 0 21 5 [5],oT 1 22 7 [7],oK 2 23 12 [.t 22] [22],oB 3
24 .add 21 23 [21,23],oT 4 5 24 [24]]))) (.reg false [oC 0 25 .add 17 1 [17],oT 1 17 25 [25]]))))
abbrev B10 : CCode := (sR [oP 0 4 (.mv (.c (.str []))) [4]] (.seq (sR [uT 0 8 0,uT 1 9 1,oK 2 10 21 [.t 8,.t 9] [8,9],oE 3 11 10 [10]] (sD 11 [0,1,11] [uP 0 4 (.mv (.c (.str [])))])) (sR [oT 0 12 0 [0],oK 1 13 32 [.t
12] [12],oP 2 14 (.bin .add (.t 13) (.c (.str [58]))) [13],oT 3 5 14 [14]] (.seq (sR [oT 0 15 1 [1],uN 1 16 15,uZ 2 17 0] (.block 0 (.loop L10_0))) (sR [oT 0 26 5 [5],oT 1 4 26 [26]] .ret)))))
def C10 : CFn := ⟨27,2,[.t 4],B10⟩
abbrev L11_0 : CCode := (.seq (sR [uT 0 14 6,uT 1 15 1,oN 2 16 15 [15],oB 3 17 .lss 14 16 [14,16]] (sC 17 [1,6,17] 0)) (.seq (.block 1 (.reg false [oT 0 20 5 [5],uT 1 21 1,uT 2 22 6,uI 3 23 1 21 22,oL 4 24 1 23 [23],oK
5 25 14 [.t 24] [21,22,24],oB 6 26 .add 20 25 [20,25],oT 7 5 26 [26]])) (sI 18 19 6)))
abbrev B11 : CCode := (sR [oP 0 4 (.mv (.c (.str []))) [4]] (.seq (sR [uT 0 7 0,uT 1 8 1,oK 2 9 27 [.t 7,.t 8] [7,8],oE 3 10 9 [9]] (sD 10 [0,1,10] [uP 0 4 (.mv (.c (.str [])))])) (sR [oT 0 11 0 [0],oK 1 12 33 [.t 11]
[11],oP 2 13 (.bin .add (.t 12) (.c (.str [58]))) [12],oT 3 5 13 [13]] (sL 6 0 L11_0 (sR [oT 0 27 5 [5],oT 1 4 27 [27]] .ret)))))
def C11 : CFn := ⟨28,2,[.t 4],B11⟩
abbrev L12_0 : CCode := (sR [uB 0 10 .lss 9 8] (.seq (sC 10 [7,8,9,10] 0) (.seq (.block 1 (sR [uI 0 11 1 7 9,oL 1 12 1 11 [11],oT 2 5 12 [12]] (.reg false [oT 0 13 3 [3],oT 1 14 5 [5],oK 2 15 32 [.t 14] [14],oP 3 16
(.bsl 1 1 [.str []] [(0,1,(.t 15))]) [15],oX 4 17 1 16 13 16 [13,16],oT 5 3 17 [17]]))) (.reg false [oC 0 18 .add 9 1 [9],oT 1 9 18 [18]]))))
abbrev B12 : CCode := (sR [oP 0 2 (.mv (.c (.str []))) [2]] (sR [uP 0 6 (.bsl 1 0 [.str []] []),oT 1 3 6 [6]] (.seq (sR [oT 0 7 0 [0],uN 1 8 7,uZ 2 9 0] (.block 0 (.loop L12_0))) (sR [oT 0 19 3 [3],oP 1 20 (.call 34 [.t
19,(.c (.str [32]))]) [19],oP 2 21 (.bin .add (.c (.str [40])) (.t 20)) [20],oP 3 22 (.bin .add (.t 21) (.c (.str [41]))) [21],oT 4 2 22 [22]] .ret))))
def C12 : CFn := ⟨23,1,[.t 2],B12⟩
abbrev B13 : CCode := (sR [oV 0 2 [2]] (sR [oT 0 6 0 [0],oK 1 7 15 [.t 6] [6],oK 2 8 16 [.t 7] [7],oT 3 5 8 [8],uU 4 9 5 0,oU 5 10 5 1 [5],oT 6 3 9 [3,9],oT 7 4 10 [10]] (.seq (sR [uT 0 11 4,oN 1 12 11 [11],oC 2 13 .eql
12 0 [12]] (sD 13 [4,13] [uW 0 14 1 [.int .i64 (0)],oT 1 2 14 [14]])) (sR [oT 0 15 4 [4],uP 1 16 (.ia 1 (.t 15) (.c (.int .i64 0))),oL 2 17 1 16 [16],oT 3 2 17 [17]] .ret))))
def C13 : CFn := ⟨18,1,[.t 2],B13⟩
abbrev L14_0 : CCode := (.seq (sR [uT 0 5 4,uT 1 6 0,oN 2 7 6 [6],oB 3 8 .lss 5 7 [5,7]] (sC 8 [0,4,8] 0)) (.seq (.block 1 (.seq (sR [uT 0 11 4,oC 1 12 .gtr 11 0 [11]] (.cond (.t 12) (sK [12] (.reg false [oT 0 13 3
[3],oP 1 14 (.bin .add (.t 13) (.c (.str [32]))) [13],oT 2 3 14 [14]])) (sK [12] .skip))) (.reg false [oT 0 15 3 [3],uT 1 16 0,uT 2 17 4,uI 3 18 1 16 17,oL 4 19 1 18 [16,17,18],oK 5 20 33 [.t 19] [19],oB 6 21 .add 15 20
[15,20],oT 7 3 21 [21]]))) (sI 9 10 4)))
abbrev B14 : CCode := (sR [oP 0 2 (.mv (.c (.str []))) [2]] (sR [uP 0 3 (.mv (.c (.str [40])))] (sL 4 0 L14_0 (sR [oT 0 22 3 [3],oP 1 23 (.bin .add (.t 22) (.c (.str [41]))) [22],oT 2 2 23 [23]] .ret))))
def C14 : CFn := ⟨24,1,[.t 2],B14⟩
abbrev L15_0 : CCode := (.seq (sR [uT 0 8 4,uT 1 9 0,oN 2 10 9 [9],oB 3 11 .lss 8 10 [8,10],oT 4 12 11 [11],wT 5 13 4 12,hC 6 14 .lss 13 4000 12 [13],oA 7 15 12 14 [12,14]] (sC 15 [4,15] 0)) (.seq (.block 1 (.reg false
[oT 0 18 3 [3],oC 1 19 .mul 18 131 [18],uT 2 20 0,uT 3 21 4,uI 4 22 1 20 21,oL 5 23 1 22 [20,21,22],oP 6 24 (.conv .i64 (.t 23)) [23],oB 7 25 .add 19 24 [19,24],oC 8 26 .add 25 7 [25],oC 9 27 .and 26 1073741823 [26],oT
10 3 27 [27]])) (sI 16 17 4)))
abbrev B15 : CCode := (sR [oP 0 2 (.mv (.c (.nilp))) [2]] (sR [uT 0 5 0,oN 1 6 5 [5],oP 2 7 (.bin .add (.c (.int .i64 10101)) (.t 6)) [6],oT 3 3 7 [7]] (sL 4 0 L15_0 (sR [oT 0 28 0 [0],oT 1 29 3 [3],oP 2 30 (.bld
[.nils,.int .i64 (0),.int .i64 (0)] [(0,1,(.t 28)),(2,1,(.t 29))]) [28,29],oQ 3 31 3 30 [30],oT 4 2 31 [31]] .ret))))
def C15 : CFn := ⟨32,1,[.t 2],B15⟩
abbrev L16_1 : CCode := (.seq (sR [uT 0 20 8,uT 1 21 4,oB 2 22 .leq 20 21 [20,21]] (sC 22 [8,22] 2)) (.seq (.block 3 (sR [uT 0 25 0,oK 1 26 18 [.t 25,(.c (.int .i64 2))] [25],oT 2 27 26 [26],wT 3 28 7 27,hN 4 29 28 27
[28],hC 5 30 .lss 29 3 27 [29],oA 6 31 27 30 [27,30]] (.cond (.t 31) (sK [31] (.reg false [oT 0 32 7 [7],uT 1 33 8,uT 2 34 0,oK 3 35 19 [.t 34,(.c (.int .i64 2))] [34],oP 4 36 (.bin .mul (.c (.int .i64 2)) (.t 35))
[35],oP 5 37 (.bin .sub (.c (.int .i64 1)) (.t 36)) [36],oB 6 38 .mul 33 37 [33,37],oP 7 39 (.bsl 1 1 [.int .i64 (0)] [(0,1,(.t 38))]) [38],oX 8 40 1 8 32 39 [32,39],oT 9 7 40 [40]])) (sK [31] .skip)))) (sI 23 24 8)))
abbrev L16_0 : CCode := (.seq (sR [uT 0 15 6,oC 1 16 .gtr 15 0 [15]] (sC 16 [6,16] 0)) (.seq (.block 1 (sR [uW 0 19 1 [.int .i64 (0)],oT 1 7 19 [19]] (.seq (sR [uZ 0 8 1] (.block 2 (.loop L16_1))) (.reg false [oT 0 41 5
[5],oT 1 42 7 [7],oP 2 43 (.bsl 1 1 [.nils] [(0,1,(.t 42))]) [42],oX 3 44 1 24 41 43 [41,43],oT 4 5 44 [44]])))) (.reg false [oT 0 17 6 [6],oC 1 18 .sub 17 1 [17],oT 2 6 18 [18]])))
abbrev B16 : CCode := (sR [oZ 0 2 0 [2],oV 1 3 [3]] (sR [uT 0 9 0,oK 1 10 19 [.t 9,(.c (.int .i64 5))] [9],oP 2 11 (.bin .add (.c (.int .i64 1)) (.t 10)) [10],oT 3 4 11 [11]] (sR [uW 0 12 1 [.nils],oT 1 5 12 [12]] (.seq
(sR [uT 0 13 0,oK 1 14 19 [.t 13,(.c (.int .i64 11))] [13],oT 2 6 14 [14]] (.block 0 (.loop L16_0))) (.seq (sR [uT 0 45 5,oN 1 46 45 [45],oC 2 47 .gtr 46 0 [46],oT 3 48 47 [47],wT 4 49 0 48,hK 5 50 18 [.t 49,(.c (.int
.i64 14))] 48 [49],oA 6 51 48 50 [48,50]] (.cond (.t 51) (sK [51] (.reg true [uT 0 52 5,uT 1 53 5,uP 2 54 (.ia 1 (.t 53) (.c (.int .i64 0))),uL 3 55 1 54,uT 4 56 0,uP 5 57 (.bsl 1 5 [.int .i64 (0)] [(0,1,(.c (.int .i64
0))),(1,1,(.c (.int .i64 6))),(2,1,(.c (.int .i64 (-7)))),(3,1,(.c (.int .i64 1))),(4,1,(.c (.int .i64 (-9223372036854775808))))]),(6,⟨some 58,.call 35 [.t 56,.t 57],none,[(54,1)],[54,56,57]⟩),oP 7 59 (.bsl 1 1 [.int
.i64 (0)] [(0,1,(.t 58))]) [58],oX 8 60 1 8 55 59 [53,55,59],uP 9 61 (.ia 1 (.t 52) (.c (.int .i64 0))),oS 10 1 61 60 [52,60,61]])) (sK [51] .skip))) (sR [oT 0 62 4 [4],oT 1 63 5 [5],oT 2 2 62 [62],oT 3 3 63 [63]]
.ret))))))
def C16 : CFn := ⟨64,1,[.t 2,.t 3],B16⟩
abbrev B17 : CCode := (sR [oV 0 4 [4],oV 1 5 [5],oY 2 6 false [6]] (.seq (sR [uT 0 8 0,uT 1 9 1,oK 2 10 27 [.t 8,.t 9] [8,9],oE 3 11 10 [10]] (sD 11 [0,1,11] [uW 0 12 1 [.bool false],uW 1 13 1 [.nils],oT 2 4 12 [12],oT
3 5 13 [13],uY 4 6 false])) (sR [oT 0 14 0 [0],uW 1 15 1 [.nils],oT 2 16 1 [1],oX 3 17 1 24 15 16 [15,16],oP 4 18 (.bld [.int .i64 (0),.nils,.nils,.nils] [(0,1,(.t 14)),(1,1,(.t 17))]) [14,17],oQ 5 19 4 18 [18],oT 6 7
19 [19]] (.seq (sR [uT 0 20 7,uW 1 21 1 [.int .i64 (0)],oK 2 22 36 [.t 20,.t 21] [20,21]] (sD 22 [22] [oT 0 23 7 [7],uP 1 24 (.nc (.t 23)),oF 2 25 3 24 [24],oL 3 26 1 25 [25],uW 4 27 1 [.nils],oT 5 4 26 [26],oT 6 5 27
[27],uY 7 6 true])) (.seq (.reg true [uW 0 28 1 [.bool false],oT 1 29 7 [7],uP 2 30 (.nc (.t 29)),oF 3 31 2 30 [30],oL 4 32 1 31 [31],oT 5 4 28 [28],oT 6 5 32 [32],uY 7 6 false]) .ret)))))
def C17 : CFn := ⟨33,2,[.t 4,.t 5,.t 6],B17⟩
abbrev B18 : CCode := (sR [oY 0 4 false [4]] (sR [uT 0 5 0,oT 1 6 1 [1],oK 2 7 19 [.t 5,.t 6] [5,6],oC 3 8 .eql 7 0 [7],oT 4 4 8 [8]] .ret))
def C18 : CFn := ⟨9,2,[.t 4],B18⟩
abbrev B19 : CCode := (sR [oZ 0 4 0 [4]] (.seq (sR [uT 0 9 1,oC 1 10 .leq 9 0 [9]] (sD 10 [1,10] [uZ 0 4 0])) (.seq (sR [uT 0 11 1,oC 1 12 .leq 11 256 [11]] (sD 12 [12] [uT 0 13 0,oK 1 14 37 [.t 13] [13],oT 2 15 1
[1],oB 3 16 .rem 14 15 [14,15],oT 4 4 16 [16]])) (sR [uT 0 17 0,oK 1 18 37 [.t 17] [17],oT 2 5 18 [18]] (sR [uT 0 19 0,oK 1 20 37 [.t 19] [19],oT 2 6 20 [20]] (sR [uT 0 21 0,oK 1 22 37 [.t 21] [21],oT 2 7 22 [22]] (sR
[uT 0 23 0,oK 1 24 37 [.t 23] [23],oT 2 8 24 [24]] (sR [oT 0 25 5 [5],oC 1 26 .mul 25 16777216 [25],oT 2 27 6 [6],oC 3 28 .mul 27 65536 [27],oB 4 29 .add 26 28 [26,28],oT 5 30 7 [7],oC 6 31 .mul 30 256 [30],oB 7 32 .add
29 31 [29,31],oT 8 33 8 [8],oB 9 34 .add 32 33 [32,33],oT 10 35 1 [1],oB 11 36 .rem 34 35 [34,35],oT 12 4 36 [36]] .ret))))))))
def C19 : CFn := ⟨37,2,[.t 4],B19⟩
abbrev L20_0 : CCode := (.seq (sR [uT 0 8 6,uT 1 9 1,oB 2 10 .leq 8 9 [8,9]] (sC 10 [1,6,10] 0)) (.seq (.block 1 (sR [uT 0 13 0,oK 1 14 18 [.t 13,(.c (.int .i64 3))] [13]] (.cond (.t 14) (sK [14] (.reg false [oT 0 15 5
[5],uT 1 16 6,uT 2 17 0,oK 3 18 19 [.t 17,(.c (.int .i64 2))] [17],oP 4 19 (.bin .mul (.c (.int .i64 2)) (.t 18)) [18],oP 5 20 (.bin .sub (.c (.int .i64 1)) (.t 19)) [19],oB 6 21 .mul 16 20 [16,20],oP 7 22 (.bsl 1 1
[.int .i64 (0)] [(0,1,(.t 21))]) [21],oX 8 23 1 8 15 22 [15,22],oT 9 5 23 [23]])) (sK [14] .skip)))) (sI 11 12 6)))
abbrev B20 : CCode := (sR [oV 0 4 [4]] (sR [uW 0 7 1 [.int .i64 (0)],oT 1 5 7 [7]] (.seq (sR [uZ 0 6 1] (.block 0 (.loop L20_0))) (.seq (sR [uT 0 24 0,oK 1 25 18 [.t 24,(.c (.int .i64 14))] [24]] (sD 25 [25] [oT 0 26 5
[5],uT 1 27 0,uP 2 28 (.bsl 1 3 [.int .i64 (0)] [(0,1,(.c (.int .i64 0))),(1,1,(.c (.int .i64 7))),(2,1,(.c (.int .i64 (-7))))]),oK 3 29 35 [.t 27,.t 28] [27,28],oP 4 30 (.bsl 1 1 [.int .i64 (0)] [(0,1,(.t 29))])
[29],oX 5 31 1 8 26 30 [26,30],oT 6 4 31 [31]])) (sR [oT 0 32 5 [5],oT 1 4 32 [32]] .ret)))))
def C20 : CFn := ⟨33,2,[.t 4],B20⟩
abbrev B21 : CCode := (sR [oY 0 4 false [4]] (sR [uT 0 5 1,oN 1 6 5 [5],oC 2 7 .leq 6 400 [6],oT 3 8 7 [7],hT 4 9 0 8 [0],hT 5 10 1 8 [1],hK 6 11 22 [.t 9,.t 10] 8 [9,10],oA 7 12 8 11 [8,11],oT 8 4 12 [12]] .ret))
def C21 : CFn := ⟨13,2,[.t 4],B21⟩
abbrev B22 : CCode := (sR [oQ 0 2 1 0 [0],oY 1 4 false [4]] (sR [uL 0 5 1 2,oK 1 6 38 [.t 5,(.c (.int .i64 0)),(.c (.int .i64 14))] [5],oT 2 7 6 [6],hT 3 8 1 7 [1],wG 4 9 (.fn 40 [.t 2]) 7,hK 5 10 39 [.t 8,.t 9] 7
[2,8,9],hE 6 11 10 7 [10],oA 7 12 7 11 [7,11],oT 8 4 12 [12]] .ret))
def C22 : CFn := ⟨13,2,[.t 4],B22⟩
abbrev B23 : CCode := (sR [oV 0 2 [2]] (.seq (sR [uT 0 3 0,oP 1 4 (.isnil false (.t 3)) [3]] (sD 4 [0,4] [uV 0 2])) (sR [uW 0 5 1 [.nils],oT 1 6 0 [0],oX 2 7 1 24 5 6 [5,6],oT 3 2 7 [7]] .ret)))
def C23 : CFn := ⟨8,1,[.t 2],B23⟩
abbrev L24_1 : CCode := (sR [uB 0 17 .lss 16 15] (.seq (sC 17 [14,15,16,17] 2) (.seq (.block 3 (sR [uI 0 18 1 14 16,oL 1 19 1 18 [18],oT 2 9 19 [19]] (.seq (sR [uT 0 20 9,uP 1 21 (.fn 43 [.t 6]),oK 2 22 42 [.t 20,.t 21]
[20,21]] (.cond (.t 22) (sK [9,22] (.exit 3)) (sK [22] .skip))) (sR [oT 0 23 9 [9],uL 1 24 1 6,oK 2 25 25 [.t 24] [24],oK 3 26 45 [.t 23,.t 25] [23,25],oT 4 10 26 [26]] (.seq (sR [uT 0 27 10,oN 1 28 27 [27],oC 2 29 .eql
28 0 [28]] (sD 29 [0,7,10,14,15,16,29] [uL 0 30 1 6,oT 1 4 30 [30],uY 2 5 true])) (sR [uT 0 31 10,oN 1 32 31 [31],oC 2 33 .eql 32 1 [32]] (.cond (.t 33) (sK [7,14,15,16,33] (.seq (.reg true [uL 0 34 1 6,oT 1 35 10
[10],uP 2 36 (.ia 1 (.t 35) (.c (.int .i64 0))),oL 3 37 1 36 [35,36],oP 4 38 (.bsl 1 1 [.int .i64 (0)] [(0,1,(.t 37))]) [37],oX 5 39 1 8 34 38 [34,38],oS 6 1 6 39 [39],uY 7 7 true]) (.exit 2))) (sK [10,33] .skip))))))))
(.reg false [oC 0 40 .add 16 1 [16],oT 1 16 40 [40]]))))
abbrev L24_0 : CCode := (.block 1 (sR [uY 0 7 false] (.seq (sR [uT 0 14 0,uN 1 15 14,uZ 2 16 0] (.block 2 (.loop L24_1))) (sR [oT 0 41 7 [7],oE 1 42 41 [41]] (sD 42 [0,42] [uL 0 43 1 6,oT 1 4 43 [43],uY 2 5 false])))))
abbrev B24 : CCode := (sR [oV 0 4 [4],oY 1 5 false [5]] (sR [uW 0 11 1 [.int .i64 (0)],oT 1 12 1 [1],oX 2 13 1 8 11 12 [11,12],uH 3 6 [.nils],oS 4 1 6 13 [13]] (.block 0 (.loop L24_0))))
def C24 : CFn := ⟨44,2,[.t 4,.t 5],B24⟩
abbrev L25_0 : CCode := (sR [uB 0 10 .lss 9 8] (.seq (sC 10 [7,8,9,10] 0) (.seq (.block 1 (sR [uI 0 11 1 7 9,oL 1 12 1 11 [11],oT 2 5 12 [12]] (.reg false [oT 0 13 3 [3],oT 1 14 5 [5],oP 2 15 (.neg (.t 14)) [14],oP 3 16
(.bsl 1 1 [.int .i64 (0)] [(0,1,(.t 15))]) [15],oX 4 17 1 8 13 16 [13,16],oT 5 3 17 [17]]))) (.reg false [oC 0 18 .add 9 1 [9],oT 1 9 18 [18]]))))
abbrev B25 : CCode := (sR [oV 0 2 [2]] (sR [uW 0 6 1 [.int .i64 (0)],oT 1 3 6 [6]] (.seq (sR [oT 0 7 0 [0],uN 1 8 7,uZ 2 9 0] (.block 0 (.loop L25_0))) (sR [oT 0 19 3 [3],oT 1 2 19 [19]] .ret))))
def C25 : CFn := ⟨20,1,[.t 2],B25⟩
abbrev B26 : CCode := (sR [oZ 0 2 0 [2],oV 1 3 [3]] (sR [oT 0 7 0 [0],oK 1 8 15 [.t 7] [7],oK 2 9 16 [.t 8] [8],oT 3 6 9 [9],uU 4 10 6 0,oU 5 11 6 1 [6],oT 6 4 10 [10],oT 7 5 11 [11]] (sR [oT 0 12 4 [4],oT 1 13 5 [5],oT
2 2 12 [12],oT 3 3 13 [13]] .ret)))
def C26 : CFn := ⟨14,1,[.t 2,.t 3],B26⟩
abbrev L27_0 : CCode := (.seq (sR [uT 0 6 5,uT 1 7 1,oN 2 8 7 [7],oB 3 9 .lss 6 8 [6,8]] (sC 9 [5,9] 0)) (.seq (.block 1 (sR [uT 0 12 0,uT 1 13 1,uT 2 14 5,uI 3 15 1 13 14,oL 4 16 1 15 [15],oK 5 17 28 [.t 12,.t 16]
[12,13,14,16],oE 6 18 17 [17]] (sD 18 [0,1,5,18] [uY 0 4 false]))) (sI 10 11 5)))
abbrev B27 : CCode := (sR [oY 0 4 false [4]] (sL 5 0 L27_0 (sR [oT 0 19 0 [0],oK 1 20 46 [.t 19,(.c (.int .i64 0)),(.c (.int .i64 14))] [19],oT 2 21 20 [20],hT 3 22 1 21 [1],hN 4 23 22 21 [22],hC 5 24 .leq 23 400 21
[23],oA 6 25 21 24 [21,24],oT 7 4 25 [25]] .ret)))
def C27 : CFn := ⟨26,2,[.t 4],B27⟩
abbrev L28_1 : CCode := (.seq (sR [uT 0 42 7,uT 1 43 5,oB 2 44 .lss 42 43 [42,43]] (sC 44 [7,44] 2)) (.seq (.block 3 (.seq (.reg true [uT 0 47 1,uT 1 48 7,uI 2 49 1 47 48,oL 3 50 1 49 [47,48,49],uT 4 51 1,uT 5 52 5,uI 6
53 1 51 52,oL 7 54 1 53 [51,52,53],oB 8 55 .eql 50 54 [50,54],oT 9 56 55 [55],vT 10 57 1 56,vT 11 58 7 56,vI 12 59 1 57 58 56,gL 13 60 1 59 56 [57,58,59],vT 14 61 1 56,vT 15 62 5 56,vI 16 63 1 61 62 56,gL 17 64 1 63 56
[61,62,63],gG 18 65 (.neg (.t 64)) 56 [64],gB 19 66 .eql 60 65 56 [60,65],oO 20 67 56 66 [56,66]]) (sD 67 [0,1,5,7,67] [uY 0 4 false]))) (sI 45 46 7)))
abbrev L28_0 : CCode := (.seq (sR [uT 0 8 5,uT 1 9 1,oN 2 10 9 [9],oB 3 11 .lss 8 10 [8,10]] (sC 11 [0,1,5,11] 0)) (.seq (.block 1 (sR [uT 0 14 1,uT 1 15 5,uI 2 16 1 14 15,oL 3 17 1 16 [14,15,16],oP 4 18 (.max (.t 17)
(.c (.int .i64 0))) [17],oT 5 6 18 [18]] (.seq (sR [uT 0 19 1,uT 1 20 5,uI 2 21 1 19 20,oL 3 22 1 21 [19,20,21],oC 4 23 .lss 22 0 [22],oT 5 24 23 [23],wT 6 25 1 24,wT 7 26 5 24,wI 8 27 1 25 26 24,hL 9 28 1 27 24
[25,26,27],wT 10 29 0 24,hG 11 30 (.neg (.t 29)) 24 [29],hB 12 31 .geq 28 30 24 [28,30],oA 13 32 24 31 [24,31]] (.cond (.t 32) (sK [6,32] (.reg false [uT 0 33 1,uT 1 34 5,uI 2 35 1 33 34,oL 3 36 1 35 [33,34,35],oP 4 37
(.neg (.t 36)) [36],oT 5 6 37 [37]])) (sK [32] .skip))) (.seq (sR [oT 0 38 6 [6],uT 1 39 0,oK 2 40 46 [.t 38,(.c (.int .i64 1)),.t 39] [38,39],oE 3 41 40 [40]] (sD 41 [0,1,5,41] [uY 0 4 false])) (sR [uZ 0 7 0] (.block 2
(.loop L28_1))))))) (sI 12 13 5)))
abbrev B28 : CCode := (sR [oY 0 4 false [4]] (sL 5 0 L28_0 (sR [uY 0 4 true] .ret)))
def C28 : CFn := ⟨68,2,[.t 4],B28⟩
abbrev L29_1 : CCode := (.seq (sR [uT 0 15 8,uT 1 16 0,oN 2 17 16 [16],oB 3 18 .lss 15 17 [15,17],oT 4 19 18 [18],wT 5 20 7 19,hE 6 21 20 19 [20],oA 7 22 19 21 [19,21]] (sC 22 [8,22] 2)) (.seq (.block 3 (sR [uT 0 26
0,uT 1 27 8,uI 2 28 1 26 27,oL 3 29 1 28 [28],uT 4 30 6,oK 5 31 47 [.t 29,.t 30] [26,27,29,30],oT 6 25 31 [31],uU 7 32 25 0,oU 8 33 25 1 [25],oT 9 9 32 [32],oT 10 10 33 [33]] (.seq (sR [oT 0 34 10 [10]] (.cond (.t 34)
(sK [9,34] (.exit 3)) (sK [34] .skip))) (.seq (sR [uT 0 35 9,oN 1 36 35 [35],oC 2 37 .eql 36 0 [36]] (sD 37 [0,7,8,9,37] [oT 0 38 6 [6],oT 1 4 38 [38],uY 2 5 true])) (sR [uT 0 39 9,oN 1 40 39 [39],oC 2 41 .eql 40 1
[40]] (.cond (.t 41) (sK [7,41] (sR [oT 0 42 6 [6],oT 1 43 9 [9],uP 2 44 (.ia 1 (.t 43) (.c (.int .i64 0))),oL 3 45 1 44 [43,44],oP 4 46 (.bsl 1 1 [.int .i64 (0)] [(0,1,(.t 45))]) [45],oX 5 47 1 8 42 46 [42,46],oT 6 6
47 [47]] (.reg false [uY 0 7 true]))) (sK [9,41] .skip))))))) (sI 23 24 8)))
abbrev L29_0 : CCode := (.seq (sR [oT 0 14 7 [7]] (sC 14 [0,14] 0)) (.block 1 (sR [uY 0 7 false] (sR [uZ 0 8 0] (.block 2 (.loop L29_1))))))
abbrev B29 : CCode := (sR [oV 0 4 [4],oY 1 5 false [5]] (sR [uW 0 11 1 [.int .i64 (0)],oT 1 12 1 [1],oX 2 13 1 8 11 12 [11,12],oT 3 6 13 [13]] (.seq (sR [uY 0 7 true] (.block 0 (.loop L29_0))) (sR [oT 0 48 6 [6],oT 1 4
48 [48],uY 2 5 false] .ret))))
def C29 : CFn := ⟨49,2,[.t 4,.t 5],B29⟩
abbrev L30_0 : CCode := (.seq (sR [uT 0 6 4,uT 1 7 0,oN 2 8 7 [7],oB 3 9 .lss 6 8 [6,8]] (sC 9 [0,4,9] 0)) (.seq (.block 1 (.reg false [oT 0 12 3 [3],uT 1 13 0,uT 2 14 4,uI 3 15 1 13 14,oL 4 16 1 15 [13,14,15],oP 5 17
(.neg (.t 16)) [16],oP 6 18 (.bsl 1 1 [.int .i64 (0)] [(0,1,(.t 17))]) [17],oX 7 19 1 8 12 18 [12,18],oT 8 3 19 [19]])) (sI 10 11 4)))
abbrev B30 : CCode := (sR [oV 0 2 [2]] (sR [uW 0 5 1 [.int .i64 (0)],oT 1 3 5 [5]] (sL 4 0 L30_0 (sR [oT 0 20 3 [3],oT 1 2 20 [20]] .ret))))
def C30 : CFn := ⟨21,1,[.t 2],B30⟩
abbrev B31 : CCode := (sR [oQ 0 3 1 1 [1],oY 1 4 false [4]] (sR [oT 0 5 0 [0],uP 1 6 (.fn 48 [.t 3]),oK 2 7 39 [.t 5,.t 6] [3,5,6],oE 3 8 7 [7],oT 4 4 8 [8]] .ret))
def C31 : CFn := ⟨9,2,[.t 4],B31⟩
abbrev B32 : CCode := (sR [oP 0 2 (.mv (.c (.str []))) [2]] (sR [oT 0 3 0 [0],oK 1 4 51 [.t 3] [3],oT 2 2 4 [4]] .ret))
def C32 : CFn := ⟨5,1,[.t 2],B32⟩
abbrev L33_0 : CCode := (.seq (sR [uT 0 10 0,oC 1 11 .neq 10 0 [10]] (sC 11 [0,11] 0)) (.block 1 (sR [uT 0 12 0,oC 1 13 .rem 12 10 [12],oT 2 5 13 [13]] (.seq (sR [uT 0 14 5,oC 1 15 .lss 14 0 [14]] (.cond (.t 15) (sK
[15] (.reg false [oT 0 16 5 [5],oP 1 17 (.neg (.t 16)) [16],oT 2 5 17 [17]])) (sK [15] .skip))) (sR [oT 0 18 5 [5],oP 1 19 (.bin .add (.c (.int .i64 48)) (.t 18)) [18],oP 2 20 (.conv .u8 (.t 19)) [19],oP 3 21 (.bsl 1 1
[.int .u8 (0)] [(0,1,(.t 20))]) [20],oP 4 22 (.b2s (.t 21)) [21],oT 5 23 3 [3],oB 6 24 .add 22 23 [22,23],oT 7 3 24 [24]] (.reg false [oT 0 25 0 [0],oC 1 26 .quo 25 10 [25],oT 2 0 26 [26]]))))))
abbrev B33 : CCode := (sR [oP 0 2 (.mv (.c (.str []))) [2]] (.seq (sR [uT 0 6 0,oC 1 7 .eql 6 0 [6]] (sD 7 [0,7] [uP 0 2 (.mv (.c (.str [48])))])) (sR [uP 0 3 (.mv (.c (.str [])))] (sR [uT 0 8 0,oC 1 9 .lss 8 0 [8],oT 2
4 9 [9]] (.seq (.block 0 (.loop L33_0)) (.seq (sR [oT 0 27 4 [4]] (sD 27 [27] [oT 0 28 3 [3],oP 1 29 (.bin .add (.c (.str [45])) (.t 28)) [28],oT 2 2 29 [29]])) (sR [oT 0 30 3 [3],oT 1 2 30 [30]] .ret)))))))
def C33 : CFn := ⟨31,1,[.t 2],B33⟩
abbrev B35 : CCode := (sR [oZ 0 4 0 [4]] (sR [uT 0 5 1,uT 1 6 0,uT 2 7 1,oN 3 8 7 [7],oK 4 9 19 [.t 6,.t 8] [6,8],uI 5 10 1 5 9,oL 6 11 1 10 [5,9,10],oT 7 4 11 [11]] .ret))
def C35 : CFn := ⟨12,2,[.t 4],B35⟩
abbrev L36_0 : CCode := (.seq (sR [uT 0 22 7,uT 1 23 0,uP 2 24 (.nc (.t 23)),oF 3 25 0 24 [24],oL 4 26 1 25 [23,25],oB 5 27 .leq 22 26 [22,26]] (sC 27 [1,7,27] 0)) (.seq (.block 1 (.seq (sR [uT 0 30 5,uT 1 31 7,oK 2 32
56 [.t 30,.t 31] [30,31],oT 3 33 32 [32],vT 4 34 5 33,vT 5 35 7 33,gG 6 36 (.neg (.t 35)) 33 [35],gK 7 37 56 [.t 34,.t 36] 33 [34,36],oO 8 38 33 37 [33,37]] (.cond (.t 38) (sK [38] (.exit 1)) (sK [5,38] .skip))) (.seq
(sR [uT 0 39 0,uW 1 40 1 [.int .i64 (0)],uT 2 41 1,oX 3 42 1 8 40 41 [40,41],uT 4 43 7,oP 5 44 (.bsl 1 1 [.int .i64 (0)] [(0,1,(.t 43))]) [43],oX 6 45 1 8 42 44 [42,44],oK 7 46 36 [.t 39,.t 45] [39,45],oT 8 47 46
[46],vT 9 48 0 47,vW 10 49 1 [.int .i64 (0)] 47,vT 11 50 1 47,gX 12 51 1 8 49 50 47 [49,50],gT 13 52 7 47 [7],gG 14 53 (.neg (.t 52)) 47 [52],gG 15 54 (.bsl 1 1 [.int .i64 (0)] [(0,1,(.t 53))]) 47 [53],gX 16 55 1 8 51
54 47 [51,54],gK 17 56 36 [.t 48,.t 55] 47 [48,55],oO 18 57 47 56 [47,56]] (sD 57 [1,57] [uY 0 4 true])) (sR [uT 0 58 0,oT 1 59 1 [1],oK 2 60 55 [.t 58,.t 59] [58,59,60]] (sR [uY 0 4 false] .ret))))) (sI 28 29 7)))
abbrev L36_1 : CCode := (.seq (sR [uT 0 61 8,uT 1 62 0,uP 2 63 (.nc (.t 62)),oF 3 64 0 63 [63],oL 4 65 1 64 [62,64],oB 5 66 .leq 61 65 [61,65]] (sC 66 [5,8,66] 2)) (.seq (.block 3 (.reg true [uT 0 69 0,uT 1 70 0,uP 2 71
(.nc (.t 70)),oF 3 72 3 71 [71],uL 4 73 1 72,uT 5 74 5,uT 6 75 8,(7,⟨some 76,.call 56 [.t 74,.t 75],none,[(72,1)],[72,74,75]⟩),oP 8 77 (.bsl 1 1 [.bool false] [(0,1,(.t 76))]) [76],oX 9 78 1 1 73 77 [70,73,77],uP 10 79
(.nc (.t 69)),oF 11 80 3 79 [79],oS 12 1 80 78 [69,78,80]])) (sI 67 68 8)))
abbrev B36 : CCode := (sR [oY 0 4 false [4]] (sR [uT 0 10 0,uP 1 11 (.nc (.t 10)),oF 2 12 1 11 [11],oL 3 13 1 12 [12],uT 4 14 1,oK 5 15 29 [.t 13,.t 14] [10,13,14],oT 6 9 15 [15],uU 7 16 9 0,oU 8 17 9 1 [9],oT 9 5 16
[16],oT 10 6 17 [17]] (.seq (sR [oT 0 18 6 [6]] (.cond (.t 18) (sK [5,18] (sR [uT 0 19 0,oT 1 20 1 [1],oK 2 21 55 [.t 19,.t 20] [19,20,21]] (sR [uY 0 4 false] .ret))) (sK [18] .skip))) (.seq (sR [uZ 0 7 1] (.block 0
(.loop L36_0))) (.seq (sR [uZ 0 8 1] (.block 2 (.loop L36_1))) (sR [uY 0 4 true] .ret))))))
def C36 : CFn := ⟨81,2,[.t 4],B36⟩
abbrev B37 : CCode := (sR [oZ 0 2 0 [2]] (sR [uT 0 4 0,uT 1 5 0,uP 2 6 (.nc (.t 5)),oF 3 7 2 6 [6],oL 4 8 1 7 [5,7],oC 5 9 .mul 8 6364136223846793005 [8],oC 6 10 .add 9 1442695040888963407 [9],uP 7 11 (.nc (.t 4)),oF 8
12 2 11 [11],oS 9 1 12 10 [4,10,12]] (.seq (.reg true [uT 0 13 0,uP 1 14 (.nc (.t 13)),oF 2 15 2 14 [14],oL 3 16 1 15 [13,15],oP 4 17 (.bin .shr (.t 16) (.c (.int .u64 (33)))) [16],uT 5 18 0,uP 6 19 (.nc (.t 18)),oF 7
20 2 19 [19],oL 8 21 1 20 [18,20],oP 9 22 (.bin .shr (.t 21) (.c (.int .u64 (45)))) [21],oB 10 23 .xor 17 22 [17,22],oC 11 24 .and 23 255 [23],oT 12 3 24 [24]]) (.seq (.seq (.reg true [uT 0 25 0,uP 1 26 (.nc (.t 25)),oF
2 27 1 26 [26],oL 3 28 1 27 [25,27],uT 4 29 0,uP 5 30 (.nc (.t 29)),oF 6 31 0 30 [30],oL 7 32 1 31 [31],oN 8 33 32 [29,32],oB 9 34 .lss 28 33 [28,33]]) (.cond (.t 34) (sK [34] (.seq (.reg true [oT 0 35 3 [3],uT 1 36
0,uP 2 37 (.nc (.t 36)),oF 3 38 0 37 [37],oL 4 39 1 38 [38],uT 5 40 0,uP 6 41 (.nc (.t 40)),oF 7 42 1 41 [41],oL 8 43 1 42 [40,42],oI 9 44 1 39 43 [39],oL 10 45 1 44 [36,43,44],oP 11 46 (.conv .i64 (.t 45)) [45],oB 12
47 .add 35 46 [35,46],oC 13 48 .and 47 255 [47],oT 14 3 48 [48]]) (.reg false [uT 0 49 0,uT 1 50 0,uP 2 51 (.nc (.t 50)),oF 3 52 1 51 [51],oL 4 53 1 52 [50,52],oC 5 54 .add 53 1 [53],uP 6 55 (.nc (.t 49)),oF 7 56 1 55
[55],oS 8 1 56 54 [49,54,56]]))) (sK [34] .skip))) (sR [oT 0 57 3 [3],oT 1 2 57 [57]] .ret)))))
def C37 : CFn := ⟨58,1,[.t 2],B37⟩
abbrev B38 : CCode := (sR [oY 0 6 false [6]] (sR [oT 0 7 1 [1],uT 1 8 0,oB 2 9 .leq 7 8 [7,8],oT 3 10 9 [9],hT 4 11 0 10 [0],hT 5 12 2 10 [2],hB 6 13 .leq 11 12 10 [11,12],oA 7 14 10 13 [10,13],oT 8 6 14 [14]] .ret))
def C38 : CFn := ⟨15,3,[.t 6],B38⟩
abbrev B39 : CCode := (sR [oY 0 4 false [4]] (sR [oT 0 5 0 [0],oT 1 6 1 [1],oK 2 7 57 [.t 5,.t 6] [5,6],oC 3 8 .geq 7 0 [7],oT 4 4 8 [8]] .ret))
def C39 : CFn := ⟨9,2,[.t 4],B39⟩
abbrev B40 : CCode := (sR [oY 0 3 false [3]] (sR [oL 0 4 1 1 [1],oT 1 5 0 [0],oK 2 6 41 [.t 4,.t 5] [4,5],oE 3 7 6 [6],oT 4 3 7 [7]] .ret))
def C40 : CFn := ⟨8,2,[.t 3],B40⟩
abbrev L41_0 : CCode := (sR [uB 0 10 .lss 9 8] (.seq (sC 10 [0,1,7,8,9,10] 0) (.seq (.block 1 (sR [uT 0 11 9,uI 1 12 1 7 9,oL 2 13 1 12 [12],oT 3 5 11 [11],oT 4 6 13 [13]] (sR [uT 0 14 6,oC 1 15 .eql 14 0 [14],oT 2 16
15 [15],vT 3 17 6 16,vT 4 18 0 16,gG 5 19 (.neg (.t 18)) 16 [18],vT 6 20 0 16,gK 7 21 38 [.t 17,.t 19,.t 20] 16 [17,19,20],gE 8 22 21 16 [21],oO 9 23 16 22 [16,22],oT 10 24 23 [23],vT 11 25 1 24,vT 12 26 5 24,gG 13 27
(.sls 1 (.t 25) none (some (.t 26)) none) 24 [25,26],vT 14 28 6 24,gK 15 29 44 [.t 27,.t 28] 24 [27,28],oO 16 30 24 29 [24,29],oT 17 31 30 [30],vT 18 32 1 31,gT 19 33 5 31 [5],gG 20 34 (.sls 1 (.t 32) none (some (.t
33)) none) 31 [32,33],gT 21 35 6 31 [6],gG 22 36 (.neg (.t 35)) 31 [35],gK 23 37 44 [.t 34,.t 36] 31 [34,36],oO 24 38 31 37 [31,37]] (sD 38 [0,1,7,8,9,38] [uY 0 4 false])))) (.reg false [oC 0 39 .add 9 1 [9],oT 1 9 39
[39]]))))
abbrev B41 : CCode := (sR [oY 0 4 false [4]] (.seq (sR [uT 0 7 1,uN 1 8 7,uZ 2 9 0] (.block 0 (.loop L41_0))) (sR [uY 0 4 true] .ret)))
def C41 : CFn := ⟨40,2,[.t 4],B41⟩
abbrev B42 : CCode := (sR [oY 0 4 false [4]] (sR [oT 0 5 0 [0],oT 1 6 1 [1],oK 2 7 58 [.t 5,.t 6] [5,6],oC 3 8 .geq 7 0 [7],oT 4 4 8 [8]] .ret))
def C42 : CFn := ⟨9,2,[.t 4],B42⟩
abbrev B43 : CCode := (sR [oY 0 3 false [3]] (sR [uL 0 4 1 1,oT 1 5 0 [0],oK 2 6 44 [.t 4,.t 5] [1,4,5],oT 3 3 6 [6]] .ret))
def C43 : CFn := ⟨7,2,[.t 3],B43⟩
abbrev B44 : CCode := (sR [oY 0 4 false [4]] (sR [oT 0 5 0 [0],oT 1 6 1 [1],oK 2 7 59 [.t 5,.t 6] [5,6],oC 3 8 .geq 7 0 [7],oT 4 4 8 [8]] .ret))
def C44 : CFn := ⟨9,2,[.t 4],B44⟩
abbrev L45_0 : CCode := (sR [uB 0 12 .lss 11 10] (.seq (sC 12 [1,9,10,11,12] 0) (.seq (.block 1 (sR [uI 0 13 1 9 11,oL 1 14 1 13 [13],oT 2 7 14 [14]] (sR [uT 0 15 1,uT 1 16 7,oK 2 17 44 [.t 15,.t 16] [15,16],oE 3 18 17
[17]] (.cond (.t 18) (sK [18] (.reg false [oT 0 19 5 [5],oT 1 20 7 [7],oP 2 21 (.bsl 1 1 [.int .i64 (0)] [(0,1,(.t 20))]) [20],oX 3 22 1 8 19 21 [19,21],oT 4 5 22 [22]])) (sK [7,18] .skip))))) (.reg false [oC 0 23 .add
11 1 [11],oT 1 11 23 [23]]))))
abbrev B45 : CCode := (sR [oV 0 4 [4]] (sR [uW 0 8 1 [.int .i64 (0)],oT 1 5 8 [8]] (.seq (sR [oT 0 9 0 [0],uN 1 10 9,uZ 2 11 0] (.block 0 (.loop L45_0))) (sR [oT 0 24 5 [5],oT 1 4 24 [24]] .ret))))
def C45 : CFn := ⟨25,2,[.t 4],B45⟩
abbrev B46 : CCode := (sR [oY 0 6 false [6]] (sR [uT 0 7 0,oT 1 8 1 [1],oB 2 9 .geq 7 8 [7,8],oT 3 10 9 [9],hT 4 11 0 10 [0],hT 5 12 2 10 [2],hB 6 13 .leq 11 12 10 [11,12],oA 7 14 10 13 [10,13],oT 8 6 14 [14]] .ret))
def C46 : CFn := ⟨15,3,[.t 6],B46⟩
abbrev L47_0 : CCode := (.seq (sR [uT 0 9 7,uT 1 10 0,oN 2 11 10 [10],oB 3 12 .lss 9 11 [9,11]] (sC 12 [0,1,7,12] 0)) (.seq (.block 1 (.seq (sR [uT 0 15 1,uT 1 16 0,uT 2 17 7,uI 3 18 1 16 17,oL 4 19 1 18 [16,17,18],oK 5
20 56 [.t 15,.t 19] [15,19]] (sD 20 [0,1,7,20] [oT 0 21 6 [6],oT 1 4 21 [21],uY 2 5 true])) (sR [uT 0 22 1,uT 1 23 0,uT 2 24 7,uI 3 25 1 23 24,oL 4 26 1 25 [23,24,25],oP 5 27 (.neg (.t 26)) [26],oK 6 28 56 [.t 22,.t 27]
[22,27],oE 7 29 28 [28]] (.cond (.t 29) (sK [29] (.reg false [oT 0 30 6 [6],uT 1 31 0,uT 2 32 7,uI 3 33 1 31 32,oL 4 34 1 33 [31,32,33],oP 5 35 (.bsl 1 1 [.int .i64 (0)] [(0,1,(.t 34))]) [34],oX 6 36 1 8 30 35
[30,35],oT 7 6 36 [36]])) (sK [29] .skip))))) (sI 13 14 7)))
abbrev B47 : CCode := (sR [oV 0 4 [4],oY 1 5 false [5]] (sR [uW 0 8 1 [.int .i64 (0)],oT 1 6 8 [8]] (sL 7 0 L47_0 (sR [oT 0 37 6 [6],oT 1 4 37 [37],uY 2 5 false] .ret))))
def C47 : CFn := ⟨38,2,[.t 4,.t 5],B47⟩
abbrev B48 : CCode := (sR [oY 0 3 false [3]] (sR [oT 0 4 0 [0],uP 1 5 (.fn 49 [.t 1]),oK 2 6 42 [.t 4,.t 5] [1,4,5],oE 3 7 6 [6],oT 4 3 7 [7]] .ret))
def C48 : CFn := ⟨8,2,[.t 3],B48⟩
abbrev B49 : CCode := (sR [oY 0 3 false [3]] (sR [uL 0 4 1 1,oT 1 5 0 [0],oK 2 6 50 [.t 4,.t 5] [1,4,5],oT 3 3 6 [6]] .ret))
def C49 : CFn := ⟨7,2,[.t 3],B49⟩
abbrev B50 : CCode := (sR [oY 0 4 false [4]] (.seq (sR [uT 0 5 1,oC 1 6 .gtr 5 0 [5]] (sD 6 [6] [uT 0 7 1,uT 1 8 0,oN 2 9 8 [8],oB 3 10 .leq 7 9 [7,9],oT 4 11 10 [10],hT 5 12 0 11 [0],hT 6 13 1 11 [1],hC 7 14 .sub 13 1
11 [13],wI 8 15 1 12 14 11,hL 9 16 1 15 11 [12,14,15],oA 10 17 11 16 [11,16],oT 11 4 17 [17]])) (sR [uT 0 18 1,oC 1 19 .lss 18 0 [18],oT 2 20 19 [19],wT 3 21 1 20,wT 4 22 0 20,hN 5 23 22 20 [22],hG 6 24 (.neg (.t 23))
20 [23],hB 7 25 .geq 21 24 20 [21,24],oA 8 26 20 25 [20,25],oT 9 27 26 [26],hT 10 28 0 27 [0],hT 11 29 1 27 [1],hG 12 30 (.neg (.t 29)) 27 [29],hC 13 31 .sub 30 1 27 [30],wI 14 32 1 28 31 27,hL 15 33 1 32 27
[28,31,32],hE 16 34 33 27 [33],oA 17 35 27 34 [27,34],oT 18 4 35 [35]] .ret)))
def C50 : CFn := ⟨36,2,[.t 4],B50⟩
abbrev B55 : CCode := (sR [oT 0 5 1 [1],oK 1 6 30 [.t 5] [5],oT 2 4 6 [6]] (sR [uT 0 7 0,uT 1 8 0,uP 2 9 (.nc (.t 8)),oF 3 10 1 9 [9],oL 4 11 1 10 [10],uT 5 12 4,oP 6 13 (.bsl 1 1 [.nils] [(0,1,(.t 12))]) [12],oX 7 14 1
24 11 13 [8,11,13],uP 8 15 (.nc (.t 7)),oF 9 16 1 15 [15],oS 10 1 16 14 [7,14,16]] (.reg false [uT 0 17 0,uT 1 18 0,uP 2 19 (.nc (.t 18)),oF 3 20 2 19 [19],oL 4 21 1 20 [20],oT 5 22 4 [4],oP 6 23 (.bsl 1 1 [.nils]
[(0,1,(.t 22))]) [22],oX 7 24 1 24 21 23 [18,21,23],uP 8 25 (.nc (.t 17)),oF 9 26 2 25 [25],oS 10 1 26 24 [17,24,26]])))
def C55 : CFn := ⟨27,2,[],B55⟩
abbrev L56_0 : CCode := (.seq (sR [uT 0 6 5,uT 1 7 0,oN 2 8 7 [7],oB 3 9 .lss 6 8 [6,8]] (sC 9 [0,1,5,9] 0)) (.seq (.block 1 (sR [uT 0 12 0,uT 1 13 5,uI 2 14 1 12 13,oL 3 15 1 14 [12,13,14],uT 4 16 1,oB 5 17 .eql 15 16
[15,16]] (sD 17 [0,1,5,17] [uY 0 4 true]))) (sI 10 11 5)))
abbrev B56 : CCode := (sR [oY 0 4 false [4]] (sL 5 0 L56_0 (sR [uY 0 4 false] .ret)))
def C56 : CFn := ⟨18,2,[.t 4],B56⟩
abbrev L57_0 : CCode := (sR [uB 0 9 .lss 8 7] (.seq (sC 9 [0,1,7,8,9] 0) (.seq (.block 1 (sR [uT 0 10 8,oT 1 5 10 [10]] (sR [uT 0 11 1,uT 1 12 0,uT 2 13 5,uI 3 14 1 12 13,oL 4 15 1 14 [14],oP 5 16 (.callv (.t 11) [.t
15]) [11,12,13,15]] (.cond (.t 16) (sK [0,1,7,8,16] (sR [oT 0 17 5 [5],oT 1 4 17 [17]] .ret)) (sK [5,16] .skip))))) (.reg false [oC 0 18 .add 8 1 [8],oT 1 8 18 [18]]))))
abbrev B57 : CCode := (sR [oZ 0 4 0 [4]] (.seq (sR [uT 0 6 0,oN 1 7 6 [6],uZ 2 8 0] (.block 0 (.loop L57_0))) (sR [uZ 0 4 (-1)] .ret)))
def C57 : CFn := ⟨19,2,[.t 4],B57⟩
abbrev L58_0 : CCode := (sR [uB 0 9 .lss 8 7] (.seq (sC 9 [0,1,7,8,9] 0) (.seq (.block 1 (sR [uT 0 10 8,oT 1 5 10 [10]] (sR [uT 0 11 1,uT 1 12 0,uT 2 13 5,uI 3 14 1 12 13,oL 4 15 1 14 [12,13,14],oP 5 16 (.callv (.t 11)
[.t 15]) [11,15]] (.cond (.t 16) (sK [0,1,7,8,16] (sR [oT 0 17 5 [5],oT 1 4 17 [17]] .ret)) (sK [5,16] .skip))))) (.reg false [oC 0 18 .add 8 1 [8],oT 1 8 18 [18]]))))
abbrev B58 : CCode := (sR [oZ 0 4 0 [4]] (.seq (sR [uT 0 6 0,oN 1 7 6 [6],uZ 2 8 0] (.block 0 (.loop L58_0))) (sR [uZ 0 4 (-1)] .ret)))
def C58 : CFn := ⟨19,2,[.t 4],B58⟩
abbrev L59_0 : CCode := (sR [uB 0 9 .lss 8 7] (.seq (sC 9 [0,1,7,8,9] 0) (.seq (.block 1 (sR [uT 0 10 8,oT 1 5 10 [10]] (sR [uT 0 11 1,uT 1 12 0,uT 2 13 5,uI 3 14 1 12 13,oL 4 15 1 14 [12,13,14],oB 5 16 .eql 11 15
[11,15]] (.cond (.t 16) (sK [0,1,7,8,16] (sR [oT 0 17 5 [5],oT 1 4 17 [17]] .ret)) (sK [5,16] .skip))))) (.reg false [oC 0 18 .add 8 1 [8],oT 1 8 18 [18]]))))
abbrev B59 : CCode := (sR [oZ 0 4 0 [4]] (.seq (sR [uT 0 6 0,oN 1 7 6 [6],uZ 2 8 0] (.block 0 (.loop L59_0))) (sR [uZ 0 4 (-1)] .ret)))
def C59 : CFn := ⟨19,2,[.t 4],B59⟩ def Tab (f : Nat) : Option CFn :=
  match f with
  |3=>C3
  |4=>C4
  |5=>C5
  |6=>C6
  |7=>C7
  |8=>C8
  |9=>C9
  |10=>C10
  |11=>C11
  |12=>C12
  |13=>C13
  |14=>C14
  |15=>C15
  |16=>C16
  |17=>C17
  |18=>C18
  |19=>C19
  |20=>C20
  |21=>C21
  |22=>C22
  |23=>C23
  |24=>C24
  |25=>C25
  |26=>C26
  |27=>C27
  |28=>C28
  |29=>C29
  |30=>C30
  |31=>C31
  |32=>C32
  |33=>C33
  |35=>C35
  |36=>C36
  |37=>C37
  |38=>C38
  |39=>C39
  |40=>C40
  |41=>C41
  |42=>C42
  |43=>C43
  |44=>C44
  |45=>C45
  |46=>C46
  |47=>C47
  |48=>C48
  |49=>C49
  |50=>C50
  |55=>C55
  |56=>C56
  |57=>C57
  |58=>C58
  |59=>C59
  | _ => none
theorem tabOk : TabOk Go.Proofs.Tryd.prog Tab := by
  intro f cf h
  unfold Tab at h
  split at h <;> simp only [Option.some.injEq, reduceCtorEq] at h <;> subst h <;> kernel_rfl

end Go.Proofs.YtbpdhmbdpjafeaaDoorH
