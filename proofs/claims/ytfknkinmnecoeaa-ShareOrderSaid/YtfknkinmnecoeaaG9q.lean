/- Cut down from a longer text. -/
import Derived.Test.YtfknkinmnecoeaaG8q
import Derived.Test.YtfknkinmnecoeaaProg
set_option linter.unusedVariables false
set_option maxRecDepth 100000
namespace Go.Proofs.Ytfknkinmnecoeaa.D
open Go Go.Proofs Go.Proofs.Ytfknkinmnecoeaa.L
noncomputable def T10 (F14 : Y37) (F15 : Y194) (F24 : Y212) (F17 : Y175) (F21 : Y178) (F32 : Y325) (F31 : Y292) : List FEnt := [⟨14, sh14, F14⟩, ⟨15, sh15, F15⟩, ⟨24, sh24, F24⟩, ⟨17, sh17, F17⟩, ⟨21, sh21, F21⟩, ⟨32, sh32, F32⟩, ⟨31, sh31, F31⟩]
theorem t10 : DTblOK Try.prog (T10 P14 P15 P24 P17 P21 P32 P31) := (DTbl_cons' (f := 14) (sh := sh14) (F := P14) d14 (by kernel_rfl) (DTbl_cons' (f := 15) (sh := sh15) (F := P15) d15 (by kernel_rfl) (DTbl_cons' (f := 24) (sh := sh24) (F := P24) d24 (by kernel_rfl) (DTbl_cons' (f := 17) (sh := sh17) (F := P17) d17 (by kernel_rfl) (DTbl_cons' (f := 21) (sh := sh21) (F := P21) d21 (by kernel_rfl) (DTbl_cons' (f := 32) (sh := sh32) (F := P32) d32 (by kernel_rfl) (DTbl_cons' (f := 31) (sh := sh31) (F := P31) d31 (by kernel_rfl) DTbl_nil)))))))
def b10_0 : DCode := (.seq (.seq (.reg [o 61 (.mov (.t 8)),
  o 62 (.fld (.t 3) 2),
  o 63 (.ld1 (.t 62) false),
  o 64 (.len (.t 63)),
  o 65 (.bin true .lss (.t 61) (.t 64))]) (.cond (.t 65) .skip (.exit 0))) (.seq (.blk 1 (.drw [] [r 68 (.fld (.t 7) 2),
  r 69 (.ld1 (.t 68) false),
  r 70 (.fld (.t 3) 2),
  r 71 (.ld1 (.t 70) false),
  r 72 (.mov (.t 8)),
  r 73 (.fld (.t 5) 0),
  r 74 (.ld1 (.t 73) false),
  r 75 (.bin true .add (.t 72) (.t 74)),
  r 76 (.fld (.t 3) 2),
  r 77 (.ld1 (.t 76) false),
  r 78 (.len (.t 77)),
  r 79 (.bin true .rem (.t 75) (.t 78)),
  r 80 (.idx (.t 71) (.t 79) 6),
  r 81 (.ldn (.t 80) 6 false),
  r 82 (.fld (.t 3) 2),
  r 83 (.ld1 (.t 82) false),
  r 84 (.mov (.t 8)),
  r 85 (.idx (.t 83) (.t 84) 6),
  r 86 (.ldn (.t 85) 6 false),
  (⟨some 87, .bsr 45 6 [(.t 81), (.t 86)], none⟩, (some (true, y48))),
  (⟨some 88, .app 45 6 48 (.t 69) (.t 87), none⟩, (some (true, y48))),
  r 89 (.fld (.t 7) 2),
  (⟨none, .sto (.t 89) (.t 88) 1, none⟩, none)])) (.reg [o 66 (.mov (.t 8)),
  o 67 (.bin true .add (.t 66) (.c (.int .i64 1))),
  o 8 (.mov (.t 67))])))
def h10_0 : LSh := ⟨[3, 4, 5, 7, 8], ⟨[(.ptr 0 0), (.ptr 1 0), (.ptr 2 0), (.ptr 3 0), (.v y6)], [(0, (.boxT y69)), (1, (.boxT y16)), (2, (.boxT y13)), (3, (.box [(.v y6), .emp, (.slc 4)])), (4, (.row 45 y48))]⟩, [y6, y69, y16, y13, y6, y60], 5, [0, 1, 2, 3]⟩
def x10_0 : List XSh := [⟨(.exit 0), [3, 4, 5, 7], ⟨⟨[(.ptr 0 0), (.ptr 1 0), (.ptr 2 0), (.ptr 3 0)], [(0, (.boxT y69)), (1, (.boxT y16)), (2, (.boxT y13)), (3, (.box [(.v y6), .emp, (.slc 4)])), (4, (.row 45 y48))]⟩, [y69, y16, y13, y6, y60], [0, 1, 2, 3], 5⟩⟩]
noncomputable def s10_0 (T : List FEnt) : Y341 := dstep (xs := x10_0) h10_0 (dxc T b10_0)
noncomputable def l10_0 (T : List FEnt) : Y337 := whileF (s10_0 T)
noncomputable def q10_0 (F14 : Y37) (F15 : Y194) (F24 : Y212) (F17 : Y175) (F21 : Y178) (F32 : Y325) (F31 : Y292) (a0 : Int) (a1 : Y20) (a2 : Y5) (a3 : Int × Int) (a4 : Int) (a5 : List Y3) : Option Y339 :=
cond (decide (a0 < (↑(List.length a1.2.2) : Int))) (
chk (fits .i64 (a0 + a3.1)) (
chk (decide ((↑(List.length a1.2.2) : Int) ≠ 0)) (
chk (inR (Int.tmod (a0 + a3.1) (↑(List.length a1.2.2) : Int)) (List.length a1.2.2)) (
chk (inR a0 (List.length a1.2.2)) (
chk (capOk 48 (List.length a5 + List.length ([(ix a1.2.2 (Int.tmod (a0 + a3.1) (↑(List.length a1.2.2) : Int))), (ix a1.2.2 a0)] : List Y3))) (
chk (fits .i64 (a0 + (1 : Int))) (
some (Sum.inl ((a0 + (1 : Int)), a1, a2, a3, a4, (a5 ++ ([(ix a1.2.2 (Int.tmod (a0 + a3.1) (↑(List.length a1.2.2) : Int))), (ix a1.2.2 a0)] : List Y3))))))))))) (
some (Sum.inr (a1, a2, a3, a4, a5)))
theorem g10_0 (F14 : Y37) (F15 : Y194) (F24 : Y212) (F17 : Y175) (F21 : Y178) (F32 : Y325) (F31 : Y292) (a0 : Int) (a1 : Y20) (a2 : Y5) (a3 : Int × Int) (a4 : Int) (a5 : List Y3) : s10_0 (T10 F14 F15 F24 F17 F21 F32 F31) (a0, a1, a2, a3, a4, a5) = q10_0 F14 F15 F24 F17 F21 F32 F31 a0 a1 a2 a3 a4 a5 := by kernel_rfl
noncomputable def p10_0 (a0 : Int) (a1 : Y20) (a2 : Y5) (a3 : Int × Int) (a4 : Int) (a5 : List Y3) : Option Y339 := q10_0 P14 P15 P24 P17 P21 P32 P31 a0 a1 a2 a3 a4 a5
noncomputable def L10_0 : Y337 := whileF (fun x => p10_0 x.1 x.2.1 x.2.2.1 x.2.2.2.1 x.2.2.2.2.1 x.2.2.2.2.2)
theorem v10_0 : l10_0 (T10 P14 P15 P24 P17 P21 P32 P31) = L10_0 := congrArg whileF (funext fun x => (g10_0 P14 P15 P24 P17 P21 P32 P31 x.1 x.2.1 x.2.2.1 x.2.2.2.1 x.2.2.2.2.1 x.2.2.2.2.2).trans (show q10_0 P14 P15 P24 P17 P21 P32 P31 x.1 x.2.1 x.2.2.1 x.2.2.2.1 x.2.2.2.2.1 x.2.2.2.2.2 = q10_0 P14 P15 P24 P17 P21 P32 P31 x.1 x.2.1 x.2.2.1 x.2.2.2.1 x.2.2.2.2.1 x.2.2.2.2.2 from rfl))
def b10_1 : DCode := (.seq (.seq (.reg [o 90 (.mov (.t 9)),
  o 91 (.fld (.t 3) 1),
  o 92 (.ld1 (.t 91) false),
  o 93 (.len (.t 92)),
  o 94 (.bin true .lss (.t 90) (.t 93))]) (.cond (.t 94) .skip (.exit 2))) (.seq (.blk 3 (.drw [] [r 97 (.fld (.t 7) 1),
  r 98 (.ld1 (.t 97) false),
  r 99 (.fld (.t 3) 1),
  r 100 (.ld1 (.t 99) false),
  r 101 (.mov (.t 9)),
  r 102 (.fld (.t 5) 0),
  r 103 (.ld1 (.t 102) false),
  r 104 (.bin true .add (.t 101) (.t 103)),
  r 105 (.fld (.t 3) 1),
  r 106 (.ld1 (.t 105) false),
  r 107 (.len (.t 106)),
  r 108 (.bin true .rem (.t 104) (.t 107)),
  r 109 (.idx (.t 100) (.t 108) 9),
  r 110 (.ldn (.t 109) 9 false),
  (⟨some 111, .bsr 33 9 [(.t 110)], none⟩, (some (true, y66))),
  (⟨some 112, .app 33 9 104 (.t 98) (.t 111), none⟩, (some (true, y66))),
  r 113 (.fld (.t 7) 1),
  (⟨none, .sto (.t 113) (.t 112) 1, none⟩, none)])) (.reg [o 95 (.mov (.t 9)),
  o 96 (.bin true .add (.t 95) (.c (.int .i64 1))),
  o 9 (.mov (.t 96))])))
def h10_1 : LSh := ⟨[3, 4, 5, 7, 9], ⟨[(.ptr 0 0), (.ptr 1 0), (.ptr 2 0), (.ptr 3 0), (.v y6)], [(0, (.boxT y69)), (1, (.boxT y16)), (2, (.boxT y13)), (3, (.box [(.v y6), (.slc 4), (.slc 5)])), (4, (.row 33 y66)), (5, (.row 45 y48))]⟩, [y6, y69, y16, y13, y6, y67, y60], 6, [0, 1, 2, 3, 5]⟩
def x10_1 : List XSh := [⟨(.exit 2), [3, 4, 5, 7], ⟨⟨[(.ptr 0 0), (.ptr 1 0), (.ptr 2 0), (.ptr 3 0)], [(0, (.boxT y69)), (1, (.boxT y16)), (2, (.boxT y13)), (3, (.box [(.v y6), (.slc 6), (.slc 5)])), (5, (.row 45 y48)), (6, (.row 33 y66))]⟩, [y69, y16, y13, y6, y60, y67], [0, 1, 2, 3, 5], 7⟩⟩]
noncomputable def s10_1 (T : List FEnt) : Y342 := dstep (xs := x10_1) h10_1 (dxc T b10_1)
noncomputable def l10_1 (T : List FEnt) : Y338 := whileF (s10_1 T)
noncomputable def q10_1 (F14 : Y37) (F15 : Y194) (F24 : Y212) (F17 : Y175) (F21 : Y178) (F32 : Y325) (F31 : Y292) (a0 : Int) (a1 : Y20) (a2 : Y5) (a3 : Int × Int) (a4 : Int) (a5 : List Y9) (a6 : List Y3) : Option Y340 :=
cond (decide (a0 < (↑(List.length a1.2.1) : Int))) (
chk (fits .i64 (a0 + a3.1)) (
chk (decide ((↑(List.length a1.2.1) : Int) ≠ 0)) (
chk (inR (Int.tmod (a0 + a3.1) (↑(List.length a1.2.1) : Int)) (List.length a1.2.1)) (
chk (capOk 104 (List.length a5 + List.length ([(ix a1.2.1 (Int.tmod (a0 + a3.1) (↑(List.length a1.2.1) : Int)))] : List Y9))) (
chk (fits .i64 (a0 + (1 : Int))) (
some (Sum.inl ((a0 + (1 : Int)), a1, a2, a3, a4, (a5 ++ ([(ix a1.2.1 (Int.tmod (a0 + a3.1) (↑(List.length a1.2.1) : Int)))] : List Y9)), a6)))))))) (
some (Sum.inr (a1, a2, a3, a4, a6, a5)))
theorem g10_1 (F14 : Y37) (F15 : Y194) (F24 : Y212) (F17 : Y175) (F21 : Y178) (F32 : Y325) (F31 : Y292) (a0 : Int) (a1 : Y20) (a2 : Y5) (a3 : Int × Int) (a4 : Int) (a5 : List Y9) (a6 : List Y3) : s10_1 (T10 F14 F15 F24 F17 F21 F32 F31) (a0, a1, a2, a3, a4, a5, a6) = q10_1 F14 F15 F24 F17 F21 F32 F31 a0 a1 a2 a3 a4 a5 a6 := by kernel_rfl
noncomputable def p10_1 (a0 : Int) (a1 : Y20) (a2 : Y5) (a3 : Int × Int) (a4 : Int) (a5 : List Y9) (a6 : List Y3) : Option Y340 := q10_1 P14 P15 P24 P17 P21 P32 P31 a0 a1 a2 a3 a4 a5 a6
noncomputable def L10_1 : Y338 := whileF (fun x => p10_1 x.1 x.2.1 x.2.2.1 x.2.2.2.1 x.2.2.2.2.1 x.2.2.2.2.2.1 x.2.2.2.2.2.2)
theorem v10_1 : l10_1 (T10 P14 P15 P24 P17 P21 P32 P31) = L10_1 := congrArg whileF (funext fun x => (g10_1 P14 P15 P24 P17 P21 P32 P31 x.1 x.2.1 x.2.2.1 x.2.2.2.1 x.2.2.2.2.1 x.2.2.2.2.2.1 x.2.2.2.2.2.2).trans (show q10_1 P14 P15 P24 P17 P21 P32 P31 x.1 x.2.1 x.2.2.1 x.2.2.2.1 x.2.2.2.2.1 x.2.2.2.2.2.1 x.2.2.2.2.2.2 = q10_1 P14 P15 P24 P17 P21 P32 P31 x.1 x.2.1 x.2.2.1 x.2.2.2.1 x.2.2.2.2.1 x.2.2.2.2.2.1 x.2.2.2.2.2.2 from rfl))
def c10 : DCode := (.seq (.reg [o 3 (.box (.t 0)),
  o 4 (.box (.t 1)),
  o 5 (.box (.t 2)),
  o 6 (.mov (.c (.bool false)))]) (.seq (.seq (.reg [o 23 (.ldn (.t 3) 3 false),
  o 24 (.ldn (.t 4) 3 false),
  o 25 (.xcall 14 [(.t 23), (.t 24)]),
  o 26 (.unot (.t 25)),
  o 27 (.mov (.t 26)),
  og 28 27 false (.fld (.t 3) 2),
  og 29 27 false (.ld1 (.t 28) false),
  og 30 27 false (.len (.t 29)),
  og 31 27 false (.bin true .gtr (.t 30) (.c (.int .i64 20))),
  o 32 (.pick (.t 27) (.c (.bool true)) (.t 31)),
  o 33 (.mov (.t 32)),
  og 34 33 false (.fld (.t 5) 0),
  og 35 33 false (.ld1 (.t 34) false),
  og 36 33 false (.bin true .lss (.t 35) (.c (.int .i64 0))),
  o 37 (.pick (.t 33) (.c (.bool true)) (.t 36)),
  o 38 (.mov (.t 37)),
  og 39 38 false (.fld (.t 5) 0),
  og 40 38 false (.ld1 (.t 39) false),
  og 41 38 false (.bin true .gtr (.t 40) (.c (.int .i64 100))),
  o 42 (.pick (.t 38) (.c (.bool true)) (.t 41)),
  o 43 (.mov (.t 42)),
  og 44 43 false (.fld (.t 5) 1),
  og 45 43 false (.ld1 (.t 44) false),
  og 46 43 false (.bin true .lss (.t 45) (.c (.int .i64 0))),
  o 47 (.pick (.t 43) (.c (.bool true)) (.t 46)),
  o 48 (.mov (.t 47)),
  og 49 48 false (.fld (.t 5) 1),
  og 50 48 false (.ld1 (.t 49) false),
  og 51 48 false (.fld (.t 3) 2),
  og 52 48 false (.ld1 (.t 51) false),
  og 53 48 false (.len (.t 52)),
  og 54 48 false (.bin true .gtr (.t 50) (.t 53)),
  o 55 (.pick (.t 48) (.c (.bool true)) (.t 54))]) (.cond (.t 55) (.seq (.reg [o 56 (.xcall 15 []),
  o 6 (.mov (.t 56))]) .ret) .skip)) (.seq (.reg [o 57 (.ldn (.t 3) 3 false),
  o 58 (.xcall 24 [(.t 57)]),
  o 7 (.alc [(.int .i64 0), .emp, .emp]),
  .op ⟨none, .sto (.t 7) (.t 58) 3, none⟩ none]) (.seq (.reg [o 59 (.fld (.t 7) 2),
  .op ⟨none, .sto (.t 59) (.c .emp) 1, none⟩ none,
  o 60 (.fld (.t 7) 1),
  .op ⟨none, .sto (.t 60) (.c .emp) 1, none⟩ none]) (.seq (.seq (.reg [o 8 (.mov (.c (.int .i64 0)))]) (.blk 0 (.loop h10_0 x10_0 b10_0))) (.seq (.seq (.reg [o 9 (.mov (.c (.int .i64 0)))]) (.blk 2 (.loop h10_1 x10_1 b10_1))) (.seq (.reg [o 115 (.ldn (.t 3) 3 false),
  o 116 (.fld (.t 4) 0),
  o 117 (.ld1 (.t 116) false),
  o 118 (.fld (.t 4) 1),
  o 119 (.ld1 (.t 118) false),
  o 120 (.xcall 17 [(.t 115), (.t 117), (.t 119)]),
  o 114 (.mov (.t 120)),
  o 121 (.ext (.t 114) 0),
  o 122 (.ext (.t 114) 1),
  o 10 (.alc [(.int .i64 0), (.int .i64 0), (.int .i64 0), (.int .i64 0), (.int .i64 0), (.int .i64 0)]),
  .op ⟨none, .sto (.t 10) (.t 121) 6, none⟩ none,
  o 11 (.mov (.t 122))]) (.seq (.reg [o 124 (.ldn (.t 7) 3 false),
  o 125 (.fld (.t 4) 0),
  o 126 (.ld1 (.t 125) false),
  o 127 (.fld (.t 4) 1),
  o 128 (.ld1 (.t 127) false),
  o 129 (.xcall 17 [(.t 124), (.t 126), (.t 128)]),
  o 123 (.mov (.t 129)),
  o 130 (.ext (.t 123) 0),
  o 131 (.ext (.t 123) 1),
  o 12 (.alc [(.int .i64 0), (.int .i64 0), (.int .i64 0), (.int .i64 0), (.int .i64 0), (.int .i64 0)]),
  .op ⟨none, .sto (.t 12) (.t 130) 6, none⟩ none,
  o 13 (.mov (.t 131))]) (.seq (.reg [o 133 (.ldn (.t 3) 3 false),
  o 134 (.fld (.t 4) 0),
  o 135 (.ld1 (.t 134) false),
  o 136 (.fld (.t 4) 1),
  o 137 (.ld1 (.t 136) false),
  o 138 (.xcall 21 [(.t 133), (.t 135), (.t 137)]),
  o 132 (.mov (.t 138)),
  o 139 (.ext (.t 132) 0),
  o 140 (.ext (.t 132) 1),
  o 14 (.mov (.t 139)),
  o 15 (.mov (.t 140))]) (.seq (.reg [o 142 (.ldn (.t 7) 3 false),
  o 143 (.fld (.t 4) 0),
  o 144 (.ld1 (.t 143) false),
  o 145 (.fld (.t 4) 1),
  o 146 (.ld1 (.t 145) false),
  o 147 (.xcall 21 [(.t 142), (.t 144), (.t 146)]),
  o 141 (.mov (.t 147)),
  o 148 (.ext (.t 141) 0),
  o 149 (.ext (.t 141) 1),
  o 16 (.mov (.t 148)),
  o 17 (.mov (.t 149))]) (.seq (.reg [o 151 (.ldn (.t 3) 3 false),
  o 152 (.xcall 32 [(.t 151), (.c .emp)]),
  o 150 (.mov (.t 152)),
  o 153 (.ext (.t 150) 0),
  o 154 (.ext (.t 150) 1),
  o 18 (.alc [(.int .i64 0), .emp, .emp]),
  .op ⟨none, .sto (.t 18) (.t 153) 3, none⟩ none,
  o 19 (.mov (.t 154))]) (.seq (.reg [o 155 (.ldn (.t 3) 3 false),
  o 156 (.xcall 24 [(.t 155)]),
  o 20 (.alc [(.int .i64 0), .emp, .emp]),
  .op ⟨none, .sto (.t 20) (.t 156) 3, none⟩ none]) (.seq (.reg [o 157 (.fld (.t 3) 2),
  o 158 (.ld1 (.t 157) false),
  o 159 (.fld (.t 5) 1),
  o 160 (.ld1 (.t 159) false),
  o 161 (.sl (.t 158) none (some (.t 160)) 6),
  o 162 (.fld (.t 20) 2),
  .op ⟨none, .sto (.t 162) (.t 161) 1, none⟩ none,
  .fz 156 [1]]) (.seq (.drw [20, 3, 5] [r 164 (.ldn (.t 20) 3 true),
  r 165 (.fld (.t 3) 2),
  r 166 (.ld1 (.t 165) true),
  r 167 (.fld (.t 5) 1),
  r 168 (.ld1 (.t 167) true),
  r 169 (.sl (.t 166) (some (.t 168)) none 6),
  r 170 (.xcall 32 [(.t 164), (.t 169)]),
  r 163 (.mov (.t 170)),
  r 171 (.ext (.t 163) 0),
  r 172 (.ext (.t 163) 1),
  r 21 (.alc [(.int .i64 0), .emp, .emp]),
  (⟨none, .sto (.t 21) (.t 171) 3, none⟩, none),
  r 22 (.mov (.t 172))]) (.seq (.reg [o 173 (.mov (.t 11)),
  o 174 (.bin true .eql (.t 173) (.c (.int .i64 0))),
  o 175 (.mov (.t 174)),
  og 176 175 true (.mov (.t 13)),
  og 177 175 true (.bin true .eql (.t 176) (.c (.int .i64 0))),
  o 178 (.pick (.t 175) (.t 177) (.c (.bool false))),
  o 179 (.mov (.t 178)),
  og 180 179 true (.mov (.t 15)),
  og 181 179 true (.bin true .eql (.t 180) (.c (.int .i64 0))),
  o 182 (.pick (.t 179) (.t 181) (.c (.bool false))),
  o 183 (.mov (.t 182)),
  og 184 183 true (.mov (.t 17)),
  og 185 183 true (.bin true .eql (.t 184) (.c (.int .i64 0))),
  o 186 (.pick (.t 183) (.t 185) (.c (.bool false))),
  o 187 (.mov (.t 186)),
  og 188 187 true (.mov (.t 19)),
  og 189 187 true (.bin true .eql (.t 188) (.c (.int .i64 0))),
  o 190 (.pick (.t 187) (.t 189) (.c (.bool false))),
  o 191 (.mov (.t 190)),
  og 192 191 true (.mov (.t 22)),
  og 193 191 true (.bin true .eql (.t 192) (.c (.int .i64 0))),
  o 194 (.pick (.t 191) (.t 193) (.c (.bool false))),
  o 195 (.mov (.t 194)),
  og 196 195 true (.ldn (.t 10) 6 false),
  og 197 195 true (.ldn (.t 12) 6 false),
  og 198 195 true (.eqs false 6 (.t 196) (.t 197)),
  o 199 (.pick (.t 195) (.t 198) (.c (.bool false))),
  o 200 (.mov (.t 199)),
  og 201 200 true (.mov (.t 14)),
  og 202 200 true (.mov (.t 16)),
  og 203 200 true (.bin true .eql (.t 201) (.t 202)),
  o 204 (.pick (.t 200) (.t 203) (.c (.bool false))),
  o 205 (.mov (.t 204)),
  og 206 205 true (.ldn (.t 18) 3 false),
  og 207 205 true (.ldn (.t 21) 3 false),
  og 208 205 true (.xcall 31 [(.t 206), (.t 207)]),
  o 209 (.pick (.t 205) (.t 208) (.c (.bool false))),
  o 210 (.mov (.t 209)),
  og 211 210 true (.xcall 15 []),
  o 212 (.pick (.t 210) (.t 211) (.c (.bool false))),
  o 6 (.mov (.t 212))]) .ret)))))))))))))))
theorem ok10 : L.Fn Try.prog 10 213 [(.t 6)] (erase c10) := L.Fn.of hmix Try.func10 [(20, { ch := [1,0,1,0,1,0,0,0,0,0,0,0,0], rs := [20,3,5] })] (by kernel_rfl)
def sh10 : FSh := ⟨⟨[(.st y69), (.st y16), (.st y13)], []⟩, [y69, y16, y13], 0, ⟨⟨[(.v .bool)], []⟩, [.bool], [], 0⟩, true⟩
noncomputable def q10 (F14 : Y37) (F15 : Y194) (F24 : Y212) (F17 : Y175) (F21 : Y178) (F32 : Y325) (F31 : Y292) (l10_0 : Y337) (l10_1 : Y338) (a0 : Y20) (a1 : Y5) (a2 : Int × Int) : Option Bool :=
(F14 (a0, a1)).bind fun (r1 : Bool) => (
cond (!r1) (
(F15 ()).bind fun (r2 : Bool) => (
some r2)) (
cond (decide ((20 : Int) < (↑(List.length a0.2.2) : Int))) (
(F15 ()).bind fun (r3 : Bool) => (
some r3)) (
cond (decide (a2.1 < (0 : Int))) (
(F15 ()).bind fun (r4 : Bool) => (
some r4)) (
cond (decide ((100 : Int) < a2.1)) (
(F15 ()).bind fun (r5 : Bool) => (
some r5)) (
cond (decide (a2.2 < (0 : Int))) (
(F15 ()).bind fun (r6 : Bool) => (
some r6)) (
cond (decide ((↑(List.length a0.2.2) : Int) < a2.2)) (
(F15 ()).bind fun (r7 : Bool) => (
some r7)) (
(F24 a0).bind fun (r8 : Y20) => (
(l10_0 ((0 : Int), a0, a1, a2, r8.1, ([] : List Y3))).bind fun (y9 : Y332) => (
(l10_1 ((0 : Int), y9.1, y9.2.1, y9.2.2.1, y9.2.2.2.1, ([] : List Y9), y9.2.2.2.2)).bind fun (y10 : Y333) => (
(F17 (y10.1, y10.2.1.1, y10.2.1.2.1)).bind fun (r11 : Y3 × Int) => (
(F17 ((y10.2.2.2.1, (y10.2.2.2.2.2, y10.2.2.2.2.1)), y10.2.1.1, y10.2.1.2.1)).bind fun (r12 : Y3 × Int) => (
(F21 (y10.1, y10.2.1.1, y10.2.1.2.1)).bind fun (r13 : Int × Int) => (
(F21 ((y10.2.2.2.1, (y10.2.2.2.2.2, y10.2.2.2.2.1)), y10.2.1.1, y10.2.1.2.1)).bind fun (r14 : Int × Int) => (
(F32 (y10.1, ([] : List Y3))).bind fun (r15 : Y24) => (
(F24 y10.1).bind fun (r16 : Y20) => (
chk (decide ((0 : Int) ≤ (0 : Int))) (
chk (decide ((0 : Int) ≤ y10.2.2.1.2)) (
chk (decide (y10.2.2.1.2 ≤ (↑(List.length y10.1.2.2) : Int))) (
chk (decide ((0 : Int) ≤ y10.2.2.1.2)) (
chk (decide (y10.2.2.1.2 ≤ (↑(List.length y10.1.2.2) : Int))) (
chk (decide ((↑(List.length y10.1.2.2) : Int) ≤ (↑(List.length y10.1.2.2) : Int))) (
(F32 ((r16.1, (r16.2.1, (cutL y10.1.2.2 (0 : Int) y10.2.2.1.2))), (cutL y10.1.2.2 y10.2.2.1.2 (↑(List.length y10.1.2.2) : Int)))).bind fun (r17 : Y24) => (
cond (decide (r11.2 = (0 : Int))) (
cond (decide (r12.2 = (0 : Int))) (
cond (decide (r13.2 = (0 : Int))) (
cond (decide (r14.2 = (0 : Int))) (
cond (decide (r15.2.1 = (0 : Int))) (
cond (decide (r17.2.1 = (0 : Int))) (
cond (((((decide (r11.1.1 = r12.1.1) && decide (r11.1.2.1 = r12.1.2.1)) && decide (r11.1.2.2.1 = r12.1.2.2.1)) && decide (r11.1.2.2.2.1 = r12.1.2.2.2.1)) && decide (r11.1.2.2.2.2.1 = r12.1.2.2.2.2.1)) && decide (r11.1.2.2.2.2.2 = r12.1.2.2.2.2.2)) (
cond (decide (r13.1 = r14.1)) (
(F31 ((r15.1, r15.2.2), (r17.1, r17.2.2))).bind fun (r18 : Bool) => (
cond r18 (
(F15 ()).bind fun (r19 : Bool) => (
some r19)) (
some false))) (
some false)) (
some false)) (
some false)) (
some false)) (
some false)) (
some false)) (
some false)) (
some false))))))))))))))))))))))))
theorem g10 (F14 : Y37) (F15 : Y194) (F24 : Y212) (F17 : Y175) (F21 : Y178) (F32 : Y325) (F31 : Y292) (a0 : Y20) (a1 : Y5) (a2 : Int × Int) : dxf (T10 F14 F15 F24 F17 F21 F32 F31) sh10 [(.t 6)] c10 (a0, a1, a2) = q10 F14 F15 F24 F17 F21 F32 F31 (l10_0 (T10 F14 F15 F24 F17 F21 F32 F31)) (l10_1 (T10 F14 F15 F24 F17 F21 F32 F31)) a0 a1 a2 := by kernel_rfl
noncomputable def p10 (a0 : Y20) (a1 : Y5) (a2 : Int × Int) : Option Bool := q10 P14 P15 P24 P17 P21 P32 P31 L10_0 L10_1 a0 a1 a2
noncomputable def P10 : Y334 := fun x => p10 x.1 x.2.1 x.2.2
theorem v10 : dxf (T10 P14 P15 P24 P17 P21 P32 P31) sh10 [(.t 6)] c10 = P10 := funext fun x => (g10 P14 P15 P24 P17 P21 P32 P31 x.1 x.2.1 x.2.2).trans (show q10 P14 P15 P24 P17 P21 P32 P31 (l10_0 (T10 P14 P15 P24 P17 P21 P32 P31)) (l10_1 (T10 P14 P15 P24 P17 P21 P32 P31)) x.1 x.2.1 x.2.2 = q10 P14 P15 P24 P17 P21 P32 P31 L10_0 L10_1 x.1 x.2.1 x.2.2 from by rw [v10_0, v10_1])
theorem d10 : DC Try.prog 10 sh10 P10 := DC_eq v10 (dxf_sound (sh := sh10) t10 ok10 (by kernel_rfl))
end Go.Proofs.Ytfknkinmnecoeaa.D
