/- Cut down from a longer text. -/
import Derived.Test.YtfknkinmnecoeaaG5p
import Derived.Test.YtfknkinmnecoeaaProg
set_option linter.unusedVariables false
set_option maxRecDepth 100000
namespace Go.Proofs.Ytfknkinmnecoeaa.D
open Go Go.Proofs Go.Proofs.Ytfknkinmnecoeaa.L
noncomputable def T26 (F27 : Y25) (F40 : Y4) (F42 : Y173) (F41 : Y160) : List FEnt := [⟨27, sh27, F27⟩, ⟨40, sh40, F40⟩, ⟨42, sh42, F42⟩, ⟨41, sh41, F41⟩]
theorem t26 : DTblOK Try.prog (T26 P27 P40 P42 P41) := (DTbl_cons' (f := 27) (sh := sh27) (F := P27) d27 (by kernel_rfl) (DTbl_cons' (f := 40) (sh := sh40) (F := P40) d40 (by kernel_rfl) (DTbl_cons' (f := 42) (sh := sh42) (F := P42) d42 (by kernel_rfl) (DTbl_cons' (f := 41) (sh := sh41) (F := P41) d41 (by kernel_rfl) DTbl_nil))))
def b26_0 : DCode := (.seq (.reg [o 25 (.bin true .lss (.t 24) (.t 23))]) (.seq (.cond (.t 25) .skip (.exit 0)) (.seq (.blk 1 (.seq (.reg [o 26 (.idx (.t 22) (.t 24) 9),
  o 27 (.ldn (.t 26) 9 false),
  o 9 (.alc [(.int .i64 0), (.int .i64 0), (.int .i64 0), .emp, .emp, (.int .i64 0), (.int .i64 0), (.int .i64 0), (.int .i64 0)]),
  .op ⟨none, .sto (.t 9) (.t 27) 9, none⟩ none]) (.seq (.seq (.reg [o 28 (.mov (.t 1)),
  o 29 (.fld (.t 9) 1),
  o 30 (.ld1 (.t 29) false),
  o 31 (.fld (.t 9) 2),
  o 32 (.ld1 (.t 31) false),
  o 33 (.xcall 40 [(.t 28), (.t 30), (.t 32)]),
  o 34 (.unot (.t 33))]) (.cond (.t 34) (.exit 1) .skip)) (.seq (.drw [2, 9] [r 35 (.fld (.t 2) 0),
  r 36 (.ld1 (.t 35) true),
  r 37 (.ldn (.t 9) 9 true),
  r 38 (.mov (.t 1)),
  r 39 (.ldn (.t 2) 3 true),
  r 40 (.fld (.t 9) 0),
  r 41 (.ld1 (.t 40) true),
  r 42 (.mov (.t 1)),
  r 43 (.xcall 42 [(.t 39), (.t 41), (.t 42)]),
  r 44 (.xcall 41 [(.t 36), (.t 37), (.t 38), (.t 43)]),
  r 10 (.alc [(.int .i64 0), (.int .i64 0), (.int .i64 0), (.int .i64 0), (.int .i64 0), (.int .i64 0)]),
  (⟨none, .sto (.t 10) (.t 44) 6, none⟩, none)]) (.seq (.reg [o 45 (.fld (.t 7) 0),
  o 46 (.ld1 (.t 45) false),
  o 47 (.fld (.t 10) 0),
  o 48 (.ld1 (.t 47) false),
  o 49 (.bin true .add (.t 46) (.t 48)),
  o 50 (.fld (.t 7) 0),
  .op ⟨none, .sto (.t 50) (.t 49) 1, none⟩ none]) (.seq (.reg [o 51 (.fld (.t 7) 1),
  o 52 (.ld1 (.t 51) false),
  o 53 (.fld (.t 10) 1),
  o 54 (.ld1 (.t 53) false),
  o 55 (.bin true .add (.t 52) (.t 54)),
  o 56 (.fld (.t 7) 1),
  .op ⟨none, .sto (.t 56) (.t 55) 1, none⟩ none]) (.seq (.reg [o 57 (.fld (.t 7) 2),
  o 58 (.ld1 (.t 57) false),
  o 59 (.fld (.t 10) 2),
  o 60 (.ld1 (.t 59) false),
  o 61 (.bin true .add (.t 58) (.t 60)),
  o 62 (.fld (.t 7) 2),
  .op ⟨none, .sto (.t 62) (.t 61) 1, none⟩ none]) (.seq (.reg [o 63 (.fld (.t 7) 3),
  o 64 (.ld1 (.t 63) false),
  o 65 (.fld (.t 10) 3),
  o 66 (.ld1 (.t 65) false),
  o 67 (.bin true .add (.t 64) (.t 66)),
  o 68 (.fld (.t 7) 3),
  .op ⟨none, .sto (.t 68) (.t 67) 1, none⟩ none]) (.reg [o 69 (.fld (.t 7) 4),
  o 70 (.ld1 (.t 69) false),
  o 71 (.fld (.t 10) 4),
  o 72 (.ld1 (.t 71) false),
  o 73 (.bin true .add (.t 70) (.t 72)),
  o 74 (.fld (.t 7) 4),
  .op ⟨none, .sto (.t 74) (.t 73) 1, none⟩ none]))))))))) (.reg [o 75 (.bin true .add (.t 24) (.c (.int .i64 1))),
  o 24 (.mov (.t 75))]))))
def h26_0 : LSh := ⟨[1, 2, 4, 7, 22, 23, 24], ⟨[(.v y6), (.ptr 0 0), (.ptr 1 0), (.ptr 2 0), (.v y67), (.v y6), (.v y6)], [(0, (.boxT y69)), (1, (.boxT y48)), (2, (.boxT y48))]⟩, [y6, y67, y6, y6, y69, y48, y48], 3, [0, 1, 2]⟩
def x26_0 : List XSh := [⟨(.exit 0), [4, 7], ⟨⟨[(.ptr 1 0), (.ptr 2 0)], [(0, (.boxT y69)), (1, (.boxT y48)), (2, (.boxT y48))]⟩, [y69, y48, y48], [0, 1, 2], 3⟩⟩]
noncomputable def s26_0 (T : List FEnt) : Y258 := dstep (xs := x26_0) h26_0 (dxc T b26_0)
noncomputable def l26_0 (T : List FEnt) : Y249 := whileF (s26_0 T)
noncomputable def q26_0 (F27 : Y25) (F40 : Y4) (F42 : Y173) (F41 : Y160) (a0 : Int) (a1 : List Y9) (a2 : Int) (a3 : Int) (a4 : Y20) (a5 : Y3) (a6 : Y3) : Option Y253 :=
cond (decide (a3 < a2)) (
chk (inR a3 (List.length a1)) (
(F40 (a0, (ix a1 a3).2.1, (ix a1 a3).2.2.1)).bind fun (r3 : Bool) => (
cond (!r3) (
chk (fits .i64 (a3 + (1 : Int))) (
some (Sum.inl (a0, a1, a2, (a3 + (1 : Int)), a4, a5, a6)))) (
(F42 (a4, (ix a1 a3).1, a0)).bind fun (r4 : Int) => (
(F41 (a4.1, (ix a1 a3), a0, r4)).bind fun (r5 : Y3) => (
chk (fits .i64 (a6.1 + r5.1)) (
chk (fits .i64 (a6.2.1 + r5.2.1)) (
chk (fits .i64 (a6.2.2.1 + r5.2.2.1)) (
chk (fits .i64 (a6.2.2.2.1 + r5.2.2.2.1)) (
chk (fits .i64 (a6.2.2.2.2.1 + r5.2.2.2.2.1)) (
chk (fits .i64 (a3 + (1 : Int))) (
some (Sum.inl (a0, a1, a2, (a3 + (1 : Int)), a4, a5, ((a6.1 + r5.1), ((a6.2.1 + r5.2.1), ((a6.2.2.1 + r5.2.2.1), ((a6.2.2.2.1 + r5.2.2.2.1), ((a6.2.2.2.2.1 + r5.2.2.2.2.1), a6.2.2.2.2.2))))))))))))))))))) (
some (Sum.inr (a4, a5, a6)))
theorem g26_0 (F27 : Y25) (F40 : Y4) (F42 : Y173) (F41 : Y160) (a0 : Int) (a1 : List Y9) (a2 : Int) (a3 : Int) (a4 : Y20) (a5 : Y3) (a6 : Y3) : s26_0 (T26 F27 F40 F42 F41) (a0, a1, a2, a3, a4, a5, a6) = q26_0 F27 F40 F42 F41 a0 a1 a2 a3 a4 a5 a6 := by kernel_rfl
noncomputable def p26_0 (a0 : Int) (a1 : List Y9) (a2 : Int) (a3 : Int) (a4 : Y20) (a5 : Y3) (a6 : Y3) : Option Y253 := q26_0 P27 P40 P42 P41 a0 a1 a2 a3 a4 a5 a6
noncomputable def L26_0 : Y249 := whileF (fun x => p26_0 x.1 x.2.1 x.2.2.1 x.2.2.2.1 x.2.2.2.2.1 x.2.2.2.2.2.1 x.2.2.2.2.2.2)
theorem v26_0 : l26_0 (T26 P27 P40 P42 P41) = L26_0 := congrArg whileF (funext fun x => (g26_0 P27 P40 P42 P41 x.1 x.2.1 x.2.2.1 x.2.2.2.1 x.2.2.2.2.1 x.2.2.2.2.2.1 x.2.2.2.2.2.2).trans (show q26_0 P27 P40 P42 P41 x.1 x.2.1 x.2.2.1 x.2.2.2.1 x.2.2.2.2.1 x.2.2.2.2.2.1 x.2.2.2.2.2.2 = q26_0 P27 P40 P42 P41 x.1 x.2.1 x.2.2.1 x.2.2.2.1 x.2.2.2.2.1 x.2.2.2.2.2.1 x.2.2.2.2.2.2 from rfl))
def c26 : DCode := (.seq (.reg [o 2 (.box (.t 0)),
  o 4 (.alc [(.int .i64 0), (.int .i64 0), (.int .i64 0), (.int .i64 0), (.int .i64 0), (.int .i64 0)]),
  o 5 (.mov (.c (.int .i64 0)))]) (.seq (.seq (.reg [o 11 (.ldn (.t 2) 3 false),
  o 12 (.xcall 27 [(.t 11)]),
  o 6 (.mov (.t 12))]) (.seq (.reg [o 13 (.mov (.t 6)),
  o 14 (.bin true .neq (.t 13) (.c (.int .i64 0)))]) (.cond (.t 14) (.seq (.reg [o 15 (.bld [(.int .i64 0), (.int .i64 0), (.int .i64 0), (.int .i64 0), (.int .i64 0), (.int .i64 0)] []),
  o 16 (.mov (.t 6)),
  .op ⟨none, .sto (.t 4) (.t 15) 6, none⟩ none,
  o 5 (.mov (.t 16))]) .ret) .skip))) (.seq (.seq (.reg [o 17 (.mov (.t 1)),
  o 18 (.xcall 40 [(.t 17), (.c (.int .i64 0)), (.c (.int .i64 99))]),
  o 19 (.unot (.t 18))]) (.cond (.t 19) (.seq (.reg [o 20 (.bld [(.int .i64 0), (.int .i64 0), (.int .i64 0), (.int .i64 0), (.int .i64 0), (.int .i64 0)] []),
  .op ⟨none, .sto (.t 4) (.t 20) 6, none⟩ none,
  o 5 (.mov (.c (.int .i64 1)))]) .ret) .skip)) (.seq (.reg [o 7 (.alc [(.int .i64 0), (.int .i64 0), (.int .i64 0), (.int .i64 0), (.int .i64 0), (.int .i64 0)])]) (.seq (.seq (.reg [o 21 (.fld (.t 2) 1),
  o 22 (.ld1 (.t 21) false),
  o 23 (.len (.t 22)),
  o 24 (.mov (.c (.int .i64 0)))]) (.blk 0 (.loop h26_0 x26_0 b26_0))) (.seq (.reg [o 76 (.ldn (.t 7) 6 false),
  .op ⟨none, .sto (.t 4) (.t 76) 6, none⟩ none,
  o 5 (.mov (.c (.int .i64 0)))]) .ret))))))
theorem ok26 : L.Fn Try.prog 26 77 [(.cell 4 true 6), (.t 5)] (erase c26) := L.Fn.of hmix Try.func26 [(11, { ch := [0,1,1,0,1,0,1,0,0,0,0,0], rs := [2,9] })] (by kernel_rfl)
def sh26 : FSh := ⟨⟨[(.st y69), (.v y6)], []⟩, [y69, y6], 0, ⟨⟨[(.tup [(.st y48), (.v y6)])], []⟩, [y48, y6], [], 0⟩, true⟩
noncomputable def q26 (F27 : Y25) (F40 : Y4) (F42 : Y173) (F41 : Y160) (l26_0 : Y249) (a0 : Y20) (a1 : Int) : Option Y149 :=
(F27 a0).bind fun (r1 : Int) => (
cond (!decide (r1 = (0 : Int))) (
some (((0 : Int), ((0 : Int), ((0 : Int), ((0 : Int), ((0 : Int), (0 : Int)))))), r1)) (
(F40 (a1, (0 : Int), (99 : Int))).bind fun (r2 : Bool) => (
cond (!r2) (
some (((0 : Int), ((0 : Int), ((0 : Int), ((0 : Int), ((0 : Int), (0 : Int)))))), (1 : Int))) (
(l26_0 (a1, a0.2.1, (↑(List.length a0.2.1) : Int), (0 : Int), a0, ((0 : Int), ((0 : Int), ((0 : Int), ((0 : Int), ((0 : Int), (0 : Int)))))), ((0 : Int), ((0 : Int), ((0 : Int), ((0 : Int), ((0 : Int), (0 : Int)))))))).bind fun (y6 : Y238) => (
some (y6.2.2, (0 : Int)))))))
theorem g26 (F27 : Y25) (F40 : Y4) (F42 : Y173) (F41 : Y160) (a0 : Y20) (a1 : Int) : dxf (T26 F27 F40 F42 F41) sh26 [(.cell 4 true 6), (.t 5)] c26 (a0, a1) = q26 F27 F40 F42 F41 (l26_0 (T26 F27 F40 F42 F41)) a0 a1 := by kernel_rfl
noncomputable def p26 (a0 : Y20) (a1 : Int) : Option Y149 := q26 P27 P40 P42 P41 L26_0 a0 a1
noncomputable def P26 : Y239 := fun x => p26 x.1 x.2
theorem v26 : dxf (T26 P27 P40 P42 P41) sh26 [(.cell 4 true 6), (.t 5)] c26 = P26 := funext fun x => (g26 P27 P40 P42 P41 x.1 x.2).trans (show q26 P27 P40 P42 P41 (l26_0 (T26 P27 P40 P42 P41)) x.1 x.2 = q26 P27 P40 P42 P41 L26_0 x.1 x.2 from by rw [v26_0])
theorem d26 : DC Try.prog 26 sh26 P26 := DC_eq v26 (dxf_sound (sh := sh26) t26 ok26 (by kernel_rfl))
noncomputable def T8 (F23 : Y22) (F15 : Y194) (F20 : Y25) (F26 : Y239) (F18 : Y195) (F17 : Y175) : List FEnt := [⟨23, sh23, F23⟩, ⟨15, sh15, F15⟩, ⟨20, sh20, F20⟩, ⟨26, sh26, F26⟩, ⟨18, sh18, F18⟩, ⟨17, sh17, F17⟩]
theorem t8 : DTblOK Try.prog (T8 P23 P15 P20 P26 P18 P17) := (DTbl_cons' (f := 23) (sh := sh23) (F := P23) d23 (by kernel_rfl) (DTbl_cons' (f := 15) (sh := sh15) (F := P15) d15 (by kernel_rfl) (DTbl_cons' (f := 20) (sh := sh20) (F := P20) d20 (by kernel_rfl) (DTbl_cons' (f := 26) (sh := sh26) (F := P26) d26 (by kernel_rfl) (DTbl_cons' (f := 18) (sh := sh18) (F := P18) d18 (by kernel_rfl) (DTbl_cons' (f := 17) (sh := sh17) (F := P17) d17 (by kernel_rfl) DTbl_nil))))))
def b8_0 : DCode := (.seq (.seq (.reg [o 45 (.mov (.t 8)),
  o 46 (.fld (.t 2) 1),
  o 47 (.ld1 (.t 46) false),
  o 48 (.len (.t 47)),
  o 49 (.bin true .lss (.t 45) (.t 48))]) (.cond (.t 49) .skip (.exit 0))) (.seq (.blk 1 (.seq (.drw [2] [r 53 (.ldn (.t 2) 3 true),
  r 54 (.fld (.t 2) 1),
  r 55 (.ld1 (.t 54) true),
  r 56 (.mov (.t 8)),
  r 57 (.idx (.t 55) (.t 56) 9),
  r 58 (.fld (.t 57) 0),
  r 59 (.ld1 (.t 58) true),
  r 60 (.mov (.t 1)),
  r 61 (.xcall 17 [(.t 53), (.t 59), (.t 60)]),
  r 52 (.mov (.t 61)),
  r 62 (.ext (.t 52) 0),
  r 63 (.ext (.t 52) 1),
  r 9 (.alc [(.int .i64 0), (.int .i64 0), (.int .i64 0), (.int .i64 0), (.int .i64 0), (.int .i64 0)]),
  (⟨none, .sto (.t 9) (.t 62) 6, none⟩, none),
  r 10 (.mov (.t 63))]) (.seq (.seq (.reg [o 64 (.mov (.t 1)),
  o 65 (.fld (.t 2) 1),
  o 66 (.ld1 (.t 65) false),
  o 67 (.mov (.t 8)),
  o 68 (.idx (.t 66) (.t 67) 9),
  o 69 (.fld (.t 68) 1),
  o 70 (.ld1 (.t 69) false),
  o 71 (.bin true .lss (.t 64) (.t 70)),
  o 72 (.mov (.t 71)),
  og 73 72 false (.mov (.t 1)),
  og 74 72 false (.fld (.t 2) 1),
  og 75 72 false (.ld1 (.t 74) false),
  og 76 72 false (.mov (.t 8)),
  og 77 72 false (.idx (.t 75) (.t 76) 9),
  og 78 72 false (.fld (.t 77) 2),
  og 79 72 false (.ld1 (.t 78) false),
  og 80 72 false (.bin true .gtr (.t 73) (.t 79)),
  o 81 (.pick (.t 72) (.c (.bool true)) (.t 80))]) (.cond (.t 81) (.seq (.seq (.reg [o 82 (.mov (.t 10)),
  o 83 (.bin true .neq (.t 82) (.c (.int .i64 1)))]) (.cond (.t 83) (.seq (.reg [o 4 (.mov (.c (.bool false)))]) .ret) .skip)) (.exit 1)) .skip)) (.seq (.seq (.reg [o 84 (.mov (.t 10)),
  o 85 (.bin true .neq (.t 84) (.c (.int .i64 0))),
  o 86 (.mov (.t 85)),
  og 87 86 false (.ldn (.t 9) 6 false),
  og 88 86 false (.xcall 18 [(.t 87)]),
  og 89 86 false (.unot (.t 88)),
  o 90 (.pick (.t 86) (.c (.bool true)) (.t 89))]) (.cond (.t 90) (.seq (.reg [o 4 (.mov (.c (.bool false)))]) .ret) .skip)) (.seq (.reg [o 91 (.fld (.t 7) 0),
  o 92 (.ld1 (.t 91) false),
  o 93 (.fld (.t 9) 0),
  o 94 (.ld1 (.t 93) false),
  o 95 (.bin true .add (.t 92) (.t 94)),
  o 96 (.fld (.t 7) 0),
  .op ⟨none, .sto (.t 96) (.t 95) 1, none⟩ none]) (.seq (.reg [o 97 (.fld (.t 7) 1),
  o 98 (.ld1 (.t 97) false),
  o 99 (.fld (.t 9) 1),
  o 100 (.ld1 (.t 99) false),
  o 101 (.bin true .add (.t 98) (.t 100)),
  o 102 (.fld (.t 7) 1),
  .op ⟨none, .sto (.t 102) (.t 101) 1, none⟩ none]) (.seq (.reg [o 103 (.fld (.t 7) 2),
  o 104 (.ld1 (.t 103) false),
  o 105 (.fld (.t 9) 2),
  o 106 (.ld1 (.t 105) false),
  o 107 (.bin true .add (.t 104) (.t 106)),
  o 108 (.fld (.t 7) 2),
  .op ⟨none, .sto (.t 108) (.t 107) 1, none⟩ none]) (.seq (.reg [o 109 (.fld (.t 7) 3),
  o 110 (.ld1 (.t 109) false),
  o 111 (.fld (.t 9) 3),
  o 112 (.ld1 (.t 111) false),
  o 113 (.bin true .add (.t 110) (.t 112)),
  o 114 (.fld (.t 7) 3),
  .op ⟨none, .sto (.t 114) (.t 113) 1, none⟩ none]) (.reg [o 115 (.fld (.t 7) 4),
  o 116 (.ld1 (.t 115) false),
  o 117 (.fld (.t 9) 4),
  o 118 (.ld1 (.t 117) false),
  o 119 (.bin true .add (.t 116) (.t 118)),
  o 120 (.fld (.t 7) 4),
  .op ⟨none, .sto (.t 120) (.t 119) 1, none⟩ none]))))))))) (.reg [o 50 (.mov (.t 8)),
  o 51 (.bin true .add (.t 50) (.c (.int .i64 1))),
  o 8 (.mov (.t 51))])))
def h8_0 : LSh := ⟨[1, 2, 5, 7, 8], ⟨[(.v y6), (.ptr 0 0), (.ptr 1 0), (.ptr 2 0), (.v y6)], [(0, (.boxT y69)), (1, (.boxT y48)), (2, (.boxT y48))]⟩, [y6, y6, y69, y48, y48], 3, [0, 1, 2]⟩
def x8_0 : List XSh := [⟨.ret, [4], ⟨⟨[(.v .bool)], [(0, (.boxT y69)), (1, (.boxT y48)), (2, (.boxT y48))]⟩, [.bool, y69, y48, y48], [0, 1, 2], 3⟩⟩, ⟨(.exit 0), [5, 7], ⟨⟨[(.ptr 1 0), (.ptr 2 0)], [(0, (.boxT y69)), (1, (.boxT y48)), (2, (.boxT y48))]⟩, [y69, y48, y48], [0, 1, 2], 3⟩⟩]
noncomputable def s8_0 (T : List FEnt) : Y264 := dstep (xs := x8_0) h8_0 (dxc T b8_0)
noncomputable def l8_0 (T : List FEnt) : Y259 := whileF (s8_0 T)
noncomputable def q8_0 (F23 : Y22) (F15 : Y194) (F20 : Y25) (F26 : Y239) (F18 : Y195) (F17 : Y175) (a0 : Int) (a1 : Int) (a2 : Y20) (a3 : Y3) (a4 : Y3) : Option Y263 :=
cond (decide (a1 < (↑(List.length a2.2.1) : Int))) (
chk (inR a1 (List.length a2.2.1)) (
(F17 (a2, (ix a2.2.1 a1).1, a0)).bind fun (r9 : Y3 × Int) => (
chk (inR a1 (List.length a2.2.1)) (
cond (decide (a0 < (ix a2.2.1 a1).2.1)) (
cond (!decide (r9.2 = (1 : Int))) (
some (Sum.inr (Sum.inl (false, a2, a3, a4)))) (
chk (fits .i64 (a1 + (1 : Int))) (
some (Sum.inl (a0, (a1 + (1 : Int)), a2, a3, a4))))) (
chk (inR a1 (List.length a2.2.1)) (
cond (decide ((ix a2.2.1 a1).2.2.1 < a0)) (
cond (!decide (r9.2 = (1 : Int))) (
some (Sum.inr (Sum.inl (false, a2, a3, a4)))) (
chk (fits .i64 (a1 + (1 : Int))) (
some (Sum.inl (a0, (a1 + (1 : Int)), a2, a3, a4))))) (
cond (!decide (r9.2 = (0 : Int))) (
some (Sum.inr (Sum.inl (false, a2, a3, a4)))) (
(F18 r9.1).bind fun (r10 : Bool) => (
cond (!r10) (
some (Sum.inr (Sum.inl (false, a2, a3, a4)))) (
chk (fits .i64 (a4.1 + r9.1.1)) (
chk (fits .i64 (a4.2.1 + r9.1.2.1)) (
chk (fits .i64 (a4.2.2.1 + r9.1.2.2.1)) (
chk (fits .i64 (a4.2.2.2.1 + r9.1.2.2.2.1)) (
chk (fits .i64 (a4.2.2.2.2.1 + r9.1.2.2.2.2.1)) (
chk (fits .i64 (a1 + (1 : Int))) (
some (Sum.inl (a0, (a1 + (1 : Int)), a2, a3, ((a4.1 + r9.1.1), ((a4.2.1 + r9.1.2.1), ((a4.2.2.1 + r9.1.2.2.1), ((a4.2.2.2.1 + r9.1.2.2.2.1), ((a4.2.2.2.2.1 + r9.1.2.2.2.2.1), a4.2.2.2.2.2))))))))))))))))))))))) (
some (Sum.inr (Sum.inr (a2, a3, a4))))
theorem g8_0 (F23 : Y22) (F15 : Y194) (F20 : Y25) (F26 : Y239) (F18 : Y195) (F17 : Y175) (a0 : Int) (a1 : Int) (a2 : Y20) (a3 : Y3) (a4 : Y3) : s8_0 (T8 F23 F15 F20 F26 F18 F17) (a0, a1, a2, a3, a4) = q8_0 F23 F15 F20 F26 F18 F17 a0 a1 a2 a3 a4 := by kernel_rfl
noncomputable def p8_0 (a0 : Int) (a1 : Int) (a2 : Y20) (a3 : Y3) (a4 : Y3) : Option Y263 := q8_0 P23 P15 P20 P26 P18 P17 a0 a1 a2 a3 a4
noncomputable def L8_0 : Y259 := whileF (fun x => p8_0 x.1 x.2.1 x.2.2.1 x.2.2.2.1 x.2.2.2.2)
theorem v8_0 : l8_0 (T8 P23 P15 P20 P26 P18 P17) = L8_0 := congrArg whileF (funext fun x => (g8_0 P23 P15 P20 P26 P18 P17 x.1 x.2.1 x.2.2.1 x.2.2.2.1 x.2.2.2.2).trans (show q8_0 P23 P15 P20 P26 P18 P17 x.1 x.2.1 x.2.2.1 x.2.2.2.1 x.2.2.2.2 = q8_0 P23 P15 P20 P26 P18 P17 x.1 x.2.1 x.2.2.1 x.2.2.2.1 x.2.2.2.2 from rfl))
def c8 : DCode := (.seq (.reg [o 2 (.box (.t 0)),
  o 4 (.mov (.c (.bool false)))]) (.seq (.seq (.reg [o 11 (.ldn (.t 2) 3 false),
  o 12 (.xcall 23 [(.t 11)]),
  o 13 (.mov (.t 12)),
  og 14 13 false (.ldn (.t 2) 3 false),
  og 15 13 false (.xcall 20 [(.t 14)]),
  og 16 13 false (.bin true .neq (.t 15) (.c (.int .i64 0))),
  o 17 (.pick (.t 13) (.c (.bool true)) (.t 16)),
  o 18 (.mov (.t 17)),
  og 19 18 false (.mov (.t 1)),
  og 20 18 false (.bin true .lss (.t 19) (.c (.int .i64 0))),
  o 21 (.pick (.t 18) (.c (.bool true)) (.t 20)),
  o 22 (.mov (.t 21)),
  og 23 22 false (.mov (.t 1)),
  og 24 22 false (.bin true .gtr (.t 23) (.c (.int .i64 99))),
  o 25 (.pick (.t 22) (.c (.bool true)) (.t 24))]) (.cond (.t 25) (.seq (.reg [o 26 (.xcall 15 []),
  o 4 (.mov (.t 26))]) .ret) .skip)) (.seq (.reg [o 28 (.ldn (.t 2) 3 false),
  o 29 (.mov (.t 1)),
  o 30 (.xcall 26 [(.t 28), (.t 29)]),
  o 27 (.mov (.t 30)),
  o 31 (.ext (.t 27) 0),
  o 32 (.ext (.t 27) 1),
  o 5 (.alc [(.int .i64 0), (.int .i64 0), (.int .i64 0), (.int .i64 0), (.int .i64 0), (.int .i64 0)]),
  .op ⟨none, .sto (.t 5) (.t 31) 6, none⟩ none,
  o 6 (.mov (.t 32))]) (.seq (.seq (.reg [o 33 (.mov (.t 6)),
  o 34 (.bin true .neq (.t 33) (.c (.int .i64 0))),
  o 35 (.mov (.t 34)),
  og 36 35 false (.ldn (.t 5) 6 false),
  og 37 35 false (.xcall 18 [(.t 36)]),
  og 38 35 false (.unot (.t 37)),
  o 39 (.pick (.t 35) (.c (.bool true)) (.t 38)),
  o 40 (.mov (.t 39)),
  og 41 40 false (.fld (.t 5) 5),
  og 42 40 false (.ld1 (.t 41) false),
  og 43 40 false (.bin true .neq (.t 42) (.c (.int .i64 0))),
  o 44 (.pick (.t 40) (.c (.bool true)) (.t 43))]) (.cond (.t 44) (.seq (.reg [o 4 (.mov (.c (.bool false)))]) .ret) .skip)) (.seq (.reg [o 7 (.alc [(.int .i64 0), (.int .i64 0), (.int .i64 0), (.int .i64 0), (.int .i64 0), (.int .i64 0)])]) (.seq (.seq (.reg [o 8 (.mov (.c (.int .i64 0)))]) (.blk 0 (.loop h8_0 x8_0 b8_0))) (.seq (.reg [o 121 (.ldn (.t 5) 6 false),
  o 122 (.ldn (.t 7) 6 false),
  o 123 (.eqs false 6 (.t 121) (.t 122)),
  o 124 (.mov (.t 123)),
  og 125 124 true (.xcall 15 []),
  o 126 (.pick (.t 124) (.t 125) (.c (.bool false))),
  o 4 (.mov (.t 126))]) .ret)))))))
theorem ok8 : L.Fn Try.prog 8 127 [(.t 4)] (erase c8) := L.Fn.of hmix Try.func8 [(10, { ch := [1,0,1,0,0,0,1,0,0,0,0,0,0,0,0], rs := [2] })] (by kernel_rfl)
def sh8 : FSh := ⟨⟨[(.st y69), (.v y6)], []⟩, [y69, y6], 0, ⟨⟨[(.v .bool)], []⟩, [.bool], [], 0⟩, true⟩
noncomputable def q8 (F23 : Y22) (F15 : Y194) (F20 : Y25) (F26 : Y239) (F18 : Y195) (F17 : Y175) (l8_0 : Y259) (a0 : Y20) (a1 : Int) : Option Bool :=
(F23 a0).bind fun (r1 : Bool) => (
cond r1 (
(F15 ()).bind fun (r2 : Bool) => (
some r2)) (
(F20 a0).bind fun (r3 : Int) => (
cond (!decide (r3 = (0 : Int))) (
(F15 ()).bind fun (r4 : Bool) => (
some r4)) (
cond (decide (a1 < (0 : Int))) (
(F15 ()).bind fun (r5 : Bool) => (
some r5)) (
cond (decide ((99 : Int) < a1)) (
(F15 ()).bind fun (r6 : Bool) => (
some r6)) (
(F26 (a0, a1)).bind fun (r7 : Y3 × Int) => (
cond (!decide (r7.2 = (0 : Int))) (
some false) (
(F18 r7.1).bind fun (r8 : Bool) => (
cond (!r8) (
some false) (
cond (!decide (r7.1.2.2.2.2.2 = (0 : Int))) (
some false) (
(l8_0 (a1, (0 : Int), a0, r7.1, ((0 : Int), ((0 : Int), ((0 : Int), ((0 : Int), ((0 : Int), (0 : Int)))))))).bind (fun (y11 : Y240 ⊕ Y238) => Sum.elim (fun (y12 : Y240) => (
some y12.1)) (fun (y13 : Y238) => (
cond (((((decide (y13.2.1.1 = y13.2.2.1) && decide (y13.2.1.2.1 = y13.2.2.2.1)) && decide (y13.2.1.2.2.1 = y13.2.2.2.2.1)) && decide (y13.2.1.2.2.2.1 = y13.2.2.2.2.2.1)) && decide (y13.2.1.2.2.2.2.1 = y13.2.2.2.2.2.2.1)) && decide (y13.2.1.2.2.2.2.2 = y13.2.2.2.2.2.2.2)) (
(F15 ()).bind fun (r14 : Bool) => (
some r14)) (
some false))) y11))))))))))))
theorem g8 (F23 : Y22) (F15 : Y194) (F20 : Y25) (F26 : Y239) (F18 : Y195) (F17 : Y175) (a0 : Y20) (a1 : Int) : dxf (T8 F23 F15 F20 F26 F18 F17) sh8 [(.t 4)] c8 (a0, a1) = q8 F23 F15 F20 F26 F18 F17 (l8_0 (T8 F23 F15 F20 F26 F18 F17)) a0 a1 := by kernel_rfl
noncomputable def p8 (a0 : Y20) (a1 : Int) : Option Bool := q8 P23 P15 P20 P26 P18 P17 L8_0 a0 a1
noncomputable def P8 : Y241 := fun x => p8 x.1 x.2
theorem v8 : dxf (T8 P23 P15 P20 P26 P18 P17) sh8 [(.t 4)] c8 = P8 := funext fun x => (g8 P23 P15 P20 P26 P18 P17 x.1 x.2).trans (show q8 P23 P15 P20 P26 P18 P17 (l8_0 (T8 P23 P15 P20 P26 P18 P17)) x.1 x.2 = q8 P23 P15 P20 P26 P18 P17 L8_0 x.1 x.2 from by rw [v8_0])
theorem d8 : DC Try.prog 8 sh8 P8 := DC_eq v8 (dxf_sound (sh := sh8) t8 ok8 (by kernel_rfl))
noncomputable def T76 : List FEnt := []
theorem t76 : DTblOK Try.prog T76 := DTbl_nil
def b76_0 : DCode := (.seq (.seq (.reg [o 14 (.mov (.t 9)),
  o 15 (.bin true .lss (.t 14) (.c (.int .i64 10)))]) (.cond (.t 15) .skip (.exit 0))) (.seq (.blk 1 (.reg [o 18 (.mov (.t 9)),
  o 19 (.idxa (.t 8) (.t 18) 1 10),
  .op ⟨none, .sto (.t 19) (.c (.int .i64 (-1))) 1, none⟩ none])) (.reg [o 16 (.mov (.t 9)),
  o 17 (.bin true .add (.t 16) (.c (.int .i64 1))),
  o 9 (.mov (.t 17))])))
def h76_0 : LSh := ⟨[1, 2, 3, 7, 8, 9], ⟨[(.v y6), (.v y6), (.ptr 0 0), (.v y6), (.aptr 1 1), (.v y6)], [(0, (.boxT y69)), (1, (.row 114 y6))]⟩, [y6, y6, y6, y6, y69, y12], 2, [0, 1]⟩
def x76_0 : List XSh := [⟨(.exit 0), [1, 2, 3, 7, 8], ⟨⟨[(.v y6), (.v y6), (.ptr 0 0), (.v y6), (.aptr 1 1)], [(0, (.boxT y69)), (1, (.row 114 y6))]⟩, [y6, y6, y6, y69, y12], [0, 1], 2⟩⟩]
noncomputable def s76_0 (T : List FEnt) : Y260 := dstep (xs := x76_0) h76_0 (dxc T b76_0)
noncomputable def l76_0 (T : List FEnt) : Y250 := whileF (s76_0 T)
noncomputable def q76_0 (a0 : Int) (a1 : Int) (a2 : Int) (a3 : Int) (a4 : Y20) (a5 : List Int) : Option Y255 :=
cond (decide (a3 < (10 : Int))) (
chk (inR a3 (List.length a5)) (
chk (inR a3 10) (
chk (fits .i64 (a3 + (1 : Int))) (
some (Sum.inl (a0, a1, a2, (a3 + (1 : Int)), a4, (List.set a5 (Int.toNat a3) (-1 : Int)))))))) (
some (Sum.inr (a0, a1, a2, a4, a5)))
theorem g76_0 (a0 : Int) (a1 : Int) (a2 : Int) (a3 : Int) (a4 : Y20) (a5 : List Int) : s76_0 T76 (a0, a1, a2, a3, a4, a5) = q76_0 a0 a1 a2 a3 a4 a5 := by kernel_rfl
noncomputable def p76_0 (a0 : Int) (a1 : Int) (a2 : Int) (a3 : Int) (a4 : Y20) (a5 : List Int) : Option Y255 := q76_0 a0 a1 a2 a3 a4 a5
noncomputable def L76_0 : Y250 := whileF (fun x => p76_0 x.1 x.2.1 x.2.2.1 x.2.2.2.1 x.2.2.2.2.1 x.2.2.2.2.2)
theorem v76_0 : l76_0 T76 = L76_0 := congrArg whileF (funext fun x => (g76_0 x.1 x.2.1 x.2.2.1 x.2.2.2.1 x.2.2.2.2.1 x.2.2.2.2.2).trans (show q76_0 x.1 x.2.1 x.2.2.1 x.2.2.2.1 x.2.2.2.2.1 x.2.2.2.2.2 = q76_0 x.1 x.2.1 x.2.2.1 x.2.2.2.1 x.2.2.2.2.1 x.2.2.2.2.2 from rfl))
def b76_1 : DCode := (.seq (.seq (.reg [o 20 (.mov (.t 10)),
  o 21 (.fld (.t 3) 2),
  o 22 (.ld1 (.t 21) false),
  o 23 (.len (.t 22)),
  o 24 (.bin true .lss (.t 20) (.t 23))]) (.cond (.t 24) .skip (.exit 2))) (.seq (.blk 3 (.seq (.reg [o 27 (.fld (.t 3) 2),
  o 28 (.ld1 (.t 27) false),
  o 29 (.mov (.t 10)),
  o 30 (.idx (.t 28) (.t 29) 6),
  o 31 (.ldn (.t 30) 6 false),
  o 11 (.alc [(.int .i64 0), (.int .i64 0), (.int .i64 0), (.int .i64 0), (.int .i64 0), (.int .i64 0)]),
  .op ⟨none, .sto (.t 11) (.t 31) 6, none⟩ none]) (.seq (.seq (.reg [o 32 (.fld (.t 11) 2),
  o 33 (.ld1 (.t 32) false),
  o 34 (.mov (.t 1)),
  o 35 (.bin true .neq (.t 33) (.t 34)),
  o 36 (.mov (.t 35)),
  og 37 36 false (.fld (.t 11) 3),
  og 38 36 false (.ld1 (.t 37) false),
  og 39 36 false (.mov (.t 2)),
  og 40 36 false (.bin true .neq (.t 38) (.t 39)),
  o 41 (.pick (.t 36) (.c (.bool true)) (.t 40))]) (.cond (.t 41) (.exit 3) .skip)) (.seq (.reg [o 42 (.fld (.t 11) 1),
  o 43 (.ld1 (.t 42) false),
  o 44 (.bin true .eql (.t 43) (.c (.int .i64 2)))]) (.cond (.t 44) (.seq (.drw [] [r 45 (.mov (.t 7)),
  r 46 (.bin true .lss (.t 45) (.c (.int .i64 0))),
  r 47 (.mov (.t 46)),
  (⟨some 48, .fld (.t 11) 0, some (47, false)⟩, none),
  (⟨some 49, .ld1 (.t 48) false, some (47, false)⟩, none),
  (⟨some 50, .fld (.t 3) 2, some (47, false)⟩, none),
  (⟨some 51, .ld1 (.t 50) false, some (47, false)⟩, none),
  (⟨some 52, .mov (.t 7), some (47, false)⟩, none),
  (⟨some 53, .idx (.t 51) (.t 52) 6, some (47, false)⟩, none),
  (⟨some 54, .fld (.t 53) 0, some (47, false)⟩, none),
  (⟨some 55, .ld1 (.t 54) false, some (47, false)⟩, none),
  (⟨some 56, .bin true .gtr (.t 49) (.t 55), some (47, false)⟩, none),
  r 57 (.pick (.t 47) (.c (.bool true)) (.t 56))]) (.cond (.t 57) (.reg [o 58 (.mov (.t 10)),
  o 7 (.mov (.t 58))]) .skip)) (.seq (.drw [] [r 59 (.fld (.t 11) 4),
  r 60 (.ld1 (.t 59) false),
  r 61 (.idxa (.t 8) (.t 60) 1 10),
  r 62 (.ld1 (.t 61) false),
  r 63 (.bin true .lss (.t 62) (.c (.int .i64 0))),
  r 64 (.mov (.t 63)),
  (⟨some 65, .fld (.t 11) 0, some (64, false)⟩, none),
  (⟨some 66, .ld1 (.t 65) false, some (64, false)⟩, none),
  (⟨some 67, .fld (.t 3) 2, some (64, false)⟩, none),
  (⟨some 68, .ld1 (.t 67) false, some (64, false)⟩, none),
  (⟨some 69, .fld (.t 11) 4, some (64, false)⟩, none),
  (⟨some 70, .ld1 (.t 69) false, some (64, false)⟩, none),
  (⟨some 71, .idxa (.t 8) (.t 70) 1 10, some (64, false)⟩, none),
  (⟨some 72, .ld1 (.t 71) false, some (64, false)⟩, none),
  (⟨some 73, .idx (.t 68) (.t 72) 6, some (64, false)⟩, none),
  (⟨some 74, .fld (.t 73) 0, some (64, false)⟩, none),
  (⟨some 75, .ld1 (.t 74) false, some (64, false)⟩, none),
  (⟨some 76, .bin true .gtr (.t 66) (.t 75), some (64, false)⟩, none),
  r 77 (.pick (.t 64) (.c (.bool true)) (.t 76))]) (.cond (.t 77) (.reg [o 78 (.fld (.t 11) 4),
  o 79 (.ld1 (.t 78) false),
  o 80 (.mov (.t 10)),
  o 81 (.idxa (.t 8) (.t 79) 1 10),
  .op ⟨none, .sto (.t 81) (.t 80) 1, none⟩ none]) .skip))))))) (.reg [o 25 (.mov (.t 10)),
  o 26 (.bin true .add (.t 25) (.c (.int .i64 1))),
  o 10 (.mov (.t 26))])))
def h76_1 : LSh := ⟨[1, 2, 3, 7, 8, 10], ⟨[(.v y6), (.v y6), (.ptr 0 0), (.v y6), (.aptr 1 1), (.v y6)], [(0, (.boxT y69)), (1, (.row 114 y6))]⟩, [y6, y6, y6, y6, y69, y12], 2, [0, 1]⟩
def x76_1 : List XSh := [⟨(.exit 2), [3, 7, 8], ⟨⟨[(.ptr 0 0), (.v y6), (.aptr 1 1)], [(0, (.boxT y69)), (1, (.row 114 y6))]⟩, [y6, y69, y12], [0, 1], 2⟩⟩]
noncomputable def s76_1 (T : List FEnt) : Y261 := dstep (xs := x76_1) h76_1 (dxc T b76_1)
noncomputable def l76_1 (T : List FEnt) : Y251 := whileF (s76_1 T)
noncomputable def q76_1 (a0 : Int) (a1 : Int) (a2 : Int) (a3 : Int) (a4 : Y20) (a5 : List Int) : Option Y256 :=
cond (decide (a3 < (↑(List.length a4.2.2) : Int))) (
chk (inR a3 (List.length a4.2.2)) (
cond (!decide ((ix a4.2.2 a3).2.2.1 = a0)) (
chk (fits .i64 (a3 + (1 : Int))) (
some (Sum.inl (a0, a1, a2, (a3 + (1 : Int)), a4, a5)))) (
cond (!decide ((ix a4.2.2 a3).2.2.2.1 = a1)) (
chk (fits .i64 (a3 + (1 : Int))) (
some (Sum.inl (a0, a1, a2, (a3 + (1 : Int)), a4, a5)))) (
cond (decide ((ix a4.2.2 a3).2.1 = (2 : Int))) (
cond (decide (a2 < (0 : Int))) (
chk (fits .i64 (a3 + (1 : Int))) (
some (Sum.inl (a0, a1, a3, (a3 + (1 : Int)), a4, a5)))) (
chk (inR a2 (List.length a4.2.2)) (
cond (decide ((ix a4.2.2 a2).1 < (ix a4.2.2 a3).1)) (
chk (fits .i64 (a3 + (1 : Int))) (
some (Sum.inl (a0, a1, a3, (a3 + (1 : Int)), a4, a5)))) (
chk (fits .i64 (a3 + (1 : Int))) (
some (Sum.inl (a0, a1, a2, (a3 + (1 : Int)), a4, a5))))))) (
chk (inR ((ix a4.2.2 a3).2.2.2.2.1) (List.length a5)) (
chk (inR ((ix a4.2.2 a3).2.2.2.2.1) 10) (
cond (decide ((ix a5 ((ix a4.2.2 a3).2.2.2.2.1)) < (0 : Int))) (
chk (inR ((ix a4.2.2 a3).2.2.2.2.1) (List.length a5)) (
chk (inR ((ix a4.2.2 a3).2.2.2.2.1) 10) (
chk (fits .i64 (a3 + (1 : Int))) (
some (Sum.inl (a0, a1, a2, (a3 + (1 : Int)), a4, (List.set a5 (Int.toNat ((ix a4.2.2 a3).2.2.2.2.1)) a3))))))) (
chk (inR ((ix a4.2.2 a3).2.2.2.2.1) (List.length a5)) (
chk (inR ((ix a4.2.2 a3).2.2.2.2.1) 10) (
chk (inR (ix a5 ((ix a4.2.2 a3).2.2.2.2.1)) (List.length a4.2.2)) (
cond (decide ((ix a4.2.2 (ix a5 ((ix a4.2.2 a3).2.2.2.2.1))).1 < (ix a4.2.2 a3).1)) (
chk (inR ((ix a4.2.2 a3).2.2.2.2.1) (List.length a5)) (
chk (inR ((ix a4.2.2 a3).2.2.2.2.1) 10) (
chk (fits .i64 (a3 + (1 : Int))) (
some (Sum.inl (a0, a1, a2, (a3 + (1 : Int)), a4, (List.set a5 (Int.toNat ((ix a4.2.2 a3).2.2.2.2.1)) a3))))))) (
chk (fits .i64 (a3 + (1 : Int))) (
some (Sum.inl (a0, a1, a2, (a3 + (1 : Int)), a4, a5))))))))))))))) (
some (Sum.inr (a2, a4, a5)))
theorem g76_1 (a0 : Int) (a1 : Int) (a2 : Int) (a3 : Int) (a4 : Y20) (a5 : List Int) : s76_1 T76 (a0, a1, a2, a3, a4, a5) = q76_1 a0 a1 a2 a3 a4 a5 := by kernel_rfl
noncomputable def p76_1 (a0 : Int) (a1 : Int) (a2 : Int) (a3 : Int) (a4 : Y20) (a5 : List Int) : Option Y256 := q76_1 a0 a1 a2 a3 a4 a5
noncomputable def L76_1 : Y251 := whileF (fun x => p76_1 x.1 x.2.1 x.2.2.1 x.2.2.2.1 x.2.2.2.2.1 x.2.2.2.2.2)
theorem v76_1 : l76_1 T76 = L76_1 := congrArg whileF (funext fun x => (g76_1 x.1 x.2.1 x.2.2.1 x.2.2.2.1 x.2.2.2.2.1 x.2.2.2.2.2).trans (show q76_1 x.1 x.2.1 x.2.2.1 x.2.2.2.1 x.2.2.2.2.1 x.2.2.2.2.2 = q76_1 x.1 x.2.1 x.2.2.1 x.2.2.2.1 x.2.2.2.2.1 x.2.2.2.2.2 from rfl))
def b76_2 : DCode := (.seq (.seq (.reg [o 90 (.mov (.t 13)),
  o 91 (.bin true .lss (.t 90) (.c (.int .i64 10)))]) (.cond (.t 91) .skip (.exit 4))) (.seq (.blk 5 (.seq (.reg [o 94 (.mov (.t 13)),
  o 95 (.idxa (.t 8) (.t 94) 1 10),
  o 96 (.ld1 (.t 95) false),
  o 97 (.bin true .geq (.t 96) (.c (.int .i64 0)))]) (.cond (.t 97) (.drw [] [r 98 (.mov (.t 12)),
  r 99 (.fld (.t 3) 2),
  r 100 (.ld1 (.t 99) false),
  r 101 (.mov (.t 13)),
  r 102 (.idxa (.t 8) (.t 101) 1 10),
  r 103 (.ld1 (.t 102) false),
  r 104 (.idx (.t 100) (.t 103) 6),
  r 105 (.fld (.t 104) 5),
  r 106 (.ld1 (.t 105) false),
  r 107 (.bin true .add (.t 98) (.t 106)),
  r 12 (.mov (.t 107))]) .skip))) (.reg [o 92 (.mov (.t 13)),
  o 93 (.bin true .add (.t 92) (.c (.int .i64 1))),
  o 13 (.mov (.t 93))])))
def h76_2 : LSh := ⟨[3, 8, 12, 13], ⟨[(.ptr 0 0), (.aptr 1 1), (.v y6), (.v y6)], [(0, (.boxT y69)), (1, (.row 114 y6))]⟩, [y6, y6, y69, y12], 2, [0, 1]⟩
def x76_2 : List XSh := [⟨(.exit 4), [12], ⟨⟨[(.v y6)], [(0, (.boxT y69)), (1, (.row 114 y6))]⟩, [y6, y69, y12], [0, 1], 2⟩⟩]
noncomputable def s76_2 (T : List FEnt) : Y262 := dstep (xs := x76_2) h76_2 (dxc T b76_2)
noncomputable def l76_2 (T : List FEnt) : Y252 := whileF (s76_2 T)
noncomputable def q76_2 (a0 : Int) (a1 : Int) (a2 : Y20) (a3 : List Int) : Option Y257 :=
cond (decide (a1 < (10 : Int))) (
chk (inR a1 (List.length a3)) (
chk (inR a1 10) (
cond (decide ((0 : Int) ≤ (ix a3 a1))) (
chk (inR a1 (List.length a3)) (
chk (inR a1 10) (
chk (inR (ix a3 a1) (List.length a2.2.2)) (
chk (fits .i64 (a0 + (ix a2.2.2 (ix a3 a1)).2.2.2.2.2)) (
chk (fits .i64 (a1 + (1 : Int))) (
some (Sum.inl ((a0 + (ix a2.2.2 (ix a3 a1)).2.2.2.2.2), (a1 + (1 : Int)), a2, a3)))))))) (
chk (fits .i64 (a1 + (1 : Int))) (
some (Sum.inl (a0, (a1 + (1 : Int)), a2, a3))))))) (
some (Sum.inr (a0, a2, a3)))
theorem g76_2 (a0 : Int) (a1 : Int) (a2 : Y20) (a3 : List Int) : s76_2 T76 (a0, a1, a2, a3) = q76_2 a0 a1 a2 a3 := by kernel_rfl
noncomputable def p76_2 (a0 : Int) (a1 : Int) (a2 : Y20) (a3 : List Int) : Option Y257 := q76_2 a0 a1 a2 a3
noncomputable def L76_2 : Y252 := whileF (fun x => p76_2 x.1 x.2.1 x.2.2.1 x.2.2.2)
theorem v76_2 : l76_2 T76 = L76_2 := congrArg whileF (funext fun x => (g76_2 x.1 x.2.1 x.2.2.1 x.2.2.2).trans (show q76_2 x.1 x.2.1 x.2.2.1 x.2.2.2 = q76_2 x.1 x.2.1 x.2.2.1 x.2.2.2 from rfl))
def c76 : DCode := (.seq (.reg [o 3 (.box (.t 0)),
  o 6 (.mov (.c (.int .i64 0)))]) (.seq (.reg [o 7 (.mov (.c (.int .i64 (-1))))]) (.seq (.reg [.op ⟨some 8, .alcr 114 1 10 [(.int .i64 0)], none⟩ (some (false, y6))]) (.seq (.seq (.reg [o 9 (.mov (.c (.int .i64 0)))]) (.blk 0 (.loop h76_0 x76_0 b76_0))) (.seq (.seq (.reg [o 10 (.mov (.c (.int .i64 0)))]) (.blk 2 (.loop h76_1 x76_1 b76_1))) (.seq (.seq (.reg [o 82 (.mov (.t 7)),
  o 83 (.bin true .geq (.t 82) (.c (.int .i64 0)))]) (.cond (.t 83) (.seq (.reg [o 84 (.fld (.t 3) 2),
  o 85 (.ld1 (.t 84) false),
  o 86 (.mov (.t 7)),
  o 87 (.idx (.t 85) (.t 86) 6),
  o 88 (.fld (.t 87) 5),
  o 89 (.ld1 (.t 88) false),
  o 6 (.mov (.t 89))]) .ret) .skip)) (.seq (.reg [o 12 (.mov (.c (.int .i64 0)))]) (.seq (.seq (.reg [o 13 (.mov (.c (.int .i64 0)))]) (.blk 4 (.loop h76_2 x76_2 b76_2))) (.seq (.reg [o 108 (.mov (.t 12)),
  o 6 (.mov (.t 108))]) .ret)))))))))
theorem ok76 : L.Fn Try.prog 76 109 [(.t 6)] (erase c76) := L.Fn.of hmix Try.func76 [] (by kernel_rfl)
def sh76 : FSh := ⟨⟨[(.st y69), (.v y6), (.v y6)], []⟩, [y69, y6, y6], 0, ⟨⟨[(.v y6)], []⟩, [y6], [], 0⟩, true⟩
noncomputable def q76 (l76_0 : Y250) (l76_1 : Y251) (l76_2 : Y252) (a0 : Y20) (a1 : Int) (a2 : Int) : Option Int :=
(l76_0 (a1, a2, (-1 : Int), (0 : Int), a0, (repl 10 (0 : Int)))).bind fun (y1 : Y242) => (
(l76_1 (y1.1, y1.2.1, y1.2.2.1, (0 : Int), y1.2.2.2.1, y1.2.2.2.2)).bind fun (y2 : Y243) => (
cond (decide ((0 : Int) ≤ y2.1)) (
chk (inR y2.1 (List.length y2.2.1.2.2)) (
some ((ix y2.2.1.2.2 y2.1).2.2.2.2.2))) (
(l76_2 ((0 : Int), (0 : Int), y2.2.1, y2.2.2)).bind fun (y3 : Y243) => (
some y3.1))))
theorem g76 (a0 : Y20) (a1 : Int) (a2 : Int) : dxf T76 sh76 [(.t 6)] c76 (a0, a1, a2) = q76 (l76_0 T76) (l76_1 T76) (l76_2 T76) a0 a1 a2 := by kernel_rfl
noncomputable def p76 (a0 : Y20) (a1 : Int) (a2 : Int) : Option Int := q76 L76_0 L76_1 L76_2 a0 a1 a2
noncomputable def P76 : Y173 := fun x => p76 x.1 x.2.1 x.2.2
theorem v76 : dxf T76 sh76 [(.t 6)] c76 = P76 := funext fun x => (g76 x.1 x.2.1 x.2.2).trans (show q76 (l76_0 T76) (l76_1 T76) (l76_2 T76) x.1 x.2.1 x.2.2 = q76 L76_0 L76_1 L76_2 x.1 x.2.1 x.2.2 from by rw [v76_0, v76_1, v76_2])
theorem d76 : DC Try.prog 76 sh76 P76 := DC_eq v76 (dxf_sound (sh := sh76) t76 ok76 (by kernel_rfl))
noncomputable def T52 (F76 : Y173) (F49 : Y160) : List FEnt := [⟨76, sh76, F76⟩, ⟨49, sh49, F49⟩]
theorem t52 : DTblOK Try.prog (T52 P76 P49) := (DTbl_cons' (f := 76) (sh := sh76) (F := P76) d76 (by kernel_rfl) (DTbl_cons' (f := 49) (sh := sh49) (F := P49) d49 (by kernel_rfl) DTbl_nil))
def c52 : DCode := (.seq (.reg [o 3 (.box (.t 0)),
  o 4 (.box (.t 1)),
  o 6 (.alc [(.int .i64 0), (.int .i64 0), (.int .i64 0), (.int .i64 0), (.int .i64 0), (.int .i64 0)])]) (.seq (.drw [3, 4] [r 7 (.fld (.t 3) 0),
  r 8 (.ld1 (.t 7) true),
  r 9 (.ldn (.t 4) 9 true),
  r 10 (.mov (.t 2)),
  r 11 (.ldn (.t 3) 3 false),
  r 12 (.fld (.t 4) 0),
  r 13 (.ld1 (.t 12) false),
  r 14 (.mov (.t 2)),
  r 15 (.xcall 76 [(.t 11), (.t 13), (.t 14)]),
  r 16 (.xcall 49 [(.t 8), (.t 9), (.t 10), (.t 15)]),
  (⟨none, .sto (.t 6) (.t 16) 6, none⟩, none)]) .ret))
theorem ok52 : L.Fn Try.prog 52 17 [(.cell 6 true 6)] (erase c52) := L.Fn.of hmix Try.func52 [(1, { ch := [0,1,1,0,0,0,0,0,0,0,0], rs := [3,4] })] (by kernel_rfl)
def sh52 : FSh := ⟨⟨[(.st y69), (.st y66), (.v y6)], []⟩, [y69, y66, y6], 0, ⟨⟨[(.st y48)], []⟩, [y48], [], 0⟩, true⟩
noncomputable def q52 (F76 : Y173) (F49 : Y160) (a0 : Y20) (a1 : Y9) (a2 : Int) : Option Y3 :=
(F76 (a0, a1.1, a2)).bind fun (r1 : Int) => (
(F49 (a0.1, a1, a2, r1)).bind fun (r2 : Y3) => (
some r2))
theorem g52 (F76 : Y173) (F49 : Y160) (a0 : Y20) (a1 : Y9) (a2 : Int) : dxf (T52 F76 F49) sh52 [(.cell 6 true 6)] c52 (a0, a1, a2) = q52 F76 F49 a0 a1 a2 := by kernel_rfl
noncomputable def p52 (a0 : Y20) (a1 : Y9) (a2 : Int) : Option Y3 := q52 P76 P49 a0 a1 a2
noncomputable def P52 : Y244 := fun x => p52 x.1 x.2.1 x.2.2
theorem v52 : dxf (T52 P76 P49) sh52 [(.cell 6 true 6)] c52 = P52 := funext fun x => (g52 P76 P49 x.1 x.2.1 x.2.2).trans (show q52 P76 P49 x.1 x.2.1 x.2.2 = q52 P76 P49 x.1 x.2.1 x.2.2 from rfl)
theorem d52 : DC Try.prog 52 sh52 P52 := DC_eq v52 (dxf_sound (sh := sh52) t52 ok52 (by kernel_rfl))
noncomputable def T28 (F20 : Y25) (F16 : Y33) (F48 : Y4) (F52 : Y244) : List FEnt := [⟨20, sh20, F20⟩, ⟨16, sh16, F16⟩, ⟨48, sh48, F48⟩, ⟨52, sh52, F52⟩]
theorem t28 : DTblOK Try.prog (T28 P20 P16 P48 P52) := (DTbl_cons' (f := 20) (sh := sh20) (F := P20) d20 (by kernel_rfl) (DTbl_cons' (f := 16) (sh := sh16) (F := P16) d16 (by kernel_rfl) (DTbl_cons' (f := 48) (sh := sh48) (F := P48) d48 (by kernel_rfl) (DTbl_cons' (f := 52) (sh := sh52) (F := P52) d52 (by kernel_rfl) DTbl_nil))))
def c28 : DCode := (.seq (.reg [o 3 (.box (.t 0)),
  o 6 (.alc [(.int .i64 0), (.int .i64 0), (.int .i64 0), (.int .i64 0), (.int .i64 0), (.int .i64 0)]),
  o 7 (.mov (.c (.int .i64 0)))]) (.seq (.seq (.reg [o 11 (.ldn (.t 3) 3 false),
  o 12 (.xcall 20 [(.t 11)]),
  o 8 (.mov (.t 12))]) (.seq (.reg [o 13 (.mov (.t 8)),
  o 14 (.bin true .neq (.t 13) (.c (.int .i64 0)))]) (.cond (.t 14) (.seq (.reg [o 15 (.bld [(.int .i64 0), (.int .i64 0), (.int .i64 0), (.int .i64 0), (.int .i64 0), (.int .i64 0)] []),
  o 16 (.mov (.t 8)),
  .op ⟨none, .sto (.t 6) (.t 15) 6, none⟩ none,
  o 7 (.mov (.t 16))]) .ret) .skip))) (.seq (.reg [o 18 (.ldn (.t 3) 3 false),
  o 19 (.mov (.t 1)),
  o 20 (.xcall 16 [(.t 18), (.t 19)]),
  o 17 (.mov (.t 20)),
  o 21 (.ext (.t 17) 0),
  o 22 (.ext (.t 17) 1),
  o 9 (.alc [(.int .i64 0), (.int .i64 0), (.int .i64 0), .emp, .emp, (.int .i64 0), (.int .i64 0), (.int .i64 0), (.int .i64 0)]),
  .op ⟨none, .sto (.t 9) (.t 21) 9, none⟩ none,
  o 10 (.mov (.t 22))]) (.seq (.seq (.reg [o 23 (.mov (.t 10)),
  o 24 (.unot (.t 23)),
  o 25 (.mov (.t 24)),
  og 26 25 false (.mov (.t 2)),
  og 27 25 false (.fld (.t 9) 1),
  og 28 25 false (.ld1 (.t 27) false),
  og 29 25 false (.fld (.t 9) 2),
  og 30 25 false (.ld1 (.t 29) false),
  og 31 25 false (.xcall 48 [(.t 26), (.t 28), (.t 30)]),
  og 32 25 false (.unot (.t 31)),
  o 33 (.pick (.t 25) (.c (.bool true)) (.t 32))]) (.cond (.t 33) (.seq (.reg [o 34 (.bld [(.int .i64 0), (.int .i64 0), (.int .i64 0), (.int .i64 0), (.int .i64 0), (.int .i64 0)] []),
  .op ⟨none, .sto (.t 6) (.t 34) 6, none⟩ none,
  o 7 (.mov (.c (.int .i64 1)))]) .ret) .skip)) (.seq (.reg [o 35 (.ldn (.t 3) 3 false),
  o 36 (.ldn (.t 9) 9 false),
  o 37 (.mov (.t 2)),
  o 38 (.xcall 52 [(.t 35), (.t 36), (.t 37)]),
  .op ⟨none, .sto (.t 6) (.t 38) 6, none⟩ none,
  o 7 (.mov (.c (.int .i64 0)))]) .ret)))))
theorem ok28 : L.Fn Try.prog 28 39 [(.cell 6 true 6), (.t 7)] (erase c28) := L.Fn.of hmix Try.func28 [] (by kernel_rfl)
def sh28 : FSh := ⟨⟨[(.st y69), (.v y6), (.v y6)], []⟩, [y69, y6, y6], 0, ⟨⟨[(.tup [(.st y48), (.v y6)])], []⟩, [y48, y6], [], 0⟩, true⟩
noncomputable def q28 (F20 : Y25) (F16 : Y33) (F48 : Y4) (F52 : Y244) (a0 : Y20) (a1 : Int) (a2 : Int) : Option Y149 :=
(F20 a0).bind fun (r1 : Int) => (
cond (!decide (r1 = (0 : Int))) (
some (((0 : Int), ((0 : Int), ((0 : Int), ((0 : Int), ((0 : Int), (0 : Int)))))), r1)) (
(F16 (a0, a1)).bind fun (r2 : Y9 × Bool) => (
cond (!r2.2) (
some (((0 : Int), ((0 : Int), ((0 : Int), ((0 : Int), ((0 : Int), (0 : Int)))))), (1 : Int))) (
(F48 (a2, r2.1.2.1, r2.1.2.2.1)).bind fun (r3 : Bool) => (
cond (!r3) (
some (((0 : Int), ((0 : Int), ((0 : Int), ((0 : Int), ((0 : Int), (0 : Int)))))), (1 : Int))) (
(F52 (a0, r2.1, a2)).bind fun (r4 : Y3) => (
some (r4, (0 : Int)))))))))
theorem g28 (F20 : Y25) (F16 : Y33) (F48 : Y4) (F52 : Y244) (a0 : Y20) (a1 : Int) (a2 : Int) : dxf (T28 F20 F16 F48 F52) sh28 [(.cell 6 true 6), (.t 7)] c28 (a0, a1, a2) = q28 F20 F16 F48 F52 a0 a1 a2 := by kernel_rfl
noncomputable def p28 (a0 : Y20) (a1 : Int) (a2 : Int) : Option Y149 := q28 P20 P16 P48 P52 a0 a1 a2
noncomputable def P28 : Y175 := fun x => p28 x.1 x.2.1 x.2.2
theorem v28 : dxf (T28 P20 P16 P48 P52) sh28 [(.cell 6 true 6), (.t 7)] c28 = P28 := funext fun x => (g28 P20 P16 P48 P52 x.1 x.2.1 x.2.2).trans (show q28 P20 P16 P48 P52 x.1 x.2.1 x.2.2 = q28 P20 P16 P48 P52 x.1 x.2.1 x.2.2 from rfl)
theorem d28 : DC Try.prog 28 sh28 P28 := DC_eq v28 (dxf_sound (sh := sh28) t28 ok28 (by kernel_rfl))
noncomputable def T53 (F52 : Y244) : List FEnt := [⟨52, sh52, F52⟩]
theorem t53 : DTblOK Try.prog (T53 P52) := (DTbl_cons' (f := 52) (sh := sh52) (F := P52) d52 (by kernel_rfl) DTbl_nil)
def b53_0 : DCode := (.seq (.seq (.reg [o 11 (.mov (.t 8)),
  o 12 (.mov (.t 2)),
  o 13 (.fld (.t 4) 2),
  o 14 (.ld1 (.t 13) false),
  o 15 (.mnx false (.t 12) (.t 14)),
  o 16 (.bin true .leq (.t 11) (.t 15))]) (.cond (.t 16) .skip (.exit 0))) (.seq (.blk 1 (.reg [o 19 (.mov (.t 7)),
  o 20 (.ldn (.t 3) 3 false),
  o 21 (.ldn (.t 4) 9 false),
  o 22 (.mov (.t 8)),
  o 23 (.xcall 52 [(.t 20), (.t 21), (.t 22)]),
  o 24 (.fldv (.t 23) 3 1 false),
  o 25 (.bin true .add (.t 19) (.t 24)),
  o 7 (.mov (.t 25))])) (.reg [o 17 (.mov (.t 8)),
  o 18 (.bin true .add (.t 17) (.c (.int .i64 1))),
  o 8 (.mov (.t 18))])))
def h53_0 : LSh := ⟨[2, 3, 4, 7, 8], ⟨[(.v y6), (.ptr 0 0), (.ptr 1 0), (.v y6), (.v y6)], [(0, (.boxT y69)), (1, (.boxT y66))]⟩, [y6, y6, y6, y69, y66], 2, [0, 1]⟩
def x53_0 : List XSh := [⟨(.exit 0), [2, 4, 7], ⟨⟨[(.v y6), (.ptr 1 0), (.v y6)], [(0, (.boxT y69)), (1, (.boxT y66))]⟩, [y6, y6, y69, y66], [0, 1], 2⟩⟩]
noncomputable def s53_0 (T : List FEnt) : Y191 := dstep (xs := x53_0) h53_0 (dxc T b53_0)
noncomputable def l53_0 (T : List FEnt) : Y185 := whileF (s53_0 T)
noncomputable def q53_0 (F52 : Y244) (a0 : Int) (a1 : Int) (a2 : Int) (a3 : Y20) (a4 : Y9) : Option Y188 :=
cond (decide (a2 ≤ (min a0 a4.2.2.1))) (
(F52 (a3, a4, a2)).bind fun (r1 : Y3) => (
chk (fits .i64 (a1 + r1.2.2.2.1)) (
chk (fits .i64 (a2 + (1 : Int))) (
some (Sum.inl (a0, (a1 + r1.2.2.2.1), (a2 + (1 : Int)), a3, a4)))))) (
some (Sum.inr (a0, a1, a3, a4)))
theorem g53_0 (F52 : Y244) (a0 : Int) (a1 : Int) (a2 : Int) (a3 : Y20) (a4 : Y9) : s53_0 (T53 F52) (a0, a1, a2, a3, a4) = q53_0 F52 a0 a1 a2 a3 a4 := by kernel_rfl
noncomputable def p53_0 (a0 : Int) (a1 : Int) (a2 : Int) (a3 : Y20) (a4 : Y9) : Option Y188 := q53_0 P52 a0 a1 a2 a3 a4
noncomputable def L53_0 : Y185 := whileF (fun x => p53_0 x.1 x.2.1 x.2.2.1 x.2.2.2.1 x.2.2.2.2)
theorem v53_0 : l53_0 (T53 P52) = L53_0 := congrArg whileF (funext fun x => (g53_0 P52 x.1 x.2.1 x.2.2.1 x.2.2.2.1 x.2.2.2.2).trans (show q53_0 P52 x.1 x.2.1 x.2.2.1 x.2.2.2.1 x.2.2.2.2 = q53_0 P52 x.1 x.2.1 x.2.2.1 x.2.2.2.1 x.2.2.2.2 from rfl))
def c53 : DCode := (.seq (.reg [o 3 (.box (.t 0)),
  o 4 (.box (.t 1)),
  o 6 (.mov (.c (.int .i64 0)))]) (.seq (.reg [o 7 (.mov (.c (.int .i64 0)))]) (.seq (.seq (.reg [o 9 (.fld (.t 4) 1),
  o 10 (.ld1 (.t 9) false),
  o 8 (.mov (.t 10))]) (.blk 0 (.loop h53_0 x53_0 b53_0))) (.seq (.seq (.reg [o 26 (.mov (.t 2)),
  o 27 (.fld (.t 4) 2),
  o 28 (.ld1 (.t 27) false),
  o 29 (.bin true .geq (.t 26) (.t 28))]) (.cond (.t 29) (.reg [o 30 (.mov (.t 7)),
  o 31 (.fld (.t 4) 8),
  o 32 (.ld1 (.t 31) false),
  o 33 (.mnx true (.t 30) (.t 32)),
  o 7 (.mov (.t 33))]) .skip)) (.seq (.reg [o 34 (.mov (.t 7)),
  o 6 (.mov (.t 34))]) .ret)))))
theorem ok53 : L.Fn Try.prog 53 35 [(.t 6)] (erase c53) := L.Fn.of hmix Try.func53 [] (by kernel_rfl)
def sh53 : FSh := ⟨⟨[(.st y69), (.st y66), (.v y6)], []⟩, [y69, y66, y6], 0, ⟨⟨[(.v y6)], []⟩, [y6], [], 0⟩, true⟩
noncomputable def q53 (F52 : Y244) (l53_0 : Y185) (a0 : Y20) (a1 : Y9) (a2 : Int) : Option Int :=
(l53_0 (a2, (0 : Int), a1.2.1, a0, a1)).bind fun (y2 : Y176) => (
cond (decide (y2.2.2.2.2.2.1 ≤ y2.1)) (
some (max y2.2.1 y2.2.2.2.2.2.2.2.2.2.2.2)) (
some y2.2.1))
theorem g53 (F52 : Y244) (a0 : Y20) (a1 : Y9) (a2 : Int) : dxf (T53 F52) sh53 [(.t 6)] c53 (a0, a1, a2) = q53 F52 (l53_0 (T53 F52)) a0 a1 a2 := by kernel_rfl
noncomputable def p53 (a0 : Y20) (a1 : Y9) (a2 : Int) : Option Int := q53 P52 L53_0 a0 a1 a2
noncomputable def P53 : Y177 := fun x => p53 x.1 x.2.1 x.2.2
theorem v53 : dxf (T53 P52) sh53 [(.t 6)] c53 = P53 := funext fun x => (g53 P52 x.1 x.2.1 x.2.2).trans (show q53 P52 (l53_0 (T53 P52)) x.1 x.2.1 x.2.2 = q53 P52 L53_0 x.1 x.2.1 x.2.2 from by rw [v53_0])
theorem d53 : DC Try.prog 53 sh53 P53 := DC_eq v53 (dxf_sound (sh := sh53) t53 ok53 (by kernel_rfl))
noncomputable def T29 (F20 : Y25) (F16 : Y33) (F48 : Y4) (F53 : Y177) : List FEnt := [⟨20, sh20, F20⟩, ⟨16, sh16, F16⟩, ⟨48, sh48, F48⟩, ⟨53, sh53, F53⟩]
theorem t29 : DTblOK Try.prog (T29 P20 P16 P48 P53) := (DTbl_cons' (f := 20) (sh := sh20) (F := P20) d20 (by kernel_rfl) (DTbl_cons' (f := 16) (sh := sh16) (F := P16) d16 (by kernel_rfl) (DTbl_cons' (f := 48) (sh := sh48) (F := P48) d48 (by kernel_rfl) (DTbl_cons' (f := 53) (sh := sh53) (F := P53) d53 (by kernel_rfl) DTbl_nil))))
def c29 : DCode := (.seq (.reg [o 3 (.box (.t 0)),
  o 6 (.mov (.c (.int .i64 0))),
  o 7 (.mov (.c (.int .i64 0)))]) (.seq (.seq (.reg [o 11 (.ldn (.t 3) 3 false),
  o 12 (.xcall 20 [(.t 11)]),
  o 8 (.mov (.t 12))]) (.seq (.reg [o 13 (.mov (.t 8)),
  o 14 (.bin true .neq (.t 13) (.c (.int .i64 0)))]) (.cond (.t 14) (.seq (.reg [o 15 (.mov (.t 8)),
  o 6 (.mov (.c (.int .i64 0))),
  o 7 (.mov (.t 15))]) .ret) .skip))) (.seq (.reg [o 17 (.ldn (.t 3) 3 false),
  o 18 (.mov (.t 1)),
  o 19 (.xcall 16 [(.t 17), (.t 18)]),
  o 16 (.mov (.t 19)),
  o 20 (.ext (.t 16) 0),
  o 21 (.ext (.t 16) 1),
  o 9 (.alc [(.int .i64 0), (.int .i64 0), (.int .i64 0), .emp, .emp, (.int .i64 0), (.int .i64 0), (.int .i64 0), (.int .i64 0)]),
  .op ⟨none, .sto (.t 9) (.t 20) 9, none⟩ none,
  o 10 (.mov (.t 21))]) (.seq (.seq (.reg [o 22 (.mov (.t 10)),
  o 23 (.unot (.t 22)),
  o 24 (.mov (.t 23)),
  og 25 24 false (.mov (.t 2)),
  og 26 24 false (.xcall 48 [(.t 25), (.c (.int .i64 0)), (.c (.int .i64 99))]),
  og 27 24 false (.unot (.t 26)),
  o 28 (.pick (.t 24) (.c (.bool true)) (.t 27))]) (.cond (.t 28) (.seq (.reg [o 6 (.mov (.c (.int .i64 0))),
  o 7 (.mov (.c (.int .i64 1)))]) .ret) .skip)) (.seq (.reg [o 29 (.ldn (.t 3) 3 false),
  o 30 (.ldn (.t 9) 9 false),
  o 31 (.mov (.t 2)),
  o 32 (.xcall 53 [(.t 29), (.t 30), (.t 31)]),
  o 6 (.mov (.t 32)),
  o 7 (.mov (.c (.int .i64 0)))]) .ret)))))
theorem ok29 : L.Fn Try.prog 29 33 [(.t 6), (.t 7)] (erase c29) := L.Fn.of hmix Try.func29 [] (by kernel_rfl)
def sh29 : FSh := ⟨⟨[(.st y69), (.v y6), (.v y6)], []⟩, [y69, y6, y6], 0, ⟨⟨[(.tup [(.v y6), (.v y6)])], []⟩, [y6, y6], [], 0⟩, true⟩
noncomputable def q29 (F20 : Y25) (F16 : Y33) (F48 : Y4) (F53 : Y177) (a0 : Y20) (a1 : Int) (a2 : Int) : Option Y2 :=
(F20 a0).bind fun (r1 : Int) => (
cond (!decide (r1 = (0 : Int))) (
some ((0 : Int), r1)) (
(F16 (a0, a1)).bind fun (r2 : Y9 × Bool) => (
cond (!r2.2) (
some ((0 : Int), (1 : Int))) (
(F48 (a2, (0 : Int), (99 : Int))).bind fun (r3 : Bool) => (
cond (!r3) (
some ((0 : Int), (1 : Int))) (
(F53 (a0, r2.1, a2)).bind fun (r4 : Int) => (
some (r4, (0 : Int)))))))))
theorem g29 (F20 : Y25) (F16 : Y33) (F48 : Y4) (F53 : Y177) (a0 : Y20) (a1 : Int) (a2 : Int) : dxf (T29 F20 F16 F48 F53) sh29 [(.t 6), (.t 7)] c29 (a0, a1, a2) = q29 F20 F16 F48 F53 a0 a1 a2 := by kernel_rfl
noncomputable def p29 (a0 : Y20) (a1 : Int) (a2 : Int) : Option Y2 := q29 P20 P16 P48 P53 a0 a1 a2
noncomputable def P29 : Y178 := fun x => p29 x.1 x.2.1 x.2.2
theorem v29 : dxf (T29 P20 P16 P48 P53) sh29 [(.t 6), (.t 7)] c29 = P29 := funext fun x => (g29 P20 P16 P48 P53 x.1 x.2.1 x.2.2).trans (show q29 P20 P16 P48 P53 x.1 x.2.1 x.2.2 = q29 P20 P16 P48 P53 x.1 x.2.1 x.2.2 from rfl)
theorem d29 : DC Try.prog 29 sh29 P29 := DC_eq v29 (dxf_sound (sh := sh29) t29 ok29 (by kernel_rfl))
end Go.Proofs.Ytfknkinmnecoeaa.D
