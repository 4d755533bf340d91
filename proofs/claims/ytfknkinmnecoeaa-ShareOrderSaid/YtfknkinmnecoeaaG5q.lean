/- Cut down from a longer text. -/
import Derived.Test.YtfknkinmnecoeaaG4q
import Derived.Test.YtfknkinmnecoeaaProg
set_option linter.unusedVariables false
set_option maxRecDepth 100000
namespace Go.Proofs.Ytfknkinmnecoeaa.D
open Go Go.Proofs Go.Proofs.Ytfknkinmnecoeaa.L
noncomputable def T5 (F14 : Y37) (F15 : Y194) (F16 : Y33) (F17 : Y175) (F21 : Y178) : List FEnt := [⟨14, sh14, F14⟩, ⟨15, sh15, F15⟩, ⟨16, sh16, F16⟩, ⟨17, sh17, F17⟩, ⟨21, sh21, F21⟩]
theorem t5 : DTblOK Try.prog (T5 P14 P15 P16 P17 P21) := (DTbl_cons' (f := 14) (sh := sh14) (F := P14) d14 (by kernel_rfl) (DTbl_cons' (f := 15) (sh := sh15) (F := P15) d15 (by kernel_rfl) (DTbl_cons' (f := 16) (sh := sh16) (F := P16) d16 (by kernel_rfl) (DTbl_cons' (f := 17) (sh := sh17) (F := P17) d17 (by kernel_rfl) (DTbl_cons' (f := 21) (sh := sh21) (F := P21) d21 (by kernel_rfl) DTbl_nil)))))
def b5_0 : DCode := (.seq (.reg [o 46 (.fld (.t 3) 1),
  o 47 (.ld1 (.t 46) false),
  o 48 (.bin true .gtr (.t 47) (.c (.int .i64 0)))]) (.cond (.t 48) (.seq (.reg [o 50 (.ldn (.t 2) 3 false),
  o 51 (.fld (.t 3) 0),
  o 52 (.ld1 (.t 51) false),
  o 53 (.fld (.t 3) 1),
  o 54 (.ld1 (.t 53) false),
  o 55 (.bin true .sub (.t 54) (.c (.int .i64 1))),
  o 56 (.xcall 21 [(.t 50), (.t 52), (.t 55)]),
  o 49 (.mov (.t 56)),
  o 57 (.ext (.t 49) 0),
  o 58 (.ext (.t 49) 1),
  o 12 (.mov (.t 57)),
  o 13 (.mov (.t 58))]) (.seq (.seq (.reg [o 59 (.mov (.t 13)),
  o 60 (.bin true .neq (.t 59) (.c (.int .i64 0)))]) (.cond (.t 60) (.seq (.reg [o 4 (.mov (.c (.bool false)))]) .ret) .skip)) (.reg [o 61 (.mov (.t 12)),
  o 11 (.mov (.t 61))]))) .skip))
def h5_0 : LSh := ⟨[2, 3, 5, 7, 8, 9, 10, 11], ⟨[(.ptr 0 0), (.ptr 1 0), (.ptr 2 0), (.ptr 3 0), (.v y6), (.v y6), (.v y6), (.v y6)], [(0, (.boxT y69)), (1, (.boxT y16)), (2, (.boxT y66)), (3, (.boxT y48))]⟩, [y6, y6, y6, y6, y69, y16, y66, y48], 4, [0, 1, 2, 3]⟩
def x5_0 : List XSh := [⟨.ret, [4], ⟨⟨[(.v .bool)], [(0, (.boxT y69)), (1, (.boxT y16)), (2, (.boxT y66)), (3, (.boxT y48))]⟩, [.bool, y69, y16, y66, y48], [0, 1, 2, 3], 4⟩⟩, ⟨.normal, [2, 3, 5, 7, 8, 9, 10, 11], ⟨⟨[(.ptr 0 0), (.ptr 1 0), (.ptr 2 0), (.ptr 3 0), (.v y6), (.v y6), (.v y6), (.v y6)], [(0, (.boxT y69)), (1, (.boxT y16)), (2, (.boxT y66)), (3, (.boxT y48))]⟩, [y6, y6, y6, y6, y69, y16, y66, y48], [0, 1, 2, 3], 4⟩⟩]
noncomputable def l5_0 (T : List FEnt) : Y237 := onceF (xs := x5_0) h5_0 (dxc T b5_0)
noncomputable def q5_0 (F14 : Y37) (F15 : Y194) (F16 : Y33) (F17 : Y175) (F21 : Y178) (a0 : Int) (a1 : Int) (a2 : Int) (a3 : Int) (a4 : Y20) (a5 : Y5) (a6 : Y9) (a7 : Y3) : Option Y236 :=
cond (decide ((0 : Int) < a5.2.1)) (
chk (fits .i64 (a5.2.1 - (1 : Int))) (
(F21 (a4, a5.1, (a5.2.1 - (1 : Int)))).bind fun (r6 : Int × Int) => (
cond (!decide (r6.2 = (0 : Int))) (
some (Sum.inl (false, a4, a5, a6, a7))) (
some (Sum.inr (a0, a1, a2, r6.1, a4, a5, a6, a7)))))) (
some (Sum.inr (a0, a1, a2, a3, a4, a5, a6, a7)))
theorem g5_0 (F14 : Y37) (F15 : Y194) (F16 : Y33) (F17 : Y175) (F21 : Y178) (a0 : Int) (a1 : Int) (a2 : Int) (a3 : Int) (a4 : Y20) (a5 : Y5) (a6 : Y9) (a7 : Y3) : l5_0 (T5 F14 F15 F16 F17 F21) (a0, a1, a2, a3, a4, a5, a6, a7) = q5_0 F14 F15 F16 F17 F21 a0 a1 a2 a3 a4 a5 a6 a7 := by kernel_rfl
noncomputable def p5_0 (a0 : Int) (a1 : Int) (a2 : Int) (a3 : Int) (a4 : Y20) (a5 : Y5) (a6 : Y9) (a7 : Y3) : Option Y236 := q5_0 P14 P15 P16 P17 P21 a0 a1 a2 a3 a4 a5 a6 a7
noncomputable def L5_0 : Y237 := fun x => p5_0 x.1 x.2.1 x.2.2.1 x.2.2.2.1 x.2.2.2.2.1 x.2.2.2.2.2.1 x.2.2.2.2.2.2.1 x.2.2.2.2.2.2.2
theorem v5_0 : l5_0 (T5 P14 P15 P16 P17 P21) = L5_0 := funext fun x => (g5_0 P14 P15 P16 P17 P21 x.1 x.2.1 x.2.2.1 x.2.2.2.1 x.2.2.2.2.1 x.2.2.2.2.2.1 x.2.2.2.2.2.2.1 x.2.2.2.2.2.2.2).trans (show q5_0 P14 P15 P16 P17 P21 x.1 x.2.1 x.2.2.1 x.2.2.2.1 x.2.2.2.2.1 x.2.2.2.2.2.1 x.2.2.2.2.2.2.1 x.2.2.2.2.2.2.2 = q5_0 P14 P15 P16 P17 P21 x.1 x.2.1 x.2.2.1 x.2.2.2.1 x.2.2.2.2.1 x.2.2.2.2.2.1 x.2.2.2.2.2.2.1 x.2.2.2.2.2.2.2 from rfl)
def c5 : DCode := (.seq (.reg [o 2 (.box (.t 0)),
  o 3 (.box (.t 1)),
  o 4 (.mov (.c (.bool false)))]) (.seq (.seq (.reg [o 16 (.ldn (.t 2) 3 false),
  o 17 (.ldn (.t 3) 3 false),
  o 18 (.xcall 14 [(.t 16), (.t 17)]),
  o 19 (.unot (.t 18))]) (.cond (.t 19) (.seq (.reg [o 20 (.xcall 15 []),
  o 4 (.mov (.t 20))]) .ret) .skip)) (.seq (.reg [o 22 (.ldn (.t 2) 3 false),
  o 23 (.fld (.t 3) 0),
  o 24 (.ld1 (.t 23) false),
  o 25 (.xcall 16 [(.t 22), (.t 24)]),
  o 21 (.mov (.t 25)),
  o 26 (.ext (.t 21) 0),
  o 27 (.ext (.t 21) 1),
  o 5 (.alc [(.int .i64 0), (.int .i64 0), (.int .i64 0), .emp, .emp, (.int .i64 0), (.int .i64 0), (.int .i64 0), (.int .i64 0)]),
  .op ⟨none, .sto (.t 5) (.t 26) 9, none⟩ none,
  o 6 (.mov (.t 27))]) (.seq (.reg [o 29 (.ldn (.t 2) 3 false),
  o 30 (.fld (.t 3) 0),
  o 31 (.ld1 (.t 30) false),
  o 32 (.fld (.t 3) 1),
  o 33 (.ld1 (.t 32) false),
  o 34 (.xcall 17 [(.t 29), (.t 31), (.t 33)]),
  o 28 (.mov (.t 34)),
  o 35 (.ext (.t 28) 0),
  o 36 (.ext (.t 28) 1),
  o 7 (.alc [(.int .i64 0), (.int .i64 0), (.int .i64 0), (.int .i64 0), (.int .i64 0), (.int .i64 0)]),
  .op ⟨none, .sto (.t 7) (.t 35) 6, none⟩ none,
  o 8 (.mov (.t 36))]) (.seq (.reg [o 38 (.ldn (.t 2) 3 false),
  o 39 (.fld (.t 3) 0),
  o 40 (.ld1 (.t 39) false),
  o 41 (.fld (.t 3) 1),
  o 42 (.ld1 (.t 41) false),
  o 43 (.xcall 21 [(.t 38), (.t 40), (.t 42)]),
  o 37 (.mov (.t 43)),
  o 44 (.ext (.t 37) 0),
  o 45 (.ext (.t 37) 1),
  o 9 (.mov (.t 44)),
  o 10 (.mov (.t 45))]) (.seq (.reg [o 11 (.mov (.c (.int .i64 0)))]) (.seq (.once h5_0 x5_0 b5_0) (.seq (.seq (.reg [o 62 (.mov (.t 8)),
  o 63 (.bin true .neq (.t 62) (.c (.int .i64 0))),
  o 64 (.mov (.t 63)),
  og 65 64 false (.mov (.t 10)),
  og 66 64 false (.bin true .neq (.t 65) (.c (.int .i64 0))),
  o 67 (.pick (.t 64) (.c (.bool true)) (.t 66)),
  o 68 (.mov (.t 67)),
  og 69 68 false (.mov (.t 9)),
  og 70 68 false (.mov (.t 11)),
  og 71 68 false (.bin true .lss (.t 69) (.t 70)),
  o 72 (.pick (.t 68) (.c (.bool true)) (.t 71)),
  o 73 (.mov (.t 72)),
  og 74 73 false (.fld (.t 3) 1),
  og 75 73 false (.ld1 (.t 74) false),
  og 76 73 false (.fld (.t 5) 1),
  og 77 73 false (.ld1 (.t 76) false),
  og 78 73 false (.bin true .eql (.t 75) (.t 77)),
  og 79 73 false (.mov (.t 78)),
  og 80 79 true (.mov (.t 11)),
  og 81 79 true (.bin true .neq (.t 80) (.c (.int .i64 0))),
  og 82 73 false (.pick (.t 79) (.t 81) (.c (.bool false))),
  o 83 (.pick (.t 73) (.c (.bool true)) (.t 82))]) (.cond (.t 83) (.seq (.reg [o 4 (.mov (.c (.bool false)))]) .ret) .skip)) (.seq (.seq (.reg [o 84 (.fld (.t 3) 1),
  o 85 (.ld1 (.t 84) false),
  o 86 (.fld (.t 5) 2),
  o 87 (.ld1 (.t 86) false),
  o 88 (.bin true .lss (.t 85) (.t 87))]) (.cond (.t 88) (.seq (.reg [o 89 (.mov (.t 9)),
  o 90 (.mov (.t 11)),
  o 91 (.fld (.t 7) 3),
  o 92 (.ld1 (.t 91) false),
  o 93 (.bin true .add (.t 90) (.t 92)),
  o 94 (.bin true .eql (.t 89) (.t 93)),
  o 95 (.mov (.t 94)),
  og 96 95 true (.xcall 15 []),
  o 97 (.pick (.t 95) (.t 96) (.c (.bool false))),
  o 4 (.mov (.t 97))]) .ret) .skip)) (.seq (.reg [o 99 (.ldn (.t 2) 3 false),
  o 100 (.fld (.t 3) 0),
  o 101 (.ld1 (.t 100) false),
  o 102 (.xcall 21 [(.t 99), (.t 101), (.c (.int .i64 99))]),
  o 98 (.mov (.t 102)),
  o 103 (.ext (.t 98) 0),
  o 104 (.ext (.t 98) 1),
  o 14 (.mov (.t 103)),
  o 15 (.mov (.t 104))]) (.seq (.reg [o 105 (.mov (.t 15)),
  o 106 (.bin true .eql (.t 105) (.c (.int .i64 0))),
  o 107 (.mov (.t 106)),
  og 108 107 true (.mov (.t 9)),
  og 109 107 true (.mov (.t 11)),
  og 110 107 true (.fld (.t 7) 3),
  og 111 107 true (.ld1 (.t 110) false),
  og 112 107 true (.bin true .add (.t 109) (.t 111)),
  og 113 107 true (.fld (.t 5) 8),
  og 114 107 true (.ld1 (.t 113) false),
  og 115 107 true (.mnx true (.t 112) (.t 114)),
  og 116 107 true (.bin true .eql (.t 108) (.t 115)),
  o 117 (.pick (.t 107) (.t 116) (.c (.bool false))),
  o 118 (.mov (.t 117)),
  og 119 118 true (.mov (.t 14)),
  og 120 118 true (.mov (.t 9)),
  og 121 118 true (.bin true .eql (.t 119) (.t 120)),
  o 122 (.pick (.t 118) (.t 121) (.c (.bool false))),
  o 123 (.mov (.t 122)),
  og 124 123 true (.xcall 15 []),
  o 125 (.pick (.t 123) (.t 124) (.c (.bool false))),
  o 4 (.mov (.t 125))]) .ret)))))))))))
theorem ok5 : L.Fn Try.prog 5 126 [(.t 4)] (erase c5) := L.Fn.of hmix Try.func5 [] (by kernel_rfl)
def sh5 : FSh := ⟨⟨[(.st y69), (.st y16)], []⟩, [y69, y16], 0, ⟨⟨[(.v .bool)], []⟩, [.bool], [], 0⟩, true⟩
noncomputable def q5 (F14 : Y37) (F15 : Y194) (F16 : Y33) (F17 : Y175) (F21 : Y178) (l5_0 : Y237) (a0 : Y20) (a1 : Y5) : Option Bool :=
(F14 (a0, a1)).bind fun (r1 : Bool) => (
cond (!r1) (
(F15 ()).bind fun (r2 : Bool) => (
some r2)) (
(F16 (a0, a1.1)).bind fun (r3 : Y9 × Bool) => (
(F17 (a0, a1.1, a1.2.1)).bind fun (r4 : Y3 × Int) => (
(F21 (a0, a1.1, a1.2.1)).bind fun (r5 : Int × Int) => (
(l5_0 (r4.2, r5.1, r5.2, (0 : Int), a0, a1, r3.1, r4.1)).bind (fun (y7 : Y231 ⊕ Y232) => Sum.elim (fun (y8 : Y231) => (
some y8.1)) (fun (y9 : Y232) => (
cond (!decide (y9.1 = (0 : Int))) (
some false) (
cond (!decide (y9.2.2.1 = (0 : Int))) (
some false) (
cond (decide (y9.2.1 < y9.2.2.2.1)) (
some false) (
cond (decide (y9.2.2.2.2.2.1.2.1 = y9.2.2.2.2.2.2.1.2.1)) (
cond (!decide (y9.2.2.2.1 = (0 : Int))) (
some false) (
cond (decide (y9.2.2.2.2.2.1.2.1 < y9.2.2.2.2.2.2.1.2.2.1)) (
chk (fits .i64 (y9.2.2.2.1 + y9.2.2.2.2.2.2.2.2.2.2.1)) (
cond (decide (y9.2.1 = (y9.2.2.2.1 + y9.2.2.2.2.2.2.2.2.2.2.1))) (
(F15 ()).bind fun (r10 : Bool) => (
some r10)) (
some false))) (
(F21 (y9.2.2.2.2.1, y9.2.2.2.2.2.1.1, (99 : Int))).bind fun (r11 : Int × Int) => (
cond (decide (r11.2 = (0 : Int))) (
chk (fits .i64 (y9.2.2.2.1 + y9.2.2.2.2.2.2.2.2.2.2.1)) (
cond (decide (y9.2.1 = (max (y9.2.2.2.1 + y9.2.2.2.2.2.2.2.2.2.2.1) y9.2.2.2.2.2.2.1.2.2.2.2.2.2.2.2))) (
cond (decide (r11.1 = y9.2.1)) (
(F15 ()).bind fun (r12 : Bool) => (
some r12)) (
some false)) (
some false))) (
some false))))) (
cond (decide (y9.2.2.2.2.2.1.2.1 < y9.2.2.2.2.2.2.1.2.2.1)) (
chk (fits .i64 (y9.2.2.2.1 + y9.2.2.2.2.2.2.2.2.2.2.1)) (
cond (decide (y9.2.1 = (y9.2.2.2.1 + y9.2.2.2.2.2.2.2.2.2.2.1))) (
(F15 ()).bind fun (r13 : Bool) => (
some r13)) (
some false))) (
(F21 (y9.2.2.2.2.1, y9.2.2.2.2.2.1.1, (99 : Int))).bind fun (r14 : Int × Int) => (
cond (decide (r14.2 = (0 : Int))) (
chk (fits .i64 (y9.2.2.2.1 + y9.2.2.2.2.2.2.2.2.2.2.1)) (
cond (decide (y9.2.1 = (max (y9.2.2.2.1 + y9.2.2.2.2.2.2.2.2.2.2.1) y9.2.2.2.2.2.2.1.2.2.2.2.2.2.2.2))) (
cond (decide (r14.1 = y9.2.1)) (
(F15 ()).bind fun (r15 : Bool) => (
some r15)) (
some false)) (
some false))) (
some false))))))))) y7))))))
theorem g5 (F14 : Y37) (F15 : Y194) (F16 : Y33) (F17 : Y175) (F21 : Y178) (a0 : Y20) (a1 : Y5) : dxf (T5 F14 F15 F16 F17 F21) sh5 [(.t 4)] c5 (a0, a1) = q5 F14 F15 F16 F17 F21 (l5_0 (T5 F14 F15 F16 F17 F21)) a0 a1 := by kernel_rfl
noncomputable def p5 (a0 : Y20) (a1 : Y5) : Option Bool := q5 P14 P15 P16 P17 P21 L5_0 a0 a1
noncomputable def P5 : Y37 := fun x => p5 x.1 x.2
theorem v5 : dxf (T5 P14 P15 P16 P17 P21) sh5 [(.t 4)] c5 = P5 := funext fun x => (g5 P14 P15 P16 P17 P21 x.1 x.2).trans (show q5 P14 P15 P16 P17 P21 (l5_0 (T5 P14 P15 P16 P17 P21)) x.1 x.2 = q5 P14 P15 P16 P17 P21 L5_0 x.1 x.2 from by rw [v5_0])
theorem d5 : DC Try.prog 5 sh5 P5 := DC_eq v5 (dxf_sound (sh := sh5) t5 ok5 (by kernel_rfl))
def b6_0 : DCode := (.seq (.reg [o 68 (.mov (.t 6)),
  o 69 (.bin true .eql (.t 68) (.c (.int .i64 0)))]) (.cond (.t 69) (.reg [o 70 (.mov (.t 5)),
  o 71 (.fld (.t 7) 5),
  .op ⟨none, .sto (.t 71) (.t 70) 1, none⟩ none]) .skip))
def h6_0 : LSh := ⟨[2, 3, 5, 6, 7], ⟨[(.ptr 0 0), (.ptr 1 0), (.v y6), (.v y6), (.ptr 2 0)], [(0, (.boxT y69)), (1, (.boxT y16)), (2, (.boxT y48))]⟩, [y6, y6, y69, y16, y48], 3, [0, 1, 2]⟩
def x6_0 : List XSh := [⟨.normal, [2, 3, 5, 6, 7], ⟨⟨[(.ptr 0 0), (.ptr 1 0), (.v y6), (.v y6), (.ptr 2 0)], [(0, (.boxT y69)), (1, (.boxT y16)), (2, (.boxT y48))]⟩, [y6, y6, y69, y16, y48], [0, 1, 2], 3⟩⟩]
def c6 : DCode := (.seq (.reg [o 2 (.box (.t 0)),
  o 3 (.box (.t 1)),
  o 4 (.mov (.c (.bool false)))]) (.seq (.seq (.reg [o 13 (.ldn (.t 2) 3 false),
  o 14 (.ldn (.t 3) 3 false),
  o 15 (.xcall 14 [(.t 13), (.t 14)]),
  o 16 (.unot (.t 15)),
  o 17 (.mov (.t 16)),
  og 18 17 false (.fld (.t 2) 2),
  og 19 17 false (.ld1 (.t 18) false),
  og 20 17 false (.len (.t 19)),
  og 21 17 false (.bin true .geq (.t 20) (.c (.int .i64 40))),
  o 22 (.pick (.t 17) (.c (.bool true)) (.t 21)),
  o 23 (.mov (.t 22)),
  og 24 23 false (.fld (.t 3) 2),
  og 25 23 false (.ld1 (.t 24) false),
  og 26 23 false (.bin true .lss (.t 25) (.c (.int .i64 0))),
  o 27 (.pick (.t 23) (.c (.bool true)) (.t 26)),
  o 28 (.mov (.t 27)),
  og 29 28 false (.fld (.t 3) 2),
  og 30 28 false (.ld1 (.t 29) false),
  og 31 28 false (.bin true .gtr (.t 30) (.c (.int .i64 10000000))),
  o 32 (.pick (.t 28) (.c (.bool true)) (.t 31))]) (.cond (.t 32) (.seq (.reg [o 33 (.xcall 15 []),
  o 4 (.mov (.t 33))]) .ret) .skip)) (.seq (.reg [o 35 (.ldn (.t 2) 3 false),
  o 36 (.fld (.t 3) 0),
  o 37 (.ld1 (.t 36) false),
  o 38 (.fld (.t 3) 1),
  o 39 (.ld1 (.t 38) false),
  o 40 (.fld (.t 3) 2),
  o 41 (.ld1 (.t 40) false),
  o 42 (.xcall 22 [(.t 35), (.t 37), (.t 39), (.t 41)]),
  o 34 (.mov (.t 42)),
  o 43 (.ext (.t 34) 0),
  o 44 (.ext (.t 34) 1),
  o 5 (.mov (.t 43)),
  o 6 (.mov (.t 44))]) (.seq (.seq (.reg [o 45 (.mov (.t 6)),
  o 46 (.bin true .neq (.t 45) (.c (.int .i64 0))),
  o 47 (.mov (.t 46)),
  og 48 47 true (.mov (.t 6)),
  og 49 47 true (.bin true .neq (.t 48) (.c (.int .i64 3))),
  o 50 (.pick (.t 47) (.t 49) (.c (.bool false))),
  o 51 (.mov (.t 50)),
  og 52 51 false (.mov (.t 6)),
  og 53 51 false (.bin true .eql (.t 52) (.c (.int .i64 0))),
  og 54 51 false (.mov (.t 53)),
  og 55 54 true (.mov (.t 5)),
  og 56 54 true (.bin true .lss (.t 55) (.c (.int .i64 0))),
  og 57 54 true (.mov (.t 56)),
  og 58 57 false (.mov (.t 5)),
  og 59 57 false (.bin true .gtr (.t 58) (.c (.int .i64 10000000))),
  og 60 54 true (.pick (.t 57) (.c (.bool true)) (.t 59)),
  og 61 51 false (.pick (.t 54) (.t 60) (.c (.bool false))),
  o 62 (.pick (.t 51) (.c (.bool true)) (.t 61))]) (.cond (.t 62) (.seq (.reg [o 4 (.mov (.c (.bool false)))]) .ret) .skip)) (.seq (.reg [o 63 (.fld (.t 3) 0),
  o 64 (.ld1 (.t 63) false),
  o 65 (.fld (.t 3) 1),
  o 66 (.ld1 (.t 65) false),
  o 67 (.bld [(.int .i64 0), (.int .i64 0), (.int .i64 0), (.int .i64 0), (.int .i64 0), (.int .i64 0)] [(1, (1, (.c (.int .i64 2)))), (2, (1, (.t 64))), (3, (1, (.t 66))), (5, (1, (.c (.int .i64 10000000))))]),
  o 7 (.alc [(.int .i64 0), (.int .i64 0), (.int .i64 0), (.int .i64 0), (.int .i64 0), (.int .i64 0)]),
  .op ⟨none, .sto (.t 7) (.t 67) 6, none⟩ none]) (.seq (.once h6_0 x6_0 b6_0) (.seq (.reg [o 72 (.ldn (.t 2) 3 false),
  o 73 (.ldn (.t 7) 6 false),
  o 74 (.xcall 19 [(.t 72), (.t 73)]),
  o 8 (.alc [(.int .i64 0), .emp, .emp]),
  .op ⟨none, .sto (.t 8) (.t 74) 3, none⟩ none]) (.seq (.seq (.reg [o 75 (.ldn (.t 8) 3 false),
  o 76 (.xcall 20 [(.t 75)]),
  o 77 (.bin true .neq (.t 76) (.c (.int .i64 0)))]) (.cond (.t 77) (.seq (.reg [o 78 (.xcall 15 []),
  o 4 (.mov (.t 78))]) .ret) .skip)) (.seq (.reg [o 80 (.ldn (.t 8) 3 false),
  o 81 (.fld (.t 3) 0),
  o 82 (.ld1 (.t 81) false),
  o 83 (.fld (.t 3) 1),
  o 84 (.ld1 (.t 83) false),
  o 85 (.xcall 17 [(.t 80), (.t 82), (.t 84)]),
  o 79 (.mov (.t 85)),
  o 86 (.ext (.t 79) 0),
  o 87 (.ext (.t 79) 1),
  o 9 (.alc [(.int .i64 0), (.int .i64 0), (.int .i64 0), (.int .i64 0), (.int .i64 0), (.int .i64 0)]),
  .op ⟨none, .sto (.t 9) (.t 86) 6, none⟩ none,
  o 10 (.mov (.t 87))]) (.seq (.seq (.reg [o 88 (.mov (.t 10)),
  o 89 (.bin true .neq (.t 88) (.c (.int .i64 0))),
  o 90 (.mov (.t 89)),
  og 91 90 false (.fld (.t 9) 3),
  og 92 90 false (.ld1 (.t 91) false),
  og 93 90 false (.fld (.t 3) 2),
  og 94 90 false (.ld1 (.t 93) false),
  og 95 90 false (.bin true .geq (.t 92) (.t 94)),
  og 96 90 false (.mov (.t 6)),
  og 97 90 false (.bin true .eql (.t 96) (.c (.int .i64 0))),
  og 98 90 false (.bq true (.t 95) (.t 97)),
  o 99 (.pick (.t 90) (.c (.bool true)) (.t 98))]) (.cond (.t 99) (.seq (.reg [o 4 (.mov (.c (.bool false)))]) .ret) .skip)) (.seq (.seq (.reg [o 100 (.mov (.t 6)),
  o 101 (.bin true .neq (.t 100) (.c (.int .i64 0))),
  o 102 (.mov (.t 101)),
  og 103 102 false (.mov (.t 5)),
  og 104 102 false (.bin true .eql (.t 103) (.c (.int .i64 0))),
  o 105 (.pick (.t 102) (.c (.bool true)) (.t 104))]) (.cond (.t 105) (.seq (.reg [o 106 (.xcall 15 []),
  o 4 (.mov (.t 106))]) .ret) .skip)) (.seq (.reg [o 107 (.mov (.t 5)),
  o 108 (.bin true .sub (.t 107) (.c (.int .i64 1))),
  o 109 (.fld (.t 7) 5),
  .op ⟨none, .sto (.t 109) (.t 108) 1, none⟩ none]) (.seq (.drw [2, 7, 3] [r 111 (.ldn (.t 2) 3 true),
  r 112 (.ldn (.t 7) 6 true),
  r 114 (.fld (.t 3) 0),
  r 115 (.ld1 (.t 114) true),
  r 116 (.fld (.t 3) 1),
  r 117 (.ld1 (.t 116) true),
  r 113 (.xcall 19 [(.t 111), (.t 112)]),
  r 118 (.xcall 17 [(.t 113), (.t 115), (.t 117)]),
  r 110 (.mov (.t 118)),
  r 119 (.ext (.t 110) 0),
  r 120 (.ext (.t 110) 1),
  r 11 (.alc [(.int .i64 0), (.int .i64 0), (.int .i64 0), (.int .i64 0), (.int .i64 0), (.int .i64 0)]),
  (⟨none, .sto (.t 11) (.t 119) 6, none⟩, none),
  r 12 (.mov (.t 120))]) (.seq (.reg [o 121 (.mov (.t 12)),
  o 122 (.bin true .eql (.t 121) (.c (.int .i64 0))),
  o 123 (.mov (.t 122)),
  og 124 123 true (.fld (.t 11) 3),
  og 125 123 true (.ld1 (.t 124) false),
  og 126 123 true (.fld (.t 3) 2),
  og 127 123 true (.ld1 (.t 126) false),
  og 128 123 true (.bin true .lss (.t 125) (.t 127)),
  o 129 (.pick (.t 123) (.t 128) (.c (.bool false))),
  o 130 (.mov (.t 129)),
  og 131 130 true (.xcall 15 []),
  o 132 (.pick (.t 130) (.t 131) (.c (.bool false))),
  o 4 (.mov (.t 132))]) .ret))))))))))))))
end Go.Proofs.Ytfknkinmnecoeaa.D
