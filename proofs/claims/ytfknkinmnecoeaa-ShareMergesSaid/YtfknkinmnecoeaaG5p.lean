/- Cut down from a longer text. -/
import Derived.Test.YtfknkinmnecoeaaG4p
import Derived.Test.YtfknkinmnecoeaaProg
set_option linter.unusedVariables false
set_option maxRecDepth 100000
namespace Go.Proofs.Ytfknkinmnecoeaa.D
open Go Go.Proofs Go.Proofs.Ytfknkinmnecoeaa.L
noncomputable def T5 (F14 : Y37) (F15 : Y194) (F16 : Y33) (F17 : Y175) (F21 : Y178) : List FEnt := [⟨14, sh14, F14⟩, ⟨15, sh15, F15⟩, ⟨16, sh16, F16⟩, ⟨17, sh17, F17⟩, ⟨21, sh21, F21⟩]
theorem t5 : DTblOK Try.prog (T5 P14 P15 P16 P17 P21) := (DTbl_cons' (f := 14) (sh := sh14) (F := P14) d14 (by kernel_rfl) (DTbl_cons' (f := 15) (sh := sh15) (F := P15) d15 (by kernel_rfl) (DTbl_cons' (f := 16) (sh := sh16) (F := P16) d16 (by kernel_rfl) (DTbl_cons' (f := 17) (sh := sh17) (F := P17) d17 (by kernel_rfl) (DTbl_cons' (f := 21) (sh := sh21) (F := P21) d21 (by kernel_rfl) DTbl_nil)))))
def b5_0 : DCode := (.seq (.reg [o 46 (.fld (.t 3) 1),
  o 47 (.ld1 (.t 46) false),
  o 48 (.bin true .gtr (.t 47) (.c (.int .i64 0)))]) (.cond (.t 48) (.seq (.reg [o 50 (.ldn (.t 2) 3 false),
  o 51 (.fld (.t 3) 0),
  o 52 (.ld1 (.t 51) false),
  o 53 (.fld (.t 3) 1),
  o 54 (.ld1 (.t 53) false),
  o 55 (.bin true .sub (.t 54) (.c (.int .i64 1))),
  o 56 (.xcall 21 [(.t 50), (.t 52), (.t 55)]),
  o 49 (.mov (.t 56)),
  o 57 (.ext (.t 49) 0),
  o 58 (.ext (.t 49) 1),
  o 12 (.mov (.t 57)),
  o 13 (.mov (.t 58))]) (.seq (.seq (.reg [o 59 (.mov (.t 13)),
  o 60 (.bin true .neq (.t 59) (.c (.int .i64 0)))]) (.cond (.t 60) (.seq (.reg [o 4 (.mov (.c (.bool false)))]) .ret) .skip)) (.reg [o 61 (.mov (.t 12)),
  o 11 (.mov (.t 61))]))) .skip))
def h5_0 : LSh := ⟨[2, 3, 5, 7, 8, 9, 10, 11], ⟨[(.ptr 0 0), (.ptr 1 0), (.ptr 2 0), (.ptr 3 0), (.v y6), (.v y6), (.v y6), (.v y6)], [(0, (.boxT y69)), (1, (.boxT y16)), (2, (.boxT y66)), (3, (.boxT y48))]⟩, [y6, y6, y6, y6, y69, y16, y66, y48], 4, [0, 1, 2, 3]⟩
def x5_0 : List XSh := [⟨.ret, [4], ⟨⟨[(.v .bool)], [(0, (.boxT y69)), (1, (.boxT y16)), (2, (.boxT y66)), (3, (.boxT y48))]⟩, [.bool, y69, y16, y66, y48], [0, 1, 2, 3], 4⟩⟩, ⟨.normal, [2, 3, 5, 7, 8, 9, 10, 11], ⟨⟨[(.ptr 0 0), (.ptr 1 0), (.ptr 2 0), (.ptr 3 0), (.v y6), (.v y6), (.v y6), (.v y6)], [(0, (.boxT y69)), (1, (.boxT y16)), (2, (.boxT y66)), (3, (.boxT y48))]⟩, [y6, y6, y6, y6, y69, y16, y66, y48], [0, 1, 2, 3], 4⟩⟩]
noncomputable def l5_0 (T : List FEnt) : Y237 := onceF (xs := x5_0) h5_0 (dxc T b5_0)
noncomputable def q5_0 (F14 : Y37) (F15 : Y194) (F16 : Y33) (F17 : Y175) (F21 : Y178) (a0 : Int) (a1 : Int) (a2 : Int) (a3 : Int) (a4 : Y20) (a5 : Y5) (a6 : Y9) (a7 : Y3) : Option Y236 :=
cond (decide ((0 : Int) < a5.2.1)) (
chk (fits .i64 (a5.2.1 - (1 : Int))) (
(F21 (a4, a5.1, (a5.2.1 - (1 : Int)))).bind fun (r6 : Int × Int) => (
cond (!decide (r6.2 = (0 : Int))) (
some (Sum.inl (false, a4, a5, a6, a7))) (
some (Sum.inr (a0, a1, a2, r6.1, a4, a5, a6, a7)))))) (
some (Sum.inr (a0, a1, a2, a3, a4, a5, a6, a7)))
theorem g5_0 (F14 : Y37) (F15 : Y194) (F16 : Y33) (F17 : Y175) (F21 : Y178) (a0 : Int) (a1 : Int) (a2 : Int) (a3 : Int) (a4 : Y20) (a5 : Y5) (a6 : Y9) (a7 : Y3) : l5_0 (T5 F14 F15 F16 F17 F21) (a0, a1, a2, a3, a4, a5, a6, a7) = q5_0 F14 F15 F16 F17 F21 a0 a1 a2 a3 a4 a5 a6 a7 := by kernel_rfl
noncomputable def p5_0 (a0 : Int) (a1 : Int) (a2 : Int) (a3 : Int) (a4 : Y20) (a5 : Y5) (a6 : Y9) (a7 : Y3) : Option Y236 := q5_0 P14 P15 P16 P17 P21 a0 a1 a2 a3 a4 a5 a6 a7
noncomputable def L5_0 : Y237 := fun x => p5_0 x.1 x.2.1 x.2.2.1 x.2.2.2.1 x.2.2.2.2.1 x.2.2.2.2.2.1 x.2.2.2.2.2.2.1 x.2.2.2.2.2.2.2
theorem v5_0 : l5_0 (T5 P14 P15 P16 P17 P21) = L5_0 := funext fun x => (g5_0 P14 P15 P16 P17 P21 x.1 x.2.1 x.2.2.1 x.2.2.2.1 x.2.2.2.2.1 x.2.2.2.2.2.1 x.2.2.2.2.2.2.1 x.2.2.2.2.2.2.2).trans (show q5_0 P14 P15 P16 P17 P21 x.1 x.2.1 x.2.2.1 x.2.2.2.1 x.2.2.2.2.1 x.2.2.2.2.2.1 x.2.2.2.2.2.2.1 x.2.2.2.2.2.2.2 = q5_0 P14 P15 P16 P17 P21 x.1 x.2.1 x.2.2.1 x.2.2.2.1 x.2.2.2.2.1 x.2.2.2.2.2.1 x.2.2.2.2.2.2.1 x.2.2.2.2.2.2.2 from rfl)
def c5 : DCode := (.seq (.reg [o 2 (.box (.t 0)),
  o 3 (.box (.t 1)),
  o 4 (.mov (.c (.bool false)))]) (.seq (.seq (.reg [o 16 (.ldn (.t 2) 3 false),
  o 17 (.ldn (.t 3) 3 false),
  o 18 (.xcall 14 [(.t 16), (.t 17)]),
  o 19 (.unot (.t 18))]) (.cond (.t 19) (.seq (.reg [o 20 (.xcall 15 []),
  o 4 (.mov (.t 20))]) .ret) .skip)) (.seq (.reg [o 22 (.ldn (.t 2) 3 false),
  o 23 (.fld (.t 3) 0),
  o 24 (.ld1 (.t 23) false),
  o 25 (.xcall 16 [(.t 22), (.t 24)]),
  o 21 (.mov (.t 25)),
  o 26 (.ext (.t 21) 0),
  o 27 (.ext (.t 21) 1),
  o 5 (.alc [(.int .i64 0), (.int .i64 0), (.int .i64 0), .emp, .emp, (.int .i64 0), (.int .i64 0), (.int .i64 0), (.int .i64 0)]),
  .op ⟨none, .sto (.t 5) (.t 26) 9, none⟩ none,
  o 6 (.mov (.t 27))]) (.seq (.reg [o 29 (.ldn (.t 2) 3 false),
  o 30 (.fld (.t 3) 0),
  o 31 (.ld1 (.t 30) false),
  o 32 (.fld (.t 3) 1),
  o 33 (.ld1 (.t 32) false),
  o 34 (.xcall 17 [(.t 29), (.t 31), (.t 33)]),
  o 28 (.mov (.t 34)),
  o 35 (.ext (.t 28) 0),
  o 36 (.ext (.t 28) 1),
  o 7 (.alc [(.int .i64 0), (.int .i64 0), (.int .i64 0), (.int .i64 0), (.int .i64 0), (.int .i64 0)]),
  .op ⟨none, .sto (.t 7) (.t 35) 6, none⟩ none,
  o 8 (.mov (.t 36))]) (.seq (.reg [o 38 (.ldn (.t 2) 3 false),
  o 39 (.fld (.t 3) 0),
  o 40 (.ld1 (.t 39) false),
  o 41 (.fld (.t 3) 1),
  o 42 (.ld1 (.t 41) false),
  o 43 (.xcall 21 [(.t 38), (.t 40), (.t 42)]),
  o 37 (.mov (.t 43)),
  o 44 (.ext (.t 37) 0),
  o 45 (.ext (.t 37) 1),
  o 9 (.mov (.t 44)),
  o 10 (.mov (.t 45))]) (.seq (.reg [o 11 (.mov (.c (.int .i64 0)))]) (.seq (.once h5_0 x5_0 b5_0) (.seq (.seq (.reg [o 62 (.mov (.t 8)),
  o 63 (.bin true .neq (.t 62) (.c (.int .i64 0))),
  o 64 (.mov (.t 63)),
  og 65 64 false (.mov (.t 10)),
  og 66 64 false (.bin true .neq (.t 65) (.c (.int .i64 0))),
  o 67 (.pick (.t 64) (.c (.bool true)) (.t 66)),
  o 68 (.mov (.t 67)),
  og 69 68 false (.mov (.t 9)),
  og 70 68 false (.mov (.t 11)),
  og 71 68 false (.bin true .lss (.t 69) (.t 70)),
  o 72 (.pick (.t 68) (.c (.bool true)) (.t 71)),
  o 73 (.mov (.t 72)),
  og 74 73 false (.fld (.t 3) 1),
  og 75 73 false (.ld1 (.t 74) false),
  og 76 73 false (.fld (.t 5) 1),
  og 77 73 false (.ld1 (.t 76) false),
  og 78 73 false (.bin true .eql (.t 75) (.t 77)),
  og 79 73 false (.mov (.t 78)),
  og 80 79 true (.mov (.t 11)),
  og 81 79 true (.bin true .neq (.t 80) (.c (.int .i64 0))),
  og 82 73 false (.pick (.t 79) (.t 81) (.c (.bool false))),
  o 83 (.pick (.t 73) (.c (.bool true)) (.t 82))]) (.cond (.t 83) (.seq (.reg [o 4 (.mov (.c (.bool false)))]) .ret) .skip)) (.seq (.seq (.reg [o 84 (.fld (.t 3) 1),
  o 85 (.ld1 (.t 84) false),
  o 86 (.fld (.t 5) 2),
  o 87 (.ld1 (.t 86) false),
  o 88 (.bin true .lss (.t 85) (.t 87))]) (.cond (.t 88) (.seq (.reg [o 89 (.mov (.t 9)),
  o 90 (.mov (.t 11)),
  o 91 (.fld (.t 7) 3),
  o 92 (.ld1 (.t 91) false),
  o 93 (.bin true .add (.t 90) (.t 92)),
  o 94 (.bin true .eql (.t 89) (.t 93)),
  o 95 (.mov (.t 94)),
  og 96 95 true (.xcall 15 []),
  o 97 (.pick (.t 95) (.t 96) (.c (.bool false))),
  o 4 (.mov (.t 97))]) .ret) .skip)) (.seq (.reg [o 99 (.ldn (.t 2) 3 false),
  o 100 (.fld (.t 3) 0),
  o 101 (.ld1 (.t 100) false),
  o 102 (.xcall 21 [(.t 99), (.t 101), (.c (.int .i64 99))]),
  o 98 (.mov (.t 102)),
  o 103 (.ext (.t 98) 0),
  o 104 (.ext (.t 98) 1),
  o 14 (.mov (.t 103)),
  o 15 (.mov (.t 104))]) (.seq (.reg [o 105 (.mov (.t 15)),
  o 106 (.bin true .eql (.t 105) (.c (.int .i64 0))),
  o 107 (.mov (.t 106)),
  og 108 107 true (.mov (.t 9)),
  og 109 107 true (.mov (.t 11)),
  og 110 107 true (.fld (.t 7) 3),
  og 111 107 true (.ld1 (.t 110) false),
  og 112 107 true (.bin true .add (.t 109) (.t 111)),
  og 113 107 true (.fld (.t 5) 8),
  og 114 107 true (.ld1 (.t 113) false),
  og 115 107 true (.mnx true (.t 112) (.t 114)),
  og 116 107 true (.bin true .eql (.t 108) (.t 115)),
  o 117 (.pick (.t 107) (.t 116) (.c (.bool false))),
  o 118 (.mov (.t 117)),
  og 119 118 true (.mov (.t 14)),
  og 120 118 true (.mov (.t 9)),
  og 121 118 true (.bin true .eql (.t 119) (.t 120)),
  o 122 (.pick (.t 118) (.t 121) (.c (.bool false))),
  o 123 (.mov (.t 122)),
  og 124 123 true (.xcall 15 []),
  o 125 (.pick (.t 123) (.t 124) (.c (.bool false))),
  o 4 (.mov (.t 125))]) .ret)))))))))))
theorem ok5 : L.Fn Try.prog 5 126 [(.t 4)] (erase c5) := L.Fn.of hmix Try.func5 [] (by kernel_rfl)
def sh5 : FSh := ⟨⟨[(.st y69), (.st y16)], []⟩, [y69, y16], 0, ⟨⟨[(.v .bool)], []⟩, [.bool], [], 0⟩, true⟩
noncomputable def q5 (F14 : Y37) (F15 : Y194) (F16 : Y33) (F17 : Y175) (F21 : Y178) (l5_0 : Y237) (a0 : Y20) (a1 : Y5) : Option Bool :=
(F14 (a0, a1)).bind fun (r1 : Bool) => (
cond (!r1) (
(F15 ()).bind fun (r2 : Bool) => (
some r2)) (
(F16 (a0, a1.1)).bind fun (r3 : Y9 × Bool) => (
(F17 (a0, a1.1, a1.2.1)).bind fun (r4 : Y3 × Int) => (
(F21 (a0, a1.1, a1.2.1)).bind fun (r5 : Int × Int) => (
(l5_0 (r4.2, r5.1, r5.2, (0 : Int), a0, a1, r3.1, r4.1)).bind (fun (y7 : Y231 ⊕ Y232) => Sum.elim (fun (y8 : Y231) => (
some y8.1)) (fun (y9 : Y232) => (
cond (!decide (y9.1 = (0 : Int))) (
some false) (
cond (!decide (y9.2.2.1 = (0 : Int))) (
some false) (
cond (decide (y9.2.1 < y9.2.2.2.1)) (
some false) (
cond (decide (y9.2.2.2.2.2.1.2.1 = y9.2.2.2.2.2.2.1.2.1)) (
cond (!decide (y9.2.2.2.1 = (0 : Int))) (
some false) (
cond (decide (y9.2.2.2.2.2.1.2.1 < y9.2.2.2.2.2.2.1.2.2.1)) (
chk (fits .i64 (y9.2.2.2.1 + y9.2.2.2.2.2.2.2.2.2.2.1)) (
cond (decide (y9.2.1 = (y9.2.2.2.1 + y9.2.2.2.2.2.2.2.2.2.2.1))) (
(F15 ()).bind fun (r10 : Bool) => (
some r10)) (
some false))) (
(F21 (y9.2.2.2.2.1, y9.2.2.2.2.2.1.1, (99 : Int))).bind fun (r11 : Int × Int) => (
cond (decide (r11.2 = (0 : Int))) (
chk (fits .i64 (y9.2.2.2.1 + y9.2.2.2.2.2.2.2.2.2.2.1)) (
cond (decide (y9.2.1 = (max (y9.2.2.2.1 + y9.2.2.2.2.2.2.2.2.2.2.1) y9.2.2.2.2.2.2.1.2.2.2.2.2.2.2.2))) (
cond (decide (r11.1 = y9.2.1)) (
(F15 ()).bind fun (r12 : Bool) => (
some r12)) (
some false)) (
some false))) (
some false))))) (
cond (decide (y9.2.2.2.2.2.1.2.1 < y9.2.2.2.2.2.2.1.2.2.1)) (
chk (fits .i64 (y9.2.2.2.1 + y9.2.2.2.2.2.2.2.2.2.2.1)) (
cond (decide (y9.2.1 = (y9.2.2.2.1 + y9.2.2.2.2.2.2.2.2.2.2.1))) (
(F15 ()).bind fun (r13 : Bool) => (
some r13)) (
some false))) (
(F21 (y9.2.2.2.2.1, y9.2.2.2.2.2.1.1, (99 : Int))).bind fun (r14 : Int × Int) => (
cond (decide (r14.2 = (0 : Int))) (
chk (fits .i64 (y9.2.2.2.1 + y9.2.2.2.2.2.2.2.2.2.2.1)) (
cond (decide (y9.2.1 = (max (y9.2.2.2.1 + y9.2.2.2.2.2.2.2.2.2.2.1) y9.2.2.2.2.2.2.1.2.2.2.2.2.2.2.2))) (
cond (decide (r14.1 = y9.2.1)) (
(F15 ()).bind fun (r15 : Bool) => (
some r15)) (
some false)) (
some false))) (
some false))))))))) y7))))))
theorem g5 (F14 : Y37) (F15 : Y194) (F16 : Y33) (F17 : Y175) (F21 : Y178) (a0 : Y20) (a1 : Y5) : dxf (T5 F14 F15 F16 F17 F21) sh5 [(.t 4)] c5 (a0, a1) = q5 F14 F15 F16 F17 F21 (l5_0 (T5 F14 F15 F16 F17 F21)) a0 a1 := by kernel_rfl
noncomputable def p5 (a0 : Y20) (a1 : Y5) : Option Bool := q5 P14 P15 P16 P17 P21 L5_0 a0 a1
noncomputable def P5 : Y37 := fun x => p5 x.1 x.2
theorem v5 : dxf (T5 P14 P15 P16 P17 P21) sh5 [(.t 4)] c5 = P5 := funext fun x => (g5 P14 P15 P16 P17 P21 x.1 x.2).trans (show q5 P14 P15 P16 P17 P21 (l5_0 (T5 P14 P15 P16 P17 P21)) x.1 x.2 = q5 P14 P15 P16 P17 P21 L5_0 x.1 x.2 from by rw [v5_0])
theorem d5 : DC Try.prog 5 sh5 P5 := DC_eq v5 (dxf_sound (sh := sh5) t5 ok5 (by kernel_rfl))
noncomputable def T6 (F14 : Y37) (F15 : Y194) (F22 : Y180) (F19 : Y214) (F20 : Y25) (F17 : Y175) : List FEnt := [⟨14, sh14, F14⟩, ⟨15, sh15, F15⟩, ⟨22, sh22, F22⟩, ⟨19, sh19, F19⟩, ⟨20, sh20, F20⟩, ⟨17, sh17, F17⟩]
theorem t6 : DTblOK Try.prog (T6 P14 P15 P22 P19 P20 P17) := (DTbl_cons' (f := 14) (sh := sh14) (F := P14) d14 (by kernel_rfl) (DTbl_cons' (f := 15) (sh := sh15) (F := P15) d15 (by kernel_rfl) (DTbl_cons' (f := 22) (sh := sh22) (F := P22) d22 (by kernel_rfl) (DTbl_cons' (f := 19) (sh := sh19) (F := P19) d19 (by kernel_rfl) (DTbl_cons' (f := 20) (sh := sh20) (F := P20) d20 (by kernel_rfl) (DTbl_cons' (f := 17) (sh := sh17) (F := P17) d17 (by kernel_rfl) DTbl_nil))))))
def b6_0 : DCode := (.seq (.reg [o 68 (.mov (.t 6)),
  o 69 (.bin true .eql (.t 68) (.c (.int .i64 0)))]) (.cond (.t 69) (.reg [o 70 (.mov (.t 5)),
  o 71 (.fld (.t 7) 5),
  .op ⟨none, .sto (.t 71) (.t 70) 1, none⟩ none]) .skip))
def h6_0 : LSh := ⟨[2, 3, 5, 6, 7], ⟨[(.ptr 0 0), (.ptr 1 0), (.v y6), (.v y6), (.ptr 2 0)], [(0, (.boxT y69)), (1, (.boxT y16)), (2, (.boxT y48))]⟩, [y6, y6, y69, y16, y48], 3, [0, 1, 2]⟩
def x6_0 : List XSh := [⟨.normal, [2, 3, 5, 6, 7], ⟨⟨[(.ptr 0 0), (.ptr 1 0), (.v y6), (.v y6), (.ptr 2 0)], [(0, (.boxT y69)), (1, (.boxT y16)), (2, (.boxT y48))]⟩, [y6, y6, y69, y16, y48], [0, 1, 2], 3⟩⟩]
noncomputable def l6_0 (T : List FEnt) : Y235 := onceF (xs := x6_0) h6_0 (dxc T b6_0)
noncomputable def q6_0 (F14 : Y37) (F15 : Y194) (F22 : Y180) (F19 : Y214) (F20 : Y25) (F17 : Y175) (a0 : Int) (a1 : Int) (a2 : Y20) (a3 : Y5) (a4 : Y3) : Option Y233 :=
cond (decide (a1 = (0 : Int))) (
some (a0, a1, a2, a3, (a4.1, (a4.2.1, (a4.2.2.1, (a4.2.2.2.1, (a4.2.2.2.2.1, a0))))))) (
some (a0, a1, a2, a3, a4))
theorem g6_0 (F14 : Y37) (F15 : Y194) (F22 : Y180) (F19 : Y214) (F20 : Y25) (F17 : Y175) (a0 : Int) (a1 : Int) (a2 : Y20) (a3 : Y5) (a4 : Y3) : l6_0 (T6 F14 F15 F22 F19 F20 F17) (a0, a1, a2, a3, a4) = q6_0 F14 F15 F22 F19 F20 F17 a0 a1 a2 a3 a4 := by kernel_rfl
noncomputable def p6_0 (a0 : Int) (a1 : Int) (a2 : Y20) (a3 : Y5) (a4 : Y3) : Option Y233 := q6_0 P14 P15 P22 P19 P20 P17 a0 a1 a2 a3 a4
noncomputable def L6_0 : Y235 := fun x => p6_0 x.1 x.2.1 x.2.2.1 x.2.2.2.1 x.2.2.2.2
theorem v6_0 : l6_0 (T6 P14 P15 P22 P19 P20 P17) = L6_0 := funext fun x => (g6_0 P14 P15 P22 P19 P20 P17 x.1 x.2.1 x.2.2.1 x.2.2.2.1 x.2.2.2.2).trans (show q6_0 P14 P15 P22 P19 P20 P17 x.1 x.2.1 x.2.2.1 x.2.2.2.1 x.2.2.2.2 = q6_0 P14 P15 P22 P19 P20 P17 x.1 x.2.1 x.2.2.1 x.2.2.2.1 x.2.2.2.2 from rfl)
def c6 : DCode := (.seq (.reg [o 2 (.box (.t 0)),
  o 3 (.box (.t 1)),
  o 4 (.mov (.c (.bool false)))]) (.seq (.seq (.reg [o 13 (.ldn (.t 2) 3 false),
  o 14 (.ldn (.t 3) 3 false),
  o 15 (.xcall 14 [(.t 13), (.t 14)]),
  o 16 (.unot (.t 15)),
  o 17 (.mov (.t 16)),
  og 18 17 false (.fld (.t 2) 2),
  og 19 17 false (.ld1 (.t 18) false),
  og 20 17 false (.len (.t 19)),
  og 21 17 false (.bin true .geq (.t 20) (.c (.int .i64 40))),
  o 22 (.pick (.t 17) (.c (.bool true)) (.t 21)),
  o 23 (.mov (.t 22)),
  og 24 23 false (.fld (.t 3) 2),
  og 25 23 false (.ld1 (.t 24) false),
  og 26 23 false (.bin true .lss (.t 25) (.c (.int .i64 0))),
  o 27 (.pick (.t 23) (.c (.bool true)) (.t 26)),
  o 28 (.mov (.t 27)),
  og 29 28 false (.fld (.t 3) 2),
  og 30 28 false (.ld1 (.t 29) false),
  og 31 28 false (.bin true .gtr (.t 30) (.c (.int .i64 10000000))),
  o 32 (.pick (.t 28) (.c (.bool true)) (.t 31))]) (.cond (.t 32) (.seq (.reg [o 33 (.xcall 15 []),
  o 4 (.mov (.t 33))]) .ret) .skip)) (.seq (.reg [o 35 (.ldn (.t 2) 3 false),
  o 36 (.fld (.t 3) 0),
  o 37 (.ld1 (.t 36) false),
  o 38 (.fld (.t 3) 1),
  o 39 (.ld1 (.t 38) false),
  o 40 (.fld (.t 3) 2),
  o 41 (.ld1 (.t 40) false),
  o 42 (.xcall 22 [(.t 35), (.t 37), (.t 39), (.t 41)]),
  o 34 (.mov (.t 42)),
  o 43 (.ext (.t 34) 0),
  o 44 (.ext (.t 34) 1),
  o 5 (.mov (.t 43)),
  o 6 (.mov (.t 44))]) (.seq (.seq (.reg [o 45 (.mov (.t 6)),
  o 46 (.bin true .neq (.t 45) (.c (.int .i64 0))),
  o 47 (.mov (.t 46)),
  og 48 47 true (.mov (.t 6)),
  og 49 47 true (.bin true .neq (.t 48) (.c (.int .i64 3))),
  o 50 (.pick (.t 47) (.t 49) (.c (.bool false))),
  o 51 (.mov (.t 50)),
  og 52 51 false (.mov (.t 6)),
  og 53 51 false (.bin true .eql (.t 52) (.c (.int .i64 0))),
  og 54 51 false (.mov (.t 53)),
  og 55 54 true (.mov (.t 5)),
  og 56 54 true (.bin true .lss (.t 55) (.c (.int .i64 0))),
  og 57 54 true (.mov (.t 56)),
  og 58 57 false (.mov (.t 5)),
  og 59 57 false (.bin true .gtr (.t 58) (.c (.int .i64 10000000))),
  og 60 54 true (.pick (.t 57) (.c (.bool true)) (.t 59)),
  og 61 51 false (.pick (.t 54) (.t 60) (.c (.bool false))),
  o 62 (.pick (.t 51) (.c (.bool true)) (.t 61))]) (.cond (.t 62) (.seq (.reg [o 4 (.mov (.c (.bool false)))]) .ret) .skip)) (.seq (.reg [o 63 (.fld (.t 3) 0),
  o 64 (.ld1 (.t 63) false),
  o 65 (.fld (.t 3) 1),
  o 66 (.ld1 (.t 65) false),
  o 67 (.bld [(.int .i64 0), (.int .i64 0), (.int .i64 0), (.int .i64 0), (.int .i64 0), (.int .i64 0)] [(1, (1, (.c (.int .i64 2)))), (2, (1, (.t 64))), (3, (1, (.t 66))), (5, (1, (.c (.int .i64 10000000))))]),
  o 7 (.alc [(.int .i64 0), (.int .i64 0), (.int .i64 0), (.int .i64 0), (.int .i64 0), (.int .i64 0)]),
  .op ⟨none, .sto (.t 7) (.t 67) 6, none⟩ none]) (.seq (.once h6_0 x6_0 b6_0) (.seq (.reg [o 72 (.ldn (.t 2) 3 false),
  o 73 (.ldn (.t 7) 6 false),
  o 74 (.xcall 19 [(.t 72), (.t 73)]),
  o 8 (.alc [(.int .i64 0), .emp, .emp]),
  .op ⟨none, .sto (.t 8) (.t 74) 3, none⟩ none]) (.seq (.seq (.reg [o 75 (.ldn (.t 8) 3 false),
  o 76 (.xcall 20 [(.t 75)]),
  o 77 (.bin true .neq (.t 76) (.c (.int .i64 0)))]) (.cond (.t 77) (.seq (.reg [o 78 (.xcall 15 []),
  o 4 (.mov (.t 78))]) .ret) .skip)) (.seq (.reg [o 80 (.ldn (.t 8) 3 false),
  o 81 (.fld (.t 3) 0),
  o 82 (.ld1 (.t 81) false),
  o 83 (.fld (.t 3) 1),
  o 84 (.ld1 (.t 83) false),
  o 85 (.xcall 17 [(.t 80), (.t 82), (.t 84)]),
  o 79 (.mov (.t 85)),
  o 86 (.ext (.t 79) 0),
  o 87 (.ext (.t 79) 1),
  o 9 (.alc [(.int .i64 0), (.int .i64 0), (.int .i64 0), (.int .i64 0), (.int .i64 0), (.int .i64 0)]),
  .op ⟨none, .sto (.t 9) (.t 86) 6, none⟩ none,
  o 10 (.mov (.t 87))]) (.seq (.seq (.reg [o 88 (.mov (.t 10)),
  o 89 (.bin true .neq (.t 88) (.c (.int .i64 0))),
  o 90 (.mov (.t 89)),
  og 91 90 false (.fld (.t 9) 3),
  og 92 90 false (.ld1 (.t 91) false),
  og 93 90 false (.fld (.t 3) 2),
  og 94 90 false (.ld1 (.t 93) false),
  og 95 90 false (.bin true .geq (.t 92) (.t 94)),
  og 96 90 false (.mov (.t 6)),
  og 97 90 false (.bin true .eql (.t 96) (.c (.int .i64 0))),
  og 98 90 false (.bq true (.t 95) (.t 97)),
  o 99 (.pick (.t 90) (.c (.bool true)) (.t 98))]) (.cond (.t 99) (.seq (.reg [o 4 (.mov (.c (.bool false)))]) .ret) .skip)) (.seq (.seq (.reg [o 100 (.mov (.t 6)),
  o 101 (.bin true .neq (.t 100) (.c (.int .i64 0))),
  o 102 (.mov (.t 101)),
  og 103 102 false (.mov (.t 5)),
  og 104 102 false (.bin true .eql (.t 103) (.c (.int .i64 0))),
  o 105 (.pick (.t 102) (.c (.bool true)) (.t 104))]) (.cond (.t 105) (.seq (.reg [o 106 (.xcall 15 []),
  o 4 (.mov (.t 106))]) .ret) .skip)) (.seq (.reg [o 107 (.mov (.t 5)),
  o 108 (.bin true .sub (.t 107) (.c (.int .i64 1))),
  o 109 (.fld (.t 7) 5),
  .op ⟨none, .sto (.t 109) (.t 108) 1, none⟩ none]) (.seq (.drw [2, 7, 3] [r 111 (.ldn (.t 2) 3 true),
  r 112 (.ldn (.t 7) 6 true),
  r 114 (.fld (.t 3) 0),
  r 115 (.ld1 (.t 114) true),
  r 116 (.fld (.t 3) 1),
  r 117 (.ld1 (.t 116) true),
  r 113 (.xcall 19 [(.t 111), (.t 112)]),
  r 118 (.xcall 17 [(.t 113), (.t 115), (.t 117)]),
  r 110 (.mov (.t 118)),
  r 119 (.ext (.t 110) 0),
  r 120 (.ext (.t 110) 1),
  r 11 (.alc [(.int .i64 0), (.int .i64 0), (.int .i64 0), (.int .i64 0), (.int .i64 0), (.int .i64 0)]),
  (⟨none, .sto (.t 11) (.t 119) 6, none⟩, none),
  r 12 (.mov (.t 120))]) (.seq (.reg [o 121 (.mov (.t 12)),
  o 122 (.bin true .eql (.t 121) (.c (.int .i64 0))),
  o 123 (.mov (.t 122)),
  og 124 123 true (.fld (.t 11) 3),
  og 125 123 true (.ld1 (.t 124) false),
  og 126 123 true (.fld (.t 3) 2),
  og 127 123 true (.ld1 (.t 126) false),
  og 128 123 true (.bin true .lss (.t 125) (.t 127)),
  o 129 (.pick (.t 123) (.t 128) (.c (.bool false))),
  o 130 (.mov (.t 129)),
  og 131 130 true (.xcall 15 []),
  o 132 (.pick (.t 130) (.t 131) (.c (.bool false))),
  o 4 (.mov (.t 132))]) .ret))))))))))))))
theorem ok6 : L.Fn Try.prog 6 133 [(.t 4)] (erase c6) := L.Fn.of hmix Try.func6 [(18, { ch := [1,1,0,0,1,0,1,0,0,0,0,0,0,0], rs := [2,7,3], ord := [0,1,3,4,5,6,2,7,8,9,10,11,12,13] })] (by kernel_rfl)
def sh6 : FSh := ⟨⟨[(.st y69), (.st y16)], []⟩, [y69, y16], 0, ⟨⟨[(.v .bool)], []⟩, [.bool], [], 0⟩, true⟩
noncomputable def q6 (F14 : Y37) (F15 : Y194) (F22 : Y180) (F19 : Y214) (F20 : Y25) (F17 : Y175) (l6_0 : Y235) (a0 : Y20) (a1 : Y5) : Option Bool :=
(F14 (a0, a1)).bind fun (r1 : Bool) => (
cond (!r1) (
(F15 ()).bind fun (r2 : Bool) => (
some r2)) (
cond (decide ((40 : Int) ≤ (↑(List.length a0.2.2) : Int))) (
(F15 ()).bind fun (r3 : Bool) => (
some r3)) (
cond (decide (a1.2.2 < (0 : Int))) (
(F15 ()).bind fun (r4 : Bool) => (
some r4)) (
cond (decide ((10000000 : Int) < a1.2.2)) (
(F15 ()).bind fun (r5 : Bool) => (
some r5)) (
(F22 (a0, a1.1, a1.2.1, a1.2.2)).bind fun (r6 : Int × Int) => (
cond (!decide (r6.2 = (0 : Int))) (
cond (!decide (r6.2 = (3 : Int))) (
some false) (
cond (decide (r6.2 = (0 : Int))) (
cond (decide (r6.1 < (0 : Int))) (
some false) (
cond (decide ((10000000 : Int) < r6.1)) (
some false) (
(l6_0 (r6.1, r6.2, a0, a1, ((0 : Int), ((2 : Int), (a1.1, (a1.2.1, ((0 : Int), (10000000 : Int)))))))).bind fun (y7 : Y233) => (
(F19 (y7.2.2.1, y7.2.2.2.2)).bind fun (r8 : Y20) => (
(F20 r8).bind fun (r9 : Int) => (
cond (!decide (r9 = (0 : Int))) (
(F15 ()).bind fun (r10 : Bool) => (
some r10)) (
(F17 (r8, y7.2.2.2.1.1, y7.2.2.2.1.2.1)).bind fun (r11 : Y3 × Int) => (
cond (!decide (r11.2 = (0 : Int))) (
some false) (
cond ((decide (y7.2.2.2.1.2.2 ≤ r11.1.2.2.2.1)) != (decide (y7.2.1 = (0 : Int)))) (
some false) (
cond (!decide (y7.2.1 = (0 : Int))) (
(F15 ()).bind fun (r12 : Bool) => (
some r12)) (
cond (decide (y7.1 = (0 : Int))) (
(F15 ()).bind fun (r13 : Bool) => (
some r13)) (
chk (fits .i64 (y7.1 - (1 : Int))) (
(F19 (y7.2.2.1, (y7.2.2.2.2.1, (y7.2.2.2.2.2.1, (y7.2.2.2.2.2.2.1, (y7.2.2.2.2.2.2.2.1, (y7.2.2.2.2.2.2.2.2.1, (y7.1 - (1 : Int))))))))).bind fun (r14 : Y20) => (
(F17 (r14, y7.2.2.2.1.1, y7.2.2.2.1.2.1)).bind fun (r15 : Y3 × Int) => (
cond (decide (r15.2 = (0 : Int))) (
cond (decide (r15.1.2.2.2.1 < y7.2.2.2.1.2.2)) (
(F15 ()).bind fun (r16 : Bool) => (
some r16)) (
some false)) (
some false)))))))))))))))) (
(l6_0 (r6.1, r6.2, a0, a1, ((0 : Int), ((2 : Int), (a1.1, (a1.2.1, ((0 : Int), (10000000 : Int)))))))).bind fun (y17 : Y233) => (
(F19 (y17.2.2.1, y17.2.2.2.2)).bind fun (r18 : Y20) => (
(F20 r18).bind fun (r19 : Int) => (
cond (!decide (r19 = (0 : Int))) (
(F15 ()).bind fun (r20 : Bool) => (
some r20)) (
(F17 (r18, y17.2.2.2.1.1, y17.2.2.2.1.2.1)).bind fun (r21 : Y3 × Int) => (
cond (!decide (r21.2 = (0 : Int))) (
some false) (
cond ((decide (y17.2.2.2.1.2.2 ≤ r21.1.2.2.2.1)) != (decide (y17.2.1 = (0 : Int)))) (
some false) (
cond (!decide (y17.2.1 = (0 : Int))) (
(F15 ()).bind fun (r22 : Bool) => (
some r22)) (
cond (decide (y17.1 = (0 : Int))) (
(F15 ()).bind fun (r23 : Bool) => (
some r23)) (
chk (fits .i64 (y17.1 - (1 : Int))) (
(F19 (y17.2.2.1, (y17.2.2.2.2.1, (y17.2.2.2.2.2.1, (y17.2.2.2.2.2.2.1, (y17.2.2.2.2.2.2.2.1, (y17.2.2.2.2.2.2.2.2.1, (y17.1 - (1 : Int))))))))).bind fun (r24 : Y20) => (
(F17 (r24, y17.2.2.2.1.1, y17.2.2.2.1.2.1)).bind fun (r25 : Y3 × Int) => (
cond (decide (r25.2 = (0 : Int))) (
cond (decide (r25.1.2.2.2.1 < y17.2.2.2.1.2.2)) (
(F15 ()).bind fun (r26 : Bool) => (
some r26)) (
some false)) (
some false)))))))))))))))) (
cond (decide (r6.2 = (0 : Int))) (
cond (decide (r6.1 < (0 : Int))) (
some false) (
cond (decide ((10000000 : Int) < r6.1)) (
some false) (
(l6_0 (r6.1, r6.2, a0, a1, ((0 : Int), ((2 : Int), (a1.1, (a1.2.1, ((0 : Int), (10000000 : Int)))))))).bind fun (y27 : Y233) => (
(F19 (y27.2.2.1, y27.2.2.2.2)).bind fun (r28 : Y20) => (
(F20 r28).bind fun (r29 : Int) => (
cond (!decide (r29 = (0 : Int))) (
(F15 ()).bind fun (r30 : Bool) => (
some r30)) (
(F17 (r28, y27.2.2.2.1.1, y27.2.2.2.1.2.1)).bind fun (r31 : Y3 × Int) => (
cond (!decide (r31.2 = (0 : Int))) (
some false) (
cond ((decide (y27.2.2.2.1.2.2 ≤ r31.1.2.2.2.1)) != (decide (y27.2.1 = (0 : Int)))) (
some false) (
cond (!decide (y27.2.1 = (0 : Int))) (
(F15 ()).bind fun (r32 : Bool) => (
some r32)) (
cond (decide (y27.1 = (0 : Int))) (
(F15 ()).bind fun (r33 : Bool) => (
some r33)) (
chk (fits .i64 (y27.1 - (1 : Int))) (
(F19 (y27.2.2.1, (y27.2.2.2.2.1, (y27.2.2.2.2.2.1, (y27.2.2.2.2.2.2.1, (y27.2.2.2.2.2.2.2.1, (y27.2.2.2.2.2.2.2.2.1, (y27.1 - (1 : Int))))))))).bind fun (r34 : Y20) => (
(F17 (r34, y27.2.2.2.1.1, y27.2.2.2.1.2.1)).bind fun (r35 : Y3 × Int) => (
cond (decide (r35.2 = (0 : Int))) (
cond (decide (r35.1.2.2.2.1 < y27.2.2.2.1.2.2)) (
(F15 ()).bind fun (r36 : Bool) => (
some r36)) (
some false)) (
some false)))))))))))))))) (
(l6_0 (r6.1, r6.2, a0, a1, ((0 : Int), ((2 : Int), (a1.1, (a1.2.1, ((0 : Int), (10000000 : Int)))))))).bind fun (y37 : Y233) => (
(F19 (y37.2.2.1, y37.2.2.2.2)).bind fun (r38 : Y20) => (
(F20 r38).bind fun (r39 : Int) => (
cond (!decide (r39 = (0 : Int))) (
(F15 ()).bind fun (r40 : Bool) => (
some r40)) (
(F17 (r38, y37.2.2.2.1.1, y37.2.2.2.1.2.1)).bind fun (r41 : Y3 × Int) => (
cond (!decide (r41.2 = (0 : Int))) (
some false) (
cond ((decide (y37.2.2.2.1.2.2 ≤ r41.1.2.2.2.1)) != (decide (y37.2.1 = (0 : Int)))) (
some false) (
cond (!decide (y37.2.1 = (0 : Int))) (
(F15 ()).bind fun (r42 : Bool) => (
some r42)) (
cond (decide (y37.1 = (0 : Int))) (
(F15 ()).bind fun (r43 : Bool) => (
some r43)) (
chk (fits .i64 (y37.1 - (1 : Int))) (
(F19 (y37.2.2.1, (y37.2.2.2.2.1, (y37.2.2.2.2.2.1, (y37.2.2.2.2.2.2.1, (y37.2.2.2.2.2.2.2.1, (y37.2.2.2.2.2.2.2.2.1, (y37.1 - (1 : Int))))))))).bind fun (r44 : Y20) => (
(F17 (r44, y37.2.2.2.1.1, y37.2.2.2.1.2.1)).bind fun (r45 : Y3 × Int) => (
cond (decide (r45.2 = (0 : Int))) (
cond (decide (r45.1.2.2.2.1 < y37.2.2.2.1.2.2)) (
(F15 ()).bind fun (r46 : Bool) => (
some r46)) (
some false)) (
some false)))))))))))))))))))))
theorem g6 (F14 : Y37) (F15 : Y194) (F22 : Y180) (F19 : Y214) (F20 : Y25) (F17 : Y175) (a0 : Y20) (a1 : Y5) : dxf (T6 F14 F15 F22 F19 F20 F17) sh6 [(.t 4)] c6 (a0, a1) = q6 F14 F15 F22 F19 F20 F17 (l6_0 (T6 F14 F15 F22 F19 F20 F17)) a0 a1 := by kernel_rfl
noncomputable def p6 (a0 : Y20) (a1 : Y5) : Option Bool := q6 P14 P15 P22 P19 P20 P17 L6_0 a0 a1
noncomputable def P6 : Y37 := fun x => p6 x.1 x.2
theorem v6 : dxf (T6 P14 P15 P22 P19 P20 P17) sh6 [(.t 4)] c6 = P6 := funext fun x => (g6 P14 P15 P22 P19 P20 P17 x.1 x.2).trans (show q6 P14 P15 P22 P19 P20 P17 (l6_0 (T6 P14 P15 P22 P19 P20 P17)) x.1 x.2 = q6 P14 P15 P22 P19 P20 P17 L6_0 x.1 x.2 from by rw [v6_0])
theorem d6 : DC Try.prog 6 sh6 P6 := DC_eq v6 (dxf_sound (sh := sh6) t6 ok6 (by kernel_rfl))
noncomputable def T49 : List FEnt := []
theorem t49 : DTblOK Try.prog T49 := DTbl_nil
def b49_0 : DCode := (.seq (.seq (.reg [o 40 (.mov (.t 11)),
  o 41 (.fld (.t 5) 4),
  o 42 (.ld1 (.t 41) false),
  o 43 (.len (.t 42)),
  o 44 (.bin true .lss (.t 40) (.t 43))]) (.cond (.t 44) .skip (.exit 0))) (.seq (.blk 1 (.seq (.drw [] [r 47 (.fld (.t 5) 4),
  r 48 (.ld1 (.t 47) false),
  r 49 (.mov (.t 11)),
  r 50 (.idx (.t 48) (.t 49) 2),
  r 51 (.fld (.t 50) 0),
  r 52 (.ld1 (.t 51) false),
  r 53 (.fld (.t 9) 2),
  r 54 (.ld1 (.t 53) false),
  r 55 (.bin true .leq (.t 52) (.t 54))]) (.cond (.t 55) (.reg [o 56 (.mov (.t 10)),
  o 57 (.fld (.t 5) 4),
  o 58 (.ld1 (.t 57) false),
  o 59 (.mov (.t 11)),
  o 60 (.idx (.t 58) (.t 59) 2),
  o 61 (.fld (.t 60) 1),
  o 62 (.ld1 (.t 61) false),
  o 63 (.mnx true (.t 56) (.t 62)),
  o 10 (.mov (.t 63))]) .skip))) (.reg [o 45 (.mov (.t 11)),
  o 46 (.bin true .add (.t 45) (.c (.int .i64 1))),
  o 11 (.mov (.t 46))])))
def h49_0 : LSh := ⟨[5, 8, 9, 10, 11], ⟨[(.ptr 0 0), (.ptr 1 0), (.ptr 2 0), (.v y6), (.v y6)], [(0, (.boxT y66)), (1, (.boxT y48)), (2, (.boxT y48))]⟩, [y6, y6, y66, y48, y48], 3, [0, 1, 2]⟩
def x49_0 : List XSh := [⟨(.exit 0), [5, 8, 9, 10], ⟨⟨[(.ptr 0 0), (.ptr 1 0), (.ptr 2 0), (.v y6)], [(0, (.boxT y66)), (1, (.boxT y48)), (2, (.boxT y48))]⟩, [y6, y66, y48, y48], [0, 1, 2], 3⟩⟩]
noncomputable def s49_0 (T : List FEnt) : Y234 := dstep (xs := x49_0) h49_0 (dxc T b49_0)
noncomputable def l49_0 (T : List FEnt) : Y229 := whileF (s49_0 T)
noncomputable def q49_0 (a0 : Int) (a1 : Int) (a2 : Y9) (a3 : Y3) (a4 : Y3) : Option Y230 :=
cond (decide (a1 < (↑(List.length a2.2.2.2.2.1) : Int))) (
chk (inR a1 (List.length a2.2.2.2.2.1)) (
cond (decide ((ix a2.2.2.2.2.1 a1).1 ≤ a4.2.2.1)) (
chk (inR a1 (List.length a2.2.2.2.2.1)) (
chk (fits .i64 (a1 + (1 : Int))) (
some (Sum.inl ((max a0 ((ix a2.2.2.2.2.1 a1).2)), (a1 + (1 : Int)), a2, a3, a4))))) (
chk (fits .i64 (a1 + (1 : Int))) (
some (Sum.inl (a0, (a1 + (1 : Int)), a2, a3, a4)))))) (
some (Sum.inr (a0, a2, a3, a4)))
theorem g49_0 (a0 : Int) (a1 : Int) (a2 : Y9) (a3 : Y3) (a4 : Y3) : s49_0 T49 (a0, a1, a2, a3, a4) = q49_0 a0 a1 a2 a3 a4 := by kernel_rfl
noncomputable def p49_0 (a0 : Int) (a1 : Int) (a2 : Y9) (a3 : Y3) (a4 : Y3) : Option Y230 := q49_0 a0 a1 a2 a3 a4
noncomputable def L49_0 : Y229 := whileF (fun x => p49_0 x.1 x.2.1 x.2.2.1 x.2.2.2.1 x.2.2.2.2)
theorem v49_0 : l49_0 T49 = L49_0 := congrArg whileF (funext fun x => (g49_0 x.1 x.2.1 x.2.2.1 x.2.2.2.1 x.2.2.2.2).trans (show q49_0 x.1 x.2.1 x.2.2.1 x.2.2.2.1 x.2.2.2.2 = q49_0 x.1 x.2.1 x.2.2.1 x.2.2.2.1 x.2.2.2.2 from rfl))
def c49 : DCode := (.seq (.reg [o 5 (.box (.t 1)),
  o 8 (.alc [(.int .i64 0), (.int .i64 0), (.int .i64 0), (.int .i64 0), (.int .i64 0), (.int .i64 0)])]) (.seq (.reg [o 15 (.mov (.t 3)),
  o 16 (.mov (.t 3)),
  o 17 (.mov (.t 0)),
  o 18 (.bin true .mul (.t 16) (.t 17)),
  o 19 (.bin true .quo (.t 18) (.c (.int .i64 1000))),
  o 20 (.bld [(.int .i64 0), (.int .i64 0), (.int .i64 0), (.int .i64 0), (.int .i64 0), (.int .i64 0)] [(0, (1, (.t 15))), (1, (1, (.t 19)))]),
  o 9 (.alc [(.int .i64 0), (.int .i64 0), (.int .i64 0), (.int .i64 0), (.int .i64 0), (.int .i64 0)]),
  .op ⟨none, .sto (.t 9) (.t 20) 6, none⟩ none]) (.seq (.reg [o 21 (.fld (.t 9) 0),
  o 22 (.ld1 (.t 21) false),
  o 23 (.fld (.t 9) 1),
  o 24 (.ld1 (.t 23) false),
  o 25 (.bin true .sub (.t 22) (.t 24)),
  o 26 (.fld (.t 9) 2),
  .op ⟨none, .sto (.t 26) (.t 25) 1, none⟩ none]) (.seq (.reg [o 27 (.fld (.t 5) 3),
  o 28 (.ld1 (.t 27) false),
  o 29 (.mov (.t 2)),
  o 30 (.fld (.t 5) 1),
  o 31 (.ld1 (.t 30) false),
  o 32 (.bin true .sub (.t 29) (.t 31)),
  o 33 (.fld (.t 5) 3),
  o 34 (.ld1 (.t 33) false),
  o 35 (.len (.t 34)),
  o 36 (.bin true .sub (.t 35) (.c (.int .i64 1))),
  o 37 (.mnx false (.t 32) (.t 36)),
  o 38 (.idx (.t 28) (.t 37) 1),
  o 39 (.ld1 (.t 38) false),
  o 10 (.mov (.t 39))]) (.seq (.seq (.reg [o 11 (.mov (.c (.int .i64 0)))]) (.blk 0 (.loop h49_0 x49_0 b49_0))) (.seq (.drw [] [r 64 (.fld (.t 9) 2),
  r 65 (.ld1 (.t 64) false),
  r 66 (.mov (.t 10)),
  r 67 (.bin true .mul (.t 65) (.t 66)),
  r 68 (.bin true .quo (.t 67) (.c (.int .i64 1000))),
  r 69 (.fld (.t 9) 2),
  r 70 (.ld1 (.t 69) false),
  r 71 (.fld (.t 5) 5),
  r 72 (.ld1 (.t 71) false),
  r 73 (.bin true .sub (.t 70) (.t 72)),
  r 74 (.mnx true (.c (.int .i64 0)) (.t 73)),
  r 75 (.fld (.t 5) 6),
  r 76 (.ld1 (.t 75) false),
  r 77 (.bin true .mul (.t 74) (.t 76)),
  r 78 (.bin true .quo (.t 77) (.c (.int .i64 1000))),
  r 12 (.mov (.t 68)),
  r 13 (.mov (.t 78))]) (.seq (.reg [o 79 (.mov (.t 12)),
  o 80 (.mov (.t 13)),
  o 81 (.fld (.t 5) 7),
  o 82 (.ld1 (.t 81) false),
  o 83 (.mnl true [(.t 79), (.t 80), (.t 82)]),
  o 14 (.mov (.t 83))]) (.seq (.seq (.reg [o 84 (.mov (.t 14))]) (.blk 2 (.seq (.reg [o 87 (.mov (.t 12)),
  o 88 (.bin true .eql (.t 84) (.t 87)),
  o 86 (.mov (.t 88))]) (.cond (.t 86) (.reg [o 89 (.fld (.t 9) 5),
  .op ⟨none, .sto (.t 89) (.c (.int .i64 1)) 1, none⟩ none]) (.seq (.reg [o 91 (.mov (.t 13)),
  o 92 (.bin true .eql (.t 84) (.t 91)),
  o 90 (.mov (.t 92))]) (.cond (.t 90) (.reg [o 93 (.fld (.t 9) 5),
  .op ⟨none, .sto (.t 93) (.c (.int .i64 2)) 1, none⟩ none]) (.reg [o 85 (.fld (.t 9) 5),
  .op ⟨none, .sto (.t 85) (.c (.int .i64 3)) 1, none⟩ none]))))))) (.seq (.reg [o 94 (.fld (.t 9) 2),
  o 95 (.ld1 (.t 94) false),
  o 96 (.mov (.t 14)),
  o 97 (.mnx false (.t 95) (.t 96)),
  o 98 (.fld (.t 9) 3),
  .op ⟨none, .sto (.t 98) (.t 97) 1, none⟩ none]) (.seq (.reg [o 99 (.fld (.t 9) 2),
  o 100 (.ld1 (.t 99) false),
  o 101 (.fld (.t 9) 3),
  o 102 (.ld1 (.t 101) false),
  o 103 (.bin true .sub (.t 100) (.t 102)),
  o 104 (.fld (.t 9) 4),
  .op ⟨none, .sto (.t 104) (.t 103) 1, none⟩ none]) (.seq (.reg [o 105 (.ldn (.t 9) 6 false),
  .op ⟨none, .sto (.t 8) (.t 105) 6, none⟩ none]) .ret)))))))))))
theorem ok49 : L.Fn Try.prog 49 106 [(.cell 8 true 6)] (erase c49) := L.Fn.of hmix Try.func49 [] (by kernel_rfl)
def sh49 : FSh := ⟨⟨[(.v y6), (.st y66), (.v y6), (.v y6)], []⟩, [y6, y66, y6, y6], 0, ⟨⟨[(.st y48)], []⟩, [y48], [], 0⟩, true⟩
noncomputable def q49 (l49_0 : Y229) (a0 : Int) (a1 : Y9) (a2 : Int) (a3 : Int) : Option Y3 :=
chk (fits .i64 (a3 * a0)) (
chk (fits .i64 (Int.tdiv (a3 * a0) (1000 : Int))) (
chk (fits .i64 (a3 - (Int.tdiv (a3 * a0) (1000 : Int)))) (
chk (fits .i64 (a2 - a1.2.1)) (
chk (fits .i64 ((↑(List.length a1.2.2.2.1) : Int) - (1 : Int))) (
chk (inR (min (a2 - a1.2.1) ((↑(List.length a1.2.2.2.1) : Int) - (1 : Int))) (List.length a1.2.2.2.1)) (
(l49_0 ((ix a1.2.2.2.1 (min (a2 - a1.2.1) ((↑(List.length a1.2.2.2.1) : Int) - (1 : Int)))), (0 : Int), a1, ((0 : Int), ((0 : Int), ((0 : Int), ((0 : Int), ((0 : Int), (0 : Int)))))), (a3, ((Int.tdiv (a3 * a0) (1000 : Int)), ((a3 - (Int.tdiv (a3 * a0) (1000 : Int))), ((0 : Int), ((0 : Int), (0 : Int)))))))).bind fun (y1 : Y159) => (
chk (fits .i64 (y1.2.2.2.2.2.1 * y1.1)) (
chk (fits .i64 (Int.tdiv (y1.2.2.2.2.2.1 * y1.1) (1000 : Int))) (
chk (fits .i64 (y1.2.2.2.2.2.1 - y1.2.1.2.2.2.2.2.1)) (
chk (fits .i64 ((max (0 : Int) (y1.2.2.2.2.2.1 - y1.2.1.2.2.2.2.2.1)) * y1.2.1.2.2.2.2.2.2.1)) (
chk (fits .i64 (Int.tdiv ((max (0 : Int) (y1.2.2.2.2.2.1 - y1.2.1.2.2.2.2.2.1)) * y1.2.1.2.2.2.2.2.2.1) (1000 : Int))) (
cond (decide ((max (max (Int.tdiv (y1.2.2.2.2.2.1 * y1.1) (1000 : Int)) (Int.tdiv ((max (0 : Int) (y1.2.2.2.2.2.1 - y1.2.1.2.2.2.2.2.1)) * y1.2.1.2.2.2.2.2.2.1) (1000 : Int))) y1.2.1.2.2.2.2.2.2.2.1) = (Int.tdiv (y1.2.2.2.2.2.1 * y1.1) (1000 : Int)))) (
chk (fits .i64 (y1.2.2.2.2.2.1 - (min y1.2.2.2.2.2.1 (max (max (Int.tdiv (y1.2.2.2.2.2.1 * y1.1) (1000 : Int)) (Int.tdiv ((max (0 : Int) (y1.2.2.2.2.2.1 - y1.2.1.2.2.2.2.2.1)) * y1.2.1.2.2.2.2.2.2.1) (1000 : Int))) y1.2.1.2.2.2.2.2.2.2.1)))) (
some (y1.2.2.2.1, (y1.2.2.2.2.1, (y1.2.2.2.2.2.1, ((min y1.2.2.2.2.2.1 (max (max (Int.tdiv (y1.2.2.2.2.2.1 * y1.1) (1000 : Int)) (Int.tdiv ((max (0 : Int) (y1.2.2.2.2.2.1 - y1.2.1.2.2.2.2.2.1)) * y1.2.1.2.2.2.2.2.2.1) (1000 : Int))) y1.2.1.2.2.2.2.2.2.2.1)), ((y1.2.2.2.2.2.1 - (min y1.2.2.2.2.2.1 (max (max (Int.tdiv (y1.2.2.2.2.2.1 * y1.1) (1000 : Int)) (Int.tdiv ((max (0 : Int) (y1.2.2.2.2.2.1 - y1.2.1.2.2.2.2.2.1)) * y1.2.1.2.2.2.2.2.2.1) (1000 : Int))) y1.2.1.2.2.2.2.2.2.2.1))), (1 : Int)))))))) (
cond (decide ((max (max (Int.tdiv (y1.2.2.2.2.2.1 * y1.1) (1000 : Int)) (Int.tdiv ((max (0 : Int) (y1.2.2.2.2.2.1 - y1.2.1.2.2.2.2.2.1)) * y1.2.1.2.2.2.2.2.2.1) (1000 : Int))) y1.2.1.2.2.2.2.2.2.2.1) = (Int.tdiv ((max (0 : Int) (y1.2.2.2.2.2.1 - y1.2.1.2.2.2.2.2.1)) * y1.2.1.2.2.2.2.2.2.1) (1000 : Int)))) (
chk (fits .i64 (y1.2.2.2.2.2.1 - (min y1.2.2.2.2.2.1 (max (max (Int.tdiv (y1.2.2.2.2.2.1 * y1.1) (1000 : Int)) (Int.tdiv ((max (0 : Int) (y1.2.2.2.2.2.1 - y1.2.1.2.2.2.2.2.1)) * y1.2.1.2.2.2.2.2.2.1) (1000 : Int))) y1.2.1.2.2.2.2.2.2.2.1)))) (
some (y1.2.2.2.1, (y1.2.2.2.2.1, (y1.2.2.2.2.2.1, ((min y1.2.2.2.2.2.1 (max (max (Int.tdiv (y1.2.2.2.2.2.1 * y1.1) (1000 : Int)) (Int.tdiv ((max (0 : Int) (y1.2.2.2.2.2.1 - y1.2.1.2.2.2.2.2.1)) * y1.2.1.2.2.2.2.2.2.1) (1000 : Int))) y1.2.1.2.2.2.2.2.2.2.1)), ((y1.2.2.2.2.2.1 - (min y1.2.2.2.2.2.1 (max (max (Int.tdiv (y1.2.2.2.2.2.1 * y1.1) (1000 : Int)) (Int.tdiv ((max (0 : Int) (y1.2.2.2.2.2.1 - y1.2.1.2.2.2.2.2.1)) * y1.2.1.2.2.2.2.2.2.1) (1000 : Int))) y1.2.1.2.2.2.2.2.2.2.1))), (2 : Int)))))))) (
chk (fits .i64 (y1.2.2.2.2.2.1 - (min y1.2.2.2.2.2.1 (max (max (Int.tdiv (y1.2.2.2.2.2.1 * y1.1) (1000 : Int)) (Int.tdiv ((max (0 : Int) (y1.2.2.2.2.2.1 - y1.2.1.2.2.2.2.2.1)) * y1.2.1.2.2.2.2.2.2.1) (1000 : Int))) y1.2.1.2.2.2.2.2.2.2.1)))) (
some (y1.2.2.2.1, (y1.2.2.2.2.1, (y1.2.2.2.2.2.1, ((min y1.2.2.2.2.2.1 (max (max (Int.tdiv (y1.2.2.2.2.2.1 * y1.1) (1000 : Int)) (Int.tdiv ((max (0 : Int) (y1.2.2.2.2.2.1 - y1.2.1.2.2.2.2.2.1)) * y1.2.1.2.2.2.2.2.2.1) (1000 : Int))) y1.2.1.2.2.2.2.2.2.2.1)), ((y1.2.2.2.2.2.1 - (min y1.2.2.2.2.2.1 (max (max (Int.tdiv (y1.2.2.2.2.2.1 * y1.1) (1000 : Int)) (Int.tdiv ((max (0 : Int) (y1.2.2.2.2.2.1 - y1.2.1.2.2.2.2.2.1)) * y1.2.1.2.2.2.2.2.2.1) (1000 : Int))) y1.2.1.2.2.2.2.2.2.2.1))), (3 : Int)))))))))))))))))))))
theorem g49 (a0 : Int) (a1 : Y9) (a2 : Int) (a3 : Int) : dxf T49 sh49 [(.cell 8 true 6)] c49 (a0, a1, a2, a3) = q49 (l49_0 T49) a0 a1 a2 a3 := by kernel_rfl
noncomputable def p49 (a0 : Int) (a1 : Y9) (a2 : Int) (a3 : Int) : Option Y3 := q49 L49_0 a0 a1 a2 a3
noncomputable def P49 : Y160 := fun x => p49 x.1 x.2.1 x.2.2.1 x.2.2.2
theorem v49 : dxf T49 sh49 [(.cell 8 true 6)] c49 = P49 := funext fun x => (g49 x.1 x.2.1 x.2.2.1 x.2.2.2).trans (show q49 (l49_0 T49) x.1 x.2.1 x.2.2.1 x.2.2.2 = q49 L49_0 x.1 x.2.1 x.2.2.1 x.2.2.2 from by rw [v49_0])
theorem d49 : DC Try.prog 49 sh49 P49 := DC_eq v49 (dxf_sound (sh := sh49) t49 ok49 (by kernel_rfl))
noncomputable def T25 (F20 : Y25) (F16 : Y33) (F48 : Y4) (F49 : Y160) : List FEnt := [⟨20, sh20, F20⟩, ⟨16, sh16, F16⟩, ⟨48, sh48, F48⟩, ⟨49, sh49, F49⟩]
theorem t25 : DTblOK Try.prog (T25 P20 P16 P48 P49) := (DTbl_cons' (f := 20) (sh := sh20) (F := P20) d20 (by kernel_rfl) (DTbl_cons' (f := 16) (sh := sh16) (F := P16) d16 (by kernel_rfl) (DTbl_cons' (f := 48) (sh := sh48) (F := P48) d48 (by kernel_rfl) (DTbl_cons' (f := 49) (sh := sh49) (F := P49) d49 (by kernel_rfl) DTbl_nil))))
def b25_0 : DCode := (.seq (.seq (.reg [o 43 (.mov (.t 13)),
  o 44 (.mov (.t 14)),
  o 45 (.bin true .lss (.t 43) (.t 44))]) (.cond (.t 45) .skip (.exit 0))) (.blk 1 (.seq (.reg [o 46 (.mov (.t 13)),
  o 47 (.mov (.t 14)),
  o 48 (.bin true .add (.t 46) (.t 47)),
  o 49 (.bin true .quo (.t 48) (.c (.int .i64 2))),
  o 15 (.mov (.t 49))]) (.seq (.reg [o 50 (.mov (.t 15)),
  o 51 (.bin true .gtr (.t 50) (.c (.int .i64 10000000))),
  o 52 (.mov (.t 51)),
  og 53 52 false (.fld (.t 4) 0),
  og 54 52 false (.ld1 (.t 53) false),
  og 55 52 false (.ldn (.t 11) 9 false),
  og 56 52 false (.mov (.t 2)),
  og 57 52 false (.mov (.t 15)),
  og 58 52 false (.xcall 49 [(.t 54), (.t 55), (.t 56), (.t 57)]),
  og 59 52 false (.fldv (.t 58) 3 1 false),
  og 60 52 false (.mov (.t 3)),
  og 61 52 false (.bin true .geq (.t 59) (.t 60)),
  o 62 (.pick (.t 52) (.c (.bool true)) (.t 61))]) (.cond (.t 62) (.reg [o 63 (.mov (.t 15)),
  o 14 (.mov (.t 63))]) (.reg [o 64 (.mov (.t 15)),
  o 65 (.bin true .add (.t 64) (.c (.int .i64 1))),
  o 13 (.mov (.t 65))]))))))
def h25_0 : LSh := ⟨[2, 3, 4, 11, 13, 14], ⟨[(.v y6), (.v y6), (.ptr 0 0), (.ptr 1 0), (.v y6), (.v y6)], [(0, (.boxT y69)), (1, (.boxT y66))]⟩, [y6, y6, y6, y6, y69, y66], 2, [0, 1]⟩
def x25_0 : List XSh := [⟨(.exit 0), [13], ⟨⟨[(.v y6)], [(0, (.boxT y69)), (1, (.boxT y66))]⟩, [y6, y69, y66], [0, 1], 2⟩⟩]
noncomputable def s25_0 (T : List FEnt) : Y192 := dstep (xs := x25_0) h25_0 (dxc T b25_0)
noncomputable def l25_0 (T : List FEnt) : Y186 := whileF (s25_0 T)
noncomputable def q25_0 (F20 : Y25) (F16 : Y33) (F48 : Y4) (F49 : Y160) (a0 : Int) (a1 : Int) (a2 : Int) (a3 : Int) (a4 : Y20) (a5 : Y9) : Option Y189 :=
cond (decide (a2 < a3)) (
chk (fits .i64 (a2 + a3)) (
chk (fits .i64 (Int.tdiv (a2 + a3) (2 : Int))) (
cond (decide ((10000000 : Int) < (Int.tdiv (a2 + a3) (2 : Int)))) (
some (Sum.inl (a0, a1, a2, (Int.tdiv (a2 + a3) (2 : Int)), a4, a5))) (
(F49 (a4.1, a5, a0, (Int.tdiv (a2 + a3) (2 : Int)))).bind fun (r5 : Y3) => (
cond (decide (a1 ≤ r5.2.2.2.1)) (
some (Sum.inl (a0, a1, a2, (Int.tdiv (a2 + a3) (2 : Int)), a4, a5))) (
chk (fits .i64 ((Int.tdiv (a2 + a3) (2 : Int)) + (1 : Int))) (
some (Sum.inl (a0, a1, ((Int.tdiv (a2 + a3) (2 : Int)) + (1 : Int)), a3, a4, a5))))))))) (
some (Sum.inr (a2, a4, a5)))
theorem g25_0 (F20 : Y25) (F16 : Y33) (F48 : Y4) (F49 : Y160) (a0 : Int) (a1 : Int) (a2 : Int) (a3 : Int) (a4 : Y20) (a5 : Y9) : s25_0 (T25 F20 F16 F48 F49) (a0, a1, a2, a3, a4, a5) = q25_0 F20 F16 F48 F49 a0 a1 a2 a3 a4 a5 := by kernel_rfl
noncomputable def p25_0 (a0 : Int) (a1 : Int) (a2 : Int) (a3 : Int) (a4 : Y20) (a5 : Y9) : Option Y189 := q25_0 P20 P16 P48 P49 a0 a1 a2 a3 a4 a5
noncomputable def L25_0 : Y186 := whileF (fun x => p25_0 x.1 x.2.1 x.2.2.1 x.2.2.2.1 x.2.2.2.2.1 x.2.2.2.2.2)
theorem v25_0 : l25_0 (T25 P20 P16 P48 P49) = L25_0 := congrArg whileF (funext fun x => (g25_0 P20 P16 P48 P49 x.1 x.2.1 x.2.2.1 x.2.2.2.1 x.2.2.2.2.1 x.2.2.2.2.2).trans (show q25_0 P20 P16 P48 P49 x.1 x.2.1 x.2.2.1 x.2.2.2.1 x.2.2.2.2.1 x.2.2.2.2.2 = q25_0 P20 P16 P48 P49 x.1 x.2.1 x.2.2.1 x.2.2.2.1 x.2.2.2.2.1 x.2.2.2.2.2 from rfl))
def c25 : DCode := (.seq (.reg [o 4 (.box (.t 0)),
  o 8 (.mov (.c (.int .i64 0))),
  o 9 (.mov (.c (.int .i64 0)))]) (.seq (.seq (.reg [o 16 (.ldn (.t 4) 3 false),
  o 17 (.xcall 20 [(.t 16)]),
  o 10 (.mov (.t 17))]) (.seq (.reg [o 18 (.mov (.t 10)),
  o 19 (.bin true .neq (.t 18) (.c (.int .i64 0)))]) (.cond (.t 19) (.seq (.reg [o 20 (.mov (.t 10)),
  o 8 (.mov (.c (.int .i64 0))),
  o 9 (.mov (.t 20))]) .ret) .skip))) (.seq (.reg [o 22 (.ldn (.t 4) 3 false),
  o 23 (.mov (.t 1)),
  o 24 (.xcall 16 [(.t 22), (.t 23)]),
  o 21 (.mov (.t 24)),
  o 25 (.ext (.t 21) 0),
  o 26 (.ext (.t 21) 1),
  o 11 (.alc [(.int .i64 0), (.int .i64 0), (.int .i64 0), .emp, .emp, (.int .i64 0), (.int .i64 0), (.int .i64 0), (.int .i64 0)]),
  .op ⟨none, .sto (.t 11) (.t 25) 9, none⟩ none,
  o 12 (.mov (.t 26))]) (.seq (.seq (.reg [o 27 (.mov (.t 12)),
  o 28 (.unot (.t 27)),
  o 29 (.mov (.t 28)),
  og 30 29 false (.mov (.t 2)),
  og 31 29 false (.fld (.t 11) 1),
  og 32 29 false (.ld1 (.t 31) false),
  og 33 29 false (.fld (.t 11) 2),
  og 34 29 false (.ld1 (.t 33) false),
  og 35 29 false (.xcall 48 [(.t 30), (.t 32), (.t 34)]),
  og 36 29 false (.unot (.t 35)),
  o 37 (.pick (.t 29) (.c (.bool true)) (.t 36)),
  o 38 (.mov (.t 37)),
  og 39 38 false (.mov (.t 3)),
  og 40 38 false (.xcall 48 [(.t 39), (.c (.int .i64 0)), (.c (.int .i64 10000000))]),
  og 41 38 false (.unot (.t 40)),
  o 42 (.pick (.t 38) (.c (.bool true)) (.t 41))]) (.cond (.t 42) (.seq (.reg [o 8 (.mov (.c (.int .i64 0))),
  o 9 (.mov (.c (.int .i64 1)))]) .ret) .skip)) (.seq (.reg [o 13 (.mov (.c (.int .i64 0))),
  o 14 (.mov (.c (.int .i64 10000001)))]) (.seq (.blk 0 (.loop h25_0 x25_0 b25_0)) (.seq (.seq (.reg [o 66 (.mov (.t 13)),
  o 67 (.bin true .gtr (.t 66) (.c (.int .i64 10000000)))]) (.cond (.t 67) (.seq (.reg [o 8 (.mov (.c (.int .i64 0))),
  o 9 (.mov (.c (.int .i64 3)))]) .ret) .skip)) (.seq (.reg [o 68 (.mov (.t 13)),
  o 8 (.mov (.t 68)),
  o 9 (.mov (.c (.int .i64 0)))]) .ret))))))))
theorem ok25 : L.Fn Try.prog 25 69 [(.t 8), (.t 9)] (erase c25) := L.Fn.of hmix Try.func25 [] (by kernel_rfl)
def sh25 : FSh := ⟨⟨[(.st y69), (.v y6), (.v y6), (.v y6)], []⟩, [y69, y6, y6, y6], 0, ⟨⟨[(.tup [(.v y6), (.v y6)])], []⟩, [y6, y6], [], 0⟩, true⟩
noncomputable def q25 (F20 : Y25) (F16 : Y33) (F48 : Y4) (F49 : Y160) (l25_0 : Y186) (a0 : Y20) (a1 : Int) (a2 : Int) (a3 : Int) : Option Y2 :=
(F20 a0).bind fun (r1 : Int) => (
cond (!decide (r1 = (0 : Int))) (
some ((0 : Int), r1)) (
(F16 (a0, a1)).bind fun (r2 : Y9 × Bool) => (
cond (!r2.2) (
some ((0 : Int), (1 : Int))) (
(F48 (a2, r2.1.2.1, r2.1.2.2.1)).bind fun (r3 : Bool) => (
cond (!r3) (
some ((0 : Int), (1 : Int))) (
(F48 (a3, (0 : Int), (10000000 : Int))).bind fun (r4 : Bool) => (
cond (!r4) (
some ((0 : Int), (1 : Int))) (
(l25_0 (a2, a3, (0 : Int), (10000001 : Int), a0, r2.1)).bind fun (y6 : Y179) => (
cond (decide ((10000000 : Int) < y6.1)) (
some ((0 : Int), (3 : Int))) (
some (y6.1, (0 : Int))))))))))))
theorem g25 (F20 : Y25) (F16 : Y33) (F48 : Y4) (F49 : Y160) (a0 : Y20) (a1 : Int) (a2 : Int) (a3 : Int) : dxf (T25 F20 F16 F48 F49) sh25 [(.t 8), (.t 9)] c25 (a0, a1, a2, a3) = q25 F20 F16 F48 F49 (l25_0 (T25 F20 F16 F48 F49)) a0 a1 a2 a3 := by kernel_rfl
noncomputable def p25 (a0 : Y20) (a1 : Int) (a2 : Int) (a3 : Int) : Option Y2 := q25 P20 P16 P48 P49 L25_0 a0 a1 a2 a3
noncomputable def P25 : Y180 := fun x => p25 x.1 x.2.1 x.2.2.1 x.2.2.2
theorem v25 : dxf (T25 P20 P16 P48 P49) sh25 [(.t 8), (.t 9)] c25 = P25 := funext fun x => (g25 P20 P16 P48 P49 x.1 x.2.1 x.2.2.1 x.2.2.2).trans (show q25 P20 P16 P48 P49 (l25_0 (T25 P20 P16 P48 P49)) x.1 x.2.1 x.2.2.1 x.2.2.2 = q25 P20 P16 P48 P49 L25_0 x.1 x.2.1 x.2.2.1 x.2.2.2 from by rw [v25_0])
theorem d25 : DC Try.prog 25 sh25 P25 := DC_eq v25 (dxf_sound (sh := sh25) t25 ok25 (by kernel_rfl))
noncomputable def T7 (F23 : Y22) (F15 : Y194) (F24 : Y212) (F22 : Y180) (F25 : Y180) : List FEnt := [⟨23, sh23, F23⟩, ⟨15, sh15, F15⟩, ⟨24, sh24, F24⟩, ⟨22, sh22, F22⟩, ⟨25, sh25, F25⟩]
theorem t7 : DTblOK Try.prog (T7 P23 P15 P24 P22 P25) := (DTbl_cons' (f := 23) (sh := sh23) (F := P23) d23 (by kernel_rfl) (DTbl_cons' (f := 15) (sh := sh15) (F := P15) d15 (by kernel_rfl) (DTbl_cons' (f := 24) (sh := sh24) (F := P24) d24 (by kernel_rfl) (DTbl_cons' (f := 22) (sh := sh22) (F := P22) d22 (by kernel_rfl) (DTbl_cons' (f := 25) (sh := sh25) (F := P25) d25 (by kernel_rfl) DTbl_nil)))))
def c7 : DCode := (.seq (.reg [o 2 (.box (.t 0)),
  o 3 (.box (.t 1)),
  o 4 (.mov (.c (.bool false)))]) (.seq (.seq (.reg [o 9 (.ldn (.t 2) 3 false),
  o 10 (.xcall 23 [(.t 9)])]) (.cond (.t 10) (.seq (.reg [o 11 (.xcall 15 []),
  o 4 (.mov (.t 11))]) .ret) .skip)) (.seq (.drw [3] [r 13 (.ldn (.t 2) 3 false),
  r 15 (.fld (.t 3) 0),
  r 16 (.ld1 (.t 15) true),
  r 17 (.fld (.t 3) 1),
  r 18 (.ld1 (.t 17) true),
  r 19 (.fld (.t 3) 2),
  r 20 (.ld1 (.t 19) true),
  r 14 (.xcall 24 [(.t 13)]),
  r 21 (.xcall 22 [(.t 14), (.t 16), (.t 18), (.t 20)]),
  r 12 (.mov (.t 21)),
  r 22 (.ext (.t 12) 0),
  r 23 (.ext (.t 12) 1),
  r 5 (.mov (.t 22)),
  r 6 (.mov (.t 23))]) (.seq (.reg [o 25 (.ldn (.t 2) 3 false),
  o 26 (.fld (.t 3) 0),
  o 27 (.ld1 (.t 26) false),
  o 28 (.fld (.t 3) 1),
  o 29 (.ld1 (.t 28) false),
  o 30 (.fld (.t 3) 2),
  o 31 (.ld1 (.t 30) false),
  o 32 (.xcall 25 [(.t 25), (.t 27), (.t 29), (.t 31)]),
  o 24 (.mov (.t 32)),
  o 33 (.ext (.t 24) 0),
  o 34 (.ext (.t 24) 1),
  o 7 (.mov (.t 33)),
  o 8 (.mov (.t 34))]) (.seq (.reg [o 35 (.mov (.t 5)),
  o 36 (.mov (.t 7)),
  o 37 (.bin true .eql (.t 35) (.t 36)),
  o 38 (.mov (.t 37)),
  og 39 38 true (.mov (.t 6)),
  og 40 38 true (.mov (.t 8)),
  og 41 38 true (.bin true .eql (.t 39) (.t 40)),
  o 42 (.pick (.t 38) (.t 41) (.c (.bool false))),
  o 43 (.mov (.t 42)),
  og 44 43 true (.xcall 15 []),
  o 45 (.pick (.t 43) (.t 44) (.c (.bool false))),
  o 4 (.mov (.t 45))]) .ret)))))
theorem ok7 : L.Fn Try.prog 7 46 [(.t 4)] (erase c7) := L.Fn.of hmix Try.func7 [(3, { ch := [0,0,0,1,0,1,0,1,0,0,0,0,0,0], rs := [3], ord := [0,2,3,4,5,6,7,1,8,9,10,11,12,13] })] (by kernel_rfl)
def sh7 : FSh := ⟨⟨[(.st y69), (.st y16)], []⟩, [y69, y16], 0, ⟨⟨[(.v .bool)], []⟩, [.bool], [], 0⟩, true⟩
noncomputable def q7 (F23 : Y22) (F15 : Y194) (F24 : Y212) (F22 : Y180) (F25 : Y180) (a0 : Y20) (a1 : Y5) : Option Bool :=
(F23 a0).bind fun (r1 : Bool) => (
cond r1 (
(F15 ()).bind fun (r2 : Bool) => (
some r2)) (
(F24 a0).bind fun (r3 : Y20) => (
(F22 (r3, a1.1, a1.2.1, a1.2.2)).bind fun (r4 : Int × Int) => (
(F25 (a0, a1.1, a1.2.1, a1.2.2)).bind fun (r5 : Int × Int) => (
cond (decide (r4.1 = r5.1)) (
cond (decide (r4.2 = r5.2)) (
(F15 ()).bind fun (r6 : Bool) => (
some r6)) (
some false)) (
some false))))))
theorem g7 (F23 : Y22) (F15 : Y194) (F24 : Y212) (F22 : Y180) (F25 : Y180) (a0 : Y20) (a1 : Y5) : dxf (T7 F23 F15 F24 F22 F25) sh7 [(.t 4)] c7 (a0, a1) = q7 F23 F15 F24 F22 F25 a0 a1 := by kernel_rfl
noncomputable def p7 (a0 : Y20) (a1 : Y5) : Option Bool := q7 P23 P15 P24 P22 P25 a0 a1
noncomputable def P7 : Y37 := fun x => p7 x.1 x.2
theorem v7 : dxf (T7 P23 P15 P24 P22 P25) sh7 [(.t 4)] c7 = P7 := funext fun x => (g7 P23 P15 P24 P22 P25 x.1 x.2).trans (show q7 P23 P15 P24 P22 P25 x.1 x.2 = q7 P23 P15 P24 P22 P25 x.1 x.2 from rfl)
theorem d7 : DC Try.prog 7 sh7 P7 := DC_eq v7 (dxf_sound (sh := sh7) t7 ok7 (by kernel_rfl))
end Go.Proofs.Ytfknkinmnecoeaa.D
