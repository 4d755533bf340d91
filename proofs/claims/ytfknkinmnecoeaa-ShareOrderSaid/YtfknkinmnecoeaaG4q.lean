/- Cut down from a longer text. -/
import Derived.Test.YtfknkinmnecoeaaG3q
import Derived.Test.YtfknkinmnecoeaaProg
set_option linter.unusedVariables false
set_option maxRecDepth 100000
namespace Go.Proofs.Ytfknkinmnecoeaa.D
open Go Go.Proofs Go.Proofs.Ytfknkinmnecoeaa.L
noncomputable def T15 (F38 : Y103) (F17 : Y175) (F21 : Y178) (F22 : Y180) : List FEnt := [⟨38, sh38, F38⟩, ⟨17, sh17, F17⟩, ⟨21, sh21, F21⟩, ⟨22, sh22, F22⟩]
theorem t15 : DTblOK Try.prog (T15 P38 P17 P21 P22) := (DTbl_cons' (f := 38) (sh := sh38) (F := P38) d38 (by kernel_rfl) (DTbl_cons' (f := 17) (sh := sh17) (F := P17) d17 (by kernel_rfl) (DTbl_cons' (f := 21) (sh := sh21) (F := P21) d21 (by kernel_rfl) (DTbl_cons' (f := 22) (sh := sh22) (F := P22) d22 (by kernel_rfl) DTbl_nil))))
def c15 : DCode := (.seq (.reg [o 0 (.mov (.c (.bool false)))]) (.seq (.reg [o 8 (.xcall 38 []),
  o 1 (.alc [(.int .i64 0), .emp, .emp]),
  .op ⟨none, .sto (.t 1) (.t 8) 3, none⟩ none]) (.seq (.reg [o 10 (.ldn (.t 1) 3 false),
  o 11 (.xcall 17 [(.t 10), (.c (.int .i64 5)), (.c (.int .i64 10))]),
  o 9 (.mov (.t 11)),
  o 12 (.ext (.t 9) 0),
  o 13 (.ext (.t 9) 1),
  o 2 (.alc [(.int .i64 0), (.int .i64 0), (.int .i64 0), (.int .i64 0), (.int .i64 0), (.int .i64 0)]),
  .op ⟨none, .sto (.t 2) (.t 12) 6, none⟩ none,
  o 3 (.mov (.t 13))]) (.seq (.reg [o 15 (.ldn (.t 1) 3 false),
  o 16 (.xcall 21 [(.t 15), (.c (.int .i64 5)), (.c (.int .i64 12))]),
  o 14 (.mov (.t 16)),
  o 17 (.ext (.t 14) 0),
  o 18 (.ext (.t 14) 1),
  o 4 (.mov (.t 17)),
  o 5 (.mov (.t 18))]) (.seq (.reg [o 20 (.ldn (.t 1) 3 false),
  o 21 (.xcall 22 [(.t 20), (.c (.int .i64 5)), (.c (.int .i64 11)), (.c (.int .i64 3000))]),
  o 19 (.mov (.t 21)),
  o 22 (.ext (.t 19) 0),
  o 23 (.ext (.t 19) 1),
  o 6 (.mov (.t 22)),
  o 7 (.mov (.t 23))]) (.seq (.reg [o 24 (.mov (.t 3)),
  o 25 (.bin true .eql (.t 24) (.c (.int .i64 0))),
  o 26 (.mov (.t 25)),
  og 27 26 true (.mov (.t 5)),
  og 28 26 true (.bin true .eql (.t 27) (.c (.int .i64 0))),
  o 29 (.pick (.t 26) (.t 28) (.c (.bool false))),
  o 30 (.mov (.t 29)),
  og 31 30 true (.mov (.t 7)),
  og 32 30 true (.bin true .eql (.t 31) (.c (.int .i64 0))),
  o 33 (.pick (.t 30) (.t 32) (.c (.bool false))),
  o 34 (.mov (.t 33)),
  og 35 34 true (.ldn (.t 2) 6 false),
  og 36 34 true (.bld [(.int .i64 0), (.int .i64 0), (.int .i64 0), (.int .i64 0), (.int .i64 0), (.int .i64 0)] [(0, (1, (.c (.int .i64 30000)))), (1, (1, (.c (.int .i64 3000)))), (2, (1, (.c (.int .i64 27000)))), (3, (1, (.c (.int .i64 18900)))), (4, (1, (.c (.int .i64 8100)))), (5, (1, (.c (.int .i64 1))))]),
  og 37 34 true (.eqs false 6 (.t 35) (.t 36)),
  o 38 (.pick (.t 34) (.t 37) (.c (.bool false))),
  o 39 (.mov (.t 38)),
  og 40 39 true (.mov (.t 4)),
  og 41 39 true (.bin true .eql (.t 40) (.c (.int .i64 40000))),
  o 42 (.pick (.t 39) (.t 41) (.c (.bool false))),
  o 43 (.mov (.t 42)),
  og 44 43 true (.mov (.t 6)),
  og 45 43 true (.bin true .eql (.t 44) (.c (.int .i64 3333))),
  o 46 (.pick (.t 43) (.t 45) (.c (.bool false))),
  o 0 (.mov (.t 46))]) .ret))))))
theorem ok15 : L.Fn Try.prog 15 47 [(.t 0)] (erase c15) := L.Fn.of hmix Try.func15 [] (by kernel_rfl)
def sh15 : FSh := ⟨⟨[], []⟩, [], 0, ⟨⟨[(.v .bool)], []⟩, [.bool], [], 0⟩, true⟩
noncomputable def q15 (F38 : Y103) (F17 : Y175) (F21 : Y178) (F22 : Y180) : Option Bool :=
(F38 ()).bind fun (r1 : Y20) => (
(F17 (r1, (5 : Int), (10 : Int))).bind fun (r2 : Y3 × Int) => (
(F21 (r1, (5 : Int), (12 : Int))).bind fun (r3 : Int × Int) => (
(F22 (r1, (5 : Int), (11 : Int), (3000 : Int))).bind fun (r4 : Int × Int) => (
cond (decide (r2.2 = (0 : Int))) (
cond (decide (r3.2 = (0 : Int))) (
cond (decide (r4.2 = (0 : Int))) (
cond (((((decide (r2.1.1 = (30000 : Int)) && decide (r2.1.2.1 = (3000 : Int))) && decide (r2.1.2.2.1 = (27000 : Int))) && decide (r2.1.2.2.2.1 = (18900 : Int))) && decide (r2.1.2.2.2.2.1 = (8100 : Int))) && decide (r2.1.2.2.2.2.2 = (1 : Int))) (
cond (decide (r3.1 = (40000 : Int))) (
some (decide (r4.1 = (3333 : Int)))) (
some false)) (
some false)) (
some false)) (
some false)) (
some false)))))
theorem g15 (F38 : Y103) (F17 : Y175) (F21 : Y178) (F22 : Y180) : dxf (T15 F38 F17 F21 F22) sh15 [(.t 0)] c15 () = q15 F38 F17 F21 F22 := by kernel_rfl
noncomputable def p15 : Option Bool := q15 P38 P17 P21 P22
noncomputable def P15 : Y194 := fun x => p15
theorem v15 : dxf (T15 P38 P17 P21 P22) sh15 [(.t 0)] c15 = P15 := funext fun x => (g15 P38 P17 P21 P22).trans (show q15 P38 P17 P21 P22 = q15 P38 P17 P21 P22 from rfl)
theorem d15 : DC Try.prog 15 sh15 P15 := DC_eq v15 (dxf_sound (sh := sh15) t15 ok15 (by kernel_rfl))
noncomputable def T18 : List FEnt := []
theorem t18 : DTblOK Try.prog T18 := DTbl_nil
def c18 : DCode := (.seq (.reg [o 1 (.box (.t 0)),
  o 2 (.mov (.c (.bool false)))]) (.seq (.reg [o 3 (.fld (.t 1) 0),
  o 4 (.ld1 (.t 3) false),
  o 5 (.fld (.t 1) 1),
  o 6 (.ld1 (.t 5) false),
  o 7 (.fld (.t 1) 2),
  o 8 (.ld1 (.t 7) false),
  o 9 (.bin true .add (.t 6) (.t 8)),
  o 10 (.bin true .eql (.t 4) (.t 9)),
  o 11 (.mov (.t 10)),
  og 12 11 true (.fld (.t 1) 2),
  og 13 11 true (.ld1 (.t 12) false),
  og 14 11 true (.fld (.t 1) 3),
  og 15 11 true (.ld1 (.t 14) false),
  og 16 11 true (.fld (.t 1) 4),
  og 17 11 true (.ld1 (.t 16) false),
  og 18 11 true (.bin true .add (.t 15) (.t 17)),
  og 19 11 true (.bin true .eql (.t 13) (.t 18)),
  o 20 (.pick (.t 11) (.t 19) (.c (.bool false))),
  o 21 (.mov (.t 20)),
  og 22 21 true (.fld (.t 1) 0),
  og 23 21 true (.ld1 (.t 22) false),
  og 24 21 true (.fld (.t 1) 1),
  og 25 21 true (.ld1 (.t 24) false),
  og 26 21 true (.fld (.t 1) 2),
  og 27 21 true (.ld1 (.t 26) false),
  og 28 21 true (.fld (.t 1) 3),
  og 29 21 true (.ld1 (.t 28) false),
  og 30 21 true (.fld (.t 1) 4),
  og 31 21 true (.ld1 (.t 30) false),
  og 32 21 true (.mnl false [(.t 23), (.t 25), (.t 27), (.t 29), (.t 31)]),
  og 33 21 true (.bin true .geq (.t 32) (.c (.int .i64 0))),
  o 34 (.pick (.t 21) (.t 33) (.c (.bool false))),
  o 2 (.mov (.t 34))]) .ret))
theorem ok18 : L.Fn Try.prog 18 35 [(.t 2)] (erase c18) := L.Fn.of hmix Try.func18 [] (by kernel_rfl)
def sh18 : FSh := ⟨⟨[(.st y48)], []⟩, [y48], 0, ⟨⟨[(.v .bool)], []⟩, [.bool], [], 0⟩, true⟩
noncomputable def q18 (a0 : Y3) : Option Bool :=
chk (fits .i64 (a0.2.1 + a0.2.2.1)) (
cond (decide (a0.1 = (a0.2.1 + a0.2.2.1))) (
chk (fits .i64 (a0.2.2.2.1 + a0.2.2.2.2.1)) (
cond (decide (a0.2.2.1 = (a0.2.2.2.1 + a0.2.2.2.2.1))) (
some (decide ((0 : Int) ≤ (min (min (min (min a0.1 a0.2.1) a0.2.2.1) a0.2.2.2.1) a0.2.2.2.2.1)))) (
some false))) (
some false))
theorem g18 (a0 : Y3) : dxf T18 sh18 [(.t 2)] c18 a0 = q18 a0 := by kernel_rfl
noncomputable def p18 (a0 : Y3) : Option Bool := q18 a0
noncomputable def P18 : Y195 := fun x => p18 x
theorem v18 : dxf T18 sh18 [(.t 2)] c18 = P18 := funext fun x => (g18 x).trans (show q18 x = q18 x from rfl)
theorem d18 : DC Try.prog 18 sh18 P18 := DC_eq v18 (dxf_sound (sh := sh18) t18 ok18 (by kernel_rfl))
noncomputable def T3 (F14 : Y37) (F15 : Y194) (F16 : Y33) (F17 : Y175) (F18 : Y195) : List FEnt := [⟨14, sh14, F14⟩, ⟨15, sh15, F15⟩, ⟨16, sh16, F16⟩, ⟨17, sh17, F17⟩, ⟨18, sh18, F18⟩]
theorem t3 : DTblOK Try.prog (T3 P14 P15 P16 P17 P18) := (DTbl_cons' (f := 14) (sh := sh14) (F := P14) d14 (by kernel_rfl) (DTbl_cons' (f := 15) (sh := sh15) (F := P15) d15 (by kernel_rfl) (DTbl_cons' (f := 16) (sh := sh16) (F := P16) d16 (by kernel_rfl) (DTbl_cons' (f := 17) (sh := sh17) (F := P17) d17 (by kernel_rfl) (DTbl_cons' (f := 18) (sh := sh18) (F := P18) d18 (by kernel_rfl) DTbl_nil)))))
def b3_0 : DCode := (.seq (.reg [o 52 (.mov (.t 9)),
  o 53 (.fld (.t 5) 3),
  o 54 (.ld1 (.t 53) false),
  o 55 (.len (.t 54)),
  o 56 (.bin true .geq (.t 52) (.t 55))]) (.cond (.t 56) (.reg [o 57 (.fld (.t 5) 3),
  o 58 (.ld1 (.t 57) false),
  o 59 (.len (.t 58)),
  o 60 (.bin true .sub (.t 59) (.c (.int .i64 1))),
  o 9 (.mov (.t 60))]) .skip))
def h3_0 : LSh := ⟨[5, 7, 9], ⟨[(.ptr 0 0), (.ptr 1 0), (.v y6)], [(0, (.boxT y66)), (1, (.boxT y48))]⟩, [y6, y66, y48], 2, [0, 1]⟩
def x3_0 : List XSh := [⟨.normal, [5, 7, 9], ⟨⟨[(.ptr 0 0), (.ptr 1 0), (.v y6)], [(0, (.boxT y66)), (1, (.boxT y48))]⟩, [y6, y66, y48], [0, 1], 2⟩⟩]
noncomputable def l3_0 (T : List FEnt) : Y205 := onceF (xs := x3_0) h3_0 (dxc T b3_0)
noncomputable def q3_0 (F14 : Y37) (F15 : Y194) (F16 : Y33) (F17 : Y175) (F18 : Y195) (a0 : Int) (a1 : Y9) (a2 : Y3) : Option Y201 :=
cond (decide ((↑(List.length a1.2.2.2.1) : Int) ≤ a0)) (
chk (fits .i64 ((↑(List.length a1.2.2.2.1) : Int) - (1 : Int))) (
some (((↑(List.length a1.2.2.2.1) : Int) - (1 : Int)), a1, a2))) (
some (a0, a1, a2))
theorem g3_0 (F14 : Y37) (F15 : Y194) (F16 : Y33) (F17 : Y175) (F18 : Y195) (a0 : Int) (a1 : Y9) (a2 : Y3) : l3_0 (T3 F14 F15 F16 F17 F18) (a0, a1, a2) = q3_0 F14 F15 F16 F17 F18 a0 a1 a2 := by kernel_rfl
noncomputable def p3_0 (a0 : Int) (a1 : Y9) (a2 : Y3) : Option Y201 := q3_0 P14 P15 P16 P17 P18 a0 a1 a2
noncomputable def L3_0 : Y205 := fun x => p3_0 x.1 x.2.1 x.2.2
theorem v3_0 : l3_0 (T3 P14 P15 P16 P17 P18) = L3_0 := funext fun x => (g3_0 P14 P15 P16 P17 P18 x.1 x.2.1 x.2.2).trans (show q3_0 P14 P15 P16 P17 P18 x.1 x.2.1 x.2.2 = q3_0 P14 P15 P16 P17 P18 x.1 x.2.1 x.2.2 from rfl)
def b3_1 : DCode := (.seq (.seq (.reg [o 66 (.mov (.t 11)),
  o 67 (.fld (.t 5) 4),
  o 68 (.ld1 (.t 67) false),
  o 69 (.len (.t 68)),
  o 70 (.bin true .lss (.t 66) (.t 69))]) (.cond (.t 70) .skip (.exit 0))) (.seq (.blk 1 (.seq (.drw [] [r 73 (.fld (.t 7) 2),
  r 74 (.ld1 (.t 73) false),
  r 75 (.fld (.t 5) 4),
  r 76 (.ld1 (.t 75) false),
  r 77 (.mov (.t 11)),
  r 78 (.idx (.t 76) (.t 77) 2),
  r 79 (.fld (.t 78) 0),
  r 80 (.ld1 (.t 79) false),
  r 81 (.bin true .geq (.t 74) (.t 80)),
  r 82 (.mov (.t 81)),
  (⟨some 83, .fld (.t 5) 4, some (82, true)⟩, none),
  (⟨some 84, .ld1 (.t 83) false, some (82, true)⟩, none),
  (⟨some 85, .mov (.t 11), some (82, true)⟩, none),
  (⟨some 86, .idx (.t 84) (.t 85) 2, some (82, true)⟩, none),
  (⟨some 87, .fld (.t 86) 1, some (82, true)⟩, none),
  (⟨some 88, .ld1 (.t 87) false, some (82, true)⟩, none),
  (⟨some 89, .mov (.t 10), some (82, true)⟩, none),
  (⟨some 90, .bin true .gtr (.t 88) (.t 89), some (82, true)⟩, none),
  r 91 (.pick (.t 82) (.t 90) (.c (.bool false)))]) (.cond (.t 91) (.reg [o 92 (.fld (.t 5) 4),
  o 93 (.ld1 (.t 92) false),
  o 94 (.mov (.t 11)),
  o 95 (.idx (.t 93) (.t 94) 2),
  o 96 (.fld (.t 95) 1),
  o 97 (.ld1 (.t 96) false),
  o 10 (.mov (.t 97))]) .skip))) (.reg [o 71 (.mov (.t 11)),
  o 72 (.bin true .add (.t 71) (.c (.int .i64 1))),
  o 11 (.mov (.t 72))])))
def h3_1 : LSh := ⟨[5, 7, 10, 11], ⟨[(.ptr 0 0), (.ptr 1 0), (.v y6), (.v y6)], [(0, (.boxT y66)), (1, (.boxT y48))]⟩, [y6, y6, y66, y48], 2, [0, 1]⟩
def x3_1 : List XSh := [⟨(.exit 0), [5, 7, 10], ⟨⟨[(.ptr 0 0), (.ptr 1 0), (.v y6)], [(0, (.boxT y66)), (1, (.boxT y48))]⟩, [y6, y66, y48], [0, 1], 2⟩⟩]
noncomputable def s3_1 (T : List FEnt) : Y210 := dstep (xs := x3_1) h3_1 (dxc T b3_1)
noncomputable def l3_1 (T : List FEnt) : Y206 := whileF (s3_1 T)
noncomputable def q3_1 (F14 : Y37) (F15 : Y194) (F16 : Y33) (F17 : Y175) (F18 : Y195) (a0 : Int) (a1 : Int) (a2 : Y9) (a3 : Y3) : Option Y209 :=
cond (decide (a1 < (↑(List.length a2.2.2.2.2.1) : Int))) (
chk (inR a1 (List.length a2.2.2.2.2.1)) (
cond (decide ((ix a2.2.2.2.2.1 a1).1 ≤ a3.2.2.1)) (
chk (inR a1 (List.length a2.2.2.2.2.1)) (
cond (decide (a0 < (ix a2.2.2.2.2.1 a1).2)) (
chk (inR a1 (List.length a2.2.2.2.2.1)) (
chk (fits .i64 (a1 + (1 : Int))) (
some (Sum.inl ((ix a2.2.2.2.2.1 a1).2, (a1 + (1 : Int)), a2, a3))))) (
chk (fits .i64 (a1 + (1 : Int))) (
some (Sum.inl (a0, (a1 + (1 : Int)), a2, a3)))))) (
chk (fits .i64 (a1 + (1 : Int))) (
some (Sum.inl (a0, (a1 + (1 : Int)), a2, a3)))))) (
some (Sum.inr (a0, a2, a3)))
theorem g3_1 (F14 : Y37) (F15 : Y194) (F16 : Y33) (F17 : Y175) (F18 : Y195) (a0 : Int) (a1 : Int) (a2 : Y9) (a3 : Y3) : s3_1 (T3 F14 F15 F16 F17 F18) (a0, a1, a2, a3) = q3_1 F14 F15 F16 F17 F18 a0 a1 a2 a3 := by kernel_rfl
noncomputable def p3_1 (a0 : Int) (a1 : Int) (a2 : Y9) (a3 : Y3) : Option Y209 := q3_1 P14 P15 P16 P17 P18 a0 a1 a2 a3
noncomputable def L3_1 : Y206 := whileF (fun x => p3_1 x.1 x.2.1 x.2.2.1 x.2.2.2)
theorem v3_1 : l3_1 (T3 P14 P15 P16 P17 P18) = L3_1 := congrArg whileF (funext fun x => (g3_1 P14 P15 P16 P17 P18 x.1 x.2.1 x.2.2.1 x.2.2.2).trans (show q3_1 P14 P15 P16 P17 P18 x.1 x.2.1 x.2.2.1 x.2.2.2 = q3_1 P14 P15 P16 P17 P18 x.1 x.2.1 x.2.2.1 x.2.2.2 from rfl))
def b3_2 : DCode := (.seq (.reg [o 106 (.fld (.t 7) 2),
  o 107 (.ld1 (.t 106) false),
  o 108 (.fld (.t 5) 5),
  o 109 (.ld1 (.t 108) false),
  o 110 (.bin true .gtr (.t 107) (.t 109))]) (.cond (.t 110) (.reg [o 111 (.mov (.t 12)),
  o 112 (.fld (.t 7) 2),
  o 113 (.ld1 (.t 112) false),
  o 114 (.fld (.t 5) 5),
  o 115 (.ld1 (.t 114) false),
  o 116 (.bin true .sub (.t 113) (.t 115)),
  o 117 (.fld (.t 5) 6),
  o 118 (.ld1 (.t 117) false),
  o 119 (.bin true .mul (.t 116) (.t 118)),
  o 120 (.bin true .quo (.t 119) (.c (.int .i64 1000))),
  o 121 (.idx (.t 111) (.c (.int .i64 2)) 1),
  .op ⟨none, .sto (.t 121) (.t 120) 1, none⟩ none]) .skip))
def h3_2 : LSh := ⟨[5, 7, 12], ⟨[(.ptr 0 0), (.ptr 1 0), (.slc 2)], [(0, (.boxT y66)), (1, (.boxT y48)), (2, (.row 3 y6))]⟩, [y66, y48, y12], 3, [0, 1, 2]⟩
def x3_2 : List XSh := [⟨.normal, [7, 12], ⟨⟨[(.ptr 1 0), (.slc 2)], [(0, (.boxT y66)), (1, (.boxT y48)), (2, (.row 3 y6))]⟩, [y66, y48, y12], [0, 1, 2], 3⟩⟩]
noncomputable def l3_2 (T : List FEnt) : Y207 := onceF (xs := x3_2) h3_2 (dxc T b3_2)
noncomputable def q3_2 (F14 : Y37) (F15 : Y194) (F16 : Y33) (F17 : Y175) (F18 : Y195) (a0 : Y9) (a1 : Y3) (a2 : List Int) : Option Y202 :=
cond (decide (a0.2.2.2.2.2.1 < a1.2.2.1)) (
chk (fits .i64 (a1.2.2.1 - a0.2.2.2.2.2.1)) (
chk (fits .i64 ((a1.2.2.1 - a0.2.2.2.2.2.1) * a0.2.2.2.2.2.2.1)) (
chk (fits .i64 (Int.tdiv ((a1.2.2.1 - a0.2.2.2.2.2.1) * a0.2.2.2.2.2.2.1) (1000 : Int))) (
chk (inR (2 : Int) (List.length a2)) (
some (a0, a1, (List.set a2 (Int.toNat (2 : Int)) (Int.tdiv ((a1.2.2.1 - a0.2.2.2.2.2.1) * a0.2.2.2.2.2.2.1) (1000 : Int))))))))) (
some (a0, a1, a2))
theorem g3_2 (F14 : Y37) (F15 : Y194) (F16 : Y33) (F17 : Y175) (F18 : Y195) (a0 : Y9) (a1 : Y3) (a2 : List Int) : l3_2 (T3 F14 F15 F16 F17 F18) (a0, a1, a2) = q3_2 F14 F15 F16 F17 F18 a0 a1 a2 := by kernel_rfl
noncomputable def p3_2 (a0 : Y9) (a1 : Y3) (a2 : List Int) : Option Y202 := q3_2 P14 P15 P16 P17 P18 a0 a1 a2
noncomputable def L3_2 : Y207 := fun x => p3_2 x.1 x.2.1 x.2.2
theorem v3_2 : l3_2 (T3 P14 P15 P16 P17 P18) = L3_2 := funext fun x => (g3_2 P14 P15 P16 P17 P18 x.1 x.2.1 x.2.2).trans (show q3_2 P14 P15 P16 P17 P18 x.1 x.2.1 x.2.2 = q3_2 P14 P15 P16 P17 P18 x.1 x.2.1 x.2.2 from rfl)
def b3_3 : DCode := (.seq (.seq (.reg [o 143 (.mov (.t 13)),
  o 144 (.bin true .leq (.t 143) (.c (.int .i64 3)))]) (.cond (.t 144) .skip (.exit 2))) (.seq (.blk 3 (.seq (.drw [] [r 147 (.mov (.t 12)),
  r 148 (.mov (.t 13)),
  r 149 (.idx (.t 147) (.t 148) 1),
  r 150 (.ld1 (.t 149) false),
  r 151 (.mov (.t 12)),
  r 152 (.fld (.t 7) 5),
  r 153 (.ld1 (.t 152) false),
  r 154 (.idx (.t 151) (.t 153) 1),
  r 155 (.ld1 (.t 154) false),
  r 156 (.bin true .gtr (.t 150) (.t 155)),
  r 157 (.mov (.t 156)),
  (⟨some 158, .mov (.t 13), some (157, false)⟩, none),
  (⟨some 159, .fld (.t 7) 5, some (157, false)⟩, none),
  (⟨some 160, .ld1 (.t 159) false, some (157, false)⟩, none),
  (⟨some 161, .bin true .lss (.t 158) (.t 160), some (157, false)⟩, none),
  (⟨some 162, .mov (.t 161), some (157, false)⟩, none),
  (⟨some 163, .mov (.t 12), some (162, true)⟩, none),
  (⟨some 164, .mov (.t 13), some (162, true)⟩, none),
  (⟨some 165, .idx (.t 163) (.t 164) 1, some (162, true)⟩, none),
  (⟨some 166, .ld1 (.t 165) false, some (162, true)⟩, none),
  (⟨some 167, .mov (.t 12), some (162, true)⟩, none),
  (⟨some 168, .fld (.t 7) 5, some (162, true)⟩, none),
  (⟨some 169, .ld1 (.t 168) false, some (162, true)⟩, none),
  (⟨some 170, .idx (.t 167) (.t 169) 1, some (162, true)⟩, none),
  (⟨some 171, .ld1 (.t 170) false, some (162, true)⟩, none),
  (⟨some 172, .bin true .eql (.t 166) (.t 171), some (162, true)⟩, none),
  (⟨some 173, .pick (.t 162) (.t 172) (.c (.bool false)), some (157, false)⟩, none),
  r 174 (.pick (.t 157) (.c (.bool true)) (.t 173))]) (.cond (.t 174) (.seq (.reg [o 4 (.mov (.c (.bool false)))]) .ret) .skip))) (.reg [o 145 (.mov (.t 13)),
  o 146 (.bin true .add (.t 145) (.c (.int .i64 1))),
  o 13 (.mov (.t 146))])))
def h3_3 : LSh := ⟨[7, 12, 13], ⟨[(.ptr 0 0), (.slc 1), (.v y6)], [(0, (.boxT y48)), (1, (.row 3 y6))]⟩, [y6, y48, y12], 2, [0, 1]⟩
def x3_3 : List XSh := [⟨.ret, [4], ⟨⟨[(.v .bool)], [(0, (.boxT y48)), (1, (.row 3 y6))]⟩, [.bool, y48, y12], [0, 1], 2⟩⟩, ⟨(.exit 2), [], ⟨⟨[], [(0, (.boxT y48)), (1, (.row 3 y6))]⟩, [y48, y12], [0, 1], 2⟩⟩]
noncomputable def s3_3 (T : List FEnt) : Y208 := dstep (xs := x3_3) h3_3 (dxc T b3_3)
noncomputable def l3_3 (T : List FEnt) : Y200 := whileF (s3_3 T)
noncomputable def q3_3 (F14 : Y37) (F15 : Y194) (F16 : Y33) (F17 : Y175) (F18 : Y195) (a0 : Int) (a1 : Y3) (a2 : List Int) : Option Y204 :=
cond (decide (a0 ≤ (3 : Int))) (
chk (inR a0 (List.length a2)) (
chk (inR a1.2.2.2.2.2 (List.length a2)) (
cond (decide ((ix a2 a1.2.2.2.2.2) < (ix a2 a0))) (
some (Sum.inr (Sum.inl (false, a1, a2)))) (
cond (decide (a0 < a1.2.2.2.2.2)) (
chk (inR a0 (List.length a2)) (
chk (inR a1.2.2.2.2.2 (List.length a2)) (
cond (decide ((ix a2 a0) = (ix a2 a1.2.2.2.2.2))) (
some (Sum.inr (Sum.inl (false, a1, a2)))) (
chk (fits .i64 (a0 + (1 : Int))) (
some (Sum.inl ((a0 + (1 : Int)), a1, a2))))))) (
chk (fits .i64 (a0 + (1 : Int))) (
some (Sum.inl ((a0 + (1 : Int)), a1, a2)))))))) (
some (Sum.inr (Sum.inr (a1, a2))))
theorem g3_3 (F14 : Y37) (F15 : Y194) (F16 : Y33) (F17 : Y175) (F18 : Y195) (a0 : Int) (a1 : Y3) (a2 : List Int) : s3_3 (T3 F14 F15 F16 F17 F18) (a0, a1, a2) = q3_3 F14 F15 F16 F17 F18 a0 a1 a2 := by kernel_rfl
noncomputable def p3_3 (a0 : Int) (a1 : Y3) (a2 : List Int) : Option Y204 := q3_3 P14 P15 P16 P17 P18 a0 a1 a2
noncomputable def L3_3 : Y200 := whileF (fun x => p3_3 x.1 x.2.1 x.2.2)
theorem v3_3 : l3_3 (T3 P14 P15 P16 P17 P18) = L3_3 := congrArg whileF (funext fun x => (g3_3 P14 P15 P16 P17 P18 x.1 x.2.1 x.2.2).trans (show q3_3 P14 P15 P16 P17 P18 x.1 x.2.1 x.2.2 = q3_3 P14 P15 P16 P17 P18 x.1 x.2.1 x.2.2 from rfl))
def c3 : DCode := (.seq (.reg [o 2 (.box (.t 0)),
  o 3 (.box (.t 1)),
  o 4 (.mov (.c (.bool false)))]) (.seq (.seq (.reg [o 14 (.ldn (.t 2) 3 false),
  o 15 (.ldn (.t 3) 3 false),
  o 16 (.xcall 14 [(.t 14), (.t 15)]),
  o 17 (.unot (.t 16))]) (.cond (.t 17) (.seq (.reg [o 18 (.xcall 15 []),
  o 4 (.mov (.t 18))]) .ret) .skip)) (.seq (.reg [o 20 (.ldn (.t 2) 3 false),
  o 21 (.fld (.t 3) 0),
  o 22 (.ld1 (.t 21) false),
  o 23 (.xcall 16 [(.t 20), (.t 22)]),
  o 19 (.mov (.t 23)),
  o 24 (.ext (.t 19) 0),
  o 25 (.ext (.t 19) 1),
  o 5 (.alc [(.int .i64 0), (.int .i64 0), (.int .i64 0), .emp, .emp, (.int .i64 0), (.int .i64 0), (.int .i64 0), (.int .i64 0)]),
  .op ⟨none, .sto (.t 5) (.t 24) 9, none⟩ none,
  o 6 (.mov (.t 25))]) (.seq (.reg [o 27 (.ldn (.t 2) 3 false),
  o 28 (.fld (.t 3) 0),
  o 29 (.ld1 (.t 28) false),
  o 30 (.fld (.t 3) 1),
  o 31 (.ld1 (.t 30) false),
  o 32 (.xcall 17 [(.t 27), (.t 29), (.t 31)]),
  o 26 (.mov (.t 32)),
  o 33 (.ext (.t 26) 0),
  o 34 (.ext (.t 26) 1),
  o 7 (.alc [(.int .i64 0), (.int .i64 0), (.int .i64 0), (.int .i64 0), (.int .i64 0), (.int .i64 0)]),
  .op ⟨none, .sto (.t 7) (.t 33) 6, none⟩ none,
  o 8 (.mov (.t 34))]) (.seq (.seq (.reg [o 35 (.mov (.t 8)),
  o 36 (.bin true .neq (.t 35) (.c (.int .i64 0))),
  o 37 (.mov (.t 36)),
  og 38 37 false (.ldn (.t 7) 6 false),
  og 39 37 false (.xcall 18 [(.t 38)]),
  og 40 37 false (.unot (.t 39)),
  o 41 (.pick (.t 37) (.c (.bool true)) (.t 40)),
  o 42 (.mov (.t 41)),
  og 43 42 false (.fld (.t 7) 2),
  og 44 42 false (.ld1 (.t 43) false),
  og 45 42 false (.bin true .gtr (.t 44) (.c (.int .i64 1000000000))),
  o 46 (.pick (.t 42) (.c (.bool true)) (.t 45))]) (.cond (.t 46) (.seq (.reg [o 4 (.mov (.c (.bool false)))]) .ret) .skip)) (.seq (.reg [o 47 (.fld (.t 3) 1),
  o 48 (.ld1 (.t 47) false),
  o 49 (.fld (.t 5) 1),
  o 50 (.ld1 (.t 49) false),
  o 51 (.bin true .sub (.t 48) (.t 50)),
  o 9 (.mov (.t 51))]) (.seq (.once h3_0 x3_0 b3_0) (.seq (.reg [o 61 (.fld (.t 5) 3),
  o 62 (.ld1 (.t 61) false),
  o 63 (.mov (.t 9)),
  o 64 (.idx (.t 62) (.t 63) 1),
  o 65 (.ld1 (.t 64) false),
  o 10 (.mov (.t 65))]) (.seq (.seq (.reg [o 11 (.mov (.c (.int .i64 0)))]) (.blk 0 (.loop h3_1 x3_1 b3_1))) (.seq (.reg [o 98 (.fld (.t 7) 2),
  o 99 (.ld1 (.t 98) false),
  o 100 (.mov (.t 10)),
  o 101 (.bin true .mul (.t 99) (.t 100)),
  o 102 (.bin true .quo (.t 101) (.c (.int .i64 1000))),
  o 103 (.fld (.t 5) 7),
  o 104 (.ld1 (.t 103) false),
  .op ⟨some 105, .bsr 3 1 [(.c (.int .i64 0)), (.t 102), (.c (.int .i64 0)), (.t 104)], none⟩ (some (false, y6)),
  o 12 (.mov (.t 105))]) (.seq (.once h3_2 x3_2 b3_2) (.seq (.seq (.drw [] [r 122 (.fld (.t 7) 5),
  r 123 (.ld1 (.t 122) false),
  r 124 (.bin true .lss (.t 123) (.c (.int .i64 1))),
  r 125 (.mov (.t 124)),
  (⟨some 126, .fld (.t 7) 5, some (125, false)⟩, none),
  (⟨some 127, .ld1 (.t 126) false, some (125, false)⟩, none),
  (⟨some 128, .bin true .gtr (.t 127) (.c (.int .i64 3)), some (125, false)⟩, none),
  r 129 (.pick (.t 125) (.c (.bool true)) (.t 128)),
  r 130 (.mov (.t 129)),
  (⟨some 131, .fld (.t 7) 3, some (130, false)⟩, none),
  (⟨some 132, .ld1 (.t 131) false, some (130, false)⟩, none),
  (⟨some 133, .fld (.t 7) 2, some (130, false)⟩, none),
  (⟨some 134, .ld1 (.t 133) false, some (130, false)⟩, none),
  (⟨some 135, .mov (.t 12), some (130, false)⟩, none),
  (⟨some 136, .fld (.t 7) 5, some (130, false)⟩, none),
  (⟨some 137, .ld1 (.t 136) false, some (130, false)⟩, none),
  (⟨some 138, .idx (.t 135) (.t 137) 1, some (130, false)⟩, none),
  (⟨some 139, .ld1 (.t 138) false, some (130, false)⟩, none),
  (⟨some 140, .mnx false (.t 134) (.t 139), some (130, false)⟩, none),
  (⟨some 141, .bin true .neq (.t 132) (.t 140), some (130, false)⟩, none),
  r 142 (.pick (.t 130) (.c (.bool true)) (.t 141))]) (.cond (.t 142) (.seq (.reg [o 4 (.mov (.c (.bool false)))]) .ret) .skip)) (.seq (.seq (.reg [o 13 (.mov (.c (.int .i64 1)))]) (.blk 2 (.loop h3_3 x3_3 b3_3))) (.seq (.reg [o 175 (.xcall 15 []),
  o 4 (.mov (.t 175))]) .ret))))))))))))))
theorem ok3 : L.Fn Try.prog 3 176 [(.t 4)] (erase c3) := L.Fn.of hmix Try.func3 [] (by kernel_rfl)
def sh3 : FSh := ⟨⟨[(.st y69), (.st y16)], []⟩, [y69, y16], 0, ⟨⟨[(.v .bool)], []⟩, [.bool], [], 0⟩, true⟩
noncomputable def q3 (F14 : Y37) (F15 : Y194) (F16 : Y33) (F17 : Y175) (F18 : Y195) (l3_0 : Y205) (l3_1 : Y206) (l3_2 : Y207) (l3_3 : Y200) (a0 : Y20) (a1 : Y5) : Option Bool :=
(F14 (a0, a1)).bind fun (r1 : Bool) => (
cond (!r1) (
(F15 ()).bind fun (r2 : Bool) => (
some r2)) (
(F16 (a0, a1.1)).bind fun (r3 : Y9 × Bool) => (
(F17 (a0, a1.1, a1.2.1)).bind fun (r4 : Y3 × Int) => (
cond (!decide (r4.2 = (0 : Int))) (
some false) (
(F18 r4.1).bind fun (r5 : Bool) => (
cond (!r5) (
some false) (
cond (decide ((1000000000 : Int) < r4.1.2.2.1)) (
some false) (
chk (fits .i64 (a1.2.1 - r3.1.2.1)) (
(l3_0 ((a1.2.1 - r3.1.2.1), r3.1, r4.1)).bind fun (y6 : Y201) => (
chk (inR y6.1 (List.length y6.2.1.2.2.2.1)) (
(l3_1 ((ix y6.2.1.2.2.2.1 y6.1), (0 : Int), y6.2.1, y6.2.2)).bind fun (y7 : Y201) => (
chk (fits .i64 (y7.2.2.2.2.1 * y7.1)) (
chk (fits .i64 (Int.tdiv (y7.2.2.2.2.1 * y7.1) (1000 : Int))) (
(l3_2 (y7.2.1, y7.2.2, ([(0 : Int), (Int.tdiv (y7.2.2.2.2.1 * y7.1) (1000 : Int)), (0 : Int), y7.2.1.2.2.2.2.2.2.2.1] : List Int))).bind fun (y8 : Y202) => (
cond (decide (y8.2.1.2.2.2.2.2 < (1 : Int))) (
some false) (
cond (decide ((3 : Int) < y8.2.1.2.2.2.2.2)) (
some false) (
chk (inR y8.2.1.2.2.2.2.2 (List.length y8.2.2)) (
cond (!decide (y8.2.1.2.2.2.1 = (min y8.2.1.2.2.1 (ix y8.2.2 y8.2.1.2.2.2.2.2)))) (
some false) (
(l3_3 ((1 : Int), y8.2.1, y8.2.2)).bind (fun (y9 : Y196 ⊕ Y198) => Sum.elim (fun (y10 : Y196) => (
some y10.1)) (fun (y11 : Y3 × Y1) => (
(F15 ()).bind fun (r12 : Bool) => (
some r12))) y9))))))))))))))))))))
theorem g3 (F14 : Y37) (F15 : Y194) (F16 : Y33) (F17 : Y175) (F18 : Y195) (a0 : Y20) (a1 : Y5) : dxf (T3 F14 F15 F16 F17 F18) sh3 [(.t 4)] c3 (a0, a1) = q3 F14 F15 F16 F17 F18 (l3_0 (T3 F14 F15 F16 F17 F18)) (l3_1 (T3 F14 F15 F16 F17 F18)) (l3_2 (T3 F14 F15 F16 F17 F18)) (l3_3 (T3 F14 F15 F16 F17 F18)) a0 a1 := by kernel_rfl
noncomputable def p3 (a0 : Y20) (a1 : Y5) : Option Bool := q3 P14 P15 P16 P17 P18 L3_0 L3_1 L3_2 L3_3 a0 a1
noncomputable def P3 : Y37 := fun x => p3 x.1 x.2
theorem v3 : dxf (T3 P14 P15 P16 P17 P18) sh3 [(.t 4)] c3 = P3 := funext fun x => (g3 P14 P15 P16 P17 P18 x.1 x.2).trans (show q3 P14 P15 P16 P17 P18 (l3_0 (T3 P14 P15 P16 P17 P18)) (l3_1 (T3 P14 P15 P16 P17 P18)) (l3_2 (T3 P14 P15 P16 P17 P18)) (l3_3 (T3 P14 P15 P16 P17 P18)) x.1 x.2 = q3 P14 P15 P16 P17 P18 L3_0 L3_1 L3_2 L3_3 x.1 x.2 from by rw [v3_0, v3_1, v3_2, v3_3])
theorem d3 : DC Try.prog 3 sh3 P3 := DC_eq v3 (dxf_sound (sh := sh3) t3 ok3 (by kernel_rfl))
noncomputable def T24 : List FEnt := []
theorem t24 : DTblOK Try.prog T24 := DTbl_nil
def b24_0 : DCode := (.seq (.seq (.reg [o 13 (.mov (.t 4)),
  o 14 (.fld (.t 1) 1),
  o 15 (.ld1 (.t 14) false),
  o 16 (.len (.t 15)),
  o 17 (.bin true .lss (.t 13) (.t 16))]) (.cond (.t 17) .skip (.exit 0))) (.seq (.blk 1 (.seq (.reg [o 20 (.fld (.t 1) 1),
  o 21 (.ld1 (.t 20) false),
  o 22 (.mov (.t 4)),
  o 23 (.idx (.t 21) (.t 22) 9),
  o 24 (.ldn (.t 23) 9 false),
  o 5 (.alc [(.int .i64 0), (.int .i64 0), (.int .i64 0), .emp, .emp, (.int .i64 0), (.int .i64 0), (.int .i64 0), (.int .i64 0)]),
  .op ⟨none, .sto (.t 5) (.t 24) 9, none⟩ none]) (.seq (.drw [5] [r 25 (.bsl 1 []),
  r 26 (.fld (.t 5) 3),
  r 27 (.ld1 (.t 26) false),
  r 29 (.bsl 2 []),
  r 30 (.fld (.t 5) 4),
  r 31 (.ld1 (.t 30) true),
  (⟨some 28, .app 3 1 8 (.t 25) (.t 27), none⟩, (some (false, y6))),
  r 33 (.fld (.t 5) 3),
  (⟨some 32, .app 43 2 16 (.t 29) (.t 31), none⟩, (some (true, y13))),
  (⟨none, .stl (.t 33) (.t 28) 1, none⟩, none),
  r 34 (.fld (.t 5) 4),
  (⟨none, .stl (.t 34) (.t 32) 1, none⟩, none)]) (.reg [o 35 (.fld (.t 3) 1),
  o 36 (.ld1 (.t 35) false),
  o 37 (.ldn (.t 5) 9 false),
  .fz 28 [],
  .fz 32 [],
  .op ⟨some 38, .bsr 33 9 [(.t 37)], none⟩ (some (true, y66)),
  .op ⟨some 39, .app 33 9 104 (.t 36) (.t 38), none⟩ (some (true, y66)),
  o 40 (.fld (.t 3) 1),
  .op ⟨none, .sto (.t 40) (.t 39) 1, none⟩ none])))) (.reg [o 18 (.mov (.t 4)),
  o 19 (.bin true .add (.t 18) (.c (.int .i64 1))),
  o 4 (.mov (.t 19))])))
def h24_0 : LSh := ⟨[1, 2, 3, 4], ⟨[(.ptr 0 0), (.ptr 1 0), (.ptr 2 0), (.v y6)], [(0, (.boxT y69)), (1, (.box [(.v y6), .emp, .emp])), (2, (.box [(.v y6), (.slc 3), (.slc 4)])), (3, (.row 33 y66)), (4, (.row 45 y48))]⟩, [y6, y69, y6, y6, y67, y60], 5, [0, 1, 2, 4]⟩
def x24_0 : List XSh := [⟨(.exit 0), [2, 3], ⟨⟨[(.ptr 1 0), (.ptr 2 0)], [(0, (.boxT y69)), (1, (.box [(.v y6), .emp, .emp])), (2, (.box [(.v y6), (.slc 5), (.slc 4)])), (4, (.row 45 y48)), (5, (.row 33 y66))]⟩, [y69, y6, y6, y60, y67], [0, 1, 2, 4], 6⟩⟩]
noncomputable def s24_0 (T : List FEnt) : Y225 := dstep (xs := x24_0) h24_0 (dxc T b24_0)
noncomputable def l24_0 (T : List FEnt) : Y219 := whileF (s24_0 T)
noncomputable def q24_0 (a0 : Int) (a1 : Y20) (a2 : Int) (a3 : Int) (a4 : List Y9) (a5 : List Y3) : Option Y222 :=
cond (decide (a0 < (↑(List.length a1.2.1) : Int))) (
chk (inR a0 (List.length a1.2.1)) (
chk (capOk 8 (List.length ((ix a1.2.1 a0).2.2.2.1))) (
chk (capOk 16 (List.length ((ix a1.2.1 a0).2.2.2.2.1))) (
chk (capOk 104 (List.length a4 + List.length ([(ix a1.2.1 a0)] : List Y9))) (
chk (fits .i64 (a0 + (1 : Int))) (
some (Sum.inl ((a0 + (1 : Int)), a1, a2, a3, (a4 ++ ([(ix a1.2.1 a0)] : List Y9)), a5)))))))) (
some (Sum.inr (a1, a2, a3, a5, a4)))
theorem g24_0 (a0 : Int) (a1 : Y20) (a2 : Int) (a3 : Int) (a4 : List Y9) (a5 : List Y3) : s24_0 T24 (a0, a1, a2, a3, a4, a5) = q24_0 a0 a1 a2 a3 a4 a5 := by kernel_rfl
noncomputable def p24_0 (a0 : Int) (a1 : Y20) (a2 : Int) (a3 : Int) (a4 : List Y9) (a5 : List Y3) : Option Y222 := q24_0 a0 a1 a2 a3 a4 a5
noncomputable def L24_0 : Y219 := whileF (fun x => p24_0 x.1 x.2.1 x.2.2.1 x.2.2.2.1 x.2.2.2.2.1 x.2.2.2.2.2)
theorem v24_0 : l24_0 T24 = L24_0 := congrArg whileF (funext fun x => (g24_0 x.1 x.2.1 x.2.2.1 x.2.2.2.1 x.2.2.2.2.1 x.2.2.2.2.2).trans (show q24_0 x.1 x.2.1 x.2.2.1 x.2.2.2.1 x.2.2.2.2.1 x.2.2.2.2.2 = q24_0 x.1 x.2.1 x.2.2.1 x.2.2.2.1 x.2.2.2.2.1 x.2.2.2.2.2 from rfl))
def c24 : DCode := (.seq (.reg [o 1 (.box (.t 0)),
  o 2 (.alc [(.int .i64 0), .emp, .emp])]) (.seq (.drw [1] [r 6 (.fld (.t 1) 0),
  r 7 (.ld1 (.t 6) true),
  r 8 (.bsl 6 []),
  r 9 (.fld (.t 1) 2),
  r 10 (.ld1 (.t 9) true),
  (⟨some 11, .app 45 6 48 (.t 8) (.t 10), none⟩, (some (true, y48))),
  r 12 (.bld [(.int .i64 0), .emp, .emp] [(0, (1, (.t 7))), (2, (1, (.t 11)))]),
  r 3 (.alc [(.int .i64 0), .emp, .emp]),
  (⟨none, .sto (.t 3) (.t 12) 3, none⟩, none)]) (.seq (.seq (.reg [o 4 (.mov (.c (.int .i64 0)))]) (.blk 0 (.loop h24_0 x24_0 b24_0))) (.seq (.reg [o 41 (.ldn (.t 3) 3 false),
  .op ⟨none, .sto (.t 2) (.t 41) 3, none⟩ none]) .ret))))
theorem ok24 : L.Fn Try.prog 24 42 [(.cell 2 true 3)] (erase c24) := L.Fn.of hmix Try.func24 [(1, { ch := [0,1,1,0,1,0,0,0,0], rs := [1] }), (6, { ch := [1,0,0,0,1,0,1,0,0,1,0,1], rs := [5], ord := [0,1,2,4,5,6,3,8,7,9,10,11] })] (by kernel_rfl)
def sh24 : FSh := ⟨⟨[(.st y69)], []⟩, [y69], 0, ⟨⟨[(.agg [(.v y6), (.slc 0), (.slc 1)])], [(0, (.row 33 y66)), (1, (.row 45 y48))]⟩, [y6, y67, y60], [], 2⟩, false⟩
noncomputable def q24 (l24_0 : Y219) (a0 : Y20) : Option Y20 :=
chk (capOk 48 (List.length a0.2.2)) (
(l24_0 ((0 : Int), a0, (0 : Int), a0.1, ([] : List Y9), a0.2.2)).bind fun (y1 : Y211) => (
some (y1.2.2.1, y1.2.2.2.2, y1.2.2.2.1)))
theorem g24 (a0 : Y20) : dxf T24 sh24 [(.cell 2 true 3)] c24 a0 = q24 (l24_0 T24) a0 := by kernel_rfl
noncomputable def p24 (a0 : Y20) : Option Y20 := q24 L24_0 a0
noncomputable def P24 : Y212 := fun x => p24 x
theorem v24 : dxf T24 sh24 [(.cell 2 true 3)] c24 = P24 := funext fun x => (g24 x).trans (show q24 (l24_0 T24) x = q24 L24_0 x from by rw [v24_0])
theorem d24 : DC Try.prog 24 sh24 P24 := DC_eq v24 (dxf_sound (sh := sh24) t24 ok24 (by kernel_rfl))
noncomputable def T19 (F24 : Y212) : List FEnt := [⟨24, sh24, F24⟩]
theorem t19 : DTblOK Try.prog (T19 P24) := (DTbl_cons' (f := 24) (sh := sh24) (F := P24) d24 (by kernel_rfl) DTbl_nil)
def b19_0 : DCode := (.seq (.seq (.reg [o 10 (.mov (.t 6)),
  o 11 (.fld (.t 2) 2),
  o 12 (.ld1 (.t 11) false),
  o 13 (.len (.t 12)),
  o 14 (.bin true .lss (.t 10) (.t 13))]) (.cond (.t 14) .skip (.exit 0))) (.seq (.blk 1 (.drw [] [r 17 (.fld (.t 3) 0),
  r 18 (.ld1 (.t 17) false),
  r 19 (.fld (.t 2) 2),
  r 20 (.ld1 (.t 19) false),
  r 21 (.mov (.t 6)),
  r 22 (.idx (.t 20) (.t 21) 6),
  r 23 (.fld (.t 22) 0),
  r 24 (.ld1 (.t 23) false),
  r 25 (.bin true .add (.t 24) (.c (.int .i64 1))),
  r 26 (.mnx true (.t 18) (.t 25)),
  r 27 (.fld (.t 3) 0),
  (⟨none, .sto (.t 27) (.t 26) 1, none⟩, none)])) (.reg [o 15 (.mov (.t 6)),
  o 16 (.bin true .add (.t 15) (.c (.int .i64 1))),
  o 6 (.mov (.t 16))])))
def h19_0 : LSh := ⟨[2, 3, 4, 5, 6], ⟨[(.ptr 0 0), (.ptr 1 0), (.ptr 2 0), (.ptr 3 0), (.v y6)], [(0, (.boxT y69)), (1, (.boxT y48)), (2, (.box [(.v y6), .emp, .emp])), (3, (.box [(.v y6), (.slc 4), (.slc 5)])), (4, (.row 33 y66)), (5, (.row 45 y48))]⟩, [y6, y69, y48, y6, y6, y67, y60], 6, [0, 1, 2, 3, 4, 5]⟩
def x19_0 : List XSh := [⟨(.exit 0), [3, 4, 5], ⟨⟨[(.ptr 1 0), (.ptr 2 0), (.ptr 3 0)], [(0, (.boxT y69)), (1, (.boxT y48)), (2, (.box [(.v y6), .emp, .emp])), (3, (.box [(.v y6), (.slc 4), (.slc 5)])), (4, (.row 33 y66)), (5, (.row 45 y48))]⟩, [y69, y48, y6, y6, y67, y60], [0, 1, 2, 3, 4, 5], 6⟩⟩]
noncomputable def s19_0 (T : List FEnt) : Y226 := dstep (xs := x19_0) h19_0 (dxc T b19_0)
noncomputable def l19_0 (T : List FEnt) : Y220 := whileF (s19_0 T)
noncomputable def q19_0 (F24 : Y212) (a0 : Int) (a1 : Y20) (a2 : Y3) (a3 : Int) (a4 : Int) (a5 : List Y9) (a6 : List Y3) : Option Y223 :=
cond (decide (a0 < (↑(List.length a1.2.2) : Int))) (
chk (inR a0 (List.length a1.2.2)) (
chk (fits .i64 ((ix a1.2.2 a0).1 + (1 : Int))) (
chk (fits .i64 (a0 + (1 : Int))) (
some (Sum.inl ((a0 + (1 : Int)), a1, ((max a2.1 ((ix a1.2.2 a0).1 + (1 : Int))), a2.2), a3, a4, a5, a6)))))) (
some (Sum.inr (a1, a2, a3, a4, a5, a6)))
theorem g19_0 (F24 : Y212) (a0 : Int) (a1 : Y20) (a2 : Y3) (a3 : Int) (a4 : Int) (a5 : List Y9) (a6 : List Y3) : s19_0 (T19 F24) (a0, a1, a2, a3, a4, a5, a6) = q19_0 F24 a0 a1 a2 a3 a4 a5 a6 := by kernel_rfl
noncomputable def p19_0 (a0 : Int) (a1 : Y20) (a2 : Y3) (a3 : Int) (a4 : Int) (a5 : List Y9) (a6 : List Y3) : Option Y223 := q19_0 P24 a0 a1 a2 a3 a4 a5 a6
noncomputable def L19_0 : Y220 := whileF (fun x => p19_0 x.1 x.2.1 x.2.2.1 x.2.2.2.1 x.2.2.2.2.1 x.2.2.2.2.2.1 x.2.2.2.2.2.2)
theorem v19_0 : l19_0 (T19 P24) = L19_0 := congrArg whileF (funext fun x => (g19_0 P24 x.1 x.2.1 x.2.2.1 x.2.2.2.1 x.2.2.2.2.1 x.2.2.2.2.2.1 x.2.2.2.2.2.2).trans (show q19_0 P24 x.1 x.2.1 x.2.2.1 x.2.2.2.1 x.2.2.2.2.1 x.2.2.2.2.2.1 x.2.2.2.2.2.2 = q19_0 P24 x.1 x.2.1 x.2.2.1 x.2.2.2.1 x.2.2.2.2.1 x.2.2.2.2.2.1 x.2.2.2.2.2.2 from rfl))
def c19 : DCode := (.seq (.reg [o 2 (.box (.t 0)),
  o 3 (.box (.t 1)),
  o 4 (.alc [(.int .i64 0), .emp, .emp])]) (.seq (.reg [o 7 (.ldn (.t 2) 3 false),
  o 8 (.xcall 24 [(.t 7)]),
  o 5 (.alc [(.int .i64 0), .emp, .emp]),
  .op ⟨none, .sto (.t 5) (.t 8) 3, none⟩ none]) (.seq (.reg [o 9 (.fld (.t 3) 0),
  .op ⟨none, .sto (.t 9) (.c (.int .i64 0)) 1, none⟩ none]) (.seq (.seq (.reg [o 6 (.mov (.c (.int .i64 0)))]) (.blk 0 (.loop h19_0 x19_0 b19_0))) (.seq (.reg [o 28 (.fld (.t 5) 2),
  o 29 (.ld1 (.t 28) false),
  o 30 (.ldn (.t 3) 6 false),
  .op ⟨some 31, .bsr 45 6 [(.t 30)], none⟩ (some (true, y48)),
  .op ⟨some 32, .app 45 6 48 (.t 29) (.t 31), none⟩ (some (true, y48)),
  o 33 (.fld (.t 5) 2),
  .op ⟨none, .sto (.t 33) (.t 32) 1, none⟩ none]) (.seq (.reg [o 34 (.ldn (.t 5) 3 false),
  .op ⟨none, .sto (.t 4) (.t 34) 3, none⟩ none]) .ret))))))
theorem ok19 : L.Fn Try.prog 19 35 [(.cell 4 true 3)] (erase c19) := L.Fn.of hmix Try.func19 [] (by kernel_rfl)
def sh19 : FSh := ⟨⟨[(.st y69), (.st y48)], []⟩, [y69, y48], 0, ⟨⟨[(.agg [(.v y6), (.slc 0), (.slc 1)])], [(0, (.row 33 y66)), (1, (.row 45 y48))]⟩, [y6, y67, y60], [], 2⟩, false⟩
noncomputable def q19 (F24 : Y212) (l19_0 : Y220) (a0 : Y20) (a1 : Y3) : Option Y20 :=
(F24 a0).bind fun (r1 : Y20) => (
(l19_0 ((0 : Int), a0, ((0 : Int), a1.2), (0 : Int), r1.1, r1.2.1, r1.2.2)).bind fun (y2 : Y213) => (
chk (capOk 48 (List.length y2.2.2.2.2.2 + List.length ([y2.2.1] : List Y3))) (
some (y2.2.2.2.1, y2.2.2.2.2.1, (y2.2.2.2.2.2 ++ ([y2.2.1] : List Y3))))))
theorem g19 (F24 : Y212) (a0 : Y20) (a1 : Y3) : dxf (T19 F24) sh19 [(.cell 4 true 3)] c19 (a0, a1) = q19 F24 (l19_0 (T19 F24)) a0 a1 := by kernel_rfl
noncomputable def p19 (a0 : Y20) (a1 : Y3) : Option Y20 := q19 P24 L19_0 a0 a1
noncomputable def P19 : Y214 := fun x => p19 x.1 x.2
theorem v19 : dxf (T19 P24) sh19 [(.cell 4 true 3)] c19 = P19 := funext fun x => (g19 P24 x.1 x.2).trans (show q19 P24 (l19_0 (T19 P24)) x.1 x.2 = q19 P24 L19_0 x.1 x.2 from by rw [v19_0])
theorem d19 : DC Try.prog 19 sh19 P19 := DC_eq v19 (dxf_sound (sh := sh19) t19 ok19 (by kernel_rfl))
noncomputable def T4 (F14 : Y37) (F15 : Y194) (F19 : Y214) (F20 : Y25) (F17 : Y175) : List FEnt := [⟨14, sh14, F14⟩, ⟨15, sh15, F15⟩, ⟨19, sh19, F19⟩, ⟨20, sh20, F20⟩, ⟨17, sh17, F17⟩]
theorem t4 : DTblOK Try.prog (T4 P14 P15 P19 P20 P17) := (DTbl_cons' (f := 14) (sh := sh14) (F := P14) d14 (by kernel_rfl) (DTbl_cons' (f := 15) (sh := sh15) (F := P15) d15 (by kernel_rfl) (DTbl_cons' (f := 19) (sh := sh19) (F := P19) d19 (by kernel_rfl) (DTbl_cons' (f := 20) (sh := sh20) (F := P20) d20 (by kernel_rfl) (DTbl_cons' (f := 17) (sh := sh17) (F := P17) d17 (by kernel_rfl) DTbl_nil)))))
def b4_0 : DCode := (.seq (.seq (.reg [o 61 (.mov (.t 13)),
  o 62 (.fld (.t 2) 2),
  o 63 (.ld1 (.t 62) false),
  o 64 (.len (.t 63)),
  o 65 (.bin true .lss (.t 61) (.t 64))]) (.cond (.t 65) .skip (.exit 0))) (.seq (.blk 1 (.seq (.reg [o 68 (.fld (.t 2) 2),
  o 69 (.ld1 (.t 68) false),
  o 70 (.mov (.t 13)),
  o 71 (.idx (.t 69) (.t 70) 6),
  o 72 (.ldn (.t 71) 6 false),
  o 14 (.alc [(.int .i64 0), (.int .i64 0), (.int .i64 0), (.int .i64 0), (.int .i64 0), (.int .i64 0)]),
  .op ⟨none, .sto (.t 14) (.t 72) 6, none⟩ none]) (.seq (.seq (.reg [o 73 (.fld (.t 14) 2),
  o 74 (.ld1 (.t 73) false),
  o 75 (.fld (.t 3) 2),
  o 76 (.ld1 (.t 75) false),
  o 77 (.bin true .neq (.t 74) (.t 76)),
  o 78 (.mov (.t 77)),
  og 79 78 false (.fld (.t 14) 3),
  og 80 78 false (.ld1 (.t 79) false),
  og 81 78 false (.fld (.t 3) 3),
  og 82 78 false (.ld1 (.t 81) false),
  og 83 78 false (.bin true .neq (.t 80) (.t 82)),
  o 84 (.pick (.t 78) (.c (.bool true)) (.t 83))]) (.cond (.t 84) (.exit 1) .skip)) (.seq (.reg [o 85 (.mov (.t 10)),
  o 86 (.mov (.t 85)),
  og 87 86 false (.fld (.t 14) 1),
  og 88 86 false (.ld1 (.t 87) false),
  og 89 86 false (.bin true .eql (.t 88) (.c (.int .i64 2))),
  o 90 (.pick (.t 86) (.c (.bool true)) (.t 89)),
  o 10 (.mov (.t 90))]) (.seq (.reg [o 91 (.fld (.t 14) 1),
  o 92 (.ld1 (.t 91) false),
  o 93 (.bin true .eql (.t 92) (.c (.int .i64 1))),
  o 94 (.mov (.t 93)),
  og 95 94 true (.fld (.t 14) 4),
  og 96 94 true (.ld1 (.t 95) false),
  og 97 94 true (.fld (.t 3) 4),
  og 98 94 true (.ld1 (.t 97) false),
  og 99 94 true (.bin true .eql (.t 96) (.t 98)),
  o 100 (.pick (.t 94) (.t 99) (.c (.bool false))),
  o 101 (.mov (.t 100)),
  og 102 101 true (.fld (.t 14) 0),
  og 103 101 true (.ld1 (.t 102) false),
  og 104 101 true (.mov (.t 12)),
  og 105 101 true (.bin true .gtr (.t 103) (.t 104)),
  o 106 (.pick (.t 101) (.t 105) (.c (.bool false)))]) (.cond (.t 106) (.drw [] [r 107 (.fld (.t 14) 5),
  r 108 (.ld1 (.t 107) false),
  r 109 (.fld (.t 14) 0),
  r 110 (.ld1 (.t 109) false),
  r 11 (.mov (.t 108)),
  r 12 (.mov (.t 110))]) .skip)))))) (.reg [o 66 (.mov (.t 13)),
  o 67 (.bin true .add (.t 66) (.c (.int .i64 1))),
  o 13 (.mov (.t 67))])))
def h4_0 : LSh := ⟨[2, 3, 6, 8, 10, 11, 12, 13], ⟨[(.ptr 0 0), (.ptr 1 0), (.ptr 2 0), (.ptr 3 0), (.v .bool), (.v y6), (.v y6), (.v y6)], [(0, (.boxT y69)), (1, (.boxT y48)), (2, (.boxT y48)), (3, (.boxT y48))]⟩, [.bool, y6, y6, y6, y69, y48, y48, y48], 4, [0, 1, 2, 3]⟩
def x4_0 : List XSh := [⟨(.exit 0), [3, 6, 8, 10, 11], ⟨⟨[(.ptr 1 0), (.ptr 2 0), (.ptr 3 0), (.v .bool), (.v y6)], [(0, (.boxT y69)), (1, (.boxT y48)), (2, (.boxT y48)), (3, (.boxT y48))]⟩, [.bool, y6, y69, y48, y48, y48], [0, 1, 2, 3], 4⟩⟩]
noncomputable def s4_0 (T : List FEnt) : Y227 := dstep (xs := x4_0) h4_0 (dxc T b4_0)
noncomputable def l4_0 (T : List FEnt) : Y221 := whileF (s4_0 T)
noncomputable def q4_0 (F14 : Y37) (F15 : Y194) (F19 : Y214) (F20 : Y25) (F17 : Y175) (a0 : Bool) (a1 : Int) (a2 : Int) (a3 : Int) (a4 : Y20) (a5 : Y3) (a6 : Y3) (a7 : Y3) : Option Y224 :=
cond (decide (a3 < (↑(List.length a4.2.2) : Int))) (
chk (inR a3 (List.length a4.2.2)) (
cond (!decide ((ix a4.2.2 a3).2.2.1 = a5.2.2.1)) (
chk (fits .i64 (a3 + (1 : Int))) (
some (Sum.inl (a0, a1, a2, (a3 + (1 : Int)), a4, a5, a6, a7)))) (
cond (!decide ((ix a4.2.2 a3).2.2.2.1 = a5.2.2.2.1)) (
chk (fits .i64 (a3 + (1 : Int))) (
some (Sum.inl (a0, a1, a2, (a3 + (1 : Int)), a4, a5, a6, a7)))) (
cond a0 (
cond (decide ((ix a4.2.2 a3).2.1 = (1 : Int))) (
cond (decide ((ix a4.2.2 a3).2.2.2.2.1 = a5.2.2.2.2.1)) (
cond (decide (a2 < (ix a4.2.2 a3).1)) (
chk (fits .i64 (a3 + (1 : Int))) (
some (Sum.inl (true, (ix a4.2.2 a3).2.2.2.2.2, (ix a4.2.2 a3).1, (a3 + (1 : Int)), a4, a5, a6, a7)))) (
chk (fits .i64 (a3 + (1 : Int))) (
some (Sum.inl (true, a1, a2, (a3 + (1 : Int)), a4, a5, a6, a7))))) (
chk (fits .i64 (a3 + (1 : Int))) (
some (Sum.inl (true, a1, a2, (a3 + (1 : Int)), a4, a5, a6, a7))))) (
chk (fits .i64 (a3 + (1 : Int))) (
some (Sum.inl (true, a1, a2, (a3 + (1 : Int)), a4, a5, a6, a7))))) (
cond (decide ((ix a4.2.2 a3).2.1 = (1 : Int))) (
cond (decide ((ix a4.2.2 a3).2.2.2.2.1 = a5.2.2.2.2.1)) (
cond (decide (a2 < (ix a4.2.2 a3).1)) (
chk (fits .i64 (a3 + (1 : Int))) (
some (Sum.inl (decide ((ix a4.2.2 a3).2.1 = (2 : Int)), (ix a4.2.2 a3).2.2.2.2.2, (ix a4.2.2 a3).1, (a3 + (1 : Int)), a4, a5, a6, a7)))) (
chk (fits .i64 (a3 + (1 : Int))) (
some (Sum.inl (decide ((ix a4.2.2 a3).2.1 = (2 : Int)), a1, a2, (a3 + (1 : Int)), a4, a5, a6, a7))))) (
chk (fits .i64 (a3 + (1 : Int))) (
some (Sum.inl (decide ((ix a4.2.2 a3).2.1 = (2 : Int)), a1, a2, (a3 + (1 : Int)), a4, a5, a6, a7))))) (
chk (fits .i64 (a3 + (1 : Int))) (
some (Sum.inl (decide ((ix a4.2.2 a3).2.1 = (2 : Int)), a1, a2, (a3 + (1 : Int)), a4, a5, a6, a7))))))))) (
some (Sum.inr (a0, a1, a4, a5, a6, a7)))
theorem g4_0 (F14 : Y37) (F15 : Y194) (F19 : Y214) (F20 : Y25) (F17 : Y175) (a0 : Bool) (a1 : Int) (a2 : Int) (a3 : Int) (a4 : Y20) (a5 : Y3) (a6 : Y3) (a7 : Y3) : s4_0 (T4 F14 F15 F19 F20 F17) (a0, a1, a2, a3, a4, a5, a6, a7) = q4_0 F14 F15 F19 F20 F17 a0 a1 a2 a3 a4 a5 a6 a7 := by kernel_rfl
noncomputable def p4_0 (a0 : Bool) (a1 : Int) (a2 : Int) (a3 : Int) (a4 : Y20) (a5 : Y3) (a6 : Y3) (a7 : Y3) : Option Y224 := q4_0 P14 P15 P19 P20 P17 a0 a1 a2 a3 a4 a5 a6 a7
noncomputable def L4_0 : Y221 := whileF (fun x => p4_0 x.1 x.2.1 x.2.2.1 x.2.2.2.1 x.2.2.2.2.1 x.2.2.2.2.2.1 x.2.2.2.2.2.2.1 x.2.2.2.2.2.2.2)
theorem v4_0 : l4_0 (T4 P14 P15 P19 P20 P17) = L4_0 := congrArg whileF (funext fun x => (g4_0 P14 P15 P19 P20 P17 x.1 x.2.1 x.2.2.1 x.2.2.2.1 x.2.2.2.2.1 x.2.2.2.2.2.1 x.2.2.2.2.2.2.1 x.2.2.2.2.2.2.2).trans (show q4_0 P14 P15 P19 P20 P17 x.1 x.2.1 x.2.2.1 x.2.2.2.1 x.2.2.2.2.1 x.2.2.2.2.2.1 x.2.2.2.2.2.2.1 x.2.2.2.2.2.2.2 = q4_0 P14 P15 P19 P20 P17 x.1 x.2.1 x.2.2.1 x.2.2.2.1 x.2.2.2.2.1 x.2.2.2.2.2.1 x.2.2.2.2.2.2.1 x.2.2.2.2.2.2.2 from rfl))
def c4 : DCode := (.seq (.reg [o 2 (.box (.t 0)),
  o 3 (.box (.t 1)),
  o 4 (.mov (.c (.bool false)))]) (.seq (.seq (.reg [o 15 (.ldn (.t 2) 3 false),
  o 16 (.fld (.t 3) 2),
  o 17 (.ld1 (.t 16) false),
  o 18 (.fld (.t 3) 3),
  o 19 (.ld1 (.t 18) false),
  o 20 (.bld [(.int .i64 0), (.int .i64 0), (.int .i64 0)] [(0, (1, (.t 17))), (1, (1, (.t 19)))]),
  o 21 (.xcall 14 [(.t 15), (.t 20)]),
  o 22 (.unot (.t 21)),
  o 23 (.mov (.t 22)),
  og 24 23 false (.fld (.t 2) 2),
  og 25 23 false (.ld1 (.t 24) false),
  og 26 23 false (.len (.t 25)),
  og 27 23 false (.bin true .geq (.t 26) (.c (.int .i64 40))),
  o 28 (.pick (.t 23) (.c (.bool true)) (.t 27))]) (.cond (.t 28) (.seq (.reg [o 29 (.xcall 15 []),
  o 4 (.mov (.t 29))]) .ret) .skip)) (.seq (.reg [o 30 (.ldn (.t 2) 3 false),
  o 31 (.ldn (.t 3) 6 false),
  o 32 (.xcall 19 [(.t 30), (.t 31)]),
  o 5 (.alc [(.int .i64 0), .emp, .emp]),
  .op ⟨none, .sto (.t 5) (.t 32) 3, none⟩ none]) (.seq (.seq (.reg [o 33 (.ldn (.t 5) 3 false),
  o 34 (.xcall 20 [(.t 33)]),
  o 35 (.bin true .neq (.t 34) (.c (.int .i64 0)))]) (.cond (.t 35) (.seq (.reg [o 36 (.xcall 15 []),
  o 4 (.mov (.t 36))]) .ret) .skip)) (.seq (.reg [o 38 (.ldn (.t 2) 3 false),
  o 39 (.fld (.t 3) 2),
  o 40 (.ld1 (.t 39) false),
  o 41 (.fld (.t 3) 3),
  o 42 (.ld1 (.t 41) false),
  o 43 (.xcall 17 [(.t 38), (.t 40), (.t 42)]),
  o 37 (.mov (.t 43)),
  o 44 (.ext (.t 37) 0),
  o 45 (.ext (.t 37) 1),
  o 6 (.alc [(.int .i64 0), (.int .i64 0), (.int .i64 0), (.int .i64 0), (.int .i64 0), (.int .i64 0)]),
  .op ⟨none, .sto (.t 6) (.t 44) 6, none⟩ none,
  o 7 (.mov (.t 45))]) (.seq (.reg [o 47 (.ldn (.t 5) 3 false),
  o 48 (.fld (.t 3) 2),
  o 49 (.ld1 (.t 48) false),
  o 50 (.fld (.t 3) 3),
  o 51 (.ld1 (.t 50) false),
  o 52 (.xcall 17 [(.t 47), (.t 49), (.t 51)]),
  o 46 (.mov (.t 52)),
  o 53 (.ext (.t 46) 0),
  o 54 (.ext (.t 46) 1),
  o 8 (.alc [(.int .i64 0), (.int .i64 0), (.int .i64 0), (.int .i64 0), (.int .i64 0), (.int .i64 0)]),
  .op ⟨none, .sto (.t 8) (.t 53) 6, none⟩ none,
  o 9 (.mov (.t 54))]) (.seq (.seq (.reg [o 55 (.mov (.t 7)),
  o 56 (.bin true .neq (.t 55) (.c (.int .i64 0))),
  o 57 (.mov (.t 56)),
  og 58 57 false (.mov (.t 9)),
  og 59 57 false (.bin true .neq (.t 58) (.c (.int .i64 0))),
  o 60 (.pick (.t 57) (.c (.bool true)) (.t 59))]) (.cond (.t 60) (.seq (.reg [o 4 (.mov (.c (.bool false)))]) .ret) .skip)) (.seq (.reg [o 10 (.mov (.c (.bool false))),
  o 11 (.mov (.c (.int .i64 0))),
  o 12 (.mov (.c (.int .i64 (-1))))]) (.seq (.seq (.reg [o 13 (.mov (.c (.int .i64 0)))]) (.blk 0 (.loop h4_0 x4_0 b4_0))) (.seq (.blk 2 (.seq (.reg [o 112 (.fld (.t 3) 1),
  o 113 (.ld1 (.t 112) false),
  o 114 (.bin true .eql (.t 113) (.c (.int .i64 2))),
  o 111 (.mov (.t 114))]) (.cond (.t 111) (.seq (.reg [o 115 (.fld (.t 8) 0),
  o 116 (.ld1 (.t 115) false),
  o 117 (.fld (.t 3) 5),
  o 118 (.ld1 (.t 117) false),
  o 119 (.bin true .eql (.t 116) (.t 118)),
  o 120 (.mov (.t 119)),
  og 121 120 true (.xcall 15 []),
  o 122 (.pick (.t 120) (.t 121) (.c (.bool false))),
  o 4 (.mov (.t 122))]) .ret) (.seq (.reg [o 124 (.mov (.t 10)),
  o 123 (.mov (.t 124))]) (.cond (.t 123) (.seq (.reg [o 125 (.ldn (.t 8) 6 false),
  o 126 (.ldn (.t 6) 6 false),
  o 127 (.eqs false 6 (.t 125) (.t 126)),
  o 128 (.mov (.t 127)),
  og 129 128 true (.xcall 15 []),
  o 130 (.pick (.t 128) (.t 129) (.c (.bool false))),
  o 4 (.mov (.t 130))]) .ret) .skip))))) (.seq (.reg [o 131 (.fld (.t 8) 0),
  o 132 (.ld1 (.t 131) false),
  o 133 (.fld (.t 6) 0),
  o 134 (.ld1 (.t 133) false),
  o 135 (.mov (.t 11)),
  o 136 (.bin true .sub (.t 134) (.t 135)),
  o 137 (.fld (.t 3) 5),
  o 138 (.ld1 (.t 137) false),
  o 139 (.bin true .add (.t 136) (.t 138)),
  o 140 (.bin true .eql (.t 132) (.t 139)),
  o 141 (.mov (.t 140)),
  og 142 141 true (.fld (.t 3) 5),
  og 143 141 true (.ld1 (.t 142) false),
  og 144 141 true (.mov (.t 11)),
  og 145 141 true (.bin true .lss (.t 143) (.t 144)),
  og 146 141 true (.mov (.t 145)),
  og 147 146 false (.fld (.t 8) 3),
  og 148 146 false (.ld1 (.t 147) false),
  og 149 146 false (.fld (.t 6) 3),
  og 150 146 false (.ld1 (.t 149) false),
  og 151 146 false (.bin true .geq (.t 148) (.t 150)),
  og 152 141 true (.pick (.t 146) (.c (.bool true)) (.t 151)),
  o 153 (.pick (.t 141) (.t 152) (.c (.bool false))),
  o 154 (.mov (.t 153)),
  og 155 154 true (.xcall 15 []),
  o 156 (.pick (.t 154) (.t 155) (.c (.bool false))),
  o 4 (.mov (.t 156))]) .ret)))))))))))
theorem ok4 : L.Fn Try.prog 4 157 [(.t 4)] (erase c4) := L.Fn.of hmix Try.func4 [] (by kernel_rfl)
def sh4 : FSh := ⟨⟨[(.st y69), (.st y48)], []⟩, [y69, y48], 0, ⟨⟨[(.v .bool)], []⟩, [.bool], [], 0⟩, true⟩
noncomputable def q4 (F14 : Y37) (F15 : Y194) (F19 : Y214) (F20 : Y25) (F17 : Y175) (l4_0 : Y221) (a0 : Y20) (a1 : Y3) : Option Bool :=
(F14 (a0, (a1.2.2.1, (a1.2.2.2.1, (0 : Int))))).bind fun (r1 : Bool) => (
cond (!r1) (
(F15 ()).bind fun (r2 : Bool) => (
some r2)) (
cond (decide ((40 : Int) ≤ (↑(List.length a0.2.2) : Int))) (
(F15 ()).bind fun (r3 : Bool) => (
some r3)) (
(F19 (a0, a1)).bind fun (r4 : Y20) => (
(F20 r4).bind fun (r5 : Int) => (
cond (!decide (r5 = (0 : Int))) (
(F15 ()).bind fun (r6 : Bool) => (
some r6)) (
(F17 (a0, a1.2.2.1, a1.2.2.2.1)).bind fun (r7 : Y3 × Int) => (
(F17 (r4, a1.2.2.1, a1.2.2.2.1)).bind fun (r8 : Y3 × Int) => (
cond (!decide (r7.2 = (0 : Int))) (
some false) (
cond (!decide (r8.2 = (0 : Int))) (
some false) (
(l4_0 (false, (0 : Int), (-1 : Int), (0 : Int), a0, a1, r7.1, r8.1)).bind fun (y9 : Y215) => (
cond (decide (y9.2.2.2.1.2.1 = (2 : Int))) (
cond (decide (y9.2.2.2.2.2.1 = y9.2.2.2.1.2.2.2.2.2)) (
(F15 ()).bind fun (r10 : Bool) => (
some r10)) (
some false)) (
cond y9.1 (
cond (((((decide (y9.2.2.2.2.2.1 = y9.2.2.2.2.1.1) && decide (y9.2.2.2.2.2.2.1 = y9.2.2.2.2.1.2.1)) && decide (y9.2.2.2.2.2.2.2.1 = y9.2.2.2.2.1.2.2.1)) && decide (y9.2.2.2.2.2.2.2.2.1 = y9.2.2.2.2.1.2.2.2.1)) && decide (y9.2.2.2.2.2.2.2.2.2.1 = y9.2.2.2.2.1.2.2.2.2.1)) && decide (y9.2.2.2.2.2.2.2.2.2.2 = y9.2.2.2.2.1.2.2.2.2.2)) (
(F15 ()).bind fun (r11 : Bool) => (
some r11)) (
some false)) (
chk (fits .i64 (y9.2.2.2.2.1.1 - y9.2.1)) (
chk (fits .i64 ((y9.2.2.2.2.1.1 - y9.2.1) + y9.2.2.2.1.2.2.2.2.2)) (
cond (decide (y9.2.2.2.2.2.1 = ((y9.2.2.2.2.1.1 - y9.2.1) + y9.2.2.2.1.2.2.2.2.2))) (
cond (decide (y9.2.2.2.1.2.2.2.2.2 < y9.2.1)) (
(F15 ()).bind fun (r12 : Bool) => (
some r12)) (
cond (decide (y9.2.2.2.2.1.2.2.2.1 ≤ y9.2.2.2.2.2.2.2.2.1)) (
(F15 ()).bind fun (r13 : Bool) => (
some r13)) (
some false))) (
some false))))))))))))))))
theorem g4 (F14 : Y37) (F15 : Y194) (F19 : Y214) (F20 : Y25) (F17 : Y175) (a0 : Y20) (a1 : Y3) : dxf (T4 F14 F15 F19 F20 F17) sh4 [(.t 4)] c4 (a0, a1) = q4 F14 F15 F19 F20 F17 (l4_0 (T4 F14 F15 F19 F20 F17)) a0 a1 := by kernel_rfl
noncomputable def p4 (a0 : Y20) (a1 : Y3) : Option Bool := q4 P14 P15 P19 P20 P17 L4_0 a0 a1
noncomputable def P4 : Y136 := fun x => p4 x.1 x.2
theorem v4 : dxf (T4 P14 P15 P19 P20 P17) sh4 [(.t 4)] c4 = P4 := funext fun x => (g4 P14 P15 P19 P20 P17 x.1 x.2).trans (show q4 P14 P15 P19 P20 P17 (l4_0 (T4 P14 P15 P19 P20 P17)) x.1 x.2 = q4 P14 P15 P19 P20 P17 L4_0 x.1 x.2 from by rw [v4_0])
theorem d4 : DC Try.prog 4 sh4 P4 := DC_eq v4 (dxf_sound (sh := sh4) t4 ok4 (by kernel_rfl))
end Go.Proofs.Ytfknkinmnecoeaa.D
