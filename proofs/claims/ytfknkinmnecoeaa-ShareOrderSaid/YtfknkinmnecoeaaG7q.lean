/- Cut down from a longer text. -/
import Derived.Test.YtfknkinmnecoeaaG6q
import Derived.Test.YtfknkinmnecoeaaProg
set_option linter.unusedVariables false
set_option maxRecDepth 100000
namespace Go.Proofs.Ytfknkinmnecoeaa.D
open Go Go.Proofs Go.Proofs.Ytfknkinmnecoeaa.L
noncomputable def T54 : List FEnt := []
theorem t54 : DTblOK Try.prog T54 := DTbl_nil
def b54_0 : DCode := (.seq (.seq (.reg [o 11 (.mov (.t 5)),
  o 12 (.mov (.t 0)),
  o 13 (.len (.t 12)),
  o 14 (.bin true .lss (.t 11) (.t 13))]) (.cond (.t 14) .skip (.exit 0))) (.seq (.blk 1 (.seq (.drw [] [r 17 (.mov (.t 0)),
  r 18 (.mov (.t 5)),
  r 19 (.idx (.t 17) (.t 18) 6),
  r 20 (.ldn (.t 19) 6 false),
  r 21 (.mov (.t 1)),
  r 22 (.mov (.t 5)),
  r 23 (.idx (.t 21) (.t 22) 6),
  r 24 (.ldn (.t 23) 6 false),
  r 25 (.eqs true 6 (.t 20) (.t 24))]) (.cond (.t 25) (.seq (.reg [o 4 (.mov (.c (.bool false)))]) .ret) .skip))) (.reg [o 15 (.mov (.t 5)),
  o 16 (.bin true .add (.t 15) (.c (.int .i64 1))),
  o 5 (.mov (.t 16))])))
def h54_0 : LSh := ⟨[0, 1, 5], ⟨[(.v y60), (.v y60), (.v y6)], []⟩, [y60, y60, y6], 0, []⟩
def x54_0 : List XSh := [⟨.ret, [4], ⟨⟨[(.v .bool)], []⟩, [.bool], [], 0⟩⟩, ⟨(.exit 0), [], ⟨⟨[], []⟩, [], [], 0⟩⟩]
noncomputable def s54_0 (T : List FEnt) : Y283 := dstep (xs := x54_0) h54_0 (dxc T b54_0)
noncomputable def l54_0 (T : List FEnt) : Y267 := whileF (s54_0 T)
noncomputable def q54_0 (a0 : List Y3) (a1 : List Y3) (a2 : Int) : Option Y278 :=
cond (decide (a2 < (↑(List.length a0) : Int))) (
chk (inR a2 (List.length a0)) (
chk (inR a2 (List.length a1)) (
cond (!(((((decide ((ix a0 a2).1 = (ix a1 a2).1) && decide ((ix a0 a2).2.1 = (ix a1 a2).2.1)) && decide ((ix a0 a2).2.2.1 = (ix a1 a2).2.2.1)) && decide ((ix a0 a2).2.2.2.1 = (ix a1 a2).2.2.2.1)) && decide ((ix a0 a2).2.2.2.2.1 = (ix a1 a2).2.2.2.2.1)) && decide ((ix a0 a2).2.2.2.2.2 = (ix a1 a2).2.2.2.2.2))) (
some (Sum.inr (Sum.inl false))) (
chk (fits .i64 (a2 + (1 : Int))) (
some (Sum.inl (a0, a1, (a2 + (1 : Int))))))))) (
some (Sum.inr (Sum.inr ())))
theorem g54_0 (a0 : List Y3) (a1 : List Y3) (a2 : Int) : s54_0 T54 (a0, a1, a2) = q54_0 a0 a1 a2 := by kernel_rfl
noncomputable def p54_0 (a0 : List Y3) (a1 : List Y3) (a2 : Int) : Option Y278 := q54_0 a0 a1 a2
noncomputable def L54_0 : Y267 := whileF (fun x => p54_0 x.1 x.2.1 x.2.2)
theorem v54_0 : l54_0 T54 = L54_0 := congrArg whileF (funext fun x => (g54_0 x.1 x.2.1 x.2.2).trans (show q54_0 x.1 x.2.1 x.2.2 = q54_0 x.1 x.2.1 x.2.2 from rfl))
def c54 : DCode := (.seq (.reg [o 4 (.mov (.c (.bool false)))]) (.seq (.seq (.reg [o 6 (.mov (.t 0)),
  o 7 (.len (.t 6)),
  o 8 (.mov (.t 1)),
  o 9 (.len (.t 8)),
  o 10 (.bin true .neq (.t 7) (.t 9))]) (.cond (.t 10) (.seq (.reg [o 4 (.mov (.c (.bool false)))]) .ret) .skip)) (.seq (.seq (.reg [o 5 (.mov (.c (.int .i64 0)))]) (.blk 0 (.loop h54_0 x54_0 b54_0))) (.seq (.reg [o 4 (.mov (.c (.bool true)))]) .ret))))
theorem ok54 : L.Fn Try.prog 54 26 [(.t 4)] (erase c54) := L.Fn.of hmix Try.func54 [] (by kernel_rfl)
def sh54 : FSh := ⟨⟨[(.v y60), (.v y60)], []⟩, [y60, y60], 0, ⟨⟨[(.v .bool)], []⟩, [.bool], [], 0⟩, true⟩
noncomputable def q54 (l54_0 : Y267) (a0 : List Y3) (a1 : List Y3) : Option Bool :=
cond (!decide ((↑(List.length a0) : Int) = (↑(List.length a1) : Int))) (
some false) (
(l54_0 (a0, a1, (0 : Int))).bind (fun (y1 : Bool ⊕ Unit) => Sum.elim (fun (y2 : Bool) => (
some y2)) (fun (y3 : Unit) => (
some true)) y1))
theorem g54 (a0 : List Y3) (a1 : List Y3) : dxf T54 sh54 [(.t 4)] c54 (a0, a1) = q54 (l54_0 T54) a0 a1 := by kernel_rfl
noncomputable def p54 (a0 : List Y3) (a1 : List Y3) : Option Bool := q54 L54_0 a0 a1
noncomputable def P54 : Y268 := fun x => p54 x.1 x.2
theorem v54 : dxf T54 sh54 [(.t 4)] c54 = P54 := funext fun x => (g54 x.1 x.2).trans (show q54 (l54_0 T54) x.1 x.2 = q54 L54_0 x.1 x.2 from by rw [v54_0])
theorem d54 : DC Try.prog 54 sh54 P54 := DC_eq v54 (dxf_sound (sh := sh54) t54 ok54 (by kernel_rfl))
noncomputable def T55 : List FEnt := []
theorem t55 : DTblOK Try.prog T55 := DTbl_nil
def b55_0 : DCode := (.seq (.seq (.reg [o 72 (.mov (.t 5)),
  o 73 (.fld (.t 2) 3),
  o 74 (.ld1 (.t 73) false),
  o 75 (.len (.t 74)),
  o 76 (.bin true .lss (.t 72) (.t 75))]) (.cond (.t 76) .skip (.exit 0))) (.seq (.blk 1 (.seq (.drw [] [r 79 (.fld (.t 2) 3),
  r 80 (.ld1 (.t 79) false),
  r 81 (.mov (.t 5)),
  r 82 (.idx (.t 80) (.t 81) 1),
  r 83 (.ld1 (.t 82) false),
  r 84 (.fld (.t 3) 3),
  r 85 (.ld1 (.t 84) false),
  r 86 (.mov (.t 5)),
  r 87 (.idx (.t 85) (.t 86) 1),
  r 88 (.ld1 (.t 87) false),
  r 89 (.bin true .neq (.t 83) (.t 88))]) (.cond (.t 89) (.seq (.reg [o 4 (.mov (.c (.bool false)))]) .ret) .skip))) (.reg [o 77 (.mov (.t 5)),
  o 78 (.bin true .add (.t 77) (.c (.int .i64 1))),
  o 5 (.mov (.t 78))])))
def h55_0 : LSh := ⟨[2, 3, 5], ⟨[(.ptr 0 0), (.ptr 1 0), (.v y6)], [(0, (.boxT y66)), (1, (.boxT y66))]⟩, [y6, y66, y66], 2, [0, 1]⟩
def x55_0 : List XSh := [⟨.ret, [4], ⟨⟨[(.v .bool)], [(0, (.boxT y66)), (1, (.boxT y66))]⟩, [.bool, y66, y66], [0, 1], 2⟩⟩, ⟨(.exit 0), [2, 3], ⟨⟨[(.ptr 0 0), (.ptr 1 0)], [(0, (.boxT y66)), (1, (.boxT y66))]⟩, [y66, y66], [0, 1], 2⟩⟩]
noncomputable def s55_0 (T : List FEnt) : Y298 := dstep (xs := x55_0) h55_0 (dxc T b55_0)
noncomputable def l55_0 (T : List FEnt) : Y289 := whileF (s55_0 T)
noncomputable def q55_0 (a0 : Int) (a1 : Y9) (a2 : Y9) : Option Y295 :=
cond (decide (a0 < (↑(List.length a1.2.2.2.1) : Int))) (
chk (inR a0 (List.length a1.2.2.2.1)) (
chk (inR a0 (List.length a2.2.2.2.1)) (
cond (!decide ((ix a1.2.2.2.1 a0) = (ix a2.2.2.2.1 a0))) (
some (Sum.inr (Sum.inl (false, a1, a2)))) (
chk (fits .i64 (a0 + (1 : Int))) (
some (Sum.inl ((a0 + (1 : Int)), a1, a2))))))) (
some (Sum.inr (Sum.inr (a1, a2))))
theorem g55_0 (a0 : Int) (a1 : Y9) (a2 : Y9) : s55_0 T55 (a0, a1, a2) = q55_0 a0 a1 a2 := by kernel_rfl
noncomputable def p55_0 (a0 : Int) (a1 : Y9) (a2 : Y9) : Option Y295 := q55_0 a0 a1 a2
noncomputable def L55_0 : Y289 := whileF (fun x => p55_0 x.1 x.2.1 x.2.2)
theorem v55_0 : l55_0 T55 = L55_0 := congrArg whileF (funext fun x => (g55_0 x.1 x.2.1 x.2.2).trans (show q55_0 x.1 x.2.1 x.2.2 = q55_0 x.1 x.2.1 x.2.2 from rfl))
def b55_1 : DCode := (.seq (.seq (.reg [o 90 (.mov (.t 6)),
  o 91 (.fld (.t 2) 4),
  o 92 (.ld1 (.t 91) false),
  o 93 (.len (.t 92)),
  o 94 (.bin true .lss (.t 90) (.t 93))]) (.cond (.t 94) .skip (.exit 2))) (.seq (.blk 3 (.seq (.drw [] [r 97 (.fld (.t 2) 4),
  r 98 (.ld1 (.t 97) false),
  r 99 (.mov (.t 6)),
  r 100 (.idx (.t 98) (.t 99) 2),
  r 101 (.ldn (.t 100) 2 false),
  r 102 (.fld (.t 3) 4),
  r 103 (.ld1 (.t 102) false),
  r 104 (.mov (.t 6)),
  r 105 (.idx (.t 103) (.t 104) 2),
  r 106 (.ldn (.t 105) 2 false),
  r 107 (.eqs true 2 (.t 101) (.t 106))]) (.cond (.t 107) (.seq (.reg [o 4 (.mov (.c (.bool false)))]) .ret) .skip))) (.reg [o 95 (.mov (.t 6)),
  o 96 (.bin true .add (.t 95) (.c (.int .i64 1))),
  o 6 (.mov (.t 96))])))
def h55_1 : LSh := ⟨[2, 3, 6], ⟨[(.ptr 0 0), (.ptr 1 0), (.v y6)], [(0, (.boxT y66)), (1, (.boxT y66))]⟩, [y6, y66, y66], 2, [0, 1]⟩
def x55_1 : List XSh := [⟨.ret, [4], ⟨⟨[(.v .bool)], [(0, (.boxT y66)), (1, (.boxT y66))]⟩, [.bool, y66, y66], [0, 1], 2⟩⟩, ⟨(.exit 2), [], ⟨⟨[], [(0, (.boxT y66)), (1, (.boxT y66))]⟩, [y66, y66], [0, 1], 2⟩⟩]
noncomputable def s55_1 (T : List FEnt) : Y298 := dstep (xs := x55_1) h55_1 (dxc T b55_1)
noncomputable def l55_1 (T : List FEnt) : Y289 := whileF (s55_1 T)
noncomputable def q55_1 (a0 : Int) (a1 : Y9) (a2 : Y9) : Option Y295 :=
cond (decide (a0 < (↑(List.length a1.2.2.2.2.1) : Int))) (
chk (inR a0 (List.length a1.2.2.2.2.1)) (
chk (inR a0 (List.length a2.2.2.2.2.1)) (
cond (!(decide ((ix a1.2.2.2.2.1 a0).1 = (ix a2.2.2.2.2.1 a0).1) && decide ((ix a1.2.2.2.2.1 a0).2 = (ix a2.2.2.2.2.1 a0).2))) (
some (Sum.inr (Sum.inl (false, a1, a2)))) (
chk (fits .i64 (a0 + (1 : Int))) (
some (Sum.inl ((a0 + (1 : Int)), a1, a2))))))) (
some (Sum.inr (Sum.inr (a1, a2))))
theorem g55_1 (a0 : Int) (a1 : Y9) (a2 : Y9) : s55_1 T55 (a0, a1, a2) = q55_1 a0 a1 a2 := by kernel_rfl
noncomputable def p55_1 (a0 : Int) (a1 : Y9) (a2 : Y9) : Option Y295 := q55_1 a0 a1 a2
noncomputable def L55_1 : Y289 := whileF (fun x => p55_1 x.1 x.2.1 x.2.2)
theorem v55_1 : l55_1 T55 = L55_1 := congrArg whileF (funext fun x => (g55_1 x.1 x.2.1 x.2.2).trans (show q55_1 x.1 x.2.1 x.2.2 = q55_1 x.1 x.2.1 x.2.2 from rfl))
def c55 : DCode := (.seq (.reg [o 2 (.box (.t 0)),
  o 3 (.box (.t 1)),
  o 4 (.mov (.c (.bool false)))]) (.seq (.seq (.reg [o 7 (.fld (.t 2) 0),
  o 8 (.ld1 (.t 7) false),
  o 9 (.fld (.t 3) 0),
  o 10 (.ld1 (.t 9) false),
  o 11 (.bin true .neq (.t 8) (.t 10)),
  o 12 (.mov (.t 11)),
  og 13 12 false (.fld (.t 2) 1),
  og 14 12 false (.ld1 (.t 13) false),
  og 15 12 false (.fld (.t 3) 1),
  og 16 12 false (.ld1 (.t 15) false),
  og 17 12 false (.bin true .neq (.t 14) (.t 16)),
  o 18 (.pick (.t 12) (.c (.bool true)) (.t 17)),
  o 19 (.mov (.t 18)),
  og 20 19 false (.fld (.t 2) 2),
  og 21 19 false (.ld1 (.t 20) false),
  og 22 19 false (.fld (.t 3) 2),
  og 23 19 false (.ld1 (.t 22) false),
  og 24 19 false (.bin true .neq (.t 21) (.t 23)),
  o 25 (.pick (.t 19) (.c (.bool true)) (.t 24)),
  o 26 (.mov (.t 25)),
  og 27 26 false (.fld (.t 2) 3),
  og 28 26 false (.ld1 (.t 27) false),
  og 29 26 false (.len (.t 28)),
  og 30 26 false (.fld (.t 3) 3),
  og 31 26 false (.ld1 (.t 30) false),
  og 32 26 false (.len (.t 31)),
  og 33 26 false (.bin true .neq (.t 29) (.t 32)),
  o 34 (.pick (.t 26) (.c (.bool true)) (.t 33)),
  o 35 (.mov (.t 34)),
  og 36 35 false (.fld (.t 2) 4),
  og 37 35 false (.ld1 (.t 36) false),
  og 38 35 false (.len (.t 37)),
  og 39 35 false (.fld (.t 3) 4),
  og 40 35 false (.ld1 (.t 39) false),
  og 41 35 false (.len (.t 40)),
  og 42 35 false (.bin true .neq (.t 38) (.t 41)),
  o 43 (.pick (.t 35) (.c (.bool true)) (.t 42)),
  o 44 (.mov (.t 43)),
  og 45 44 false (.fld (.t 2) 5),
  og 46 44 false (.ld1 (.t 45) false),
  og 47 44 false (.fld (.t 3) 5),
  og 48 44 false (.ld1 (.t 47) false),
  og 49 44 false (.bin true .neq (.t 46) (.t 48)),
  o 50 (.pick (.t 44) (.c (.bool true)) (.t 49)),
  o 51 (.mov (.t 50)),
  og 52 51 false (.fld (.t 2) 6),
  og 53 51 false (.ld1 (.t 52) false),
  og 54 51 false (.fld (.t 3) 6),
  og 55 51 false (.ld1 (.t 54) false),
  og 56 51 false (.bin true .neq (.t 53) (.t 55)),
  o 57 (.pick (.t 51) (.c (.bool true)) (.t 56)),
  o 58 (.mov (.t 57)),
  og 59 58 false (.fld (.t 2) 7),
  og 60 58 false (.ld1 (.t 59) false),
  og 61 58 false (.fld (.t 3) 7),
  og 62 58 false (.ld1 (.t 61) false),
  og 63 58 false (.bin true .neq (.t 60) (.t 62)),
  o 64 (.pick (.t 58) (.c (.bool true)) (.t 63)),
  o 65 (.mov (.t 64)),
  og 66 65 false (.fld (.t 2) 8),
  og 67 65 false (.ld1 (.t 66) false),
  og 68 65 false (.fld (.t 3) 8),
  og 69 65 false (.ld1 (.t 68) false),
  og 70 65 false (.bin true .neq (.t 67) (.t 69)),
  o 71 (.pick (.t 65) (.c (.bool true)) (.t 70))]) (.cond (.t 71) (.seq (.reg [o 4 (.mov (.c (.bool false)))]) .ret) .skip)) (.seq (.seq (.reg [o 5 (.mov (.c (.int .i64 0)))]) (.blk 0 (.loop h55_0 x55_0 b55_0))) (.seq (.seq (.reg [o 6 (.mov (.c (.int .i64 0)))]) (.blk 2 (.loop h55_1 x55_1 b55_1))) (.seq (.reg [o 4 (.mov (.c (.bool true)))]) .ret)))))
theorem ok55 : L.Fn Try.prog 55 108 [(.t 4)] (erase c55) := L.Fn.of hmix Try.func55 [] (by kernel_rfl)
def sh55 : FSh := ⟨⟨[(.st y66), (.st y66)], []⟩, [y66, y66], 0, ⟨⟨[(.v .bool)], []⟩, [.bool], [], 0⟩, true⟩
noncomputable def q55 (l55_0 : Y289) (l55_1 : Y289) (a0 : Y9) (a1 : Y9) : Option Bool :=
cond (!decide (a0.1 = a1.1)) (
some false) (
cond (!decide (a0.2.1 = a1.2.1)) (
some false) (
cond (!decide (a0.2.2.1 = a1.2.2.1)) (
some false) (
cond (!decide ((↑(List.length a0.2.2.2.1) : Int) = (↑(List.length a1.2.2.2.1) : Int))) (
some false) (
cond (!decide ((↑(List.length a0.2.2.2.2.1) : Int) = (↑(List.length a1.2.2.2.2.1) : Int))) (
some false) (
cond (!decide (a0.2.2.2.2.2.1 = a1.2.2.2.2.2.1)) (
some false) (
cond (!decide (a0.2.2.2.2.2.2.1 = a1.2.2.2.2.2.2.1)) (
some false) (
cond (!decide (a0.2.2.2.2.2.2.2.1 = a1.2.2.2.2.2.2.2.1)) (
some false) (
cond (!decide (a0.2.2.2.2.2.2.2.2 = a1.2.2.2.2.2.2.2.2)) (
some false) (
(l55_0 ((0 : Int), a0, a1)).bind (fun (y1 : Y274 ⊕ Y275) => Sum.elim (fun (y2 : Y274) => (
some y2.1)) (fun (y3 : Y275) => (
(l55_1 ((0 : Int), y3.1, y3.2)).bind (fun (y4 : Y274 ⊕ Y275) => Sum.elim (fun (y5 : Y274) => (
some y5.1)) (fun (y6 : Y275) => (
some true)) y4))) y1))))))))))
theorem g55 (a0 : Y9) (a1 : Y9) : dxf T55 sh55 [(.t 4)] c55 (a0, a1) = q55 (l55_0 T55) (l55_1 T55) a0 a1 := by kernel_rfl
noncomputable def p55 (a0 : Y9) (a1 : Y9) : Option Bool := q55 L55_0 L55_1 a0 a1
noncomputable def P55 : Y276 := fun x => p55 x.1 x.2
theorem v55 : dxf T55 sh55 [(.t 4)] c55 = P55 := funext fun x => (g55 x.1 x.2).trans (show q55 (l55_0 T55) (l55_1 T55) x.1 x.2 = q55 L55_0 L55_1 x.1 x.2 from by rw [v55_0, v55_1])
theorem d55 : DC Try.prog 55 sh55 P55 := DC_eq v55 (dxf_sound (sh := sh55) t55 ok55 (by kernel_rfl))
noncomputable def T31 (F54 : Y268) (F55 : Y276) : List FEnt := [⟨54, sh54, F54⟩, ⟨55, sh55, F55⟩]
theorem t31 : DTblOK Try.prog (T31 P54 P55) := (DTbl_cons' (f := 54) (sh := sh54) (F := P54) d54 (by kernel_rfl) (DTbl_cons' (f := 55) (sh := sh55) (F := P55) d55 (by kernel_rfl) DTbl_nil))
def b31_0 : DCode := (.seq (.seq (.reg [o 28 (.mov (.t 5)),
  o 29 (.fld (.t 2) 1),
  o 30 (.ld1 (.t 29) false),
  o 31 (.len (.t 30)),
  o 32 (.bin true .lss (.t 28) (.t 31))]) (.cond (.t 32) .skip (.exit 0))) (.seq (.blk 1 (.seq (.drw [] [r 35 (.fld (.t 2) 1),
  r 36 (.ld1 (.t 35) false),
  r 37 (.mov (.t 5)),
  r 38 (.idx (.t 36) (.t 37) 9),
  r 39 (.ldn (.t 38) 9 false),
  r 40 (.fld (.t 3) 1),
  r 41 (.ld1 (.t 40) false),
  r 42 (.mov (.t 5)),
  r 43 (.idx (.t 41) (.t 42) 9),
  r 44 (.ldn (.t 43) 9 false),
  r 45 (.xcall 55 [(.t 39), (.t 44)]),
  r 46 (.unot (.t 45))]) (.cond (.t 46) (.seq (.reg [o 4 (.mov (.c (.bool false)))]) .ret) .skip))) (.reg [o 33 (.mov (.t 5)),
  o 34 (.bin true .add (.t 33) (.c (.int .i64 1))),
  o 5 (.mov (.t 34))])))
def h31_0 : LSh := ⟨[2, 3, 5], ⟨[(.ptr 0 0), (.ptr 1 0), (.v y6)], [(0, (.boxT y69)), (1, (.boxT y69))]⟩, [y6, y69, y69], 2, [0, 1]⟩
def x31_0 : List XSh := [⟨.ret, [4], ⟨⟨[(.v .bool)], [(0, (.boxT y69)), (1, (.boxT y69))]⟩, [.bool, y69, y69], [0, 1], 2⟩⟩, ⟨(.exit 0), [], ⟨⟨[], [(0, (.boxT y69)), (1, (.boxT y69))]⟩, [y69, y69], [0, 1], 2⟩⟩]
noncomputable def s31_0 (T : List FEnt) : Y304 := dstep (xs := x31_0) h31_0 (dxc T b31_0)
noncomputable def l31_0 (T : List FEnt) : Y302 := whileF (s31_0 T)
noncomputable def q31_0 (F54 : Y268) (F55 : Y276) (a0 : Int) (a1 : Y20) (a2 : Y20) : Option Y303 :=
cond (decide (a0 < (↑(List.length a1.2.1) : Int))) (
chk (inR a0 (List.length a1.2.1)) (
chk (inR a0 (List.length a2.2.1)) (
(F55 ((ix a1.2.1 a0), (ix a2.2.1 a0))).bind fun (r2 : Bool) => (
cond (!r2) (
some (Sum.inr (Sum.inl (false, a1, a2)))) (
chk (fits .i64 (a0 + (1 : Int))) (
some (Sum.inl ((a0 + (1 : Int)), a1, a2)))))))) (
some (Sum.inr (Sum.inr (a1, a2))))
theorem g31_0 (F54 : Y268) (F55 : Y276) (a0 : Int) (a1 : Y20) (a2 : Y20) : s31_0 (T31 F54 F55) (a0, a1, a2) = q31_0 F54 F55 a0 a1 a2 := by kernel_rfl
noncomputable def p31_0 (a0 : Int) (a1 : Y20) (a2 : Y20) : Option Y303 := q31_0 P54 P55 a0 a1 a2
noncomputable def L31_0 : Y302 := whileF (fun x => p31_0 x.1 x.2.1 x.2.2)
theorem v31_0 : l31_0 (T31 P54 P55) = L31_0 := congrArg whileF (funext fun x => (g31_0 P54 P55 x.1 x.2.1 x.2.2).trans (show q31_0 P54 P55 x.1 x.2.1 x.2.2 = q31_0 P54 P55 x.1 x.2.1 x.2.2 from rfl))
def c31 : DCode := (.seq (.reg [o 2 (.box (.t 0)),
  o 3 (.box (.t 1)),
  o 4 (.mov (.c (.bool false)))]) (.seq (.seq (.reg [o 6 (.fld (.t 2) 0),
  o 7 (.ld1 (.t 6) false),
  o 8 (.fld (.t 3) 0),
  o 9 (.ld1 (.t 8) false),
  o 10 (.bin true .neq (.t 7) (.t 9)),
  o 11 (.mov (.t 10)),
  og 12 11 false (.fld (.t 2) 1),
  og 13 11 false (.ld1 (.t 12) false),
  og 14 11 false (.len (.t 13)),
  og 15 11 false (.fld (.t 3) 1),
  og 16 11 false (.ld1 (.t 15) false),
  og 17 11 false (.len (.t 16)),
  og 18 11 false (.bin true .neq (.t 14) (.t 17)),
  o 19 (.pick (.t 11) (.c (.bool true)) (.t 18)),
  o 20 (.mov (.t 19)),
  og 21 20 false (.fld (.t 2) 2),
  og 22 20 false (.ld1 (.t 21) false),
  og 23 20 false (.fld (.t 3) 2),
  og 24 20 false (.ld1 (.t 23) false),
  og 25 20 false (.xcall 54 [(.t 22), (.t 24)]),
  og 26 20 false (.unot (.t 25)),
  o 27 (.pick (.t 20) (.c (.bool true)) (.t 26))]) (.cond (.t 27) (.seq (.reg [o 4 (.mov (.c (.bool false)))]) .ret) .skip)) (.seq (.seq (.reg [o 5 (.mov (.c (.int .i64 0)))]) (.blk 0 (.loop h31_0 x31_0 b31_0))) (.seq (.reg [o 4 (.mov (.c (.bool true)))]) .ret))))
theorem ok31 : L.Fn Try.prog 31 47 [(.t 4)] (erase c31) := L.Fn.of hmix Try.func31 [] (by kernel_rfl)
def sh31 : FSh := ⟨⟨[(.st y69), (.st y69)], []⟩, [y69, y69], 0, ⟨⟨[(.v .bool)], []⟩, [.bool], [], 0⟩, true⟩
noncomputable def q31 (F54 : Y268) (F55 : Y276) (l31_0 : Y302) (a0 : Y20) (a1 : Y20) : Option Bool :=
cond (!decide (a0.1 = a1.1)) (
some false) (
cond (!decide ((↑(List.length a0.2.1) : Int) = (↑(List.length a1.2.1) : Int))) (
some false) (
(F54 (a0.2.2, a1.2.2)).bind fun (r1 : Bool) => (
cond (!r1) (
some false) (
(l31_0 ((0 : Int), a0, a1)).bind (fun (y3 : Y290 ⊕ Y291) => Sum.elim (fun (y4 : Y290) => (
some y4.1)) (fun (y5 : Y291) => (
some true)) y3)))))
theorem g31 (F54 : Y268) (F55 : Y276) (a0 : Y20) (a1 : Y20) : dxf (T31 F54 F55) sh31 [(.t 4)] c31 (a0, a1) = q31 F54 F55 (l31_0 (T31 F54 F55)) a0 a1 := by kernel_rfl
noncomputable def p31 (a0 : Y20) (a1 : Y20) : Option Bool := q31 P54 P55 L31_0 a0 a1
noncomputable def P31 : Y292 := fun x => p31 x.1 x.2
theorem v31 : dxf (T31 P54 P55) sh31 [(.t 4)] c31 = P31 := funext fun x => (g31 P54 P55 x.1 x.2).trans (show q31 P54 P55 (l31_0 (T31 P54 P55)) x.1 x.2 = q31 P54 P55 L31_0 x.1 x.2 from by rw [v31_0])
theorem d31 : DC Try.prog 31 sh31 P31 := DC_eq v31 (dxf_sound (sh := sh31) t31 ok31 (by kernel_rfl))
noncomputable def T81 : List FEnt := []
theorem t81 : DTblOK Try.prog T81 := DTbl_nil
def c81 : DCode := (.seq (.reg [o 4 (.mov (.c .emp))]) (.seq (.seq (.reg [o 5 (.mov (.t 1)),
  o 6 (.bin true .lss (.t 5) (.c (.int .i64 0)))]) (.cond (.t 6) (.reg [o 7 (.bad),
  .op ⟨none, .bad, none⟩ none]) .skip)) (.seq (.seq (.reg [o 8 (.mov (.t 1)),
  o 9 (.mov (.t 0)),
  o 10 (.cap (.t 9)),
  o 11 (.mov (.t 0)),
  o 12 (.len (.t 11)),
  o 13 (.bin true .sub (.t 10) (.t 12)),
  o 14 (.bin true .sub (.t 8) (.t 13)),
  o 1 (.mov (.t 14))]) (.seq (.reg [o 15 (.mov (.t 1)),
  o 16 (.bin true .gtr (.t 15) (.c (.int .i64 0)))]) (.cond (.t 16) (.reg [o 17 (.mov (.t 0)),
  o 18 (.mov (.t 0)),
  o 19 (.cap (.t 18)),
  o 20 (.sle (.t 17) (.t 19)),
  o 21 (.mov (.t 1)),
  .op ⟨some 22, .apz 45 6 48 [(.int .i64 0), (.int .i64 0), (.int .i64 0), (.int .i64 0), (.int .i64 0), (.int .i64 0)] (.t 20) (.t 21), none⟩ (some (true, y48)),
  o 23 (.mov (.t 0)),
  o 24 (.len (.t 23)),
  o 25 (.trn (.t 22) (.t 24)),
  o 0 (.mov (.t 25))]) .skip))) (.seq (.reg [o 26 (.mov (.t 0)),
  o 4 (.mov (.t 26))]) .ret))))
theorem ok81 : L.Fn Try.prog 81 27 [(.t 4)] (erase c81) := L.Fn.of hmix Try.func81 [(5, { ch := [0,0,0,3,0,0,0,0,2,0] })] (by kernel_rfl)
def sh81 : FSh := ⟨⟨[.emp, (.v y6)], []⟩, [y6], 0, ⟨⟨[(.slc 0)], [(0, (.row 45 y48))]⟩, [y60], [], 1⟩, true⟩
noncomputable def q81 (a0 : Int) : Option Y8 :=
cond (decide (a0 < (0 : Int))) (
none) (
chk (fits .i64 ((0 : Int) - (0 : Int))) (
chk (fits .i64 (a0 - ((0 : Int) - (0 : Int)))) (
cond (decide ((0 : Int) < (a0 - ((0 : Int) - (0 : Int))))) (
chk (decide ((0 : Int) = 0)) (
chk (decide (0 < (a0 - ((0 : Int) - (0 : Int))))) (
chk (decide ((48 : Int) * (a0 - ((0 : Int) - (0 : Int))) ≤ 140737488355328)) (
chk (decide ((0 : Int) ≤ (0 : Int))) (
chk (decide ((0 : Int) ≤ (↑(List.length (repl (Int.toNat (a0 - ((0 : Int) - (0 : Int)))) ((0 : Int), ((0 : Int), ((0 : Int), ((0 : Int), ((0 : Int), (0 : Int)))))))) : Int))) (
chk (decide (0 < List.length (repl (Int.toNat (a0 - ((0 : Int) - (0 : Int)))) ((0 : Int), ((0 : Int), ((0 : Int), ((0 : Int), ((0 : Int), (0 : Int))))))))) (
some (List.take (Int.toNat (0 : Int)) (repl (Int.toNat (a0 - ((0 : Int) - (0 : Int)))) ((0 : Int), ((0 : Int), ((0 : Int), ((0 : Int), ((0 : Int), (0 : Int))))))))))))))) (
some ([] : List Y3)))))
theorem g81 (a0 : Int) : dxf T81 sh81 [(.t 4)] c81 a0 = q81 a0 := by kernel_rfl
noncomputable def p81 (a0 : Int) : Option Y8 := q81 a0
noncomputable def P81 : Y269 := fun x => p81 x
theorem v81 : dxf T81 sh81 [(.t 4)] c81 = P81 := funext fun x => (g81 x).trans (show q81 x = q81 x from rfl)
theorem d81 : DC Try.prog 81 sh81 P81 := DC_eq v81 (dxf_sound (sh := sh81) t81 ok81 (by kernel_rfl))
noncomputable def T57 (F81 : Y269) : List FEnt := [⟨81, sh81, F81⟩]
theorem t57 : DTblOK Try.prog (T57 P81) := (DTbl_cons' (f := 81) (sh := sh81) (F := P81) d81 (by kernel_rfl) DTbl_nil)
def b57_0 : DCode := (.seq (.reg [o 12 (.bin true .lss (.t 11) (.t 10))]) (.seq (.cond (.t 12) .skip (.exit 0)) (.seq (.blk 1 (.seq (.reg [o 13 (.idx (.t 9) (.t 11) 1),
  o 14 (.ld1 (.t 13) false),
  o 5 (.mov (.t 14))]) (.seq (.reg [o 15 (.mov (.t 3)),
  o 16 (.mov (.t 5)),
  o 17 (.len (.t 16)),
  o 18 (.bin true .add (.t 15) (.t 17)),
  o 3 (.mov (.t 18))]) (.seq (.reg [o 19 (.mov (.t 3)),
  o 20 (.bin true .lss (.t 19) (.c (.int .i64 0)))]) (.cond (.t 20) (.reg [o 21 (.bad),
  .op ⟨none, .bad, none⟩ none]) .skip))))) (.reg [o 22 (.bin true .add (.t 11) (.c (.int .i64 1))),
  o 11 (.mov (.t 22))]))))
def h57_0 : LSh := ⟨[0, 3, 9, 10, 11], ⟨[(.v y305), (.v y6), (.v y305), (.v y6), (.v y6)], []⟩, [y305, y6, y305, y6, y6], 0, []⟩
def x57_0 : List XSh := [⟨(.exit 0), [0, 3], ⟨⟨[(.v y305), (.v y6)], []⟩, [y305, y6], [], 0⟩⟩]
noncomputable def s57_0 (T : List FEnt) : Y293 := dstep (xs := x57_0) h57_0 (dxc T b57_0)
noncomputable def l57_0 (T : List FEnt) : Y284 := whileF (s57_0 T)
noncomputable def q57_0 (F81 : Y269) (a0 : List Y8) (a1 : Int) (a2 : List Y8) (a3 : Int) (a4 : Int) : Option Y287 :=
cond (decide (a4 < a3)) (
chk (inR a4 (List.length a2)) (
chk (fits .i64 (a1 + (↑(List.length (ix a2 a4)) : Int))) (
cond (decide ((a1 + (↑(List.length (ix a2 a4)) : Int)) < (0 : Int))) (
none) (
chk (fits .i64 (a4 + (1 : Int))) (
some (Sum.inl (a0, (a1 + (↑(List.length (ix a2 a4)) : Int)), a2, a3, (a4 + (1 : Int))))))))) (
some (Sum.inr (a0, a1)))
theorem g57_0 (F81 : Y269) (a0 : List Y8) (a1 : Int) (a2 : List Y8) (a3 : Int) (a4 : Int) : s57_0 (T57 F81) (a0, a1, a2, a3, a4) = q57_0 F81 a0 a1 a2 a3 a4 := by kernel_rfl
noncomputable def p57_0 (a0 : List Y8) (a1 : Int) (a2 : List Y8) (a3 : Int) (a4 : Int) : Option Y287 := q57_0 P81 a0 a1 a2 a3 a4
noncomputable def L57_0 : Y284 := whileF (fun x => p57_0 x.1 x.2.1 x.2.2.1 x.2.2.2.1 x.2.2.2.2)
theorem v57_0 : l57_0 (T57 P81) = L57_0 := congrArg whileF (funext fun x => (g57_0 P81 x.1 x.2.1 x.2.2.1 x.2.2.2.1 x.2.2.2.2).trans (show q57_0 P81 x.1 x.2.1 x.2.2.1 x.2.2.2.1 x.2.2.2.2 = q57_0 P81 x.1 x.2.1 x.2.2.1 x.2.2.2.1 x.2.2.2.2 from rfl))
def b57_1 : DCode := (.seq (.reg [o 28 (.bin true .lss (.t 27) (.t 26))]) (.seq (.cond (.t 28) .skip (.exit 2)) (.seq (.blk 3 (.seq (.reg [o 29 (.idx (.t 25) (.t 27) 1),
  o 30 (.ld1 (.t 29) false),
  o 8 (.mov (.t 30))]) (.reg [o 31 (.mov (.t 6)),
  o 32 (.mov (.t 8)),
  .op ⟨some 33, .app 45 6 48 (.t 31) (.t 32), none⟩ (some (true, y48)),
  o 6 (.mov (.t 33))]))) (.reg [o 34 (.bin true .add (.t 27) (.c (.int .i64 1))),
  o 27 (.mov (.t 34))]))))
def h57_1 : LSh := ⟨[6, 25, 26, 27], ⟨[(.slc 0), (.v y305), (.v y6), (.v y6)], [(0, (.row 45 y48))]⟩, [y305, y6, y6, y60], 1, []⟩
def x57_1 : List XSh := [⟨(.exit 2), [6], ⟨⟨[(.slc 0)], [(0, (.row 45 y48))]⟩, [y60], [], 1⟩⟩]
noncomputable def s57_1 (T : List FEnt) : Y294 := dstep (xs := x57_1) h57_1 (dxc T b57_1)
noncomputable def l57_1 (T : List FEnt) : Y277 := whileF (s57_1 T)
noncomputable def q57_1 (F81 : Y269) (a0 : List Y8) (a1 : Int) (a2 : Int) (a3 : List Y3) : Option Y288 :=
cond (decide (a2 < a1)) (
chk (inR a2 (List.length a0)) (
chk (capOk 48 (List.length a3 + List.length (ix a0 a2))) (
chk (fits .i64 (a2 + (1 : Int))) (
some (Sum.inl (a0, a1, (a2 + (1 : Int)), (a3 ++ (ix a0 a2)))))))) (
some (Sum.inr a3))
theorem g57_1 (F81 : Y269) (a0 : List Y8) (a1 : Int) (a2 : Int) (a3 : List Y3) : s57_1 (T57 F81) (a0, a1, a2, a3) = q57_1 F81 a0 a1 a2 a3 := by kernel_rfl
noncomputable def p57_1 (a0 : List Y8) (a1 : Int) (a2 : Int) (a3 : List Y3) : Option Y288 := q57_1 P81 a0 a1 a2 a3
noncomputable def L57_1 : Y277 := whileF (fun x => p57_1 x.1 x.2.1 x.2.2.1 x.2.2.2)
theorem v57_1 : l57_1 (T57 P81) = L57_1 := congrArg whileF (funext fun x => (g57_1 P81 x.1 x.2.1 x.2.2.1 x.2.2.2).trans (show q57_1 P81 x.1 x.2.1 x.2.2.1 x.2.2.2 = q57_1 P81 x.1 x.2.1 x.2.2.1 x.2.2.2 from rfl))
def c57 : DCode := (.seq (.reg [o 2 (.mov (.c .emp))]) (.seq (.reg [o 3 (.mov (.c (.int .i64 0)))]) (.seq (.seq (.reg [o 9 (.mov (.t 0)),
  o 10 (.len (.t 9)),
  o 11 (.mov (.c (.int .i64 0)))]) (.blk 0 (.loop h57_0 x57_0 b57_0))) (.seq (.reg [o 23 (.mov (.t 3)),
  o 24 (.xcall 81 [(.c .emp), (.t 23)]),
  o 6 (.mov (.t 24))]) (.seq (.seq (.reg [o 25 (.mov (.t 0)),
  o 26 (.len (.t 25)),
  o 27 (.mov (.c (.int .i64 0)))]) (.blk 2 (.loop h57_1 x57_1 b57_1))) (.seq (.reg [o 35 (.mov (.t 6)),
  o 2 (.mov (.t 35))]) .ret))))))
theorem ok57 : L.Fn Try.prog 57 36 [(.t 2)] (erase c57) := L.Fn.of hmix Try.func57 [] (by kernel_rfl)
def sh57 : FSh := ⟨⟨[(.v y305)], []⟩, [y305], 0, ⟨⟨[(.slc 0)], [(0, (.row 45 y48))]⟩, [y60], [], 1⟩, true⟩
noncomputable def q57 (F81 : Y269) (l57_0 : Y284) (l57_1 : Y277) (a0 : List Y8) : Option Y8 :=
(l57_0 (a0, (0 : Int), a0, (↑(List.length a0) : Int), (0 : Int))).bind fun (y1 : Y273 × Int) => (
(F81 y1.2).bind fun (r2 : List Y3) => (
(l57_1 (y1.1, (↑(List.length y1.1) : Int), (0 : Int), r2)).bind fun (y3 : List Y3) => (
some y3)))
theorem g57 (F81 : Y269) (a0 : List Y8) : dxf (T57 F81) sh57 [(.t 2)] c57 a0 = q57 F81 (l57_0 (T57 F81)) (l57_1 (T57 F81)) a0 := by kernel_rfl
noncomputable def p57 (a0 : List Y8) : Option Y8 := q57 P81 L57_0 L57_1 a0
noncomputable def P57 : Y270 := fun x => p57 x
theorem v57 : dxf (T57 P81) sh57 [(.t 2)] c57 = P57 := funext fun x => (g57 P81 x).trans (show q57 P81 (l57_0 (T57 P81)) (l57_1 (T57 P81)) x = q57 P81 L57_0 L57_1 x from by rw [v57_0, v57_1])
theorem d57 : DC Try.prog 57 sh57 P57 := DC_eq v57 (dxf_sound (sh := sh57) t57 ok57 (by kernel_rfl))
noncomputable def T58 : List FEnt := []
theorem t58 : DTblOK Try.prog T58 := DTbl_nil
def c58 : DCode := (.seq (.reg [o 2 (.mov (.c .emp))]) (.seq (.seq (.reg [o 3 (.mov (.t 0)),
  o 4 (.isn false (.t 3))]) (.cond (.t 4) (.seq (.reg [o 2 (.mov (.c .emp))]) .ret) .skip)) (.seq (.reg [.op ⟨some 5, .bsr 33 9 [], none⟩ (some (true, y66)),
  o 6 (.mov (.t 0)),
  .op ⟨some 7, .app 33 9 104 (.t 5) (.t 6), none⟩ (some (true, y66)),
  o 2 (.mov (.t 7))]) .ret)))
theorem ok58 : L.Fn Try.prog 58 8 [(.t 2)] (erase c58) := L.Fn.of hmix Try.func58 [] (by kernel_rfl)
def sh58 : FSh := ⟨⟨[(.v y67)], []⟩, [y67], 0, ⟨⟨[(.slc 0)], [(0, (.row 33 y66))]⟩, [y67], [], 1⟩, false⟩
noncomputable def q58 (a0 : List Y9) : Option Y17 :=
bisn (decide (List.length a0 = 0)) (
some ([] : List Y9)) (
chk (capOk 104 (List.length ([] : List Y9) + List.length a0)) (
some (([] : List Y9) ++ a0)))
theorem g58 (a0 : List Y9) : dxf T58 sh58 [(.t 2)] c58 a0 = q58 a0 := by kernel_rfl
noncomputable def p58 (a0 : List Y9) : Option Y17 := q58 a0
noncomputable def P58 : Y285 := fun x => p58 x
theorem v58 : dxf T58 sh58 [(.t 2)] c58 = P58 := funext fun x => (g58 x).trans (show q58 x = q58 x from rfl)
theorem d58 : DC Try.prog 58 sh58 P58 := DC_eq v58 (dxf_sound (sh := sh58) t58 ok58 (by kernel_rfl))
noncomputable def T59 : List FEnt := []
theorem t59 : DTblOK Try.prog T59 := DTbl_nil
def c59 : DCode := (.seq (.reg [o 2 (.mov (.c .emp))]) (.seq (.seq (.reg [o 3 (.mov (.t 0)),
  o 4 (.isn false (.t 3))]) (.cond (.t 4) (.seq (.reg [o 2 (.mov (.c .emp))]) .ret) .skip)) (.seq (.reg [.op ⟨some 5, .bsr 3 1 [], none⟩ (some (false, y6)),
  o 6 (.mov (.t 0)),
  .op ⟨some 7, .app 3 1 8 (.t 5) (.t 6), none⟩ (some (false, y6)),
  o 2 (.mov (.t 7)),
  .fz 2 []]) .ret)))
theorem ok59 : L.Fn Try.prog 59 8 [(.t 2)] (erase c59) := L.Fn.of hmix Try.func59 [] (by kernel_rfl)
def sh59 : FSh := ⟨⟨[(.v y12)], []⟩, [y12], 0, ⟨⟨[(.v y12)], []⟩, [y12], [], 0⟩, false⟩
noncomputable def q59 (a0 : List Int) : Option Y1 :=
bisn (decide (List.length a0 = 0)) (
some ([] : List Int)) (
chk (capOk 8 (List.length ([] : List Int) + List.length a0)) (
some (([] : List Int) ++ a0)))
theorem g59 (a0 : List Int) : dxf T59 sh59 [(.t 2)] c59 a0 = q59 a0 := by kernel_rfl
noncomputable def p59 (a0 : List Int) : Option Y1 := q59 a0
noncomputable def P59 : Y266 := fun x => p59 x
theorem v59 : dxf T59 sh59 [(.t 2)] c59 = P59 := funext fun x => (g59 x).trans (show q59 x = q59 x from rfl)
theorem d59 : DC Try.prog 59 sh59 P59 := DC_eq v59 (dxf_sound (sh := sh59) t59 ok59 (by kernel_rfl))
noncomputable def T60 : List FEnt := []
theorem t60 : DTblOK Try.prog T60 := DTbl_nil
def c60 : DCode := (.seq (.reg [o 2 (.mov (.c .emp))]) (.seq (.seq (.reg [o 3 (.mov (.t 0)),
  o 4 (.isn false (.t 3))]) (.cond (.t 4) (.seq (.reg [o 2 (.mov (.c .emp))]) .ret) .skip)) (.seq (.reg [.op ⟨some 5, .bsr 43 2 [], none⟩ (some (true, y13)),
  o 6 (.mov (.t 0)),
  .op ⟨some 7, .app 43 2 16 (.t 5) (.t 6), none⟩ (some (true, y13)),
  o 2 (.mov (.t 7)),
  .fz 2 []]) .ret)))
theorem ok60 : L.Fn Try.prog 60 8 [(.t 2)] (erase c60) := L.Fn.of hmix Try.func60 [] (by kernel_rfl)
def sh60 : FSh := ⟨⟨[(.v y15)], []⟩, [y15], 0, ⟨⟨[(.v y15)], []⟩, [y15], [], 0⟩, false⟩
noncomputable def q60 (a0 : List Y2) : Option Y7 :=
bisn (decide (List.length a0 = 0)) (
some ([] : List Y2)) (
chk (capOk 16 (List.length ([] : List Y2) + List.length a0)) (
some (([] : List Y2) ++ a0)))
theorem g60 (a0 : List Y2) : dxf T60 sh60 [(.t 2)] c60 a0 = q60 a0 := by kernel_rfl
noncomputable def p60 (a0 : List Y2) : Option Y7 := q60 a0
noncomputable def P60 : Y271 := fun x => p60 x
theorem v60 : dxf T60 sh60 [(.t 2)] c60 = P60 := funext fun x => (g60 x).trans (show q60 x = q60 x from rfl)
theorem d60 : DC Try.prog 60 sh60 P60 := DC_eq v60 (dxf_sound (sh := sh60) t60 ok60 (by kernel_rfl))
end Go.Proofs.Ytfknkinmnecoeaa.D
