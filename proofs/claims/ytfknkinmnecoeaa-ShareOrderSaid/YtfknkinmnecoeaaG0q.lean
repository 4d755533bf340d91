/- Cut down from a longer text. -/
import Derived.Test.YtfknkinmnecoeaaGYq
import Derived.Test.YtfknkinmnecoeaaProg
set_option linter.unusedVariables false
set_option maxRecDepth 100000
namespace Go.Proofs.Ytfknkinmnecoeaa.D
open Go Go.Proofs Go.Proofs.Ytfknkinmnecoeaa.L
theorem hmix : Try.prog.follows .mixedOrders = true := by kernel_rfl
noncomputable def T23 : List FEnt := []
theorem t23 : DTblOK Try.prog T23 := DTbl_nil
def b23_0 : DCode := (.seq (.seq (.reg [o 14 (.mov (.t 3)),
  o 15 (.fld (.t 1) 1),
  o 16 (.ld1 (.t 15) false),
  o 17 (.len (.t 16)),
  o 18 (.bin true .lss (.t 14) (.t 17))]) (.cond (.t 18) .skip (.exit 0))) (.seq (.blk 1 (.seq (.reg [o 21 (.fld (.t 1) 1),
  o 22 (.ld1 (.t 21) false),
  o 23 (.mov (.t 3)),
  o 24 (.idx (.t 22) (.t 23) 9),
  o 25 (.fld (.t 24) 3),
  o 26 (.ld1 (.t 25) false),
  o 27 (.len (.t 26)),
  o 28 (.bin true .gtr (.t 27) (.c (.int .i64 30))),
  o 29 (.mov (.t 28)),
  og 30 29 false (.fld (.t 1) 1),
  og 31 29 false (.ld1 (.t 30) false),
  og 32 29 false (.mov (.t 3)),
  og 33 29 false (.idx (.t 31) (.t 32) 9),
  og 34 29 false (.fld (.t 33) 4),
  og 35 29 false (.ld1 (.t 34) false),
  og 36 29 false (.len (.t 35)),
  og 37 29 false (.bin true .gtr (.t 36) (.c (.int .i64 30))),
  o 38 (.pick (.t 29) (.c (.bool true)) (.t 37))]) (.cond (.t 38) (.seq (.reg [o 2 (.mov (.c (.bool true)))]) .ret) .skip))) (.reg [o 19 (.mov (.t 3)),
  o 20 (.bin true .add (.t 19) (.c (.int .i64 1))),
  o 3 (.mov (.t 20))])))
def h23_0 : LSh := ⟨[1, 3], ⟨[(.ptr 0 0), (.v y6)], [(0, (.boxT y69))]⟩, [y6, y69], 1, [0]⟩
def x23_0 : List XSh := [⟨.ret, [2], ⟨⟨[(.v .bool)], [(0, (.boxT y69))]⟩, [.bool, y69], [0], 1⟩⟩, ⟨(.exit 0), [], ⟨⟨[], [(0, (.boxT y69))]⟩, [y69], [0], 1⟩⟩]
noncomputable def s23_0 (T : List FEnt) : Y54 := dstep (xs := x23_0) h23_0 (dxc T b23_0)
noncomputable def l23_0 (T : List FEnt) : Y44 := whileF (s23_0 T)
noncomputable def q23_0 (a0 : Int) (a1 : Y20) : Option Y49 :=
cond (decide (a0 < (↑(List.length a1.2.1) : Int))) (
chk (inR a0 (List.length a1.2.1)) (
cond (decide ((30 : Int) < (↑(List.length ((ix a1.2.1 a0).2.2.2.1)) : Int))) (
some (Sum.inr (Sum.inl (true, a1)))) (
chk (inR a0 (List.length a1.2.1)) (
cond (decide ((30 : Int) < (↑(List.length ((ix a1.2.1 a0).2.2.2.2.1)) : Int))) (
some (Sum.inr (Sum.inl (true, a1)))) (
chk (fits .i64 (a0 + (1 : Int))) (
some (Sum.inl ((a0 + (1 : Int)), a1)))))))) (
some (Sum.inr (Sum.inr a1)))
theorem g23_0 (a0 : Int) (a1 : Y20) : s23_0 T23 (a0, a1) = q23_0 a0 a1 := by kernel_rfl
noncomputable def p23_0 (a0 : Int) (a1 : Y20) : Option Y49 := q23_0 a0 a1
noncomputable def L23_0 : Y44 := whileF (fun x => p23_0 x.1 x.2)
theorem v23_0 : l23_0 T23 = L23_0 := congrArg whileF (funext fun x => (g23_0 x.1 x.2).trans (show q23_0 x.1 x.2 = q23_0 x.1 x.2 from rfl))
def c23 : DCode := (.seq (.reg [o 1 (.box (.t 0)),
  o 2 (.mov (.c (.bool false)))]) (.seq (.seq (.reg [o 4 (.fld (.t 1) 1),
  o 5 (.ld1 (.t 4) false),
  o 6 (.len (.t 5)),
  o 7 (.bin true .gtr (.t 6) (.c (.int .i64 20))),
  o 8 (.mov (.t 7)),
  og 9 8 false (.fld (.t 1) 2),
  og 10 8 false (.ld1 (.t 9) false),
  og 11 8 false (.len (.t 10)),
  og 12 8 false (.bin true .gtr (.t 11) (.c (.int .i64 60))),
  o 13 (.pick (.t 8) (.c (.bool true)) (.t 12))]) (.cond (.t 13) (.seq (.reg [o 2 (.mov (.c (.bool true)))]) .ret) .skip)) (.seq (.seq (.reg [o 3 (.mov (.c (.int .i64 0)))]) (.blk 0 (.loop h23_0 x23_0 b23_0))) (.seq (.reg [o 2 (.mov (.c (.bool false)))]) .ret))))
theorem ok23 : L.Fn Try.prog 23 39 [(.t 2)] (erase c23) := L.Fn.of hmix Try.func23 [] (by kernel_rfl)
def sh23 : FSh := ⟨⟨[(.st y69)], []⟩, [y69], 0, ⟨⟨[(.v .bool)], []⟩, [.bool], [], 0⟩, true⟩
noncomputable def q23 (l23_0 : Y44) (a0 : Y20) : Option Bool :=
cond (decide ((20 : Int) < (↑(List.length a0.2.1) : Int))) (
some true) (
cond (decide ((60 : Int) < (↑(List.length a0.2.2) : Int))) (
some true) (
(l23_0 ((0 : Int), a0)).bind (fun (y1 : Y21 ⊕ Y20) => Sum.elim (fun (y2 : Y21) => (
some y2.1)) (fun (y3 : Y20) => (
some false)) y1)))
theorem g23 (a0 : Y20) : dxf T23 sh23 [(.t 2)] c23 a0 = q23 (l23_0 T23) a0 := by kernel_rfl
noncomputable def p23 (a0 : Y20) : Option Bool := q23 L23_0 a0
noncomputable def P23 : Y22 := fun x => p23 x
theorem v23 : dxf T23 sh23 [(.t 2)] c23 = P23 := funext fun x => (g23 x).trans (show q23 (l23_0 T23) x = q23 L23_0 x from by rw [v23_0])
theorem d23 : DC Try.prog 23 sh23 P23 := DC_eq v23 (dxf_sound (sh := sh23) t23 ok23 (by kernel_rfl))
noncomputable def T48 : List FEnt := []
theorem t48 : DTblOK Try.prog T48 := DTbl_nil
def c48 : DCode := (.seq (.reg [o 6 (.mov (.c (.bool false)))]) (.seq (.reg [o 7 (.mov (.t 0)),
  o 8 (.mov (.t 1)),
  o 9 (.bin true .geq (.t 7) (.t 8)),
  o 10 (.mov (.t 9)),
  og 11 10 true (.mov (.t 0)),
  og 12 10 true (.mov (.t 2)),
  og 13 10 true (.bin true .leq (.t 11) (.t 12)),
  o 14 (.pick (.t 10) (.t 13) (.c (.bool false))),
  o 6 (.mov (.t 14))]) .ret))
theorem ok48 : L.Fn Try.prog 48 15 [(.t 6)] (erase c48) := L.Fn.of hmix Try.func48 [] (by kernel_rfl)
def sh48 : FSh := ⟨⟨[(.v y6), (.v y6), (.v y6)], []⟩, [y6, y6, y6], 0, ⟨⟨[(.v .bool)], []⟩, [.bool], [], 0⟩, true⟩
noncomputable def q48 (a0 : Int) (a1 : Int) (a2 : Int) : Option Bool :=
cond (decide (a1 ≤ a0)) (
some (decide (a0 ≤ a2))) (
some false)
theorem g48 (a0 : Int) (a1 : Int) (a2 : Int) : dxf T48 sh48 [(.t 6)] c48 (a0, a1, a2) = q48 a0 a1 a2 := by kernel_rfl
noncomputable def p48 (a0 : Int) (a1 : Int) (a2 : Int) : Option Bool := q48 a0 a1 a2
noncomputable def P48 : Y4 := fun x => p48 x.1 x.2.1 x.2.2
theorem v48 : dxf T48 sh48 [(.t 6)] c48 = P48 := funext fun x => (g48 x.1 x.2.1 x.2.2).trans (show q48 x.1 x.2.1 x.2.2 = q48 x.1 x.2.1 x.2.2 from rfl)
theorem d48 : DC Try.prog 48 sh48 P48 := DC_eq v48 (dxf_sound (sh := sh48) t48 ok48 (by kernel_rfl))
noncomputable def T67 (F48 : Y4) : List FEnt := [⟨48, sh48, F48⟩]
theorem t67 : DTblOK Try.prog (T67 P48) := (DTbl_cons' (f := 48) (sh := sh48) (F := P48) d48 (by kernel_rfl) DTbl_nil)
def b67_0 : DCode := (.seq (.seq (.reg [o 63 (.mov (.t 3)),
  o 64 (.fld (.t 1) 3),
  o 65 (.ld1 (.t 64) false),
  o 66 (.len (.t 65)),
  o 67 (.bin true .lss (.t 63) (.t 66))]) (.cond (.t 67) .skip (.exit 0))) (.seq (.blk 1 (.seq (.reg [o 70 (.fld (.t 1) 3),
  o 71 (.ld1 (.t 70) false),
  o 72 (.mov (.t 3)),
  o 73 (.idx (.t 71) (.t 72) 1),
  o 74 (.ld1 (.t 73) false),
  o 75 (.xcall 48 [(.t 74), (.c (.int .i64 0)), (.c (.int .i64 1000))]),
  o 76 (.unot (.t 75))]) (.cond (.t 76) (.seq (.reg [o 2 (.mov (.c (.bool false)))]) .ret) .skip))) (.reg [o 68 (.mov (.t 3)),
  o 69 (.bin true .add (.t 68) (.c (.int .i64 1))),
  o 3 (.mov (.t 69))])))
def h67_0 : LSh := ⟨[1, 3], ⟨[(.ptr 0 0), (.v y6)], [(0, (.boxT y66))]⟩, [y6, y66], 1, [0]⟩
def x67_0 : List XSh := [⟨.ret, [2], ⟨⟨[(.v .bool)], [(0, (.boxT y66))]⟩, [.bool, y66], [0], 1⟩⟩, ⟨(.exit 0), [1], ⟨⟨[(.ptr 0 0)], [(0, (.boxT y66))]⟩, [y66], [0], 1⟩⟩]
noncomputable def s67_0 (T : List FEnt) : Y30 := dstep (xs := x67_0) h67_0 (dxc T b67_0)
noncomputable def l67_0 (T : List FEnt) : Y23 := whileF (s67_0 T)
noncomputable def q67_0 (F48 : Y4) (a0 : Int) (a1 : Y9) : Option Y27 :=
cond (decide (a0 < (↑(List.length a1.2.2.2.1) : Int))) (
chk (inR a0 (List.length a1.2.2.2.1)) (
(F48 ((ix a1.2.2.2.1 a0), (0 : Int), (1000 : Int))).bind fun (r7 : Bool) => (
cond (!r7) (
some (Sum.inr (Sum.inl (false, a1)))) (
chk (fits .i64 (a0 + (1 : Int))) (
some (Sum.inl ((a0 + (1 : Int)), a1))))))) (
some (Sum.inr (Sum.inr a1)))
theorem g67_0 (F48 : Y4) (a0 : Int) (a1 : Y9) : s67_0 (T67 F48) (a0, a1) = q67_0 F48 a0 a1 := by kernel_rfl
noncomputable def p67_0 (a0 : Int) (a1 : Y9) : Option Y27 := q67_0 P48 a0 a1
noncomputable def L67_0 : Y23 := whileF (fun x => p67_0 x.1 x.2)
theorem v67_0 : l67_0 (T67 P48) = L67_0 := congrArg whileF (funext fun x => (g67_0 P48 x.1 x.2).trans (show q67_0 P48 x.1 x.2 = q67_0 P48 x.1 x.2 from rfl))
def b67_1 : DCode := (.seq (.seq (.reg [o 77 (.mov (.t 4)),
  o 78 (.fld (.t 1) 4),
  o 79 (.ld1 (.t 78) false),
  o 80 (.len (.t 79)),
  o 81 (.bin true .lss (.t 77) (.t 80))]) (.cond (.t 81) .skip (.exit 2))) (.seq (.blk 3 (.seq (.drw [] [r 84 (.fld (.t 1) 4),
  r 85 (.ld1 (.t 84) false),
  r 86 (.mov (.t 4)),
  r 87 (.idx (.t 85) (.t 86) 2),
  r 88 (.fld (.t 87) 0),
  r 89 (.ld1 (.t 88) false),
  r 90 (.xcall 48 [(.t 89), (.c (.int .i64 0)), (.c (.int .i64 10000000))]),
  r 91 (.unot (.t 90)),
  r 92 (.mov (.t 91)),
  (⟨some 93, .fld (.t 1) 4, some (92, false)⟩, none),
  (⟨some 94, .ld1 (.t 93) false, some (92, false)⟩, none),
  (⟨some 95, .mov (.t 4), some (92, false)⟩, none),
  (⟨some 96, .idx (.t 94) (.t 95) 2, some (92, false)⟩, none),
  (⟨some 97, .fld (.t 96) 1, some (92, false)⟩, none),
  (⟨some 98, .ld1 (.t 97) false, some (92, false)⟩, none),
  (⟨some 99, .xcall 48 [(.t 98), (.c (.int .i64 0)), (.c (.int .i64 1000))], some (92, false)⟩, none),
  (⟨some 100, .unot (.t 99), some (92, false)⟩, none),
  r 101 (.pick (.t 92) (.c (.bool true)) (.t 100)),
  r 102 (.mov (.t 101)),
  (⟨some 103, .mov (.t 4), some (102, false)⟩, none),
  (⟨some 104, .bin true .gtr (.t 103) (.c (.int .i64 0)), some (102, false)⟩, none),
  (⟨some 105, .mov (.t 104), some (102, false)⟩, none),
  (⟨some 106, .fld (.t 1) 4, some (105, true)⟩, none),
  (⟨some 107, .ld1 (.t 106) false, some (105, true)⟩, none),
  (⟨some 108, .mov (.t 4), some (105, true)⟩, none),
  (⟨some 109, .idx (.t 107) (.t 108) 2, some (105, true)⟩, none),
  (⟨some 110, .fld (.t 109) 0, some (105, true)⟩, none),
  (⟨some 111, .ld1 (.t 110) false, some (105, true)⟩, none),
  (⟨some 112, .fld (.t 1) 4, some (105, true)⟩, none),
  (⟨some 113, .ld1 (.t 112) false, some (105, true)⟩, none),
  (⟨some 114, .mov (.t 4), some (105, true)⟩, none),
  (⟨some 115, .bin true .sub (.t 114) (.c (.int .i64 1)), some (105, true)⟩, none),
  (⟨some 116, .idx (.t 113) (.t 115) 2, some (105, true)⟩, none),
  (⟨some 117, .fld (.t 116) 0, some (105, true)⟩, none),
  (⟨some 118, .ld1 (.t 117) false, some (105, true)⟩, none),
  (⟨some 119, .bin true .leq (.t 111) (.t 118), some (105, true)⟩, none),
  (⟨some 120, .pick (.t 105) (.t 119) (.c (.bool false)), some (102, false)⟩, none),
  r 121 (.pick (.t 102) (.c (.bool true)) (.t 120))]) (.cond (.t 121) (.seq (.reg [o 2 (.mov (.c (.bool false)))]) .ret) .skip))) (.reg [o 82 (.mov (.t 4)),
  o 83 (.bin true .add (.t 82) (.c (.int .i64 1))),
  o 4 (.mov (.t 83))])))
def h67_1 : LSh := ⟨[1, 4], ⟨[(.ptr 0 0), (.v y6)], [(0, (.boxT y66))]⟩, [y6, y66], 1, [0]⟩
def x67_1 : List XSh := [⟨.ret, [2], ⟨⟨[(.v .bool)], [(0, (.boxT y66))]⟩, [.bool, y66], [0], 1⟩⟩, ⟨(.exit 2), [], ⟨⟨[], [(0, (.boxT y66))]⟩, [y66], [0], 1⟩⟩]
noncomputable def s67_1 (T : List FEnt) : Y30 := dstep (xs := x67_1) h67_1 (dxc T b67_1)
noncomputable def l67_1 (T : List FEnt) : Y23 := whileF (s67_1 T)
noncomputable def q67_1 (F48 : Y4) (a0 : Int) (a1 : Y9) : Option Y27 :=
cond (decide (a0 < (↑(List.length a1.2.2.2.2.1) : Int))) (
chk (inR a0 (List.length a1.2.2.2.2.1)) (
(F48 ((ix a1.2.2.2.2.1 a0).1, (0 : Int), (10000000 : Int))).bind fun (r11 : Bool) => (
cond (!r11) (
some (Sum.inr (Sum.inl (false, a1)))) (
chk (inR a0 (List.length a1.2.2.2.2.1)) (
(F48 ((ix a1.2.2.2.2.1 a0).2, (0 : Int), (1000 : Int))).bind fun (r12 : Bool) => (
cond (!r12) (
some (Sum.inr (Sum.inl (false, a1)))) (
cond (decide ((0 : Int) < a0)) (
chk (inR a0 (List.length a1.2.2.2.2.1)) (
chk (fits .i64 (a0 - (1 : Int))) (
chk (inR (a0 - (1 : Int)) (List.length a1.2.2.2.2.1)) (
cond (decide ((ix a1.2.2.2.2.1 a0).1 ≤ (ix a1.2.2.2.2.1 (a0 - (1 : Int))).1)) (
some (Sum.inr (Sum.inl (false, a1)))) (
chk (fits .i64 (a0 + (1 : Int))) (
some (Sum.inl ((a0 + (1 : Int)), a1)))))))) (
chk (fits .i64 (a0 + (1 : Int))) (
some (Sum.inl ((a0 + (1 : Int)), a1))))))))))) (
some (Sum.inr (Sum.inr a1)))
theorem g67_1 (F48 : Y4) (a0 : Int) (a1 : Y9) : s67_1 (T67 F48) (a0, a1) = q67_1 F48 a0 a1 := by kernel_rfl
noncomputable def p67_1 (a0 : Int) (a1 : Y9) : Option Y27 := q67_1 P48 a0 a1
noncomputable def L67_1 : Y23 := whileF (fun x => p67_1 x.1 x.2)
theorem v67_1 : l67_1 (T67 P48) = L67_1 := congrArg whileF (funext fun x => (g67_1 P48 x.1 x.2).trans (show q67_1 P48 x.1 x.2 = q67_1 P48 x.1 x.2 from rfl))
def c67 : DCode := (.seq (.reg [o 1 (.box (.t 0)),
  o 2 (.mov (.c (.bool false)))]) (.seq (.seq (.reg [o 5 (.fld (.t 1) 0),
  o 6 (.ld1 (.t 5) false),
  o 7 (.xcall 48 [(.t 6), (.c (.int .i64 0)), (.c (.int .i64 99))]),
  o 8 (.unot (.t 7)),
  o 9 (.mov (.t 8)),
  og 10 9 false (.fld (.t 1) 1),
  og 11 9 false (.ld1 (.t 10) false),
  og 12 9 false (.bin true .lss (.t 11) (.c (.int .i64 0))),
  o 13 (.pick (.t 9) (.c (.bool true)) (.t 12)),
  o 14 (.mov (.t 13)),
  og 15 14 false (.fld (.t 1) 1),
  og 16 14 false (.ld1 (.t 15) false),
  og 17 14 false (.fld (.t 1) 2),
  og 18 14 false (.ld1 (.t 17) false),
  og 19 14 false (.bin true .gtr (.t 16) (.t 18)),
  o 20 (.pick (.t 14) (.c (.bool true)) (.t 19)),
  o 21 (.mov (.t 20)),
  og 22 21 false (.fld (.t 1) 2),
  og 23 21 false (.ld1 (.t 22) false),
  og 24 21 false (.bin true .gtr (.t 23) (.c (.int .i64 99))),
  o 25 (.pick (.t 21) (.c (.bool true)) (.t 24)),
  o 26 (.mov (.t 25)),
  og 27 26 false (.fld (.t 1) 3),
  og 28 26 false (.ld1 (.t 27) false),
  og 29 26 false (.len (.t 28)),
  og 30 26 false (.xcall 48 [(.t 29), (.c (.int .i64 1)), (.c (.int .i64 6))]),
  og 31 26 false (.unot (.t 30)),
  o 32 (.pick (.t 26) (.c (.bool true)) (.t 31)),
  o 33 (.mov (.t 32)),
  og 34 33 false (.fld (.t 1) 4),
  og 35 33 false (.ld1 (.t 34) false),
  og 36 33 false (.len (.t 35)),
  og 37 33 false (.bin true .gtr (.t 36) (.c (.int .i64 4))),
  o 38 (.pick (.t 33) (.c (.bool true)) (.t 37)),
  o 39 (.mov (.t 38)),
  og 40 39 false (.fld (.t 1) 5),
  og 41 39 false (.ld1 (.t 40) false),
  og 42 39 false (.xcall 48 [(.t 41), (.c (.int .i64 0)), (.c (.int .i64 10000000))]),
  og 43 39 false (.unot (.t 42)),
  o 44 (.pick (.t 39) (.c (.bool true)) (.t 43)),
  o 45 (.mov (.t 44)),
  og 46 45 false (.fld (.t 1) 7),
  og 47 45 false (.ld1 (.t 46) false),
  og 48 45 false (.xcall 48 [(.t 47), (.c (.int .i64 0)), (.c (.int .i64 10000000))]),
  og 49 45 false (.unot (.t 48)),
  o 50 (.pick (.t 45) (.c (.bool true)) (.t 49)),
  o 51 (.mov (.t 50)),
  og 52 51 false (.fld (.t 1) 6),
  og 53 51 false (.ld1 (.t 52) false),
  og 54 51 false (.xcall 48 [(.t 53), (.c (.int .i64 0)), (.c (.int .i64 1000))]),
  og 55 51 false (.unot (.t 54)),
  o 56 (.pick (.t 51) (.c (.bool true)) (.t 55)),
  o 57 (.mov (.t 56)),
  og 58 57 false (.fld (.t 1) 8),
  og 59 57 false (.ld1 (.t 58) false),
  og 60 57 false (.xcall 48 [(.t 59), (.c (.int .i64 0)), (.c (.int .i64 100000000))]),
  og 61 57 false (.unot (.t 60)),
  o 62 (.pick (.t 57) (.c (.bool true)) (.t 61))]) (.cond (.t 62) (.seq (.reg [o 2 (.mov (.c (.bool false)))]) .ret) .skip)) (.seq (.seq (.reg [o 3 (.mov (.c (.int .i64 0)))]) (.blk 0 (.loop h67_0 x67_0 b67_0))) (.seq (.seq (.reg [o 4 (.mov (.c (.int .i64 0)))]) (.blk 2 (.loop h67_1 x67_1 b67_1))) (.seq (.reg [o 2 (.mov (.c (.bool true)))]) .ret)))))
theorem ok67 : L.Fn Try.prog 67 122 [(.t 2)] (erase c67) := L.Fn.of hmix Try.func67 [] (by kernel_rfl)
def sh67 : FSh := ⟨⟨[(.st y66)], []⟩, [y66], 0, ⟨⟨[(.v .bool)], []⟩, [.bool], [], 0⟩, true⟩
noncomputable def q67 (F48 : Y4) (l67_0 : Y23) (l67_1 : Y23) (a0 : Y9) : Option Bool :=
(F48 (a0.1, (0 : Int), (99 : Int))).bind fun (r1 : Bool) => (
cond (!r1) (
some false) (
cond (decide (a0.2.1 < (0 : Int))) (
some false) (
cond (decide (a0.2.2.1 < a0.2.1)) (
some false) (
cond (decide ((99 : Int) < a0.2.2.1)) (
some false) (
(F48 ((↑(List.length a0.2.2.2.1) : Int), (1 : Int), (6 : Int))).bind fun (r2 : Bool) => (
cond (!r2) (
some false) (
cond (decide ((4 : Int) < (↑(List.length a0.2.2.2.2.1) : Int))) (
some false) (
(F48 (a0.2.2.2.2.2.1, (0 : Int), (10000000 : Int))).bind fun (r3 : Bool) => (
cond (!r3) (
some false) (
(F48 (a0.2.2.2.2.2.2.2.1, (0 : Int), (10000000 : Int))).bind fun (r4 : Bool) => (
cond (!r4) (
some false) (
(F48 (a0.2.2.2.2.2.2.1, (0 : Int), (1000 : Int))).bind fun (r5 : Bool) => (
cond (!r5) (
some false) (
(F48 (a0.2.2.2.2.2.2.2.2, (0 : Int), (100000000 : Int))).bind fun (r6 : Bool) => (
cond (!r6) (
some false) (
(l67_0 ((0 : Int), a0)).bind (fun (y8 : Y10 ⊕ Y9) => Sum.elim (fun (y9 : Y10) => (
some y9.1)) (fun (y10 : Y9) => (
(l67_1 ((0 : Int), y10)).bind (fun (y13 : Y10 ⊕ Y9) => Sum.elim (fun (y14 : Y10) => (
some y14.1)) (fun (y15 : Y9) => (
some true)) y13))) y8)))))))))))))))))
theorem g67 (F48 : Y4) (a0 : Y9) : dxf (T67 F48) sh67 [(.t 2)] c67 a0 = q67 F48 (l67_0 (T67 F48)) (l67_1 (T67 F48)) a0 := by kernel_rfl
noncomputable def p67 (a0 : Y9) : Option Bool := q67 P48 L67_0 L67_1 a0
noncomputable def P67 : Y11 := fun x => p67 x
theorem v67 : dxf (T67 P48) sh67 [(.t 2)] c67 = P67 := funext fun x => (g67 P48 x).trans (show q67 P48 (l67_0 (T67 P48)) (l67_1 (T67 P48)) x = q67 P48 L67_0 L67_1 x from by rw [v67_0, v67_1])
theorem d67 : DC Try.prog 67 sh67 P67 := DC_eq v67 (dxf_sound (sh := sh67) t67 ok67 (by kernel_rfl))
noncomputable def T43 (F67 : Y11) (F48 : Y4) : List FEnt := [⟨67, sh67, F67⟩, ⟨48, sh48, F48⟩]
theorem t43 : DTblOK Try.prog (T43 P67 P48) := (DTbl_cons' (f := 67) (sh := sh67) (F := P67) d67 (by kernel_rfl) (DTbl_cons' (f := 48) (sh := sh48) (F := P48) d48 (by kernel_rfl) DTbl_nil))
def b43_1 : DCode := (.seq (.seq (.reg [o 19 (.mov (.t 4)),
  o 20 (.mov (.t 3)),
  o 21 (.bin true .lss (.t 19) (.t 20))]) (.cond (.t 21) .skip (.exit 2))) (.seq (.blk 3 (.seq (.drw [] [r 24 (.fld (.t 1) 1),
  r 25 (.ld1 (.t 24) false),
  r 26 (.mov (.t 4)),
  r 27 (.idx (.t 25) (.t 26) 9),
  r 28 (.fld (.t 27) 0),
  r 29 (.ld1 (.t 28) false),
  r 30 (.fld (.t 1) 1),
  r 31 (.ld1 (.t 30) false),
  r 32 (.mov (.t 3)),
  r 33 (.idx (.t 31) (.t 32) 9),
  r 34 (.fld (.t 33) 0),
  r 35 (.ld1 (.t 34) false),
  r 36 (.bin true .eql (.t 29) (.t 35))]) (.cond (.t 36) (.seq (.reg [o 2 (.mov (.c (.bool false)))]) .ret) .skip))) (.reg [o 22 (.mov (.t 4)),
  o 23 (.bin true .add (.t 22) (.c (.int .i64 1))),
  o 4 (.mov (.t 23))])))
def h43_1 : LSh := ⟨[1, 3, 4], ⟨[(.ptr 0 0), (.v y6), (.v y6)], [(0, (.boxT y69))]⟩, [y6, y6, y69], 1, [0]⟩
def x43_1 : List XSh := [⟨.ret, [2], ⟨⟨[(.v .bool)], [(0, (.boxT y69))]⟩, [.bool, y69], [0], 1⟩⟩, ⟨(.exit 2), [1, 3], ⟨⟨[(.ptr 0 0), (.v y6)], [(0, (.boxT y69))]⟩, [y6, y69], [0], 1⟩⟩]
noncomputable def s43_1 (T : List FEnt) : Y55 := dstep (xs := x43_1) h43_1 (dxc T b43_1)
noncomputable def l43_1 (T : List FEnt) : Y45 := whileF (s43_1 T)
noncomputable def q43_1 (F67 : Y11) (F48 : Y4) (a0 : Int) (a1 : Int) (a2 : Y20) : Option Y50 :=
cond (decide (a1 < a0)) (
chk (inR a1 (List.length a2.2.1)) (
chk (inR a0 (List.length a2.2.1)) (
cond (decide ((ix a2.2.1 a1).1 = (ix a2.2.1 a0).1)) (
some (Sum.inr (Sum.inl (false, a2)))) (
chk (fits .i64 (a1 + (1 : Int))) (
some (Sum.inl (a0, (a1 + (1 : Int)), a2))))))) (
some (Sum.inr (Sum.inr (a0, a2))))
theorem g43_1 (F67 : Y11) (F48 : Y4) (a0 : Int) (a1 : Int) (a2 : Y20) : s43_1 (T43 F67 F48) (a0, a1, a2) = q43_1 F67 F48 a0 a1 a2 := by kernel_rfl
noncomputable def p43_1 (a0 : Int) (a1 : Int) (a2 : Y20) : Option Y50 := q43_1 P67 P48 a0 a1 a2
noncomputable def L43_1 : Y45 := whileF (fun x => p43_1 x.1 x.2.1 x.2.2)
theorem v43_1 : l43_1 (T43 P67 P48) = L43_1 := congrArg whileF (funext fun x => (g43_1 P67 P48 x.1 x.2.1 x.2.2).trans (show q43_1 P67 P48 x.1 x.2.1 x.2.2 = q43_1 P67 P48 x.1 x.2.1 x.2.2 from rfl))
def b43_0 : DCode := (.seq (.seq (.reg [o 5 (.mov (.t 3)),
  o 6 (.fld (.t 1) 1),
  o 7 (.ld1 (.t 6) false),
  o 8 (.len (.t 7)),
  o 9 (.bin true .lss (.t 5) (.t 8))]) (.cond (.t 9) .skip (.exit 0))) (.seq (.blk 1 (.seq (.seq (.reg [o 12 (.fld (.t 1) 1),
  o 13 (.ld1 (.t 12) false),
  o 14 (.mov (.t 3)),
  o 15 (.idx (.t 13) (.t 14) 9),
  o 16 (.ldn (.t 15) 9 false),
  o 17 (.xcall 67 [(.t 16)]),
  o 18 (.unot (.t 17))]) (.cond (.t 18) (.seq (.reg [o 2 (.mov (.c (.bool false)))]) .ret) .skip)) (.seq (.reg [o 4 (.mov (.c (.int .i64 0)))]) (.blk 2 (.loop h43_1 x43_1 b43_1))))) (.reg [o 10 (.mov (.t 3)),
  o 11 (.bin true .add (.t 10) (.c (.int .i64 1))),
  o 3 (.mov (.t 11))])))
def h43_0 : LSh := ⟨[1, 3], ⟨[(.ptr 0 0), (.v y6)], [(0, (.boxT y69))]⟩, [y6, y69], 1, [0]⟩
def x43_0 : List XSh := [⟨.ret, [2], ⟨⟨[(.v .bool)], [(0, (.boxT y69))]⟩, [.bool, y69], [0], 1⟩⟩, ⟨(.exit 0), [1], ⟨⟨[(.ptr 0 0)], [(0, (.boxT y69))]⟩, [y69], [0], 1⟩⟩]
noncomputable def s43_0 (T : List FEnt) : Y54 := dstep (xs := x43_0) h43_0 (dxc T b43_0)
noncomputable def l43_0 (T : List FEnt) : Y44 := whileF (s43_0 T)
noncomputable def q43_0 (F67 : Y11) (F48 : Y4) (l43_1 : Y45) (a0 : Int) (a1 : Y20) : Option Y49 :=
cond (decide (a0 < (↑(List.length a1.2.1) : Int))) (
chk (inR a0 (List.length a1.2.1)) (
(F67 (ix a1.2.1 a0)).bind fun (r1 : Bool) => (
cond (!r1) (
some (Sum.inr (Sum.inl (false, a1)))) (
(l43_1 (a0, (0 : Int), a1)).bind (fun (y2 : Y21 ⊕ Y24) => Sum.elim (fun (y3 : Y21) => (
some (Sum.inr (Sum.inl (y3.1, y3.2))))) (fun (y4 : Y24) => (
chk (fits .i64 (y4.1 + (1 : Int))) (
some (Sum.inl ((y4.1 + (1 : Int)), y4.2))))) y2))))) (
some (Sum.inr (Sum.inr a1)))
theorem g43_0 (F67 : Y11) (F48 : Y4) (a0 : Int) (a1 : Y20) : s43_0 (T43 F67 F48) (a0, a1) = q43_0 F67 F48 (l43_1 (T43 F67 F48)) a0 a1 := by kernel_rfl
noncomputable def p43_0 (a0 : Int) (a1 : Y20) : Option Y49 := q43_0 P67 P48 L43_1 a0 a1
noncomputable def L43_0 : Y44 := whileF (fun x => p43_0 x.1 x.2)
theorem v43_0 : l43_0 (T43 P67 P48) = L43_0 := congrArg whileF (funext fun x => (g43_0 P67 P48 x.1 x.2).trans (show q43_0 P67 P48 (l43_1 (T43 P67 P48)) x.1 x.2 = q43_0 P67 P48 L43_1 x.1 x.2 from by rw [v43_1]))
def c43 : DCode := (.seq (.reg [o 1 (.box (.t 0)),
  o 2 (.mov (.c (.bool false)))]) (.seq (.seq (.reg [o 3 (.mov (.c (.int .i64 0)))]) (.blk 0 (.loop h43_0 x43_0 b43_0))) (.seq (.reg [o 37 (.fld (.t 1) 0),
  o 38 (.ld1 (.t 37) false),
  o 39 (.xcall 48 [(.t 38), (.c (.int .i64 0)), (.c (.int .i64 500))]),
  o 40 (.mov (.t 39)),
  og 41 40 true (.fld (.t 1) 1),
  og 42 40 true (.ld1 (.t 41) false),
  og 43 40 true (.len (.t 42)),
  og 44 40 true (.bin true .leq (.t 43) (.c (.int .i64 6))),
  o 45 (.pick (.t 40) (.t 44) (.c (.bool false))),
  o 2 (.mov (.t 45))]) .ret)))
theorem ok43 : L.Fn Try.prog 43 46 [(.t 2)] (erase c43) := L.Fn.of hmix Try.func43 [] (by kernel_rfl)
def sh43 : FSh := ⟨⟨[(.st y69)], []⟩, [y69], 0, ⟨⟨[(.v .bool)], []⟩, [.bool], [], 0⟩, true⟩
noncomputable def q43 (F67 : Y11) (F48 : Y4) (l43_0 : Y44) (a0 : Y20) : Option Bool :=
(l43_0 ((0 : Int), a0)).bind (fun (y5 : Y21 ⊕ Y20) => Sum.elim (fun (y6 : Y21) => (
some y6.1)) (fun (y7 : Y20) => (
(F48 (y7.1, (0 : Int), (500 : Int))).bind fun (r8 : Bool) => (
cond r8 (
some (decide ((↑(List.length y7.2.1) : Int) ≤ (6 : Int)))) (
some false)))) y5)
theorem g43 (F67 : Y11) (F48 : Y4) (a0 : Y20) : dxf (T43 F67 F48) sh43 [(.t 2)] c43 a0 = q43 F67 F48 (l43_0 (T43 F67 F48)) a0 := by kernel_rfl
noncomputable def p43 (a0 : Y20) : Option Bool := q43 P67 P48 L43_0 a0
noncomputable def P43 : Y22 := fun x => p43 x
theorem v43 : dxf (T43 P67 P48) sh43 [(.t 2)] c43 = P43 := funext fun x => (g43 P67 P48 x).trans (show q43 P67 P48 (l43_0 (T43 P67 P48)) x = q43 P67 P48 L43_0 x from by rw [v43_0])
theorem d43 : DC Try.prog 43 sh43 P43 := DC_eq v43 (dxf_sound (sh := sh43) t43 ok43 (by kernel_rfl))
noncomputable def T16 : List FEnt := []
theorem t16 : DTblOK Try.prog T16 := DTbl_nil
def b16_0 : DCode := (.seq (.seq (.reg [o 7 (.mov (.t 6)),
  o 8 (.fld (.t 2) 1),
  o 9 (.ld1 (.t 8) false),
  o 10 (.len (.t 9)),
  o 11 (.bin true .lss (.t 7) (.t 10))]) (.cond (.t 11) .skip (.exit 0))) (.seq (.blk 1 (.seq (.reg [o 14 (.fld (.t 2) 1),
  o 15 (.ld1 (.t 14) false),
  o 16 (.mov (.t 6)),
  o 17 (.idx (.t 15) (.t 16) 9),
  o 18 (.fld (.t 17) 0),
  o 19 (.ld1 (.t 18) false),
  o 20 (.mov (.t 1)),
  o 21 (.bin true .eql (.t 19) (.t 20))]) (.cond (.t 21) (.seq (.reg [o 22 (.fld (.t 2) 1),
  o 23 (.ld1 (.t 22) false),
  o 24 (.mov (.t 6)),
  o 25 (.idx (.t 23) (.t 24) 9),
  o 26 (.ldn (.t 25) 9 false),
  .op ⟨none, .sto (.t 4) (.t 26) 9, none⟩ none,
  o 5 (.mov (.c (.bool true)))]) .ret) .skip))) (.reg [o 12 (.mov (.t 6)),
  o 13 (.bin true .add (.t 12) (.c (.int .i64 1))),
  o 6 (.mov (.t 13))])))
def h16_0 : LSh := ⟨[1, 2, 4, 6], ⟨[(.v y6), (.ptr 0 0), (.ptr 1 0), (.v y6)], [(0, (.boxT y69)), (1, (.box [(.v y6), (.v y6), (.v y6), .emp, .emp, (.v y6), (.v y6), (.v y6), (.v y6)]))]⟩, [y6, y6, y69, y6, y6, y6, y6, y6, y6, y6], 2, [0, 1]⟩
def x16_0 : List XSh := [⟨.ret, [4, 5], ⟨⟨[(.ptr 1 0), (.v .bool)], [(0, (.boxT y69)), (1, (.boxT y66))]⟩, [.bool, y69, y66], [0, 1], 2⟩⟩, ⟨(.exit 0), [4], ⟨⟨[(.ptr 1 0)], [(0, (.boxT y69)), (1, (.box [(.v y6), (.v y6), (.v y6), .emp, .emp, (.v y6), (.v y6), (.v y6), (.v y6)]))]⟩, [y69, y6, y6, y6, y6, y6, y6, y6], [0, 1], 2⟩⟩]
noncomputable def s16_0 (T : List FEnt) : Y63 := dstep (xs := x16_0) h16_0 (dxc T b16_0)
noncomputable def l16_0 (T : List FEnt) : Y56 := whileF (s16_0 T)
noncomputable def q16_0 (a0 : Int) (a1 : Int) (a2 : Y20) (a3 : Int) (a4 : Int) (a5 : Int) (a6 : Int) (a7 : Int) (a8 : Int) (a9 : Int) : Option Y61 :=
cond (decide (a1 < (↑(List.length a2.2.1) : Int))) (
chk (inR a1 (List.length a2.2.1)) (
cond (decide ((ix a2.2.1 a1).1 = a0)) (
chk (inR a1 (List.length a2.2.1)) (
some (Sum.inr (Sum.inl (true, a2, (ix a2.2.1 a1)))))) (
chk (fits .i64 (a1 + (1 : Int))) (
some (Sum.inl (a0, (a1 + (1 : Int)), a2, a3, a4, a5, a6, a7, a8, a9)))))) (
some (Sum.inr (Sum.inr (a2, a3, a4, a5, a6, a7, a8, a9))))
theorem g16_0 (a0 : Int) (a1 : Int) (a2 : Y20) (a3 : Int) (a4 : Int) (a5 : Int) (a6 : Int) (a7 : Int) (a8 : Int) (a9 : Int) : s16_0 T16 (a0, a1, a2, a3, a4, a5, a6, a7, a8, a9) = q16_0 a0 a1 a2 a3 a4 a5 a6 a7 a8 a9 := by kernel_rfl
noncomputable def p16_0 (a0 : Int) (a1 : Int) (a2 : Y20) (a3 : Int) (a4 : Int) (a5 : Int) (a6 : Int) (a7 : Int) (a8 : Int) (a9 : Int) : Option Y61 := q16_0 a0 a1 a2 a3 a4 a5 a6 a7 a8 a9
noncomputable def L16_0 : Y56 := whileF (fun x => p16_0 x.1 x.2.1 x.2.2.1 x.2.2.2.1 x.2.2.2.2.1 x.2.2.2.2.2.1 x.2.2.2.2.2.2.1 x.2.2.2.2.2.2.2.1 x.2.2.2.2.2.2.2.2.1 x.2.2.2.2.2.2.2.2.2)
theorem v16_0 : l16_0 T16 = L16_0 := congrArg whileF (funext fun x => (g16_0 x.1 x.2.1 x.2.2.1 x.2.2.2.1 x.2.2.2.2.1 x.2.2.2.2.2.1 x.2.2.2.2.2.2.1 x.2.2.2.2.2.2.2.1 x.2.2.2.2.2.2.2.2.1 x.2.2.2.2.2.2.2.2.2).trans (show q16_0 x.1 x.2.1 x.2.2.1 x.2.2.2.1 x.2.2.2.2.1 x.2.2.2.2.2.1 x.2.2.2.2.2.2.1 x.2.2.2.2.2.2.2.1 x.2.2.2.2.2.2.2.2.1 x.2.2.2.2.2.2.2.2.2 = q16_0 x.1 x.2.1 x.2.2.1 x.2.2.2.1 x.2.2.2.2.1 x.2.2.2.2.2.1 x.2.2.2.2.2.2.1 x.2.2.2.2.2.2.2.1 x.2.2.2.2.2.2.2.2.1 x.2.2.2.2.2.2.2.2.2 from rfl))
def c16 : DCode := (.seq (.reg [o 2 (.box (.t 0)),
  o 4 (.alc [(.int .i64 0), (.int .i64 0), (.int .i64 0), .emp, .emp, (.int .i64 0), (.int .i64 0), (.int .i64 0), (.int .i64 0)]),
  o 5 (.mov (.c (.bool false)))]) (.seq (.seq (.reg [o 6 (.mov (.c (.int .i64 0)))]) (.blk 0 (.loop h16_0 x16_0 b16_0))) (.seq (.reg [o 27 (.bld [(.int .i64 0), (.int .i64 0), (.int .i64 0), .emp, .emp, (.int .i64 0), (.int .i64 0), (.int .i64 0), (.int .i64 0)] []),
  .op ⟨none, .sto (.t 4) (.t 27) 9, none⟩ none,
  o 5 (.mov (.c (.bool false)))]) .ret)))
theorem ok16 : L.Fn Try.prog 16 28 [(.cell 4 true 9), (.t 5)] (erase c16) := L.Fn.of hmix Try.func16 [] (by kernel_rfl)
def sh16 : FSh := ⟨⟨[(.st y69), (.v y6)], []⟩, [y69, y6], 0, ⟨⟨[(.tup [(.st y66), (.v .bool)])], []⟩, [y66, .bool], [], 0⟩, false⟩
noncomputable def q16 (l16_0 : Y56) (a0 : Y20) (a1 : Int) : Option Y19 :=
(l16_0 (a1, (0 : Int), a0, (0 : Int), (0 : Int), (0 : Int), (0 : Int), (0 : Int), (0 : Int), (0 : Int))).bind (fun (y1 : Y31 ⊕ Y32) => Sum.elim (fun (y2 : Y31) => (
some (y2.2.2, y2.1))) (fun (y3 : Y32) => (
some (((0 : Int), ((0 : Int), ((0 : Int), (([] : List Int), (([] : List Y2), ((0 : Int), ((0 : Int), ((0 : Int), (0 : Int))))))))), false))) y1)
theorem g16 (a0 : Y20) (a1 : Int) : dxf T16 sh16 [(.cell 4 true 9), (.t 5)] c16 (a0, a1) = q16 (l16_0 T16) a0 a1 := by kernel_rfl
noncomputable def p16 (a0 : Y20) (a1 : Int) : Option Y19 := q16 L16_0 a0 a1
noncomputable def P16 : Y33 := fun x => p16 x.1 x.2
theorem v16 : dxf T16 sh16 [(.cell 4 true 9), (.t 5)] c16 = P16 := funext fun x => (g16 x.1 x.2).trans (show q16 (l16_0 T16) x.1 x.2 = q16 L16_0 x.1 x.2 from by rw [v16_0])
theorem d16 : DC Try.prog 16 sh16 P16 := DC_eq v16 (dxf_sound (sh := sh16) t16 ok16 (by kernel_rfl))
noncomputable def T44 (F16 : Y33) (F48 : Y4) : List FEnt := [⟨16, sh16, F16⟩, ⟨48, sh48, F48⟩]
theorem t44 : DTblOK Try.prog (T44 P16 P48) := (DTbl_cons' (f := 16) (sh := sh16) (F := P16) d16 (by kernel_rfl) (DTbl_cons' (f := 48) (sh := sh48) (F := P48) d48 (by kernel_rfl) DTbl_nil))
def b44_1 : DCode := (.seq (.seq (.reg [o 67 (.mov (.t 9)),
  o 68 (.mov (.t 5)),
  o 69 (.bin true .lss (.t 67) (.t 68))]) (.cond (.t 69) .skip (.exit 2))) (.seq (.blk 3 (.seq (.drw [] [r 72 (.mov (.t 1)),
  r 73 (.mov (.t 9)),
  r 74 (.idx (.t 72) (.t 73) 6),
  r 75 (.fld (.t 74) 0),
  r 76 (.ld1 (.t 75) false),
  r 77 (.fld (.t 6) 0),
  r 78 (.ld1 (.t 77) false),
  r 79 (.bin true .eql (.t 76) (.t 78)),
  r 80 (.mov (.t 79)),
  (⟨some 81, .mov (.t 1), some (80, true)⟩, none),
  (⟨some 82, .mov (.t 9), some (80, true)⟩, none),
  (⟨some 83, .idx (.t 81) (.t 82) 6, some (80, true)⟩, none),
  (⟨some 84, .ldn (.t 83) 6 false, some (80, true)⟩, none),
  (⟨some 85, .ldn (.t 6) 6 false, some (80, true)⟩, none),
  (⟨some 86, .eqs true 6 (.t 84) (.t 85), some (80, true)⟩, none),
  r 87 (.pick (.t 80) (.t 86) (.c (.bool false)))]) (.cond (.t 87) (.seq (.reg [o 4 (.mov (.c (.bool false)))]) .ret) .skip))) (.reg [o 70 (.mov (.t 9)),
  o 71 (.bin true .add (.t 70) (.c (.int .i64 1))),
  o 9 (.mov (.t 71))])))
def h44_1 : LSh := ⟨[1, 2, 5, 6, 9, 32, 52, 58, 64], ⟨[(.v y60), (.ptr 0 0), (.v y6), (.ptr 1 0), (.v y6), (.v .bool), (.v .bool), (.v .bool), (.v .bool)], [(0, (.boxT y69)), (1, (.boxT y48))]⟩, [y60, y6, y6, .bool, .bool, .bool, .bool, y69, y48], 2, [0, 1]⟩
def x44_1 : List XSh := [⟨.ret, [4], ⟨⟨[(.v .bool)], [(0, (.boxT y69)), (1, (.boxT y48))]⟩, [.bool, y69, y48], [0, 1], 2⟩⟩, ⟨(.exit 2), [1, 2, 5, 32, 52, 58, 64], ⟨⟨[(.v y60), (.ptr 0 0), (.v y6), (.v .bool), (.v .bool), (.v .bool), (.v .bool)], [(0, (.boxT y69)), (1, (.boxT y48))]⟩, [y60, y6, .bool, .bool, .bool, .bool, y69, y48], [0, 1], 2⟩⟩]
noncomputable def s44_1 (T : List FEnt) : Y64 := dstep (xs := x44_1) h44_1 (dxc T b44_1)
noncomputable def l44_1 (T : List FEnt) : Y57 := whileF (s44_1 T)
noncomputable def q44_1 (F16 : Y33) (F48 : Y4) (a0 : List Y3) (a1 : Int) (a2 : Int) (a3 : Bool) (a4 : Bool) (a5 : Bool) (a6 : Bool) (a7 : Y20) (a8 : Y3) : Option Y62 :=
cond (decide (a2 < a1)) (
chk (inR a2 (List.length a0)) (
cond (decide ((ix a0 a2).1 = a8.1)) (
chk (inR a2 (List.length a0)) (
cond (!(((((decide ((ix a0 a2).1 = a8.1) && decide ((ix a0 a2).2.1 = a8.2.1)) && decide ((ix a0 a2).2.2.1 = a8.2.2.1)) && decide ((ix a0 a2).2.2.2.1 = a8.2.2.2.1)) && decide ((ix a0 a2).2.2.2.2.1 = a8.2.2.2.2.1)) && decide ((ix a0 a2).2.2.2.2.2 = a8.2.2.2.2.2))) (
some (Sum.inr (Sum.inl (false, a7, a8)))) (
chk (fits .i64 (a2 + (1 : Int))) (
some (Sum.inl (a0, a1, (a2 + (1 : Int)), a3, a4, a5, a6, a7, a8)))))) (
chk (fits .i64 (a2 + (1 : Int))) (
some (Sum.inl (a0, a1, (a2 + (1 : Int)), a3, a4, a5, a6, a7, a8)))))) (
some (Sum.inr (Sum.inr (a0, a1, a3, a4, a5, a6, a7, a8))))
theorem g44_1 (F16 : Y33) (F48 : Y4) (a0 : List Y3) (a1 : Int) (a2 : Int) (a3 : Bool) (a4 : Bool) (a5 : Bool) (a6 : Bool) (a7 : Y20) (a8 : Y3) : s44_1 (T44 F16 F48) (a0, a1, a2, a3, a4, a5, a6, a7, a8) = q44_1 F16 F48 a0 a1 a2 a3 a4 a5 a6 a7 a8 := by kernel_rfl
noncomputable def p44_1 (a0 : List Y3) (a1 : Int) (a2 : Int) (a3 : Bool) (a4 : Bool) (a5 : Bool) (a6 : Bool) (a7 : Y20) (a8 : Y3) : Option Y62 := q44_1 P16 P48 a0 a1 a2 a3 a4 a5 a6 a7 a8
noncomputable def L44_1 : Y57 := whileF (fun x => p44_1 x.1 x.2.1 x.2.2.1 x.2.2.2.1 x.2.2.2.2.1 x.2.2.2.2.2.1 x.2.2.2.2.2.2.1 x.2.2.2.2.2.2.2.1 x.2.2.2.2.2.2.2.2)
theorem v44_1 : l44_1 (T44 P16 P48) = L44_1 := congrArg whileF (funext fun x => (g44_1 P16 P48 x.1 x.2.1 x.2.2.1 x.2.2.2.1 x.2.2.2.2.1 x.2.2.2.2.2.1 x.2.2.2.2.2.2.1 x.2.2.2.2.2.2.2.1 x.2.2.2.2.2.2.2.2).trans (show q44_1 P16 P48 x.1 x.2.1 x.2.2.1 x.2.2.2.1 x.2.2.2.2.1 x.2.2.2.2.2.1 x.2.2.2.2.2.2.1 x.2.2.2.2.2.2.2.1 x.2.2.2.2.2.2.2.2 = q44_1 P16 P48 x.1 x.2.1 x.2.2.1 x.2.2.2.1 x.2.2.2.2.1 x.2.2.2.2.2.1 x.2.2.2.2.2.2.1 x.2.2.2.2.2.2.2.1 x.2.2.2.2.2.2.2.2 from rfl))
def b44_0 : DCode := (.seq (.seq (.reg [o 10 (.mov (.t 5)),
  o 11 (.mov (.t 1)),
  o 12 (.len (.t 11)),
  o 13 (.bin true .lss (.t 10) (.t 12))]) (.cond (.t 13) .skip (.exit 0))) (.seq (.blk 1 (.seq (.reg [o 16 (.mov (.t 1)),
  o 17 (.mov (.t 5)),
  o 18 (.idx (.t 16) (.t 17) 6),
  o 19 (.ldn (.t 18) 6 false),
  o 6 (.alc [(.int .i64 0), (.int .i64 0), (.int .i64 0), (.int .i64 0), (.int .i64 0), (.int .i64 0)]),
  .op ⟨none, .sto (.t 6) (.t 19) 6, none⟩ none]) (.seq (.reg [o 21 (.ldn (.t 2) 3 false),
  o 22 (.fld (.t 6) 2),
  o 23 (.ld1 (.t 22) false),
  o 24 (.xcall 16 [(.t 21), (.t 23)]),
  o 20 (.mov (.t 24)),
  o 25 (.ext (.t 20) 0),
  o 26 (.ext (.t 20) 1),
  o 7 (.alc [(.int .i64 0), (.int .i64 0), (.int .i64 0), .emp, .emp, (.int .i64 0), (.int .i64 0), (.int .i64 0), (.int .i64 0)]),
  .op ⟨none, .sto (.t 7) (.t 25) 9, none⟩ none,
  o 8 (.mov (.t 26))]) (.seq (.seq (.reg [o 27 (.mov (.t 8)),
  o 28 (.unot (.t 27)),
  o 29 (.mov (.t 28)),
  og 30 29 false (.fld (.t 6) 0),
  og 31 29 false (.ld1 (.t 30) false),
  og 32 29 false (.xcall 48 [(.t 31), (.c (.int .i64 0)), (.c (.int .i64 99))]),
  og 33 29 false (.unot (.t 32)),
  o 34 (.pick (.t 29) (.c (.bool true)) (.t 33)),
  o 35 (.mov (.t 34)),
  og 36 35 false (.fld (.t 6) 1),
  og 37 35 false (.ld1 (.t 36) false),
  og 38 35 false (.bin true .neq (.t 37) (.c (.int .i64 1))),
  og 39 35 false (.mov (.t 38)),
  og 40 39 true (.fld (.t 6) 1),
  og 41 39 true (.ld1 (.t 40) false),
  og 42 39 true (.bin true .neq (.t 41) (.c (.int .i64 2))),
  og 43 35 false (.pick (.t 39) (.t 42) (.c (.bool false))),
  o 44 (.pick (.t 35) (.c (.bool true)) (.t 43)),
  o 45 (.mov (.t 44)),
  og 46 45 false (.fld (.t 6) 3),
  og 47 45 false (.ld1 (.t 46) false),
  og 48 45 false (.fld (.t 7) 1),
  og 49 45 false (.ld1 (.t 48) false),
  og 50 45 false (.fld (.t 7) 2),
  og 51 45 false (.ld1 (.t 50) false),
  og 52 45 false (.xcall 48 [(.t 47), (.t 49), (.t 51)]),
  og 53 45 false (.unot (.t 52)),
  o 54 (.pick (.t 45) (.c (.bool true)) (.t 53)),
  o 55 (.mov (.t 54)),
  og 56 55 false (.fld (.t 6) 4),
  og 57 55 false (.ld1 (.t 56) false),
  og 58 55 false (.xcall 48 [(.t 57), (.c (.int .i64 0)), (.c (.int .i64 9))]),
  og 59 55 false (.unot (.t 58)),
  o 60 (.pick (.t 55) (.c (.bool true)) (.t 59)),
  o 61 (.mov (.t 60)),
  og 62 61 false (.fld (.t 6) 5),
  og 63 61 false (.ld1 (.t 62) false),
  og 64 61 false (.xcall 48 [(.t 63), (.c (.int .i64 0)), (.c (.int .i64 10000000))]),
  og 65 61 false (.unot (.t 64)),
  o 66 (.pick (.t 61) (.c (.bool true)) (.t 65))]) (.cond (.t 66) (.seq (.reg [o 4 (.mov (.c (.bool false)))]) .ret) .skip)) (.seq (.reg [o 9 (.mov (.c (.int .i64 0)))]) (.blk 2 (.loop h44_1 x44_1 b44_1))))))) (.reg [o 14 (.mov (.t 5)),
  o 15 (.bin true .add (.t 14) (.c (.int .i64 1))),
  o 5 (.mov (.t 15))])))
def h44_0 : LSh := ⟨[1, 2, 5], ⟨[(.v y60), (.ptr 0 0), (.v y6)], [(0, (.boxT y69))]⟩, [y60, y6, y69], 1, [0]⟩
def x44_0 : List XSh := [⟨.ret, [4], ⟨⟨[(.v .bool)], [(0, (.boxT y69))]⟩, [.bool, y69], [0], 1⟩⟩, ⟨(.exit 0), [], ⟨⟨[], [(0, (.boxT y69))]⟩, [y69], [0], 1⟩⟩]
noncomputable def s44_0 (T : List FEnt) : Y58 := dstep (xs := x44_0) h44_0 (dxc T b44_0)
noncomputable def l44_0 (T : List FEnt) : Y46 := whileF (s44_0 T)
noncomputable def q44_0 (F16 : Y33) (F48 : Y4) (l44_1 : Y57) (a0 : List Y3) (a1 : Int) (a2 : Y20) : Option Y53 :=
cond (decide (a1 < (↑(List.length a0) : Int))) (
chk (inR a1 (List.length a0)) (
(F16 (a2, (ix a0 a1).2.2.1)).bind fun (r1 : Y9 × Bool) => (
cond (!r1.2) (
some (Sum.inr (Sum.inl (false, a2)))) (
(F48 ((ix a0 a1).1, (0 : Int), (99 : Int))).bind fun (r2 : Bool) => (
cond (!r2) (
some (Sum.inr (Sum.inl (false, a2)))) (
cond (!decide ((ix a0 a1).2.1 = (1 : Int))) (
cond (!decide ((ix a0 a1).2.1 = (2 : Int))) (
some (Sum.inr (Sum.inl (false, a2)))) (
(F48 ((ix a0 a1).2.2.2.1, r1.1.2.1, r1.1.2.2.1)).bind fun (r3 : Bool) => (
cond (!r3) (
some (Sum.inr (Sum.inl (false, a2)))) (
(F48 ((ix a0 a1).2.2.2.2.1, (0 : Int), (9 : Int))).bind fun (r4 : Bool) => (
cond (!r4) (
some (Sum.inr (Sum.inl (false, a2)))) (
(F48 ((ix a0 a1).2.2.2.2.2, (0 : Int), (10000000 : Int))).bind fun (r5 : Bool) => (
cond (!r5) (
some (Sum.inr (Sum.inl (false, a2)))) (
(l44_1 (a0, a1, (0 : Int), r2, r3, r4, r5, a2, (ix a0 a1))).bind (fun (y6 : Y34 ⊕ Y35) => Sum.elim (fun (y7 : Y34) => (
some (Sum.inr (Sum.inl (y7.1, y7.2.1))))) (fun (y8 : Y35) => (
chk (fits .i64 (y8.2.1 + (1 : Int))) (
some (Sum.inl (y8.1, (y8.2.1 + (1 : Int)), y8.2.2.2.2.2.2.1))))) y6))))))))) (
(F48 ((ix a0 a1).2.2.2.1, r1.1.2.1, r1.1.2.2.1)).bind fun (r9 : Bool) => (
cond (!r9) (
some (Sum.inr (Sum.inl (false, a2)))) (
(F48 ((ix a0 a1).2.2.2.2.1, (0 : Int), (9 : Int))).bind fun (r10 : Bool) => (
cond (!r10) (
some (Sum.inr (Sum.inl (false, a2)))) (
(F48 ((ix a0 a1).2.2.2.2.2, (0 : Int), (10000000 : Int))).bind fun (r11 : Bool) => (
cond (!r11) (
some (Sum.inr (Sum.inl (false, a2)))) (
(l44_1 (a0, a1, (0 : Int), r2, r9, r10, r11, a2, (ix a0 a1))).bind (fun (y12 : Y34 ⊕ Y35) => Sum.elim (fun (y13 : Y34) => (
some (Sum.inr (Sum.inl (y13.1, y13.2.1))))) (fun (y14 : Y35) => (
chk (fits .i64 (y14.2.1 + (1 : Int))) (
some (Sum.inl (y14.1, (y14.2.1 + (1 : Int)), y14.2.2.2.2.2.2.1))))) y12)))))))))))))) (
some (Sum.inr (Sum.inr a2)))
theorem g44_0 (F16 : Y33) (F48 : Y4) (a0 : List Y3) (a1 : Int) (a2 : Y20) : s44_0 (T44 F16 F48) (a0, a1, a2) = q44_0 F16 F48 (l44_1 (T44 F16 F48)) a0 a1 a2 := by kernel_rfl
noncomputable def p44_0 (a0 : List Y3) (a1 : Int) (a2 : Y20) : Option Y53 := q44_0 P16 P48 L44_1 a0 a1 a2
noncomputable def L44_0 : Y46 := whileF (fun x => p44_0 x.1 x.2.1 x.2.2)
theorem v44_0 : l44_0 (T44 P16 P48) = L44_0 := congrArg whileF (funext fun x => (g44_0 P16 P48 x.1 x.2.1 x.2.2).trans (show q44_0 P16 P48 (l44_1 (T44 P16 P48)) x.1 x.2.1 x.2.2 = q44_0 P16 P48 L44_1 x.1 x.2.1 x.2.2 from by rw [v44_1]))
def c44 : DCode := (.seq (.reg [o 2 (.box (.t 0)),
  o 4 (.mov (.c (.bool false)))]) (.seq (.seq (.reg [o 5 (.mov (.c (.int .i64 0)))]) (.blk 0 (.loop h44_0 x44_0 b44_0))) (.seq (.reg [o 4 (.mov (.c (.bool true)))]) .ret)))
theorem ok44 : L.Fn Try.prog 44 88 [(.t 4)] (erase c44) := L.Fn.of hmix Try.func44 [] (by kernel_rfl)
def sh44 : FSh := ⟨⟨[(.st y69), (.v y60)], []⟩, [y69, y60], 0, ⟨⟨[(.v .bool)], []⟩, [.bool], [], 0⟩, true⟩
noncomputable def q44 (F16 : Y33) (F48 : Y4) (l44_0 : Y46) (a0 : Y20) (a1 : List Y3) : Option Bool :=
(l44_0 (a1, (0 : Int), a0)).bind (fun (y15 : Y21 ⊕ Y20) => Sum.elim (fun (y16 : Y21) => (
some y16.1)) (fun (y17 : Y20) => (
some true)) y15)
theorem g44 (F16 : Y33) (F48 : Y4) (a0 : Y20) (a1 : List Y3) : dxf (T44 F16 F48) sh44 [(.t 4)] c44 (a0, a1) = q44 F16 F48 (l44_0 (T44 F16 F48)) a0 a1 := by kernel_rfl
noncomputable def p44 (a0 : Y20) (a1 : List Y3) : Option Bool := q44 P16 P48 L44_0 a0 a1
noncomputable def P44 : Y36 := fun x => p44 x.1 x.2
theorem v44 : dxf (T44 P16 P48) sh44 [(.t 4)] c44 = P44 := funext fun x => (g44 P16 P48 x.1 x.2).trans (show q44 P16 P48 (l44_0 (T44 P16 P48)) x.1 x.2 = q44 P16 P48 L44_0 x.1 x.2 from by rw [v44_0])
theorem d44 : DC Try.prog 44 sh44 P44 := DC_eq v44 (dxf_sound (sh := sh44) t44 ok44 (by kernel_rfl))
noncomputable def T20 (F43 : Y22) (F44 : Y36) : List FEnt := [⟨43, sh43, F43⟩, ⟨44, sh44, F44⟩]
theorem t20 : DTblOK Try.prog (T20 P43 P44) := (DTbl_cons' (f := 43) (sh := sh43) (F := P43) d43 (by kernel_rfl) (DTbl_cons' (f := 44) (sh := sh44) (F := P44) d44 (by kernel_rfl) DTbl_nil))
def c20 : DCode := (.seq (.reg [o 1 (.box (.t 0)),
  o 2 (.mov (.c (.int .i64 0)))]) (.seq (.seq (.reg [o 3 (.ldn (.t 1) 3 false),
  o 4 (.xcall 43 [(.t 3)]),
  o 5 (.unot (.t 4))]) (.cond (.t 5) (.seq (.reg [o 2 (.mov (.c (.int .i64 80)))]) .ret) .skip)) (.seq (.seq (.reg [o 6 (.fld (.t 1) 2),
  o 7 (.ld1 (.t 6) false),
  o 8 (.len (.t 7)),
  o 9 (.bin true .gtr (.t 8) (.c (.int .i64 40))),
  o 10 (.mov (.t 9)),
  og 11 10 false (.ldn (.t 1) 3 false),
  og 12 10 false (.fld (.t 1) 2),
  og 13 10 false (.ld1 (.t 12) false),
  og 14 10 false (.xcall 44 [(.t 11), (.t 13)]),
  og 15 10 false (.unot (.t 14)),
  o 16 (.pick (.t 10) (.c (.bool true)) (.t 15))]) (.cond (.t 16) (.seq (.reg [o 2 (.mov (.c (.int .i64 81)))]) .ret) .skip)) (.seq (.reg [o 2 (.mov (.c (.int .i64 0)))]) .ret))))
theorem ok20 : L.Fn Try.prog 20 17 [(.t 2)] (erase c20) := L.Fn.of hmix Try.func20 [] (by kernel_rfl)
def sh20 : FSh := ⟨⟨[(.st y69)], []⟩, [y69], 0, ⟨⟨[(.v y6)], []⟩, [y6], [], 0⟩, true⟩
noncomputable def q20 (F43 : Y22) (F44 : Y36) (a0 : Y20) : Option Int :=
(F43 a0).bind fun (r1 : Bool) => (
cond (!r1) (
some (80 : Int)) (
cond (decide ((40 : Int) < (↑(List.length a0.2.2) : Int))) (
some (81 : Int)) (
(F44 (a0, a0.2.2)).bind fun (r2 : Bool) => (
cond (!r2) (
some (81 : Int)) (
some (0 : Int))))))
theorem g20 (F43 : Y22) (F44 : Y36) (a0 : Y20) : dxf (T20 F43 F44) sh20 [(.t 2)] c20 a0 = q20 F43 F44 a0 := by kernel_rfl
noncomputable def p20 (a0 : Y20) : Option Int := q20 P43 P44 a0
noncomputable def P20 : Y25 := fun x => p20 x
theorem v20 : dxf (T20 P43 P44) sh20 [(.t 2)] c20 = P20 := funext fun x => (g20 P43 P44 x).trans (show q20 P43 P44 x = q20 P43 P44 x from rfl)
theorem d20 : DC Try.prog 20 sh20 P20 := DC_eq v20 (dxf_sound (sh := sh20) t20 ok20 (by kernel_rfl))
noncomputable def T14 (F23 : Y22) (F20 : Y25) (F16 : Y33) : List FEnt := [⟨23, sh23, F23⟩, ⟨20, sh20, F20⟩, ⟨16, sh16, F16⟩]
theorem t14 : DTblOK Try.prog (T14 P23 P20 P16) := (DTbl_cons' (f := 23) (sh := sh23) (F := P23) d23 (by kernel_rfl) (DTbl_cons' (f := 20) (sh := sh20) (F := P20) d20 (by kernel_rfl) (DTbl_cons' (f := 16) (sh := sh16) (F := P16) d16 (by kernel_rfl) DTbl_nil)))
def c14 : DCode := (.seq (.reg [o 2 (.box (.t 0)),
  o 3 (.box (.t 1)),
  o 4 (.mov (.c (.bool false)))]) (.seq (.seq (.reg [o 7 (.ldn (.t 2) 3 false),
  o 8 (.xcall 23 [(.t 7)]),
  o 9 (.mov (.t 8)),
  og 10 9 false (.ldn (.t 2) 3 false),
  og 11 9 false (.xcall 20 [(.t 10)]),
  og 12 9 false (.bin true .neq (.t 11) (.c (.int .i64 0))),
  o 13 (.pick (.t 9) (.c (.bool true)) (.t 12))]) (.cond (.t 13) (.seq (.reg [o 4 (.mov (.c (.bool false)))]) .ret) .skip)) (.seq (.reg [o 15 (.ldn (.t 2) 3 false),
  o 16 (.fld (.t 3) 0),
  o 17 (.ld1 (.t 16) false),
  o 18 (.xcall 16 [(.t 15), (.t 17)]),
  o 14 (.mov (.t 18)),
  o 19 (.ext (.t 14) 0),
  o 20 (.ext (.t 14) 1),
  o 5 (.alc [(.int .i64 0), (.int .i64 0), (.int .i64 0), .emp, .emp, (.int .i64 0), (.int .i64 0), (.int .i64 0), (.int .i64 0)]),
  .op ⟨none, .sto (.t 5) (.t 19) 9, none⟩ none,
  o 6 (.mov (.t 20))]) (.seq (.reg [o 21 (.mov (.t 6)),
  o 22 (.mov (.t 21)),
  og 23 22 true (.fld (.t 5) 1),
  og 24 22 true (.ld1 (.t 23) false),
  og 25 22 true (.fld (.t 3) 1),
  og 26 22 true (.ld1 (.t 25) false),
  og 27 22 true (.bin true .leq (.t 24) (.t 26)),
  o 28 (.pick (.t 22) (.t 27) (.c (.bool false))),
  o 29 (.mov (.t 28)),
  og 30 29 true (.fld (.t 3) 1),
  og 31 29 true (.ld1 (.t 30) false),
  og 32 29 true (.fld (.t 5) 2),
  og 33 29 true (.ld1 (.t 32) false),
  og 34 29 true (.bin true .leq (.t 31) (.t 33)),
  o 35 (.pick (.t 29) (.t 34) (.c (.bool false))),
  o 4 (.mov (.t 35))]) .ret))))
theorem ok14 : L.Fn Try.prog 14 36 [(.t 4)] (erase c14) := L.Fn.of hmix Try.func14 [] (by kernel_rfl)
def sh14 : FSh := ⟨⟨[(.st y69), (.st y16)], []⟩, [y69, y16], 0, ⟨⟨[(.v .bool)], []⟩, [.bool], [], 0⟩, true⟩
noncomputable def q14 (F23 : Y22) (F20 : Y25) (F16 : Y33) (a0 : Y20) (a1 : Y5) : Option Bool :=
(F23 a0).bind fun (r1 : Bool) => (
cond r1 (
some false) (
(F20 a0).bind fun (r2 : Int) => (
cond (!decide (r2 = (0 : Int))) (
some false) (
(F16 (a0, a1.1)).bind fun (r3 : Y9 × Bool) => (
cond r3.2 (
cond (decide (r3.1.2.1 ≤ a1.2.1)) (
some (decide (a1.2.1 ≤ r3.1.2.2.1))) (
some false)) (
some false))))))
theorem g14 (F23 : Y22) (F20 : Y25) (F16 : Y33) (a0 : Y20) (a1 : Y5) : dxf (T14 F23 F20 F16) sh14 [(.t 4)] c14 (a0, a1) = q14 F23 F20 F16 a0 a1 := by kernel_rfl
noncomputable def p14 (a0 : Y20) (a1 : Y5) : Option Bool := q14 P23 P20 P16 a0 a1
noncomputable def P14 : Y37 := fun x => p14 x.1 x.2
theorem v14 : dxf (T14 P23 P20 P16) sh14 [(.t 4)] c14 = P14 := funext fun x => (g14 P23 P20 P16 x.1 x.2).trans (show q14 P23 P20 P16 x.1 x.2 = q14 P23 P20 P16 x.1 x.2 from rfl)
theorem d14 : DC Try.prog 14 sh14 P14 := DC_eq v14 (dxf_sound (sh := sh14) t14 ok14 (by kernel_rfl))
end Go.Proofs.Ytfknkinmnecoeaa.D
