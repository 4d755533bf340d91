/- Cut down from a longer text. -/
import Derived.Test.YtfknkinmnecoeaaG6p
import Derived.Test.YtfknkinmnecoeaaProg
set_option linter.unusedVariables false
set_option maxRecDepth 100000
namespace Go.Proofs.Ytfknkinmnecoeaa.D
open Go Go.Proofs Go.Proofs.Ytfknkinmnecoeaa.L
noncomputable def T30 (F20 : Y25) (F48 : Y4) (F52 : Y244) : List FEnt := [⟨20, sh20, F20⟩, ⟨48, sh48, F48⟩, ⟨52, sh52, F52⟩]
theorem t30 : DTblOK Try.prog (T30 P20 P48 P52) := (DTbl_cons' (f := 20) (sh := sh20) (F := P20) d20 (by kernel_rfl) (DTbl_cons' (f := 48) (sh := sh48) (F := P48) d48 (by kernel_rfl) (DTbl_cons' (f := 52) (sh := sh52) (F := P52) d52 (by kernel_rfl) DTbl_nil)))
def b30_0 : DCode := (.seq (.seq (.reg [o 21 (.mov (.t 8)),
  o 22 (.fld (.t 2) 1),
  o 23 (.ld1 (.t 22) false),
  o 24 (.len (.t 23)),
  o 25 (.bin true .lss (.t 21) (.t 24))]) (.cond (.t 25) .skip (.exit 0))) (.seq (.blk 1 (.seq (.reg [o 28 (.fld (.t 2) 1),
  o 29 (.ld1 (.t 28) false),
  o 30 (.mov (.t 8)),
  o 31 (.idx (.t 29) (.t 30) 9),
  o 32 (.ldn (.t 31) 9 false),
  o 9 (.alc [(.int .i64 0), (.int .i64 0), (.int .i64 0), .emp, .emp, (.int .i64 0), (.int .i64 0), (.int .i64 0), (.int .i64 0)]),
  .op ⟨none, .sto (.t 9) (.t 32) 9, none⟩ none]) (.seq (.seq (.reg [o 33 (.mov (.t 1)),
  o 34 (.fld (.t 9) 1),
  o 35 (.ld1 (.t 34) false),
  o 36 (.fld (.t 9) 2),
  o 37 (.ld1 (.t 36) false),
  o 38 (.xcall 48 [(.t 33), (.t 35), (.t 37)]),
  o 39 (.unot (.t 38))]) (.cond (.t 39) (.exit 1) .skip)) (.seq (.reg [o 40 (.ldn (.t 2) 3 false),
  o 41 (.ldn (.t 9) 9 false),
  o 42 (.mov (.t 1)),
  o 43 (.xcall 52 [(.t 40), (.t 41), (.t 42)]),
  o 10 (.alc [(.int .i64 0), (.int .i64 0), (.int .i64 0), (.int .i64 0), (.int .i64 0), (.int .i64 0)]),
  .op ⟨none, .sto (.t 10) (.t 43) 6, none⟩ none]) (.seq (.reg [o 44 (.fld (.t 7) 0),
  o 45 (.ld1 (.t 44) false),
  o 46 (.fld (.t 10) 0),
  o 47 (.ld1 (.t 46) false),
  o 48 (.bin true .add (.t 45) (.t 47)),
  o 49 (.fld (.t 7) 0),
  .op ⟨none, .sto (.t 49) (.t 48) 1, none⟩ none]) (.seq (.reg [o 50 (.fld (.t 7) 1),
  o 51 (.ld1 (.t 50) false),
  o 52 (.fld (.t 10) 1),
  o 53 (.ld1 (.t 52) false),
  o 54 (.bin true .add (.t 51) (.t 53)),
  o 55 (.fld (.t 7) 1),
  .op ⟨none, .sto (.t 55) (.t 54) 1, none⟩ none]) (.seq (.reg [o 56 (.fld (.t 7) 2),
  o 57 (.ld1 (.t 56) false),
  o 58 (.fld (.t 10) 2),
  o 59 (.ld1 (.t 58) false),
  o 60 (.bin true .add (.t 57) (.t 59)),
  o 61 (.fld (.t 7) 2),
  .op ⟨none, .sto (.t 61) (.t 60) 1, none⟩ none]) (.seq (.reg [o 62 (.fld (.t 7) 3),
  o 63 (.ld1 (.t 62) false),
  o 64 (.fld (.t 10) 3),
  o 65 (.ld1 (.t 64) false),
  o 66 (.bin true .add (.t 63) (.t 65)),
  o 67 (.fld (.t 7) 3),
  .op ⟨none, .sto (.t 67) (.t 66) 1, none⟩ none]) (.reg [o 68 (.fld (.t 7) 4),
  o 69 (.ld1 (.t 68) false),
  o 70 (.fld (.t 10) 4),
  o 71 (.ld1 (.t 70) false),
  o 72 (.bin true .add (.t 69) (.t 71)),
  o 73 (.fld (.t 7) 4),
  .op ⟨none, .sto (.t 73) (.t 72) 1, none⟩ none]))))))))) (.reg [o 26 (.mov (.t 8)),
  o 27 (.bin true .add (.t 26) (.c (.int .i64 1))),
  o 8 (.mov (.t 27))])))
def h30_0 : LSh := ⟨[1, 2, 4, 7, 8], ⟨[(.v y6), (.ptr 0 0), (.ptr 1 0), (.ptr 2 0), (.v y6)], [(0, (.boxT y69)), (1, (.boxT y48)), (2, (.boxT y48))]⟩, [y6, y6, y69, y48, y48], 3, [0, 1, 2]⟩
def x30_0 : List XSh := [⟨(.exit 0), [4, 7], ⟨⟨[(.ptr 1 0), (.ptr 2 0)], [(0, (.boxT y69)), (1, (.boxT y48)), (2, (.boxT y48))]⟩, [y69, y48, y48], [0, 1, 2], 3⟩⟩]
noncomputable def s30_0 (T : List FEnt) : Y301 := dstep (xs := x30_0) h30_0 (dxc T b30_0)
noncomputable def l30_0 (T : List FEnt) : Y297 := whileF (s30_0 T)
noncomputable def q30_0 (F20 : Y25) (F48 : Y4) (F52 : Y244) (a0 : Int) (a1 : Int) (a2 : Y20) (a3 : Y3) (a4 : Y3) : Option Y299 :=
cond (decide (a1 < (↑(List.length a2.2.1) : Int))) (
chk (inR a1 (List.length a2.2.1)) (
(F48 (a0, (ix a2.2.1 a1).2.1, (ix a2.2.1 a1).2.2.1)).bind fun (r3 : Bool) => (
cond (!r3) (
chk (fits .i64 (a1 + (1 : Int))) (
some (Sum.inl (a0, (a1 + (1 : Int)), a2, a3, a4)))) (
(F52 (a2, (ix a2.2.1 a1), a0)).bind fun (r4 : Y3) => (
chk (fits .i64 (a4.1 + r4.1)) (
chk (fits .i64 (a4.2.1 + r4.2.1)) (
chk (fits .i64 (a4.2.2.1 + r4.2.2.1)) (
chk (fits .i64 (a4.2.2.2.1 + r4.2.2.2.1)) (
chk (fits .i64 (a4.2.2.2.2.1 + r4.2.2.2.2.1)) (
chk (fits .i64 (a1 + (1 : Int))) (
some (Sum.inl (a0, (a1 + (1 : Int)), a2, a3, ((a4.1 + r4.1), ((a4.2.1 + r4.2.1), ((a4.2.2.1 + r4.2.2.1), ((a4.2.2.2.1 + r4.2.2.2.1), ((a4.2.2.2.2.1 + r4.2.2.2.2.1), a4.2.2.2.2.2)))))))))))))))))) (
some (Sum.inr (a2, a3, a4)))
theorem g30_0 (F20 : Y25) (F48 : Y4) (F52 : Y244) (a0 : Int) (a1 : Int) (a2 : Y20) (a3 : Y3) (a4 : Y3) : s30_0 (T30 F20 F48 F52) (a0, a1, a2, a3, a4) = q30_0 F20 F48 F52 a0 a1 a2 a3 a4 := by kernel_rfl
noncomputable def p30_0 (a0 : Int) (a1 : Int) (a2 : Y20) (a3 : Y3) (a4 : Y3) : Option Y299 := q30_0 P20 P48 P52 a0 a1 a2 a3 a4
noncomputable def L30_0 : Y297 := whileF (fun x => p30_0 x.1 x.2.1 x.2.2.1 x.2.2.2.1 x.2.2.2.2)
theorem v30_0 : l30_0 (T30 P20 P48 P52) = L30_0 := congrArg whileF (funext fun x => (g30_0 P20 P48 P52 x.1 x.2.1 x.2.2.1 x.2.2.2.1 x.2.2.2.2).trans (show q30_0 P20 P48 P52 x.1 x.2.1 x.2.2.1 x.2.2.2.1 x.2.2.2.2 = q30_0 P20 P48 P52 x.1 x.2.1 x.2.2.1 x.2.2.2.1 x.2.2.2.2 from rfl))
def c30 : DCode := (.seq (.reg [o 2 (.box (.t 0)),
  o 4 (.alc [(.int .i64 0), (.int .i64 0), (.int .i64 0), (.int .i64 0), (.int .i64 0), (.int .i64 0)]),
  o 5 (.mov (.c (.int .i64 0)))]) (.seq (.seq (.reg [o 11 (.ldn (.t 2) 3 false),
  o 12 (.xcall 20 [(.t 11)]),
  o 6 (.mov (.t 12))]) (.seq (.reg [o 13 (.mov (.t 6)),
  o 14 (.bin true .neq (.t 13) (.c (.int .i64 0)))]) (.cond (.t 14) (.seq (.reg [o 15 (.bld [(.int .i64 0), (.int .i64 0), (.int .i64 0), (.int .i64 0), (.int .i64 0), (.int .i64 0)] []),
  o 16 (.mov (.t 6)),
  .op ⟨none, .sto (.t 4) (.t 15) 6, none⟩ none,
  o 5 (.mov (.t 16))]) .ret) .skip))) (.seq (.seq (.reg [o 17 (.mov (.t 1)),
  o 18 (.xcall 48 [(.t 17), (.c (.int .i64 0)), (.c (.int .i64 99))]),
  o 19 (.unot (.t 18))]) (.cond (.t 19) (.seq (.reg [o 20 (.bld [(.int .i64 0), (.int .i64 0), (.int .i64 0), (.int .i64 0), (.int .i64 0), (.int .i64 0)] []),
  .op ⟨none, .sto (.t 4) (.t 20) 6, none⟩ none,
  o 5 (.mov (.c (.int .i64 1)))]) .ret) .skip)) (.seq (.reg [o 7 (.alc [(.int .i64 0), (.int .i64 0), (.int .i64 0), (.int .i64 0), (.int .i64 0), (.int .i64 0)])]) (.seq (.seq (.reg [o 8 (.mov (.c (.int .i64 0)))]) (.blk 0 (.loop h30_0 x30_0 b30_0))) (.seq (.reg [o 74 (.ldn (.t 7) 6 false),
  .op ⟨none, .sto (.t 4) (.t 74) 6, none⟩ none,
  o 5 (.mov (.c (.int .i64 0)))]) .ret))))))
theorem ok30 : L.Fn Try.prog 30 75 [(.cell 4 true 6), (.t 5)] (erase c30) := L.Fn.of hmix Try.func30 [] (by kernel_rfl)
def sh30 : FSh := ⟨⟨[(.st y69), (.v y6)], []⟩, [y69, y6], 0, ⟨⟨[(.tup [(.st y48), (.v y6)])], []⟩, [y48, y6], [], 0⟩, true⟩
noncomputable def q30 (F20 : Y25) (F48 : Y4) (F52 : Y244) (l30_0 : Y297) (a0 : Y20) (a1 : Int) : Option Y149 :=
(F20 a0).bind fun (r1 : Int) => (
cond (!decide (r1 = (0 : Int))) (
some (((0 : Int), ((0 : Int), ((0 : Int), ((0 : Int), ((0 : Int), (0 : Int)))))), r1)) (
(F48 (a1, (0 : Int), (99 : Int))).bind fun (r2 : Bool) => (
cond (!r2) (
some (((0 : Int), ((0 : Int), ((0 : Int), ((0 : Int), ((0 : Int), (0 : Int)))))), (1 : Int))) (
(l30_0 (a1, (0 : Int), a0, ((0 : Int), ((0 : Int), ((0 : Int), ((0 : Int), ((0 : Int), (0 : Int)))))), ((0 : Int), ((0 : Int), ((0 : Int), ((0 : Int), ((0 : Int), (0 : Int)))))))).bind fun (y5 : Y238) => (
some (y5.2.2, (0 : Int)))))))
theorem g30 (F20 : Y25) (F48 : Y4) (F52 : Y244) (a0 : Y20) (a1 : Int) : dxf (T30 F20 F48 F52) sh30 [(.cell 4 true 6), (.t 5)] c30 (a0, a1) = q30 F20 F48 F52 (l30_0 (T30 F20 F48 F52)) a0 a1 := by kernel_rfl
noncomputable def p30 (a0 : Y20) (a1 : Int) : Option Y149 := q30 P20 P48 P52 L30_0 a0 a1
noncomputable def P30 : Y239 := fun x => p30 x.1 x.2
theorem v30 : dxf (T30 P20 P48 P52) sh30 [(.cell 4 true 6), (.t 5)] c30 = P30 := funext fun x => (g30 P20 P48 P52 x.1 x.2).trans (show q30 P20 P48 P52 (l30_0 (T30 P20 P48 P52)) x.1 x.2 = q30 P20 P48 P52 L30_0 x.1 x.2 from by rw [v30_0])
theorem d30 : DC Try.prog 30 sh30 P30 := DC_eq v30 (dxf_sound (sh := sh30) t30 ok30 (by kernel_rfl))
noncomputable def T54 : List FEnt := []
theorem t54 : DTblOK Try.prog T54 := DTbl_nil
def b54_0 : DCode := (.seq (.seq (.reg [o 11 (.mov (.t 5)),
  o 12 (.mov (.t 0)),
  o 13 (.len (.t 12)),
  o 14 (.bin true .lss (.t 11) (.t 13))]) (.cond (.t 14) .skip (.exit 0))) (.seq (.blk 1 (.seq (.drw [] [r 17 (.mov (.t 0)),
  r 18 (.mov (.t 5)),
  r 19 (.idx (.t 17) (.t 18) 6),
  r 20 (.ldn (.t 19) 6 false),
  r 21 (.mov (.t 1)),
  r 22 (.mov (.t 5)),
  r 23 (.idx (.t 21) (.t 22) 6),
  r 24 (.ldn (.t 23) 6 false),
  r 25 (.eqs true 6 (.t 20) (.t 24))]) (.cond (.t 25) (.seq (.reg [o 4 (.mov (.c (.bool false)))]) .ret) .skip))) (.reg [o 15 (.mov (.t 5)),
  o 16 (.bin true .add (.t 15) (.c (.int .i64 1))),
  o 5 (.mov (.t 16))])))
def h54_0 : LSh := ⟨[0, 1, 5], ⟨[(.v y60), (.v y60), (.v y6)], []⟩, [y60, y60, y6], 0, []⟩
def x54_0 : List XSh := [⟨.ret, [4], ⟨⟨[(.v .bool)], []⟩, [.bool], [], 0⟩⟩, ⟨(.exit 0), [], ⟨⟨[], []⟩, [], [], 0⟩⟩]
noncomputable def s54_0 (T : List FEnt) : Y283 := dstep (xs := x54_0) h54_0 (dxc T b54_0)
noncomputable def l54_0 (T : List FEnt) : Y267 := whileF (s54_0 T)
noncomputable def q54_0 (a0 : List Y3) (a1 : List Y3) (a2 : Int) : Option Y278 :=
cond (decide (a2 < (↑(List.length a0) : Int))) (
chk (inR a2 (List.length a0)) (
chk (inR a2 (List.length a1)) (
cond (!(((((decide ((ix a0 a2).1 = (ix a1 a2).1) && decide ((ix a0 a2).2.1 = (ix a1 a2).2.1)) && decide ((ix a0 a2).2.2.1 = (ix a1 a2).2.2.1)) && decide ((ix a0 a2).2.2.2.1 = (ix a1 a2).2.2.2.1)) && decide ((ix a0 a2).2.2.2.2.1 = (ix a1 a2).2.2.2.2.1)) && decide ((ix a0 a2).2.2.2.2.2 = (ix a1 a2).2.2.2.2.2))) (
some (Sum.inr (Sum.inl false))) (
chk (fits .i64 (a2 + (1 : Int))) (
some (Sum.inl (a0, a1, (a2 + (1 : Int))))))))) (
some (Sum.inr (Sum.inr ())))
theorem g54_0 (a0 : List Y3) (a1 : List Y3) (a2 : Int) : s54_0 T54 (a0, a1, a2) = q54_0 a0 a1 a2 := by kernel_rfl
noncomputable def p54_0 (a0 : List Y3) (a1 : List Y3) (a2 : Int) : Option Y278 := q54_0 a0 a1 a2
noncomputable def L54_0 : Y267 := whileF (fun x => p54_0 x.1 x.2.1 x.2.2)
theorem v54_0 : l54_0 T54 = L54_0 := congrArg whileF (funext fun x => (g54_0 x.1 x.2.1 x.2.2).trans (show q54_0 x.1 x.2.1 x.2.2 = q54_0 x.1 x.2.1 x.2.2 from rfl))
def c54 : DCode := (.seq (.reg [o 4 (.mov (.c (.bool false)))]) (.seq (.seq (.reg [o 6 (.mov (.t 0)),
  o 7 (.len (.t 6)),
  o 8 (.mov (.t 1)),
  o 9 (.len (.t 8)),
  o 10 (.bin true .neq (.t 7) (.t 9))]) (.cond (.t 10) (.seq (.reg [o 4 (.mov (.c (.bool false)))]) .ret) .skip)) (.seq (.seq (.reg [o 5 (.mov (.c (.int .i64 0)))]) (.blk 0 (.loop h54_0 x54_0 b54_0))) (.seq (.reg [o 4 (.mov (.c (.bool true)))]) .ret))))
theorem ok54 : L.Fn Try.prog 54 26 [(.t 4)] (erase c54) := L.Fn.of hmix Try.func54 [] (by kernel_rfl)
def sh54 : FSh := ⟨⟨[(.v y60), (.v y60)], []⟩, [y60, y60], 0, ⟨⟨[(.v .bool)], []⟩, [.bool], [], 0⟩, true⟩
noncomputable def q54 (l54_0 : Y267) (a0 : List Y3) (a1 : List Y3) : Option Bool :=
cond (!decide ((↑(List.length a0) : Int) = (↑(List.length a1) : Int))) (
some false) (
(l54_0 (a0, a1, (0 : Int))).bind (fun (y1 : Bool ⊕ Unit) => Sum.elim (fun (y2 : Bool) => (
some y2)) (fun (y3 : Unit) => (
some true)) y1))
theorem g54 (a0 : List Y3) (a1 : List Y3) : dxf T54 sh54 [(.t 4)] c54 (a0, a1) = q54 (l54_0 T54) a0 a1 := by kernel_rfl
noncomputable def p54 (a0 : List Y3) (a1 : List Y3) : Option Bool := q54 L54_0 a0 a1
noncomputable def P54 : Y268 := fun x => p54 x.1 x.2
theorem v54 : dxf T54 sh54 [(.t 4)] c54 = P54 := funext fun x => (g54 x.1 x.2).trans (show q54 (l54_0 T54) x.1 x.2 = q54 L54_0 x.1 x.2 from by rw [v54_0])
theorem d54 : DC Try.prog 54 sh54 P54 := DC_eq v54 (dxf_sound (sh := sh54) t54 ok54 (by kernel_rfl))
noncomputable def T55 : List FEnt := []
theorem t55 : DTblOK Try.prog T55 := DTbl_nil
def b55_0 : DCode := (.seq (.seq (.reg [o 72 (.mov (.t 5)),
  o 73 (.fld (.t 2) 3),
  o 74 (.ld1 (.t 73) false),
  o 75 (.len (.t 74)),
  o 76 (.bin true .lss (.t 72) (.t 75))]) (.cond (.t 76) .skip (.exit 0))) (.seq (.blk 1 (.seq (.drw [] [r 79 (.fld (.t 2) 3),
  r 80 (.ld1 (.t 79) false),
  r 81 (.mov (.t 5)),
  r 82 (.idx (.t 80) (.t 81) 1),
  r 83 (.ld1 (.t 82) false),
  r 84 (.fld (.t 3) 3),
  r 85 (.ld1 (.t 84) false),
  r 86 (.mov (.t 5)),
  r 87 (.idx (.t 85) (.t 86) 1),
  r 88 (.ld1 (.t 87) false),
  r 89 (.bin true .neq (.t 83) (.t 88))]) (.cond (.t 89) (.seq (.reg [o 4 (.mov (.c (.bool false)))]) .ret) .skip))) (.reg [o 77 (.mov (.t 5)),
  o 78 (.bin true .add (.t 77) (.c (.int .i64 1))),
  o 5 (.mov (.t 78))])))
def h55_0 : LSh := ⟨[2, 3, 5], ⟨[(.ptr 0 0), (.ptr 1 0), (.v y6)], [(0, (.boxT y66)), (1, (.boxT y66))]⟩, [y6, y66, y66], 2, [0, 1]⟩
def x55_0 : List XSh := [⟨.ret, [4], ⟨⟨[(.v .bool)], [(0, (.boxT y66)), (1, (.boxT y66))]⟩, [.bool, y66, y66], [0, 1], 2⟩⟩, ⟨(.exit 0), [2, 3], ⟨⟨[(.ptr 0 0), (.ptr 1 0)], [(0, (.boxT y66)), (1, (.boxT y66))]⟩, [y66, y66], [0, 1], 2⟩⟩]
noncomputable def s55_0 (T : List FEnt) : Y298 := dstep (xs := x55_0) h55_0 (dxc T b55_0)
noncomputable def l55_0 (T : List FEnt) : Y289 := whileF (s55_0 T)
noncomputable def q55_0 (a0 : Int) (a1 : Y9) (a2 : Y9) : Option Y295 :=
cond (decide (a0 < (↑(List.length a1.2.2.2.1) : Int))) (
chk (inR a0 (List.length a1.2.2.2.1)) (
chk (inR a0 (List.length a2.2.2.2.1)) (
cond (!decide ((ix a1.2.2.2.1 a0) = (ix a2.2.2.2.1 a0))) (
some (Sum.inr (Sum.inl (false, a1, a2)))) (
chk (fits .i64 (a0 + (1 : Int))) (
some (Sum.inl ((a0 + (1 : Int)), a1, a2))))))) (
some (Sum.inr (Sum.inr (a1, a2))))
theorem g55_0 (a0 : Int) (a1 : Y9) (a2 : Y9) : s55_0 T55 (a0, a1, a2) = q55_0 a0 a1 a2 := by kernel_rfl
noncomputable def p55_0 (a0 : Int) (a1 : Y9) (a2 : Y9) : Option Y295 := q55_0 a0 a1 a2
noncomputable def L55_0 : Y289 := whileF (fun x => p55_0 x.1 x.2.1 x.2.2)
theorem v55_0 : l55_0 T55 = L55_0 := congrArg whileF (funext fun x => (g55_0 x.1 x.2.1 x.2.2).trans (show q55_0 x.1 x.2.1 x.2.2 = q55_0 x.1 x.2.1 x.2.2 from rfl))
def b55_1 : DCode := (.seq (.seq (.reg [o 90 (.mov (.t 6)),
  o 91 (.fld (.t 2) 4),
  o 92 (.ld1 (.t 91) false),
  o 93 (.len (.t 92)),
  o 94 (.bin true .lss (.t 90) (.t 93))]) (.cond (.t 94) .skip (.exit 2))) (.seq (.blk 3 (.seq (.drw [] [r 97 (.fld (.t 2) 4),
  r 98 (.ld1 (.t 97) false),
  r 99 (.mov (.t 6)),
  r 100 (.idx (.t 98) (.t 99) 2),
  r 101 (.ldn (.t 100) 2 false),
  r 102 (.fld (.t 3) 4),
  r 103 (.ld1 (.t 102) false),
  r 104 (.mov (.t 6)),
  r 105 (.idx (.t 103) (.t 104) 2),
  r 106 (.ldn (.t 105) 2 false),
  r 107 (.eqs true 2 (.t 101) (.t 106))]) (.cond (.t 107) (.seq (.reg [o 4 (.mov (.c (.bool false)))]) .ret) .skip))) (.reg [o 95 (.mov (.t 6)),
  o 96 (.bin true .add (.t 95) (.c (.int .i64 1))),
  o 6 (.mov (.t 96))])))
def h55_1 : LSh := ⟨[2, 3, 6], ⟨[(.ptr 0 0), (.ptr 1 0), (.v y6)], [(0, (.boxT y66)), (1, (.boxT y66))]⟩, [y6, y66, y66], 2, [0, 1]⟩
def x55_1 : List XSh := [⟨.ret, [4], ⟨⟨[(.v .bool)], [(0, (.boxT y66)), (1, (.boxT y66))]⟩, [.bool, y66, y66], [0, 1], 2⟩⟩, ⟨(.exit 2), [], ⟨⟨[], [(0, (.boxT y66)), (1, (.boxT y66))]⟩, [y66, y66], [0, 1], 2⟩⟩]
noncomputable def s55_1 (T : List FEnt) : Y298 := dstep (xs := x55_1) h55_1 (dxc T b55_1)
noncomputable def l55_1 (T : List FEnt) : Y289 := whileF (s55_1 T)
noncomputable def q55_1 (a0 : Int) (a1 : Y9) (a2 : Y9) : Option Y295 :=
cond (decide (a0 < (↑(List.length a1.2.2.2.2.1) : Int))) (
chk (inR a0 (List.length a1.2.2.2.2.1)) (
chk (inR a0 (List.length a2.2.2.2.2.1)) (
cond (!(decide ((ix a1.2.2.2.2.1 a0).1 = (ix a2.2.2.2.2.1 a0).1) && decide ((ix a1.2.2.2.2.1 a0).2 = (ix a2.2.2.2.2.1 a0).2))) (
some (Sum.inr (Sum.inl (false, a1, a2)))) (
chk (fits .i64 (a0 + (1 : Int))) (
some (Sum.inl ((a0 + (1 : Int)), a1, a2))))))) (
some (Sum.inr (Sum.inr (a1, a2))))
theorem g55_1 (a0 : Int) (a1 : Y9) (a2 : Y9) : s55_1 T55 (a0, a1, a2) = q55_1 a0 a1 a2 := by kernel_rfl
noncomputable def p55_1 (a0 : Int) (a1 : Y9) (a2 : Y9) : Option Y295 := q55_1 a0 a1 a2
noncomputable def L55_1 : Y289 := whileF (fun x => p55_1 x.1 x.2.1 x.2.2)
theorem v55_1 : l55_1 T55 = L55_1 := congrArg whileF (funext fun x => (g55_1 x.1 x.2.1 x.2.2).trans (show q55_1 x.1 x.2.1 x.2.2 = q55_1 x.1 x.2.1 x.2.2 from rfl))
def c55 : DCode := (.seq (.reg [o 2 (.box (.t 0)),
  o 3 (.box (.t 1)),
  o 4 (.mov (.c (.bool false)))]) (.seq (.seq (.reg [o 7 (.fld (.t 2) 0),
  o 8 (.ld1 (.t 7) false),
  o 9 (.fld (.t 3) 0),
  o 10 (.ld1 (.t 9) false),
  o 11 (.bin true .neq (.t 8) (.t 10)),
  o 12 (.mov (.t 11)),
  og 13 12 false (.fld (.t 2) 1),
  og 14 12 false (.ld1 (.t 13) false),
  og 15 12 false (.fld (.t 3) 1),
  og 16 12 false (.ld1 (.t 15) false),
  og 17 12 false (.bin true .neq (.t 14) (.t 16)),
  o 18 (.pick (.t 12) (.c (.bool true)) (.t 17)),
  o 19 (.mov (.t 18)),
  og 20 19 false (.fld (.t 2) 2),
  og 21 19 false (.ld1 (.t 20) false),
  og 22 19 false (.fld (.t 3) 2),
  og 23 19 false (.ld1 (.t 22) false),
  og 24 19 false (.bin true .neq (.t 21) (.t 23)),
  o 25 (.pick (.t 19) (.c (.bool true)) (.t 24)),
  o 26 (.mov (.t 25)),
  og 27 26 false (.fld (.t 2) 3),
  og 28 26 false (.ld1 (.t 27) false),
  og 29 26 false (.len (.t 28)),
  og 30 26 false (.fld (.t 3) 3),
  og 31 26 false (.ld1 (.t 30) false),
  og 32 26 false (.len (.t 31)),
  og 33 26 false (.bin true .neq (.t 29) (.t 32)),
  o 34 (.pick (.t 26) (.c (.bool true)) (.t 33)),
  o 35 (.mov (.t 34)),
  og 36 35 false (.fld (.t 2) 4),
  og 37 35 false (.ld1 (.t 36) false),
  og 38 35 false (.len (.t 37)),
  og 39 35 false (.fld (.t 3) 4),
  og 40 35 false (.ld1 (.t 39) false),
  og 41 35 false (.len (.t 40)),
  og 42 35 false (.bin true .neq (.t 38) (.t 41)),
  o 43 (.pick (.t 35) (.c (.bool true)) (.t 42)),
  o 44 (.mov (.t 43)),
  og 45 44 false (.fld (.t 2) 5),
  og 46 44 false (.ld1 (.t 45) false),
  og 47 44 false (.fld (.t 3) 5),
  og 48 44 false (.ld1 (.t 47) false),
  og 49 44 false (.bin true .neq (.t 46) (.t 48)),
  o 50 (.pick (.t 44) (.c (.bool true)) (.t 49)),
  o 51 (.mov (.t 50)),
  og 52 51 false (.fld (.t 2) 6),
  og 53 51 false (.ld1 (.t 52) false),
  og 54 51 false (.fld (.t 3) 6),
  og 55 51 false (.ld1 (.t 54) false),
  og 56 51 false (.bin true .neq (.t 53) (.t 55)),
  o 57 (.pick (.t 51) (.c (.bool true)) (.t 56)),
  o 58 (.mov (.t 57)),
  og 59 58 false (.fld (.t 2) 7),
  og 60 58 false (.ld1 (.t 59) false),
  og 61 58 false (.fld (.t 3) 7),
  og 62 58 false (.ld1 (.t 61) false),
  og 63 58 false (.bin true .neq (.t 60) (.t 62)),
  o 64 (.pick (.t 58) (.c (.bool true)) (.t 63)),
  o 65 (.mov (.t 64)),
  og 66 65 false (.fld (.t 2) 8),
  og 67 65 false (.ld1 (.t 66) false),
  og 68 65 false (.fld (.t 3) 8),
  og 69 65 false (.ld1 (.t 68) false),
  og 70 65 false (.bin true .neq (.t 67) (.t 69)),
  o 71 (.pick (.t 65) (.c (.bool true)) (.t 70))]) (.cond (.t 71) (.seq (.reg [o 4 (.mov (.c (.bool false)))]) .ret) .skip)) (.seq (.seq (.reg [o 5 (.mov (.c (.int .i64 0)))]) (.blk 0 (.loop h55_0 x55_0 b55_0))) (.seq (.seq (.reg [o 6 (.mov (.c (.int .i64 0)))]) (.blk 2 (.loop h55_1 x55_1 b55_1))) (.seq (.reg [o 4 (.mov (.c (.bool true)))]) .ret)))))
theorem ok55 : L.Fn Try.prog 55 108 [(.t 4)] (erase c55) := L.Fn.of hmix Try.func55 [] (by kernel_rfl)
def sh55 : FSh := ⟨⟨[(.st y66), (.st y66)], []⟩, [y66, y66], 0, ⟨⟨[(.v .bool)], []⟩, [.bool], [], 0⟩, true⟩
noncomputable def q55 (l55_0 : Y289) (l55_1 : Y289) (a0 : Y9) (a1 : Y9) : Option Bool :=
cond (!decide (a0.1 = a1.1)) (
some false) (
cond (!decide (a0.2.1 = a1.2.1)) (
some false) (
cond (!decide (a0.2.2.1 = a1.2.2.1)) (
some false) (
cond (!decide ((↑(List.length a0.2.2.2.1) : Int) = (↑(List.length a1.2.2.2.1) : Int))) (
some false) (
cond (!decide ((↑(List.length a0.2.2.2.2.1) : Int) = (↑(List.length a1.2.2.2.2.1) : Int))) (
some false) (
cond (!decide (a0.2.2.2.2.2.1 = a1.2.2.2.2.2.1)) (
some false) (
cond (!decide (a0.2.2.2.2.2.2.1 = a1.2.2.2.2.2.2.1)) (
some false) (
cond (!decide (a0.2.2.2.2.2.2.2.1 = a1.2.2.2.2.2.2.2.1)) (
some false) (
cond (!decide (a0.2.2.2.2.2.2.2.2 = a1.2.2.2.2.2.2.2.2)) (
some false) (
(l55_0 ((0 : Int), a0, a1)).bind (fun (y1 : Y274 ⊕ Y275) => Sum.elim (fun (y2 : Y274) => (
some y2.1)) (fun (y3 : Y275) => (
(l55_1 ((0 : Int), y3.1, y3.2)).bind (fun (y4 : Y274 ⊕ Y275) => Sum.elim (fun (y5 : Y274) => (
some y5.1)) (fun (y6 : Y275) => (
some true)) y4))) y1))))))))))
theorem g55 (a0 : Y9) (a1 : Y9) : dxf T55 sh55 [(.t 4)] c55 (a0, a1) = q55 (l55_0 T55) (l55_1 T55) a0 a1 := by kernel_rfl
noncomputable def p55 (a0 : Y9) (a1 : Y9) : Option Bool := q55 L55_0 L55_1 a0 a1
noncomputable def P55 : Y276 := fun x => p55 x.1 x.2
theorem v55 : dxf T55 sh55 [(.t 4)] c55 = P55 := funext fun x => (g55 x.1 x.2).trans (show q55 (l55_0 T55) (l55_1 T55) x.1 x.2 = q55 L55_0 L55_1 x.1 x.2 from by rw [v55_0, v55_1])
theorem d55 : DC Try.prog 55 sh55 P55 := DC_eq v55 (dxf_sound (sh := sh55) t55 ok55 (by kernel_rfl))
noncomputable def T31 (F54 : Y268) (F55 : Y276) : List FEnt := [⟨54, sh54, F54⟩, ⟨55, sh55, F55⟩]
theorem t31 : DTblOK Try.prog (T31 P54 P55) := (DTbl_cons' (f := 54) (sh := sh54) (F := P54) d54 (by kernel_rfl) (DTbl_cons' (f := 55) (sh := sh55) (F := P55) d55 (by kernel_rfl) DTbl_nil))
def b31_0 : DCode := (.seq (.seq (.reg [o 28 (.mov (.t 5)),
  o 29 (.fld (.t 2) 1),
  o 30 (.ld1 (.t 29) false),
  o 31 (.len (.t 30)),
  o 32 (.bin true .lss (.t 28) (.t 31))]) (.cond (.t 32) .skip (.exit 0))) (.seq (.blk 1 (.seq (.drw [] [r 35 (.fld (.t 2) 1),
  r 36 (.ld1 (.t 35) false),
  r 37 (.mov (.t 5)),
  r 38 (.idx (.t 36) (.t 37) 9),
  r 39 (.ldn (.t 38) 9 false),
  r 40 (.fld (.t 3) 1),
  r 41 (.ld1 (.t 40) false),
  r 42 (.mov (.t 5)),
  r 43 (.idx (.t 41) (.t 42) 9),
  r 44 (.ldn (.t 43) 9 false),
  r 45 (.xcall 55 [(.t 39), (.t 44)]),
  r 46 (.unot (.t 45))]) (.cond (.t 46) (.seq (.reg [o 4 (.mov (.c (.bool false)))]) .ret) .skip))) (.reg [o 33 (.mov (.t 5)),
  o 34 (.bin true .add (.t 33) (.c (.int .i64 1))),
  o 5 (.mov (.t 34))])))
def h31_0 : LSh := ⟨[2, 3, 5], ⟨[(.ptr 0 0), (.ptr 1 0), (.v y6)], [(0, (.boxT y69)), (1, (.boxT y69))]⟩, [y6, y69, y69], 2, [0, 1]⟩
def x31_0 : List XSh := [⟨.ret, [4], ⟨⟨[(.v .bool)], [(0, (.boxT y69)), (1, (.boxT y69))]⟩, [.bool, y69, y69], [0, 1], 2⟩⟩, ⟨(.exit 0), [], ⟨⟨[], [(0, (.boxT y69)), (1, (.boxT y69))]⟩, [y69, y69], [0, 1], 2⟩⟩]
noncomputable def s31_0 (T : List FEnt) : Y304 := dstep (xs := x31_0) h31_0 (dxc T b31_0)
noncomputable def l31_0 (T : List FEnt) : Y302 := whileF (s31_0 T)
noncomputable def q31_0 (F54 : Y268) (F55 : Y276) (a0 : Int) (a1 : Y20) (a2 : Y20) : Option Y303 :=
cond (decide (a0 < (↑(List.length a1.2.1) : Int))) (
chk (inR a0 (List.length a1.2.1)) (
chk (inR a0 (List.length a2.2.1)) (
(F55 ((ix a1.2.1 a0), (ix a2.2.1 a0))).bind fun (r2 : Bool) => (
cond (!r2) (
some (Sum.inr (Sum.inl (false, a1, a2)))) (
chk (fits .i64 (a0 + (1 : Int))) (
some (Sum.inl ((a0 + (1 : Int)), a1, a2)))))))) (
some (Sum.inr (Sum.inr (a1, a2))))
theorem g31_0 (F54 : Y268) (F55 : Y276) (a0 : Int) (a1 : Y20) (a2 : Y20) : s31_0 (T31 F54 F55) (a0, a1, a2) = q31_0 F54 F55 a0 a1 a2 := by kernel_rfl
noncomputable def p31_0 (a0 : Int) (a1 : Y20) (a2 : Y20) : Option Y303 := q31_0 P54 P55 a0 a1 a2
noncomputable def L31_0 : Y302 := whileF (fun x => p31_0 x.1 x.2.1 x.2.2)
theorem v31_0 : l31_0 (T31 P54 P55) = L31_0 := congrArg whileF (funext fun x => (g31_0 P54 P55 x.1 x.2.1 x.2.2).trans (show q31_0 P54 P55 x.1 x.2.1 x.2.2 = q31_0 P54 P55 x.1 x.2.1 x.2.2 from rfl))
def c31 : DCode := (.seq (.reg [o 2 (.box (.t 0)),
  o 3 (.box (.t 1)),
  o 4 (.mov (.c (.bool false)))]) (.seq (.seq (.reg [o 6 (.fld (.t 2) 0),
  o 7 (.ld1 (.t 6) false),
  o 8 (.fld (.t 3) 0),
  o 9 (.ld1 (.t 8) false),
  o 10 (.bin true .neq (.t 7) (.t 9)),
  o 11 (.mov (.t 10)),
  og 12 11 false (.fld (.t 2) 1),
  og 13 11 false (.ld1 (.t 12) false),
  og 14 11 false (.len (.t 13)),
  og 15 11 false (.fld (.t 3) 1),
  og 16 11 false (.ld1 (.t 15) false),
  og 17 11 false (.len (.t 16)),
  og 18 11 false (.bin true .neq (.t 14) (.t 17)),
  o 19 (.pick (.t 11) (.c (.bool true)) (.t 18)),
  o 20 (.mov (.t 19)),
  og 21 20 false (.fld (.t 2) 2),
  og 22 20 false (.ld1 (.t 21) false),
  og 23 20 false (.fld (.t 3) 2),
  og 24 20 false (.ld1 (.t 23) false),
  og 25 20 false (.xcall 54 [(.t 22), (.t 24)]),
  og 26 20 false (.unot (.t 25)),
  o 27 (.pick (.t 20) (.c (.bool true)) (.t 26))]) (.cond (.t 27) (.seq (.reg [o 4 (.mov (.c (.bool false)))]) .ret) .skip)) (.seq (.seq (.reg [o 5 (.mov (.c (.int .i64 0)))]) (.blk 0 (.loop h31_0 x31_0 b31_0))) (.seq (.reg [o 4 (.mov (.c (.bool true)))]) .ret))))
theorem ok31 : L.Fn Try.prog 31 47 [(.t 4)] (erase c31) := L.Fn.of hmix Try.func31 [] (by kernel_rfl)
def sh31 : FSh := ⟨⟨[(.st y69), (.st y69)], []⟩, [y69, y69], 0, ⟨⟨[(.v .bool)], []⟩, [.bool], [], 0⟩, true⟩
noncomputable def q31 (F54 : Y268) (F55 : Y276) (l31_0 : Y302) (a0 : Y20) (a1 : Y20) : Option Bool :=
cond (!decide (a0.1 = a1.1)) (
some false) (
cond (!decide ((↑(List.length a0.2.1) : Int) = (↑(List.length a1.2.1) : Int))) (
some false) (
(F54 (a0.2.2, a1.2.2)).bind fun (r1 : Bool) => (
cond (!r1) (
some false) (
(l31_0 ((0 : Int), a0, a1)).bind (fun (y3 : Y290 ⊕ Y291) => Sum.elim (fun (y4 : Y290) => (
some y4.1)) (fun (y5 : Y291) => (
some true)) y3)))))
theorem g31 (F54 : Y268) (F55 : Y276) (a0 : Y20) (a1 : Y20) : dxf (T31 F54 F55) sh31 [(.t 4)] c31 (a0, a1) = q31 F54 F55 (l31_0 (T31 F54 F55)) a0 a1 := by kernel_rfl
noncomputable def p31 (a0 : Y20) (a1 : Y20) : Option Bool := q31 P54 P55 L31_0 a0 a1
noncomputable def P31 : Y292 := fun x => p31 x.1 x.2
theorem v31 : dxf (T31 P54 P55) sh31 [(.t 4)] c31 = P31 := funext fun x => (g31 P54 P55 x.1 x.2).trans (show q31 P54 P55 (l31_0 (T31 P54 P55)) x.1 x.2 = q31 P54 P55 L31_0 x.1 x.2 from by rw [v31_0])
theorem d31 : DC Try.prog 31 sh31 P31 := DC_eq v31 (dxf_sound (sh := sh31) t31 ok31 (by kernel_rfl))
noncomputable def T9 (F23 : Y22) (F15 : Y194) (F24 : Y212) (F27 : Y25) (F20 : Y25) (F17 : Y175) (F28 : Y175) (F21 : Y178) (F29 : Y178) (F26 : Y239) (F30 : Y239) (F31 : Y292) : List FEnt := [⟨23, sh23, F23⟩, ⟨15, sh15, F15⟩, ⟨24, sh24, F24⟩, ⟨27, sh27, F27⟩, ⟨20, sh20, F20⟩, ⟨17, sh17, F17⟩, ⟨28, sh28, F28⟩, ⟨21, sh21, F21⟩, ⟨29, sh29, F29⟩, ⟨26, sh26, F26⟩, ⟨30, sh30, F30⟩, ⟨31, sh31, F31⟩]
theorem t9 : DTblOK Try.prog (T9 P23 P15 P24 P27 P20 P17 P28 P21 P29 P26 P30 P31) := (DTbl_cons' (f := 23) (sh := sh23) (F := P23) d23 (by kernel_rfl) (DTbl_cons' (f := 15) (sh := sh15) (F := P15) d15 (by kernel_rfl) (DTbl_cons' (f := 24) (sh := sh24) (F := P24) d24 (by kernel_rfl) (DTbl_cons' (f := 27) (sh := sh27) (F := P27) d27 (by kernel_rfl) (DTbl_cons' (f := 20) (sh := sh20) (F := P20) d20 (by kernel_rfl) (DTbl_cons' (f := 17) (sh := sh17) (F := P17) d17 (by kernel_rfl) (DTbl_cons' (f := 28) (sh := sh28) (F := P28) d28 (by kernel_rfl) (DTbl_cons' (f := 21) (sh := sh21) (F := P21) d21 (by kernel_rfl) (DTbl_cons' (f := 29) (sh := sh29) (F := P29) d29 (by kernel_rfl) (DTbl_cons' (f := 26) (sh := sh26) (F := P26) d26 (by kernel_rfl) (DTbl_cons' (f := 30) (sh := sh30) (F := P30) d30 (by kernel_rfl) (DTbl_cons' (f := 31) (sh := sh31) (F := P31) d31 (by kernel_rfl) DTbl_nil))))))))))))
def c9 : DCode := (.seq (.reg [o 2 (.box (.t 0)),
  o 3 (.box (.t 1)),
  o 4 (.mov (.c (.bool false)))]) (.seq (.seq (.reg [o 18 (.ldn (.t 2) 3 false),
  o 19 (.xcall 23 [(.t 18)])]) (.cond (.t 19) (.seq (.reg [o 20 (.xcall 15 []),
  o 4 (.mov (.t 20))]) .ret) .skip)) (.seq (.reg [o 21 (.ldn (.t 2) 3 false),
  o 22 (.xcall 24 [(.t 21)]),
  o 5 (.alc [(.int .i64 0), .emp, .emp]),
  .op ⟨none, .sto (.t 5) (.t 22) 3, none⟩ none]) (.seq (.seq (.drw [2] [r 23 (.ldn (.t 5) 3 false),
  r 25 (.ldn (.t 2) 3 true),
  r 24 (.xcall 27 [(.t 23)]),
  r 26 (.xcall 20 [(.t 25)]),
  r 27 (.bin true .neq (.t 24) (.t 26))]) (.cond (.t 27) (.seq (.reg [o 4 (.mov (.c (.bool false)))]) .ret) .skip)) (.seq (.reg [o 29 (.ldn (.t 5) 3 false),
  o 30 (.fld (.t 3) 0),
  o 31 (.ld1 (.t 30) false),
  o 32 (.fld (.t 3) 1),
  o 33 (.ld1 (.t 32) false),
  o 34 (.xcall 17 [(.t 29), (.t 31), (.t 33)]),
  o 28 (.mov (.t 34)),
  o 35 (.ext (.t 28) 0),
  o 36 (.ext (.t 28) 1),
  o 6 (.alc [(.int .i64 0), (.int .i64 0), (.int .i64 0), (.int .i64 0), (.int .i64 0), (.int .i64 0)]),
  .op ⟨none, .sto (.t 6) (.t 35) 6, none⟩ none,
  o 7 (.mov (.t 36))]) (.seq (.reg [o 38 (.ldn (.t 2) 3 false),
  o 39 (.fld (.t 3) 0),
  o 40 (.ld1 (.t 39) false),
  o 41 (.fld (.t 3) 1),
  o 42 (.ld1 (.t 41) false),
  o 43 (.xcall 28 [(.t 38), (.t 40), (.t 42)]),
  o 37 (.mov (.t 43)),
  o 44 (.ext (.t 37) 0),
  o 45 (.ext (.t 37) 1),
  o 8 (.alc [(.int .i64 0), (.int .i64 0), (.int .i64 0), (.int .i64 0), (.int .i64 0), (.int .i64 0)]),
  .op ⟨none, .sto (.t 8) (.t 44) 6, none⟩ none,
  o 9 (.mov (.t 45))]) (.seq (.reg [o 47 (.ldn (.t 5) 3 false),
  o 48 (.fld (.t 3) 0),
  o 49 (.ld1 (.t 48) false),
  o 50 (.fld (.t 3) 1),
  o 51 (.ld1 (.t 50) false),
  o 52 (.xcall 21 [(.t 47), (.t 49), (.t 51)]),
  o 46 (.mov (.t 52)),
  o 53 (.ext (.t 46) 0),
  o 54 (.ext (.t 46) 1),
  o 10 (.mov (.t 53)),
  o 11 (.mov (.t 54))]) (.seq (.reg [o 56 (.ldn (.t 2) 3 false),
  o 57 (.fld (.t 3) 0),
  o 58 (.ld1 (.t 57) false),
  o 59 (.fld (.t 3) 1),
  o 60 (.ld1 (.t 59) false),
  o 61 (.xcall 29 [(.t 56), (.t 58), (.t 60)]),
  o 55 (.mov (.t 61)),
  o 62 (.ext (.t 55) 0),
  o 63 (.ext (.t 55) 1),
  o 12 (.mov (.t 62)),
  o 13 (.mov (.t 63))]) (.seq (.reg [o 65 (.ldn (.t 5) 3 false),
  o 66 (.fld (.t 3) 1),
  o 67 (.ld1 (.t 66) false),
  o 68 (.xcall 26 [(.t 65), (.t 67)]),
  o 64 (.mov (.t 68)),
  o 69 (.ext (.t 64) 0),
  o 70 (.ext (.t 64) 1),
  o 14 (.alc [(.int .i64 0), (.int .i64 0), (.int .i64 0), (.int .i64 0), (.int .i64 0), (.int .i64 0)]),
  .op ⟨none, .sto (.t 14) (.t 69) 6, none⟩ none,
  o 15 (.mov (.t 70))]) (.seq (.reg [o 72 (.ldn (.t 2) 3 false),
  o 73 (.fld (.t 3) 1),
  o 74 (.ld1 (.t 73) false),
  o 75 (.xcall 30 [(.t 72), (.t 74)]),
  o 71 (.mov (.t 75)),
  o 76 (.ext (.t 71) 0),
  o 77 (.ext (.t 71) 1),
  o 16 (.alc [(.int .i64 0), (.int .i64 0), (.int .i64 0), (.int .i64 0), (.int .i64 0), (.int .i64 0)]),
  .op ⟨none, .sto (.t 16) (.t 76) 6, none⟩ none,
  o 17 (.mov (.t 77))]) (.seq (.reg [o 78 (.ldn (.t 6) 6 false),
  o 79 (.ldn (.t 8) 6 false),
  o 80 (.eqs false 6 (.t 78) (.t 79)),
  o 81 (.mov (.t 80)),
  og 82 81 true (.mov (.t 7)),
  og 83 81 true (.mov (.t 9)),
  og 84 81 true (.bin true .eql (.t 82) (.t 83)),
  o 85 (.pick (.t 81) (.t 84) (.c (.bool false))),
  o 86 (.mov (.t 85)),
  og 87 86 true (.mov (.t 10)),
  og 88 86 true (.mov (.t 12)),
  og 89 86 true (.bin true .eql (.t 87) (.t 88)),
  o 90 (.pick (.t 86) (.t 89) (.c (.bool false))),
  o 91 (.mov (.t 90)),
  og 92 91 true (.mov (.t 11)),
  og 93 91 true (.mov (.t 13)),
  og 94 91 true (.bin true .eql (.t 92) (.t 93)),
  o 95 (.pick (.t 91) (.t 94) (.c (.bool false))),
  o 96 (.mov (.t 95)),
  og 97 96 true (.ldn (.t 14) 6 false),
  og 98 96 true (.ldn (.t 16) 6 false),
  og 99 96 true (.eqs false 6 (.t 97) (.t 98)),
  o 100 (.pick (.t 96) (.t 99) (.c (.bool false))),
  o 101 (.mov (.t 100)),
  og 102 101 true (.mov (.t 15)),
  og 103 101 true (.mov (.t 17)),
  og 104 101 true (.bin true .eql (.t 102) (.t 103)),
  o 105 (.pick (.t 101) (.t 104) (.c (.bool false))),
  o 106 (.mov (.t 105)),
  og 107 106 true (.ldn (.t 5) 3 false),
  og 108 106 true (.ldn (.t 2) 3 false),
  og 109 106 true (.xcall 31 [(.t 107), (.t 108)]),
  o 110 (.pick (.t 106) (.t 109) (.c (.bool false))),
  o 111 (.mov (.t 110)),
  og 112 111 true (.xcall 15 []),
  o 113 (.pick (.t 111) (.t 112) (.c (.bool false))),
  o 4 (.mov (.t 113))]) .ret)))))))))))
theorem ok9 : L.Fn Try.prog 9 114 [(.t 4)] (erase c9) := L.Fn.of hmix Try.func9 [(4, { ch := [0,0,1,0,0], rs := [2], ord := [0,2,1,3,4] })] (by kernel_rfl)
def sh9 : FSh := ⟨⟨[(.st y69), (.st y16)], []⟩, [y69, y16], 0, ⟨⟨[(.v .bool)], []⟩, [.bool], [], 0⟩, true⟩
noncomputable def q9 (F23 : Y22) (F15 : Y194) (F24 : Y212) (F27 : Y25) (F20 : Y25) (F17 : Y175) (F28 : Y175) (F21 : Y178) (F29 : Y178) (F26 : Y239) (F30 : Y239) (F31 : Y292) (a0 : Y20) (a1 : Y5) : Option Bool :=
(F23 a0).bind fun (r1 : Bool) => (
cond r1 (
(F15 ()).bind fun (r2 : Bool) => (
some r2)) (
(F24 a0).bind fun (r3 : Y20) => (
(F27 r3).bind fun (r4 : Int) => (
(F20 a0).bind fun (r5 : Int) => (
cond (!decide (r4 = r5)) (
some false) (
(F17 (r3, a1.1, a1.2.1)).bind fun (r6 : Y3 × Int) => (
(F28 (a0, a1.1, a1.2.1)).bind fun (r7 : Y3 × Int) => (
(F21 (r3, a1.1, a1.2.1)).bind fun (r8 : Int × Int) => (
(F29 (a0, a1.1, a1.2.1)).bind fun (r9 : Int × Int) => (
(F26 (r3, a1.2.1)).bind fun (r10 : Y3 × Int) => (
(F30 (a0, a1.2.1)).bind fun (r11 : Y3 × Int) => (
cond (((((decide (r6.1.1 = r7.1.1) && decide (r6.1.2.1 = r7.1.2.1)) && decide (r6.1.2.2.1 = r7.1.2.2.1)) && decide (r6.1.2.2.2.1 = r7.1.2.2.2.1)) && decide (r6.1.2.2.2.2.1 = r7.1.2.2.2.2.1)) && decide (r6.1.2.2.2.2.2 = r7.1.2.2.2.2.2)) (
cond (decide (r6.2 = r7.2)) (
cond (decide (r8.1 = r9.1)) (
cond (decide (r8.2 = r9.2)) (
cond (((((decide (r10.1.1 = r11.1.1) && decide (r10.1.2.1 = r11.1.2.1)) && decide (r10.1.2.2.1 = r11.1.2.2.1)) && decide (r10.1.2.2.2.1 = r11.1.2.2.2.1)) && decide (r10.1.2.2.2.2.1 = r11.1.2.2.2.2.1)) && decide (r10.1.2.2.2.2.2 = r11.1.2.2.2.2.2)) (
cond (decide (r10.2 = r11.2)) (
(F31 (r3, a0)).bind fun (r12 : Bool) => (
cond r12 (
(F15 ()).bind fun (r13 : Bool) => (
some r13)) (
some false))) (
some false)) (
some false)) (
some false)) (
some false)) (
some false)) (
some false)))))))))))))
theorem g9 (F23 : Y22) (F15 : Y194) (F24 : Y212) (F27 : Y25) (F20 : Y25) (F17 : Y175) (F28 : Y175) (F21 : Y178) (F29 : Y178) (F26 : Y239) (F30 : Y239) (F31 : Y292) (a0 : Y20) (a1 : Y5) : dxf (T9 F23 F15 F24 F27 F20 F17 F28 F21 F29 F26 F30 F31) sh9 [(.t 4)] c9 (a0, a1) = q9 F23 F15 F24 F27 F20 F17 F28 F21 F29 F26 F30 F31 a0 a1 := by kernel_rfl
noncomputable def p9 (a0 : Y20) (a1 : Y5) : Option Bool := q9 P23 P15 P24 P27 P20 P17 P28 P21 P29 P26 P30 P31 a0 a1
noncomputable def P9 : Y37 := fun x => p9 x.1 x.2
theorem v9 : dxf (T9 P23 P15 P24 P27 P20 P17 P28 P21 P29 P26 P30 P31) sh9 [(.t 4)] c9 = P9 := funext fun x => (g9 P23 P15 P24 P27 P20 P17 P28 P21 P29 P26 P30 P31 x.1 x.2).trans (show q9 P23 P15 P24 P27 P20 P17 P28 P21 P29 P26 P30 P31 x.1 x.2 = q9 P23 P15 P24 P27 P20 P17 P28 P21 P29 P26 P30 P31 x.1 x.2 from rfl)
theorem d9 : DC Try.prog 9 sh9 P9 := DC_eq v9 (dxf_sound (sh := sh9) t9 ok9 (by kernel_rfl))
noncomputable def T81 : List FEnt := []
theorem t81 : DTblOK Try.prog T81 := DTbl_nil
def c81 : DCode := (.seq (.reg [o 4 (.mov (.c .emp))]) (.seq (.seq (.reg [o 5 (.mov (.t 1)),
  o 6 (.bin true .lss (.t 5) (.c (.int .i64 0)))]) (.cond (.t 6) (.reg [o 7 (.bad),
  .op ⟨none, .bad, none⟩ none]) .skip)) (.seq (.seq (.reg [o 8 (.mov (.t 1)),
  o 9 (.mov (.t 0)),
  o 10 (.cap (.t 9)),
  o 11 (.mov (.t 0)),
  o 12 (.len (.t 11)),
  o 13 (.bin true .sub (.t 10) (.t 12)),
  o 14 (.bin true .sub (.t 8) (.t 13)),
  o 1 (.mov (.t 14))]) (.seq (.reg [o 15 (.mov (.t 1)),
  o 16 (.bin true .gtr (.t 15) (.c (.int .i64 0)))]) (.cond (.t 16) (.reg [o 17 (.mov (.t 0)),
  o 18 (.mov (.t 0)),
  o 19 (.cap (.t 18)),
  o 20 (.sle (.t 17) (.t 19)),
  o 21 (.mov (.t 1)),
  .op ⟨some 22, .apz 45 6 48 [(.int .i64 0), (.int .i64 0), (.int .i64 0), (.int .i64 0), (.int .i64 0), (.int .i64 0)] (.t 20) (.t 21), none⟩ (some (true, y48)),
  o 23 (.mov (.t 0)),
  o 24 (.len (.t 23)),
  o 25 (.trn (.t 22) (.t 24)),
  o 0 (.mov (.t 25))]) .skip))) (.seq (.reg [o 26 (.mov (.t 0)),
  o 4 (.mov (.t 26))]) .ret))))
theorem ok81 : L.Fn Try.prog 81 27 [(.t 4)] (erase c81) := L.Fn.of hmix Try.func81 [(5, { ch := [0,0,0,3,0,0,0,0,2,0] })] (by kernel_rfl)
def sh81 : FSh := ⟨⟨[.emp, (.v y6)], []⟩, [y6], 0, ⟨⟨[(.slc 0)], [(0, (.row 45 y48))]⟩, [y60], [], 1⟩, true⟩
noncomputable def q81 (a0 : Int) : Option Y8 :=
cond (decide (a0 < (0 : Int))) (
none) (
chk (fits .i64 ((0 : Int) - (0 : Int))) (
chk (fits .i64 (a0 - ((0 : Int) - (0 : Int)))) (
cond (decide ((0 : Int) < (a0 - ((0 : Int) - (0 : Int))))) (
chk (decide ((0 : Int) = 0)) (
chk (decide (0 < (a0 - ((0 : Int) - (0 : Int))))) (
chk (decide ((48 : Int) * (a0 - ((0 : Int) - (0 : Int))) ≤ 140737488355328)) (
chk (decide ((0 : Int) ≤ (0 : Int))) (
chk (decide ((0 : Int) ≤ (↑(List.length (repl (Int.toNat (a0 - ((0 : Int) - (0 : Int)))) ((0 : Int), ((0 : Int), ((0 : Int), ((0 : Int), ((0 : Int), (0 : Int)))))))) : Int))) (
chk (decide (0 < List.length (repl (Int.toNat (a0 - ((0 : Int) - (0 : Int)))) ((0 : Int), ((0 : Int), ((0 : Int), ((0 : Int), ((0 : Int), (0 : Int))))))))) (
some (List.take (Int.toNat (0 : Int)) (repl (Int.toNat (a0 - ((0 : Int) - (0 : Int)))) ((0 : Int), ((0 : Int), ((0 : Int), ((0 : Int), ((0 : Int), (0 : Int))))))))))))))) (
some ([] : List Y3)))))
theorem g81 (a0 : Int) : dxf T81 sh81 [(.t 4)] c81 a0 = q81 a0 := by kernel_rfl
noncomputable def p81 (a0 : Int) : Option Y8 := q81 a0
noncomputable def P81 : Y269 := fun x => p81 x
theorem v81 : dxf T81 sh81 [(.t 4)] c81 = P81 := funext fun x => (g81 x).trans (show q81 x = q81 x from rfl)
theorem d81 : DC Try.prog 81 sh81 P81 := DC_eq v81 (dxf_sound (sh := sh81) t81 ok81 (by kernel_rfl))
noncomputable def T57 (F81 : Y269) : List FEnt := [⟨81, sh81, F81⟩]
theorem t57 : DTblOK Try.prog (T57 P81) := (DTbl_cons' (f := 81) (sh := sh81) (F := P81) d81 (by kernel_rfl) DTbl_nil)
def b57_0 : DCode := (.seq (.reg [o 12 (.bin true .lss (.t 11) (.t 10))]) (.seq (.cond (.t 12) .skip (.exit 0)) (.seq (.blk 1 (.seq (.reg [o 13 (.idx (.t 9) (.t 11) 1),
  o 14 (.ld1 (.t 13) false),
  o 5 (.mov (.t 14))]) (.seq (.reg [o 15 (.mov (.t 3)),
  o 16 (.mov (.t 5)),
  o 17 (.len (.t 16)),
  o 18 (.bin true .add (.t 15) (.t 17)),
  o 3 (.mov (.t 18))]) (.seq (.reg [o 19 (.mov (.t 3)),
  o 20 (.bin true .lss (.t 19) (.c (.int .i64 0)))]) (.cond (.t 20) (.reg [o 21 (.bad),
  .op ⟨none, .bad, none⟩ none]) .skip))))) (.reg [o 22 (.bin true .add (.t 11) (.c (.int .i64 1))),
  o 11 (.mov (.t 22))]))))
def h57_0 : LSh := ⟨[0, 3, 9, 10, 11], ⟨[(.v y305), (.v y6), (.v y305), (.v y6), (.v y6)], []⟩, [y305, y6, y305, y6, y6], 0, []⟩
def x57_0 : List XSh := [⟨(.exit 0), [0, 3], ⟨⟨[(.v y305), (.v y6)], []⟩, [y305, y6], [], 0⟩⟩]
noncomputable def s57_0 (T : List FEnt) : Y293 := dstep (xs := x57_0) h57_0 (dxc T b57_0)
noncomputable def l57_0 (T : List FEnt) : Y284 := whileF (s57_0 T)
noncomputable def q57_0 (F81 : Y269) (a0 : List Y8) (a1 : Int) (a2 : List Y8) (a3 : Int) (a4 : Int) : Option Y287 :=
cond (decide (a4 < a3)) (
chk (inR a4 (List.length a2)) (
chk (fits .i64 (a1 + (↑(List.length (ix a2 a4)) : Int))) (
cond (decide ((a1 + (↑(List.length (ix a2 a4)) : Int)) < (0 : Int))) (
none) (
chk (fits .i64 (a4 + (1 : Int))) (
some (Sum.inl (a0, (a1 + (↑(List.length (ix a2 a4)) : Int)), a2, a3, (a4 + (1 : Int))))))))) (
some (Sum.inr (a0, a1)))
theorem g57_0 (F81 : Y269) (a0 : List Y8) (a1 : Int) (a2 : List Y8) (a3 : Int) (a4 : Int) : s57_0 (T57 F81) (a0, a1, a2, a3, a4) = q57_0 F81 a0 a1 a2 a3 a4 := by kernel_rfl
noncomputable def p57_0 (a0 : List Y8) (a1 : Int) (a2 : List Y8) (a3 : Int) (a4 : Int) : Option Y287 := q57_0 P81 a0 a1 a2 a3 a4
noncomputable def L57_0 : Y284 := whileF (fun x => p57_0 x.1 x.2.1 x.2.2.1 x.2.2.2.1 x.2.2.2.2)
theorem v57_0 : l57_0 (T57 P81) = L57_0 := congrArg whileF (funext fun x => (g57_0 P81 x.1 x.2.1 x.2.2.1 x.2.2.2.1 x.2.2.2.2).trans (show q57_0 P81 x.1 x.2.1 x.2.2.1 x.2.2.2.1 x.2.2.2.2 = q57_0 P81 x.1 x.2.1 x.2.2.1 x.2.2.2.1 x.2.2.2.2 from rfl))
def b57_1 : DCode := (.seq (.reg [o 28 (.bin true .lss (.t 27) (.t 26))]) (.seq (.cond (.t 28) .skip (.exit 2)) (.seq (.blk 3 (.seq (.reg [o 29 (.idx (.t 25) (.t 27) 1),
  o 30 (.ld1 (.t 29) false),
  o 8 (.mov (.t 30))]) (.reg [o 31 (.mov (.t 6)),
  o 32 (.mov (.t 8)),
  .op ⟨some 33, .app 45 6 48 (.t 31) (.t 32), none⟩ (some (true, y48)),
  o 6 (.mov (.t 33))]))) (.reg [o 34 (.bin true .add (.t 27) (.c (.int .i64 1))),
  o 27 (.mov (.t 34))]))))
def h57_1 : LSh := ⟨[6, 25, 26, 27], ⟨[(.slc 0), (.v y305), (.v y6), (.v y6)], [(0, (.row 45 y48))]⟩, [y305, y6, y6, y60], 1, []⟩
def x57_1 : List XSh := [⟨(.exit 2), [6], ⟨⟨[(.slc 0)], [(0, (.row 45 y48))]⟩, [y60], [], 1⟩⟩]
noncomputable def s57_1 (T : List FEnt) : Y294 := dstep (xs := x57_1) h57_1 (dxc T b57_1)
noncomputable def l57_1 (T : List FEnt) : Y277 := whileF (s57_1 T)
noncomputable def q57_1 (F81 : Y269) (a0 : List Y8) (a1 : Int) (a2 : Int) (a3 : List Y3) : Option Y288 :=
cond (decide (a2 < a1)) (
chk (inR a2 (List.length a0)) (
chk (capOk 48 (List.length a3 + List.length (ix a0 a2))) (
chk (fits .i64 (a2 + (1 : Int))) (
some (Sum.inl (a0, a1, (a2 + (1 : Int)), (a3 ++ (ix a0 a2)))))))) (
some (Sum.inr a3))
theorem g57_1 (F81 : Y269) (a0 : List Y8) (a1 : Int) (a2 : Int) (a3 : List Y3) : s57_1 (T57 F81) (a0, a1, a2, a3) = q57_1 F81 a0 a1 a2 a3 := by kernel_rfl
noncomputable def p57_1 (a0 : List Y8) (a1 : Int) (a2 : Int) (a3 : List Y3) : Option Y288 := q57_1 P81 a0 a1 a2 a3
noncomputable def L57_1 : Y277 := whileF (fun x => p57_1 x.1 x.2.1 x.2.2.1 x.2.2.2)
theorem v57_1 : l57_1 (T57 P81) = L57_1 := congrArg whileF (funext fun x => (g57_1 P81 x.1 x.2.1 x.2.2.1 x.2.2.2).trans (show q57_1 P81 x.1 x.2.1 x.2.2.1 x.2.2.2 = q57_1 P81 x.1 x.2.1 x.2.2.1 x.2.2.2 from rfl))
def c57 : DCode := (.seq (.reg [o 2 (.mov (.c .emp))]) (.seq (.reg [o 3 (.mov (.c (.int .i64 0)))]) (.seq (.seq (.reg [o 9 (.mov (.t 0)),
  o 10 (.len (.t 9)),
  o 11 (.mov (.c (.int .i64 0)))]) (.blk 0 (.loop h57_0 x57_0 b57_0))) (.seq (.reg [o 23 (.mov (.t 3)),
  o 24 (.xcall 81 [(.c .emp), (.t 23)]),
  o 6 (.mov (.t 24))]) (.seq (.seq (.reg [o 25 (.mov (.t 0)),
  o 26 (.len (.t 25)),
  o 27 (.mov (.c (.int .i64 0)))]) (.blk 2 (.loop h57_1 x57_1 b57_1))) (.seq (.reg [o 35 (.mov (.t 6)),
  o 2 (.mov (.t 35))]) .ret))))))
theorem ok57 : L.Fn Try.prog 57 36 [(.t 2)] (erase c57) := L.Fn.of hmix Try.func57 [] (by kernel_rfl)
def sh57 : FSh := ⟨⟨[(.v y305)], []⟩, [y305], 0, ⟨⟨[(.slc 0)], [(0, (.row 45 y48))]⟩, [y60], [], 1⟩, true⟩
noncomputable def q57 (F81 : Y269) (l57_0 : Y284) (l57_1 : Y277) (a0 : List Y8) : Option Y8 :=
(l57_0 (a0, (0 : Int), a0, (↑(List.length a0) : Int), (0 : Int))).bind fun (y1 : Y273 × Int) => (
(F81 y1.2).bind fun (r2 : List Y3) => (
(l57_1 (y1.1, (↑(List.length y1.1) : Int), (0 : Int), r2)).bind fun (y3 : List Y3) => (
some y3)))
theorem g57 (F81 : Y269) (a0 : List Y8) : dxf (T57 F81) sh57 [(.t 2)] c57 a0 = q57 F81 (l57_0 (T57 F81)) (l57_1 (T57 F81)) a0 := by kernel_rfl
noncomputable def p57 (a0 : List Y8) : Option Y8 := q57 P81 L57_0 L57_1 a0
noncomputable def P57 : Y270 := fun x => p57 x
theorem v57 : dxf (T57 P81) sh57 [(.t 2)] c57 = P57 := funext fun x => (g57 P81 x).trans (show q57 P81 (l57_0 (T57 P81)) (l57_1 (T57 P81)) x = q57 P81 L57_0 L57_1 x from by rw [v57_0, v57_1])
theorem d57 : DC Try.prog 57 sh57 P57 := DC_eq v57 (dxf_sound (sh := sh57) t57 ok57 (by kernel_rfl))
noncomputable def T58 : List FEnt := []
theorem t58 : DTblOK Try.prog T58 := DTbl_nil
def c58 : DCode := (.seq (.reg [o 2 (.mov (.c .emp))]) (.seq (.seq (.reg [o 3 (.mov (.t 0)),
  o 4 (.isn false (.t 3))]) (.cond (.t 4) (.seq (.reg [o 2 (.mov (.c .emp))]) .ret) .skip)) (.seq (.reg [.op ⟨some 5, .bsr 33 9 [], none⟩ (some (true, y66)),
  o 6 (.mov (.t 0)),
  .op ⟨some 7, .app 33 9 104 (.t 5) (.t 6), none⟩ (some (true, y66)),
  o 2 (.mov (.t 7))]) .ret)))
theorem ok58 : L.Fn Try.prog 58 8 [(.t 2)] (erase c58) := L.Fn.of hmix Try.func58 [] (by kernel_rfl)
def sh58 : FSh := ⟨⟨[(.v y67)], []⟩, [y67], 0, ⟨⟨[(.slc 0)], [(0, (.row 33 y66))]⟩, [y67], [], 1⟩, false⟩
noncomputable def q58 (a0 : List Y9) : Option Y17 :=
bisn (decide (List.length a0 = 0)) (
some ([] : List Y9)) (
chk (capOk 104 (List.length ([] : List Y9) + List.length a0)) (
some (([] : List Y9) ++ a0)))
theorem g58 (a0 : List Y9) : dxf T58 sh58 [(.t 2)] c58 a0 = q58 a0 := by kernel_rfl
noncomputable def p58 (a0 : List Y9) : Option Y17 := q58 a0
noncomputable def P58 : Y285 := fun x => p58 x
theorem v58 : dxf T58 sh58 [(.t 2)] c58 = P58 := funext fun x => (g58 x).trans (show q58 x = q58 x from rfl)
theorem d58 : DC Try.prog 58 sh58 P58 := DC_eq v58 (dxf_sound (sh := sh58) t58 ok58 (by kernel_rfl))
noncomputable def T59 : List FEnt := []
theorem t59 : DTblOK Try.prog T59 := DTbl_nil
def c59 : DCode := (.seq (.reg [o 2 (.mov (.c .emp))]) (.seq (.seq (.reg [o 3 (.mov (.t 0)),
  o 4 (.isn false (.t 3))]) (.cond (.t 4) (.seq (.reg [o 2 (.mov (.c .emp))]) .ret) .skip)) (.seq (.reg [.op ⟨some 5, .bsr 3 1 [], none⟩ (some (false, y6)),
  o 6 (.mov (.t 0)),
  .op ⟨some 7, .app 3 1 8 (.t 5) (.t 6), none⟩ (some (false, y6)),
  o 2 (.mov (.t 7)),
  .fz 2 []]) .ret)))
theorem ok59 : L.Fn Try.prog 59 8 [(.t 2)] (erase c59) := L.Fn.of hmix Try.func59 [] (by kernel_rfl)
def sh59 : FSh := ⟨⟨[(.v y12)], []⟩, [y12], 0, ⟨⟨[(.v y12)], []⟩, [y12], [], 0⟩, false⟩
noncomputable def q59 (a0 : List Int) : Option Y1 :=
bisn (decide (List.length a0 = 0)) (
some ([] : List Int)) (
chk (capOk 8 (List.length ([] : List Int) + List.length a0)) (
some (([] : List Int) ++ a0)))
theorem g59 (a0 : List Int) : dxf T59 sh59 [(.t 2)] c59 a0 = q59 a0 := by kernel_rfl
noncomputable def p59 (a0 : List Int) : Option Y1 := q59 a0
noncomputable def P59 : Y266 := fun x => p59 x
theorem v59 : dxf T59 sh59 [(.t 2)] c59 = P59 := funext fun x => (g59 x).trans (show q59 x = q59 x from rfl)
theorem d59 : DC Try.prog 59 sh59 P59 := DC_eq v59 (dxf_sound (sh := sh59) t59 ok59 (by kernel_rfl))
noncomputable def T60 : List FEnt := []
theorem t60 : DTblOK Try.prog T60 := DTbl_nil
def c60 : DCode := (.seq (.reg [o 2 (.mov (.c .emp))]) (.seq (.seq (.reg [o 3 (.mov (.t 0)),
  o 4 (.isn false (.t 3))]) (.cond (.t 4) (.seq (.reg [o 2 (.mov (.c .emp))]) .ret) .skip)) (.seq (.reg [.op ⟨some 5, .bsr 43 2 [], none⟩ (some (true, y13)),
  o 6 (.mov (.t 0)),
  .op ⟨some 7, .app 43 2 16 (.t 5) (.t 6), none⟩ (some (true, y13)),
  o 2 (.mov (.t 7)),
  .fz 2 []]) .ret)))
theorem ok60 : L.Fn Try.prog 60 8 [(.t 2)] (erase c60) := L.Fn.of hmix Try.func60 [] (by kernel_rfl)
def sh60 : FSh := ⟨⟨[(.v y15)], []⟩, [y15], 0, ⟨⟨[(.v y15)], []⟩, [y15], [], 0⟩, false⟩
noncomputable def q60 (a0 : List Y2) : Option Y7 :=
bisn (decide (List.length a0 = 0)) (
some ([] : List Y2)) (
chk (capOk 16 (List.length ([] : List Y2) + List.length a0)) (
some (([] : List Y2) ++ a0)))
theorem g60 (a0 : List Y2) : dxf T60 sh60 [(.t 2)] c60 a0 = q60 a0 := by kernel_rfl
noncomputable def p60 (a0 : List Y2) : Option Y7 := q60 a0
noncomputable def P60 : Y271 := fun x => p60 x
theorem v60 : dxf T60 sh60 [(.t 2)] c60 = P60 := funext fun x => (g60 x).trans (show q60 x = q60 x from rfl)
theorem d60 : DC Try.prog 60 sh60 P60 := DC_eq v60 (dxf_sound (sh := sh60) t60 ok60 (by kernel_rfl))
end Go.Proofs.Ytfknkinmnecoeaa.D
