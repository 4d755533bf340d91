/- Cut down from a longer text. -/
import Derived.Test.YtfknkinmnecoeaaG2q
import Derived.Test.YtfknkinmnecoeaaProg
set_option linter.unusedVariables false
set_option maxRecDepth 100000
namespace Go.Proofs.Ytfknkinmnecoeaa.D
open Go Go.Proofs Go.Proofs.Ytfknkinmnecoeaa.L
noncomputable def T51 (F56 : Y120) (F73 : Y133) : List FEnt := [⟨56, sh56, F56⟩, ⟨73, sh73, F73⟩]
theorem t51 : DTblOK Try.prog (T51 P56 P73) := (DTbl_cons' (f := 56) (sh := sh56) (F := P56) d56 (by kernel_rfl) (DTbl_cons' (f := 73) (sh := sh73) (F := P73) d73 (by kernel_rfl) DTbl_nil))
def c51 : DCode := (.seq (.reg [o 2 (.box (.t 0)),
  o 4 (.mov (.c (.bool false)))]) (.seq (.reg [o 8 (.mov (.t 1)),
  o 9 (.xcall 56 [(.t 8)]),
  o 7 (.mov (.t 9)),
  o 10 (.ext (.t 7) 0),
  o 11 (.ext (.t 7) 1),
  o 5 (.mov (.t 10)),
  o 6 (.mov (.t 11))]) (.seq (.reg [o 12 (.mov (.t 6)),
  o 13 (.mov (.t 12)),
  og 14 13 true (.mov (.t 1)),
  og 15 13 true (.len (.t 14)),
  og 16 13 true (.bin true .leq (.t 15) (.c (.int .i64 40))),
  o 17 (.pick (.t 13) (.t 16) (.c (.bool false))),
  o 18 (.mov (.t 17)),
  og 19 18 true (.mov (.t 1)),
  og 20 18 true (.mkf 74 [(.t 2)]),
  og 21 18 true (.xcall 73 [(.t 19), (.t 20)]),
  og 22 18 true (.unot (.t 21)),
  o 23 (.pick (.t 18) (.t 22) (.c (.bool false))),
  o 4 (.mov (.t 23))]) .ret)))
theorem ok51 : L.Fn Try.prog 51 24 [(.t 4)] (erase c51) := L.Fn.of hmix Try.func51 [] (by kernel_rfl)
def sh51 : FSh := ⟨⟨[(.st y69), (.v y60)], []⟩, [y69, y60], 0, ⟨⟨[(.v .bool)], []⟩, [.bool], [], 0⟩, true⟩
noncomputable def q51 (F56 : Y120) (F73 : Y133) (a0 : Y20) (a1 : List Y3) : Option Bool :=
(F56 a1).bind fun (r1 : Bool × Y8) => (
cond r1.1 (
cond (decide ((↑(List.length a1) : Int) ≤ (40 : Int))) (
(F73 (a1, a0)).bind fun (r2 : Bool) => (
some (!r2))) (
some false)) (
some false))
theorem g51 (F56 : Y120) (F73 : Y133) (a0 : Y20) (a1 : List Y3) : dxf (T51 F56 F73) sh51 [(.t 4)] c51 (a0, a1) = q51 F56 F73 a0 a1 := by kernel_rfl
noncomputable def p51 (a0 : Y20) (a1 : List Y3) : Option Bool := q51 P56 P73 a0 a1
noncomputable def P51 : Y36 := fun x => p51 x.1 x.2
theorem v51 : dxf (T51 P56 P73) sh51 [(.t 4)] c51 = P51 := funext fun x => (g51 P56 P73 x.1 x.2).trans (show q51 P56 P73 x.1 x.2 = q51 P56 P73 x.1 x.2 from rfl)
theorem d51 : DC Try.prog 51 sh51 P51 := DC_eq v51 (dxf_sound (sh := sh51) t51 ok51 (by kernel_rfl))
noncomputable def T27 (F40 : Y4) (F47 : Y33) (F50 : Y11) (F51 : Y36) : List FEnt := [⟨40, sh40, F40⟩, ⟨47, sh47, F47⟩, ⟨50, sh50, F50⟩, ⟨51, sh51, F51⟩]
theorem t27 : DTblOK Try.prog (T27 P40 P47 P50 P51) := (DTbl_cons' (f := 40) (sh := sh40) (F := P40) d40 (by kernel_rfl) (DTbl_cons' (f := 47) (sh := sh47) (F := P47) d47 (by kernel_rfl) (DTbl_cons' (f := 50) (sh := sh50) (F := P50) d50 (by kernel_rfl) (DTbl_cons' (f := 51) (sh := sh51) (F := P51) d51 (by kernel_rfl) DTbl_nil))))
def b27_0 : DCode := (.seq (.reg [o 21 (.bin true .lss (.t 20) (.t 19))]) (.seq (.cond (.t 21) .skip (.exit 0)) (.seq (.blk 1 (.seq (.reg [o 22 (.mov (.t 20)),
  o 23 (.idx (.t 18) (.t 20) 9),
  o 24 (.ldn (.t 23) 9 false),
  o 4 (.alc [(.int .i64 0), (.int .i64 0), (.int .i64 0), .emp, .emp, (.int .i64 0), (.int .i64 0), (.int .i64 0), (.int .i64 0)]),
  o 3 (.mov (.t 22)),
  .op ⟨none, .sto (.t 4) (.t 24) 9, none⟩ none]) (.seq (.drw [1, 4] [r 26 (.fld (.t 1) 1),
  r 27 (.ld1 (.t 26) true),
  r 28 (.mov (.t 3)),
  r 29 (.sl (.t 27) none (some (.t 28)) 9),
  r 30 (.bld [(.int .i64 0), .emp, .emp] [(1, (1, (.t 29)))]),
  r 31 (.fld (.t 4) 0),
  r 32 (.ld1 (.t 31) true),
  r 33 (.xcall 47 [(.t 30), (.t 32)]),
  r 25 (.mov (.t 33)),
  r 34 (.ext (.t 25) 0),
  r 35 (.ext (.t 25) 1),
  r 5 (.alc [(.int .i64 0), (.int .i64 0), (.int .i64 0), .emp, .emp, (.int .i64 0), (.int .i64 0), (.int .i64 0), (.int .i64 0)]),
  (⟨none, .sto (.t 5) (.t 34) 9, none⟩, none),
  r 6 (.mov (.t 35))]) (.seq (.reg [o 36 (.mov (.t 6)),
  o 37 (.mov (.t 36)),
  og 38 37 false (.ldn (.t 4) 9 false),
  og 39 37 false (.xcall 50 [(.t 38)]),
  og 40 37 false (.unot (.t 39)),
  o 41 (.pick (.t 37) (.c (.bool true)) (.t 40))]) (.cond (.t 41) (.seq (.reg [o 2 (.mov (.c (.int .i64 80)))]) .ret) .skip))))) (.reg [o 42 (.bin true .add (.t 20) (.c (.int .i64 1))),
  o 20 (.mov (.t 42))]))))
def h27_0 : LSh := ⟨[1, 18, 19, 20], ⟨[(.ptr 0 0), (.v y67), (.v y6), (.v y6)], [(0, (.boxT y69))]⟩, [y67, y6, y6, y69], 1, [0]⟩
def x27_0 : List XSh := [⟨.ret, [2], ⟨⟨[(.v y6)], [(0, (.boxT y69))]⟩, [y6, y69], [0], 1⟩⟩, ⟨(.exit 0), [1], ⟨⟨[(.ptr 0 0)], [(0, (.boxT y69))]⟩, [y69], [0], 1⟩⟩]
noncomputable def s27_0 (T : List FEnt) : Y190 := dstep (xs := x27_0) h27_0 (dxc T b27_0)
noncomputable def l27_0 (T : List FEnt) : Y184 := whileF (s27_0 T)
noncomputable def q27_0 (F40 : Y4) (F47 : Y33) (F50 : Y11) (F51 : Y36) (a0 : List Y9) (a1 : Int) (a2 : Int) (a3 : Y20) : Option Y187 :=
cond (decide (a2 < a1)) (
chk (inR a2 (List.length a0)) (
chk (decide ((0 : Int) ≤ (0 : Int))) (
chk (decide ((0 : Int) ≤ a2)) (
chk (decide (a2 ≤ (↑(List.length a3.2.1) : Int))) (
(F47 (((0 : Int), ((cutL a3.2.1 (0 : Int) a2), ([] : List Y3))), (ix a0 a2).1)).bind fun (r2 : Y9 × Bool) => (
cond r2.2 (
some (Sum.inr (Sum.inl ((80 : Int), a3)))) (
(F50 (ix a0 a2)).bind fun (r3 : Bool) => (
cond (!r3) (
some (Sum.inr (Sum.inl ((80 : Int), a3)))) (
chk (fits .i64 (a2 + (1 : Int))) (
some (Sum.inl (a0, a1, (a2 + (1 : Int)), a3)))))))))))) (
some (Sum.inr (Sum.inr a3)))
theorem g27_0 (F40 : Y4) (F47 : Y33) (F50 : Y11) (F51 : Y36) (a0 : List Y9) (a1 : Int) (a2 : Int) (a3 : Y20) : s27_0 (T27 F40 F47 F50 F51) (a0, a1, a2, a3) = q27_0 F40 F47 F50 F51 a0 a1 a2 a3 := by kernel_rfl
noncomputable def p27_0 (a0 : List Y9) (a1 : Int) (a2 : Int) (a3 : Y20) : Option Y187 := q27_0 P40 P47 P50 P51 a0 a1 a2 a3
noncomputable def L27_0 : Y184 := whileF (fun x => p27_0 x.1 x.2.1 x.2.2.1 x.2.2.2)
theorem v27_0 : l27_0 (T27 P40 P47 P50 P51) = L27_0 := congrArg whileF (funext fun x => (g27_0 P40 P47 P50 P51 x.1 x.2.1 x.2.2.1 x.2.2.2).trans (show q27_0 P40 P47 P50 P51 x.1 x.2.1 x.2.2.1 x.2.2.2 = q27_0 P40 P47 P50 P51 x.1 x.2.1 x.2.2.1 x.2.2.2 from rfl))
def c27 : DCode := (.seq (.reg [o 1 (.box (.t 0)),
  o 2 (.mov (.c (.int .i64 0)))]) (.seq (.seq (.reg [o 7 (.fld (.t 1) 0),
  o 8 (.ld1 (.t 7) false),
  o 9 (.xcall 40 [(.t 8), (.c (.int .i64 0)), (.c (.int .i64 500))]),
  o 10 (.unot (.t 9)),
  o 11 (.mov (.t 10)),
  og 12 11 false (.fld (.t 1) 1),
  og 13 11 false (.ld1 (.t 12) false),
  og 14 11 false (.len (.t 13)),
  og 15 11 false (.bin true .gtr (.t 14) (.c (.int .i64 6))),
  o 16 (.pick (.t 11) (.c (.bool true)) (.t 15))]) (.cond (.t 16) (.seq (.reg [o 2 (.mov (.c (.int .i64 80)))]) .ret) .skip)) (.seq (.seq (.reg [o 17 (.fld (.t 1) 1),
  o 18 (.ld1 (.t 17) false),
  o 19 (.len (.t 18)),
  o 20 (.mov (.c (.int .i64 0)))]) (.blk 0 (.loop h27_0 x27_0 b27_0))) (.seq (.seq (.reg [o 43 (.ldn (.t 1) 3 false),
  o 44 (.fld (.t 1) 2),
  o 45 (.ld1 (.t 44) false),
  o 46 (.xcall 51 [(.t 43), (.t 45)]),
  o 47 (.unot (.t 46))]) (.cond (.t 47) (.seq (.reg [o 2 (.mov (.c (.int .i64 81)))]) .ret) .skip)) (.seq (.reg [o 2 (.mov (.c (.int .i64 0)))]) .ret)))))
theorem ok27 : L.Fn Try.prog 27 48 [(.t 2)] (erase c27) := L.Fn.of hmix Try.func27 [(6, { ch := [0,1,0,0,0,0,1,0,0,0,0,0,0,0], rs := [1,4] })] (by kernel_rfl)
def sh27 : FSh := ⟨⟨[(.st y69)], []⟩, [y69], 0, ⟨⟨[(.v y6)], []⟩, [y6], [], 0⟩, true⟩
noncomputable def q27 (F40 : Y4) (F47 : Y33) (F50 : Y11) (F51 : Y36) (l27_0 : Y184) (a0 : Y20) : Option Int :=
(F40 (a0.1, (0 : Int), (500 : Int))).bind fun (r1 : Bool) => (
cond (!r1) (
some (80 : Int)) (
cond (decide ((6 : Int) < (↑(List.length a0.2.1) : Int))) (
some (80 : Int)) (
(l27_0 (a0.2.1, (↑(List.length a0.2.1) : Int), (0 : Int), a0)).bind (fun (y4 : Y24 ⊕ Y20) => Sum.elim (fun (y5 : Y24) => (
some y5.1)) (fun (y6 : Y20) => (
(F51 (y6, y6.2.2)).bind fun (r7 : Bool) => (
cond (!r7) (
some (81 : Int)) (
some (0 : Int))))) y4))))
theorem g27 (F40 : Y4) (F47 : Y33) (F50 : Y11) (F51 : Y36) (a0 : Y20) : dxf (T27 F40 F47 F50 F51) sh27 [(.t 2)] c27 a0 = q27 F40 F47 F50 F51 (l27_0 (T27 F40 F47 F50 F51)) a0 := by kernel_rfl
noncomputable def p27 (a0 : Y20) : Option Int := q27 P40 P47 P50 P51 L27_0 a0
noncomputable def P27 : Y25 := fun x => p27 x
theorem v27 : dxf (T27 P40 P47 P50 P51) sh27 [(.t 2)] c27 = P27 := funext fun x => (g27 P40 P47 P50 P51 x).trans (show q27 P40 P47 P50 P51 (l27_0 (T27 P40 P47 P50 P51)) x = q27 P40 P47 P50 P51 L27_0 x from by rw [v27_0])
theorem d27 : DC Try.prog 27 sh27 P27 := DC_eq v27 (dxf_sound (sh := sh27) t27 ok27 (by kernel_rfl))
noncomputable def T39 (F27 : Y25) (F47 : Y33) : List FEnt := [⟨27, sh27, F27⟩, ⟨47, sh47, F47⟩]
theorem t39 : DTblOK Try.prog (T39 P27 P47) := (DTbl_cons' (f := 27) (sh := sh27) (F := P27) d27 (by kernel_rfl) (DTbl_cons' (f := 47) (sh := sh47) (F := P47) d47 (by kernel_rfl) DTbl_nil))
def c39 : DCode := (.seq (.reg [o 2 (.box (.t 0)),
  o 4 (.alc [(.int .i64 0), (.int .i64 0), (.int .i64 0), .emp, .emp, (.int .i64 0), (.int .i64 0), (.int .i64 0), (.int .i64 0)]),
  o 5 (.mov (.c (.int .i64 0)))]) (.seq (.seq (.reg [o 9 (.ldn (.t 2) 3 false),
  o 10 (.xcall 27 [(.t 9)]),
  o 6 (.mov (.t 10))]) (.seq (.reg [o 11 (.mov (.t 6)),
  o 12 (.bin true .neq (.t 11) (.c (.int .i64 0)))]) (.cond (.t 12) (.seq (.reg [o 13 (.bld [(.int .i64 0), (.int .i64 0), (.int .i64 0), .emp, .emp, (.int .i64 0), (.int .i64 0), (.int .i64 0), (.int .i64 0)] []),
  o 14 (.mov (.t 6)),
  .op ⟨none, .sto (.t 4) (.t 13) 9, none⟩ none,
  o 5 (.mov (.t 14))]) .ret) .skip))) (.seq (.reg [o 16 (.ldn (.t 2) 3 false),
  o 17 (.mov (.t 1)),
  o 18 (.xcall 47 [(.t 16), (.t 17)]),
  o 15 (.mov (.t 18)),
  o 19 (.ext (.t 15) 0),
  o 20 (.ext (.t 15) 1),
  o 7 (.alc [(.int .i64 0), (.int .i64 0), (.int .i64 0), .emp, .emp, (.int .i64 0), (.int .i64 0), (.int .i64 0), (.int .i64 0)]),
  .op ⟨none, .sto (.t 7) (.t 19) 9, none⟩ none,
  o 8 (.mov (.t 20))]) (.seq (.seq (.reg [o 21 (.mov (.t 8)),
  o 22 (.unot (.t 21))]) (.cond (.t 22) (.seq (.reg [o 23 (.bld [(.int .i64 0), (.int .i64 0), (.int .i64 0), .emp, .emp, (.int .i64 0), (.int .i64 0), (.int .i64 0), (.int .i64 0)] []),
  .op ⟨none, .sto (.t 4) (.t 23) 9, none⟩ none,
  o 5 (.mov (.c (.int .i64 1)))]) .ret) .skip)) (.seq (.reg [o 24 (.ldn (.t 7) 9 false),
  .op ⟨none, .sto (.t 4) (.t 24) 9, none⟩ none,
  o 5 (.mov (.c (.int .i64 0)))]) .ret)))))
theorem ok39 : L.Fn Try.prog 39 25 [(.cell 4 true 9), (.t 5)] (erase c39) := L.Fn.of hmix Try.func39 [] (by kernel_rfl)
def sh39 : FSh := ⟨⟨[(.st y69), (.v y6)], []⟩, [y69, y6], 0, ⟨⟨[(.tup [(.st y66), (.v y6)])], []⟩, [y66, y6], [], 0⟩, false⟩
noncomputable def q39 (F27 : Y25) (F47 : Y33) (a0 : Y20) (a1 : Int) : Option Y161 :=
(F27 a0).bind fun (r1 : Int) => (
cond (!decide (r1 = (0 : Int))) (
some (((0 : Int), ((0 : Int), ((0 : Int), (([] : List Int), (([] : List Y2), ((0 : Int), ((0 : Int), ((0 : Int), (0 : Int))))))))), r1)) (
(F47 (a0, a1)).bind fun (r2 : Y9 × Bool) => (
cond (!r2.2) (
some (((0 : Int), ((0 : Int), ((0 : Int), (([] : List Int), (([] : List Y2), ((0 : Int), ((0 : Int), ((0 : Int), (0 : Int))))))))), (1 : Int))) (
some (r2.1, (0 : Int))))))
theorem g39 (F27 : Y25) (F47 : Y33) (a0 : Y20) (a1 : Int) : dxf (T39 F27 F47) sh39 [(.cell 4 true 9), (.t 5)] c39 (a0, a1) = q39 F27 F47 a0 a1 := by kernel_rfl
noncomputable def p39 (a0 : Y20) (a1 : Int) : Option Y161 := q39 P27 P47 a0 a1
noncomputable def P39 : Y171 := fun x => p39 x.1 x.2
theorem v39 : dxf (T39 P27 P47) sh39 [(.cell 4 true 9), (.t 5)] c39 = P39 := funext fun x => (g39 P27 P47 x.1 x.2).trans (show q39 P27 P47 x.1 x.2 = q39 P27 P47 x.1 x.2 from rfl)
theorem d39 : DC Try.prog 39 sh39 P39 := DC_eq v39 (dxf_sound (sh := sh39) t39 ok39 (by kernel_rfl))
noncomputable def T42 (F56 : Y120) : List FEnt := [⟨56, sh56, F56⟩]
theorem t42 : DTblOK Try.prog (T42 P56) := (DTbl_cons' (f := 56) (sh := sh56) (F := P56) d56 (by kernel_rfl) DTbl_nil)
def b42_0 : DCode := (.seq (.reg [o 26 (.bin true .lss (.t 25) (.t 24))]) (.seq (.cond (.t 26) .skip (.exit 0)) (.seq (.blk 1 (.seq (.reg [o 27 (.idx (.t 23) (.t 25) 6),
  o 28 (.ldn (.t 27) 6 false),
  o 12 (.alc [(.int .i64 0), (.int .i64 0), (.int .i64 0), (.int .i64 0), (.int .i64 0), (.int .i64 0)]),
  .op ⟨none, .sto (.t 12) (.t 28) 6, none⟩ none]) (.blk 2 (.seq (.reg [o 34 (.fld (.t 12) 2),
  o 35 (.ld1 (.t 34) false),
  o 36 (.mov (.t 1)),
  o 37 (.bin true .neq (.t 35) (.t 36)),
  o 38 (.mov (.t 37)),
  og 39 38 false (.fld (.t 12) 3),
  og 40 38 false (.ld1 (.t 39) false),
  og 41 38 false (.mov (.t 2)),
  og 42 38 false (.bin true .neq (.t 40) (.t 41)),
  o 43 (.pick (.t 38) (.c (.bool true)) (.t 42)),
  o 33 (.mov (.t 43))]) (.cond (.t 33) .skip (.seq (.reg [o 45 (.fld (.t 12) 1),
  o 46 (.ld1 (.t 45) false),
  o 47 (.bin true .eql (.t 46) (.c (.int .i64 2))),
  o 44 (.mov (.t 47))]) (.cond (.t 44) (.reg [o 8 (.mov (.t 12))]) (.reg [o 29 (.mov (.t 7)),
  o 30 (.fld (.t 12) 4),
  o 31 (.ld1 (.t 30) false),
  o 32 (.ldn (.t 12) 6 false),
  .op ⟨none, .mup 0 (.t 29) (.t 31) (.t 32), none⟩ none])))))))) (.reg [o 48 (.bin true .add (.t 25) (.c (.int .i64 1))),
  o 25 (.mov (.t 48)),
  .fz 8 []]))))
def h42_0 : LSh := ⟨[1, 2, 7, 8, 23, 24, 25], ⟨[(.v y6), (.v y6), (.mp 0), (.v (.opt y48)), (.slc 1), (.v y6), (.v y6)], [(0, (.imap 0 true y48)), (1, (.row 45 y48))]⟩, [y6, y6, (.opt y48), y6, y6, y193, y60], 2, [0, 1]⟩
def x42_0 : List XSh := [⟨(.exit 0), [7, 8], ⟨⟨[(.mp 0), (.v (.opt y48))], [(0, (.imap 0 true y48)), (1, (.row 45 y48))]⟩, [(.opt y48), y193, y60], [0, 1], 2⟩⟩]
noncomputable def s42_0 (T : List FEnt) : Y172 := dstep (xs := x42_0) h42_0 (dxc T b42_0)
noncomputable def l42_0 (T : List FEnt) : Y165 := whileF (s42_0 T)
noncomputable def q42_0 (F56 : Y120) (a0 : Int) (a1 : Int) (a2 : Option Y3) (a3 : Int) (a4 : Int) (a5 : List Y145) (a6 : List Y3) : Option Y169 :=
cond (decide (a4 < a3)) (
chk (inR a4 (List.length a6)) (
cond (!decide ((ix a6 a4).2.2.1 = a0)) (
chk (fits .i64 (a4 + (1 : Int))) (
some (Sum.inl (a0, a1, a2, a3, (a4 + (1 : Int)), a5, a6)))) (
cond (!decide ((ix a6 a4).2.2.2.1 = a1)) (
chk (fits .i64 (a4 + (1 : Int))) (
some (Sum.inl (a0, a1, a2, a3, (a4 + (1 : Int)), a5, a6)))) (
cond (decide ((ix a6 a4).2.1 = (2 : Int))) (
chk (fits .i64 (a4 + (1 : Int))) (
some (Sum.inl (a0, a1, (some (ix a6 a4) : Option Y3), a3, (a4 + (1 : Int)), a5, a6)))) (
chk (fits .i64 (a4 + (1 : Int))) (
some (Sum.inl (a0, a1, a2, a3, (a4 + (1 : Int)), (kput a5 [(ix a6 a4).2.2.2.2.1] (ix a6 a4)), a6)))))))) (
some (Sum.inr (a2, a5, a6)))
theorem g42_0 (F56 : Y120) (a0 : Int) (a1 : Int) (a2 : Option Y3) (a3 : Int) (a4 : Int) (a5 : List Y145) (a6 : List Y3) : s42_0 (T42 F56) (a0, a1, a2, a3, a4, a5, a6) = q42_0 F56 a0 a1 a2 a3 a4 a5 a6 := by kernel_rfl
noncomputable def p42_0 (a0 : Int) (a1 : Int) (a2 : Option Y3) (a3 : Int) (a4 : Int) (a5 : List Y145) (a6 : List Y3) : Option Y169 := q42_0 P56 a0 a1 a2 a3 a4 a5 a6
noncomputable def L42_0 : Y165 := whileF (fun x => p42_0 x.1 x.2.1 x.2.2.1 x.2.2.2.1 x.2.2.2.2.1 x.2.2.2.2.2.1 x.2.2.2.2.2.2)
theorem v42_0 : l42_0 (T42 P56) = L42_0 := congrArg whileF (funext fun x => (g42_0 P56 x.1 x.2.1 x.2.2.1 x.2.2.2.1 x.2.2.2.2.1 x.2.2.2.2.2.1 x.2.2.2.2.2.2).trans (show q42_0 P56 x.1 x.2.1 x.2.2.1 x.2.2.2.1 x.2.2.2.2.1 x.2.2.2.2.2.1 x.2.2.2.2.2.2 = q42_0 P56 x.1 x.2.1 x.2.2.1 x.2.2.2.1 x.2.2.2.2.1 x.2.2.2.2.2.1 x.2.2.2.2.2.2 from rfl))
def b42_1 : DCode := (.seq (.reg [o 60 (.ext (.t 59) 1),
  o 15 (.alc [(.int .i64 0), (.int .i64 0), (.int .i64 0), (.int .i64 0), (.int .i64 0), (.int .i64 0)]),
  .op ⟨none, .sto (.t 15) (.t 60) 6, none⟩ none]) (.reg [o 61 (.mov (.t 13)),
  o 62 (.fld (.t 15) 5),
  o 63 (.ld1 (.t 62) false),
  o 64 (.bin true .add (.t 61) (.t 63)),
  o 13 (.mov (.t 64))]))
def h42_1 : LSh := ⟨[13], ⟨[(.v y6)], []⟩, [y6], 0, []⟩
noncomputable def s42_1 (T : List FEnt) : Y142 := rngStep h42_1 56 59 0 true y48 (fun K => dxc T b42_1 (blkD 4 K))
noncomputable def l42_1 (T : List FEnt) (es : List Y141) (x : Int) : Option Int := rngF es (s42_1 T) x
noncomputable def q42_1 (F56 : Y120) (a0 : Int) (e : Y141) : Option Int :=
chk (fits .i64 (a0 + e.2.2.2.2.2.2)) (
some (a0 + e.2.2.2.2.2.2))
theorem g42_1 (F56 : Y120) (a0 : Int) (e : Y141) : s42_1 (T42 F56) a0 e = q42_1 F56 a0 e := by kernel_rfl
noncomputable def p42_1 (a0 : Int) (e : Y141) : Option Int := q42_1 P56 a0 e
noncomputable def L42_1 (es : List Y141) (x : Int) : Option Int := rngF es (fun x e => p42_1 x e) x
theorem v42_1 : l42_1 (T42 P56) = L42_1 := funext fun es => funext fun x => congrArg (fun s => rngF es s x) (funext fun x => funext fun e => (g42_1 P56 x e).trans (show q42_1 P56 x e = q42_1 P56 x e from rfl))
def c42 : DCode := (.seq (.reg [o 3 (.box (.t 0)),
  o 6 (.mov (.c (.int .i64 0)))]) (.seq (.reg [.op ⟨some 16, .mkm 0 100, none⟩ (some (true, y48)),
  o 7 (.mov (.t 16))]) (.seq (.reg [o 8 (.mov (.c .nilp))]) (.seq (.reg [o 18 (.fld (.t 3) 2),
  o 19 (.ld1 (.t 18) false),
  o 20 (.xcall 56 [(.t 19)]),
  o 17 (.mov (.t 20)),
  o 21 (.ext (.t 17) 0),
  o 22 (.ext (.t 17) 1),
  o 9 (.mov (.t 21)),
  o 10 (.mov (.t 22))]) (.seq (.seq (.reg [o 23 (.mov (.t 9)),
  o 24 (.len (.t 23)),
  o 25 (.mov (.c (.int .i64 0)))]) (.blk 0 (.loop h42_0 x42_0 b42_0))) (.seq (.seq (.reg [o 49 (.mov (.t 8)),
  o 50 (.pnn true (.t 49))]) (.cond (.t 50) (.seq (.reg [o 51 (.mov (.t 8)),
  o 52 (.nilc (.t 51)),
  o 53 (.fld (.t 52) 5),
  o 54 (.ld1 (.t 53) false),
  o 6 (.mov (.t 54))]) .ret) .skip)) (.seq (.reg [o 13 (.mov (.c (.int .i64 0)))]) (.seq (.mrng [o 55 (.mov (.t 7))] (.t 55) 56 57 58 59 4 h42_1 b42_1) (.seq (.reg [o 65 (.mov (.t 13)),
  o 6 (.mov (.t 65))]) .ret)))))))))
theorem ok42 : L.Fn Try.prog 42 66 [(.t 6)] (erase c42) := L.Fn.of hmix Try.func42 [] (by kernel_rfl)
def sh42 : FSh := ⟨⟨[(.st y69), (.v y6), (.v y6)], []⟩, [y69, y6, y6], 0, ⟨⟨[(.v y6)], []⟩, [y6], [], 0⟩, true⟩
noncomputable def q42 (F56 : Y120) (l42_0 : Y165) (l42_1 : Y143) (a0 : Y20) (a1 : Int) (a2 : Int) : Option Int :=
(F56 a0.2.2).bind fun (r1 : Bool × Y8) => (
(l42_0 (a1, a2, (none : Option Y3), (↑(List.length r1.2) : Int), (0 : Int), ([] : List Y145), r1.2)).bind fun (y2 : Y156) => (
cond (Option.isSome y2.1) (
chk (Option.isSome y2.1) (
some ((dof y2.1 ((0 : Int), ((0 : Int), ((0 : Int), ((0 : Int), ((0 : Int), (0 : Int))))))).2.2.2.2.2))) (
(l42_1 y2.2.1 (0 : Int)).bind fun (y3 : Int) => (
some y3))))
theorem g42 (F56 : Y120) (a0 : Y20) (a1 : Int) (a2 : Int) : dxf (T42 F56) sh42 [(.t 6)] c42 (a0, a1, a2) = q42 F56 (l42_0 (T42 F56)) (l42_1 (T42 F56)) a0 a1 a2 := by kernel_rfl
noncomputable def p42 (a0 : Y20) (a1 : Int) (a2 : Int) : Option Int := q42 P56 L42_0 L42_1 a0 a1 a2
noncomputable def P42 : Y173 := fun x => p42 x.1 x.2.1 x.2.2
theorem v42 : dxf (T42 P56) sh42 [(.t 6)] c42 = P42 := funext fun x => (g42 P56 x.1 x.2.1 x.2.2).trans (show q42 P56 (l42_0 (T42 P56)) (l42_1 (T42 P56)) x.1 x.2.1 x.2.2 = q42 P56 L42_0 L42_1 x.1 x.2.1 x.2.2 from by rw [v42_0, v42_1])
theorem d42 : DC Try.prog 42 sh42 P42 := DC_eq v42 (dxf_sound (sh := sh42) t42 ok42 (by kernel_rfl))
noncomputable def T65 : List FEnt := []
theorem t65 : DTblOK Try.prog T65 := DTbl_nil
def b65_0 : DCode := (.seq (.seq (.reg [o 12 (.mov (.t 4)),
  o 13 (.mov (.t 0)),
  o 14 (.len (.t 13)),
  o 15 (.bin true .lss (.t 12) (.t 14))]) (.cond (.t 15) .skip (.exit 0))) (.seq (.blk 1 (.reg [o 18 (.mov (.t 3)),
  o 19 (.mov (.t 0)),
  o 20 (.mov (.t 4)),
  o 21 (.idx (.t 19) (.t 20) 1),
  o 22 (.ld1 (.t 21) false),
  o 23 (.mnx true (.t 18) (.t 22)),
  o 3 (.mov (.t 23))])) (.reg [o 16 (.mov (.t 4)),
  o 17 (.bin true .add (.t 16) (.c (.int .i64 1))),
  o 4 (.mov (.t 17))])))
def h65_0 : LSh := ⟨[0, 3, 4], ⟨[(.slo 0 1), (.v y6), (.v y6)], [(0, (.row 97 y6))]⟩, [y6, y6, y6, y6, y12], 1, [0]⟩
def x65_0 : List XSh := [⟨(.exit 0), [3], ⟨⟨[(.v y6)], [(0, (.row 97 y6))]⟩, [y6, y12], [0], 1⟩⟩]
noncomputable def s65_0 (T : List FEnt) : Y157 := dstep (xs := x65_0) h65_0 (dxc T b65_0)
noncomputable def l65_0 (T : List FEnt) : Y150 := whileF (s65_0 T)
noncomputable def q65_0 (a0 : Int) (a1 : Int) (a2 : Int) (a3 : Int) (a4 : List Int) : Option Y154 :=
cond (decide (a3 < (↑(Int.toNat a1) : Int))) (
chk (inR a3 (Int.toNat a1)) (
chk (fits .i64 (a3 + (1 : Int))) (
some (Sum.inl ((↑(Int.toNat a0) : Int), (↑(Int.toNat a1) : Int), (max a2 (ixn a4 ((Int.toNat a0) + Int.toNat a3))), (a3 + (1 : Int)), a4))))) (
some (Sum.inr (a2, a4)))
theorem g65_0 (a0 : Int) (a1 : Int) (a2 : Int) (a3 : Int) (a4 : List Int) : s65_0 T65 (a0, a1, a2, a3, a4) = q65_0 a0 a1 a2 a3 a4 := by kernel_rfl
noncomputable def p65_0 (a0 : Int) (a1 : Int) (a2 : Int) (a3 : Int) (a4 : List Int) : Option Y154 := q65_0 a0 a1 a2 a3 a4
noncomputable def L65_0 : Y150 := whileF (fun x => p65_0 x.1 x.2.1 x.2.2.1 x.2.2.2.1 x.2.2.2.2)
theorem v65_0 : l65_0 T65 = L65_0 := congrArg whileF (funext fun x => (g65_0 x.1 x.2.1 x.2.2.1 x.2.2.2.1 x.2.2.2.2).trans (show q65_0 x.1 x.2.1 x.2.2.1 x.2.2.2.1 x.2.2.2.2 = q65_0 x.1 x.2.1 x.2.2.1 x.2.2.2.1 x.2.2.2.2 from rfl))
def c65 : DCode := (.seq (.reg [o 2 (.mov (.c (.int .i64 0)))]) (.seq (.seq (.reg [o 5 (.mov (.t 0)),
  o 6 (.len (.t 5)),
  o 7 (.bin true .lss (.t 6) (.c (.int .i64 1)))]) (.cond (.t 7) (.reg [o 8 (.bad),
  .op ⟨none, .bad, none⟩ none]) .skip)) (.seq (.reg [o 9 (.mov (.t 0)),
  o 10 (.idx (.t 9) (.c (.int .i64 0)) 1),
  o 11 (.ld1 (.t 10) false),
  o 3 (.mov (.t 11))]) (.seq (.seq (.reg [o 4 (.mov (.c (.int .i64 1)))]) (.blk 0 (.loop h65_0 x65_0 b65_0))) (.seq (.reg [o 24 (.mov (.t 3)),
  o 2 (.mov (.t 24))]) .ret)))))
theorem ok65 : L.Fn Try.prog 65 25 [(.t 2)] (erase c65) := L.Fn.of hmix Try.func65 [] (by kernel_rfl)
def sh65 : FSh := ⟨⟨[(.slo 0 1)], [(0, (.row 97 y6))]⟩, [y6, y6, y12], 1, ⟨⟨[(.v y6)], [(0, (.row 97 y6))]⟩, [y6, y12], [0], 1⟩, false⟩
noncomputable def q65 (l65_0 : Y150) (a0 : Int) (a1 : Int) (a2 : List Int) : Option Y147 :=
cond (decide ((↑(Int.toNat a1) : Int) < (1 : Int))) (
none) (
chk (inR (0 : Int) (Int.toNat a1)) (
(l65_0 ((↑(Int.toNat a0) : Int), (↑(Int.toNat a1) : Int), (ixn a2 ((Int.toNat a0) + Int.toNat (0 : Int))), (1 : Int), a2)).bind fun (y1 : Int × Y1) => (
some (y1.1, y1.2))))
theorem g65 (a0 : Int) (a1 : Int) (a2 : List Int) : dxf T65 sh65 [(.t 2)] c65 (a0, a1, a2) = q65 (l65_0 T65) a0 a1 a2 := by kernel_rfl
noncomputable def p65 (a0 : Int) (a1 : Int) (a2 : List Int) : Option Y147 := q65 L65_0 a0 a1 a2
noncomputable def P65 : Y151 := fun x => p65 x.1 x.2.1 x.2.2
theorem v65 : dxf T65 sh65 [(.t 2)] c65 = P65 := funext fun x => (g65 x.1 x.2.1 x.2.2).trans (show q65 (l65_0 T65) x.1 x.2.1 x.2.2 = q65 L65_0 x.1 x.2.1 x.2.2 from by rw [v65_0])
theorem d65 : DC Try.prog 65 sh65 P65 := DC_eq v65 (dxf_sound (sh := sh65) t65 ok65 (by kernel_rfl))
noncomputable def T66 : List FEnt := []
theorem t66 : DTblOK Try.prog T66 := DTbl_nil
def b66_0 : DCode := (.seq (.reg [o 9 (.bin true .lss (.t 8) (.t 7))]) (.seq (.cond (.t 9) .skip (.exit 0)) (.seq (.blk 1 (.seq (.reg [o 10 (.mov (.t 8)),
  o 5 (.mov (.t 10))]) (.seq (.reg [o 11 (.mov (.t 1)),
  o 12 (.mov (.t 0)),
  o 13 (.mov (.t 5)),
  o 14 (.idx (.t 12) (.t 13) 1),
  o 15 (.ld1 (.t 14) false),
  o 16 (.bin true .eql (.t 11) (.t 15))]) (.cond (.t 16) (.seq (.reg [o 17 (.mov (.t 5)),
  o 4 (.mov (.t 17))]) .ret) .skip)))) (.reg [o 18 (.bin true .add (.t 8) (.c (.int .i64 1))),
  o 8 (.mov (.t 18))]))))
def h66_0 : LSh := ⟨[0, 1, 7, 8], ⟨[(.slo 0 1), (.v y6), (.v y6), (.v y6)], [(0, (.row 97 y6))]⟩, [y6, y6, y6, y6, y6, y12], 1, [0]⟩
def x66_0 : List XSh := [⟨.ret, [4], ⟨⟨[(.v y6)], [(0, (.row 97 y6))]⟩, [y6, y12], [0], 1⟩⟩, ⟨(.exit 0), [], ⟨⟨[], [(0, (.row 97 y6))]⟩, [y12], [0], 1⟩⟩]
noncomputable def s66_0 (T : List FEnt) : Y166 := dstep (xs := x66_0) h66_0 (dxc T b66_0)
noncomputable def l66_0 (T : List FEnt) : Y158 := whileF (s66_0 T)
noncomputable def q66_0 (a0 : Int) (a1 : Int) (a2 : Int) (a3 : Int) (a4 : Int) (a5 : List Int) : Option Y163 :=
cond (decide (a4 < a3)) (
chk (inR a4 (Int.toNat a1)) (
cond (decide (a2 = (ixn a5 ((Int.toNat a0) + Int.toNat a4)))) (
some (Sum.inr (Sum.inl (a4, a5)))) (
chk (fits .i64 (a4 + (1 : Int))) (
some (Sum.inl ((↑(Int.toNat a0) : Int), (↑(Int.toNat a1) : Int), a2, a3, (a4 + (1 : Int)), a5)))))) (
some (Sum.inr (Sum.inr a5)))
theorem g66_0 (a0 : Int) (a1 : Int) (a2 : Int) (a3 : Int) (a4 : Int) (a5 : List Int) : s66_0 T66 (a0, a1, a2, a3, a4, a5) = q66_0 a0 a1 a2 a3 a4 a5 := by kernel_rfl
noncomputable def p66_0 (a0 : Int) (a1 : Int) (a2 : Int) (a3 : Int) (a4 : Int) (a5 : List Int) : Option Y163 := q66_0 a0 a1 a2 a3 a4 a5
noncomputable def L66_0 : Y158 := whileF (fun x => p66_0 x.1 x.2.1 x.2.2.1 x.2.2.2.1 x.2.2.2.2.1 x.2.2.2.2.2)
theorem v66_0 : l66_0 T66 = L66_0 := congrArg whileF (funext fun x => (g66_0 x.1 x.2.1 x.2.2.1 x.2.2.2.1 x.2.2.2.2.1 x.2.2.2.2.2).trans (show q66_0 x.1 x.2.1 x.2.2.1 x.2.2.2.1 x.2.2.2.2.1 x.2.2.2.2.2 = q66_0 x.1 x.2.1 x.2.2.1 x.2.2.2.1 x.2.2.2.2.1 x.2.2.2.2.2 from rfl))
def c66 : DCode := (.seq (.reg [o 4 (.mov (.c (.int .i64 0)))]) (.seq (.seq (.reg [o 6 (.mov (.t 0)),
  o 7 (.len (.t 6)),
  o 8 (.mov (.c (.int .i64 0)))]) (.blk 0 (.loop h66_0 x66_0 b66_0))) (.seq (.reg [o 4 (.mov (.c (.int .i64 (-1))))]) .ret)))
theorem ok66 : L.Fn Try.prog 66 19 [(.t 4)] (erase c66) := L.Fn.of hmix Try.func66 [] (by kernel_rfl)
def sh66 : FSh := ⟨⟨[(.slo 0 1), (.v y6)], [(0, (.row 97 y6))]⟩, [y6, y6, y6, y12], 1, ⟨⟨[(.v y6)], [(0, (.row 97 y6))]⟩, [y6, y12], [0], 1⟩, false⟩
noncomputable def q66 (l66_0 : Y158) (a0 : Int) (a1 : Int) (a2 : Int) (a3 : List Int) : Option Y147 :=
(l66_0 ((↑(Int.toNat a0) : Int), (↑(Int.toNat a1) : Int), a2, (↑(Int.toNat a1) : Int), (0 : Int), a3)).bind (fun (y1 : Y147 ⊕ Y1) => Sum.elim (fun (y2 : Int × Y1) => (
some (y2.1, y2.2))) (fun (y3 : List Int) => (
some ((-1 : Int), y3))) y1)
theorem g66 (a0 : Int) (a1 : Int) (a2 : Int) (a3 : List Int) : dxf T66 sh66 [(.t 4)] c66 (a0, a1, a2, a3) = q66 (l66_0 T66) a0 a1 a2 a3 := by kernel_rfl
noncomputable def p66 (a0 : Int) (a1 : Int) (a2 : Int) (a3 : List Int) : Option Y147 := q66 L66_0 a0 a1 a2 a3
noncomputable def P66 : Y152 := fun x => p66 x.1 x.2.1 x.2.2.1 x.2.2.2
theorem v66 : dxf T66 sh66 [(.t 4)] c66 = P66 := funext fun x => (g66 x.1 x.2.1 x.2.2.1 x.2.2.2).trans (show q66 (l66_0 T66) x.1 x.2.1 x.2.2.1 x.2.2.2 = q66 L66_0 x.1 x.2.1 x.2.2.1 x.2.2.2 from by rw [v66_0])
theorem d66 : DC Try.prog 66 sh66 P66 := DC_eq v66 (dxf_sound (sh := sh66) t66 ok66 (by kernel_rfl))
noncomputable def T41 (F65 : Y151) (F66 : Y152) : List FEnt := [⟨65, sh65, F65⟩, ⟨66, sh66, F66⟩]
theorem t41 : DTblOK Try.prog (T41 P65 P66) := (DTbl_cons' (f := 65) (sh := sh65) (F := P65) d65 (by kernel_rfl) (DTbl_cons' (f := 66) (sh := sh66) (F := P66) d66 (by kernel_rfl) DTbl_nil))
def b41_0 : DCode := (.seq (.reg [o 43 (.bin true .lss (.t 42) (.t 41))]) (.seq (.cond (.t 43) .skip (.exit 0)) (.seq (.blk 1 (.seq (.reg [o 44 (.idx (.t 40) (.t 42) 2),
  o 45 (.ldn (.t 44) 2 false),
  o 12 (.alc [(.int .i64 0), (.int .i64 0)]),
  .op ⟨none, .sto (.t 12) (.t 45) 2, none⟩ none]) (.seq (.reg [o 46 (.fld (.t 12) 0),
  o 47 (.ld1 (.t 46) false),
  o 48 (.fld (.t 9) 2),
  o 49 (.ld1 (.t 48) false),
  o 50 (.bin true .leq (.t 47) (.t 49))]) (.cond (.t 50) (.reg [o 51 (.mov (.t 10)),
  o 52 (.fld (.t 12) 1),
  o 53 (.ld1 (.t 52) false),
  o 54 (.mnx true (.t 51) (.t 53)),
  o 10 (.mov (.t 54))]) .skip)))) (.reg [o 55 (.bin true .add (.t 42) (.c (.int .i64 1))),
  o 42 (.mov (.t 55))]))))
def h41_0 : LSh := ⟨[5, 8, 9, 10, 40, 41, 42], ⟨[(.ptr 0 0), (.ptr 1 0), (.ptr 2 0), (.v y6), (.v y15), (.v y6), (.v y6)], [(0, (.boxT y66)), (1, (.boxT y48)), (2, (.boxT y48))]⟩, [y6, y15, y6, y6, y66, y48, y48], 3, [0, 1, 2]⟩
def x41_0 : List XSh := [⟨(.exit 0), [5, 8, 9, 10], ⟨⟨[(.ptr 0 0), (.ptr 1 0), (.ptr 2 0), (.v y6)], [(0, (.boxT y66)), (1, (.boxT y48)), (2, (.boxT y48))]⟩, [y6, y66, y48, y48], [0, 1, 2], 3⟩⟩]
noncomputable def s41_0 (T : List FEnt) : Y174 := dstep (xs := x41_0) h41_0 (dxc T b41_0)
noncomputable def l41_0 (T : List FEnt) : Y167 := whileF (s41_0 T)
noncomputable def q41_0 (F65 : Y151) (F66 : Y152) (a0 : Int) (a1 : List Y2) (a2 : Int) (a3 : Int) (a4 : Y9) (a5 : Y3) (a6 : Y3) : Option Y170 :=
cond (decide (a3 < a2)) (
chk (inR a3 (List.length a1)) (
cond (decide ((ix a1 a3).1 ≤ a6.2.2.1)) (
chk (fits .i64 (a3 + (1 : Int))) (
some (Sum.inl ((max a0 ((ix a1 a3).2)), a1, a2, (a3 + (1 : Int)), a4, a5, a6)))) (
chk (fits .i64 (a3 + (1 : Int))) (
some (Sum.inl (a0, a1, a2, (a3 + (1 : Int)), a4, a5, a6)))))) (
some (Sum.inr (a0, a4, a5, a6)))
theorem g41_0 (F65 : Y151) (F66 : Y152) (a0 : Int) (a1 : List Y2) (a2 : Int) (a3 : Int) (a4 : Y9) (a5 : Y3) (a6 : Y3) : s41_0 (T41 F65 F66) (a0, a1, a2, a3, a4, a5, a6) = q41_0 F65 F66 a0 a1 a2 a3 a4 a5 a6 := by kernel_rfl
noncomputable def p41_0 (a0 : Int) (a1 : List Y2) (a2 : Int) (a3 : Int) (a4 : Y9) (a5 : Y3) (a6 : Y3) : Option Y170 := q41_0 P65 P66 a0 a1 a2 a3 a4 a5 a6
noncomputable def L41_0 : Y167 := whileF (fun x => p41_0 x.1 x.2.1 x.2.2.1 x.2.2.2.1 x.2.2.2.2.1 x.2.2.2.2.2.1 x.2.2.2.2.2.2)
theorem v41_0 : l41_0 (T41 P65 P66) = L41_0 := congrArg whileF (funext fun x => (g41_0 P65 P66 x.1 x.2.1 x.2.2.1 x.2.2.2.1 x.2.2.2.2.1 x.2.2.2.2.2.1 x.2.2.2.2.2.2).trans (show q41_0 P65 P66 x.1 x.2.1 x.2.2.1 x.2.2.2.1 x.2.2.2.2.1 x.2.2.2.2.2.1 x.2.2.2.2.2.2 = q41_0 P65 P66 x.1 x.2.1 x.2.2.1 x.2.2.2.1 x.2.2.2.2.1 x.2.2.2.2.2.1 x.2.2.2.2.2.2 from rfl))
def c41 : DCode := (.seq (.reg [o 5 (.box (.t 1)),
  o 8 (.alc [(.int .i64 0), (.int .i64 0), (.int .i64 0), (.int .i64 0), (.int .i64 0), (.int .i64 0)])]) (.seq (.reg [o 14 (.mov (.t 3)),
  o 15 (.mov (.t 3)),
  o 16 (.mov (.t 0)),
  o 17 (.bin true .mul (.t 15) (.t 16)),
  o 18 (.bin true .quo (.t 17) (.c (.int .i64 1000))),
  o 19 (.bld [(.int .i64 0), (.int .i64 0), (.int .i64 0), (.int .i64 0), (.int .i64 0), (.int .i64 0)] [(0, (1, (.t 14))), (1, (1, (.t 18)))]),
  o 9 (.alc [(.int .i64 0), (.int .i64 0), (.int .i64 0), (.int .i64 0), (.int .i64 0), (.int .i64 0)]),
  .op ⟨none, .sto (.t 9) (.t 19) 6, none⟩ none]) (.seq (.reg [o 20 (.fld (.t 9) 0),
  o 21 (.ld1 (.t 20) false),
  o 22 (.fld (.t 9) 1),
  o 23 (.ld1 (.t 22) false),
  o 24 (.bin true .sub (.t 21) (.t 23)),
  o 25 (.fld (.t 9) 2),
  .op ⟨none, .sto (.t 25) (.t 24) 1, none⟩ none]) (.seq (.reg [o 26 (.fld (.t 5) 3),
  o 27 (.ld1 (.t 26) false),
  o 28 (.mov (.t 2)),
  o 29 (.fld (.t 5) 1),
  o 30 (.ld1 (.t 29) false),
  o 31 (.bin true .sub (.t 28) (.t 30)),
  o 32 (.fld (.t 5) 3),
  o 33 (.ld1 (.t 32) false),
  o 34 (.len (.t 33)),
  o 35 (.bin true .sub (.t 34) (.c (.int .i64 1))),
  o 36 (.mnx false (.t 31) (.t 35)),
  o 37 (.idx (.t 27) (.t 36) 1),
  o 38 (.ld1 (.t 37) false),
  o 10 (.mov (.t 38))]) (.seq (.seq (.reg [o 39 (.fld (.t 5) 4),
  o 40 (.ld1 (.t 39) false),
  o 41 (.len (.t 40)),
  o 42 (.mov (.c (.int .i64 0)))]) (.blk 0 (.loop h41_0 x41_0 b41_0))) (.seq (.reg [o 56 (.fld (.t 9) 2),
  o 57 (.ld1 (.t 56) false),
  o 58 (.mov (.t 10)),
  o 59 (.bin true .mul (.t 57) (.t 58)),
  o 60 (.bin true .quo (.t 59) (.c (.int .i64 1000))),
  o 61 (.fld (.t 9) 2),
  o 62 (.ld1 (.t 61) false),
  o 63 (.fld (.t 5) 5),
  o 64 (.ld1 (.t 63) false),
  o 65 (.bin true .sub (.t 62) (.t 64)),
  o 66 (.mnx true (.c (.int .i64 0)) (.t 65)),
  o 67 (.fld (.t 5) 6),
  o 68 (.ld1 (.t 67) false),
  o 69 (.bin true .mul (.t 66) (.t 68)),
  o 70 (.bin true .quo (.t 69) (.c (.int .i64 1000))),
  o 71 (.fld (.t 5) 7),
  o 72 (.ld1 (.t 71) false),
  o 73 (.bld [(.int .i64 0), (.int .i64 0), (.int .i64 0)] [(0, (1, (.t 60))), (1, (1, (.t 70))), (2, (1, (.t 72)))]),
  .op ⟨some 13, .alcr 97 1 3 [(.int .i64 0)], none⟩ (some (false, y6)),
  .op ⟨none, .stoa (.t 13) (.t 73) 1 3, none⟩ none]) (.seq (.drw [9] [r 74 (.fld (.t 9) 2),
  r 75 (.ld1 (.t 74) true),
  r 76 (.sla (.t 13) 1 3),
  r 77 (.xcall 65 [(.t 76)]),
  r 78 (.mnx false (.t 75) (.t 77)),
  r 79 (.fld (.t 9) 3),
  (⟨none, .stl (.t 79) (.t 78) 1, none⟩, none)]) (.seq (.drw [] [r 80 (.sla (.t 13) 1 3),
  r 81 (.sla (.t 13) 1 3),
  r 82 (.xcall 65 [(.t 81)]),
  r 83 (.xcall 66 [(.t 80), (.t 82)]),
  r 84 (.bin true .add (.c (.int .i64 1)) (.t 83)),
  r 85 (.fld (.t 9) 5),
  (⟨none, .sto (.t 85) (.t 84) 1, none⟩, none)]) (.seq (.reg [o 86 (.fld (.t 9) 2),
  o 87 (.ld1 (.t 86) false),
  o 88 (.fld (.t 9) 3),
  o 89 (.ld1 (.t 88) false),
  o 90 (.bin true .sub (.t 87) (.t 89)),
  o 91 (.fld (.t 9) 4),
  .op ⟨none, .sto (.t 91) (.t 90) 1, none⟩ none]) (.seq (.reg [o 92 (.ldn (.t 9) 6 false),
  .op ⟨none, .sto (.t 8) (.t 92) 6, none⟩ none]) .ret))))))))))
theorem ok41 : L.Fn Try.prog 41 93 [(.cell 8 true 6)] (erase c41) := L.Fn.of hmix Try.func41 [(11, { ch := [0,1,0,0,0,0,1], rs := [9] })] (by kernel_rfl)
def sh41 : FSh := ⟨⟨[(.v y6), (.st y66), (.v y6), (.v y6)], []⟩, [y6, y66, y6, y6], 0, ⟨⟨[(.st y48)], []⟩, [y48], [], 0⟩, true⟩
noncomputable def q41 (F65 : Y151) (F66 : Y152) (l41_0 : Y167) (a0 : Int) (a1 : Y9) (a2 : Int) (a3 : Int) : Option Y3 :=
chk (fits .i64 (a3 * a0)) (
chk (fits .i64 (Int.tdiv (a3 * a0) (1000 : Int))) (
chk (fits .i64 (a3 - (Int.tdiv (a3 * a0) (1000 : Int)))) (
chk (fits .i64 (a2 - a1.2.1)) (
chk (fits .i64 ((↑(List.length a1.2.2.2.1) : Int) - (1 : Int))) (
chk (inR (min (a2 - a1.2.1) ((↑(List.length a1.2.2.2.1) : Int) - (1 : Int))) (List.length a1.2.2.2.1)) (
(l41_0 ((ix a1.2.2.2.1 (min (a2 - a1.2.1) ((↑(List.length a1.2.2.2.1) : Int) - (1 : Int)))), a1.2.2.2.2.1, (↑(List.length a1.2.2.2.2.1) : Int), (0 : Int), a1, ((0 : Int), ((0 : Int), ((0 : Int), ((0 : Int), ((0 : Int), (0 : Int)))))), (a3, ((Int.tdiv (a3 * a0) (1000 : Int)), ((a3 - (Int.tdiv (a3 * a0) (1000 : Int))), ((0 : Int), ((0 : Int), (0 : Int)))))))).bind fun (y1 : Y159) => (
chk (fits .i64 (y1.2.2.2.2.2.1 * y1.1)) (
chk (fits .i64 (Int.tdiv (y1.2.2.2.2.2.1 * y1.1) (1000 : Int))) (
chk (fits .i64 (y1.2.2.2.2.2.1 - y1.2.1.2.2.2.2.2.1)) (
chk (fits .i64 ((max (0 : Int) (y1.2.2.2.2.2.1 - y1.2.1.2.2.2.2.2.1)) * y1.2.1.2.2.2.2.2.2.1)) (
chk (fits .i64 (Int.tdiv ((max (0 : Int) (y1.2.2.2.2.2.1 - y1.2.1.2.2.2.2.2.1)) * y1.2.1.2.2.2.2.2.2.1) (1000 : Int))) (
chk (Nat.beq (List.length (repl 3 (0 : Int))) 3) (
chk (leb 3 (List.length ([(Int.tdiv (y1.2.2.2.2.2.1 * y1.1) (1000 : Int)), (Int.tdiv ((max (0 : Int) (y1.2.2.2.2.2.1 - y1.2.1.2.2.2.2.2.1)) * y1.2.1.2.2.2.2.2.2.1) (1000 : Int)), y1.2.1.2.2.2.2.2.2.2.1] : List Int))) (
(F65 ((↑0 : Int), (↑3 : Int), ([(Int.tdiv (y1.2.2.2.2.2.1 * y1.1) (1000 : Int)), (Int.tdiv ((max (0 : Int) (y1.2.2.2.2.2.1 - y1.2.1.2.2.2.2.2.1)) * y1.2.1.2.2.2.2.2.2.1) (1000 : Int)), y1.2.1.2.2.2.2.2.2.2.1] : List Int))).bind fun (r2 : Int × Y1) => (
chk (leb 3 (List.length r2.2)) (
chk (leb 3 (List.length r2.2)) (
(F65 ((↑0 : Int), (↑3 : Int), r2.2)).bind fun (r3 : Int × Y1) => (
(F66 ((↑0 : Int), (↑3 : Int), r3.1, r3.2)).bind fun (r4 : Int × Y1) => (
chk (fits .i64 ((1 : Int) + r4.1)) (
chk (fits .i64 (y1.2.2.2.2.2.1 - (min y1.2.2.2.2.2.1 r2.1))) (
some (y1.2.2.2.1, (y1.2.2.2.2.1, (y1.2.2.2.2.2.1, ((min y1.2.2.2.2.2.1 r2.1), ((y1.2.2.2.2.2.1 - (min y1.2.2.2.2.2.1 r2.1)), ((1 : Int) + r4.1)))))))))))))))))))))))))))
theorem g41 (F65 : Y151) (F66 : Y152) (a0 : Int) (a1 : Y9) (a2 : Int) (a3 : Int) : dxf (T41 F65 F66) sh41 [(.cell 8 true 6)] c41 (a0, a1, a2, a3) = q41 F65 F66 (l41_0 (T41 F65 F66)) a0 a1 a2 a3 := by kernel_rfl
noncomputable def p41 (a0 : Int) (a1 : Y9) (a2 : Int) (a3 : Int) : Option Y3 := q41 P65 P66 L41_0 a0 a1 a2 a3
noncomputable def P41 : Y160 := fun x => p41 x.1 x.2.1 x.2.2.1 x.2.2.2
theorem v41 : dxf (T41 P65 P66) sh41 [(.cell 8 true 6)] c41 = P41 := funext fun x => (g41 P65 P66 x.1 x.2.1 x.2.2.1 x.2.2.2).trans (show q41 P65 P66 (l41_0 (T41 P65 P66)) x.1 x.2.1 x.2.2.1 x.2.2.2 = q41 P65 P66 L41_0 x.1 x.2.1 x.2.2.1 x.2.2.2 from by rw [v41_0])
theorem d41 : DC Try.prog 41 sh41 P41 := DC_eq v41 (dxf_sound (sh := sh41) t41 ok41 (by kernel_rfl))
noncomputable def T17 (F39 : Y171) (F40 : Y4) (F42 : Y173) (F41 : Y160) : List FEnt := [⟨39, sh39, F39⟩, ⟨40, sh40, F40⟩, ⟨42, sh42, F42⟩, ⟨41, sh41, F41⟩]
theorem t17 : DTblOK Try.prog (T17 P39 P40 P42 P41) := (DTbl_cons' (f := 39) (sh := sh39) (F := P39) d39 (by kernel_rfl) (DTbl_cons' (f := 40) (sh := sh40) (F := P40) d40 (by kernel_rfl) (DTbl_cons' (f := 42) (sh := sh42) (F := P42) d42 (by kernel_rfl) (DTbl_cons' (f := 41) (sh := sh41) (F := P41) d41 (by kernel_rfl) DTbl_nil))))
def c17 : DCode := (.seq (.reg [o 3 (.box (.t 0)),
  o 6 (.alc [(.int .i64 0), (.int .i64 0), (.int .i64 0), (.int .i64 0), (.int .i64 0), (.int .i64 0)]),
  o 7 (.mov (.c (.int .i64 0)))]) (.seq (.reg [o 11 (.ldn (.t 3) 3 false),
  o 12 (.mov (.t 1)),
  o 13 (.xcall 39 [(.t 11), (.t 12)]),
  o 10 (.mov (.t 13)),
  o 14 (.ext (.t 10) 0),
  o 15 (.ext (.t 10) 1),
  o 8 (.alc [(.int .i64 0), (.int .i64 0), (.int .i64 0), .emp, .emp, (.int .i64 0), (.int .i64 0), (.int .i64 0), (.int .i64 0)]),
  .op ⟨none, .sto (.t 8) (.t 14) 9, none⟩ none,
  o 9 (.mov (.t 15))]) (.seq (.seq (.reg [o 16 (.mov (.t 9)),
  o 17 (.bin true .neq (.t 16) (.c (.int .i64 0)))]) (.cond (.t 17) (.seq (.reg [o 18 (.bld [(.int .i64 0), (.int .i64 0), (.int .i64 0), (.int .i64 0), (.int .i64 0), (.int .i64 0)] []),
  o 19 (.mov (.t 9)),
  .op ⟨none, .sto (.t 6) (.t 18) 6, none⟩ none,
  o 7 (.mov (.t 19))]) .ret) .skip)) (.seq (.seq (.reg [o 20 (.mov (.t 2)),
  o 21 (.fld (.t 8) 1),
  o 22 (.ld1 (.t 21) false),
  o 23 (.fld (.t 8) 2),
  o 24 (.ld1 (.t 23) false),
  o 25 (.xcall 40 [(.t 20), (.t 22), (.t 24)]),
  o 26 (.unot (.t 25))]) (.cond (.t 26) (.seq (.reg [o 27 (.bld [(.int .i64 0), (.int .i64 0), (.int .i64 0), (.int .i64 0), (.int .i64 0), (.int .i64 0)] []),
  .op ⟨none, .sto (.t 6) (.t 27) 6, none⟩ none,
  o 7 (.mov (.c (.int .i64 1)))]) .ret) .skip)) (.seq (.drw [3, 8] [r 28 (.fld (.t 3) 0),
  r 29 (.ld1 (.t 28) true),
  r 30 (.ldn (.t 8) 9 true),
  r 31 (.mov (.t 2)),
  r 32 (.ldn (.t 3) 3 false),
  r 33 (.mov (.t 1)),
  r 34 (.mov (.t 2)),
  r 35 (.xcall 42 [(.t 32), (.t 33), (.t 34)]),
  r 36 (.xcall 41 [(.t 29), (.t 30), (.t 31), (.t 35)]),
  (⟨none, .sto (.t 6) (.t 36) 6, none⟩, none),
  r 7 (.mov (.c (.int .i64 0)))]) .ret)))))
theorem ok17 : L.Fn Try.prog 17 37 [(.cell 6 true 6), (.t 7)] (erase c17) := L.Fn.of hmix Try.func17 [(6, { ch := [0,1,1,0,0,0,0,0,0,0,0], rs := [3,8] })] (by kernel_rfl)
def sh17 : FSh := ⟨⟨[(.st y69), (.v y6), (.v y6)], []⟩, [y69, y6, y6], 0, ⟨⟨[(.tup [(.st y48), (.v y6)])], []⟩, [y48, y6], [], 0⟩, true⟩
noncomputable def q17 (F39 : Y171) (F40 : Y4) (F42 : Y173) (F41 : Y160) (a0 : Y20) (a1 : Int) (a2 : Int) : Option Y149 :=
(F39 (a0, a1)).bind fun (r1 : Y9 × Int) => (
cond (!decide (r1.2 = (0 : Int))) (
some (((0 : Int), ((0 : Int), ((0 : Int), ((0 : Int), ((0 : Int), (0 : Int)))))), r1.2)) (
(F40 (a2, r1.1.2.1, r1.1.2.2.1)).bind fun (r2 : Bool) => (
cond (!r2) (
some (((0 : Int), ((0 : Int), ((0 : Int), ((0 : Int), ((0 : Int), (0 : Int)))))), (1 : Int))) (
(F42 (a0, a1, a2)).bind fun (r3 : Int) => (
(F41 (a0.1, r1.1, a2, r3)).bind fun (r4 : Y3) => (
some (r4, (0 : Int))))))))
theorem g17 (F39 : Y171) (F40 : Y4) (F42 : Y173) (F41 : Y160) (a0 : Y20) (a1 : Int) (a2 : Int) : dxf (T17 F39 F40 F42 F41) sh17 [(.cell 6 true 6), (.t 7)] c17 (a0, a1, a2) = q17 F39 F40 F42 F41 a0 a1 a2 := by kernel_rfl
noncomputable def p17 (a0 : Y20) (a1 : Int) (a2 : Int) : Option Y149 := q17 P39 P40 P42 P41 a0 a1 a2
noncomputable def P17 : Y175 := fun x => p17 x.1 x.2.1 x.2.2
theorem v17 : dxf (T17 P39 P40 P42 P41) sh17 [(.cell 6 true 6), (.t 7)] c17 = P17 := funext fun x => (g17 P39 P40 P42 P41 x.1 x.2.1 x.2.2).trans (show q17 P39 P40 P42 P41 x.1 x.2.1 x.2.2 = q17 P39 P40 P42 P41 x.1 x.2.1 x.2.2 from rfl)
theorem d17 : DC Try.prog 17 sh17 P17 := DC_eq v17 (dxf_sound (sh := sh17) t17 ok17 (by kernel_rfl))
noncomputable def T45 (F42 : Y173) (F41 : Y160) : List FEnt := [⟨42, sh42, F42⟩, ⟨41, sh41, F41⟩]
theorem t45 : DTblOK Try.prog (T45 P42 P41) := (DTbl_cons' (f := 42) (sh := sh42) (F := P42) d42 (by kernel_rfl) (DTbl_cons' (f := 41) (sh := sh41) (F := P41) d41 (by kernel_rfl) DTbl_nil))
def b45_0 : DCode := (.seq (.seq (.reg [o 11 (.mov (.t 8)),
  o 12 (.mov (.t 2)),
  o 13 (.fld (.t 4) 2),
  o 14 (.ld1 (.t 13) false),
  o 15 (.mnx false (.t 12) (.t 14)),
  o 16 (.bin true .leq (.t 11) (.t 15))]) (.cond (.t 16) .skip (.exit 0))) (.seq (.blk 1 (.drw [3, 4] [r 19 (.mov (.t 7)),
  r 20 (.fld (.t 3) 0),
  r 21 (.ld1 (.t 20) true),
  r 22 (.ldn (.t 4) 9 true),
  r 23 (.mov (.t 8)),
  r 24 (.ldn (.t 3) 3 false),
  r 25 (.fld (.t 4) 0),
  r 26 (.ld1 (.t 25) false),
  r 27 (.mov (.t 8)),
  r 28 (.xcall 42 [(.t 24), (.t 26), (.t 27)]),
  r 29 (.xcall 41 [(.t 21), (.t 22), (.t 23), (.t 28)]),
  r 30 (.fldv (.t 29) 3 1 false),
  r 31 (.bin true .add (.t 19) (.t 30)),
  r 7 (.mov (.t 31))])) (.reg [o 17 (.mov (.t 8)),
  o 18 (.bin true .add (.t 17) (.c (.int .i64 1))),
  o 8 (.mov (.t 18))])))
def h45_0 : LSh := ⟨[2, 3, 4, 7, 8], ⟨[(.v y6), (.ptr 0 0), (.ptr 1 0), (.v y6), (.v y6)], [(0, (.boxT y69)), (1, (.boxT y66))]⟩, [y6, y6, y6, y69, y66], 2, [0, 1]⟩
def x45_0 : List XSh := [⟨(.exit 0), [2, 4, 7], ⟨⟨[(.v y6), (.ptr 1 0), (.v y6)], [(0, (.boxT y69)), (1, (.boxT y66))]⟩, [y6, y6, y69, y66], [0, 1], 2⟩⟩]
noncomputable def s45_0 (T : List FEnt) : Y191 := dstep (xs := x45_0) h45_0 (dxc T b45_0)
noncomputable def l45_0 (T : List FEnt) : Y185 := whileF (s45_0 T)
noncomputable def q45_0 (F42 : Y173) (F41 : Y160) (a0 : Int) (a1 : Int) (a2 : Int) (a3 : Y20) (a4 : Y9) : Option Y188 :=
cond (decide (a2 ≤ (min a0 a4.2.2.1))) (
(F42 (a3, a4.1, a2)).bind fun (r1 : Int) => (
(F41 (a3.1, a4, a2, r1)).bind fun (r2 : Y3) => (
chk (fits .i64 (a1 + r2.2.2.2.1)) (
chk (fits .i64 (a2 + (1 : Int))) (
some (Sum.inl (a0, (a1 + r2.2.2.2.1), (a2 + (1 : Int)), a3, a4))))))) (
some (Sum.inr (a0, a1, a3, a4)))
theorem g45_0 (F42 : Y173) (F41 : Y160) (a0 : Int) (a1 : Int) (a2 : Int) (a3 : Y20) (a4 : Y9) : s45_0 (T45 F42 F41) (a0, a1, a2, a3, a4) = q45_0 F42 F41 a0 a1 a2 a3 a4 := by kernel_rfl
noncomputable def p45_0 (a0 : Int) (a1 : Int) (a2 : Int) (a3 : Y20) (a4 : Y9) : Option Y188 := q45_0 P42 P41 a0 a1 a2 a3 a4
noncomputable def L45_0 : Y185 := whileF (fun x => p45_0 x.1 x.2.1 x.2.2.1 x.2.2.2.1 x.2.2.2.2)
theorem v45_0 : l45_0 (T45 P42 P41) = L45_0 := congrArg whileF (funext fun x => (g45_0 P42 P41 x.1 x.2.1 x.2.2.1 x.2.2.2.1 x.2.2.2.2).trans (show q45_0 P42 P41 x.1 x.2.1 x.2.2.1 x.2.2.2.1 x.2.2.2.2 = q45_0 P42 P41 x.1 x.2.1 x.2.2.1 x.2.2.2.1 x.2.2.2.2 from rfl))
def c45 : DCode := (.seq (.reg [o 3 (.box (.t 0)),
  o 4 (.box (.t 1)),
  o 6 (.mov (.c (.int .i64 0)))]) (.seq (.reg [o 7 (.mov (.c (.int .i64 0)))]) (.seq (.seq (.reg [o 9 (.fld (.t 4) 1),
  o 10 (.ld1 (.t 9) false),
  o 8 (.mov (.t 10))]) (.blk 0 (.loop h45_0 x45_0 b45_0))) (.seq (.seq (.reg [o 32 (.mov (.t 2)),
  o 33 (.fld (.t 4) 2),
  o 34 (.ld1 (.t 33) false),
  o 35 (.bin true .geq (.t 32) (.t 34))]) (.cond (.t 35) (.reg [o 36 (.mov (.t 7)),
  o 37 (.fld (.t 4) 8),
  o 38 (.ld1 (.t 37) false),
  o 39 (.mnx true (.t 36) (.t 38)),
  o 7 (.mov (.t 39))]) .skip)) (.seq (.reg [o 40 (.mov (.t 7)),
  o 6 (.mov (.t 40))]) .ret)))))
theorem ok45 : L.Fn Try.prog 45 41 [(.t 6)] (erase c45) := L.Fn.of hmix Try.func45 [(5, { ch := [0,0,1,1,0,0,0,0,0,0,0,0,0,0], rs := [3,4] })] (by kernel_rfl)
def sh45 : FSh := ⟨⟨[(.st y69), (.st y66), (.v y6)], []⟩, [y69, y66, y6], 0, ⟨⟨[(.v y6)], []⟩, [y6], [], 0⟩, true⟩
noncomputable def q45 (F42 : Y173) (F41 : Y160) (l45_0 : Y185) (a0 : Y20) (a1 : Y9) (a2 : Int) : Option Int :=
(l45_0 (a2, (0 : Int), a1.2.1, a0, a1)).bind fun (y3 : Y176) => (
cond (decide (y3.2.2.2.2.2.1 ≤ y3.1)) (
some (max y3.2.1 y3.2.2.2.2.2.2.2.2.2.2.2)) (
some y3.2.1))
theorem g45 (F42 : Y173) (F41 : Y160) (a0 : Y20) (a1 : Y9) (a2 : Int) : dxf (T45 F42 F41) sh45 [(.t 6)] c45 (a0, a1, a2) = q45 F42 F41 (l45_0 (T45 F42 F41)) a0 a1 a2 := by kernel_rfl
noncomputable def p45 (a0 : Y20) (a1 : Y9) (a2 : Int) : Option Int := q45 P42 P41 L45_0 a0 a1 a2
noncomputable def P45 : Y177 := fun x => p45 x.1 x.2.1 x.2.2
theorem v45 : dxf (T45 P42 P41) sh45 [(.t 6)] c45 = P45 := funext fun x => (g45 P42 P41 x.1 x.2.1 x.2.2).trans (show q45 P42 P41 (l45_0 (T45 P42 P41)) x.1 x.2.1 x.2.2 = q45 P42 P41 L45_0 x.1 x.2.1 x.2.2 from by rw [v45_0])
theorem d45 : DC Try.prog 45 sh45 P45 := DC_eq v45 (dxf_sound (sh := sh45) t45 ok45 (by kernel_rfl))
noncomputable def T21 (F39 : Y171) (F40 : Y4) (F45 : Y177) : List FEnt := [⟨39, sh39, F39⟩, ⟨40, sh40, F40⟩, ⟨45, sh45, F45⟩]
theorem t21 : DTblOK Try.prog (T21 P39 P40 P45) := (DTbl_cons' (f := 39) (sh := sh39) (F := P39) d39 (by kernel_rfl) (DTbl_cons' (f := 40) (sh := sh40) (F := P40) d40 (by kernel_rfl) (DTbl_cons' (f := 45) (sh := sh45) (F := P45) d45 (by kernel_rfl) DTbl_nil)))
def c21 : DCode := (.seq (.reg [o 3 (.box (.t 0)),
  o 6 (.mov (.c (.int .i64 0))),
  o 7 (.mov (.c (.int .i64 0)))]) (.seq (.reg [o 11 (.ldn (.t 3) 3 false),
  o 12 (.mov (.t 1)),
  o 13 (.xcall 39 [(.t 11), (.t 12)]),
  o 10 (.mov (.t 13)),
  o 14 (.ext (.t 10) 0),
  o 15 (.ext (.t 10) 1),
  o 8 (.alc [(.int .i64 0), (.int .i64 0), (.int .i64 0), .emp, .emp, (.int .i64 0), (.int .i64 0), (.int .i64 0), (.int .i64 0)]),
  .op ⟨none, .sto (.t 8) (.t 14) 9, none⟩ none,
  o 9 (.mov (.t 15))]) (.seq (.seq (.reg [o 16 (.mov (.t 9)),
  o 17 (.bin true .neq (.t 16) (.c (.int .i64 0)))]) (.cond (.t 17) (.seq (.reg [o 18 (.mov (.t 9)),
  o 6 (.mov (.c (.int .i64 0))),
  o 7 (.mov (.t 18))]) .ret) .skip)) (.seq (.seq (.reg [o 19 (.mov (.t 2)),
  o 20 (.xcall 40 [(.t 19), (.c (.int .i64 0)), (.c (.int .i64 99))]),
  o 21 (.unot (.t 20))]) (.cond (.t 21) (.seq (.reg [o 6 (.mov (.c (.int .i64 0))),
  o 7 (.mov (.c (.int .i64 1)))]) .ret) .skip)) (.seq (.reg [o 22 (.ldn (.t 3) 3 false),
  o 23 (.ldn (.t 8) 9 false),
  o 24 (.mov (.t 2)),
  o 25 (.xcall 45 [(.t 22), (.t 23), (.t 24)]),
  o 6 (.mov (.t 25)),
  o 7 (.mov (.c (.int .i64 0)))]) .ret)))))
theorem ok21 : L.Fn Try.prog 21 26 [(.t 6), (.t 7)] (erase c21) := L.Fn.of hmix Try.func21 [] (by kernel_rfl)
def sh21 : FSh := ⟨⟨[(.st y69), (.v y6), (.v y6)], []⟩, [y69, y6, y6], 0, ⟨⟨[(.tup [(.v y6), (.v y6)])], []⟩, [y6, y6], [], 0⟩, true⟩
noncomputable def q21 (F39 : Y171) (F40 : Y4) (F45 : Y177) (a0 : Y20) (a1 : Int) (a2 : Int) : Option Y2 :=
(F39 (a0, a1)).bind fun (r1 : Y9 × Int) => (
cond (!decide (r1.2 = (0 : Int))) (
some ((0 : Int), r1.2)) (
(F40 (a2, (0 : Int), (99 : Int))).bind fun (r2 : Bool) => (
cond (!r2) (
some ((0 : Int), (1 : Int))) (
(F45 (a0, r1.1, a2)).bind fun (r3 : Int) => (
some (r3, (0 : Int)))))))
theorem g21 (F39 : Y171) (F40 : Y4) (F45 : Y177) (a0 : Y20) (a1 : Int) (a2 : Int) : dxf (T21 F39 F40 F45) sh21 [(.t 6), (.t 7)] c21 (a0, a1, a2) = q21 F39 F40 F45 a0 a1 a2 := by kernel_rfl
noncomputable def p21 (a0 : Y20) (a1 : Int) (a2 : Int) : Option Y2 := q21 P39 P40 P45 a0 a1 a2
noncomputable def P21 : Y178 := fun x => p21 x.1 x.2.1 x.2.2
theorem v21 : dxf (T21 P39 P40 P45) sh21 [(.t 6), (.t 7)] c21 = P21 := funext fun x => (g21 P39 P40 P45 x.1 x.2.1 x.2.2).trans (show q21 P39 P40 P45 x.1 x.2.1 x.2.2 = q21 P39 P40 P45 x.1 x.2.1 x.2.2 from rfl)
theorem d21 : DC Try.prog 21 sh21 P21 := DC_eq v21 (dxf_sound (sh := sh21) t21 ok21 (by kernel_rfl))
noncomputable def T22 (F17 : Y175) (F46 : Y71) (F47 : Y33) (F41 : Y160) : List FEnt := [⟨17, sh17, F17⟩, ⟨46, sh46, F46⟩, ⟨47, sh47, F47⟩, ⟨41, sh41, F41⟩]
theorem t22 : DTblOK Try.prog (T22 P17 P46 P47 P41) := (DTbl_cons' (f := 17) (sh := sh17) (F := P17) d17 (by kernel_rfl) (DTbl_cons' (f := 46) (sh := sh46) (F := P46) d46 (by kernel_rfl) (DTbl_cons' (f := 47) (sh := sh47) (F := P47) d47 (by kernel_rfl) (DTbl_cons' (f := 41) (sh := sh41) (F := P41) d41 (by kernel_rfl) DTbl_nil))))
def b22_0 : DCode := (.seq (.seq (.reg [o 36 (.mov (.t 14)),
  o 37 (.mov (.t 15)),
  o 38 (.bin true .lss (.t 36) (.t 37))]) (.cond (.t 38) .skip (.exit 0))) (.blk 1 (.seq (.reg [o 39 (.mov (.t 14)),
  o 40 (.mov (.t 15)),
  o 41 (.bin true .add (.t 39) (.t 40)),
  o 42 (.bin true .quo (.t 41) (.c (.int .i64 2))),
  o 16 (.mov (.t 42))]) (.seq (.reg [o 43 (.fld (.t 4) 0),
  o 44 (.ld1 (.t 43) false),
  o 45 (.ldn (.t 12) 9 false),
  o 46 (.mov (.t 2)),
  o 47 (.mov (.t 16)),
  o 48 (.xcall 41 [(.t 44), (.t 45), (.t 46), (.t 47)]),
  o 49 (.fldv (.t 48) 3 1 false),
  o 50 (.mov (.t 3)),
  o 51 (.bin true .geq (.t 49) (.t 50))]) (.cond (.t 51) (.reg [o 52 (.mov (.t 16)),
  o 15 (.mov (.t 52))]) (.reg [o 53 (.mov (.t 16)),
  o 54 (.bin true .add (.t 53) (.c (.int .i64 1))),
  o 14 (.mov (.t 54))]))))))
def h22_0 : LSh := ⟨[2, 3, 4, 12, 14, 15], ⟨[(.v y6), (.v y6), (.ptr 0 0), (.ptr 1 0), (.v y6), (.v y6)], [(0, (.boxT y69)), (1, (.boxT y66))]⟩, [y6, y6, y6, y6, y69, y66], 2, [0, 1]⟩
def x22_0 : List XSh := [⟨(.exit 0), [14], ⟨⟨[(.v y6)], [(0, (.boxT y69)), (1, (.boxT y66))]⟩, [y6, y69, y66], [0, 1], 2⟩⟩]
noncomputable def s22_0 (T : List FEnt) : Y192 := dstep (xs := x22_0) h22_0 (dxc T b22_0)
noncomputable def l22_0 (T : List FEnt) : Y186 := whileF (s22_0 T)
noncomputable def q22_0 (F17 : Y175) (F46 : Y71) (F47 : Y33) (F41 : Y160) (a0 : Int) (a1 : Int) (a2 : Int) (a3 : Int) (a4 : Y20) (a5 : Y9) : Option Y189 :=
cond (decide (a2 < a3)) (
chk (fits .i64 (a2 + a3)) (
chk (fits .i64 (Int.tdiv (a2 + a3) (2 : Int))) (
(F41 (a4.1, a5, a0, (Int.tdiv (a2 + a3) (2 : Int)))).bind fun (r4 : Y3) => (
cond (decide (a1 ≤ r4.2.2.2.1)) (
some (Sum.inl (a0, a1, a2, (Int.tdiv (a2 + a3) (2 : Int)), a4, a5))) (
chk (fits .i64 ((Int.tdiv (a2 + a3) (2 : Int)) + (1 : Int))) (
some (Sum.inl (a0, a1, ((Int.tdiv (a2 + a3) (2 : Int)) + (1 : Int)), a3, a4, a5)))))))) (
some (Sum.inr (a2, a4, a5)))
theorem g22_0 (F17 : Y175) (F46 : Y71) (F47 : Y33) (F41 : Y160) (a0 : Int) (a1 : Int) (a2 : Int) (a3 : Int) (a4 : Y20) (a5 : Y9) : s22_0 (T22 F17 F46 F47 F41) (a0, a1, a2, a3, a4, a5) = q22_0 F17 F46 F47 F41 a0 a1 a2 a3 a4 a5 := by kernel_rfl
noncomputable def p22_0 (a0 : Int) (a1 : Int) (a2 : Int) (a3 : Int) (a4 : Y20) (a5 : Y9) : Option Y189 := q22_0 P17 P46 P47 P41 a0 a1 a2 a3 a4 a5
noncomputable def L22_0 : Y186 := whileF (fun x => p22_0 x.1 x.2.1 x.2.2.1 x.2.2.2.1 x.2.2.2.2.1 x.2.2.2.2.2)
theorem v22_0 : l22_0 (T22 P17 P46 P47 P41) = L22_0 := congrArg whileF (funext fun x => (g22_0 P17 P46 P47 P41 x.1 x.2.1 x.2.2.1 x.2.2.2.1 x.2.2.2.2.1 x.2.2.2.2.2).trans (show q22_0 P17 P46 P47 P41 x.1 x.2.1 x.2.2.1 x.2.2.2.1 x.2.2.2.2.1 x.2.2.2.2.2 = q22_0 P17 P46 P47 P41 x.1 x.2.1 x.2.2.1 x.2.2.2.1 x.2.2.2.2.1 x.2.2.2.2.2 from rfl))
def c22 : DCode := (.seq (.reg [o 4 (.box (.t 0)),
  o 8 (.mov (.c (.int .i64 0))),
  o 9 (.mov (.c (.int .i64 0)))]) (.seq (.seq (.reg [o 18 (.ldn (.t 4) 3 false),
  o 19 (.mov (.t 1)),
  o 20 (.mov (.t 2)),
  o 21 (.xcall 17 [(.t 18), (.t 19), (.t 20)]),
  o 17 (.mov (.t 21)),
  o 22 (.ext (.t 17) 0),
  o 23 (.ext (.t 17) 1),
  o 10 (.alc [(.int .i64 0), (.int .i64 0), (.int .i64 0), (.int .i64 0), (.int .i64 0), (.int .i64 0)]),
  .op ⟨none, .sto (.t 10) (.t 22) 6, none⟩ none,
  o 11 (.mov (.t 23))]) (.seq (.reg [o 24 (.mov (.t 11)),
  o 25 (.bin true .neq (.t 24) (.c (.int .i64 0)))]) (.cond (.t 25) (.seq (.reg [o 26 (.mov (.t 11)),
  o 8 (.mov (.c (.int .i64 0))),
  o 9 (.mov (.t 26))]) .ret) .skip))) (.seq (.seq (.reg [o 27 (.mov (.t 3)),
  o 28 (.xcall 46 [(.t 27)]),
  o 29 (.unot (.t 28))]) (.cond (.t 29) (.seq (.reg [o 8 (.mov (.c (.int .i64 0))),
  o 9 (.mov (.c (.int .i64 1)))]) .ret) .skip)) (.seq (.reg [o 31 (.ldn (.t 4) 3 false),
  o 32 (.mov (.t 1)),
  o 33 (.xcall 47 [(.t 31), (.t 32)]),
  o 30 (.mov (.t 33)),
  o 34 (.ext (.t 30) 0),
  o 35 (.ext (.t 30) 1),
  o 12 (.alc [(.int .i64 0), (.int .i64 0), (.int .i64 0), .emp, .emp, (.int .i64 0), (.int .i64 0), (.int .i64 0), (.int .i64 0)]),
  .op ⟨none, .sto (.t 12) (.t 34) 9, none⟩ none,
  o 13 (.mov (.t 35))]) (.seq (.reg [o 14 (.mov (.c (.int .i64 0))),
  o 15 (.mov (.c (.int .i64 10000001)))]) (.seq (.blk 0 (.loop h22_0 x22_0 b22_0)) (.seq (.seq (.reg [o 55 (.mov (.t 14)),
  o 56 (.bin true .gtr (.t 55) (.c (.int .i64 10000000)))]) (.cond (.t 56) (.seq (.reg [o 8 (.mov (.c (.int .i64 0))),
  o 9 (.mov (.c (.int .i64 3)))]) .ret) .skip)) (.seq (.reg [o 57 (.mov (.t 14)),
  o 8 (.mov (.t 57)),
  o 9 (.mov (.c (.int .i64 0)))]) .ret))))))))
theorem ok22 : L.Fn Try.prog 22 58 [(.t 8), (.t 9)] (erase c22) := L.Fn.of hmix Try.func22 [] (by kernel_rfl)
def sh22 : FSh := ⟨⟨[(.st y69), (.v y6), (.v y6), (.v y6)], []⟩, [y69, y6, y6, y6], 0, ⟨⟨[(.tup [(.v y6), (.v y6)])], []⟩, [y6, y6], [], 0⟩, true⟩
noncomputable def q22 (F17 : Y175) (F46 : Y71) (F47 : Y33) (F41 : Y160) (l22_0 : Y186) (a0 : Y20) (a1 : Int) (a2 : Int) (a3 : Int) : Option Y2 :=
(F17 (a0, a1, a2)).bind fun (r1 : Y3 × Int) => (
cond (!decide (r1.2 = (0 : Int))) (
some ((0 : Int), r1.2)) (
(F46 a3).bind fun (r2 : Bool) => (
cond (!r2) (
some ((0 : Int), (1 : Int))) (
(F47 (a0, a1)).bind fun (r3 : Y9 × Bool) => (
(l22_0 (a2, a3, (0 : Int), (10000001 : Int), a0, r3.1)).bind fun (y5 : Y179) => (
cond (decide ((10000000 : Int) < y5.1)) (
some ((0 : Int), (3 : Int))) (
some (y5.1, (0 : Int)))))))))
theorem g22 (F17 : Y175) (F46 : Y71) (F47 : Y33) (F41 : Y160) (a0 : Y20) (a1 : Int) (a2 : Int) (a3 : Int) : dxf (T22 F17 F46 F47 F41) sh22 [(.t 8), (.t 9)] c22 (a0, a1, a2, a3) = q22 F17 F46 F47 F41 (l22_0 (T22 F17 F46 F47 F41)) a0 a1 a2 a3 := by kernel_rfl
noncomputable def p22 (a0 : Y20) (a1 : Int) (a2 : Int) (a3 : Int) : Option Y2 := q22 P17 P46 P47 P41 L22_0 a0 a1 a2 a3
noncomputable def P22 : Y180 := fun x => p22 x.1 x.2.1 x.2.2.1 x.2.2.2
theorem v22 : dxf (T22 P17 P46 P47 P41) sh22 [(.t 8), (.t 9)] c22 = P22 := funext fun x => (g22 P17 P46 P47 P41 x.1 x.2.1 x.2.2.1 x.2.2.2).trans (show q22 P17 P46 P47 P41 (l22_0 (T22 P17 P46 P47 P41)) x.1 x.2.1 x.2.2.1 x.2.2.2 = q22 P17 P46 P47 P41 L22_0 x.1 x.2.1 x.2.2.1 x.2.2.2 from by rw [v22_0])
theorem d22 : DC Try.prog 22 sh22 P22 := DC_eq v22 (dxf_sound (sh := sh22) t22 ok22 (by kernel_rfl))
end Go.Proofs.Ytfknkinmnecoeaa.D
