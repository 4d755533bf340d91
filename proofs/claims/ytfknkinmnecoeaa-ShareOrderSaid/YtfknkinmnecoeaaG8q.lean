/- Cut down from a longer text. -/
import Derived.Test.YtfknkinmnecoeaaG7q
import Derived.Test.YtfknkinmnecoeaaProg
set_option linter.unusedVariables false
set_option maxRecDepth 100000
namespace Go.Proofs.Ytfknkinmnecoeaa.D
open Go Go.Proofs Go.Proofs.Ytfknkinmnecoeaa.L
noncomputable def T32 (F27 : Y25) (F57 : Y270) (F56 : Y120) (F51 : Y36) (F58 : Y285) (F59 : Y266) (F60 : Y271) : List FEnt := [⟨27, sh27, F27⟩, ⟨57, sh57, F57⟩, ⟨56, sh56, F56⟩, ⟨51, sh51, F51⟩, ⟨58, sh58, F58⟩, ⟨59, sh59, F59⟩, ⟨60, sh60, F60⟩]
theorem t32 : DTblOK Try.prog (T32 P27 P57 P56 P51 P58 P59 P60) := (DTbl_cons' (f := 27) (sh := sh27) (F := P27) d27 (by kernel_rfl) (DTbl_cons' (f := 57) (sh := sh57) (F := P57) d57 (by kernel_rfl) (DTbl_cons' (f := 56) (sh := sh56) (F := P56) d56 (by kernel_rfl) (DTbl_cons' (f := 51) (sh := sh51) (F := P51) d51 (by kernel_rfl) (DTbl_cons' (f := 58) (sh := sh58) (F := P58) d58 (by kernel_rfl) (DTbl_cons' (f := 59) (sh := sh59) (F := P59) d59 (by kernel_rfl) (DTbl_cons' (f := 60) (sh := sh60) (F := P60) d60 (by kernel_rfl) DTbl_nil)))))))
def b32_0 : DCode := (.seq (.reg [o 37 (.bin true .lss (.t 36) (.t 35))]) (.seq (.cond (.t 37) .skip (.exit 0)) (.seq (.blk 1 (.seq (.reg [o 38 (.idx (.t 34) (.t 36) 6),
  o 39 (.ldn (.t 38) 6 false),
  o 11 (.alc [(.int .i64 0), (.int .i64 0), (.int .i64 0), (.int .i64 0), (.int .i64 0), (.int .i64 0)]),
  .op ⟨none, .sto (.t 11) (.t 39) 6, none⟩ none]) (.drw [] [r 40 (.mov (.t 9)),
  r 41 (.ldn (.t 11) 6 false),
  r 42 (.lkp 6 false (.int .i64 0) (.t 40) (.t 41) false),
  r 43 (.bin true .add (.t 42) (.c (.int .i64 1))),
  r 44 (.men 6 (.int .i64 0) (.t 40) (.t 41)),
  r 45 (.ext (.t 44) 1),
  (⟨none, .ens (.t 40) (.t 45) (.t 43), none⟩, none)]))) (.reg [o 46 (.bin true .add (.t 36) (.c (.int .i64 1))),
  o 36 (.mov (.t 46))]))))
def h32_0 : LSh := ⟨[1, 2, 4, 7, 8, 9, 34, 35, 36], ⟨[(.v y60), (.ptr 0 0), (.ptr 1 0), (.slc 2), (.v .bool), (.mp 3), (.slc 4), (.v y6), (.v y6)], [(0, (.boxT y69)), (1, (.box [(.v y6), .emp, .emp])), (2, (.row 45 y48)), (3, (.imap 6 false y6)), (4, (.row 45 y48))]⟩, [y60, .bool, y6, y6, y69, y6, y60, y311, y60], 5, [0, 1, 2, 3, 4]⟩
def x32_0 : List XSh := [⟨(.exit 0), [1, 2, 4, 7, 8, 9], ⟨⟨[(.v y60), (.ptr 0 0), (.ptr 1 0), (.slc 2), (.v .bool), (.mp 3)], [(0, (.boxT y69)), (1, (.box [(.v y6), .emp, .emp])), (2, (.row 45 y48)), (3, (.imap 6 false y6)), (4, (.row 45 y48))]⟩, [y60, .bool, y69, y6, y60, y311, y60], [0, 1, 2, 3, 4], 5⟩⟩]
noncomputable def s32_0 (T : List FEnt) : Y331 := dstep (xs := x32_0) h32_0 (dxc T b32_0)
noncomputable def l32_0 (T : List FEnt) : Y328 := whileF (s32_0 T)
noncomputable def q32_0 (F27 : Y25) (F57 : Y270) (F56 : Y120) (F51 : Y36) (F58 : Y285) (F59 : Y266) (F60 : Y271) (a0 : List Y3) (a1 : Bool) (a2 : Int) (a3 : Int) (a4 : Y20) (a5 : Int) (a6 : List Y3) (a7 : List Y306) (a8 : List Y3) : Option Y330 :=
cond (decide (a3 < a2)) (
chk (inR a3 (List.length a8)) (
chk (fits .i64 ((dof (kget a7 [(ix a8 a3).1, (ix a8 a3).2.1, (ix a8 a3).2.2.1, (ix a8 a3).2.2.2.1, (ix a8 a3).2.2.2.2.1, (ix a8 a3).2.2.2.2.2]) (0 : Int)) + (1 : Int))) (
chk (fits .i64 (a3 + (1 : Int))) (
some (Sum.inl (a0, a1, a2, (a3 + (1 : Int)), a4, a5, a6, (kput a7 [(ix a8 a3).1, (ix a8 a3).2.1, (ix a8 a3).2.2.1, (ix a8 a3).2.2.2.1, (ix a8 a3).2.2.2.2.1, (ix a8 a3).2.2.2.2.2] ((dof (kget a7 [(ix a8 a3).1, (ix a8 a3).2.1, (ix a8 a3).2.2.1, (ix a8 a3).2.2.2.1, (ix a8 a3).2.2.2.2.1, (ix a8 a3).2.2.2.2.2]) (0 : Int)) + (1 : Int))), a8)))))) (
some (Sum.inr (a0, a1, a4, a5, a6, a7, a8)))
theorem g32_0 (F27 : Y25) (F57 : Y270) (F56 : Y120) (F51 : Y36) (F58 : Y285) (F59 : Y266) (F60 : Y271) (a0 : List Y3) (a1 : Bool) (a2 : Int) (a3 : Int) (a4 : Y20) (a5 : Int) (a6 : List Y3) (a7 : List Y306) (a8 : List Y3) : s32_0 (T32 F27 F57 F56 F51 F58 F59 F60) (a0, a1, a2, a3, a4, a5, a6, a7, a8) = q32_0 F27 F57 F56 F51 F58 F59 F60 a0 a1 a2 a3 a4 a5 a6 a7 a8 := by kernel_rfl
noncomputable def p32_0 (a0 : List Y3) (a1 : Bool) (a2 : Int) (a3 : Int) (a4 : Y20) (a5 : Int) (a6 : List Y3) (a7 : List Y306) (a8 : List Y3) : Option Y330 := q32_0 P27 P57 P56 P51 P58 P59 P60 a0 a1 a2 a3 a4 a5 a6 a7 a8
noncomputable def L32_0 : Y328 := whileF (fun x => p32_0 x.1 x.2.1 x.2.2.1 x.2.2.2.1 x.2.2.2.2.1 x.2.2.2.2.2.1 x.2.2.2.2.2.2.1 x.2.2.2.2.2.2.2.1 x.2.2.2.2.2.2.2.2)
theorem v32_0 : l32_0 (T32 P27 P57 P56 P51 P58 P59 P60) = L32_0 := congrArg whileF (funext fun x => (g32_0 P27 P57 P56 P51 P58 P59 P60 x.1 x.2.1 x.2.2.1 x.2.2.2.1 x.2.2.2.2.1 x.2.2.2.2.2.1 x.2.2.2.2.2.2.1 x.2.2.2.2.2.2.2.1 x.2.2.2.2.2.2.2.2).trans (show q32_0 P27 P57 P56 P51 P58 P59 P60 x.1 x.2.1 x.2.2.1 x.2.2.2.1 x.2.2.2.2.1 x.2.2.2.2.2.1 x.2.2.2.2.2.2.1 x.2.2.2.2.2.2.2.1 x.2.2.2.2.2.2.2.2 = q32_0 P27 P57 P56 P51 P58 P59 P60 x.1 x.2.1 x.2.2.1 x.2.2.2.1 x.2.2.2.2.1 x.2.2.2.2.2.1 x.2.2.2.2.2.2.1 x.2.2.2.2.2.2.2.1 x.2.2.2.2.2.2.2.2 from rfl))
def b32_1 : DCode := (.seq (.reg [o 71 (.bin true .lss (.t 70) (.t 69))]) (.seq (.cond (.t 71) .skip (.exit 2)) (.seq (.blk 3 (.seq (.reg [o 72 (.mov (.t 70)),
  o 73 (.idx (.t 68) (.t 70) 9),
  o 74 (.ldn (.t 73) 9 false),
  o 13 (.alc [(.int .i64 0), (.int .i64 0), (.int .i64 0), .emp, .emp, (.int .i64 0), (.int .i64 0), (.int .i64 0), (.int .i64 0)]),
  o 12 (.mov (.t 72)),
  .op ⟨none, .sto (.t 13) (.t 74) 9, none⟩ none]) (.drw [2, 13] [r 75 (.fld (.t 2) 1),
  r 76 (.ld1 (.t 75) true),
  r 77 (.mov (.t 12)),
  r 78 (.fld (.t 2) 1),
  r 79 (.ld1 (.t 78) true),
  r 80 (.mov (.t 12)),
  r 81 (.fld (.t 13) 3),
  r 82 (.ld1 (.t 81) false),
  r 84 (.fld (.t 13) 4),
  r 85 (.ld1 (.t 84) true),
  r 83 (.xcall 59 [(.t 82)]),
  r 86 (.xcall 60 [(.t 85)]),
  r 87 (.idx (.t 76) (.t 77) 9),
  r 88 (.fld (.t 87) 3),
  (⟨none, .sto (.t 88) (.t 83) 1, none⟩, none),
  r 89 (.idx (.t 79) (.t 80) 9),
  r 90 (.fld (.t 89) 4),
  (⟨none, .sto (.t 90) (.t 86) 1, none⟩, none)]))) (.reg [o 91 (.bin true .add (.t 70) (.c (.int .i64 1))),
  o 70 (.mov (.t 91))]))))
def h32_1 : LSh := ⟨[2, 4, 68, 69, 70], ⟨[(.ptr 0 0), (.ptr 1 0), (.slc 2), (.v y6), (.v y6)], [(0, (.box [(.v y6), (.slc 2), (.slc 3)])), (1, (.box [(.v y6), .emp, .emp])), (2, (.row 33 y66)), (3, (.row 45 y48))]⟩, [y6, y6, y6, y6, y67, y60], 4, [0, 1, 2, 3]⟩
def x32_1 : List XSh := [⟨(.exit 2), [2, 4], ⟨⟨[(.ptr 0 0), (.ptr 1 0)], [(0, (.box [(.v y6), (.slc 2), (.slc 3)])), (1, (.box [(.v y6), .emp, .emp])), (2, (.row 33 y66)), (3, (.row 45 y48))]⟩, [y6, y6, y67, y60], [0, 1, 2, 3], 4⟩⟩]
noncomputable def s32_1 (T : List FEnt) : Y329 := dstep (xs := x32_1) h32_1 (dxc T b32_1)
noncomputable def l32_1 (T : List FEnt) : Y323 := whileF (s32_1 T)
noncomputable def q32_1 (F27 : Y25) (F57 : Y270) (F56 : Y120) (F51 : Y36) (F58 : Y285) (F59 : Y266) (F60 : Y271) (a0 : Int) (a1 : Int) (a2 : Int) (a3 : Int) (a4 : List Y9) (a5 : List Y3) : Option Y327 :=
cond (decide (a1 < a0)) (
chk (inR a1 (List.length a4)) (
(F59 ((ix a4 a1).2.2.2.1)).bind fun (r8 : List Int) => (
(F60 ((ix a4 a1).2.2.2.2.1)).bind fun (r9 : List Y2) => (
chk (inR a1 (List.length a4)) (
chk (inR a1 (List.length (List.set a4 (Int.toNat a1) ((ix a4 a1).1, ((ix a4 a1).2.1, ((ix a4 a1).2.2.1, (r8, (ix a4 a1).2.2.2.2))))))) (
chk (fits .i64 (a1 + (1 : Int))) (
some (Sum.inl (a0, (a1 + (1 : Int)), a2, a3, (List.set (List.set a4 (Int.toNat a1) ((ix a4 a1).1, ((ix a4 a1).2.1, ((ix a4 a1).2.2.1, (r8, (ix a4 a1).2.2.2.2))))) (Int.toNat a1) ((ix (List.set a4 (Int.toNat a1) ((ix a4 a1).1, ((ix a4 a1).2.1, ((ix a4 a1).2.2.1, (r8, (ix a4 a1).2.2.2.2))))) a1).1, ((ix (List.set a4 (Int.toNat a1) ((ix a4 a1).1, ((ix a4 a1).2.1, ((ix a4 a1).2.2.1, (r8, (ix a4 a1).2.2.2.2))))) a1).2.1, ((ix (List.set a4 (Int.toNat a1) ((ix a4 a1).1, ((ix a4 a1).2.1, ((ix a4 a1).2.2.1, (r8, (ix a4 a1).2.2.2.2))))) a1).2.2.1, ((ix (List.set a4 (Int.toNat a1) ((ix a4 a1).1, ((ix a4 a1).2.1, ((ix a4 a1).2.2.1, (r8, (ix a4 a1).2.2.2.2))))) a1).2.2.2.1, (r9, (ix (List.set a4 (Int.toNat a1) ((ix a4 a1).1, ((ix a4 a1).2.1, ((ix a4 a1).2.2.1, (r8, (ix a4 a1).2.2.2.2))))) a1).2.2.2.2.2)))))), a5))))))))) (
some (Sum.inr (a2, a3, a4, a5)))
theorem g32_1 (F27 : Y25) (F57 : Y270) (F56 : Y120) (F51 : Y36) (F58 : Y285) (F59 : Y266) (F60 : Y271) (a0 : Int) (a1 : Int) (a2 : Int) (a3 : Int) (a4 : List Y9) (a5 : List Y3) : s32_1 (T32 F27 F57 F56 F51 F58 F59 F60) (a0, a1, a2, a3, a4, a5) = q32_1 F27 F57 F56 F51 F58 F59 F60 a0 a1 a2 a3 a4 a5 := by kernel_rfl
noncomputable def p32_1 (a0 : Int) (a1 : Int) (a2 : Int) (a3 : Int) (a4 : List Y9) (a5 : List Y3) : Option Y327 := q32_1 P27 P57 P56 P51 P58 P59 P60 a0 a1 a2 a3 a4 a5
noncomputable def L32_1 : Y323 := whileF (fun x => p32_1 x.1 x.2.1 x.2.2.1 x.2.2.2.1 x.2.2.2.2.1 x.2.2.2.2.2)
theorem v32_1 : l32_1 (T32 P27 P57 P56 P51 P58 P59 P60) = L32_1 := congrArg whileF (funext fun x => (g32_1 P27 P57 P56 P51 P58 P59 P60 x.1 x.2.1 x.2.2.1 x.2.2.2.1 x.2.2.2.2.1 x.2.2.2.2.2).trans (show q32_1 P27 P57 P56 P51 P58 P59 P60 x.1 x.2.1 x.2.2.1 x.2.2.2.1 x.2.2.2.2.1 x.2.2.2.2.2 = q32_1 P27 P57 P56 P51 P58 P59 P60 x.1 x.2.1 x.2.2.1 x.2.2.2.1 x.2.2.2.2.1 x.2.2.2.2.2 from rfl))
def c32 : DCode := (.seq (.reg [o 2 (.box (.t 0)),
  o 4 (.alc [(.int .i64 0), .emp, .emp]),
  o 5 (.mov (.c (.int .i64 0)))]) (.seq (.seq (.reg [o 14 (.ldn (.t 2) 3 false),
  o 15 (.xcall 27 [(.t 14)]),
  o 6 (.mov (.t 15))]) (.seq (.reg [o 16 (.mov (.t 6)),
  o 17 (.bin true .neq (.t 16) (.c (.int .i64 0)))]) (.cond (.t 17) (.seq (.reg [o 18 (.bld [(.int .i64 0), .emp, .emp] []),
  o 19 (.mov (.t 6)),
  .op ⟨none, .sto (.t 4) (.t 18) 3, none⟩ none,
  o 5 (.mov (.t 19))]) .ret) .skip))) (.seq (.reg [o 21 (.fld (.t 2) 2),
  o 22 (.ld1 (.t 21) false),
  o 23 (.mov (.t 1)),
  .op ⟨some 24, .bsr 23 1 [(.t 22), (.t 23)], none⟩ (some (false, y60)),
  o 25 (.xcall 57 [(.t 24)]),
  o 26 (.xcall 56 [(.t 25)]),
  o 20 (.mov (.t 26)),
  o 27 (.ext (.t 20) 0),
  o 28 (.ext (.t 20) 1),
  o 7 (.mov (.t 27)),
  o 8 (.mov (.t 28))]) (.seq (.reg [.op ⟨some 29, .mkm 6 86, none⟩ (some (false, y6)),
  o 9 (.mov (.t 29))]) (.seq (.seq (.reg [o 30 (.fld (.t 2) 2),
  o 31 (.ld1 (.t 30) false),
  o 32 (.mov (.t 1)),
  .op ⟨some 33, .bsr 23 1 [(.t 31), (.t 32)], none⟩ (some (false, y60)),
  o 34 (.xcall 57 [(.t 33)]),
  o 35 (.len (.t 34)),
  o 36 (.mov (.c (.int .i64 0)))]) (.blk 0 (.loop h32_0 x32_0 b32_0))) (.seq (.seq (.reg [o 47 (.mov (.t 8)),
  o 48 (.unot (.t 47)),
  o 49 (.mov (.t 48)),
  og 50 49 false (.ldn (.t 2) 3 false),
  og 51 49 false (.mov (.t 1)),
  og 52 49 false (.xcall 51 [(.t 50), (.t 51)]),
  og 53 49 false (.unot (.t 52)),
  o 54 (.pick (.t 49) (.c (.bool true)) (.t 53)),
  o 55 (.mov (.t 54)),
  og 56 55 false (.mov (.t 9)),
  og 57 55 false (.lenm (.t 56) false),
  og 58 55 false (.bin true .gtr (.t 57) (.c (.int .i64 40))),
  o 59 (.pick (.t 55) (.c (.bool true)) (.t 58))]) (.cond (.t 59) (.seq (.reg [o 60 (.bld [(.int .i64 0), .emp, .emp] []),
  .op ⟨none, .sto (.t 4) (.t 60) 3, none⟩ none,
  o 5 (.mov (.c (.int .i64 81)))]) .ret) .skip)) (.seq (.reg [o 61 (.mov (.t 7)),
  o 62 (.fld (.t 2) 1),
  o 63 (.ld1 (.t 62) false),
  o 64 (.xcall 58 [(.t 63)]),
  o 65 (.fld (.t 2) 2),
  .op ⟨none, .sto (.t 65) (.t 61) 1, none⟩ none,
  o 66 (.fld (.t 2) 1),
  .op ⟨none, .sto (.t 66) (.t 64) 1, none⟩ none]) (.seq (.seq (.reg [o 67 (.fld (.t 2) 1),
  o 68 (.ld1 (.t 67) false),
  o 69 (.len (.t 68)),
  o 70 (.mov (.c (.int .i64 0)))]) (.blk 2 (.loop h32_1 x32_1 b32_1))) (.seq (.reg [o 92 (.ldn (.t 2) 3 false),
  .op ⟨none, .sto (.t 4) (.t 92) 3, none⟩ none,
  o 5 (.mov (.c (.int .i64 0)))]) .ret)))))))))
theorem ok32 : L.Fn Try.prog 32 93 [(.cell 4 true 3), (.t 5)] (erase c32) := L.Fn.of hmix Try.func32 [(17, { ch := [0,1,0,0,1,0,0,0,0,0,1,0,0,0,0,0,0,0], rs := [2,13], ord := [0,1,2,3,4,5,6,7,9,10,8,11,12,13,14,15,16,17] })] (by kernel_rfl)
def sh32 : FSh := ⟨⟨[(.st y69), (.v y60)], []⟩, [y69, y60], 0, ⟨⟨[(.tup [(.agg [(.v y6), (.slc 0), (.slc 1)]), (.v y6)])], [(0, (.row 33 y66)), (1, (.row 45 y48))]⟩, [y6, y6, y67, y60], [], 2⟩, false⟩
noncomputable def q32 (F27 : Y25) (F57 : Y270) (F56 : Y120) (F51 : Y36) (F58 : Y285) (F59 : Y266) (F60 : Y271) (l32_0 : Y328) (l32_1 : Y323) (a0 : Y20) (a1 : List Y3) : Option Y24 :=
(F27 a0).bind fun (r1 : Int) => (
cond (!decide (r1 = (0 : Int))) (
some ((0 : Int), r1, ([] : List Y9), ([] : List Y3))) (
(F57 ([a0.2.2, a1] : List Y8)).bind fun (r2 : List Y3) => (
(F56 r2).bind fun (r3 : Bool × Y8) => (
(F57 ([a0.2.2, a1] : List Y8)).bind fun (r4 : List Y3) => (
(l32_0 (a1, r3.1, (↑(List.length r4) : Int), (0 : Int), a0, (0 : Int), r3.2, ([] : List Y306), r4)).bind fun (y5 : Y324) => (
cond (!y5.2.1) (
some ((0 : Int), (81 : Int), ([] : List Y9), ([] : List Y3))) (
(F51 (y5.2.2.1, y5.1)).bind fun (r6 : Bool) => (
cond (!r6) (
some ((0 : Int), (81 : Int), ([] : List Y9), ([] : List Y3))) (
cond (decide ((40 : Int) < (↑(List.length y5.2.2.2.2.2.1) : Int))) (
some ((0 : Int), (81 : Int), ([] : List Y9), ([] : List Y3))) (
(F58 y5.2.2.1.2.1).bind fun (r7 : List Y9) => (
(l32_1 ((↑(List.length r7) : Int), (0 : Int), y5.2.2.1.1, y5.2.2.2.1, r7, y5.2.2.2.2.1)).bind fun (y10 : Y24) => (
some (y10.1, (0 : Int), y10.2.2.1, y10.2.2.2)))))))))))))
theorem g32 (F27 : Y25) (F57 : Y270) (F56 : Y120) (F51 : Y36) (F58 : Y285) (F59 : Y266) (F60 : Y271) (a0 : Y20) (a1 : List Y3) : dxf (T32 F27 F57 F56 F51 F58 F59 F60) sh32 [(.cell 4 true 3), (.t 5)] c32 (a0, a1) = q32 F27 F57 F56 F51 F58 F59 F60 (l32_0 (T32 F27 F57 F56 F51 F58 F59 F60)) (l32_1 (T32 F27 F57 F56 F51 F58 F59 F60)) a0 a1 := by kernel_rfl
noncomputable def p32 (a0 : Y20) (a1 : List Y3) : Option Y24 := q32 P27 P57 P56 P51 P58 P59 P60 L32_0 L32_1 a0 a1
noncomputable def P32 : Y325 := fun x => p32 x.1 x.2
theorem v32 : dxf (T32 P27 P57 P56 P51 P58 P59 P60) sh32 [(.cell 4 true 3), (.t 5)] c32 = P32 := funext fun x => (g32 P27 P57 P56 P51 P58 P59 P60 x.1 x.2).trans (show q32 P27 P57 P56 P51 P58 P59 P60 (l32_0 (T32 P27 P57 P56 P51 P58 P59 P60)) (l32_1 (T32 P27 P57 P56 P51 P58 P59 P60)) x.1 x.2 = q32 P27 P57 P56 P51 P58 P59 P60 L32_0 L32_1 x.1 x.2 from by rw [v32_0, v32_1])
theorem d32 : DC Try.prog 32 sh32 P32 := DC_eq v32 (dxf_sound (sh := sh32) t32 ok32 (by kernel_rfl))
end Go.Proofs.Ytfknkinmnecoeaa.D
