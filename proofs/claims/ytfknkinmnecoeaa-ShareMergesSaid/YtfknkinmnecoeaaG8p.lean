/- Cut down from a longer text. -/
import Derived.Test.YtfknkinmnecoeaaG7p
import Derived.Test.YtfknkinmnecoeaaProg
set_option linter.unusedVariables false
set_option maxRecDepth 100000
namespace Go.Proofs.Ytfknkinmnecoeaa.D
open Go Go.Proofs Go.Proofs.Ytfknkinmnecoeaa.L
noncomputable def T32 (F27 : Y25) (F57 : Y270) (F56 : Y120) (F51 : Y36) (F58 : Y285) (F59 : Y266) (F60 : Y271) : List FEnt := [⟨27, sh27, F27⟩, ⟨57, sh57, F57⟩, ⟨56, sh56, F56⟩, ⟨51, sh51, F51⟩, ⟨58, sh58, F58⟩, ⟨59, sh59, F59⟩, ⟨60, sh60, F60⟩]
theorem t32 : DTblOK Try.prog (T32 P27 P57 P56 P51 P58 P59 P60) := (DTbl_cons' (f := 27) (sh := sh27) (F := P27) d27 (by kernel_rfl) (DTbl_cons' (f := 57) (sh := sh57) (F := P57) d57 (by kernel_rfl) (DTbl_cons' (f := 56) (sh := sh56) (F := P56) d56 (by kernel_rfl) (DTbl_cons' (f := 51) (sh := sh51) (F := P51) d51 (by kernel_rfl) (DTbl_cons' (f := 58) (sh := sh58) (F := P58) d58 (by kernel_rfl) (DTbl_cons' (f := 59) (sh := sh59) (F := P59) d59 (by kernel_rfl) (DTbl_cons' (f := 60) (sh := sh60) (F := P60) d60 (by kernel_rfl) DTbl_nil)))))))
def b32_0 : DCode := (.seq (.reg [o 37 (.bin true .lss (.t 36) (.t 35))]) (.seq (.cond (.t 37) .skip (.exit 0)) (.seq (.blk 1 (.seq (.reg [o 38 (.idx (.t 34) (.t 36) 6),
  o 39 (.ldn (.t 38) 6 false),
  o 11 (.alc [(.int .i64 0), (.int .i64 0), (.int .i64 0), (.int .i64 0), (.int .i64 0), (.int .i64 0)]),
  .op ⟨none, .sto (.t 11) (.t 39) 6, none⟩ none]) (.drw [] [r 40 (.mov (.t 9)),
  r 41 (.ldn (.t 11) 6 false),
  r 42 (.lkp 6 false (.int .i64 0) (.t 40) (.t 41) false),
  r 43 (.bin true .add (.t 42) (.c (.int .i64 1))),
  r 44 (.men 6 (.int .i64 0) (.t 40) (.t 41)),
  r 45 (.ext (.t 44) 1),
  (⟨none, .ens (.t 40) (.t 45) (.t 43), none⟩, none)]))) (.reg [o 46 (.bin true .add (.t 36) (.c (.int .i64 1))),
  o 36 (.mov (.t 46))]))))
def h32_0 : LSh := ⟨[1, 2, 4, 7, 8, 9, 34, 35, 36], ⟨[(.v y60), (.ptr 0 0), (.ptr 1 0), (.slc 2), (.v .bool), (.mp 3), (.slc 4), (.v y6), (.v y6)], [(0, (.boxT y69)), (1, (.box [(.v y6), .emp, .emp])), (2, (.row 45 y48)), (3, (.imap 6 false y6)), (4, (.row 45 y48))]⟩, [y60, .bool, y6, y6, y69, y6, y60, y311, y60], 5, [0, 1, 2, 3, 4]⟩
def x32_0 : List XSh := [⟨(.exit 0), [1, 2, 4, 7, 8, 9], ⟨⟨[(.v y60), (.ptr 0 0), (.ptr 1 0), (.slc 2), (.v .bool), (.mp 3)], [(0, (.boxT y69)), (1, (.box [(.v y6), .emp, .emp])), (2, (.row 45 y48)), (3, (.imap 6 false y6)), (4, (.row 45 y48))]⟩, [y60, .bool, y69, y6, y60, y311, y60], [0, 1, 2, 3, 4], 5⟩⟩]
noncomputable def s32_0 (T : List FEnt) : Y331 := dstep (xs := x32_0) h32_0 (dxc T b32_0)
noncomputable def l32_0 (T : List FEnt) : Y328 := whileF (s32_0 T)
noncomputable def q32_0 (F27 : Y25) (F57 : Y270) (F56 : Y120) (F51 : Y36) (F58 : Y285) (F59 : Y266) (F60 : Y271) (a0 : List Y3) (a1 : Bool) (a2 : Int) (a3 : Int) (a4 : Y20) (a5 : Int) (a6 : List Y3) (a7 : List Y306) (a8 : List Y3) : Option Y330 :=
cond (decide (a3 < a2)) (
chk (inR a3 (List.length a8)) (
chk (fits .i64 ((dof (kget a7 [(ix a8 a3).1, (ix a8 a3).2.1, (ix a8 a3).2.2.1, (ix a8 a3).2.2.2.1, (ix a8 a3).2.2.2.2.1, (ix a8 a3).2.2.2.2.2]) (0 : Int)) + (1 : Int))) (
chk (fits .i64 (a3 + (1 : Int))) (
some (Sum.inl (a0, a1, a2, (a3 + (1 : Int)), a4, a5, a6, (kput a7 [(ix a8 a3).1, (ix a8 a3).2.1, (ix a8 a3).2.2.1, (ix a8 a3).2.2.2.1, (ix a8 a3).2.2.2.2.1, (ix a8 a3).2.2.2.2.2] ((dof (kget a7 [(ix a8 a3).1, (ix a8 a3).2.1, (ix a8 a3).2.2.1, (ix a8 a3).2.2.2.1, (ix a8 a3).2.2.2.2.1, (ix a8 a3).2.2.2.2.2]) (0 : Int)) + (1 : Int))), a8)))))) (
some (Sum.inr (a0, a1, a4, a5, a6, a7, a8)))
theorem g32_0 (F27 : Y25) (F57 : Y270) (F56 : Y120) (F51 : Y36) (F58 : Y285) (F59 : Y266) (F60 : Y271) (a0 : List Y3) (a1 : Bool) (a2 : Int) (a3 : Int) (a4 : Y20) (a5 : Int) (a6 : List Y3) (a7 : List Y306) (a8 : List Y3) : s32_0 (T32 F27 F57 F56 F51 F58 F59 F60) (a0, a1, a2, a3, a4, a5, a6, a7, a8) = q32_0 F27 F57 F56 F51 F58 F59 F60 a0 a1 a2 a3 a4 a5 a6 a7 a8 := by kernel_rfl
noncomputable def p32_0 (a0 : List Y3) (a1 : Bool) (a2 : Int) (a3 : Int) (a4 : Y20) (a5 : Int) (a6 : List Y3) (a7 : List Y306) (a8 : List Y3) : Option Y330 := q32_0 P27 P57 P56 P51 P58 P59 P60 a0 a1 a2 a3 a4 a5 a6 a7 a8
noncomputable def L32_0 : Y328 := whileF (fun x => p32_0 x.1 x.2.1 x.2.2.1 x.2.2.2.1 x.2.2.2.2.1 x.2.2.2.2.2.1 x.2.2.2.2.2.2.1 x.2.2.2.2.2.2.2.1 x.2.2.2.2.2.2.2.2)
theorem v32_0 : l32_0 (T32 P27 P57 P56 P51 P58 P59 P60) = L32_0 := congrArg whileF (funext fun x => (g32_0 P27 P57 P56 P51 P58 P59 P60 x.1 x.2.1 x.2.2.1 x.2.2.2.1 x.2.2.2.2.1 x.2.2.2.2.2.1 x.2.2.2.2.2.2.1 x.2.2.2.2.2.2.2.1 x.2.2.2.2.2.2.2.2).trans (show q32_0 P27 P57 P56 P51 P58 P59 P60 x.1 x.2.1 x.2.2.1 x.2.2.2.1 x.2.2.2.2.1 x.2.2.2.2.2.1 x.2.2.2.2.2.2.1 x.2.2.2.2.2.2.2.1 x.2.2.2.2.2.2.2.2 = q32_0 P27 P57 P56 P51 P58 P59 P60 x.1 x.2.1 x.2.2.1 x.2.2.2.1 x.2.2.2.2.1 x.2.2.2.2.2.1 x.2.2.2.2.2.2.1 x.2.2.2.2.2.2.2.1 x.2.2.2.2.2.2.2.2 from rfl))
def b32_1 : DCode := (.seq (.reg [o 71 (.bin true .lss (.t 70) (.t 69))]) (.seq (.cond (.t 71) .skip (.exit 2)) (.seq (.blk 3 (.seq (.reg [o 72 (.mov (.t 70)),
  o 73 (.idx (.t 68) (.t 70) 9),
  o 74 (.ldn (.t 73) 9 false),
  o 13 (.alc [(.int .i64 0), (.int .i64 0), (.int .i64 0), .emp, .emp, (.int .i64 0), (.int .i64 0), (.int .i64 0), (.int .i64 0)]),
  o 12 (.mov (.t 72)),
  .op ⟨none, .sto (.t 13) (.t 74) 9, none⟩ none]) (.drw [2, 13] [r 75 (.fld (.t 2) 1),
  r 76 (.ld1 (.t 75) true),
  r 77 (.mov (.t 12)),
  r 78 (.fld (.t 2) 1),
  r 79 (.ld1 (.t 78) true),
  r 80 (.mov (.t 12)),
  r 81 (.fld (.t 13) 3),
  r 82 (.ld1 (.t 81) false),
  r 84 (.fld (.t 13) 4),
  r 85 (.ld1 (.t 84) true),
  r 83 (.xcall 59 [(.t 82)]),
  r 86 (.xcall 60 [(.t 85)]),
  r 87 (.idx (.t 76) (.t 77) 9),
  r 88 (.fld (.t 87) 3),
  (⟨none, .sto (.t 88) (.t 83) 1, none⟩, none),
  r 89 (.idx (.t 79) (.t 80) 9),
  r 90 (.fld (.t 89) 4),
  (⟨none, .sto (.t 90) (.t 86) 1, none⟩, none)]))) (.reg [o 91 (.bin true .add (.t 70) (.c (.int .i64 1))),
  o 70 (.mov (.t 91))]))))
def h32_1 : LSh := ⟨[2, 4, 68, 69, 70], ⟨[(.ptr 0 0), (.ptr 1 0), (.slc 2), (.v y6), (.v y6)], [(0, (.box [(.v y6), (.slc 2), (.slc 3)])), (1, (.box [(.v y6), .emp, .emp])), (2, (.row 33 y66)), (3, (.row 45 y48))]⟩, [y6, y6, y6, y6, y67, y60], 4, [0, 1, 2, 3]⟩
def x32_1 : List XSh := [⟨(.exit 2), [2, 4], ⟨⟨[(.ptr 0 0), (.ptr 1 0)], [(0, (.box [(.v y6), (.slc 2), (.slc 3)])), (1, (.box [(.v y6), .emp, .emp])), (2, (.row 33 y66)), (3, (.row 45 y48))]⟩, [y6, y6, y67, y60], [0, 1, 2, 3], 4⟩⟩]
noncomputable def s32_1 (T : List FEnt) : Y329 := dstep (xs := x32_1) h32_1 (dxc T b32_1)
noncomputable def l32_1 (T : List FEnt) : Y323 := whileF (s32_1 T)
noncomputable def q32_1 (F27 : Y25) (F57 : Y270) (F56 : Y120) (F51 : Y36) (F58 : Y285) (F59 : Y266) (F60 : Y271) (a0 : Int) (a1 : Int) (a2 : Int) (a3 : Int) (a4 : List Y9) (a5 : List Y3) : Option Y327 :=
cond (decide (a1 < a0)) (
chk (inR a1 (List.length a4)) (
(F59 ((ix a4 a1).2.2.2.1)).bind fun (r8 : List Int) => (
(F60 ((ix a4 a1).2.2.2.2.1)).bind fun (r9 : List Y2) => (
chk (inR a1 (List.length a4)) (
chk (inR a1 (List.length (List.set a4 (Int.toNat a1) ((ix a4 a1).1, ((ix a4 a1).2.1, ((ix a4 a1).2.2.1, (r8, (ix a4 a1).2.2.2.2))))))) (
chk (fits .i64 (a1 + (1 : Int))) (
some (Sum.inl (a0, (a1 + (1 : Int)), a2, a3, (List.set (List.set a4 (Int.toNat a1) ((ix a4 a1).1, ((ix a4 a1).2.1, ((ix a4 a1).2.2.1, (r8, (ix a4 a1).2.2.2.2))))) (Int.toNat a1) ((ix (List.set a4 (Int.toNat a1) ((ix a4 a1).1, ((ix a4 a1).2.1, ((ix a4 a1).2.2.1, (r8, (ix a4 a1).2.2.2.2))))) a1).1, ((ix (List.set a4 (Int.toNat a1) ((ix a4 a1).1, ((ix a4 a1).2.1, ((ix a4 a1).2.2.1, (r8, (ix a4 a1).2.2.2.2))))) a1).2.1, ((ix (List.set a4 (Int.toNat a1) ((ix a4 a1).1, ((ix a4 a1).2.1, ((ix a4 a1).2.2.1, (r8, (ix a4 a1).2.2.2.2))))) a1).2.2.1, ((ix (List.set a4 (Int.toNat a1) ((ix a4 a1).1, ((ix a4 a1).2.1, ((ix a4 a1).2.2.1, (r8, (ix a4 a1).2.2.2.2))))) a1).2.2.2.1, (r9, (ix (List.set a4 (Int.toNat a1) ((ix a4 a1).1, ((ix a4 a1).2.1, ((ix a4 a1).2.2.1, (r8, (ix a4 a1).2.2.2.2))))) a1).2.2.2.2.2)))))), a5))))))))) (
some (Sum.inr (a2, a3, a4, a5)))
theorem g32_1 (F27 : Y25) (F57 : Y270) (F56 : Y120) (F51 : Y36) (F58 : Y285) (F59 : Y266) (F60 : Y271) (a0 : Int) (a1 : Int) (a2 : Int) (a3 : Int) (a4 : List Y9) (a5 : List Y3) : s32_1 (T32 F27 F57 F56 F51 F58 F59 F60) (a0, a1, a2, a3, a4, a5) = q32_1 F27 F57 F56 F51 F58 F59 F60 a0 a1 a2 a3 a4 a5 := by kernel_rfl
noncomputable def p32_1 (a0 : Int) (a1 : Int) (a2 : Int) (a3 : Int) (a4 : List Y9) (a5 : List Y3) : Option Y327 := q32_1 P27 P57 P56 P51 P58 P59 P60 a0 a1 a2 a3 a4 a5
noncomputable def L32_1 : Y323 := whileF (fun x => p32_1 x.1 x.2.1 x.2.2.1 x.2.2.2.1 x.2.2.2.2.1 x.2.2.2.2.2)
theorem v32_1 : l32_1 (T32 P27 P57 P56 P51 P58 P59 P60) = L32_1 := congrArg whileF (funext fun x => (g32_1 P27 P57 P56 P51 P58 P59 P60 x.1 x.2.1 x.2.2.1 x.2.2.2.1 x.2.2.2.2.1 x.2.2.2.2.2).trans (show q32_1 P27 P57 P56 P51 P58 P59 P60 x.1 x.2.1 x.2.2.1 x.2.2.2.1 x.2.2.2.2.1 x.2.2.2.2.2 = q32_1 P27 P57 P56 P51 P58 P59 P60 x.1 x.2.1 x.2.2.1 x.2.2.2.1 x.2.2.2.2.1 x.2.2.2.2.2 from rfl))
def c32 : DCode := (.seq (.reg [o 2 (.box (.t 0)),
  o 4 (.alc [(.int .i64 0), .emp, .emp]),
  o 5 (.mov (.c (.int .i64 0)))]) (.seq (.seq (.reg [o 14 (.ldn (.t 2) 3 false),
  o 15 (.xcall 27 [(.t 14)]),
  o 6 (.mov (.t 15))]) (.seq (.reg [o 16 (.mov (.t 6)),
  o 17 (.bin true .neq (.t 16) (.c (.int .i64 0)))]) (.cond (.t 17) (.seq (.reg [o 18 (.bld [(.int .i64 0), .emp, .emp] []),
  o 19 (.mov (.t 6)),
  .op ⟨none, .sto (.t 4) (.t 18) 3, none⟩ none,
  o 5 (.mov (.t 19))]) .ret) .skip))) (.seq (.reg [o 21 (.fld (.t 2) 2),
  o 22 (.ld1 (.t 21) false),
  o 23 (.mov (.t 1)),
  .op ⟨some 24, .bsr 23 1 [(.t 22), (.t 23)], none⟩ (some (false, y60)),
  o 25 (.xcall 57 [(.t 24)]),
  o 26 (.xcall 56 [(.t 25)]),
  o 20 (.mov (.t 26)),
  o 27 (.ext (.t 20) 0),
  o 28 (.ext (.t 20) 1),
  o 7 (.mov (.t 27)),
  o 8 (.mov (.t 28))]) (.seq (.reg [.op ⟨some 29, .mkm 6 86, none⟩ (some (false, y6)),
  o 9 (.mov (.t 29))]) (.seq (.seq (.reg [o 30 (.fld (.t 2) 2),
  o 31 (.ld1 (.t 30) false),
  o 32 (.mov (.t 1)),
  .op ⟨some 33, .bsr 23 1 [(.t 31), (.t 32)], none⟩ (some (false, y60)),
  o 34 (.xcall 57 [(.t 33)]),
  o 35 (.len (.t 34)),
  o 36 (.mov (.c (.int .i64 0)))]) (.blk 0 (.loop h32_0 x32_0 b32_0))) (.seq (.seq (.reg [o 47 (.mov (.t 8)),
  o 48 (.unot (.t 47)),
  o 49 (.mov (.t 48)),
  og 50 49 false (.ldn (.t 2) 3 false),
  og 51 49 false (.mov (.t 1)),
  og 52 49 false (.xcall 51 [(.t 50), (.t 51)]),
  og 53 49 false (.unot (.t 52)),
  o 54 (.pick (.t 49) (.c (.bool true)) (.t 53)),
  o 55 (.mov (.t 54)),
  og 56 55 false (.mov (.t 9)),
  og 57 55 false (.lenm (.t 56) false),
  og 58 55 false (.bin true .gtr (.t 57) (.c (.int .i64 40))),
  o 59 (.pick (.t 55) (.c (.bool true)) (.t 58))]) (.cond (.t 59) (.seq (.reg [o 60 (.bld [(.int .i64 0), .emp, .emp] []),
  .op ⟨none, .sto (.t 4) (.t 60) 3, none⟩ none,
  o 5 (.mov (.c (.int .i64 81)))]) .ret) .skip)) (.seq (.reg [o 61 (.mov (.t 7)),
  o 62 (.fld (.t 2) 1),
  o 63 (.ld1 (.t 62) false),
  o 64 (.xcall 58 [(.t 63)]),
  o 65 (.fld (.t 2) 2),
  .op ⟨none, .sto (.t 65) (.t 61) 1, none⟩ none,
  o 66 (.fld (.t 2) 1),
  .op ⟨none, .sto (.t 66) (.t 64) 1, none⟩ none]) (.seq (.seq (.reg [o 67 (.fld (.t 2) 1),
  o 68 (.ld1 (.t 67) false),
  o 69 (.len (.t 68)),
  o 70 (.mov (.c (.int .i64 0)))]) (.blk 2 (.loop h32_1 x32_1 b32_1))) (.seq (.reg [o 92 (.ldn (.t 2) 3 false),
  .op ⟨none, .sto (.t 4) (.t 92) 3, none⟩ none,
  o 5 (.mov (.c (.int .i64 0)))]) .ret)))))))))
theorem ok32 : L.Fn Try.prog 32 93 [(.cell 4 true 3), (.t 5)] (erase c32) := L.Fn.of hmix Try.func32 [(17, { ch := [0,1,0,0,1,0,0,0,0,0,1,0,0,0,0,0,0,0], rs := [2,13], ord := [0,1,2,3,4,5,6,7,9,10,8,11,12,13,14,15,16,17] })] (by kernel_rfl)
def sh32 : FSh := ⟨⟨[(.st y69), (.v y60)], []⟩, [y69, y60], 0, ⟨⟨[(.tup [(.agg [(.v y6), (.slc 0), (.slc 1)]), (.v y6)])], [(0, (.row 33 y66)), (1, (.row 45 y48))]⟩, [y6, y6, y67, y60], [], 2⟩, false⟩
noncomputable def q32 (F27 : Y25) (F57 : Y270) (F56 : Y120) (F51 : Y36) (F58 : Y285) (F59 : Y266) (F60 : Y271) (l32_0 : Y328) (l32_1 : Y323) (a0 : Y20) (a1 : List Y3) : Option Y24 :=
(F27 a0).bind fun (r1 : Int) => (
cond (!decide (r1 = (0 : Int))) (
some ((0 : Int), r1, ([] : List Y9), ([] : List Y3))) (
(F57 ([a0.2.2, a1] : List Y8)).bind fun (r2 : List Y3) => (
(F56 r2).bind fun (r3 : Bool × Y8) => (
(F57 ([a0.2.2, a1] : List Y8)).bind fun (r4 : List Y3) => (
(l32_0 (a1, r3.1, (↑(List.length r4) : Int), (0 : Int), a0, (0 : Int), r3.2, ([] : List Y306), r4)).bind fun (y5 : Y324) => (
cond (!y5.2.1) (
some ((0 : Int), (81 : Int), ([] : List Y9), ([] : List Y3))) (
(F51 (y5.2.2.1, y5.1)).bind fun (r6 : Bool) => (
cond (!r6) (
some ((0 : Int), (81 : Int), ([] : List Y9), ([] : List Y3))) (
cond (decide ((40 : Int) < (↑(List.length y5.2.2.2.2.2.1) : Int))) (
some ((0 : Int), (81 : Int), ([] : List Y9), ([] : List Y3))) (
(F58 y5.2.2.1.2.1).bind fun (r7 : List Y9) => (
(l32_1 ((↑(List.length r7) : Int), (0 : Int), y5.2.2.1.1, y5.2.2.2.1, r7, y5.2.2.2.2.1)).bind fun (y10 : Y24) => (
some (y10.1, (0 : Int), y10.2.2.1, y10.2.2.2)))))))))))))
theorem g32 (F27 : Y25) (F57 : Y270) (F56 : Y120) (F51 : Y36) (F58 : Y285) (F59 : Y266) (F60 : Y271) (a0 : Y20) (a1 : List Y3) : dxf (T32 F27 F57 F56 F51 F58 F59 F60) sh32 [(.cell 4 true 3), (.t 5)] c32 (a0, a1) = q32 F27 F57 F56 F51 F58 F59 F60 (l32_0 (T32 F27 F57 F56 F51 F58 F59 F60)) (l32_1 (T32 F27 F57 F56 F51 F58 F59 F60)) a0 a1 := by kernel_rfl
noncomputable def p32 (a0 : Y20) (a1 : List Y3) : Option Y24 := q32 P27 P57 P56 P51 P58 P59 P60 L32_0 L32_1 a0 a1
noncomputable def P32 : Y325 := fun x => p32 x.1 x.2
theorem v32 : dxf (T32 P27 P57 P56 P51 P58 P59 P60) sh32 [(.cell 4 true 3), (.t 5)] c32 = P32 := funext fun x => (g32 P27 P57 P56 P51 P58 P59 P60 x.1 x.2).trans (show q32 P27 P57 P56 P51 P58 P59 P60 (l32_0 (T32 P27 P57 P56 P51 P58 P59 P60)) (l32_1 (T32 P27 P57 P56 P51 P58 P59 P60)) x.1 x.2 = q32 P27 P57 P56 P51 P58 P59 P60 L32_0 L32_1 x.1 x.2 from by rw [v32_0, v32_1])
theorem d32 : DC Try.prog 32 sh32 P32 := DC_eq v32 (dxf_sound (sh := sh32) t32 ok32 (by kernel_rfl))
noncomputable def T61 : List FEnt := []
theorem t61 : DTblOK Try.prog T61 := DTbl_nil
def b61_2 : DCode := (.seq (.seq (.reg [o 29 (.mov (.t 8)),
  o 30 (.mov (.t 3)),
  o 31 (.len (.t 30)),
  o 32 (.bin true .lss (.t 29) (.t 31))]) (.cond (.t 32) .skip (.exit 4))) (.seq (.blk 5 (.drw [] [r 35 (.mov (.t 7)),
  r 36 (.mov (.t 35)),
  (⟨some 37, .mov (.t 3), some (36, false)⟩, none),
  (⟨some 38, .mov (.t 8), some (36, false)⟩, none),
  (⟨some 39, .idx (.t 37) (.t 38) 6, some (36, false)⟩, none),
  (⟨some 40, .ldn (.t 39) 6 false, some (36, false)⟩, none),
  (⟨some 41, .mov (.t 0), some (36, false)⟩, none),
  (⟨some 42, .mov (.t 6), some (36, false)⟩, none),
  (⟨some 43, .idx (.t 41) (.t 42) 6, some (36, false)⟩, none),
  (⟨some 44, .ldn (.t 43) 6 false, some (36, false)⟩, none),
  (⟨some 45, .eqs false 6 (.t 40) (.t 44), some (36, false)⟩, none),
  r 46 (.pick (.t 36) (.c (.bool true)) (.t 45)),
  r 7 (.mov (.t 46))])) (.reg [o 33 (.mov (.t 8)),
  o 34 (.bin true .add (.t 33) (.c (.int .i64 1))),
  o 8 (.mov (.t 34))])))
def h61_2 : LSh := ⟨[0, 3, 4, 5, 6, 7, 8], ⟨[(.v y60), (.slc 0), (.v y6), (.v y6), (.v y6), (.v .bool), (.v y6)], [(0, (.row 45 y48))]⟩, [y60, y6, y6, y6, .bool, y6, y60], 1, [0]⟩
def x61_2 : List XSh := [⟨(.exit 4), [0, 3, 4, 5, 6, 7], ⟨⟨[(.v y60), (.slc 0), (.v y6), (.v y6), (.v y6), (.v .bool)], [(0, (.row 45 y48))]⟩, [y60, y6, y6, y6, .bool, y60], [0], 1⟩⟩]
noncomputable def s61_2 (T : List FEnt) : Y319 := dstep (xs := x61_2) h61_2 (dxc T b61_2)
noncomputable def l61_2 (T : List FEnt) : Y314 := whileF (s61_2 T)
noncomputable def q61_2 (a0 : List Y3) (a1 : Int) (a2 : Int) (a3 : Int) (a4 : Bool) (a5 : Int) (a6 : List Y3) : Option Y316 :=
cond (decide (a5 < (↑(List.length a6) : Int))) (
cond a4 (
chk (fits .i64 (a5 + (1 : Int))) (
some (Sum.inl (a0, a1, a2, a3, true, (a5 + (1 : Int)), a6)))) (
chk (inR a5 (List.length a6)) (
chk (inR a3 (List.length a0)) (
chk (fits .i64 (a5 + (1 : Int))) (
some (Sum.inl (a0, a1, a2, a3, (((((decide ((ix a6 a5).1 = (ix a0 a3).1) && decide ((ix a6 a5).2.1 = (ix a0 a3).2.1)) && decide ((ix a6 a5).2.2.1 = (ix a0 a3).2.2.1)) && decide ((ix a6 a5).2.2.2.1 = (ix a0 a3).2.2.2.1)) && decide ((ix a6 a5).2.2.2.2.1 = (ix a0 a3).2.2.2.2.1)) && decide ((ix a6 a5).2.2.2.2.2 = (ix a0 a3).2.2.2.2.2)), (a5 + (1 : Int)), a6))))))) (
some (Sum.inr (a0, a1, a2, a3, a4, a6)))
theorem g61_2 (a0 : List Y3) (a1 : Int) (a2 : Int) (a3 : Int) (a4 : Bool) (a5 : Int) (a6 : List Y3) : s61_2 T61 (a0, a1, a2, a3, a4, a5, a6) = q61_2 a0 a1 a2 a3 a4 a5 a6 := by kernel_rfl
noncomputable def p61_2 (a0 : List Y3) (a1 : Int) (a2 : Int) (a3 : Int) (a4 : Bool) (a5 : Int) (a6 : List Y3) : Option Y316 := q61_2 a0 a1 a2 a3 a4 a5 a6
noncomputable def L61_2 : Y314 := whileF (fun x => p61_2 x.1 x.2.1 x.2.2.1 x.2.2.2.1 x.2.2.2.2.1 x.2.2.2.2.2.1 x.2.2.2.2.2.2)
theorem v61_2 : l61_2 T61 = L61_2 := congrArg whileF (funext fun x => (g61_2 x.1 x.2.1 x.2.2.1 x.2.2.2.1 x.2.2.2.2.1 x.2.2.2.2.2.1 x.2.2.2.2.2.2).trans (show q61_2 x.1 x.2.1 x.2.2.1 x.2.2.2.1 x.2.2.2.2.1 x.2.2.2.2.2.1 x.2.2.2.2.2.2 = q61_2 x.1 x.2.1 x.2.2.1 x.2.2.2.1 x.2.2.2.2.1 x.2.2.2.2.2.1 x.2.2.2.2.2.2 from rfl))
def b61_1 : DCode := (.seq (.seq (.reg [o 15 (.mov (.t 6)),
  o 16 (.mov (.t 0)),
  o 17 (.len (.t 16)),
  o 18 (.bin true .lss (.t 15) (.t 17))]) (.cond (.t 18) .skip (.exit 2))) (.seq (.blk 3 (.seq (.reg [o 21 (.mov (.t 0)),
  o 22 (.mov (.t 6)),
  o 23 (.idx (.t 21) (.t 22) 6),
  o 24 (.fld (.t 23) 0),
  o 25 (.ld1 (.t 24) false),
  o 26 (.mov (.t 4)),
  o 27 (.bin true .neq (.t 25) (.t 26)),
  o 7 (.mov (.t 27))]) (.seq (.seq (.reg [o 28 (.mov (.t 5)),
  o 8 (.mov (.t 28))]) (.blk 4 (.loop h61_2 x61_2 b61_2))) (.seq (.reg [o 47 (.mov (.t 7)),
  o 48 (.unot (.t 47))]) (.cond (.t 48) (.reg [o 49 (.mov (.t 3)),
  o 50 (.mov (.t 0)),
  o 51 (.mov (.t 6)),
  o 52 (.idx (.t 50) (.t 51) 6),
  o 53 (.ldn (.t 52) 6 false),
  .op ⟨some 54, .bsr 45 6 [(.t 53)], none⟩ (some (true, y48)),
  .op ⟨some 55, .app 45 6 48 (.t 49) (.t 54), none⟩ (some (true, y48)),
  o 3 (.mov (.t 55))]) .skip))))) (.reg [o 19 (.mov (.t 6)),
  o 20 (.bin true .add (.t 19) (.c (.int .i64 1))),
  o 6 (.mov (.t 20))])))
def h61_1 : LSh := ⟨[0, 3, 4, 5, 6], ⟨[(.v y60), (.slc 0), (.v y6), (.v y6), (.v y6)], [(0, (.row 45 y48))]⟩, [y60, y6, y6, y6, y60], 1, []⟩
def x61_1 : List XSh := [⟨(.exit 2), [0, 3, 4], ⟨⟨[(.v y60), (.slc 0), (.v y6)], [(0, (.row 45 y48))]⟩, [y60, y6, y60], [], 1⟩⟩]
noncomputable def s61_1 (T : List FEnt) : Y320 := dstep (xs := x61_1) h61_1 (dxc T b61_1)
noncomputable def l61_1 (T : List FEnt) : Y315 := whileF (s61_1 T)
noncomputable def q61_1 (l61_2 : Y314) (a0 : List Y3) (a1 : Int) (a2 : Int) (a3 : Int) (a4 : List Y3) : Option Y317 :=
cond (decide (a3 < (↑(List.length a0) : Int))) (
chk (inR a3 (List.length a0)) (
(l61_2 (a0, a1, a2, a3, (!decide ((ix a0 a3).1 = a1)), a2, a4)).bind fun (y1 : Y308) => (
cond (!y1.2.2.2.2.1) (
chk (inR y1.2.2.2.1 (List.length y1.1)) (
chk (capOk 48 (List.length y1.2.2.2.2.2 + List.length ([(ix y1.1 y1.2.2.2.1)] : List Y3))) (
chk (fits .i64 (y1.2.2.2.1 + (1 : Int))) (
some (Sum.inl (y1.1, y1.2.1, y1.2.2.1, (y1.2.2.2.1 + (1 : Int)), (y1.2.2.2.2.2 ++ ([(ix y1.1 y1.2.2.2.1)] : List Y3)))))))) (
chk (fits .i64 (y1.2.2.2.1 + (1 : Int))) (
some (Sum.inl (y1.1, y1.2.1, y1.2.2.1, (y1.2.2.2.1 + (1 : Int)), y1.2.2.2.2.2))))))) (
some (Sum.inr (a0, a1, a4)))
theorem g61_1 (a0 : List Y3) (a1 : Int) (a2 : Int) (a3 : Int) (a4 : List Y3) : s61_1 T61 (a0, a1, a2, a3, a4) = q61_1 (l61_2 T61) a0 a1 a2 a3 a4 := by kernel_rfl
noncomputable def p61_1 (a0 : List Y3) (a1 : Int) (a2 : Int) (a3 : Int) (a4 : List Y3) : Option Y317 := q61_1 L61_2 a0 a1 a2 a3 a4
noncomputable def L61_1 : Y315 := whileF (fun x => p61_1 x.1 x.2.1 x.2.2.1 x.2.2.2.1 x.2.2.2.2)
theorem v61_1 : l61_1 T61 = L61_1 := congrArg whileF (funext fun x => (g61_1 x.1 x.2.1 x.2.2.1 x.2.2.2.1 x.2.2.2.2).trans (show q61_1 (l61_2 T61) x.1 x.2.1 x.2.2.1 x.2.2.2.1 x.2.2.2.2 = q61_1 L61_2 x.1 x.2.1 x.2.2.1 x.2.2.2.1 x.2.2.2.2 from by rw [v61_2]))
def b61_0 : DCode := (.seq (.seq (.reg [o 9 (.mov (.t 4)),
  o 10 (.bin true .leq (.t 9) (.c (.int .i64 99)))]) (.cond (.t 10) .skip (.exit 0))) (.seq (.blk 1 (.seq (.reg [o 13 (.mov (.t 3)),
  o 14 (.len (.t 13)),
  o 5 (.mov (.t 14))]) (.seq (.reg [o 6 (.mov (.c (.int .i64 0)))]) (.blk 2 (.loop h61_1 x61_1 b61_1))))) (.reg [o 11 (.mov (.t 4)),
  o 12 (.bin true .add (.t 11) (.c (.int .i64 1))),
  o 4 (.mov (.t 12))])))
def h61_0 : LSh := ⟨[0, 3, 4], ⟨[(.v y60), (.slc 0), (.v y6)], [(0, (.row 45 y48))]⟩, [y60, y6, y60], 1, []⟩
def x61_0 : List XSh := [⟨(.exit 0), [3], ⟨⟨[(.slc 0)], [(0, (.row 45 y48))]⟩, [y60], [], 1⟩⟩]
noncomputable def s61_0 (T : List FEnt) : Y321 := dstep (xs := x61_0) h61_0 (dxc T b61_0)
noncomputable def l61_0 (T : List FEnt) : Y309 := whileF (s61_0 T)
noncomputable def q61_0 (l61_1 : Y315) (a0 : List Y3) (a1 : Int) (a2 : List Y3) : Option Y318 :=
cond (decide (a1 ≤ (99 : Int))) (
(l61_1 (a0, a1, (↑(List.length a2) : Int), (0 : Int), a2)).bind fun (y2 : Y310) => (
chk (fits .i64 (y2.2.1 + (1 : Int))) (
some (Sum.inl (y2.1, (y2.2.1 + (1 : Int)), y2.2.2))))) (
some (Sum.inr a2))
theorem g61_0 (a0 : List Y3) (a1 : Int) (a2 : List Y3) : s61_0 T61 (a0, a1, a2) = q61_0 (l61_1 T61) a0 a1 a2 := by kernel_rfl
noncomputable def p61_0 (a0 : List Y3) (a1 : Int) (a2 : List Y3) : Option Y318 := q61_0 L61_1 a0 a1 a2
noncomputable def L61_0 : Y309 := whileF (fun x => p61_0 x.1 x.2.1 x.2.2)
theorem v61_0 : l61_0 T61 = L61_0 := congrArg whileF (funext fun x => (g61_0 x.1 x.2.1 x.2.2).trans (show q61_0 (l61_1 T61) x.1 x.2.1 x.2.2 = q61_0 L61_1 x.1 x.2.1 x.2.2 from by rw [v61_1]))
def c61 : DCode := (.seq (.reg [o 2 (.mov (.c .emp))]) (.seq (.reg [o 3 (.mov (.c .emp))]) (.seq (.seq (.reg [o 4 (.mov (.c (.int .i64 0)))]) (.blk 0 (.loop h61_0 x61_0 b61_0))) (.seq (.reg [o 56 (.mov (.t 3)),
  o 2 (.mov (.t 56))]) .ret))))
theorem ok61 : L.Fn Try.prog 61 57 [(.t 2)] (erase c61) := L.Fn.of hmix Try.func61 [] (by kernel_rfl)
def sh61 : FSh := ⟨⟨[(.v y60)], []⟩, [y60], 0, ⟨⟨[(.slc 0)], [(0, (.row 45 y48))]⟩, [y60], [], 1⟩, true⟩
noncomputable def q61 (l61_0 : Y309) (a0 : List Y3) : Option Y8 :=
(l61_0 (a0, (0 : Int), ([] : List Y3))).bind fun (y3 : List Y3) => (
some y3)
theorem g61 (a0 : List Y3) : dxf T61 sh61 [(.t 2)] c61 a0 = q61 (l61_0 T61) a0 := by kernel_rfl
noncomputable def p61 (a0 : List Y3) : Option Y8 := q61 L61_0 a0
noncomputable def P61 : Y77 := fun x => p61 x
theorem v61 : dxf T61 sh61 [(.t 2)] c61 = P61 := funext fun x => (g61 x).trans (show q61 (l61_0 T61) x = q61 L61_0 x from by rw [v61_0])
theorem d61 : DC Try.prog 61 sh61 P61 := DC_eq v61 (dxf_sound (sh := sh61) t61 ok61 (by kernel_rfl))
noncomputable def T33 (F20 : Y25) (F24 : Y212) (F61 : Y77) : List FEnt := [⟨20, sh20, F20⟩, ⟨24, sh24, F24⟩, ⟨61, sh61, F61⟩]
theorem t33 : DTblOK Try.prog (T33 P20 P24 P61) := (DTbl_cons' (f := 20) (sh := sh20) (F := P20) d20 (by kernel_rfl) (DTbl_cons' (f := 24) (sh := sh24) (F := P24) d24 (by kernel_rfl) (DTbl_cons' (f := 61) (sh := sh61) (F := P61) d61 (by kernel_rfl) DTbl_nil)))
def c33 : DCode := (.seq (.reg [o 2 (.box (.t 0)),
  o 4 (.alc [(.int .i64 0), .emp, .emp]),
  o 5 (.mov (.c (.int .i64 0)))]) (.seq (.seq (.reg [o 10 (.ldn (.t 2) 3 false),
  o 11 (.xcall 20 [(.t 10)]),
  o 6 (.mov (.t 11))]) (.seq (.reg [o 12 (.mov (.t 6)),
  o 13 (.bin true .neq (.t 12) (.c (.int .i64 0)))]) (.cond (.t 13) (.seq (.reg [o 14 (.bld [(.int .i64 0), .emp, .emp] []),
  o 15 (.mov (.t 6)),
  .op ⟨none, .sto (.t 4) (.t 14) 3, none⟩ none,
  o 5 (.mov (.t 15))]) .ret) .skip))) (.seq (.reg [o 16 (.ldn (.t 2) 3 false),
  o 17 (.xcall 24 [(.t 16)]),
  o 7 (.alc [(.int .i64 0), .emp, .emp]),
  .op ⟨none, .sto (.t 7) (.t 17) 3, none⟩ none]) (.seq (.reg [o 18 (.mov (.t 1)),
  o 19 (.fld (.t 7) 2),
  .op ⟨none, .sto (.t 19) (.t 18) 1, none⟩ none]) (.seq (.seq (.reg [o 20 (.ldn (.t 7) 3 false),
  o 21 (.xcall 20 [(.t 20)]),
  o 8 (.mov (.t 21))]) (.seq (.reg [o 22 (.mov (.t 8)),
  o 23 (.bin true .neq (.t 22) (.c (.int .i64 0)))]) (.cond (.t 23) (.seq (.reg [o 24 (.bld [(.int .i64 0), .emp, .emp] []),
  o 25 (.mov (.t 8)),
  .op ⟨none, .sto (.t 4) (.t 24) 3, none⟩ none,
  o 5 (.mov (.t 25))]) .ret) .skip))) (.seq (.reg [.op ⟨some 26, .bsr 45 6 [], none⟩ (some (true, y48)),
  o 27 (.fld (.t 2) 2),
  o 28 (.ld1 (.t 27) false),
  .op ⟨some 29, .app 45 6 48 (.t 26) (.t 28), none⟩ (some (true, y48)),
  o 30 (.mov (.t 1)),
  .op ⟨some 31, .app 45 6 48 (.t 29) (.t 30), none⟩ (some (true, y48)),
  o 32 (.xcall 61 [(.t 31)]),
  o 33 (.fld (.t 7) 2),
  .op ⟨none, .sto (.t 33) (.t 32) 1, none⟩ none]) (.seq (.seq (.reg [o 34 (.ldn (.t 7) 3 false),
  o 35 (.xcall 20 [(.t 34)]),
  o 9 (.mov (.t 35))]) (.seq (.reg [o 36 (.mov (.t 9)),
  o 37 (.bin true .neq (.t 36) (.c (.int .i64 0)))]) (.cond (.t 37) (.seq (.reg [o 38 (.bld [(.int .i64 0), .emp, .emp] []),
  o 39 (.mov (.t 9)),
  .op ⟨none, .sto (.t 4) (.t 38) 3, none⟩ none,
  o 5 (.mov (.t 39))]) .ret) .skip))) (.seq (.reg [o 40 (.ldn (.t 7) 3 false),
  .op ⟨none, .sto (.t 4) (.t 40) 3, none⟩ none,
  o 5 (.mov (.c (.int .i64 0)))]) .ret))))))))
theorem ok33 : L.Fn Try.prog 33 41 [(.cell 4 true 3), (.t 5)] (erase c33) := L.Fn.of hmix Try.func33 [] (by kernel_rfl)
def sh33 : FSh := ⟨⟨[(.st y69), (.v y60)], []⟩, [y69, y60], 0, ⟨⟨[(.tup [(.agg [(.v y6), (.slc 0), (.slc 1)]), (.v y6)])], [(0, (.row 33 y66)), (1, (.row 45 y48))]⟩, [y6, y6, y67, y60], [], 2⟩, false⟩
noncomputable def q33 (F20 : Y25) (F24 : Y212) (F61 : Y77) (a0 : Y20) (a1 : List Y3) : Option Y24 :=
(F20 a0).bind fun (r1 : Int) => (
cond (!decide (r1 = (0 : Int))) (
some ((0 : Int), r1, ([] : List Y9), ([] : List Y3))) (
(F24 a0).bind fun (r2 : Y20) => (
(F20 (r2.1, (r2.2.1, a1))).bind fun (r3 : Int) => (
cond (!decide (r3 = (0 : Int))) (
some ((0 : Int), r3, ([] : List Y9), ([] : List Y3))) (
chk (capOk 48 (List.length ([] : List Y3) + List.length a0.2.2)) (
chk (capOk 48 (List.length (([] : List Y3) ++ a0.2.2) + List.length a1)) (
(F61 ((([] : List Y3) ++ a0.2.2) ++ a1)).bind fun (r4 : List Y3) => (
(F20 (r2.1, (r2.2.1, r4))).bind fun (r5 : Int) => (
cond (!decide (r5 = (0 : Int))) (
some ((0 : Int), r5, ([] : List Y9), ([] : List Y3))) (
some (r2.1, (0 : Int), r2.2.1, r4)))))))))))
theorem g33 (F20 : Y25) (F24 : Y212) (F61 : Y77) (a0 : Y20) (a1 : List Y3) : dxf (T33 F20 F24 F61) sh33 [(.cell 4 true 3), (.t 5)] c33 (a0, a1) = q33 F20 F24 F61 a0 a1 := by kernel_rfl
noncomputable def p33 (a0 : Y20) (a1 : List Y3) : Option Y24 := q33 P20 P24 P61 a0 a1
noncomputable def P33 : Y325 := fun x => p33 x.1 x.2
theorem v33 : dxf (T33 P20 P24 P61) sh33 [(.cell 4 true 3), (.t 5)] c33 = P33 := funext fun x => (g33 P20 P24 P61 x.1 x.2).trans (show q33 P20 P24 P61 x.1 x.2 = q33 P20 P24 P61 x.1 x.2 from rfl)
theorem d33 : DC Try.prog 33 sh33 P33 := DC_eq v33 (dxf_sound (sh := sh33) t33 ok33 (by kernel_rfl))
noncomputable def T11 (F23 : Y22) (F15 : Y194) (F24 : Y212) (F32 : Y325) (F33 : Y325) (F31 : Y292) : List FEnt := [⟨23, sh23, F23⟩, ⟨15, sh15, F15⟩, ⟨24, sh24, F24⟩, ⟨32, sh32, F32⟩, ⟨33, sh33, F33⟩, ⟨31, sh31, F31⟩]
theorem t11 : DTblOK Try.prog (T11 P23 P15 P24 P32 P33 P31) := (DTbl_cons' (f := 23) (sh := sh23) (F := P23) d23 (by kernel_rfl) (DTbl_cons' (f := 15) (sh := sh15) (F := P15) d15 (by kernel_rfl) (DTbl_cons' (f := 24) (sh := sh24) (F := P24) d24 (by kernel_rfl) (DTbl_cons' (f := 32) (sh := sh32) (F := P32) d32 (by kernel_rfl) (DTbl_cons' (f := 33) (sh := sh33) (F := P33) d33 (by kernel_rfl) (DTbl_cons' (f := 31) (sh := sh31) (F := P31) d31 (by kernel_rfl) DTbl_nil))))))
def c11 : DCode := (.seq (.reg [o 2 (.box (.t 0)),
  o 4 (.mov (.c (.bool false)))]) (.seq (.seq (.reg [o 9 (.ldn (.t 2) 3 false),
  o 10 (.xcall 23 [(.t 9)]),
  o 11 (.mov (.t 10)),
  og 12 11 false (.mov (.t 1)),
  og 13 11 false (.len (.t 12)),
  og 14 11 false (.bin true .gtr (.t 13) (.c (.int .i64 60))),
  o 15 (.pick (.t 11) (.c (.bool true)) (.t 14))]) (.cond (.t 15) (.seq (.reg [o 16 (.xcall 15 []),
  o 4 (.mov (.t 16))]) .ret) .skip)) (.seq (.reg [o 18 (.ldn (.t 2) 3 false),
  o 19 (.xcall 24 [(.t 18)]),
  .op ⟨some 20, .bsr 45 6 [], none⟩ (some (true, y48)),
  o 21 (.mov (.t 1)),
  .op ⟨some 22, .app 45 6 48 (.t 20) (.t 21), none⟩ (some (true, y48)),
  .fz 19 [1],
  .fz 19 [2],
  .fz 22 [],
  o 23 (.xcall 32 [(.t 19), (.t 22)]),
  o 17 (.mov (.t 23)),
  o 24 (.ext (.t 17) 0),
  o 25 (.ext (.t 17) 1),
  o 5 (.alc [(.int .i64 0), .emp, .emp]),
  .op ⟨none, .sto (.t 5) (.t 24) 3, none⟩ none,
  o 6 (.mov (.t 25))]) (.seq (.reg [o 27 (.ldn (.t 2) 3 false),
  o 28 (.mov (.t 1)),
  o 29 (.xcall 33 [(.t 27), (.t 28)]),
  o 26 (.mov (.t 29)),
  o 30 (.ext (.t 26) 0),
  o 31 (.ext (.t 26) 1),
  o 7 (.alc [(.int .i64 0), .emp, .emp]),
  .op ⟨none, .sto (.t 7) (.t 30) 3, none⟩ none,
  o 8 (.mov (.t 31))]) (.seq (.reg [o 32 (.ldn (.t 5) 3 false),
  o 33 (.ldn (.t 7) 3 false),
  o 34 (.xcall 31 [(.t 32), (.t 33)]),
  o 35 (.mov (.t 34)),
  og 36 35 true (.mov (.t 6)),
  og 37 35 true (.mov (.t 8)),
  og 38 35 true (.bin true .eql (.t 36) (.t 37)),
  o 39 (.pick (.t 35) (.t 38) (.c (.bool false))),
  o 40 (.mov (.t 39)),
  og 41 40 true (.xcall 15 []),
  o 42 (.pick (.t 40) (.t 41) (.c (.bool false))),
  o 4 (.mov (.t 42))]) .ret)))))
theorem ok11 : L.Fn Try.prog 11 43 [(.t 4)] (erase c11) := L.Fn.of hmix Try.func11 [] (by kernel_rfl)
def sh11 : FSh := ⟨⟨[(.st y69), (.v y60)], []⟩, [y69, y60], 0, ⟨⟨[(.v .bool)], []⟩, [.bool], [], 0⟩, true⟩
noncomputable def q11 (F23 : Y22) (F15 : Y194) (F24 : Y212) (F32 : Y325) (F33 : Y325) (F31 : Y292) (a0 : Y20) (a1 : List Y3) : Option Bool :=
(F23 a0).bind fun (r1 : Bool) => (
cond r1 (
(F15 ()).bind fun (r2 : Bool) => (
some r2)) (
cond (decide ((60 : Int) < (↑(List.length a1) : Int))) (
(F15 ()).bind fun (r3 : Bool) => (
some r3)) (
(F24 a0).bind fun (r4 : Y20) => (
chk (capOk 48 (List.length ([] : List Y3) + List.length a1)) (
(F32 (r4, (([] : List Y3) ++ a1))).bind fun (r5 : Y24) => (
(F33 (a0, a1)).bind fun (r6 : Y24) => (
(F31 ((r5.1, r5.2.2), (r6.1, r6.2.2))).bind fun (r7 : Bool) => (
cond r7 (
cond (decide (r5.2.1 = r6.2.1)) (
(F15 ()).bind fun (r8 : Bool) => (
some r8)) (
some false)) (
some false)))))))))
theorem g11 (F23 : Y22) (F15 : Y194) (F24 : Y212) (F32 : Y325) (F33 : Y325) (F31 : Y292) (a0 : Y20) (a1 : List Y3) : dxf (T11 F23 F15 F24 F32 F33 F31) sh11 [(.t 4)] c11 (a0, a1) = q11 F23 F15 F24 F32 F33 F31 a0 a1 := by kernel_rfl
noncomputable def p11 (a0 : Y20) (a1 : List Y3) : Option Bool := q11 P23 P15 P24 P32 P33 P31 a0 a1
noncomputable def P11 : Y36 := fun x => p11 x.1 x.2
theorem v11 : dxf (T11 P23 P15 P24 P32 P33 P31) sh11 [(.t 4)] c11 = P11 := funext fun x => (g11 P23 P15 P24 P32 P33 P31 x.1 x.2).trans (show q11 P23 P15 P24 P32 P33 P31 x.1 x.2 = q11 P23 P15 P24 P32 P33 P31 x.1 x.2 from rfl)
theorem d11 : DC Try.prog 11 sh11 P11 := DC_eq v11 (dxf_sound (sh := sh11) t11 ok11 (by kernel_rfl))
end Go.Proofs.Ytfknkinmnecoeaa.D
