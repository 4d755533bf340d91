/- Functions of the program as typed functions: printed by a program of this claim, checked by Lean. -/
import Derived.Test.YtjoncejabdjekaaG1
import Derived.Test.YtjoncejabdjekaaProg
set_option linter.unusedVariables false
set_option maxRecDepth 100000
namespace Go.Proofs.Ytjoncejabdjekaa.D
open Go Go.Proofs Go.Proofs.Ytjoncejabdjekaa.L
/-! bijou/bijoulaw07.works -/
noncomputable def T9 (F31 : Unit → Option ((List (Int × Int × Int)) × (List (Int × Int × Int × Int × Int × Int)) × (List (Int × Int × Int)))) (F22 : (List (Int × Int × Int)) × (List (Int × Int × Int × Int × Int × Int)) → Option (Int × Int)) (F17 : ((List (Int × Int × Int)) × (List (Int × Int × Int × Int × Int × Int))) × (List (Int × Int × Int)) → Option (Int × Int × (List Int))) (F19 : ((List (Int × Int × Int)) × (List (Int × Int × Int × Int × Int × Int))) × (List (Int × Int × Int)) × Int → Option (Int × Int)) (F13 : ((List (Int × Int × Int)) × (List (Int × Int × Int × Int × Int × Int))) × (List (List Int)) → Option (Int × Int × (List Int))) (F15 : (List Int) × (List Int) → Option (Bool)) : List FEnt := [⟨31, sh31, F31⟩, ⟨22, sh22, F22⟩, ⟨17, sh17, F17⟩, ⟨19, sh19, F19⟩, ⟨13, sh13, F13⟩, ⟨15, sh15, F15⟩]
theorem t9 : DTblOK Try.prog (T9 P31 P22 P17 P19 P13 P15) := (DTbl_cons' (f := 31) (sh := sh31) (F := P31) d31 (by kernel_rfl) (DTbl_cons' (f := 22) (sh := sh22) (F := P22) d22 (by kernel_rfl) (DTbl_cons' (f := 17) (sh := sh17) (F := P17) d17 (by kernel_rfl) (DTbl_cons' (f := 19) (sh := sh19) (F := P19) d19 (by kernel_rfl) (DTbl_cons' (f := 13) (sh := sh13) (F := P13) d13 (by kernel_rfl) (DTbl_cons' (f := 15) (sh := sh15) (F := P15) d15 (by kernel_rfl) DTbl_nil))))))
def c9 : DCode := (.seq (.reg [.op ⟨some 0, .mov (.c (.bool false)), none⟩ none]) (.seq (.reg [.op ⟨some 14, .xcall 31 [], none⟩ none,
  .op ⟨some 13, .mov (.t 14), none⟩ none,
  .op ⟨some 15, .ext (.t 13) 0, none⟩ none,
  .op ⟨some 16, .ext (.t 13) 1, none⟩ none,
  .op ⟨some 1, .alc [.emp, .emp], none⟩ none,
  .op ⟨none, .sto (.t 1) (.t 15) 2, none⟩ none,
  .op ⟨some 2, .mov (.t 16), none⟩ none]) (.seq (.reg [.op ⟨some 18, .ldn (.t 1) 2 false, none⟩ none,
  .op ⟨some 19, .xcall 22 [(.t 18)], none⟩ none,
  .op ⟨some 17, .mov (.t 19), none⟩ none,
  .op ⟨some 20, .ext (.t 17) 0, none⟩ none,
  .op ⟨some 21, .ext (.t 17) 1, none⟩ none,
  .op ⟨some 3, .mov (.t 20), none⟩ none,
  .op ⟨some 4, .mov (.t 21), none⟩ none]) (.seq (.reg [.op ⟨some 23, .ldn (.t 1) 2 false, none⟩ none,
  .op ⟨some 24, .mov (.t 2), none⟩ none,
  .op ⟨some 25, .xcall 17 [(.t 23), (.t 24)], none⟩ none,
  .op ⟨some 22, .mov (.t 25), none⟩ none,
  .op ⟨some 26, .ext (.t 22) 0, none⟩ none,
  .op ⟨some 27, .ext (.t 22) 1, none⟩ none,
  .op ⟨some 28, .ext (.t 22) 2, none⟩ none,
  .op ⟨some 5, .mov (.t 26), none⟩ none,
  .op ⟨some 6, .mov (.t 27), none⟩ none,
  .op ⟨some 7, .mov (.t 28), none⟩ none]) (.seq (.reg [.op ⟨some 30, .ldn (.t 1) 2 false, none⟩ none,
  .op ⟨some 31, .mov (.t 2), none⟩ none,
  .op ⟨some 32, .xcall 19 [(.t 30), (.t 31), (.c (.int .i64 2))], none⟩ none,
  .op ⟨some 29, .mov (.t 32), none⟩ none,
  .op ⟨some 33, .ext (.t 29) 0, none⟩ none,
  .op ⟨some 34, .ext (.t 29) 1, none⟩ none,
  .op ⟨some 8, .mov (.t 33), none⟩ none,
  .op ⟨some 9, .mov (.t 34), none⟩ none]) (.seq (.reg [.op ⟨some 36, .ldn (.t 1) 2 false, none⟩ none,
  .op ⟨some 37, .bsr 3 1 [(.c (.int .i64 0))], none⟩ (some (false, (.int .i64))),
  .op ⟨some 38, .bsr 3 1 [(.c (.int .i64 1)), (.c (.int .i64 2))], none⟩ (some (false, (.int .i64))),
  .op ⟨some 39, .bsr 3 1 [(.c (.int .i64 0))], none⟩ (some (false, (.int .i64))),
  .fz 37 [],
  .fz 38 [],
  .fz 39 [],
  .op ⟨some 40, .bsr 28 1 [(.t 37), (.t 38), (.t 39)], none⟩ (some (false, (.sl (.int .i64)))),
  .op ⟨some 41, .xcall 13 [(.t 36), (.t 40)], none⟩ none,
  .op ⟨some 35, .mov (.t 41), none⟩ none,
  .op ⟨some 42, .ext (.t 35) 0, none⟩ none,
  .op ⟨some 43, .ext (.t 35) 1, none⟩ none,
  .op ⟨some 44, .ext (.t 35) 2, none⟩ none,
  .op ⟨some 10, .mov (.t 42), none⟩ none,
  .op ⟨some 11, .mov (.t 43), none⟩ none,
  .op ⟨some 12, .mov (.t 44), none⟩ none]) (.seq (.reg [.op ⟨some 45, .mov (.t 4), none⟩ none,
  .op ⟨some 46, .bin true .eql (.t 45) (.c (.int .i64 0)), none⟩ none,
  .op ⟨some 47, .mov (.t 46), none⟩ none,
  .op ⟨some 48, .mov (.t 7), some (47, true)⟩ none,
  .op ⟨some 49, .bin true .eql (.t 48) (.c (.int .i64 0)), some (47, true)⟩ none,
  .op ⟨some 50, .pick (.t 47) (.t 49) (.c (.bool false)), none⟩ none,
  .op ⟨some 51, .mov (.t 50), none⟩ none,
  .op ⟨some 52, .mov (.t 9), some (51, true)⟩ none,
  .op ⟨some 53, .bin true .eql (.t 52) (.c (.int .i64 0)), some (51, true)⟩ none,
  .op ⟨some 54, .pick (.t 51) (.t 53) (.c (.bool false)), none⟩ none,
  .op ⟨some 55, .mov (.t 54), none⟩ none,
  .op ⟨some 56, .mov (.t 12), some (55, true)⟩ none,
  .op ⟨some 57, .bin true .eql (.t 56) (.c (.int .i64 0)), some (55, true)⟩ none,
  .op ⟨some 58, .pick (.t 55) (.t 57) (.c (.bool false)), none⟩ none,
  .op ⟨some 59, .mov (.t 58), none⟩ none,
  .op ⟨some 60, .mov (.t 3), some (59, true)⟩ none,
  .op ⟨some 61, .bin true .eql (.t 60) (.c (.int .i64 4)), some (59, true)⟩ none,
  .op ⟨some 62, .pick (.t 59) (.t 61) (.c (.bool false)), none⟩ none,
  .op ⟨some 63, .mov (.t 62), none⟩ none,
  .op ⟨some 64, .mov (.t 5), some (63, true)⟩ none,
  .op ⟨some 65, .bsr 3 1 [(.c (.int .i64 1)), (.c (.int .i64 2)), (.c (.int .i64 1))], some (63, true)⟩ (some (false, (.int .i64))),
  .op ⟨some 66, .xcall 15 [(.t 64), (.t 65)], some (63, true)⟩ none,
  .op ⟨some 67, .pick (.t 63) (.t 66) (.c (.bool false)), none⟩ none,
  .op ⟨some 68, .mov (.t 67), none⟩ none,
  .op ⟨some 69, .mov (.t 6), some (68, true)⟩ none,
  .op ⟨some 70, .bin true .eql (.t 69) (.c (.int .i64 2)), some (68, true)⟩ none,
  .op ⟨some 71, .pick (.t 68) (.t 70) (.c (.bool false)), none⟩ none,
  .op ⟨some 72, .mov (.t 71), none⟩ none,
  .op ⟨some 73, .mov (.t 8), some (72, true)⟩ none,
  .op ⟨some 74, .bin true .eql (.t 73) (.c (.int .i64 1)), some (72, true)⟩ none,
  .op ⟨some 75, .pick (.t 72) (.t 74) (.c (.bool false)), none⟩ none,
  .op ⟨some 76, .mov (.t 75), none⟩ none,
  .op ⟨some 77, .mov (.t 10), some (76, true)⟩ none,
  .op ⟨some 78, .bsr 3 1 [(.c (.int .i64 2)), (.c (.int .i64 1)), (.c (.int .i64 1))], some (76, true)⟩ (some (false, (.int .i64))),
  .op ⟨some 79, .xcall 15 [(.t 77), (.t 78)], some (76, true)⟩ none,
  .op ⟨some 80, .pick (.t 76) (.t 79) (.c (.bool false)), none⟩ none,
  .op ⟨some 81, .mov (.t 80), none⟩ none,
  .op ⟨some 82, .mov (.t 11), some (81, true)⟩ none,
  .op ⟨some 83, .bin true .eql (.t 82) (.c (.int .i64 4)), some (81, true)⟩ none,
  .op ⟨some 84, .pick (.t 81) (.t 83) (.c (.bool false)), none⟩ none,
  .op ⟨some 0, .mov (.t 84), none⟩ none]) .ret)))))))
theorem ok9 : L.Fn Try.prog 9 85 [(.t 0)] (erase c9) := L.Fn.of hmix Try.func9 [] (by kernel_rfl)
def sh9 : FSh := ⟨⟨[], []⟩, [], 0, ⟨⟨[(.v .bool)], []⟩, [.bool], [], 0⟩, true⟩
noncomputable def q9 (F31 : Unit → Option ((List (Int × Int × Int)) × (List (Int × Int × Int × Int × Int × Int)) × (List (Int × Int × Int)))) (F22 : (List (Int × Int × Int)) × (List (Int × Int × Int × Int × Int × Int)) → Option (Int × Int)) (F17 : ((List (Int × Int × Int)) × (List (Int × Int × Int × Int × Int × Int))) × (List (Int × Int × Int)) → Option (Int × Int × (List Int))) (F19 : ((List (Int × Int × Int)) × (List (Int × Int × Int × Int × Int × Int))) × (List (Int × Int × Int)) × Int → Option (Int × Int)) (F13 : ((List (Int × Int × Int)) × (List (Int × Int × Int × Int × Int × Int))) × (List (List Int)) → Option (Int × Int × (List Int))) (F15 : (List Int) × (List Int) → Option (Bool)) : Option (Bool) :=
(F31 ()).bind fun (r1 : (List (Int × Int × Int)) × (List (Int × Int × Int × Int × Int × Int)) × (List (Int × Int × Int))) => (
(F22 (r1.1, r1.2.1)).bind fun (r2 : Int × Int) => (
(F17 ((r1.1, r1.2.1), r1.2.2)).bind fun (r3 : Int × Int × (List Int)) => (
(F19 ((r1.1, r1.2.1), r1.2.2, (2 : Int))).bind fun (r4 : Int × Int) => (
(F13 ((r1.1, r1.2.1), ([([(0 : Int)] : List Int), ([(1 : Int), (2 : Int)] : List Int), ([(0 : Int)] : List Int)] : List (List Int)))).bind fun (r5 : Int × Int × (List Int)) => (
cond (decide (r2.2 = (0 : Int))) (
cond (decide (r3.2.1 = (0 : Int))) (
cond (decide (r4.2 = (0 : Int))) (
cond (decide (r5.2.1 = (0 : Int))) (
cond (decide (r2.1 = (4 : Int))) (
(F15 (r3.2.2, ([(1 : Int), (2 : Int), (1 : Int)] : List Int))).bind fun (r6 : Bool) => (
cond r6 (
cond (decide (r3.1 = (2 : Int))) (
cond (decide (r4.1 = (1 : Int))) (
(F15 (r5.2.2, ([(2 : Int), (1 : Int), (1 : Int)] : List Int))).bind fun (r7 : Bool) => (
cond r7 (
some (decide (r5.1 = (4 : Int)))) (
some false))) (
some false)) (
some false)) (
some false))) (
some false)) (
some false)) (
some false)) (
some false)) (
some false))))))
theorem g9 (F31 : Unit → Option ((List (Int × Int × Int)) × (List (Int × Int × Int × Int × Int × Int)) × (List (Int × Int × Int)))) (F22 : (List (Int × Int × Int)) × (List (Int × Int × Int × Int × Int × Int)) → Option (Int × Int)) (F17 : ((List (Int × Int × Int)) × (List (Int × Int × Int × Int × Int × Int))) × (List (Int × Int × Int)) → Option (Int × Int × (List Int))) (F19 : ((List (Int × Int × Int)) × (List (Int × Int × Int × Int × Int × Int))) × (List (Int × Int × Int)) × Int → Option (Int × Int)) (F13 : ((List (Int × Int × Int)) × (List (Int × Int × Int × Int × Int × Int))) × (List (List Int)) → Option (Int × Int × (List Int))) (F15 : (List Int) × (List Int) → Option (Bool)) : dxf (T9 F31 F22 F17 F19 F13 F15) sh9 [(.t 0)] c9 () = q9 F31 F22 F17 F19 F13 F15 := by kernel_rfl
noncomputable def p9 : Option (Bool) := q9 P31 P22 P17 P19 P13 P15
noncomputable def P9 : Unit → Option (Bool) := fun x => p9
theorem v9 : dxf (T9 P31 P22 P17 P19 P13 P15) sh9 [(.t 0)] c9 = P9 := funext fun x => (g9 P31 P22 P17 P19 P13 P15).trans (show q9 P31 P22 P17 P19 P13 P15 = q9 P31 P22 P17 P19 P13 P15 from rfl)
theorem d9 : DC Try.prog 9 sh9 P9 := DC_eq v9 (dxf_sound (sh := sh9) t9 ok9 (by kernel_rfl))
/-! bijou/bijouref07.Copy -/
noncomputable def T10 : List FEnt := []
theorem t10 : DTblOK Try.prog T10 := DTbl_nil
def c10 : DCode := (.seq (.reg [.op ⟨some 1, .box (.t 0), none⟩ none,
  .op ⟨some 2, .alc [.emp, .emp], none⟩ none]) (.seq (.drw [1] [(⟨some 3, .bsl 3 [], none⟩, none),
  (⟨some 4, .fld (.t 1) 0, none⟩, none),
  (⟨some 5, .ld1 (.t 4) true, none⟩, none),
  (⟨some 7, .bsl 6 [], none⟩, none),
  (⟨some 8, .fld (.t 1) 1, none⟩, none),
  (⟨some 9, .ld1 (.t 8) true, none⟩, none),
  (⟨some 6, .app 43 3 24 (.t 3) (.t 5), none⟩, (some (true, (.pair (.int .i64) (.pair (.int .i64) (.int .i64)))))),
  (⟨some 10, .app 50 6 48 (.t 7) (.t 9), none⟩, (some (true, (.pair (.int .i64) (.pair (.int .i64) (.pair (.int .i64) (.pair (.int .i64) (.pair (.int .i64) (.int .i64))))))))),
  (⟨some 11, .bld [.emp, .emp] [(0, (1, (.t 6))), (1, (1, (.t 10)))], none⟩, none),
  (⟨none, .sto (.t 2) (.t 11) 2, none⟩, none)]) .ret))
theorem ok10 : L.Fn Try.prog 10 12 [(.cell 2 true 2)] (erase c10) := L.Fn.of hmix Try.func10 [(1, { ch := [1,0,1,0,1,0,1,0,0,0], rs := [1], ord := [0,1,2,4,5,6,3,7,8,9] })] (by kernel_rfl)
def sh10 : FSh := ⟨⟨[(.st (.pair (.sl (.pair (.int .i64) (.pair (.int .i64) (.int .i64)))) (.sl (.pair (.int .i64) (.pair (.int .i64) (.pair (.int .i64) (.pair (.int .i64) (.pair (.int .i64) (.int .i64)))))))))], []⟩, [(.pair (.sl (.pair (.int .i64) (.pair (.int .i64) (.int .i64)))) (.sl (.pair (.int .i64) (.pair (.int .i64) (.pair (.int .i64) (.pair (.int .i64) (.pair (.int .i64) (.int .i64))))))))], 0, ⟨⟨[(.agg [(.slc 0), (.slc 1)])], [(0, (.row 43 (.pair (.int .i64) (.pair (.int .i64) (.int .i64))))), (1, (.row 50 (.pair (.int .i64) (.pair (.int .i64) (.pair (.int .i64) (.pair (.int .i64) (.pair (.int .i64) (.int .i64))))))))]⟩, [(.sl (.pair (.int .i64) (.pair (.int .i64) (.int .i64)))), (.sl (.pair (.int .i64) (.pair (.int .i64) (.pair (.int .i64) (.pair (.int .i64) (.pair (.int .i64) (.int .i64)))))))], [], 2⟩, true⟩
noncomputable def q10 (a0 : (List (Int × Int × Int)) × (List (Int × Int × Int × Int × Int × Int))) : Option ((List (Int × Int × Int)) × (List (Int × Int × Int × Int × Int × Int))) :=
chk (capOk 24 (List.length a0.1)) (
chk (capOk 48 (List.length a0.2)) (
some (a0.1, a0.2)))
theorem g10 (a0 : (List (Int × Int × Int)) × (List (Int × Int × Int × Int × Int × Int))) : dxf T10 sh10 [(.cell 2 true 2)] c10 a0 = q10 a0 := by kernel_rfl
noncomputable def p10 (a0 : (List (Int × Int × Int)) × (List (Int × Int × Int × Int × Int × Int))) : Option ((List (Int × Int × Int)) × (List (Int × Int × Int × Int × Int × Int))) := q10 a0
noncomputable def P10 : (List (Int × Int × Int)) × (List (Int × Int × Int × Int × Int × Int)) → Option ((List (Int × Int × Int)) × (List (Int × Int × Int × Int × Int × Int))) := fun x => p10 x
theorem v10 : dxf T10 sh10 [(.cell 2 true 2)] c10 = P10 := funext fun x => (g10 x).trans (show q10 x = q10 x from rfl)
theorem d10 : DC Try.prog 10 sh10 P10 := DC_eq v10 (dxf_sound (sh := sh10) t10 ok10 (by kernel_rfl))
/-! bijou/bijouref07.within -/
noncomputable def T36 : List FEnt := []
theorem t36 : DTblOK Try.prog T36 := DTbl_nil
def c36 : DCode := (.seq (.reg [.op ⟨some 6, .mov (.c (.bool false)), none⟩ none]) (.seq (.reg [.op ⟨some 7, .mov (.t 0), none⟩ none,
  .op ⟨some 8, .mov (.t 1), none⟩ none,
  .op ⟨some 9, .bin true .geq (.t 7) (.t 8), none⟩ none,
  .op ⟨some 10, .mov (.t 9), none⟩ none,
  .op ⟨some 11, .mov (.t 0), some (10, true)⟩ none,
  .op ⟨some 12, .mov (.t 2), some (10, true)⟩ none,
  .op ⟨some 13, .bin true .leq (.t 11) (.t 12), some (10, true)⟩ none,
  .op ⟨some 14, .pick (.t 10) (.t 13) (.c (.bool false)), none⟩ none,
  .op ⟨some 6, .mov (.t 14), none⟩ none]) .ret))
theorem ok36 : L.Fn Try.prog 36 15 [(.t 6)] (erase c36) := L.Fn.of hmix Try.func36 [] (by kernel_rfl)
def sh36 : FSh := ⟨⟨[(.v (.int .i64)), (.v (.int .i64)), (.v (.int .i64))], []⟩, [(.int .i64), (.int .i64), (.int .i64)], 0, ⟨⟨[(.v .bool)], []⟩, [.bool], [], 0⟩, true⟩
noncomputable def q36 (a0 : Int) (a1 : Int) (a2 : Int) : Option (Bool) :=
cond (decide (a1 ≤ a0)) (
some (decide (a0 ≤ a2))) (
some false)
theorem g36 (a0 : Int) (a1 : Int) (a2 : Int) : dxf T36 sh36 [(.t 6)] c36 (a0, a1, a2) = q36 a0 a1 a2 := by kernel_rfl
noncomputable def p36 (a0 : Int) (a1 : Int) (a2 : Int) : Option (Bool) := q36 a0 a1 a2
noncomputable def P36 : Int × Int × Int → Option (Bool) := fun x => p36 x.1 x.2.1 x.2.2
theorem v36 : dxf T36 sh36 [(.t 6)] c36 = P36 := funext fun x => (g36 x.1 x.2.1 x.2.2).trans (show q36 x.1 x.2.1 x.2.2 = q36 x.1 x.2.1 x.2.2 from rfl)
theorem d36 : DC Try.prog 36 sh36 P36 := DC_eq v36 (dxf_sound (sh := sh36) t36 ok36 (by kernel_rfl))
/-! bijou/bijouref07.Check -/
noncomputable def T12 (F36 : Int × Int × Int → Option (Bool)) : List FEnt := [⟨36, sh36, F36⟩]
theorem t12 : DTblOK Try.prog (T12 P36) := (DTbl_cons' (f := 36) (sh := sh36) (F := P36) d36 (by kernel_rfl) DTbl_nil)
def b12_0 : DCode := (.seq (.seq (.reg [.op ⟨some 18, .mov (.t 3), none⟩ none,
  .op ⟨some 19, .fld (.t 1) 0, none⟩ none,
  .op ⟨some 20, .ld1 (.t 19) false, none⟩ none,
  .op ⟨some 21, .len (.t 20), none⟩ none,
  .op ⟨some 22, .bin true .lss (.t 18) (.t 21), none⟩ none]) (.cond (.t 22) .skip (.exit 0))) (.seq (.blk 1 (.seq (.reg [.op ⟨some 25, .fld (.t 1) 0, none⟩ none,
  .op ⟨some 26, .ld1 (.t 25) false, none⟩ none,
  .op ⟨some 27, .mov (.t 3), none⟩ none,
  .op ⟨some 28, .idx (.t 26) (.t 27) 3, none⟩ none,
  .op ⟨some 29, .ldn (.t 28) 3 false, none⟩ none,
  .op ⟨some 4, .alc [(.int .i64 0), (.int .i64 0), (.int .i64 0)], none⟩ none,
  .op ⟨none, .sto (.t 4) (.t 29) 3, none⟩ none]) (.seq (.reg [.op ⟨some 30, .fld (.t 4) 0, none⟩ none,
  .op ⟨some 31, .ld1 (.t 30) false, none⟩ none,
  .op ⟨some 32, .xcall 36 [(.t 31), (.c (.int .i64 0)), (.c (.int .i64 99))], none⟩ none,
  .op ⟨some 33, .unot (.t 32), none⟩ none,
  .op ⟨some 34, .mov (.t 33), none⟩ none,
  .op ⟨some 35, .fld (.t 4) 1, some (34, false)⟩ none,
  .op ⟨some 36, .ld1 (.t 35) false, some (34, false)⟩ none,
  .op ⟨some 37, .xcall 36 [(.t 36), (.c (.int .i64 0)), (.c (.int .i64 9))], some (34, false)⟩ none,
  .op ⟨some 38, .unot (.t 37), some (34, false)⟩ none,
  .op ⟨some 39, .pick (.t 34) (.c (.bool true)) (.t 38), none⟩ none,
  .op ⟨some 40, .mov (.t 39), none⟩ none,
  .op ⟨some 41, .fld (.t 4) 2, some (40, false)⟩ none,
  .op ⟨some 42, .ld1 (.t 41) false, some (40, false)⟩ none,
  .op ⟨some 43, .xcall 36 [(.t 42), (.c (.int .i64 0)), (.c (.int .i64 6))], some (40, false)⟩ none,
  .op ⟨some 44, .unot (.t 43), some (40, false)⟩ none,
  .op ⟨some 45, .pick (.t 40) (.c (.bool true)) (.t 44), none⟩ none]) (.cond (.t 45) (.seq (.reg [.op ⟨some 2, .mov (.c (.int .i64 70)), none⟩ none]) .ret) .skip)))) (.reg [.op ⟨some 23, .mov (.t 3), none⟩ none,
  .op ⟨some 24, .bin true .add (.t 23) (.c (.int .i64 1)), none⟩ none,
  .op ⟨some 3, .mov (.t 24), none⟩ none])))
def h12_0 : LSh := ⟨[1, 3], ⟨[(.ptr 0 0), (.v (.int .i64))], [(0, (.boxT (.pair (.sl (.pair (.int .i64) (.pair (.int .i64) (.int .i64)))) (.sl (.pair (.int .i64) (.pair (.int .i64) (.pair (.int .i64) (.pair (.int .i64) (.pair (.int .i64) (.int .i64))))))))))]⟩, [(.int .i64), (.pair (.sl (.pair (.int .i64) (.pair (.int .i64) (.int .i64)))) (.sl (.pair (.int .i64) (.pair (.int .i64) (.pair (.int .i64) (.pair (.int .i64) (.pair (.int .i64) (.int .i64))))))))], 1, [0]⟩
def x12_0 : List XSh := [⟨.ret, [2], ⟨⟨[(.v (.int .i64))], [(0, (.boxT (.pair (.sl (.pair (.int .i64) (.pair (.int .i64) (.int .i64)))) (.sl (.pair (.int .i64) (.pair (.int .i64) (.pair (.int .i64) (.pair (.int .i64) (.pair (.int .i64) (.int .i64))))))))))]⟩, [(.int .i64), (.pair (.sl (.pair (.int .i64) (.pair (.int .i64) (.int .i64)))) (.sl (.pair (.int .i64) (.pair (.int .i64) (.pair (.int .i64) (.pair (.int .i64) (.pair (.int .i64) (.int .i64))))))))], [0], 1⟩⟩, ⟨(.exit 0), [1], ⟨⟨[(.ptr 0 0)], [(0, (.boxT (.pair (.sl (.pair (.int .i64) (.pair (.int .i64) (.int .i64)))) (.sl (.pair (.int .i64) (.pair (.int .i64) (.pair (.int .i64) (.pair (.int .i64) (.pair (.int .i64) (.int .i64))))))))))]⟩, [(.pair (.sl (.pair (.int .i64) (.pair (.int .i64) (.int .i64)))) (.sl (.pair (.int .i64) (.pair (.int .i64) (.pair (.int .i64) (.pair (.int .i64) (.pair (.int .i64) (.int .i64))))))))], [0], 1⟩⟩]
noncomputable def s12_0 (T : List FEnt) : Int × (List (Int × Int × Int)) × (List (Int × Int × Int × Int × Int × Int)) → Option ((Int × (List (Int × Int × Int)) × (List (Int × Int × Int × Int × Int × Int))) ⊕ ((Int × (List (Int × Int × Int)) × (List (Int × Int × Int × Int × Int × Int))) ⊕ ((List (Int × Int × Int)) × (List (Int × Int × Int × Int × Int × Int))))) := dstep (xs := x12_0) h12_0 (dxc T b12_0)
noncomputable def l12_0 (T : List FEnt) : Int × (List (Int × Int × Int)) × (List (Int × Int × Int × Int × Int × Int)) → Option ((Int × (List (Int × Int × Int)) × (List (Int × Int × Int × Int × Int × Int))) ⊕ ((List (Int × Int × Int)) × (List (Int × Int × Int × Int × Int × Int)))) := whileF (s12_0 T)
noncomputable def q12_0 (F36 : Int × Int × Int → Option (Bool)) (a0 : Int) (a1 : (List (Int × Int × Int)) × (List (Int × Int × Int × Int × Int × Int))) : Option ((Int × (List (Int × Int × Int)) × (List (Int × Int × Int × Int × Int × Int))) ⊕ ((Int × (List (Int × Int × Int)) × (List (Int × Int × Int × Int × Int × Int))) ⊕ ((List (Int × Int × Int)) × (List (Int × Int × Int × Int × Int × Int))))) :=
cond (decide (a0 < (↑(List.length a1.1) : Int))) (
chk (inR a0 (List.length a1.1)) (
(F36 ((ix a1.1 a0).1, (0 : Int), (99 : Int))).bind fun (r1 : Bool) => (
cond (!r1) (
some (Sum.inr (Sum.inl ((70 : Int), a1)))) (
(F36 ((ix a1.1 a0).2.1, (0 : Int), (9 : Int))).bind fun (r2 : Bool) => (
cond (!r2) (
some (Sum.inr (Sum.inl ((70 : Int), a1)))) (
(F36 ((ix a1.1 a0).2.2, (0 : Int), (6 : Int))).bind fun (r3 : Bool) => (
cond (!r3) (
some (Sum.inr (Sum.inl ((70 : Int), a1)))) (
chk (fits .i64 (a0 + (1 : Int))) (
some (Sum.inl ((a0 + (1 : Int)), a1))))))))))) (
some (Sum.inr (Sum.inr a1)))
theorem g12_0 (F36 : Int × Int × Int → Option (Bool)) (a0 : Int) (a1 : (List (Int × Int × Int)) × (List (Int × Int × Int × Int × Int × Int))) : s12_0 (T12 F36) (a0, a1) = q12_0 F36 a0 a1 := by kernel_rfl
noncomputable def p12_0 (a0 : Int) (a1 : (List (Int × Int × Int)) × (List (Int × Int × Int × Int × Int × Int))) : Option ((Int × (List (Int × Int × Int)) × (List (Int × Int × Int × Int × Int × Int))) ⊕ ((Int × (List (Int × Int × Int)) × (List (Int × Int × Int × Int × Int × Int))) ⊕ ((List (Int × Int × Int)) × (List (Int × Int × Int × Int × Int × Int))))) := q12_0 P36 a0 a1
noncomputable def L12_0 : Int × (List (Int × Int × Int)) × (List (Int × Int × Int × Int × Int × Int)) → Option ((Int × (List (Int × Int × Int)) × (List (Int × Int × Int × Int × Int × Int))) ⊕ ((List (Int × Int × Int)) × (List (Int × Int × Int × Int × Int × Int)))) := whileF (fun x => p12_0 x.1 x.2)
theorem v12_0 : l12_0 (T12 P36) = L12_0 := congrArg whileF (funext fun x => (g12_0 P36 x.1 x.2).trans (show q12_0 P36 x.1 x.2 = q12_0 P36 x.1 x.2 from rfl))
def b12_2 : DCode := (.seq (.seq (.reg [.op ⟨some 97, .mov (.t 7), none⟩ none,
  .op ⟨some 98, .mov (.t 5), none⟩ none,
  .op ⟨some 99, .bin true .lss (.t 97) (.t 98), none⟩ none]) (.cond (.t 99) .skip (.exit 4))) (.seq (.blk 5 (.seq (.drw [] [(⟨some 102, .fld (.t 1) 1, none⟩, none),
  (⟨some 103, .ld1 (.t 102) false, none⟩, none),
  (⟨some 104, .mov (.t 7), none⟩, none),
  (⟨some 105, .idx (.t 103) (.t 104) 6, none⟩, none),
  (⟨some 106, .fld (.t 105) 0, none⟩, none),
  (⟨some 107, .ld1 (.t 106) false, none⟩, none),
  (⟨some 108, .fld (.t 6) 0, none⟩, none),
  (⟨some 109, .ld1 (.t 108) false, none⟩, none),
  (⟨some 110, .bin true .eql (.t 107) (.t 109), none⟩, none)]) (.cond (.t 110) (.seq (.reg [.op ⟨some 2, .mov (.c (.int .i64 70)), none⟩ none]) .ret) .skip))) (.reg [.op ⟨some 100, .mov (.t 7), none⟩ none,
  .op ⟨some 101, .bin true .add (.t 100) (.c (.int .i64 1)), none⟩ none,
  .op ⟨some 7, .mov (.t 101), none⟩ none])))
def h12_2 : LSh := ⟨[1, 5, 6, 7, 65, 75, 89], ⟨[(.ptr 0 0), (.v (.int .i64)), (.ptr 1 0), (.v (.int .i64)), (.v .bool), (.v .bool), (.v .bool)], [(0, (.boxT (.pair (.sl (.pair (.int .i64) (.pair (.int .i64) (.int .i64)))) (.sl (.pair (.int .i64) (.pair (.int .i64) (.pair (.int .i64) (.pair (.int .i64) (.pair (.int .i64) (.int .i64)))))))))), (1, (.boxT (.pair (.int .i64) (.pair (.int .i64) (.pair (.int .i64) (.pair (.int .i64) (.pair (.int .i64) (.int .i64))))))))]⟩, [(.int .i64), (.int .i64), .bool, .bool, .bool, (.pair (.sl (.pair (.int .i64) (.pair (.int .i64) (.int .i64)))) (.sl (.pair (.int .i64) (.pair (.int .i64) (.pair (.int .i64) (.pair (.int .i64) (.pair (.int .i64) (.int .i64)))))))), (.pair (.int .i64) (.pair (.int .i64) (.pair (.int .i64) (.pair (.int .i64) (.pair (.int .i64) (.int .i64))))))], 2, [0, 1]⟩
def x12_2 : List XSh := [⟨.ret, [2], ⟨⟨[(.v (.int .i64))], [(0, (.boxT (.pair (.sl (.pair (.int .i64) (.pair (.int .i64) (.int .i64)))) (.sl (.pair (.int .i64) (.pair (.int .i64) (.pair (.int .i64) (.pair (.int .i64) (.pair (.int .i64) (.int .i64)))))))))), (1, (.boxT (.pair (.int .i64) (.pair (.int .i64) (.pair (.int .i64) (.pair (.int .i64) (.pair (.int .i64) (.int .i64))))))))]⟩, [(.int .i64), (.pair (.sl (.pair (.int .i64) (.pair (.int .i64) (.int .i64)))) (.sl (.pair (.int .i64) (.pair (.int .i64) (.pair (.int .i64) (.pair (.int .i64) (.pair (.int .i64) (.int .i64)))))))), (.pair (.int .i64) (.pair (.int .i64) (.pair (.int .i64) (.pair (.int .i64) (.pair (.int .i64) (.int .i64))))))], [0, 1], 2⟩⟩, ⟨(.exit 4), [1, 5, 65, 75, 89], ⟨⟨[(.ptr 0 0), (.v (.int .i64)), (.v .bool), (.v .bool), (.v .bool)], [(0, (.boxT (.pair (.sl (.pair (.int .i64) (.pair (.int .i64) (.int .i64)))) (.sl (.pair (.int .i64) (.pair (.int .i64) (.pair (.int .i64) (.pair (.int .i64) (.pair (.int .i64) (.int .i64)))))))))), (1, (.boxT (.pair (.int .i64) (.pair (.int .i64) (.pair (.int .i64) (.pair (.int .i64) (.pair (.int .i64) (.int .i64))))))))]⟩, [(.int .i64), .bool, .bool, .bool, (.pair (.sl (.pair (.int .i64) (.pair (.int .i64) (.int .i64)))) (.sl (.pair (.int .i64) (.pair (.int .i64) (.pair (.int .i64) (.pair (.int .i64) (.pair (.int .i64) (.int .i64)))))))), (.pair (.int .i64) (.pair (.int .i64) (.pair (.int .i64) (.pair (.int .i64) (.pair (.int .i64) (.int .i64))))))], [0, 1], 2⟩⟩]
noncomputable def s12_2 (T : List FEnt) : Int × Int × Bool × Bool × Bool × ((List (Int × Int × Int)) × (List (Int × Int × Int × Int × Int × Int))) × Int × Int × Int × Int × Int × Int → Option ((Int × Int × Bool × Bool × Bool × ((List (Int × Int × Int)) × (List (Int × Int × Int × Int × Int × Int))) × Int × Int × Int × Int × Int × Int) ⊕ ((Int × ((List (Int × Int × Int)) × (List (Int × Int × Int × Int × Int × Int))) × Int × Int × Int × Int × Int × Int) ⊕ (Int × Bool × Bool × Bool × ((List (Int × Int × Int)) × (List (Int × Int × Int × Int × Int × Int))) × Int × Int × Int × Int × Int × Int))) := dstep (xs := x12_2) h12_2 (dxc T b12_2)
noncomputable def l12_2 (T : List FEnt) : Int × Int × Bool × Bool × Bool × ((List (Int × Int × Int)) × (List (Int × Int × Int × Int × Int × Int))) × Int × Int × Int × Int × Int × Int → Option ((Int × ((List (Int × Int × Int)) × (List (Int × Int × Int × Int × Int × Int))) × Int × Int × Int × Int × Int × Int) ⊕ (Int × Bool × Bool × Bool × ((List (Int × Int × Int)) × (List (Int × Int × Int × Int × Int × Int))) × Int × Int × Int × Int × Int × Int)) := whileF (s12_2 T)
noncomputable def q12_2 (F36 : Int × Int × Int → Option (Bool)) (a0 : Int) (a1 : Int) (a2 : Bool) (a3 : Bool) (a4 : Bool) (a5 : (List (Int × Int × Int)) × (List (Int × Int × Int × Int × Int × Int))) (a6 : Int × Int × Int × Int × Int × Int) : Option ((Int × Int × Bool × Bool × Bool × ((List (Int × Int × Int)) × (List (Int × Int × Int × Int × Int × Int))) × Int × Int × Int × Int × Int × Int) ⊕ ((Int × ((List (Int × Int × Int)) × (List (Int × Int × Int × Int × Int × Int))) × Int × Int × Int × Int × Int × Int) ⊕ (Int × Bool × Bool × Bool × ((List (Int × Int × Int)) × (List (Int × Int × Int × Int × Int × Int))) × Int × Int × Int × Int × Int × Int))) :=
cond (decide (a1 < a0)) (
chk (inR a1 (List.length a5.2)) (
cond (decide ((ix a5.2 a1).1 = a6.1)) (
some (Sum.inr (Sum.inl ((70 : Int), a5, a6)))) (
chk (fits .i64 (a1 + (1 : Int))) (
some (Sum.inl (a0, (a1 + (1 : Int)), a2, a3, a4, a5, a6)))))) (
some (Sum.inr (Sum.inr (a0, a2, a3, a4, a5, a6))))
theorem g12_2 (F36 : Int × Int × Int → Option (Bool)) (a0 : Int) (a1 : Int) (a2 : Bool) (a3 : Bool) (a4 : Bool) (a5 : (List (Int × Int × Int)) × (List (Int × Int × Int × Int × Int × Int))) (a6 : Int × Int × Int × Int × Int × Int) : s12_2 (T12 F36) (a0, a1, a2, a3, a4, a5, a6) = q12_2 F36 a0 a1 a2 a3 a4 a5 a6 := by kernel_rfl
noncomputable def p12_2 (a0 : Int) (a1 : Int) (a2 : Bool) (a3 : Bool) (a4 : Bool) (a5 : (List (Int × Int × Int)) × (List (Int × Int × Int × Int × Int × Int))) (a6 : Int × Int × Int × Int × Int × Int) : Option ((Int × Int × Bool × Bool × Bool × ((List (Int × Int × Int)) × (List (Int × Int × Int × Int × Int × Int))) × Int × Int × Int × Int × Int × Int) ⊕ ((Int × ((List (Int × Int × Int)) × (List (Int × Int × Int × Int × Int × Int))) × Int × Int × Int × Int × Int × Int) ⊕ (Int × Bool × Bool × Bool × ((List (Int × Int × Int)) × (List (Int × Int × Int × Int × Int × Int))) × Int × Int × Int × Int × Int × Int))) := q12_2 P36 a0 a1 a2 a3 a4 a5 a6
noncomputable def L12_2 : Int × Int × Bool × Bool × Bool × ((List (Int × Int × Int)) × (List (Int × Int × Int × Int × Int × Int))) × Int × Int × Int × Int × Int × Int → Option ((Int × ((List (Int × Int × Int)) × (List (Int × Int × Int × Int × Int × Int))) × Int × Int × Int × Int × Int × Int) ⊕ (Int × Bool × Bool × Bool × ((List (Int × Int × Int)) × (List (Int × Int × Int × Int × Int × Int))) × Int × Int × Int × Int × Int × Int)) := whileF (fun x => p12_2 x.1 x.2.1 x.2.2.1 x.2.2.2.1 x.2.2.2.2.1 x.2.2.2.2.2.1 x.2.2.2.2.2.2)
theorem v12_2 : l12_2 (T12 P36) = L12_2 := congrArg whileF (funext fun x => (g12_2 P36 x.1 x.2.1 x.2.2.1 x.2.2.2.1 x.2.2.2.2.1 x.2.2.2.2.2.1 x.2.2.2.2.2.2).trans (show q12_2 P36 x.1 x.2.1 x.2.2.1 x.2.2.2.1 x.2.2.2.2.1 x.2.2.2.2.2.1 x.2.2.2.2.2.2 = q12_2 P36 x.1 x.2.1 x.2.2.1 x.2.2.2.1 x.2.2.2.2.1 x.2.2.2.2.2.1 x.2.2.2.2.2.2 from rfl))
def b12_1 : DCode := (.seq (.seq (.reg [.op ⟨some 46, .mov (.t 5), none⟩ none,
  .op ⟨some 47, .fld (.t 1) 1, none⟩ none,
  .op ⟨some 48, .ld1 (.t 47) false, none⟩ none,
  .op ⟨some 49, .len (.t 48), none⟩ none,
  .op ⟨some 50, .bin true .lss (.t 46) (.t 49), none⟩ none]) (.cond (.t 50) .skip (.exit 2))) (.seq (.blk 3 (.seq (.reg [.op ⟨some 53, .fld (.t 1) 1, none⟩ none,
  .op ⟨some 54, .ld1 (.t 53) false, none⟩ none,
  .op ⟨some 55, .mov (.t 5), none⟩ none,
  .op ⟨some 56, .idx (.t 54) (.t 55) 6, none⟩ none,
  .op ⟨some 57, .ldn (.t 56) 6 false, none⟩ none,
  .op ⟨some 6, .alc [(.int .i64 0), (.int .i64 0), (.int .i64 0), (.int .i64 0), (.int .i64 0), (.int .i64 0)], none⟩ none,
  .op ⟨none, .sto (.t 6) (.t 57) 6, none⟩ none]) (.seq (.seq (.reg [.op ⟨some 58, .fld (.t 6) 0, none⟩ none,
  .op ⟨some 59, .ld1 (.t 58) false, none⟩ none,
  .op ⟨some 60, .xcall 36 [(.t 59), (.c (.int .i64 0)), (.c (.int .i64 99))], none⟩ none,
  .op ⟨some 61, .unot (.t 60), none⟩ none,
  .op ⟨some 62, .mov (.t 61), none⟩ none,
  .op ⟨some 63, .fld (.t 6) 1, some (62, false)⟩ none,
  .op ⟨some 64, .ld1 (.t 63) false, some (62, false)⟩ none,
  .op ⟨some 65, .xcall 36 [(.t 64), (.c (.int .i64 0)), (.c (.int .i64 8))], some (62, false)⟩ none,
  .op ⟨some 66, .unot (.t 65), some (62, false)⟩ none,
  .op ⟨some 67, .pick (.t 62) (.c (.bool true)) (.t 66), none⟩ none,
  .op ⟨some 68, .mov (.t 67), none⟩ none,
  .op ⟨some 69, .fld (.t 6) 2, some (68, false)⟩ none,
  .op ⟨some 70, .fld (.t 69) 0, some (68, false)⟩ none,
  .op ⟨some 71, .ld1 (.t 70) false, some (68, false)⟩ none,
  .op ⟨some 72, .fld (.t 6) 2, some (68, false)⟩ none,
  .op ⟨some 73, .fld (.t 72) 1, some (68, false)⟩ none,
  .op ⟨some 74, .ld1 (.t 73) false, some (68, false)⟩ none,
  .op ⟨some 75, .xcall 36 [(.t 71), (.c (.int .i64 0)), (.t 74)], some (68, false)⟩ none,
  .op ⟨some 76, .unot (.t 75), some (68, false)⟩ none,
  .op ⟨some 77, .pick (.t 68) (.c (.bool true)) (.t 76), none⟩ none,
  .op ⟨some 78, .mov (.t 77), none⟩ none,
  .op ⟨some 79, .fld (.t 6) 2, some (78, false)⟩ none,
  .op ⟨some 80, .fld (.t 79) 1, some (78, false)⟩ none,
  .op ⟨some 81, .ld1 (.t 80) false, some (78, false)⟩ none,
  .op ⟨some 82, .bin true .gtr (.t 81) (.c (.int .i64 9)), some (78, false)⟩ none,
  .op ⟨some 83, .pick (.t 78) (.c (.bool true)) (.t 82), none⟩ none,
  .op ⟨some 84, .mov (.t 83), none⟩ none,
  .op ⟨some 85, .fld (.t 6) 4, some (84, false)⟩ none,
  .op ⟨some 86, .ld1 (.t 85) false, some (84, false)⟩ none,
  .op ⟨some 87, .fld (.t 6) 5, some (84, false)⟩ none,
  .op ⟨some 88, .ld1 (.t 87) false, some (84, false)⟩ none,
  .op ⟨some 89, .xcall 36 [(.t 86), (.c (.int .i64 0)), (.t 88)], some (84, false)⟩ none,
  .op ⟨some 90, .unot (.t 89), some (84, false)⟩ none,
  .op ⟨some 91, .pick (.t 84) (.c (.bool true)) (.t 90), none⟩ none,
  .op ⟨some 92, .mov (.t 91), none⟩ none,
  .op ⟨some 93, .fld (.t 6) 5, some (92, false)⟩ none,
  .op ⟨some 94, .ld1 (.t 93) false, some (92, false)⟩ none,
  .op ⟨some 95, .bin true .gtr (.t 94) (.c (.int .i64 99)), some (92, false)⟩ none,
  .op ⟨some 96, .pick (.t 92) (.c (.bool true)) (.t 95), none⟩ none]) (.cond (.t 96) (.seq (.reg [.op ⟨some 2, .mov (.c (.int .i64 70)), none⟩ none]) .ret) .skip)) (.seq (.reg [.op ⟨some 7, .mov (.c (.int .i64 0)), none⟩ none]) (.blk 4 (.loop h12_2 x12_2 b12_2)))))) (.reg [.op ⟨some 51, .mov (.t 5), none⟩ none,
  .op ⟨some 52, .bin true .add (.t 51) (.c (.int .i64 1)), none⟩ none,
  .op ⟨some 5, .mov (.t 52), none⟩ none])))
def h12_1 : LSh := ⟨[1, 5], ⟨[(.ptr 0 0), (.v (.int .i64))], [(0, (.boxT (.pair (.sl (.pair (.int .i64) (.pair (.int .i64) (.int .i64)))) (.sl (.pair (.int .i64) (.pair (.int .i64) (.pair (.int .i64) (.pair (.int .i64) (.pair (.int .i64) (.int .i64))))))))))]⟩, [(.int .i64), (.pair (.sl (.pair (.int .i64) (.pair (.int .i64) (.int .i64)))) (.sl (.pair (.int .i64) (.pair (.int .i64) (.pair (.int .i64) (.pair (.int .i64) (.pair (.int .i64) (.int .i64))))))))], 1, [0]⟩
def x12_1 : List XSh := [⟨.ret, [2], ⟨⟨[(.v (.int .i64))], [(0, (.boxT (.pair (.sl (.pair (.int .i64) (.pair (.int .i64) (.int .i64)))) (.sl (.pair (.int .i64) (.pair (.int .i64) (.pair (.int .i64) (.pair (.int .i64) (.pair (.int .i64) (.int .i64))))))))))]⟩, [(.int .i64), (.pair (.sl (.pair (.int .i64) (.pair (.int .i64) (.int .i64)))) (.sl (.pair (.int .i64) (.pair (.int .i64) (.pair (.int .i64) (.pair (.int .i64) (.pair (.int .i64) (.int .i64))))))))], [0], 1⟩⟩, ⟨(.exit 2), [], ⟨⟨[], [(0, (.boxT (.pair (.sl (.pair (.int .i64) (.pair (.int .i64) (.int .i64)))) (.sl (.pair (.int .i64) (.pair (.int .i64) (.pair (.int .i64) (.pair (.int .i64) (.pair (.int .i64) (.int .i64))))))))))]⟩, [(.pair (.sl (.pair (.int .i64) (.pair (.int .i64) (.int .i64)))) (.sl (.pair (.int .i64) (.pair (.int .i64) (.pair (.int .i64) (.pair (.int .i64) (.pair (.int .i64) (.int .i64))))))))], [0], 1⟩⟩]
noncomputable def s12_1 (T : List FEnt) : Int × (List (Int × Int × Int)) × (List (Int × Int × Int × Int × Int × Int)) → Option ((Int × (List (Int × Int × Int)) × (List (Int × Int × Int × Int × Int × Int))) ⊕ ((Int × (List (Int × Int × Int)) × (List (Int × Int × Int × Int × Int × Int))) ⊕ ((List (Int × Int × Int)) × (List (Int × Int × Int × Int × Int × Int))))) := dstep (xs := x12_1) h12_1 (dxc T b12_1)
noncomputable def l12_1 (T : List FEnt) : Int × (List (Int × Int × Int)) × (List (Int × Int × Int × Int × Int × Int)) → Option ((Int × (List (Int × Int × Int)) × (List (Int × Int × Int × Int × Int × Int))) ⊕ ((List (Int × Int × Int)) × (List (Int × Int × Int × Int × Int × Int)))) := whileF (s12_1 T)
noncomputable def q12_1 (F36 : Int × Int × Int → Option (Bool)) (l12_2 : Int × Int × Bool × Bool × Bool × ((List (Int × Int × Int)) × (List (Int × Int × Int × Int × Int × Int))) × Int × Int × Int × Int × Int × Int → Option ((Int × ((List (Int × Int × Int)) × (List (Int × Int × Int × Int × Int × Int))) × Int × Int × Int × Int × Int × Int) ⊕ (Int × Bool × Bool × Bool × ((List (Int × Int × Int)) × (List (Int × Int × Int × Int × Int × Int))) × Int × Int × Int × Int × Int × Int))) (a0 : Int) (a1 : (List (Int × Int × Int)) × (List (Int × Int × Int × Int × Int × Int))) : Option ((Int × (List (Int × Int × Int)) × (List (Int × Int × Int × Int × Int × Int))) ⊕ ((Int × (List (Int × Int × Int)) × (List (Int × Int × Int × Int × Int × Int))) ⊕ ((List (Int × Int × Int)) × (List (Int × Int × Int × Int × Int × Int))))) :=
cond (decide (a0 < (↑(List.length a1.2) : Int))) (
chk (inR a0 (List.length a1.2)) (
(F36 ((ix a1.2 a0).1, (0 : Int), (99 : Int))).bind fun (r7 : Bool) => (
cond (!r7) (
some (Sum.inr (Sum.inl ((70 : Int), a1)))) (
(F36 ((ix a1.2 a0).2.1, (0 : Int), (8 : Int))).bind fun (r8 : Bool) => (
cond (!r8) (
some (Sum.inr (Sum.inl ((70 : Int), a1)))) (
(F36 ((ix a1.2 a0).2.2.1, (0 : Int), (ix a1.2 a0).2.2.2.1)).bind fun (r9 : Bool) => (
cond (!r9) (
some (Sum.inr (Sum.inl ((70 : Int), a1)))) (
cond (decide ((9 : Int) < (ix a1.2 a0).2.2.2.1)) (
some (Sum.inr (Sum.inl ((70 : Int), a1)))) (
(F36 ((ix a1.2 a0).2.2.2.2.1, (0 : Int), (ix a1.2 a0).2.2.2.2.2)).bind fun (r10 : Bool) => (
cond (!r10) (
some (Sum.inr (Sum.inl ((70 : Int), a1)))) (
cond (decide ((99 : Int) < (ix a1.2 a0).2.2.2.2.2)) (
some (Sum.inr (Sum.inl ((70 : Int), a1)))) (
(l12_2 (a0, (0 : Int), r8, r9, r10, a1, (ix a1.2 a0))).bind (fun (y11 : (Int × ((List (Int × Int × Int)) × (List (Int × Int × Int × Int × Int × Int))) × Int × Int × Int × Int × Int × Int) ⊕ (Int × Bool × Bool × Bool × ((List (Int × Int × Int)) × (List (Int × Int × Int × Int × Int × Int))) × Int × Int × Int × Int × Int × Int)) => Sum.elim (fun (y12 : Int × ((List (Int × Int × Int)) × (List (Int × Int × Int × Int × Int × Int))) × Int × Int × Int × Int × Int × Int) => (
some (Sum.inr (Sum.inl (y12.1, y12.2.1))))) (fun (y13 : Int × Bool × Bool × Bool × ((List (Int × Int × Int)) × (List (Int × Int × Int × Int × Int × Int))) × Int × Int × Int × Int × Int × Int) => (
chk (fits .i64 (y13.1 + (1 : Int))) (
some (Sum.inl ((y13.1 + (1 : Int)), y13.2.2.2.2.1))))) y11))))))))))))) (
some (Sum.inr (Sum.inr a1)))
theorem g12_1 (F36 : Int × Int × Int → Option (Bool)) (a0 : Int) (a1 : (List (Int × Int × Int)) × (List (Int × Int × Int × Int × Int × Int))) : s12_1 (T12 F36) (a0, a1) = q12_1 F36 (l12_2 (T12 F36)) a0 a1 := by kernel_rfl
noncomputable def p12_1 (a0 : Int) (a1 : (List (Int × Int × Int)) × (List (Int × Int × Int × Int × Int × Int))) : Option ((Int × (List (Int × Int × Int)) × (List (Int × Int × Int × Int × Int × Int))) ⊕ ((Int × (List (Int × Int × Int)) × (List (Int × Int × Int × Int × Int × Int))) ⊕ ((List (Int × Int × Int)) × (List (Int × Int × Int × Int × Int × Int))))) := q12_1 P36 L12_2 a0 a1
noncomputable def L12_1 : Int × (List (Int × Int × Int)) × (List (Int × Int × Int × Int × Int × Int)) → Option ((Int × (List (Int × Int × Int)) × (List (Int × Int × Int × Int × Int × Int))) ⊕ ((List (Int × Int × Int)) × (List (Int × Int × Int × Int × Int × Int)))) := whileF (fun x => p12_1 x.1 x.2)
theorem v12_1 : l12_1 (T12 P36) = L12_1 := congrArg whileF (funext fun x => (g12_1 P36 x.1 x.2).trans (show q12_1 P36 (l12_2 (T12 P36)) x.1 x.2 = q12_1 P36 L12_2 x.1 x.2 from by rw [v12_2]))
def c12 : DCode := (.seq (.reg [.op ⟨some 1, .box (.t 0), none⟩ none,
  .op ⟨some 2, .mov (.c (.int .i64 0)), none⟩ none]) (.seq (.seq (.reg [.op ⟨some 8, .fld (.t 1) 0, none⟩ none,
  .op ⟨some 9, .ld1 (.t 8) false, none⟩ none,
  .op ⟨some 10, .len (.t 9), none⟩ none,
  .op ⟨some 11, .bin true .gtr (.t 10) (.c (.int .i64 8)), none⟩ none,
  .op ⟨some 12, .mov (.t 11), none⟩ none,
  .op ⟨some 13, .fld (.t 1) 1, some (12, false)⟩ none,
  .op ⟨some 14, .ld1 (.t 13) false, some (12, false)⟩ none,
  .op ⟨some 15, .len (.t 14), some (12, false)⟩ none,
  .op ⟨some 16, .bin true .gtr (.t 15) (.c (.int .i64 6)), some (12, false)⟩ none,
  .op ⟨some 17, .pick (.t 12) (.c (.bool true)) (.t 16), none⟩ none]) (.cond (.t 17) (.seq (.reg [.op ⟨some 2, .mov (.c (.int .i64 70)), none⟩ none]) .ret) .skip)) (.seq (.seq (.reg [.op ⟨some 3, .mov (.c (.int .i64 0)), none⟩ none]) (.blk 0 (.loop h12_0 x12_0 b12_0))) (.seq (.seq (.reg [.op ⟨some 5, .mov (.c (.int .i64 0)), none⟩ none]) (.blk 2 (.loop h12_1 x12_1 b12_1))) (.seq (.reg [.op ⟨some 2, .mov (.c (.int .i64 0)), none⟩ none]) .ret)))))
theorem ok12 : L.Fn Try.prog 12 111 [(.t 2)] (erase c12) := L.Fn.of hmix Try.func12 [] (by kernel_rfl)
def sh12 : FSh := ⟨⟨[(.st (.pair (.sl (.pair (.int .i64) (.pair (.int .i64) (.int .i64)))) (.sl (.pair (.int .i64) (.pair (.int .i64) (.pair (.int .i64) (.pair (.int .i64) (.pair (.int .i64) (.int .i64)))))))))], []⟩, [(.pair (.sl (.pair (.int .i64) (.pair (.int .i64) (.int .i64)))) (.sl (.pair (.int .i64) (.pair (.int .i64) (.pair (.int .i64) (.pair (.int .i64) (.pair (.int .i64) (.int .i64))))))))], 0, ⟨⟨[(.v (.int .i64))], []⟩, [(.int .i64)], [], 0⟩, true⟩
noncomputable def q12 (F36 : Int × Int × Int → Option (Bool)) (l12_0 : Int × (List (Int × Int × Int)) × (List (Int × Int × Int × Int × Int × Int)) → Option ((Int × (List (Int × Int × Int)) × (List (Int × Int × Int × Int × Int × Int))) ⊕ ((List (Int × Int × Int)) × (List (Int × Int × Int × Int × Int × Int))))) (l12_1 : Int × (List (Int × Int × Int)) × (List (Int × Int × Int × Int × Int × Int)) → Option ((Int × (List (Int × Int × Int)) × (List (Int × Int × Int × Int × Int × Int))) ⊕ ((List (Int × Int × Int)) × (List (Int × Int × Int × Int × Int × Int))))) (a0 : (List (Int × Int × Int)) × (List (Int × Int × Int × Int × Int × Int))) : Option (Int) :=
cond (decide ((8 : Int) < (↑(List.length a0.1) : Int))) (
some (70 : Int)) (
cond (decide ((6 : Int) < (↑(List.length a0.2) : Int))) (
some (70 : Int)) (
(l12_0 ((0 : Int), a0)).bind (fun (y4 : (Int × (List (Int × Int × Int)) × (List (Int × Int × Int × Int × Int × Int))) ⊕ ((List (Int × Int × Int)) × (List (Int × Int × Int × Int × Int × Int)))) => Sum.elim (fun (y5 : Int × (List (Int × Int × Int)) × (List (Int × Int × Int × Int × Int × Int))) => (
some y5.1)) (fun (y6 : (List (Int × Int × Int)) × (List (Int × Int × Int × Int × Int × Int))) => (
(l12_1 ((0 : Int), y6)).bind (fun (y14 : (Int × (List (Int × Int × Int)) × (List (Int × Int × Int × Int × Int × Int))) ⊕ ((List (Int × Int × Int)) × (List (Int × Int × Int × Int × Int × Int)))) => Sum.elim (fun (y15 : Int × (List (Int × Int × Int)) × (List (Int × Int × Int × Int × Int × Int))) => (
some y15.1)) (fun (y16 : (List (Int × Int × Int)) × (List (Int × Int × Int × Int × Int × Int))) => (
some (0 : Int))) y14))) y4)))
theorem g12 (F36 : Int × Int × Int → Option (Bool)) (a0 : (List (Int × Int × Int)) × (List (Int × Int × Int × Int × Int × Int))) : dxf (T12 F36) sh12 [(.t 2)] c12 a0 = q12 F36 (l12_0 (T12 F36)) (l12_1 (T12 F36)) a0 := by kernel_rfl
noncomputable def p12 (a0 : (List (Int × Int × Int)) × (List (Int × Int × Int × Int × Int × Int))) : Option (Int) := q12 P36 L12_0 L12_1 a0
noncomputable def P12 : (List (Int × Int × Int)) × (List (Int × Int × Int × Int × Int × Int)) → Option (Int) := fun x => p12 x
theorem v12 : dxf (T12 P36) sh12 [(.t 2)] c12 = P12 := funext fun x => (g12 P36 x).trans (show q12 P36 (l12_0 (T12 P36)) (l12_1 (T12 P36)) x = q12 P36 L12_0 L12_1 x from by rw [v12_0, v12_1])
theorem d12 : DC Try.prog 12 sh12 P12 := DC_eq v12 (dxf_sound (sh := sh12) t12 ok12 (by kernel_rfl))
/-! bijou/bijouref07.Fits -/
noncomputable def T55 (F36 : Int × Int × Int → Option (Bool)) : List FEnt := [⟨36, sh36, F36⟩]
theorem t55 : DTblOK Try.prog (T55 P36) := (DTbl_cons' (f := 36) (sh := sh36) (F := P36) d36 (by kernel_rfl) DTbl_nil)
def c55 : DCode := (.seq (.reg [.op ⟨some 2, .box (.t 0), none⟩ none,
  .op ⟨some 3, .box (.t 1), none⟩ none,
  .op ⟨some 4, .mov (.c (.bool false)), none⟩ none]) (.seq (.reg [.op ⟨some 5, .fld (.t 3) 1, none⟩ none,
  .op ⟨some 6, .ld1 (.t 5) false, none⟩ none,
  .op ⟨some 7, .fld (.t 2) 2, none⟩ none,
  .op ⟨some 8, .fld (.t 7) 0, none⟩ none,
  .op ⟨some 9, .ld1 (.t 8) false, none⟩ none,
  .op ⟨some 10, .fld (.t 2) 2, none⟩ none,
  .op ⟨some 11, .fld (.t 10) 1, none⟩ none,
  .op ⟨some 12, .ld1 (.t 11) false, none⟩ none,
  .op ⟨some 13, .xcall 36 [(.t 6), (.t 9), (.t 12)], none⟩ none,
  .op ⟨some 14, .mov (.t 13), none⟩ none,
  .op ⟨some 15, .fld (.t 3) 0, some (14, true)⟩ none,
  .op ⟨some 16, .ld1 (.t 15) false, some (14, true)⟩ none,
  .op ⟨some 17, .fld (.t 2) 4, some (14, true)⟩ none,
  .op ⟨some 18, .ld1 (.t 17) false, some (14, true)⟩ none,
  .op ⟨some 19, .fld (.t 2) 5, some (14, true)⟩ none,
  .op ⟨some 20, .ld1 (.t 19) false, some (14, true)⟩ none,
  .op ⟨some 21, .xcall 36 [(.t 16), (.t 18), (.t 20)], some (14, true)⟩ none,
  .op ⟨some 22, .pick (.t 14) (.t 21) (.c (.bool false)), none⟩ none,
  .op ⟨some 4, .mov (.t 22), none⟩ none]) .ret))
theorem ok55 : L.Fn Try.prog 55 23 [(.t 4)] (erase c55) := L.Fn.of hmix Try.func55 [] (by kernel_rfl)
def sh55 : FSh := ⟨⟨[(.st (.pair (.int .i64) (.pair (.int .i64) (.pair (.int .i64) (.pair (.int .i64) (.pair (.int .i64) (.int .i64))))))), (.st (.pair (.int .i64) (.pair (.int .i64) (.int .i64))))], []⟩, [(.pair (.int .i64) (.pair (.int .i64) (.pair (.int .i64) (.pair (.int .i64) (.pair (.int .i64) (.int .i64)))))), (.pair (.int .i64) (.pair (.int .i64) (.int .i64)))], 0, ⟨⟨[(.v .bool)], []⟩, [.bool], [], 0⟩, true⟩
noncomputable def q55 (F36 : Int × Int × Int → Option (Bool)) (a0 : Int × Int × Int × Int × Int × Int) (a1 : Int × Int × Int) : Option (Bool) :=
(F36 (a1.2.1, a0.2.2.1, a0.2.2.2.1)).bind fun (r1 : Bool) => (
cond r1 (
(F36 (a1.1, a0.2.2.2.2.1, a0.2.2.2.2.2)).bind fun (r2 : Bool) => (
some r2)) (
some false))
theorem g55 (F36 : Int × Int × Int → Option (Bool)) (a0 : Int × Int × Int × Int × Int × Int) (a1 : Int × Int × Int) : dxf (T55 F36) sh55 [(.t 4)] c55 (a0, a1) = q55 F36 a0 a1 := by kernel_rfl
noncomputable def p55 (a0 : Int × Int × Int × Int × Int × Int) (a1 : Int × Int × Int) : Option (Bool) := q55 P36 a0 a1
noncomputable def P55 : (Int × Int × Int × Int × Int × Int) × Int × Int × Int → Option (Bool) := fun x => p55 x.1 x.2
theorem v55 : dxf (T55 P36) sh55 [(.t 4)] c55 = P55 := funext fun x => (g55 P36 x.1 x.2).trans (show q55 P36 x.1 x.2 = q55 P36 x.1 x.2 from rfl)
theorem d55 : DC Try.prog 55 sh55 P55 := DC_eq v55 (dxf_sound (sh := sh55) t55 ok55 (by kernel_rfl))
/-! bijou/bijouref07.IsPlan -/
noncomputable def T30 (F36 : Int × Int × Int → Option (Bool)) (F55 : (Int × Int × Int × Int × Int × Int) × Int × Int × Int → Option (Bool)) : List FEnt := [⟨36, sh36, F36⟩, ⟨55, sh55, F55⟩]
theorem t30 : DTblOK Try.prog (T30 P36 P55) := (DTbl_cons' (f := 36) (sh := sh36) (F := P36) d36 (by kernel_rfl) (DTbl_cons' (f := 55) (sh := sh55) (F := P55) d55 (by kernel_rfl) DTbl_nil))
def b30_1 : DCode := (.seq (.seq (.reg [.op ⟨some 33, .mov (.t 7), none⟩ none,
  .op ⟨some 34, .mov (.t 6), none⟩ none,
  .op ⟨some 35, .len (.t 34), none⟩ none,
  .op ⟨some 36, .bin true .lss (.t 33) (.t 35), none⟩ none]) (.cond (.t 36) .skip (.exit 2))) (.seq (.blk 3 (.seq (.drw [] [(⟨some 39, .mov (.t 6), none⟩, none),
  (⟨some 40, .mov (.t 7), none⟩, none),
  (⟨some 41, .idx (.t 39) (.t 40) 1, none⟩, none),
  (⟨some 42, .ld1 (.t 41) false, none⟩, none),
  (⟨some 43, .fld (.t 2) 1, none⟩, none),
  (⟨some 44, .ld1 (.t 43) false, none⟩, none),
  (⟨some 45, .len (.t 44), none⟩, none),
  (⟨some 46, .bin true .sub (.t 45) (.c (.int .i64 1)), none⟩, none),
  (⟨some 47, .xcall 36 [(.t 42), (.c (.int .i64 0)), (.t 46)], none⟩, none),
  (⟨some 48, .unot (.t 47), none⟩, none),
  (⟨some 49, .mov (.t 48), none⟩, none),
  (⟨some 50, .mov (.t 7), some (49, false)⟩, none),
  (⟨some 51, .bin true .gtr (.t 50) (.c (.int .i64 0)), some (49, false)⟩, none),
  (⟨some 52, .mov (.t 51), some (49, false)⟩, none),
  (⟨some 53, .mov (.t 6), some (52, true)⟩, none),
  (⟨some 54, .mov (.t 7), some (52, true)⟩, none),
  (⟨some 55, .idx (.t 53) (.t 54) 1, some (52, true)⟩, none),
  (⟨some 56, .ld1 (.t 55) false, some (52, true)⟩, none),
  (⟨some 57, .mov (.t 6), some (52, true)⟩, none),
  (⟨some 58, .mov (.t 7), some (52, true)⟩, none),
  (⟨some 59, .bin true .sub (.t 58) (.c (.int .i64 1)), some (52, true)⟩, none),
  (⟨some 60, .idx (.t 57) (.t 59) 1, some (52, true)⟩, none),
  (⟨some 61, .ld1 (.t 60) false, some (52, true)⟩, none),
  (⟨some 62, .bin true .leq (.t 56) (.t 61), some (52, true)⟩, none),
  (⟨some 63, .pick (.t 52) (.t 62) (.c (.bool false)), some (49, false)⟩, none),
  (⟨some 64, .pick (.t 49) (.c (.bool true)) (.t 63), none⟩, none),
  (⟨some 65, .mov (.t 64), none⟩, none),
  (⟨some 66, .fld (.t 2) 1, some (65, false)⟩, none),
  (⟨some 67, .ld1 (.t 66) false, some (65, false)⟩, none),
  (⟨some 68, .mov (.t 6), some (65, false)⟩, none),
  (⟨some 69, .mov (.t 7), some (65, false)⟩, none),
  (⟨some 70, .idx (.t 68) (.t 69) 1, some (65, false)⟩, none),
  (⟨some 71, .ld1 (.t 70) false, some (65, false)⟩, none),
  (⟨some 72, .idx (.t 67) (.t 71) 6, some (65, false)⟩, none),
  (⟨some 73, .ldn (.t 72) 6 false, some (65, false)⟩, none),
  (⟨some 74, .fld (.t 2) 0, some (65, false)⟩, none),
  (⟨some 75, .ld1 (.t 74) false, some (65, false)⟩, none),
  (⟨some 76, .mov (.t 5), some (65, false)⟩, none),
  (⟨some 77, .idx (.t 75) (.t 76) 3, some (65, false)⟩, none),
  (⟨some 78, .ldn (.t 77) 3 false, some (65, false)⟩, none),
  (⟨some 79, .xcall 55 [(.t 73), (.t 78)], some (65, false)⟩, none),
  (⟨some 80, .unot (.t 79), some (65, false)⟩, none),
  (⟨some 81, .pick (.t 65) (.c (.bool true)) (.t 80), none⟩, none)]) (.cond (.t 81) (.seq (.reg [.op ⟨some 4, .mov (.c (.bool false)), none⟩ none]) .ret) .skip))) (.reg [.op ⟨some 37, .mov (.t 7), none⟩ none,
  .op ⟨some 38, .bin true .add (.t 37) (.c (.int .i64 1)), none⟩ none,
  .op ⟨some 7, .mov (.t 38), none⟩ none])))
def h30_1 : LSh := ⟨[1, 2, 5, 6, 7], ⟨[(.v (.sl (.sl (.int .i64)))), (.ptr 0 0), (.v (.int .i64)), (.v (.sl (.int .i64))), (.v (.int .i64))], [(0, (.boxT (.pair (.sl (.pair (.int .i64) (.pair (.int .i64) (.int .i64)))) (.sl (.pair (.int .i64) (.pair (.int .i64) (.pair (.int .i64) (.pair (.int .i64) (.pair (.int .i64) (.int .i64))))))))))]⟩, [(.sl (.sl (.int .i64))), (.int .i64), (.sl (.int .i64)), (.int .i64), (.pair (.sl (.pair (.int .i64) (.pair (.int .i64) (.int .i64)))) (.sl (.pair (.int .i64) (.pair (.int .i64) (.pair (.int .i64) (.pair (.int .i64) (.pair (.int .i64) (.int .i64))))))))], 1, [0]⟩
def x30_1 : List XSh := [⟨.ret, [4], ⟨⟨[(.v .bool)], [(0, (.boxT (.pair (.sl (.pair (.int .i64) (.pair (.int .i64) (.int .i64)))) (.sl (.pair (.int .i64) (.pair (.int .i64) (.pair (.int .i64) (.pair (.int .i64) (.pair (.int .i64) (.int .i64))))))))))]⟩, [.bool, (.pair (.sl (.pair (.int .i64) (.pair (.int .i64) (.int .i64)))) (.sl (.pair (.int .i64) (.pair (.int .i64) (.pair (.int .i64) (.pair (.int .i64) (.pair (.int .i64) (.int .i64))))))))], [0], 1⟩⟩, ⟨(.exit 2), [1, 2, 5], ⟨⟨[(.v (.sl (.sl (.int .i64)))), (.ptr 0 0), (.v (.int .i64))], [(0, (.boxT (.pair (.sl (.pair (.int .i64) (.pair (.int .i64) (.int .i64)))) (.sl (.pair (.int .i64) (.pair (.int .i64) (.pair (.int .i64) (.pair (.int .i64) (.pair (.int .i64) (.int .i64))))))))))]⟩, [(.sl (.sl (.int .i64))), (.int .i64), (.pair (.sl (.pair (.int .i64) (.pair (.int .i64) (.int .i64)))) (.sl (.pair (.int .i64) (.pair (.int .i64) (.pair (.int .i64) (.pair (.int .i64) (.pair (.int .i64) (.int .i64))))))))], [0], 1⟩⟩]
noncomputable def s30_1 (T : List FEnt) : (List (List Int)) × Int × (List Int) × Int × (List (Int × Int × Int)) × (List (Int × Int × Int × Int × Int × Int)) → Option (((List (List Int)) × Int × (List Int) × Int × (List (Int × Int × Int)) × (List (Int × Int × Int × Int × Int × Int))) ⊕ ((Bool × (List (Int × Int × Int)) × (List (Int × Int × Int × Int × Int × Int))) ⊕ ((List (List Int)) × Int × (List (Int × Int × Int)) × (List (Int × Int × Int × Int × Int × Int))))) := dstep (xs := x30_1) h30_1 (dxc T b30_1)
noncomputable def l30_1 (T : List FEnt) : (List (List Int)) × Int × (List Int) × Int × (List (Int × Int × Int)) × (List (Int × Int × Int × Int × Int × Int)) → Option ((Bool × (List (Int × Int × Int)) × (List (Int × Int × Int × Int × Int × Int))) ⊕ ((List (List Int)) × Int × (List (Int × Int × Int)) × (List (Int × Int × Int × Int × Int × Int)))) := whileF (s30_1 T)
noncomputable def q30_1 (F36 : Int × Int × Int → Option (Bool)) (F55 : (Int × Int × Int × Int × Int × Int) × Int × Int × Int → Option (Bool)) (a0 : List (List Int)) (a1 : Int) (a2 : List Int) (a3 : Int) (a4 : (List (Int × Int × Int)) × (List (Int × Int × Int × Int × Int × Int))) : Option (((List (List Int)) × Int × (List Int) × Int × (List (Int × Int × Int)) × (List (Int × Int × Int × Int × Int × Int))) ⊕ ((Bool × (List (Int × Int × Int)) × (List (Int × Int × Int × Int × Int × Int))) ⊕ ((List (List Int)) × Int × (List (Int × Int × Int)) × (List (Int × Int × Int × Int × Int × Int))))) :=
cond (decide (a3 < (↑(List.length a2) : Int))) (
chk (inR a3 (List.length a2)) (
chk (fits .i64 ((↑(List.length a4.2) : Int) - (1 : Int))) (
(F36 ((ix a2 a3), (0 : Int), ((↑(List.length a4.2) : Int) - (1 : Int)))).bind fun (r1 : Bool) => (
cond (!r1) (
some (Sum.inr (Sum.inl (false, a4)))) (
cond (decide ((0 : Int) < a3)) (
chk (inR a3 (List.length a2)) (
chk (fits .i64 (a3 - (1 : Int))) (
chk (inR (a3 - (1 : Int)) (List.length a2)) (
cond (decide ((ix a2 a3) ≤ (ix a2 (a3 - (1 : Int))))) (
some (Sum.inr (Sum.inl (false, a4)))) (
chk (inR a3 (List.length a2)) (
chk (inR (ix a2 a3) (List.length a4.2)) (
chk (inR a1 (List.length a4.1)) (
(F55 ((ix a4.2 (ix a2 a3)), (ix a4.1 a1))).bind fun (r2 : Bool) => (
cond (!r2) (
some (Sum.inr (Sum.inl (false, a4)))) (
chk (fits .i64 (a3 + (1 : Int))) (
some (Sum.inl (a0, a1, a2, (a3 + (1 : Int)), a4))))))))))))) (
chk (inR a3 (List.length a2)) (
chk (inR (ix a2 a3) (List.length a4.2)) (
chk (inR a1 (List.length a4.1)) (
(F55 ((ix a4.2 (ix a2 a3)), (ix a4.1 a1))).bind fun (r3 : Bool) => (
cond (!r3) (
some (Sum.inr (Sum.inl (false, a4)))) (
chk (fits .i64 (a3 + (1 : Int))) (
some (Sum.inl (a0, a1, a2, (a3 + (1 : Int)), a4)))))))))))))) (
some (Sum.inr (Sum.inr (a0, a1, a4))))
theorem g30_1 (F36 : Int × Int × Int → Option (Bool)) (F55 : (Int × Int × Int × Int × Int × Int) × Int × Int × Int → Option (Bool)) (a0 : List (List Int)) (a1 : Int) (a2 : List Int) (a3 : Int) (a4 : (List (Int × Int × Int)) × (List (Int × Int × Int × Int × Int × Int))) : s30_1 (T30 F36 F55) (a0, a1, a2, a3, a4) = q30_1 F36 F55 a0 a1 a2 a3 a4 := by kernel_rfl
noncomputable def p30_1 (a0 : List (List Int)) (a1 : Int) (a2 : List Int) (a3 : Int) (a4 : (List (Int × Int × Int)) × (List (Int × Int × Int × Int × Int × Int))) : Option (((List (List Int)) × Int × (List Int) × Int × (List (Int × Int × Int)) × (List (Int × Int × Int × Int × Int × Int))) ⊕ ((Bool × (List (Int × Int × Int)) × (List (Int × Int × Int × Int × Int × Int))) ⊕ ((List (List Int)) × Int × (List (Int × Int × Int)) × (List (Int × Int × Int × Int × Int × Int))))) := q30_1 P36 P55 a0 a1 a2 a3 a4
noncomputable def L30_1 : (List (List Int)) × Int × (List Int) × Int × (List (Int × Int × Int)) × (List (Int × Int × Int × Int × Int × Int)) → Option ((Bool × (List (Int × Int × Int)) × (List (Int × Int × Int × Int × Int × Int))) ⊕ ((List (List Int)) × Int × (List (Int × Int × Int)) × (List (Int × Int × Int × Int × Int × Int)))) := whileF (fun x => p30_1 x.1 x.2.1 x.2.2.1 x.2.2.2.1 x.2.2.2.2)
theorem v30_1 : l30_1 (T30 P36 P55) = L30_1 := congrArg whileF (funext fun x => (g30_1 P36 P55 x.1 x.2.1 x.2.2.1 x.2.2.2.1 x.2.2.2.2).trans (show q30_1 P36 P55 x.1 x.2.1 x.2.2.1 x.2.2.2.1 x.2.2.2.2 = q30_1 P36 P55 x.1 x.2.1 x.2.2.1 x.2.2.2.1 x.2.2.2.2 from rfl))
def b30_0 : DCode := (.seq (.seq (.reg [.op ⟨some 14, .mov (.t 5), none⟩ none,
  .op ⟨some 15, .mov (.t 1), none⟩ none,
  .op ⟨some 16, .len (.t 15), none⟩ none,
  .op ⟨some 17, .bin true .lss (.t 14) (.t 16), none⟩ none]) (.cond (.t 17) .skip (.exit 0))) (.seq (.blk 1 (.seq (.reg [.op ⟨some 20, .mov (.t 1), none⟩ none,
  .op ⟨some 21, .mov (.t 5), none⟩ none,
  .op ⟨some 22, .idx (.t 20) (.t 21) 1, none⟩ none,
  .op ⟨some 23, .ld1 (.t 22) false, none⟩ none,
  .op ⟨some 6, .mov (.t 23), none⟩ none]) (.seq (.seq (.reg [.op ⟨some 24, .mov (.t 6), none⟩ none,
  .op ⟨some 25, .len (.t 24), none⟩ none,
  .op ⟨some 26, .fld (.t 2) 0, none⟩ none,
  .op ⟨some 27, .ld1 (.t 26) false, none⟩ none,
  .op ⟨some 28, .mov (.t 5), none⟩ none,
  .op ⟨some 29, .idx (.t 27) (.t 28) 3, none⟩ none,
  .op ⟨some 30, .fld (.t 29) 2, none⟩ none,
  .op ⟨some 31, .ld1 (.t 30) false, none⟩ none,
  .op ⟨some 32, .bin true .gtr (.t 25) (.t 31), none⟩ none]) (.cond (.t 32) (.seq (.reg [.op ⟨some 4, .mov (.c (.bool false)), none⟩ none]) .ret) .skip)) (.seq (.reg [.op ⟨some 7, .mov (.c (.int .i64 0)), none⟩ none]) (.blk 2 (.loop h30_1 x30_1 b30_1)))))) (.reg [.op ⟨some 18, .mov (.t 5), none⟩ none,
  .op ⟨some 19, .bin true .add (.t 18) (.c (.int .i64 1)), none⟩ none,
  .op ⟨some 5, .mov (.t 19), none⟩ none])))
def h30_0 : LSh := ⟨[1, 2, 5], ⟨[(.v (.sl (.sl (.int .i64)))), (.ptr 0 0), (.v (.int .i64))], [(0, (.boxT (.pair (.sl (.pair (.int .i64) (.pair (.int .i64) (.int .i64)))) (.sl (.pair (.int .i64) (.pair (.int .i64) (.pair (.int .i64) (.pair (.int .i64) (.pair (.int .i64) (.int .i64))))))))))]⟩, [(.sl (.sl (.int .i64))), (.int .i64), (.pair (.sl (.pair (.int .i64) (.pair (.int .i64) (.int .i64)))) (.sl (.pair (.int .i64) (.pair (.int .i64) (.pair (.int .i64) (.pair (.int .i64) (.pair (.int .i64) (.int .i64))))))))], 1, [0]⟩
def x30_0 : List XSh := [⟨.ret, [4], ⟨⟨[(.v .bool)], [(0, (.boxT (.pair (.sl (.pair (.int .i64) (.pair (.int .i64) (.int .i64)))) (.sl (.pair (.int .i64) (.pair (.int .i64) (.pair (.int .i64) (.pair (.int .i64) (.pair (.int .i64) (.int .i64))))))))))]⟩, [.bool, (.pair (.sl (.pair (.int .i64) (.pair (.int .i64) (.int .i64)))) (.sl (.pair (.int .i64) (.pair (.int .i64) (.pair (.int .i64) (.pair (.int .i64) (.pair (.int .i64) (.int .i64))))))))], [0], 1⟩⟩, ⟨(.exit 0), [], ⟨⟨[], [(0, (.boxT (.pair (.sl (.pair (.int .i64) (.pair (.int .i64) (.int .i64)))) (.sl (.pair (.int .i64) (.pair (.int .i64) (.pair (.int .i64) (.pair (.int .i64) (.pair (.int .i64) (.int .i64))))))))))]⟩, [(.pair (.sl (.pair (.int .i64) (.pair (.int .i64) (.int .i64)))) (.sl (.pair (.int .i64) (.pair (.int .i64) (.pair (.int .i64) (.pair (.int .i64) (.pair (.int .i64) (.int .i64))))))))], [0], 1⟩⟩]
noncomputable def s30_0 (T : List FEnt) : (List (List Int)) × Int × (List (Int × Int × Int)) × (List (Int × Int × Int × Int × Int × Int)) → Option (((List (List Int)) × Int × (List (Int × Int × Int)) × (List (Int × Int × Int × Int × Int × Int))) ⊕ ((Bool × (List (Int × Int × Int)) × (List (Int × Int × Int × Int × Int × Int))) ⊕ ((List (Int × Int × Int)) × (List (Int × Int × Int × Int × Int × Int))))) := dstep (xs := x30_0) h30_0 (dxc T b30_0)
noncomputable def l30_0 (T : List FEnt) : (List (List Int)) × Int × (List (Int × Int × Int)) × (List (Int × Int × Int × Int × Int × Int)) → Option ((Bool × (List (Int × Int × Int)) × (List (Int × Int × Int × Int × Int × Int))) ⊕ ((List (Int × Int × Int)) × (List (Int × Int × Int × Int × Int × Int)))) := whileF (s30_0 T)
noncomputable def q30_0 (F36 : Int × Int × Int → Option (Bool)) (F55 : (Int × Int × Int × Int × Int × Int) × Int × Int × Int → Option (Bool)) (l30_1 : (List (List Int)) × Int × (List Int) × Int × (List (Int × Int × Int)) × (List (Int × Int × Int × Int × Int × Int)) → Option ((Bool × (List (Int × Int × Int)) × (List (Int × Int × Int × Int × Int × Int))) ⊕ ((List (List Int)) × Int × (List (Int × Int × Int)) × (List (Int × Int × Int × Int × Int × Int))))) (a0 : List (List Int)) (a1 : Int) (a2 : (List (Int × Int × Int)) × (List (Int × Int × Int × Int × Int × Int))) : Option (((List (List Int)) × Int × (List (Int × Int × Int)) × (List (Int × Int × Int × Int × Int × Int))) ⊕ ((Bool × (List (Int × Int × Int)) × (List (Int × Int × Int × Int × Int × Int))) ⊕ ((List (Int × Int × Int)) × (List (Int × Int × Int × Int × Int × Int))))) :=
cond (decide (a1 < (↑(List.length a0) : Int))) (
chk (inR a1 (List.length a0)) (
chk (inR a1 (List.length a2.1)) (
cond (decide ((ix a2.1 a1).2.2 < (↑(List.length (ix a0 a1)) : Int))) (
some (Sum.inr (Sum.inl (false, a2)))) (
(l30_1 (a0, a1, (ix a0 a1), (0 : Int), a2)).bind (fun (y4 : (Bool × (List (Int × Int × Int)) × (List (Int × Int × Int × Int × Int × Int))) ⊕ ((List (List Int)) × Int × (List (Int × Int × Int)) × (List (Int × Int × Int × Int × Int × Int)))) => Sum.elim (fun (y5 : Bool × (List (Int × Int × Int)) × (List (Int × Int × Int × Int × Int × Int))) => (
some (Sum.inr (Sum.inl (y5.1, y5.2))))) (fun (y6 : (List (List Int)) × Int × (List (Int × Int × Int)) × (List (Int × Int × Int × Int × Int × Int))) => (
chk (fits .i64 (y6.2.1 + (1 : Int))) (
some (Sum.inl (y6.1, (y6.2.1 + (1 : Int)), y6.2.2))))) y4))))) (
some (Sum.inr (Sum.inr a2)))
theorem g30_0 (F36 : Int × Int × Int → Option (Bool)) (F55 : (Int × Int × Int × Int × Int × Int) × Int × Int × Int → Option (Bool)) (a0 : List (List Int)) (a1 : Int) (a2 : (List (Int × Int × Int)) × (List (Int × Int × Int × Int × Int × Int))) : s30_0 (T30 F36 F55) (a0, a1, a2) = q30_0 F36 F55 (l30_1 (T30 F36 F55)) a0 a1 a2 := by kernel_rfl
noncomputable def p30_0 (a0 : List (List Int)) (a1 : Int) (a2 : (List (Int × Int × Int)) × (List (Int × Int × Int × Int × Int × Int))) : Option (((List (List Int)) × Int × (List (Int × Int × Int)) × (List (Int × Int × Int × Int × Int × Int))) ⊕ ((Bool × (List (Int × Int × Int)) × (List (Int × Int × Int × Int × Int × Int))) ⊕ ((List (Int × Int × Int)) × (List (Int × Int × Int × Int × Int × Int))))) := q30_0 P36 P55 L30_1 a0 a1 a2
noncomputable def L30_0 : (List (List Int)) × Int × (List (Int × Int × Int)) × (List (Int × Int × Int × Int × Int × Int)) → Option ((Bool × (List (Int × Int × Int)) × (List (Int × Int × Int × Int × Int × Int))) ⊕ ((List (Int × Int × Int)) × (List (Int × Int × Int × Int × Int × Int)))) := whileF (fun x => p30_0 x.1 x.2.1 x.2.2)
theorem v30_0 : l30_0 (T30 P36 P55) = L30_0 := congrArg whileF (funext fun x => (g30_0 P36 P55 x.1 x.2.1 x.2.2).trans (show q30_0 P36 P55 (l30_1 (T30 P36 P55)) x.1 x.2.1 x.2.2 = q30_0 P36 P55 L30_1 x.1 x.2.1 x.2.2 from by rw [v30_1]))
def c30 : DCode := (.seq (.reg [.op ⟨some 2, .box (.t 0), none⟩ none,
  .op ⟨some 4, .mov (.c (.bool false)), none⟩ none]) (.seq (.seq (.reg [.op ⟨some 8, .mov (.t 1), none⟩ none,
  .op ⟨some 9, .len (.t 8), none⟩ none,
  .op ⟨some 10, .fld (.t 2) 0, none⟩ none,
  .op ⟨some 11, .ld1 (.t 10) false, none⟩ none,
  .op ⟨some 12, .len (.t 11), none⟩ none,
  .op ⟨some 13, .bin true .neq (.t 9) (.t 12), none⟩ none]) (.cond (.t 13) (.seq (.reg [.op ⟨some 4, .mov (.c (.bool false)), none⟩ none]) .ret) .skip)) (.seq (.seq (.reg [.op ⟨some 5, .mov (.c (.int .i64 0)), none⟩ none]) (.blk 0 (.loop h30_0 x30_0 b30_0))) (.seq (.reg [.op ⟨some 4, .mov (.c (.bool true)), none⟩ none]) .ret))))
theorem ok30 : L.Fn Try.prog 30 82 [(.t 4)] (erase c30) := L.Fn.of hmix Try.func30 [] (by kernel_rfl)
def sh30 : FSh := ⟨⟨[(.st (.pair (.sl (.pair (.int .i64) (.pair (.int .i64) (.int .i64)))) (.sl (.pair (.int .i64) (.pair (.int .i64) (.pair (.int .i64) (.pair (.int .i64) (.pair (.int .i64) (.int .i64))))))))), (.v (.sl (.sl (.int .i64))))], []⟩, [(.pair (.sl (.pair (.int .i64) (.pair (.int .i64) (.int .i64)))) (.sl (.pair (.int .i64) (.pair (.int .i64) (.pair (.int .i64) (.pair (.int .i64) (.pair (.int .i64) (.int .i64)))))))), (.sl (.sl (.int .i64)))], 0, ⟨⟨[(.v .bool)], []⟩, [.bool], [], 0⟩, true⟩
noncomputable def q30 (F36 : Int × Int × Int → Option (Bool)) (F55 : (Int × Int × Int × Int × Int × Int) × Int × Int × Int → Option (Bool)) (l30_0 : (List (List Int)) × Int × (List (Int × Int × Int)) × (List (Int × Int × Int × Int × Int × Int)) → Option ((Bool × (List (Int × Int × Int)) × (List (Int × Int × Int × Int × Int × Int))) ⊕ ((List (Int × Int × Int)) × (List (Int × Int × Int × Int × Int × Int))))) (a0 : (List (Int × Int × Int)) × (List (Int × Int × Int × Int × Int × Int))) (a1 : List (List Int)) : Option (Bool) :=
cond (!decide ((↑(List.length a1) : Int) = (↑(List.length a0.1) : Int))) (
some false) (
(l30_0 (a1, (0 : Int), a0)).bind (fun (y7 : (Bool × (List (Int × Int × Int)) × (List (Int × Int × Int × Int × Int × Int))) ⊕ ((List (Int × Int × Int)) × (List (Int × Int × Int × Int × Int × Int)))) => Sum.elim (fun (y8 : Bool × (List (Int × Int × Int)) × (List (Int × Int × Int × Int × Int × Int))) => (
some y8.1)) (fun (y9 : (List (Int × Int × Int)) × (List (Int × Int × Int × Int × Int × Int))) => (
some true)) y7))
theorem g30 (F36 : Int × Int × Int → Option (Bool)) (F55 : (Int × Int × Int × Int × Int × Int) × Int × Int × Int → Option (Bool)) (a0 : (List (Int × Int × Int)) × (List (Int × Int × Int × Int × Int × Int))) (a1 : List (List Int)) : dxf (T30 F36 F55) sh30 [(.t 4)] c30 (a0, a1) = q30 F36 F55 (l30_0 (T30 F36 F55)) a0 a1 := by kernel_rfl
noncomputable def p30 (a0 : (List (Int × Int × Int)) × (List (Int × Int × Int × Int × Int × Int))) (a1 : List (List Int)) : Option (Bool) := q30 P36 P55 L30_0 a0 a1
noncomputable def P30 : ((List (Int × Int × Int)) × (List (Int × Int × Int × Int × Int × Int))) × (List (List Int)) → Option (Bool) := fun x => p30 x.1 x.2
theorem v30 : dxf (T30 P36 P55) sh30 [(.t 4)] c30 = P30 := funext fun x => (g30 P36 P55 x.1 x.2).trans (show q30 P36 P55 (l30_0 (T30 P36 P55)) x.1 x.2 = q30 P36 P55 L30_0 x.1 x.2 from by rw [v30_0])
theorem d30 : DC Try.prog 30 sh30 P30 := DC_eq v30 (dxf_sound (sh := sh30) t30 ok30 (by kernel_rfl))
/-! bijou/bijouref07.counts -/
noncomputable def T39 : List FEnt := []
theorem t39 : DTblOK Try.prog T39 := DTbl_nil
def b39_1 : DCode := (.seq (.seq (.reg [.op ⟨some 21, .mov (.t 8), none⟩ none,
  .op ⟨some 22, .mov (.t 1), none⟩ none,
  .op ⟨some 23, .mov (.t 7), none⟩ none,
  .op ⟨some 24, .idx (.t 22) (.t 23) 1, none⟩ none,
  .op ⟨some 25, .ld1 (.t 24) false, none⟩ none,
  .op ⟨some 26, .len (.t 25), none⟩ none,
  .op ⟨some 27, .bin true .lss (.t 21) (.t 26), none⟩ none]) (.cond (.t 27) .skip (.exit 2))) (.seq (.blk 3 (.reg [.op ⟨some 30, .mov (.t 6), none⟩ none,
  .op ⟨some 31, .mov (.t 1), none⟩ none,
  .op ⟨some 32, .mov (.t 7), none⟩ none,
  .op ⟨some 33, .idx (.t 31) (.t 32) 1, none⟩ none,
  .op ⟨some 34, .ld1 (.t 33) false, none⟩ none,
  .op ⟨some 35, .mov (.t 8), none⟩ none,
  .op ⟨some 36, .idx (.t 34) (.t 35) 1, none⟩ none,
  .op ⟨some 37, .ld1 (.t 36) false, none⟩ none,
  .op ⟨some 38, .idx (.t 30) (.t 37) 1, none⟩ none,
  .op ⟨some 39, .ld1 (.t 38) false, none⟩ none,
  .op ⟨some 40, .bin true .add (.t 39) (.c (.int .i64 1)), none⟩ none,
  .op ⟨some 41, .idx (.t 30) (.t 37) 1, none⟩ none,
  .op ⟨none, .sto (.t 41) (.t 40) 1, none⟩ none])) (.reg [.op ⟨some 28, .mov (.t 8), none⟩ none,
  .op ⟨some 29, .bin true .add (.t 28) (.c (.int .i64 1)), none⟩ none,
  .op ⟨some 8, .mov (.t 29), none⟩ none])))
def h39_1 : LSh := ⟨[1, 2, 6, 7, 8], ⟨[(.v (.sl (.sl (.int .i64)))), (.ptr 0 0), (.slc 1), (.v (.int .i64)), (.v (.int .i64))], [(0, (.boxT (.pair (.sl (.pair (.int .i64) (.pair (.int .i64) (.int .i64)))) (.sl (.pair (.int .i64) (.pair (.int .i64) (.pair (.int .i64) (.pair (.int .i64) (.pair (.int .i64) (.int .i64)))))))))), (1, (.row 3 (.int .i64)))]⟩, [(.sl (.sl (.int .i64))), (.int .i64), (.int .i64), (.pair (.sl (.pair (.int .i64) (.pair (.int .i64) (.int .i64)))) (.sl (.pair (.int .i64) (.pair (.int .i64) (.pair (.int .i64) (.pair (.int .i64) (.pair (.int .i64) (.int .i64)))))))), (.sl (.int .i64))], 2, [0, 1]⟩
def x39_1 : List XSh := [⟨(.exit 2), [1, 2, 6, 7], ⟨⟨[(.v (.sl (.sl (.int .i64)))), (.ptr 0 0), (.slc 1), (.v (.int .i64))], [(0, (.boxT (.pair (.sl (.pair (.int .i64) (.pair (.int .i64) (.int .i64)))) (.sl (.pair (.int .i64) (.pair (.int .i64) (.pair (.int .i64) (.pair (.int .i64) (.pair (.int .i64) (.int .i64)))))))))), (1, (.row 3 (.int .i64)))]⟩, [(.sl (.sl (.int .i64))), (.int .i64), (.pair (.sl (.pair (.int .i64) (.pair (.int .i64) (.int .i64)))) (.sl (.pair (.int .i64) (.pair (.int .i64) (.pair (.int .i64) (.pair (.int .i64) (.pair (.int .i64) (.int .i64)))))))), (.sl (.int .i64))], [0, 1], 2⟩⟩]
noncomputable def s39_1 (T : List FEnt) : (List (List Int)) × Int × Int × ((List (Int × Int × Int)) × (List (Int × Int × Int × Int × Int × Int))) × (List Int) → Option (((List (List Int)) × Int × Int × ((List (Int × Int × Int)) × (List (Int × Int × Int × Int × Int × Int))) × (List Int)) ⊕ ((List (List Int)) × Int × ((List (Int × Int × Int)) × (List (Int × Int × Int × Int × Int × Int))) × (List Int))) := dstep (xs := x39_1) h39_1 (dxc T b39_1)
noncomputable def l39_1 (T : List FEnt) : (List (List Int)) × Int × Int × ((List (Int × Int × Int)) × (List (Int × Int × Int × Int × Int × Int))) × (List Int) → Option ((List (List Int)) × Int × ((List (Int × Int × Int)) × (List (Int × Int × Int × Int × Int × Int))) × (List Int)) := whileF (s39_1 T)
noncomputable def q39_1 (a0 : List (List Int)) (a1 : Int) (a2 : Int) (a3 : (List (Int × Int × Int)) × (List (Int × Int × Int × Int × Int × Int))) (a4 : List Int) : Option (((List (List Int)) × Int × Int × ((List (Int × Int × Int)) × (List (Int × Int × Int × Int × Int × Int))) × (List Int)) ⊕ ((List (List Int)) × Int × ((List (Int × Int × Int)) × (List (Int × Int × Int × Int × Int × Int))) × (List Int))) :=
chk (inR a1 (List.length a0)) (
cond (decide (a2 < (↑(List.length (ix a0 a1)) : Int))) (
chk (inR a1 (List.length a0)) (
chk (inR a2 (List.length (ix a0 a1))) (
chk (inR (ix (ix a0 a1) a2) (List.length a4)) (
chk (fits .i64 ((ix a4 (ix (ix a0 a1) a2)) + (1 : Int))) (
chk (inR (ix (ix a0 a1) a2) (List.length a4)) (
chk (fits .i64 (a2 + (1 : Int))) (
some (Sum.inl (a0, a1, (a2 + (1 : Int)), a3, (List.set a4 (Int.toNat (ix (ix a0 a1) a2)) ((ix a4 (ix (ix a0 a1) a2)) + (1 : Int)))))))))))) (
some (Sum.inr (a0, a1, a3, a4))))
theorem g39_1 (a0 : List (List Int)) (a1 : Int) (a2 : Int) (a3 : (List (Int × Int × Int)) × (List (Int × Int × Int × Int × Int × Int))) (a4 : List Int) : s39_1 T39 (a0, a1, a2, a3, a4) = q39_1 a0 a1 a2 a3 a4 := by kernel_rfl
noncomputable def p39_1 (a0 : List (List Int)) (a1 : Int) (a2 : Int) (a3 : (List (Int × Int × Int)) × (List (Int × Int × Int × Int × Int × Int))) (a4 : List Int) : Option (((List (List Int)) × Int × Int × ((List (Int × Int × Int)) × (List (Int × Int × Int × Int × Int × Int))) × (List Int)) ⊕ ((List (List Int)) × Int × ((List (Int × Int × Int)) × (List (Int × Int × Int × Int × Int × Int))) × (List Int))) := q39_1 a0 a1 a2 a3 a4
noncomputable def L39_1 : (List (List Int)) × Int × Int × ((List (Int × Int × Int)) × (List (Int × Int × Int × Int × Int × Int))) × (List Int) → Option ((List (List Int)) × Int × ((List (Int × Int × Int)) × (List (Int × Int × Int × Int × Int × Int))) × (List Int)) := whileF (fun x => p39_1 x.1 x.2.1 x.2.2.1 x.2.2.2.1 x.2.2.2.2)
theorem v39_1 : l39_1 T39 = L39_1 := congrArg whileF (funext fun x => (g39_1 x.1 x.2.1 x.2.2.1 x.2.2.2.1 x.2.2.2.2).trans (show q39_1 x.1 x.2.1 x.2.2.1 x.2.2.2.1 x.2.2.2.2 = q39_1 x.1 x.2.1 x.2.2.1 x.2.2.2.1 x.2.2.2.2 from rfl))
def b39_0 : DCode := (.seq (.seq (.reg [.op ⟨some 15, .mov (.t 7), none⟩ none,
  .op ⟨some 16, .mov (.t 1), none⟩ none,
  .op ⟨some 17, .len (.t 16), none⟩ none,
  .op ⟨some 18, .bin true .lss (.t 15) (.t 17), none⟩ none]) (.cond (.t 18) .skip (.exit 0))) (.seq (.blk 1 (.seq (.reg [.op ⟨some 8, .mov (.c (.int .i64 0)), none⟩ none]) (.blk 2 (.loop h39_1 x39_1 b39_1)))) (.reg [.op ⟨some 19, .mov (.t 7), none⟩ none,
  .op ⟨some 20, .bin true .add (.t 19) (.c (.int .i64 1)), none⟩ none,
  .op ⟨some 7, .mov (.t 20), none⟩ none])))
def h39_0 : LSh := ⟨[1, 2, 6, 7], ⟨[(.v (.sl (.sl (.int .i64)))), (.ptr 0 0), (.slc 1), (.v (.int .i64))], [(0, (.boxT (.pair (.sl (.pair (.int .i64) (.pair (.int .i64) (.int .i64)))) (.sl (.pair (.int .i64) (.pair (.int .i64) (.pair (.int .i64) (.pair (.int .i64) (.pair (.int .i64) (.int .i64)))))))))), (1, (.row 3 (.int .i64)))]⟩, [(.sl (.sl (.int .i64))), (.int .i64), (.pair (.sl (.pair (.int .i64) (.pair (.int .i64) (.int .i64)))) (.sl (.pair (.int .i64) (.pair (.int .i64) (.pair (.int .i64) (.pair (.int .i64) (.pair (.int .i64) (.int .i64)))))))), (.sl (.int .i64))], 2, [0, 1]⟩
def x39_0 : List XSh := [⟨(.exit 0), [2, 6], ⟨⟨[(.ptr 0 0), (.slc 1)], [(0, (.boxT (.pair (.sl (.pair (.int .i64) (.pair (.int .i64) (.int .i64)))) (.sl (.pair (.int .i64) (.pair (.int .i64) (.pair (.int .i64) (.pair (.int .i64) (.pair (.int .i64) (.int .i64)))))))))), (1, (.row 3 (.int .i64)))]⟩, [(.pair (.sl (.pair (.int .i64) (.pair (.int .i64) (.int .i64)))) (.sl (.pair (.int .i64) (.pair (.int .i64) (.pair (.int .i64) (.pair (.int .i64) (.pair (.int .i64) (.int .i64)))))))), (.sl (.int .i64))], [0, 1], 2⟩⟩]
noncomputable def s39_0 (T : List FEnt) : (List (List Int)) × Int × ((List (Int × Int × Int)) × (List (Int × Int × Int × Int × Int × Int))) × (List Int) → Option (((List (List Int)) × Int × ((List (Int × Int × Int)) × (List (Int × Int × Int × Int × Int × Int))) × (List Int)) ⊕ (((List (Int × Int × Int)) × (List (Int × Int × Int × Int × Int × Int))) × (List Int))) := dstep (xs := x39_0) h39_0 (dxc T b39_0)
noncomputable def l39_0 (T : List FEnt) : (List (List Int)) × Int × ((List (Int × Int × Int)) × (List (Int × Int × Int × Int × Int × Int))) × (List Int) → Option (((List (Int × Int × Int)) × (List (Int × Int × Int × Int × Int × Int))) × (List Int)) := whileF (s39_0 T)
noncomputable def q39_0 (l39_1 : (List (List Int)) × Int × Int × ((List (Int × Int × Int)) × (List (Int × Int × Int × Int × Int × Int))) × (List Int) → Option ((List (List Int)) × Int × ((List (Int × Int × Int)) × (List (Int × Int × Int × Int × Int × Int))) × (List Int))) (a0 : List (List Int)) (a1 : Int) (a2 : (List (Int × Int × Int)) × (List (Int × Int × Int × Int × Int × Int))) (a3 : List Int) : Option (((List (List Int)) × Int × ((List (Int × Int × Int)) × (List (Int × Int × Int × Int × Int × Int))) × (List Int)) ⊕ (((List (Int × Int × Int)) × (List (Int × Int × Int × Int × Int × Int))) × (List Int))) :=
cond (decide (a1 < (↑(List.length a0) : Int))) (
(l39_1 (a0, a1, (0 : Int), a2, a3)).bind fun (y1 : (List (List Int)) × Int × ((List (Int × Int × Int)) × (List (Int × Int × Int × Int × Int × Int))) × (List Int)) => (
chk (fits .i64 (y1.2.1 + (1 : Int))) (
some (Sum.inl (y1.1, (y1.2.1 + (1 : Int)), y1.2.2.1, y1.2.2.2))))) (
some (Sum.inr (a2, a3)))
theorem g39_0 (a0 : List (List Int)) (a1 : Int) (a2 : (List (Int × Int × Int)) × (List (Int × Int × Int × Int × Int × Int))) (a3 : List Int) : s39_0 T39 (a0, a1, a2, a3) = q39_0 (l39_1 T39) a0 a1 a2 a3 := by kernel_rfl
noncomputable def p39_0 (a0 : List (List Int)) (a1 : Int) (a2 : (List (Int × Int × Int)) × (List (Int × Int × Int × Int × Int × Int))) (a3 : List Int) : Option (((List (List Int)) × Int × ((List (Int × Int × Int)) × (List (Int × Int × Int × Int × Int × Int))) × (List Int)) ⊕ (((List (Int × Int × Int)) × (List (Int × Int × Int × Int × Int × Int))) × (List Int))) := q39_0 L39_1 a0 a1 a2 a3
noncomputable def L39_0 : (List (List Int)) × Int × ((List (Int × Int × Int)) × (List (Int × Int × Int × Int × Int × Int))) × (List Int) → Option (((List (Int × Int × Int)) × (List (Int × Int × Int × Int × Int × Int))) × (List Int)) := whileF (fun x => p39_0 x.1 x.2.1 x.2.2.1 x.2.2.2)
theorem v39_0 : l39_0 T39 = L39_0 := congrArg whileF (funext fun x => (g39_0 x.1 x.2.1 x.2.2.1 x.2.2.2).trans (show q39_0 (l39_1 T39) x.1 x.2.1 x.2.2.1 x.2.2.2 = q39_0 L39_1 x.1 x.2.1 x.2.2.1 x.2.2.2 from by rw [v39_1]))
def b39_2 : DCode := (.seq (.seq (.reg [.op ⟨some 42, .mov (.t 10), none⟩ none,
  .op ⟨some 43, .mov (.t 6), none⟩ none,
  .op ⟨some 44, .len (.t 43), none⟩ none,
  .op ⟨some 45, .bin true .lss (.t 42) (.t 44), none⟩ none]) (.cond (.t 45) .skip (.exit 4))) (.seq (.blk 5 (.drw [] [(⟨some 48, .mov (.t 9), none⟩, none),
  (⟨some 49, .mov (.t 6), none⟩, none),
  (⟨some 50, .mov (.t 10), none⟩, none),
  (⟨some 51, .idx (.t 49) (.t 50) 1, none⟩, none),
  (⟨some 52, .ld1 (.t 51) false, none⟩, none),
  (⟨some 53, .fld (.t 2) 1, none⟩, none),
  (⟨some 54, .ld1 (.t 53) false, none⟩, none),
  (⟨some 55, .mov (.t 10), none⟩, none),
  (⟨some 56, .idx (.t 54) (.t 55) 6, none⟩, none),
  (⟨some 57, .fld (.t 56) 1, none⟩, none),
  (⟨some 58, .ld1 (.t 57) false, none⟩, none),
  (⟨some 59, .mnx false (.t 52) (.t 58), none⟩, none),
  (⟨some 60, .bin true .add (.t 48) (.t 59), none⟩, none),
  (⟨some 9, .mov (.t 60), none⟩, none)])) (.reg [.op ⟨some 46, .mov (.t 10), none⟩ none,
  .op ⟨some 47, .bin true .add (.t 46) (.c (.int .i64 1)), none⟩ none,
  .op ⟨some 10, .mov (.t 47), none⟩ none])))
def h39_2 : LSh := ⟨[2, 6, 9, 10], ⟨[(.ptr 0 0), (.slc 1), (.v (.int .i64)), (.v (.int .i64))], [(0, (.boxT (.pair (.sl (.pair (.int .i64) (.pair (.int .i64) (.int .i64)))) (.sl (.pair (.int .i64) (.pair (.int .i64) (.pair (.int .i64) (.pair (.int .i64) (.pair (.int .i64) (.int .i64)))))))))), (1, (.row 3 (.int .i64)))]⟩, [(.int .i64), (.int .i64), (.pair (.sl (.pair (.int .i64) (.pair (.int .i64) (.int .i64)))) (.sl (.pair (.int .i64) (.pair (.int .i64) (.pair (.int .i64) (.pair (.int .i64) (.pair (.int .i64) (.int .i64)))))))), (.sl (.int .i64))], 2, [0, 1]⟩
def x39_2 : List XSh := [⟨(.exit 4), [6, 9], ⟨⟨[(.slc 1), (.v (.int .i64))], [(0, (.boxT (.pair (.sl (.pair (.int .i64) (.pair (.int .i64) (.int .i64)))) (.sl (.pair (.int .i64) (.pair (.int .i64) (.pair (.int .i64) (.pair (.int .i64) (.pair (.int .i64) (.int .i64)))))))))), (1, (.row 3 (.int .i64)))]⟩, [(.int .i64), (.pair (.sl (.pair (.int .i64) (.pair (.int .i64) (.int .i64)))) (.sl (.pair (.int .i64) (.pair (.int .i64) (.pair (.int .i64) (.pair (.int .i64) (.pair (.int .i64) (.int .i64)))))))), (.sl (.int .i64))], [0, 1], 2⟩⟩]
noncomputable def s39_2 (T : List FEnt) : Int × Int × ((List (Int × Int × Int)) × (List (Int × Int × Int × Int × Int × Int))) × (List Int) → Option ((Int × Int × ((List (Int × Int × Int)) × (List (Int × Int × Int × Int × Int × Int))) × (List Int)) ⊕ (Int × ((List (Int × Int × Int)) × (List (Int × Int × Int × Int × Int × Int))) × (List Int))) := dstep (xs := x39_2) h39_2 (dxc T b39_2)
noncomputable def l39_2 (T : List FEnt) : Int × Int × ((List (Int × Int × Int)) × (List (Int × Int × Int × Int × Int × Int))) × (List Int) → Option (Int × ((List (Int × Int × Int)) × (List (Int × Int × Int × Int × Int × Int))) × (List Int)) := whileF (s39_2 T)
noncomputable def q39_2 (a0 : Int) (a1 : Int) (a2 : (List (Int × Int × Int)) × (List (Int × Int × Int × Int × Int × Int))) (a3 : List Int) : Option ((Int × Int × ((List (Int × Int × Int)) × (List (Int × Int × Int × Int × Int × Int))) × (List Int)) ⊕ (Int × ((List (Int × Int × Int)) × (List (Int × Int × Int × Int × Int × Int))) × (List Int))) :=
cond (decide (a1 < (↑(List.length a3) : Int))) (
chk (inR a1 (List.length a3)) (
chk (inR a1 (List.length a2.2)) (
chk (fits .i64 (a0 + (min (ix a3 a1) ((ix a2.2 a1).2.1)))) (
chk (fits .i64 (a1 + (1 : Int))) (
some (Sum.inl ((a0 + (min (ix a3 a1) ((ix a2.2 a1).2.1))), (a1 + (1 : Int)), a2, a3))))))) (
some (Sum.inr (a0, a2, a3)))
theorem g39_2 (a0 : Int) (a1 : Int) (a2 : (List (Int × Int × Int)) × (List (Int × Int × Int × Int × Int × Int))) (a3 : List Int) : s39_2 T39 (a0, a1, a2, a3) = q39_2 a0 a1 a2 a3 := by kernel_rfl
noncomputable def p39_2 (a0 : Int) (a1 : Int) (a2 : (List (Int × Int × Int)) × (List (Int × Int × Int × Int × Int × Int))) (a3 : List Int) : Option ((Int × Int × ((List (Int × Int × Int)) × (List (Int × Int × Int × Int × Int × Int))) × (List Int)) ⊕ (Int × ((List (Int × Int × Int)) × (List (Int × Int × Int × Int × Int × Int))) × (List Int))) := q39_2 a0 a1 a2 a3
noncomputable def L39_2 : Int × Int × ((List (Int × Int × Int)) × (List (Int × Int × Int × Int × Int × Int))) × (List Int) → Option (Int × ((List (Int × Int × Int)) × (List (Int × Int × Int × Int × Int × Int))) × (List Int)) := whileF (fun x => p39_2 x.1 x.2.1 x.2.2.1 x.2.2.2)
theorem v39_2 : l39_2 T39 = L39_2 := congrArg whileF (funext fun x => (g39_2 x.1 x.2.1 x.2.2.1 x.2.2.2).trans (show q39_2 x.1 x.2.1 x.2.2.1 x.2.2.2 = q39_2 x.1 x.2.1 x.2.2.1 x.2.2.2 from rfl))
def c39 : DCode := (.seq (.reg [.op ⟨some 2, .box (.t 0), none⟩ none,
  .op ⟨some 4, .mov (.c .emp), none⟩ none,
  .op ⟨some 5, .mov (.c (.int .i64 0)), none⟩ none]) (.seq (.reg [.op ⟨some 11, .fld (.t 2) 1, none⟩ none,
  .op ⟨some 12, .ld1 (.t 11) false, none⟩ none,
  .op ⟨some 13, .len (.t 12), none⟩ none,
  .op ⟨some 14, .mks 3 1 8 [(.int .i64 0)] (.t 13), none⟩ (some (false, (.int .i64))),
  .op ⟨some 6, .mov (.t 14), none⟩ none]) (.seq (.seq (.reg [.op ⟨some 7, .mov (.c (.int .i64 0)), none⟩ none]) (.blk 0 (.loop h39_0 x39_0 b39_0))) (.seq (.reg [.op ⟨some 9, .mov (.c (.int .i64 0)), none⟩ none]) (.seq (.seq (.reg [.op ⟨some 10, .mov (.c (.int .i64 0)), none⟩ none]) (.blk 4 (.loop h39_2 x39_2 b39_2))) (.seq (.reg [.op ⟨some 61, .mov (.t 6), none⟩ none,
  .op ⟨some 62, .mov (.t 9), none⟩ none,
  .op ⟨some 4, .mov (.t 61), none⟩ none,
  .op ⟨some 5, .mov (.t 62), none⟩ none]) .ret))))))
theorem ok39 : L.Fn Try.prog 39 63 [(.t 4), (.t 5)] (erase c39) := L.Fn.of hmix Try.func39 [] (by kernel_rfl)
def sh39 : FSh := ⟨⟨[(.st (.pair (.sl (.pair (.int .i64) (.pair (.int .i64) (.int .i64)))) (.sl (.pair (.int .i64) (.pair (.int .i64) (.pair (.int .i64) (.pair (.int .i64) (.pair (.int .i64) (.int .i64))))))))), (.v (.sl (.sl (.int .i64))))], []⟩, [(.pair (.sl (.pair (.int .i64) (.pair (.int .i64) (.int .i64)))) (.sl (.pair (.int .i64) (.pair (.int .i64) (.pair (.int .i64) (.pair (.int .i64) (.pair (.int .i64) (.int .i64)))))))), (.sl (.sl (.int .i64)))], 0, ⟨⟨[(.tup [(.slc 0), (.v (.int .i64))])], [(0, (.row 3 (.int .i64)))]⟩, [(.int .i64), (.sl (.int .i64))], [], 1⟩, true⟩
noncomputable def q39 (l39_0 : (List (List Int)) × Int × ((List (Int × Int × Int)) × (List (Int × Int × Int × Int × Int × Int))) × (List Int) → Option (((List (Int × Int × Int)) × (List (Int × Int × Int × Int × Int × Int))) × (List Int))) (l39_2 : Int × Int × ((List (Int × Int × Int)) × (List (Int × Int × Int × Int × Int × Int))) × (List Int) → Option (Int × ((List (Int × Int × Int)) × (List (Int × Int × Int × Int × Int × Int))) × (List Int))) (a0 : (List (Int × Int × Int)) × (List (Int × Int × Int × Int × Int × Int))) (a1 : List (List Int)) : Option (Int × (List Int)) :=
chk (decide ((0 : Int) ≤ (↑(List.length a0.2) : Int))) (
chk (decide ((8 : Int) * (↑(List.length a0.2) : Int) ≤ 140737488355328)) (
(l39_0 (a1, (0 : Int), a0, (repl (Int.toNat (↑(List.length a0.2) : Int)) (0 : Int)))).bind fun (y2 : ((List (Int × Int × Int)) × (List (Int × Int × Int × Int × Int × Int))) × (List Int)) => (
(l39_2 ((0 : Int), (0 : Int), y2.1, y2.2)).bind fun (y3 : Int × ((List (Int × Int × Int)) × (List (Int × Int × Int × Int × Int × Int))) × (List Int)) => (
some (y3.1, y3.2.2)))))
theorem g39 (a0 : (List (Int × Int × Int)) × (List (Int × Int × Int × Int × Int × Int))) (a1 : List (List Int)) : dxf T39 sh39 [(.t 4), (.t 5)] c39 (a0, a1) = q39 (l39_0 T39) (l39_2 T39) a0 a1 := by kernel_rfl
noncomputable def p39 (a0 : (List (Int × Int × Int)) × (List (Int × Int × Int × Int × Int × Int))) (a1 : List (List Int)) : Option (Int × (List Int)) := q39 L39_0 L39_2 a0 a1
noncomputable def P39 : ((List (Int × Int × Int)) × (List (Int × Int × Int × Int × Int × Int))) × (List (List Int)) → Option (Int × (List Int)) := fun x => p39 x.1 x.2
theorem v39 : dxf T39 sh39 [(.t 4), (.t 5)] c39 = P39 := funext fun x => (g39 x.1 x.2).trans (show q39 (l39_0 T39) (l39_2 T39) x.1 x.2 = q39 L39_0 L39_2 x.1 x.2 from by rw [v39_0, v39_2])
theorem d39 : DC Try.prog 39 sh39 P39 := DC_eq v39 (dxf_sound (sh := sh39) t39 ok39 (by kernel_rfl))
/-! bijou/bijouref07.Counts -/
noncomputable def T14 (F12 : (List (Int × Int × Int)) × (List (Int × Int × Int × Int × Int × Int)) → Option (Int)) (F30 : ((List (Int × Int × Int)) × (List (Int × Int × Int × Int × Int × Int))) × (List (List Int)) → Option (Bool)) (F39 : ((List (Int × Int × Int)) × (List (Int × Int × Int × Int × Int × Int))) × (List (List Int)) → Option (Int × (List Int))) : List FEnt := [⟨12, sh12, F12⟩, ⟨30, sh30, F30⟩, ⟨39, sh39, F39⟩]
theorem t14 : DTblOK Try.prog (T14 P12 P30 P39) := (DTbl_cons' (f := 12) (sh := sh12) (F := P12) d12 (by kernel_rfl) (DTbl_cons' (f := 30) (sh := sh30) (F := P30) d30 (by kernel_rfl) (DTbl_cons' (f := 39) (sh := sh39) (F := P39) d39 (by kernel_rfl) DTbl_nil)))
def c14 : DCode := (.seq (.reg [.op ⟨some 2, .box (.t 0), none⟩ none,
  .op ⟨some 4, .mov (.c .emp), none⟩ none,
  .op ⟨some 5, .mov (.c (.int .i64 0)), none⟩ none,
  .op ⟨some 6, .mov (.c (.int .i64 0)), none⟩ none]) (.seq (.seq (.reg [.op ⟨some 9, .ldn (.t 2) 2 false, none⟩ none,
  .op ⟨some 10, .xcall 12 [(.t 9)], none⟩ none,
  .op ⟨some 11, .bin true .neq (.t 10) (.c (.int .i64 0)), none⟩ none]) (.cond (.t 11) (.seq (.reg [.op ⟨some 4, .mov (.c .emp), none⟩ none,
  .op ⟨some 5, .mov (.c (.int .i64 0)), none⟩ none,
  .op ⟨some 6, .mov (.c (.int .i64 70)), none⟩ none]) .ret) .skip)) (.seq (.seq (.reg [.op ⟨some 12, .ldn (.t 2) 2 false, none⟩ none,
  .op ⟨some 13, .mov (.t 1), none⟩ none,
  .op ⟨some 14, .xcall 30 [(.t 12), (.t 13)], none⟩ none,
  .op ⟨some 15, .unot (.t 14), none⟩ none]) (.cond (.t 15) (.seq (.reg [.op ⟨some 4, .mov (.c .emp), none⟩ none,
  .op ⟨some 5, .mov (.c (.int .i64 0)), none⟩ none,
  .op ⟨some 6, .mov (.c (.int .i64 71)), none⟩ none]) .ret) .skip)) (.seq (.reg [.op ⟨some 17, .ldn (.t 2) 2 false, none⟩ none,
  .op ⟨some 18, .mov (.t 1), none⟩ none,
  .op ⟨some 19, .xcall 39 [(.t 17), (.t 18)], none⟩ none,
  .op ⟨some 16, .mov (.t 19), none⟩ none,
  .op ⟨some 20, .ext (.t 16) 0, none⟩ none,
  .op ⟨some 21, .ext (.t 16) 1, none⟩ none,
  .op ⟨some 7, .mov (.t 20), none⟩ none,
  .op ⟨some 8, .mov (.t 21), none⟩ none]) (.seq (.reg [.op ⟨some 22, .mov (.t 7), none⟩ none,
  .op ⟨some 23, .mov (.t 8), none⟩ none,
  .op ⟨some 4, .mov (.t 22), none⟩ none,
  .op ⟨some 5, .mov (.t 23), none⟩ none,
  .op ⟨some 6, .mov (.c (.int .i64 0)), none⟩ none]) .ret)))))
theorem ok14 : L.Fn Try.prog 14 24 [(.t 4), (.t 5), (.t 6)] (erase c14) := L.Fn.of hmix Try.func14 [] (by kernel_rfl)
def sh14 : FSh := ⟨⟨[(.st (.pair (.sl (.pair (.int .i64) (.pair (.int .i64) (.int .i64)))) (.sl (.pair (.int .i64) (.pair (.int .i64) (.pair (.int .i64) (.pair (.int .i64) (.pair (.int .i64) (.int .i64))))))))), (.v (.sl (.sl (.int .i64))))], []⟩, [(.pair (.sl (.pair (.int .i64) (.pair (.int .i64) (.int .i64)))) (.sl (.pair (.int .i64) (.pair (.int .i64) (.pair (.int .i64) (.pair (.int .i64) (.pair (.int .i64) (.int .i64)))))))), (.sl (.sl (.int .i64)))], 0, ⟨⟨[(.tup [(.slc 0), (.v (.int .i64)), (.v (.int .i64))])], [(0, (.row 3 (.int .i64)))]⟩, [(.int .i64), (.int .i64), (.sl (.int .i64))], [], 1⟩, true⟩
noncomputable def q14 (F12 : (List (Int × Int × Int)) × (List (Int × Int × Int × Int × Int × Int)) → Option (Int)) (F30 : ((List (Int × Int × Int)) × (List (Int × Int × Int × Int × Int × Int))) × (List (List Int)) → Option (Bool)) (F39 : ((List (Int × Int × Int)) × (List (Int × Int × Int × Int × Int × Int))) × (List (List Int)) → Option (Int × (List Int))) (a0 : (List (Int × Int × Int)) × (List (Int × Int × Int × Int × Int × Int))) (a1 : List (List Int)) : Option (Int × Int × (List Int)) :=
(F12 a0).bind fun (r1 : Int) => (
cond (!decide (r1 = (0 : Int))) (
some ((0 : Int), (70 : Int), ([] : List Int))) (
(F30 (a0, a1)).bind fun (r2 : Bool) => (
cond (!r2) (
some ((0 : Int), (71 : Int), ([] : List Int))) (
(F39 (a0, a1)).bind fun (r3 : Int × (List Int)) => (
some (r3.1, (0 : Int), r3.2))))))
theorem g14 (F12 : (List (Int × Int × Int)) × (List (Int × Int × Int × Int × Int × Int)) → Option (Int)) (F30 : ((List (Int × Int × Int)) × (List (Int × Int × Int × Int × Int × Int))) × (List (List Int)) → Option (Bool)) (F39 : ((List (Int × Int × Int)) × (List (Int × Int × Int × Int × Int × Int))) × (List (List Int)) → Option (Int × (List Int))) (a0 : (List (Int × Int × Int)) × (List (Int × Int × Int × Int × Int × Int))) (a1 : List (List Int)) : dxf (T14 F12 F30 F39) sh14 [(.t 4), (.t 5), (.t 6)] c14 (a0, a1) = q14 F12 F30 F39 a0 a1 := by kernel_rfl
noncomputable def p14 (a0 : (List (Int × Int × Int)) × (List (Int × Int × Int × Int × Int × Int))) (a1 : List (List Int)) : Option (Int × Int × (List Int)) := q14 P12 P30 P39 a0 a1
noncomputable def P14 : ((List (Int × Int × Int)) × (List (Int × Int × Int × Int × Int × Int))) × (List (List Int)) → Option (Int × Int × (List Int)) := fun x => p14 x.1 x.2
theorem v14 : dxf (T14 P12 P30 P39) sh14 [(.t 4), (.t 5), (.t 6)] c14 = P14 := funext fun x => (g14 P12 P30 P39 x.1 x.2).trans (show q14 P12 P30 P39 x.1 x.2 = q14 P12 P30 P39 x.1 x.2 from rfl)
theorem d14 : DC Try.prog 14 sh14 P14 := DC_eq v14 (dxf_sound (sh := sh14) t14 ok14 (by kernel_rfl))
/-! bijou/bijoulaw07.PromiseCounts -/
noncomputable def T3 (F9 : Unit → Option (Bool)) (F10 : (List (Int × Int × Int)) × (List (Int × Int × Int × Int × Int × Int)) → Option ((List (Int × Int × Int)) × (List (Int × Int × Int × Int × Int × Int)))) (F11 : (List (Int × Int × Int)) × (List (Int × Int × Int × Int × Int × Int)) → Option (Int)) (F12 : (List (Int × Int × Int)) × (List (Int × Int × Int × Int × Int × Int)) → Option (Int)) (F13 : ((List (Int × Int × Int)) × (List (Int × Int × Int × Int × Int × Int))) × (List (List Int)) → Option (Int × Int × (List Int))) (F14 : ((List (Int × Int × Int)) × (List (Int × Int × Int × Int × Int × Int))) × (List (List Int)) → Option (Int × Int × (List Int))) (F15 : (List Int) × (List Int) → Option (Bool)) : List FEnt := [⟨9, sh9, F9⟩, ⟨10, sh10, F10⟩, ⟨11, sh11, F11⟩, ⟨12, sh12, F12⟩, ⟨13, sh13, F13⟩, ⟨14, sh14, F14⟩, ⟨15, sh15, F15⟩]
theorem t3 : DTblOK Try.prog (T3 P9 P10 P11 P12 P13 P14 P15) := (DTbl_cons' (f := 9) (sh := sh9) (F := P9) d9 (by kernel_rfl) (DTbl_cons' (f := 10) (sh := sh10) (F := P10) d10 (by kernel_rfl) (DTbl_cons' (f := 11) (sh := sh11) (F := P11) d11 (by kernel_rfl) (DTbl_cons' (f := 12) (sh := sh12) (F := P12) d12 (by kernel_rfl) (DTbl_cons' (f := 13) (sh := sh13) (F := P13) d13 (by kernel_rfl) (DTbl_cons' (f := 14) (sh := sh14) (F := P14) d14 (by kernel_rfl) (DTbl_cons' (f := 15) (sh := sh15) (F := P15) d15 (by kernel_rfl) DTbl_nil)))))))
def b3_0 : DCode := (.seq (.seq (.reg [.op ⟨some 31, .mov (.t 6), none⟩ none,
  .op ⟨some 32, .mov (.t 1), none⟩ none,
  .op ⟨some 33, .len (.t 32), none⟩ none,
  .op ⟨some 34, .bin true .lss (.t 31) (.t 33), none⟩ none]) (.cond (.t 34) .skip (.exit 0))) (.seq (.blk 1 (.seq (.seq (.reg [.op ⟨some 37, .mov (.t 1), none⟩ none,
  .op ⟨some 38, .mov (.t 6), none⟩ none,
  .op ⟨some 39, .idx (.t 37) (.t 38) 1, none⟩ none,
  .op ⟨some 40, .ld1 (.t 39) false, none⟩ none,
  .op ⟨some 41, .len (.t 40), none⟩ none,
  .op ⟨some 42, .bin true .gtr (.t 41) (.c (.int .i64 40)), none⟩ none]) (.cond (.t 42) (.seq (.reg [.op ⟨some 43, .xcall 9 [], none⟩ none,
  .op ⟨some 4, .mov (.t 43), none⟩ none]) .ret) .skip)) (.reg [.op ⟨some 44, .mov (.t 5), none⟩ none,
  .op ⟨some 45, .bsr 3 1 [], none⟩ (some (false, (.int .i64))),
  .op ⟨some 46, .mov (.t 1), none⟩ none,
  .op ⟨some 47, .mov (.t 6), none⟩ none,
  .op ⟨some 48, .idx (.t 46) (.t 47) 1, none⟩ none,
  .op ⟨some 49, .ld1 (.t 48) false, none⟩ none,
  .op ⟨some 50, .app 3 1 8 (.t 45) (.t 49), none⟩ (some (false, (.int .i64))),
  .fz 50 [],
  .op ⟨some 51, .bsr 28 1 [(.t 50)], none⟩ (some (false, (.sl (.int .i64)))),
  .op ⟨some 52, .app 28 1 24 (.t 44) (.t 51), none⟩ (some (false, (.sl (.int .i64)))),
  .op ⟨some 5, .mov (.t 52), none⟩ none]))) (.reg [.op ⟨some 35, .mov (.t 6), none⟩ none,
  .op ⟨some 36, .bin true .add (.t 35) (.c (.int .i64 1)), none⟩ none,
  .op ⟨some 6, .mov (.t 36), none⟩ none])))
def h3_0 : LSh := ⟨[1, 2, 5, 6], ⟨[(.v (.sl (.sl (.int .i64)))), (.ptr 0 0), (.slc 1), (.v (.int .i64))], [(0, (.boxT (.pair (.sl (.pair (.int .i64) (.pair (.int .i64) (.int .i64)))) (.sl (.pair (.int .i64) (.pair (.int .i64) (.pair (.int .i64) (.pair (.int .i64) (.pair (.int .i64) (.int .i64)))))))))), (1, (.row 28 (.sl (.int .i64))))]⟩, [(.sl (.sl (.int .i64))), (.int .i64), (.pair (.sl (.pair (.int .i64) (.pair (.int .i64) (.int .i64)))) (.sl (.pair (.int .i64) (.pair (.int .i64) (.pair (.int .i64) (.pair (.int .i64) (.pair (.int .i64) (.int .i64)))))))), (.sl (.sl (.int .i64)))], 2, [0]⟩
def x3_0 : List XSh := [⟨.ret, [4], ⟨⟨[(.v .bool)], [(0, (.boxT (.pair (.sl (.pair (.int .i64) (.pair (.int .i64) (.int .i64)))) (.sl (.pair (.int .i64) (.pair (.int .i64) (.pair (.int .i64) (.pair (.int .i64) (.pair (.int .i64) (.int .i64))))))))))]⟩, [.bool, (.pair (.sl (.pair (.int .i64) (.pair (.int .i64) (.int .i64)))) (.sl (.pair (.int .i64) (.pair (.int .i64) (.pair (.int .i64) (.pair (.int .i64) (.pair (.int .i64) (.int .i64))))))))], [0], 2⟩⟩, ⟨(.exit 0), [1, 2, 5], ⟨⟨[(.v (.sl (.sl (.int .i64)))), (.ptr 0 0), (.slc 1)], [(0, (.boxT (.pair (.sl (.pair (.int .i64) (.pair (.int .i64) (.int .i64)))) (.sl (.pair (.int .i64) (.pair (.int .i64) (.pair (.int .i64) (.pair (.int .i64) (.pair (.int .i64) (.int .i64)))))))))), (1, (.row 28 (.sl (.int .i64))))]⟩, [(.sl (.sl (.int .i64))), (.pair (.sl (.pair (.int .i64) (.pair (.int .i64) (.int .i64)))) (.sl (.pair (.int .i64) (.pair (.int .i64) (.pair (.int .i64) (.pair (.int .i64) (.pair (.int .i64) (.int .i64)))))))), (.sl (.sl (.int .i64)))], [0], 2⟩⟩]
noncomputable def s3_0 (T : List FEnt) : (List (List Int)) × Int × ((List (Int × Int × Int)) × (List (Int × Int × Int × Int × Int × Int))) × (List (List Int)) → Option (((List (List Int)) × Int × ((List (Int × Int × Int)) × (List (Int × Int × Int × Int × Int × Int))) × (List (List Int))) ⊕ ((Bool × (List (Int × Int × Int)) × (List (Int × Int × Int × Int × Int × Int))) ⊕ ((List (List Int)) × ((List (Int × Int × Int)) × (List (Int × Int × Int × Int × Int × Int))) × (List (List Int))))) := dstep (xs := x3_0) h3_0 (dxc T b3_0)
noncomputable def l3_0 (T : List FEnt) : (List (List Int)) × Int × ((List (Int × Int × Int)) × (List (Int × Int × Int × Int × Int × Int))) × (List (List Int)) → Option ((Bool × (List (Int × Int × Int)) × (List (Int × Int × Int × Int × Int × Int))) ⊕ ((List (List Int)) × ((List (Int × Int × Int)) × (List (Int × Int × Int × Int × Int × Int))) × (List (List Int)))) := whileF (s3_0 T)
noncomputable def q3_0 (F9 : Unit → Option (Bool)) (F10 : (List (Int × Int × Int)) × (List (Int × Int × Int × Int × Int × Int)) → Option ((List (Int × Int × Int)) × (List (Int × Int × Int × Int × Int × Int)))) (F11 : (List (Int × Int × Int)) × (List (Int × Int × Int × Int × Int × Int)) → Option (Int)) (F12 : (List (Int × Int × Int)) × (List (Int × Int × Int × Int × Int × Int)) → Option (Int)) (F13 : ((List (Int × Int × Int)) × (List (Int × Int × Int × Int × Int × Int))) × (List (List Int)) → Option (Int × Int × (List Int))) (F14 : ((List (Int × Int × Int)) × (List (Int × Int × Int × Int × Int × Int))) × (List (List Int)) → Option (Int × Int × (List Int))) (F15 : (List Int) × (List Int) → Option (Bool)) (a0 : List (List Int)) (a1 : Int) (a2 : (List (Int × Int × Int)) × (List (Int × Int × Int × Int × Int × Int))) (a3 : List (List Int)) : Option (((List (List Int)) × Int × ((List (Int × Int × Int)) × (List (Int × Int × Int × Int × Int × Int))) × (List (List Int))) ⊕ ((Bool × (List (Int × Int × Int)) × (List (Int × Int × Int × Int × Int × Int))) ⊕ ((List (List Int)) × ((List (Int × Int × Int)) × (List (Int × Int × Int × Int × Int × Int))) × (List (List Int))))) :=
cond (decide (a1 < (↑(List.length a0) : Int))) (
chk (inR a1 (List.length a0)) (
cond (decide ((40 : Int) < (↑(List.length (ix a0 a1)) : Int))) (
(F9 ()).bind fun (r4 : Bool) => (
some (Sum.inr (Sum.inl (r4, a2))))) (
chk (inR a1 (List.length a0)) (
chk (capOk 8 (List.length ([] : List Int) + List.length (ix a0 a1))) (
chk (capOk 24 (List.length a3 + List.length ([(([] : List Int) ++ (ix a0 a1))] : List (List Int)))) (
chk (fits .i64 (a1 + (1 : Int))) (
some (Sum.inl (a0, (a1 + (1 : Int)), a2, (a3 ++ ([(([] : List Int) ++ (ix a0 a1))] : List (List Int)))))))))))) (
some (Sum.inr (Sum.inr (a0, a2, a3))))
theorem g3_0 (F9 : Unit → Option (Bool)) (F10 : (List (Int × Int × Int)) × (List (Int × Int × Int × Int × Int × Int)) → Option ((List (Int × Int × Int)) × (List (Int × Int × Int × Int × Int × Int)))) (F11 : (List (Int × Int × Int)) × (List (Int × Int × Int × Int × Int × Int)) → Option (Int)) (F12 : (List (Int × Int × Int)) × (List (Int × Int × Int × Int × Int × Int)) → Option (Int)) (F13 : ((List (Int × Int × Int)) × (List (Int × Int × Int × Int × Int × Int))) × (List (List Int)) → Option (Int × Int × (List Int))) (F14 : ((List (Int × Int × Int)) × (List (Int × Int × Int × Int × Int × Int))) × (List (List Int)) → Option (Int × Int × (List Int))) (F15 : (List Int) × (List Int) → Option (Bool)) (a0 : List (List Int)) (a1 : Int) (a2 : (List (Int × Int × Int)) × (List (Int × Int × Int × Int × Int × Int))) (a3 : List (List Int)) : s3_0 (T3 F9 F10 F11 F12 F13 F14 F15) (a0, a1, a2, a3) = q3_0 F9 F10 F11 F12 F13 F14 F15 a0 a1 a2 a3 := by kernel_rfl
noncomputable def p3_0 (a0 : List (List Int)) (a1 : Int) (a2 : (List (Int × Int × Int)) × (List (Int × Int × Int × Int × Int × Int))) (a3 : List (List Int)) : Option (((List (List Int)) × Int × ((List (Int × Int × Int)) × (List (Int × Int × Int × Int × Int × Int))) × (List (List Int))) ⊕ ((Bool × (List (Int × Int × Int)) × (List (Int × Int × Int × Int × Int × Int))) ⊕ ((List (List Int)) × ((List (Int × Int × Int)) × (List (Int × Int × Int × Int × Int × Int))) × (List (List Int))))) := q3_0 P9 P10 P11 P12 P13 P14 P15 a0 a1 a2 a3
noncomputable def L3_0 : (List (List Int)) × Int × ((List (Int × Int × Int)) × (List (Int × Int × Int × Int × Int × Int))) × (List (List Int)) → Option ((Bool × (List (Int × Int × Int)) × (List (Int × Int × Int × Int × Int × Int))) ⊕ ((List (List Int)) × ((List (Int × Int × Int)) × (List (Int × Int × Int × Int × Int × Int))) × (List (List Int)))) := whileF (fun x => p3_0 x.1 x.2.1 x.2.2.1 x.2.2.2)
theorem v3_0 : l3_0 (T3 P9 P10 P11 P12 P13 P14 P15) = L3_0 := congrArg whileF (funext fun x => (g3_0 P9 P10 P11 P12 P13 P14 P15 x.1 x.2.1 x.2.2.1 x.2.2.2).trans (show q3_0 P9 P10 P11 P12 P13 P14 P15 x.1 x.2.1 x.2.2.1 x.2.2.2 = q3_0 P9 P10 P11 P12 P13 P14 P15 x.1 x.2.1 x.2.2.1 x.2.2.2 from rfl))
def b3_1 : DCode := (.seq (.seq (.reg [.op ⟨some 74, .mov (.t 14), none⟩ none,
  .op ⟨some 75, .mov (.t 1), none⟩ none,
  .op ⟨some 76, .len (.t 75), none⟩ none,
  .op ⟨some 77, .bin true .lss (.t 74) (.t 76), none⟩ none]) (.cond (.t 77) .skip (.exit 2))) (.seq (.blk 3 (.seq (.drw [] [(⟨some 80, .mov (.t 5), none⟩, none),
  (⟨some 81, .mov (.t 14), none⟩, none),
  (⟨some 82, .idx (.t 80) (.t 81) 1, none⟩, none),
  (⟨some 83, .ld1 (.t 82) false, none⟩, none),
  (⟨some 84, .mov (.t 1), none⟩, none),
  (⟨some 85, .mov (.t 14), none⟩, none),
  (⟨some 86, .idx (.t 84) (.t 85) 1, none⟩, none),
  (⟨some 87, .ld1 (.t 86) false, none⟩, none),
  (⟨some 88, .xcall 15 [(.t 83), (.t 87)], none⟩, none),
  (⟨some 89, .unot (.t 88), none⟩, none)]) (.cond (.t 89) (.seq (.reg [.op ⟨some 4, .mov (.c (.bool false)), none⟩ none]) .ret) .skip))) (.reg [.op ⟨some 78, .mov (.t 14), none⟩ none,
  .op ⟨some 79, .bin true .add (.t 78) (.c (.int .i64 1)), none⟩ none,
  .op ⟨some 14, .mov (.t 79), none⟩ none])))
def h3_1 : LSh := ⟨[1, 5, 8, 9, 10, 11, 12, 13, 14], ⟨[(.v (.sl (.sl (.int .i64)))), (.slc 0), (.slc 1), (.v (.int .i64)), (.v (.int .i64)), (.slc 2), (.v (.int .i64)), (.v (.int .i64)), (.v (.int .i64))], [(0, (.row 28 (.sl (.int .i64)))), (1, (.row 3 (.int .i64))), (2, (.row 3 (.int .i64)))]⟩, [(.sl (.sl (.int .i64))), (.int .i64), (.int .i64), (.int .i64), (.int .i64), (.int .i64), (.sl (.sl (.int .i64))), (.sl (.int .i64)), (.sl (.int .i64))], 3, [0, 1, 2]⟩
def x3_1 : List XSh := [⟨.ret, [4], ⟨⟨[(.v .bool)], [(0, (.row 28 (.sl (.int .i64)))), (1, (.row 3 (.int .i64))), (2, (.row 3 (.int .i64)))]⟩, [.bool, (.sl (.sl (.int .i64))), (.sl (.int .i64)), (.sl (.int .i64))], [0, 1, 2], 3⟩⟩, ⟨(.exit 2), [8, 9, 10, 11, 12, 13], ⟨⟨[(.slc 1), (.v (.int .i64)), (.v (.int .i64)), (.slc 2), (.v (.int .i64)), (.v (.int .i64))], [(0, (.row 28 (.sl (.int .i64)))), (1, (.row 3 (.int .i64))), (2, (.row 3 (.int .i64)))]⟩, [(.int .i64), (.int .i64), (.int .i64), (.int .i64), (.sl (.sl (.int .i64))), (.sl (.int .i64)), (.sl (.int .i64))], [0, 1, 2], 3⟩⟩]
noncomputable def s3_1 (T : List FEnt) : (List (List Int)) × Int × Int × Int × Int × Int × (List (List Int)) × (List Int) × (List Int) → Option (((List (List Int)) × Int × Int × Int × Int × Int × (List (List Int)) × (List Int) × (List Int)) ⊕ ((Bool × (List (List Int)) × (List Int) × (List Int)) ⊕ (Int × Int × Int × Int × (List (List Int)) × (List Int) × (List Int)))) := dstep (xs := x3_1) h3_1 (dxc T b3_1)
noncomputable def l3_1 (T : List FEnt) : (List (List Int)) × Int × Int × Int × Int × Int × (List (List Int)) × (List Int) × (List Int) → Option ((Bool × (List (List Int)) × (List Int) × (List Int)) ⊕ (Int × Int × Int × Int × (List (List Int)) × (List Int) × (List Int))) := whileF (s3_1 T)
noncomputable def q3_1 (F9 : Unit → Option (Bool)) (F10 : (List (Int × Int × Int)) × (List (Int × Int × Int × Int × Int × Int)) → Option ((List (Int × Int × Int)) × (List (Int × Int × Int × Int × Int × Int)))) (F11 : (List (Int × Int × Int)) × (List (Int × Int × Int × Int × Int × Int)) → Option (Int)) (F12 : (List (Int × Int × Int)) × (List (Int × Int × Int × Int × Int × Int)) → Option (Int)) (F13 : ((List (Int × Int × Int)) × (List (Int × Int × Int × Int × Int × Int))) × (List (List Int)) → Option (Int × Int × (List Int))) (F14 : ((List (Int × Int × Int)) × (List (Int × Int × Int × Int × Int × Int))) × (List (List Int)) → Option (Int × Int × (List Int))) (F15 : (List Int) × (List Int) → Option (Bool)) (a0 : List (List Int)) (a1 : Int) (a2 : Int) (a3 : Int) (a4 : Int) (a5 : Int) (a6 : List (List Int)) (a7 : List Int) (a8 : List Int) : Option (((List (List Int)) × Int × Int × Int × Int × Int × (List (List Int)) × (List Int) × (List Int)) ⊕ ((Bool × (List (List Int)) × (List Int) × (List Int)) ⊕ (Int × Int × Int × Int × (List (List Int)) × (List Int) × (List Int)))) :=
cond (decide (a5 < (↑(List.length a0) : Int))) (
chk (inR a5 (List.length a6)) (
chk (inR a5 (List.length a0)) (
(F15 ((ix a6 a5), (ix a0 a5))).bind fun (r13 : Bool) => (
cond (!r13) (
some (Sum.inr (Sum.inl (false, a6, a7, a8)))) (
chk (fits .i64 (a5 + (1 : Int))) (
some (Sum.inl (a0, a1, a2, a3, a4, (a5 + (1 : Int)), a6, a7, a8)))))))) (
some (Sum.inr (Sum.inr (a1, a2, a3, a4, a6, a7, a8))))
theorem g3_1 (F9 : Unit → Option (Bool)) (F10 : (List (Int × Int × Int)) × (List (Int × Int × Int × Int × Int × Int)) → Option ((List (Int × Int × Int)) × (List (Int × Int × Int × Int × Int × Int)))) (F11 : (List (Int × Int × Int)) × (List (Int × Int × Int × Int × Int × Int)) → Option (Int)) (F12 : (List (Int × Int × Int)) × (List (Int × Int × Int × Int × Int × Int)) → Option (Int)) (F13 : ((List (Int × Int × Int)) × (List (Int × Int × Int × Int × Int × Int))) × (List (List Int)) → Option (Int × Int × (List Int))) (F14 : ((List (Int × Int × Int)) × (List (Int × Int × Int × Int × Int × Int))) × (List (List Int)) → Option (Int × Int × (List Int))) (F15 : (List Int) × (List Int) → Option (Bool)) (a0 : List (List Int)) (a1 : Int) (a2 : Int) (a3 : Int) (a4 : Int) (a5 : Int) (a6 : List (List Int)) (a7 : List Int) (a8 : List Int) : s3_1 (T3 F9 F10 F11 F12 F13 F14 F15) (a0, a1, a2, a3, a4, a5, a6, a7, a8) = q3_1 F9 F10 F11 F12 F13 F14 F15 a0 a1 a2 a3 a4 a5 a6 a7 a8 := by kernel_rfl
noncomputable def p3_1 (a0 : List (List Int)) (a1 : Int) (a2 : Int) (a3 : Int) (a4 : Int) (a5 : Int) (a6 : List (List Int)) (a7 : List Int) (a8 : List Int) : Option (((List (List Int)) × Int × Int × Int × Int × Int × (List (List Int)) × (List Int) × (List Int)) ⊕ ((Bool × (List (List Int)) × (List Int) × (List Int)) ⊕ (Int × Int × Int × Int × (List (List Int)) × (List Int) × (List Int)))) := q3_1 P9 P10 P11 P12 P13 P14 P15 a0 a1 a2 a3 a4 a5 a6 a7 a8
noncomputable def L3_1 : (List (List Int)) × Int × Int × Int × Int × Int × (List (List Int)) × (List Int) × (List Int) → Option ((Bool × (List (List Int)) × (List Int) × (List Int)) ⊕ (Int × Int × Int × Int × (List (List Int)) × (List Int) × (List Int))) := whileF (fun x => p3_1 x.1 x.2.1 x.2.2.1 x.2.2.2.1 x.2.2.2.2.1 x.2.2.2.2.2.1 x.2.2.2.2.2.2.1 x.2.2.2.2.2.2.2.1 x.2.2.2.2.2.2.2.2)
theorem v3_1 : l3_1 (T3 P9 P10 P11 P12 P13 P14 P15) = L3_1 := congrArg whileF (funext fun x => (g3_1 P9 P10 P11 P12 P13 P14 P15 x.1 x.2.1 x.2.2.1 x.2.2.2.1 x.2.2.2.2.1 x.2.2.2.2.2.1 x.2.2.2.2.2.2.1 x.2.2.2.2.2.2.2.1 x.2.2.2.2.2.2.2.2).trans (show q3_1 P9 P10 P11 P12 P13 P14 P15 x.1 x.2.1 x.2.2.1 x.2.2.2.1 x.2.2.2.2.1 x.2.2.2.2.2.1 x.2.2.2.2.2.2.1 x.2.2.2.2.2.2.2.1 x.2.2.2.2.2.2.2.2 = q3_1 P9 P10 P11 P12 P13 P14 P15 x.1 x.2.1 x.2.2.1 x.2.2.2.1 x.2.2.2.2.1 x.2.2.2.2.2.1 x.2.2.2.2.2.2.1 x.2.2.2.2.2.2.2.1 x.2.2.2.2.2.2.2.2 from rfl))
def c3 : DCode := (.seq (.reg [.op ⟨some 2, .box (.t 0), none⟩ none,
  .op ⟨some 4, .mov (.c (.bool false)), none⟩ none]) (.seq (.seq (.reg [.op ⟨some 15, .fld (.t 2) 0, none⟩ none,
  .op ⟨some 16, .ld1 (.t 15) false, none⟩ none,
  .op ⟨some 17, .len (.t 16), none⟩ none,
  .op ⟨some 18, .bin true .gtr (.t 17) (.c (.int .i64 40)), none⟩ none,
  .op ⟨some 19, .mov (.t 18), none⟩ none,
  .op ⟨some 20, .fld (.t 2) 1, some (19, false)⟩ none,
  .op ⟨some 21, .ld1 (.t 20) false, some (19, false)⟩ none,
  .op ⟨some 22, .len (.t 21), some (19, false)⟩ none,
  .op ⟨some 23, .bin true .gtr (.t 22) (.c (.int .i64 40)), some (19, false)⟩ none,
  .op ⟨some 24, .pick (.t 19) (.c (.bool true)) (.t 23), none⟩ none,
  .op ⟨some 25, .mov (.t 24), none⟩ none,
  .op ⟨some 26, .mov (.t 1), some (25, false)⟩ none,
  .op ⟨some 27, .len (.t 26), some (25, false)⟩ none,
  .op ⟨some 28, .bin true .gtr (.t 27) (.c (.int .i64 40)), some (25, false)⟩ none,
  .op ⟨some 29, .pick (.t 25) (.c (.bool true)) (.t 28), none⟩ none]) (.cond (.t 29) (.seq (.reg [.op ⟨some 30, .xcall 9 [], none⟩ none,
  .op ⟨some 4, .mov (.t 30), none⟩ none]) .ret) .skip)) (.seq (.reg [.op ⟨some 5, .mov (.c .emp), none⟩ none]) (.seq (.seq (.reg [.op ⟨some 6, .mov (.c (.int .i64 0)), none⟩ none]) (.blk 0 (.loop h3_0 x3_0 b3_0))) (.seq (.reg [.op ⟨some 53, .ldn (.t 2) 2 false, none⟩ none,
  .op ⟨some 54, .xcall 10 [(.t 53)], none⟩ none,
  .op ⟨some 7, .alc [.emp, .emp], none⟩ none,
  .op ⟨none, .sto (.t 7) (.t 54) 2, none⟩ none]) (.seq (.seq (.drw [7, 2] [(⟨some 55, .ldn (.t 7) 2 true, none⟩, none),
  (⟨some 57, .ldn (.t 2) 2 true, none⟩, none),
  (⟨some 56, .xcall 11 [(.t 55)], none⟩, none),
  (⟨some 58, .xcall 12 [(.t 57)], none⟩, none),
  (⟨some 59, .bin true .neq (.t 56) (.t 58), none⟩, none)]) (.cond (.t 59) (.seq (.reg [.op ⟨some 4, .mov (.c (.bool false)), none⟩ none]) .ret) .skip)) (.seq (.reg [.op ⟨some 61, .ldn (.t 7) 2 false, none⟩ none,
  .op ⟨some 62, .mov (.t 5), none⟩ none,
  .op ⟨some 63, .xcall 13 [(.t 61), (.t 62)], none⟩ none,
  .op ⟨some 60, .mov (.t 63), none⟩ none,
  .op ⟨some 64, .ext (.t 60) 0, none⟩ none,
  .op ⟨some 65, .ext (.t 60) 1, none⟩ none,
  .op ⟨some 66, .ext (.t 60) 2, none⟩ none,
  .op ⟨some 8, .mov (.t 64), none⟩ none,
  .op ⟨some 9, .mov (.t 65), none⟩ none,
  .op ⟨some 10, .mov (.t 66), none⟩ none]) (.seq (.reg [.op ⟨some 68, .ldn (.t 2) 2 false, none⟩ none,
  .op ⟨some 69, .mov (.t 1), none⟩ none,
  .op ⟨some 70, .xcall 14 [(.t 68), (.t 69)], none⟩ none,
  .op ⟨some 67, .mov (.t 70), none⟩ none,
  .op ⟨some 71, .ext (.t 67) 0, none⟩ none,
  .op ⟨some 72, .ext (.t 67) 1, none⟩ none,
  .op ⟨some 73, .ext (.t 67) 2, none⟩ none,
  .op ⟨some 11, .mov (.t 71), none⟩ none,
  .op ⟨some 12, .mov (.t 72), none⟩ none,
  .op ⟨some 13, .mov (.t 73), none⟩ none]) (.seq (.seq (.reg [.op ⟨some 14, .mov (.c (.int .i64 0)), none⟩ none]) (.blk 2 (.loop h3_1 x3_1 b3_1))) (.seq (.reg [.op ⟨some 90, .mov (.t 8), none⟩ none,
  .op ⟨some 91, .mov (.t 11), none⟩ none,
  .op ⟨some 92, .xcall 15 [(.t 90), (.t 91)], none⟩ none,
  .op ⟨some 93, .mov (.t 92), none⟩ none,
  .op ⟨some 94, .mov (.t 9), some (93, true)⟩ none,
  .op ⟨some 95, .mov (.t 12), some (93, true)⟩ none,
  .op ⟨some 96, .bin true .eql (.t 94) (.t 95), some (93, true)⟩ none,
  .op ⟨some 97, .pick (.t 93) (.t 96) (.c (.bool false)), none⟩ none,
  .op ⟨some 98, .mov (.t 97), none⟩ none,
  .op ⟨some 99, .mov (.t 10), some (98, true)⟩ none,
  .op ⟨some 100, .mov (.t 13), some (98, true)⟩ none,
  .op ⟨some 101, .bin true .eql (.t 99) (.t 100), some (98, true)⟩ none,
  .op ⟨some 102, .pick (.t 98) (.t 101) (.c (.bool false)), none⟩ none,
  .op ⟨some 103, .mov (.t 102), none⟩ none,
  .op ⟨some 104, .xcall 9 [], some (103, true)⟩ none,
  .op ⟨some 105, .pick (.t 103) (.t 104) (.c (.bool false)), none⟩ none,
  .op ⟨some 4, .mov (.t 105), none⟩ none]) .ret))))))))))
theorem ok3 : L.Fn Try.prog 3 106 [(.t 4)] (erase c3) := L.Fn.of hmix Try.func3 [(11, { ch := [1,0,1,0,0], rs := [7,2], ord := [0,2,1,3,4] })] (by kernel_rfl)
def sh3 : FSh := ⟨⟨[(.st (.pair (.sl (.pair (.int .i64) (.pair (.int .i64) (.int .i64)))) (.sl (.pair (.int .i64) (.pair (.int .i64) (.pair (.int .i64) (.pair (.int .i64) (.pair (.int .i64) (.int .i64))))))))), (.v (.sl (.sl (.int .i64))))], []⟩, [(.pair (.sl (.pair (.int .i64) (.pair (.int .i64) (.int .i64)))) (.sl (.pair (.int .i64) (.pair (.int .i64) (.pair (.int .i64) (.pair (.int .i64) (.pair (.int .i64) (.int .i64)))))))), (.sl (.sl (.int .i64)))], 0, ⟨⟨[(.v .bool)], []⟩, [.bool], [], 0⟩, true⟩
noncomputable def q3 (F9 : Unit → Option (Bool)) (F10 : (List (Int × Int × Int)) × (List (Int × Int × Int × Int × Int × Int)) → Option ((List (Int × Int × Int)) × (List (Int × Int × Int × Int × Int × Int)))) (F11 : (List (Int × Int × Int)) × (List (Int × Int × Int × Int × Int × Int)) → Option (Int)) (F12 : (List (Int × Int × Int)) × (List (Int × Int × Int × Int × Int × Int)) → Option (Int)) (F13 : ((List (Int × Int × Int)) × (List (Int × Int × Int × Int × Int × Int))) × (List (List Int)) → Option (Int × Int × (List Int))) (F14 : ((List (Int × Int × Int)) × (List (Int × Int × Int × Int × Int × Int))) × (List (List Int)) → Option (Int × Int × (List Int))) (F15 : (List Int) × (List Int) → Option (Bool)) (l3_0 : (List (List Int)) × Int × ((List (Int × Int × Int)) × (List (Int × Int × Int × Int × Int × Int))) × (List (List Int)) → Option ((Bool × (List (Int × Int × Int)) × (List (Int × Int × Int × Int × Int × Int))) ⊕ ((List (List Int)) × ((List (Int × Int × Int)) × (List (Int × Int × Int × Int × Int × Int))) × (List (List Int))))) (l3_1 : (List (List Int)) × Int × Int × Int × Int × Int × (List (List Int)) × (List Int) × (List Int) → Option ((Bool × (List (List Int)) × (List Int) × (List Int)) ⊕ (Int × Int × Int × Int × (List (List Int)) × (List Int) × (List Int)))) (a0 : (List (Int × Int × Int)) × (List (Int × Int × Int × Int × Int × Int))) (a1 : List (List Int)) : Option (Bool) :=
cond (decide ((40 : Int) < (↑(List.length a0.1) : Int))) (
(F9 ()).bind fun (r1 : Bool) => (
some r1)) (
cond (decide ((40 : Int) < (↑(List.length a0.2) : Int))) (
(F9 ()).bind fun (r2 : Bool) => (
some r2)) (
cond (decide ((40 : Int) < (↑(List.length a1) : Int))) (
(F9 ()).bind fun (r3 : Bool) => (
some r3)) (
(l3_0 (a1, (0 : Int), a0, ([] : List (List Int)))).bind (fun (y5 : (Bool × (List (Int × Int × Int)) × (List (Int × Int × Int × Int × Int × Int))) ⊕ ((List (List Int)) × ((List (Int × Int × Int)) × (List (Int × Int × Int × Int × Int × Int))) × (List (List Int)))) => Sum.elim (fun (y6 : Bool × (List (Int × Int × Int)) × (List (Int × Int × Int × Int × Int × Int))) => (
some y6.1)) (fun (y7 : (List (List Int)) × ((List (Int × Int × Int)) × (List (Int × Int × Int × Int × Int × Int))) × (List (List Int))) => (
(F10 y7.2.1).bind fun (r8 : (List (Int × Int × Int)) × (List (Int × Int × Int × Int × Int × Int))) => (
(F11 r8).bind fun (r9 : Int) => (
(F12 y7.2.1).bind fun (r10 : Int) => (
cond (!decide (r9 = r10)) (
some false) (
(F13 (r8, y7.2.2)).bind fun (r11 : Int × Int × (List Int)) => (
(F14 (y7.2.1, y7.1)).bind fun (r12 : Int × Int × (List Int)) => (
(l3_1 (y7.1, r11.1, r11.2.1, r12.1, r12.2.1, (0 : Int), y7.2.2, r11.2.2, r12.2.2)).bind (fun (y14 : (Bool × (List (List Int)) × (List Int) × (List Int)) ⊕ (Int × Int × Int × Int × (List (List Int)) × (List Int) × (List Int))) => Sum.elim (fun (y15 : Bool × (List (List Int)) × (List Int) × (List Int)) => (
some y15.1)) (fun (y16 : Int × Int × Int × Int × (List (List Int)) × (List Int) × (List Int)) => (
(F15 (y16.2.2.2.2.2.1, y16.2.2.2.2.2.2)).bind fun (r17 : Bool) => (
cond r17 (
cond (decide (y16.1 = y16.2.2.1)) (
cond (decide (y16.2.1 = y16.2.2.2.1)) (
(F9 ()).bind fun (r18 : Bool) => (
some r18)) (
some false)) (
some false)) (
some false)))) y14))))))))) y5))))
theorem g3 (F9 : Unit → Option (Bool)) (F10 : (List (Int × Int × Int)) × (List (Int × Int × Int × Int × Int × Int)) → Option ((List (Int × Int × Int)) × (List (Int × Int × Int × Int × Int × Int)))) (F11 : (List (Int × Int × Int)) × (List (Int × Int × Int × Int × Int × Int)) → Option (Int)) (F12 : (List (Int × Int × Int)) × (List (Int × Int × Int × Int × Int × Int)) → Option (Int)) (F13 : ((List (Int × Int × Int)) × (List (Int × Int × Int × Int × Int × Int))) × (List (List Int)) → Option (Int × Int × (List Int))) (F14 : ((List (Int × Int × Int)) × (List (Int × Int × Int × Int × Int × Int))) × (List (List Int)) → Option (Int × Int × (List Int))) (F15 : (List Int) × (List Int) → Option (Bool)) (a0 : (List (Int × Int × Int)) × (List (Int × Int × Int × Int × Int × Int))) (a1 : List (List Int)) : dxf (T3 F9 F10 F11 F12 F13 F14 F15) sh3 [(.t 4)] c3 (a0, a1) = q3 F9 F10 F11 F12 F13 F14 F15 (l3_0 (T3 F9 F10 F11 F12 F13 F14 F15)) (l3_1 (T3 F9 F10 F11 F12 F13 F14 F15)) a0 a1 := by kernel_rfl
noncomputable def p3 (a0 : (List (Int × Int × Int)) × (List (Int × Int × Int × Int × Int × Int))) (a1 : List (List Int)) : Option (Bool) := q3 P9 P10 P11 P12 P13 P14 P15 L3_0 L3_1 a0 a1
noncomputable def P3 : ((List (Int × Int × Int)) × (List (Int × Int × Int × Int × Int × Int))) × (List (List Int)) → Option (Bool) := fun x => p3 x.1 x.2
theorem v3 : dxf (T3 P9 P10 P11 P12 P13 P14 P15) sh3 [(.t 4)] c3 = P3 := funext fun x => (g3 P9 P10 P11 P12 P13 P14 P15 x.1 x.2).trans (show q3 P9 P10 P11 P12 P13 P14 P15 (l3_0 (T3 P9 P10 P11 P12 P13 P14 P15)) (l3_1 (T3 P9 P10 P11 P12 P13 P14 P15)) x.1 x.2 = q3 P9 P10 P11 P12 P13 P14 P15 L3_0 L3_1 x.1 x.2 from by rw [v3_0, v3_1])
theorem d3 : DC Try.prog 3 sh3 P3 := DC_eq v3 (dxf_sound (sh := sh3) t3 ok3 (by kernel_rfl))
end Go.Proofs.Ytjoncejabdjekaa.D
