/- Functions of the program as typed functions: printed by a program of this claim, checked by Lean. -/
import Derived.Test.YtjoncejabdjekaaG2
import Derived.Test.YtjoncejabdjekaaProg
set_option linter.unusedVariables false
set_option maxRecDepth 100000
namespace Go.Proofs.Ytjoncejabdjekaa.D
open Go Go.Proofs Go.Proofs.Ytjoncejabdjekaa.L
/-! bijou/bijoulaw07.Far -/
noncomputable def T16 (F12 : (List (Int × Int × Int)) × (List (Int × Int × Int × Int × Int × Int)) → Option (Int)) : List FEnt := [⟨12, sh12, F12⟩]
theorem t16 : DTblOK Try.prog (T16 P12) := (DTbl_cons' (f := 12) (sh := sh12) (F := P12) d12 (by kernel_rfl) DTbl_nil)
def b16_0 : DCode := (.seq (.seq (.reg [.op ⟨some 17, .mov (.t 3), none⟩ none,
  .op ⟨some 18, .fld (.t 1) 1, none⟩ none,
  .op ⟨some 19, .ld1 (.t 18) false, none⟩ none,
  .op ⟨some 20, .len (.t 19), none⟩ none,
  .op ⟨some 21, .bin true .lss (.t 17) (.t 20), none⟩ none]) (.cond (.t 21) .skip (.exit 0))) (.seq (.blk 1 (.seq (.reg [.op ⟨some 24, .fld (.t 1) 1, none⟩ none,
  .op ⟨some 25, .ld1 (.t 24) false, none⟩ none,
  .op ⟨some 26, .mov (.t 3), none⟩ none,
  .op ⟨some 27, .idx (.t 25) (.t 26) 6, none⟩ none,
  .op ⟨some 28, .fld (.t 27) 1, none⟩ none,
  .op ⟨some 29, .ld1 (.t 28) false, none⟩ none,
  .op ⟨some 30, .bin true .gtr (.t 29) (.c (.int .i64 3)), none⟩ none]) (.cond (.t 30) (.seq (.reg [.op ⟨some 2, .mov (.c (.bool true)), none⟩ none]) .ret) .skip))) (.reg [.op ⟨some 22, .mov (.t 3), none⟩ none,
  .op ⟨some 23, .bin true .add (.t 22) (.c (.int .i64 1)), none⟩ none,
  .op ⟨some 3, .mov (.t 23), none⟩ none])))
def h16_0 : LSh := ⟨[1, 3], ⟨[(.ptr 0 0), (.v (.int .i64))], [(0, (.boxT (.pair (.sl (.pair (.int .i64) (.pair (.int .i64) (.int .i64)))) (.sl (.pair (.int .i64) (.pair (.int .i64) (.pair (.int .i64) (.pair (.int .i64) (.pair (.int .i64) (.int .i64))))))))))]⟩, [(.int .i64), (.pair (.sl (.pair (.int .i64) (.pair (.int .i64) (.int .i64)))) (.sl (.pair (.int .i64) (.pair (.int .i64) (.pair (.int .i64) (.pair (.int .i64) (.pair (.int .i64) (.int .i64))))))))], 1, [0]⟩
def x16_0 : List XSh := [⟨.ret, [2], ⟨⟨[(.v .bool)], [(0, (.boxT (.pair (.sl (.pair (.int .i64) (.pair (.int .i64) (.int .i64)))) (.sl (.pair (.int .i64) (.pair (.int .i64) (.pair (.int .i64) (.pair (.int .i64) (.pair (.int .i64) (.int .i64))))))))))]⟩, [.bool, (.pair (.sl (.pair (.int .i64) (.pair (.int .i64) (.int .i64)))) (.sl (.pair (.int .i64) (.pair (.int .i64) (.pair (.int .i64) (.pair (.int .i64) (.pair (.int .i64) (.int .i64))))))))], [0], 1⟩⟩, ⟨(.exit 0), [1], ⟨⟨[(.ptr 0 0)], [(0, (.boxT (.pair (.sl (.pair (.int .i64) (.pair (.int .i64) (.int .i64)))) (.sl (.pair (.int .i64) (.pair (.int .i64) (.pair (.int .i64) (.pair (.int .i64) (.pair (.int .i64) (.int .i64))))))))))]⟩, [(.pair (.sl (.pair (.int .i64) (.pair (.int .i64) (.int .i64)))) (.sl (.pair (.int .i64) (.pair (.int .i64) (.pair (.int .i64) (.pair (.int .i64) (.pair (.int .i64) (.int .i64))))))))], [0], 1⟩⟩]
noncomputable def s16_0 (T : List FEnt) : Int × (List (Int × Int × Int)) × (List (Int × Int × Int × Int × Int × Int)) → Option ((Int × (List (Int × Int × Int)) × (List (Int × Int × Int × Int × Int × Int))) ⊕ ((Bool × (List (Int × Int × Int)) × (List (Int × Int × Int × Int × Int × Int))) ⊕ ((List (Int × Int × Int)) × (List (Int × Int × Int × Int × Int × Int))))) := dstep (xs := x16_0) h16_0 (dxc T b16_0)
noncomputable def l16_0 (T : List FEnt) : Int × (List (Int × Int × Int)) × (List (Int × Int × Int × Int × Int × Int)) → Option ((Bool × (List (Int × Int × Int)) × (List (Int × Int × Int × Int × Int × Int))) ⊕ ((List (Int × Int × Int)) × (List (Int × Int × Int × Int × Int × Int)))) := whileF (s16_0 T)
noncomputable def q16_0 (F12 : (List (Int × Int × Int)) × (List (Int × Int × Int × Int × Int × Int)) → Option (Int)) (a0 : Int) (a1 : (List (Int × Int × Int)) × (List (Int × Int × Int × Int × Int × Int))) : Option ((Int × (List (Int × Int × Int)) × (List (Int × Int × Int × Int × Int × Int))) ⊕ ((Bool × (List (Int × Int × Int)) × (List (Int × Int × Int × Int × Int × Int))) ⊕ ((List (Int × Int × Int)) × (List (Int × Int × Int × Int × Int × Int))))) :=
cond (decide (a0 < (↑(List.length a1.2) : Int))) (
chk (inR a0 (List.length a1.2)) (
cond (decide ((3 : Int) < (ix a1.2 a0).2.1)) (
some (Sum.inr (Sum.inl (true, a1)))) (
chk (fits .i64 (a0 + (1 : Int))) (
some (Sum.inl ((a0 + (1 : Int)), a1)))))) (
some (Sum.inr (Sum.inr a1)))
theorem g16_0 (F12 : (List (Int × Int × Int)) × (List (Int × Int × Int × Int × Int × Int)) → Option (Int)) (a0 : Int) (a1 : (List (Int × Int × Int)) × (List (Int × Int × Int × Int × Int × Int))) : s16_0 (T16 F12) (a0, a1) = q16_0 F12 a0 a1 := by kernel_rfl
noncomputable def p16_0 (a0 : Int) (a1 : (List (Int × Int × Int)) × (List (Int × Int × Int × Int × Int × Int))) : Option ((Int × (List (Int × Int × Int)) × (List (Int × Int × Int × Int × Int × Int))) ⊕ ((Bool × (List (Int × Int × Int)) × (List (Int × Int × Int × Int × Int × Int))) ⊕ ((List (Int × Int × Int)) × (List (Int × Int × Int × Int × Int × Int))))) := q16_0 P12 a0 a1
noncomputable def L16_0 : Int × (List (Int × Int × Int)) × (List (Int × Int × Int × Int × Int × Int)) → Option ((Bool × (List (Int × Int × Int)) × (List (Int × Int × Int × Int × Int × Int))) ⊕ ((List (Int × Int × Int)) × (List (Int × Int × Int × Int × Int × Int)))) := whileF (fun x => p16_0 x.1 x.2)
theorem v16_0 : l16_0 (T16 P12) = L16_0 := congrArg whileF (funext fun x => (g16_0 P12 x.1 x.2).trans (show q16_0 P12 x.1 x.2 = q16_0 P12 x.1 x.2 from rfl))
def c16 : DCode := (.seq (.reg [.op ⟨some 1, .box (.t 0), none⟩ none,
  .op ⟨some 2, .mov (.c (.bool false)), none⟩ none]) (.seq (.seq (.reg [.op ⟨some 4, .fld (.t 1) 0, none⟩ none,
  .op ⟨some 5, .ld1 (.t 4) false, none⟩ none,
  .op ⟨some 6, .len (.t 5), none⟩ none,
  .op ⟨some 7, .bin true .gtr (.t 6) (.c (.int .i64 40)), none⟩ none,
  .op ⟨some 8, .mov (.t 7), none⟩ none,
  .op ⟨some 9, .fld (.t 1) 1, some (8, false)⟩ none,
  .op ⟨some 10, .ld1 (.t 9) false, some (8, false)⟩ none,
  .op ⟨some 11, .len (.t 10), some (8, false)⟩ none,
  .op ⟨some 12, .bin true .gtr (.t 11) (.c (.int .i64 40)), some (8, false)⟩ none,
  .op ⟨some 13, .pick (.t 8) (.c (.bool true)) (.t 12), none⟩ none]) (.cond (.t 13) (.seq (.reg [.op ⟨some 2, .mov (.c (.bool true)), none⟩ none]) .ret) .skip)) (.seq (.seq (.reg [.op ⟨some 14, .ldn (.t 1) 2 false, none⟩ none,
  .op ⟨some 15, .xcall 12 [(.t 14)], none⟩ none,
  .op ⟨some 16, .bin true .neq (.t 15) (.c (.int .i64 0)), none⟩ none]) (.cond (.t 16) (.seq (.reg [.op ⟨some 2, .mov (.c (.bool false)), none⟩ none]) .ret) .skip)) (.seq (.seq (.reg [.op ⟨some 3, .mov (.c (.int .i64 0)), none⟩ none]) (.blk 0 (.loop h16_0 x16_0 b16_0))) (.seq (.reg [.op ⟨some 31, .fld (.t 1) 0, none⟩ none,
  .op ⟨some 32, .ld1 (.t 31) false, none⟩ none,
  .op ⟨some 33, .len (.t 32), none⟩ none,
  .op ⟨some 34, .bin true .gtr (.t 33) (.c (.int .i64 5)), none⟩ none,
  .op ⟨some 35, .mov (.t 34), none⟩ none,
  .op ⟨some 36, .fld (.t 1) 1, some (35, false)⟩ none,
  .op ⟨some 37, .ld1 (.t 36) false, some (35, false)⟩ none,
  .op ⟨some 38, .len (.t 37), some (35, false)⟩ none,
  .op ⟨some 39, .bin true .gtr (.t 38) (.c (.int .i64 4)), some (35, false)⟩ none,
  .op ⟨some 40, .pick (.t 35) (.c (.bool true)) (.t 39), none⟩ none,
  .op ⟨some 2, .mov (.t 40), none⟩ none]) .ret)))))
theorem ok16 : L.Fn Try.prog 16 41 [(.t 2)] (erase c16) := L.Fn.of hmix Try.func16 [] (by kernel_rfl)
def sh16 : FSh := ⟨⟨[(.st (.pair (.sl (.pair (.int .i64) (.pair (.int .i64) (.int .i64)))) (.sl (.pair (.int .i64) (.pair (.int .i64) (.pair (.int .i64) (.pair (.int .i64) (.pair (.int .i64) (.int .i64)))))))))], []⟩, [(.pair (.sl (.pair (.int .i64) (.pair (.int .i64) (.int .i64)))) (.sl (.pair (.int .i64) (.pair (.int .i64) (.pair (.int .i64) (.pair (.int .i64) (.pair (.int .i64) (.int .i64))))))))], 0, ⟨⟨[(.v .bool)], []⟩, [.bool], [], 0⟩, true⟩
noncomputable def q16 (F12 : (List (Int × Int × Int)) × (List (Int × Int × Int × Int × Int × Int)) → Option (Int)) (l16_0 : Int × (List (Int × Int × Int)) × (List (Int × Int × Int × Int × Int × Int)) → Option ((Bool × (List (Int × Int × Int)) × (List (Int × Int × Int × Int × Int × Int))) ⊕ ((List (Int × Int × Int)) × (List (Int × Int × Int × Int × Int × Int))))) (a0 : (List (Int × Int × Int)) × (List (Int × Int × Int × Int × Int × Int))) : Option (Bool) :=
cond (decide ((40 : Int) < (↑(List.length a0.1) : Int))) (
some true) (
cond (decide ((40 : Int) < (↑(List.length a0.2) : Int))) (
some true) (
(F12 a0).bind fun (r1 : Int) => (
cond (!decide (r1 = (0 : Int))) (
some false) (
(l16_0 ((0 : Int), a0)).bind (fun (y2 : (Bool × (List (Int × Int × Int)) × (List (Int × Int × Int × Int × Int × Int))) ⊕ ((List (Int × Int × Int)) × (List (Int × Int × Int × Int × Int × Int)))) => Sum.elim (fun (y3 : Bool × (List (Int × Int × Int)) × (List (Int × Int × Int × Int × Int × Int))) => (
some y3.1)) (fun (y4 : (List (Int × Int × Int)) × (List (Int × Int × Int × Int × Int × Int))) => (
cond (decide ((5 : Int) < (↑(List.length y4.1) : Int))) (
some true) (
some (decide ((4 : Int) < (↑(List.length y4.2) : Int)))))) y2)))))
theorem g16 (F12 : (List (Int × Int × Int)) × (List (Int × Int × Int × Int × Int × Int)) → Option (Int)) (a0 : (List (Int × Int × Int)) × (List (Int × Int × Int × Int × Int × Int))) : dxf (T16 F12) sh16 [(.t 2)] c16 a0 = q16 F12 (l16_0 (T16 F12)) a0 := by kernel_rfl
noncomputable def p16 (a0 : (List (Int × Int × Int)) × (List (Int × Int × Int × Int × Int × Int))) : Option (Bool) := q16 P12 L16_0 a0
noncomputable def P16 : (List (Int × Int × Int)) × (List (Int × Int × Int × Int × Int × Int)) → Option (Bool) := fun x => p16 x
theorem v16 : dxf (T16 P12) sh16 [(.t 2)] c16 = P16 := funext fun x => (g16 P12 x).trans (show q16 P12 (l16_0 (T16 P12)) x = q16 P12 L16_0 x from by rw [v16_0])
theorem d16 : DC Try.prog 16 sh16 P16 := DC_eq v16 (dxf_sound (sh := sh16) t16 ok16 (by kernel_rfl))
/-! bijou/bijoulaw07.ready -/
noncomputable def T21 (F16 : (List (Int × Int × Int)) × (List (Int × Int × Int × Int × Int × Int)) → Option (Bool)) (F12 : (List (Int × Int × Int)) × (List (Int × Int × Int × Int × Int × Int)) → Option (Int)) : List FEnt := [⟨16, sh16, F16⟩, ⟨12, sh12, F12⟩]
theorem t21 : DTblOK Try.prog (T21 P16 P12) := (DTbl_cons' (f := 16) (sh := sh16) (F := P16) d16 (by kernel_rfl) (DTbl_cons' (f := 12) (sh := sh12) (F := P12) d12 (by kernel_rfl) DTbl_nil))
def c21 : DCode := (.seq (.reg [.op ⟨some 1, .box (.t 0), none⟩ none,
  .op ⟨some 2, .mov (.c (.bool false)), none⟩ none]) (.seq (.reg [.op ⟨some 3, .ldn (.t 1) 2 false, none⟩ none,
  .op ⟨some 4, .xcall 16 [(.t 3)], none⟩ none,
  .op ⟨some 5, .unot (.t 4), none⟩ none,
  .op ⟨some 6, .mov (.t 5), none⟩ none,
  .op ⟨some 7, .ldn (.t 1) 2 false, some (6, true)⟩ none,
  .op ⟨some 8, .xcall 12 [(.t 7)], some (6, true)⟩ none,
  .op ⟨some 9, .bin true .eql (.t 8) (.c (.int .i64 0)), some (6, true)⟩ none,
  .op ⟨some 10, .pick (.t 6) (.t 9) (.c (.bool false)), none⟩ none,
  .op ⟨some 2, .mov (.t 10), none⟩ none]) .ret))
theorem ok21 : L.Fn Try.prog 21 11 [(.t 2)] (erase c21) := L.Fn.of hmix Try.func21 [] (by kernel_rfl)
def sh21 : FSh := ⟨⟨[(.st (.pair (.sl (.pair (.int .i64) (.pair (.int .i64) (.int .i64)))) (.sl (.pair (.int .i64) (.pair (.int .i64) (.pair (.int .i64) (.pair (.int .i64) (.pair (.int .i64) (.int .i64)))))))))], []⟩, [(.pair (.sl (.pair (.int .i64) (.pair (.int .i64) (.int .i64)))) (.sl (.pair (.int .i64) (.pair (.int .i64) (.pair (.int .i64) (.pair (.int .i64) (.pair (.int .i64) (.int .i64))))))))], 0, ⟨⟨[(.v .bool)], []⟩, [.bool], [], 0⟩, true⟩
noncomputable def q21 (F16 : (List (Int × Int × Int)) × (List (Int × Int × Int × Int × Int × Int)) → Option (Bool)) (F12 : (List (Int × Int × Int)) × (List (Int × Int × Int × Int × Int × Int)) → Option (Int)) (a0 : (List (Int × Int × Int)) × (List (Int × Int × Int × Int × Int × Int))) : Option (Bool) :=
(F16 a0).bind fun (r1 : Bool) => (
cond (!r1) (
(F12 a0).bind fun (r2 : Int) => (
some (decide (r2 = (0 : Int))))) (
some false))
theorem g21 (F16 : (List (Int × Int × Int)) × (List (Int × Int × Int × Int × Int × Int)) → Option (Bool)) (F12 : (List (Int × Int × Int)) × (List (Int × Int × Int × Int × Int × Int)) → Option (Int)) (a0 : (List (Int × Int × Int)) × (List (Int × Int × Int × Int × Int × Int))) : dxf (T21 F16 F12) sh21 [(.t 2)] c21 a0 = q21 F16 F12 a0 := by kernel_rfl
noncomputable def p21 (a0 : (List (Int × Int × Int)) × (List (Int × Int × Int × Int × Int × Int))) : Option (Bool) := q21 P16 P12 a0
noncomputable def P21 : (List (Int × Int × Int)) × (List (Int × Int × Int × Int × Int × Int)) → Option (Bool) := fun x => p21 x
theorem v21 : dxf (T21 P16 P12) sh21 [(.t 2)] c21 = P21 := funext fun x => (g21 P16 P12 x).trans (show q21 P16 P12 x = q21 P16 P12 x from rfl)
theorem d21 : DC Try.prog 21 sh21 P21 := DC_eq v21 (dxf_sound (sh := sh21) t21 ok21 (by kernel_rfl))
/-! bijou/bijoulaw07.PromiseRoom -/
noncomputable def T5 (F21 : (List (Int × Int × Int)) × (List (Int × Int × Int × Int × Int × Int)) → Option (Bool)) (F9 : Unit → Option (Bool)) (F22 : (List (Int × Int × Int)) × (List (Int × Int × Int × Int × Int × Int)) → Option (Int × Int)) (F10 : (List (Int × Int × Int)) × (List (Int × Int × Int × Int × Int × Int)) → Option ((List (Int × Int × Int)) × (List (Int × Int × Int × Int × Int × Int)))) : List FEnt := [⟨21, sh21, F21⟩, ⟨9, sh9, F9⟩, ⟨22, sh22, F22⟩, ⟨10, sh10, F10⟩]
theorem t5 : DTblOK Try.prog (T5 P21 P9 P22 P10) := (DTbl_cons' (f := 21) (sh := sh21) (F := P21) d21 (by kernel_rfl) (DTbl_cons' (f := 9) (sh := sh9) (F := P9) d9 (by kernel_rfl) (DTbl_cons' (f := 22) (sh := sh22) (F := P22) d22 (by kernel_rfl) (DTbl_cons' (f := 10) (sh := sh10) (F := P10) d10 (by kernel_rfl) DTbl_nil))))
def b5_0 : DCode := (.seq (.reg [.op ⟨some 57, .fld (.t 3) 0, none⟩ none,
  .op ⟨some 58, .ld1 (.t 57) false, none⟩ none,
  .op ⟨some 59, .bin true .geq (.t 58) (.c (.int .i64 0)), none⟩ none,
  .op ⟨some 60, .mov (.t 59), none⟩ none,
  .op ⟨some 61, .fld (.t 3) 0, some (60, true)⟩ none,
  .op ⟨some 62, .ld1 (.t 61) false, some (60, true)⟩ none,
  .op ⟨some 63, .fld (.t 7) 0, some (60, true)⟩ none,
  .op ⟨some 64, .ld1 (.t 63) false, some (60, true)⟩ none,
  .op ⟨some 65, .len (.t 64), some (60, true)⟩ none,
  .op ⟨some 66, .bin true .lss (.t 62) (.t 65), some (60, true)⟩ none,
  .op ⟨some 67, .pick (.t 60) (.t 66) (.c (.bool false)), none⟩ none]) (.cond (.t 67) (.drw [] [(⟨some 68, .fld (.t 7) 0, none⟩, none),
  (⟨some 69, .ld1 (.t 68) false, none⟩, none),
  (⟨some 70, .fld (.t 3) 0, none⟩, none),
  (⟨some 71, .ld1 (.t 70) false, none⟩, none),
  (⟨some 72, .fld (.t 7) 0, none⟩, none),
  (⟨some 73, .ld1 (.t 72) false, none⟩, none),
  (⟨some 74, .fld (.t 3) 0, none⟩, none),
  (⟨some 75, .ld1 (.t 74) false, none⟩, none),
  (⟨some 76, .idx (.t 73) (.t 75) 3, none⟩, none),
  (⟨some 77, .fld (.t 76) 2, none⟩, none),
  (⟨some 78, .ld1 (.t 77) false, none⟩, none),
  (⟨some 79, .fld (.t 3) 1, none⟩, none),
  (⟨some 80, .ld1 (.t 79) false, none⟩, none),
  (⟨some 81, .bin true .add (.t 78) (.t 80), none⟩, none),
  (⟨some 82, .mnx false (.c (.int .i64 6)) (.t 81), none⟩, none),
  (⟨some 83, .idx (.t 69) (.t 71) 3, none⟩, none),
  (⟨some 84, .fld (.t 83) 2, none⟩, none),
  (⟨none, .sto (.t 84) (.t 82) 1, none⟩, none)]) .skip))
def h5_0 : LSh := ⟨[2, 3, 5, 7], ⟨[(.ptr 0 0), (.ptr 1 0), (.v (.int .i64)), (.ptr 2 0)], [(0, (.boxT (.pair (.sl (.pair (.int .i64) (.pair (.int .i64) (.int .i64)))) (.sl (.pair (.int .i64) (.pair (.int .i64) (.pair (.int .i64) (.pair (.int .i64) (.pair (.int .i64) (.int .i64)))))))))), (1, (.boxT (.pair (.int .i64) (.pair (.int .i64) (.pair (.int .i64) (.pair (.int .i64) (.pair (.int .i64) (.pair (.int .i64) (.pair (.int .i64) (.int .i64)))))))))), (2, (.box [(.slc 3), (.slc 4)])), (3, (.row 43 (.pair (.int .i64) (.pair (.int .i64) (.int .i64))))), (4, (.row 50 (.pair (.int .i64) (.pair (.int .i64) (.pair (.int .i64) (.pair (.int .i64) (.pair (.int .i64) (.int .i64))))))))]⟩, [(.int .i64), (.pair (.sl (.pair (.int .i64) (.pair (.int .i64) (.int .i64)))) (.sl (.pair (.int .i64) (.pair (.int .i64) (.pair (.int .i64) (.pair (.int .i64) (.pair (.int .i64) (.int .i64)))))))), (.pair (.int .i64) (.pair (.int .i64) (.pair (.int .i64) (.pair (.int .i64) (.pair (.int .i64) (.pair (.int .i64) (.pair (.int .i64) (.int .i64)))))))), (.sl (.pair (.int .i64) (.pair (.int .i64) (.int .i64)))), (.sl (.pair (.int .i64) (.pair (.int .i64) (.pair (.int .i64) (.pair (.int .i64) (.pair (.int .i64) (.int .i64)))))))], 5, [0, 1, 2, 3, 4]⟩
def x5_0 : List XSh := [⟨.normal, [2, 3, 5, 7], ⟨⟨[(.ptr 0 0), (.ptr 1 0), (.v (.int .i64)), (.ptr 2 0)], [(0, (.boxT (.pair (.sl (.pair (.int .i64) (.pair (.int .i64) (.int .i64)))) (.sl (.pair (.int .i64) (.pair (.int .i64) (.pair (.int .i64) (.pair (.int .i64) (.pair (.int .i64) (.int .i64)))))))))), (1, (.boxT (.pair (.int .i64) (.pair (.int .i64) (.pair (.int .i64) (.pair (.int .i64) (.pair (.int .i64) (.pair (.int .i64) (.pair (.int .i64) (.int .i64)))))))))), (2, (.box [(.slc 3), (.slc 4)])), (3, (.row 43 (.pair (.int .i64) (.pair (.int .i64) (.int .i64))))), (4, (.row 50 (.pair (.int .i64) (.pair (.int .i64) (.pair (.int .i64) (.pair (.int .i64) (.pair (.int .i64) (.int .i64))))))))]⟩, [(.int .i64), (.pair (.sl (.pair (.int .i64) (.pair (.int .i64) (.int .i64)))) (.sl (.pair (.int .i64) (.pair (.int .i64) (.pair (.int .i64) (.pair (.int .i64) (.pair (.int .i64) (.int .i64)))))))), (.pair (.int .i64) (.pair (.int .i64) (.pair (.int .i64) (.pair (.int .i64) (.pair (.int .i64) (.pair (.int .i64) (.pair (.int .i64) (.int .i64)))))))), (.sl (.pair (.int .i64) (.pair (.int .i64) (.int .i64)))), (.sl (.pair (.int .i64) (.pair (.int .i64) (.pair (.int .i64) (.pair (.int .i64) (.pair (.int .i64) (.int .i64)))))))], [0, 1, 2, 3, 4], 5⟩⟩]
noncomputable def l5_0 (T : List FEnt) : Int × ((List (Int × Int × Int)) × (List (Int × Int × Int × Int × Int × Int))) × (Int × Int × Int × Int × Int × Int × Int × Int) × (List (Int × Int × Int)) × (List (Int × Int × Int × Int × Int × Int)) → Option (Int × ((List (Int × Int × Int)) × (List (Int × Int × Int × Int × Int × Int))) × (Int × Int × Int × Int × Int × Int × Int × Int) × (List (Int × Int × Int)) × (List (Int × Int × Int × Int × Int × Int))) := onceF (xs := x5_0) h5_0 (dxc T b5_0)
noncomputable def q5_0 (F21 : (List (Int × Int × Int)) × (List (Int × Int × Int × Int × Int × Int)) → Option (Bool)) (F9 : Unit → Option (Bool)) (F22 : (List (Int × Int × Int)) × (List (Int × Int × Int × Int × Int × Int)) → Option (Int × Int)) (F10 : (List (Int × Int × Int)) × (List (Int × Int × Int × Int × Int × Int)) → Option ((List (Int × Int × Int)) × (List (Int × Int × Int × Int × Int × Int)))) (a0 : Int) (a1 : (List (Int × Int × Int)) × (List (Int × Int × Int × Int × Int × Int))) (a2 : Int × Int × Int × Int × Int × Int × Int × Int) (a3 : List (Int × Int × Int)) (a4 : List (Int × Int × Int × Int × Int × Int)) : Option (Int × ((List (Int × Int × Int)) × (List (Int × Int × Int × Int × Int × Int))) × (Int × Int × Int × Int × Int × Int × Int × Int) × (List (Int × Int × Int)) × (List (Int × Int × Int × Int × Int × Int))) :=
cond (decide ((0 : Int) ≤ a2.1)) (
cond (decide (a2.1 < (↑(List.length a3) : Int))) (
chk (inR a2.1 (List.length a3)) (
chk (fits .i64 ((ix a3 a2.1).2.2 + a2.2.1)) (
chk (inR a2.1 (List.length a3)) (
some (a0, a1, a2, (List.set a3 (Int.toNat a2.1) ((ix a3 a2.1).1, ((ix a3 a2.1).2.1, (min (6 : Int) ((ix a3 a2.1).2.2 + a2.2.1))))), a4))))) (
some (a0, a1, a2, a3, a4))) (
some (a0, a1, a2, a3, a4))
theorem g5_0 (F21 : (List (Int × Int × Int)) × (List (Int × Int × Int × Int × Int × Int)) → Option (Bool)) (F9 : Unit → Option (Bool)) (F22 : (List (Int × Int × Int)) × (List (Int × Int × Int × Int × Int × Int)) → Option (Int × Int)) (F10 : (List (Int × Int × Int)) × (List (Int × Int × Int × Int × Int × Int)) → Option ((List (Int × Int × Int)) × (List (Int × Int × Int × Int × Int × Int)))) (a0 : Int) (a1 : (List (Int × Int × Int)) × (List (Int × Int × Int × Int × Int × Int))) (a2 : Int × Int × Int × Int × Int × Int × Int × Int) (a3 : List (Int × Int × Int)) (a4 : List (Int × Int × Int × Int × Int × Int)) : l5_0 (T5 F21 F9 F22 F10) (a0, a1, a2, a3, a4) = q5_0 F21 F9 F22 F10 a0 a1 a2 a3 a4 := by kernel_rfl
noncomputable def p5_0 (a0 : Int) (a1 : (List (Int × Int × Int)) × (List (Int × Int × Int × Int × Int × Int))) (a2 : Int × Int × Int × Int × Int × Int × Int × Int) (a3 : List (Int × Int × Int)) (a4 : List (Int × Int × Int × Int × Int × Int)) : Option (Int × ((List (Int × Int × Int)) × (List (Int × Int × Int × Int × Int × Int))) × (Int × Int × Int × Int × Int × Int × Int × Int) × (List (Int × Int × Int)) × (List (Int × Int × Int × Int × Int × Int))) := q5_0 P21 P9 P22 P10 a0 a1 a2 a3 a4
noncomputable def L5_0 : Int × ((List (Int × Int × Int)) × (List (Int × Int × Int × Int × Int × Int))) × (Int × Int × Int × Int × Int × Int × Int × Int) × (List (Int × Int × Int)) × (List (Int × Int × Int × Int × Int × Int)) → Option (Int × ((List (Int × Int × Int)) × (List (Int × Int × Int × Int × Int × Int))) × (Int × Int × Int × Int × Int × Int × Int × Int) × (List (Int × Int × Int)) × (List (Int × Int × Int × Int × Int × Int))) := fun x => p5_0 x.1 x.2.1 x.2.2.1 x.2.2.2.1 x.2.2.2.2
theorem v5_0 : l5_0 (T5 P21 P9 P22 P10) = L5_0 := funext fun x => (g5_0 P21 P9 P22 P10 x.1 x.2.1 x.2.2.1 x.2.2.2.1 x.2.2.2.2).trans (show q5_0 P21 P9 P22 P10 x.1 x.2.1 x.2.2.1 x.2.2.2.1 x.2.2.2.2 = q5_0 P21 P9 P22 P10 x.1 x.2.1 x.2.2.1 x.2.2.2.1 x.2.2.2.2 from rfl)
def b5_1 : DCode := (.seq (.reg [.op ⟨some 85, .fld (.t 3) 2, none⟩ none,
  .op ⟨some 86, .ld1 (.t 85) false, none⟩ none,
  .op ⟨some 87, .bin true .geq (.t 86) (.c (.int .i64 0)), none⟩ none,
  .op ⟨some 88, .mov (.t 87), none⟩ none,
  .op ⟨some 89, .fld (.t 3) 2, some (88, true)⟩ none,
  .op ⟨some 90, .ld1 (.t 89) false, some (88, true)⟩ none,
  .op ⟨some 91, .fld (.t 7) 1, some (88, true)⟩ none,
  .op ⟨some 92, .ld1 (.t 91) false, some (88, true)⟩ none,
  .op ⟨some 93, .len (.t 92), some (88, true)⟩ none,
  .op ⟨some 94, .bin true .lss (.t 90) (.t 93), some (88, true)⟩ none,
  .op ⟨some 95, .pick (.t 88) (.t 94) (.c (.bool false)), none⟩ none]) (.cond (.t 95) (.seq (.reg [.op ⟨some 96, .fld (.t 7) 1, none⟩ none,
  .op ⟨some 97, .ld1 (.t 96) false, none⟩ none,
  .op ⟨some 98, .fld (.t 3) 2, none⟩ none,
  .op ⟨some 99, .ld1 (.t 98) false, none⟩ none,
  .op ⟨some 100, .idx (.t 97) (.t 99) 6, none⟩ none,
  .op ⟨some 101, .ldn (.t 100) 6 false, none⟩ none,
  .op ⟨some 8, .alc [(.int .i64 0), (.int .i64 0), (.int .i64 0), (.int .i64 0), (.int .i64 0), (.int .i64 0)], none⟩ none,
  .op ⟨none, .sto (.t 8) (.t 101) 6, none⟩ none]) (.seq (.reg [.op ⟨some 102, .fld (.t 8) 2, none⟩ none,
  .op ⟨some 103, .fld (.t 102) 0, none⟩ none,
  .op ⟨some 104, .ld1 (.t 103) false, none⟩ none,
  .op ⟨some 105, .fld (.t 3) 3, none⟩ none,
  .op ⟨some 106, .ld1 (.t 105) false, none⟩ none,
  .op ⟨some 107, .bin true .sub (.t 104) (.t 106), none⟩ none,
  .op ⟨some 108, .mnx true (.c (.int .i64 0)) (.t 107), none⟩ none,
  .op ⟨some 109, .fld (.t 8) 2, none⟩ none,
  .op ⟨some 110, .fld (.t 109) 1, none⟩ none,
  .op ⟨some 111, .ld1 (.t 110) false, none⟩ none,
  .op ⟨some 112, .fld (.t 3) 3, none⟩ none,
  .op ⟨some 113, .ld1 (.t 112) false, none⟩ none,
  .op ⟨some 114, .bin true .add (.t 111) (.t 113), none⟩ none,
  .op ⟨some 115, .mnx false (.c (.int .i64 9)) (.t 114), none⟩ none,
  .op ⟨some 116, .bld [(.int .i64 0), (.int .i64 0)] [(0, (1, (.t 108))), (1, (1, (.t 115)))], none⟩ none,
  .op ⟨some 117, .fld (.t 8) 2, none⟩ none,
  .op ⟨none, .sto (.t 117) (.t 116) 2, none⟩ none]) (.seq (.drw [3] [(⟨some 118, .fld (.t 8) 4, none⟩, none),
  (⟨some 119, .ld1 (.t 118) false, none⟩, none),
  (⟨some 120, .fld (.t 3) 4, none⟩, none),
  (⟨some 121, .ld1 (.t 120) true, none⟩, none),
  (⟨some 122, .bin true .sub (.t 119) (.t 121), none⟩, none),
  (⟨some 123, .mnx true (.c (.int .i64 0)) (.t 122), none⟩, none),
  (⟨some 124, .fld (.t 8) 5, none⟩, none),
  (⟨some 125, .ld1 (.t 124) false, none⟩, none),
  (⟨some 126, .fld (.t 3) 4, none⟩, none),
  (⟨some 127, .ld1 (.t 126) true, none⟩, none),
  (⟨some 128, .bin true .add (.t 125) (.t 127), none⟩, none),
  (⟨some 129, .mnx false (.c (.int .i64 99)) (.t 128), none⟩, none),
  (⟨some 130, .fld (.t 8) 4, none⟩, none),
  (⟨none, .sto (.t 130) (.t 123) 1, none⟩, none),
  (⟨some 131, .fld (.t 8) 5, none⟩, none),
  (⟨none, .sto (.t 131) (.t 129) 1, none⟩, none)]) (.reg [.op ⟨some 132, .fld (.t 7) 1, none⟩ none,
  .op ⟨some 133, .ld1 (.t 132) false, none⟩ none,
  .op ⟨some 134, .fld (.t 3) 2, none⟩ none,
  .op ⟨some 135, .ld1 (.t 134) false, none⟩ none,
  .op ⟨some 136, .ldn (.t 8) 6 false, none⟩ none,
  .op ⟨some 137, .idx (.t 133) (.t 135) 6, none⟩ none,
  .op ⟨none, .sto (.t 137) (.t 136) 6, none⟩ none])))) .skip))
def h5_1 : LSh := ⟨[2, 3, 5, 7], ⟨[(.ptr 0 0), (.ptr 1 0), (.v (.int .i64)), (.ptr 2 0)], [(0, (.boxT (.pair (.sl (.pair (.int .i64) (.pair (.int .i64) (.int .i64)))) (.sl (.pair (.int .i64) (.pair (.int .i64) (.pair (.int .i64) (.pair (.int .i64) (.pair (.int .i64) (.int .i64)))))))))), (1, (.boxT (.pair (.int .i64) (.pair (.int .i64) (.pair (.int .i64) (.pair (.int .i64) (.pair (.int .i64) (.pair (.int .i64) (.pair (.int .i64) (.int .i64)))))))))), (2, (.box [(.slc 3), (.slc 4)])), (3, (.row 43 (.pair (.int .i64) (.pair (.int .i64) (.int .i64))))), (4, (.row 50 (.pair (.int .i64) (.pair (.int .i64) (.pair (.int .i64) (.pair (.int .i64) (.pair (.int .i64) (.int .i64))))))))]⟩, [(.int .i64), (.pair (.sl (.pair (.int .i64) (.pair (.int .i64) (.int .i64)))) (.sl (.pair (.int .i64) (.pair (.int .i64) (.pair (.int .i64) (.pair (.int .i64) (.pair (.int .i64) (.int .i64)))))))), (.pair (.int .i64) (.pair (.int .i64) (.pair (.int .i64) (.pair (.int .i64) (.pair (.int .i64) (.pair (.int .i64) (.pair (.int .i64) (.int .i64)))))))), (.sl (.pair (.int .i64) (.pair (.int .i64) (.int .i64)))), (.sl (.pair (.int .i64) (.pair (.int .i64) (.pair (.int .i64) (.pair (.int .i64) (.pair (.int .i64) (.int .i64)))))))], 5, [0, 1, 2, 3, 4]⟩
def x5_1 : List XSh := [⟨.normal, [2, 3, 5, 7], ⟨⟨[(.ptr 0 0), (.ptr 1 0), (.v (.int .i64)), (.ptr 2 0)], [(0, (.boxT (.pair (.sl (.pair (.int .i64) (.pair (.int .i64) (.int .i64)))) (.sl (.pair (.int .i64) (.pair (.int .i64) (.pair (.int .i64) (.pair (.int .i64) (.pair (.int .i64) (.int .i64)))))))))), (1, (.boxT (.pair (.int .i64) (.pair (.int .i64) (.pair (.int .i64) (.pair (.int .i64) (.pair (.int .i64) (.pair (.int .i64) (.pair (.int .i64) (.int .i64)))))))))), (2, (.box [(.slc 3), (.slc 4)])), (3, (.row 43 (.pair (.int .i64) (.pair (.int .i64) (.int .i64))))), (4, (.row 50 (.pair (.int .i64) (.pair (.int .i64) (.pair (.int .i64) (.pair (.int .i64) (.pair (.int .i64) (.int .i64))))))))]⟩, [(.int .i64), (.pair (.sl (.pair (.int .i64) (.pair (.int .i64) (.int .i64)))) (.sl (.pair (.int .i64) (.pair (.int .i64) (.pair (.int .i64) (.pair (.int .i64) (.pair (.int .i64) (.int .i64)))))))), (.pair (.int .i64) (.pair (.int .i64) (.pair (.int .i64) (.pair (.int .i64) (.pair (.int .i64) (.pair (.int .i64) (.pair (.int .i64) (.int .i64)))))))), (.sl (.pair (.int .i64) (.pair (.int .i64) (.int .i64)))), (.sl (.pair (.int .i64) (.pair (.int .i64) (.pair (.int .i64) (.pair (.int .i64) (.pair (.int .i64) (.int .i64)))))))], [0, 1, 2, 3, 4], 5⟩⟩]
noncomputable def l5_1 (T : List FEnt) : Int × ((List (Int × Int × Int)) × (List (Int × Int × Int × Int × Int × Int))) × (Int × Int × Int × Int × Int × Int × Int × Int) × (List (Int × Int × Int)) × (List (Int × Int × Int × Int × Int × Int)) → Option (Int × ((List (Int × Int × Int)) × (List (Int × Int × Int × Int × Int × Int))) × (Int × Int × Int × Int × Int × Int × Int × Int) × (List (Int × Int × Int)) × (List (Int × Int × Int × Int × Int × Int))) := onceF (xs := x5_1) h5_1 (dxc T b5_1)
noncomputable def q5_1 (F21 : (List (Int × Int × Int)) × (List (Int × Int × Int × Int × Int × Int)) → Option (Bool)) (F9 : Unit → Option (Bool)) (F22 : (List (Int × Int × Int)) × (List (Int × Int × Int × Int × Int × Int)) → Option (Int × Int)) (F10 : (List (Int × Int × Int)) × (List (Int × Int × Int × Int × Int × Int)) → Option ((List (Int × Int × Int)) × (List (Int × Int × Int × Int × Int × Int)))) (a0 : Int) (a1 : (List (Int × Int × Int)) × (List (Int × Int × Int × Int × Int × Int))) (a2 : Int × Int × Int × Int × Int × Int × Int × Int) (a3 : List (Int × Int × Int)) (a4 : List (Int × Int × Int × Int × Int × Int)) : Option (Int × ((List (Int × Int × Int)) × (List (Int × Int × Int × Int × Int × Int))) × (Int × Int × Int × Int × Int × Int × Int × Int) × (List (Int × Int × Int)) × (List (Int × Int × Int × Int × Int × Int))) :=
cond (decide ((0 : Int) ≤ a2.2.2.1)) (
cond (decide (a2.2.2.1 < (↑(List.length a4) : Int))) (
chk (inR a2.2.2.1 (List.length a4)) (
chk (fits .i64 ((ix a4 a2.2.2.1).2.2.1 - a2.2.2.2.1)) (
chk (fits .i64 ((ix a4 a2.2.2.1).2.2.2.1 + a2.2.2.2.1)) (
chk (fits .i64 ((ix a4 a2.2.2.1).2.2.2.2.1 - a2.2.2.2.2.1)) (
chk (fits .i64 ((ix a4 a2.2.2.1).2.2.2.2.2 + a2.2.2.2.2.1)) (
chk (inR a2.2.2.1 (List.length a4)) (
some (a0, a1, a2, a3, (List.set a4 (Int.toNat a2.2.2.1) ((ix a4 a2.2.2.1).1, ((ix a4 a2.2.2.1).2.1, ((max (0 : Int) ((ix a4 a2.2.2.1).2.2.1 - a2.2.2.2.1)), ((min (9 : Int) ((ix a4 a2.2.2.1).2.2.2.1 + a2.2.2.2.1)), ((max (0 : Int) ((ix a4 a2.2.2.1).2.2.2.2.1 - a2.2.2.2.2.1)), (min (99 : Int) ((ix a4 a2.2.2.1).2.2.2.2.2 + a2.2.2.2.2.1)))))))))))))))) (
some (a0, a1, a2, a3, a4))) (
some (a0, a1, a2, a3, a4))
theorem g5_1 (F21 : (List (Int × Int × Int)) × (List (Int × Int × Int × Int × Int × Int)) → Option (Bool)) (F9 : Unit → Option (Bool)) (F22 : (List (Int × Int × Int)) × (List (Int × Int × Int × Int × Int × Int)) → Option (Int × Int)) (F10 : (List (Int × Int × Int)) × (List (Int × Int × Int × Int × Int × Int)) → Option ((List (Int × Int × Int)) × (List (Int × Int × Int × Int × Int × Int)))) (a0 : Int) (a1 : (List (Int × Int × Int)) × (List (Int × Int × Int × Int × Int × Int))) (a2 : Int × Int × Int × Int × Int × Int × Int × Int) (a3 : List (Int × Int × Int)) (a4 : List (Int × Int × Int × Int × Int × Int)) : l5_1 (T5 F21 F9 F22 F10) (a0, a1, a2, a3, a4) = q5_1 F21 F9 F22 F10 a0 a1 a2 a3 a4 := by kernel_rfl
noncomputable def p5_1 (a0 : Int) (a1 : (List (Int × Int × Int)) × (List (Int × Int × Int × Int × Int × Int))) (a2 : Int × Int × Int × Int × Int × Int × Int × Int) (a3 : List (Int × Int × Int)) (a4 : List (Int × Int × Int × Int × Int × Int)) : Option (Int × ((List (Int × Int × Int)) × (List (Int × Int × Int × Int × Int × Int))) × (Int × Int × Int × Int × Int × Int × Int × Int) × (List (Int × Int × Int)) × (List (Int × Int × Int × Int × Int × Int))) := q5_1 P21 P9 P22 P10 a0 a1 a2 a3 a4
noncomputable def L5_1 : Int × ((List (Int × Int × Int)) × (List (Int × Int × Int × Int × Int × Int))) × (Int × Int × Int × Int × Int × Int × Int × Int) × (List (Int × Int × Int)) × (List (Int × Int × Int × Int × Int × Int)) → Option (Int × ((List (Int × Int × Int)) × (List (Int × Int × Int × Int × Int × Int))) × (Int × Int × Int × Int × Int × Int × Int × Int) × (List (Int × Int × Int)) × (List (Int × Int × Int × Int × Int × Int))) := fun x => p5_1 x.1 x.2.1 x.2.2.1 x.2.2.2.1 x.2.2.2.2
theorem v5_1 : l5_1 (T5 P21 P9 P22 P10) = L5_1 := funext fun x => (g5_1 P21 P9 P22 P10 x.1 x.2.1 x.2.2.1 x.2.2.2.1 x.2.2.2.2).trans (show q5_1 P21 P9 P22 P10 x.1 x.2.1 x.2.2.1 x.2.2.2.1 x.2.2.2.2 = q5_1 P21 P9 P22 P10 x.1 x.2.1 x.2.2.1 x.2.2.2.1 x.2.2.2.2 from rfl)
def b5_2 : DCode := (.seq (.reg [.op ⟨some 138, .fld (.t 7) 0, none⟩ none,
  .op ⟨some 139, .ld1 (.t 138) false, none⟩ none,
  .op ⟨some 140, .len (.t 139), none⟩ none,
  .op ⟨some 141, .bin true .lss (.t 140) (.c (.int .i64 5)), none⟩ none]) (.cond (.t 141) (.reg [.op ⟨some 142, .fld (.t 7) 0, none⟩ none,
  .op ⟨some 143, .ld1 (.t 142) false, none⟩ none,
  .op ⟨some 144, .fld (.t 3) 5, none⟩ none,
  .op ⟨some 145, .ldn (.t 144) 3 false, none⟩ none,
  .op ⟨some 146, .bsr 43 3 [(.t 145)], none⟩ (some (true, (.pair (.int .i64) (.pair (.int .i64) (.int .i64))))),
  .op ⟨some 147, .app 43 3 24 (.t 143) (.t 146), none⟩ (some (true, (.pair (.int .i64) (.pair (.int .i64) (.int .i64))))),
  .op ⟨some 148, .fld (.t 7) 0, none⟩ none,
  .op ⟨none, .sto (.t 148) (.t 147) 1, none⟩ none]) .skip))
def h5_2 : LSh := ⟨[2, 3, 5, 7], ⟨[(.ptr 0 0), (.ptr 1 0), (.v (.int .i64)), (.ptr 2 0)], [(0, (.boxT (.pair (.sl (.pair (.int .i64) (.pair (.int .i64) (.int .i64)))) (.sl (.pair (.int .i64) (.pair (.int .i64) (.pair (.int .i64) (.pair (.int .i64) (.pair (.int .i64) (.int .i64)))))))))), (1, (.boxT (.pair (.int .i64) (.pair (.int .i64) (.pair (.int .i64) (.pair (.int .i64) (.pair (.int .i64) (.pair (.int .i64) (.pair (.int .i64) (.int .i64)))))))))), (2, (.box [(.slc 3), (.slc 4)])), (3, (.row 43 (.pair (.int .i64) (.pair (.int .i64) (.int .i64))))), (4, (.row 50 (.pair (.int .i64) (.pair (.int .i64) (.pair (.int .i64) (.pair (.int .i64) (.pair (.int .i64) (.int .i64))))))))]⟩, [(.int .i64), (.pair (.sl (.pair (.int .i64) (.pair (.int .i64) (.int .i64)))) (.sl (.pair (.int .i64) (.pair (.int .i64) (.pair (.int .i64) (.pair (.int .i64) (.pair (.int .i64) (.int .i64)))))))), (.pair (.int .i64) (.pair (.int .i64) (.pair (.int .i64) (.pair (.int .i64) (.pair (.int .i64) (.pair (.int .i64) (.pair (.int .i64) (.int .i64)))))))), (.sl (.pair (.int .i64) (.pair (.int .i64) (.int .i64)))), (.sl (.pair (.int .i64) (.pair (.int .i64) (.pair (.int .i64) (.pair (.int .i64) (.pair (.int .i64) (.int .i64)))))))], 5, [0, 1, 2, 4]⟩
def x5_2 : List XSh := [⟨.normal, [2, 3, 5, 7], ⟨⟨[(.ptr 0 0), (.ptr 1 0), (.v (.int .i64)), (.ptr 2 0)], [(0, (.boxT (.pair (.sl (.pair (.int .i64) (.pair (.int .i64) (.int .i64)))) (.sl (.pair (.int .i64) (.pair (.int .i64) (.pair (.int .i64) (.pair (.int .i64) (.pair (.int .i64) (.int .i64)))))))))), (1, (.boxT (.pair (.int .i64) (.pair (.int .i64) (.pair (.int .i64) (.pair (.int .i64) (.pair (.int .i64) (.pair (.int .i64) (.pair (.int .i64) (.int .i64)))))))))), (2, (.box [(.slc 5), (.slc 4)])), (4, (.row 50 (.pair (.int .i64) (.pair (.int .i64) (.pair (.int .i64) (.pair (.int .i64) (.pair (.int .i64) (.int .i64)))))))), (5, (.row 43 (.pair (.int .i64) (.pair (.int .i64) (.int .i64)))))]⟩, [(.int .i64), (.pair (.sl (.pair (.int .i64) (.pair (.int .i64) (.int .i64)))) (.sl (.pair (.int .i64) (.pair (.int .i64) (.pair (.int .i64) (.pair (.int .i64) (.pair (.int .i64) (.int .i64)))))))), (.pair (.int .i64) (.pair (.int .i64) (.pair (.int .i64) (.pair (.int .i64) (.pair (.int .i64) (.pair (.int .i64) (.pair (.int .i64) (.int .i64)))))))), (.sl (.pair (.int .i64) (.pair (.int .i64) (.pair (.int .i64) (.pair (.int .i64) (.pair (.int .i64) (.int .i64))))))), (.sl (.pair (.int .i64) (.pair (.int .i64) (.int .i64))))], [0, 1, 2, 4], 6⟩⟩]
noncomputable def l5_2 (T : List FEnt) : Int × ((List (Int × Int × Int)) × (List (Int × Int × Int × Int × Int × Int))) × (Int × Int × Int × Int × Int × Int × Int × Int) × (List (Int × Int × Int)) × (List (Int × Int × Int × Int × Int × Int)) → Option (Int × ((List (Int × Int × Int)) × (List (Int × Int × Int × Int × Int × Int))) × (Int × Int × Int × Int × Int × Int × Int × Int) × (List (Int × Int × Int × Int × Int × Int)) × (List (Int × Int × Int))) := onceF (xs := x5_2) h5_2 (dxc T b5_2)
noncomputable def q5_2 (F21 : (List (Int × Int × Int)) × (List (Int × Int × Int × Int × Int × Int)) → Option (Bool)) (F9 : Unit → Option (Bool)) (F22 : (List (Int × Int × Int)) × (List (Int × Int × Int × Int × Int × Int)) → Option (Int × Int)) (F10 : (List (Int × Int × Int)) × (List (Int × Int × Int × Int × Int × Int)) → Option ((List (Int × Int × Int)) × (List (Int × Int × Int × Int × Int × Int)))) (a0 : Int) (a1 : (List (Int × Int × Int)) × (List (Int × Int × Int × Int × Int × Int))) (a2 : Int × Int × Int × Int × Int × Int × Int × Int) (a3 : List (Int × Int × Int)) (a4 : List (Int × Int × Int × Int × Int × Int)) : Option (Int × ((List (Int × Int × Int)) × (List (Int × Int × Int × Int × Int × Int))) × (Int × Int × Int × Int × Int × Int × Int × Int) × (List (Int × Int × Int × Int × Int × Int)) × (List (Int × Int × Int))) :=
cond (decide ((↑(List.length a3) : Int) < (5 : Int))) (
chk (capOk 24 (List.length a3 + List.length ([a2.2.2.2.2.2] : List (Int × Int × Int)))) (
some (a0, a1, a2, a4, (a3 ++ ([a2.2.2.2.2.2] : List (Int × Int × Int)))))) (
some (a0, a1, a2, a4, a3))
theorem g5_2 (F21 : (List (Int × Int × Int)) × (List (Int × Int × Int × Int × Int × Int)) → Option (Bool)) (F9 : Unit → Option (Bool)) (F22 : (List (Int × Int × Int)) × (List (Int × Int × Int × Int × Int × Int)) → Option (Int × Int)) (F10 : (List (Int × Int × Int)) × (List (Int × Int × Int × Int × Int × Int)) → Option ((List (Int × Int × Int)) × (List (Int × Int × Int × Int × Int × Int)))) (a0 : Int) (a1 : (List (Int × Int × Int)) × (List (Int × Int × Int × Int × Int × Int))) (a2 : Int × Int × Int × Int × Int × Int × Int × Int) (a3 : List (Int × Int × Int)) (a4 : List (Int × Int × Int × Int × Int × Int)) : l5_2 (T5 F21 F9 F22 F10) (a0, a1, a2, a3, a4) = q5_2 F21 F9 F22 F10 a0 a1 a2 a3 a4 := by kernel_rfl
noncomputable def p5_2 (a0 : Int) (a1 : (List (Int × Int × Int)) × (List (Int × Int × Int × Int × Int × Int))) (a2 : Int × Int × Int × Int × Int × Int × Int × Int) (a3 : List (Int × Int × Int)) (a4 : List (Int × Int × Int × Int × Int × Int)) : Option (Int × ((List (Int × Int × Int)) × (List (Int × Int × Int × Int × Int × Int))) × (Int × Int × Int × Int × Int × Int × Int × Int) × (List (Int × Int × Int × Int × Int × Int)) × (List (Int × Int × Int))) := q5_2 P21 P9 P22 P10 a0 a1 a2 a3 a4
noncomputable def L5_2 : Int × ((List (Int × Int × Int)) × (List (Int × Int × Int × Int × Int × Int))) × (Int × Int × Int × Int × Int × Int × Int × Int) × (List (Int × Int × Int)) × (List (Int × Int × Int × Int × Int × Int)) → Option (Int × ((List (Int × Int × Int)) × (List (Int × Int × Int × Int × Int × Int))) × (Int × Int × Int × Int × Int × Int × Int × Int) × (List (Int × Int × Int × Int × Int × Int)) × (List (Int × Int × Int))) := fun x => p5_2 x.1 x.2.1 x.2.2.1 x.2.2.2.1 x.2.2.2.2
theorem v5_2 : l5_2 (T5 P21 P9 P22 P10) = L5_2 := funext fun x => (g5_2 P21 P9 P22 P10 x.1 x.2.1 x.2.2.1 x.2.2.2.1 x.2.2.2.2).trans (show q5_2 P21 P9 P22 P10 x.1 x.2.1 x.2.2.1 x.2.2.2.1 x.2.2.2.2 = q5_2 P21 P9 P22 P10 x.1 x.2.1 x.2.2.1 x.2.2.2.1 x.2.2.2.2 from rfl)
def b5_3 : DCode := (.seq (.reg [.op ⟨some 149, .ldn (.t 7) 2 false, none⟩ none,
  .op ⟨some 150, .xcall 21 [(.t 149)], none⟩ none]) (.cond (.t 150) (.seq (.reg [.op ⟨some 152, .ldn (.t 7) 2 false, none⟩ none,
  .op ⟨some 153, .xcall 22 [(.t 152)], none⟩ none,
  .op ⟨some 151, .mov (.t 153), none⟩ none,
  .op ⟨some 154, .ext (.t 151) 0, none⟩ none,
  .op ⟨some 155, .ext (.t 151) 1, none⟩ none,
  .op ⟨some 9, .mov (.t 154), none⟩ none,
  .op ⟨some 10, .mov (.t 155), none⟩ none]) (.seq (.reg [.op ⟨some 156, .mov (.t 10), none⟩ none,
  .op ⟨some 157, .bin true .neq (.t 156) (.c (.int .i64 0)), none⟩ none,
  .op ⟨some 158, .mov (.t 157), none⟩ none,
  .op ⟨some 159, .mov (.t 9), some (158, false)⟩ none,
  .op ⟨some 160, .mov (.t 5), some (158, false)⟩ none,
  .op ⟨some 161, .bin true .lss (.t 159) (.t 160), some (158, false)⟩ none,
  .op ⟨some 162, .pick (.t 158) (.c (.bool true)) (.t 161), none⟩ none]) (.cond (.t 162) (.seq (.reg [.op ⟨some 4, .mov (.c (.bool false)), none⟩ none]) .ret) .skip))) .skip))
def h5_3 : LSh := ⟨[2, 3, 5, 7], ⟨[(.ptr 0 0), (.ptr 1 0), (.v (.int .i64)), (.ptr 2 0)], [(0, (.boxT (.pair (.sl (.pair (.int .i64) (.pair (.int .i64) (.int .i64)))) (.sl (.pair (.int .i64) (.pair (.int .i64) (.pair (.int .i64) (.pair (.int .i64) (.pair (.int .i64) (.int .i64)))))))))), (1, (.boxT (.pair (.int .i64) (.pair (.int .i64) (.pair (.int .i64) (.pair (.int .i64) (.pair (.int .i64) (.pair (.int .i64) (.pair (.int .i64) (.int .i64)))))))))), (2, (.box [(.slc 3), (.slc 4)])), (3, (.row 43 (.pair (.int .i64) (.pair (.int .i64) (.int .i64))))), (4, (.row 50 (.pair (.int .i64) (.pair (.int .i64) (.pair (.int .i64) (.pair (.int .i64) (.pair (.int .i64) (.int .i64))))))))]⟩, [(.int .i64), (.pair (.sl (.pair (.int .i64) (.pair (.int .i64) (.int .i64)))) (.sl (.pair (.int .i64) (.pair (.int .i64) (.pair (.int .i64) (.pair (.int .i64) (.pair (.int .i64) (.int .i64)))))))), (.pair (.int .i64) (.pair (.int .i64) (.pair (.int .i64) (.pair (.int .i64) (.pair (.int .i64) (.pair (.int .i64) (.pair (.int .i64) (.int .i64)))))))), (.sl (.pair (.int .i64) (.pair (.int .i64) (.int .i64)))), (.sl (.pair (.int .i64) (.pair (.int .i64) (.pair (.int .i64) (.pair (.int .i64) (.pair (.int .i64) (.int .i64)))))))], 5, [0, 1, 2, 3, 4]⟩
def x5_3 : List XSh := [⟨.ret, [4], ⟨⟨[(.v .bool)], [(0, (.boxT (.pair (.sl (.pair (.int .i64) (.pair (.int .i64) (.int .i64)))) (.sl (.pair (.int .i64) (.pair (.int .i64) (.pair (.int .i64) (.pair (.int .i64) (.pair (.int .i64) (.int .i64)))))))))), (1, (.boxT (.pair (.int .i64) (.pair (.int .i64) (.pair (.int .i64) (.pair (.int .i64) (.pair (.int .i64) (.pair (.int .i64) (.pair (.int .i64) (.int .i64)))))))))), (2, (.box [(.slc 3), (.slc 4)])), (3, (.row 43 (.pair (.int .i64) (.pair (.int .i64) (.int .i64))))), (4, (.row 50 (.pair (.int .i64) (.pair (.int .i64) (.pair (.int .i64) (.pair (.int .i64) (.pair (.int .i64) (.int .i64))))))))]⟩, [.bool, (.pair (.sl (.pair (.int .i64) (.pair (.int .i64) (.int .i64)))) (.sl (.pair (.int .i64) (.pair (.int .i64) (.pair (.int .i64) (.pair (.int .i64) (.pair (.int .i64) (.int .i64)))))))), (.pair (.int .i64) (.pair (.int .i64) (.pair (.int .i64) (.pair (.int .i64) (.pair (.int .i64) (.pair (.int .i64) (.pair (.int .i64) (.int .i64)))))))), (.sl (.pair (.int .i64) (.pair (.int .i64) (.int .i64)))), (.sl (.pair (.int .i64) (.pair (.int .i64) (.pair (.int .i64) (.pair (.int .i64) (.pair (.int .i64) (.int .i64)))))))], [0, 1, 2, 3, 4], 5⟩⟩, ⟨.normal, [2, 3, 5], ⟨⟨[(.ptr 0 0), (.ptr 1 0), (.v (.int .i64))], [(0, (.boxT (.pair (.sl (.pair (.int .i64) (.pair (.int .i64) (.int .i64)))) (.sl (.pair (.int .i64) (.pair (.int .i64) (.pair (.int .i64) (.pair (.int .i64) (.pair (.int .i64) (.int .i64)))))))))), (1, (.boxT (.pair (.int .i64) (.pair (.int .i64) (.pair (.int .i64) (.pair (.int .i64) (.pair (.int .i64) (.pair (.int .i64) (.pair (.int .i64) (.int .i64)))))))))), (2, (.box [(.slc 3), (.slc 4)])), (3, (.row 43 (.pair (.int .i64) (.pair (.int .i64) (.int .i64))))), (4, (.row 50 (.pair (.int .i64) (.pair (.int .i64) (.pair (.int .i64) (.pair (.int .i64) (.pair (.int .i64) (.int .i64))))))))]⟩, [(.int .i64), (.pair (.sl (.pair (.int .i64) (.pair (.int .i64) (.int .i64)))) (.sl (.pair (.int .i64) (.pair (.int .i64) (.pair (.int .i64) (.pair (.int .i64) (.pair (.int .i64) (.int .i64)))))))), (.pair (.int .i64) (.pair (.int .i64) (.pair (.int .i64) (.pair (.int .i64) (.pair (.int .i64) (.pair (.int .i64) (.pair (.int .i64) (.int .i64)))))))), (.sl (.pair (.int .i64) (.pair (.int .i64) (.int .i64)))), (.sl (.pair (.int .i64) (.pair (.int .i64) (.pair (.int .i64) (.pair (.int .i64) (.pair (.int .i64) (.int .i64)))))))], [0, 1, 2, 3, 4], 5⟩⟩]
noncomputable def l5_3 (T : List FEnt) : Int × ((List (Int × Int × Int)) × (List (Int × Int × Int × Int × Int × Int))) × (Int × Int × Int × Int × Int × Int × Int × Int) × (List (Int × Int × Int)) × (List (Int × Int × Int × Int × Int × Int)) → Option ((Bool × ((List (Int × Int × Int)) × (List (Int × Int × Int × Int × Int × Int))) × (Int × Int × Int × Int × Int × Int × Int × Int) × (List (Int × Int × Int)) × (List (Int × Int × Int × Int × Int × Int))) ⊕ (Int × ((List (Int × Int × Int)) × (List (Int × Int × Int × Int × Int × Int))) × (Int × Int × Int × Int × Int × Int × Int × Int) × (List (Int × Int × Int)) × (List (Int × Int × Int × Int × Int × Int)))) := onceF (xs := x5_3) h5_3 (dxc T b5_3)
noncomputable def q5_3 (F21 : (List (Int × Int × Int)) × (List (Int × Int × Int × Int × Int × Int)) → Option (Bool)) (F9 : Unit → Option (Bool)) (F22 : (List (Int × Int × Int)) × (List (Int × Int × Int × Int × Int × Int)) → Option (Int × Int)) (F10 : (List (Int × Int × Int)) × (List (Int × Int × Int × Int × Int × Int)) → Option ((List (Int × Int × Int)) × (List (Int × Int × Int × Int × Int × Int)))) (a0 : Int) (a1 : (List (Int × Int × Int)) × (List (Int × Int × Int × Int × Int × Int))) (a2 : Int × Int × Int × Int × Int × Int × Int × Int) (a3 : List (Int × Int × Int)) (a4 : List (Int × Int × Int × Int × Int × Int)) : Option ((Bool × ((List (Int × Int × Int)) × (List (Int × Int × Int × Int × Int × Int))) × (Int × Int × Int × Int × Int × Int × Int × Int) × (List (Int × Int × Int)) × (List (Int × Int × Int × Int × Int × Int))) ⊕ (Int × ((List (Int × Int × Int)) × (List (Int × Int × Int × Int × Int × Int))) × (Int × Int × Int × Int × Int × Int × Int × Int) × (List (Int × Int × Int)) × (List (Int × Int × Int × Int × Int × Int)))) :=
(F21 (a3, a4)).bind fun (r14 : Bool) => (
cond r14 (
(F22 (a3, a4)).bind fun (r15 : Int × Int) => (
cond (!decide (r15.2 = (0 : Int))) (
some (Sum.inl (false, a1, a2, a3, a4))) (
cond (decide (r15.1 < a0)) (
some (Sum.inl (false, a1, a2, a3, a4))) (
some (Sum.inr (a0, a1, a2, a3, a4)))))) (
some (Sum.inr (a0, a1, a2, a3, a4))))
theorem g5_3 (F21 : (List (Int × Int × Int)) × (List (Int × Int × Int × Int × Int × Int)) → Option (Bool)) (F9 : Unit → Option (Bool)) (F22 : (List (Int × Int × Int)) × (List (Int × Int × Int × Int × Int × Int)) → Option (Int × Int)) (F10 : (List (Int × Int × Int)) × (List (Int × Int × Int × Int × Int × Int)) → Option ((List (Int × Int × Int)) × (List (Int × Int × Int × Int × Int × Int)))) (a0 : Int) (a1 : (List (Int × Int × Int)) × (List (Int × Int × Int × Int × Int × Int))) (a2 : Int × Int × Int × Int × Int × Int × Int × Int) (a3 : List (Int × Int × Int)) (a4 : List (Int × Int × Int × Int × Int × Int)) : l5_3 (T5 F21 F9 F22 F10) (a0, a1, a2, a3, a4) = q5_3 F21 F9 F22 F10 a0 a1 a2 a3 a4 := by kernel_rfl
noncomputable def p5_3 (a0 : Int) (a1 : (List (Int × Int × Int)) × (List (Int × Int × Int × Int × Int × Int))) (a2 : Int × Int × Int × Int × Int × Int × Int × Int) (a3 : List (Int × Int × Int)) (a4 : List (Int × Int × Int × Int × Int × Int)) : Option ((Bool × ((List (Int × Int × Int)) × (List (Int × Int × Int × Int × Int × Int))) × (Int × Int × Int × Int × Int × Int × Int × Int) × (List (Int × Int × Int)) × (List (Int × Int × Int × Int × Int × Int))) ⊕ (Int × ((List (Int × Int × Int)) × (List (Int × Int × Int × Int × Int × Int))) × (Int × Int × Int × Int × Int × Int × Int × Int) × (List (Int × Int × Int)) × (List (Int × Int × Int × Int × Int × Int)))) := q5_3 P21 P9 P22 P10 a0 a1 a2 a3 a4
noncomputable def L5_3 : Int × ((List (Int × Int × Int)) × (List (Int × Int × Int × Int × Int × Int))) × (Int × Int × Int × Int × Int × Int × Int × Int) × (List (Int × Int × Int)) × (List (Int × Int × Int × Int × Int × Int)) → Option ((Bool × ((List (Int × Int × Int)) × (List (Int × Int × Int × Int × Int × Int))) × (Int × Int × Int × Int × Int × Int × Int × Int) × (List (Int × Int × Int)) × (List (Int × Int × Int × Int × Int × Int))) ⊕ (Int × ((List (Int × Int × Int)) × (List (Int × Int × Int × Int × Int × Int))) × (Int × Int × Int × Int × Int × Int × Int × Int) × (List (Int × Int × Int)) × (List (Int × Int × Int × Int × Int × Int)))) := fun x => p5_3 x.1 x.2.1 x.2.2.1 x.2.2.2.1 x.2.2.2.2
theorem v5_3 : l5_3 (T5 P21 P9 P22 P10) = L5_3 := funext fun x => (g5_3 P21 P9 P22 P10 x.1 x.2.1 x.2.2.1 x.2.2.2.1 x.2.2.2.2).trans (show q5_3 P21 P9 P22 P10 x.1 x.2.1 x.2.2.1 x.2.2.2.1 x.2.2.2.2 = q5_3 P21 P9 P22 P10 x.1 x.2.1 x.2.2.1 x.2.2.2.1 x.2.2.2.2 from rfl)
def c5 : DCode := (.seq (.reg [.op ⟨some 2, .box (.t 0), none⟩ none,
  .op ⟨some 3, .box (.t 1), none⟩ none,
  .op ⟨some 4, .mov (.c (.bool false)), none⟩ none]) (.seq (.seq (.reg [.op ⟨some 14, .ldn (.t 2) 2 false, none⟩ none,
  .op ⟨some 15, .xcall 21 [(.t 14)], none⟩ none,
  .op ⟨some 16, .unot (.t 15), none⟩ none,
  .op ⟨some 17, .mov (.t 16), none⟩ none,
  .op ⟨some 18, .fld (.t 3) 1, some (17, false)⟩ none,
  .op ⟨some 19, .ld1 (.t 18) false, some (17, false)⟩ none,
  .op ⟨some 20, .bin true .lss (.t 19) (.c (.int .i64 0)), some (17, false)⟩ none,
  .op ⟨some 21, .pick (.t 17) (.c (.bool true)) (.t 20), none⟩ none,
  .op ⟨some 22, .mov (.t 21), none⟩ none,
  .op ⟨some 23, .fld (.t 3) 1, some (22, false)⟩ none,
  .op ⟨some 24, .ld1 (.t 23) false, some (22, false)⟩ none,
  .op ⟨some 25, .bin true .gtr (.t 24) (.c (.int .i64 9)), some (22, false)⟩ none,
  .op ⟨some 26, .pick (.t 22) (.c (.bool true)) (.t 25), none⟩ none,
  .op ⟨some 27, .mov (.t 26), none⟩ none,
  .op ⟨some 28, .fld (.t 3) 3, some (27, false)⟩ none,
  .op ⟨some 29, .ld1 (.t 28) false, some (27, false)⟩ none,
  .op ⟨some 30, .bin true .lss (.t 29) (.c (.int .i64 0)), some (27, false)⟩ none,
  .op ⟨some 31, .pick (.t 27) (.c (.bool true)) (.t 30), none⟩ none,
  .op ⟨some 32, .mov (.t 31), none⟩ none,
  .op ⟨some 33, .fld (.t 3) 3, some (32, false)⟩ none,
  .op ⟨some 34, .ld1 (.t 33) false, some (32, false)⟩ none,
  .op ⟨some 35, .bin true .gtr (.t 34) (.c (.int .i64 9)), some (32, false)⟩ none,
  .op ⟨some 36, .pick (.t 32) (.c (.bool true)) (.t 35), none⟩ none,
  .op ⟨some 37, .mov (.t 36), none⟩ none,
  .op ⟨some 38, .fld (.t 3) 4, some (37, false)⟩ none,
  .op ⟨some 39, .ld1 (.t 38) false, some (37, false)⟩ none,
  .op ⟨some 40, .bin true .lss (.t 39) (.c (.int .i64 0)), some (37, false)⟩ none,
  .op ⟨some 41, .pick (.t 37) (.c (.bool true)) (.t 40), none⟩ none,
  .op ⟨some 42, .mov (.t 41), none⟩ none,
  .op ⟨some 43, .fld (.t 3) 4, some (42, false)⟩ none,
  .op ⟨some 44, .ld1 (.t 43) false, some (42, false)⟩ none,
  .op ⟨some 45, .bin true .gtr (.t 44) (.c (.int .i64 99)), some (42, false)⟩ none,
  .op ⟨some 46, .pick (.t 42) (.c (.bool true)) (.t 45), none⟩ none]) (.cond (.t 46) (.seq (.reg [.op ⟨some 47, .xcall 9 [], none⟩ none,
  .op ⟨some 4, .mov (.t 47), none⟩ none]) .ret) .skip)) (.seq (.reg [.op ⟨some 49, .ldn (.t 2) 2 false, none⟩ none,
  .op ⟨some 50, .xcall 22 [(.t 49)], none⟩ none,
  .op ⟨some 48, .mov (.t 50), none⟩ none,
  .op ⟨some 51, .ext (.t 48) 0, none⟩ none,
  .op ⟨some 52, .ext (.t 48) 1, none⟩ none,
  .op ⟨some 5, .mov (.t 51), none⟩ none,
  .op ⟨some 6, .mov (.t 52), none⟩ none]) (.seq (.seq (.reg [.op ⟨some 53, .mov (.t 6), none⟩ none,
  .op ⟨some 54, .bin true .neq (.t 53) (.c (.int .i64 0)), none⟩ none]) (.cond (.t 54) (.seq (.reg [.op ⟨some 4, .mov (.c (.bool false)), none⟩ none]) .ret) .skip)) (.seq (.reg [.op ⟨some 55, .ldn (.t 2) 2 false, none⟩ none,
  .op ⟨some 56, .xcall 10 [(.t 55)], none⟩ none,
  .op ⟨some 7, .alc [.emp, .emp], none⟩ none,
  .op ⟨none, .sto (.t 7) (.t 56) 2, none⟩ none]) (.seq (.once h5_0 x5_0 b5_0) (.seq (.once h5_1 x5_1 b5_1) (.seq (.once h5_2 x5_2 b5_2) (.seq (.once h5_3 x5_3 b5_3) (.seq (.seq (.reg [.op ⟨some 163, .fld (.t 3) 2, none⟩ none,
  .op ⟨some 164, .ld1 (.t 163) false, none⟩ none,
  .op ⟨some 165, .bin true .lss (.t 164) (.c (.int .i64 0)), none⟩ none,
  .op ⟨some 166, .mov (.t 165), none⟩ none,
  .op ⟨some 167, .fld (.t 3) 2, some (166, false)⟩ none,
  .op ⟨some 168, .ld1 (.t 167) false, some (166, false)⟩ none,
  .op ⟨some 169, .fld (.t 2) 1, some (166, false)⟩ none,
  .op ⟨some 170, .ld1 (.t 169) false, some (166, false)⟩ none,
  .op ⟨some 171, .len (.t 170), some (166, false)⟩ none,
  .op ⟨some 172, .bin true .geq (.t 168) (.t 171), some (166, false)⟩ none,
  .op ⟨some 173, .pick (.t 166) (.c (.bool true)) (.t 172), none⟩ none]) (.cond (.t 173) (.seq (.reg [.op ⟨some 174, .xcall 9 [], none⟩ none,
  .op ⟨some 4, .mov (.t 174), none⟩ none]) .ret) .skip)) (.seq (.reg [.op ⟨some 175, .ldn (.t 2) 2 false, none⟩ none,
  .op ⟨some 176, .xcall 10 [(.t 175)], none⟩ none,
  .op ⟨some 11, .alc [.emp, .emp], none⟩ none,
  .op ⟨none, .sto (.t 11) (.t 176) 2, none⟩ none]) (.seq (.reg [.op ⟨some 177, .fld (.t 11) 1, none⟩ none,
  .op ⟨some 178, .ld1 (.t 177) false, none⟩ none,
  .op ⟨some 179, .fld (.t 3) 2, none⟩ none,
  .op ⟨some 180, .ld1 (.t 179) false, none⟩ none,
  .op ⟨some 181, .idx (.t 178) (.t 180) 6, none⟩ none,
  .op ⟨some 182, .fld (.t 181) 1, none⟩ none,
  .op ⟨some 183, .ld1 (.t 182) false, none⟩ none,
  .op ⟨some 184, .bin true .add (.t 183) (.c (.int .i64 1)), none⟩ none,
  .op ⟨some 185, .idx (.t 178) (.t 180) 6, none⟩ none,
  .op ⟨some 186, .fld (.t 185) 1, none⟩ none,
  .op ⟨none, .sto (.t 186) (.t 184) 1, none⟩ none]) (.seq (.seq (.reg [.op ⟨some 187, .ldn (.t 11) 2 false, none⟩ none,
  .op ⟨some 188, .xcall 21 [(.t 187)], none⟩ none,
  .op ⟨some 189, .unot (.t 188), none⟩ none]) (.cond (.t 189) (.seq (.reg [.op ⟨some 190, .xcall 9 [], none⟩ none,
  .op ⟨some 4, .mov (.t 190), none⟩ none]) .ret) .skip)) (.seq (.reg [.op ⟨some 192, .ldn (.t 11) 2 false, none⟩ none,
  .op ⟨some 193, .xcall 22 [(.t 192)], none⟩ none,
  .op ⟨some 191, .mov (.t 193), none⟩ none,
  .op ⟨some 194, .ext (.t 191) 0, none⟩ none,
  .op ⟨some 195, .ext (.t 191) 1, none⟩ none,
  .op ⟨some 12, .mov (.t 194), none⟩ none,
  .op ⟨some 13, .mov (.t 195), none⟩ none]) (.seq (.reg [.op ⟨some 196, .mov (.t 13), none⟩ none,
  .op ⟨some 197, .bin true .eql (.t 196) (.c (.int .i64 0)), none⟩ none,
  .op ⟨some 198, .mov (.t 197), none⟩ none,
  .op ⟨some 199, .mov (.t 12), some (198, true)⟩ none,
  .op ⟨some 200, .mov (.t 5), some (198, true)⟩ none,
  .op ⟨some 201, .bin true .eql (.t 199) (.t 200), some (198, true)⟩ none,
  .op ⟨some 202, .mov (.t 201), some (198, true)⟩ none,
  .op ⟨some 203, .mov (.t 12), some (202, false)⟩ none,
  .op ⟨some 204, .mov (.t 5), some (202, false)⟩ none,
  .op ⟨some 205, .bin true .add (.t 204) (.c (.int .i64 1)), some (202, false)⟩ none,
  .op ⟨some 206, .bin true .eql (.t 203) (.t 205), some (202, false)⟩ none,
  .op ⟨some 207, .pick (.t 202) (.c (.bool true)) (.t 206), some (198, true)⟩ none,
  .op ⟨some 208, .pick (.t 198) (.t 207) (.c (.bool false)), none⟩ none,
  .op ⟨some 209, .mov (.t 208), none⟩ none,
  .op ⟨some 210, .xcall 9 [], some (209, true)⟩ none,
  .op ⟨some 211, .pick (.t 209) (.t 210) (.c (.bool false)), none⟩ none,
  .op ⟨some 4, .mov (.t 211), none⟩ none]) .ret)))))))))))))))
theorem ok5 : L.Fn Try.prog 5 212 [(.t 4)] (erase c5) := L.Fn.of hmix Try.func5 [(12, { ch := [0,0,0,1,0,0,0,0,0,1,0,0,0,0,0,0], rs := [3] })] (by kernel_rfl)
def sh5 : FSh := ⟨⟨[(.st (.pair (.sl (.pair (.int .i64) (.pair (.int .i64) (.int .i64)))) (.sl (.pair (.int .i64) (.pair (.int .i64) (.pair (.int .i64) (.pair (.int .i64) (.pair (.int .i64) (.int .i64))))))))), (.st (.pair (.int .i64) (.pair (.int .i64) (.pair (.int .i64) (.pair (.int .i64) (.pair (.int .i64) (.pair (.int .i64) (.pair (.int .i64) (.int .i64)))))))))], []⟩, [(.pair (.sl (.pair (.int .i64) (.pair (.int .i64) (.int .i64)))) (.sl (.pair (.int .i64) (.pair (.int .i64) (.pair (.int .i64) (.pair (.int .i64) (.pair (.int .i64) (.int .i64)))))))), (.pair (.int .i64) (.pair (.int .i64) (.pair (.int .i64) (.pair (.int .i64) (.pair (.int .i64) (.pair (.int .i64) (.pair (.int .i64) (.int .i64))))))))], 0, ⟨⟨[(.v .bool)], []⟩, [.bool], [], 0⟩, true⟩
noncomputable def q5 (F21 : (List (Int × Int × Int)) × (List (Int × Int × Int × Int × Int × Int)) → Option (Bool)) (F9 : Unit → Option (Bool)) (F22 : (List (Int × Int × Int)) × (List (Int × Int × Int × Int × Int × Int)) → Option (Int × Int)) (F10 : (List (Int × Int × Int)) × (List (Int × Int × Int × Int × Int × Int)) → Option ((List (Int × Int × Int)) × (List (Int × Int × Int × Int × Int × Int)))) (l5_0 : Int × ((List (Int × Int × Int)) × (List (Int × Int × Int × Int × Int × Int))) × (Int × Int × Int × Int × Int × Int × Int × Int) × (List (Int × Int × Int)) × (List (Int × Int × Int × Int × Int × Int)) → Option (Int × ((List (Int × Int × Int)) × (List (Int × Int × Int × Int × Int × Int))) × (Int × Int × Int × Int × Int × Int × Int × Int) × (List (Int × Int × Int)) × (List (Int × Int × Int × Int × Int × Int)))) (l5_1 : Int × ((List (Int × Int × Int)) × (List (Int × Int × Int × Int × Int × Int))) × (Int × Int × Int × Int × Int × Int × Int × Int) × (List (Int × Int × Int)) × (List (Int × Int × Int × Int × Int × Int)) → Option (Int × ((List (Int × Int × Int)) × (List (Int × Int × Int × Int × Int × Int))) × (Int × Int × Int × Int × Int × Int × Int × Int) × (List (Int × Int × Int)) × (List (Int × Int × Int × Int × Int × Int)))) (l5_2 : Int × ((List (Int × Int × Int)) × (List (Int × Int × Int × Int × Int × Int))) × (Int × Int × Int × Int × Int × Int × Int × Int) × (List (Int × Int × Int)) × (List (Int × Int × Int × Int × Int × Int)) → Option (Int × ((List (Int × Int × Int)) × (List (Int × Int × Int × Int × Int × Int))) × (Int × Int × Int × Int × Int × Int × Int × Int) × (List (Int × Int × Int × Int × Int × Int)) × (List (Int × Int × Int)))) (l5_3 : Int × ((List (Int × Int × Int)) × (List (Int × Int × Int × Int × Int × Int))) × (Int × Int × Int × Int × Int × Int × Int × Int) × (List (Int × Int × Int)) × (List (Int × Int × Int × Int × Int × Int)) → Option ((Bool × ((List (Int × Int × Int)) × (List (Int × Int × Int × Int × Int × Int))) × (Int × Int × Int × Int × Int × Int × Int × Int) × (List (Int × Int × Int)) × (List (Int × Int × Int × Int × Int × Int))) ⊕ (Int × ((List (Int × Int × Int)) × (List (Int × Int × Int × Int × Int × Int))) × (Int × Int × Int × Int × Int × Int × Int × Int) × (List (Int × Int × Int)) × (List (Int × Int × Int × Int × Int × Int))))) (a0 : (List (Int × Int × Int)) × (List (Int × Int × Int × Int × Int × Int))) (a1 : Int × Int × Int × Int × Int × Int × Int × Int) : Option (Bool) :=
(F21 a0).bind fun (r1 : Bool) => (
cond (!r1) (
(F9 ()).bind fun (r2 : Bool) => (
some r2)) (
cond (decide (a1.2.1 < (0 : Int))) (
(F9 ()).bind fun (r3 : Bool) => (
some r3)) (
cond (decide ((9 : Int) < a1.2.1)) (
(F9 ()).bind fun (r4 : Bool) => (
some r4)) (
cond (decide (a1.2.2.2.1 < (0 : Int))) (
(F9 ()).bind fun (r5 : Bool) => (
some r5)) (
cond (decide ((9 : Int) < a1.2.2.2.1)) (
(F9 ()).bind fun (r6 : Bool) => (
some r6)) (
cond (decide (a1.2.2.2.2.1 < (0 : Int))) (
(F9 ()).bind fun (r7 : Bool) => (
some r7)) (
cond (decide ((99 : Int) < a1.2.2.2.2.1)) (
(F9 ()).bind fun (r8 : Bool) => (
some r8)) (
(F22 a0).bind fun (r9 : Int × Int) => (
cond (!decide (r9.2 = (0 : Int))) (
some false) (
(F10 a0).bind fun (r10 : (List (Int × Int × Int)) × (List (Int × Int × Int × Int × Int × Int))) => (
(l5_0 (r9.1, a0, a1, r10.1, r10.2)).bind fun (y11 : Int × ((List (Int × Int × Int)) × (List (Int × Int × Int × Int × Int × Int))) × (Int × Int × Int × Int × Int × Int × Int × Int) × (List (Int × Int × Int)) × (List (Int × Int × Int × Int × Int × Int))) => (
(l5_1 (y11.1, y11.2.1, y11.2.2.1, y11.2.2.2.1, y11.2.2.2.2)).bind fun (y12 : Int × ((List (Int × Int × Int)) × (List (Int × Int × Int × Int × Int × Int))) × (Int × Int × Int × Int × Int × Int × Int × Int) × (List (Int × Int × Int)) × (List (Int × Int × Int × Int × Int × Int))) => (
(l5_2 (y12.1, y12.2.1, y12.2.2.1, y12.2.2.2.1, y12.2.2.2.2)).bind fun (y13 : Int × ((List (Int × Int × Int)) × (List (Int × Int × Int × Int × Int × Int))) × (Int × Int × Int × Int × Int × Int × Int × Int) × (List (Int × Int × Int × Int × Int × Int)) × (List (Int × Int × Int))) => (
(l5_3 (y13.1, y13.2.1, y13.2.2.1, y13.2.2.2.2, y13.2.2.2.1)).bind (fun (y16 : (Bool × ((List (Int × Int × Int)) × (List (Int × Int × Int × Int × Int × Int))) × (Int × Int × Int × Int × Int × Int × Int × Int) × (List (Int × Int × Int)) × (List (Int × Int × Int × Int × Int × Int))) ⊕ (Int × ((List (Int × Int × Int)) × (List (Int × Int × Int × Int × Int × Int))) × (Int × Int × Int × Int × Int × Int × Int × Int) × (List (Int × Int × Int)) × (List (Int × Int × Int × Int × Int × Int)))) => Sum.elim (fun (y17 : Bool × ((List (Int × Int × Int)) × (List (Int × Int × Int × Int × Int × Int))) × (Int × Int × Int × Int × Int × Int × Int × Int) × (List (Int × Int × Int)) × (List (Int × Int × Int × Int × Int × Int))) => (
some y17.1)) (fun (y18 : Int × ((List (Int × Int × Int)) × (List (Int × Int × Int × Int × Int × Int))) × (Int × Int × Int × Int × Int × Int × Int × Int) × (List (Int × Int × Int)) × (List (Int × Int × Int × Int × Int × Int))) => (
cond (decide (y18.2.2.1.2.2.1 < (0 : Int))) (
(F9 ()).bind fun (r19 : Bool) => (
some r19)) (
cond (decide ((↑(List.length y18.2.1.2) : Int) ≤ y18.2.2.1.2.2.1)) (
(F9 ()).bind fun (r20 : Bool) => (
some r20)) (
(F10 y18.2.1).bind fun (r21 : (List (Int × Int × Int)) × (List (Int × Int × Int × Int × Int × Int))) => (
chk (inR y18.2.2.1.2.2.1 (List.length r21.2)) (
chk (fits .i64 ((ix r21.2 y18.2.2.1.2.2.1).2.1 + (1 : Int))) (
chk (inR y18.2.2.1.2.2.1 (List.length r21.2)) (
(F21 (r21.1, (List.set r21.2 (Int.toNat y18.2.2.1.2.2.1) ((ix r21.2 y18.2.2.1.2.2.1).1, (((ix r21.2 y18.2.2.1.2.2.1).2.1 + (1 : Int)), (ix r21.2 y18.2.2.1.2.2.1).2.2))))).bind fun (r22 : Bool) => (
cond (!r22) (
(F9 ()).bind fun (r23 : Bool) => (
some r23)) (
(F22 (r21.1, (List.set r21.2 (Int.toNat y18.2.2.1.2.2.1) ((ix r21.2 y18.2.2.1.2.2.1).1, (((ix r21.2 y18.2.2.1.2.2.1).2.1 + (1 : Int)), (ix r21.2 y18.2.2.1.2.2.1).2.2))))).bind fun (r24 : Int × Int) => (
cond (decide (r24.2 = (0 : Int))) (
cond (decide (r24.1 = y18.1)) (
(F9 ()).bind fun (r25 : Bool) => (
some r25)) (
chk (fits .i64 (y18.1 + (1 : Int))) (
cond (decide (r24.1 = (y18.1 + (1 : Int)))) (
(F9 ()).bind fun (r26 : Bool) => (
some r26)) (
some false)))) (
some false)))))))))))) y16)))))))))))))))
theorem g5 (F21 : (List (Int × Int × Int)) × (List (Int × Int × Int × Int × Int × Int)) → Option (Bool)) (F9 : Unit → Option (Bool)) (F22 : (List (Int × Int × Int)) × (List (Int × Int × Int × Int × Int × Int)) → Option (Int × Int)) (F10 : (List (Int × Int × Int)) × (List (Int × Int × Int × Int × Int × Int)) → Option ((List (Int × Int × Int)) × (List (Int × Int × Int × Int × Int × Int)))) (a0 : (List (Int × Int × Int)) × (List (Int × Int × Int × Int × Int × Int))) (a1 : Int × Int × Int × Int × Int × Int × Int × Int) : dxf (T5 F21 F9 F22 F10) sh5 [(.t 4)] c5 (a0, a1) = q5 F21 F9 F22 F10 (l5_0 (T5 F21 F9 F22 F10)) (l5_1 (T5 F21 F9 F22 F10)) (l5_2 (T5 F21 F9 F22 F10)) (l5_3 (T5 F21 F9 F22 F10)) a0 a1 := by kernel_rfl
noncomputable def p5 (a0 : (List (Int × Int × Int)) × (List (Int × Int × Int × Int × Int × Int))) (a1 : Int × Int × Int × Int × Int × Int × Int × Int) : Option (Bool) := q5 P21 P9 P22 P10 L5_0 L5_1 L5_2 L5_3 a0 a1
noncomputable def P5 : ((List (Int × Int × Int)) × (List (Int × Int × Int × Int × Int × Int))) × Int × Int × Int × Int × Int × Int × Int × Int → Option (Bool) := fun x => p5 x.1 x.2
theorem v5 : dxf (T5 P21 P9 P22 P10) sh5 [(.t 4)] c5 = P5 := funext fun x => (g5 P21 P9 P22 P10 x.1 x.2).trans (show q5 P21 P9 P22 P10 (l5_0 (T5 P21 P9 P22 P10)) (l5_1 (T5 P21 P9 P22 P10)) (l5_2 (T5 P21 P9 P22 P10)) (l5_3 (T5 P21 P9 P22 P10)) x.1 x.2 = q5 P21 P9 P22 P10 L5_0 L5_1 L5_2 L5_3 x.1 x.2 from by rw [v5_0, v5_1, v5_2, v5_3])
theorem d5 : DC Try.prog 5 sh5 P5 := DC_eq v5 (dxf_sound (sh := sh5) t5 ok5 (by kernel_rfl))
/-! bijou/bijouref07.CheckReports -/
noncomputable def T23 (F36 : Int × Int × Int → Option (Bool)) : List FEnt := [⟨36, sh36, F36⟩]
theorem t23 : DTblOK Try.prog (T23 P36) := (DTbl_cons' (f := 36) (sh := sh36) (F := P36) d36 (by kernel_rfl) DTbl_nil)
def b23_1 : DCode := (.seq (.seq (.reg [.op ⟨some 45, .mov (.t 6), none⟩ none,
  .op ⟨some 46, .mov (.t 5), none⟩ none,
  .op ⟨some 47, .bin true .lss (.t 45) (.t 46), none⟩ none]) (.cond (.t 47) .skip (.exit 2))) (.seq (.blk 3 (.seq (.drw [] [(⟨some 50, .mov (.t 1), none⟩, none),
  (⟨some 51, .mov (.t 6), none⟩, none),
  (⟨some 52, .idx (.t 50) (.t 51) 3, none⟩, none),
  (⟨some 53, .fld (.t 52) 0, none⟩, none),
  (⟨some 54, .ld1 (.t 53) false, none⟩, none),
  (⟨some 55, .mov (.t 1), none⟩, none),
  (⟨some 56, .mov (.t 5), none⟩, none),
  (⟨some 57, .idx (.t 55) (.t 56) 3, none⟩, none),
  (⟨some 58, .fld (.t 57) 0, none⟩, none),
  (⟨some 59, .ld1 (.t 58) false, none⟩, none),
  (⟨some 60, .bin true .eql (.t 54) (.t 59), none⟩, none),
  (⟨some 61, .mov (.t 60), none⟩, none),
  (⟨some 62, .mov (.t 1), some (61, true)⟩, none),
  (⟨some 63, .mov (.t 6), some (61, true)⟩, none),
  (⟨some 64, .idx (.t 62) (.t 63) 3, some (61, true)⟩, none),
  (⟨some 65, .ldn (.t 64) 3 false, some (61, true)⟩, none),
  (⟨some 66, .mov (.t 1), some (61, true)⟩, none),
  (⟨some 67, .mov (.t 5), some (61, true)⟩, none),
  (⟨some 68, .idx (.t 66) (.t 67) 3, some (61, true)⟩, none),
  (⟨some 69, .ldn (.t 68) 3 false, some (61, true)⟩, none),
  (⟨some 70, .eqs true 3 (.t 65) (.t 69), some (61, true)⟩, none),
  (⟨some 71, .pick (.t 61) (.t 70) (.c (.bool false)), none⟩, none)]) (.cond (.t 71) (.seq (.reg [.op ⟨some 4, .mov (.c (.int .i64 72)), none⟩ none]) .ret) .skip))) (.reg [.op ⟨some 48, .mov (.t 6), none⟩ none,
  .op ⟨some 49, .bin true .add (.t 48) (.c (.int .i64 1)), none⟩ none,
  .op ⟨some 6, .mov (.t 49), none⟩ none])))
def h23_1 : LSh := ⟨[1, 2, 5, 6, 33, 42], ⟨[(.v (.sl (.pair (.int .i64) (.pair (.int .i64) (.int .i64))))), (.ptr 0 0), (.v (.int .i64)), (.v (.int .i64)), (.v .bool), (.v .bool)], [(0, (.boxT (.pair (.sl (.pair (.int .i64) (.pair (.int .i64) (.int .i64)))) (.sl (.pair (.int .i64) (.pair (.int .i64) (.pair (.int .i64) (.pair (.int .i64) (.pair (.int .i64) (.int .i64))))))))))]⟩, [(.sl (.pair (.int .i64) (.pair (.int .i64) (.int .i64)))), (.int .i64), (.int .i64), .bool, .bool, (.pair (.sl (.pair (.int .i64) (.pair (.int .i64) (.int .i64)))) (.sl (.pair (.int .i64) (.pair (.int .i64) (.pair (.int .i64) (.pair (.int .i64) (.pair (.int .i64) (.int .i64))))))))], 1, [0]⟩
def x23_1 : List XSh := [⟨.ret, [4], ⟨⟨[(.v (.int .i64))], [(0, (.boxT (.pair (.sl (.pair (.int .i64) (.pair (.int .i64) (.int .i64)))) (.sl (.pair (.int .i64) (.pair (.int .i64) (.pair (.int .i64) (.pair (.int .i64) (.pair (.int .i64) (.int .i64))))))))))]⟩, [(.int .i64), (.pair (.sl (.pair (.int .i64) (.pair (.int .i64) (.int .i64)))) (.sl (.pair (.int .i64) (.pair (.int .i64) (.pair (.int .i64) (.pair (.int .i64) (.pair (.int .i64) (.int .i64))))))))], [0], 1⟩⟩, ⟨(.exit 2), [1, 2, 5, 33, 42], ⟨⟨[(.v (.sl (.pair (.int .i64) (.pair (.int .i64) (.int .i64))))), (.ptr 0 0), (.v (.int .i64)), (.v .bool), (.v .bool)], [(0, (.boxT (.pair (.sl (.pair (.int .i64) (.pair (.int .i64) (.int .i64)))) (.sl (.pair (.int .i64) (.pair (.int .i64) (.pair (.int .i64) (.pair (.int .i64) (.pair (.int .i64) (.int .i64))))))))))]⟩, [(.sl (.pair (.int .i64) (.pair (.int .i64) (.int .i64)))), (.int .i64), .bool, .bool, (.pair (.sl (.pair (.int .i64) (.pair (.int .i64) (.int .i64)))) (.sl (.pair (.int .i64) (.pair (.int .i64) (.pair (.int .i64) (.pair (.int .i64) (.pair (.int .i64) (.int .i64))))))))], [0], 1⟩⟩]
noncomputable def s23_1 (T : List FEnt) : (List (Int × Int × Int)) × Int × Int × Bool × Bool × (List (Int × Int × Int)) × (List (Int × Int × Int × Int × Int × Int)) → Option (((List (Int × Int × Int)) × Int × Int × Bool × Bool × (List (Int × Int × Int)) × (List (Int × Int × Int × Int × Int × Int))) ⊕ ((Int × (List (Int × Int × Int)) × (List (Int × Int × Int × Int × Int × Int))) ⊕ ((List (Int × Int × Int)) × Int × Bool × Bool × (List (Int × Int × Int)) × (List (Int × Int × Int × Int × Int × Int))))) := dstep (xs := x23_1) h23_1 (dxc T b23_1)
noncomputable def l23_1 (T : List FEnt) : (List (Int × Int × Int)) × Int × Int × Bool × Bool × (List (Int × Int × Int)) × (List (Int × Int × Int × Int × Int × Int)) → Option ((Int × (List (Int × Int × Int)) × (List (Int × Int × Int × Int × Int × Int))) ⊕ ((List (Int × Int × Int)) × Int × Bool × Bool × (List (Int × Int × Int)) × (List (Int × Int × Int × Int × Int × Int)))) := whileF (s23_1 T)
noncomputable def q23_1 (F36 : Int × Int × Int → Option (Bool)) (a0 : List (Int × Int × Int)) (a1 : Int) (a2 : Int) (a3 : Bool) (a4 : Bool) (a5 : (List (Int × Int × Int)) × (List (Int × Int × Int × Int × Int × Int))) : Option (((List (Int × Int × Int)) × Int × Int × Bool × Bool × (List (Int × Int × Int)) × (List (Int × Int × Int × Int × Int × Int))) ⊕ ((Int × (List (Int × Int × Int)) × (List (Int × Int × Int × Int × Int × Int))) ⊕ ((List (Int × Int × Int)) × Int × Bool × Bool × (List (Int × Int × Int)) × (List (Int × Int × Int × Int × Int × Int))))) :=
cond (decide (a2 < a1)) (
chk (inR a2 (List.length a0)) (
chk (inR a1 (List.length a0)) (
cond (decide ((ix a0 a2).1 = (ix a0 a1).1)) (
chk (inR a2 (List.length a0)) (
chk (inR a1 (List.length a0)) (
cond (!((decide ((ix a0 a2).1 = (ix a0 a1).1) && decide ((ix a0 a2).2.1 = (ix a0 a1).2.1)) && decide ((ix a0 a2).2.2 = (ix a0 a1).2.2))) (
some (Sum.inr (Sum.inl ((72 : Int), a5)))) (
chk (fits .i64 (a2 + (1 : Int))) (
some (Sum.inl (a0, a1, (a2 + (1 : Int)), a3, a4, a5))))))) (
chk (fits .i64 (a2 + (1 : Int))) (
some (Sum.inl (a0, a1, (a2 + (1 : Int)), a3, a4, a5))))))) (
some (Sum.inr (Sum.inr (a0, a1, a3, a4, a5))))
theorem g23_1 (F36 : Int × Int × Int → Option (Bool)) (a0 : List (Int × Int × Int)) (a1 : Int) (a2 : Int) (a3 : Bool) (a4 : Bool) (a5 : (List (Int × Int × Int)) × (List (Int × Int × Int × Int × Int × Int))) : s23_1 (T23 F36) (a0, a1, a2, a3, a4, a5) = q23_1 F36 a0 a1 a2 a3 a4 a5 := by kernel_rfl
noncomputable def p23_1 (a0 : List (Int × Int × Int)) (a1 : Int) (a2 : Int) (a3 : Bool) (a4 : Bool) (a5 : (List (Int × Int × Int)) × (List (Int × Int × Int × Int × Int × Int))) : Option (((List (Int × Int × Int)) × Int × Int × Bool × Bool × (List (Int × Int × Int)) × (List (Int × Int × Int × Int × Int × Int))) ⊕ ((Int × (List (Int × Int × Int)) × (List (Int × Int × Int × Int × Int × Int))) ⊕ ((List (Int × Int × Int)) × Int × Bool × Bool × (List (Int × Int × Int)) × (List (Int × Int × Int × Int × Int × Int))))) := q23_1 P36 a0 a1 a2 a3 a4 a5
noncomputable def L23_1 : (List (Int × Int × Int)) × Int × Int × Bool × Bool × (List (Int × Int × Int)) × (List (Int × Int × Int × Int × Int × Int)) → Option ((Int × (List (Int × Int × Int)) × (List (Int × Int × Int × Int × Int × Int))) ⊕ ((List (Int × Int × Int)) × Int × Bool × Bool × (List (Int × Int × Int)) × (List (Int × Int × Int × Int × Int × Int)))) := whileF (fun x => p23_1 x.1 x.2.1 x.2.2.1 x.2.2.2.1 x.2.2.2.2.1 x.2.2.2.2.2)
theorem v23_1 : l23_1 (T23 P36) = L23_1 := congrArg whileF (funext fun x => (g23_1 P36 x.1 x.2.1 x.2.2.1 x.2.2.2.1 x.2.2.2.2.1 x.2.2.2.2.2).trans (show q23_1 P36 x.1 x.2.1 x.2.2.1 x.2.2.2.1 x.2.2.2.2.1 x.2.2.2.2.2 = q23_1 P36 x.1 x.2.1 x.2.2.1 x.2.2.2.1 x.2.2.2.2.1 x.2.2.2.2.2 from rfl))
def b23_0 : DCode := (.seq (.seq (.reg [.op ⟨some 10, .mov (.t 5), none⟩ none,
  .op ⟨some 11, .mov (.t 1), none⟩ none,
  .op ⟨some 12, .len (.t 11), none⟩ none,
  .op ⟨some 13, .bin true .lss (.t 10) (.t 12), none⟩ none]) (.cond (.t 13) .skip (.exit 0))) (.seq (.blk 1 (.seq (.seq (.drw [] [(⟨some 16, .mov (.t 1), none⟩, none),
  (⟨some 17, .mov (.t 5), none⟩, none),
  (⟨some 18, .idx (.t 16) (.t 17) 3, none⟩, none),
  (⟨some 19, .fld (.t 18) 0, none⟩, none),
  (⟨some 20, .ld1 (.t 19) false, none⟩, none),
  (⟨some 21, .xcall 36 [(.t 20), (.c (.int .i64 0)), (.c (.int .i64 99))], none⟩, none),
  (⟨some 22, .unot (.t 21), none⟩, none),
  (⟨some 23, .mov (.t 22), none⟩, none),
  (⟨some 24, .mov (.t 1), some (23, false)⟩, none),
  (⟨some 25, .mov (.t 5), some (23, false)⟩, none),
  (⟨some 26, .idx (.t 24) (.t 25) 3, some (23, false)⟩, none),
  (⟨some 27, .fld (.t 26) 1, some (23, false)⟩, none),
  (⟨some 28, .ld1 (.t 27) false, some (23, false)⟩, none),
  (⟨some 29, .fld (.t 2) 0, some (23, false)⟩, none),
  (⟨some 30, .ld1 (.t 29) false, some (23, false)⟩, none),
  (⟨some 31, .len (.t 30), some (23, false)⟩, none),
  (⟨some 32, .bin true .sub (.t 31) (.c (.int .i64 1)), some (23, false)⟩, none),
  (⟨some 33, .xcall 36 [(.t 28), (.c (.int .i64 0)), (.t 32)], some (23, false)⟩, none),
  (⟨some 34, .unot (.t 33), some (23, false)⟩, none),
  (⟨some 35, .pick (.t 23) (.c (.bool true)) (.t 34), none⟩, none),
  (⟨some 36, .mov (.t 35), none⟩, none),
  (⟨some 37, .mov (.t 1), some (36, false)⟩, none),
  (⟨some 38, .mov (.t 5), some (36, false)⟩, none),
  (⟨some 39, .idx (.t 37) (.t 38) 3, some (36, false)⟩, none),
  (⟨some 40, .fld (.t 39) 2, some (36, false)⟩, none),
  (⟨some 41, .ld1 (.t 40) false, some (36, false)⟩, none),
  (⟨some 42, .xcall 36 [(.t 41), (.c (.int .i64 0)), (.c (.int .i64 99))], some (36, false)⟩, none),
  (⟨some 43, .unot (.t 42), some (36, false)⟩, none),
  (⟨some 44, .pick (.t 36) (.c (.bool true)) (.t 43), none⟩, none)]) (.cond (.t 44) (.seq (.reg [.op ⟨some 4, .mov (.c (.int .i64 72)), none⟩ none]) .ret) .skip)) (.seq (.reg [.op ⟨some 6, .mov (.c (.int .i64 0)), none⟩ none]) (.blk 2 (.loop h23_1 x23_1 b23_1))))) (.reg [.op ⟨some 14, .mov (.t 5), none⟩ none,
  .op ⟨some 15, .bin true .add (.t 14) (.c (.int .i64 1)), none⟩ none,
  .op ⟨some 5, .mov (.t 15), none⟩ none])))
def h23_0 : LSh := ⟨[1, 2, 5], ⟨[(.v (.sl (.pair (.int .i64) (.pair (.int .i64) (.int .i64))))), (.ptr 0 0), (.v (.int .i64))], [(0, (.boxT (.pair (.sl (.pair (.int .i64) (.pair (.int .i64) (.int .i64)))) (.sl (.pair (.int .i64) (.pair (.int .i64) (.pair (.int .i64) (.pair (.int .i64) (.pair (.int .i64) (.int .i64))))))))))]⟩, [(.sl (.pair (.int .i64) (.pair (.int .i64) (.int .i64)))), (.int .i64), (.pair (.sl (.pair (.int .i64) (.pair (.int .i64) (.int .i64)))) (.sl (.pair (.int .i64) (.pair (.int .i64) (.pair (.int .i64) (.pair (.int .i64) (.pair (.int .i64) (.int .i64))))))))], 1, [0]⟩
def x23_0 : List XSh := [⟨.ret, [4], ⟨⟨[(.v (.int .i64))], [(0, (.boxT (.pair (.sl (.pair (.int .i64) (.pair (.int .i64) (.int .i64)))) (.sl (.pair (.int .i64) (.pair (.int .i64) (.pair (.int .i64) (.pair (.int .i64) (.pair (.int .i64) (.int .i64))))))))))]⟩, [(.int .i64), (.pair (.sl (.pair (.int .i64) (.pair (.int .i64) (.int .i64)))) (.sl (.pair (.int .i64) (.pair (.int .i64) (.pair (.int .i64) (.pair (.int .i64) (.pair (.int .i64) (.int .i64))))))))], [0], 1⟩⟩, ⟨(.exit 0), [], ⟨⟨[], [(0, (.boxT (.pair (.sl (.pair (.int .i64) (.pair (.int .i64) (.int .i64)))) (.sl (.pair (.int .i64) (.pair (.int .i64) (.pair (.int .i64) (.pair (.int .i64) (.pair (.int .i64) (.int .i64))))))))))]⟩, [(.pair (.sl (.pair (.int .i64) (.pair (.int .i64) (.int .i64)))) (.sl (.pair (.int .i64) (.pair (.int .i64) (.pair (.int .i64) (.pair (.int .i64) (.pair (.int .i64) (.int .i64))))))))], [0], 1⟩⟩]
noncomputable def s23_0 (T : List FEnt) : (List (Int × Int × Int)) × Int × (List (Int × Int × Int)) × (List (Int × Int × Int × Int × Int × Int)) → Option (((List (Int × Int × Int)) × Int × (List (Int × Int × Int)) × (List (Int × Int × Int × Int × Int × Int))) ⊕ ((Int × (List (Int × Int × Int)) × (List (Int × Int × Int × Int × Int × Int))) ⊕ ((List (Int × Int × Int)) × (List (Int × Int × Int × Int × Int × Int))))) := dstep (xs := x23_0) h23_0 (dxc T b23_0)
noncomputable def l23_0 (T : List FEnt) : (List (Int × Int × Int)) × Int × (List (Int × Int × Int)) × (List (Int × Int × Int × Int × Int × Int)) → Option ((Int × (List (Int × Int × Int)) × (List (Int × Int × Int × Int × Int × Int))) ⊕ ((List (Int × Int × Int)) × (List (Int × Int × Int × Int × Int × Int)))) := whileF (s23_0 T)
noncomputable def q23_0 (F36 : Int × Int × Int → Option (Bool)) (l23_1 : (List (Int × Int × Int)) × Int × Int × Bool × Bool × (List (Int × Int × Int)) × (List (Int × Int × Int × Int × Int × Int)) → Option ((Int × (List (Int × Int × Int)) × (List (Int × Int × Int × Int × Int × Int))) ⊕ ((List (Int × Int × Int)) × Int × Bool × Bool × (List (Int × Int × Int)) × (List (Int × Int × Int × Int × Int × Int))))) (a0 : List (Int × Int × Int)) (a1 : Int) (a2 : (List (Int × Int × Int)) × (List (Int × Int × Int × Int × Int × Int))) : Option (((List (Int × Int × Int)) × Int × (List (Int × Int × Int)) × (List (Int × Int × Int × Int × Int × Int))) ⊕ ((Int × (List (Int × Int × Int)) × (List (Int × Int × Int × Int × Int × Int))) ⊕ ((List (Int × Int × Int)) × (List (Int × Int × Int × Int × Int × Int))))) :=
cond (decide (a1 < (↑(List.length a0) : Int))) (
chk (inR a1 (List.length a0)) (
(F36 ((ix a0 a1).1, (0 : Int), (99 : Int))).bind fun (r1 : Bool) => (
cond (!r1) (
some (Sum.inr (Sum.inl ((72 : Int), a2)))) (
chk (inR a1 (List.length a0)) (
chk (fits .i64 ((↑(List.length a2.1) : Int) - (1 : Int))) (
(F36 ((ix a0 a1).2.1, (0 : Int), ((↑(List.length a2.1) : Int) - (1 : Int)))).bind fun (r2 : Bool) => (
cond (!r2) (
some (Sum.inr (Sum.inl ((72 : Int), a2)))) (
chk (inR a1 (List.length a0)) (
(F36 ((ix a0 a1).2.2, (0 : Int), (99 : Int))).bind fun (r3 : Bool) => (
cond (!r3) (
some (Sum.inr (Sum.inl ((72 : Int), a2)))) (
(l23_1 (a0, a1, (0 : Int), r2, r3, a2)).bind (fun (y4 : (Int × (List (Int × Int × Int)) × (List (Int × Int × Int × Int × Int × Int))) ⊕ ((List (Int × Int × Int)) × Int × Bool × Bool × (List (Int × Int × Int)) × (List (Int × Int × Int × Int × Int × Int)))) => Sum.elim (fun (y5 : Int × (List (Int × Int × Int)) × (List (Int × Int × Int × Int × Int × Int))) => (
some (Sum.inr (Sum.inl (y5.1, y5.2))))) (fun (y6 : (List (Int × Int × Int)) × Int × Bool × Bool × (List (Int × Int × Int)) × (List (Int × Int × Int × Int × Int × Int))) => (
chk (fits .i64 (y6.2.1 + (1 : Int))) (
some (Sum.inl (y6.1, (y6.2.1 + (1 : Int)), y6.2.2.2.2))))) y4)))))))))))) (
some (Sum.inr (Sum.inr a2)))
theorem g23_0 (F36 : Int × Int × Int → Option (Bool)) (a0 : List (Int × Int × Int)) (a1 : Int) (a2 : (List (Int × Int × Int)) × (List (Int × Int × Int × Int × Int × Int))) : s23_0 (T23 F36) (a0, a1, a2) = q23_0 F36 (l23_1 (T23 F36)) a0 a1 a2 := by kernel_rfl
noncomputable def p23_0 (a0 : List (Int × Int × Int)) (a1 : Int) (a2 : (List (Int × Int × Int)) × (List (Int × Int × Int × Int × Int × Int))) : Option (((List (Int × Int × Int)) × Int × (List (Int × Int × Int)) × (List (Int × Int × Int × Int × Int × Int))) ⊕ ((Int × (List (Int × Int × Int)) × (List (Int × Int × Int × Int × Int × Int))) ⊕ ((List (Int × Int × Int)) × (List (Int × Int × Int × Int × Int × Int))))) := q23_0 P36 L23_1 a0 a1 a2
noncomputable def L23_0 : (List (Int × Int × Int)) × Int × (List (Int × Int × Int)) × (List (Int × Int × Int × Int × Int × Int)) → Option ((Int × (List (Int × Int × Int)) × (List (Int × Int × Int × Int × Int × Int))) ⊕ ((List (Int × Int × Int)) × (List (Int × Int × Int × Int × Int × Int)))) := whileF (fun x => p23_0 x.1 x.2.1 x.2.2)
theorem v23_0 : l23_0 (T23 P36) = L23_0 := congrArg whileF (funext fun x => (g23_0 P36 x.1 x.2.1 x.2.2).trans (show q23_0 P36 (l23_1 (T23 P36)) x.1 x.2.1 x.2.2 = q23_0 P36 L23_1 x.1 x.2.1 x.2.2 from by rw [v23_1]))
def c23 : DCode := (.seq (.reg [.op ⟨some 2, .box (.t 0), none⟩ none,
  .op ⟨some 4, .mov (.c (.int .i64 0)), none⟩ none]) (.seq (.seq (.reg [.op ⟨some 7, .mov (.t 1), none⟩ none,
  .op ⟨some 8, .len (.t 7), none⟩ none,
  .op ⟨some 9, .bin true .gtr (.t 8) (.c (.int .i64 30)), none⟩ none]) (.cond (.t 9) (.seq (.reg [.op ⟨some 4, .mov (.c (.int .i64 72)), none⟩ none]) .ret) .skip)) (.seq (.seq (.reg [.op ⟨some 5, .mov (.c (.int .i64 0)), none⟩ none]) (.blk 0 (.loop h23_0 x23_0 b23_0))) (.seq (.reg [.op ⟨some 4, .mov (.c (.int .i64 0)), none⟩ none]) .ret))))
theorem ok23 : L.Fn Try.prog 23 72 [(.t 4)] (erase c23) := L.Fn.of hmix Try.func23 [] (by kernel_rfl)
def sh23 : FSh := ⟨⟨[(.st (.pair (.sl (.pair (.int .i64) (.pair (.int .i64) (.int .i64)))) (.sl (.pair (.int .i64) (.pair (.int .i64) (.pair (.int .i64) (.pair (.int .i64) (.pair (.int .i64) (.int .i64))))))))), (.v (.sl (.pair (.int .i64) (.pair (.int .i64) (.int .i64)))))], []⟩, [(.pair (.sl (.pair (.int .i64) (.pair (.int .i64) (.int .i64)))) (.sl (.pair (.int .i64) (.pair (.int .i64) (.pair (.int .i64) (.pair (.int .i64) (.pair (.int .i64) (.int .i64)))))))), (.sl (.pair (.int .i64) (.pair (.int .i64) (.int .i64))))], 0, ⟨⟨[(.v (.int .i64))], []⟩, [(.int .i64)], [], 0⟩, true⟩
noncomputable def q23 (F36 : Int × Int × Int → Option (Bool)) (l23_0 : (List (Int × Int × Int)) × Int × (List (Int × Int × Int)) × (List (Int × Int × Int × Int × Int × Int)) → Option ((Int × (List (Int × Int × Int)) × (List (Int × Int × Int × Int × Int × Int))) ⊕ ((List (Int × Int × Int)) × (List (Int × Int × Int × Int × Int × Int))))) (a0 : (List (Int × Int × Int)) × (List (Int × Int × Int × Int × Int × Int))) (a1 : List (Int × Int × Int)) : Option (Int) :=
cond (decide ((30 : Int) < (↑(List.length a1) : Int))) (
some (72 : Int)) (
(l23_0 (a1, (0 : Int), a0)).bind (fun (y7 : (Int × (List (Int × Int × Int)) × (List (Int × Int × Int × Int × Int × Int))) ⊕ ((List (Int × Int × Int)) × (List (Int × Int × Int × Int × Int × Int)))) => Sum.elim (fun (y8 : Int × (List (Int × Int × Int)) × (List (Int × Int × Int × Int × Int × Int))) => (
some y8.1)) (fun (y9 : (List (Int × Int × Int)) × (List (Int × Int × Int × Int × Int × Int))) => (
some (0 : Int))) y7))
theorem g23 (F36 : Int × Int × Int → Option (Bool)) (a0 : (List (Int × Int × Int)) × (List (Int × Int × Int × Int × Int × Int))) (a1 : List (Int × Int × Int)) : dxf (T23 F36) sh23 [(.t 4)] c23 (a0, a1) = q23 F36 (l23_0 (T23 F36)) a0 a1 := by kernel_rfl
noncomputable def p23 (a0 : (List (Int × Int × Int)) × (List (Int × Int × Int × Int × Int × Int))) (a1 : List (Int × Int × Int)) : Option (Int) := q23 P36 L23_0 a0 a1
noncomputable def P23 : ((List (Int × Int × Int)) × (List (Int × Int × Int × Int × Int × Int))) × (List (Int × Int × Int)) → Option (Int) := fun x => p23 x.1 x.2
theorem v23 : dxf (T23 P36) sh23 [(.t 4)] c23 = P23 := funext fun x => (g23 P36 x.1 x.2).trans (show q23 P36 (l23_0 (T23 P36)) x.1 x.2 = q23 P36 L23_0 x.1 x.2 from by rw [v23_0])
theorem d23 : DC Try.prog 23 sh23 P23 := DC_eq v23 (dxf_sound (sh := sh23) t23 ok23 (by kernel_rfl))
/-! bijou/bijoulaw07.sum -/
noncomputable def T24 : List FEnt := []
theorem t24 : DTblOK Try.prog T24 := DTbl_nil
def b24_0 : DCode := (.seq (.seq (.reg [.op ⟨some 5, .mov (.t 4), none⟩ none,
  .op ⟨some 6, .mov (.t 0), none⟩ none,
  .op ⟨some 7, .len (.t 6), none⟩ none,
  .op ⟨some 8, .bin true .lss (.t 5) (.t 7), none⟩ none]) (.cond (.t 8) .skip (.exit 0))) (.seq (.blk 1 (.reg [.op ⟨some 11, .mov (.t 3), none⟩ none,
  .op ⟨some 12, .mov (.t 0), none⟩ none,
  .op ⟨some 13, .mov (.t 4), none⟩ none,
  .op ⟨some 14, .idx (.t 12) (.t 13) 1, none⟩ none,
  .op ⟨some 15, .ld1 (.t 14) false, none⟩ none,
  .op ⟨some 16, .bin true .add (.t 11) (.t 15), none⟩ none,
  .op ⟨some 3, .mov (.t 16), none⟩ none])) (.reg [.op ⟨some 9, .mov (.t 4), none⟩ none,
  .op ⟨some 10, .bin true .add (.t 9) (.c (.int .i64 1)), none⟩ none,
  .op ⟨some 4, .mov (.t 10), none⟩ none])))
def h24_0 : LSh := ⟨[0, 3, 4], ⟨[(.v (.sl (.int .i64))), (.v (.int .i64)), (.v (.int .i64))], []⟩, [(.sl (.int .i64)), (.int .i64), (.int .i64)], 0, []⟩
def x24_0 : List XSh := [⟨(.exit 0), [3], ⟨⟨[(.v (.int .i64))], []⟩, [(.int .i64)], [], 0⟩⟩]
noncomputable def s24_0 (T : List FEnt) : (List Int) × Int × Int → Option (((List Int) × Int × Int) ⊕ (Int)) := dstep (xs := x24_0) h24_0 (dxc T b24_0)
noncomputable def l24_0 (T : List FEnt) : (List Int) × Int × Int → Option (Int) := whileF (s24_0 T)
noncomputable def q24_0 (a0 : List Int) (a1 : Int) (a2 : Int) : Option (((List Int) × Int × Int) ⊕ (Int)) :=
cond (decide (a2 < (↑(List.length a0) : Int))) (
chk (inR a2 (List.length a0)) (
chk (fits .i64 (a1 + (ix a0 a2))) (
chk (fits .i64 (a2 + (1 : Int))) (
some (Sum.inl (a0, (a1 + (ix a0 a2)), (a2 + (1 : Int)))))))) (
some (Sum.inr a1))
theorem g24_0 (a0 : List Int) (a1 : Int) (a2 : Int) : s24_0 T24 (a0, a1, a2) = q24_0 a0 a1 a2 := by kernel_rfl
noncomputable def p24_0 (a0 : List Int) (a1 : Int) (a2 : Int) : Option (((List Int) × Int × Int) ⊕ (Int)) := q24_0 a0 a1 a2
noncomputable def L24_0 : (List Int) × Int × Int → Option (Int) := whileF (fun x => p24_0 x.1 x.2.1 x.2.2)
theorem v24_0 : l24_0 T24 = L24_0 := congrArg whileF (funext fun x => (g24_0 x.1 x.2.1 x.2.2).trans (show q24_0 x.1 x.2.1 x.2.2 = q24_0 x.1 x.2.1 x.2.2 from rfl))
def c24 : DCode := (.seq (.reg [.op ⟨some 2, .mov (.c (.int .i64 0)), none⟩ none]) (.seq (.reg [.op ⟨some 3, .mov (.c (.int .i64 0)), none⟩ none]) (.seq (.seq (.reg [.op ⟨some 4, .mov (.c (.int .i64 0)), none⟩ none]) (.blk 0 (.loop h24_0 x24_0 b24_0))) (.seq (.reg [.op ⟨some 17, .mov (.t 3), none⟩ none,
  .op ⟨some 2, .mov (.t 17), none⟩ none]) .ret))))
theorem ok24 : L.Fn Try.prog 24 18 [(.t 2)] (erase c24) := L.Fn.of hmix Try.func24 [] (by kernel_rfl)
def sh24 : FSh := ⟨⟨[(.v (.sl (.int .i64)))], []⟩, [(.sl (.int .i64))], 0, ⟨⟨[(.v (.int .i64))], []⟩, [(.int .i64)], [], 0⟩, true⟩
noncomputable def q24 (l24_0 : (List Int) × Int × Int → Option (Int)) (a0 : List Int) : Option (Int) :=
(l24_0 (a0, (0 : Int), (0 : Int))).bind fun (y1 : Int) => (
some y1)
theorem g24 (a0 : List Int) : dxf T24 sh24 [(.t 2)] c24 a0 = q24 (l24_0 T24) a0 := by kernel_rfl
noncomputable def p24 (a0 : List Int) : Option (Int) := q24 L24_0 a0
noncomputable def P24 : List Int → Option (Int) := fun x => p24 x
theorem v24 : dxf T24 sh24 [(.t 2)] c24 = P24 := funext fun x => (g24 x).trans (show q24 (l24_0 T24) x = q24 L24_0 x from by rw [v24_0])
theorem d24 : DC Try.prog 24 sh24 P24 := DC_eq v24 (dxf_sound (sh := sh24) t24 ok24 (by kernel_rfl))
end Go.Proofs.Ytjoncejabdjekaa.D
