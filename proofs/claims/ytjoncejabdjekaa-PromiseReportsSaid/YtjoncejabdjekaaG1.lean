/- Functions of the program as typed functions: printed by a program of this claim, checked by Lean. -/
import Derived.Test.YtjoncejabdjekaaG0
import Derived.Test.YtjoncejabdjekaaProg
set_option linter.unusedVariables false
set_option maxRecDepth 100000
namespace Go.Proofs.Ytjoncejabdjekaa.D
open Go Go.Proofs Go.Proofs.Ytjoncejabdjekaa.L
/-! bijou/promise.owe$1 -/
noncomputable def T58 : List FEnt := []
theorem t58 : DTblOK Try.prog T58 := DTbl_nil
def c58 : DCode := (.seq (.reg [.op ⟨some 2, .box (.t 0), none⟩ none,
  .op ⟨some 3, .mov (.c (.bool false)), none⟩ none]) (.seq (.reg [.op ⟨some 4, .fld (.t 2) 0, none⟩ none,
  .op ⟨some 5, .ld1 (.t 4) false, none⟩ none,
  .op ⟨some 6, .fld (.t 1) 2, none⟩ none,
  .op ⟨some 7, .ld1 (.t 6) false, none⟩ none,
  .op ⟨some 8, .bin true .eql (.t 5) (.t 7), none⟩ none,
  .op ⟨some 3, .mov (.t 8), none⟩ none]) .ret))
theorem ok58 : L.Fn Try.prog 58 9 [(.t 3)] (erase c58) := L.Fn.of hmix Try.func58 [] (by kernel_rfl)
def sh58 : FSh := ⟨⟨[(.st (.pair (.int .i64) (.pair (.int .i64) (.pair (.int .i64) (.pair (.int .i64) (.pair (.int .i64) (.int .i64))))))), (.elm (.pair (.int .i64) (.pair (.int .i64) (.int .i64))))], []⟩, [(.pair (.int .i64) (.pair (.int .i64) (.pair (.int .i64) (.pair (.int .i64) (.pair (.int .i64) (.int .i64)))))), (.pair (.int .i64) (.pair (.int .i64) (.int .i64)))], 0, ⟨⟨[(.v .bool)], []⟩, [.bool], [], 0⟩, true⟩
noncomputable def q58 (a0 : Int × Int × Int × Int × Int × Int) (a1 : Int × Int × Int) : Option (Bool) :=
some (decide (a0.1 = a1.2.2))
theorem g58 (a0 : Int × Int × Int × Int × Int × Int) (a1 : Int × Int × Int) : dxf T58 sh58 [(.t 3)] c58 (a0, a1) = q58 a0 a1 := by kernel_rfl
noncomputable def p58 (a0 : Int × Int × Int × Int × Int × Int) (a1 : Int × Int × Int) : Option (Bool) := q58 a0 a1
noncomputable def P58 : (Int × Int × Int × Int × Int × Int) × Int × Int × Int → Option (Bool) := fun x => p58 x.1 x.2
theorem v58 : dxf T58 sh58 [(.t 3)] c58 = P58 := funext fun x => (g58 x.1 x.2).trans (show q58 x.1 x.2 = q58 x.1 x.2 from rfl)
theorem d58 : DC Try.prog 58 sh58 P58 := DC_eq v58 (dxf_sound (sh := sh58) t58 ok58 (by kernel_rfl))
/-! slices.IndexFunc[[]bijou/api.Promise,bijou/api.Promise] -/
noncomputable def T56v1 (F58 : (Int × Int × Int × Int × Int × Int) × Int × Int × Int → Option (Bool)) : List FEnt := [⟨58, sh58, F58⟩]
theorem t56v1 : DTblOK Try.prog (T56v1 P58) := (DTbl_cons' (f := 58) (sh := sh58) (F := P58) d58 (by kernel_rfl) DTbl_nil)
def b56v1_0 : DCode := (.seq (.reg [.op ⟨some 9, .bin true .lss (.t 8) (.t 7), none⟩ none]) (.seq (.cond (.t 9) .skip (.exit 0)) (.seq (.blk 1 (.seq (.reg [.op ⟨some 10, .mov (.t 8), none⟩ none,
  .op ⟨some 5, .mov (.t 10), none⟩ none]) (.seq (.reg [.op ⟨some 11, .mov (.t 1), none⟩ none,
  .op ⟨some 12, .mov (.t 0), none⟩ none,
  .op ⟨some 13, .mov (.t 5), none⟩ none,
  .op ⟨some 14, .idx (.t 12) (.t 13) 6, none⟩ none,
  .op ⟨some 15, .ldn (.t 14) 6 false, none⟩ none,
  .op ⟨some 16, .xcallv (.t 11) [(.t 15)], none⟩ none]) (.cond (.t 16) (.seq (.reg [.op ⟨some 17, .mov (.t 5), none⟩ none,
  .op ⟨some 4, .mov (.t 17), none⟩ none]) .ret) .skip)))) (.reg [.op ⟨some 18, .bin true .add (.t 8) (.c (.int .i64 1)), none⟩ none,
  .op ⟨some 8, .mov (.t 18), none⟩ none]))))
def h56v1_0 : LSh := ⟨[0, 1, 7, 8], ⟨[(.v (.sl (.pair (.int .i64) (.pair (.int .i64) (.pair (.int .i64) (.pair (.int .i64) (.pair (.int .i64) (.int .i64)))))))), (.fn 58 [(.elm (.pair (.int .i64) (.pair (.int .i64) (.int .i64))))]), (.v (.int .i64)), (.v (.int .i64))], []⟩, [(.sl (.pair (.int .i64) (.pair (.int .i64) (.pair (.int .i64) (.pair (.int .i64) (.pair (.int .i64) (.int .i64))))))), (.pair (.int .i64) (.pair (.int .i64) (.int .i64))), (.int .i64), (.int .i64)], 0, []⟩
def x56v1_0 : List XSh := [⟨.ret, [4], ⟨⟨[(.v (.int .i64))], []⟩, [(.int .i64)], [], 0⟩⟩, ⟨(.exit 0), [], ⟨⟨[], []⟩, [], [], 0⟩⟩]
noncomputable def s56v1_0 (T : List FEnt) : (List (Int × Int × Int × Int × Int × Int)) × (Int × Int × Int) × Int × Int → Option (((List (Int × Int × Int × Int × Int × Int)) × (Int × Int × Int) × Int × Int) ⊕ ((Int) ⊕ (Unit))) := dstep (xs := x56v1_0) h56v1_0 (dxc T b56v1_0)
noncomputable def l56v1_0 (T : List FEnt) : (List (Int × Int × Int × Int × Int × Int)) × (Int × Int × Int) × Int × Int → Option ((Int) ⊕ (Unit)) := whileF (s56v1_0 T)
noncomputable def q56v1_0 (F58 : (Int × Int × Int × Int × Int × Int) × Int × Int × Int → Option (Bool)) (a0 : List (Int × Int × Int × Int × Int × Int)) (a1 : Int × Int × Int) (a2 : Int) (a3 : Int) : Option (((List (Int × Int × Int × Int × Int × Int)) × (Int × Int × Int) × Int × Int) ⊕ ((Int) ⊕ (Unit))) :=
cond (decide (a3 < a2)) (
chk (inR a3 (List.length a0)) (
(F58 ((ix a0 a3), a1)).bind fun (r1 : Bool) => (
cond r1 (
some (Sum.inr (Sum.inl a3))) (
chk (fits .i64 (a3 + (1 : Int))) (
some (Sum.inl (a0, a1, a2, (a3 + (1 : Int))))))))) (
some (Sum.inr (Sum.inr ())))
theorem g56v1_0 (F58 : (Int × Int × Int × Int × Int × Int) × Int × Int × Int → Option (Bool)) (a0 : List (Int × Int × Int × Int × Int × Int)) (a1 : Int × Int × Int) (a2 : Int) (a3 : Int) : s56v1_0 (T56v1 F58) (a0, a1, a2, a3) = q56v1_0 F58 a0 a1 a2 a3 := by kernel_rfl
noncomputable def p56v1_0 (a0 : List (Int × Int × Int × Int × Int × Int)) (a1 : Int × Int × Int) (a2 : Int) (a3 : Int) : Option (((List (Int × Int × Int × Int × Int × Int)) × (Int × Int × Int) × Int × Int) ⊕ ((Int) ⊕ (Unit))) := q56v1_0 P58 a0 a1 a2 a3
noncomputable def L56v1_0 : (List (Int × Int × Int × Int × Int × Int)) × (Int × Int × Int) × Int × Int → Option ((Int) ⊕ (Unit)) := whileF (fun x => p56v1_0 x.1 x.2.1 x.2.2.1 x.2.2.2)
theorem v56v1_0 : l56v1_0 (T56v1 P58) = L56v1_0 := congrArg whileF (funext fun x => (g56v1_0 P58 x.1 x.2.1 x.2.2.1 x.2.2.2).trans (show q56v1_0 P58 x.1 x.2.1 x.2.2.1 x.2.2.2 = q56v1_0 P58 x.1 x.2.1 x.2.2.1 x.2.2.2 from rfl))
def c56v1 : DCode := (.seq (.reg [.op ⟨some 4, .mov (.c (.int .i64 0)), none⟩ none]) (.seq (.seq (.reg [.op ⟨some 6, .mov (.t 0), none⟩ none,
  .op ⟨some 7, .len (.t 6), none⟩ none,
  .op ⟨some 8, .mov (.c (.int .i64 0)), none⟩ none]) (.blk 0 (.loop h56v1_0 x56v1_0 b56v1_0))) (.seq (.reg [.op ⟨some 4, .mov (.c (.int .i64 (-1))), none⟩ none]) .ret)))
theorem ok56v1 : L.Fn Try.prog 56 19 [(.t 4)] (erase c56v1) := L.Fn.of hmix Try.func56 [] (by kernel_rfl)
def sh56v1 : FSh := ⟨⟨[(.v (.sl (.pair (.int .i64) (.pair (.int .i64) (.pair (.int .i64) (.pair (.int .i64) (.pair (.int .i64) (.int .i64)))))))), (.fn 58 [(.elm (.pair (.int .i64) (.pair (.int .i64) (.int .i64))))])], []⟩, [(.sl (.pair (.int .i64) (.pair (.int .i64) (.pair (.int .i64) (.pair (.int .i64) (.pair (.int .i64) (.int .i64))))))), (.pair (.int .i64) (.pair (.int .i64) (.int .i64)))], 0, ⟨⟨[(.v (.int .i64))], []⟩, [(.int .i64)], [], 0⟩, true⟩
noncomputable def q56v1 (F58 : (Int × Int × Int × Int × Int × Int) × Int × Int × Int → Option (Bool)) (l56v1_0 : (List (Int × Int × Int × Int × Int × Int)) × (Int × Int × Int) × Int × Int → Option ((Int) ⊕ (Unit))) (a0 : List (Int × Int × Int × Int × Int × Int)) (a1 : Int × Int × Int) : Option (Int) :=
(l56v1_0 (a0, a1, (↑(List.length a0) : Int), (0 : Int))).bind (fun (y2 : (Int) ⊕ (Unit)) => Sum.elim (fun (y3 : Int) => (
some y3)) (fun (y4 : Unit) => (
some (-1 : Int))) y2)
theorem g56v1 (F58 : (Int × Int × Int × Int × Int × Int) × Int × Int × Int → Option (Bool)) (a0 : List (Int × Int × Int × Int × Int × Int)) (a1 : Int × Int × Int) : dxf (T56v1 F58) sh56v1 [(.t 4)] c56v1 (a0, a1) = q56v1 F58 (l56v1_0 (T56v1 F58)) a0 a1 := by kernel_rfl
noncomputable def p56v1 (a0 : List (Int × Int × Int × Int × Int × Int)) (a1 : Int × Int × Int) : Option (Int) := q56v1 P58 L56v1_0 a0 a1
noncomputable def P56v1 : (List (Int × Int × Int × Int × Int × Int)) × Int × Int × Int → Option (Int) := fun x => p56v1 x.1 x.2
theorem v56v1 : dxf (T56v1 P58) sh56v1 [(.t 4)] c56v1 = P56v1 := funext fun x => (g56v1 P58 x.1 x.2).trans (show q56v1 P58 (l56v1_0 (T56v1 P58)) x.1 x.2 = q56v1 P58 L56v1_0 x.1 x.2 from by rw [v56v1_0])
theorem d56v1 : DC Try.prog 56 sh56v1 P56v1 := DC_eq v56v1 (dxf_sound (sh := sh56v1) t56v1 ok56v1 (by kernel_rfl))
/-! bijou/promise.owe -/
noncomputable def T41 (F37 : (List (Int × Int × Int)) × (List (Int × Int × Int × Int × Int × Int)) → Option ((List (Int × Int × Int)) × (List (Int × Int × Int × Int × Int × Int)) × (List (List Int × Int)) × (List Int))) (F56v1 : (List (Int × Int × Int × Int × Int × Int)) × Int × Int × Int → Option (Int)) (F57 : Int × Int × (List (Int × Int × Int)) × (List (Int × Int × Int × Int × Int × Int)) × (List (List Int × Int)) × (List Int) → Option (Bool × (List (Int × Int × Int)) × (List (Int × Int × Int × Int × Int × Int)) × (List (List Int × Int)) × (List Int))) : List FEnt := [⟨37, sh37, F37⟩, ⟨56, sh56v1, F56v1⟩, ⟨57, sh57, F57⟩]
theorem t41 : DTblOK Try.prog (T41 P37 P56v1 P57) := (DTbl_cons' (f := 37) (sh := sh37) (F := P37) d37 (by kernel_rfl) (DTbl_cons' (f := 56) (sh := sh56v1) (F := P56v1) d56v1 (by kernel_rfl) (DTbl_cons' (f := 57) (sh := sh57) (F := P57) d57 (by kernel_rfl) DTbl_nil)))
def b41_0 : DCode := (.seq (.reg [.op ⟨some 16, .bin true .lss (.t 15) (.t 14), none⟩ none]) (.seq (.cond (.t 16) .skip (.exit 0)) (.seq (.blk 1 (.seq (.reg [.op ⟨some 17, .idx (.t 13) (.t 15) 3, none⟩ none,
  .op ⟨some 18, .ldn (.t 17) 3 false, none⟩ none,
  .op ⟨some 8, .alc [(.int .i64 0), (.int .i64 0), (.int .i64 0)], none⟩ none,
  .op ⟨none, .sto (.t 8) (.t 18) 3, none⟩ none]) (.seq (.seq (.drw [] [(⟨some 19, .mov (.t 6), none⟩, none),
  (⟨some 20, .fld (.t 8) 2, none⟩, none),
  (⟨some 21, .ld1 (.t 20) false, none⟩, none),
  (⟨some 22, .fld (.t 8) 1, none⟩, none),
  (⟨some 23, .ld1 (.t 22) false, none⟩, none),
  (⟨some 24, .bld [(.int .i64 0), (.int .i64 0)] [(0, (1, (.t 21))), (1, (1, (.t 23)))], none⟩, none),
  (⟨some 25, .lkp 2 false (.int .i64 0) (.t 19) (.t 24) false, none⟩, none),
  (⟨some 26, .bin true .add (.t 25) (.c (.int .i64 1)), none⟩, none),
  (⟨some 27, .men 2 (.int .i64 0) (.t 19) (.t 24), none⟩, none),
  (⟨some 28, .ext (.t 27) 1, none⟩, none),
  (⟨none, .ens (.t 19) (.t 28) (.t 26), none⟩, none)]) (.seq (.reg [.op ⟨some 29, .mov (.t 6), none⟩ none,
  .op ⟨some 30, .fld (.t 8) 2, none⟩ none,
  .op ⟨some 31, .ld1 (.t 30) false, none⟩ none,
  .op ⟨some 32, .fld (.t 8) 1, none⟩ none,
  .op ⟨some 33, .ld1 (.t 32) false, none⟩ none,
  .op ⟨some 34, .bld [(.int .i64 0), (.int .i64 0)] [(0, (1, (.t 31))), (1, (1, (.t 33)))], none⟩ none,
  .op ⟨some 35, .lkp 2 false (.int .i64 0) (.t 29) (.t 34) false, none⟩ none,
  .op ⟨some 36, .bin true .gtr (.t 35) (.c (.int .i64 1)), none⟩ none]) (.cond (.t 36) (.exit 1) .skip))) (.seq (.reg [.op ⟨some 37, .fld (.t 2) 1, none⟩ none,
  .op ⟨some 38, .ld1 (.t 37) false, none⟩ none,
  .op ⟨some 39, .mkf 58 [(.t 8)], none⟩ none,
  .op ⟨some 40, .xcall 56 [(.t 38), (.t 39)], none⟩ none,
  .op ⟨some 9, .mov (.t 40), none⟩ none]) (.seq (.blk 2 (.seq (.reg [.op ⟨some 51, .mov (.t 9), none⟩ none,
  .op ⟨some 52, .bin true .lss (.t 51) (.c (.int .i64 0)), none⟩ none,
  .op ⟨some 53, .mov (.t 52), none⟩ none,
  .op ⟨some 54, .mov (.t 4), some (53, false)⟩ none,
  .op ⟨some 55, .mov (.t 9), some (53, false)⟩ none,
  .op ⟨some 56, .fld (.t 8) 1, some (53, false)⟩ none,
  .op ⟨some 57, .ld1 (.t 56) false, some (53, false)⟩ none,
  .op ⟨some 58, .xcall 57 [(.t 54), (.t 55), (.t 57)], some (53, false)⟩ none,
  .op ⟨some 59, .unot (.t 58), some (53, false)⟩ none,
  .op ⟨some 60, .pick (.t 53) (.c (.bool true)) (.t 59), none⟩ none,
  .op ⟨some 50, .mov (.t 60), none⟩ none]) (.cond (.t 50) (.seq (.reg [.op ⟨some 61, .mov (.t 5), none⟩ none,
  .op ⟨some 62, .bin true .add (.t 61) (.c (.int .i64 1)), none⟩ none,
  .op ⟨some 5, .mov (.t 62), none⟩ none]) (.exit 1)) (.seq (.reg [.op ⟨some 64, .mov (.t 4), none⟩ none,
  .op ⟨some 65, .nilc (.t 64), none⟩ none,
  .op ⟨some 66, .fld (.t 65) 3, none⟩ none,
  .op ⟨some 67, .ld1 (.t 66) false, none⟩ none,
  .op ⟨some 68, .mov (.t 9), none⟩ none,
  .op ⟨some 69, .idx (.t 67) (.t 68) 1, none⟩ none,
  .op ⟨some 70, .ld1 (.t 69) false, none⟩ none,
  .op ⟨some 71, .bin true .eql (.t 70) (.c (.int .i64 0)), none⟩ none,
  .op ⟨some 63, .mov (.t 71), none⟩ none]) (.cond (.t 63) (.reg [.op ⟨some 72, .mov (.t 5), none⟩ none,
  .op ⟨some 73, .bin true .add (.t 72) (.c (.int .i64 1)), none⟩ none,
  .op ⟨some 5, .mov (.t 73), none⟩ none]) (.reg [.op ⟨some 41, .mov (.t 4), none⟩ none,
  .op ⟨some 42, .nilc (.t 41), none⟩ none,
  .op ⟨some 43, .fld (.t 42) 3, none⟩ none,
  .op ⟨some 44, .ld1 (.t 43) false, none⟩ none,
  .op ⟨some 45, .mov (.t 9), none⟩ none,
  .op ⟨some 46, .idx (.t 44) (.t 45) 1, none⟩ none,
  .op ⟨some 47, .ld1 (.t 46) false, none⟩ none,
  .op ⟨some 48, .bin true .sub (.t 47) (.c (.int .i64 1)), none⟩ none,
  .op ⟨some 49, .idx (.t 44) (.t 45) 1, none⟩ none,
  .op ⟨none, .sto (.t 49) (.t 48) 1, none⟩ none])))))) (.drw [] [(⟨some 74, .mov (.t 4), none⟩, none),
  (⟨some 75, .nilc (.t 74), none⟩, none),
  (⟨some 76, .fld (.t 75) 2, none⟩, none),
  (⟨some 77, .ld1 (.t 76) false, none⟩, none),
  (⟨some 78, .mov (.t 9), none⟩, none),
  (⟨some 79, .fld (.t 8) 1, none⟩, none),
  (⟨some 80, .ld1 (.t 79) false, none⟩, none),
  (⟨some 81, .bld [(.int .i64 0), (.int .i64 0)] [(0, (1, (.t 78))), (1, (1, (.t 80)))], none⟩, none),
  (⟨some 82, .lkp 2 false (.int .i64 0) (.t 77) (.t 81) false, none⟩, none),
  (⟨some 83, .bin true .add (.t 82) (.c (.int .i64 1)), none⟩, none),
  (⟨some 84, .men 2 (.int .i64 0) (.t 77) (.t 81), none⟩, none),
  (⟨some 85, .ext (.t 84) 1, none⟩, none),
  (⟨none, .ens (.t 77) (.t 85) (.t 83), none⟩, none)])))))) (.reg [.op ⟨some 86, .bin true .add (.t 15) (.c (.int .i64 1)), none⟩ none,
  .op ⟨some 15, .mov (.t 86), none⟩ none]))))
def h41_0 : LSh := ⟨[2, 4, 5, 6, 13, 14, 15], ⟨[(.ptr 0 0), (.ptr 1 0), (.v (.int .i64)), (.mp 2), (.v (.sl (.pair (.int .i64) (.pair (.int .i64) (.int .i64))))), (.v (.int .i64)), (.v (.int .i64))], [(0, (.boxT (.pair (.sl (.pair (.int .i64) (.pair (.int .i64) (.int .i64)))) (.sl (.pair (.int .i64) (.pair (.int .i64) (.pair (.int .i64) (.pair (.int .i64) (.pair (.int .i64) (.int .i64)))))))))), (1, (.box [(.v (.sl (.pair (.int .i64) (.pair (.int .i64) (.int .i64))))), (.v (.sl (.pair (.int .i64) (.pair (.int .i64) (.pair (.int .i64) (.pair (.int .i64) (.pair (.int .i64) (.int .i64)))))))), (.mp 3), (.slc 4)])), (2, (.imap 2 false (.int .i64))), (3, (.imap 2 false (.int .i64))), (4, (.row 3 (.int .i64)))]⟩, [(.int .i64), (.sl (.pair (.int .i64) (.pair (.int .i64) (.int .i64)))), (.int .i64), (.int .i64), (.pair (.sl (.pair (.int .i64) (.pair (.int .i64) (.int .i64)))) (.sl (.pair (.int .i64) (.pair (.int .i64) (.pair (.int .i64) (.pair (.int .i64) (.pair (.int .i64) (.int .i64)))))))), (.sl (.pair (.int .i64) (.pair (.int .i64) (.int .i64)))), (.sl (.pair (.int .i64) (.pair (.int .i64) (.pair (.int .i64) (.pair (.int .i64) (.pair (.int .i64) (.int .i64))))))), (.es (.int .i64)), (.es (.int .i64)), (.sl (.int .i64))], 5, [0, 1, 2, 3, 4]⟩
def x41_0 : List XSh := [⟨(.exit 0), [4, 5], ⟨⟨[(.ptr 1 0), (.v (.int .i64))], [(0, (.boxT (.pair (.sl (.pair (.int .i64) (.pair (.int .i64) (.int .i64)))) (.sl (.pair (.int .i64) (.pair (.int .i64) (.pair (.int .i64) (.pair (.int .i64) (.pair (.int .i64) (.int .i64)))))))))), (1, (.box [(.v (.sl (.pair (.int .i64) (.pair (.int .i64) (.int .i64))))), (.v (.sl (.pair (.int .i64) (.pair (.int .i64) (.pair (.int .i64) (.pair (.int .i64) (.pair (.int .i64) (.int .i64)))))))), (.mp 3), (.slc 4)])), (2, (.imap 2 false (.int .i64))), (3, (.imap 2 false (.int .i64))), (4, (.row 3 (.int .i64)))]⟩, [(.int .i64), (.pair (.sl (.pair (.int .i64) (.pair (.int .i64) (.int .i64)))) (.sl (.pair (.int .i64) (.pair (.int .i64) (.pair (.int .i64) (.pair (.int .i64) (.pair (.int .i64) (.int .i64)))))))), (.sl (.pair (.int .i64) (.pair (.int .i64) (.int .i64)))), (.sl (.pair (.int .i64) (.pair (.int .i64) (.pair (.int .i64) (.pair (.int .i64) (.pair (.int .i64) (.int .i64))))))), (.es (.int .i64)), (.es (.int .i64)), (.sl (.int .i64))], [0, 1, 2, 3, 4], 5⟩⟩]
noncomputable def s41_0 (T : List FEnt) : Int × (List (Int × Int × Int)) × Int × Int × ((List (Int × Int × Int)) × (List (Int × Int × Int × Int × Int × Int))) × (List (Int × Int × Int)) × (List (Int × Int × Int × Int × Int × Int)) × (List (List Int × Int)) × (List (List Int × Int)) × (List Int) → Option ((Int × (List (Int × Int × Int)) × Int × Int × ((List (Int × Int × Int)) × (List (Int × Int × Int × Int × Int × Int))) × (List (Int × Int × Int)) × (List (Int × Int × Int × Int × Int × Int)) × (List (List Int × Int)) × (List (List Int × Int)) × (List Int)) ⊕ (Int × ((List (Int × Int × Int)) × (List (Int × Int × Int × Int × Int × Int))) × (List (Int × Int × Int)) × (List (Int × Int × Int × Int × Int × Int)) × (List (List Int × Int)) × (List (List Int × Int)) × (List Int))) := dstep (xs := x41_0) h41_0 (dxc T b41_0)
noncomputable def l41_0 (T : List FEnt) : Int × (List (Int × Int × Int)) × Int × Int × ((List (Int × Int × Int)) × (List (Int × Int × Int × Int × Int × Int))) × (List (Int × Int × Int)) × (List (Int × Int × Int × Int × Int × Int)) × (List (List Int × Int)) × (List (List Int × Int)) × (List Int) → Option (Int × ((List (Int × Int × Int)) × (List (Int × Int × Int × Int × Int × Int))) × (List (Int × Int × Int)) × (List (Int × Int × Int × Int × Int × Int)) × (List (List Int × Int)) × (List (List Int × Int)) × (List Int)) := whileF (s41_0 T)
noncomputable def q41_0 (F37 : (List (Int × Int × Int)) × (List (Int × Int × Int × Int × Int × Int)) → Option ((List (Int × Int × Int)) × (List (Int × Int × Int × Int × Int × Int)) × (List (List Int × Int)) × (List Int))) (F56v1 : (List (Int × Int × Int × Int × Int × Int)) × Int × Int × Int → Option (Int)) (F57 : Int × Int × (List (Int × Int × Int)) × (List (Int × Int × Int × Int × Int × Int)) × (List (List Int × Int)) × (List Int) → Option (Bool × (List (Int × Int × Int)) × (List (Int × Int × Int × Int × Int × Int)) × (List (List Int × Int)) × (List Int))) (a0 : Int) (a1 : List (Int × Int × Int)) (a2 : Int) (a3 : Int) (a4 : (List (Int × Int × Int)) × (List (Int × Int × Int × Int × Int × Int))) (a5 : List (Int × Int × Int)) (a6 : List (Int × Int × Int × Int × Int × Int)) (a7 : List (List Int × Int)) (a8 : List (List Int × Int)) (a9 : List Int) : Option ((Int × (List (Int × Int × Int)) × Int × Int × ((List (Int × Int × Int)) × (List (Int × Int × Int × Int × Int × Int))) × (List (Int × Int × Int)) × (List (Int × Int × Int × Int × Int × Int)) × (List (List Int × Int)) × (List (List Int × Int)) × (List Int)) ⊕ (Int × ((List (Int × Int × Int)) × (List (Int × Int × Int × Int × Int × Int))) × (List (Int × Int × Int)) × (List (Int × Int × Int × Int × Int × Int)) × (List (List Int × Int)) × (List (List Int × Int)) × (List Int))) :=
cond (decide (a3 < a2)) (
chk (inR a3 (List.length a1)) (
chk (fits .i64 ((dof (kget a7 [(ix a1 a3).2.2, (ix a1 a3).2.1]) (0 : Int)) + (1 : Int))) (
cond (decide ((1 : Int) < (dof (kget (kput a7 [(ix a1 a3).2.2, (ix a1 a3).2.1] ((dof (kget a7 [(ix a1 a3).2.2, (ix a1 a3).2.1]) (0 : Int)) + (1 : Int))) [(ix a1 a3).2.2, (ix a1 a3).2.1]) (0 : Int)))) (
chk (fits .i64 (a3 + (1 : Int))) (
some (Sum.inl (a0, a1, a2, (a3 + (1 : Int)), a4, a5, a6, (kput a7 [(ix a1 a3).2.2, (ix a1 a3).2.1] ((dof (kget a7 [(ix a1 a3).2.2, (ix a1 a3).2.1]) (0 : Int)) + (1 : Int))), a8, a9)))) (
(F56v1 (a4.2, (ix a1 a3))).bind fun (r2 : Int) => (
cond (decide (r2 < (0 : Int))) (
chk (fits .i64 (a0 + (1 : Int))) (
chk (fits .i64 (a3 + (1 : Int))) (
some (Sum.inl ((a0 + (1 : Int)), a1, a2, (a3 + (1 : Int)), a4, a5, a6, (kput a7 [(ix a1 a3).2.2, (ix a1 a3).2.1] ((dof (kget a7 [(ix a1 a3).2.2, (ix a1 a3).2.1]) (0 : Int)) + (1 : Int))), a8, a9))))) (
(F57 (r2, (ix a1 a3).2.1, a5, a6, a8, a9)).bind fun (r3 : Bool × (List (Int × Int × Int)) × (List (Int × Int × Int × Int × Int × Int)) × (List (List Int × Int)) × (List Int)) => (
cond (!r3.1) (
chk (fits .i64 (a0 + (1 : Int))) (
chk (fits .i64 (a3 + (1 : Int))) (
some (Sum.inl ((a0 + (1 : Int)), a1, a2, (a3 + (1 : Int)), a4, r3.2.1, r3.2.2.1, (kput a7 [(ix a1 a3).2.2, (ix a1 a3).2.1] ((dof (kget a7 [(ix a1 a3).2.2, (ix a1 a3).2.1]) (0 : Int)) + (1 : Int))), r3.2.2.2.1, r3.2.2.2.2))))) (
chk (inR r2 (List.length r3.2.2.2.2)) (
cond (decide ((ix r3.2.2.2.2 r2) = (0 : Int))) (
chk (fits .i64 (a0 + (1 : Int))) (
chk (fits .i64 ((dof (kget r3.2.2.2.1 [r2, (ix a1 a3).2.1]) (0 : Int)) + (1 : Int))) (
chk (fits .i64 (a3 + (1 : Int))) (
some (Sum.inl ((a0 + (1 : Int)), a1, a2, (a3 + (1 : Int)), a4, r3.2.1, r3.2.2.1, (kput a7 [(ix a1 a3).2.2, (ix a1 a3).2.1] ((dof (kget a7 [(ix a1 a3).2.2, (ix a1 a3).2.1]) (0 : Int)) + (1 : Int))), (kput r3.2.2.2.1 [r2, (ix a1 a3).2.1] ((dof (kget r3.2.2.2.1 [r2, (ix a1 a3).2.1]) (0 : Int)) + (1 : Int))), r3.2.2.2.2)))))) (
chk (inR r2 (List.length r3.2.2.2.2)) (
chk (fits .i64 ((ix r3.2.2.2.2 r2) - (1 : Int))) (
chk (inR r2 (List.length r3.2.2.2.2)) (
chk (fits .i64 ((dof (kget r3.2.2.2.1 [r2, (ix a1 a3).2.1]) (0 : Int)) + (1 : Int))) (
chk (fits .i64 (a3 + (1 : Int))) (
some (Sum.inl (a0, a1, a2, (a3 + (1 : Int)), a4, r3.2.1, r3.2.2.1, (kput a7 [(ix a1 a3).2.2, (ix a1 a3).2.1] ((dof (kget a7 [(ix a1 a3).2.2, (ix a1 a3).2.1]) (0 : Int)) + (1 : Int))), (kput r3.2.2.2.1 [r2, (ix a1 a3).2.1] ((dof (kget r3.2.2.2.1 [r2, (ix a1 a3).2.1]) (0 : Int)) + (1 : Int))), (List.set r3.2.2.2.2 (Int.toNat r2) ((ix r3.2.2.2.2 r2) - (1 : Int)))))))))))))))))))) (
some (Sum.inr (a0, a4, a5, a6, a7, a8, a9)))
theorem g41_0 (F37 : (List (Int × Int × Int)) × (List (Int × Int × Int × Int × Int × Int)) → Option ((List (Int × Int × Int)) × (List (Int × Int × Int × Int × Int × Int)) × (List (List Int × Int)) × (List Int))) (F56v1 : (List (Int × Int × Int × Int × Int × Int)) × Int × Int × Int → Option (Int)) (F57 : Int × Int × (List (Int × Int × Int)) × (List (Int × Int × Int × Int × Int × Int)) × (List (List Int × Int)) × (List Int) → Option (Bool × (List (Int × Int × Int)) × (List (Int × Int × Int × Int × Int × Int)) × (List (List Int × Int)) × (List Int))) (a0 : Int) (a1 : List (Int × Int × Int)) (a2 : Int) (a3 : Int) (a4 : (List (Int × Int × Int)) × (List (Int × Int × Int × Int × Int × Int))) (a5 : List (Int × Int × Int)) (a6 : List (Int × Int × Int × Int × Int × Int)) (a7 : List (List Int × Int)) (a8 : List (List Int × Int)) (a9 : List Int) : s41_0 (T41 F37 F56v1 F57) (a0, a1, a2, a3, a4, a5, a6, a7, a8, a9) = q41_0 F37 F56v1 F57 a0 a1 a2 a3 a4 a5 a6 a7 a8 a9 := by kernel_rfl
noncomputable def p41_0 (a0 : Int) (a1 : List (Int × Int × Int)) (a2 : Int) (a3 : Int) (a4 : (List (Int × Int × Int)) × (List (Int × Int × Int × Int × Int × Int))) (a5 : List (Int × Int × Int)) (a6 : List (Int × Int × Int × Int × Int × Int)) (a7 : List (List Int × Int)) (a8 : List (List Int × Int)) (a9 : List Int) : Option ((Int × (List (Int × Int × Int)) × Int × Int × ((List (Int × Int × Int)) × (List (Int × Int × Int × Int × Int × Int))) × (List (Int × Int × Int)) × (List (Int × Int × Int × Int × Int × Int)) × (List (List Int × Int)) × (List (List Int × Int)) × (List Int)) ⊕ (Int × ((List (Int × Int × Int)) × (List (Int × Int × Int × Int × Int × Int))) × (List (Int × Int × Int)) × (List (Int × Int × Int × Int × Int × Int)) × (List (List Int × Int)) × (List (List Int × Int)) × (List Int))) := q41_0 P37 P56v1 P57 a0 a1 a2 a3 a4 a5 a6 a7 a8 a9
noncomputable def L41_0 : Int × (List (Int × Int × Int)) × Int × Int × ((List (Int × Int × Int)) × (List (Int × Int × Int × Int × Int × Int))) × (List (Int × Int × Int)) × (List (Int × Int × Int × Int × Int × Int)) × (List (List Int × Int)) × (List (List Int × Int)) × (List Int) → Option (Int × ((List (Int × Int × Int)) × (List (Int × Int × Int × Int × Int × Int))) × (List (Int × Int × Int)) × (List (Int × Int × Int × Int × Int × Int)) × (List (List Int × Int)) × (List (List Int × Int)) × (List Int)) := whileF (fun x => p41_0 x.1 x.2.1 x.2.2.1 x.2.2.2.1 x.2.2.2.2.1 x.2.2.2.2.2.1 x.2.2.2.2.2.2.1 x.2.2.2.2.2.2.2.1 x.2.2.2.2.2.2.2.2.1 x.2.2.2.2.2.2.2.2.2)
theorem v41_0 : l41_0 (T41 P37 P56v1 P57) = L41_0 := congrArg whileF (funext fun x => (g41_0 P37 P56v1 P57 x.1 x.2.1 x.2.2.1 x.2.2.2.1 x.2.2.2.2.1 x.2.2.2.2.2.1 x.2.2.2.2.2.2.1 x.2.2.2.2.2.2.2.1 x.2.2.2.2.2.2.2.2.1 x.2.2.2.2.2.2.2.2.2).trans (show q41_0 P37 P56v1 P57 x.1 x.2.1 x.2.2.1 x.2.2.2.1 x.2.2.2.2.1 x.2.2.2.2.2.1 x.2.2.2.2.2.2.1 x.2.2.2.2.2.2.2.1 x.2.2.2.2.2.2.2.2.1 x.2.2.2.2.2.2.2.2.2 = q41_0 P37 P56v1 P57 x.1 x.2.1 x.2.2.1 x.2.2.2.1 x.2.2.2.2.1 x.2.2.2.2.2.1 x.2.2.2.2.2.2.1 x.2.2.2.2.2.2.2.1 x.2.2.2.2.2.2.2.2.1 x.2.2.2.2.2.2.2.2.2 from rfl))
def c41 : DCode := (.seq (.reg [.op ⟨some 2, .box (.t 0), none⟩ none,
  .op ⟨some 4, .mov (.c .nilp), none⟩ none,
  .op ⟨some 5, .mov (.c (.int .i64 0)), none⟩ none]) (.seq (.reg [.op ⟨some 10, .ldn (.t 2) 2 false, none⟩ none,
  .op ⟨some 11, .xcall 37 [(.t 10)], none⟩ none,
  .op ⟨some 4, .mov (.t 11), none⟩ none]) (.seq (.reg [.op ⟨some 12, .mkm 2 75, none⟩ (some (false, (.int .i64))),
  .op ⟨some 6, .mov (.t 12), none⟩ none]) (.seq (.seq (.reg [.op ⟨some 13, .mov (.t 1), none⟩ none,
  .op ⟨some 14, .len (.t 13), none⟩ none,
  .op ⟨some 15, .mov (.c (.int .i64 0)), none⟩ none]) (.blk 0 (.loop h41_0 x41_0 b41_0))) (.seq (.reg [.op ⟨some 87, .mov (.t 4), none⟩ none,
  .op ⟨some 88, .mov (.t 5), none⟩ none,
  .op ⟨some 4, .mov (.t 87), none⟩ none,
  .op ⟨some 5, .mov (.t 88), none⟩ none]) .ret)))))
theorem ok41 : L.Fn Try.prog 41 89 [(.t 4), (.t 5)] (erase c41) := L.Fn.of hmix Try.func41 [] (by kernel_rfl)
def sh41 : FSh := ⟨⟨[(.st (.pair (.sl (.pair (.int .i64) (.pair (.int .i64) (.int .i64)))) (.sl (.pair (.int .i64) (.pair (.int .i64) (.pair (.int .i64) (.pair (.int .i64) (.pair (.int .i64) (.int .i64))))))))), (.v (.sl (.pair (.int .i64) (.pair (.int .i64) (.int .i64)))))], []⟩, [(.pair (.sl (.pair (.int .i64) (.pair (.int .i64) (.int .i64)))) (.sl (.pair (.int .i64) (.pair (.int .i64) (.pair (.int .i64) (.pair (.int .i64) (.pair (.int .i64) (.int .i64)))))))), (.sl (.pair (.int .i64) (.pair (.int .i64) (.int .i64))))], 0, ⟨⟨[(.tup [(.ptr 0 0), (.v (.int .i64))])], [(0, (.box [(.v (.sl (.pair (.int .i64) (.pair (.int .i64) (.int .i64))))), (.v (.sl (.pair (.int .i64) (.pair (.int .i64) (.pair (.int .i64) (.pair (.int .i64) (.pair (.int .i64) (.int .i64)))))))), (.mp 1), (.slc 2)])), (1, (.imap 2 false (.int .i64))), (2, (.row 3 (.int .i64)))]⟩, [(.int .i64), (.sl (.pair (.int .i64) (.pair (.int .i64) (.int .i64)))), (.sl (.pair (.int .i64) (.pair (.int .i64) (.pair (.int .i64) (.pair (.int .i64) (.pair (.int .i64) (.int .i64))))))), (.es (.int .i64)), (.sl (.int .i64))], [], 3⟩, false⟩
noncomputable def q41 (F37 : (List (Int × Int × Int)) × (List (Int × Int × Int × Int × Int × Int)) → Option ((List (Int × Int × Int)) × (List (Int × Int × Int × Int × Int × Int)) × (List (List Int × Int)) × (List Int))) (F56v1 : (List (Int × Int × Int × Int × Int × Int)) × Int × Int × Int → Option (Int)) (F57 : Int × Int × (List (Int × Int × Int)) × (List (Int × Int × Int × Int × Int × Int)) × (List (List Int × Int)) × (List Int) → Option (Bool × (List (Int × Int × Int)) × (List (Int × Int × Int × Int × Int × Int)) × (List (List Int × Int)) × (List Int))) (l41_0 : Int × (List (Int × Int × Int)) × Int × Int × ((List (Int × Int × Int)) × (List (Int × Int × Int × Int × Int × Int))) × (List (Int × Int × Int)) × (List (Int × Int × Int × Int × Int × Int)) × (List (List Int × Int)) × (List (List Int × Int)) × (List Int) → Option (Int × ((List (Int × Int × Int)) × (List (Int × Int × Int × Int × Int × Int))) × (List (Int × Int × Int)) × (List (Int × Int × Int × Int × Int × Int)) × (List (List Int × Int)) × (List (List Int × Int)) × (List Int))) (a0 : (List (Int × Int × Int)) × (List (Int × Int × Int × Int × Int × Int))) (a1 : List (Int × Int × Int)) : Option (Int × (List (Int × Int × Int)) × (List (Int × Int × Int × Int × Int × Int)) × (List (List Int × Int)) × (List Int)) :=
(F37 a0).bind fun (r1 : (List (Int × Int × Int)) × (List (Int × Int × Int × Int × Int × Int)) × (List (List Int × Int)) × (List Int)) => (
(l41_0 ((0 : Int), a1, (↑(List.length a1) : Int), (0 : Int), a0, r1.1, r1.2.1, ([] : List (List Int × Int)), r1.2.2.1, r1.2.2.2)).bind fun (y4 : Int × ((List (Int × Int × Int)) × (List (Int × Int × Int × Int × Int × Int))) × (List (Int × Int × Int)) × (List (Int × Int × Int × Int × Int × Int)) × (List (List Int × Int)) × (List (List Int × Int)) × (List Int)) => (
some (y4.1, y4.2.2.1, y4.2.2.2.1, y4.2.2.2.2.2.1, y4.2.2.2.2.2.2)))
theorem g41 (F37 : (List (Int × Int × Int)) × (List (Int × Int × Int × Int × Int × Int)) → Option ((List (Int × Int × Int)) × (List (Int × Int × Int × Int × Int × Int)) × (List (List Int × Int)) × (List Int))) (F56v1 : (List (Int × Int × Int × Int × Int × Int)) × Int × Int × Int → Option (Int)) (F57 : Int × Int × (List (Int × Int × Int)) × (List (Int × Int × Int × Int × Int × Int)) × (List (List Int × Int)) × (List Int) → Option (Bool × (List (Int × Int × Int)) × (List (Int × Int × Int × Int × Int × Int)) × (List (List Int × Int)) × (List Int))) (a0 : (List (Int × Int × Int)) × (List (Int × Int × Int × Int × Int × Int))) (a1 : List (Int × Int × Int)) : dxf (T41 F37 F56v1 F57) sh41 [(.t 4), (.t 5)] c41 (a0, a1) = q41 F37 F56v1 F57 (l41_0 (T41 F37 F56v1 F57)) a0 a1 := by kernel_rfl
noncomputable def p41 (a0 : (List (Int × Int × Int)) × (List (Int × Int × Int × Int × Int × Int))) (a1 : List (Int × Int × Int)) : Option (Int × (List (Int × Int × Int)) × (List (Int × Int × Int × Int × Int × Int)) × (List (List Int × Int)) × (List Int)) := q41 P37 P56v1 P57 L41_0 a0 a1
noncomputable def P41 : ((List (Int × Int × Int)) × (List (Int × Int × Int × Int × Int × Int))) × (List (Int × Int × Int)) → Option (Int × (List (Int × Int × Int)) × (List (Int × Int × Int × Int × Int × Int)) × (List (List Int × Int)) × (List Int)) := fun x => p41 x.1 x.2
theorem v41 : dxf (T41 P37 P56v1 P57) sh41 [(.t 4), (.t 5)] c41 = P41 := funext fun x => (g41 P37 P56v1 P57 x.1 x.2).trans (show q41 P37 P56v1 P57 (l41_0 (T41 P37 P56v1 P57)) x.1 x.2 = q41 P37 P56v1 P57 L41_0 x.1 x.2 from by rw [v41_0])
theorem d41 : DC Try.prog 41 sh41 P41 := DC_eq v41 (dxf_sound (sh := sh41) t41 ok41 (by kernel_rfl))
/-! bijou/promise.Owed -/
noncomputable def T17 (F40 : ((List (Int × Int × Int)) × (List (Int × Int × Int × Int × Int × Int))) × (List (Int × Int × Int)) → Option (Int)) (F41 : ((List (Int × Int × Int)) × (List (Int × Int × Int × Int × Int × Int))) × (List (Int × Int × Int)) → Option (Int × (List (Int × Int × Int)) × (List (Int × Int × Int × Int × Int × Int)) × (List (List Int × Int)) × (List Int))) : List FEnt := [⟨40, sh40, F40⟩, ⟨41, sh41, F41⟩]
theorem t17 : DTblOK Try.prog (T17 P40 P41) := (DTbl_cons' (f := 40) (sh := sh40) (F := P40) d40 (by kernel_rfl) (DTbl_cons' (f := 41) (sh := sh41) (F := P41) d41 (by kernel_rfl) DTbl_nil))
def c17 : DCode := (.seq (.reg [.op ⟨some 2, .box (.t 0), none⟩ none,
  .op ⟨some 4, .mov (.c .emp), none⟩ none,
  .op ⟨some 5, .mov (.c (.int .i64 0)), none⟩ none,
  .op ⟨some 6, .mov (.c (.int .i64 0)), none⟩ none]) (.seq (.seq (.reg [.op ⟨some 9, .ldn (.t 2) 2 false, none⟩ none,
  .op ⟨some 10, .mov (.t 1), none⟩ none,
  .op ⟨some 11, .xcall 40 [(.t 9), (.t 10)], none⟩ none,
  .op ⟨some 7, .mov (.t 11), none⟩ none]) (.seq (.reg [.op ⟨some 12, .mov (.t 7), none⟩ none,
  .op ⟨some 13, .bin true .neq (.t 12) (.c (.int .i64 0)), none⟩ none]) (.cond (.t 13) (.seq (.reg [.op ⟨some 14, .mov (.t 7), none⟩ none,
  .op ⟨some 4, .mov (.c .emp), none⟩ none,
  .op ⟨some 5, .mov (.c (.int .i64 0)), none⟩ none,
  .op ⟨some 6, .mov (.t 14), none⟩ none]) .ret) .skip))) (.seq (.reg [.op ⟨some 16, .ldn (.t 2) 2 false, none⟩ none,
  .op ⟨some 17, .mov (.t 1), none⟩ none,
  .op ⟨some 18, .xcall 41 [(.t 16), (.t 17)], none⟩ none,
  .op ⟨some 15, .mov (.t 18), none⟩ none,
  .op ⟨some 19, .ext (.t 15) 0, none⟩ none,
  .op ⟨some 20, .ext (.t 15) 1, none⟩ none,
  .op ⟨some 8, .mov (.t 19), none⟩ none,
  .op ⟨some 5, .mov (.t 20), none⟩ none]) (.seq (.reg [.op ⟨some 21, .mov (.t 8), none⟩ none,
  .op ⟨some 22, .nilc (.t 21), none⟩ none,
  .op ⟨some 23, .fld (.t 22) 3, none⟩ none,
  .op ⟨some 24, .ld1 (.t 23) false, none⟩ none,
  .op ⟨some 25, .mov (.t 5), none⟩ none,
  .op ⟨some 4, .mov (.t 24), none⟩ none,
  .op ⟨some 5, .mov (.t 25), none⟩ none,
  .op ⟨some 6, .mov (.c (.int .i64 0)), none⟩ none]) .ret))))
theorem ok17 : L.Fn Try.prog 17 26 [(.t 4), (.t 5), (.t 6)] (erase c17) := L.Fn.of hmix Try.func17 [] (by kernel_rfl)
def sh17 : FSh := ⟨⟨[(.st (.pair (.sl (.pair (.int .i64) (.pair (.int .i64) (.int .i64)))) (.sl (.pair (.int .i64) (.pair (.int .i64) (.pair (.int .i64) (.pair (.int .i64) (.pair (.int .i64) (.int .i64))))))))), (.v (.sl (.pair (.int .i64) (.pair (.int .i64) (.int .i64)))))], []⟩, [(.pair (.sl (.pair (.int .i64) (.pair (.int .i64) (.int .i64)))) (.sl (.pair (.int .i64) (.pair (.int .i64) (.pair (.int .i64) (.pair (.int .i64) (.pair (.int .i64) (.int .i64)))))))), (.sl (.pair (.int .i64) (.pair (.int .i64) (.int .i64))))], 0, ⟨⟨[(.tup [(.slc 0), (.v (.int .i64)), (.v (.int .i64))])], [(0, (.row 3 (.int .i64)))]⟩, [(.int .i64), (.int .i64), (.sl (.int .i64))], [], 1⟩, true⟩
noncomputable def q17 (F40 : ((List (Int × Int × Int)) × (List (Int × Int × Int × Int × Int × Int))) × (List (Int × Int × Int)) → Option (Int)) (F41 : ((List (Int × Int × Int)) × (List (Int × Int × Int × Int × Int × Int))) × (List (Int × Int × Int)) → Option (Int × (List (Int × Int × Int)) × (List (Int × Int × Int × Int × Int × Int)) × (List (List Int × Int)) × (List Int))) (a0 : (List (Int × Int × Int)) × (List (Int × Int × Int × Int × Int × Int))) (a1 : List (Int × Int × Int)) : Option (Int × Int × (List Int)) :=
(F40 (a0, a1)).bind fun (r1 : Int) => (
cond (!decide (r1 = (0 : Int))) (
some ((0 : Int), r1, ([] : List Int))) (
(F41 (a0, a1)).bind fun (r2 : Int × (List (Int × Int × Int)) × (List (Int × Int × Int × Int × Int × Int)) × (List (List Int × Int)) × (List Int)) => (
some (r2.1, (0 : Int), r2.2.2.2.2))))
theorem g17 (F40 : ((List (Int × Int × Int)) × (List (Int × Int × Int × Int × Int × Int))) × (List (Int × Int × Int)) → Option (Int)) (F41 : ((List (Int × Int × Int)) × (List (Int × Int × Int × Int × Int × Int))) × (List (Int × Int × Int)) → Option (Int × (List (Int × Int × Int)) × (List (Int × Int × Int × Int × Int × Int)) × (List (List Int × Int)) × (List Int))) (a0 : (List (Int × Int × Int)) × (List (Int × Int × Int × Int × Int × Int))) (a1 : List (Int × Int × Int)) : dxf (T17 F40 F41) sh17 [(.t 4), (.t 5), (.t 6)] c17 (a0, a1) = q17 F40 F41 a0 a1 := by kernel_rfl
noncomputable def p17 (a0 : (List (Int × Int × Int)) × (List (Int × Int × Int × Int × Int × Int))) (a1 : List (Int × Int × Int)) : Option (Int × Int × (List Int)) := q17 P40 P41 a0 a1
noncomputable def P17 : ((List (Int × Int × Int)) × (List (Int × Int × Int × Int × Int × Int))) × (List (Int × Int × Int)) → Option (Int × Int × (List Int)) := fun x => p17 x.1 x.2
theorem v17 : dxf (T17 P40 P41) sh17 [(.t 4), (.t 5), (.t 6)] c17 = P17 := funext fun x => (g17 P40 P41 x.1 x.2).trans (show q17 P40 P41 x.1 x.2 = q17 P40 P41 x.1 x.2 from rfl)
theorem d17 : DC Try.prog 17 sh17 P17 := DC_eq v17 (dxf_sound (sh := sh17) t17 ok17 (by kernel_rfl))
/-! slices.Clone[[]bijou/api.Showing,bijou/api.Showing] -/
noncomputable def T44 : List FEnt := []
theorem t44 : DTblOK Try.prog T44 := DTbl_nil
def c44 : DCode := (.seq (.reg [.op ⟨some 2, .mov (.c .emp), none⟩ none]) (.seq (.seq (.reg [.op ⟨some 3, .mov (.t 0), none⟩ none,
  .op ⟨some 4, .isn false (.t 3), none⟩ none]) (.cond (.t 4) (.seq (.reg [.op ⟨some 2, .mov (.c .emp), none⟩ none]) .ret) .skip)) (.seq (.reg [.op ⟨some 5, .bsr 43 3 [], none⟩ (some (true, (.pair (.int .i64) (.pair (.int .i64) (.int .i64))))),
  .op ⟨some 6, .mov (.t 0), none⟩ none,
  .op ⟨some 7, .app 43 3 24 (.t 5) (.t 6), none⟩ (some (true, (.pair (.int .i64) (.pair (.int .i64) (.int .i64))))),
  .op ⟨some 2, .mov (.t 7), none⟩ none]) .ret)))
theorem ok44 : L.Fn Try.prog 44 8 [(.t 2)] (erase c44) := L.Fn.of hmix Try.func44 [] (by kernel_rfl)
def sh44 : FSh := ⟨⟨[(.v (.sl (.pair (.int .i64) (.pair (.int .i64) (.int .i64)))))], []⟩, [(.sl (.pair (.int .i64) (.pair (.int .i64) (.int .i64))))], 0, ⟨⟨[(.slc 0)], [(0, (.row 43 (.pair (.int .i64) (.pair (.int .i64) (.int .i64)))))]⟩, [(.sl (.pair (.int .i64) (.pair (.int .i64) (.int .i64))))], [], 1⟩, true⟩
noncomputable def q44 (a0 : List (Int × Int × Int)) : Option (List (Int × Int × Int)) :=
bisn (decide (List.length a0 = 0)) (
some ([] : List (Int × Int × Int))) (
chk (capOk 24 (List.length ([] : List (Int × Int × Int)) + List.length a0)) (
some (([] : List (Int × Int × Int)) ++ a0)))
theorem g44 (a0 : List (Int × Int × Int)) : dxf T44 sh44 [(.t 2)] c44 a0 = q44 a0 := by kernel_rfl
noncomputable def p44 (a0 : List (Int × Int × Int)) : Option (List (Int × Int × Int)) := q44 a0
noncomputable def P44 : List (Int × Int × Int) → Option (List (Int × Int × Int)) := fun x => p44 x
theorem v44 : dxf T44 sh44 [(.t 2)] c44 = P44 := funext fun x => (g44 x).trans (show q44 x = q44 x from rfl)
theorem d44 : DC Try.prog 44 sh44 P44 := DC_eq v44 (dxf_sound (sh := sh44) t44 ok44 (by kernel_rfl))
/-! bijou/promise.Still -/
noncomputable def T19 (F40 : ((List (Int × Int × Int)) × (List (Int × Int × Int × Int × Int × Int))) × (List (Int × Int × Int)) → Option (Int)) (F32 : Int × Int × Int → Option (Bool)) (F41 : ((List (Int × Int × Int)) × (List (Int × Int × Int × Int × Int × Int))) × (List (Int × Int × Int)) → Option (Int × (List (Int × Int × Int)) × (List (Int × Int × Int × Int × Int × Int)) × (List (List Int × Int)) × (List Int))) (F44 : List (Int × Int × Int) → Option (List (Int × Int × Int))) (F45 : (List (Int × Int × Int)) × (List (Int × Int × Int × Int × Int × Int)) × (List (List Int × Int)) × (List Int) → Option (Int × Int × (List (Int × Int × Int)) × (List (Int × Int × Int × Int × Int × Int)) × (List (List Int × Int)) × (List Int))) : List FEnt := [⟨40, sh40, F40⟩, ⟨32, sh32, F32⟩, ⟨41, sh41, F41⟩, ⟨44, sh44, F44⟩, ⟨45, sh45, F45⟩]
theorem t19 : DTblOK Try.prog (T19 P40 P32 P41 P44 P45) := (DTbl_cons' (f := 40) (sh := sh40) (F := P40) d40 (by kernel_rfl) (DTbl_cons' (f := 32) (sh := sh32) (F := P32) d32 (by kernel_rfl) (DTbl_cons' (f := 41) (sh := sh41) (F := P41) d41 (by kernel_rfl) (DTbl_cons' (f := 44) (sh := sh44) (F := P44) d44 (by kernel_rfl) (DTbl_cons' (f := 45) (sh := sh45) (F := P45) d45 (by kernel_rfl) DTbl_nil)))))
def b19_0 : DCode := (.seq (.reg [.op ⟨some 46, .bin true .lss (.t 45) (.t 44), none⟩ none]) (.seq (.cond (.t 46) .skip (.exit 0)) (.seq (.blk 1 (.seq (.reg [.op ⟨some 47, .mov (.t 45), none⟩ none,
  .op ⟨some 11, .mov (.t 47), none⟩ none]) (.seq (.reg [.op ⟨some 48, .mov (.t 9), none⟩ none,
  .op ⟨some 49, .nilc (.t 48), none⟩ none,
  .op ⟨some 50, .fld (.t 49) 0, none⟩ none,
  .op ⟨some 51, .fld (.t 50) 0, none⟩ none,
  .op ⟨some 52, .ld1 (.t 51) false, none⟩ none,
  .op ⟨some 53, .mov (.t 11), none⟩ none,
  .op ⟨some 54, .idx (.t 52) (.t 53) 3, none⟩ none,
  .op ⟨some 55, .fld (.t 54) 0, none⟩ none,
  .op ⟨some 56, .ld1 (.t 55) false, none⟩ none,
  .op ⟨some 57, .mov (.t 2), none⟩ none,
  .op ⟨some 58, .bin true .lss (.t 56) (.t 57), none⟩ none]) (.cond (.t 58) (.reg [.op ⟨some 59, .mov (.t 9), none⟩ none,
  .op ⟨some 60, .nilc (.t 59), none⟩ none,
  .op ⟨some 61, .fld (.t 60) 0, none⟩ none,
  .op ⟨some 62, .fld (.t 61) 0, none⟩ none,
  .op ⟨some 63, .ld1 (.t 62) false, none⟩ none,
  .op ⟨some 64, .mov (.t 11), none⟩ none,
  .op ⟨some 65, .idx (.t 63) (.t 64) 3, none⟩ none,
  .op ⟨some 66, .fld (.t 65) 2, none⟩ none,
  .op ⟨none, .sto (.t 66) (.c (.int .i64 0)) 1, none⟩ none]) .skip)))) (.reg [.op ⟨some 67, .bin true .add (.t 45) (.c (.int .i64 1)), none⟩ none,
  .op ⟨some 45, .mov (.t 67), none⟩ none]))))
def h19_0 : LSh := ⟨[2, 9, 44, 45], ⟨[(.v (.int .i64)), (.ptr 0 0), (.v (.int .i64)), (.v (.int .i64))], [(0, (.box [(.slc 1), (.v (.sl (.pair (.int .i64) (.pair (.int .i64) (.pair (.int .i64) (.pair (.int .i64) (.pair (.int .i64) (.int .i64)))))))), (.mp 2), (.slc 3)])), (1, (.row 43 (.pair (.int .i64) (.pair (.int .i64) (.int .i64))))), (2, (.imap 2 false (.int .i64))), (3, (.row 3 (.int .i64)))]⟩, [(.int .i64), (.int .i64), (.int .i64), (.sl (.pair (.int .i64) (.pair (.int .i64) (.pair (.int .i64) (.pair (.int .i64) (.pair (.int .i64) (.int .i64))))))), (.sl (.pair (.int .i64) (.pair (.int .i64) (.int .i64)))), (.es (.int .i64)), (.sl (.int .i64))], 4, [0, 1, 2, 3]⟩
def x19_0 : List XSh := [⟨(.exit 0), [9], ⟨⟨[(.ptr 0 0)], [(0, (.box [(.slc 1), (.v (.sl (.pair (.int .i64) (.pair (.int .i64) (.pair (.int .i64) (.pair (.int .i64) (.pair (.int .i64) (.int .i64)))))))), (.mp 2), (.slc 3)])), (1, (.row 43 (.pair (.int .i64) (.pair (.int .i64) (.int .i64))))), (2, (.imap 2 false (.int .i64))), (3, (.row 3 (.int .i64)))]⟩, [(.sl (.pair (.int .i64) (.pair (.int .i64) (.pair (.int .i64) (.pair (.int .i64) (.pair (.int .i64) (.int .i64))))))), (.sl (.pair (.int .i64) (.pair (.int .i64) (.int .i64)))), (.es (.int .i64)), (.sl (.int .i64))], [0, 1, 2, 3], 4⟩⟩]
noncomputable def s19_0 (T : List FEnt) : Int × Int × Int × (List (Int × Int × Int × Int × Int × Int)) × (List (Int × Int × Int)) × (List (List Int × Int)) × (List Int) → Option ((Int × Int × Int × (List (Int × Int × Int × Int × Int × Int)) × (List (Int × Int × Int)) × (List (List Int × Int)) × (List Int)) ⊕ ((List (Int × Int × Int × Int × Int × Int)) × (List (Int × Int × Int)) × (List (List Int × Int)) × (List Int))) := dstep (xs := x19_0) h19_0 (dxc T b19_0)
noncomputable def l19_0 (T : List FEnt) : Int × Int × Int × (List (Int × Int × Int × Int × Int × Int)) × (List (Int × Int × Int)) × (List (List Int × Int)) × (List Int) → Option ((List (Int × Int × Int × Int × Int × Int)) × (List (Int × Int × Int)) × (List (List Int × Int)) × (List Int)) := whileF (s19_0 T)
noncomputable def q19_0 (F40 : ((List (Int × Int × Int)) × (List (Int × Int × Int × Int × Int × Int))) × (List (Int × Int × Int)) → Option (Int)) (F32 : Int × Int × Int → Option (Bool)) (F41 : ((List (Int × Int × Int)) × (List (Int × Int × Int × Int × Int × Int))) × (List (Int × Int × Int)) → Option (Int × (List (Int × Int × Int)) × (List (Int × Int × Int × Int × Int × Int)) × (List (List Int × Int)) × (List Int))) (F44 : List (Int × Int × Int) → Option (List (Int × Int × Int))) (F45 : (List (Int × Int × Int)) × (List (Int × Int × Int × Int × Int × Int)) × (List (List Int × Int)) × (List Int) → Option (Int × Int × (List (Int × Int × Int)) × (List (Int × Int × Int × Int × Int × Int)) × (List (List Int × Int)) × (List Int))) (a0 : Int) (a1 : Int) (a2 : Int) (a3 : List (Int × Int × Int × Int × Int × Int)) (a4 : List (Int × Int × Int)) (a5 : List (List Int × Int)) (a6 : List Int) : Option ((Int × Int × Int × (List (Int × Int × Int × Int × Int × Int)) × (List (Int × Int × Int)) × (List (List Int × Int)) × (List Int)) ⊕ ((List (Int × Int × Int × Int × Int × Int)) × (List (Int × Int × Int)) × (List (List Int × Int)) × (List Int))) :=
cond (decide (a2 < a1)) (
chk (inR a2 (List.length a4)) (
cond (decide ((ix a4 a2).1 < a0)) (
chk (inR a2 (List.length a4)) (
chk (fits .i64 (a2 + (1 : Int))) (
some (Sum.inl (a0, a1, (a2 + (1 : Int)), a3, (List.set a4 (Int.toNat a2) ((ix a4 a2).1, ((ix a4 a2).2.1, (0 : Int)))), a5, a6))))) (
chk (fits .i64 (a2 + (1 : Int))) (
some (Sum.inl (a0, a1, (a2 + (1 : Int)), a3, a4, a5, a6)))))) (
some (Sum.inr (a3, a4, a5, a6)))
theorem g19_0 (F40 : ((List (Int × Int × Int)) × (List (Int × Int × Int × Int × Int × Int))) × (List (Int × Int × Int)) → Option (Int)) (F32 : Int × Int × Int → Option (Bool)) (F41 : ((List (Int × Int × Int)) × (List (Int × Int × Int × Int × Int × Int))) × (List (Int × Int × Int)) → Option (Int × (List (Int × Int × Int)) × (List (Int × Int × Int × Int × Int × Int)) × (List (List Int × Int)) × (List Int))) (F44 : List (Int × Int × Int) → Option (List (Int × Int × Int))) (F45 : (List (Int × Int × Int)) × (List (Int × Int × Int × Int × Int × Int)) × (List (List Int × Int)) × (List Int) → Option (Int × Int × (List (Int × Int × Int)) × (List (Int × Int × Int × Int × Int × Int)) × (List (List Int × Int)) × (List Int))) (a0 : Int) (a1 : Int) (a2 : Int) (a3 : List (Int × Int × Int × Int × Int × Int)) (a4 : List (Int × Int × Int)) (a5 : List (List Int × Int)) (a6 : List Int) : s19_0 (T19 F40 F32 F41 F44 F45) (a0, a1, a2, a3, a4, a5, a6) = q19_0 F40 F32 F41 F44 F45 a0 a1 a2 a3 a4 a5 a6 := by kernel_rfl
noncomputable def p19_0 (a0 : Int) (a1 : Int) (a2 : Int) (a3 : List (Int × Int × Int × Int × Int × Int)) (a4 : List (Int × Int × Int)) (a5 : List (List Int × Int)) (a6 : List Int) : Option ((Int × Int × Int × (List (Int × Int × Int × Int × Int × Int)) × (List (Int × Int × Int)) × (List (List Int × Int)) × (List Int)) ⊕ ((List (Int × Int × Int × Int × Int × Int)) × (List (Int × Int × Int)) × (List (List Int × Int)) × (List Int))) := q19_0 P40 P32 P41 P44 P45 a0 a1 a2 a3 a4 a5 a6
noncomputable def L19_0 : Int × Int × Int × (List (Int × Int × Int × Int × Int × Int)) × (List (Int × Int × Int)) × (List (List Int × Int)) × (List Int) → Option ((List (Int × Int × Int × Int × Int × Int)) × (List (Int × Int × Int)) × (List (List Int × Int)) × (List Int)) := whileF (fun x => p19_0 x.1 x.2.1 x.2.2.1 x.2.2.2.1 x.2.2.2.2.1 x.2.2.2.2.2.1 x.2.2.2.2.2.2)
theorem v19_0 : l19_0 (T19 P40 P32 P41 P44 P45) = L19_0 := congrArg whileF (funext fun x => (g19_0 P40 P32 P41 P44 P45 x.1 x.2.1 x.2.2.1 x.2.2.2.1 x.2.2.2.2.1 x.2.2.2.2.2.1 x.2.2.2.2.2.2).trans (show q19_0 P40 P32 P41 P44 P45 x.1 x.2.1 x.2.2.1 x.2.2.2.1 x.2.2.2.2.1 x.2.2.2.2.2.1 x.2.2.2.2.2.2 = q19_0 P40 P32 P41 P44 P45 x.1 x.2.1 x.2.2.1 x.2.2.2.1 x.2.2.2.2.1 x.2.2.2.2.2.1 x.2.2.2.2.2.2 from rfl))
def c19 : DCode := (.seq (.reg [.op ⟨some 3, .box (.t 0), none⟩ none,
  .op ⟨some 6, .mov (.c (.int .i64 0)), none⟩ none,
  .op ⟨some 7, .mov (.c (.int .i64 0)), none⟩ none]) (.seq (.seq (.reg [.op ⟨some 14, .ldn (.t 3) 2 false, none⟩ none,
  .op ⟨some 15, .mov (.t 1), none⟩ none,
  .op ⟨some 16, .xcall 40 [(.t 14), (.t 15)], none⟩ none,
  .op ⟨some 8, .mov (.t 16), none⟩ none]) (.seq (.reg [.op ⟨some 17, .mov (.t 8), none⟩ none,
  .op ⟨some 18, .bin true .neq (.t 17) (.c (.int .i64 0)), none⟩ none]) (.cond (.t 18) (.seq (.reg [.op ⟨some 19, .mov (.t 8), none⟩ none,
  .op ⟨some 6, .mov (.c (.int .i64 0)), none⟩ none,
  .op ⟨some 7, .mov (.t 19), none⟩ none]) .ret) .skip))) (.seq (.seq (.reg [.op ⟨some 20, .mov (.t 2), none⟩ none,
  .op ⟨some 21, .xcall 32 [(.t 20), (.c (.int .i64 0)), (.c (.int .i64 99))], none⟩ none,
  .op ⟨some 22, .unot (.t 21), none⟩ none]) (.cond (.t 22) (.seq (.reg [.op ⟨some 6, .mov (.c (.int .i64 0)), none⟩ none,
  .op ⟨some 7, .mov (.c (.int .i64 1)), none⟩ none]) .ret) .skip)) (.seq (.reg [.op ⟨some 24, .ldn (.t 3) 2 false, none⟩ none,
  .op ⟨some 25, .mov (.t 1), none⟩ none,
  .op ⟨some 26, .xcall 41 [(.t 24), (.t 25)], none⟩ none,
  .op ⟨some 23, .mov (.t 26), none⟩ none,
  .op ⟨some 27, .ext (.t 23) 0, none⟩ none,
  .op ⟨some 28, .ext (.t 23) 1, none⟩ none,
  .op ⟨some 9, .mov (.t 27), none⟩ none,
  .op ⟨some 10, .mov (.t 28), none⟩ none]) (.seq (.reg [.op ⟨some 29, .mov (.t 9), none⟩ none,
  .op ⟨some 30, .mov (.t 9), none⟩ none,
  .op ⟨some 31, .nilc (.t 30), none⟩ none,
  .op ⟨some 32, .fld (.t 31) 0, none⟩ none,
  .op ⟨some 33, .fld (.t 32) 0, none⟩ none,
  .op ⟨some 34, .ld1 (.t 33) false, none⟩ none,
  .op ⟨some 35, .xcall 44 [(.t 34)], none⟩ none,
  .op ⟨some 36, .nilc (.t 29), none⟩ none,
  .op ⟨some 37, .fld (.t 36) 0, none⟩ none,
  .op ⟨some 38, .fld (.t 37) 0, none⟩ none,
  .op ⟨none, .sto (.t 38) (.t 35) 1, none⟩ none]) (.seq (.seq (.reg [.op ⟨some 39, .mov (.t 9), none⟩ none,
  .op ⟨some 40, .nilc (.t 39), none⟩ none,
  .op ⟨some 41, .fld (.t 40) 0, none⟩ none,
  .op ⟨some 42, .fld (.t 41) 0, none⟩ none,
  .op ⟨some 43, .ld1 (.t 42) false, none⟩ none,
  .op ⟨some 44, .len (.t 43), none⟩ none,
  .op ⟨some 45, .mov (.c (.int .i64 0)), none⟩ none]) (.blk 0 (.loop h19_0 x19_0 b19_0))) (.seq (.reg [.op ⟨some 69, .mov (.t 9), none⟩ none,
  .fz 9 [0],
  .op ⟨some 70, .xcall 45 [(.t 69)], none⟩ none,
  .op ⟨some 68, .mov (.t 70), none⟩ none,
  .op ⟨some 71, .ext (.t 68) 0, none⟩ none,
  .op ⟨some 72, .ext (.t 68) 1, none⟩ none,
  .op ⟨some 12, .mov (.t 71), none⟩ none,
  .op ⟨some 13, .mov (.t 72), none⟩ none]) (.seq (.reg [.op ⟨some 73, .mov (.t 13), none⟩ none,
  .op ⟨some 6, .mov (.t 73), none⟩ none,
  .op ⟨some 7, .mov (.c (.int .i64 0)), none⟩ none]) .ret))))))))
theorem ok19 : L.Fn Try.prog 19 74 [(.t 6), (.t 7)] (erase c19) := L.Fn.of hmix Try.func19 [] (by kernel_rfl)
def sh19 : FSh := ⟨⟨[(.st (.pair (.sl (.pair (.int .i64) (.pair (.int .i64) (.int .i64)))) (.sl (.pair (.int .i64) (.pair (.int .i64) (.pair (.int .i64) (.pair (.int .i64) (.pair (.int .i64) (.int .i64))))))))), (.v (.sl (.pair (.int .i64) (.pair (.int .i64) (.int .i64))))), (.v (.int .i64))], []⟩, [(.pair (.sl (.pair (.int .i64) (.pair (.int .i64) (.int .i64)))) (.sl (.pair (.int .i64) (.pair (.int .i64) (.pair (.int .i64) (.pair (.int .i64) (.pair (.int .i64) (.int .i64)))))))), (.sl (.pair (.int .i64) (.pair (.int .i64) (.int .i64)))), (.int .i64)], 0, ⟨⟨[(.tup [(.v (.int .i64)), (.v (.int .i64))])], []⟩, [(.int .i64), (.int .i64)], [], 0⟩, true⟩
noncomputable def q19 (F40 : ((List (Int × Int × Int)) × (List (Int × Int × Int × Int × Int × Int))) × (List (Int × Int × Int)) → Option (Int)) (F32 : Int × Int × Int → Option (Bool)) (F41 : ((List (Int × Int × Int)) × (List (Int × Int × Int × Int × Int × Int))) × (List (Int × Int × Int)) → Option (Int × (List (Int × Int × Int)) × (List (Int × Int × Int × Int × Int × Int)) × (List (List Int × Int)) × (List Int))) (F44 : List (Int × Int × Int) → Option (List (Int × Int × Int))) (F45 : (List (Int × Int × Int)) × (List (Int × Int × Int × Int × Int × Int)) × (List (List Int × Int)) × (List Int) → Option (Int × Int × (List (Int × Int × Int)) × (List (Int × Int × Int × Int × Int × Int)) × (List (List Int × Int)) × (List Int))) (l19_0 : Int × Int × Int × (List (Int × Int × Int × Int × Int × Int)) × (List (Int × Int × Int)) × (List (List Int × Int)) × (List Int) → Option ((List (Int × Int × Int × Int × Int × Int)) × (List (Int × Int × Int)) × (List (List Int × Int)) × (List Int))) (a0 : (List (Int × Int × Int)) × (List (Int × Int × Int × Int × Int × Int))) (a1 : List (Int × Int × Int)) (a2 : Int) : Option (Int × Int) :=
(F40 (a0, a1)).bind fun (r1 : Int) => (
cond (!decide (r1 = (0 : Int))) (
some ((0 : Int), r1)) (
(F32 (a2, (0 : Int), (99 : Int))).bind fun (r2 : Bool) => (
cond (!r2) (
some ((0 : Int), (1 : Int))) (
(F41 (a0, a1)).bind fun (r3 : Int × (List (Int × Int × Int)) × (List (Int × Int × Int × Int × Int × Int)) × (List (List Int × Int)) × (List Int)) => (
(F44 r3.2.1).bind fun (r4 : List (Int × Int × Int)) => (
(l19_0 (a2, (↑(List.length r4) : Int), (0 : Int), r3.2.2.1, r4, r3.2.2.2.1, r3.2.2.2.2)).bind fun (y5 : (List (Int × Int × Int × Int × Int × Int)) × (List (Int × Int × Int)) × (List (List Int × Int)) × (List Int)) => (
(F45 (y5.2.1, y5.1, y5.2.2.1, y5.2.2.2)).bind fun (r6 : Int × Int × (List (Int × Int × Int)) × (List (Int × Int × Int × Int × Int × Int)) × (List (List Int × Int)) × (List Int)) => (
some (r6.2.1, (0 : Int))))))))))
theorem g19 (F40 : ((List (Int × Int × Int)) × (List (Int × Int × Int × Int × Int × Int))) × (List (Int × Int × Int)) → Option (Int)) (F32 : Int × Int × Int → Option (Bool)) (F41 : ((List (Int × Int × Int)) × (List (Int × Int × Int × Int × Int × Int))) × (List (Int × Int × Int)) → Option (Int × (List (Int × Int × Int)) × (List (Int × Int × Int × Int × Int × Int)) × (List (List Int × Int)) × (List Int))) (F44 : List (Int × Int × Int) → Option (List (Int × Int × Int))) (F45 : (List (Int × Int × Int)) × (List (Int × Int × Int × Int × Int × Int)) × (List (List Int × Int)) × (List Int) → Option (Int × Int × (List (Int × Int × Int)) × (List (Int × Int × Int × Int × Int × Int)) × (List (List Int × Int)) × (List Int))) (a0 : (List (Int × Int × Int)) × (List (Int × Int × Int × Int × Int × Int))) (a1 : List (Int × Int × Int)) (a2 : Int) : dxf (T19 F40 F32 F41 F44 F45) sh19 [(.t 6), (.t 7)] c19 (a0, a1, a2) = q19 F40 F32 F41 F44 F45 (l19_0 (T19 F40 F32 F41 F44 F45)) a0 a1 a2 := by kernel_rfl
noncomputable def p19 (a0 : (List (Int × Int × Int)) × (List (Int × Int × Int × Int × Int × Int))) (a1 : List (Int × Int × Int)) (a2 : Int) : Option (Int × Int) := q19 P40 P32 P41 P44 P45 L19_0 a0 a1 a2
noncomputable def P19 : ((List (Int × Int × Int)) × (List (Int × Int × Int × Int × Int × Int))) × (List (Int × Int × Int)) × Int → Option (Int × Int) := fun x => p19 x.1 x.2.1 x.2.2
theorem v19 : dxf (T19 P40 P32 P41 P44 P45) sh19 [(.t 6), (.t 7)] c19 = P19 := funext fun x => (g19 P40 P32 P41 P44 P45 x.1 x.2.1 x.2.2).trans (show q19 P40 P32 P41 P44 P45 (l19_0 (T19 P40 P32 P41 P44 P45)) x.1 x.2.1 x.2.2 = q19 P40 P32 P41 P44 P45 L19_0 x.1 x.2.1 x.2.2 from by rw [v19_0])
theorem d19 : DC Try.prog 19 sh19 P19 := DC_eq v19 (dxf_sound (sh := sh19) t19 ok19 (by kernel_rfl))
/-! (*bijou/promise.book).isPlan -/
noncomputable def T38 (F32 : Int × Int × Int → Option (Bool)) (F57 : Int × Int × (List (Int × Int × Int)) × (List (Int × Int × Int × Int × Int × Int)) × (List (List Int × Int)) × (List Int) → Option (Bool × (List (Int × Int × Int)) × (List (Int × Int × Int × Int × Int × Int)) × (List (List Int × Int)) × (List Int))) : List FEnt := [⟨32, sh32, F32⟩, ⟨57, sh57, F57⟩]
theorem t38 : DTblOK Try.prog (T38 P32 P57) := (DTbl_cons' (f := 32) (sh := sh32) (F := P32) d32 (by kernel_rfl) (DTbl_cons' (f := 57) (sh := sh57) (F := P57) d57 (by kernel_rfl) DTbl_nil))
def b38_1 : DCode := (.seq (.reg [.op ⟨some 40, .bin true .lss (.t 39) (.t 38), none⟩ none]) (.seq (.cond (.t 40) .skip (.exit 2)) (.seq (.blk 3 (.seq (.reg [.op ⟨some 41, .mov (.t 39), none⟩ none,
  .op ⟨some 42, .idx (.t 37) (.t 39) 1, none⟩ none,
  .op ⟨some 43, .ld1 (.t 42) false, none⟩ none,
  .op ⟨some 7, .mov (.t 41), none⟩ none,
  .op ⟨some 8, .mov (.t 43), none⟩ none]) (.seq (.reg [.op ⟨some 44, .mov (.t 8), none⟩ none,
  .op ⟨some 45, .mov (.t 0), none⟩ none,
  .op ⟨some 46, .nilc (.t 45), none⟩ none,
  .op ⟨some 47, .fld (.t 46) 0, none⟩ none,
  .op ⟨some 48, .fld (.t 47) 1, none⟩ none,
  .op ⟨some 49, .ld1 (.t 48) false, none⟩ none,
  .op ⟨some 50, .len (.t 49), none⟩ none,
  .op ⟨some 51, .bin true .sub (.t 50) (.c (.int .i64 1)), none⟩ none,
  .op ⟨some 52, .xcall 32 [(.t 44), (.c (.int .i64 0)), (.t 51)], none⟩ none,
  .op ⟨some 53, .unot (.t 52), none⟩ none,
  .op ⟨some 54, .mov (.t 53), none⟩ none,
  .op ⟨some 55, .mov (.t 7), some (54, false)⟩ none,
  .op ⟨some 56, .bin true .gtr (.t 55) (.c (.int .i64 0)), some (54, false)⟩ none,
  .op ⟨some 57, .mov (.t 56), some (54, false)⟩ none,
  .op ⟨some 58, .mov (.t 8), some (57, true)⟩ none,
  .op ⟨some 59, .mov (.t 6), some (57, true)⟩ none,
  .op ⟨some 60, .mov (.t 7), some (57, true)⟩ none,
  .op ⟨some 61, .bin true .sub (.t 60) (.c (.int .i64 1)), some (57, true)⟩ none,
  .op ⟨some 62, .idx (.t 59) (.t 61) 1, some (57, true)⟩ none,
  .op ⟨some 63, .ld1 (.t 62) false, some (57, true)⟩ none,
  .op ⟨some 64, .bin true .leq (.t 58) (.t 63), some (57, true)⟩ none,
  .op ⟨some 65, .pick (.t 57) (.t 64) (.c (.bool false)), some (54, false)⟩ none,
  .op ⟨some 66, .pick (.t 54) (.c (.bool true)) (.t 65), none⟩ none,
  .op ⟨some 67, .mov (.t 66), none⟩ none,
  .op ⟨some 68, .mov (.t 0), some (67, false)⟩ none,
  .op ⟨some 69, .mov (.t 8), some (67, false)⟩ none,
  .op ⟨some 70, .mov (.t 5), some (67, false)⟩ none,
  .op ⟨some 71, .xcall 57 [(.t 68), (.t 69), (.t 70)], some (67, false)⟩ none,
  .op ⟨some 72, .unot (.t 71), some (67, false)⟩ none,
  .op ⟨some 73, .pick (.t 67) (.c (.bool true)) (.t 72), none⟩ none]) (.cond (.t 73) (.seq (.reg [.op ⟨some 4, .mov (.c (.bool false)), none⟩ none]) .ret) .skip)))) (.reg [.op ⟨some 74, .bin true .add (.t 39) (.c (.int .i64 1)), none⟩ none,
  .op ⟨some 39, .mov (.t 74), none⟩ none]))))
def h38_1 : LSh := ⟨[0, 5, 6, 18, 19, 20, 37, 38, 39], ⟨[(.ptr 0 0), (.v (.int .i64)), (.v (.sl (.int .i64))), (.v (.sl (.sl (.int .i64)))), (.v (.int .i64)), (.v (.int .i64)), (.v (.sl (.int .i64))), (.v (.int .i64)), (.v (.int .i64))], [(0, (.box [(.v (.sl (.pair (.int .i64) (.pair (.int .i64) (.int .i64))))), (.v (.sl (.pair (.int .i64) (.pair (.int .i64) (.pair (.int .i64) (.pair (.int .i64) (.pair (.int .i64) (.int .i64)))))))), (.mp 1), (.slc 2)])), (1, (.imap 2 false (.int .i64))), (2, (.row 3 (.int .i64)))]⟩, [(.int .i64), (.sl (.int .i64)), (.sl (.sl (.int .i64))), (.int .i64), (.int .i64), (.sl (.int .i64)), (.int .i64), (.int .i64), (.sl (.pair (.int .i64) (.pair (.int .i64) (.int .i64)))), (.sl (.pair (.int .i64) (.pair (.int .i64) (.pair (.int .i64) (.pair (.int .i64) (.pair (.int .i64) (.int .i64))))))), (.es (.int .i64)), (.sl (.int .i64))], 3, [0, 1, 2]⟩
def x38_1 : List XSh := [⟨.ret, [4], ⟨⟨[(.v .bool)], [(0, (.box [(.v (.sl (.pair (.int .i64) (.pair (.int .i64) (.int .i64))))), (.v (.sl (.pair (.int .i64) (.pair (.int .i64) (.pair (.int .i64) (.pair (.int .i64) (.pair (.int .i64) (.int .i64)))))))), (.mp 1), (.slc 2)])), (1, (.imap 2 false (.int .i64))), (2, (.row 3 (.int .i64)))]⟩, [.bool, (.sl (.pair (.int .i64) (.pair (.int .i64) (.int .i64)))), (.sl (.pair (.int .i64) (.pair (.int .i64) (.pair (.int .i64) (.pair (.int .i64) (.pair (.int .i64) (.int .i64))))))), (.es (.int .i64)), (.sl (.int .i64))], [0, 1, 2], 3⟩⟩, ⟨(.exit 2), [0, 18, 19, 20], ⟨⟨[(.ptr 0 0), (.v (.sl (.sl (.int .i64)))), (.v (.int .i64)), (.v (.int .i64))], [(0, (.box [(.v (.sl (.pair (.int .i64) (.pair (.int .i64) (.int .i64))))), (.v (.sl (.pair (.int .i64) (.pair (.int .i64) (.pair (.int .i64) (.pair (.int .i64) (.pair (.int .i64) (.int .i64)))))))), (.mp 1), (.slc 2)])), (1, (.imap 2 false (.int .i64))), (2, (.row 3 (.int .i64)))]⟩, [(.sl (.sl (.int .i64))), (.int .i64), (.int .i64), (.sl (.pair (.int .i64) (.pair (.int .i64) (.int .i64)))), (.sl (.pair (.int .i64) (.pair (.int .i64) (.pair (.int .i64) (.pair (.int .i64) (.pair (.int .i64) (.int .i64))))))), (.es (.int .i64)), (.sl (.int .i64))], [0, 1, 2], 3⟩⟩]
noncomputable def s38_1 (T : List FEnt) : Int × (List Int) × (List (List Int)) × Int × Int × (List Int) × Int × Int × (List (Int × Int × Int)) × (List (Int × Int × Int × Int × Int × Int)) × (List (List Int × Int)) × (List Int) → Option ((Int × (List Int) × (List (List Int)) × Int × Int × (List Int) × Int × Int × (List (Int × Int × Int)) × (List (Int × Int × Int × Int × Int × Int)) × (List (List Int × Int)) × (List Int)) ⊕ ((Bool × (List (Int × Int × Int)) × (List (Int × Int × Int × Int × Int × Int)) × (List (List Int × Int)) × (List Int)) ⊕ ((List (List Int)) × Int × Int × (List (Int × Int × Int)) × (List (Int × Int × Int × Int × Int × Int)) × (List (List Int × Int)) × (List Int)))) := dstep (xs := x38_1) h38_1 (dxc T b38_1)
noncomputable def l38_1 (T : List FEnt) : Int × (List Int) × (List (List Int)) × Int × Int × (List Int) × Int × Int × (List (Int × Int × Int)) × (List (Int × Int × Int × Int × Int × Int)) × (List (List Int × Int)) × (List Int) → Option ((Bool × (List (Int × Int × Int)) × (List (Int × Int × Int × Int × Int × Int)) × (List (List Int × Int)) × (List Int)) ⊕ ((List (List Int)) × Int × Int × (List (Int × Int × Int)) × (List (Int × Int × Int × Int × Int × Int)) × (List (List Int × Int)) × (List Int))) := whileF (s38_1 T)
noncomputable def q38_1 (F32 : Int × Int × Int → Option (Bool)) (F57 : Int × Int × (List (Int × Int × Int)) × (List (Int × Int × Int × Int × Int × Int)) × (List (List Int × Int)) × (List Int) → Option (Bool × (List (Int × Int × Int)) × (List (Int × Int × Int × Int × Int × Int)) × (List (List Int × Int)) × (List Int))) (a0 : Int) (a1 : List Int) (a2 : List (List Int)) (a3 : Int) (a4 : Int) (a5 : List Int) (a6 : Int) (a7 : Int) (a8 : List (Int × Int × Int)) (a9 : List (Int × Int × Int × Int × Int × Int)) (a10 : List (List Int × Int)) (a11 : List Int) : Option ((Int × (List Int) × (List (List Int)) × Int × Int × (List Int) × Int × Int × (List (Int × Int × Int)) × (List (Int × Int × Int × Int × Int × Int)) × (List (List Int × Int)) × (List Int)) ⊕ ((Bool × (List (Int × Int × Int)) × (List (Int × Int × Int × Int × Int × Int)) × (List (List Int × Int)) × (List Int)) ⊕ ((List (List Int)) × Int × Int × (List (Int × Int × Int)) × (List (Int × Int × Int × Int × Int × Int)) × (List (List Int × Int)) × (List Int)))) :=
cond (decide (a7 < a6)) (
chk (inR a7 (List.length a5)) (
chk (fits .i64 ((↑(List.length a9) : Int) - (1 : Int))) (
(F32 ((ix a5 a7), (0 : Int), ((↑(List.length a9) : Int) - (1 : Int)))).bind fun (r1 : Bool) => (
cond (!r1) (
some (Sum.inr (Sum.inl (false, a8, a9, a10, a11)))) (
cond (decide ((0 : Int) < a7)) (
chk (fits .i64 (a7 - (1 : Int))) (
chk (inR (a7 - (1 : Int)) (List.length a1)) (
cond (decide ((ix a5 a7) ≤ (ix a1 (a7 - (1 : Int))))) (
some (Sum.inr (Sum.inl (false, a8, a9, a10, a11)))) (
(F57 ((ix a5 a7), a0, a8, a9, a10, a11)).bind fun (r2 : Bool × (List (Int × Int × Int)) × (List (Int × Int × Int × Int × Int × Int)) × (List (List Int × Int)) × (List Int)) => (
cond (!r2.1) (
some (Sum.inr (Sum.inl (false, r2.2.1, r2.2.2.1, r2.2.2.2.1, r2.2.2.2.2)))) (
chk (fits .i64 (a7 + (1 : Int))) (
some (Sum.inl (a0, a1, a2, a3, a4, a5, a6, (a7 + (1 : Int)), r2.2.1, r2.2.2.1, r2.2.2.2.1, r2.2.2.2.2))))))))) (
(F57 ((ix a5 a7), a0, a8, a9, a10, a11)).bind fun (r3 : Bool × (List (Int × Int × Int)) × (List (Int × Int × Int × Int × Int × Int)) × (List (List Int × Int)) × (List Int)) => (
cond (!r3.1) (
some (Sum.inr (Sum.inl (false, r3.2.1, r3.2.2.1, r3.2.2.2.1, r3.2.2.2.2)))) (
chk (fits .i64 (a7 + (1 : Int))) (
some (Sum.inl (a0, a1, a2, a3, a4, a5, a6, (a7 + (1 : Int)), r3.2.1, r3.2.2.1, r3.2.2.2.1, r3.2.2.2.2))))))))))) (
some (Sum.inr (Sum.inr (a2, a3, a4, a8, a9, a10, a11))))
theorem g38_1 (F32 : Int × Int × Int → Option (Bool)) (F57 : Int × Int × (List (Int × Int × Int)) × (List (Int × Int × Int × Int × Int × Int)) × (List (List Int × Int)) × (List Int) → Option (Bool × (List (Int × Int × Int)) × (List (Int × Int × Int × Int × Int × Int)) × (List (List Int × Int)) × (List Int))) (a0 : Int) (a1 : List Int) (a2 : List (List Int)) (a3 : Int) (a4 : Int) (a5 : List Int) (a6 : Int) (a7 : Int) (a8 : List (Int × Int × Int)) (a9 : List (Int × Int × Int × Int × Int × Int)) (a10 : List (List Int × Int)) (a11 : List Int) : s38_1 (T38 F32 F57) (a0, a1, a2, a3, a4, a5, a6, a7, a8, a9, a10, a11) = q38_1 F32 F57 a0 a1 a2 a3 a4 a5 a6 a7 a8 a9 a10 a11 := by kernel_rfl
noncomputable def p38_1 (a0 : Int) (a1 : List Int) (a2 : List (List Int)) (a3 : Int) (a4 : Int) (a5 : List Int) (a6 : Int) (a7 : Int) (a8 : List (Int × Int × Int)) (a9 : List (Int × Int × Int × Int × Int × Int)) (a10 : List (List Int × Int)) (a11 : List Int) : Option ((Int × (List Int) × (List (List Int)) × Int × Int × (List Int) × Int × Int × (List (Int × Int × Int)) × (List (Int × Int × Int × Int × Int × Int)) × (List (List Int × Int)) × (List Int)) ⊕ ((Bool × (List (Int × Int × Int)) × (List (Int × Int × Int × Int × Int × Int)) × (List (List Int × Int)) × (List Int)) ⊕ ((List (List Int)) × Int × Int × (List (Int × Int × Int)) × (List (Int × Int × Int × Int × Int × Int)) × (List (List Int × Int)) × (List Int)))) := q38_1 P32 P57 a0 a1 a2 a3 a4 a5 a6 a7 a8 a9 a10 a11
noncomputable def L38_1 : Int × (List Int) × (List (List Int)) × Int × Int × (List Int) × Int × Int × (List (Int × Int × Int)) × (List (Int × Int × Int × Int × Int × Int)) × (List (List Int × Int)) × (List Int) → Option ((Bool × (List (Int × Int × Int)) × (List (Int × Int × Int × Int × Int × Int)) × (List (List Int × Int)) × (List Int)) ⊕ ((List (List Int)) × Int × Int × (List (Int × Int × Int)) × (List (Int × Int × Int × Int × Int × Int)) × (List (List Int × Int)) × (List Int))) := whileF (fun x => p38_1 x.1 x.2.1 x.2.2.1 x.2.2.2.1 x.2.2.2.2.1 x.2.2.2.2.2.1 x.2.2.2.2.2.2.1 x.2.2.2.2.2.2.2.1 x.2.2.2.2.2.2.2.2.1 x.2.2.2.2.2.2.2.2.2.1 x.2.2.2.2.2.2.2.2.2.2.1 x.2.2.2.2.2.2.2.2.2.2.2)
theorem v38_1 : l38_1 (T38 P32 P57) = L38_1 := congrArg whileF (funext fun x => (g38_1 P32 P57 x.1 x.2.1 x.2.2.1 x.2.2.2.1 x.2.2.2.2.1 x.2.2.2.2.2.1 x.2.2.2.2.2.2.1 x.2.2.2.2.2.2.2.1 x.2.2.2.2.2.2.2.2.1 x.2.2.2.2.2.2.2.2.2.1 x.2.2.2.2.2.2.2.2.2.2.1 x.2.2.2.2.2.2.2.2.2.2.2).trans (show q38_1 P32 P57 x.1 x.2.1 x.2.2.1 x.2.2.2.1 x.2.2.2.2.1 x.2.2.2.2.2.1 x.2.2.2.2.2.2.1 x.2.2.2.2.2.2.2.1 x.2.2.2.2.2.2.2.2.1 x.2.2.2.2.2.2.2.2.2.1 x.2.2.2.2.2.2.2.2.2.2.1 x.2.2.2.2.2.2.2.2.2.2.2 = q38_1 P32 P57 x.1 x.2.1 x.2.2.1 x.2.2.2.1 x.2.2.2.2.1 x.2.2.2.2.2.1 x.2.2.2.2.2.2.1 x.2.2.2.2.2.2.2.1 x.2.2.2.2.2.2.2.2.1 x.2.2.2.2.2.2.2.2.2.1 x.2.2.2.2.2.2.2.2.2.2.1 x.2.2.2.2.2.2.2.2.2.2.2 from rfl))
def b38_0 : DCode := (.seq (.reg [.op ⟨some 21, .bin true .lss (.t 20) (.t 19), none⟩ none]) (.seq (.cond (.t 21) .skip (.exit 0)) (.seq (.blk 1 (.seq (.reg [.op ⟨some 22, .mov (.t 20), none⟩ none,
  .op ⟨some 23, .idx (.t 18) (.t 20) 1, none⟩ none,
  .op ⟨some 24, .ld1 (.t 23) false, none⟩ none,
  .op ⟨some 5, .mov (.t 22), none⟩ none,
  .op ⟨some 6, .mov (.t 24), none⟩ none]) (.seq (.seq (.reg [.op ⟨some 25, .mov (.t 6), none⟩ none,
  .op ⟨some 26, .len (.t 25), none⟩ none,
  .op ⟨some 27, .mov (.t 0), none⟩ none,
  .op ⟨some 28, .nilc (.t 27), none⟩ none,
  .op ⟨some 29, .fld (.t 28) 0, none⟩ none,
  .op ⟨some 30, .fld (.t 29) 0, none⟩ none,
  .op ⟨some 31, .ld1 (.t 30) false, none⟩ none,
  .op ⟨some 32, .mov (.t 5), none⟩ none,
  .op ⟨some 33, .idx (.t 31) (.t 32) 3, none⟩ none,
  .op ⟨some 34, .fld (.t 33) 2, none⟩ none,
  .op ⟨some 35, .ld1 (.t 34) false, none⟩ none,
  .op ⟨some 36, .bin true .gtr (.t 26) (.t 35), none⟩ none]) (.cond (.t 36) (.seq (.reg [.op ⟨some 4, .mov (.c (.bool false)), none⟩ none]) .ret) .skip)) (.seq (.reg [.op ⟨some 37, .mov (.t 6), none⟩ none,
  .op ⟨some 38, .len (.t 37), none⟩ none,
  .op ⟨some 39, .mov (.c (.int .i64 0)), none⟩ none]) (.blk 2 (.loop h38_1 x38_1 b38_1)))))) (.reg [.op ⟨some 75, .bin true .add (.t 20) (.c (.int .i64 1)), none⟩ none,
  .op ⟨some 20, .mov (.t 75), none⟩ none]))))
def h38_0 : LSh := ⟨[0, 18, 19, 20], ⟨[(.ptr 0 0), (.v (.sl (.sl (.int .i64)))), (.v (.int .i64)), (.v (.int .i64))], [(0, (.box [(.v (.sl (.pair (.int .i64) (.pair (.int .i64) (.int .i64))))), (.v (.sl (.pair (.int .i64) (.pair (.int .i64) (.pair (.int .i64) (.pair (.int .i64) (.pair (.int .i64) (.int .i64)))))))), (.mp 1), (.slc 2)])), (1, (.imap 2 false (.int .i64))), (2, (.row 3 (.int .i64)))]⟩, [(.sl (.sl (.int .i64))), (.int .i64), (.int .i64), (.sl (.pair (.int .i64) (.pair (.int .i64) (.int .i64)))), (.sl (.pair (.int .i64) (.pair (.int .i64) (.pair (.int .i64) (.pair (.int .i64) (.pair (.int .i64) (.int .i64))))))), (.es (.int .i64)), (.sl (.int .i64))], 3, [0, 1, 2]⟩
def x38_0 : List XSh := [⟨.ret, [4], ⟨⟨[(.v .bool)], [(0, (.box [(.v (.sl (.pair (.int .i64) (.pair (.int .i64) (.int .i64))))), (.v (.sl (.pair (.int .i64) (.pair (.int .i64) (.pair (.int .i64) (.pair (.int .i64) (.pair (.int .i64) (.int .i64)))))))), (.mp 1), (.slc 2)])), (1, (.imap 2 false (.int .i64))), (2, (.row 3 (.int .i64)))]⟩, [.bool, (.sl (.pair (.int .i64) (.pair (.int .i64) (.int .i64)))), (.sl (.pair (.int .i64) (.pair (.int .i64) (.pair (.int .i64) (.pair (.int .i64) (.pair (.int .i64) (.int .i64))))))), (.es (.int .i64)), (.sl (.int .i64))], [0, 1, 2], 3⟩⟩, ⟨(.exit 0), [], ⟨⟨[], [(0, (.box [(.v (.sl (.pair (.int .i64) (.pair (.int .i64) (.int .i64))))), (.v (.sl (.pair (.int .i64) (.pair (.int .i64) (.pair (.int .i64) (.pair (.int .i64) (.pair (.int .i64) (.int .i64)))))))), (.mp 1), (.slc 2)])), (1, (.imap 2 false (.int .i64))), (2, (.row 3 (.int .i64)))]⟩, [(.sl (.pair (.int .i64) (.pair (.int .i64) (.int .i64)))), (.sl (.pair (.int .i64) (.pair (.int .i64) (.pair (.int .i64) (.pair (.int .i64) (.pair (.int .i64) (.int .i64))))))), (.es (.int .i64)), (.sl (.int .i64))], [0, 1, 2], 3⟩⟩]
noncomputable def s38_0 (T : List FEnt) : (List (List Int)) × Int × Int × (List (Int × Int × Int)) × (List (Int × Int × Int × Int × Int × Int)) × (List (List Int × Int)) × (List Int) → Option (((List (List Int)) × Int × Int × (List (Int × Int × Int)) × (List (Int × Int × Int × Int × Int × Int)) × (List (List Int × Int)) × (List Int)) ⊕ ((Bool × (List (Int × Int × Int)) × (List (Int × Int × Int × Int × Int × Int)) × (List (List Int × Int)) × (List Int)) ⊕ ((List (Int × Int × Int)) × (List (Int × Int × Int × Int × Int × Int)) × (List (List Int × Int)) × (List Int)))) := dstep (xs := x38_0) h38_0 (dxc T b38_0)
noncomputable def l38_0 (T : List FEnt) : (List (List Int)) × Int × Int × (List (Int × Int × Int)) × (List (Int × Int × Int × Int × Int × Int)) × (List (List Int × Int)) × (List Int) → Option ((Bool × (List (Int × Int × Int)) × (List (Int × Int × Int × Int × Int × Int)) × (List (List Int × Int)) × (List Int)) ⊕ ((List (Int × Int × Int)) × (List (Int × Int × Int × Int × Int × Int)) × (List (List Int × Int)) × (List Int))) := whileF (s38_0 T)
noncomputable def q38_0 (F32 : Int × Int × Int → Option (Bool)) (F57 : Int × Int × (List (Int × Int × Int)) × (List (Int × Int × Int × Int × Int × Int)) × (List (List Int × Int)) × (List Int) → Option (Bool × (List (Int × Int × Int)) × (List (Int × Int × Int × Int × Int × Int)) × (List (List Int × Int)) × (List Int))) (l38_1 : Int × (List Int) × (List (List Int)) × Int × Int × (List Int) × Int × Int × (List (Int × Int × Int)) × (List (Int × Int × Int × Int × Int × Int)) × (List (List Int × Int)) × (List Int) → Option ((Bool × (List (Int × Int × Int)) × (List (Int × Int × Int × Int × Int × Int)) × (List (List Int × Int)) × (List Int)) ⊕ ((List (List Int)) × Int × Int × (List (Int × Int × Int)) × (List (Int × Int × Int × Int × Int × Int)) × (List (List Int × Int)) × (List Int)))) (a0 : List (List Int)) (a1 : Int) (a2 : Int) (a3 : List (Int × Int × Int)) (a4 : List (Int × Int × Int × Int × Int × Int)) (a5 : List (List Int × Int)) (a6 : List Int) : Option (((List (List Int)) × Int × Int × (List (Int × Int × Int)) × (List (Int × Int × Int × Int × Int × Int)) × (List (List Int × Int)) × (List Int)) ⊕ ((Bool × (List (Int × Int × Int)) × (List (Int × Int × Int × Int × Int × Int)) × (List (List Int × Int)) × (List Int)) ⊕ ((List (Int × Int × Int)) × (List (Int × Int × Int × Int × Int × Int)) × (List (List Int × Int)) × (List Int)))) :=
cond (decide (a2 < a1)) (
chk (inR a2 (List.length a0)) (
chk (inR a2 (List.length a3)) (
cond (decide ((ix a3 a2).2.2 < (↑(List.length (ix a0 a2)) : Int))) (
some (Sum.inr (Sum.inl (false, a3, a4, a5, a6)))) (
(l38_1 (a2, (ix a0 a2), a0, a1, a2, (ix a0 a2), (↑(List.length (ix a0 a2)) : Int), (0 : Int), a3, a4, a5, a6)).bind (fun (y4 : (Bool × (List (Int × Int × Int)) × (List (Int × Int × Int × Int × Int × Int)) × (List (List Int × Int)) × (List Int)) ⊕ ((List (List Int)) × Int × Int × (List (Int × Int × Int)) × (List (Int × Int × Int × Int × Int × Int)) × (List (List Int × Int)) × (List Int))) => Sum.elim (fun (y5 : Bool × (List (Int × Int × Int)) × (List (Int × Int × Int × Int × Int × Int)) × (List (List Int × Int)) × (List Int)) => (
some (Sum.inr (Sum.inl (y5.1, y5.2.1, y5.2.2.1, y5.2.2.2.1, y5.2.2.2.2))))) (fun (y6 : (List (List Int)) × Int × Int × (List (Int × Int × Int)) × (List (Int × Int × Int × Int × Int × Int)) × (List (List Int × Int)) × (List Int)) => (
chk (fits .i64 (y6.2.2.1 + (1 : Int))) (
some (Sum.inl (y6.1, y6.2.1, (y6.2.2.1 + (1 : Int)), y6.2.2.2.1, y6.2.2.2.2.1, y6.2.2.2.2.2.1, y6.2.2.2.2.2.2))))) y4))))) (
some (Sum.inr (Sum.inr (a3, a4, a5, a6))))
theorem g38_0 (F32 : Int × Int × Int → Option (Bool)) (F57 : Int × Int × (List (Int × Int × Int)) × (List (Int × Int × Int × Int × Int × Int)) × (List (List Int × Int)) × (List Int) → Option (Bool × (List (Int × Int × Int)) × (List (Int × Int × Int × Int × Int × Int)) × (List (List Int × Int)) × (List Int))) (a0 : List (List Int)) (a1 : Int) (a2 : Int) (a3 : List (Int × Int × Int)) (a4 : List (Int × Int × Int × Int × Int × Int)) (a5 : List (List Int × Int)) (a6 : List Int) : s38_0 (T38 F32 F57) (a0, a1, a2, a3, a4, a5, a6) = q38_0 F32 F57 (l38_1 (T38 F32 F57)) a0 a1 a2 a3 a4 a5 a6 := by kernel_rfl
noncomputable def p38_0 (a0 : List (List Int)) (a1 : Int) (a2 : Int) (a3 : List (Int × Int × Int)) (a4 : List (Int × Int × Int × Int × Int × Int)) (a5 : List (List Int × Int)) (a6 : List Int) : Option (((List (List Int)) × Int × Int × (List (Int × Int × Int)) × (List (Int × Int × Int × Int × Int × Int)) × (List (List Int × Int)) × (List Int)) ⊕ ((Bool × (List (Int × Int × Int)) × (List (Int × Int × Int × Int × Int × Int)) × (List (List Int × Int)) × (List Int)) ⊕ ((List (Int × Int × Int)) × (List (Int × Int × Int × Int × Int × Int)) × (List (List Int × Int)) × (List Int)))) := q38_0 P32 P57 L38_1 a0 a1 a2 a3 a4 a5 a6
noncomputable def L38_0 : (List (List Int)) × Int × Int × (List (Int × Int × Int)) × (List (Int × Int × Int × Int × Int × Int)) × (List (List Int × Int)) × (List Int) → Option ((Bool × (List (Int × Int × Int)) × (List (Int × Int × Int × Int × Int × Int)) × (List (List Int × Int)) × (List Int)) ⊕ ((List (Int × Int × Int)) × (List (Int × Int × Int × Int × Int × Int)) × (List (List Int × Int)) × (List Int))) := whileF (fun x => p38_0 x.1 x.2.1 x.2.2.1 x.2.2.2.1 x.2.2.2.2.1 x.2.2.2.2.2.1 x.2.2.2.2.2.2)
theorem v38_0 : l38_0 (T38 P32 P57) = L38_0 := congrArg whileF (funext fun x => (g38_0 P32 P57 x.1 x.2.1 x.2.2.1 x.2.2.2.1 x.2.2.2.2.1 x.2.2.2.2.2.1 x.2.2.2.2.2.2).trans (show q38_0 P32 P57 (l38_1 (T38 P32 P57)) x.1 x.2.1 x.2.2.1 x.2.2.2.1 x.2.2.2.2.1 x.2.2.2.2.2.1 x.2.2.2.2.2.2 = q38_0 P32 P57 L38_1 x.1 x.2.1 x.2.2.1 x.2.2.2.1 x.2.2.2.2.1 x.2.2.2.2.2.1 x.2.2.2.2.2.2 from by rw [v38_1]))
def c38 : DCode := (.seq (.reg [.op ⟨some 4, .mov (.c (.bool false)), none⟩ none]) (.seq (.seq (.reg [.op ⟨some 9, .mov (.t 1), none⟩ none,
  .op ⟨some 10, .len (.t 9), none⟩ none,
  .op ⟨some 11, .mov (.t 0), none⟩ none,
  .op ⟨some 12, .nilc (.t 11), none⟩ none,
  .op ⟨some 13, .fld (.t 12) 0, none⟩ none,
  .op ⟨some 14, .fld (.t 13) 0, none⟩ none,
  .op ⟨some 15, .ld1 (.t 14) false, none⟩ none,
  .op ⟨some 16, .len (.t 15), none⟩ none,
  .op ⟨some 17, .bin true .neq (.t 10) (.t 16), none⟩ none]) (.cond (.t 17) (.seq (.reg [.op ⟨some 4, .mov (.c (.bool false)), none⟩ none]) .ret) .skip)) (.seq (.seq (.reg [.op ⟨some 18, .mov (.t 1), none⟩ none,
  .op ⟨some 19, .len (.t 18), none⟩ none,
  .op ⟨some 20, .mov (.c (.int .i64 0)), none⟩ none]) (.blk 0 (.loop h38_0 x38_0 b38_0))) (.seq (.reg [.op ⟨some 4, .mov (.c (.bool true)), none⟩ none]) .ret))))
theorem ok38 : L.Fn Try.prog 38 76 [(.t 4)] (erase c38) := L.Fn.of hmix Try.func38 [] (by kernel_rfl)
def sh38 : FSh := ⟨⟨[(.ptr 0 0), (.v (.sl (.sl (.int .i64))))], [(0, (.box [(.v (.sl (.pair (.int .i64) (.pair (.int .i64) (.int .i64))))), (.v (.sl (.pair (.int .i64) (.pair (.int .i64) (.pair (.int .i64) (.pair (.int .i64) (.pair (.int .i64) (.int .i64)))))))), (.mp 1), (.slc 2)])), (1, (.imap 2 false (.int .i64))), (2, (.row 3 (.int .i64)))]⟩, [(.sl (.sl (.int .i64))), (.sl (.pair (.int .i64) (.pair (.int .i64) (.int .i64)))), (.sl (.pair (.int .i64) (.pair (.int .i64) (.pair (.int .i64) (.pair (.int .i64) (.pair (.int .i64) (.int .i64))))))), (.es (.int .i64)), (.sl (.int .i64))], 3, ⟨⟨[(.v .bool)], [(0, (.box [(.v (.sl (.pair (.int .i64) (.pair (.int .i64) (.int .i64))))), (.v (.sl (.pair (.int .i64) (.pair (.int .i64) (.pair (.int .i64) (.pair (.int .i64) (.pair (.int .i64) (.int .i64)))))))), (.mp 1), (.slc 2)])), (1, (.imap 2 false (.int .i64))), (2, (.row 3 (.int .i64)))]⟩, [.bool, (.sl (.pair (.int .i64) (.pair (.int .i64) (.int .i64)))), (.sl (.pair (.int .i64) (.pair (.int .i64) (.pair (.int .i64) (.pair (.int .i64) (.pair (.int .i64) (.int .i64))))))), (.es (.int .i64)), (.sl (.int .i64))], [0, 1, 2], 3⟩, false⟩
noncomputable def q38 (F32 : Int × Int × Int → Option (Bool)) (F57 : Int × Int × (List (Int × Int × Int)) × (List (Int × Int × Int × Int × Int × Int)) × (List (List Int × Int)) × (List Int) → Option (Bool × (List (Int × Int × Int)) × (List (Int × Int × Int × Int × Int × Int)) × (List (List Int × Int)) × (List Int))) (l38_0 : (List (List Int)) × Int × Int × (List (Int × Int × Int)) × (List (Int × Int × Int × Int × Int × Int)) × (List (List Int × Int)) × (List Int) → Option ((Bool × (List (Int × Int × Int)) × (List (Int × Int × Int × Int × Int × Int)) × (List (List Int × Int)) × (List Int)) ⊕ ((List (Int × Int × Int)) × (List (Int × Int × Int × Int × Int × Int)) × (List (List Int × Int)) × (List Int)))) (a0 : List (List Int)) (a1 : List (Int × Int × Int)) (a2 : List (Int × Int × Int × Int × Int × Int)) (a3 : List (List Int × Int)) (a4 : List Int) : Option (Bool × (List (Int × Int × Int)) × (List (Int × Int × Int × Int × Int × Int)) × (List (List Int × Int)) × (List Int)) :=
cond (!decide ((↑(List.length a0) : Int) = (↑(List.length a1) : Int))) (
some (false, a1, a2, a3, a4)) (
(l38_0 (a0, (↑(List.length a0) : Int), (0 : Int), a1, a2, a3, a4)).bind (fun (y7 : (Bool × (List (Int × Int × Int)) × (List (Int × Int × Int × Int × Int × Int)) × (List (List Int × Int)) × (List Int)) ⊕ ((List (Int × Int × Int)) × (List (Int × Int × Int × Int × Int × Int)) × (List (List Int × Int)) × (List Int))) => Sum.elim (fun (y8 : Bool × (List (Int × Int × Int)) × (List (Int × Int × Int × Int × Int × Int)) × (List (List Int × Int)) × (List Int)) => (
some (y8.1, y8.2.1, y8.2.2.1, y8.2.2.2.1, y8.2.2.2.2))) (fun (y9 : (List (Int × Int × Int)) × (List (Int × Int × Int × Int × Int × Int)) × (List (List Int × Int)) × (List Int)) => (
some (true, y9.1, y9.2.1, y9.2.2.1, y9.2.2.2))) y7))
theorem g38 (F32 : Int × Int × Int → Option (Bool)) (F57 : Int × Int × (List (Int × Int × Int)) × (List (Int × Int × Int × Int × Int × Int)) × (List (List Int × Int)) × (List Int) → Option (Bool × (List (Int × Int × Int)) × (List (Int × Int × Int × Int × Int × Int)) × (List (List Int × Int)) × (List Int))) (a0 : List (List Int)) (a1 : List (Int × Int × Int)) (a2 : List (Int × Int × Int × Int × Int × Int)) (a3 : List (List Int × Int)) (a4 : List Int) : dxf (T38 F32 F57) sh38 [(.t 4)] c38 (a0, a1, a2, a3, a4) = q38 F32 F57 (l38_0 (T38 F32 F57)) a0 a1 a2 a3 a4 := by kernel_rfl
noncomputable def p38 (a0 : List (List Int)) (a1 : List (Int × Int × Int)) (a2 : List (Int × Int × Int × Int × Int × Int)) (a3 : List (List Int × Int)) (a4 : List Int) : Option (Bool × (List (Int × Int × Int)) × (List (Int × Int × Int × Int × Int × Int)) × (List (List Int × Int)) × (List Int)) := q38 P32 P57 L38_0 a0 a1 a2 a3 a4
noncomputable def P38 : (List (List Int)) × (List (Int × Int × Int)) × (List (Int × Int × Int × Int × Int × Int)) × (List (List Int × Int)) × (List Int) → Option (Bool × (List (Int × Int × Int)) × (List (Int × Int × Int × Int × Int × Int)) × (List (List Int × Int)) × (List Int)) := fun x => p38 x.1 x.2.1 x.2.2.1 x.2.2.2.1 x.2.2.2.2
theorem v38 : dxf (T38 P32 P57) sh38 [(.t 4)] c38 = P38 := funext fun x => (g38 P32 P57 x.1 x.2.1 x.2.2.1 x.2.2.2.1 x.2.2.2.2).trans (show q38 P32 P57 (l38_0 (T38 P32 P57)) x.1 x.2.1 x.2.2.1 x.2.2.2.1 x.2.2.2.2 = q38 P32 P57 L38_0 x.1 x.2.1 x.2.2.1 x.2.2.2.1 x.2.2.2.2 from by rw [v38_0])
theorem d38 : DC Try.prog 38 sh38 P38 := DC_eq v38 (dxf_sound (sh := sh38) t38 ok38 (by kernel_rfl))
/-! bijou/promise.Counts -/
noncomputable def T13 (F11 : (List (Int × Int × Int)) × (List (Int × Int × Int × Int × Int × Int)) → Option (Int)) (F37 : (List (Int × Int × Int)) × (List (Int × Int × Int × Int × Int × Int)) → Option ((List (Int × Int × Int)) × (List (Int × Int × Int × Int × Int × Int)) × (List (List Int × Int)) × (List Int))) (F38 : (List (List Int)) × (List (Int × Int × Int)) × (List (Int × Int × Int × Int × Int × Int)) × (List (List Int × Int)) × (List Int) → Option (Bool × (List (Int × Int × Int)) × (List (Int × Int × Int × Int × Int × Int)) × (List (List Int × Int)) × (List Int))) : List FEnt := [⟨11, sh11, F11⟩, ⟨37, sh37, F37⟩, ⟨38, sh38, F38⟩]
theorem t13 : DTblOK Try.prog (T13 P11 P37 P38) := (DTbl_cons' (f := 11) (sh := sh11) (F := P11) d11 (by kernel_rfl) (DTbl_cons' (f := 37) (sh := sh37) (F := P37) d37 (by kernel_rfl) (DTbl_cons' (f := 38) (sh := sh38) (F := P38) d38 (by kernel_rfl) DTbl_nil)))
def b13_1 : DCode := (.seq (.reg [.op ⟨some 39, .bin true .lss (.t 38) (.t 37), none⟩ none]) (.seq (.cond (.t 39) .skip (.exit 2)) (.seq (.blk 3 (.seq (.reg [.op ⟨some 40, .idx (.t 36) (.t 38) 1, none⟩ none,
  .op ⟨some 41, .ld1 (.t 40) false, none⟩ none,
  .op ⟨some 12, .mov (.t 41), none⟩ none]) (.reg [.op ⟨some 42, .mov (.t 4), none⟩ none,
  .op ⟨some 43, .mov (.t 12), none⟩ none,
  .op ⟨some 44, .idx (.t 42) (.t 43) 1, none⟩ none,
  .op ⟨some 45, .ld1 (.t 44) false, none⟩ none,
  .op ⟨some 46, .bin true .add (.t 45) (.c (.int .i64 1)), none⟩ none,
  .op ⟨some 47, .idx (.t 42) (.t 43) 1, none⟩ none,
  .op ⟨none, .sto (.t 47) (.t 46) 1, none⟩ none]))) (.reg [.op ⟨some 48, .bin true .add (.t 38) (.c (.int .i64 1)), none⟩ none,
  .op ⟨some 38, .mov (.t 48), none⟩ none]))))
def h13_1 : LSh := ⟨[4, 5, 8, 30, 31, 32, 36, 37, 38], ⟨[(.slc 0), (.v (.int .i64)), (.ptr 1 0), (.v (.sl (.sl (.int .i64)))), (.v (.int .i64)), (.v (.int .i64)), (.v (.sl (.int .i64))), (.v (.int .i64)), (.v (.int .i64))], [(0, (.row 3 (.int .i64))), (1, (.box [(.v (.sl (.pair (.int .i64) (.pair (.int .i64) (.int .i64))))), (.v (.sl (.pair (.int .i64) (.pair (.int .i64) (.pair (.int .i64) (.pair (.int .i64) (.pair (.int .i64) (.int .i64)))))))), (.mp 2), (.slc 3)])), (2, (.imap 2 false (.int .i64))), (3, (.row 3 (.int .i64)))]⟩, [(.int .i64), (.sl (.sl (.int .i64))), (.int .i64), (.int .i64), (.sl (.int .i64)), (.int .i64), (.int .i64), (.sl (.int .i64)), (.sl (.pair (.int .i64) (.pair (.int .i64) (.int .i64)))), (.sl (.pair (.int .i64) (.pair (.int .i64) (.pair (.int .i64) (.pair (.int .i64) (.pair (.int .i64) (.int .i64))))))), (.es (.int .i64)), (.sl (.int .i64))], 4, [0, 1, 2, 3]⟩
def x13_1 : List XSh := [⟨(.exit 2), [4, 5, 8, 30, 31, 32], ⟨⟨[(.slc 0), (.v (.int .i64)), (.ptr 1 0), (.v (.sl (.sl (.int .i64)))), (.v (.int .i64)), (.v (.int .i64))], [(0, (.row 3 (.int .i64))), (1, (.box [(.v (.sl (.pair (.int .i64) (.pair (.int .i64) (.int .i64))))), (.v (.sl (.pair (.int .i64) (.pair (.int .i64) (.pair (.int .i64) (.pair (.int .i64) (.pair (.int .i64) (.int .i64)))))))), (.mp 2), (.slc 3)])), (2, (.imap 2 false (.int .i64))), (3, (.row 3 (.int .i64)))]⟩, [(.int .i64), (.sl (.sl (.int .i64))), (.int .i64), (.int .i64), (.sl (.int .i64)), (.sl (.pair (.int .i64) (.pair (.int .i64) (.int .i64)))), (.sl (.pair (.int .i64) (.pair (.int .i64) (.pair (.int .i64) (.pair (.int .i64) (.pair (.int .i64) (.int .i64))))))), (.es (.int .i64)), (.sl (.int .i64))], [0, 1, 2, 3], 4⟩⟩]
noncomputable def s13_1 (T : List FEnt) : Int × (List (List Int)) × Int × Int × (List Int) × Int × Int × (List Int) × (List (Int × Int × Int)) × (List (Int × Int × Int × Int × Int × Int)) × (List (List Int × Int)) × (List Int) → Option ((Int × (List (List Int)) × Int × Int × (List Int) × Int × Int × (List Int) × (List (Int × Int × Int)) × (List (Int × Int × Int × Int × Int × Int)) × (List (List Int × Int)) × (List Int)) ⊕ (Int × (List (List Int)) × Int × Int × (List Int) × (List (Int × Int × Int)) × (List (Int × Int × Int × Int × Int × Int)) × (List (List Int × Int)) × (List Int))) := dstep (xs := x13_1) h13_1 (dxc T b13_1)
noncomputable def l13_1 (T : List FEnt) : Int × (List (List Int)) × Int × Int × (List Int) × Int × Int × (List Int) × (List (Int × Int × Int)) × (List (Int × Int × Int × Int × Int × Int)) × (List (List Int × Int)) × (List Int) → Option (Int × (List (List Int)) × Int × Int × (List Int) × (List (Int × Int × Int)) × (List (Int × Int × Int × Int × Int × Int)) × (List (List Int × Int)) × (List Int)) := whileF (s13_1 T)
noncomputable def q13_1 (F11 : (List (Int × Int × Int)) × (List (Int × Int × Int × Int × Int × Int)) → Option (Int)) (F37 : (List (Int × Int × Int)) × (List (Int × Int × Int × Int × Int × Int)) → Option ((List (Int × Int × Int)) × (List (Int × Int × Int × Int × Int × Int)) × (List (List Int × Int)) × (List Int))) (F38 : (List (List Int)) × (List (Int × Int × Int)) × (List (Int × Int × Int × Int × Int × Int)) × (List (List Int × Int)) × (List Int) → Option (Bool × (List (Int × Int × Int)) × (List (Int × Int × Int × Int × Int × Int)) × (List (List Int × Int)) × (List Int))) (a0 : Int) (a1 : List (List Int)) (a2 : Int) (a3 : Int) (a4 : List Int) (a5 : Int) (a6 : Int) (a7 : List Int) (a8 : List (Int × Int × Int)) (a9 : List (Int × Int × Int × Int × Int × Int)) (a10 : List (List Int × Int)) (a11 : List Int) : Option ((Int × (List (List Int)) × Int × Int × (List Int) × Int × Int × (List Int) × (List (Int × Int × Int)) × (List (Int × Int × Int × Int × Int × Int)) × (List (List Int × Int)) × (List Int)) ⊕ (Int × (List (List Int)) × Int × Int × (List Int) × (List (Int × Int × Int)) × (List (Int × Int × Int × Int × Int × Int)) × (List (List Int × Int)) × (List Int))) :=
cond (decide (a6 < a5)) (
chk (inR a6 (List.length a4)) (
chk (inR (ix a4 a6) (List.length a7)) (
chk (fits .i64 ((ix a7 (ix a4 a6)) + (1 : Int))) (
chk (inR (ix a4 a6) (List.length a7)) (
chk (fits .i64 (a6 + (1 : Int))) (
some (Sum.inl (a0, a1, a2, a3, a4, a5, (a6 + (1 : Int)), (List.set a7 (Int.toNat (ix a4 a6)) ((ix a7 (ix a4 a6)) + (1 : Int))), a8, a9, a10, a11)))))))) (
some (Sum.inr (a0, a1, a2, a3, a7, a8, a9, a10, a11)))
theorem g13_1 (F11 : (List (Int × Int × Int)) × (List (Int × Int × Int × Int × Int × Int)) → Option (Int)) (F37 : (List (Int × Int × Int)) × (List (Int × Int × Int × Int × Int × Int)) → Option ((List (Int × Int × Int)) × (List (Int × Int × Int × Int × Int × Int)) × (List (List Int × Int)) × (List Int))) (F38 : (List (List Int)) × (List (Int × Int × Int)) × (List (Int × Int × Int × Int × Int × Int)) × (List (List Int × Int)) × (List Int) → Option (Bool × (List (Int × Int × Int)) × (List (Int × Int × Int × Int × Int × Int)) × (List (List Int × Int)) × (List Int))) (a0 : Int) (a1 : List (List Int)) (a2 : Int) (a3 : Int) (a4 : List Int) (a5 : Int) (a6 : Int) (a7 : List Int) (a8 : List (Int × Int × Int)) (a9 : List (Int × Int × Int × Int × Int × Int)) (a10 : List (List Int × Int)) (a11 : List Int) : s13_1 (T13 F11 F37 F38) (a0, a1, a2, a3, a4, a5, a6, a7, a8, a9, a10, a11) = q13_1 F11 F37 F38 a0 a1 a2 a3 a4 a5 a6 a7 a8 a9 a10 a11 := by kernel_rfl
noncomputable def p13_1 (a0 : Int) (a1 : List (List Int)) (a2 : Int) (a3 : Int) (a4 : List Int) (a5 : Int) (a6 : Int) (a7 : List Int) (a8 : List (Int × Int × Int)) (a9 : List (Int × Int × Int × Int × Int × Int)) (a10 : List (List Int × Int)) (a11 : List Int) : Option ((Int × (List (List Int)) × Int × Int × (List Int) × Int × Int × (List Int) × (List (Int × Int × Int)) × (List (Int × Int × Int × Int × Int × Int)) × (List (List Int × Int)) × (List Int)) ⊕ (Int × (List (List Int)) × Int × Int × (List Int) × (List (Int × Int × Int)) × (List (Int × Int × Int × Int × Int × Int)) × (List (List Int × Int)) × (List Int))) := q13_1 P11 P37 P38 a0 a1 a2 a3 a4 a5 a6 a7 a8 a9 a10 a11
noncomputable def L13_1 : Int × (List (List Int)) × Int × Int × (List Int) × Int × Int × (List Int) × (List (Int × Int × Int)) × (List (Int × Int × Int × Int × Int × Int)) × (List (List Int × Int)) × (List Int) → Option (Int × (List (List Int)) × Int × Int × (List Int) × (List (Int × Int × Int)) × (List (Int × Int × Int × Int × Int × Int)) × (List (List Int × Int)) × (List Int)) := whileF (fun x => p13_1 x.1 x.2.1 x.2.2.1 x.2.2.2.1 x.2.2.2.2.1 x.2.2.2.2.2.1 x.2.2.2.2.2.2.1 x.2.2.2.2.2.2.2.1 x.2.2.2.2.2.2.2.2.1 x.2.2.2.2.2.2.2.2.2.1 x.2.2.2.2.2.2.2.2.2.2.1 x.2.2.2.2.2.2.2.2.2.2.2)
theorem v13_1 : l13_1 (T13 P11 P37 P38) = L13_1 := congrArg whileF (funext fun x => (g13_1 P11 P37 P38 x.1 x.2.1 x.2.2.1 x.2.2.2.1 x.2.2.2.2.1 x.2.2.2.2.2.1 x.2.2.2.2.2.2.1 x.2.2.2.2.2.2.2.1 x.2.2.2.2.2.2.2.2.1 x.2.2.2.2.2.2.2.2.2.1 x.2.2.2.2.2.2.2.2.2.2.1 x.2.2.2.2.2.2.2.2.2.2.2).trans (show q13_1 P11 P37 P38 x.1 x.2.1 x.2.2.1 x.2.2.2.1 x.2.2.2.2.1 x.2.2.2.2.2.1 x.2.2.2.2.2.2.1 x.2.2.2.2.2.2.2.1 x.2.2.2.2.2.2.2.2.1 x.2.2.2.2.2.2.2.2.2.1 x.2.2.2.2.2.2.2.2.2.2.1 x.2.2.2.2.2.2.2.2.2.2.2 = q13_1 P11 P37 P38 x.1 x.2.1 x.2.2.1 x.2.2.2.1 x.2.2.2.2.1 x.2.2.2.2.2.1 x.2.2.2.2.2.2.1 x.2.2.2.2.2.2.2.1 x.2.2.2.2.2.2.2.2.1 x.2.2.2.2.2.2.2.2.2.1 x.2.2.2.2.2.2.2.2.2.2.1 x.2.2.2.2.2.2.2.2.2.2.2 from rfl))
def b13_0 : DCode := (.seq (.reg [.op ⟨some 33, .bin true .lss (.t 32) (.t 31), none⟩ none]) (.seq (.cond (.t 33) .skip (.exit 0)) (.seq (.blk 1 (.seq (.reg [.op ⟨some 34, .idx (.t 30) (.t 32) 1, none⟩ none,
  .op ⟨some 35, .ld1 (.t 34) false, none⟩ none,
  .op ⟨some 10, .mov (.t 35), none⟩ none]) (.seq (.reg [.op ⟨some 36, .mov (.t 10), none⟩ none,
  .op ⟨some 37, .len (.t 36), none⟩ none,
  .op ⟨some 38, .mov (.c (.int .i64 0)), none⟩ none]) (.blk 2 (.loop h13_1 x13_1 b13_1))))) (.reg [.op ⟨some 49, .bin true .add (.t 32) (.c (.int .i64 1)), none⟩ none,
  .op ⟨some 32, .mov (.t 49), none⟩ none]))))
def h13_0 : LSh := ⟨[4, 5, 8, 30, 31, 32], ⟨[(.slc 0), (.v (.int .i64)), (.ptr 1 0), (.v (.sl (.sl (.int .i64)))), (.v (.int .i64)), (.v (.int .i64))], [(0, (.row 3 (.int .i64))), (1, (.box [(.v (.sl (.pair (.int .i64) (.pair (.int .i64) (.int .i64))))), (.v (.sl (.pair (.int .i64) (.pair (.int .i64) (.pair (.int .i64) (.pair (.int .i64) (.pair (.int .i64) (.int .i64)))))))), (.mp 2), (.slc 3)])), (2, (.imap 2 false (.int .i64))), (3, (.row 3 (.int .i64)))]⟩, [(.int .i64), (.sl (.sl (.int .i64))), (.int .i64), (.int .i64), (.sl (.int .i64)), (.sl (.pair (.int .i64) (.pair (.int .i64) (.int .i64)))), (.sl (.pair (.int .i64) (.pair (.int .i64) (.pair (.int .i64) (.pair (.int .i64) (.pair (.int .i64) (.int .i64))))))), (.es (.int .i64)), (.sl (.int .i64))], 4, [0, 1, 2, 3]⟩
def x13_0 : List XSh := [⟨(.exit 0), [4, 5, 8], ⟨⟨[(.slc 0), (.v (.int .i64)), (.ptr 1 0)], [(0, (.row 3 (.int .i64))), (1, (.box [(.v (.sl (.pair (.int .i64) (.pair (.int .i64) (.int .i64))))), (.v (.sl (.pair (.int .i64) (.pair (.int .i64) (.pair (.int .i64) (.pair (.int .i64) (.pair (.int .i64) (.int .i64)))))))), (.mp 2), (.slc 3)])), (2, (.imap 2 false (.int .i64))), (3, (.row 3 (.int .i64)))]⟩, [(.int .i64), (.sl (.int .i64)), (.sl (.pair (.int .i64) (.pair (.int .i64) (.int .i64)))), (.sl (.pair (.int .i64) (.pair (.int .i64) (.pair (.int .i64) (.pair (.int .i64) (.pair (.int .i64) (.int .i64))))))), (.es (.int .i64)), (.sl (.int .i64))], [0, 1, 2, 3], 4⟩⟩]
noncomputable def s13_0 (T : List FEnt) : Int × (List (List Int)) × Int × Int × (List Int) × (List (Int × Int × Int)) × (List (Int × Int × Int × Int × Int × Int)) × (List (List Int × Int)) × (List Int) → Option ((Int × (List (List Int)) × Int × Int × (List Int) × (List (Int × Int × Int)) × (List (Int × Int × Int × Int × Int × Int)) × (List (List Int × Int)) × (List Int)) ⊕ (Int × (List Int) × (List (Int × Int × Int)) × (List (Int × Int × Int × Int × Int × Int)) × (List (List Int × Int)) × (List Int))) := dstep (xs := x13_0) h13_0 (dxc T b13_0)
noncomputable def l13_0 (T : List FEnt) : Int × (List (List Int)) × Int × Int × (List Int) × (List (Int × Int × Int)) × (List (Int × Int × Int × Int × Int × Int)) × (List (List Int × Int)) × (List Int) → Option (Int × (List Int) × (List (Int × Int × Int)) × (List (Int × Int × Int × Int × Int × Int)) × (List (List Int × Int)) × (List Int)) := whileF (s13_0 T)
noncomputable def q13_0 (F11 : (List (Int × Int × Int)) × (List (Int × Int × Int × Int × Int × Int)) → Option (Int)) (F37 : (List (Int × Int × Int)) × (List (Int × Int × Int × Int × Int × Int)) → Option ((List (Int × Int × Int)) × (List (Int × Int × Int × Int × Int × Int)) × (List (List Int × Int)) × (List Int))) (F38 : (List (List Int)) × (List (Int × Int × Int)) × (List (Int × Int × Int × Int × Int × Int)) × (List (List Int × Int)) × (List Int) → Option (Bool × (List (Int × Int × Int)) × (List (Int × Int × Int × Int × Int × Int)) × (List (List Int × Int)) × (List Int))) (l13_1 : Int × (List (List Int)) × Int × Int × (List Int) × Int × Int × (List Int) × (List (Int × Int × Int)) × (List (Int × Int × Int × Int × Int × Int)) × (List (List Int × Int)) × (List Int) → Option (Int × (List (List Int)) × Int × Int × (List Int) × (List (Int × Int × Int)) × (List (Int × Int × Int × Int × Int × Int)) × (List (List Int × Int)) × (List Int))) (a0 : Int) (a1 : List (List Int)) (a2 : Int) (a3 : Int) (a4 : List Int) (a5 : List (Int × Int × Int)) (a6 : List (Int × Int × Int × Int × Int × Int)) (a7 : List (List Int × Int)) (a8 : List Int) : Option ((Int × (List (List Int)) × Int × Int × (List Int) × (List (Int × Int × Int)) × (List (Int × Int × Int × Int × Int × Int)) × (List (List Int × Int)) × (List Int)) ⊕ (Int × (List Int) × (List (Int × Int × Int)) × (List (Int × Int × Int × Int × Int × Int)) × (List (List Int × Int)) × (List Int))) :=
cond (decide (a3 < a2)) (
chk (inR a3 (List.length a1)) (
(l13_1 (a0, a1, a2, a3, (ix a1 a3), (↑(List.length (ix a1 a3)) : Int), (0 : Int), a4, a5, a6, a7, a8)).bind fun (y4 : Int × (List (List Int)) × Int × Int × (List Int) × (List (Int × Int × Int)) × (List (Int × Int × Int × Int × Int × Int)) × (List (List Int × Int)) × (List Int)) => (
chk (fits .i64 (y4.2.2.2.1 + (1 : Int))) (
some (Sum.inl (y4.1, y4.2.1, y4.2.2.1, (y4.2.2.2.1 + (1 : Int)), y4.2.2.2.2.1, y4.2.2.2.2.2.1, y4.2.2.2.2.2.2.1, y4.2.2.2.2.2.2.2.1, y4.2.2.2.2.2.2.2.2)))))) (
some (Sum.inr (a0, a4, a5, a6, a7, a8)))
theorem g13_0 (F11 : (List (Int × Int × Int)) × (List (Int × Int × Int × Int × Int × Int)) → Option (Int)) (F37 : (List (Int × Int × Int)) × (List (Int × Int × Int × Int × Int × Int)) → Option ((List (Int × Int × Int)) × (List (Int × Int × Int × Int × Int × Int)) × (List (List Int × Int)) × (List Int))) (F38 : (List (List Int)) × (List (Int × Int × Int)) × (List (Int × Int × Int × Int × Int × Int)) × (List (List Int × Int)) × (List Int) → Option (Bool × (List (Int × Int × Int)) × (List (Int × Int × Int × Int × Int × Int)) × (List (List Int × Int)) × (List Int))) (a0 : Int) (a1 : List (List Int)) (a2 : Int) (a3 : Int) (a4 : List Int) (a5 : List (Int × Int × Int)) (a6 : List (Int × Int × Int × Int × Int × Int)) (a7 : List (List Int × Int)) (a8 : List Int) : s13_0 (T13 F11 F37 F38) (a0, a1, a2, a3, a4, a5, a6, a7, a8) = q13_0 F11 F37 F38 (l13_1 (T13 F11 F37 F38)) a0 a1 a2 a3 a4 a5 a6 a7 a8 := by kernel_rfl
noncomputable def p13_0 (a0 : Int) (a1 : List (List Int)) (a2 : Int) (a3 : Int) (a4 : List Int) (a5 : List (Int × Int × Int)) (a6 : List (Int × Int × Int × Int × Int × Int)) (a7 : List (List Int × Int)) (a8 : List Int) : Option ((Int × (List (List Int)) × Int × Int × (List Int) × (List (Int × Int × Int)) × (List (Int × Int × Int × Int × Int × Int)) × (List (List Int × Int)) × (List Int)) ⊕ (Int × (List Int) × (List (Int × Int × Int)) × (List (Int × Int × Int × Int × Int × Int)) × (List (List Int × Int)) × (List Int))) := q13_0 P11 P37 P38 L13_1 a0 a1 a2 a3 a4 a5 a6 a7 a8
noncomputable def L13_0 : Int × (List (List Int)) × Int × Int × (List Int) × (List (Int × Int × Int)) × (List (Int × Int × Int × Int × Int × Int)) × (List (List Int × Int)) × (List Int) → Option (Int × (List Int) × (List (Int × Int × Int)) × (List (Int × Int × Int × Int × Int × Int)) × (List (List Int × Int)) × (List Int)) := whileF (fun x => p13_0 x.1 x.2.1 x.2.2.1 x.2.2.2.1 x.2.2.2.2.1 x.2.2.2.2.2.1 x.2.2.2.2.2.2.1 x.2.2.2.2.2.2.2.1 x.2.2.2.2.2.2.2.2)
theorem v13_0 : l13_0 (T13 P11 P37 P38) = L13_0 := congrArg whileF (funext fun x => (g13_0 P11 P37 P38 x.1 x.2.1 x.2.2.1 x.2.2.2.1 x.2.2.2.2.1 x.2.2.2.2.2.1 x.2.2.2.2.2.2.1 x.2.2.2.2.2.2.2.1 x.2.2.2.2.2.2.2.2).trans (show q13_0 P11 P37 P38 (l13_1 (T13 P11 P37 P38)) x.1 x.2.1 x.2.2.1 x.2.2.2.1 x.2.2.2.2.1 x.2.2.2.2.2.1 x.2.2.2.2.2.2.1 x.2.2.2.2.2.2.2.1 x.2.2.2.2.2.2.2.2 = q13_0 P11 P37 P38 L13_1 x.1 x.2.1 x.2.2.1 x.2.2.2.1 x.2.2.2.2.1 x.2.2.2.2.2.1 x.2.2.2.2.2.2.1 x.2.2.2.2.2.2.2.1 x.2.2.2.2.2.2.2.2 from by rw [v13_1]))
def b13_2 : DCode := (.seq (.reg [.op ⟨some 53, .bin true .lss (.t 52) (.t 51), none⟩ none]) (.seq (.cond (.t 53) .skip (.exit 4)) (.seq (.blk 5 (.seq (.reg [.op ⟨some 54, .mov (.t 52), none⟩ none,
  .op ⟨some 55, .idx (.t 50) (.t 52) 1, none⟩ none,
  .op ⟨some 56, .ld1 (.t 55) false, none⟩ none,
  .op ⟨some 13, .mov (.t 54), none⟩ none,
  .op ⟨some 14, .mov (.t 56), none⟩ none]) (.reg [.op ⟨some 57, .mov (.t 5), none⟩ none,
  .op ⟨some 58, .mov (.t 14), none⟩ none,
  .op ⟨some 59, .mov (.t 8), none⟩ none,
  .op ⟨some 60, .nilc (.t 59), none⟩ none,
  .op ⟨some 61, .fld (.t 60) 3, none⟩ none,
  .op ⟨some 62, .ld1 (.t 61) false, none⟩ none,
  .op ⟨some 63, .mov (.t 13), none⟩ none,
  .op ⟨some 64, .idx (.t 62) (.t 63) 1, none⟩ none,
  .op ⟨some 65, .ld1 (.t 64) false, none⟩ none,
  .op ⟨some 66, .mnx false (.t 58) (.t 65), none⟩ none,
  .op ⟨some 67, .bin true .add (.t 57) (.t 66), none⟩ none,
  .op ⟨some 5, .mov (.t 67), none⟩ none]))) (.reg [.op ⟨some 68, .bin true .add (.t 52) (.c (.int .i64 1)), none⟩ none,
  .op ⟨some 52, .mov (.t 68), none⟩ none]))))
def h13_2 : LSh := ⟨[4, 5, 8, 50, 51, 52], ⟨[(.slc 0), (.v (.int .i64)), (.ptr 1 0), (.slc 0), (.v (.int .i64)), (.v (.int .i64))], [(0, (.row 3 (.int .i64))), (1, (.box [(.v (.sl (.pair (.int .i64) (.pair (.int .i64) (.int .i64))))), (.v (.sl (.pair (.int .i64) (.pair (.int .i64) (.pair (.int .i64) (.pair (.int .i64) (.pair (.int .i64) (.int .i64)))))))), (.mp 2), (.slc 3)])), (2, (.imap 2 false (.int .i64))), (3, (.row 3 (.int .i64)))]⟩, [(.int .i64), (.int .i64), (.int .i64), (.sl (.int .i64)), (.sl (.pair (.int .i64) (.pair (.int .i64) (.int .i64)))), (.sl (.pair (.int .i64) (.pair (.int .i64) (.pair (.int .i64) (.pair (.int .i64) (.pair (.int .i64) (.int .i64))))))), (.es (.int .i64)), (.sl (.int .i64))], 4, [0, 1, 2, 3]⟩
def x13_2 : List XSh := [⟨(.exit 4), [4, 5], ⟨⟨[(.slc 0), (.v (.int .i64))], [(0, (.row 3 (.int .i64))), (1, (.box [(.v (.sl (.pair (.int .i64) (.pair (.int .i64) (.int .i64))))), (.v (.sl (.pair (.int .i64) (.pair (.int .i64) (.pair (.int .i64) (.pair (.int .i64) (.pair (.int .i64) (.int .i64)))))))), (.mp 2), (.slc 3)])), (2, (.imap 2 false (.int .i64))), (3, (.row 3 (.int .i64)))]⟩, [(.int .i64), (.sl (.int .i64)), (.sl (.pair (.int .i64) (.pair (.int .i64) (.int .i64)))), (.sl (.pair (.int .i64) (.pair (.int .i64) (.pair (.int .i64) (.pair (.int .i64) (.pair (.int .i64) (.int .i64))))))), (.es (.int .i64)), (.sl (.int .i64))], [0, 1, 2, 3], 4⟩⟩]
noncomputable def s13_2 (T : List FEnt) : Int × Int × Int × (List Int) × (List (Int × Int × Int)) × (List (Int × Int × Int × Int × Int × Int)) × (List (List Int × Int)) × (List Int) → Option ((Int × Int × Int × (List Int) × (List (Int × Int × Int)) × (List (Int × Int × Int × Int × Int × Int)) × (List (List Int × Int)) × (List Int)) ⊕ (Int × (List Int) × (List (Int × Int × Int)) × (List (Int × Int × Int × Int × Int × Int)) × (List (List Int × Int)) × (List Int))) := dstep (xs := x13_2) h13_2 (dxc T b13_2)
noncomputable def l13_2 (T : List FEnt) : Int × Int × Int × (List Int) × (List (Int × Int × Int)) × (List (Int × Int × Int × Int × Int × Int)) × (List (List Int × Int)) × (List Int) → Option (Int × (List Int) × (List (Int × Int × Int)) × (List (Int × Int × Int × Int × Int × Int)) × (List (List Int × Int)) × (List Int)) := whileF (s13_2 T)
noncomputable def q13_2 (F11 : (List (Int × Int × Int)) × (List (Int × Int × Int × Int × Int × Int)) → Option (Int)) (F37 : (List (Int × Int × Int)) × (List (Int × Int × Int × Int × Int × Int)) → Option ((List (Int × Int × Int)) × (List (Int × Int × Int × Int × Int × Int)) × (List (List Int × Int)) × (List Int))) (F38 : (List (List Int)) × (List (Int × Int × Int)) × (List (Int × Int × Int × Int × Int × Int)) × (List (List Int × Int)) × (List Int) → Option (Bool × (List (Int × Int × Int)) × (List (Int × Int × Int × Int × Int × Int)) × (List (List Int × Int)) × (List Int))) (a0 : Int) (a1 : Int) (a2 : Int) (a3 : List Int) (a4 : List (Int × Int × Int)) (a5 : List (Int × Int × Int × Int × Int × Int)) (a6 : List (List Int × Int)) (a7 : List Int) : Option ((Int × Int × Int × (List Int) × (List (Int × Int × Int)) × (List (Int × Int × Int × Int × Int × Int)) × (List (List Int × Int)) × (List Int)) ⊕ (Int × (List Int) × (List (Int × Int × Int)) × (List (Int × Int × Int × Int × Int × Int)) × (List (List Int × Int)) × (List Int))) :=
cond (decide (a2 < a1)) (
chk (inR a2 (List.length a3)) (
chk (inR a2 (List.length a7)) (
chk (fits .i64 (a0 + (min (ix a3 a2) (ix a7 a2)))) (
chk (fits .i64 (a2 + (1 : Int))) (
some (Sum.inl ((a0 + (min (ix a3 a2) (ix a7 a2))), a1, (a2 + (1 : Int)), a3, a4, a5, a6, a7))))))) (
some (Sum.inr (a0, a3, a4, a5, a6, a7)))
theorem g13_2 (F11 : (List (Int × Int × Int)) × (List (Int × Int × Int × Int × Int × Int)) → Option (Int)) (F37 : (List (Int × Int × Int)) × (List (Int × Int × Int × Int × Int × Int)) → Option ((List (Int × Int × Int)) × (List (Int × Int × Int × Int × Int × Int)) × (List (List Int × Int)) × (List Int))) (F38 : (List (List Int)) × (List (Int × Int × Int)) × (List (Int × Int × Int × Int × Int × Int)) × (List (List Int × Int)) × (List Int) → Option (Bool × (List (Int × Int × Int)) × (List (Int × Int × Int × Int × Int × Int)) × (List (List Int × Int)) × (List Int))) (a0 : Int) (a1 : Int) (a2 : Int) (a3 : List Int) (a4 : List (Int × Int × Int)) (a5 : List (Int × Int × Int × Int × Int × Int)) (a6 : List (List Int × Int)) (a7 : List Int) : s13_2 (T13 F11 F37 F38) (a0, a1, a2, a3, a4, a5, a6, a7) = q13_2 F11 F37 F38 a0 a1 a2 a3 a4 a5 a6 a7 := by kernel_rfl
noncomputable def p13_2 (a0 : Int) (a1 : Int) (a2 : Int) (a3 : List Int) (a4 : List (Int × Int × Int)) (a5 : List (Int × Int × Int × Int × Int × Int)) (a6 : List (List Int × Int)) (a7 : List Int) : Option ((Int × Int × Int × (List Int) × (List (Int × Int × Int)) × (List (Int × Int × Int × Int × Int × Int)) × (List (List Int × Int)) × (List Int)) ⊕ (Int × (List Int) × (List (Int × Int × Int)) × (List (Int × Int × Int × Int × Int × Int)) × (List (List Int × Int)) × (List Int))) := q13_2 P11 P37 P38 a0 a1 a2 a3 a4 a5 a6 a7
noncomputable def L13_2 : Int × Int × Int × (List Int) × (List (Int × Int × Int)) × (List (Int × Int × Int × Int × Int × Int)) × (List (List Int × Int)) × (List Int) → Option (Int × (List Int) × (List (Int × Int × Int)) × (List (Int × Int × Int × Int × Int × Int)) × (List (List Int × Int)) × (List Int)) := whileF (fun x => p13_2 x.1 x.2.1 x.2.2.1 x.2.2.2.1 x.2.2.2.2.1 x.2.2.2.2.2.1 x.2.2.2.2.2.2.1 x.2.2.2.2.2.2.2)
theorem v13_2 : l13_2 (T13 P11 P37 P38) = L13_2 := congrArg whileF (funext fun x => (g13_2 P11 P37 P38 x.1 x.2.1 x.2.2.1 x.2.2.2.1 x.2.2.2.2.1 x.2.2.2.2.2.1 x.2.2.2.2.2.2.1 x.2.2.2.2.2.2.2).trans (show q13_2 P11 P37 P38 x.1 x.2.1 x.2.2.1 x.2.2.2.1 x.2.2.2.2.1 x.2.2.2.2.2.1 x.2.2.2.2.2.2.1 x.2.2.2.2.2.2.2 = q13_2 P11 P37 P38 x.1 x.2.1 x.2.2.1 x.2.2.2.1 x.2.2.2.2.1 x.2.2.2.2.2.1 x.2.2.2.2.2.2.1 x.2.2.2.2.2.2.2 from rfl))
def c13 : DCode := (.seq (.reg [.op ⟨some 2, .box (.t 0), none⟩ none,
  .op ⟨some 4, .mov (.c .emp), none⟩ none,
  .op ⟨some 5, .mov (.c (.int .i64 0)), none⟩ none,
  .op ⟨some 6, .mov (.c (.int .i64 0)), none⟩ none]) (.seq (.seq (.reg [.op ⟨some 15, .ldn (.t 2) 2 false, none⟩ none,
  .op ⟨some 16, .xcall 11 [(.t 15)], none⟩ none,
  .op ⟨some 7, .mov (.t 16), none⟩ none]) (.seq (.reg [.op ⟨some 17, .mov (.t 7), none⟩ none,
  .op ⟨some 18, .bin true .neq (.t 17) (.c (.int .i64 0)), none⟩ none]) (.cond (.t 18) (.seq (.reg [.op ⟨some 19, .mov (.t 7), none⟩ none,
  .op ⟨some 4, .mov (.c .emp), none⟩ none,
  .op ⟨some 5, .mov (.c (.int .i64 0)), none⟩ none,
  .op ⟨some 6, .mov (.t 19), none⟩ none]) .ret) .skip))) (.seq (.reg [.op ⟨some 20, .ldn (.t 2) 2 false, none⟩ none,
  .op ⟨some 21, .xcall 37 [(.t 20)], none⟩ none,
  .op ⟨some 8, .mov (.t 21), none⟩ none]) (.seq (.seq (.reg [.op ⟨some 22, .mov (.t 8), none⟩ none,
  .op ⟨some 23, .mov (.t 1), none⟩ none,
  .op ⟨some 24, .xcall 38 [(.t 22), (.t 23)], none⟩ none,
  .op ⟨some 25, .unot (.t 24), none⟩ none]) (.cond (.t 25) (.seq (.reg [.op ⟨some 4, .mov (.c .emp), none⟩ none,
  .op ⟨some 5, .mov (.c (.int .i64 0)), none⟩ none,
  .op ⟨some 6, .mov (.c (.int .i64 71)), none⟩ none]) .ret) .skip)) (.seq (.reg [.op ⟨some 26, .fld (.t 2) 1, none⟩ none,
  .op ⟨some 27, .ld1 (.t 26) false, none⟩ none,
  .op ⟨some 28, .len (.t 27), none⟩ none,
  .op ⟨some 29, .mks 3 1 8 [(.int .i64 0)] (.t 28), none⟩ (some (false, (.int .i64))),
  .op ⟨some 4, .mov (.t 29), none⟩ none]) (.seq (.seq (.reg [.op ⟨some 30, .mov (.t 1), none⟩ none,
  .op ⟨some 31, .len (.t 30), none⟩ none,
  .op ⟨some 32, .mov (.c (.int .i64 0)), none⟩ none]) (.blk 0 (.loop h13_0 x13_0 b13_0))) (.seq (.seq (.reg [.op ⟨some 50, .mov (.t 4), none⟩ none,
  .op ⟨some 51, .len (.t 50), none⟩ none,
  .op ⟨some 52, .mov (.c (.int .i64 0)), none⟩ none]) (.blk 4 (.loop h13_2 x13_2 b13_2))) (.seq (.reg [.op ⟨some 69, .mov (.t 4), none⟩ none,
  .op ⟨some 70, .mov (.t 5), none⟩ none,
  .op ⟨some 4, .mov (.t 69), none⟩ none,
  .op ⟨some 5, .mov (.t 70), none⟩ none,
  .op ⟨some 6, .mov (.c (.int .i64 0)), none⟩ none]) .ret))))))))
theorem ok13 : L.Fn Try.prog 13 71 [(.t 4), (.t 5), (.t 6)] (erase c13) := L.Fn.of hmix Try.func13 [] (by kernel_rfl)
def sh13 : FSh := ⟨⟨[(.st (.pair (.sl (.pair (.int .i64) (.pair (.int .i64) (.int .i64)))) (.sl (.pair (.int .i64) (.pair (.int .i64) (.pair (.int .i64) (.pair (.int .i64) (.pair (.int .i64) (.int .i64))))))))), (.v (.sl (.sl (.int .i64))))], []⟩, [(.pair (.sl (.pair (.int .i64) (.pair (.int .i64) (.int .i64)))) (.sl (.pair (.int .i64) (.pair (.int .i64) (.pair (.int .i64) (.pair (.int .i64) (.pair (.int .i64) (.int .i64)))))))), (.sl (.sl (.int .i64)))], 0, ⟨⟨[(.tup [(.slc 0), (.v (.int .i64)), (.v (.int .i64))])], [(0, (.row 3 (.int .i64)))]⟩, [(.int .i64), (.int .i64), (.sl (.int .i64))], [], 1⟩, true⟩
noncomputable def q13 (F11 : (List (Int × Int × Int)) × (List (Int × Int × Int × Int × Int × Int)) → Option (Int)) (F37 : (List (Int × Int × Int)) × (List (Int × Int × Int × Int × Int × Int)) → Option ((List (Int × Int × Int)) × (List (Int × Int × Int × Int × Int × Int)) × (List (List Int × Int)) × (List Int))) (F38 : (List (List Int)) × (List (Int × Int × Int)) × (List (Int × Int × Int × Int × Int × Int)) × (List (List Int × Int)) × (List Int) → Option (Bool × (List (Int × Int × Int)) × (List (Int × Int × Int × Int × Int × Int)) × (List (List Int × Int)) × (List Int))) (l13_0 : Int × (List (List Int)) × Int × Int × (List Int) × (List (Int × Int × Int)) × (List (Int × Int × Int × Int × Int × Int)) × (List (List Int × Int)) × (List Int) → Option (Int × (List Int) × (List (Int × Int × Int)) × (List (Int × Int × Int × Int × Int × Int)) × (List (List Int × Int)) × (List Int))) (l13_2 : Int × Int × Int × (List Int) × (List (Int × Int × Int)) × (List (Int × Int × Int × Int × Int × Int)) × (List (List Int × Int)) × (List Int) → Option (Int × (List Int) × (List (Int × Int × Int)) × (List (Int × Int × Int × Int × Int × Int)) × (List (List Int × Int)) × (List Int))) (a0 : (List (Int × Int × Int)) × (List (Int × Int × Int × Int × Int × Int))) (a1 : List (List Int)) : Option (Int × Int × (List Int)) :=
(F11 a0).bind fun (r1 : Int) => (
cond (!decide (r1 = (0 : Int))) (
some ((0 : Int), r1, ([] : List Int))) (
(F37 a0).bind fun (r2 : (List (Int × Int × Int)) × (List (Int × Int × Int × Int × Int × Int)) × (List (List Int × Int)) × (List Int)) => (
(F38 (a1, r2.1, r2.2.1, r2.2.2.1, r2.2.2.2)).bind fun (r3 : Bool × (List (Int × Int × Int)) × (List (Int × Int × Int × Int × Int × Int)) × (List (List Int × Int)) × (List Int)) => (
cond (!r3.1) (
some ((0 : Int), (71 : Int), ([] : List Int))) (
chk (decide ((0 : Int) ≤ (↑(List.length a0.2) : Int))) (
chk (decide ((8 : Int) * (↑(List.length a0.2) : Int) ≤ 140737488355328)) (
(l13_0 ((0 : Int), a1, (↑(List.length a1) : Int), (0 : Int), (repl (Int.toNat (↑(List.length a0.2) : Int)) (0 : Int)), r3.2.1, r3.2.2.1, r3.2.2.2.1, r3.2.2.2.2)).bind fun (y5 : Int × (List Int) × (List (Int × Int × Int)) × (List (Int × Int × Int × Int × Int × Int)) × (List (List Int × Int)) × (List Int)) => (
(l13_2 (y5.1, (↑(List.length y5.2.1) : Int), (0 : Int), y5.2.1, y5.2.2.1, y5.2.2.2.1, y5.2.2.2.2.1, y5.2.2.2.2.2)).bind fun (y6 : Int × (List Int) × (List (Int × Int × Int)) × (List (Int × Int × Int × Int × Int × Int)) × (List (List Int × Int)) × (List Int)) => (
some (y6.1, (0 : Int), y6.2.1))))))))))
theorem g13 (F11 : (List (Int × Int × Int)) × (List (Int × Int × Int × Int × Int × Int)) → Option (Int)) (F37 : (List (Int × Int × Int)) × (List (Int × Int × Int × Int × Int × Int)) → Option ((List (Int × Int × Int)) × (List (Int × Int × Int × Int × Int × Int)) × (List (List Int × Int)) × (List Int))) (F38 : (List (List Int)) × (List (Int × Int × Int)) × (List (Int × Int × Int × Int × Int × Int)) × (List (List Int × Int)) × (List Int) → Option (Bool × (List (Int × Int × Int)) × (List (Int × Int × Int × Int × Int × Int)) × (List (List Int × Int)) × (List Int))) (a0 : (List (Int × Int × Int)) × (List (Int × Int × Int × Int × Int × Int))) (a1 : List (List Int)) : dxf (T13 F11 F37 F38) sh13 [(.t 4), (.t 5), (.t 6)] c13 (a0, a1) = q13 F11 F37 F38 (l13_0 (T13 F11 F37 F38)) (l13_2 (T13 F11 F37 F38)) a0 a1 := by kernel_rfl
noncomputable def p13 (a0 : (List (Int × Int × Int)) × (List (Int × Int × Int × Int × Int × Int))) (a1 : List (List Int)) : Option (Int × Int × (List Int)) := q13 P11 P37 P38 L13_0 L13_2 a0 a1
noncomputable def P13 : ((List (Int × Int × Int)) × (List (Int × Int × Int × Int × Int × Int))) × (List (List Int)) → Option (Int × Int × (List Int)) := fun x => p13 x.1 x.2
theorem v13 : dxf (T13 P11 P37 P38) sh13 [(.t 4), (.t 5), (.t 6)] c13 = P13 := funext fun x => (g13 P11 P37 P38 x.1 x.2).trans (show q13 P11 P37 P38 (l13_0 (T13 P11 P37 P38)) (l13_2 (T13 P11 P37 P38)) x.1 x.2 = q13 P11 P37 P38 L13_0 L13_2 x.1 x.2 from by rw [v13_0, v13_2])
theorem d13 : DC Try.prog 13 sh13 P13 := DC_eq v13 (dxf_sound (sh := sh13) t13 ok13 (by kernel_rfl))
/-! bijou/bijoulaw07.sameInts -/
noncomputable def T15 : List FEnt := []
theorem t15 : DTblOK Try.prog T15 := DTbl_nil
def b15_0 : DCode := (.seq (.seq (.reg [.op ⟨some 11, .mov (.t 5), none⟩ none,
  .op ⟨some 12, .mov (.t 0), none⟩ none,
  .op ⟨some 13, .len (.t 12), none⟩ none,
  .op ⟨some 14, .bin true .lss (.t 11) (.t 13), none⟩ none]) (.cond (.t 14) .skip (.exit 0))) (.seq (.blk 1 (.seq (.drw [] [(⟨some 17, .mov (.t 0), none⟩, none),
  (⟨some 18, .mov (.t 5), none⟩, none),
  (⟨some 19, .idx (.t 17) (.t 18) 1, none⟩, none),
  (⟨some 20, .ld1 (.t 19) false, none⟩, none),
  (⟨some 21, .mov (.t 1), none⟩, none),
  (⟨some 22, .mov (.t 5), none⟩, none),
  (⟨some 23, .idx (.t 21) (.t 22) 1, none⟩, none),
  (⟨some 24, .ld1 (.t 23) false, none⟩, none),
  (⟨some 25, .bin true .neq (.t 20) (.t 24), none⟩, none)]) (.cond (.t 25) (.seq (.reg [.op ⟨some 4, .mov (.c (.bool false)), none⟩ none]) .ret) .skip))) (.reg [.op ⟨some 15, .mov (.t 5), none⟩ none,
  .op ⟨some 16, .bin true .add (.t 15) (.c (.int .i64 1)), none⟩ none,
  .op ⟨some 5, .mov (.t 16), none⟩ none])))
def h15_0 : LSh := ⟨[0, 1, 5], ⟨[(.v (.sl (.int .i64))), (.v (.sl (.int .i64))), (.v (.int .i64))], []⟩, [(.sl (.int .i64)), (.sl (.int .i64)), (.int .i64)], 0, []⟩
def x15_0 : List XSh := [⟨.ret, [4], ⟨⟨[(.v .bool)], []⟩, [.bool], [], 0⟩⟩, ⟨(.exit 0), [], ⟨⟨[], []⟩, [], [], 0⟩⟩]
noncomputable def s15_0 (T : List FEnt) : (List Int) × (List Int) × Int → Option (((List Int) × (List Int) × Int) ⊕ ((Bool) ⊕ (Unit))) := dstep (xs := x15_0) h15_0 (dxc T b15_0)
noncomputable def l15_0 (T : List FEnt) : (List Int) × (List Int) × Int → Option ((Bool) ⊕ (Unit)) := whileF (s15_0 T)
noncomputable def q15_0 (a0 : List Int) (a1 : List Int) (a2 : Int) : Option (((List Int) × (List Int) × Int) ⊕ ((Bool) ⊕ (Unit))) :=
cond (decide (a2 < (↑(List.length a0) : Int))) (
chk (inR a2 (List.length a0)) (
chk (inR a2 (List.length a1)) (
cond (!decide ((ix a0 a2) = (ix a1 a2))) (
some (Sum.inr (Sum.inl false))) (
chk (fits .i64 (a2 + (1 : Int))) (
some (Sum.inl (a0, a1, (a2 + (1 : Int))))))))) (
some (Sum.inr (Sum.inr ())))
theorem g15_0 (a0 : List Int) (a1 : List Int) (a2 : Int) : s15_0 T15 (a0, a1, a2) = q15_0 a0 a1 a2 := by kernel_rfl
noncomputable def p15_0 (a0 : List Int) (a1 : List Int) (a2 : Int) : Option (((List Int) × (List Int) × Int) ⊕ ((Bool) ⊕ (Unit))) := q15_0 a0 a1 a2
noncomputable def L15_0 : (List Int) × (List Int) × Int → Option ((Bool) ⊕ (Unit)) := whileF (fun x => p15_0 x.1 x.2.1 x.2.2)
theorem v15_0 : l15_0 T15 = L15_0 := congrArg whileF (funext fun x => (g15_0 x.1 x.2.1 x.2.2).trans (show q15_0 x.1 x.2.1 x.2.2 = q15_0 x.1 x.2.1 x.2.2 from rfl))
def c15 : DCode := (.seq (.reg [.op ⟨some 4, .mov (.c (.bool false)), none⟩ none]) (.seq (.seq (.reg [.op ⟨some 6, .mov (.t 0), none⟩ none,
  .op ⟨some 7, .len (.t 6), none⟩ none,
  .op ⟨some 8, .mov (.t 1), none⟩ none,
  .op ⟨some 9, .len (.t 8), none⟩ none,
  .op ⟨some 10, .bin true .neq (.t 7) (.t 9), none⟩ none]) (.cond (.t 10) (.seq (.reg [.op ⟨some 4, .mov (.c (.bool false)), none⟩ none]) .ret) .skip)) (.seq (.seq (.reg [.op ⟨some 5, .mov (.c (.int .i64 0)), none⟩ none]) (.blk 0 (.loop h15_0 x15_0 b15_0))) (.seq (.reg [.op ⟨some 4, .mov (.c (.bool true)), none⟩ none]) .ret))))
theorem ok15 : L.Fn Try.prog 15 26 [(.t 4)] (erase c15) := L.Fn.of hmix Try.func15 [] (by kernel_rfl)
def sh15 : FSh := ⟨⟨[(.v (.sl (.int .i64))), (.v (.sl (.int .i64)))], []⟩, [(.sl (.int .i64)), (.sl (.int .i64))], 0, ⟨⟨[(.v .bool)], []⟩, [.bool], [], 0⟩, true⟩
noncomputable def q15 (l15_0 : (List Int) × (List Int) × Int → Option ((Bool) ⊕ (Unit))) (a0 : List Int) (a1 : List Int) : Option (Bool) :=
cond (!decide ((↑(List.length a0) : Int) = (↑(List.length a1) : Int))) (
some false) (
(l15_0 (a0, a1, (0 : Int))).bind (fun (y1 : (Bool) ⊕ (Unit)) => Sum.elim (fun (y2 : Bool) => (
some y2)) (fun (y3 : Unit) => (
some true)) y1))
theorem g15 (a0 : List Int) (a1 : List Int) : dxf T15 sh15 [(.t 4)] c15 (a0, a1) = q15 (l15_0 T15) a0 a1 := by kernel_rfl
noncomputable def p15 (a0 : List Int) (a1 : List Int) : Option (Bool) := q15 L15_0 a0 a1
noncomputable def P15 : (List Int) × (List Int) → Option (Bool) := fun x => p15 x.1 x.2
theorem v15 : dxf T15 sh15 [(.t 4)] c15 = P15 := funext fun x => (g15 x.1 x.2).trans (show q15 (l15_0 T15) x.1 x.2 = q15 L15_0 x.1 x.2 from by rw [v15_0])
theorem d15 : DC Try.prog 15 sh15 P15 := DC_eq v15 (dxf_sound (sh := sh15) t15 ok15 (by kernel_rfl))
end Go.Proofs.Ytjoncejabdjekaa.D
