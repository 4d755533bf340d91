/- Functions of the program as typed functions: printed by a program of this claim, checked by Lean. -/
import Derived.Test.YtjoncejabdjekaaD11
import Derived.Test.YtjoncejabdjekaaProg
set_option linter.unusedVariables false
set_option maxRecDepth 100000
namespace Go.Proofs.Ytjoncejabdjekaa.D
open Go Go.Proofs Go.Proofs.Ytjoncejabdjekaa.L
theorem hmix : Try.prog.follows .mixedOrders = true := by kernel_rfl
/-! bijou/bijoulaw07.Example -/
noncomputable def T31 : List FEnt := []
theorem t31 : DTblOK Try.prog T31 := DTbl_nil
def c31 : DCode := (.seq (.reg [.op ⟨some 0, .alc [.emp, .emp], none⟩ none,
  .op ⟨some 1, .mov (.c .emp), none⟩ none]) (.seq (.reg [.op ⟨some 3, .bld [(.int .i64 0), (.int .i64 0), (.int .i64 0)] [(0, (1, (.c (.int .i64 1)))), (1, (1, (.c (.int .i64 2)))), (2, (1, (.c (.int .i64 1))))], none⟩ none,
  .op ⟨some 4, .bld [(.int .i64 0), (.int .i64 0), (.int .i64 0)] [(0, (1, (.c (.int .i64 1)))), (1, (1, (.c (.int .i64 5)))), (2, (1, (.c (.int .i64 2))))], none⟩ none,
  .op ⟨some 5, .bld [(.int .i64 0), (.int .i64 0), (.int .i64 0)] [(0, (1, (.c (.int .i64 3)))), (1, (1, (.c (.int .i64 2)))), (2, (1, (.c (.int .i64 1))))], none⟩ none,
  .op ⟨some 6, .bsr 43 3 [(.t 3), (.t 4), (.t 5)], none⟩ (some (true, (.pair (.int .i64) (.pair (.int .i64) (.int .i64))))),
  .op ⟨some 7, .bld [(.int .i64 0), (.int .i64 0)] [(0, (1, (.c (.int .i64 2)))), (1, (1, (.c (.int .i64 2))))], none⟩ none,
  .op ⟨some 8, .bld [(.int .i64 0), (.int .i64 0), (.int .i64 0), (.int .i64 0), (.int .i64 0), (.int .i64 0)] [(0, (1, (.c (.int .i64 40)))), (1, (1, (.c (.int .i64 2)))), (2, (2, (.t 7))), (5, (1, (.c (.int .i64 9))))], none⟩ none,
  .op ⟨some 9, .bld [(.int .i64 0), (.int .i64 0)] [(1, (1, (.c (.int .i64 9))))], none⟩ none,
  .op ⟨some 10, .bld [(.int .i64 0), (.int .i64 0), (.int .i64 0), (.int .i64 0), (.int .i64 0), (.int .i64 0)] [(0, (1, (.c (.int .i64 41)))), (1, (1, (.c (.int .i64 2)))), (2, (2, (.t 9))), (5, (1, (.c (.int .i64 2))))], none⟩ none,
  .op ⟨some 11, .bld [(.int .i64 0), (.int .i64 0)] [(0, (1, (.c (.int .i64 5)))), (1, (1, (.c (.int .i64 9))))], none⟩ none,
  .op ⟨some 12, .bld [(.int .i64 0), (.int .i64 0), (.int .i64 0), (.int .i64 0), (.int .i64 0), (.int .i64 0)] [(0, (1, (.c (.int .i64 42)))), (1, (1, (.c (.int .i64 1)))), (2, (2, (.t 11))), (5, (1, (.c (.int .i64 9))))], none⟩ none,
  .op ⟨some 13, .bsr 50 6 [(.t 8), (.t 10), (.t 12)], none⟩ (some (true, (.pair (.int .i64) (.pair (.int .i64) (.pair (.int .i64) (.pair (.int .i64) (.pair (.int .i64) (.int .i64)))))))),
  .op ⟨some 14, .bld [.emp, .emp] [(0, (1, (.t 6))), (1, (1, (.t 13)))], none⟩ none,
  .op ⟨some 2, .alc [.emp, .emp], none⟩ none,
  .op ⟨none, .sto (.t 2) (.t 14) 2, none⟩ none]) (.seq (.reg [.op ⟨some 15, .ldn (.t 2) 2 false, none⟩ none,
  .op ⟨some 16, .bld [(.int .i64 0), (.int .i64 0), (.int .i64 0)] [(0, (1, (.c (.int .i64 1)))), (2, (1, (.c (.int .i64 40))))], none⟩ none,
  .op ⟨some 17, .bld [(.int .i64 0), (.int .i64 0), (.int .i64 0)] [(0, (1, (.c (.int .i64 2)))), (2, (1, (.c (.int .i64 40))))], none⟩ none,
  .op ⟨some 18, .bld [(.int .i64 0), (.int .i64 0), (.int .i64 0)] [(0, (1, (.c (.int .i64 3)))), (1, (1, (.c (.int .i64 1)))), (2, (1, (.c (.int .i64 40))))], none⟩ none,
  .op ⟨some 19, .bld [(.int .i64 0), (.int .i64 0), (.int .i64 0)] [(0, (1, (.c (.int .i64 4)))), (1, (1, (.c (.int .i64 2)))), (2, (1, (.c (.int .i64 41))))], none⟩ none,
  .op ⟨some 20, .bsr 53 3 [(.t 16), (.t 17), (.t 18), (.t 19)], none⟩ (some (true, (.pair (.int .i64) (.pair (.int .i64) (.int .i64))))),
  .op ⟨none, .sto (.t 0) (.t 15) 2, none⟩ none,
  .op ⟨some 1, .mov (.t 20), none⟩ none]) .ret)))
theorem ok31 : L.Fn Try.prog 31 21 [(.cell 0 true 2), (.t 1)] (erase c31) := L.Fn.of hmix Try.func31 [] (by kernel_rfl)
def sh31 : FSh := ⟨⟨[], []⟩, [], 0, ⟨⟨[(.tup [(.agg [(.slc 0), (.slc 1)]), (.slc 2)])], [(0, (.row 43 (.pair (.int .i64) (.pair (.int .i64) (.int .i64))))), (1, (.row 50 (.pair (.int .i64) (.pair (.int .i64) (.pair (.int .i64) (.pair (.int .i64) (.pair (.int .i64) (.int .i64)))))))), (2, (.row 53 (.pair (.int .i64) (.pair (.int .i64) (.int .i64)))))]⟩, [(.sl (.pair (.int .i64) (.pair (.int .i64) (.int .i64)))), (.sl (.pair (.int .i64) (.pair (.int .i64) (.pair (.int .i64) (.pair (.int .i64) (.pair (.int .i64) (.int .i64))))))), (.sl (.pair (.int .i64) (.pair (.int .i64) (.int .i64))))], [], 3⟩, true⟩
noncomputable def q31 : Option ((List (Int × Int × Int)) × (List (Int × Int × Int × Int × Int × Int)) × (List (Int × Int × Int))) :=
some (([((1 : Int), ((2 : Int), (1 : Int))), ((1 : Int), ((5 : Int), (2 : Int))), ((3 : Int), ((2 : Int), (1 : Int)))] : List (Int × Int × Int)), ([((40 : Int), ((2 : Int), ((2 : Int), ((2 : Int), ((0 : Int), (9 : Int)))))), ((41 : Int), ((2 : Int), ((0 : Int), ((9 : Int), ((0 : Int), (2 : Int)))))), ((42 : Int), ((1 : Int), ((5 : Int), ((9 : Int), ((0 : Int), (9 : Int))))))] : List (Int × Int × Int × Int × Int × Int)), ([((1 : Int), ((0 : Int), (40 : Int))), ((2 : Int), ((0 : Int), (40 : Int))), ((3 : Int), ((1 : Int), (40 : Int))), ((4 : Int), ((2 : Int), (41 : Int)))] : List (Int × Int × Int)))
theorem g31 : dxf T31 sh31 [(.cell 0 true 2), (.t 1)] c31 () = q31 := by kernel_rfl
noncomputable def p31 : Option ((List (Int × Int × Int)) × (List (Int × Int × Int × Int × Int × Int)) × (List (Int × Int × Int))) := q31
noncomputable def P31 : Unit → Option ((List (Int × Int × Int)) × (List (Int × Int × Int × Int × Int × Int)) × (List (Int × Int × Int))) := fun x => p31
theorem v31 : dxf T31 sh31 [(.cell 0 true 2), (.t 1)] c31 = P31 := funext fun x => (g31).trans (show q31 = q31 from rfl)
theorem d31 : DC Try.prog 31 sh31 P31 := DC_eq v31 (dxf_sound (sh := sh31) t31 ok31 (by kernel_rfl))
/-! bijou/promise.within -/
noncomputable def T32 : List FEnt := []
theorem t32 : DTblOK Try.prog T32 := DTbl_nil
def c32 : DCode := (.seq (.reg [.op ⟨some 6, .mov (.c (.bool false)), none⟩ none]) (.seq (.reg [.op ⟨some 7, .mov (.t 1), none⟩ none,
  .op ⟨some 8, .mov (.t 0), none⟩ none,
  .op ⟨some 9, .bin true .leq (.t 7) (.t 8), none⟩ none,
  .op ⟨some 10, .mov (.t 9), none⟩ none,
  .op ⟨some 11, .mov (.t 0), some (10, true)⟩ none,
  .op ⟨some 12, .mov (.t 2), some (10, true)⟩ none,
  .op ⟨some 13, .bin true .leq (.t 11) (.t 12), some (10, true)⟩ none,
  .op ⟨some 14, .pick (.t 10) (.t 13) (.c (.bool false)), none⟩ none,
  .op ⟨some 6, .mov (.t 14), none⟩ none]) .ret))
theorem ok32 : L.Fn Try.prog 32 15 [(.t 6)] (erase c32) := L.Fn.of hmix Try.func32 [] (by kernel_rfl)
def sh32 : FSh := ⟨⟨[(.v (.int .i64)), (.v (.int .i64)), (.v (.int .i64))], []⟩, [(.int .i64), (.int .i64), (.int .i64)], 0, ⟨⟨[(.v .bool)], []⟩, [.bool], [], 0⟩, true⟩
noncomputable def q32 (a0 : Int) (a1 : Int) (a2 : Int) : Option (Bool) :=
cond (decide (a1 ≤ a0)) (
some (decide (a0 ≤ a2))) (
some false)
theorem g32 (a0 : Int) (a1 : Int) (a2 : Int) : dxf T32 sh32 [(.t 6)] c32 (a0, a1, a2) = q32 a0 a1 a2 := by kernel_rfl
noncomputable def p32 (a0 : Int) (a1 : Int) (a2 : Int) : Option (Bool) := q32 a0 a1 a2
noncomputable def P32 : Int × Int × Int → Option (Bool) := fun x => p32 x.1 x.2.1 x.2.2
theorem v32 : dxf T32 sh32 [(.t 6)] c32 = P32 := funext fun x => (g32 x.1 x.2.1 x.2.2).trans (show q32 x.1 x.2.1 x.2.2 = q32 x.1 x.2.1 x.2.2 from rfl)
theorem d32 : DC Try.prog 32 sh32 P32 := DC_eq v32 (dxf_sound (sh := sh32) t32 ok32 (by kernel_rfl))
/-! bijou/promise.Check$1 -/
noncomputable def T34 : List FEnt := []
theorem t34 : DTblOK Try.prog T34 := DTbl_nil
def c34 : DCode := (.seq (.reg [.op ⟨some 2, .box (.t 0), none⟩ none,
  .op ⟨some 3, .mov (.c (.bool false)), none⟩ none]) (.seq (.reg [.op ⟨some 4, .fld (.t 2) 0, none⟩ none,
  .op ⟨some 5, .ld1 (.t 4) false, none⟩ none,
  .op ⟨some 6, .fld (.t 1) 0, none⟩ none,
  .op ⟨some 7, .ld1 (.t 6) false, none⟩ none,
  .op ⟨some 8, .bin true .eql (.t 5) (.t 7), none⟩ none,
  .op ⟨some 3, .mov (.t 8), none⟩ none]) .ret))
theorem ok34 : L.Fn Try.prog 34 9 [(.t 3)] (erase c34) := L.Fn.of hmix Try.func34 [] (by kernel_rfl)
def sh34 : FSh := ⟨⟨[(.st (.pair (.int .i64) (.pair (.int .i64) (.pair (.int .i64) (.pair (.int .i64) (.pair (.int .i64) (.int .i64))))))), (.elm (.pair (.int .i64) (.pair (.int .i64) (.pair (.int .i64) (.pair (.int .i64) (.pair (.int .i64) (.int .i64)))))))], []⟩, [(.pair (.int .i64) (.pair (.int .i64) (.pair (.int .i64) (.pair (.int .i64) (.pair (.int .i64) (.int .i64)))))), (.pair (.int .i64) (.pair (.int .i64) (.pair (.int .i64) (.pair (.int .i64) (.pair (.int .i64) (.int .i64))))))], 0, ⟨⟨[(.v .bool)], []⟩, [.bool], [], 0⟩, true⟩
noncomputable def q34 (a0 : Int × Int × Int × Int × Int × Int) (a1 : Int × Int × Int × Int × Int × Int) : Option (Bool) :=
some (decide (a0.1 = a1.1))
theorem g34 (a0 : Int × Int × Int × Int × Int × Int) (a1 : Int × Int × Int × Int × Int × Int) : dxf T34 sh34 [(.t 3)] c34 (a0, a1) = q34 a0 a1 := by kernel_rfl
noncomputable def p34 (a0 : Int × Int × Int × Int × Int × Int) (a1 : Int × Int × Int × Int × Int × Int) : Option (Bool) := q34 a0 a1
noncomputable def P34 : (Int × Int × Int × Int × Int × Int) × Int × Int × Int × Int × Int × Int → Option (Bool) := fun x => p34 x.1 x.2
theorem v34 : dxf T34 sh34 [(.t 3)] c34 = P34 := funext fun x => (g34 x.1 x.2).trans (show q34 x.1 x.2 = q34 x.1 x.2 from rfl)
theorem d34 : DC Try.prog 34 sh34 P34 := DC_eq v34 (dxf_sound (sh := sh34) t34 ok34 (by kernel_rfl))
/-! slices.IndexFunc[[]bijou/api.Promise,bijou/api.Promise] -/
noncomputable def T56 (F34 : (Int × Int × Int × Int × Int × Int) × Int × Int × Int × Int × Int × Int → Option (Bool)) : List FEnt := [⟨34, sh34, F34⟩]
theorem t56 : DTblOK Try.prog (T56 P34) := (DTbl_cons' (f := 34) (sh := sh34) (F := P34) d34 (by kernel_rfl) DTbl_nil)
def b56_0 : DCode := (.seq (.reg [.op ⟨some 9, .bin true .lss (.t 8) (.t 7), none⟩ none]) (.seq (.cond (.t 9) .skip (.exit 0)) (.seq (.blk 1 (.seq (.reg [.op ⟨some 10, .mov (.t 8), none⟩ none,
  .op ⟨some 5, .mov (.t 10), none⟩ none]) (.seq (.reg [.op ⟨some 11, .mov (.t 1), none⟩ none,
  .op ⟨some 12, .mov (.t 0), none⟩ none,
  .op ⟨some 13, .mov (.t 5), none⟩ none,
  .op ⟨some 14, .idx (.t 12) (.t 13) 6, none⟩ none,
  .op ⟨some 15, .ldn (.t 14) 6 false, none⟩ none,
  .op ⟨some 16, .xcallv (.t 11) [(.t 15)], none⟩ none]) (.cond (.t 16) (.seq (.reg [.op ⟨some 17, .mov (.t 5), none⟩ none,
  .op ⟨some 4, .mov (.t 17), none⟩ none]) .ret) .skip)))) (.reg [.op ⟨some 18, .bin true .add (.t 8) (.c (.int .i64 1)), none⟩ none,
  .op ⟨some 8, .mov (.t 18), none⟩ none]))))
def h56_0 : LSh := ⟨[0, 1, 7, 8], ⟨[(.v (.sl (.pair (.int .i64) (.pair (.int .i64) (.pair (.int .i64) (.pair (.int .i64) (.pair (.int .i64) (.int .i64)))))))), (.fn 34 [(.elm (.pair (.int .i64) (.pair (.int .i64) (.pair (.int .i64) (.pair (.int .i64) (.pair (.int .i64) (.int .i64)))))))]), (.v (.int .i64)), (.v (.int .i64))], []⟩, [(.sl (.pair (.int .i64) (.pair (.int .i64) (.pair (.int .i64) (.pair (.int .i64) (.pair (.int .i64) (.int .i64))))))), (.pair (.int .i64) (.pair (.int .i64) (.pair (.int .i64) (.pair (.int .i64) (.pair (.int .i64) (.int .i64)))))), (.int .i64), (.int .i64)], 0, []⟩
def x56_0 : List XSh := [⟨.ret, [4], ⟨⟨[(.v (.int .i64))], []⟩, [(.int .i64)], [], 0⟩⟩, ⟨(.exit 0), [], ⟨⟨[], []⟩, [], [], 0⟩⟩]
noncomputable def s56_0 (T : List FEnt) : (List (Int × Int × Int × Int × Int × Int)) × (Int × Int × Int × Int × Int × Int) × Int × Int → Option (((List (Int × Int × Int × Int × Int × Int)) × (Int × Int × Int × Int × Int × Int) × Int × Int) ⊕ ((Int) ⊕ (Unit))) := dstep (xs := x56_0) h56_0 (dxc T b56_0)
noncomputable def l56_0 (T : List FEnt) : (List (Int × Int × Int × Int × Int × Int)) × (Int × Int × Int × Int × Int × Int) × Int × Int → Option ((Int) ⊕ (Unit)) := whileF (s56_0 T)
noncomputable def q56_0 (F34 : (Int × Int × Int × Int × Int × Int) × Int × Int × Int × Int × Int × Int → Option (Bool)) (a0 : List (Int × Int × Int × Int × Int × Int)) (a1 : Int × Int × Int × Int × Int × Int) (a2 : Int) (a3 : Int) : Option (((List (Int × Int × Int × Int × Int × Int)) × (Int × Int × Int × Int × Int × Int) × Int × Int) ⊕ ((Int) ⊕ (Unit))) :=
cond (decide (a3 < a2)) (
chk (inR a3 (List.length a0)) (
(F34 ((ix a0 a3), a1)).bind fun (r1 : Bool) => (
cond r1 (
some (Sum.inr (Sum.inl a3))) (
chk (fits .i64 (a3 + (1 : Int))) (
some (Sum.inl (a0, a1, a2, (a3 + (1 : Int))))))))) (
some (Sum.inr (Sum.inr ())))
theorem g56_0 (F34 : (Int × Int × Int × Int × Int × Int) × Int × Int × Int × Int × Int × Int → Option (Bool)) (a0 : List (Int × Int × Int × Int × Int × Int)) (a1 : Int × Int × Int × Int × Int × Int) (a2 : Int) (a3 : Int) : s56_0 (T56 F34) (a0, a1, a2, a3) = q56_0 F34 a0 a1 a2 a3 := by kernel_rfl
noncomputable def p56_0 (a0 : List (Int × Int × Int × Int × Int × Int)) (a1 : Int × Int × Int × Int × Int × Int) (a2 : Int) (a3 : Int) : Option (((List (Int × Int × Int × Int × Int × Int)) × (Int × Int × Int × Int × Int × Int) × Int × Int) ⊕ ((Int) ⊕ (Unit))) := q56_0 P34 a0 a1 a2 a3
noncomputable def L56_0 : (List (Int × Int × Int × Int × Int × Int)) × (Int × Int × Int × Int × Int × Int) × Int × Int → Option ((Int) ⊕ (Unit)) := whileF (fun x => p56_0 x.1 x.2.1 x.2.2.1 x.2.2.2)
theorem v56_0 : l56_0 (T56 P34) = L56_0 := congrArg whileF (funext fun x => (g56_0 P34 x.1 x.2.1 x.2.2.1 x.2.2.2).trans (show q56_0 P34 x.1 x.2.1 x.2.2.1 x.2.2.2 = q56_0 P34 x.1 x.2.1 x.2.2.1 x.2.2.2 from rfl))
def c56 : DCode := (.seq (.reg [.op ⟨some 4, .mov (.c (.int .i64 0)), none⟩ none]) (.seq (.seq (.reg [.op ⟨some 6, .mov (.t 0), none⟩ none,
  .op ⟨some 7, .len (.t 6), none⟩ none,
  .op ⟨some 8, .mov (.c (.int .i64 0)), none⟩ none]) (.blk 0 (.loop h56_0 x56_0 b56_0))) (.seq (.reg [.op ⟨some 4, .mov (.c (.int .i64 (-1))), none⟩ none]) .ret)))
theorem ok56 : L.Fn Try.prog 56 19 [(.t 4)] (erase c56) := L.Fn.of hmix Try.func56 [] (by kernel_rfl)
def sh56 : FSh := ⟨⟨[(.v (.sl (.pair (.int .i64) (.pair (.int .i64) (.pair (.int .i64) (.pair (.int .i64) (.pair (.int .i64) (.int .i64)))))))), (.fn 34 [(.elm (.pair (.int .i64) (.pair (.int .i64) (.pair (.int .i64) (.pair (.int .i64) (.pair (.int .i64) (.int .i64)))))))])], []⟩, [(.sl (.pair (.int .i64) (.pair (.int .i64) (.pair (.int .i64) (.pair (.int .i64) (.pair (.int .i64) (.int .i64))))))), (.pair (.int .i64) (.pair (.int .i64) (.pair (.int .i64) (.pair (.int .i64) (.pair (.int .i64) (.int .i64))))))], 0, ⟨⟨[(.v (.int .i64))], []⟩, [(.int .i64)], [], 0⟩, true⟩
noncomputable def q56 (F34 : (Int × Int × Int × Int × Int × Int) × Int × Int × Int × Int × Int × Int → Option (Bool)) (l56_0 : (List (Int × Int × Int × Int × Int × Int)) × (Int × Int × Int × Int × Int × Int) × Int × Int → Option ((Int) ⊕ (Unit))) (a0 : List (Int × Int × Int × Int × Int × Int)) (a1 : Int × Int × Int × Int × Int × Int) : Option (Int) :=
(l56_0 (a0, a1, (↑(List.length a0) : Int), (0 : Int))).bind (fun (y2 : (Int) ⊕ (Unit)) => Sum.elim (fun (y3 : Int) => (
some y3)) (fun (y4 : Unit) => (
some (-1 : Int))) y2)
theorem g56 (F34 : (Int × Int × Int × Int × Int × Int) × Int × Int × Int × Int × Int × Int → Option (Bool)) (a0 : List (Int × Int × Int × Int × Int × Int)) (a1 : Int × Int × Int × Int × Int × Int) : dxf (T56 F34) sh56 [(.t 4)] c56 (a0, a1) = q56 F34 (l56_0 (T56 F34)) a0 a1 := by kernel_rfl
noncomputable def p56 (a0 : List (Int × Int × Int × Int × Int × Int)) (a1 : Int × Int × Int × Int × Int × Int) : Option (Int) := q56 P34 L56_0 a0 a1
noncomputable def P56 : (List (Int × Int × Int × Int × Int × Int)) × Int × Int × Int × Int × Int × Int → Option (Int) := fun x => p56 x.1 x.2
theorem v56 : dxf (T56 P34) sh56 [(.t 4)] c56 = P56 := funext fun x => (g56 P34 x.1 x.2).trans (show q56 P34 (l56_0 (T56 P34)) x.1 x.2 = q56 P34 L56_0 x.1 x.2 from by rw [v56_0])
theorem d56 : DC Try.prog 56 sh56 P56 := DC_eq v56 (dxf_sound (sh := sh56) t56 ok56 (by kernel_rfl))
/-! slices.ContainsFunc[[]bijou/api.Promise,bijou/api.Promise] -/
noncomputable def T33 (F56 : (List (Int × Int × Int × Int × Int × Int)) × Int × Int × Int × Int × Int × Int → Option (Int)) : List FEnt := [⟨56, sh56, F56⟩]
theorem t33 : DTblOK Try.prog (T33 P56) := (DTbl_cons' (f := 56) (sh := sh56) (F := P56) d56 (by kernel_rfl) DTbl_nil)
def c33 : DCode := (.seq (.reg [.op ⟨some 4, .mov (.c (.bool false)), none⟩ none]) (.seq (.reg [.op ⟨some 5, .mov (.t 0), none⟩ none,
  .op ⟨some 6, .mov (.t 1), none⟩ none,
  .op ⟨some 7, .xcall 56 [(.t 5), (.t 6)], none⟩ none,
  .op ⟨some 8, .bin true .geq (.t 7) (.c (.int .i64 0)), none⟩ none,
  .op ⟨some 4, .mov (.t 8), none⟩ none]) .ret))
theorem ok33 : L.Fn Try.prog 33 9 [(.t 4)] (erase c33) := L.Fn.of hmix Try.func33 [] (by kernel_rfl)
def sh33 : FSh := ⟨⟨[(.v (.sl (.pair (.int .i64) (.pair (.int .i64) (.pair (.int .i64) (.pair (.int .i64) (.pair (.int .i64) (.int .i64)))))))), (.fn 34 [(.elm (.pair (.int .i64) (.pair (.int .i64) (.pair (.int .i64) (.pair (.int .i64) (.pair (.int .i64) (.int .i64)))))))])], []⟩, [(.sl (.pair (.int .i64) (.pair (.int .i64) (.pair (.int .i64) (.pair (.int .i64) (.pair (.int .i64) (.int .i64))))))), (.pair (.int .i64) (.pair (.int .i64) (.pair (.int .i64) (.pair (.int .i64) (.pair (.int .i64) (.int .i64))))))], 0, ⟨⟨[(.v .bool)], []⟩, [.bool], [], 0⟩, true⟩
noncomputable def q33 (F56 : (List (Int × Int × Int × Int × Int × Int)) × Int × Int × Int × Int × Int × Int → Option (Int)) (a0 : List (Int × Int × Int × Int × Int × Int)) (a1 : Int × Int × Int × Int × Int × Int) : Option (Bool) :=
(F56 (a0, a1)).bind fun (r1 : Int) => (
some (decide ((0 : Int) ≤ r1)))
theorem g33 (F56 : (List (Int × Int × Int × Int × Int × Int)) × Int × Int × Int × Int × Int × Int → Option (Int)) (a0 : List (Int × Int × Int × Int × Int × Int)) (a1 : Int × Int × Int × Int × Int × Int) : dxf (T33 F56) sh33 [(.t 4)] c33 (a0, a1) = q33 F56 a0 a1 := by kernel_rfl
noncomputable def p33 (a0 : List (Int × Int × Int × Int × Int × Int)) (a1 : Int × Int × Int × Int × Int × Int) : Option (Bool) := q33 P56 a0 a1
noncomputable def P33 : (List (Int × Int × Int × Int × Int × Int)) × Int × Int × Int × Int × Int × Int → Option (Bool) := fun x => p33 x.1 x.2
theorem v33 : dxf (T33 P56) sh33 [(.t 4)] c33 = P33 := funext fun x => (g33 P56 x.1 x.2).trans (show q33 P56 x.1 x.2 = q33 P56 x.1 x.2 from rfl)
theorem d33 : DC Try.prog 33 sh33 P33 := DC_eq v33 (dxf_sound (sh := sh33) t33 ok33 (by kernel_rfl))
/-! bijou/promise.isSpan -/
noncomputable def T35 (F32 : Int × Int × Int → Option (Bool)) : List FEnt := [⟨32, sh32, F32⟩]
theorem t35 : DTblOK Try.prog (T35 P32) := (DTbl_cons' (f := 32) (sh := sh32) (F := P32) d32 (by kernel_rfl) DTbl_nil)
def c35 : DCode := (.seq (.reg [.op ⟨some 3, .box (.t 0), none⟩ none,
  .op ⟨some 6, .mov (.c (.bool false)), none⟩ none]) (.seq (.reg [.op ⟨some 7, .fld (.t 3) 0, none⟩ none,
  .op ⟨some 8, .ld1 (.t 7) false, none⟩ none,
  .op ⟨some 9, .fld (.t 3) 1, none⟩ none,
  .op ⟨some 10, .ld1 (.t 9) false, none⟩ none,
  .op ⟨some 11, .bin true .leq (.t 8) (.t 10), none⟩ none,
  .op ⟨some 12, .mov (.t 11), none⟩ none,
  .op ⟨some 13, .fld (.t 3) 0, some (12, true)⟩ none,
  .op ⟨some 14, .ld1 (.t 13) false, some (12, true)⟩ none,
  .op ⟨some 15, .mov (.t 1), some (12, true)⟩ none,
  .op ⟨some 16, .mov (.t 2), some (12, true)⟩ none,
  .op ⟨some 17, .xcall 32 [(.t 14), (.t 15), (.t 16)], some (12, true)⟩ none,
  .op ⟨some 18, .pick (.t 12) (.t 17) (.c (.bool false)), none⟩ none,
  .op ⟨some 19, .mov (.t 18), none⟩ none,
  .op ⟨some 20, .fld (.t 3) 1, some (19, true)⟩ none,
  .op ⟨some 21, .ld1 (.t 20) false, some (19, true)⟩ none,
  .op ⟨some 22, .mov (.t 1), some (19, true)⟩ none,
  .op ⟨some 23, .mov (.t 2), some (19, true)⟩ none,
  .op ⟨some 24, .xcall 32 [(.t 21), (.t 22), (.t 23)], some (19, true)⟩ none,
  .op ⟨some 25, .pick (.t 19) (.t 24) (.c (.bool false)), none⟩ none,
  .op ⟨some 6, .mov (.t 25), none⟩ none]) .ret))
theorem ok35 : L.Fn Try.prog 35 26 [(.t 6)] (erase c35) := L.Fn.of hmix Try.func35 [] (by kernel_rfl)
def sh35 : FSh := ⟨⟨[(.st (.pair (.int .i64) (.int .i64))), (.v (.int .i64)), (.v (.int .i64))], []⟩, [(.pair (.int .i64) (.int .i64)), (.int .i64), (.int .i64)], 0, ⟨⟨[(.v .bool)], []⟩, [.bool], [], 0⟩, true⟩
noncomputable def q35 (F32 : Int × Int × Int → Option (Bool)) (a0 : Int × Int) (a1 : Int) (a2 : Int) : Option (Bool) :=
cond (decide (a0.1 ≤ a0.2)) (
(F32 (a0.1, a1, a2)).bind fun (r1 : Bool) => (
cond r1 (
(F32 (a0.2, a1, a2)).bind fun (r2 : Bool) => (
some r2)) (
some false))) (
some false)
theorem g35 (F32 : Int × Int × Int → Option (Bool)) (a0 : Int × Int) (a1 : Int) (a2 : Int) : dxf (T35 F32) sh35 [(.t 6)] c35 (a0, a1, a2) = q35 F32 a0 a1 a2 := by kernel_rfl
noncomputable def p35 (a0 : Int × Int) (a1 : Int) (a2 : Int) : Option (Bool) := q35 P32 a0 a1 a2
noncomputable def P35 : (Int × Int) × Int × Int → Option (Bool) := fun x => p35 x.1 x.2.1 x.2.2
theorem v35 : dxf (T35 P32) sh35 [(.t 6)] c35 = P35 := funext fun x => (g35 P32 x.1 x.2.1 x.2.2).trans (show q35 P32 x.1 x.2.1 x.2.2 = q35 P32 x.1 x.2.1 x.2.2 from rfl)
theorem d35 : DC Try.prog 35 sh35 P35 := DC_eq v35 (dxf_sound (sh := sh35) t35 ok35 (by kernel_rfl))
/-! bijou/promise.Check -/
noncomputable def T11 (F32 : Int × Int × Int → Option (Bool)) (F33 : (List (Int × Int × Int × Int × Int × Int)) × Int × Int × Int × Int × Int × Int → Option (Bool)) (F35 : (Int × Int) × Int × Int → Option (Bool)) : List FEnt := [⟨32, sh32, F32⟩, ⟨33, sh33, F33⟩, ⟨35, sh35, F35⟩]
theorem t11 : DTblOK Try.prog (T11 P32 P33 P35) := (DTbl_cons' (f := 32) (sh := sh32) (F := P32) d32 (by kernel_rfl) (DTbl_cons' (f := 33) (sh := sh33) (F := P33) d33 (by kernel_rfl) (DTbl_cons' (f := 35) (sh := sh35) (F := P35) d35 (by kernel_rfl) DTbl_nil)))
def b11_0 : DCode := (.seq (.reg [.op ⟨some 22, .bin true .lss (.t 21) (.t 20), none⟩ none]) (.seq (.cond (.t 22) .skip (.exit 0)) (.seq (.blk 1 (.seq (.reg [.op ⟨some 23, .idx (.t 19) (.t 21) 3, none⟩ none,
  .op ⟨some 24, .ldn (.t 23) 3 false, none⟩ none,
  .op ⟨some 4, .alc [(.int .i64 0), (.int .i64 0), (.int .i64 0)], none⟩ none,
  .op ⟨none, .sto (.t 4) (.t 24) 3, none⟩ none]) (.seq (.reg [.op ⟨some 25, .fld (.t 4) 0, none⟩ none,
  .op ⟨some 26, .ld1 (.t 25) false, none⟩ none,
  .op ⟨some 27, .xcall 32 [(.t 26), (.c (.int .i64 0)), (.c (.int .i64 99))], none⟩ none,
  .op ⟨some 28, .unot (.t 27), none⟩ none,
  .op ⟨some 29, .mov (.t 28), none⟩ none,
  .op ⟨some 30, .fld (.t 4) 1, some (29, false)⟩ none,
  .op ⟨some 31, .ld1 (.t 30) false, some (29, false)⟩ none,
  .op ⟨some 32, .xcall 32 [(.t 31), (.c (.int .i64 0)), (.c (.int .i64 9))], some (29, false)⟩ none,
  .op ⟨some 33, .unot (.t 32), some (29, false)⟩ none,
  .op ⟨some 34, .pick (.t 29) (.c (.bool true)) (.t 33), none⟩ none,
  .op ⟨some 35, .mov (.t 34), none⟩ none,
  .op ⟨some 36, .fld (.t 4) 2, some (35, false)⟩ none,
  .op ⟨some 37, .ld1 (.t 36) false, some (35, false)⟩ none,
  .op ⟨some 38, .xcall 32 [(.t 37), (.c (.int .i64 0)), (.c (.int .i64 6))], some (35, false)⟩ none,
  .op ⟨some 39, .unot (.t 38), some (35, false)⟩ none,
  .op ⟨some 40, .pick (.t 35) (.c (.bool true)) (.t 39), none⟩ none]) (.cond (.t 40) (.seq (.reg [.op ⟨some 2, .mov (.c (.int .i64 70)), none⟩ none]) .ret) .skip)))) (.reg [.op ⟨some 41, .bin true .add (.t 21) (.c (.int .i64 1)), none⟩ none,
  .op ⟨some 21, .mov (.t 41), none⟩ none]))))
def h11_0 : LSh := ⟨[1, 19, 20, 21], ⟨[(.ptr 0 0), (.v (.sl (.pair (.int .i64) (.pair (.int .i64) (.int .i64))))), (.v (.int .i64)), (.v (.int .i64))], [(0, (.boxT (.pair (.sl (.pair (.int .i64) (.pair (.int .i64) (.int .i64)))) (.sl (.pair (.int .i64) (.pair (.int .i64) (.pair (.int .i64) (.pair (.int .i64) (.pair (.int .i64) (.int .i64))))))))))]⟩, [(.sl (.pair (.int .i64) (.pair (.int .i64) (.int .i64)))), (.int .i64), (.int .i64), (.pair (.sl (.pair (.int .i64) (.pair (.int .i64) (.int .i64)))) (.sl (.pair (.int .i64) (.pair (.int .i64) (.pair (.int .i64) (.pair (.int .i64) (.pair (.int .i64) (.int .i64))))))))], 1, [0]⟩
def x11_0 : List XSh := [⟨.ret, [2], ⟨⟨[(.v (.int .i64))], [(0, (.boxT (.pair (.sl (.pair (.int .i64) (.pair (.int .i64) (.int .i64)))) (.sl (.pair (.int .i64) (.pair (.int .i64) (.pair (.int .i64) (.pair (.int .i64) (.pair (.int .i64) (.int .i64))))))))))]⟩, [(.int .i64), (.pair (.sl (.pair (.int .i64) (.pair (.int .i64) (.int .i64)))) (.sl (.pair (.int .i64) (.pair (.int .i64) (.pair (.int .i64) (.pair (.int .i64) (.pair (.int .i64) (.int .i64))))))))], [0], 1⟩⟩, ⟨(.exit 0), [1], ⟨⟨[(.ptr 0 0)], [(0, (.boxT (.pair (.sl (.pair (.int .i64) (.pair (.int .i64) (.int .i64)))) (.sl (.pair (.int .i64) (.pair (.int .i64) (.pair (.int .i64) (.pair (.int .i64) (.pair (.int .i64) (.int .i64))))))))))]⟩, [(.pair (.sl (.pair (.int .i64) (.pair (.int .i64) (.int .i64)))) (.sl (.pair (.int .i64) (.pair (.int .i64) (.pair (.int .i64) (.pair (.int .i64) (.pair (.int .i64) (.int .i64))))))))], [0], 1⟩⟩]
noncomputable def s11_0 (T : List FEnt) : (List (Int × Int × Int)) × Int × Int × (List (Int × Int × Int)) × (List (Int × Int × Int × Int × Int × Int)) → Option (((List (Int × Int × Int)) × Int × Int × (List (Int × Int × Int)) × (List (Int × Int × Int × Int × Int × Int))) ⊕ ((Int × (List (Int × Int × Int)) × (List (Int × Int × Int × Int × Int × Int))) ⊕ ((List (Int × Int × Int)) × (List (Int × Int × Int × Int × Int × Int))))) := dstep (xs := x11_0) h11_0 (dxc T b11_0)
noncomputable def l11_0 (T : List FEnt) : (List (Int × Int × Int)) × Int × Int × (List (Int × Int × Int)) × (List (Int × Int × Int × Int × Int × Int)) → Option ((Int × (List (Int × Int × Int)) × (List (Int × Int × Int × Int × Int × Int))) ⊕ ((List (Int × Int × Int)) × (List (Int × Int × Int × Int × Int × Int)))) := whileF (s11_0 T)
noncomputable def q11_0 (F32 : Int × Int × Int → Option (Bool)) (F33 : (List (Int × Int × Int × Int × Int × Int)) × Int × Int × Int × Int × Int × Int → Option (Bool)) (F35 : (Int × Int) × Int × Int → Option (Bool)) (a0 : List (Int × Int × Int)) (a1 : Int) (a2 : Int) (a3 : (List (Int × Int × Int)) × (List (Int × Int × Int × Int × Int × Int))) : Option (((List (Int × Int × Int)) × Int × Int × (List (Int × Int × Int)) × (List (Int × Int × Int × Int × Int × Int))) ⊕ ((Int × (List (Int × Int × Int)) × (List (Int × Int × Int × Int × Int × Int))) ⊕ ((List (Int × Int × Int)) × (List (Int × Int × Int × Int × Int × Int))))) :=
cond (decide (a2 < a1)) (
chk (inR a2 (List.length a0)) (
(F32 ((ix a0 a2).1, (0 : Int), (99 : Int))).bind fun (r1 : Bool) => (
cond (!r1) (
some (Sum.inr (Sum.inl ((70 : Int), a3)))) (
(F32 ((ix a0 a2).2.1, (0 : Int), (9 : Int))).bind fun (r2 : Bool) => (
cond (!r2) (
some (Sum.inr (Sum.inl ((70 : Int), a3)))) (
(F32 ((ix a0 a2).2.2, (0 : Int), (6 : Int))).bind fun (r3 : Bool) => (
cond (!r3) (
some (Sum.inr (Sum.inl ((70 : Int), a3)))) (
chk (fits .i64 (a2 + (1 : Int))) (
some (Sum.inl (a0, a1, (a2 + (1 : Int)), a3))))))))))) (
some (Sum.inr (Sum.inr a3)))
theorem g11_0 (F32 : Int × Int × Int → Option (Bool)) (F33 : (List (Int × Int × Int × Int × Int × Int)) × Int × Int × Int × Int × Int × Int → Option (Bool)) (F35 : (Int × Int) × Int × Int → Option (Bool)) (a0 : List (Int × Int × Int)) (a1 : Int) (a2 : Int) (a3 : (List (Int × Int × Int)) × (List (Int × Int × Int × Int × Int × Int))) : s11_0 (T11 F32 F33 F35) (a0, a1, a2, a3) = q11_0 F32 F33 F35 a0 a1 a2 a3 := by kernel_rfl
noncomputable def p11_0 (a0 : List (Int × Int × Int)) (a1 : Int) (a2 : Int) (a3 : (List (Int × Int × Int)) × (List (Int × Int × Int × Int × Int × Int))) : Option (((List (Int × Int × Int)) × Int × Int × (List (Int × Int × Int)) × (List (Int × Int × Int × Int × Int × Int))) ⊕ ((Int × (List (Int × Int × Int)) × (List (Int × Int × Int × Int × Int × Int))) ⊕ ((List (Int × Int × Int)) × (List (Int × Int × Int × Int × Int × Int))))) := q11_0 P32 P33 P35 a0 a1 a2 a3
noncomputable def L11_0 : (List (Int × Int × Int)) × Int × Int × (List (Int × Int × Int)) × (List (Int × Int × Int × Int × Int × Int)) → Option ((Int × (List (Int × Int × Int)) × (List (Int × Int × Int × Int × Int × Int))) ⊕ ((List (Int × Int × Int)) × (List (Int × Int × Int × Int × Int × Int)))) := whileF (fun x => p11_0 x.1 x.2.1 x.2.2.1 x.2.2.2)
theorem v11_0 : l11_0 (T11 P32 P33 P35) = L11_0 := congrArg whileF (funext fun x => (g11_0 P32 P33 P35 x.1 x.2.1 x.2.2.1 x.2.2.2).trans (show q11_0 P32 P33 P35 x.1 x.2.1 x.2.2.1 x.2.2.2 = q11_0 P32 P33 P35 x.1 x.2.1 x.2.2.1 x.2.2.2 from rfl))
def b11_1 : DCode := (.seq (.reg [.op ⟨some 46, .bin true .lss (.t 45) (.t 44), none⟩ none]) (.seq (.cond (.t 46) .skip (.exit 2)) (.seq (.blk 3 (.seq (.reg [.op ⟨some 47, .mov (.t 45), none⟩ none,
  .op ⟨some 48, .idx (.t 43) (.t 45) 6, none⟩ none,
  .op ⟨some 49, .ldn (.t 48) 6 false, none⟩ none,
  .op ⟨some 6, .alc [(.int .i64 0), (.int .i64 0), (.int .i64 0), (.int .i64 0), (.int .i64 0), (.int .i64 0)], none⟩ none,
  .op ⟨some 5, .mov (.t 47), none⟩ none,
  .op ⟨none, .sto (.t 6) (.t 49) 6, none⟩ none]) (.seq (.reg [.op ⟨some 50, .fld (.t 1) 1, none⟩ none,
  .op ⟨some 51, .ld1 (.t 50) false, none⟩ none,
  .op ⟨some 52, .mov (.t 5), none⟩ none,
  .op ⟨some 53, .sl (.t 51) none (some (.t 52)) 6, none⟩ none,
  .op ⟨some 54, .mkf 34 [(.t 6)], none⟩ none,
  .op ⟨some 55, .xcall 33 [(.t 53), (.t 54)], none⟩ none,
  .op ⟨some 7, .mov (.t 55), none⟩ none]) (.seq (.reg [.op ⟨some 56, .mov (.t 7), none⟩ none,
  .op ⟨some 57, .mov (.t 56), none⟩ none,
  .op ⟨some 58, .fld (.t 6) 0, some (57, false)⟩ none,
  .op ⟨some 59, .ld1 (.t 58) false, some (57, false)⟩ none,
  .op ⟨some 60, .xcall 32 [(.t 59), (.c (.int .i64 0)), (.c (.int .i64 99))], some (57, false)⟩ none,
  .op ⟨some 61, .unot (.t 60), some (57, false)⟩ none,
  .op ⟨some 62, .pick (.t 57) (.c (.bool true)) (.t 61), none⟩ none,
  .op ⟨some 63, .mov (.t 62), none⟩ none,
  .op ⟨some 64, .fld (.t 6) 1, some (63, false)⟩ none,
  .op ⟨some 65, .ld1 (.t 64) false, some (63, false)⟩ none,
  .op ⟨some 66, .xcall 32 [(.t 65), (.c (.int .i64 0)), (.c (.int .i64 8))], some (63, false)⟩ none,
  .op ⟨some 67, .unot (.t 66), some (63, false)⟩ none,
  .op ⟨some 68, .pick (.t 63) (.c (.bool true)) (.t 67), none⟩ none,
  .op ⟨some 69, .mov (.t 68), none⟩ none,
  .op ⟨some 70, .fld (.t 6) 2, some (69, false)⟩ none,
  .op ⟨some 71, .ldn (.t 70) 2 false, some (69, false)⟩ none,
  .op ⟨some 72, .xcall 35 [(.t 71), (.c (.int .i64 0)), (.c (.int .i64 9))], some (69, false)⟩ none,
  .op ⟨some 73, .unot (.t 72), some (69, false)⟩ none,
  .op ⟨some 74, .pick (.t 69) (.c (.bool true)) (.t 73), none⟩ none,
  .op ⟨some 75, .mov (.t 74), none⟩ none,
  .op ⟨some 76, .fld (.t 6) 4, some (75, false)⟩ none,
  .op ⟨some 77, .ld1 (.t 76) false, some (75, false)⟩ none,
  .op ⟨some 78, .fld (.t 6) 5, some (75, false)⟩ none,
  .op ⟨some 79, .ld1 (.t 78) false, some (75, false)⟩ none,
  .op ⟨some 80, .bld [(.int .i64 0), (.int .i64 0)] [(0, (1, (.t 77))), (1, (1, (.t 79)))], some (75, false)⟩ none,
  .op ⟨some 81, .xcall 35 [(.t 80), (.c (.int .i64 0)), (.c (.int .i64 99))], some (75, false)⟩ none,
  .op ⟨some 82, .unot (.t 81), some (75, false)⟩ none,
  .op ⟨some 83, .pick (.t 75) (.c (.bool true)) (.t 82), none⟩ none]) (.cond (.t 83) (.seq (.reg [.op ⟨some 2, .mov (.c (.int .i64 70)), none⟩ none]) .ret) .skip))))) (.reg [.op ⟨some 84, .bin true .add (.t 45) (.c (.int .i64 1)), none⟩ none,
  .op ⟨some 45, .mov (.t 84), none⟩ none]))))
def h11_1 : LSh := ⟨[1, 43, 44, 45], ⟨[(.ptr 0 0), (.v (.sl (.pair (.int .i64) (.pair (.int .i64) (.pair (.int .i64) (.pair (.int .i64) (.pair (.int .i64) (.int .i64)))))))), (.v (.int .i64)), (.v (.int .i64))], [(0, (.boxT (.pair (.sl (.pair (.int .i64) (.pair (.int .i64) (.int .i64)))) (.sl (.pair (.int .i64) (.pair (.int .i64) (.pair (.int .i64) (.pair (.int .i64) (.pair (.int .i64) (.int .i64))))))))))]⟩, [(.sl (.pair (.int .i64) (.pair (.int .i64) (.pair (.int .i64) (.pair (.int .i64) (.pair (.int .i64) (.int .i64))))))), (.int .i64), (.int .i64), (.pair (.sl (.pair (.int .i64) (.pair (.int .i64) (.int .i64)))) (.sl (.pair (.int .i64) (.pair (.int .i64) (.pair (.int .i64) (.pair (.int .i64) (.pair (.int .i64) (.int .i64))))))))], 1, [0]⟩
def x11_1 : List XSh := [⟨.ret, [2], ⟨⟨[(.v (.int .i64))], [(0, (.boxT (.pair (.sl (.pair (.int .i64) (.pair (.int .i64) (.int .i64)))) (.sl (.pair (.int .i64) (.pair (.int .i64) (.pair (.int .i64) (.pair (.int .i64) (.pair (.int .i64) (.int .i64))))))))))]⟩, [(.int .i64), (.pair (.sl (.pair (.int .i64) (.pair (.int .i64) (.int .i64)))) (.sl (.pair (.int .i64) (.pair (.int .i64) (.pair (.int .i64) (.pair (.int .i64) (.pair (.int .i64) (.int .i64))))))))], [0], 1⟩⟩, ⟨(.exit 2), [], ⟨⟨[], [(0, (.boxT (.pair (.sl (.pair (.int .i64) (.pair (.int .i64) (.int .i64)))) (.sl (.pair (.int .i64) (.pair (.int .i64) (.pair (.int .i64) (.pair (.int .i64) (.pair (.int .i64) (.int .i64))))))))))]⟩, [(.pair (.sl (.pair (.int .i64) (.pair (.int .i64) (.int .i64)))) (.sl (.pair (.int .i64) (.pair (.int .i64) (.pair (.int .i64) (.pair (.int .i64) (.pair (.int .i64) (.int .i64))))))))], [0], 1⟩⟩]
noncomputable def s11_1 (T : List FEnt) : (List (Int × Int × Int × Int × Int × Int)) × Int × Int × (List (Int × Int × Int)) × (List (Int × Int × Int × Int × Int × Int)) → Option (((List (Int × Int × Int × Int × Int × Int)) × Int × Int × (List (Int × Int × Int)) × (List (Int × Int × Int × Int × Int × Int))) ⊕ ((Int × (List (Int × Int × Int)) × (List (Int × Int × Int × Int × Int × Int))) ⊕ ((List (Int × Int × Int)) × (List (Int × Int × Int × Int × Int × Int))))) := dstep (xs := x11_1) h11_1 (dxc T b11_1)
noncomputable def l11_1 (T : List FEnt) : (List (Int × Int × Int × Int × Int × Int)) × Int × Int × (List (Int × Int × Int)) × (List (Int × Int × Int × Int × Int × Int)) → Option ((Int × (List (Int × Int × Int)) × (List (Int × Int × Int × Int × Int × Int))) ⊕ ((List (Int × Int × Int)) × (List (Int × Int × Int × Int × Int × Int)))) := whileF (s11_1 T)
noncomputable def q11_1 (F32 : Int × Int × Int → Option (Bool)) (F33 : (List (Int × Int × Int × Int × Int × Int)) × Int × Int × Int × Int × Int × Int → Option (Bool)) (F35 : (Int × Int) × Int × Int → Option (Bool)) (a0 : List (Int × Int × Int × Int × Int × Int)) (a1 : Int) (a2 : Int) (a3 : (List (Int × Int × Int)) × (List (Int × Int × Int × Int × Int × Int))) : Option (((List (Int × Int × Int × Int × Int × Int)) × Int × Int × (List (Int × Int × Int)) × (List (Int × Int × Int × Int × Int × Int))) ⊕ ((Int × (List (Int × Int × Int)) × (List (Int × Int × Int × Int × Int × Int))) ⊕ ((List (Int × Int × Int)) × (List (Int × Int × Int × Int × Int × Int))))) :=
cond (decide (a2 < a1)) (
chk (inR a2 (List.length a0)) (
chk (decide ((0 : Int) ≤ (0 : Int))) (
chk (decide ((0 : Int) ≤ a2)) (
chk (decide (a2 ≤ (↑(List.length a3.2) : Int))) (
(F33 ((cutL a3.2 (0 : Int) a2), (ix a0 a2))).bind fun (r7 : Bool) => (
cond r7 (
some (Sum.inr (Sum.inl ((70 : Int), a3)))) (
(F32 ((ix a0 a2).1, (0 : Int), (99 : Int))).bind fun (r8 : Bool) => (
cond (!r8) (
some (Sum.inr (Sum.inl ((70 : Int), a3)))) (
(F32 ((ix a0 a2).2.1, (0 : Int), (8 : Int))).bind fun (r9 : Bool) => (
cond (!r9) (
some (Sum.inr (Sum.inl ((70 : Int), a3)))) (
(F35 (((ix a0 a2).2.2.1, (ix a0 a2).2.2.2.1), (0 : Int), (9 : Int))).bind fun (r10 : Bool) => (
cond (!r10) (
some (Sum.inr (Sum.inl ((70 : Int), a3)))) (
(F35 ((ix a0 a2).2.2.2.2, (0 : Int), (99 : Int))).bind fun (r11 : Bool) => (
cond (!r11) (
some (Sum.inr (Sum.inl ((70 : Int), a3)))) (
chk (fits .i64 (a2 + (1 : Int))) (
some (Sum.inl (a0, a1, (a2 + (1 : Int)), a3)))))))))))))))))) (
some (Sum.inr (Sum.inr a3)))
theorem g11_1 (F32 : Int × Int × Int → Option (Bool)) (F33 : (List (Int × Int × Int × Int × Int × Int)) × Int × Int × Int × Int × Int × Int → Option (Bool)) (F35 : (Int × Int) × Int × Int → Option (Bool)) (a0 : List (Int × Int × Int × Int × Int × Int)) (a1 : Int) (a2 : Int) (a3 : (List (Int × Int × Int)) × (List (Int × Int × Int × Int × Int × Int))) : s11_1 (T11 F32 F33 F35) (a0, a1, a2, a3) = q11_1 F32 F33 F35 a0 a1 a2 a3 := by kernel_rfl
noncomputable def p11_1 (a0 : List (Int × Int × Int × Int × Int × Int)) (a1 : Int) (a2 : Int) (a3 : (List (Int × Int × Int)) × (List (Int × Int × Int × Int × Int × Int))) : Option (((List (Int × Int × Int × Int × Int × Int)) × Int × Int × (List (Int × Int × Int)) × (List (Int × Int × Int × Int × Int × Int))) ⊕ ((Int × (List (Int × Int × Int)) × (List (Int × Int × Int × Int × Int × Int))) ⊕ ((List (Int × Int × Int)) × (List (Int × Int × Int × Int × Int × Int))))) := q11_1 P32 P33 P35 a0 a1 a2 a3
noncomputable def L11_1 : (List (Int × Int × Int × Int × Int × Int)) × Int × Int × (List (Int × Int × Int)) × (List (Int × Int × Int × Int × Int × Int)) → Option ((Int × (List (Int × Int × Int)) × (List (Int × Int × Int × Int × Int × Int))) ⊕ ((List (Int × Int × Int)) × (List (Int × Int × Int × Int × Int × Int)))) := whileF (fun x => p11_1 x.1 x.2.1 x.2.2.1 x.2.2.2)
theorem v11_1 : l11_1 (T11 P32 P33 P35) = L11_1 := congrArg whileF (funext fun x => (g11_1 P32 P33 P35 x.1 x.2.1 x.2.2.1 x.2.2.2).trans (show q11_1 P32 P33 P35 x.1 x.2.1 x.2.2.1 x.2.2.2 = q11_1 P32 P33 P35 x.1 x.2.1 x.2.2.1 x.2.2.2 from rfl))
def c11 : DCode := (.seq (.reg [.op ⟨some 1, .box (.t 0), none⟩ none,
  .op ⟨some 2, .mov (.c (.int .i64 0)), none⟩ none]) (.seq (.seq (.reg [.op ⟨some 8, .fld (.t 1) 0, none⟩ none,
  .op ⟨some 9, .ld1 (.t 8) false, none⟩ none,
  .op ⟨some 10, .len (.t 9), none⟩ none,
  .op ⟨some 11, .bin true .gtr (.t 10) (.c (.int .i64 8)), none⟩ none,
  .op ⟨some 12, .mov (.t 11), none⟩ none,
  .op ⟨some 13, .fld (.t 1) 1, some (12, false)⟩ none,
  .op ⟨some 14, .ld1 (.t 13) false, some (12, false)⟩ none,
  .op ⟨some 15, .len (.t 14), some (12, false)⟩ none,
  .op ⟨some 16, .bin true .gtr (.t 15) (.c (.int .i64 6)), some (12, false)⟩ none,
  .op ⟨some 17, .pick (.t 12) (.c (.bool true)) (.t 16), none⟩ none]) (.cond (.t 17) (.seq (.reg [.op ⟨some 2, .mov (.c (.int .i64 70)), none⟩ none]) .ret) .skip)) (.seq (.seq (.reg [.op ⟨some 18, .fld (.t 1) 0, none⟩ none,
  .op ⟨some 19, .ld1 (.t 18) false, none⟩ none,
  .op ⟨some 20, .len (.t 19), none⟩ none,
  .op ⟨some 21, .mov (.c (.int .i64 0)), none⟩ none]) (.blk 0 (.loop h11_0 x11_0 b11_0))) (.seq (.seq (.reg [.op ⟨some 42, .fld (.t 1) 1, none⟩ none,
  .op ⟨some 43, .ld1 (.t 42) false, none⟩ none,
  .op ⟨some 44, .len (.t 43), none⟩ none,
  .op ⟨some 45, .mov (.c (.int .i64 0)), none⟩ none]) (.blk 2 (.loop h11_1 x11_1 b11_1))) (.seq (.reg [.op ⟨some 2, .mov (.c (.int .i64 0)), none⟩ none]) .ret)))))
theorem ok11 : L.Fn Try.prog 11 85 [(.t 2)] (erase c11) := L.Fn.of hmix Try.func11 [] (by kernel_rfl)
def sh11 : FSh := ⟨⟨[(.st (.pair (.sl (.pair (.int .i64) (.pair (.int .i64) (.int .i64)))) (.sl (.pair (.int .i64) (.pair (.int .i64) (.pair (.int .i64) (.pair (.int .i64) (.pair (.int .i64) (.int .i64)))))))))], []⟩, [(.pair (.sl (.pair (.int .i64) (.pair (.int .i64) (.int .i64)))) (.sl (.pair (.int .i64) (.pair (.int .i64) (.pair (.int .i64) (.pair (.int .i64) (.pair (.int .i64) (.int .i64))))))))], 0, ⟨⟨[(.v (.int .i64))], []⟩, [(.int .i64)], [], 0⟩, true⟩
noncomputable def q11 (F32 : Int × Int × Int → Option (Bool)) (F33 : (List (Int × Int × Int × Int × Int × Int)) × Int × Int × Int × Int × Int × Int → Option (Bool)) (F35 : (Int × Int) × Int × Int → Option (Bool)) (l11_0 : (List (Int × Int × Int)) × Int × Int × (List (Int × Int × Int)) × (List (Int × Int × Int × Int × Int × Int)) → Option ((Int × (List (Int × Int × Int)) × (List (Int × Int × Int × Int × Int × Int))) ⊕ ((List (Int × Int × Int)) × (List (Int × Int × Int × Int × Int × Int))))) (l11_1 : (List (Int × Int × Int × Int × Int × Int)) × Int × Int × (List (Int × Int × Int)) × (List (Int × Int × Int × Int × Int × Int)) → Option ((Int × (List (Int × Int × Int)) × (List (Int × Int × Int × Int × Int × Int))) ⊕ ((List (Int × Int × Int)) × (List (Int × Int × Int × Int × Int × Int))))) (a0 : (List (Int × Int × Int)) × (List (Int × Int × Int × Int × Int × Int))) : Option (Int) :=
cond (decide ((8 : Int) < (↑(List.length a0.1) : Int))) (
some (70 : Int)) (
cond (decide ((6 : Int) < (↑(List.length a0.2) : Int))) (
some (70 : Int)) (
(l11_0 (a0.1, (↑(List.length a0.1) : Int), (0 : Int), a0)).bind (fun (y4 : (Int × (List (Int × Int × Int)) × (List (Int × Int × Int × Int × Int × Int))) ⊕ ((List (Int × Int × Int)) × (List (Int × Int × Int × Int × Int × Int)))) => Sum.elim (fun (y5 : Int × (List (Int × Int × Int)) × (List (Int × Int × Int × Int × Int × Int))) => (
some y5.1)) (fun (y6 : (List (Int × Int × Int)) × (List (Int × Int × Int × Int × Int × Int))) => (
(l11_1 (y6.2, (↑(List.length y6.2) : Int), (0 : Int), y6)).bind (fun (y12 : (Int × (List (Int × Int × Int)) × (List (Int × Int × Int × Int × Int × Int))) ⊕ ((List (Int × Int × Int)) × (List (Int × Int × Int × Int × Int × Int)))) => Sum.elim (fun (y13 : Int × (List (Int × Int × Int)) × (List (Int × Int × Int × Int × Int × Int))) => (
some y13.1)) (fun (y14 : (List (Int × Int × Int)) × (List (Int × Int × Int × Int × Int × Int))) => (
some (0 : Int))) y12))) y4)))
theorem g11 (F32 : Int × Int × Int → Option (Bool)) (F33 : (List (Int × Int × Int × Int × Int × Int)) × Int × Int × Int × Int × Int × Int → Option (Bool)) (F35 : (Int × Int) × Int × Int → Option (Bool)) (a0 : (List (Int × Int × Int)) × (List (Int × Int × Int × Int × Int × Int))) : dxf (T11 F32 F33 F35) sh11 [(.t 2)] c11 a0 = q11 F32 F33 F35 (l11_0 (T11 F32 F33 F35)) (l11_1 (T11 F32 F33 F35)) a0 := by kernel_rfl
noncomputable def p11 (a0 : (List (Int × Int × Int)) × (List (Int × Int × Int × Int × Int × Int))) : Option (Int) := q11 P32 P33 P35 L11_0 L11_1 a0
noncomputable def P11 : (List (Int × Int × Int)) × (List (Int × Int × Int × Int × Int × Int)) → Option (Int) := fun x => p11 x
theorem v11 : dxf (T11 P32 P33 P35) sh11 [(.t 2)] c11 = P11 := funext fun x => (g11 P32 P33 P35 x).trans (show q11 P32 P33 P35 (l11_0 (T11 P32 P33 P35)) (l11_1 (T11 P32 P33 P35)) x = q11 P32 P33 P35 L11_0 L11_1 x from by rw [v11_0, v11_1])
theorem d11 : DC Try.prog 11 sh11 P11 := DC_eq v11 (dxf_sound (sh := sh11) t11 ok11 (by kernel_rfl))
/-! bijou/promise.open -/
noncomputable def T37 : List FEnt := []
theorem t37 : DTblOK Try.prog T37 := DTbl_nil
def b37_0 : DCode := (.seq (.reg [.op ⟨some 14, .bin true .lss (.t 13) (.t 12), none⟩ none]) (.seq (.cond (.t 14) .skip (.exit 0)) (.seq (.blk 1 (.seq (.reg [.op ⟨some 15, .idx (.t 11) (.t 13) 6, none⟩ none,
  .op ⟨some 16, .ldn (.t 15) 6 false, none⟩ none,
  .op ⟨some 5, .alc [(.int .i64 0), (.int .i64 0), (.int .i64 0), (.int .i64 0), (.int .i64 0), (.int .i64 0)], none⟩ none,
  .op ⟨none, .sto (.t 5) (.t 16) 6, none⟩ none]) (.drw [] [(⟨some 17, .mov (.t 3), none⟩, none),
  (⟨some 18, .mov (.t 3), none⟩, none),
  (⟨some 19, .nilc (.t 18), none⟩, none),
  (⟨some 20, .fld (.t 19) 3, none⟩, none),
  (⟨some 21, .ld1 (.t 20) false, none⟩, none),
  (⟨some 22, .fld (.t 5) 1, none⟩, none),
  (⟨some 23, .ld1 (.t 22) false, none⟩, none),
  (⟨some 24, .bsr 3 1 [(.t 23)], none⟩, (some (false, (.int .i64)))),
  (⟨some 25, .app 3 1 8 (.t 21) (.t 24), none⟩, (some (false, (.int .i64)))),
  (⟨some 26, .nilc (.t 17), none⟩, none),
  (⟨some 27, .fld (.t 26) 3, none⟩, none),
  (⟨none, .sto (.t 27) (.t 25) 1, none⟩, none)]))) (.reg [.op ⟨some 28, .bin true .add (.t 13) (.c (.int .i64 1)), none⟩ none,
  .op ⟨some 13, .mov (.t 28), none⟩ none]))))
def h37_0 : LSh := ⟨[3, 11, 12, 13], ⟨[(.ptr 0 0), (.v (.sl (.pair (.int .i64) (.pair (.int .i64) (.pair (.int .i64) (.pair (.int .i64) (.pair (.int .i64) (.int .i64)))))))), (.v (.int .i64)), (.v (.int .i64))], [(0, (.box [(.v (.sl (.pair (.int .i64) (.pair (.int .i64) (.int .i64))))), (.v (.sl (.pair (.int .i64) (.pair (.int .i64) (.pair (.int .i64) (.pair (.int .i64) (.pair (.int .i64) (.int .i64)))))))), (.mp 1), (.slc 2)])), (1, (.imap 2 false (.int .i64))), (2, (.row 3 (.int .i64)))]⟩, [(.sl (.pair (.int .i64) (.pair (.int .i64) (.pair (.int .i64) (.pair (.int .i64) (.pair (.int .i64) (.int .i64))))))), (.int .i64), (.int .i64), (.sl (.pair (.int .i64) (.pair (.int .i64) (.int .i64)))), (.sl (.pair (.int .i64) (.pair (.int .i64) (.pair (.int .i64) (.pair (.int .i64) (.pair (.int .i64) (.int .i64))))))), (.es (.int .i64)), (.sl (.int .i64))], 3, [0, 1]⟩
def x37_0 : List XSh := [⟨(.exit 0), [3], ⟨⟨[(.ptr 0 0)], [(0, (.box [(.v (.sl (.pair (.int .i64) (.pair (.int .i64) (.int .i64))))), (.v (.sl (.pair (.int .i64) (.pair (.int .i64) (.pair (.int .i64) (.pair (.int .i64) (.pair (.int .i64) (.int .i64)))))))), (.mp 1), (.slc 2)])), (1, (.imap 2 false (.int .i64))), (2, (.row 3 (.int .i64)))]⟩, [(.sl (.pair (.int .i64) (.pair (.int .i64) (.int .i64)))), (.sl (.pair (.int .i64) (.pair (.int .i64) (.pair (.int .i64) (.pair (.int .i64) (.pair (.int .i64) (.int .i64))))))), (.es (.int .i64)), (.sl (.int .i64))], [0, 1], 3⟩⟩]
noncomputable def s37_0 (T : List FEnt) : (List (Int × Int × Int × Int × Int × Int)) × Int × Int × (List (Int × Int × Int)) × (List (Int × Int × Int × Int × Int × Int)) × (List (List Int × Int)) × (List Int) → Option (((List (Int × Int × Int × Int × Int × Int)) × Int × Int × (List (Int × Int × Int)) × (List (Int × Int × Int × Int × Int × Int)) × (List (List Int × Int)) × (List Int)) ⊕ ((List (Int × Int × Int)) × (List (Int × Int × Int × Int × Int × Int)) × (List (List Int × Int)) × (List Int))) := dstep (xs := x37_0) h37_0 (dxc T b37_0)
noncomputable def l37_0 (T : List FEnt) : (List (Int × Int × Int × Int × Int × Int)) × Int × Int × (List (Int × Int × Int)) × (List (Int × Int × Int × Int × Int × Int)) × (List (List Int × Int)) × (List Int) → Option ((List (Int × Int × Int)) × (List (Int × Int × Int × Int × Int × Int)) × (List (List Int × Int)) × (List Int)) := whileF (s37_0 T)
noncomputable def q37_0 (a0 : List (Int × Int × Int × Int × Int × Int)) (a1 : Int) (a2 : Int) (a3 : List (Int × Int × Int)) (a4 : List (Int × Int × Int × Int × Int × Int)) (a5 : List (List Int × Int)) (a6 : List Int) : Option (((List (Int × Int × Int × Int × Int × Int)) × Int × Int × (List (Int × Int × Int)) × (List (Int × Int × Int × Int × Int × Int)) × (List (List Int × Int)) × (List Int)) ⊕ ((List (Int × Int × Int)) × (List (Int × Int × Int × Int × Int × Int)) × (List (List Int × Int)) × (List Int))) :=
cond (decide (a2 < a1)) (
chk (inR a2 (List.length a0)) (
chk (capOk 8 (List.length a6 + List.length ([(ix a0 a2).2.1] : List Int))) (
chk (fits .i64 (a2 + (1 : Int))) (
some (Sum.inl (a0, a1, (a2 + (1 : Int)), a3, a4, a5, (a6 ++ ([(ix a0 a2).2.1] : List Int)))))))) (
some (Sum.inr (a3, a4, a5, a6)))
theorem g37_0 (a0 : List (Int × Int × Int × Int × Int × Int)) (a1 : Int) (a2 : Int) (a3 : List (Int × Int × Int)) (a4 : List (Int × Int × Int × Int × Int × Int)) (a5 : List (List Int × Int)) (a6 : List Int) : s37_0 T37 (a0, a1, a2, a3, a4, a5, a6) = q37_0 a0 a1 a2 a3 a4 a5 a6 := by kernel_rfl
noncomputable def p37_0 (a0 : List (Int × Int × Int × Int × Int × Int)) (a1 : Int) (a2 : Int) (a3 : List (Int × Int × Int)) (a4 : List (Int × Int × Int × Int × Int × Int)) (a5 : List (List Int × Int)) (a6 : List Int) : Option (((List (Int × Int × Int × Int × Int × Int)) × Int × Int × (List (Int × Int × Int)) × (List (Int × Int × Int × Int × Int × Int)) × (List (List Int × Int)) × (List Int)) ⊕ ((List (Int × Int × Int)) × (List (Int × Int × Int × Int × Int × Int)) × (List (List Int × Int)) × (List Int))) := q37_0 a0 a1 a2 a3 a4 a5 a6
noncomputable def L37_0 : (List (Int × Int × Int × Int × Int × Int)) × Int × Int × (List (Int × Int × Int)) × (List (Int × Int × Int × Int × Int × Int)) × (List (List Int × Int)) × (List Int) → Option ((List (Int × Int × Int)) × (List (Int × Int × Int × Int × Int × Int)) × (List (List Int × Int)) × (List Int)) := whileF (fun x => p37_0 x.1 x.2.1 x.2.2.1 x.2.2.2.1 x.2.2.2.2.1 x.2.2.2.2.2.1 x.2.2.2.2.2.2)
theorem v37_0 : l37_0 T37 = L37_0 := congrArg whileF (funext fun x => (g37_0 x.1 x.2.1 x.2.2.1 x.2.2.2.1 x.2.2.2.2.1 x.2.2.2.2.2.1 x.2.2.2.2.2.2).trans (show q37_0 x.1 x.2.1 x.2.2.1 x.2.2.2.1 x.2.2.2.2.1 x.2.2.2.2.2.1 x.2.2.2.2.2.2 = q37_0 x.1 x.2.1 x.2.2.1 x.2.2.2.1 x.2.2.2.2.1 x.2.2.2.2.2.1 x.2.2.2.2.2.2 from rfl))
def c37 : DCode := (.seq (.reg [.op ⟨some 1, .box (.t 0), none⟩ none,
  .op ⟨some 2, .mov (.c .nilp), none⟩ none]) (.seq (.reg [.op ⟨some 6, .ldn (.t 1) 2 false, none⟩ none,
  .op ⟨some 7, .mkm 2 75, none⟩ (some (false, (.int .i64))),
  .op ⟨some 8, .bld [.emp, .emp, .nilm, .emp] [(0, (2, (.t 6))), (2, (1, (.t 7)))], none⟩ none,
  .op ⟨some 9, .box (.t 8), none⟩ none,
  .op ⟨some 3, .mov (.t 9), none⟩ none]) (.seq (.seq (.reg [.op ⟨some 10, .fld (.t 1) 1, none⟩ none,
  .op ⟨some 11, .ld1 (.t 10) false, none⟩ none,
  .op ⟨some 12, .len (.t 11), none⟩ none,
  .op ⟨some 13, .mov (.c (.int .i64 0)), none⟩ none]) (.blk 0 (.loop h37_0 x37_0 b37_0))) (.seq (.reg [.op ⟨some 29, .mov (.t 3), none⟩ none,
  .op ⟨some 2, .mov (.t 29), none⟩ none]) .ret))))
theorem ok37 : L.Fn Try.prog 37 30 [(.t 2)] (erase c37) := L.Fn.of hmix Try.func37 [] (by kernel_rfl)
def sh37 : FSh := ⟨⟨[(.st (.pair (.sl (.pair (.int .i64) (.pair (.int .i64) (.int .i64)))) (.sl (.pair (.int .i64) (.pair (.int .i64) (.pair (.int .i64) (.pair (.int .i64) (.pair (.int .i64) (.int .i64)))))))))], []⟩, [(.pair (.sl (.pair (.int .i64) (.pair (.int .i64) (.int .i64)))) (.sl (.pair (.int .i64) (.pair (.int .i64) (.pair (.int .i64) (.pair (.int .i64) (.pair (.int .i64) (.int .i64))))))))], 0, ⟨⟨[(.ptr 0 0)], [(0, (.box [(.v (.sl (.pair (.int .i64) (.pair (.int .i64) (.int .i64))))), (.v (.sl (.pair (.int .i64) (.pair (.int .i64) (.pair (.int .i64) (.pair (.int .i64) (.pair (.int .i64) (.int .i64)))))))), (.mp 1), (.slc 2)])), (1, (.imap 2 false (.int .i64))), (2, (.row 3 (.int .i64)))]⟩, [(.sl (.pair (.int .i64) (.pair (.int .i64) (.int .i64)))), (.sl (.pair (.int .i64) (.pair (.int .i64) (.pair (.int .i64) (.pair (.int .i64) (.pair (.int .i64) (.int .i64))))))), (.es (.int .i64)), (.sl (.int .i64))], [], 3⟩, false⟩
noncomputable def q37 (l37_0 : (List (Int × Int × Int × Int × Int × Int)) × Int × Int × (List (Int × Int × Int)) × (List (Int × Int × Int × Int × Int × Int)) × (List (List Int × Int)) × (List Int) → Option ((List (Int × Int × Int)) × (List (Int × Int × Int × Int × Int × Int)) × (List (List Int × Int)) × (List Int))) (a0 : (List (Int × Int × Int)) × (List (Int × Int × Int × Int × Int × Int))) : Option ((List (Int × Int × Int)) × (List (Int × Int × Int × Int × Int × Int)) × (List (List Int × Int)) × (List Int)) :=
(l37_0 (a0.2, (↑(List.length a0.2) : Int), (0 : Int), a0.1, a0.2, ([] : List (List Int × Int)), ([] : List Int))).bind fun (y1 : (List (Int × Int × Int)) × (List (Int × Int × Int × Int × Int × Int)) × (List (List Int × Int)) × (List Int)) => (
some (y1.1, y1.2.1, y1.2.2.1, y1.2.2.2))
theorem g37 (a0 : (List (Int × Int × Int)) × (List (Int × Int × Int × Int × Int × Int))) : dxf T37 sh37 [(.t 2)] c37 a0 = q37 (l37_0 T37) a0 := by kernel_rfl
noncomputable def p37 (a0 : (List (Int × Int × Int)) × (List (Int × Int × Int × Int × Int × Int))) : Option ((List (Int × Int × Int)) × (List (Int × Int × Int × Int × Int × Int)) × (List (List Int × Int)) × (List Int)) := q37 L37_0 a0
noncomputable def P37 : (List (Int × Int × Int)) × (List (Int × Int × Int × Int × Int × Int)) → Option ((List (Int × Int × Int)) × (List (Int × Int × Int × Int × Int × Int)) × (List (List Int × Int)) × (List Int)) := fun x => p37 x
theorem v37 : dxf T37 sh37 [(.t 2)] c37 = P37 := funext fun x => (g37 x).trans (show q37 (l37_0 T37) x = q37 L37_0 x from by rw [v37_0])
theorem d37 : DC Try.prog 37 sh37 P37 := DC_eq v37 (dxf_sound (sh := sh37) t37 ok37 (by kernel_rfl))
/-! (bijou/promise.set).has -/
noncomputable def T52 : List FEnt := []
theorem t52 : DTblOK Try.prog T52 := DTbl_nil
def c52 : DCode := (.seq (.reg [.op ⟨some 4, .mov (.c (.bool false)), none⟩ none]) (.seq (.reg [.op ⟨some 5, .mov (.t 0), none⟩ none,
  .op ⟨some 6, .mov (.t 1), none⟩ none,
  .op ⟨some 7, .bin true .shr (.t 5) (.t 6), none⟩ none,
  .op ⟨some 8, .bin true .and (.t 7) (.c (.int .u64 1)), none⟩ none,
  .op ⟨some 9, .bin true .eql (.t 8) (.c (.int .u64 1)), none⟩ none,
  .op ⟨some 4, .mov (.t 9), none⟩ none]) .ret))
theorem ok52 : L.Fn Try.prog 52 10 [(.t 4)] (erase c52) := L.Fn.of hmix Try.func52 [] (by kernel_rfl)
def sh52 : FSh := ⟨⟨[(.v (.int .u64)), (.v (.int .i64))], []⟩, [(.int .u64), (.int .i64)], 0, ⟨⟨[(.v .bool)], []⟩, [.bool], [], 0⟩, true⟩
noncomputable def q52 (a0 : Int) (a1 : Int) : Option (Bool) :=
chk (decide ((0 : Int) ≤ a1)) (
some (decide ((band .u64 (shrI .u64 a0 a1) (1 : Int)) = (1 : Int))))
theorem g52 (a0 : Int) (a1 : Int) : dxf T52 sh52 [(.t 4)] c52 (a0, a1) = q52 a0 a1 := by kernel_rfl
noncomputable def p52 (a0 : Int) (a1 : Int) : Option (Bool) := q52 a0 a1
noncomputable def P52 : Int × Int → Option (Bool) := fun x => p52 x.1 x.2
theorem v52 : dxf T52 sh52 [(.t 4)] c52 = P52 := funext fun x => (g52 x.1 x.2).trans (show q52 x.1 x.2 = q52 x.1 x.2 from rfl)
theorem d52 : DC Try.prog 52 sh52 P52 := DC_eq v52 (dxf_sound (sh := sh52) t52 ok52 (by kernel_rfl))
/-! (*bijou/promise.book).fits -/
noncomputable def T57 (F32 : Int × Int × Int → Option (Bool)) : List FEnt := [⟨32, sh32, F32⟩]
theorem t57 : DTblOK Try.prog (T57 P32) := (DTbl_cons' (f := 32) (sh := sh32) (F := P32) d32 (by kernel_rfl) DTbl_nil)
def c57 : DCode := (.seq (.reg [.op ⟨some 6, .mov (.c (.bool false)), none⟩ none]) (.seq (.drw [0] [(⟨some 9, .mov (.t 0), none⟩, none),
  (⟨some 10, .nilc (.t 9), none⟩, none),
  (⟨some 11, .fld (.t 10) 0, none⟩, none),
  (⟨some 12, .fld (.t 11) 1, none⟩, none),
  (⟨some 13, .ld1 (.t 12) true, none⟩, none),
  (⟨some 14, .mov (.t 1), none⟩, none),
  (⟨some 15, .idx (.t 13) (.t 14) 6, none⟩, none),
  (⟨some 16, .ldn (.t 15) 6 true, none⟩, none),
  (⟨some 17, .mov (.t 0), none⟩, none),
  (⟨some 18, .nilc (.t 17), none⟩, none),
  (⟨some 19, .fld (.t 18) 0, none⟩, none),
  (⟨some 20, .fld (.t 19) 0, none⟩, none),
  (⟨some 21, .ld1 (.t 20) true, none⟩, none),
  (⟨some 22, .mov (.t 2), none⟩, none),
  (⟨some 23, .idx (.t 21) (.t 22) 3, none⟩, none),
  (⟨some 24, .ldn (.t 23) 3 true, none⟩, none),
  (⟨some 7, .alc [(.int .i64 0), (.int .i64 0), (.int .i64 0), (.int .i64 0), (.int .i64 0), (.int .i64 0)], none⟩, none),
  (⟨some 8, .alc [(.int .i64 0), (.int .i64 0), (.int .i64 0)], none⟩, none),
  (⟨none, .sto (.t 7) (.t 16) 6, none⟩, none),
  (⟨none, .sto (.t 8) (.t 24) 3, none⟩, none)]) (.seq (.reg [.op ⟨some 25, .fld (.t 8) 1, none⟩ none,
  .op ⟨some 26, .ld1 (.t 25) false, none⟩ none,
  .op ⟨some 27, .fld (.t 7) 2, none⟩ none,
  .op ⟨some 28, .fld (.t 27) 0, none⟩ none,
  .op ⟨some 29, .ld1 (.t 28) false, none⟩ none,
  .op ⟨some 30, .fld (.t 7) 2, none⟩ none,
  .op ⟨some 31, .fld (.t 30) 1, none⟩ none,
  .op ⟨some 32, .ld1 (.t 31) false, none⟩ none,
  .op ⟨some 33, .xcall 32 [(.t 26), (.t 29), (.t 32)], none⟩ none,
  .op ⟨some 34, .mov (.t 33), none⟩ none,
  .op ⟨some 35, .fld (.t 8) 0, some (34, true)⟩ none,
  .op ⟨some 36, .ld1 (.t 35) false, some (34, true)⟩ none,
  .op ⟨some 37, .fld (.t 7) 4, some (34, true)⟩ none,
  .op ⟨some 38, .ld1 (.t 37) false, some (34, true)⟩ none,
  .op ⟨some 39, .fld (.t 7) 5, some (34, true)⟩ none,
  .op ⟨some 40, .ld1 (.t 39) false, some (34, true)⟩ none,
  .op ⟨some 41, .xcall 32 [(.t 36), (.t 38), (.t 40)], some (34, true)⟩ none,
  .op ⟨some 42, .pick (.t 34) (.t 41) (.c (.bool false)), none⟩ none,
  .op ⟨some 43, .mov (.t 42), none⟩ none,
  .op ⟨some 44, .mov (.t 0), some (43, true)⟩ none,
  .op ⟨some 45, .nilc (.t 44), some (43, true)⟩ none,
  .op ⟨some 46, .fld (.t 45) 2, some (43, true)⟩ none,
  .op ⟨some 47, .ld1 (.t 46) false, some (43, true)⟩ none,
  .op ⟨some 48, .mov (.t 1), some (43, true)⟩ none,
  .op ⟨some 49, .mov (.t 2), some (43, true)⟩ none,
  .op ⟨some 50, .bld [(.int .i64 0), (.int .i64 0)] [(0, (1, (.t 48))), (1, (1, (.t 49)))], some (43, true)⟩ none,
  .op ⟨some 51, .lkp 2 false (.int .i64 0) (.t 47) (.t 50) false, some (43, true)⟩ none,
  .op ⟨some 52, .bin true .eql (.t 51) (.c (.int .i64 0)), some (43, true)⟩ none,
  .op ⟨some 53, .pick (.t 43) (.t 52) (.c (.bool false)), none⟩ none,
  .op ⟨some 6, .mov (.t 53), none⟩ none]) .ret)))
theorem ok57 : L.Fn Try.prog 57 54 [(.t 6)] (erase c57) := L.Fn.of hmix Try.func57 [(1, { ch := [0,0,0,0,1,0,0,1,0,0,0,0,1,0,0,1,0,0,0,0], rs := [0] })] (by kernel_rfl)
def sh57 : FSh := ⟨⟨[(.ptr 0 0), (.v (.int .i64)), (.v (.int .i64))], [(0, (.box [(.v (.sl (.pair (.int .i64) (.pair (.int .i64) (.int .i64))))), (.v (.sl (.pair (.int .i64) (.pair (.int .i64) (.pair (.int .i64) (.pair (.int .i64) (.pair (.int .i64) (.int .i64)))))))), (.mp 1), (.slc 2)])), (1, (.imap 2 false (.int .i64))), (2, (.row 3 (.int .i64)))]⟩, [(.int .i64), (.int .i64), (.sl (.pair (.int .i64) (.pair (.int .i64) (.int .i64)))), (.sl (.pair (.int .i64) (.pair (.int .i64) (.pair (.int .i64) (.pair (.int .i64) (.pair (.int .i64) (.int .i64))))))), (.es (.int .i64)), (.sl (.int .i64))], 3, ⟨⟨[(.v .bool)], [(0, (.box [(.v (.sl (.pair (.int .i64) (.pair (.int .i64) (.int .i64))))), (.v (.sl (.pair (.int .i64) (.pair (.int .i64) (.pair (.int .i64) (.pair (.int .i64) (.pair (.int .i64) (.int .i64)))))))), (.mp 1), (.slc 2)])), (1, (.imap 2 false (.int .i64))), (2, (.row 3 (.int .i64)))]⟩, [.bool, (.sl (.pair (.int .i64) (.pair (.int .i64) (.int .i64)))), (.sl (.pair (.int .i64) (.pair (.int .i64) (.pair (.int .i64) (.pair (.int .i64) (.pair (.int .i64) (.int .i64))))))), (.es (.int .i64)), (.sl (.int .i64))], [0, 1, 2], 3⟩, false⟩
noncomputable def q57 (F32 : Int × Int × Int → Option (Bool)) (a0 : Int) (a1 : Int) (a2 : List (Int × Int × Int)) (a3 : List (Int × Int × Int × Int × Int × Int)) (a4 : List (List Int × Int)) (a5 : List Int) : Option (Bool × (List (Int × Int × Int)) × (List (Int × Int × Int × Int × Int × Int)) × (List (List Int × Int)) × (List Int)) :=
chk (inR a0 (List.length a3)) (
chk (inR a1 (List.length a2)) (
(F32 ((ix a2 a1).2.1, (ix a3 a0).2.2.1, (ix a3 a0).2.2.2.1)).bind fun (r1 : Bool) => (
cond r1 (
(F32 ((ix a2 a1).1, (ix a3 a0).2.2.2.2.1, (ix a3 a0).2.2.2.2.2)).bind fun (r2 : Bool) => (
cond r2 (
some (decide ((dof (kget a4 [a0, a1]) (0 : Int)) = (0 : Int)), a2, a3, a4, a5)) (
some (false, a2, a3, a4, a5)))) (
some (false, a2, a3, a4, a5)))))
theorem g57 (F32 : Int × Int × Int → Option (Bool)) (a0 : Int) (a1 : Int) (a2 : List (Int × Int × Int)) (a3 : List (Int × Int × Int × Int × Int × Int)) (a4 : List (List Int × Int)) (a5 : List Int) : dxf (T57 F32) sh57 [(.t 6)] c57 (a0, a1, a2, a3, a4, a5) = q57 F32 a0 a1 a2 a3 a4 a5 := by kernel_rfl
noncomputable def p57 (a0 : Int) (a1 : Int) (a2 : List (Int × Int × Int)) (a3 : List (Int × Int × Int × Int × Int × Int)) (a4 : List (List Int × Int)) (a5 : List Int) : Option (Bool × (List (Int × Int × Int)) × (List (Int × Int × Int × Int × Int × Int)) × (List (List Int × Int)) × (List Int)) := q57 P32 a0 a1 a2 a3 a4 a5
noncomputable def P57 : Int × Int × (List (Int × Int × Int)) × (List (Int × Int × Int × Int × Int × Int)) × (List (List Int × Int)) × (List Int) → Option (Bool × (List (Int × Int × Int)) × (List (Int × Int × Int × Int × Int × Int)) × (List (List Int × Int)) × (List Int)) := fun x => p57 x.1 x.2.1 x.2.2.1 x.2.2.2.1 x.2.2.2.2.1 x.2.2.2.2.2
theorem v57 : dxf (T57 P32) sh57 [(.t 6)] c57 = P57 := funext fun x => (g57 P32 x.1 x.2.1 x.2.2.1 x.2.2.2.1 x.2.2.2.2.1 x.2.2.2.2.2).trans (show q57 P32 x.1 x.2.1 x.2.2.1 x.2.2.2.1 x.2.2.2.2.1 x.2.2.2.2.2 = q57 P32 x.1 x.2.1 x.2.2.1 x.2.2.2.1 x.2.2.2.2.1 x.2.2.2.2.2 from rfl)
theorem d57 : DC Try.prog 57 sh57 P57 := DC_eq v57 (dxf_sound (sh := sh57) t57 ok57 (by kernel_rfl))
/-! (*bijou/promise.book).bound -/
noncomputable def T59 (F52 : Int × Int → Option (Bool)) (F57 : Int × Int × (List (Int × Int × Int)) × (List (Int × Int × Int × Int × Int × Int)) × (List (List Int × Int)) × (List Int) → Option (Bool × (List (Int × Int × Int)) × (List (Int × Int × Int × Int × Int × Int)) × (List (List Int × Int)) × (List Int))) : List FEnt := [⟨52, sh52, F52⟩, ⟨57, sh57, F57⟩]
theorem t59 : DTblOK Try.prog (T59 P52 P57) := (DTbl_cons' (f := 52) (sh := sh52) (F := P52) d52 (by kernel_rfl) (DTbl_cons' (f := 57) (sh := sh57) (F := P57) d57 (by kernel_rfl) DTbl_nil))
def b59_0 : DCode := (.seq (.reg [.op ⟨some 17, .bin true .lss (.t 16) (.t 15), none⟩ none]) (.seq (.cond (.t 17) .skip (.exit 0)) (.seq (.blk 1 (.seq (.reg [.op ⟨some 18, .mov (.t 16), none⟩ none,
  .op ⟨some 19, .idx (.t 14) (.t 16) 1, none⟩ none,
  .op ⟨some 20, .ld1 (.t 19) false, none⟩ none,
  .op ⟨some 5, .mov (.t 18), none⟩ none,
  .op ⟨some 6, .mov (.t 20), none⟩ none]) (.seq (.reg [.op ⟨some 21, .mov (.t 1), none⟩ none,
  .op ⟨some 22, .mov (.t 5), none⟩ none,
  .op ⟨some 23, .xcall 52 [(.t 21), (.t 22)], none⟩ none,
  .op ⟨some 24, .unot (.t 23), none⟩ none]) (.cond (.t 24) (.reg [.op ⟨some 25, .mov (.t 4), none⟩ none,
  .op ⟨some 26, .mov (.t 6), none⟩ none,
  .op ⟨some 27, .bin true .add (.t 25) (.t 26), none⟩ none,
  .op ⟨some 4, .mov (.t 27), none⟩ none]) .skip)))) (.reg [.op ⟨some 28, .bin true .add (.t 16) (.c (.int .i64 1)), none⟩ none,
  .op ⟨some 16, .mov (.t 28), none⟩ none]))))
def h59_0 : LSh := ⟨[0, 1, 4, 14, 15, 16], ⟨[(.ptr 0 0), (.v (.int .u64)), (.v (.int .i64)), (.slc 1), (.v (.int .i64)), (.v (.int .i64))], [(0, (.box [(.v (.sl (.pair (.int .i64) (.pair (.int .i64) (.int .i64))))), (.v (.sl (.pair (.int .i64) (.pair (.int .i64) (.pair (.int .i64) (.pair (.int .i64) (.pair (.int .i64) (.int .i64)))))))), (.mp 2), (.slc 1)])), (1, (.row 3 (.int .i64))), (2, (.imap 2 false (.int .i64)))]⟩, [(.int .u64), (.int .i64), (.int .i64), (.int .i64), (.sl (.pair (.int .i64) (.pair (.int .i64) (.int .i64)))), (.sl (.pair (.int .i64) (.pair (.int .i64) (.pair (.int .i64) (.pair (.int .i64) (.pair (.int .i64) (.int .i64))))))), (.sl (.int .i64)), (.es (.int .i64))], 3, [0, 1, 2]⟩
def x59_0 : List XSh := [⟨(.exit 0), [0, 1, 4], ⟨⟨[(.ptr 0 0), (.v (.int .u64)), (.v (.int .i64))], [(0, (.box [(.v (.sl (.pair (.int .i64) (.pair (.int .i64) (.int .i64))))), (.v (.sl (.pair (.int .i64) (.pair (.int .i64) (.pair (.int .i64) (.pair (.int .i64) (.pair (.int .i64) (.int .i64)))))))), (.mp 2), (.slc 1)])), (1, (.row 3 (.int .i64))), (2, (.imap 2 false (.int .i64)))]⟩, [(.int .u64), (.int .i64), (.sl (.pair (.int .i64) (.pair (.int .i64) (.int .i64)))), (.sl (.pair (.int .i64) (.pair (.int .i64) (.pair (.int .i64) (.pair (.int .i64) (.pair (.int .i64) (.int .i64))))))), (.sl (.int .i64)), (.es (.int .i64))], [0, 1, 2], 3⟩⟩]
noncomputable def s59_0 (T : List FEnt) : Int × Int × Int × Int × (List (Int × Int × Int)) × (List (Int × Int × Int × Int × Int × Int)) × (List Int) × (List (List Int × Int)) → Option ((Int × Int × Int × Int × (List (Int × Int × Int)) × (List (Int × Int × Int × Int × Int × Int)) × (List Int) × (List (List Int × Int))) ⊕ (Int × Int × (List (Int × Int × Int)) × (List (Int × Int × Int × Int × Int × Int)) × (List Int) × (List (List Int × Int)))) := dstep (xs := x59_0) h59_0 (dxc T b59_0)
noncomputable def l59_0 (T : List FEnt) : Int × Int × Int × Int × (List (Int × Int × Int)) × (List (Int × Int × Int × Int × Int × Int)) × (List Int) × (List (List Int × Int)) → Option (Int × Int × (List (Int × Int × Int)) × (List (Int × Int × Int × Int × Int × Int)) × (List Int) × (List (List Int × Int))) := whileF (s59_0 T)
noncomputable def q59_0 (F52 : Int × Int → Option (Bool)) (F57 : Int × Int × (List (Int × Int × Int)) × (List (Int × Int × Int × Int × Int × Int)) × (List (List Int × Int)) × (List Int) → Option (Bool × (List (Int × Int × Int)) × (List (Int × Int × Int × Int × Int × Int)) × (List (List Int × Int)) × (List Int))) (a0 : Int) (a1 : Int) (a2 : Int) (a3 : Int) (a4 : List (Int × Int × Int)) (a5 : List (Int × Int × Int × Int × Int × Int)) (a6 : List Int) (a7 : List (List Int × Int)) : Option ((Int × Int × Int × Int × (List (Int × Int × Int)) × (List (Int × Int × Int × Int × Int × Int)) × (List Int) × (List (List Int × Int))) ⊕ (Int × Int × (List (Int × Int × Int)) × (List (Int × Int × Int × Int × Int × Int)) × (List Int) × (List (List Int × Int)))) :=
cond (decide (a3 < a2)) (
chk (inR a3 (List.length a6)) (
(F52 (a0, a3)).bind fun (r1 : Bool) => (
cond (!r1) (
chk (fits .i64 (a1 + (ix a6 a3))) (
chk (fits .i64 (a3 + (1 : Int))) (
some (Sum.inl (a0, (a1 + (ix a6 a3)), a2, (a3 + (1 : Int)), a4, a5, a6, a7))))) (
chk (fits .i64 (a3 + (1 : Int))) (
some (Sum.inl (a0, a1, a2, (a3 + (1 : Int)), a4, a5, a6, a7))))))) (
some (Sum.inr (a0, a1, a4, a5, a6, a7)))
theorem g59_0 (F52 : Int × Int → Option (Bool)) (F57 : Int × Int × (List (Int × Int × Int)) × (List (Int × Int × Int × Int × Int × Int)) × (List (List Int × Int)) × (List Int) → Option (Bool × (List (Int × Int × Int)) × (List (Int × Int × Int × Int × Int × Int)) × (List (List Int × Int)) × (List Int))) (a0 : Int) (a1 : Int) (a2 : Int) (a3 : Int) (a4 : List (Int × Int × Int)) (a5 : List (Int × Int × Int × Int × Int × Int)) (a6 : List Int) (a7 : List (List Int × Int)) : s59_0 (T59 F52 F57) (a0, a1, a2, a3, a4, a5, a6, a7) = q59_0 F52 F57 a0 a1 a2 a3 a4 a5 a6 a7 := by kernel_rfl
noncomputable def p59_0 (a0 : Int) (a1 : Int) (a2 : Int) (a3 : Int) (a4 : List (Int × Int × Int)) (a5 : List (Int × Int × Int × Int × Int × Int)) (a6 : List Int) (a7 : List (List Int × Int)) : Option ((Int × Int × Int × Int × (List (Int × Int × Int)) × (List (Int × Int × Int × Int × Int × Int)) × (List Int) × (List (List Int × Int))) ⊕ (Int × Int × (List (Int × Int × Int)) × (List (Int × Int × Int × Int × Int × Int)) × (List Int) × (List (List Int × Int)))) := q59_0 P52 P57 a0 a1 a2 a3 a4 a5 a6 a7
noncomputable def L59_0 : Int × Int × Int × Int × (List (Int × Int × Int)) × (List (Int × Int × Int × Int × Int × Int)) × (List Int) × (List (List Int × Int)) → Option (Int × Int × (List (Int × Int × Int)) × (List (Int × Int × Int × Int × Int × Int)) × (List Int) × (List (List Int × Int))) := whileF (fun x => p59_0 x.1 x.2.1 x.2.2.1 x.2.2.2.1 x.2.2.2.2.1 x.2.2.2.2.2.1 x.2.2.2.2.2.2.1 x.2.2.2.2.2.2.2)
theorem v59_0 : l59_0 (T59 P52 P57) = L59_0 := congrArg whileF (funext fun x => (g59_0 P52 P57 x.1 x.2.1 x.2.2.1 x.2.2.2.1 x.2.2.2.2.1 x.2.2.2.2.2.1 x.2.2.2.2.2.2.1 x.2.2.2.2.2.2.2).trans (show q59_0 P52 P57 x.1 x.2.1 x.2.2.1 x.2.2.2.1 x.2.2.2.2.1 x.2.2.2.2.2.1 x.2.2.2.2.2.2.1 x.2.2.2.2.2.2.2 = q59_0 P52 P57 x.1 x.2.1 x.2.2.1 x.2.2.2.1 x.2.2.2.2.1 x.2.2.2.2.2.1 x.2.2.2.2.2.2.1 x.2.2.2.2.2.2.2 from rfl))
def b59_2 : DCode := (.seq (.reg [.op ⟨some 47, .bin true .lss (.t 46) (.t 45), none⟩ none]) (.seq (.cond (.t 47) .skip (.exit 4)) (.seq (.blk 5 (.seq (.reg [.op ⟨some 48, .mov (.t 46), none⟩ none,
  .op ⟨some 10, .mov (.t 48), none⟩ none]) (.seq (.reg [.op ⟨some 49, .mov (.t 1), none⟩ none,
  .op ⟨some 50, .mov (.t 10), none⟩ none,
  .op ⟨some 51, .xcall 52 [(.t 49), (.t 50)], none⟩ none,
  .op ⟨some 52, .mov (.t 51), none⟩ none,
  .op ⟨some 53, .mov (.t 0), some (52, true)⟩ none,
  .op ⟨some 54, .mov (.t 10), some (52, true)⟩ none,
  .op ⟨some 55, .mov (.t 7), some (52, true)⟩ none,
  .op ⟨some 56, .xcall 57 [(.t 53), (.t 54), (.t 55)], some (52, true)⟩ none,
  .op ⟨some 57, .pick (.t 52) (.t 56) (.c (.bool false)), none⟩ none]) (.cond (.t 57) (.reg [.op ⟨some 58, .mov (.t 9), none⟩ none,
  .op ⟨some 59, .bin true .add (.t 58) (.c (.int .i64 1)), none⟩ none,
  .op ⟨some 9, .mov (.t 59), none⟩ none]) .skip)))) (.reg [.op ⟨some 60, .bin true .add (.t 46) (.c (.int .i64 1)), none⟩ none,
  .op ⟨some 46, .mov (.t 60), none⟩ none]))))
def h59_2 : LSh := ⟨[0, 1, 4, 7, 8, 9, 33, 34, 35, 45, 46], ⟨[(.ptr 0 0), (.v (.int .u64)), (.v (.int .i64)), (.v (.int .i64)), (.ptr 1 0), (.v (.int .i64)), (.v (.sl (.pair (.int .i64) (.pair (.int .i64) (.int .i64))))), (.v (.int .i64)), (.v (.int .i64)), (.v (.int .i64)), (.v (.int .i64))], [(0, (.box [(.v (.sl (.pair (.int .i64) (.pair (.int .i64) (.int .i64))))), (.v (.sl (.pair (.int .i64) (.pair (.int .i64) (.pair (.int .i64) (.pair (.int .i64) (.pair (.int .i64) (.int .i64)))))))), (.mp 2), (.slc 3)])), (1, (.boxT (.pair (.int .i64) (.pair (.int .i64) (.int .i64))))), (2, (.imap 2 false (.int .i64))), (3, (.row 3 (.int .i64)))]⟩, [(.int .u64), (.int .i64), (.int .i64), (.int .i64), (.sl (.pair (.int .i64) (.pair (.int .i64) (.int .i64)))), (.int .i64), (.int .i64), (.int .i64), (.int .i64), (.sl (.pair (.int .i64) (.pair (.int .i64) (.int .i64)))), (.sl (.pair (.int .i64) (.pair (.int .i64) (.pair (.int .i64) (.pair (.int .i64) (.pair (.int .i64) (.int .i64))))))), (.pair (.int .i64) (.pair (.int .i64) (.int .i64))), (.es (.int .i64)), (.sl (.int .i64))], 4, [0, 1, 2, 3]⟩
def x59_2 : List XSh := [⟨(.exit 4), [0, 1, 4, 8, 9, 33, 34, 35], ⟨⟨[(.ptr 0 0), (.v (.int .u64)), (.v (.int .i64)), (.ptr 1 0), (.v (.int .i64)), (.v (.sl (.pair (.int .i64) (.pair (.int .i64) (.int .i64))))), (.v (.int .i64)), (.v (.int .i64))], [(0, (.box [(.v (.sl (.pair (.int .i64) (.pair (.int .i64) (.int .i64))))), (.v (.sl (.pair (.int .i64) (.pair (.int .i64) (.pair (.int .i64) (.pair (.int .i64) (.pair (.int .i64) (.int .i64)))))))), (.mp 2), (.slc 3)])), (1, (.boxT (.pair (.int .i64) (.pair (.int .i64) (.int .i64))))), (2, (.imap 2 false (.int .i64))), (3, (.row 3 (.int .i64)))]⟩, [(.int .u64), (.int .i64), (.int .i64), (.sl (.pair (.int .i64) (.pair (.int .i64) (.int .i64)))), (.int .i64), (.int .i64), (.sl (.pair (.int .i64) (.pair (.int .i64) (.int .i64)))), (.sl (.pair (.int .i64) (.pair (.int .i64) (.pair (.int .i64) (.pair (.int .i64) (.pair (.int .i64) (.int .i64))))))), (.pair (.int .i64) (.pair (.int .i64) (.int .i64))), (.es (.int .i64)), (.sl (.int .i64))], [0, 1, 2, 3], 4⟩⟩]
noncomputable def s59_2 (T : List FEnt) : Int × Int × Int × Int × (List (Int × Int × Int)) × Int × Int × Int × Int × (List (Int × Int × Int)) × (List (Int × Int × Int × Int × Int × Int)) × (Int × Int × Int) × (List (List Int × Int)) × (List Int) → Option ((Int × Int × Int × Int × (List (Int × Int × Int)) × Int × Int × Int × Int × (List (Int × Int × Int)) × (List (Int × Int × Int × Int × Int × Int)) × (Int × Int × Int) × (List (List Int × Int)) × (List Int)) ⊕ (Int × Int × Int × (List (Int × Int × Int)) × Int × Int × (List (Int × Int × Int)) × (List (Int × Int × Int × Int × Int × Int)) × (Int × Int × Int) × (List (List Int × Int)) × (List Int))) := dstep (xs := x59_2) h59_2 (dxc T b59_2)
noncomputable def l59_2 (T : List FEnt) : Int × Int × Int × Int × (List (Int × Int × Int)) × Int × Int × Int × Int × (List (Int × Int × Int)) × (List (Int × Int × Int × Int × Int × Int)) × (Int × Int × Int) × (List (List Int × Int)) × (List Int) → Option (Int × Int × Int × (List (Int × Int × Int)) × Int × Int × (List (Int × Int × Int)) × (List (Int × Int × Int × Int × Int × Int)) × (Int × Int × Int) × (List (List Int × Int)) × (List Int)) := whileF (s59_2 T)
noncomputable def q59_2 (F52 : Int × Int → Option (Bool)) (F57 : Int × Int × (List (Int × Int × Int)) × (List (Int × Int × Int × Int × Int × Int)) × (List (List Int × Int)) × (List Int) → Option (Bool × (List (Int × Int × Int)) × (List (Int × Int × Int × Int × Int × Int)) × (List (List Int × Int)) × (List Int))) (a0 : Int) (a1 : Int) (a2 : Int) (a3 : Int) (a4 : List (Int × Int × Int)) (a5 : Int) (a6 : Int) (a7 : Int) (a8 : Int) (a9 : List (Int × Int × Int)) (a10 : List (Int × Int × Int × Int × Int × Int)) (a11 : Int × Int × Int) (a12 : List (List Int × Int)) (a13 : List Int) : Option ((Int × Int × Int × Int × (List (Int × Int × Int)) × Int × Int × Int × Int × (List (Int × Int × Int)) × (List (Int × Int × Int × Int × Int × Int)) × (Int × Int × Int) × (List (List Int × Int)) × (List Int)) ⊕ (Int × Int × Int × (List (Int × Int × Int)) × Int × Int × (List (Int × Int × Int)) × (List (Int × Int × Int × Int × Int × Int)) × (Int × Int × Int) × (List (List Int × Int)) × (List Int))) :=
cond (decide (a8 < a7)) (
(F52 (a0, a8)).bind fun (r3 : Bool) => (
cond r3 (
(F57 (a8, a2, a9, a10, a12, a13)).bind fun (r4 : Bool × (List (Int × Int × Int)) × (List (Int × Int × Int × Int × Int × Int)) × (List (List Int × Int)) × (List Int)) => (
cond r4.1 (
chk (fits .i64 (a3 + (1 : Int))) (
chk (fits .i64 (a8 + (1 : Int))) (
some (Sum.inl (a0, a1, a2, (a3 + (1 : Int)), a4, a5, a6, a7, (a8 + (1 : Int)), r4.2.1, r4.2.2.1, a11, r4.2.2.2.1, r4.2.2.2.2))))) (
chk (fits .i64 (a8 + (1 : Int))) (
some (Sum.inl (a0, a1, a2, a3, a4, a5, a6, a7, (a8 + (1 : Int)), r4.2.1, r4.2.2.1, a11, r4.2.2.2.1, r4.2.2.2.2)))))) (
chk (fits .i64 (a8 + (1 : Int))) (
some (Sum.inl (a0, a1, a2, a3, a4, a5, a6, a7, (a8 + (1 : Int)), a9, a10, a11, a12, a13)))))) (
some (Sum.inr (a0, a1, a3, a4, a5, a6, a9, a10, a11, a12, a13)))
theorem g59_2 (F52 : Int × Int → Option (Bool)) (F57 : Int × Int × (List (Int × Int × Int)) × (List (Int × Int × Int × Int × Int × Int)) × (List (List Int × Int)) × (List Int) → Option (Bool × (List (Int × Int × Int)) × (List (Int × Int × Int × Int × Int × Int)) × (List (List Int × Int)) × (List Int))) (a0 : Int) (a1 : Int) (a2 : Int) (a3 : Int) (a4 : List (Int × Int × Int)) (a5 : Int) (a6 : Int) (a7 : Int) (a8 : Int) (a9 : List (Int × Int × Int)) (a10 : List (Int × Int × Int × Int × Int × Int)) (a11 : Int × Int × Int) (a12 : List (List Int × Int)) (a13 : List Int) : s59_2 (T59 F52 F57) (a0, a1, a2, a3, a4, a5, a6, a7, a8, a9, a10, a11, a12, a13) = q59_2 F52 F57 a0 a1 a2 a3 a4 a5 a6 a7 a8 a9 a10 a11 a12 a13 := by kernel_rfl
noncomputable def p59_2 (a0 : Int) (a1 : Int) (a2 : Int) (a3 : Int) (a4 : List (Int × Int × Int)) (a5 : Int) (a6 : Int) (a7 : Int) (a8 : Int) (a9 : List (Int × Int × Int)) (a10 : List (Int × Int × Int × Int × Int × Int)) (a11 : Int × Int × Int) (a12 : List (List Int × Int)) (a13 : List Int) : Option ((Int × Int × Int × Int × (List (Int × Int × Int)) × Int × Int × Int × Int × (List (Int × Int × Int)) × (List (Int × Int × Int × Int × Int × Int)) × (Int × Int × Int) × (List (List Int × Int)) × (List Int)) ⊕ (Int × Int × Int × (List (Int × Int × Int)) × Int × Int × (List (Int × Int × Int)) × (List (Int × Int × Int × Int × Int × Int)) × (Int × Int × Int) × (List (List Int × Int)) × (List Int))) := q59_2 P52 P57 a0 a1 a2 a3 a4 a5 a6 a7 a8 a9 a10 a11 a12 a13
noncomputable def L59_2 : Int × Int × Int × Int × (List (Int × Int × Int)) × Int × Int × Int × Int × (List (Int × Int × Int)) × (List (Int × Int × Int × Int × Int × Int)) × (Int × Int × Int) × (List (List Int × Int)) × (List Int) → Option (Int × Int × Int × (List (Int × Int × Int)) × Int × Int × (List (Int × Int × Int)) × (List (Int × Int × Int × Int × Int × Int)) × (Int × Int × Int) × (List (List Int × Int)) × (List Int)) := whileF (fun x => p59_2 x.1 x.2.1 x.2.2.1 x.2.2.2.1 x.2.2.2.2.1 x.2.2.2.2.2.1 x.2.2.2.2.2.2.1 x.2.2.2.2.2.2.2.1 x.2.2.2.2.2.2.2.2.1 x.2.2.2.2.2.2.2.2.2.1 x.2.2.2.2.2.2.2.2.2.2.1 x.2.2.2.2.2.2.2.2.2.2.2.1 x.2.2.2.2.2.2.2.2.2.2.2.2.1 x.2.2.2.2.2.2.2.2.2.2.2.2.2)
theorem v59_2 : l59_2 (T59 P52 P57) = L59_2 := congrArg whileF (funext fun x => (g59_2 P52 P57 x.1 x.2.1 x.2.2.1 x.2.2.2.1 x.2.2.2.2.1 x.2.2.2.2.2.1 x.2.2.2.2.2.2.1 x.2.2.2.2.2.2.2.1 x.2.2.2.2.2.2.2.2.1 x.2.2.2.2.2.2.2.2.2.1 x.2.2.2.2.2.2.2.2.2.2.1 x.2.2.2.2.2.2.2.2.2.2.2.1 x.2.2.2.2.2.2.2.2.2.2.2.2.1 x.2.2.2.2.2.2.2.2.2.2.2.2.2).trans (show q59_2 P52 P57 x.1 x.2.1 x.2.2.1 x.2.2.2.1 x.2.2.2.2.1 x.2.2.2.2.2.1 x.2.2.2.2.2.2.1 x.2.2.2.2.2.2.2.1 x.2.2.2.2.2.2.2.2.1 x.2.2.2.2.2.2.2.2.2.1 x.2.2.2.2.2.2.2.2.2.2.1 x.2.2.2.2.2.2.2.2.2.2.2.1 x.2.2.2.2.2.2.2.2.2.2.2.2.1 x.2.2.2.2.2.2.2.2.2.2.2.2.2 = q59_2 P52 P57 x.1 x.2.1 x.2.2.1 x.2.2.2.1 x.2.2.2.2.1 x.2.2.2.2.2.1 x.2.2.2.2.2.2.1 x.2.2.2.2.2.2.2.1 x.2.2.2.2.2.2.2.2.1 x.2.2.2.2.2.2.2.2.2.1 x.2.2.2.2.2.2.2.2.2.2.1 x.2.2.2.2.2.2.2.2.2.2.2.1 x.2.2.2.2.2.2.2.2.2.2.2.2.1 x.2.2.2.2.2.2.2.2.2.2.2.2.2 from rfl))
def b59_1 : DCode := (.seq (.reg [.op ⟨some 36, .bin true .lss (.t 35) (.t 34), none⟩ none]) (.seq (.cond (.t 36) .skip (.exit 2)) (.seq (.blk 3 (.seq (.reg [.op ⟨some 37, .mov (.t 35), none⟩ none,
  .op ⟨some 38, .idx (.t 33) (.t 35) 3, none⟩ none,
  .op ⟨some 39, .ldn (.t 38) 3 false, none⟩ none,
  .op ⟨some 8, .alc [(.int .i64 0), (.int .i64 0), (.int .i64 0)], none⟩ none,
  .op ⟨some 7, .mov (.t 37), none⟩ none,
  .op ⟨none, .sto (.t 8) (.t 39) 3, none⟩ none]) (.seq (.reg [.op ⟨some 9, .mov (.c (.int .i64 0)), none⟩ none]) (.seq (.seq (.reg [.op ⟨some 40, .mov (.t 0), none⟩ none,
  .op ⟨some 41, .nilc (.t 40), none⟩ none,
  .op ⟨some 42, .fld (.t 41) 0, none⟩ none,
  .op ⟨some 43, .fld (.t 42) 1, none⟩ none,
  .op ⟨some 44, .ld1 (.t 43) false, none⟩ none,
  .op ⟨some 45, .len (.t 44), none⟩ none,
  .op ⟨some 46, .mov (.c (.int .i64 0)), none⟩ none]) (.blk 4 (.loop h59_2 x59_2 b59_2))) (.reg [.op ⟨some 61, .mov (.t 4), none⟩ none,
  .op ⟨some 62, .fld (.t 8) 2, none⟩ none,
  .op ⟨some 63, .ld1 (.t 62) false, none⟩ none,
  .op ⟨some 64, .mov (.t 9), none⟩ none,
  .op ⟨some 65, .mnx false (.t 63) (.t 64), none⟩ none,
  .op ⟨some 66, .bin true .add (.t 61) (.t 65), none⟩ none,
  .op ⟨some 4, .mov (.t 66), none⟩ none]))))) (.reg [.op ⟨some 67, .bin true .add (.t 35) (.c (.int .i64 1)), none⟩ none,
  .op ⟨some 35, .mov (.t 67), none⟩ none]))))
def h59_1 : LSh := ⟨[0, 1, 4, 33, 34, 35], ⟨[(.ptr 0 0), (.v (.int .u64)), (.v (.int .i64)), (.v (.sl (.pair (.int .i64) (.pair (.int .i64) (.int .i64))))), (.v (.int .i64)), (.v (.int .i64))], [(0, (.box [(.v (.sl (.pair (.int .i64) (.pair (.int .i64) (.int .i64))))), (.v (.sl (.pair (.int .i64) (.pair (.int .i64) (.pair (.int .i64) (.pair (.int .i64) (.pair (.int .i64) (.int .i64)))))))), (.mp 1), (.slc 2)])), (1, (.imap 2 false (.int .i64))), (2, (.row 3 (.int .i64)))]⟩, [(.int .u64), (.int .i64), (.sl (.pair (.int .i64) (.pair (.int .i64) (.int .i64)))), (.int .i64), (.int .i64), (.sl (.pair (.int .i64) (.pair (.int .i64) (.int .i64)))), (.sl (.pair (.int .i64) (.pair (.int .i64) (.pair (.int .i64) (.pair (.int .i64) (.pair (.int .i64) (.int .i64))))))), (.es (.int .i64)), (.sl (.int .i64))], 3, [0, 1, 2]⟩
def x59_1 : List XSh := [⟨(.exit 2), [4], ⟨⟨[(.v (.int .i64))], [(0, (.box [(.v (.sl (.pair (.int .i64) (.pair (.int .i64) (.int .i64))))), (.v (.sl (.pair (.int .i64) (.pair (.int .i64) (.pair (.int .i64) (.pair (.int .i64) (.pair (.int .i64) (.int .i64)))))))), (.mp 1), (.slc 2)])), (1, (.imap 2 false (.int .i64))), (2, (.row 3 (.int .i64)))]⟩, [(.int .i64), (.sl (.pair (.int .i64) (.pair (.int .i64) (.int .i64)))), (.sl (.pair (.int .i64) (.pair (.int .i64) (.pair (.int .i64) (.pair (.int .i64) (.pair (.int .i64) (.int .i64))))))), (.es (.int .i64)), (.sl (.int .i64))], [0, 1, 2], 3⟩⟩]
noncomputable def s59_1 (T : List FEnt) : Int × Int × (List (Int × Int × Int)) × Int × Int × (List (Int × Int × Int)) × (List (Int × Int × Int × Int × Int × Int)) × (List (List Int × Int)) × (List Int) → Option ((Int × Int × (List (Int × Int × Int)) × Int × Int × (List (Int × Int × Int)) × (List (Int × Int × Int × Int × Int × Int)) × (List (List Int × Int)) × (List Int)) ⊕ (Int × (List (Int × Int × Int)) × (List (Int × Int × Int × Int × Int × Int)) × (List (List Int × Int)) × (List Int))) := dstep (xs := x59_1) h59_1 (dxc T b59_1)
noncomputable def l59_1 (T : List FEnt) : Int × Int × (List (Int × Int × Int)) × Int × Int × (List (Int × Int × Int)) × (List (Int × Int × Int × Int × Int × Int)) × (List (List Int × Int)) × (List Int) → Option (Int × (List (Int × Int × Int)) × (List (Int × Int × Int × Int × Int × Int)) × (List (List Int × Int)) × (List Int)) := whileF (s59_1 T)
noncomputable def q59_1 (F52 : Int × Int → Option (Bool)) (F57 : Int × Int × (List (Int × Int × Int)) × (List (Int × Int × Int × Int × Int × Int)) × (List (List Int × Int)) × (List Int) → Option (Bool × (List (Int × Int × Int)) × (List (Int × Int × Int × Int × Int × Int)) × (List (List Int × Int)) × (List Int))) (l59_2 : Int × Int × Int × Int × (List (Int × Int × Int)) × Int × Int × Int × Int × (List (Int × Int × Int)) × (List (Int × Int × Int × Int × Int × Int)) × (Int × Int × Int) × (List (List Int × Int)) × (List Int) → Option (Int × Int × Int × (List (Int × Int × Int)) × Int × Int × (List (Int × Int × Int)) × (List (Int × Int × Int × Int × Int × Int)) × (Int × Int × Int) × (List (List Int × Int)) × (List Int))) (a0 : Int) (a1 : Int) (a2 : List (Int × Int × Int)) (a3 : Int) (a4 : Int) (a5 : List (Int × Int × Int)) (a6 : List (Int × Int × Int × Int × Int × Int)) (a7 : List (List Int × Int)) (a8 : List Int) : Option ((Int × Int × (List (Int × Int × Int)) × Int × Int × (List (Int × Int × Int)) × (List (Int × Int × Int × Int × Int × Int)) × (List (List Int × Int)) × (List Int)) ⊕ (Int × (List (Int × Int × Int)) × (List (Int × Int × Int × Int × Int × Int)) × (List (List Int × Int)) × (List Int))) :=
cond (decide (a4 < a3)) (
chk (inR a4 (List.length a2)) (
(l59_2 (a0, a1, a4, (0 : Int), a2, a3, a4, (↑(List.length a6) : Int), (0 : Int), a5, a6, (ix a2 a4), a7, a8)).bind fun (y5 : Int × Int × Int × (List (Int × Int × Int)) × Int × Int × (List (Int × Int × Int)) × (List (Int × Int × Int × Int × Int × Int)) × (Int × Int × Int) × (List (List Int × Int)) × (List Int)) => (
chk (fits .i64 (y5.2.1 + (min y5.2.2.2.2.2.2.2.2.1.2.2 y5.2.2.1))) (
chk (fits .i64 (y5.2.2.2.2.2.1 + (1 : Int))) (
some (Sum.inl (y5.1, (y5.2.1 + (min y5.2.2.2.2.2.2.2.2.1.2.2 y5.2.2.1)), y5.2.2.2.1, y5.2.2.2.2.1, (y5.2.2.2.2.2.1 + (1 : Int)), y5.2.2.2.2.2.2.1, y5.2.2.2.2.2.2.2.1, y5.2.2.2.2.2.2.2.2.2.1, y5.2.2.2.2.2.2.2.2.2.2))))))) (
some (Sum.inr (a1, a5, a6, a7, a8)))
theorem g59_1 (F52 : Int × Int → Option (Bool)) (F57 : Int × Int × (List (Int × Int × Int)) × (List (Int × Int × Int × Int × Int × Int)) × (List (List Int × Int)) × (List Int) → Option (Bool × (List (Int × Int × Int)) × (List (Int × Int × Int × Int × Int × Int)) × (List (List Int × Int)) × (List Int))) (a0 : Int) (a1 : Int) (a2 : List (Int × Int × Int)) (a3 : Int) (a4 : Int) (a5 : List (Int × Int × Int)) (a6 : List (Int × Int × Int × Int × Int × Int)) (a7 : List (List Int × Int)) (a8 : List Int) : s59_1 (T59 F52 F57) (a0, a1, a2, a3, a4, a5, a6, a7, a8) = q59_1 F52 F57 (l59_2 (T59 F52 F57)) a0 a1 a2 a3 a4 a5 a6 a7 a8 := by kernel_rfl
noncomputable def p59_1 (a0 : Int) (a1 : Int) (a2 : List (Int × Int × Int)) (a3 : Int) (a4 : Int) (a5 : List (Int × Int × Int)) (a6 : List (Int × Int × Int × Int × Int × Int)) (a7 : List (List Int × Int)) (a8 : List Int) : Option ((Int × Int × (List (Int × Int × Int)) × Int × Int × (List (Int × Int × Int)) × (List (Int × Int × Int × Int × Int × Int)) × (List (List Int × Int)) × (List Int)) ⊕ (Int × (List (Int × Int × Int)) × (List (Int × Int × Int × Int × Int × Int)) × (List (List Int × Int)) × (List Int))) := q59_1 P52 P57 L59_2 a0 a1 a2 a3 a4 a5 a6 a7 a8
noncomputable def L59_1 : Int × Int × (List (Int × Int × Int)) × Int × Int × (List (Int × Int × Int)) × (List (Int × Int × Int × Int × Int × Int)) × (List (List Int × Int)) × (List Int) → Option (Int × (List (Int × Int × Int)) × (List (Int × Int × Int × Int × Int × Int)) × (List (List Int × Int)) × (List Int)) := whileF (fun x => p59_1 x.1 x.2.1 x.2.2.1 x.2.2.2.1 x.2.2.2.2.1 x.2.2.2.2.2.1 x.2.2.2.2.2.2.1 x.2.2.2.2.2.2.2.1 x.2.2.2.2.2.2.2.2)
theorem v59_1 : l59_1 (T59 P52 P57) = L59_1 := congrArg whileF (funext fun x => (g59_1 P52 P57 x.1 x.2.1 x.2.2.1 x.2.2.2.1 x.2.2.2.2.1 x.2.2.2.2.2.1 x.2.2.2.2.2.2.1 x.2.2.2.2.2.2.2.1 x.2.2.2.2.2.2.2.2).trans (show q59_1 P52 P57 (l59_2 (T59 P52 P57)) x.1 x.2.1 x.2.2.1 x.2.2.2.1 x.2.2.2.2.1 x.2.2.2.2.2.1 x.2.2.2.2.2.2.1 x.2.2.2.2.2.2.2.1 x.2.2.2.2.2.2.2.2 = q59_1 P52 P57 L59_2 x.1 x.2.1 x.2.2.1 x.2.2.2.1 x.2.2.2.2.1 x.2.2.2.2.2.1 x.2.2.2.2.2.2.1 x.2.2.2.2.2.2.2.1 x.2.2.2.2.2.2.2.2 from by rw [v59_2]))
def c59 : DCode := (.seq (.reg [.op ⟨some 4, .mov (.c (.int .i64 0)), none⟩ none]) (.seq (.seq (.reg [.op ⟨some 11, .mov (.t 0), none⟩ none,
  .op ⟨some 12, .nilc (.t 11), none⟩ none,
  .op ⟨some 13, .fld (.t 12) 3, none⟩ none,
  .op ⟨some 14, .ld1 (.t 13) false, none⟩ none,
  .op ⟨some 15, .len (.t 14), none⟩ none,
  .op ⟨some 16, .mov (.c (.int .i64 0)), none⟩ none]) (.blk 0 (.loop h59_0 x59_0 b59_0))) (.seq (.seq (.reg [.op ⟨some 29, .mov (.t 0), none⟩ none,
  .op ⟨some 30, .nilc (.t 29), none⟩ none,
  .op ⟨some 31, .fld (.t 30) 0, none⟩ none,
  .op ⟨some 32, .fld (.t 31) 0, none⟩ none,
  .op ⟨some 33, .ld1 (.t 32) false, none⟩ none,
  .op ⟨some 34, .len (.t 33), none⟩ none,
  .op ⟨some 35, .mov (.c (.int .i64 0)), none⟩ none]) (.blk 2 (.loop h59_1 x59_1 b59_1))) (.seq (.reg [.op ⟨some 68, .mov (.t 4), none⟩ none,
  .op ⟨some 4, .mov (.t 68), none⟩ none]) .ret))))
theorem ok59 : L.Fn Try.prog 59 69 [(.t 4)] (erase c59) := L.Fn.of hmix Try.func59 [] (by kernel_rfl)
def sh59 : FSh := ⟨⟨[(.ptr 0 0), (.v (.int .u64))], [(0, (.box [(.v (.sl (.pair (.int .i64) (.pair (.int .i64) (.int .i64))))), (.v (.sl (.pair (.int .i64) (.pair (.int .i64) (.pair (.int .i64) (.pair (.int .i64) (.pair (.int .i64) (.int .i64)))))))), (.mp 1), (.slc 2)])), (1, (.imap 2 false (.int .i64))), (2, (.row 3 (.int .i64)))]⟩, [(.int .u64), (.sl (.pair (.int .i64) (.pair (.int .i64) (.int .i64)))), (.sl (.pair (.int .i64) (.pair (.int .i64) (.pair (.int .i64) (.pair (.int .i64) (.pair (.int .i64) (.int .i64))))))), (.es (.int .i64)), (.sl (.int .i64))], 3, ⟨⟨[(.v (.int .i64))], [(0, (.box [(.v (.sl (.pair (.int .i64) (.pair (.int .i64) (.int .i64))))), (.v (.sl (.pair (.int .i64) (.pair (.int .i64) (.pair (.int .i64) (.pair (.int .i64) (.pair (.int .i64) (.int .i64)))))))), (.mp 1), (.slc 2)])), (1, (.imap 2 false (.int .i64))), (2, (.row 3 (.int .i64)))]⟩, [(.int .i64), (.sl (.pair (.int .i64) (.pair (.int .i64) (.int .i64)))), (.sl (.pair (.int .i64) (.pair (.int .i64) (.pair (.int .i64) (.pair (.int .i64) (.pair (.int .i64) (.int .i64))))))), (.es (.int .i64)), (.sl (.int .i64))], [0, 1, 2], 3⟩, false⟩
noncomputable def q59 (F52 : Int × Int → Option (Bool)) (F57 : Int × Int × (List (Int × Int × Int)) × (List (Int × Int × Int × Int × Int × Int)) × (List (List Int × Int)) × (List Int) → Option (Bool × (List (Int × Int × Int)) × (List (Int × Int × Int × Int × Int × Int)) × (List (List Int × Int)) × (List Int))) (l59_0 : Int × Int × Int × Int × (List (Int × Int × Int)) × (List (Int × Int × Int × Int × Int × Int)) × (List Int) × (List (List Int × Int)) → Option (Int × Int × (List (Int × Int × Int)) × (List (Int × Int × Int × Int × Int × Int)) × (List Int) × (List (List Int × Int)))) (l59_1 : Int × Int × (List (Int × Int × Int)) × Int × Int × (List (Int × Int × Int)) × (List (Int × Int × Int × Int × Int × Int)) × (List (List Int × Int)) × (List Int) → Option (Int × (List (Int × Int × Int)) × (List (Int × Int × Int × Int × Int × Int)) × (List (List Int × Int)) × (List Int))) (a0 : Int) (a1 : List (Int × Int × Int)) (a2 : List (Int × Int × Int × Int × Int × Int)) (a3 : List (List Int × Int)) (a4 : List Int) : Option (Int × (List (Int × Int × Int)) × (List (Int × Int × Int × Int × Int × Int)) × (List (List Int × Int)) × (List Int)) :=
(l59_0 (a0, (0 : Int), (↑(List.length a4) : Int), (0 : Int), a1, a2, a4, a3)).bind fun (y2 : Int × Int × (List (Int × Int × Int)) × (List (Int × Int × Int × Int × Int × Int)) × (List Int) × (List (List Int × Int))) => (
(l59_1 (y2.1, y2.2.1, y2.2.2.1, (↑(List.length y2.2.2.1) : Int), (0 : Int), y2.2.2.1, y2.2.2.2.1, y2.2.2.2.2.2, y2.2.2.2.2.1)).bind fun (y6 : Int × (List (Int × Int × Int)) × (List (Int × Int × Int × Int × Int × Int)) × (List (List Int × Int)) × (List Int)) => (
some (y6.1, y6.2.1, y6.2.2.1, y6.2.2.2.1, y6.2.2.2.2)))
theorem g59 (F52 : Int × Int → Option (Bool)) (F57 : Int × Int × (List (Int × Int × Int)) × (List (Int × Int × Int × Int × Int × Int)) × (List (List Int × Int)) × (List Int) → Option (Bool × (List (Int × Int × Int)) × (List (Int × Int × Int × Int × Int × Int)) × (List (List Int × Int)) × (List Int))) (a0 : Int) (a1 : List (Int × Int × Int)) (a2 : List (Int × Int × Int × Int × Int × Int)) (a3 : List (List Int × Int)) (a4 : List Int) : dxf (T59 F52 F57) sh59 [(.t 4)] c59 (a0, a1, a2, a3, a4) = q59 F52 F57 (l59_0 (T59 F52 F57)) (l59_1 (T59 F52 F57)) a0 a1 a2 a3 a4 := by kernel_rfl
noncomputable def p59 (a0 : Int) (a1 : List (Int × Int × Int)) (a2 : List (Int × Int × Int × Int × Int × Int)) (a3 : List (List Int × Int)) (a4 : List Int) : Option (Int × (List (Int × Int × Int)) × (List (Int × Int × Int × Int × Int × Int)) × (List (List Int × Int)) × (List Int)) := q59 P52 P57 L59_0 L59_1 a0 a1 a2 a3 a4
noncomputable def P59 : Int × (List (Int × Int × Int)) × (List (Int × Int × Int × Int × Int × Int)) × (List (List Int × Int)) × (List Int) → Option (Int × (List (Int × Int × Int)) × (List (Int × Int × Int × Int × Int × Int)) × (List (List Int × Int)) × (List Int)) := fun x => p59 x.1 x.2.1 x.2.2.1 x.2.2.2.1 x.2.2.2.2
theorem v59 : dxf (T59 P52 P57) sh59 [(.t 4)] c59 = P59 := funext fun x => (g59 P52 P57 x.1 x.2.1 x.2.2.1 x.2.2.2.1 x.2.2.2.2).trans (show q59 P52 P57 (l59_0 (T59 P52 P57)) (l59_1 (T59 P52 P57)) x.1 x.2.1 x.2.2.1 x.2.2.2.1 x.2.2.2.2 = q59 P52 P57 L59_0 L59_1 x.1 x.2.1 x.2.2.1 x.2.2.2.1 x.2.2.2.2 from by rw [v59_0, v59_1])
theorem d59 : DC Try.prog 59 sh59 P59 := DC_eq v59 (dxf_sound (sh := sh59) t59 ok59 (by kernel_rfl))
/-! (*bijou/promise.book).proof -/
noncomputable def T45 (F59 : Int × (List (Int × Int × Int)) × (List (Int × Int × Int × Int × Int × Int)) × (List (List Int × Int)) × (List Int) → Option (Int × (List (Int × Int × Int)) × (List (Int × Int × Int × Int × Int × Int)) × (List (List Int × Int)) × (List Int))) : List FEnt := [⟨59, sh59, F59⟩]
theorem t45 : DTblOK Try.prog (T45 P59) := (DTbl_cons' (f := 59) (sh := sh59) (F := P59) d59 (by kernel_rfl) DTbl_nil)
def b45_0 : DCode := (.seq (.reg [.op ⟨some 16, .bin true .lss (.t 15) (.t 14), none⟩ none]) (.seq (.cond (.t 16) .skip (.exit 0)) (.seq (.blk 1 (.seq (.reg [.op ⟨some 17, .mov (.t 15), none⟩ none,
  .op ⟨some 4, .mov (.t 17), none⟩ none]) (.seq (.reg [.op ⟨some 18, .mov (.t 0), none⟩ none,
  .op ⟨some 19, .mov (.t 4), none⟩ none,
  .op ⟨some 20, .xcall 59 [(.t 18), (.t 19)], none⟩ none,
  .op ⟨some 5, .mov (.t 20), none⟩ none]) (.seq (.reg [.op ⟨some 21, .mov (.t 5), none⟩ none,
  .op ⟨some 22, .mov (.t 3), none⟩ none,
  .op ⟨some 23, .bin true .lss (.t 21) (.t 22), none⟩ none]) (.cond (.t 23) (.reg [.op ⟨some 24, .mov (.t 4), none⟩ none,
  .op ⟨some 25, .mov (.t 5), none⟩ none,
  .op ⟨some 2, .mov (.t 24), none⟩ none,
  .op ⟨some 3, .mov (.t 25), none⟩ none]) .skip))))) (.reg [.op ⟨some 26, .bin true .add (.t 15) (.c (.int .u64 1)), none⟩ none,
  .op ⟨some 15, .mov (.t 26), none⟩ none]))))
def h45_0 : LSh := ⟨[0, 2, 3, 14, 15], ⟨[(.ptr 0 0), (.v (.int .u64)), (.v (.int .i64)), (.v (.int .u64)), (.v (.int .u64))], [(0, (.box [(.v (.sl (.pair (.int .i64) (.pair (.int .i64) (.int .i64))))), (.v (.sl (.pair (.int .i64) (.pair (.int .i64) (.pair (.int .i64) (.pair (.int .i64) (.pair (.int .i64) (.int .i64)))))))), (.mp 1), (.slc 2)])), (1, (.imap 2 false (.int .i64))), (2, (.row 3 (.int .i64)))]⟩, [(.int .u64), (.int .i64), (.int .u64), (.int .u64), (.sl (.pair (.int .i64) (.pair (.int .i64) (.int .i64)))), (.sl (.pair (.int .i64) (.pair (.int .i64) (.pair (.int .i64) (.pair (.int .i64) (.pair (.int .i64) (.int .i64))))))), (.es (.int .i64)), (.sl (.int .i64))], 3, [0, 1, 2]⟩
def x45_0 : List XSh := [⟨(.exit 0), [2, 3], ⟨⟨[(.v (.int .u64)), (.v (.int .i64))], [(0, (.box [(.v (.sl (.pair (.int .i64) (.pair (.int .i64) (.int .i64))))), (.v (.sl (.pair (.int .i64) (.pair (.int .i64) (.pair (.int .i64) (.pair (.int .i64) (.pair (.int .i64) (.int .i64)))))))), (.mp 1), (.slc 2)])), (1, (.imap 2 false (.int .i64))), (2, (.row 3 (.int .i64)))]⟩, [(.int .u64), (.int .i64), (.sl (.pair (.int .i64) (.pair (.int .i64) (.int .i64)))), (.sl (.pair (.int .i64) (.pair (.int .i64) (.pair (.int .i64) (.pair (.int .i64) (.pair (.int .i64) (.int .i64))))))), (.es (.int .i64)), (.sl (.int .i64))], [0, 1, 2], 3⟩⟩]
noncomputable def s45_0 (T : List FEnt) : Int × Int × Int × Int × (List (Int × Int × Int)) × (List (Int × Int × Int × Int × Int × Int)) × (List (List Int × Int)) × (List Int) → Option ((Int × Int × Int × Int × (List (Int × Int × Int)) × (List (Int × Int × Int × Int × Int × Int)) × (List (List Int × Int)) × (List Int)) ⊕ (Int × Int × (List (Int × Int × Int)) × (List (Int × Int × Int × Int × Int × Int)) × (List (List Int × Int)) × (List Int))) := dstep (xs := x45_0) h45_0 (dxc T b45_0)
noncomputable def l45_0 (T : List FEnt) : Int × Int × Int × Int × (List (Int × Int × Int)) × (List (Int × Int × Int × Int × Int × Int)) × (List (List Int × Int)) × (List Int) → Option (Int × Int × (List (Int × Int × Int)) × (List (Int × Int × Int × Int × Int × Int)) × (List (List Int × Int)) × (List Int)) := whileF (s45_0 T)
noncomputable def q45_0 (F59 : Int × (List (Int × Int × Int)) × (List (Int × Int × Int × Int × Int × Int)) × (List (List Int × Int)) × (List Int) → Option (Int × (List (Int × Int × Int)) × (List (Int × Int × Int × Int × Int × Int)) × (List (List Int × Int)) × (List Int))) (a0 : Int) (a1 : Int) (a2 : Int) (a3 : Int) (a4 : List (Int × Int × Int)) (a5 : List (Int × Int × Int × Int × Int × Int)) (a6 : List (List Int × Int)) (a7 : List Int) : Option ((Int × Int × Int × Int × (List (Int × Int × Int)) × (List (Int × Int × Int × Int × Int × Int)) × (List (List Int × Int)) × (List Int)) ⊕ (Int × Int × (List (Int × Int × Int)) × (List (Int × Int × Int × Int × Int × Int)) × (List (List Int × Int)) × (List Int))) :=
cond (decide (a3 < a2)) (
(F59 (a3, a4, a5, a6, a7)).bind fun (r2 : Int × (List (Int × Int × Int)) × (List (Int × Int × Int × Int × Int × Int)) × (List (List Int × Int)) × (List Int)) => (
cond (decide (r2.1 < a1)) (
chk (fits .u64 (a3 + (1 : Int))) (
some (Sum.inl (a3, r2.1, a2, (a3 + (1 : Int)), r2.2.1, r2.2.2.1, r2.2.2.2.1, r2.2.2.2.2)))) (
chk (fits .u64 (a3 + (1 : Int))) (
some (Sum.inl (a0, a1, a2, (a3 + (1 : Int)), r2.2.1, r2.2.2.1, r2.2.2.2.1, r2.2.2.2.2)))))) (
some (Sum.inr (a0, a1, a4, a5, a6, a7)))
theorem g45_0 (F59 : Int × (List (Int × Int × Int)) × (List (Int × Int × Int × Int × Int × Int)) × (List (List Int × Int)) × (List Int) → Option (Int × (List (Int × Int × Int)) × (List (Int × Int × Int × Int × Int × Int)) × (List (List Int × Int)) × (List Int))) (a0 : Int) (a1 : Int) (a2 : Int) (a3 : Int) (a4 : List (Int × Int × Int)) (a5 : List (Int × Int × Int × Int × Int × Int)) (a6 : List (List Int × Int)) (a7 : List Int) : s45_0 (T45 F59) (a0, a1, a2, a3, a4, a5, a6, a7) = q45_0 F59 a0 a1 a2 a3 a4 a5 a6 a7 := by kernel_rfl
noncomputable def p45_0 (a0 : Int) (a1 : Int) (a2 : Int) (a3 : Int) (a4 : List (Int × Int × Int)) (a5 : List (Int × Int × Int × Int × Int × Int)) (a6 : List (List Int × Int)) (a7 : List Int) : Option ((Int × Int × Int × Int × (List (Int × Int × Int)) × (List (Int × Int × Int × Int × Int × Int)) × (List (List Int × Int)) × (List Int)) ⊕ (Int × Int × (List (Int × Int × Int)) × (List (Int × Int × Int × Int × Int × Int)) × (List (List Int × Int)) × (List Int))) := q45_0 P59 a0 a1 a2 a3 a4 a5 a6 a7
noncomputable def L45_0 : Int × Int × Int × Int × (List (Int × Int × Int)) × (List (Int × Int × Int × Int × Int × Int)) × (List (List Int × Int)) × (List Int) → Option (Int × Int × (List (Int × Int × Int)) × (List (Int × Int × Int × Int × Int × Int)) × (List (List Int × Int)) × (List Int)) := whileF (fun x => p45_0 x.1 x.2.1 x.2.2.1 x.2.2.2.1 x.2.2.2.2.1 x.2.2.2.2.2.1 x.2.2.2.2.2.2.1 x.2.2.2.2.2.2.2)
theorem v45_0 : l45_0 (T45 P59) = L45_0 := congrArg whileF (funext fun x => (g45_0 P59 x.1 x.2.1 x.2.2.1 x.2.2.2.1 x.2.2.2.2.1 x.2.2.2.2.2.1 x.2.2.2.2.2.2.1 x.2.2.2.2.2.2.2).trans (show q45_0 P59 x.1 x.2.1 x.2.2.1 x.2.2.2.1 x.2.2.2.2.1 x.2.2.2.2.2.1 x.2.2.2.2.2.2.1 x.2.2.2.2.2.2.2 = q45_0 P59 x.1 x.2.1 x.2.2.1 x.2.2.2.1 x.2.2.2.2.1 x.2.2.2.2.2.1 x.2.2.2.2.2.2.1 x.2.2.2.2.2.2.2 from rfl))
def c45 : DCode := (.seq (.reg [.op ⟨some 2, .mov (.c (.int .u64 0)), none⟩ none,
  .op ⟨some 3, .mov (.c (.int .i64 0)), none⟩ none]) (.seq (.reg [.op ⟨some 6, .mov (.t 0), none⟩ none,
  .op ⟨some 7, .xcall 59 [(.t 6), (.c (.int .u64 0))], none⟩ none,
  .op ⟨some 3, .mov (.t 7), none⟩ none]) (.seq (.seq (.reg [.op ⟨some 8, .mov (.t 0), none⟩ none,
  .op ⟨some 9, .nilc (.t 8), none⟩ none,
  .op ⟨some 10, .fld (.t 9) 0, none⟩ none,
  .op ⟨some 11, .fld (.t 10) 1, none⟩ none,
  .op ⟨some 12, .ld1 (.t 11) false, none⟩ none,
  .op ⟨some 13, .len (.t 12), none⟩ none,
  .op ⟨some 14, .bin true .shl (.c (.int .u64 1)) (.t 13), none⟩ none,
  .op ⟨some 15, .mov (.c (.int .u64 0)), none⟩ none]) (.blk 0 (.loop h45_0 x45_0 b45_0))) (.seq (.reg [.op ⟨some 27, .mov (.t 2), none⟩ none,
  .op ⟨some 28, .mov (.t 3), none⟩ none,
  .op ⟨some 2, .mov (.t 27), none⟩ none,
  .op ⟨some 3, .mov (.t 28), none⟩ none]) .ret))))
theorem ok45 : L.Fn Try.prog 45 29 [(.t 2), (.t 3)] (erase c45) := L.Fn.of hmix Try.func45 [] (by kernel_rfl)
def sh45 : FSh := ⟨⟨[(.ptr 0 0)], [(0, (.box [(.v (.sl (.pair (.int .i64) (.pair (.int .i64) (.int .i64))))), (.v (.sl (.pair (.int .i64) (.pair (.int .i64) (.pair (.int .i64) (.pair (.int .i64) (.pair (.int .i64) (.int .i64)))))))), (.mp 1), (.slc 2)])), (1, (.imap 2 false (.int .i64))), (2, (.row 3 (.int .i64)))]⟩, [(.sl (.pair (.int .i64) (.pair (.int .i64) (.int .i64)))), (.sl (.pair (.int .i64) (.pair (.int .i64) (.pair (.int .i64) (.pair (.int .i64) (.pair (.int .i64) (.int .i64))))))), (.es (.int .i64)), (.sl (.int .i64))], 3, ⟨⟨[(.tup [(.v (.int .u64)), (.v (.int .i64))])], [(0, (.box [(.v (.sl (.pair (.int .i64) (.pair (.int .i64) (.int .i64))))), (.v (.sl (.pair (.int .i64) (.pair (.int .i64) (.pair (.int .i64) (.pair (.int .i64) (.pair (.int .i64) (.int .i64)))))))), (.mp 1), (.slc 2)])), (1, (.imap 2 false (.int .i64))), (2, (.row 3 (.int .i64)))]⟩, [(.int .u64), (.int .i64), (.sl (.pair (.int .i64) (.pair (.int .i64) (.int .i64)))), (.sl (.pair (.int .i64) (.pair (.int .i64) (.pair (.int .i64) (.pair (.int .i64) (.pair (.int .i64) (.int .i64))))))), (.es (.int .i64)), (.sl (.int .i64))], [0, 1, 2], 3⟩, false⟩
noncomputable def q45 (F59 : Int × (List (Int × Int × Int)) × (List (Int × Int × Int × Int × Int × Int)) × (List (List Int × Int)) × (List Int) → Option (Int × (List (Int × Int × Int)) × (List (Int × Int × Int × Int × Int × Int)) × (List (List Int × Int)) × (List Int))) (l45_0 : Int × Int × Int × Int × (List (Int × Int × Int)) × (List (Int × Int × Int × Int × Int × Int)) × (List (List Int × Int)) × (List Int) → Option (Int × Int × (List (Int × Int × Int)) × (List (Int × Int × Int × Int × Int × Int)) × (List (List Int × Int)) × (List Int))) (a0 : List (Int × Int × Int)) (a1 : List (Int × Int × Int × Int × Int × Int)) (a2 : List (List Int × Int)) (a3 : List Int) : Option (Int × Int × (List (Int × Int × Int)) × (List (Int × Int × Int × Int × Int × Int)) × (List (List Int × Int)) × (List Int)) :=
(F59 ((0 : Int), a0, a1, a2, a3)).bind fun (r1 : Int × (List (Int × Int × Int)) × (List (Int × Int × Int × Int × Int × Int)) × (List (List Int × Int)) × (List Int)) => (
chk (decide ((0 : Int) ≤ (↑(List.length r1.2.2.1) : Int))) (
(l45_0 ((0 : Int), r1.1, (shlI .u64 (1 : Int) (↑(List.length r1.2.2.1) : Int)), (0 : Int), r1.2.1, r1.2.2.1, r1.2.2.2.1, r1.2.2.2.2)).bind fun (y3 : Int × Int × (List (Int × Int × Int)) × (List (Int × Int × Int × Int × Int × Int)) × (List (List Int × Int)) × (List Int)) => (
some (y3.1, y3.2.1, y3.2.2.1, y3.2.2.2.1, y3.2.2.2.2.1, y3.2.2.2.2.2))))
theorem g45 (F59 : Int × (List (Int × Int × Int)) × (List (Int × Int × Int × Int × Int × Int)) × (List (List Int × Int)) × (List Int) → Option (Int × (List (Int × Int × Int)) × (List (Int × Int × Int × Int × Int × Int)) × (List (List Int × Int)) × (List Int))) (a0 : List (Int × Int × Int)) (a1 : List (Int × Int × Int × Int × Int × Int)) (a2 : List (List Int × Int)) (a3 : List Int) : dxf (T45 F59) sh45 [(.t 2), (.t 3)] c45 (a0, a1, a2, a3) = q45 F59 (l45_0 (T45 F59)) a0 a1 a2 a3 := by kernel_rfl
noncomputable def p45 (a0 : List (Int × Int × Int)) (a1 : List (Int × Int × Int × Int × Int × Int)) (a2 : List (List Int × Int)) (a3 : List Int) : Option (Int × Int × (List (Int × Int × Int)) × (List (Int × Int × Int × Int × Int × Int)) × (List (List Int × Int)) × (List Int)) := q45 P59 L45_0 a0 a1 a2 a3
noncomputable def P45 : (List (Int × Int × Int)) × (List (Int × Int × Int × Int × Int × Int)) × (List (List Int × Int)) × (List Int) → Option (Int × Int × (List (Int × Int × Int)) × (List (Int × Int × Int × Int × Int × Int)) × (List (List Int × Int)) × (List Int)) := fun x => p45 x.1 x.2.1 x.2.2.1 x.2.2.2
theorem v45 : dxf (T45 P59) sh45 [(.t 2), (.t 3)] c45 = P45 := funext fun x => (g45 P59 x.1 x.2.1 x.2.2.1 x.2.2.2).trans (show q45 P59 (l45_0 (T45 P59)) x.1 x.2.1 x.2.2.1 x.2.2.2 = q45 P59 L45_0 x.1 x.2.1 x.2.2.1 x.2.2.2 from by rw [v45_0])
theorem d45 : DC Try.prog 45 sh45 P45 := DC_eq v45 (dxf_sound (sh := sh45) t45 ok45 (by kernel_rfl))
/-! bijou/promise.Most -/
noncomputable def T22 (F11 : (List (Int × Int × Int)) × (List (Int × Int × Int × Int × Int × Int)) → Option (Int)) (F37 : (List (Int × Int × Int)) × (List (Int × Int × Int × Int × Int × Int)) → Option ((List (Int × Int × Int)) × (List (Int × Int × Int × Int × Int × Int)) × (List (List Int × Int)) × (List Int))) (F45 : (List (Int × Int × Int)) × (List (Int × Int × Int × Int × Int × Int)) × (List (List Int × Int)) × (List Int) → Option (Int × Int × (List (Int × Int × Int)) × (List (Int × Int × Int × Int × Int × Int)) × (List (List Int × Int)) × (List Int))) : List FEnt := [⟨11, sh11, F11⟩, ⟨37, sh37, F37⟩, ⟨45, sh45, F45⟩]
theorem t22 : DTblOK Try.prog (T22 P11 P37 P45) := (DTbl_cons' (f := 11) (sh := sh11) (F := P11) d11 (by kernel_rfl) (DTbl_cons' (f := 37) (sh := sh37) (F := P37) d37 (by kernel_rfl) (DTbl_cons' (f := 45) (sh := sh45) (F := P45) d45 (by kernel_rfl) DTbl_nil)))
def c22 : DCode := (.seq (.reg [.op ⟨some 1, .box (.t 0), none⟩ none,
  .op ⟨some 2, .mov (.c (.int .i64 0)), none⟩ none,
  .op ⟨some 3, .mov (.c (.int .i64 0)), none⟩ none]) (.seq (.seq (.reg [.op ⟨some 7, .ldn (.t 1) 2 false, none⟩ none,
  .op ⟨some 8, .xcall 11 [(.t 7)], none⟩ none,
  .op ⟨some 4, .mov (.t 8), none⟩ none]) (.seq (.reg [.op ⟨some 9, .mov (.t 4), none⟩ none,
  .op ⟨some 10, .bin true .neq (.t 9) (.c (.int .i64 0)), none⟩ none]) (.cond (.t 10) (.seq (.reg [.op ⟨some 11, .mov (.t 4), none⟩ none,
  .op ⟨some 2, .mov (.c (.int .i64 0)), none⟩ none,
  .op ⟨some 3, .mov (.t 11), none⟩ none]) .ret) .skip))) (.seq (.reg [.op ⟨some 13, .ldn (.t 1) 2 false, none⟩ none,
  .op ⟨some 14, .xcall 37 [(.t 13)], none⟩ none,
  .op ⟨some 15, .xcall 45 [(.t 14)], none⟩ none,
  .op ⟨some 12, .mov (.t 15), none⟩ none,
  .op ⟨some 16, .ext (.t 12) 0, none⟩ none,
  .op ⟨some 17, .ext (.t 12) 1, none⟩ none,
  .op ⟨some 5, .mov (.t 16), none⟩ none,
  .op ⟨some 6, .mov (.t 17), none⟩ none]) (.seq (.reg [.op ⟨some 18, .mov (.t 6), none⟩ none,
  .op ⟨some 2, .mov (.t 18), none⟩ none,
  .op ⟨some 3, .mov (.c (.int .i64 0)), none⟩ none]) .ret))))
theorem ok22 : L.Fn Try.prog 22 19 [(.t 2), (.t 3)] (erase c22) := L.Fn.of hmix Try.func22 [] (by kernel_rfl)
def sh22 : FSh := ⟨⟨[(.st (.pair (.sl (.pair (.int .i64) (.pair (.int .i64) (.int .i64)))) (.sl (.pair (.int .i64) (.pair (.int .i64) (.pair (.int .i64) (.pair (.int .i64) (.pair (.int .i64) (.int .i64)))))))))], []⟩, [(.pair (.sl (.pair (.int .i64) (.pair (.int .i64) (.int .i64)))) (.sl (.pair (.int .i64) (.pair (.int .i64) (.pair (.int .i64) (.pair (.int .i64) (.pair (.int .i64) (.int .i64))))))))], 0, ⟨⟨[(.tup [(.v (.int .i64)), (.v (.int .i64))])], []⟩, [(.int .i64), (.int .i64)], [], 0⟩, true⟩
noncomputable def q22 (F11 : (List (Int × Int × Int)) × (List (Int × Int × Int × Int × Int × Int)) → Option (Int)) (F37 : (List (Int × Int × Int)) × (List (Int × Int × Int × Int × Int × Int)) → Option ((List (Int × Int × Int)) × (List (Int × Int × Int × Int × Int × Int)) × (List (List Int × Int)) × (List Int))) (F45 : (List (Int × Int × Int)) × (List (Int × Int × Int × Int × Int × Int)) × (List (List Int × Int)) × (List Int) → Option (Int × Int × (List (Int × Int × Int)) × (List (Int × Int × Int × Int × Int × Int)) × (List (List Int × Int)) × (List Int))) (a0 : (List (Int × Int × Int)) × (List (Int × Int × Int × Int × Int × Int))) : Option (Int × Int) :=
(F11 a0).bind fun (r1 : Int) => (
cond (!decide (r1 = (0 : Int))) (
some ((0 : Int), r1)) (
(F37 a0).bind fun (r2 : (List (Int × Int × Int)) × (List (Int × Int × Int × Int × Int × Int)) × (List (List Int × Int)) × (List Int)) => (
(F45 (r2.1, r2.2.1, r2.2.2.1, r2.2.2.2)).bind fun (r4 : Int × Int × (List (Int × Int × Int)) × (List (Int × Int × Int × Int × Int × Int)) × (List (List Int × Int)) × (List Int)) => (
some (r4.2.1, (0 : Int))))))
theorem g22 (F11 : (List (Int × Int × Int)) × (List (Int × Int × Int × Int × Int × Int)) → Option (Int)) (F37 : (List (Int × Int × Int)) × (List (Int × Int × Int × Int × Int × Int)) → Option ((List (Int × Int × Int)) × (List (Int × Int × Int × Int × Int × Int)) × (List (List Int × Int)) × (List Int))) (F45 : (List (Int × Int × Int)) × (List (Int × Int × Int × Int × Int × Int)) × (List (List Int × Int)) × (List Int) → Option (Int × Int × (List (Int × Int × Int)) × (List (Int × Int × Int × Int × Int × Int)) × (List (List Int × Int)) × (List Int))) (a0 : (List (Int × Int × Int)) × (List (Int × Int × Int × Int × Int × Int))) : dxf (T22 F11 F37 F45) sh22 [(.t 2), (.t 3)] c22 a0 = q22 F11 F37 F45 a0 := by kernel_rfl
noncomputable def p22 (a0 : (List (Int × Int × Int)) × (List (Int × Int × Int × Int × Int × Int))) : Option (Int × Int) := q22 P11 P37 P45 a0
noncomputable def P22 : (List (Int × Int × Int)) × (List (Int × Int × Int × Int × Int × Int)) → Option (Int × Int) := fun x => p22 x
theorem v22 : dxf (T22 P11 P37 P45) sh22 [(.t 2), (.t 3)] c22 = P22 := funext fun x => (g22 P11 P37 P45 x).trans (show q22 P11 P37 P45 x = q22 P11 P37 P45 x from rfl)
theorem d22 : DC Try.prog 22 sh22 P22 := DC_eq v22 (dxf_sound (sh := sh22) t22 ok22 (by kernel_rfl))
/-! bijou/promise.check -/
noncomputable def T40 (F11 : (List (Int × Int × Int)) × (List (Int × Int × Int × Int × Int × Int)) → Option (Int)) (F32 : Int × Int × Int → Option (Bool)) : List FEnt := [⟨11, sh11, F11⟩, ⟨32, sh32, F32⟩]
theorem t40 : DTblOK Try.prog (T40 P11 P32) := (DTbl_cons' (f := 11) (sh := sh11) (F := P11) d11 (by kernel_rfl) (DTbl_cons' (f := 32) (sh := sh32) (F := P32) d32 (by kernel_rfl) DTbl_nil))
def b40_0 : DCode := (.seq (.reg [.op ⟨some 23, .bin true .lss (.t 22) (.t 21), none⟩ none]) (.seq (.cond (.t 23) .skip (.exit 0)) (.seq (.blk 1 (.seq (.reg [.op ⟨some 24, .idx (.t 20) (.t 22) 3, none⟩ none,
  .op ⟨some 25, .ldn (.t 24) 3 false, none⟩ none,
  .op ⟨some 8, .alc [(.int .i64 0), (.int .i64 0), (.int .i64 0)], none⟩ none,
  .op ⟨none, .sto (.t 8) (.t 25) 3, none⟩ none]) (.seq (.reg [.op ⟨some 27, .mov (.t 6), none⟩ none,
  .op ⟨some 28, .fld (.t 8) 0, none⟩ none,
  .op ⟨some 29, .ld1 (.t 28) false, none⟩ none,
  .op ⟨some 30, .lkp 0 true (.agg [(.int .i64 0), (.int .i64 0), (.int .i64 0)]) (.t 27) (.t 29) false, none⟩ none,
  .op ⟨some 26, .mov (.t 30), none⟩ none,
  .op ⟨some 31, .ext (.t 26) 0, none⟩ none,
  .op ⟨some 32, .ext (.t 26) 1, none⟩ none,
  .op ⟨some 9, .alc [(.int .i64 0), (.int .i64 0), (.int .i64 0)], none⟩ none,
  .op ⟨none, .sto (.t 9) (.t 31) 3, none⟩ none,
  .op ⟨some 10, .mov (.t 32), none⟩ none]) (.seq (.seq (.reg [.op ⟨some 33, .mov (.t 10), none⟩ none,
  .op ⟨some 34, .mov (.t 33), none⟩ none,
  .op ⟨some 35, .ldn (.t 9) 3 false, some (34, true)⟩ none,
  .op ⟨some 36, .ldn (.t 8) 3 false, some (34, true)⟩ none,
  .op ⟨some 37, .eqs true 3 (.t 35) (.t 36), some (34, true)⟩ none,
  .op ⟨some 38, .pick (.t 34) (.t 37) (.c (.bool false)), none⟩ none,
  .op ⟨some 39, .mov (.t 38), none⟩ none,
  .op ⟨some 40, .fld (.t 8) 0, some (39, false)⟩ none,
  .op ⟨some 41, .ld1 (.t 40) false, some (39, false)⟩ none,
  .op ⟨some 42, .xcall 32 [(.t 41), (.c (.int .i64 0)), (.c (.int .i64 99))], some (39, false)⟩ none,
  .op ⟨some 43, .unot (.t 42), some (39, false)⟩ none,
  .op ⟨some 44, .pick (.t 39) (.c (.bool true)) (.t 43), none⟩ none,
  .op ⟨some 45, .mov (.t 44), none⟩ none,
  .op ⟨some 46, .fld (.t 8) 2, some (45, false)⟩ none,
  .op ⟨some 47, .ld1 (.t 46) false, some (45, false)⟩ none,
  .op ⟨some 48, .xcall 32 [(.t 47), (.c (.int .i64 0)), (.c (.int .i64 99))], some (45, false)⟩ none,
  .op ⟨some 49, .unot (.t 48), some (45, false)⟩ none,
  .op ⟨some 50, .pick (.t 45) (.c (.bool true)) (.t 49), none⟩ none,
  .op ⟨some 51, .mov (.t 50), none⟩ none,
  .op ⟨some 52, .fld (.t 8) 1, some (51, false)⟩ none,
  .op ⟨some 53, .ld1 (.t 52) false, some (51, false)⟩ none,
  .op ⟨some 54, .fld (.t 2) 0, some (51, false)⟩ none,
  .op ⟨some 55, .ld1 (.t 54) false, some (51, false)⟩ none,
  .op ⟨some 56, .len (.t 55), some (51, false)⟩ none,
  .op ⟨some 57, .bin true .sub (.t 56) (.c (.int .i64 1)), some (51, false)⟩ none,
  .op ⟨some 58, .xcall 32 [(.t 53), (.c (.int .i64 0)), (.t 57)], some (51, false)⟩ none,
  .op ⟨some 59, .unot (.t 58), some (51, false)⟩ none,
  .op ⟨some 60, .pick (.t 51) (.c (.bool true)) (.t 59), none⟩ none]) (.cond (.t 60) (.seq (.reg [.op ⟨some 4, .mov (.c (.int .i64 72)), none⟩ none]) .ret) .skip)) (.reg [.op ⟨some 61, .mov (.t 6), none⟩ none,
  .op ⟨some 62, .fld (.t 8) 0, none⟩ none,
  .op ⟨some 63, .ld1 (.t 62) false, none⟩ none,
  .op ⟨some 64, .ldn (.t 8) 3 false, none⟩ none,
  .op ⟨none, .mup 0 (.t 61) (.t 63) (.t 64), none⟩ none]))))) (.reg [.op ⟨some 65, .bin true .add (.t 22) (.c (.int .i64 1)), none⟩ none,
  .op ⟨some 22, .mov (.t 65), none⟩ none]))))
def h40_0 : LSh := ⟨[2, 6, 20, 21, 22], ⟨[(.ptr 0 0), (.mp 1), (.v (.sl (.pair (.int .i64) (.pair (.int .i64) (.int .i64))))), (.v (.int .i64)), (.v (.int .i64))], [(0, (.boxT (.pair (.sl (.pair (.int .i64) (.pair (.int .i64) (.int .i64)))) (.sl (.pair (.int .i64) (.pair (.int .i64) (.pair (.int .i64) (.pair (.int .i64) (.pair (.int .i64) (.int .i64)))))))))), (1, (.imap 0 true (.pair (.int .i64) (.pair (.int .i64) (.int .i64)))))]⟩, [(.sl (.pair (.int .i64) (.pair (.int .i64) (.int .i64)))), (.int .i64), (.int .i64), (.pair (.sl (.pair (.int .i64) (.pair (.int .i64) (.int .i64)))) (.sl (.pair (.int .i64) (.pair (.int .i64) (.pair (.int .i64) (.pair (.int .i64) (.pair (.int .i64) (.int .i64)))))))), (.es (.pair (.int .i64) (.pair (.int .i64) (.int .i64))))], 2, [0, 1]⟩
def x40_0 : List XSh := [⟨.ret, [4], ⟨⟨[(.v (.int .i64))], [(0, (.boxT (.pair (.sl (.pair (.int .i64) (.pair (.int .i64) (.int .i64)))) (.sl (.pair (.int .i64) (.pair (.int .i64) (.pair (.int .i64) (.pair (.int .i64) (.pair (.int .i64) (.int .i64)))))))))), (1, (.imap 0 true (.pair (.int .i64) (.pair (.int .i64) (.int .i64)))))]⟩, [(.int .i64), (.pair (.sl (.pair (.int .i64) (.pair (.int .i64) (.int .i64)))) (.sl (.pair (.int .i64) (.pair (.int .i64) (.pair (.int .i64) (.pair (.int .i64) (.pair (.int .i64) (.int .i64)))))))), (.es (.pair (.int .i64) (.pair (.int .i64) (.int .i64))))], [0, 1], 2⟩⟩, ⟨(.exit 0), [], ⟨⟨[], [(0, (.boxT (.pair (.sl (.pair (.int .i64) (.pair (.int .i64) (.int .i64)))) (.sl (.pair (.int .i64) (.pair (.int .i64) (.pair (.int .i64) (.pair (.int .i64) (.pair (.int .i64) (.int .i64)))))))))), (1, (.imap 0 true (.pair (.int .i64) (.pair (.int .i64) (.int .i64)))))]⟩, [(.pair (.sl (.pair (.int .i64) (.pair (.int .i64) (.int .i64)))) (.sl (.pair (.int .i64) (.pair (.int .i64) (.pair (.int .i64) (.pair (.int .i64) (.pair (.int .i64) (.int .i64)))))))), (.es (.pair (.int .i64) (.pair (.int .i64) (.int .i64))))], [0, 1], 2⟩⟩]
noncomputable def s40_0 (T : List FEnt) : (List (Int × Int × Int)) × Int × Int × ((List (Int × Int × Int)) × (List (Int × Int × Int × Int × Int × Int))) × (List (List Int × (Int × Int × Int))) → Option (((List (Int × Int × Int)) × Int × Int × ((List (Int × Int × Int)) × (List (Int × Int × Int × Int × Int × Int))) × (List (List Int × (Int × Int × Int)))) ⊕ ((Int × ((List (Int × Int × Int)) × (List (Int × Int × Int × Int × Int × Int))) × (List (List Int × (Int × Int × Int)))) ⊕ (((List (Int × Int × Int)) × (List (Int × Int × Int × Int × Int × Int))) × (List (List Int × (Int × Int × Int)))))) := dstep (xs := x40_0) h40_0 (dxc T b40_0)
noncomputable def l40_0 (T : List FEnt) : (List (Int × Int × Int)) × Int × Int × ((List (Int × Int × Int)) × (List (Int × Int × Int × Int × Int × Int))) × (List (List Int × (Int × Int × Int))) → Option ((Int × ((List (Int × Int × Int)) × (List (Int × Int × Int × Int × Int × Int))) × (List (List Int × (Int × Int × Int)))) ⊕ (((List (Int × Int × Int)) × (List (Int × Int × Int × Int × Int × Int))) × (List (List Int × (Int × Int × Int))))) := whileF (s40_0 T)
noncomputable def q40_0 (F11 : (List (Int × Int × Int)) × (List (Int × Int × Int × Int × Int × Int)) → Option (Int)) (F32 : Int × Int × Int → Option (Bool)) (a0 : List (Int × Int × Int)) (a1 : Int) (a2 : Int) (a3 : (List (Int × Int × Int)) × (List (Int × Int × Int × Int × Int × Int))) (a4 : List (List Int × (Int × Int × Int))) : Option (((List (Int × Int × Int)) × Int × Int × ((List (Int × Int × Int)) × (List (Int × Int × Int × Int × Int × Int))) × (List (List Int × (Int × Int × Int)))) ⊕ ((Int × ((List (Int × Int × Int)) × (List (Int × Int × Int × Int × Int × Int))) × (List (List Int × (Int × Int × Int)))) ⊕ (((List (Int × Int × Int)) × (List (Int × Int × Int × Int × Int × Int))) × (List (List Int × (Int × Int × Int)))))) :=
cond (decide (a2 < a1)) (
chk (inR a2 (List.length a0)) (
cond (Option.isSome (kget a4 [(ix a0 a2).1])) (
cond (!((decide ((dof (kget a4 [(ix a0 a2).1]) ((0 : Int), ((0 : Int), (0 : Int)))).1 = (ix a0 a2).1) && decide ((dof (kget a4 [(ix a0 a2).1]) ((0 : Int), ((0 : Int), (0 : Int)))).2.1 = (ix a0 a2).2.1)) && decide ((dof (kget a4 [(ix a0 a2).1]) ((0 : Int), ((0 : Int), (0 : Int)))).2.2 = (ix a0 a2).2.2))) (
some (Sum.inr (Sum.inl ((72 : Int), a3, a4)))) (
(F32 ((ix a0 a2).1, (0 : Int), (99 : Int))).bind fun (r2 : Bool) => (
cond (!r2) (
some (Sum.inr (Sum.inl ((72 : Int), a3, a4)))) (
(F32 ((ix a0 a2).2.2, (0 : Int), (99 : Int))).bind fun (r3 : Bool) => (
cond (!r3) (
some (Sum.inr (Sum.inl ((72 : Int), a3, a4)))) (
chk (fits .i64 ((↑(List.length a3.1) : Int) - (1 : Int))) (
(F32 ((ix a0 a2).2.1, (0 : Int), ((↑(List.length a3.1) : Int) - (1 : Int)))).bind fun (r4 : Bool) => (
cond (!r4) (
some (Sum.inr (Sum.inl ((72 : Int), a3, a4)))) (
chk (fits .i64 (a2 + (1 : Int))) (
some (Sum.inl (a0, a1, (a2 + (1 : Int)), a3, (kput a4 [(ix a0 a2).1] (ix a0 a2)))))))))))))) (
(F32 ((ix a0 a2).1, (0 : Int), (99 : Int))).bind fun (r5 : Bool) => (
cond (!r5) (
some (Sum.inr (Sum.inl ((72 : Int), a3, a4)))) (
(F32 ((ix a0 a2).2.2, (0 : Int), (99 : Int))).bind fun (r6 : Bool) => (
cond (!r6) (
some (Sum.inr (Sum.inl ((72 : Int), a3, a4)))) (
chk (fits .i64 ((↑(List.length a3.1) : Int) - (1 : Int))) (
(F32 ((ix a0 a2).2.1, (0 : Int), ((↑(List.length a3.1) : Int) - (1 : Int)))).bind fun (r7 : Bool) => (
cond (!r7) (
some (Sum.inr (Sum.inl ((72 : Int), a3, a4)))) (
chk (fits .i64 (a2 + (1 : Int))) (
some (Sum.inl (a0, a1, (a2 + (1 : Int)), a3, (kput a4 [(ix a0 a2).1] (ix a0 a2))))))))))))))) (
some (Sum.inr (Sum.inr (a3, a4))))
theorem g40_0 (F11 : (List (Int × Int × Int)) × (List (Int × Int × Int × Int × Int × Int)) → Option (Int)) (F32 : Int × Int × Int → Option (Bool)) (a0 : List (Int × Int × Int)) (a1 : Int) (a2 : Int) (a3 : (List (Int × Int × Int)) × (List (Int × Int × Int × Int × Int × Int))) (a4 : List (List Int × (Int × Int × Int))) : s40_0 (T40 F11 F32) (a0, a1, a2, a3, a4) = q40_0 F11 F32 a0 a1 a2 a3 a4 := by kernel_rfl
noncomputable def p40_0 (a0 : List (Int × Int × Int)) (a1 : Int) (a2 : Int) (a3 : (List (Int × Int × Int)) × (List (Int × Int × Int × Int × Int × Int))) (a4 : List (List Int × (Int × Int × Int))) : Option (((List (Int × Int × Int)) × Int × Int × ((List (Int × Int × Int)) × (List (Int × Int × Int × Int × Int × Int))) × (List (List Int × (Int × Int × Int)))) ⊕ ((Int × ((List (Int × Int × Int)) × (List (Int × Int × Int × Int × Int × Int))) × (List (List Int × (Int × Int × Int)))) ⊕ (((List (Int × Int × Int)) × (List (Int × Int × Int × Int × Int × Int))) × (List (List Int × (Int × Int × Int)))))) := q40_0 P11 P32 a0 a1 a2 a3 a4
noncomputable def L40_0 : (List (Int × Int × Int)) × Int × Int × ((List (Int × Int × Int)) × (List (Int × Int × Int × Int × Int × Int))) × (List (List Int × (Int × Int × Int))) → Option ((Int × ((List (Int × Int × Int)) × (List (Int × Int × Int × Int × Int × Int))) × (List (List Int × (Int × Int × Int)))) ⊕ (((List (Int × Int × Int)) × (List (Int × Int × Int × Int × Int × Int))) × (List (List Int × (Int × Int × Int))))) := whileF (fun x => p40_0 x.1 x.2.1 x.2.2.1 x.2.2.2.1 x.2.2.2.2)
theorem v40_0 : l40_0 (T40 P11 P32) = L40_0 := congrArg whileF (funext fun x => (g40_0 P11 P32 x.1 x.2.1 x.2.2.1 x.2.2.2.1 x.2.2.2.2).trans (show q40_0 P11 P32 x.1 x.2.1 x.2.2.1 x.2.2.2.1 x.2.2.2.2 = q40_0 P11 P32 x.1 x.2.1 x.2.2.1 x.2.2.2.1 x.2.2.2.2 from rfl))
def c40 : DCode := (.seq (.reg [.op ⟨some 2, .box (.t 0), none⟩ none,
  .op ⟨some 4, .mov (.c (.int .i64 0)), none⟩ none]) (.seq (.seq (.reg [.op ⟨some 11, .ldn (.t 2) 2 false, none⟩ none,
  .op ⟨some 12, .xcall 11 [(.t 11)], none⟩ none,
  .op ⟨some 5, .mov (.t 12), none⟩ none]) (.seq (.reg [.op ⟨some 13, .mov (.t 5), none⟩ none,
  .op ⟨some 14, .bin true .neq (.t 13) (.c (.int .i64 0)), none⟩ none]) (.cond (.t 14) (.seq (.reg [.op ⟨some 15, .mov (.t 5), none⟩ none,
  .op ⟨some 4, .mov (.t 15), none⟩ none]) .ret) .skip))) (.seq (.seq (.reg [.op ⟨some 16, .mov (.t 1), none⟩ none,
  .op ⟨some 17, .len (.t 16), none⟩ none,
  .op ⟨some 18, .bin true .gtr (.t 17) (.c (.int .i64 30)), none⟩ none]) (.cond (.t 18) (.seq (.reg [.op ⟨some 4, .mov (.c (.int .i64 72)), none⟩ none]) .ret) .skip)) (.seq (.reg [.op ⟨some 19, .mkm 0 101, none⟩ (some (true, (.pair (.int .i64) (.pair (.int .i64) (.int .i64))))),
  .op ⟨some 6, .mov (.t 19), none⟩ none]) (.seq (.seq (.reg [.op ⟨some 20, .mov (.t 1), none⟩ none,
  .op ⟨some 21, .len (.t 20), none⟩ none,
  .op ⟨some 22, .mov (.c (.int .i64 0)), none⟩ none]) (.blk 0 (.loop h40_0 x40_0 b40_0))) (.seq (.reg [.op ⟨some 4, .mov (.c (.int .i64 0)), none⟩ none]) .ret))))))
theorem ok40 : L.Fn Try.prog 40 66 [(.t 4)] (erase c40) := L.Fn.of hmix Try.func40 [] (by kernel_rfl)
def sh40 : FSh := ⟨⟨[(.st (.pair (.sl (.pair (.int .i64) (.pair (.int .i64) (.int .i64)))) (.sl (.pair (.int .i64) (.pair (.int .i64) (.pair (.int .i64) (.pair (.int .i64) (.pair (.int .i64) (.int .i64))))))))), (.v (.sl (.pair (.int .i64) (.pair (.int .i64) (.int .i64)))))], []⟩, [(.pair (.sl (.pair (.int .i64) (.pair (.int .i64) (.int .i64)))) (.sl (.pair (.int .i64) (.pair (.int .i64) (.pair (.int .i64) (.pair (.int .i64) (.pair (.int .i64) (.int .i64)))))))), (.sl (.pair (.int .i64) (.pair (.int .i64) (.int .i64))))], 0, ⟨⟨[(.v (.int .i64))], []⟩, [(.int .i64)], [], 0⟩, true⟩
noncomputable def q40 (F11 : (List (Int × Int × Int)) × (List (Int × Int × Int × Int × Int × Int)) → Option (Int)) (F32 : Int × Int × Int → Option (Bool)) (l40_0 : (List (Int × Int × Int)) × Int × Int × ((List (Int × Int × Int)) × (List (Int × Int × Int × Int × Int × Int))) × (List (List Int × (Int × Int × Int))) → Option ((Int × ((List (Int × Int × Int)) × (List (Int × Int × Int × Int × Int × Int))) × (List (List Int × (Int × Int × Int)))) ⊕ (((List (Int × Int × Int)) × (List (Int × Int × Int × Int × Int × Int))) × (List (List Int × (Int × Int × Int)))))) (a0 : (List (Int × Int × Int)) × (List (Int × Int × Int × Int × Int × Int))) (a1 : List (Int × Int × Int)) : Option (Int) :=
(F11 a0).bind fun (r1 : Int) => (
cond (!decide (r1 = (0 : Int))) (
some r1) (
cond (decide ((30 : Int) < (↑(List.length a1) : Int))) (
some (72 : Int)) (
(l40_0 (a1, (↑(List.length a1) : Int), (0 : Int), a0, ([] : List (List Int × (Int × Int × Int))))).bind (fun (y8 : (Int × ((List (Int × Int × Int)) × (List (Int × Int × Int × Int × Int × Int))) × (List (List Int × (Int × Int × Int)))) ⊕ (((List (Int × Int × Int)) × (List (Int × Int × Int × Int × Int × Int))) × (List (List Int × (Int × Int × Int))))) => Sum.elim (fun (y9 : Int × ((List (Int × Int × Int)) × (List (Int × Int × Int × Int × Int × Int))) × (List (List Int × (Int × Int × Int)))) => (
some y9.1)) (fun (y10 : ((List (Int × Int × Int)) × (List (Int × Int × Int × Int × Int × Int))) × (List (List Int × (Int × Int × Int)))) => (
some (0 : Int))) y8))))
theorem g40 (F11 : (List (Int × Int × Int)) × (List (Int × Int × Int × Int × Int × Int)) → Option (Int)) (F32 : Int × Int × Int → Option (Bool)) (a0 : (List (Int × Int × Int)) × (List (Int × Int × Int × Int × Int × Int))) (a1 : List (Int × Int × Int)) : dxf (T40 F11 F32) sh40 [(.t 4)] c40 (a0, a1) = q40 F11 F32 (l40_0 (T40 F11 F32)) a0 a1 := by kernel_rfl
noncomputable def p40 (a0 : (List (Int × Int × Int)) × (List (Int × Int × Int × Int × Int × Int))) (a1 : List (Int × Int × Int)) : Option (Int) := q40 P11 P32 L40_0 a0 a1
noncomputable def P40 : ((List (Int × Int × Int)) × (List (Int × Int × Int × Int × Int × Int))) × (List (Int × Int × Int)) → Option (Int) := fun x => p40 x.1 x.2
theorem v40 : dxf (T40 P11 P32) sh40 [(.t 4)] c40 = P40 := funext fun x => (g40 P11 P32 x.1 x.2).trans (show q40 P11 P32 (l40_0 (T40 P11 P32)) x.1 x.2 = q40 P11 P32 L40_0 x.1 x.2 from by rw [v40_0])
theorem d40 : DC Try.prog 40 sh40 P40 := DC_eq v40 (dxf_sound (sh := sh40) t40 ok40 (by kernel_rfl))
end Go.Proofs.Ytjoncejabdjekaa.D
