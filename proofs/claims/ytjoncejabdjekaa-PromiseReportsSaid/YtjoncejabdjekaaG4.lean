/- Functions of the program as typed functions: printed by a program of this claim, checked by Lean. -/
import Derived.Test.YtjoncejabdjekaaG3
import Derived.Test.YtjoncejabdjekaaProg
set_option linter.unusedVariables false
set_option maxRecDepth 100000
namespace Go.Proofs.Ytjoncejabdjekaa.D
open Go Go.Proofs Go.Proofs.Ytjoncejabdjekaa.L
/-! bijou/bijoulaw07.PromiseReports -/
noncomputable def T6 (F21 : (List (Int × Int × Int)) × (List (Int × Int × Int × Int × Int × Int)) → Option (Bool)) (F9 : Unit → Option (Bool)) (F23 : ((List (Int × Int × Int)) × (List (Int × Int × Int × Int × Int × Int))) × (List (Int × Int × Int)) → Option (Int)) (F17 : ((List (Int × Int × Int)) × (List (Int × Int × Int × Int × Int × Int))) × (List (Int × Int × Int)) → Option (Int × Int × (List Int))) (F15 : (List Int) × (List Int) → Option (Bool)) (F24 : List Int → Option (Int)) (F19 : ((List (Int × Int × Int)) × (List (Int × Int × Int × Int × Int × Int))) × (List (Int × Int × Int)) × Int → Option (Int × Int)) (F22 : (List (Int × Int × Int)) × (List (Int × Int × Int × Int × Int × Int)) → Option (Int × Int)) : List FEnt := [⟨21, sh21, F21⟩, ⟨9, sh9, F9⟩, ⟨23, sh23, F23⟩, ⟨17, sh17, F17⟩, ⟨15, sh15, F15⟩, ⟨24, sh24, F24⟩, ⟨19, sh19, F19⟩, ⟨22, sh22, F22⟩]
theorem t6 : DTblOK Try.prog (T6 P21 P9 P23 P17 P15 P24 P19 P22) := (DTbl_cons' (f := 21) (sh := sh21) (F := P21) d21 (by kernel_rfl) (DTbl_cons' (f := 9) (sh := sh9) (F := P9) d9 (by kernel_rfl) (DTbl_cons' (f := 23) (sh := sh23) (F := P23) d23 (by kernel_rfl) (DTbl_cons' (f := 17) (sh := sh17) (F := P17) d17 (by kernel_rfl) (DTbl_cons' (f := 15) (sh := sh15) (F := P15) d15 (by kernel_rfl) (DTbl_cons' (f := 24) (sh := sh24) (F := P24) d24 (by kernel_rfl) (DTbl_cons' (f := 19) (sh := sh19) (F := P19) d19 (by kernel_rfl) (DTbl_cons' (f := 22) (sh := sh22) (F := P22) d22 (by kernel_rfl) DTbl_nil))))))))
def b6_1 : DCode := (.seq (.seq (.reg [.op ⟨some 77, .mov (.t 9), none⟩ none,
  .op ⟨some 78, .bin true .gtr (.t 77) (.c (.int .i64 0)), none⟩ none,
  .op ⟨some 79, .mov (.t 78), none⟩ none,
  .op ⟨some 80, .mov (.t 9), some (79, true)⟩ none,
  .op ⟨some 81, .mov (.t 8), some (79, true)⟩ none,
  .op ⟨some 82, .fld (.t 5) 0, some (79, true)⟩ none,
  .op ⟨some 83, .ld1 (.t 82) false, some (79, true)⟩ none,
  .op ⟨some 84, .mov (.t 8), some (79, true)⟩ none,
  .op ⟨some 85, .idx (.t 83) (.t 84) 1, some (79, true)⟩ none,
  .op ⟨some 86, .ld1 (.t 85) false, some (79, true)⟩ none,
  .op ⟨some 87, .bin false .sub (.t 81) (.t 86), some (79, true)⟩ none,
  .op ⟨some 88, .bin true .gtr (.t 80) (.t 87), some (79, true)⟩ none,
  .op ⟨some 89, .pick (.t 79) (.t 88) (.c (.bool false)), none⟩ none]) (.cond (.t 89) .skip (.exit 2))) (.seq (.blk 3 (.drw [] [(⟨some 92, .mov (.t 7), none⟩, none),
  (⟨some 93, .mov (.t 9), none⟩, none),
  (⟨some 94, .mov (.t 7), none⟩, none),
  (⟨some 95, .mov (.t 9), none⟩, none),
  (⟨some 96, .bin true .sub (.t 95) (.c (.int .i64 1)), none⟩, none),
  (⟨some 97, .mov (.t 7), none⟩, none),
  (⟨some 98, .mov (.t 9), none⟩, none),
  (⟨some 99, .bin true .sub (.t 98) (.c (.int .i64 1)), none⟩, none),
  (⟨some 100, .idx (.t 97) (.t 99) 3, none⟩, none),
  (⟨some 101, .ldn (.t 100) 3 false, none⟩, none),
  (⟨some 102, .mov (.t 7), none⟩, none),
  (⟨some 103, .mov (.t 9), none⟩, none),
  (⟨some 104, .idx (.t 102) (.t 103) 3, none⟩, none),
  (⟨some 105, .ldn (.t 104) 3 false, none⟩, none),
  (⟨some 106, .idx (.t 92) (.t 93) 3, none⟩, none),
  (⟨none, .sto (.t 106) (.t 101) 3, none⟩, none),
  (⟨some 107, .idx (.t 94) (.t 96) 3, none⟩, none),
  (⟨none, .sto (.t 107) (.t 105) 3, none⟩, none)])) (.reg [.op ⟨some 90, .mov (.t 9), none⟩ none,
  .op ⟨some 91, .bin true .sub (.t 90) (.c (.int .i64 1)), none⟩ none,
  .op ⟨some 9, .mov (.t 91), none⟩ none])))
def h6_1 : LSh := ⟨[1, 3, 5, 7, 8, 9], ⟨[(.v (.sl (.pair (.int .i64) (.pair (.int .i64) (.int .i64))))), (.ptr 0 0), (.ptr 1 0), (.slc 2), (.v (.int .i64)), (.v (.int .i64))], [(0, (.boxT (.pair (.sl (.pair (.int .i64) (.pair (.int .i64) (.int .i64)))) (.sl (.pair (.int .i64) (.pair (.int .i64) (.pair (.int .i64) (.pair (.int .i64) (.pair (.int .i64) (.int .i64)))))))))), (1, (.boxT (.pair (.sl (.int .i64)) (.pair (.int .i64) (.pair (.int .i64) (.pair (.int .i64) (.int .i64))))))), (2, (.row 53 (.pair (.int .i64) (.pair (.int .i64) (.int .i64)))))]⟩, [(.sl (.pair (.int .i64) (.pair (.int .i64) (.int .i64)))), (.int .i64), (.int .i64), (.pair (.sl (.pair (.int .i64) (.pair (.int .i64) (.int .i64)))) (.sl (.pair (.int .i64) (.pair (.int .i64) (.pair (.int .i64) (.pair (.int .i64) (.pair (.int .i64) (.int .i64)))))))), (.pair (.sl (.int .i64)) (.pair (.int .i64) (.pair (.int .i64) (.pair (.int .i64) (.int .i64))))), (.sl (.pair (.int .i64) (.pair (.int .i64) (.int .i64))))], 3, [0, 1, 2]⟩
def x6_1 : List XSh := [⟨(.exit 2), [1, 3, 5, 7, 8], ⟨⟨[(.v (.sl (.pair (.int .i64) (.pair (.int .i64) (.int .i64))))), (.ptr 0 0), (.ptr 1 0), (.slc 2), (.v (.int .i64))], [(0, (.boxT (.pair (.sl (.pair (.int .i64) (.pair (.int .i64) (.int .i64)))) (.sl (.pair (.int .i64) (.pair (.int .i64) (.pair (.int .i64) (.pair (.int .i64) (.pair (.int .i64) (.int .i64)))))))))), (1, (.boxT (.pair (.sl (.int .i64)) (.pair (.int .i64) (.pair (.int .i64) (.pair (.int .i64) (.int .i64))))))), (2, (.row 53 (.pair (.int .i64) (.pair (.int .i64) (.int .i64)))))]⟩, [(.sl (.pair (.int .i64) (.pair (.int .i64) (.int .i64)))), (.int .i64), (.pair (.sl (.pair (.int .i64) (.pair (.int .i64) (.int .i64)))) (.sl (.pair (.int .i64) (.pair (.int .i64) (.pair (.int .i64) (.pair (.int .i64) (.pair (.int .i64) (.int .i64)))))))), (.pair (.sl (.int .i64)) (.pair (.int .i64) (.pair (.int .i64) (.pair (.int .i64) (.int .i64))))), (.sl (.pair (.int .i64) (.pair (.int .i64) (.int .i64))))], [0, 1, 2], 3⟩⟩]
noncomputable def s6_1 (T : List FEnt) : (List (Int × Int × Int)) × Int × Int × ((List (Int × Int × Int)) × (List (Int × Int × Int × Int × Int × Int))) × ((List Int) × Int × Int × Int × Int) × (List (Int × Int × Int)) → Option (((List (Int × Int × Int)) × Int × Int × ((List (Int × Int × Int)) × (List (Int × Int × Int × Int × Int × Int))) × ((List Int) × Int × Int × Int × Int) × (List (Int × Int × Int))) ⊕ ((List (Int × Int × Int)) × Int × ((List (Int × Int × Int)) × (List (Int × Int × Int × Int × Int × Int))) × ((List Int) × Int × Int × Int × Int) × (List (Int × Int × Int)))) := dstep (xs := x6_1) h6_1 (dxc T b6_1)
noncomputable def l6_1 (T : List FEnt) : (List (Int × Int × Int)) × Int × Int × ((List (Int × Int × Int)) × (List (Int × Int × Int × Int × Int × Int))) × ((List Int) × Int × Int × Int × Int) × (List (Int × Int × Int)) → Option ((List (Int × Int × Int)) × Int × ((List (Int × Int × Int)) × (List (Int × Int × Int × Int × Int × Int))) × ((List Int) × Int × Int × Int × Int) × (List (Int × Int × Int))) := whileF (s6_1 T)
noncomputable def q6_1 (F21 : (List (Int × Int × Int)) × (List (Int × Int × Int × Int × Int × Int)) → Option (Bool)) (F9 : Unit → Option (Bool)) (F23 : ((List (Int × Int × Int)) × (List (Int × Int × Int × Int × Int × Int))) × (List (Int × Int × Int)) → Option (Int)) (F17 : ((List (Int × Int × Int)) × (List (Int × Int × Int × Int × Int × Int))) × (List (Int × Int × Int)) → Option (Int × Int × (List Int))) (F15 : (List Int) × (List Int) → Option (Bool)) (F24 : List Int → Option (Int)) (F19 : ((List (Int × Int × Int)) × (List (Int × Int × Int × Int × Int × Int))) × (List (Int × Int × Int)) × Int → Option (Int × Int)) (F22 : (List (Int × Int × Int)) × (List (Int × Int × Int × Int × Int × Int)) → Option (Int × Int)) (a0 : List (Int × Int × Int)) (a1 : Int) (a2 : Int) (a3 : (List (Int × Int × Int)) × (List (Int × Int × Int × Int × Int × Int))) (a4 : (List Int) × Int × Int × Int × Int) (a5 : List (Int × Int × Int)) : Option (((List (Int × Int × Int)) × Int × Int × ((List (Int × Int × Int)) × (List (Int × Int × Int × Int × Int × Int))) × ((List Int) × Int × Int × Int × Int) × (List (Int × Int × Int))) ⊕ ((List (Int × Int × Int)) × Int × ((List (Int × Int × Int)) × (List (Int × Int × Int × Int × Int × Int))) × ((List Int) × Int × Int × Int × Int) × (List (Int × Int × Int)))) :=
cond (decide ((0 : Int) < a2)) (
chk (inR a1 (List.length a4.1)) (
cond (decide ((IntKind.wrap .i64 (a1 - (ix a4.1 a1))) < a2)) (
chk (fits .i64 (a2 - (1 : Int))) (
chk (fits .i64 (a2 - (1 : Int))) (
chk (inR (a2 - (1 : Int)) (List.length a5)) (
chk (inR a2 (List.length a5)) (
chk (inR a2 (List.length a5)) (
chk (inR (a2 - (1 : Int)) (List.length (List.set a5 (Int.toNat a2) (ix a5 (a2 - (1 : Int)))))) (
chk (fits .i64 (a2 - (1 : Int))) (
some (Sum.inl (a0, a1, (a2 - (1 : Int)), a3, a4, (List.set (List.set a5 (Int.toNat a2) (ix a5 (a2 - (1 : Int)))) (Int.toNat (a2 - (1 : Int))) (ix a5 a2)))))))))))) (
some (Sum.inr (a0, a1, a3, a4, a5))))) (
some (Sum.inr (a0, a1, a3, a4, a5)))
theorem g6_1 (F21 : (List (Int × Int × Int)) × (List (Int × Int × Int × Int × Int × Int)) → Option (Bool)) (F9 : Unit → Option (Bool)) (F23 : ((List (Int × Int × Int)) × (List (Int × Int × Int × Int × Int × Int))) × (List (Int × Int × Int)) → Option (Int)) (F17 : ((List (Int × Int × Int)) × (List (Int × Int × Int × Int × Int × Int))) × (List (Int × Int × Int)) → Option (Int × Int × (List Int))) (F15 : (List Int) × (List Int) → Option (Bool)) (F24 : List Int → Option (Int)) (F19 : ((List (Int × Int × Int)) × (List (Int × Int × Int × Int × Int × Int))) × (List (Int × Int × Int)) × Int → Option (Int × Int)) (F22 : (List (Int × Int × Int)) × (List (Int × Int × Int × Int × Int × Int)) → Option (Int × Int)) (a0 : List (Int × Int × Int)) (a1 : Int) (a2 : Int) (a3 : (List (Int × Int × Int)) × (List (Int × Int × Int × Int × Int × Int))) (a4 : (List Int) × Int × Int × Int × Int) (a5 : List (Int × Int × Int)) : s6_1 (T6 F21 F9 F23 F17 F15 F24 F19 F22) (a0, a1, a2, a3, a4, a5) = q6_1 F21 F9 F23 F17 F15 F24 F19 F22 a0 a1 a2 a3 a4 a5 := by kernel_rfl
noncomputable def p6_1 (a0 : List (Int × Int × Int)) (a1 : Int) (a2 : Int) (a3 : (List (Int × Int × Int)) × (List (Int × Int × Int × Int × Int × Int))) (a4 : (List Int) × Int × Int × Int × Int) (a5 : List (Int × Int × Int)) : Option (((List (Int × Int × Int)) × Int × Int × ((List (Int × Int × Int)) × (List (Int × Int × Int × Int × Int × Int))) × ((List Int) × Int × Int × Int × Int) × (List (Int × Int × Int))) ⊕ ((List (Int × Int × Int)) × Int × ((List (Int × Int × Int)) × (List (Int × Int × Int × Int × Int × Int))) × ((List Int) × Int × Int × Int × Int) × (List (Int × Int × Int)))) := q6_1 P21 P9 P23 P17 P15 P24 P19 P22 a0 a1 a2 a3 a4 a5
noncomputable def L6_1 : (List (Int × Int × Int)) × Int × Int × ((List (Int × Int × Int)) × (List (Int × Int × Int × Int × Int × Int))) × ((List Int) × Int × Int × Int × Int) × (List (Int × Int × Int)) → Option ((List (Int × Int × Int)) × Int × ((List (Int × Int × Int)) × (List (Int × Int × Int × Int × Int × Int))) × ((List Int) × Int × Int × Int × Int) × (List (Int × Int × Int))) := whileF (fun x => p6_1 x.1 x.2.1 x.2.2.1 x.2.2.2.1 x.2.2.2.2.1 x.2.2.2.2.2)
theorem v6_1 : l6_1 (T6 P21 P9 P23 P17 P15 P24 P19 P22) = L6_1 := congrArg whileF (funext fun x => (g6_1 P21 P9 P23 P17 P15 P24 P19 P22 x.1 x.2.1 x.2.2.1 x.2.2.2.1 x.2.2.2.2.1 x.2.2.2.2.2).trans (show q6_1 P21 P9 P23 P17 P15 P24 P19 P22 x.1 x.2.1 x.2.2.1 x.2.2.2.1 x.2.2.2.2.1 x.2.2.2.2.2 = q6_1 P21 P9 P23 P17 P15 P24 P19 P22 x.1 x.2.1 x.2.2.1 x.2.2.2.1 x.2.2.2.2.1 x.2.2.2.2.2 from rfl))
def b6_0 : DCode := (.seq (.seq (.reg [.op ⟨some 63, .mov (.t 8), none⟩ none,
  .op ⟨some 64, .mov (.t 7), none⟩ none,
  .op ⟨some 65, .len (.t 64), none⟩ none,
  .op ⟨some 66, .bin true .lss (.t 63) (.t 65), none⟩ none,
  .op ⟨some 67, .mov (.t 66), none⟩ none,
  .op ⟨some 68, .mov (.t 8), some (67, true)⟩ none,
  .op ⟨some 69, .fld (.t 5) 0, some (67, true)⟩ none,
  .op ⟨some 70, .ld1 (.t 69) false, some (67, true)⟩ none,
  .op ⟨some 71, .len (.t 70), some (67, true)⟩ none,
  .op ⟨some 72, .bin true .lss (.t 68) (.t 71), some (67, true)⟩ none,
  .op ⟨some 73, .pick (.t 67) (.t 72) (.c (.bool false)), none⟩ none]) (.cond (.t 73) .skip (.exit 0))) (.seq (.blk 1 (.seq (.reg [.op ⟨some 76, .mov (.t 8), none⟩ none,
  .op ⟨some 9, .mov (.t 76), none⟩ none]) (.blk 2 (.loop h6_1 x6_1 b6_1)))) (.reg [.op ⟨some 74, .mov (.t 8), none⟩ none,
  .op ⟨some 75, .bin true .add (.t 74) (.c (.int .i64 1)), none⟩ none,
  .op ⟨some 8, .mov (.t 75), none⟩ none])))
def h6_0 : LSh := ⟨[1, 3, 5, 7, 8], ⟨[(.v (.sl (.pair (.int .i64) (.pair (.int .i64) (.int .i64))))), (.ptr 0 0), (.ptr 1 0), (.slc 2), (.v (.int .i64))], [(0, (.boxT (.pair (.sl (.pair (.int .i64) (.pair (.int .i64) (.int .i64)))) (.sl (.pair (.int .i64) (.pair (.int .i64) (.pair (.int .i64) (.pair (.int .i64) (.pair (.int .i64) (.int .i64)))))))))), (1, (.boxT (.pair (.sl (.int .i64)) (.pair (.int .i64) (.pair (.int .i64) (.pair (.int .i64) (.int .i64))))))), (2, (.row 53 (.pair (.int .i64) (.pair (.int .i64) (.int .i64)))))]⟩, [(.sl (.pair (.int .i64) (.pair (.int .i64) (.int .i64)))), (.int .i64), (.pair (.sl (.pair (.int .i64) (.pair (.int .i64) (.int .i64)))) (.sl (.pair (.int .i64) (.pair (.int .i64) (.pair (.int .i64) (.pair (.int .i64) (.pair (.int .i64) (.int .i64)))))))), (.pair (.sl (.int .i64)) (.pair (.int .i64) (.pair (.int .i64) (.pair (.int .i64) (.int .i64))))), (.sl (.pair (.int .i64) (.pair (.int .i64) (.int .i64))))], 3, [0, 1, 2]⟩
def x6_0 : List XSh := [⟨(.exit 0), [1, 3, 5, 7], ⟨⟨[(.v (.sl (.pair (.int .i64) (.pair (.int .i64) (.int .i64))))), (.ptr 0 0), (.ptr 1 0), (.slc 2)], [(0, (.boxT (.pair (.sl (.pair (.int .i64) (.pair (.int .i64) (.int .i64)))) (.sl (.pair (.int .i64) (.pair (.int .i64) (.pair (.int .i64) (.pair (.int .i64) (.pair (.int .i64) (.int .i64)))))))))), (1, (.boxT (.pair (.sl (.int .i64)) (.pair (.int .i64) (.pair (.int .i64) (.pair (.int .i64) (.int .i64))))))), (2, (.row 53 (.pair (.int .i64) (.pair (.int .i64) (.int .i64)))))]⟩, [(.sl (.pair (.int .i64) (.pair (.int .i64) (.int .i64)))), (.pair (.sl (.pair (.int .i64) (.pair (.int .i64) (.int .i64)))) (.sl (.pair (.int .i64) (.pair (.int .i64) (.pair (.int .i64) (.pair (.int .i64) (.pair (.int .i64) (.int .i64)))))))), (.pair (.sl (.int .i64)) (.pair (.int .i64) (.pair (.int .i64) (.pair (.int .i64) (.int .i64))))), (.sl (.pair (.int .i64) (.pair (.int .i64) (.int .i64))))], [0, 1, 2], 3⟩⟩]
noncomputable def s6_0 (T : List FEnt) : (List (Int × Int × Int)) × Int × ((List (Int × Int × Int)) × (List (Int × Int × Int × Int × Int × Int))) × ((List Int) × Int × Int × Int × Int) × (List (Int × Int × Int)) → Option (((List (Int × Int × Int)) × Int × ((List (Int × Int × Int)) × (List (Int × Int × Int × Int × Int × Int))) × ((List Int) × Int × Int × Int × Int) × (List (Int × Int × Int))) ⊕ ((List (Int × Int × Int)) × ((List (Int × Int × Int)) × (List (Int × Int × Int × Int × Int × Int))) × ((List Int) × Int × Int × Int × Int) × (List (Int × Int × Int)))) := dstep (xs := x6_0) h6_0 (dxc T b6_0)
noncomputable def l6_0 (T : List FEnt) : (List (Int × Int × Int)) × Int × ((List (Int × Int × Int)) × (List (Int × Int × Int × Int × Int × Int))) × ((List Int) × Int × Int × Int × Int) × (List (Int × Int × Int)) → Option ((List (Int × Int × Int)) × ((List (Int × Int × Int)) × (List (Int × Int × Int × Int × Int × Int))) × ((List Int) × Int × Int × Int × Int) × (List (Int × Int × Int))) := whileF (s6_0 T)
noncomputable def q6_0 (F21 : (List (Int × Int × Int)) × (List (Int × Int × Int × Int × Int × Int)) → Option (Bool)) (F9 : Unit → Option (Bool)) (F23 : ((List (Int × Int × Int)) × (List (Int × Int × Int × Int × Int × Int))) × (List (Int × Int × Int)) → Option (Int)) (F17 : ((List (Int × Int × Int)) × (List (Int × Int × Int × Int × Int × Int))) × (List (Int × Int × Int)) → Option (Int × Int × (List Int))) (F15 : (List Int) × (List Int) → Option (Bool)) (F24 : List Int → Option (Int)) (F19 : ((List (Int × Int × Int)) × (List (Int × Int × Int × Int × Int × Int))) × (List (Int × Int × Int)) × Int → Option (Int × Int)) (F22 : (List (Int × Int × Int)) × (List (Int × Int × Int × Int × Int × Int)) → Option (Int × Int)) (l6_1 : (List (Int × Int × Int)) × Int × Int × ((List (Int × Int × Int)) × (List (Int × Int × Int × Int × Int × Int))) × ((List Int) × Int × Int × Int × Int) × (List (Int × Int × Int)) → Option ((List (Int × Int × Int)) × Int × ((List (Int × Int × Int)) × (List (Int × Int × Int × Int × Int × Int))) × ((List Int) × Int × Int × Int × Int) × (List (Int × Int × Int)))) (a0 : List (Int × Int × Int)) (a1 : Int) (a2 : (List (Int × Int × Int)) × (List (Int × Int × Int × Int × Int × Int))) (a3 : (List Int) × Int × Int × Int × Int) (a4 : List (Int × Int × Int)) : Option (((List (Int × Int × Int)) × Int × ((List (Int × Int × Int)) × (List (Int × Int × Int × Int × Int × Int))) × ((List Int) × Int × Int × Int × Int) × (List (Int × Int × Int))) ⊕ ((List (Int × Int × Int)) × ((List (Int × Int × Int)) × (List (Int × Int × Int × Int × Int × Int))) × ((List Int) × Int × Int × Int × Int) × (List (Int × Int × Int)))) :=
cond (decide (a1 < (↑(List.length a4) : Int))) (
cond (decide (a1 < (↑(List.length a3.1) : Int))) (
(l6_1 (a0, a1, a1, a2, a3, a4)).bind fun (y9 : (List (Int × Int × Int)) × Int × ((List (Int × Int × Int)) × (List (Int × Int × Int × Int × Int × Int))) × ((List Int) × Int × Int × Int × Int) × (List (Int × Int × Int))) => (
chk (fits .i64 (y9.2.1 + (1 : Int))) (
some (Sum.inl (y9.1, (y9.2.1 + (1 : Int)), y9.2.2.1, y9.2.2.2.1, y9.2.2.2.2))))) (
some (Sum.inr (a0, a2, a3, a4)))) (
some (Sum.inr (a0, a2, a3, a4)))
theorem g6_0 (F21 : (List (Int × Int × Int)) × (List (Int × Int × Int × Int × Int × Int)) → Option (Bool)) (F9 : Unit → Option (Bool)) (F23 : ((List (Int × Int × Int)) × (List (Int × Int × Int × Int × Int × Int))) × (List (Int × Int × Int)) → Option (Int)) (F17 : ((List (Int × Int × Int)) × (List (Int × Int × Int × Int × Int × Int))) × (List (Int × Int × Int)) → Option (Int × Int × (List Int))) (F15 : (List Int) × (List Int) → Option (Bool)) (F24 : List Int → Option (Int)) (F19 : ((List (Int × Int × Int)) × (List (Int × Int × Int × Int × Int × Int))) × (List (Int × Int × Int)) × Int → Option (Int × Int)) (F22 : (List (Int × Int × Int)) × (List (Int × Int × Int × Int × Int × Int)) → Option (Int × Int)) (a0 : List (Int × Int × Int)) (a1 : Int) (a2 : (List (Int × Int × Int)) × (List (Int × Int × Int × Int × Int × Int))) (a3 : (List Int) × Int × Int × Int × Int) (a4 : List (Int × Int × Int)) : s6_0 (T6 F21 F9 F23 F17 F15 F24 F19 F22) (a0, a1, a2, a3, a4) = q6_0 F21 F9 F23 F17 F15 F24 F19 F22 (l6_1 (T6 F21 F9 F23 F17 F15 F24 F19 F22)) a0 a1 a2 a3 a4 := by kernel_rfl
noncomputable def p6_0 (a0 : List (Int × Int × Int)) (a1 : Int) (a2 : (List (Int × Int × Int)) × (List (Int × Int × Int × Int × Int × Int))) (a3 : (List Int) × Int × Int × Int × Int) (a4 : List (Int × Int × Int)) : Option (((List (Int × Int × Int)) × Int × ((List (Int × Int × Int)) × (List (Int × Int × Int × Int × Int × Int))) × ((List Int) × Int × Int × Int × Int) × (List (Int × Int × Int))) ⊕ ((List (Int × Int × Int)) × ((List (Int × Int × Int)) × (List (Int × Int × Int × Int × Int × Int))) × ((List Int) × Int × Int × Int × Int) × (List (Int × Int × Int)))) := q6_0 P21 P9 P23 P17 P15 P24 P19 P22 L6_1 a0 a1 a2 a3 a4
noncomputable def L6_0 : (List (Int × Int × Int)) × Int × ((List (Int × Int × Int)) × (List (Int × Int × Int × Int × Int × Int))) × ((List Int) × Int × Int × Int × Int) × (List (Int × Int × Int)) → Option ((List (Int × Int × Int)) × ((List (Int × Int × Int)) × (List (Int × Int × Int × Int × Int × Int))) × ((List Int) × Int × Int × Int × Int) × (List (Int × Int × Int))) := whileF (fun x => p6_0 x.1 x.2.1 x.2.2.1 x.2.2.2.1 x.2.2.2.2)
theorem v6_0 : l6_0 (T6 P21 P9 P23 P17 P15 P24 P19 P22) = L6_0 := congrArg whileF (funext fun x => (g6_0 P21 P9 P23 P17 P15 P24 P19 P22 x.1 x.2.1 x.2.2.1 x.2.2.2.1 x.2.2.2.2).trans (show q6_0 P21 P9 P23 P17 P15 P24 P19 P22 (l6_1 (T6 P21 P9 P23 P17 P15 P24 P19 P22)) x.1 x.2.1 x.2.2.1 x.2.2.2.1 x.2.2.2.2 = q6_0 P21 P9 P23 P17 P15 P24 P19 P22 L6_1 x.1 x.2.1 x.2.2.1 x.2.2.2.1 x.2.2.2.2 from by rw [v6_1]))
def b6_2 : DCode := (.seq (.reg [.op ⟨some 108, .mov (.t 1), none⟩ none,
  .op ⟨some 109, .len (.t 108), none⟩ none,
  .op ⟨some 110, .bin true .gtr (.t 109) (.c (.int .i64 0)), none⟩ none]) (.cond (.t 110) (.reg [.op ⟨some 111, .mov (.t 7), none⟩ none,
  .op ⟨some 112, .mov (.t 1), none⟩ none,
  .op ⟨some 113, .mov (.t 1), none⟩ none,
  .op ⟨some 114, .len (.t 113), none⟩ none,
  .op ⟨some 115, .bin true .sub (.t 114) (.c (.int .i64 1)), none⟩ none,
  .op ⟨some 116, .idx (.t 112) (.t 115) 3, none⟩ none,
  .op ⟨some 117, .ldn (.t 116) 3 false, none⟩ none,
  .op ⟨some 118, .bsr 53 3 [(.t 117)], none⟩ (some (true, (.pair (.int .i64) (.pair (.int .i64) (.int .i64))))),
  .op ⟨some 119, .app 53 3 24 (.t 111) (.t 118), none⟩ (some (true, (.pair (.int .i64) (.pair (.int .i64) (.int .i64))))),
  .op ⟨some 7, .mov (.t 119), none⟩ none]) .skip))
def h6_2 : LSh := ⟨[1, 3, 5, 7], ⟨[(.v (.sl (.pair (.int .i64) (.pair (.int .i64) (.int .i64))))), (.ptr 0 0), (.ptr 1 0), (.slc 2)], [(0, (.boxT (.pair (.sl (.pair (.int .i64) (.pair (.int .i64) (.int .i64)))) (.sl (.pair (.int .i64) (.pair (.int .i64) (.pair (.int .i64) (.pair (.int .i64) (.pair (.int .i64) (.int .i64)))))))))), (1, (.boxT (.pair (.sl (.int .i64)) (.pair (.int .i64) (.pair (.int .i64) (.pair (.int .i64) (.int .i64))))))), (2, (.row 53 (.pair (.int .i64) (.pair (.int .i64) (.int .i64)))))]⟩, [(.sl (.pair (.int .i64) (.pair (.int .i64) (.int .i64)))), (.pair (.sl (.pair (.int .i64) (.pair (.int .i64) (.int .i64)))) (.sl (.pair (.int .i64) (.pair (.int .i64) (.pair (.int .i64) (.pair (.int .i64) (.pair (.int .i64) (.int .i64)))))))), (.pair (.sl (.int .i64)) (.pair (.int .i64) (.pair (.int .i64) (.pair (.int .i64) (.int .i64))))), (.sl (.pair (.int .i64) (.pair (.int .i64) (.int .i64))))], 3, [0, 1]⟩
def x6_2 : List XSh := [⟨.normal, [1, 3, 5, 7], ⟨⟨[(.v (.sl (.pair (.int .i64) (.pair (.int .i64) (.int .i64))))), (.ptr 0 0), (.ptr 1 0), (.slc 2)], [(0, (.boxT (.pair (.sl (.pair (.int .i64) (.pair (.int .i64) (.int .i64)))) (.sl (.pair (.int .i64) (.pair (.int .i64) (.pair (.int .i64) (.pair (.int .i64) (.pair (.int .i64) (.int .i64)))))))))), (1, (.boxT (.pair (.sl (.int .i64)) (.pair (.int .i64) (.pair (.int .i64) (.pair (.int .i64) (.int .i64))))))), (2, (.row 53 (.pair (.int .i64) (.pair (.int .i64) (.int .i64)))))]⟩, [(.sl (.pair (.int .i64) (.pair (.int .i64) (.int .i64)))), (.pair (.sl (.pair (.int .i64) (.pair (.int .i64) (.int .i64)))) (.sl (.pair (.int .i64) (.pair (.int .i64) (.pair (.int .i64) (.pair (.int .i64) (.pair (.int .i64) (.int .i64)))))))), (.pair (.sl (.int .i64)) (.pair (.int .i64) (.pair (.int .i64) (.pair (.int .i64) (.int .i64))))), (.sl (.pair (.int .i64) (.pair (.int .i64) (.int .i64))))], [0, 1], 3⟩⟩]
noncomputable def l6_2 (T : List FEnt) : (List (Int × Int × Int)) × ((List (Int × Int × Int)) × (List (Int × Int × Int × Int × Int × Int))) × ((List Int) × Int × Int × Int × Int) × (List (Int × Int × Int)) → Option ((List (Int × Int × Int)) × ((List (Int × Int × Int)) × (List (Int × Int × Int × Int × Int × Int))) × ((List Int) × Int × Int × Int × Int) × (List (Int × Int × Int))) := onceF (xs := x6_2) h6_2 (dxc T b6_2)
noncomputable def q6_2 (F21 : (List (Int × Int × Int)) × (List (Int × Int × Int × Int × Int × Int)) → Option (Bool)) (F9 : Unit → Option (Bool)) (F23 : ((List (Int × Int × Int)) × (List (Int × Int × Int × Int × Int × Int))) × (List (Int × Int × Int)) → Option (Int)) (F17 : ((List (Int × Int × Int)) × (List (Int × Int × Int × Int × Int × Int))) × (List (Int × Int × Int)) → Option (Int × Int × (List Int))) (F15 : (List Int) × (List Int) → Option (Bool)) (F24 : List Int → Option (Int)) (F19 : ((List (Int × Int × Int)) × (List (Int × Int × Int × Int × Int × Int))) × (List (Int × Int × Int)) × Int → Option (Int × Int)) (F22 : (List (Int × Int × Int)) × (List (Int × Int × Int × Int × Int × Int)) → Option (Int × Int)) (a0 : List (Int × Int × Int)) (a1 : (List (Int × Int × Int)) × (List (Int × Int × Int × Int × Int × Int))) (a2 : (List Int) × Int × Int × Int × Int) (a3 : List (Int × Int × Int)) : Option ((List (Int × Int × Int)) × ((List (Int × Int × Int)) × (List (Int × Int × Int × Int × Int × Int))) × ((List Int) × Int × Int × Int × Int) × (List (Int × Int × Int))) :=
cond (decide ((0 : Int) < (↑(List.length a0) : Int))) (
chk (fits .i64 ((↑(List.length a0) : Int) - (1 : Int))) (
chk (inR ((↑(List.length a0) : Int) - (1 : Int)) (List.length a0)) (
chk (capOk 24 (List.length a3 + List.length ([(ix a0 ((↑(List.length a0) : Int) - (1 : Int)))] : List (Int × Int × Int)))) (
some (a0, a1, a2, (a3 ++ ([(ix a0 ((↑(List.length a0) : Int) - (1 : Int)))] : List (Int × Int × Int)))))))) (
some (a0, a1, a2, a3))
theorem g6_2 (F21 : (List (Int × Int × Int)) × (List (Int × Int × Int × Int × Int × Int)) → Option (Bool)) (F9 : Unit → Option (Bool)) (F23 : ((List (Int × Int × Int)) × (List (Int × Int × Int × Int × Int × Int))) × (List (Int × Int × Int)) → Option (Int)) (F17 : ((List (Int × Int × Int)) × (List (Int × Int × Int × Int × Int × Int))) × (List (Int × Int × Int)) → Option (Int × Int × (List Int))) (F15 : (List Int) × (List Int) → Option (Bool)) (F24 : List Int → Option (Int)) (F19 : ((List (Int × Int × Int)) × (List (Int × Int × Int × Int × Int × Int))) × (List (Int × Int × Int)) × Int → Option (Int × Int)) (F22 : (List (Int × Int × Int)) × (List (Int × Int × Int × Int × Int × Int)) → Option (Int × Int)) (a0 : List (Int × Int × Int)) (a1 : (List (Int × Int × Int)) × (List (Int × Int × Int × Int × Int × Int))) (a2 : (List Int) × Int × Int × Int × Int) (a3 : List (Int × Int × Int)) : l6_2 (T6 F21 F9 F23 F17 F15 F24 F19 F22) (a0, a1, a2, a3) = q6_2 F21 F9 F23 F17 F15 F24 F19 F22 a0 a1 a2 a3 := by kernel_rfl
noncomputable def p6_2 (a0 : List (Int × Int × Int)) (a1 : (List (Int × Int × Int)) × (List (Int × Int × Int × Int × Int × Int))) (a2 : (List Int) × Int × Int × Int × Int) (a3 : List (Int × Int × Int)) : Option ((List (Int × Int × Int)) × ((List (Int × Int × Int)) × (List (Int × Int × Int × Int × Int × Int))) × ((List Int) × Int × Int × Int × Int) × (List (Int × Int × Int))) := q6_2 P21 P9 P23 P17 P15 P24 P19 P22 a0 a1 a2 a3
noncomputable def L6_2 : (List (Int × Int × Int)) × ((List (Int × Int × Int)) × (List (Int × Int × Int × Int × Int × Int))) × ((List Int) × Int × Int × Int × Int) × (List (Int × Int × Int)) → Option ((List (Int × Int × Int)) × ((List (Int × Int × Int)) × (List (Int × Int × Int × Int × Int × Int))) × ((List Int) × Int × Int × Int × Int) × (List (Int × Int × Int))) := fun x => p6_2 x.1 x.2.1 x.2.2.1 x.2.2.2
theorem v6_2 : l6_2 (T6 P21 P9 P23 P17 P15 P24 P19 P22) = L6_2 := funext fun x => (g6_2 P21 P9 P23 P17 P15 P24 P19 P22 x.1 x.2.1 x.2.2.1 x.2.2.2).trans (show q6_2 P21 P9 P23 P17 P15 P24 P19 P22 x.1 x.2.1 x.2.2.1 x.2.2.2 = q6_2 P21 P9 P23 P17 P15 P24 P19 P22 x.1 x.2.1 x.2.2.1 x.2.2.2 from rfl)
def b6_3 : DCode := (.seq (.seq (.reg [.op ⟨some 258, .mov (.t 28), none⟩ none,
  .op ⟨some 259, .mov (.t 25), none⟩ none,
  .op ⟨some 260, .len (.t 259), none⟩ none,
  .op ⟨some 261, .bin true .lss (.t 258) (.t 260), none⟩ none]) (.cond (.t 261) .skip (.exit 4))) (.seq (.blk 5 (.seq (.drw [] [(⟨some 264, .mov (.t 25), none⟩, none),
  (⟨some 265, .mov (.t 28), none⟩, none),
  (⟨some 266, .idx (.t 264) (.t 265) 1, none⟩, none),
  (⟨some 267, .ld1 (.t 266) false, none⟩, none),
  (⟨some 268, .mov (.t 10), none⟩, none),
  (⟨some 269, .mov (.t 28), none⟩, none),
  (⟨some 270, .idx (.t 268) (.t 269) 1, none⟩, none),
  (⟨some 271, .ld1 (.t 270) false, none⟩, none),
  (⟨some 272, .bin true .gtr (.t 267) (.t 271), none⟩, none),
  (⟨some 273, .mov (.t 272), none⟩, none),
  (⟨some 274, .mov (.t 25), some (273, false)⟩, none),
  (⟨some 275, .mov (.t 28), some (273, false)⟩, none),
  (⟨some 276, .idx (.t 274) (.t 275) 1, some (273, false)⟩, none),
  (⟨some 277, .ld1 (.t 276) false, some (273, false)⟩, none),
  (⟨some 278, .mov (.t 10), some (273, false)⟩, none),
  (⟨some 279, .mov (.t 28), some (273, false)⟩, none),
  (⟨some 280, .idx (.t 278) (.t 279) 1, some (273, false)⟩, none),
  (⟨some 281, .ld1 (.t 280) false, some (273, false)⟩, none),
  (⟨some 282, .bin true .sub (.t 281) (.c (.int .i64 1)), some (273, false)⟩, none),
  (⟨some 283, .bin true .lss (.t 277) (.t 282), some (273, false)⟩, none),
  (⟨some 284, .pick (.t 273) (.c (.bool true)) (.t 283), none⟩, none)]) (.cond (.t 284) (.seq (.reg [.op ⟨some 6, .mov (.c (.bool false)), none⟩ none]) .ret) .skip))) (.reg [.op ⟨some 262, .mov (.t 28), none⟩ none,
  .op ⟨some 263, .bin true .add (.t 262) (.c (.int .i64 1)), none⟩ none,
  .op ⟨some 28, .mov (.t 263), none⟩ none])))
def h6_3 : LSh := ⟨[10, 25, 28], ⟨[(.slc 0), (.slc 1), (.v (.int .i64))], [(0, (.row 3 (.int .i64))), (1, (.row 3 (.int .i64)))]⟩, [(.int .i64), (.sl (.int .i64)), (.sl (.int .i64))], 2, [0, 1]⟩
def x6_3 : List XSh := [⟨.ret, [6], ⟨⟨[(.v .bool)], [(0, (.row 3 (.int .i64))), (1, (.row 3 (.int .i64)))]⟩, [.bool, (.sl (.int .i64)), (.sl (.int .i64))], [0, 1], 2⟩⟩, ⟨(.exit 4), [], ⟨⟨[], [(0, (.row 3 (.int .i64))), (1, (.row 3 (.int .i64)))]⟩, [(.sl (.int .i64)), (.sl (.int .i64))], [0, 1], 2⟩⟩]
noncomputable def s6_3 (T : List FEnt) : Int × (List Int) × (List Int) → Option ((Int × (List Int) × (List Int)) ⊕ ((Bool × (List Int) × (List Int)) ⊕ ((List Int) × (List Int)))) := dstep (xs := x6_3) h6_3 (dxc T b6_3)
noncomputable def l6_3 (T : List FEnt) : Int × (List Int) × (List Int) → Option ((Bool × (List Int) × (List Int)) ⊕ ((List Int) × (List Int))) := whileF (s6_3 T)
noncomputable def q6_3 (F21 : (List (Int × Int × Int)) × (List (Int × Int × Int × Int × Int × Int)) → Option (Bool)) (F9 : Unit → Option (Bool)) (F23 : ((List (Int × Int × Int)) × (List (Int × Int × Int × Int × Int × Int))) × (List (Int × Int × Int)) → Option (Int)) (F17 : ((List (Int × Int × Int)) × (List (Int × Int × Int × Int × Int × Int))) × (List (Int × Int × Int)) → Option (Int × Int × (List Int))) (F15 : (List Int) × (List Int) → Option (Bool)) (F24 : List Int → Option (Int)) (F19 : ((List (Int × Int × Int)) × (List (Int × Int × Int × Int × Int × Int))) × (List (Int × Int × Int)) × Int → Option (Int × Int)) (F22 : (List (Int × Int × Int)) × (List (Int × Int × Int × Int × Int × Int)) → Option (Int × Int)) (a0 : Int) (a1 : List Int) (a2 : List Int) : Option ((Int × (List Int) × (List Int)) ⊕ ((Bool × (List Int) × (List Int)) ⊕ ((List Int) × (List Int)))) :=
cond (decide (a0 < (↑(List.length a2) : Int))) (
chk (inR a0 (List.length a2)) (
chk (inR a0 (List.length a1)) (
cond (decide ((ix a1 a0) < (ix a2 a0))) (
some (Sum.inr (Sum.inl (false, a1, a2)))) (
chk (inR a0 (List.length a2)) (
chk (inR a0 (List.length a1)) (
chk (fits .i64 ((ix a1 a0) - (1 : Int))) (
cond (decide ((ix a2 a0) < ((ix a1 a0) - (1 : Int)))) (
some (Sum.inr (Sum.inl (false, a1, a2)))) (
chk (fits .i64 (a0 + (1 : Int))) (
some (Sum.inl ((a0 + (1 : Int)), a1, a2))))))))))) (
some (Sum.inr (Sum.inr (a1, a2))))
theorem g6_3 (F21 : (List (Int × Int × Int)) × (List (Int × Int × Int × Int × Int × Int)) → Option (Bool)) (F9 : Unit → Option (Bool)) (F23 : ((List (Int × Int × Int)) × (List (Int × Int × Int × Int × Int × Int))) × (List (Int × Int × Int)) → Option (Int)) (F17 : ((List (Int × Int × Int)) × (List (Int × Int × Int × Int × Int × Int))) × (List (Int × Int × Int)) → Option (Int × Int × (List Int))) (F15 : (List Int) × (List Int) → Option (Bool)) (F24 : List Int → Option (Int)) (F19 : ((List (Int × Int × Int)) × (List (Int × Int × Int × Int × Int × Int))) × (List (Int × Int × Int)) × Int → Option (Int × Int)) (F22 : (List (Int × Int × Int)) × (List (Int × Int × Int × Int × Int × Int)) → Option (Int × Int)) (a0 : Int) (a1 : List Int) (a2 : List Int) : s6_3 (T6 F21 F9 F23 F17 F15 F24 F19 F22) (a0, a1, a2) = q6_3 F21 F9 F23 F17 F15 F24 F19 F22 a0 a1 a2 := by kernel_rfl
noncomputable def p6_3 (a0 : Int) (a1 : List Int) (a2 : List Int) : Option ((Int × (List Int) × (List Int)) ⊕ ((Bool × (List Int) × (List Int)) ⊕ ((List Int) × (List Int)))) := q6_3 P21 P9 P23 P17 P15 P24 P19 P22 a0 a1 a2
noncomputable def L6_3 : Int × (List Int) × (List Int) → Option ((Bool × (List Int) × (List Int)) ⊕ ((List Int) × (List Int))) := whileF (fun x => p6_3 x.1 x.2.1 x.2.2)
theorem v6_3 : l6_3 (T6 P21 P9 P23 P17 P15 P24 P19 P22) = L6_3 := congrArg whileF (funext fun x => (g6_3 P21 P9 P23 P17 P15 P24 P19 P22 x.1 x.2.1 x.2.2).trans (show q6_3 P21 P9 P23 P17 P15 P24 P19 P22 x.1 x.2.1 x.2.2 = q6_3 P21 P9 P23 P17 P15 P24 P19 P22 x.1 x.2.1 x.2.2 from rfl))
def c6 : DCode := (.seq (.reg [.op ⟨some 3, .box (.t 0), none⟩ none,
  .op ⟨some 5, .box (.t 2), none⟩ none,
  .op ⟨some 6, .mov (.c (.bool false)), none⟩ none]) (.seq (.seq (.reg [.op ⟨some 29, .ldn (.t 3) 2 false, none⟩ none,
  .op ⟨some 30, .xcall 21 [(.t 29)], none⟩ none,
  .op ⟨some 31, .unot (.t 30), none⟩ none,
  .op ⟨some 32, .mov (.t 31), none⟩ none,
  .op ⟨some 33, .mov (.t 1), some (32, false)⟩ none,
  .op ⟨some 34, .len (.t 33), some (32, false)⟩ none,
  .op ⟨some 35, .bin true .gtr (.t 34) (.c (.int .i64 28)), some (32, false)⟩ none,
  .op ⟨some 36, .pick (.t 32) (.c (.bool true)) (.t 35), none⟩ none,
  .op ⟨some 37, .mov (.t 36), none⟩ none,
  .op ⟨some 38, .fld (.t 5) 0, some (37, false)⟩ none,
  .op ⟨some 39, .ld1 (.t 38) false, some (37, false)⟩ none,
  .op ⟨some 40, .len (.t 39), some (37, false)⟩ none,
  .op ⟨some 41, .bin true .gtr (.t 40) (.c (.int .i64 40)), some (37, false)⟩ none,
  .op ⟨some 42, .pick (.t 37) (.c (.bool true)) (.t 41), none⟩ none,
  .op ⟨some 43, .mov (.t 42), none⟩ none,
  .op ⟨some 44, .ldn (.t 3) 2 false, some (43, false)⟩ none,
  .op ⟨some 45, .mov (.t 1), some (43, false)⟩ none,
  .op ⟨some 46, .xcall 23 [(.t 44), (.t 45)], some (43, false)⟩ none,
  .op ⟨some 47, .bin true .neq (.t 46) (.c (.int .i64 0)), some (43, false)⟩ none,
  .op ⟨some 48, .pick (.t 43) (.c (.bool true)) (.t 47), none⟩ none,
  .op ⟨some 49, .mov (.t 48), none⟩ none,
  .op ⟨some 50, .fld (.t 5) 4, some (49, false)⟩ none,
  .op ⟨some 51, .ld1 (.t 50) false, some (49, false)⟩ none,
  .op ⟨some 52, .bin true .lss (.t 51) (.c (.int .i64 0)), some (49, false)⟩ none,
  .op ⟨some 53, .pick (.t 49) (.c (.bool true)) (.t 52), none⟩ none,
  .op ⟨some 54, .mov (.t 53), none⟩ none,
  .op ⟨some 55, .fld (.t 5) 4, some (54, false)⟩ none,
  .op ⟨some 56, .ld1 (.t 55) false, some (54, false)⟩ none,
  .op ⟨some 57, .bin true .geq (.t 56) (.c (.int .i64 99)), some (54, false)⟩ none,
  .op ⟨some 58, .pick (.t 54) (.c (.bool true)) (.t 57), none⟩ none]) (.cond (.t 58) (.seq (.reg [.op ⟨some 59, .xcall 9 [], none⟩ none,
  .op ⟨some 6, .mov (.t 59), none⟩ none]) .ret) .skip)) (.seq (.reg [.op ⟨some 60, .bsr 53 3 [], none⟩ (some (true, (.pair (.int .i64) (.pair (.int .i64) (.int .i64))))),
  .op ⟨some 61, .mov (.t 1), none⟩ none,
  .op ⟨some 62, .app 53 3 24 (.t 60) (.t 61), none⟩ (some (true, (.pair (.int .i64) (.pair (.int .i64) (.int .i64))))),
  .op ⟨some 7, .mov (.t 62), none⟩ none]) (.seq (.seq (.reg [.op ⟨some 8, .mov (.c (.int .i64 0)), none⟩ none]) (.blk 0 (.loop h6_0 x6_0 b6_0))) (.seq (.once h6_2 x6_2 b6_2) (.seq (.reg [.op ⟨some 121, .ldn (.t 3) 2 false, none⟩ none,
  .op ⟨some 122, .mov (.t 1), none⟩ none,
  .op ⟨some 123, .xcall 17 [(.t 121), (.t 122)], none⟩ none,
  .op ⟨some 120, .mov (.t 123), none⟩ none,
  .op ⟨some 124, .ext (.t 120) 0, none⟩ none,
  .op ⟨some 125, .ext (.t 120) 1, none⟩ none,
  .op ⟨some 126, .ext (.t 120) 2, none⟩ none,
  .op ⟨some 10, .mov (.t 124), none⟩ none,
  .op ⟨some 11, .mov (.t 125), none⟩ none,
  .op ⟨some 12, .mov (.t 126), none⟩ none]) (.seq (.reg [.op ⟨some 128, .ldn (.t 3) 2 false, none⟩ none,
  .op ⟨some 129, .mov (.t 7), none⟩ none,
  .op ⟨some 130, .xcall 17 [(.t 128), (.t 129)], none⟩ none,
  .op ⟨some 127, .mov (.t 130), none⟩ none,
  .op ⟨some 131, .ext (.t 127) 0, none⟩ none,
  .op ⟨some 132, .ext (.t 127) 1, none⟩ none,
  .op ⟨some 133, .ext (.t 127) 2, none⟩ none,
  .op ⟨some 13, .mov (.t 131), none⟩ none,
  .op ⟨some 14, .mov (.t 132), none⟩ none,
  .op ⟨some 15, .mov (.t 133), none⟩ none]) (.seq (.seq (.reg [.op ⟨some 134, .mov (.t 12), none⟩ none,
  .op ⟨some 135, .bin true .neq (.t 134) (.c (.int .i64 0)), none⟩ none,
  .op ⟨some 136, .mov (.t 135), none⟩ none,
  .op ⟨some 137, .mov (.t 15), some (136, false)⟩ none,
  .op ⟨some 138, .bin true .neq (.t 137) (.c (.int .i64 0)), some (136, false)⟩ none,
  .op ⟨some 139, .pick (.t 136) (.c (.bool true)) (.t 138), none⟩ none,
  .op ⟨some 140, .mov (.t 139), none⟩ none,
  .op ⟨some 141, .mov (.t 11), some (140, false)⟩ none,
  .op ⟨some 142, .mov (.t 14), some (140, false)⟩ none,
  .op ⟨some 143, .bin true .neq (.t 141) (.t 142), some (140, false)⟩ none,
  .op ⟨some 144, .pick (.t 140) (.c (.bool true)) (.t 143), none⟩ none,
  .op ⟨some 145, .mov (.t 144), none⟩ none,
  .op ⟨some 146, .mov (.t 10), some (145, false)⟩ none,
  .op ⟨some 147, .mov (.t 13), some (145, false)⟩ none,
  .op ⟨some 148, .xcall 15 [(.t 146), (.t 147)], some (145, false)⟩ none,
  .op ⟨some 149, .unot (.t 148), some (145, false)⟩ none,
  .op ⟨some 150, .pick (.t 145) (.c (.bool true)) (.t 149), none⟩ none,
  .op ⟨some 151, .mov (.t 150), none⟩ none,
  .op ⟨some 152, .mov (.t 10), some (151, false)⟩ none,
  .op ⟨some 153, .len (.t 152), some (151, false)⟩ none,
  .op ⟨some 154, .fld (.t 3) 1, some (151, false)⟩ none,
  .op ⟨some 155, .ld1 (.t 154) false, some (151, false)⟩ none,
  .op ⟨some 156, .len (.t 155), some (151, false)⟩ none,
  .op ⟨some 157, .bin true .neq (.t 153) (.t 156), some (151, false)⟩ none,
  .op ⟨some 158, .pick (.t 151) (.c (.bool true)) (.t 157), none⟩ none,
  .op ⟨some 159, .mov (.t 158), none⟩ none,
  .op ⟨some 160, .mov (.t 10), some (159, false)⟩ none,
  .op ⟨some 161, .xcall 24 [(.t 160)], some (159, false)⟩ none,
  .op ⟨some 162, .bin true .gtr (.t 161) (.c (.int .i64 100)), some (159, false)⟩ none,
  .op ⟨some 163, .pick (.t 159) (.c (.bool true)) (.t 162), none⟩ none]) (.cond (.t 163) (.seq (.reg [.op ⟨some 6, .mov (.c (.bool false)), none⟩ none]) .ret) .skip)) (.seq (.reg [.op ⟨some 165, .ldn (.t 3) 2 false, none⟩ none,
  .op ⟨some 166, .mov (.t 1), none⟩ none,
  .op ⟨some 167, .fld (.t 5) 4, none⟩ none,
  .op ⟨some 168, .ld1 (.t 167) false, none⟩ none,
  .op ⟨some 169, .xcall 19 [(.t 165), (.t 166), (.t 168)], none⟩ none,
  .op ⟨some 164, .mov (.t 169), none⟩ none,
  .op ⟨some 170, .ext (.t 164) 0, none⟩ none,
  .op ⟨some 171, .ext (.t 164) 1, none⟩ none,
  .op ⟨some 16, .mov (.t 170), none⟩ none,
  .op ⟨some 17, .mov (.t 171), none⟩ none]) (.seq (.reg [.op ⟨some 173, .ldn (.t 3) 2 false, none⟩ none,
  .op ⟨some 174, .mov (.t 7), none⟩ none,
  .op ⟨some 175, .fld (.t 5) 4, none⟩ none,
  .op ⟨some 176, .ld1 (.t 175) false, none⟩ none,
  .op ⟨some 177, .bin true .add (.t 176) (.c (.int .i64 1)), none⟩ none,
  .op ⟨some 178, .xcall 19 [(.t 173), (.t 174), (.t 177)], none⟩ none,
  .op ⟨some 172, .mov (.t 178), none⟩ none,
  .op ⟨some 179, .ext (.t 172) 0, none⟩ none,
  .op ⟨some 180, .ext (.t 172) 1, none⟩ none,
  .op ⟨some 18, .mov (.t 179), none⟩ none,
  .op ⟨some 19, .mov (.t 180), none⟩ none]) (.seq (.reg [.op ⟨some 182, .ldn (.t 3) 2 false, none⟩ none,
  .op ⟨some 183, .xcall 19 [(.t 182), (.c .emp), (.c (.int .i64 0))], none⟩ none,
  .op ⟨some 181, .mov (.t 183), none⟩ none,
  .op ⟨some 184, .ext (.t 181) 0, none⟩ none,
  .op ⟨some 185, .ext (.t 181) 1, none⟩ none,
  .op ⟨some 20, .mov (.t 184), none⟩ none,
  .op ⟨some 21, .mov (.t 185), none⟩ none]) (.seq (.reg [.op ⟨some 187, .ldn (.t 3) 2 false, none⟩ none,
  .op ⟨some 188, .xcall 22 [(.t 187)], none⟩ none,
  .op ⟨some 186, .mov (.t 188), none⟩ none,
  .op ⟨some 189, .ext (.t 186) 0, none⟩ none,
  .op ⟨some 190, .ext (.t 186) 1, none⟩ none,
  .op ⟨some 22, .mov (.t 189), none⟩ none,
  .op ⟨some 23, .mov (.t 190), none⟩ none]) (.seq (.seq (.reg [.op ⟨some 191, .mov (.t 17), none⟩ none,
  .op ⟨some 192, .bin true .neq (.t 191) (.c (.int .i64 0)), none⟩ none,
  .op ⟨some 193, .mov (.t 192), none⟩ none,
  .op ⟨some 194, .mov (.t 19), some (193, false)⟩ none,
  .op ⟨some 195, .bin true .neq (.t 194) (.c (.int .i64 0)), some (193, false)⟩ none,
  .op ⟨some 196, .pick (.t 193) (.c (.bool true)) (.t 195), none⟩ none,
  .op ⟨some 197, .mov (.t 196), none⟩ none,
  .op ⟨some 198, .mov (.t 21), some (197, false)⟩ none,
  .op ⟨some 199, .bin true .neq (.t 198) (.c (.int .i64 0)), some (197, false)⟩ none,
  .op ⟨some 200, .pick (.t 197) (.c (.bool true)) (.t 199), none⟩ none,
  .op ⟨some 201, .mov (.t 200), none⟩ none,
  .op ⟨some 202, .mov (.t 23), some (201, false)⟩ none,
  .op ⟨some 203, .bin true .neq (.t 202) (.c (.int .i64 0)), some (201, false)⟩ none,
  .op ⟨some 204, .pick (.t 201) (.c (.bool true)) (.t 203), none⟩ none,
  .op ⟨some 205, .mov (.t 204), none⟩ none,
  .op ⟨some 206, .mov (.t 16), some (205, false)⟩ none,
  .op ⟨some 207, .mov (.t 10), some (205, false)⟩ none,
  .op ⟨some 208, .xcall 24 [(.t 207)], some (205, false)⟩ none,
  .op ⟨some 209, .bin true .gtr (.t 206) (.t 208), some (205, false)⟩ none,
  .op ⟨some 210, .pick (.t 205) (.c (.bool true)) (.t 209), none⟩ none,
  .op ⟨some 211, .mov (.t 210), none⟩ none,
  .op ⟨some 212, .mov (.t 18), some (211, false)⟩ none,
  .op ⟨some 213, .mov (.t 16), some (211, false)⟩ none,
  .op ⟨some 214, .bin true .gtr (.t 212) (.t 213), some (211, false)⟩ none,
  .op ⟨some 215, .pick (.t 211) (.c (.bool true)) (.t 214), none⟩ none,
  .op ⟨some 216, .mov (.t 215), none⟩ none,
  .op ⟨some 217, .mov (.t 18), some (216, false)⟩ none,
  .op ⟨some 218, .bin true .lss (.t 217) (.c (.int .i64 0)), some (216, false)⟩ none,
  .op ⟨some 219, .pick (.t 216) (.c (.bool true)) (.t 218), none⟩ none,
  .op ⟨some 220, .mov (.t 219), none⟩ none,
  .op ⟨some 221, .mov (.t 20), some (220, false)⟩ none,
  .op ⟨some 222, .mov (.t 22), some (220, false)⟩ none,
  .op ⟨some 223, .bin true .neq (.t 221) (.t 222), some (220, false)⟩ none,
  .op ⟨some 224, .pick (.t 220) (.c (.bool true)) (.t 223), none⟩ none]) (.cond (.t 224) (.seq (.reg [.op ⟨some 6, .mov (.c (.bool false)), none⟩ none]) .ret) .skip)) (.seq (.drw [5] [(⟨some 225, .bsl 3 [], none⟩, none),
  (⟨some 226, .mov (.t 1), none⟩, none),
  (⟨some 228, .fld (.t 5) 1, none⟩, none),
  (⟨some 229, .ldn (.t 228) 3 true, none⟩, none),
  (⟨some 230, .bsl 3 [(.t 229)], none⟩, (some (true, (.pair (.int .i64) (.pair (.int .i64) (.int .i64)))))),
  (⟨some 227, .app 53 3 24 (.t 225) (.t 226), none⟩, (some (true, (.pair (.int .i64) (.pair (.int .i64) (.int .i64)))))),
  (⟨some 231, .app 53 3 24 (.t 227) (.t 230), none⟩, (some (true, (.pair (.int .i64) (.pair (.int .i64) (.int .i64)))))),
  (⟨some 24, .mov (.t 231), none⟩, none)]) (.seq (.seq (.reg [.op ⟨some 232, .ldn (.t 3) 2 false, none⟩ none,
  .op ⟨some 233, .mov (.t 24), none⟩ none,
  .op ⟨some 234, .xcall 23 [(.t 232), (.t 233)], none⟩ none,
  .op ⟨some 235, .bin true .neq (.t 234) (.c (.int .i64 0)), none⟩ none]) (.cond (.t 235) (.seq (.reg [.op ⟨some 236, .xcall 9 [], none⟩ none,
  .op ⟨some 6, .mov (.t 236), none⟩ none]) .ret) .skip)) (.seq (.reg [.op ⟨some 238, .ldn (.t 3) 2 false, none⟩ none,
  .op ⟨some 239, .mov (.t 24), none⟩ none,
  .op ⟨some 240, .xcall 17 [(.t 238), (.t 239)], none⟩ none,
  .op ⟨some 237, .mov (.t 240), none⟩ none,
  .op ⟨some 241, .ext (.t 237) 0, none⟩ none,
  .op ⟨some 242, .ext (.t 237) 1, none⟩ none,
  .op ⟨some 243, .ext (.t 237) 2, none⟩ none,
  .op ⟨some 25, .mov (.t 241), none⟩ none,
  .op ⟨some 26, .mov (.t 242), none⟩ none,
  .op ⟨some 27, .mov (.t 243), none⟩ none]) (.seq (.seq (.reg [.op ⟨some 244, .mov (.t 27), none⟩ none,
  .op ⟨some 245, .bin true .neq (.t 244) (.c (.int .i64 0)), none⟩ none,
  .op ⟨some 246, .mov (.t 245), none⟩ none,
  .op ⟨some 247, .mov (.t 25), some (246, false)⟩ none,
  .op ⟨some 248, .len (.t 247), some (246, false)⟩ none,
  .op ⟨some 249, .mov (.t 10), some (246, false)⟩ none,
  .op ⟨some 250, .len (.t 249), some (246, false)⟩ none,
  .op ⟨some 251, .bin true .neq (.t 248) (.t 250), some (246, false)⟩ none,
  .op ⟨some 252, .pick (.t 246) (.c (.bool true)) (.t 251), none⟩ none,
  .op ⟨some 253, .mov (.t 252), none⟩ none,
  .op ⟨some 254, .mov (.t 26), some (253, false)⟩ none,
  .op ⟨some 255, .mov (.t 11), some (253, false)⟩ none,
  .op ⟨some 256, .bin true .lss (.t 254) (.t 255), some (253, false)⟩ none,
  .op ⟨some 257, .pick (.t 253) (.c (.bool true)) (.t 256), none⟩ none]) (.cond (.t 257) (.seq (.reg [.op ⟨some 6, .mov (.c (.bool false)), none⟩ none]) .ret) .skip)) (.seq (.seq (.reg [.op ⟨some 28, .mov (.c (.int .i64 0)), none⟩ none]) (.blk 4 (.loop h6_3 x6_3 b6_3))) (.seq (.reg [.op ⟨some 285, .xcall 9 [], none⟩ none,
  .op ⟨some 6, .mov (.t 285), none⟩ none]) .ret)))))))))))))))))))
theorem ok6 : L.Fn Try.prog 6 286 [(.t 6)] (erase c6) := L.Fn.of hmix Try.func6 [(8, { ch := [0,0,0,0,0,0,0,0,0,0,1] }), (23, { ch := [1,0,0,0,1,1,0,0], rs := [5], ord := [0,1,3,4,5,2,6,7] })] (by kernel_rfl)
def sh6 : FSh := ⟨⟨[(.st (.pair (.sl (.pair (.int .i64) (.pair (.int .i64) (.int .i64)))) (.sl (.pair (.int .i64) (.pair (.int .i64) (.pair (.int .i64) (.pair (.int .i64) (.pair (.int .i64) (.int .i64))))))))), (.v (.sl (.pair (.int .i64) (.pair (.int .i64) (.int .i64))))), (.st (.pair (.sl (.int .i64)) (.pair (.int .i64) (.pair (.int .i64) (.pair (.int .i64) (.int .i64))))))], []⟩, [(.pair (.sl (.pair (.int .i64) (.pair (.int .i64) (.int .i64)))) (.sl (.pair (.int .i64) (.pair (.int .i64) (.pair (.int .i64) (.pair (.int .i64) (.pair (.int .i64) (.int .i64)))))))), (.sl (.pair (.int .i64) (.pair (.int .i64) (.int .i64)))), (.pair (.sl (.int .i64)) (.pair (.int .i64) (.pair (.int .i64) (.pair (.int .i64) (.int .i64)))))], 0, ⟨⟨[(.v .bool)], []⟩, [.bool], [], 0⟩, true⟩
noncomputable def q6 (F21 : (List (Int × Int × Int)) × (List (Int × Int × Int × Int × Int × Int)) → Option (Bool)) (F9 : Unit → Option (Bool)) (F23 : ((List (Int × Int × Int)) × (List (Int × Int × Int × Int × Int × Int))) × (List (Int × Int × Int)) → Option (Int)) (F17 : ((List (Int × Int × Int)) × (List (Int × Int × Int × Int × Int × Int))) × (List (Int × Int × Int)) → Option (Int × Int × (List Int))) (F15 : (List Int) × (List Int) → Option (Bool)) (F24 : List Int → Option (Int)) (F19 : ((List (Int × Int × Int)) × (List (Int × Int × Int × Int × Int × Int))) × (List (Int × Int × Int)) × Int → Option (Int × Int)) (F22 : (List (Int × Int × Int)) × (List (Int × Int × Int × Int × Int × Int)) → Option (Int × Int)) (l6_0 : (List (Int × Int × Int)) × Int × ((List (Int × Int × Int)) × (List (Int × Int × Int × Int × Int × Int))) × ((List Int) × Int × Int × Int × Int) × (List (Int × Int × Int)) → Option ((List (Int × Int × Int)) × ((List (Int × Int × Int)) × (List (Int × Int × Int × Int × Int × Int))) × ((List Int) × Int × Int × Int × Int) × (List (Int × Int × Int)))) (l6_2 : (List (Int × Int × Int)) × ((List (Int × Int × Int)) × (List (Int × Int × Int × Int × Int × Int))) × ((List Int) × Int × Int × Int × Int) × (List (Int × Int × Int)) → Option ((List (Int × Int × Int)) × ((List (Int × Int × Int)) × (List (Int × Int × Int × Int × Int × Int))) × ((List Int) × Int × Int × Int × Int) × (List (Int × Int × Int)))) (l6_3 : Int × (List Int) × (List Int) → Option ((Bool × (List Int) × (List Int)) ⊕ ((List Int) × (List Int)))) (a0 : (List (Int × Int × Int)) × (List (Int × Int × Int × Int × Int × Int))) (a1 : List (Int × Int × Int)) (a2 : (List Int) × Int × Int × Int × Int) : Option (Bool) :=
(F21 a0).bind fun (r1 : Bool) => (
cond (!r1) (
(F9 ()).bind fun (r2 : Bool) => (
some r2)) (
cond (decide ((28 : Int) < (↑(List.length a1) : Int))) (
(F9 ()).bind fun (r3 : Bool) => (
some r3)) (
cond (decide ((40 : Int) < (↑(List.length a2.1) : Int))) (
(F9 ()).bind fun (r4 : Bool) => (
some r4)) (
(F23 (a0, a1)).bind fun (r5 : Int) => (
cond (!decide (r5 = (0 : Int))) (
(F9 ()).bind fun (r6 : Bool) => (
some r6)) (
cond (decide (a2.2.2.2.2 < (0 : Int))) (
(F9 ()).bind fun (r7 : Bool) => (
some r7)) (
cond (decide ((99 : Int) ≤ a2.2.2.2.2)) (
(F9 ()).bind fun (r8 : Bool) => (
some r8)) (
chk (capOk 24 (List.length ([] : List (Int × Int × Int)) + List.length a1)) (
(l6_0 (a1, (0 : Int), a0, a2, (([] : List (Int × Int × Int)) ++ a1))).bind fun (y10 : (List (Int × Int × Int)) × ((List (Int × Int × Int)) × (List (Int × Int × Int × Int × Int × Int))) × ((List Int) × Int × Int × Int × Int) × (List (Int × Int × Int))) => (
(l6_2 (y10.1, y10.2.1, y10.2.2.1, y10.2.2.2)).bind fun (y11 : (List (Int × Int × Int)) × ((List (Int × Int × Int)) × (List (Int × Int × Int × Int × Int × Int))) × ((List Int) × Int × Int × Int × Int) × (List (Int × Int × Int))) => (
(F17 (y11.2.1, y11.1)).bind fun (r12 : Int × Int × (List Int)) => (
(F17 (y11.2.1, y11.2.2.2)).bind fun (r13 : Int × Int × (List Int)) => (
cond (!decide (r12.2.1 = (0 : Int))) (
some false) (
cond (!decide (r13.2.1 = (0 : Int))) (
some false) (
cond (!decide (r12.1 = r13.1)) (
some false) (
(F15 (r12.2.2, r13.2.2)).bind fun (r14 : Bool) => (
cond (!r14) (
some false) (
cond (!decide ((↑(List.length r12.2.2) : Int) = (↑(List.length y11.2.1.2) : Int))) (
some false) (
(F24 r12.2.2).bind fun (r15 : Int) => (
cond (decide ((100 : Int) < r15)) (
some false) (
(F19 (y11.2.1, y11.1, y11.2.2.1.2.2.2.2)).bind fun (r16 : Int × Int) => (
chk (fits .i64 (y11.2.2.1.2.2.2.2 + (1 : Int))) (
(F19 (y11.2.1, y11.2.2.2, (y11.2.2.1.2.2.2.2 + (1 : Int)))).bind fun (r17 : Int × Int) => (
(F19 (y11.2.1, ([] : List (Int × Int × Int)), (0 : Int))).bind fun (r18 : Int × Int) => (
(F22 y11.2.1).bind fun (r19 : Int × Int) => (
cond (!decide (r16.2 = (0 : Int))) (
some false) (
cond (!decide (r17.2 = (0 : Int))) (
some false) (
cond (!decide (r18.2 = (0 : Int))) (
some false) (
cond (!decide (r19.2 = (0 : Int))) (
some false) (
(F24 r12.2.2).bind fun (r20 : Int) => (
cond (decide (r20 < r16.1)) (
some false) (
cond (decide (r16.1 < r17.1)) (
some false) (
cond (decide (r17.1 < (0 : Int))) (
some false) (
cond (!decide (r18.1 = r19.1)) (
some false) (
chk (capOk 24 (List.length y11.1)) (
chk (capOk 24 (List.length y11.1 + List.length ([(y11.2.2.1.2.1, (y11.2.2.1.2.2.1, y11.2.2.1.2.2.2.1))] : List (Int × Int × Int)))) (
(F23 (y11.2.1, (y11.1 ++ ([(y11.2.2.1.2.1, (y11.2.2.1.2.2.1, y11.2.2.1.2.2.2.1))] : List (Int × Int × Int))))).bind fun (r21 : Int) => (
cond (!decide (r21 = (0 : Int))) (
(F9 ()).bind fun (r22 : Bool) => (
some r22)) (
(F17 (y11.2.1, (y11.1 ++ ([(y11.2.2.1.2.1, (y11.2.2.1.2.2.1, y11.2.2.1.2.2.2.1))] : List (Int × Int × Int))))).bind fun (r23 : Int × Int × (List Int)) => (
cond (!decide (r23.2.1 = (0 : Int))) (
some false) (
cond (!decide ((↑(List.length r23.2.2) : Int) = (↑(List.length r12.2.2) : Int))) (
some false) (
cond (decide (r23.1 < r12.1)) (
some false) (
(l6_3 ((0 : Int), r12.2.2, r23.2.2)).bind (fun (y24 : (Bool × (List Int) × (List Int)) ⊕ ((List Int) × (List Int))) => Sum.elim (fun (y25 : Bool × (List Int) × (List Int)) => (
some y25.1)) (fun (y26 : (List Int) × (List Int)) => (
(F9 ()).bind fun (r27 : Bool) => (
some r27))) y24))))))))))))))))))))))))))))))))))))))))))))
theorem g6 (F21 : (List (Int × Int × Int)) × (List (Int × Int × Int × Int × Int × Int)) → Option (Bool)) (F9 : Unit → Option (Bool)) (F23 : ((List (Int × Int × Int)) × (List (Int × Int × Int × Int × Int × Int))) × (List (Int × Int × Int)) → Option (Int)) (F17 : ((List (Int × Int × Int)) × (List (Int × Int × Int × Int × Int × Int))) × (List (Int × Int × Int)) → Option (Int × Int × (List Int))) (F15 : (List Int) × (List Int) → Option (Bool)) (F24 : List Int → Option (Int)) (F19 : ((List (Int × Int × Int)) × (List (Int × Int × Int × Int × Int × Int))) × (List (Int × Int × Int)) × Int → Option (Int × Int)) (F22 : (List (Int × Int × Int)) × (List (Int × Int × Int × Int × Int × Int)) → Option (Int × Int)) (a0 : (List (Int × Int × Int)) × (List (Int × Int × Int × Int × Int × Int))) (a1 : List (Int × Int × Int)) (a2 : (List Int) × Int × Int × Int × Int) : dxf (T6 F21 F9 F23 F17 F15 F24 F19 F22) sh6 [(.t 6)] c6 (a0, a1, a2) = q6 F21 F9 F23 F17 F15 F24 F19 F22 (l6_0 (T6 F21 F9 F23 F17 F15 F24 F19 F22)) (l6_2 (T6 F21 F9 F23 F17 F15 F24 F19 F22)) (l6_3 (T6 F21 F9 F23 F17 F15 F24 F19 F22)) a0 a1 a2 := by kernel_rfl
noncomputable def p6 (a0 : (List (Int × Int × Int)) × (List (Int × Int × Int × Int × Int × Int))) (a1 : List (Int × Int × Int)) (a2 : (List Int) × Int × Int × Int × Int) : Option (Bool) := q6 P21 P9 P23 P17 P15 P24 P19 P22 L6_0 L6_2 L6_3 a0 a1 a2
noncomputable def P6 : ((List (Int × Int × Int)) × (List (Int × Int × Int × Int × Int × Int))) × (List (Int × Int × Int)) × (List Int) × Int × Int × Int × Int → Option (Bool) := fun x => p6 x.1 x.2.1 x.2.2
theorem v6 : dxf (T6 P21 P9 P23 P17 P15 P24 P19 P22) sh6 [(.t 6)] c6 = P6 := funext fun x => (g6 P21 P9 P23 P17 P15 P24 P19 P22 x.1 x.2.1 x.2.2).trans (show q6 P21 P9 P23 P17 P15 P24 P19 P22 (l6_0 (T6 P21 P9 P23 P17 P15 P24 P19 P22)) (l6_2 (T6 P21 P9 P23 P17 P15 P24 P19 P22)) (l6_3 (T6 P21 P9 P23 P17 P15 P24 P19 P22)) x.1 x.2.1 x.2.2 = q6 P21 P9 P23 P17 P15 P24 P19 P22 L6_0 L6_2 L6_3 x.1 x.2.1 x.2.2 from by rw [v6_0, v6_2, v6_3])
theorem d6 : DC Try.prog 6 sh6 P6 := DC_eq v6 (dxf_sound (sh := sh6) t6 ok6 (by kernel_rfl))
end Go.Proofs.Ytjoncejabdjekaa.D
