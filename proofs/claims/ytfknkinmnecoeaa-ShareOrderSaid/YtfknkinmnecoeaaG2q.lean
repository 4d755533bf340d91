/- Cut down from a longer text. -/
import Derived.Test.YtfknkinmnecoeaaG1q
import Derived.Test.YtfknkinmnecoeaaProg
set_option linter.unusedVariables false
set_option maxRecDepth 100000
namespace Go.Proofs.Ytfknkinmnecoeaa.D
open Go Go.Proofs Go.Proofs.Ytfknkinmnecoeaa.L
def sh92 : FSh := ⟨⟨[(.slc 0), (.v y6), (.v y6), (.v y6), (.fn 79 [])], [(0, (.row 45 y48))]⟩, [y6, y6, y6, y60], 1, ⟨⟨[(.tup [])], [(0, (.row 45 y48))]⟩, [y60], [0], 1⟩, false⟩
noncomputable def T92 (F79 : Y75) (F103 : Y78) (F92 : Y78) : List FEnt := [⟨79, sh79, F79⟩, ⟨103, sh103, F103⟩, ⟨92, sh92, F92⟩]
theorem t92 (F92 : Y78) (h : DC Try.prog 92 sh92 F92) : DTblOK Try.prog (T92 P79 P103 F92) := (DTbl_cons' (f := 79) (sh := sh79) (F := P79) d79 (by kernel_rfl) (DTbl_cons' (f := 103) (sh := sh103) (F := P103) d103 (by kernel_rfl) (DTbl_cons' (f := 92) (sh := sh92) (F := F92) h (by kernel_rfl) DTbl_nil)))
def b92_0 : DCode := (.seq (.seq (.reg [o 31 (.mov (.t 10)),
  o 32 (.mov (.t 11)),
  o 33 (.bin true .lss (.t 31) (.t 32))]) (.cond (.t 33) .skip (.exit 0))) (.blk 1 (.seq (.reg [o 34 (.mov (.t 10)),
  o 35 (.mov (.t 11)),
  o 36 (.bin true .add (.t 34) (.t 35)),
  o 37 (.cvt .u64 (.t 36)),
  o 38 (.bin true .shr (.t 37) (.c (.int .u64 1))),
  o 39 (.cvt .i64 (.t 38)),
  o 12 (.mov (.t 39))]) (.seq (.drw [] [r 40 (.mov (.t 4)),
  r 41 (.mov (.t 0)),
  r 42 (.mov (.t 12)),
  r 43 (.idx (.t 41) (.t 42) 6),
  r 44 (.ldn (.t 43) 6 false),
  r 45 (.mov (.t 0)),
  r 46 (.mov (.t 1)),
  r 47 (.idx (.t 45) (.t 46) 6),
  r 48 (.ldn (.t 47) 6 false),
  r 49 (.xcallv (.t 40) [(.t 44), (.t 48)]),
  r 50 (.bin true .lss (.t 49) (.c (.int .i64 0)))]) (.cond (.t 50) (.reg [o 51 (.mov (.t 12)),
  o 52 (.bin true .add (.t 51) (.c (.int .i64 1))),
  o 10 (.mov (.t 52))]) (.reg [o 53 (.mov (.t 12)),
  o 11 (.mov (.t 53))]))))))
def h92_0 : LSh := ⟨[0, 1, 4, 10, 11], ⟨[(.slc 0), (.v y6), (.fn 79 []), (.v y6), (.v y6)], [(0, (.row 45 y48))]⟩, [y6, y6, y6, y60], 1, [0]⟩
def x92_0 : List XSh := [⟨(.exit 0), [0, 1, 10], ⟨⟨[(.slc 0), (.v y6), (.v y6)], [(0, (.row 45 y48))]⟩, [y6, y6, y60], [0], 1⟩⟩]
noncomputable def s92_0 (T : List FEnt) : Y100 := dstep (xs := x92_0) h92_0 (dxc T b92_0)
noncomputable def l92_0 (T : List FEnt) : Y89 := whileF (s92_0 T)
noncomputable def q92_0 (F79 : Y75) (F103 : Y78) (F92 : Y78) (a0 : Int) (a1 : Int) (a2 : Int) (a3 : List Y3) : Option Y93 :=
cond (decide (a1 < a2)) (
chk (fits .i64 (a1 + a2)) (
chk (fits .u64 (a1 + a2)) (
chk (fits .i64 (shrI .u64 (a1 + a2) (1 : Int))) (
chk (inR (shrI .u64 (a1 + a2) (1 : Int)) (List.length a3)) (
chk (inR a0 (List.length a3)) (
(F79 ((ix a3 (shrI .u64 (a1 + a2) (1 : Int))), (ix a3 a0))).bind fun (r1 : Int) => (
cond (decide (r1 < (0 : Int))) (
chk (fits .i64 ((shrI .u64 (a1 + a2) (1 : Int)) + (1 : Int))) (
some (Sum.inl (a0, ((shrI .u64 (a1 + a2) (1 : Int)) + (1 : Int)), a2, a3)))) (
some (Sum.inl (a0, a1, (shrI .u64 (a1 + a2) (1 : Int)), a3)))))))))) (
some (Sum.inr (a0, a1, a3)))
theorem g92_0 (F79 : Y75) (F103 : Y78) (F92 : Y78) (a0 : Int) (a1 : Int) (a2 : Int) (a3 : List Y3) : s92_0 (T92 F79 F103 F92) (a0, a1, a2, a3) = q92_0 F79 F103 F92 a0 a1 a2 a3 := by kernel_rfl
noncomputable def p92_0 (F92 : Y78) (a0 : Int) (a1 : Int) (a2 : Int) (a3 : List Y3) : Option Y93 := q92_0 P79 P103 F92 a0 a1 a2 a3
noncomputable def L92_0 (F92 : Y78) : Y89 := whileF (fun x => p92_0 F92 x.1 x.2.1 x.2.2.1 x.2.2.2)
theorem v92_0 (F92 : Y78) : l92_0 (T92 P79 P103 F92) = L92_0 F92 := congrArg whileF (funext fun x => (g92_0 P79 P103 F92 x.1 x.2.1 x.2.2.1 x.2.2.2).trans (show q92_0 P79 P103 F92 x.1 x.2.1 x.2.2.1 x.2.2.2 = q92_0 P79 P103 F92 x.1 x.2.1 x.2.2.1 x.2.2.2 from rfl))
def b92_1 : DCode := (.seq (.seq (.reg [o 55 (.mov (.t 13)),
  o 56 (.mov (.t 10)),
  o 57 (.bin true .sub (.t 56) (.c (.int .i64 1))),
  o 58 (.bin true .lss (.t 55) (.t 57))]) (.cond (.t 58) .skip (.exit 2))) (.seq (.blk 3 (.drw [] [r 61 (.mov (.t 0)),
  r 62 (.mov (.t 13)),
  r 63 (.mov (.t 0)),
  r 64 (.mov (.t 13)),
  r 65 (.bin true .add (.t 64) (.c (.int .i64 1))),
  r 66 (.mov (.t 0)),
  r 67 (.mov (.t 13)),
  r 68 (.bin true .add (.t 67) (.c (.int .i64 1))),
  r 69 (.idx (.t 66) (.t 68) 6),
  r 70 (.ldn (.t 69) 6 false),
  r 71 (.mov (.t 0)),
  r 72 (.mov (.t 13)),
  r 73 (.idx (.t 71) (.t 72) 6),
  r 74 (.ldn (.t 73) 6 false),
  r 75 (.idx (.t 61) (.t 62) 6),
  (⟨none, .sto (.t 75) (.t 70) 6, none⟩, none),
  r 76 (.idx (.t 63) (.t 65) 6),
  (⟨none, .sto (.t 76) (.t 74) 6, none⟩, none)])) (.reg [o 59 (.mov (.t 13)),
  o 60 (.bin true .add (.t 59) (.c (.int .i64 1))),
  o 13 (.mov (.t 60))])))
def h92_1 : LSh := ⟨[0, 10, 13], ⟨[(.slc 0), (.v y6), (.v y6)], [(0, (.row 45 y48))]⟩, [y6, y6, y60], 1, [0]⟩
def x92_1 : List XSh := [⟨(.exit 2), [], ⟨⟨[], [(0, (.row 45 y48))]⟩, [y60], [0], 1⟩⟩]
noncomputable def s92_1 (T : List FEnt) : Y126 := dstep (xs := x92_1) h92_1 (dxc T b92_1)
noncomputable def l92_1 (T : List FEnt) : Y80 := whileF (s92_1 T)
noncomputable def q92_1 (F79 : Y75) (F103 : Y78) (F92 : Y78) (a0 : Int) (a1 : Int) (a2 : List Y3) : Option Y121 :=
chk (fits .i64 (a0 - (1 : Int))) (
cond (decide (a1 < (a0 - (1 : Int)))) (
chk (fits .i64 (a1 + (1 : Int))) (
chk (fits .i64 (a1 + (1 : Int))) (
chk (inR (a1 + (1 : Int)) (List.length a2)) (
chk (inR a1 (List.length a2)) (
chk (inR a1 (List.length a2)) (
chk (inR (a1 + (1 : Int)) (List.length (List.set a2 (Int.toNat a1) (ix a2 (a1 + (1 : Int)))))) (
chk (fits .i64 (a1 + (1 : Int))) (
some (Sum.inl (a0, (a1 + (1 : Int)), (List.set (List.set a2 (Int.toNat a1) (ix a2 (a1 + (1 : Int)))) (Int.toNat (a1 + (1 : Int))) (ix a2 a1)))))))))))) (
some (Sum.inr a2)))
theorem g92_1 (F79 : Y75) (F103 : Y78) (F92 : Y78) (a0 : Int) (a1 : Int) (a2 : List Y3) : s92_1 (T92 F79 F103 F92) (a0, a1, a2) = q92_1 F79 F103 F92 a0 a1 a2 := by kernel_rfl
noncomputable def p92_1 (F92 : Y78) (a0 : Int) (a1 : Int) (a2 : List Y3) : Option Y121 := q92_1 P79 P103 F92 a0 a1 a2
noncomputable def L92_1 (F92 : Y78) : Y80 := whileF (fun x => p92_1 F92 x.1 x.2.1 x.2.2)
theorem v92_1 (F92 : Y78) : l92_1 (T92 P79 P103 F92) = L92_1 F92 := congrArg whileF (funext fun x => (g92_1 P79 P103 F92 x.1 x.2.1 x.2.2).trans (show q92_1 P79 P103 F92 x.1 x.2.1 x.2.2 = q92_1 P79 P103 F92 x.1 x.2.1 x.2.2 from rfl))
def b92_2 : DCode := (.seq (.seq (.reg [o 83 (.mov (.t 14)),
  o 84 (.mov (.t 15)),
  o 85 (.bin true .lss (.t 83) (.t 84))]) (.cond (.t 85) .skip (.exit 4))) (.blk 5 (.seq (.reg [o 86 (.mov (.t 14)),
  o 87 (.mov (.t 15)),
  o 88 (.bin true .add (.t 86) (.t 87)),
  o 89 (.cvt .u64 (.t 88)),
  o 90 (.bin true .shr (.t 89) (.c (.int .u64 1))),
  o 91 (.cvt .i64 (.t 90)),
  o 16 (.mov (.t 91))]) (.seq (.drw [] [r 92 (.mov (.t 4)),
  r 93 (.mov (.t 0)),
  r 94 (.mov (.t 2)),
  r 95 (.idx (.t 93) (.t 94) 6),
  r 96 (.ldn (.t 95) 6 false),
  r 97 (.mov (.t 0)),
  r 98 (.mov (.t 16)),
  r 99 (.idx (.t 97) (.t 98) 6),
  r 100 (.ldn (.t 99) 6 false),
  r 101 (.xcallv (.t 92) [(.t 96), (.t 100)]),
  r 102 (.bin true .lss (.t 101) (.c (.int .i64 0))),
  r 103 (.unot (.t 102))]) (.cond (.t 103) (.reg [o 104 (.mov (.t 16)),
  o 105 (.bin true .add (.t 104) (.c (.int .i64 1))),
  o 14 (.mov (.t 105))]) (.reg [o 106 (.mov (.t 16)),
  o 15 (.mov (.t 106))]))))))
def h92_2 : LSh := ⟨[0, 2, 4, 14, 15], ⟨[(.slc 0), (.v y6), (.fn 79 []), (.v y6), (.v y6)], [(0, (.row 45 y48))]⟩, [y6, y6, y6, y60], 1, [0]⟩
def x92_2 : List XSh := [⟨(.exit 4), [0, 2, 14], ⟨⟨[(.slc 0), (.v y6), (.v y6)], [(0, (.row 45 y48))]⟩, [y6, y6, y60], [0], 1⟩⟩]
noncomputable def s92_2 (T : List FEnt) : Y100 := dstep (xs := x92_2) h92_2 (dxc T b92_2)
noncomputable def l92_2 (T : List FEnt) : Y89 := whileF (s92_2 T)
noncomputable def q92_2 (F79 : Y75) (F103 : Y78) (F92 : Y78) (a0 : Int) (a1 : Int) (a2 : Int) (a3 : List Y3) : Option Y93 :=
cond (decide (a1 < a2)) (
chk (fits .i64 (a1 + a2)) (
chk (fits .u64 (a1 + a2)) (
chk (fits .i64 (shrI .u64 (a1 + a2) (1 : Int))) (
chk (inR a0 (List.length a3)) (
chk (inR (shrI .u64 (a1 + a2) (1 : Int)) (List.length a3)) (
(F79 ((ix a3 a0), (ix a3 (shrI .u64 (a1 + a2) (1 : Int))))).bind fun (r4 : Int) => (
cond (!(decide (r4 < (0 : Int)))) (
chk (fits .i64 ((shrI .u64 (a1 + a2) (1 : Int)) + (1 : Int))) (
some (Sum.inl (a0, ((shrI .u64 (a1 + a2) (1 : Int)) + (1 : Int)), a2, a3)))) (
some (Sum.inl (a0, a1, (shrI .u64 (a1 + a2) (1 : Int)), a3)))))))))) (
some (Sum.inr (a0, a1, a3)))
theorem g92_2 (F79 : Y75) (F103 : Y78) (F92 : Y78) (a0 : Int) (a1 : Int) (a2 : Int) (a3 : List Y3) : s92_2 (T92 F79 F103 F92) (a0, a1, a2, a3) = q92_2 F79 F103 F92 a0 a1 a2 a3 := by kernel_rfl
noncomputable def p92_2 (F92 : Y78) (a0 : Int) (a1 : Int) (a2 : Int) (a3 : List Y3) : Option Y93 := q92_2 P79 P103 F92 a0 a1 a2 a3
noncomputable def L92_2 (F92 : Y78) : Y89 := whileF (fun x => p92_2 F92 x.1 x.2.1 x.2.2.1 x.2.2.2)
theorem v92_2 (F92 : Y78) : l92_2 (T92 P79 P103 F92) = L92_2 F92 := congrArg whileF (funext fun x => (g92_2 P79 P103 F92 x.1 x.2.1 x.2.2.1 x.2.2.2).trans (show q92_2 P79 P103 F92 x.1 x.2.1 x.2.2.1 x.2.2.2 = q92_2 P79 P103 F92 x.1 x.2.1 x.2.2.1 x.2.2.2 from rfl))
def b92_3 : DCode := (.seq (.seq (.reg [o 108 (.mov (.t 17)),
  o 109 (.mov (.t 14)),
  o 110 (.bin true .gtr (.t 108) (.t 109))]) (.cond (.t 110) .skip (.exit 6))) (.seq (.blk 7 (.drw [] [r 113 (.mov (.t 0)),
  r 114 (.mov (.t 17)),
  r 115 (.mov (.t 0)),
  r 116 (.mov (.t 17)),
  r 117 (.bin true .sub (.t 116) (.c (.int .i64 1))),
  r 118 (.mov (.t 0)),
  r 119 (.mov (.t 17)),
  r 120 (.bin true .sub (.t 119) (.c (.int .i64 1))),
  r 121 (.idx (.t 118) (.t 120) 6),
  r 122 (.ldn (.t 121) 6 false),
  r 123 (.mov (.t 0)),
  r 124 (.mov (.t 17)),
  r 125 (.idx (.t 123) (.t 124) 6),
  r 126 (.ldn (.t 125) 6 false),
  r 127 (.idx (.t 113) (.t 114) 6),
  (⟨none, .sto (.t 127) (.t 122) 6, none⟩, none),
  r 128 (.idx (.t 115) (.t 117) 6),
  (⟨none, .sto (.t 128) (.t 126) 6, none⟩, none)])) (.reg [o 111 (.mov (.t 17)),
  o 112 (.bin true .sub (.t 111) (.c (.int .i64 1))),
  o 17 (.mov (.t 112))])))
def h92_3 : LSh := ⟨[0, 14, 17], ⟨[(.slc 0), (.v y6), (.v y6)], [(0, (.row 45 y48))]⟩, [y6, y6, y60], 1, [0]⟩
def x92_3 : List XSh := [⟨(.exit 6), [], ⟨⟨[], [(0, (.row 45 y48))]⟩, [y60], [0], 1⟩⟩]
noncomputable def s92_3 (T : List FEnt) : Y126 := dstep (xs := x92_3) h92_3 (dxc T b92_3)
noncomputable def l92_3 (T : List FEnt) : Y80 := whileF (s92_3 T)
noncomputable def q92_3 (F79 : Y75) (F103 : Y78) (F92 : Y78) (a0 : Int) (a1 : Int) (a2 : List Y3) : Option Y121 :=
cond (decide (a0 < a1)) (
chk (fits .i64 (a1 - (1 : Int))) (
chk (fits .i64 (a1 - (1 : Int))) (
chk (inR (a1 - (1 : Int)) (List.length a2)) (
chk (inR a1 (List.length a2)) (
chk (inR a1 (List.length a2)) (
chk (inR (a1 - (1 : Int)) (List.length (List.set a2 (Int.toNat a1) (ix a2 (a1 - (1 : Int)))))) (
chk (fits .i64 (a1 - (1 : Int))) (
some (Sum.inl (a0, (a1 - (1 : Int)), (List.set (List.set a2 (Int.toNat a1) (ix a2 (a1 - (1 : Int)))) (Int.toNat (a1 - (1 : Int))) (ix a2 a1)))))))))))) (
some (Sum.inr a2))
theorem g92_3 (F79 : Y75) (F103 : Y78) (F92 : Y78) (a0 : Int) (a1 : Int) (a2 : List Y3) : s92_3 (T92 F79 F103 F92) (a0, a1, a2) = q92_3 F79 F103 F92 a0 a1 a2 := by kernel_rfl
noncomputable def p92_3 (F92 : Y78) (a0 : Int) (a1 : Int) (a2 : List Y3) : Option Y121 := q92_3 P79 P103 F92 a0 a1 a2
noncomputable def L92_3 (F92 : Y78) : Y80 := whileF (fun x => p92_3 F92 x.1 x.2.1 x.2.2)
theorem v92_3 (F92 : Y78) : l92_3 (T92 P79 P103 F92) = L92_3 F92 := congrArg whileF (funext fun x => (g92_3 P79 P103 F92 x.1 x.2.1 x.2.2).trans (show q92_3 P79 P103 F92 x.1 x.2.1 x.2.2 = q92_3 P79 P103 F92 x.1 x.2.1 x.2.2 from rfl))
def b92_4 : DCode := (.seq (.reg [o 138 (.mov (.t 2)),
  o 139 (.mov (.t 18)),
  o 140 (.bin true .gtr (.t 138) (.t 139))]) (.cond (.t 140) (.seq (.reg [o 141 (.mov (.t 19)),
  o 142 (.mov (.t 3)),
  o 143 (.bin true .sub (.t 141) (.t 142)),
  o 20 (.mov (.t 143))]) (.reg [o 144 (.mov (.t 18)),
  o 21 (.mov (.t 144))])) (.seq (.reg [o 145 (.mov (.t 1)),
  o 20 (.mov (.t 145))]) (.reg [o 146 (.mov (.t 2)),
  o 21 (.mov (.t 146))]))))
def h92_4 : LSh := ⟨[0, 1, 2, 3, 4, 18, 19], ⟨[(.slc 0), (.v y6), (.v y6), (.v y6), (.fn 79 []), (.v y6), (.v y6)], [(0, (.row 45 y48))]⟩, [y6, y6, y6, y6, y6, y60], 1, [0]⟩
def x92_4 : List XSh := [⟨.normal, [0, 1, 2, 3, 4, 18, 19, 20, 21], ⟨⟨[(.slc 0), (.v y6), (.v y6), (.v y6), (.fn 79 []), (.v y6), (.v y6), (.v y6), (.v y6)], [(0, (.row 45 y48))]⟩, [y6, y6, y6, y6, y6, y6, y6, y60], [0], 1⟩⟩]
noncomputable def l92_4 (T : List FEnt) : Y115 := onceF (xs := x92_4) h92_4 (dxc T b92_4)
noncomputable def q92_4 (F79 : Y75) (F103 : Y78) (F92 : Y78) (a0 : Int) (a1 : Int) (a2 : Int) (a3 : Int) (a4 : Int) (a5 : List Y3) : Option Y107 :=
cond (decide (a3 < a1)) (
chk (fits .i64 (a4 - a2)) (
some (a0, a1, a2, a3, a4, (a4 - a2), a3, a5))) (
some (a0, a1, a2, a3, a4, a0, a1, a5))
theorem g92_4 (F79 : Y75) (F103 : Y78) (F92 : Y78) (a0 : Int) (a1 : Int) (a2 : Int) (a3 : Int) (a4 : Int) (a5 : List Y3) : l92_4 (T92 F79 F103 F92) (a0, a1, a2, a3, a4, a5) = q92_4 F79 F103 F92 a0 a1 a2 a3 a4 a5 := by kernel_rfl
noncomputable def p92_4 (F92 : Y78) (a0 : Int) (a1 : Int) (a2 : Int) (a3 : Int) (a4 : Int) (a5 : List Y3) : Option Y107 := q92_4 P79 P103 F92 a0 a1 a2 a3 a4 a5
noncomputable def L92_4 (F92 : Y78) : Y115 := fun x => p92_4 F92 x.1 x.2.1 x.2.2.1 x.2.2.2.1 x.2.2.2.2.1 x.2.2.2.2.2
theorem v92_4 (F92 : Y78) : l92_4 (T92 P79 P103 F92) = L92_4 F92 := funext fun x => (g92_4 P79 P103 F92 x.1 x.2.1 x.2.2.1 x.2.2.2.1 x.2.2.2.2.1 x.2.2.2.2.2).trans (show q92_4 P79 P103 F92 x.1 x.2.1 x.2.2.1 x.2.2.2.1 x.2.2.2.2.1 x.2.2.2.2.2 = q92_4 P79 P103 F92 x.1 x.2.1 x.2.2.1 x.2.2.2.1 x.2.2.2.2.1 x.2.2.2.2.2 from rfl)
def b92_5 : DCode := (.seq (.seq (.reg [o 149 (.mov (.t 20)),
  o 150 (.mov (.t 21)),
  o 151 (.bin true .lss (.t 149) (.t 150))]) (.cond (.t 151) .skip (.exit 8))) (.blk 9 (.seq (.reg [o 152 (.mov (.t 20)),
  o 153 (.mov (.t 21)),
  o 154 (.bin true .add (.t 152) (.t 153)),
  o 155 (.cvt .u64 (.t 154)),
  o 156 (.bin true .shr (.t 155) (.c (.int .u64 1))),
  o 157 (.cvt .i64 (.t 156)),
  o 23 (.mov (.t 157))]) (.seq (.drw [] [r 158 (.mov (.t 4)),
  r 159 (.mov (.t 0)),
  r 160 (.mov (.t 22)),
  r 161 (.mov (.t 23)),
  r 162 (.bin true .sub (.t 160) (.t 161)),
  r 163 (.idx (.t 159) (.t 162) 6),
  r 164 (.ldn (.t 163) 6 false),
  r 165 (.mov (.t 0)),
  r 166 (.mov (.t 23)),
  r 167 (.idx (.t 165) (.t 166) 6),
  r 168 (.ldn (.t 167) 6 false),
  r 169 (.xcallv (.t 158) [(.t 164), (.t 168)]),
  r 170 (.bin true .lss (.t 169) (.c (.int .i64 0))),
  r 171 (.unot (.t 170))]) (.cond (.t 171) (.reg [o 172 (.mov (.t 23)),
  o 173 (.bin true .add (.t 172) (.c (.int .i64 1))),
  o 20 (.mov (.t 173))]) (.reg [o 174 (.mov (.t 23)),
  o 21 (.mov (.t 174))]))))))
def h92_5 : LSh := ⟨[0, 1, 2, 3, 4, 18, 19, 20, 21, 22], ⟨[(.slc 0), (.v y6), (.v y6), (.v y6), (.fn 79 []), (.v y6), (.v y6), (.v y6), (.v y6), (.v y6)], [(0, (.row 45 y48))]⟩, [y6, y6, y6, y6, y6, y6, y6, y6, y60], 1, [0]⟩
def x92_5 : List XSh := [⟨(.exit 8), [0, 1, 2, 3, 4, 18, 19, 20], ⟨⟨[(.slc 0), (.v y6), (.v y6), (.v y6), (.fn 79 []), (.v y6), (.v y6), (.v y6)], [(0, (.row 45 y48))]⟩, [y6, y6, y6, y6, y6, y6, y60], [0], 1⟩⟩]
noncomputable def s92_5 (T : List FEnt) : Y127 := dstep (xs := x92_5) h92_5 (dxc T b92_5)
noncomputable def l92_5 (T : List FEnt) : Y116 := whileF (s92_5 T)
noncomputable def q92_5 (F79 : Y75) (F103 : Y78) (F92 : Y78) (a0 : Int) (a1 : Int) (a2 : Int) (a3 : Int) (a4 : Int) (a5 : Int) (a6 : Int) (a7 : Int) (a8 : List Y3) : Option Y122 :=
cond (decide (a5 < a6)) (
chk (fits .i64 (a5 + a6)) (
chk (fits .u64 (a5 + a6)) (
chk (fits .i64 (shrI .u64 (a5 + a6) (1 : Int))) (
chk (fits .i64 (a7 - (shrI .u64 (a5 + a6) (1 : Int)))) (
chk (inR (a7 - (shrI .u64 (a5 + a6) (1 : Int))) (List.length a8)) (
chk (inR (shrI .u64 (a5 + a6) (1 : Int)) (List.length a8)) (
(F79 ((ix a8 (a7 - (shrI .u64 (a5 + a6) (1 : Int)))), (ix a8 (shrI .u64 (a5 + a6) (1 : Int))))).bind fun (r8 : Int) => (
cond (!(decide (r8 < (0 : Int)))) (
chk (fits .i64 ((shrI .u64 (a5 + a6) (1 : Int)) + (1 : Int))) (
some (Sum.inl (a0, a1, a2, a3, a4, ((shrI .u64 (a5 + a6) (1 : Int)) + (1 : Int)), a6, a7, a8)))) (
some (Sum.inl (a0, a1, a2, a3, a4, a5, (shrI .u64 (a5 + a6) (1 : Int)), a7, a8))))))))))) (
some (Sum.inr (a0, a1, a2, a3, a4, a5, a8)))
theorem g92_5 (F79 : Y75) (F103 : Y78) (F92 : Y78) (a0 : Int) (a1 : Int) (a2 : Int) (a3 : Int) (a4 : Int) (a5 : Int) (a6 : Int) (a7 : Int) (a8 : List Y3) : s92_5 (T92 F79 F103 F92) (a0, a1, a2, a3, a4, a5, a6, a7, a8) = q92_5 F79 F103 F92 a0 a1 a2 a3 a4 a5 a6 a7 a8 := by kernel_rfl
noncomputable def p92_5 (F92 : Y78) (a0 : Int) (a1 : Int) (a2 : Int) (a3 : Int) (a4 : Int) (a5 : Int) (a6 : Int) (a7 : Int) (a8 : List Y3) : Option Y122 := q92_5 P79 P103 F92 a0 a1 a2 a3 a4 a5 a6 a7 a8
noncomputable def L92_5 (F92 : Y78) : Y116 := whileF (fun x => p92_5 F92 x.1 x.2.1 x.2.2.1 x.2.2.2.1 x.2.2.2.2.1 x.2.2.2.2.2.1 x.2.2.2.2.2.2.1 x.2.2.2.2.2.2.2.1 x.2.2.2.2.2.2.2.2)
theorem v92_5 (F92 : Y78) : l92_5 (T92 P79 P103 F92) = L92_5 F92 := congrArg whileF (funext fun x => (g92_5 P79 P103 F92 x.1 x.2.1 x.2.2.1 x.2.2.2.1 x.2.2.2.2.1 x.2.2.2.2.2.1 x.2.2.2.2.2.2.1 x.2.2.2.2.2.2.2.1 x.2.2.2.2.2.2.2.2).trans (show q92_5 P79 P103 F92 x.1 x.2.1 x.2.2.1 x.2.2.2.1 x.2.2.2.2.1 x.2.2.2.2.2.1 x.2.2.2.2.2.2.1 x.2.2.2.2.2.2.2.1 x.2.2.2.2.2.2.2.2 = q92_5 P79 P103 F92 x.1 x.2.1 x.2.2.1 x.2.2.2.1 x.2.2.2.2.1 x.2.2.2.2.2.1 x.2.2.2.2.2.2.1 x.2.2.2.2.2.2.2.1 x.2.2.2.2.2.2.2.2 from rfl))
def b92_6 : DCode := (.seq (.reg [o 178 (.mov (.t 20)),
  o 179 (.mov (.t 2)),
  o 180 (.bin true .lss (.t 178) (.t 179)),
  o 181 (.mov (.t 180)),
  og 182 181 true (.mov (.t 2)),
  og 183 181 true (.mov (.t 24)),
  og 184 181 true (.bin true .lss (.t 182) (.t 183)),
  o 185 (.pick (.t 181) (.t 184) (.c (.bool false)))]) (.cond (.t 185) (.reg [o 186 (.mov (.t 0)),
  o 187 (.mov (.t 20)),
  o 188 (.mov (.t 2)),
  o 189 (.mov (.t 24)),
  o 190 (.mov (.t 4)),
  o 191 (.xcall 103 [(.t 186), (.t 187), (.t 188), (.t 189), (.t 190)])]) .skip))
def h92_6 : LSh := ⟨[0, 1, 2, 3, 4, 18, 20, 24], ⟨[(.slc 0), (.v y6), (.v y6), (.v y6), (.fn 79 []), (.v y6), (.v y6), (.v y6)], [(0, (.row 45 y48))]⟩, [y6, y6, y6, y6, y6, y6, y60], 1, [0]⟩
def x92_6 : List XSh := [⟨.normal, [0, 1, 3, 4, 18, 20, 24], ⟨⟨[(.slc 0), (.v y6), (.v y6), (.fn 79 []), (.v y6), (.v y6), (.v y6)], [(0, (.row 45 y48))]⟩, [y6, y6, y6, y6, y6, y60], [0], 1⟩⟩]
noncomputable def l92_6 (T : List FEnt) : Y117 := onceF (xs := x92_6) h92_6 (dxc T b92_6)
noncomputable def q92_6 (F79 : Y75) (F103 : Y78) (F92 : Y78) (a0 : Int) (a1 : Int) (a2 : Int) (a3 : Int) (a4 : Int) (a5 : Int) (a6 : List Y3) : Option Y109 :=
cond (decide (a4 < a1)) (
cond (decide (a1 < a5)) (
(F103 (a4, a1, a5, a6)).bind fun (r10 : List Y3) => (
some (a0, a2, a3, a4, a5, r10))) (
some (a0, a2, a3, a4, a5, a6))) (
some (a0, a2, a3, a4, a5, a6))
theorem g92_6 (F79 : Y75) (F103 : Y78) (F92 : Y78) (a0 : Int) (a1 : Int) (a2 : Int) (a3 : Int) (a4 : Int) (a5 : Int) (a6 : List Y3) : l92_6 (T92 F79 F103 F92) (a0, a1, a2, a3, a4, a5, a6) = q92_6 F79 F103 F92 a0 a1 a2 a3 a4 a5 a6 := by kernel_rfl
noncomputable def p92_6 (F92 : Y78) (a0 : Int) (a1 : Int) (a2 : Int) (a3 : Int) (a4 : Int) (a5 : Int) (a6 : List Y3) : Option Y109 := q92_6 P79 P103 F92 a0 a1 a2 a3 a4 a5 a6
noncomputable def L92_6 (F92 : Y78) : Y117 := fun x => p92_6 F92 x.1 x.2.1 x.2.2.1 x.2.2.2.1 x.2.2.2.2.1 x.2.2.2.2.2.1 x.2.2.2.2.2.2
theorem v92_6 (F92 : Y78) : l92_6 (T92 P79 P103 F92) = L92_6 F92 := funext fun x => (g92_6 P79 P103 F92 x.1 x.2.1 x.2.2.1 x.2.2.2.1 x.2.2.2.2.1 x.2.2.2.2.2.1 x.2.2.2.2.2.2).trans (show q92_6 P79 P103 F92 x.1 x.2.1 x.2.2.1 x.2.2.2.1 x.2.2.2.2.1 x.2.2.2.2.2.1 x.2.2.2.2.2.2 = q92_6 P79 P103 F92 x.1 x.2.1 x.2.2.1 x.2.2.2.1 x.2.2.2.2.1 x.2.2.2.2.2.1 x.2.2.2.2.2.2 from rfl)
def c92 : DCode := (.seq (.seq (.reg [o 25 (.mov (.t 2)),
  o 26 (.mov (.t 1)),
  o 27 (.bin true .sub (.t 25) (.t 26)),
  o 28 (.bin true .eql (.t 27) (.c (.int .i64 1)))]) (.cond (.t 28) (.seq (.reg [o 29 (.mov (.t 2)),
  o 10 (.mov (.t 29))]) (.seq (.reg [o 30 (.mov (.t 3)),
  o 11 (.mov (.t 30))]) (.seq (.blk 0 (.loop h92_0 x92_0 b92_0)) (.seq (.seq (.reg [o 54 (.mov (.t 1)),
  o 13 (.mov (.t 54))]) (.blk 2 (.loop h92_1 x92_1 b92_1))) .ret)))) .skip)) (.seq (.seq (.reg [o 77 (.mov (.t 3)),
  o 78 (.mov (.t 2)),
  o 79 (.bin true .sub (.t 77) (.t 78)),
  o 80 (.bin true .eql (.t 79) (.c (.int .i64 1)))]) (.cond (.t 80) (.seq (.reg [o 81 (.mov (.t 1)),
  o 14 (.mov (.t 81))]) (.seq (.reg [o 82 (.mov (.t 2)),
  o 15 (.mov (.t 82))]) (.seq (.blk 4 (.loop h92_2 x92_2 b92_2)) (.seq (.seq (.reg [o 107 (.mov (.t 2)),
  o 17 (.mov (.t 107))]) (.blk 6 (.loop h92_3 x92_3 b92_3))) .ret)))) .skip)) (.seq (.reg [o 129 (.mov (.t 1)),
  o 130 (.mov (.t 3)),
  o 131 (.bin true .add (.t 129) (.t 130)),
  o 132 (.cvt .u64 (.t 131)),
  o 133 (.bin true .shr (.t 132) (.c (.int .u64 1))),
  o 134 (.cvt .i64 (.t 133)),
  o 18 (.mov (.t 134))]) (.seq (.reg [o 135 (.mov (.t 18)),
  o 136 (.mov (.t 2)),
  o 137 (.bin true .add (.t 135) (.t 136)),
  o 19 (.mov (.t 137))]) (.seq (.reg [o 20 (.mov (.c (.int .i64 0))),
  o 21 (.mov (.c (.int .i64 0)))]) (.seq (.once h92_4 x92_4 b92_4) (.seq (.reg [o 147 (.mov (.t 19)),
  o 148 (.bin true .sub (.t 147) (.c (.int .i64 1))),
  o 22 (.mov (.t 148))]) (.seq (.blk 8 (.loop h92_5 x92_5 b92_5)) (.seq (.reg [o 175 (.mov (.t 19)),
  o 176 (.mov (.t 20)),
  o 177 (.bin true .sub (.t 175) (.t 176)),
  o 24 (.mov (.t 177))]) (.seq (.once h92_6 x92_6 b92_6) (.seq (.seq (.reg [o 192 (.mov (.t 1)),
  o 193 (.mov (.t 20)),
  o 194 (.bin true .lss (.t 192) (.t 193)),
  o 195 (.mov (.t 194)),
  og 196 195 true (.mov (.t 20)),
  og 197 195 true (.mov (.t 18)),
  og 198 195 true (.bin true .lss (.t 196) (.t 197)),
  o 199 (.pick (.t 195) (.t 198) (.c (.bool false)))]) (.cond (.t 199) (.reg [o 200 (.mov (.t 0)),
  o 201 (.mov (.t 1)),
  o 202 (.mov (.t 20)),
  o 203 (.mov (.t 18)),
  o 204 (.mov (.t 4)),
  o 205 (.xcall 92 [(.t 200), (.t 201), (.t 202), (.t 203), (.t 204)])]) .skip)) (.seq (.reg [o 206 (.mov (.t 18)),
  o 207 (.mov (.t 24)),
  o 208 (.bin true .lss (.t 206) (.t 207)),
  o 209 (.mov (.t 208)),
  og 210 209 true (.mov (.t 24)),
  og 211 209 true (.mov (.t 3)),
  og 212 209 true (.bin true .lss (.t 210) (.t 211)),
  o 213 (.pick (.t 209) (.t 212) (.c (.bool false)))]) (.cond (.t 213) (.reg [o 214 (.mov (.t 0)),
  o 215 (.mov (.t 18)),
  o 216 (.mov (.t 24)),
  o 217 (.mov (.t 3)),
  o 218 (.mov (.t 4)),
  o 219 (.xcall 92 [(.t 214), (.t 215), (.t 216), (.t 217), (.t 218)])]) .skip)))))))))))))
theorem ok92 : L.Fn Try.prog 92 220 [] (erase c92) := L.Fn.of hmix Try.func92 [] (by kernel_rfl)
noncomputable def q92 (F79 : Y75) (F103 : Y78) (F92 : Y78) (l92_0 : Y89) (l92_1 : Y80) (l92_2 : Y89) (l92_3 : Y80) (l92_4 : Y115) (l92_5 : Y116) (l92_6 : Y117) (a0 : Int) (a1 : Int) (a2 : Int) (a3 : List Y3) : Option Y8 :=
chk (fits .i64 (a1 - a0)) (
cond (decide ((a1 - a0) = (1 : Int))) (
(l92_0 (a0, a1, a2, a3)).bind fun (y2 : Y82) => (
(l92_1 (y2.2.1, y2.1, y2.2.2)).bind fun (y3 : List Y3) => (
some y3))) (
chk (fits .i64 (a2 - a1)) (
cond (decide ((a2 - a1) = (1 : Int))) (
(l92_2 (a1, a0, a1, a3)).bind fun (y5 : Y82) => (
(l92_3 (y5.2.1, y5.1, y5.2.2)).bind fun (y6 : List Y3) => (
some y6))) (
chk (fits .i64 (a0 + a2)) (
chk (fits .u64 (a0 + a2)) (
chk (fits .i64 (shrI .u64 (a0 + a2) (1 : Int))) (
chk (fits .i64 ((shrI .u64 (a0 + a2) (1 : Int)) + a1)) (
(l92_4 (a0, a1, a2, (shrI .u64 (a0 + a2) (1 : Int)), ((shrI .u64 (a0 + a2) (1 : Int)) + a1), a3)).bind fun (y7 : Y107) => (
chk (fits .i64 (y7.2.2.2.2.1 - (1 : Int))) (
(l92_5 (y7.1, y7.2.1, y7.2.2.1, y7.2.2.2.1, y7.2.2.2.2.1, y7.2.2.2.2.2.1, y7.2.2.2.2.2.2.1, (y7.2.2.2.2.1 - (1 : Int)), y7.2.2.2.2.2.2.2)).bind fun (y9 : Y108) => (
chk (fits .i64 (y9.2.2.2.2.1 - y9.2.2.2.2.2.1)) (
(l92_6 (y9.1, y9.2.1, y9.2.2.1, y9.2.2.2.1, y9.2.2.2.2.2.1, (y9.2.2.2.2.1 - y9.2.2.2.2.2.1), y9.2.2.2.2.2.2)).bind fun (y11 : Y109) => (
cond (decide (y11.1 < y11.2.2.2.1)) (
cond (decide (y11.2.2.2.1 < y11.2.2.1)) (
(F92 (y11.1, y11.2.2.2.1, y11.2.2.1, y11.2.2.2.2.2)).bind fun (r12 : List Y3) => (
cond (decide (y11.2.2.1 < y11.2.2.2.2.1)) (
cond (decide (y11.2.2.2.2.1 < y11.2.1)) (
(F92 (y11.2.2.1, y11.2.2.2.2.1, y11.2.1, r12)).bind fun (r13 : List Y3) => (
some r13)) (
some r12)) (
some r12))) (
cond (decide (y11.2.2.1 < y11.2.2.2.2.1)) (
cond (decide (y11.2.2.2.2.1 < y11.2.1)) (
(F92 (y11.2.2.1, y11.2.2.2.2.1, y11.2.1, y11.2.2.2.2.2)).bind fun (r14 : List Y3) => (
some r14)) (
some y11.2.2.2.2.2)) (
some y11.2.2.2.2.2))) (
cond (decide (y11.2.2.1 < y11.2.2.2.2.1)) (
cond (decide (y11.2.2.2.2.1 < y11.2.1)) (
(F92 (y11.2.2.1, y11.2.2.2.2.1, y11.2.1, y11.2.2.2.2.2)).bind fun (r15 : List Y3) => (
some r15)) (
some y11.2.2.2.2.2)) (
some y11.2.2.2.2.2)))))))))))))))
theorem g92 (F79 : Y75) (F103 : Y78) (F92 : Y78) (a0 : Int) (a1 : Int) (a2 : Int) (a3 : List Y3) : dxf (T92 F79 F103 F92) sh92 [] c92 (a0, a1, a2, a3) = q92 F79 F103 F92 (l92_0 (T92 F79 F103 F92)) (l92_1 (T92 F79 F103 F92)) (l92_2 (T92 F79 F103 F92)) (l92_3 (T92 F79 F103 F92)) (l92_4 (T92 F79 F103 F92)) (l92_5 (T92 F79 F103 F92)) (l92_6 (T92 F79 F103 F92)) a0 a1 a2 a3 := by kernel_rfl
noncomputable def p92 (F92 : Y78) (a0 : Int) (a1 : Int) (a2 : Int) (a3 : List Y3) : Option Y8 := q92 P79 P103 F92 (L92_0 F92) (L92_1 F92) (L92_2 F92) (L92_3 F92) (L92_4 F92) (L92_5 F92) (L92_6 F92) a0 a1 a2 a3
noncomputable def R92 : Nat → Int × Int × Int × Y8 → Option Y8
  | 0 => fun _ => none
  | n + 1 => fun x => p92 (R92 n) x.1 x.2.1 x.2.2.1 x.2.2.2
noncomputable def P92 : Y78 := R92 18446744073709551616
theorem v92 (F92 : Y78) : dxf (T92 P79 P103 F92) sh92 [] c92 = fun x => p92 F92 x.1 x.2.1 x.2.2.1 x.2.2.2 := funext fun x => (g92 P79 P103 F92 x.1 x.2.1 x.2.2.1 x.2.2.2).trans (show q92 P79 P103 F92 (l92_0 (T92 P79 P103 F92)) (l92_1 (T92 P79 P103 F92)) (l92_2 (T92 P79 P103 F92)) (l92_3 (T92 P79 P103 F92)) (l92_4 (T92 P79 P103 F92)) (l92_5 (T92 P79 P103 F92)) (l92_6 (T92 P79 P103 F92)) x.1 x.2.1 x.2.2.1 x.2.2.2 = q92 P79 P103 F92 (L92_0 F92) (L92_1 F92) (L92_2 F92) (L92_3 F92) (L92_4 F92) (L92_5 F92) (L92_6 F92) x.1 x.2.1 x.2.2.1 x.2.2.2 from by rw [v92_0 F92, v92_1 F92, v92_2 F92, v92_3 F92, v92_4 F92, v92_5 F92, v92_6 F92])
theorem D92 : ∀ n, DC Try.prog 92 sh92 (R92 n)
  | 0 => DC_none (dxf_sound (sh := sh92) DTbl_nil ok92 (by kernel_rfl)).1
  | n + 1 => DC_eq (v92 (R92 n)) (dxf_sound (sh := sh92) (t92 (R92 n) (D92 n)) ok92 (by kernel_rfl))
theorem d92 : DC Try.prog 92 sh92 P92 := D92 _
noncomputable def T87 (F91 : Y80) (F92 : Y78) : List FEnt := [⟨91, sh91, F91⟩, ⟨92, sh92, F92⟩]
theorem t87 : DTblOK Try.prog (T87 P91 P92) := (DTbl_cons' (f := 91) (sh := sh91) (F := P91) d91 (by kernel_rfl) (DTbl_cons' (f := 92) (sh := sh92) (F := P92) d92 (by kernel_rfl) DTbl_nil))
def b87_0 : DCode := (.seq (.seq (.reg [o 11 (.mov (.t 8)),
  o 12 (.mov (.t 1)),
  o 13 (.bin true .leq (.t 11) (.t 12))]) (.cond (.t 13) .skip (.exit 0))) (.blk 1 (.seq (.reg [o 14 (.mov (.t 0)),
  o 15 (.mov (.t 7)),
  o 16 (.mov (.t 8)),
  o 17 (.mov (.t 2)),
  o 18 (.xcall 91 [(.t 14), (.t 15), (.t 16), (.t 17)])]) (.seq (.reg [o 19 (.mov (.t 8)),
  o 7 (.mov (.t 19))]) (.reg [o 20 (.mov (.t 8)),
  o 21 (.mov (.t 6)),
  o 22 (.bin true .add (.t 20) (.t 21)),
  o 8 (.mov (.t 22))])))))
def h87_0 : LSh := ⟨[0, 1, 2, 6, 7, 8], ⟨[(.slc 0), (.v y6), (.fn 79 []), (.v y6), (.v y6), (.v y6)], [(0, (.row 45 y48))]⟩, [y6, y6, y6, y6, y60], 1, [0]⟩
def x87_0 : List XSh := [⟨(.exit 0), [0, 1, 2, 6, 7], ⟨⟨[(.slc 0), (.v y6), (.fn 79 []), (.v y6), (.v y6)], [(0, (.row 45 y48))]⟩, [y6, y6, y6, y60], [0], 1⟩⟩]
noncomputable def s87_0 (T : List FEnt) : Y97 := dstep (xs := x87_0) h87_0 (dxc T b87_0)
noncomputable def l87_0 (T : List FEnt) : Y88 := whileF (s87_0 T)
noncomputable def q87_0 (F91 : Y80) (F92 : Y78) (a0 : Int) (a1 : Int) (a2 : Int) (a3 : Int) (a4 : List Y3) : Option Y90 :=
cond (decide (a3 ≤ a0)) (
(F91 (a2, a3, a4)).bind fun (r1 : List Y3) => (
chk (fits .i64 (a3 + a1)) (
some (Sum.inl (a0, a1, a3, (a3 + a1), r1))))) (
some (Sum.inr (a0, a1, a2, a4)))
theorem g87_0 (F91 : Y80) (F92 : Y78) (a0 : Int) (a1 : Int) (a2 : Int) (a3 : Int) (a4 : List Y3) : s87_0 (T87 F91 F92) (a0, a1, a2, a3, a4) = q87_0 F91 F92 a0 a1 a2 a3 a4 := by kernel_rfl
noncomputable def p87_0 (a0 : Int) (a1 : Int) (a2 : Int) (a3 : Int) (a4 : List Y3) : Option Y90 := q87_0 P91 P92 a0 a1 a2 a3 a4
noncomputable def L87_0 : Y88 := whileF (fun x => p87_0 x.1 x.2.1 x.2.2.1 x.2.2.2.1 x.2.2.2.2)
theorem v87_0 : l87_0 (T87 P91 P92) = L87_0 := congrArg whileF (funext fun x => (g87_0 P91 P92 x.1 x.2.1 x.2.2.1 x.2.2.2.1 x.2.2.2.2).trans (show q87_0 P91 P92 x.1 x.2.1 x.2.2.1 x.2.2.2.1 x.2.2.2.2 = q87_0 P91 P92 x.1 x.2.1 x.2.2.1 x.2.2.2.1 x.2.2.2.2 from rfl))
def b87_2 : DCode := (.seq (.seq (.reg [o 33 (.mov (.t 8)),
  o 34 (.mov (.t 1)),
  o 35 (.bin true .leq (.t 33) (.t 34))]) (.cond (.t 35) .skip (.exit 4))) (.blk 5 (.seq (.reg [o 36 (.mov (.t 0)),
  o 37 (.mov (.t 7)),
  o 38 (.mov (.t 7)),
  o 39 (.mov (.t 6)),
  o 40 (.bin true .add (.t 38) (.t 39)),
  o 41 (.mov (.t 8)),
  o 42 (.mov (.t 2)),
  o 43 (.xcall 92 [(.t 36), (.t 37), (.t 40), (.t 41), (.t 42)])]) (.seq (.reg [o 44 (.mov (.t 8)),
  o 7 (.mov (.t 44))]) (.reg [o 45 (.mov (.t 8)),
  o 46 (.mov (.t 6)),
  o 47 (.bin true .mul (.c (.int .i64 2)) (.t 46)),
  o 48 (.bin true .add (.t 45) (.t 47)),
  o 8 (.mov (.t 48))])))))
def h87_2 : LSh := ⟨[0, 1, 2, 6, 7, 8], ⟨[(.slc 0), (.v y6), (.fn 79 []), (.v y6), (.v y6), (.v y6)], [(0, (.row 45 y48))]⟩, [y6, y6, y6, y6, y60], 1, [0]⟩
def x87_2 : List XSh := [⟨(.exit 4), [0, 1, 2, 6, 7], ⟨⟨[(.slc 0), (.v y6), (.fn 79 []), (.v y6), (.v y6)], [(0, (.row 45 y48))]⟩, [y6, y6, y6, y60], [0], 1⟩⟩]
noncomputable def s87_2 (T : List FEnt) : Y97 := dstep (xs := x87_2) h87_2 (dxc T b87_2)
noncomputable def l87_2 (T : List FEnt) : Y88 := whileF (s87_2 T)
noncomputable def q87_2 (F91 : Y80) (F92 : Y78) (a0 : Int) (a1 : Int) (a2 : Int) (a3 : Int) (a4 : List Y3) : Option Y90 :=
cond (decide (a3 ≤ a0)) (
chk (fits .i64 (a2 + a1)) (
(F92 (a2, (a2 + a1), a3, a4)).bind fun (r4 : List Y3) => (
chk (fits .i64 ((2 : Int) * a1)) (
chk (fits .i64 (a3 + ((2 : Int) * a1))) (
some (Sum.inl (a0, a1, a3, (a3 + ((2 : Int) * a1)), r4))))))) (
some (Sum.inr (a0, a1, a2, a4)))
theorem g87_2 (F91 : Y80) (F92 : Y78) (a0 : Int) (a1 : Int) (a2 : Int) (a3 : Int) (a4 : List Y3) : s87_2 (T87 F91 F92) (a0, a1, a2, a3, a4) = q87_2 F91 F92 a0 a1 a2 a3 a4 := by kernel_rfl
noncomputable def p87_2 (a0 : Int) (a1 : Int) (a2 : Int) (a3 : Int) (a4 : List Y3) : Option Y90 := q87_2 P91 P92 a0 a1 a2 a3 a4
noncomputable def L87_2 : Y88 := whileF (fun x => p87_2 x.1 x.2.1 x.2.2.1 x.2.2.2.1 x.2.2.2.2)
theorem v87_2 : l87_2 (T87 P91 P92) = L87_2 := congrArg whileF (funext fun x => (g87_2 P91 P92 x.1 x.2.1 x.2.2.1 x.2.2.2.1 x.2.2.2.2).trans (show q87_2 P91 P92 x.1 x.2.1 x.2.2.1 x.2.2.2.1 x.2.2.2.2 = q87_2 P91 P92 x.1 x.2.1 x.2.2.1 x.2.2.2.1 x.2.2.2.2 from rfl))
def b87_1 : DCode := (.seq (.seq (.reg [o 28 (.mov (.t 6)),
  o 29 (.mov (.t 1)),
  o 30 (.bin true .lss (.t 28) (.t 29))]) (.cond (.t 30) .skip (.exit 2))) (.blk 3 (.seq (.reg [o 31 (.mov (.t 6)),
  o 32 (.bin true .mul (.c (.int .i64 2)) (.t 31)),
  o 7 (.mov (.c (.int .i64 0))),
  o 8 (.mov (.t 32))]) (.seq (.blk 4 (.loop h87_2 x87_2 b87_2)) (.seq (.seq (.reg [o 49 (.mov (.t 7)),
  o 50 (.mov (.t 6)),
  o 51 (.bin true .add (.t 49) (.t 50)),
  o 9 (.mov (.t 51))]) (.seq (.reg [o 52 (.mov (.t 9)),
  o 53 (.mov (.t 1)),
  o 54 (.bin true .lss (.t 52) (.t 53))]) (.cond (.t 54) (.reg [o 55 (.mov (.t 0)),
  o 56 (.mov (.t 7)),
  o 57 (.mov (.t 9)),
  o 58 (.mov (.t 1)),
  o 59 (.mov (.t 2)),
  o 60 (.xcall 92 [(.t 55), (.t 56), (.t 57), (.t 58), (.t 59)])]) .skip))) (.reg [o 61 (.mov (.t 6)),
  o 62 (.bin true .mul (.t 61) (.c (.int .i64 2))),
  o 6 (.mov (.t 62))]))))))
def h87_1 : LSh := ⟨[0, 1, 2, 6], ⟨[(.slc 0), (.v y6), (.fn 79 []), (.v y6)], [(0, (.row 45 y48))]⟩, [y6, y6, y60], 1, [0]⟩
def x87_1 : List XSh := [⟨(.exit 2), [], ⟨⟨[], [(0, (.row 45 y48))]⟩, [y60], [0], 1⟩⟩]
noncomputable def s87_1 (T : List FEnt) : Y126 := dstep (xs := x87_1) h87_1 (dxc T b87_1)
noncomputable def l87_1 (T : List FEnt) : Y80 := whileF (s87_1 T)
noncomputable def q87_1 (F91 : Y80) (F92 : Y78) (l87_2 : Y88) (a0 : Int) (a1 : Int) (a2 : List Y3) : Option Y121 :=
cond (decide (a1 < a0)) (
chk (fits .i64 ((2 : Int) * a1)) (
(l87_2 (a0, a1, (0 : Int), ((2 : Int) * a1), a2)).bind fun (y5 : Y79) => (
chk (fits .i64 (y5.2.2.1 + y5.2.1)) (
cond (decide ((y5.2.2.1 + y5.2.1) < y5.1)) (
(F92 (y5.2.2.1, (y5.2.2.1 + y5.2.1), y5.1, y5.2.2.2)).bind fun (r6 : List Y3) => (
chk (fits .i64 (y5.2.1 * (2 : Int))) (
some (Sum.inl (y5.1, (y5.2.1 * (2 : Int)), r6))))) (
chk (fits .i64 (y5.2.1 * (2 : Int))) (
some (Sum.inl (y5.1, (y5.2.1 * (2 : Int)), y5.2.2.2)))))))) (
some (Sum.inr a2))
theorem g87_1 (F91 : Y80) (F92 : Y78) (a0 : Int) (a1 : Int) (a2 : List Y3) : s87_1 (T87 F91 F92) (a0, a1, a2) = q87_1 F91 F92 (l87_2 (T87 F91 F92)) a0 a1 a2 := by kernel_rfl
noncomputable def p87_1 (a0 : Int) (a1 : Int) (a2 : List Y3) : Option Y121 := q87_1 P91 P92 L87_2 a0 a1 a2
noncomputable def L87_1 : Y80 := whileF (fun x => p87_1 x.1 x.2.1 x.2.2)
theorem v87_1 : l87_1 (T87 P91 P92) = L87_1 := congrArg whileF (funext fun x => (g87_1 P91 P92 x.1 x.2.1 x.2.2).trans (show q87_1 P91 P92 (l87_2 (T87 P91 P92)) x.1 x.2.1 x.2.2 = q87_1 P91 P92 L87_2 x.1 x.2.1 x.2.2 from by rw [v87_2]))
def c87 : DCode := (.seq (.reg [o 6 (.mov (.c (.int .i64 20)))]) (.seq (.reg [o 10 (.mov (.t 6)),
  o 7 (.mov (.c (.int .i64 0))),
  o 8 (.mov (.t 10))]) (.seq (.blk 0 (.loop h87_0 x87_0 b87_0)) (.seq (.reg [o 23 (.mov (.t 0)),
  o 24 (.mov (.t 7)),
  o 25 (.mov (.t 1)),
  o 26 (.mov (.t 2)),
  o 27 (.xcall 91 [(.t 23), (.t 24), (.t 25), (.t 26)])]) (.blk 2 (.loop h87_1 x87_1 b87_1))))))
theorem ok87 : L.Fn Try.prog 87 63 [] (erase c87) := L.Fn.of hmix Try.func87 [] (by kernel_rfl)
def sh87 : FSh := ⟨⟨[(.slc 0), (.v y6), (.fn 79 [])], [(0, (.row 45 y48))]⟩, [y6, y60], 1, ⟨⟨[(.tup [])], [(0, (.row 45 y48))]⟩, [y60], [0], 1⟩, false⟩
noncomputable def q87 (F91 : Y80) (F92 : Y78) (l87_0 : Y88) (l87_1 : Y80) (a0 : Int) (a1 : List Y3) : Option Y8 :=
(l87_0 (a0, (20 : Int), (0 : Int), (20 : Int), a1)).bind fun (y2 : Y79) => (
(F91 (y2.2.2.1, y2.1, y2.2.2.2)).bind fun (r3 : List Y3) => (
(l87_1 (y2.1, y2.2.1, r3)).bind fun (y7 : List Y3) => (
some y7)))
theorem g87 (F91 : Y80) (F92 : Y78) (a0 : Int) (a1 : List Y3) : dxf (T87 F91 F92) sh87 [] c87 (a0, a1) = q87 F91 F92 (l87_0 (T87 F91 F92)) (l87_1 (T87 F91 F92)) a0 a1 := by kernel_rfl
noncomputable def p87 (a0 : Int) (a1 : List Y3) : Option Y8 := q87 P91 P92 L87_0 L87_1 a0 a1
noncomputable def P87 : Y110 := fun x => p87 x.1 x.2
theorem v87 : dxf (T87 P91 P92) sh87 [] c87 = P87 := funext fun x => (g87 P91 P92 x.1 x.2).trans (show q87 P91 P92 (l87_0 (T87 P91 P92)) (l87_1 (T87 P91 P92)) x.1 x.2 = q87 P91 P92 L87_0 L87_1 x.1 x.2 from by rw [v87_0, v87_1])
theorem d87 : DC Try.prog 87 sh87 P87 := DC_eq v87 (dxf_sound (sh := sh87) t87 ok87 (by kernel_rfl))
noncomputable def T78 (F87 : Y110) : List FEnt := [⟨87, sh87, F87⟩]
theorem t78 : DTblOK Try.prog (T78 P87) := (DTbl_cons' (f := 87) (sh := sh87) (F := P87) d87 (by kernel_rfl) DTbl_nil)
def c78 : DCode := (.reg [o 4 (.mov (.t 0)),
  o 5 (.mov (.t 0)),
  o 6 (.len (.t 5)),
  o 7 (.mov (.t 1)),
  o 8 (.xcall 87 [(.t 4), (.t 6), (.t 7)])])
theorem ok78 : L.Fn Try.prog 78 9 [] (erase c78) := L.Fn.of hmix Try.func78 [] (by kernel_rfl)
def sh78 : FSh := ⟨⟨[(.slc 0), (.fn 79 [])], [(0, (.row 45 y48))]⟩, [y60], 1, ⟨⟨[(.tup [])], [(0, (.row 45 y48))]⟩, [y60], [0], 1⟩, false⟩
noncomputable def q78 (F87 : Y110) (a0 : List Y3) : Option Y8 :=
(F87 ((↑(List.length a0) : Int), a0)).bind fun (r1 : List Y3) => (
some r1)
theorem g78 (F87 : Y110) (a0 : List Y3) : dxf (T78 F87) sh78 [] c78 a0 = q78 F87 a0 := by kernel_rfl
noncomputable def p78 (a0 : List Y3) : Option Y8 := q78 P87 a0
noncomputable def P78 : Y77 := fun x => p78 x
theorem v78 : dxf (T78 P87) sh78 [] c78 = P78 := funext fun x => (g78 P87 x).trans (show q78 P87 x = q78 P87 x from rfl)
theorem d78 : DC Try.prog 78 sh78 P78 := DC_eq v78 (dxf_sound (sh := sh78) t78 ok78 (by kernel_rfl))
noncomputable def T80 : List FEnt := []
theorem t80 : DTblOK Try.prog T80 := DTbl_nil
def b80_1 : DCode := (.seq (.seq (.reg [o 29 (.mov (.t 5)),
  o 30 (.mov (.t 4)),
  o 31 (.len (.t 30)),
  o 32 (.bin true .lss (.t 29) (.t 31))]) (.cond (.t 32) .skip (.exit 2))) (.seq (.blk 3 (.seq (.drw [] [r 35 (.mov (.t 4)),
  r 36 (.mov (.t 5)),
  r 37 (.idx (.t 35) (.t 36) 6),
  r 38 (.ldn (.t 37) 6 false),
  r 39 (.mov (.t 4)),
  r 40 (.mov (.t 5)),
  r 41 (.bin true .sub (.t 40) (.c (.int .i64 1))),
  r 42 (.idx (.t 39) (.t 41) 6),
  r 43 (.ldn (.t 42) 6 false),
  r 44 (.eqs true 6 (.t 38) (.t 43))]) (.cond (.t 44) (.seq (.reg [o 45 (.mov (.t 0)),
  o 46 (.mov (.t 3)),
  o 47 (.mov (.t 4)),
  o 48 (.mov (.t 5)),
  o 49 (.idx (.t 47) (.t 48) 6),
  o 50 (.ldn (.t 49) 6 false),
  o 51 (.idx (.t 45) (.t 46) 6),
  .op ⟨none, .sto (.t 51) (.t 50) 6, none⟩ none]) (.reg [o 52 (.mov (.t 3)),
  o 53 (.bin true .add (.t 52) (.c (.int .i64 1))),
  o 3 (.mov (.t 53))])) .skip))) (.reg [o 33 (.mov (.t 5)),
  o 34 (.bin true .add (.t 33) (.c (.int .i64 1))),
  o 5 (.mov (.t 34))])))
def h80_1 : LSh := ⟨[0, 3, 4, 5], ⟨[(.slc 0), (.v y6), (.slo 0 6), (.v y6)], [(0, (.row 45 y48))]⟩, [y6, y6, y6, y6, y60], 1, [0]⟩
def x80_1 : List XSh := [⟨(.exit 2), [0, 3], ⟨⟨[(.slc 0), (.v y6)], [(0, (.row 45 y48))]⟩, [y6, y60], [0], 1⟩⟩]
noncomputable def s80_1 (T : List FEnt) : Y128 := dstep (xs := x80_1) h80_1 (dxc T b80_1)
noncomputable def l80_1 (T : List FEnt) : Y118 := whileF (s80_1 T)
noncomputable def q80_1 (a0 : Int) (a1 : Int) (a2 : Int) (a3 : Int) (a4 : List Y3) : Option Y123 :=
cond (decide (a3 < (↑(Int.toNat a2) : Int))) (
chk (inR a3 (Int.toNat a2)) (
chk (fits .i64 (a3 - (1 : Int))) (
chk (inR (a3 - (1 : Int)) (Int.toNat a2)) (
cond (!(((((decide ((ixn a4 ((Int.toNat a1) + Int.toNat a3)).1 = (ixn a4 ((Int.toNat a1) + Int.toNat (a3 - (1 : Int)))).1) && decide ((ixn a4 ((Int.toNat a1) + Int.toNat a3)).2.1 = (ixn a4 ((Int.toNat a1) + Int.toNat (a3 - (1 : Int)))).2.1)) && decide ((ixn a4 ((Int.toNat a1) + Int.toNat a3)).2.2.1 = (ixn a4 ((Int.toNat a1) + Int.toNat (a3 - (1 : Int)))).2.2.1)) && decide ((ixn a4 ((Int.toNat a1) + Int.toNat a3)).2.2.2.1 = (ixn a4 ((Int.toNat a1) + Int.toNat (a3 - (1 : Int)))).2.2.2.1)) && decide ((ixn a4 ((Int.toNat a1) + Int.toNat a3)).2.2.2.2.1 = (ixn a4 ((Int.toNat a1) + Int.toNat (a3 - (1 : Int)))).2.2.2.2.1)) && decide ((ixn a4 ((Int.toNat a1) + Int.toNat a3)).2.2.2.2.2 = (ixn a4 ((Int.toNat a1) + Int.toNat (a3 - (1 : Int)))).2.2.2.2.2))) (
chk (inR a3 (Int.toNat a2)) (
chk (inR a0 (List.length a4)) (
chk (fits .i64 (a0 + (1 : Int))) (
chk (fits .i64 (a3 + (1 : Int))) (
some (Sum.inl ((a0 + (1 : Int)), (↑(Int.toNat a1) : Int), (↑(Int.toNat a2) : Int), (a3 + (1 : Int)), (List.set a4 (Int.toNat a0) (ixn a4 ((Int.toNat a1) + Int.toNat a3)))))))))) (
chk (fits .i64 (a3 + (1 : Int))) (
some (Sum.inl (a0, (↑(Int.toNat a1) : Int), (↑(Int.toNat a2) : Int), (a3 + (1 : Int)), a4)))))))) (
some (Sum.inr (a0, a4)))
theorem g80_1 (a0 : Int) (a1 : Int) (a2 : Int) (a3 : Int) (a4 : List Y3) : s80_1 T80 (a0, a1, a2, a3, a4) = q80_1 a0 a1 a2 a3 a4 := by kernel_rfl
noncomputable def p80_1 (a0 : Int) (a1 : Int) (a2 : Int) (a3 : Int) (a4 : List Y3) : Option Y123 := q80_1 a0 a1 a2 a3 a4
noncomputable def L80_1 : Y118 := whileF (fun x => p80_1 x.1 x.2.1 x.2.2.1 x.2.2.2.1 x.2.2.2.2)
theorem v80_1 : l80_1 T80 = L80_1 := congrArg whileF (funext fun x => (g80_1 x.1 x.2.1 x.2.2.1 x.2.2.2.1 x.2.2.2.2).trans (show q80_1 x.1 x.2.1 x.2.2.1 x.2.2.2.1 x.2.2.2.2 = q80_1 x.1 x.2.1 x.2.2.1 x.2.2.2.1 x.2.2.2.2 from rfl))
def b80_0 : DCode := (.seq (.seq (.reg [o 10 (.mov (.t 3)),
  o 11 (.mov (.t 0)),
  o 12 (.len (.t 11)),
  o 13 (.bin true .lss (.t 10) (.t 12))]) (.cond (.t 13) .skip (.exit 0))) (.seq (.blk 1 (.seq (.drw [] [r 16 (.mov (.t 0)),
  r 17 (.mov (.t 3)),
  r 18 (.idx (.t 16) (.t 17) 6),
  r 19 (.ldn (.t 18) 6 false),
  r 20 (.mov (.t 0)),
  r 21 (.mov (.t 3)),
  r 22 (.bin true .sub (.t 21) (.c (.int .i64 1))),
  r 23 (.idx (.t 20) (.t 22) 6),
  r 24 (.ldn (.t 23) 6 false),
  r 25 (.eqs false 6 (.t 19) (.t 24))]) (.cond (.t 25) (.seq (.reg [o 26 (.mov (.t 0)),
  o 27 (.mov (.t 3)),
  o 28 (.slo (.t 26) (some (.t 27)) none 6),
  o 4 (.mov (.t 28))]) (.seq (.seq (.reg [o 5 (.mov (.c (.int .i64 1)))]) (.blk 2 (.loop h80_1 x80_1 b80_1))) (.seq (.reg [o 54 (.mov (.t 0)),
  o 55 (.mov (.t 3)),
  o 56 (.slo (.t 54) (some (.t 55)) none 6),
  .op ⟨none, .clr (.t 56) 6 [(.int .i64 0), (.int .i64 0), (.int .i64 0), (.int .i64 0), (.int .i64 0), (.int .i64 0)], none⟩ none]) (.seq (.reg [o 57 (.mov (.t 0)),
  o 58 (.mov (.t 3)),
  o 59 (.trn (.t 57) (.t 58)),
  o 2 (.mov (.t 59))]) .ret)))) .skip))) (.reg [o 14 (.mov (.t 3)),
  o 15 (.bin true .add (.t 14) (.c (.int .i64 1))),
  o 3 (.mov (.t 15))])))
def h80_0 : LSh := ⟨[0, 3], ⟨[(.slc 0), (.v y6)], [(0, (.row 45 y48))]⟩, [y6, y60], 1, []⟩
def x80_0 : List XSh := [⟨.ret, [2], ⟨⟨[(.slc 0)], [(0, (.row 45 y48))]⟩, [y60], [], 1⟩⟩, ⟨(.exit 0), [0], ⟨⟨[(.slc 0)], [(0, (.row 45 y48))]⟩, [y60], [], 1⟩⟩]
noncomputable def s80_0 (T : List FEnt) : Y129 := dstep (xs := x80_0) h80_0 (dxc T b80_0)
noncomputable def l80_0 (T : List FEnt) : Y119 := whileF (s80_0 T)
noncomputable def q80_0 (l80_1 : Y118) (a0 : Int) (a1 : List Y3) : Option Y124 :=
cond (decide (a0 < (↑(List.length a1) : Int))) (
chk (inR a0 (List.length a1)) (
chk (fits .i64 (a0 - (1 : Int))) (
chk (inR (a0 - (1 : Int)) (List.length a1)) (
cond (((((decide ((ix a1 a0).1 = (ix a1 (a0 - (1 : Int))).1) && decide ((ix a1 a0).2.1 = (ix a1 (a0 - (1 : Int))).2.1)) && decide ((ix a1 a0).2.2.1 = (ix a1 (a0 - (1 : Int))).2.2.1)) && decide ((ix a1 a0).2.2.2.1 = (ix a1 (a0 - (1 : Int))).2.2.2.1)) && decide ((ix a1 a0).2.2.2.2.1 = (ix a1 (a0 - (1 : Int))).2.2.2.2.1)) && decide ((ix a1 a0).2.2.2.2.2 = (ix a1 (a0 - (1 : Int))).2.2.2.2.2)) (
chk (decide ((0 : Int) ≤ a0)) (
chk (decide (a0 ≤ (↑(List.length a1) : Int))) (
chk (decide ((↑(List.length a1) : Int) ≤ (↑(List.length a1) : Int))) (
chk (decide (0 < List.length a1)) (
(l80_1 (a0, (↑(Int.toNat a0) : Int), (↑(Int.toNat ((↑(List.length a1) : Int) - a0)) : Int), (1 : Int), a1)).bind fun (y1 : Int × Y8) => (
chk (decide ((0 : Int) ≤ y1.1)) (
chk (decide (y1.1 ≤ (↑(List.length y1.2) : Int))) (
chk (decide ((↑(List.length y1.2) : Int) ≤ (↑(List.length y1.2) : Int))) (
chk (decide (0 < List.length y1.2)) (
chk (decide ((0 : Int) ≤ y1.1)) (
chk (decide (y1.1 ≤ (↑(List.length (clrL y1.2 (Int.toNat y1.1) (Int.toNat ((↑(List.length y1.2) : Int) - y1.1)) ((0 : Int), ((0 : Int), ((0 : Int), ((0 : Int), ((0 : Int), (0 : Int)))))))) : Int))) (
chk (decide (0 < List.length (clrL y1.2 (Int.toNat y1.1) (Int.toNat ((↑(List.length y1.2) : Int) - y1.1)) ((0 : Int), ((0 : Int), ((0 : Int), ((0 : Int), ((0 : Int), (0 : Int))))))))) (
some (Sum.inr (Sum.inl (List.take (Int.toNat y1.1) (clrL y1.2 (Int.toNat y1.1) (Int.toNat ((↑(List.length y1.2) : Int) - y1.1)) ((0 : Int), ((0 : Int), ((0 : Int), ((0 : Int), ((0 : Int), (0 : Int))))))))))))))))))))))) (
chk (fits .i64 (a0 + (1 : Int))) (
some (Sum.inl ((a0 + (1 : Int)), a1)))))))) (
some (Sum.inr (Sum.inr a1)))
theorem g80_0 (a0 : Int) (a1 : List Y3) : s80_0 T80 (a0, a1) = q80_0 (l80_1 T80) a0 a1 := by kernel_rfl
noncomputable def p80_0 (a0 : Int) (a1 : List Y3) : Option Y124 := q80_0 L80_1 a0 a1
noncomputable def L80_0 : Y119 := whileF (fun x => p80_0 x.1 x.2)
theorem v80_0 : l80_0 T80 = L80_0 := congrArg whileF (funext fun x => (g80_0 x.1 x.2).trans (show q80_0 (l80_1 T80) x.1 x.2 = q80_0 L80_1 x.1 x.2 from by rw [v80_1]))
def c80 : DCode := (.seq (.reg [o 2 (.mov (.c .emp))]) (.seq (.seq (.reg [o 6 (.mov (.t 0)),
  o 7 (.len (.t 6)),
  o 8 (.bin true .lss (.t 7) (.c (.int .i64 2)))]) (.cond (.t 8) (.seq (.reg [o 9 (.mov (.t 0)),
  o 2 (.mov (.t 9))]) .ret) .skip)) (.seq (.seq (.reg [o 3 (.mov (.c (.int .i64 1)))]) (.blk 0 (.loop h80_0 x80_0 b80_0))) (.seq (.reg [o 60 (.mov (.t 0)),
  o 2 (.mov (.t 60))]) .ret))))
theorem ok80 : L.Fn Try.prog 80 61 [(.t 2)] (erase c80) := L.Fn.of hmix Try.func80 [(7, { ch := [0,0,1,0] }), (14, { ch := [0,0,1,0] }), (15, { ch := [0,0,2,0] })] (by kernel_rfl)
def sh80 : FSh := ⟨⟨[(.slc 0)], [(0, (.row 45 y48))]⟩, [y60], 1, ⟨⟨[(.slc 0)], [(0, (.row 45 y48))]⟩, [y60], [], 1⟩, false⟩
noncomputable def q80 (l80_0 : Y119) (a0 : List Y3) : Option Y8 :=
cond (decide ((↑(List.length a0) : Int) < (2 : Int))) (
some a0) (
(l80_0 ((1 : Int), a0)).bind (fun (y2 : Y8 ⊕ Y8) => Sum.elim (fun (y3 : List Y3) => (
some y3)) (fun (y4 : List Y3) => (
some y4)) y2))
theorem g80 (a0 : List Y3) : dxf T80 sh80 [(.t 2)] c80 a0 = q80 (l80_0 T80) a0 := by kernel_rfl
noncomputable def p80 (a0 : List Y3) : Option Y8 := q80 L80_0 a0
noncomputable def P80 : Y77 := fun x => p80 x
theorem v80 : dxf T80 sh80 [(.t 2)] c80 = P80 := funext fun x => (g80 x).trans (show q80 (l80_0 T80) x = q80 L80_0 x from by rw [v80_0])
theorem d80 : DC Try.prog 80 sh80 P80 := DC_eq v80 (dxf_sound (sh := sh80) t80 ok80 (by kernel_rfl))
noncomputable def T56 (F77 : Y77) (F78 : Y77) (F80 : Y77) : List FEnt := [⟨77, sh77, F77⟩, ⟨78, sh78, F78⟩, ⟨80, sh80, F80⟩]
theorem t56 : DTblOK Try.prog (T56 P77 P78 P80) := (DTbl_cons' (f := 77) (sh := sh77) (F := P77) d77 (by kernel_rfl) (DTbl_cons' (f := 78) (sh := sh78) (F := P78) d78 (by kernel_rfl) (DTbl_cons' (f := 80) (sh := sh80) (F := P80) d80 (by kernel_rfl) DTbl_nil)))
def b56_0 : DCode := (.seq (.seq (.reg [o 10 (.mov (.t 5)),
  o 11 (.mov (.t 4)),
  o 12 (.len (.t 11)),
  o 13 (.bin true .lss (.t 10) (.t 12))]) (.cond (.t 13) .skip (.exit 0))) (.seq (.blk 1 (.seq (.drw [] [r 16 (.mov (.t 4)),
  r 17 (.mov (.t 5)),
  r 18 (.idx (.t 16) (.t 17) 6),
  r 19 (.fld (.t 18) 0),
  r 20 (.ld1 (.t 19) false),
  r 21 (.mov (.t 4)),
  r 22 (.mov (.t 5)),
  r 23 (.bin true .sub (.t 22) (.c (.int .i64 1))),
  r 24 (.idx (.t 21) (.t 23) 6),
  r 25 (.fld (.t 24) 0),
  r 26 (.ld1 (.t 25) false),
  r 27 (.bin true .eql (.t 20) (.t 26)),
  r 28 (.mov (.t 27)),
  (⟨some 29, .mov (.t 4), some (28, true)⟩, none),
  (⟨some 30, .mov (.t 5), some (28, true)⟩, none),
  (⟨some 31, .idx (.t 29) (.t 30) 6, some (28, true)⟩, none),
  (⟨some 32, .ldn (.t 31) 6 false, some (28, true)⟩, none),
  (⟨some 33, .mov (.t 4), some (28, true)⟩, none),
  (⟨some 34, .mov (.t 5), some (28, true)⟩, none),
  (⟨some 35, .bin true .sub (.t 34) (.c (.int .i64 1)), some (28, true)⟩, none),
  (⟨some 36, .idx (.t 33) (.t 35) 6, some (28, true)⟩, none),
  (⟨some 37, .ldn (.t 36) 6 false, some (28, true)⟩, none),
  (⟨some 38, .eqs true 6 (.t 32) (.t 37), some (28, true)⟩, none),
  r 39 (.pick (.t 28) (.t 38) (.c (.bool false)))]) (.cond (.t 39) (.seq (.reg [o 2 (.mov (.c .emp)),
  o 3 (.mov (.c (.bool false)))]) .ret) .skip))) (.reg [o 14 (.mov (.t 5)),
  o 15 (.bin true .add (.t 14) (.c (.int .i64 1))),
  o 5 (.mov (.t 15))])))
def h56_0 : LSh := ⟨[4, 5], ⟨[(.slc 0), (.v y6)], [(0, (.row 45 y48))]⟩, [y6, y60], 1, [0]⟩
def x56_0 : List XSh := [⟨.ret, [2, 3], ⟨⟨[.emp, (.v .bool)], [(0, (.row 45 y48))]⟩, [.bool, y60], [0], 1⟩⟩, ⟨(.exit 0), [4], ⟨⟨[(.slc 0)], [(0, (.row 45 y48))]⟩, [y60], [0], 1⟩⟩]
noncomputable def s56_0 (T : List FEnt) : Y135 := dstep (xs := x56_0) h56_0 (dxc T b56_0)
noncomputable def l56_0 (T : List FEnt) : Y130 := whileF (s56_0 T)
noncomputable def q56_0 (F77 : Y77) (F78 : Y77) (F80 : Y77) (a0 : Int) (a1 : List Y3) : Option Y134 :=
cond (decide (a0 < (↑(List.length a1) : Int))) (
chk (inR a0 (List.length a1)) (
chk (fits .i64 (a0 - (1 : Int))) (
chk (inR (a0 - (1 : Int)) (List.length a1)) (
cond (decide ((ix a1 a0).1 = (ix a1 (a0 - (1 : Int))).1)) (
chk (inR a0 (List.length a1)) (
chk (fits .i64 (a0 - (1 : Int))) (
chk (inR (a0 - (1 : Int)) (List.length a1)) (
cond (!(((((decide ((ix a1 a0).1 = (ix a1 (a0 - (1 : Int))).1) && decide ((ix a1 a0).2.1 = (ix a1 (a0 - (1 : Int))).2.1)) && decide ((ix a1 a0).2.2.1 = (ix a1 (a0 - (1 : Int))).2.2.1)) && decide ((ix a1 a0).2.2.2.1 = (ix a1 (a0 - (1 : Int))).2.2.2.1)) && decide ((ix a1 a0).2.2.2.2.1 = (ix a1 (a0 - (1 : Int))).2.2.2.2.1)) && decide ((ix a1 a0).2.2.2.2.2 = (ix a1 (a0 - (1 : Int))).2.2.2.2.2))) (
some (Sum.inr (Sum.inl (false, a1)))) (
chk (fits .i64 (a0 + (1 : Int))) (
some (Sum.inl ((a0 + (1 : Int)), a1)))))))) (
chk (fits .i64 (a0 + (1 : Int))) (
some (Sum.inl ((a0 + (1 : Int)), a1)))))))) (
some (Sum.inr (Sum.inr a1)))
theorem g56_0 (F77 : Y77) (F78 : Y77) (F80 : Y77) (a0 : Int) (a1 : List Y3) : s56_0 (T56 F77 F78 F80) (a0, a1) = q56_0 F77 F78 F80 a0 a1 := by kernel_rfl
noncomputable def p56_0 (a0 : Int) (a1 : List Y3) : Option Y134 := q56_0 P77 P78 P80 a0 a1
noncomputable def L56_0 : Y130 := whileF (fun x => p56_0 x.1 x.2)
theorem v56_0 : l56_0 (T56 P77 P78 P80) = L56_0 := congrArg whileF (funext fun x => (g56_0 P77 P78 P80 x.1 x.2).trans (show q56_0 P77 P78 P80 x.1 x.2 = q56_0 P77 P78 P80 x.1 x.2 from rfl))
def c56 : DCode := (.seq (.reg [o 2 (.mov (.c .emp)),
  o 3 (.mov (.c (.bool false)))]) (.seq (.reg [o 6 (.mov (.t 0)),
  o 7 (.xcall 77 [(.t 6)]),
  o 4 (.mov (.t 7))]) (.seq (.reg [o 8 (.mov (.t 4)),
  o 9 (.xcall 78 [(.t 8), (.c (.fn 79 []))])]) (.seq (.seq (.reg [o 5 (.mov (.c (.int .i64 1)))]) (.blk 0 (.loop h56_0 x56_0 b56_0))) (.seq (.reg [o 40 (.mov (.t 4)),
  o 41 (.xcall 80 [(.t 40)]),
  o 2 (.mov (.t 41)),
  o 3 (.mov (.c (.bool true)))]) .ret)))))
theorem ok56 : L.Fn Try.prog 56 42 [(.t 2), (.t 3)] (erase c56) := L.Fn.of hmix Try.func56 [] (by kernel_rfl)
def sh56 : FSh := ⟨⟨[(.v y60)], []⟩, [y60], 0, ⟨⟨[(.tup [(.slc 0), (.v .bool)])], [(0, (.row 45 y48))]⟩, [.bool, y60], [], 1⟩, true⟩
noncomputable def q56 (F77 : Y77) (F78 : Y77) (F80 : Y77) (l56_0 : Y130) (a0 : List Y3) : Option Y114 :=
(F77 a0).bind fun (r1 : List Y3) => (
(F78 r1).bind fun (r2 : List Y3) => (
(l56_0 ((1 : Int), r2)).bind (fun (y3 : Y114 ⊕ Y8) => Sum.elim (fun (y4 : Bool × Y8) => (
some (y4.1, ([] : List Y3)))) (fun (y5 : List Y3) => (
(F80 y5).bind fun (r6 : List Y3) => (
some (true, r6)))) y3)))
theorem g56 (F77 : Y77) (F78 : Y77) (F80 : Y77) (a0 : List Y3) : dxf (T56 F77 F78 F80) sh56 [(.t 2), (.t 3)] c56 a0 = q56 F77 F78 F80 (l56_0 (T56 F77 F78 F80)) a0 := by kernel_rfl
noncomputable def p56 (a0 : List Y3) : Option Y114 := q56 P77 P78 P80 L56_0 a0
noncomputable def P56 : Y120 := fun x => p56 x
theorem v56 : dxf (T56 P77 P78 P80) sh56 [(.t 2), (.t 3)] c56 = P56 := funext fun x => (g56 P77 P78 P80 x).trans (show q56 P77 P78 P80 (l56_0 (T56 P77 P78 P80)) x = q56 P77 P78 P80 L56_0 x from by rw [v56_0])
theorem d56 : DC Try.prog 56 sh56 P56 := DC_eq v56 (dxf_sound (sh := sh56) t56 ok56 (by kernel_rfl))
noncomputable def T75 (F47 : Y33) (F40 : Y4) (F46 : Y71) : List FEnt := [⟨47, sh47, F47⟩, ⟨40, sh40, F40⟩, ⟨46, sh46, F46⟩]
theorem t75 : DTblOK Try.prog (T75 P47 P40 P46) := (DTbl_cons' (f := 47) (sh := sh47) (F := P47) d47 (by kernel_rfl) (DTbl_cons' (f := 40) (sh := sh40) (F := P40) d40 (by kernel_rfl) (DTbl_cons' (f := 46) (sh := sh46) (F := P46) d46 (by kernel_rfl) DTbl_nil)))
def c75 : DCode := (.seq (.reg [o 2 (.box (.t 0)),
  o 3 (.box (.t 1)),
  o 4 (.mov (.c (.bool false)))]) (.seq (.reg [o 8 (.ldn (.t 2) 3 false),
  o 9 (.fld (.t 3) 2),
  o 10 (.ld1 (.t 9) false),
  o 11 (.xcall 47 [(.t 8), (.t 10)]),
  o 7 (.mov (.t 11)),
  o 12 (.ext (.t 7) 0),
  o 13 (.ext (.t 7) 1),
  o 5 (.alc [(.int .i64 0), (.int .i64 0), (.int .i64 0), .emp, .emp, (.int .i64 0), (.int .i64 0), (.int .i64 0), (.int .i64 0)]),
  .op ⟨none, .sto (.t 5) (.t 12) 9, none⟩ none,
  o 6 (.mov (.t 13))]) (.seq (.reg [o 14 (.mov (.t 6)),
  o 15 (.mov (.t 14)),
  og 16 15 true (.fld (.t 3) 0),
  og 17 15 true (.ld1 (.t 16) false),
  og 18 15 true (.xcall 40 [(.t 17), (.c (.int .i64 0)), (.c (.int .i64 99))]),
  o 19 (.pick (.t 15) (.t 18) (.c (.bool false))),
  o 20 (.mov (.t 19)),
  og 21 20 true (.fld (.t 3) 1),
  og 22 20 true (.ld1 (.t 21) false),
  og 23 20 true (.xcall 40 [(.t 22), (.c (.int .i64 1)), (.c (.int .i64 2))]),
  o 24 (.pick (.t 20) (.t 23) (.c (.bool false))),
  o 25 (.mov (.t 24)),
  og 26 25 true (.fld (.t 3) 3),
  og 27 25 true (.ld1 (.t 26) false),
  og 28 25 true (.fld (.t 5) 1),
  og 29 25 true (.ld1 (.t 28) false),
  og 30 25 true (.fld (.t 5) 2),
  og 31 25 true (.ld1 (.t 30) false),
  og 32 25 true (.xcall 40 [(.t 27), (.t 29), (.t 31)]),
  o 33 (.pick (.t 25) (.t 32) (.c (.bool false))),
  o 34 (.mov (.t 33)),
  og 35 34 true (.fld (.t 3) 4),
  og 36 34 true (.ld1 (.t 35) false),
  og 37 34 true (.xcall 40 [(.t 36), (.c (.int .i64 0)), (.c (.int .i64 9))]),
  o 38 (.pick (.t 34) (.t 37) (.c (.bool false))),
  o 39 (.mov (.t 38)),
  og 40 39 true (.fld (.t 3) 5),
  og 41 39 true (.ld1 (.t 40) false),
  og 42 39 true (.xcall 46 [(.t 41)]),
  o 43 (.pick (.t 39) (.t 42) (.c (.bool false))),
  o 4 (.mov (.t 43))]) .ret)))
theorem ok75 : L.Fn Try.prog 75 44 [(.t 4)] (erase c75) := L.Fn.of hmix Try.func75 [] (by kernel_rfl)
def sh75 : FSh := ⟨⟨[(.st y69), (.st y48)], []⟩, [y69, y48], 0, ⟨⟨[(.v .bool)], []⟩, [.bool], [], 0⟩, true⟩
noncomputable def q75 (F47 : Y33) (F40 : Y4) (F46 : Y71) (a0 : Y20) (a1 : Y3) : Option Bool :=
(F47 (a0, a1.2.2.1)).bind fun (r1 : Y9 × Bool) => (
cond r1.2 (
(F40 (a1.1, (0 : Int), (99 : Int))).bind fun (r2 : Bool) => (
cond r2 (
(F40 (a1.2.1, (1 : Int), (2 : Int))).bind fun (r3 : Bool) => (
cond r3 (
(F40 (a1.2.2.2.1, r1.1.2.1, r1.1.2.2.1)).bind fun (r4 : Bool) => (
cond r4 (
(F40 (a1.2.2.2.2.1, (0 : Int), (9 : Int))).bind fun (r5 : Bool) => (
cond r5 (
(F46 a1.2.2.2.2.2).bind fun (r6 : Bool) => (
some r6)) (
some false))) (
some false))) (
some false))) (
some false))) (
some false))
theorem g75 (F47 : Y33) (F40 : Y4) (F46 : Y71) (a0 : Y20) (a1 : Y3) : dxf (T75 F47 F40 F46) sh75 [(.t 4)] c75 (a0, a1) = q75 F47 F40 F46 a0 a1 := by kernel_rfl
noncomputable def p75 (a0 : Y20) (a1 : Y3) : Option Bool := q75 P47 P40 P46 a0 a1
noncomputable def P75 : Y136 := fun x => p75 x.1 x.2
theorem v75 : dxf (T75 P47 P40 P46) sh75 [(.t 4)] c75 = P75 := funext fun x => (g75 P47 P40 P46 x.1 x.2).trans (show q75 P47 P40 P46 x.1 x.2 = q75 P47 P40 P46 x.1 x.2 from rfl)
theorem d75 : DC Try.prog 75 sh75 P75 := DC_eq v75 (dxf_sound (sh := sh75) t75 ok75 (by kernel_rfl))
noncomputable def T74 (F75 : Y136) : List FEnt := [⟨75, sh75, F75⟩]
theorem t74 : DTblOK Try.prog (T74 P75) := (DTbl_cons' (f := 75) (sh := sh75) (F := P75) d75 (by kernel_rfl) DTbl_nil)
def c74 : DCode := (.seq (.reg [o 2 (.box (.t 0)),
  o 3 (.mov (.c (.bool false)))]) (.seq (.reg [o 4 (.ldn (.t 1) 3 false),
  o 5 (.ldn (.t 2) 6 false),
  o 6 (.xcall 75 [(.t 4), (.t 5)]),
  o 7 (.unot (.t 6)),
  o 3 (.mov (.t 7))]) .ret))
theorem ok74 : L.Fn Try.prog 74 8 [(.t 3)] (erase c74) := L.Fn.of hmix Try.func74 [] (by kernel_rfl)
def sh74 : FSh := ⟨⟨[(.st y48), (.elm y69)], []⟩, [y48, y69], 0, ⟨⟨[(.v .bool)], []⟩, [.bool], [], 0⟩, true⟩
noncomputable def q74 (F75 : Y136) (a0 : Y3) (a1 : Y20) : Option Bool :=
(F75 (a1, a0)).bind fun (r1 : Bool) => (
some (!r1))
theorem g74 (F75 : Y136) (a0 : Y3) (a1 : Y20) : dxf (T74 F75) sh74 [(.t 3)] c74 (a0, a1) = q74 F75 a0 a1 := by kernel_rfl
noncomputable def p74 (a0 : Y3) (a1 : Y20) : Option Bool := q74 P75 a0 a1
noncomputable def P74 : Y131 := fun x => p74 x.1 x.2
theorem v74 : dxf (T74 P75) sh74 [(.t 3)] c74 = P74 := funext fun x => (g74 P75 x.1 x.2).trans (show q74 P75 x.1 x.2 = q74 P75 x.1 x.2 from rfl)
theorem d74 : DC Try.prog 74 sh74 P74 := DC_eq v74 (dxf_sound (sh := sh74) t74 ok74 (by kernel_rfl))
noncomputable def T86 (F74 : Y131) : List FEnt := [⟨74, sh74, F74⟩]
theorem t86 : DTblOK Try.prog (T86 P74) := (DTbl_cons' (f := 74) (sh := sh74) (F := P74) d74 (by kernel_rfl) DTbl_nil)
def b86_0 : DCode := (.seq (.reg [o 9 (.bin true .lss (.t 8) (.t 7))]) (.seq (.cond (.t 9) .skip (.exit 0)) (.seq (.blk 1 (.seq (.reg [o 10 (.mov (.t 8)),
  o 5 (.mov (.t 10))]) (.seq (.reg [o 11 (.mov (.t 1)),
  o 12 (.mov (.t 0)),
  o 13 (.mov (.t 5)),
  o 14 (.idx (.t 12) (.t 13) 6),
  o 15 (.ldn (.t 14) 6 false),
  o 16 (.xcallv (.t 11) [(.t 15)])]) (.cond (.t 16) (.seq (.reg [o 17 (.mov (.t 5)),
  o 4 (.mov (.t 17))]) .ret) .skip)))) (.reg [o 18 (.bin true .add (.t 8) (.c (.int .i64 1))),
  o 8 (.mov (.t 18))]))))
def h86_0 : LSh := ⟨[0, 1, 7, 8], ⟨[(.v y60), (.fn 74 [(.elm y69)]), (.v y6), (.v y6)], []⟩, [y60, y69, y6, y6], 0, []⟩
def x86_0 : List XSh := [⟨.ret, [4], ⟨⟨[(.v y6)], []⟩, [y6], [], 0⟩⟩, ⟨(.exit 0), [], ⟨⟨[], []⟩, [], [], 0⟩⟩]
noncomputable def s86_0 (T : List FEnt) : Y140 := dstep (xs := x86_0) h86_0 (dxc T b86_0)
noncomputable def l86_0 (T : List FEnt) : Y137 := whileF (s86_0 T)
noncomputable def q86_0 (F74 : Y131) (a0 : List Y3) (a1 : Y20) (a2 : Int) (a3 : Int) : Option Y139 :=
cond (decide (a3 < a2)) (
chk (inR a3 (List.length a0)) (
(F74 ((ix a0 a3), a1)).bind fun (r1 : Bool) => (
cond r1 (
some (Sum.inr (Sum.inl a3))) (
chk (fits .i64 (a3 + (1 : Int))) (
some (Sum.inl (a0, a1, a2, (a3 + (1 : Int))))))))) (
some (Sum.inr (Sum.inr ())))
theorem g86_0 (F74 : Y131) (a0 : List Y3) (a1 : Y20) (a2 : Int) (a3 : Int) : s86_0 (T86 F74) (a0, a1, a2, a3) = q86_0 F74 a0 a1 a2 a3 := by kernel_rfl
noncomputable def p86_0 (a0 : List Y3) (a1 : Y20) (a2 : Int) (a3 : Int) : Option Y139 := q86_0 P74 a0 a1 a2 a3
noncomputable def L86_0 : Y137 := whileF (fun x => p86_0 x.1 x.2.1 x.2.2.1 x.2.2.2)
theorem v86_0 : l86_0 (T86 P74) = L86_0 := congrArg whileF (funext fun x => (g86_0 P74 x.1 x.2.1 x.2.2.1 x.2.2.2).trans (show q86_0 P74 x.1 x.2.1 x.2.2.1 x.2.2.2 = q86_0 P74 x.1 x.2.1 x.2.2.1 x.2.2.2 from rfl))
def c86 : DCode := (.seq (.reg [o 4 (.mov (.c (.int .i64 0)))]) (.seq (.seq (.reg [o 6 (.mov (.t 0)),
  o 7 (.len (.t 6)),
  o 8 (.mov (.c (.int .i64 0)))]) (.blk 0 (.loop h86_0 x86_0 b86_0))) (.seq (.reg [o 4 (.mov (.c (.int .i64 (-1))))]) .ret)))
theorem ok86 : L.Fn Try.prog 86 19 [(.t 4)] (erase c86) := L.Fn.of hmix Try.func86 [] (by kernel_rfl)
def sh86 : FSh := ⟨⟨[(.v y60), (.fn 74 [(.elm y69)])], []⟩, [y60, y69], 0, ⟨⟨[(.v y6)], []⟩, [y6], [], 0⟩, true⟩
noncomputable def q86 (F74 : Y131) (l86_0 : Y137) (a0 : List Y3) (a1 : Y20) : Option Int :=
(l86_0 (a0, a1, (↑(List.length a0) : Int), (0 : Int))).bind (fun (y2 : Int ⊕ Unit) => Sum.elim (fun (y3 : Int) => (
some y3)) (fun (y4 : Unit) => (
some (-1 : Int))) y2)
theorem g86 (F74 : Y131) (a0 : List Y3) (a1 : Y20) : dxf (T86 F74) sh86 [(.t 4)] c86 (a0, a1) = q86 F74 (l86_0 (T86 F74)) a0 a1 := by kernel_rfl
noncomputable def p86 (a0 : List Y3) (a1 : Y20) : Option Int := q86 P74 L86_0 a0 a1
noncomputable def P86 : Y132 := fun x => p86 x.1 x.2
theorem v86 : dxf (T86 P74) sh86 [(.t 4)] c86 = P86 := funext fun x => (g86 P74 x.1 x.2).trans (show q86 P74 (l86_0 (T86 P74)) x.1 x.2 = q86 P74 L86_0 x.1 x.2 from by rw [v86_0])
theorem d86 : DC Try.prog 86 sh86 P86 := DC_eq v86 (dxf_sound (sh := sh86) t86 ok86 (by kernel_rfl))
noncomputable def T73 (F86 : Y132) : List FEnt := [⟨86, sh86, F86⟩]
theorem t73 : DTblOK Try.prog (T73 P86) := (DTbl_cons' (f := 86) (sh := sh86) (F := P86) d86 (by kernel_rfl) DTbl_nil)
def c73 : DCode := (.seq (.reg [o 4 (.mov (.c (.bool false)))]) (.seq (.reg [o 5 (.mov (.t 0)),
  o 6 (.mov (.t 1)),
  o 7 (.xcall 86 [(.t 5), (.t 6)]),
  o 8 (.bin true .geq (.t 7) (.c (.int .i64 0))),
  o 4 (.mov (.t 8))]) .ret))
theorem ok73 : L.Fn Try.prog 73 9 [(.t 4)] (erase c73) := L.Fn.of hmix Try.func73 [] (by kernel_rfl)
def sh73 : FSh := ⟨⟨[(.v y60), (.fn 74 [(.elm y69)])], []⟩, [y60, y69], 0, ⟨⟨[(.v .bool)], []⟩, [.bool], [], 0⟩, true⟩
noncomputable def q73 (F86 : Y132) (a0 : List Y3) (a1 : Y20) : Option Bool :=
(F86 (a0, a1)).bind fun (r1 : Int) => (
some (decide ((0 : Int) ≤ r1)))
theorem g73 (F86 : Y132) (a0 : List Y3) (a1 : Y20) : dxf (T73 F86) sh73 [(.t 4)] c73 (a0, a1) = q73 F86 a0 a1 := by kernel_rfl
noncomputable def p73 (a0 : List Y3) (a1 : Y20) : Option Bool := q73 P86 a0 a1
noncomputable def P73 : Y133 := fun x => p73 x.1 x.2
theorem v73 : dxf (T73 P86) sh73 [(.t 4)] c73 = P73 := funext fun x => (g73 P86 x.1 x.2).trans (show q73 P86 x.1 x.2 = q73 P86 x.1 x.2 from rfl)
theorem d73 : DC Try.prog 73 sh73 P73 := DC_eq v73 (dxf_sound (sh := sh73) t73 ok73 (by kernel_rfl))
end Go.Proofs.Ytfknkinmnecoeaa.D
