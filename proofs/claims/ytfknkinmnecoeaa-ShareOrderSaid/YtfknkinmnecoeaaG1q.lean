/- Cut down from a longer text. -/
import Derived.Test.YtfknkinmnecoeaaG0q
import Derived.Test.YtfknkinmnecoeaaProg
set_option linter.unusedVariables false
set_option maxRecDepth 100000
namespace Go.Proofs.Ytfknkinmnecoeaa.D
open Go Go.Proofs Go.Proofs.Ytfknkinmnecoeaa.L
noncomputable def T38 : List FEnt := []
theorem t38 : DTblOK Try.prog T38 := DTbl_nil
def c38 : DCode := (.seq (.reg [o 0 (.alc [(.int .i64 0), .emp, .emp])]) (.seq (.reg [.op ⟨some 1, .bsr 3 1 [(.c (.int .i64 600)), (.c (.int .i64 500))], none⟩ (some (false, y6)),
  o 2 (.bld [(.int .i64 0), (.int .i64 0)] [(0, (1, (.c (.int .i64 20000)))), (1, (1, (.c (.int .i64 700))))]),
  .op ⟨some 3, .bsr 43 2 [(.t 2)], none⟩ (some (true, y13)),
  o 4 (.bld [(.int .i64 0), (.int .i64 0), (.int .i64 0), .emp, .emp, (.int .i64 0), (.int .i64 0), (.int .i64 0), (.int .i64 0)] [(0, (1, (.c (.int .i64 5)))), (1, (1, (.c (.int .i64 10)))), (2, (1, (.c (.int .i64 12)))), (3, (1, (.t 1))), (4, (1, (.t 3))), (5, (1, (.c (.int .i64 8000)))), (6, (1, (.c (.int .i64 900)))), (7, (1, (.c (.int .i64 3000)))), (8, (1, (.c (.int .i64 40000))))]),
  .fz 1 [],
  .fz 3 [],
  .op ⟨some 5, .bsr 33 9 [(.t 4)], none⟩ (some (true, y66)),
  o 6 (.bld [(.int .i64 0), (.int .i64 0), (.int .i64 0), (.int .i64 0), (.int .i64 0), (.int .i64 0)] [(0, (1, (.c (.int .i64 1)))), (1, (1, (.c (.int .i64 1)))), (2, (1, (.c (.int .i64 5)))), (3, (1, (.c (.int .i64 10)))), (5, (1, (.c (.int .i64 20000))))]),
  o 7 (.bld [(.int .i64 0), (.int .i64 0), (.int .i64 0), (.int .i64 0), (.int .i64 0), (.int .i64 0)] [(0, (1, (.c (.int .i64 2)))), (1, (1, (.c (.int .i64 1)))), (2, (1, (.c (.int .i64 5)))), (3, (1, (.c (.int .i64 10)))), (4, (1, (.c (.int .i64 1)))), (5, (1, (.c (.int .i64 10000))))]),
  o 8 (.bld [(.int .i64 0), (.int .i64 0), (.int .i64 0), (.int .i64 0), (.int .i64 0), (.int .i64 0)] [(0, (1, (.c (.int .i64 3)))), (1, (1, (.c (.int .i64 1)))), (2, (1, (.c (.int .i64 5)))), (3, (1, (.c (.int .i64 11)))), (5, (1, (.c (.int .i64 5000))))]),
  o 9 (.bld [(.int .i64 0), (.int .i64 0), (.int .i64 0), (.int .i64 0), (.int .i64 0), (.int .i64 0)] [(0, (1, (.c (.int .i64 4)))), (1, (1, (.c (.int .i64 1)))), (2, (1, (.c (.int .i64 5)))), (3, (1, (.c (.int .i64 11)))), (5, (1, (.c (.int .i64 4000))))]),
  o 10 (.bld [(.int .i64 0), (.int .i64 0), (.int .i64 0), (.int .i64 0), (.int .i64 0), (.int .i64 0)] [(0, (1, (.c (.int .i64 5)))), (1, (1, (.c (.int .i64 2)))), (2, (1, (.c (.int .i64 5)))), (3, (1, (.c (.int .i64 12)))), (5, (1, (.c (.int .i64 10001))))]),
  .op ⟨some 11, .bsr 45 6 [(.t 6), (.t 7), (.t 8), (.t 9), (.t 10)], none⟩ (some (true, y48)),
  o 12 (.bld [(.int .i64 0), .emp, .emp] [(0, (1, (.c (.int .i64 100)))), (1, (1, (.t 5))), (2, (1, (.t 11)))]),
  .op ⟨none, .sto (.t 0) (.t 12) 3, none⟩ none]) .ret))
theorem ok38 : L.Fn Try.prog 38 13 [(.cell 0 true 3)] (erase c38) := L.Fn.of hmix Try.func38 [] (by kernel_rfl)
def sh38 : FSh := ⟨⟨[], []⟩, [], 0, ⟨⟨[(.agg [(.v y6), (.slc 0), (.slc 1)])], [(0, (.row 33 y66)), (1, (.row 45 y48))]⟩, [y6, y67, y60], [], 2⟩, false⟩
noncomputable def q38 : Option Y20 :=
some ((100 : Int), ([((5 : Int), ((10 : Int), ((12 : Int), (([(600 : Int), (500 : Int)] : List Int), (([((20000 : Int), (700 : Int))] : List Y2), ((8000 : Int), ((900 : Int), ((3000 : Int), (40000 : Int)))))))))] : List Y9), ([((1 : Int), ((1 : Int), ((5 : Int), ((10 : Int), ((0 : Int), (20000 : Int)))))), ((2 : Int), ((1 : Int), ((5 : Int), ((10 : Int), ((1 : Int), (10000 : Int)))))), ((3 : Int), ((1 : Int), ((5 : Int), ((11 : Int), ((0 : Int), (5000 : Int)))))), ((4 : Int), ((1 : Int), ((5 : Int), ((11 : Int), ((0 : Int), (4000 : Int)))))), ((5 : Int), ((2 : Int), ((5 : Int), ((12 : Int), ((0 : Int), (10001 : Int))))))] : List Y3))
theorem g38 : dxf T38 sh38 [(.cell 0 true 3)] c38 () = q38 := by kernel_rfl
noncomputable def p38 : Option Y20 := q38
noncomputable def P38 : Y103 := fun x => p38
theorem v38 : dxf T38 sh38 [(.cell 0 true 3)] c38 = P38 := funext fun x => (g38).trans (show q38 = q38 from rfl)
theorem d38 : DC Try.prog 38 sh38 P38 := DC_eq v38 (dxf_sound (sh := sh38) t38 ok38 (by kernel_rfl))
noncomputable def T40 : List FEnt := []
theorem t40 : DTblOK Try.prog T40 := DTbl_nil
def c40 : DCode := (.seq (.reg [o 6 (.mov (.c (.bool false)))]) (.seq (.reg [o 7 (.mov (.t 1)),
  o 8 (.mov (.t 0)),
  o 9 (.bin true .leq (.t 7) (.t 8)),
  o 10 (.mov (.t 9)),
  og 11 10 true (.mov (.t 0)),
  og 12 10 true (.mov (.t 2)),
  og 13 10 true (.bin true .leq (.t 11) (.t 12)),
  o 14 (.pick (.t 10) (.t 13) (.c (.bool false))),
  o 6 (.mov (.t 14))]) .ret))
theorem ok40 : L.Fn Try.prog 40 15 [(.t 6)] (erase c40) := L.Fn.of hmix Try.func40 [] (by kernel_rfl)
def sh40 : FSh := ⟨⟨[(.v y6), (.v y6), (.v y6)], []⟩, [y6, y6, y6], 0, ⟨⟨[(.v .bool)], []⟩, [.bool], [], 0⟩, true⟩
noncomputable def q40 (a0 : Int) (a1 : Int) (a2 : Int) : Option Bool :=
cond (decide (a1 ≤ a0)) (
some (decide (a0 ≤ a2))) (
some false)
theorem g40 (a0 : Int) (a1 : Int) (a2 : Int) : dxf T40 sh40 [(.t 6)] c40 (a0, a1, a2) = q40 a0 a1 a2 := by kernel_rfl
noncomputable def p40 (a0 : Int) (a1 : Int) (a2 : Int) : Option Bool := q40 a0 a1 a2
noncomputable def P40 : Y4 := fun x => p40 x.1 x.2.1 x.2.2
theorem v40 : dxf T40 sh40 [(.t 6)] c40 = P40 := funext fun x => (g40 x.1 x.2.1 x.2.2).trans (show q40 x.1 x.2.1 x.2.2 = q40 x.1 x.2.1 x.2.2 from rfl)
theorem d40 : DC Try.prog 40 sh40 P40 := DC_eq v40 (dxf_sound (sh := sh40) t40 ok40 (by kernel_rfl))
noncomputable def T69 : List FEnt := []
theorem t69 : DTblOK Try.prog T69 := DTbl_nil
def c69 : DCode := (.seq (.reg [o 2 (.box (.t 0)),
  o 3 (.mov (.c (.bool false)))]) (.seq (.reg [o 4 (.fld (.t 2) 0),
  o 5 (.ld1 (.t 4) false),
  o 6 (.ld1 (.t 1) false),
  o 7 (.bin true .eql (.t 5) (.t 6)),
  o 3 (.mov (.t 7))]) .ret))
theorem ok69 : L.Fn Try.prog 69 8 [(.t 3)] (erase c69) := L.Fn.of hmix Try.func69 [] (by kernel_rfl)
def sh69 : FSh := ⟨⟨[(.st y66), (.elm y6)], []⟩, [y66, y6], 0, ⟨⟨[(.v .bool)], []⟩, [.bool], [], 0⟩, true⟩
noncomputable def q69 (a0 : Y9) (a1 : Int) : Option Bool :=
some (decide (a0.1 = a1))
theorem g69 (a0 : Y9) (a1 : Int) : dxf T69 sh69 [(.t 3)] c69 (a0, a1) = q69 a0 a1 := by kernel_rfl
noncomputable def p69 (a0 : Y9) (a1 : Int) : Option Bool := q69 a0 a1
noncomputable def P69 : Y86 := fun x => p69 x.1 x.2
theorem v69 : dxf T69 sh69 [(.t 3)] c69 = P69 := funext fun x => (g69 x.1 x.2).trans (show q69 x.1 x.2 = q69 x.1 x.2 from rfl)
theorem d69 : DC Try.prog 69 sh69 P69 := DC_eq v69 (dxf_sound (sh := sh69) t69 ok69 (by kernel_rfl))
noncomputable def T68 (F69 : Y86) : List FEnt := [⟨69, sh69, F69⟩]
theorem t68 : DTblOK Try.prog (T68 P69) := (DTbl_cons' (f := 69) (sh := sh69) (F := P69) d69 (by kernel_rfl) DTbl_nil)
def b68_0 : DCode := (.seq (.reg [o 9 (.bin true .lss (.t 8) (.t 7))]) (.seq (.cond (.t 9) .skip (.exit 0)) (.seq (.blk 1 (.seq (.reg [o 10 (.mov (.t 8)),
  o 5 (.mov (.t 10))]) (.seq (.reg [o 11 (.mov (.t 1)),
  o 12 (.mov (.t 0)),
  o 13 (.mov (.t 5)),
  o 14 (.idx (.t 12) (.t 13) 9),
  o 15 (.ldn (.t 14) 9 false),
  o 16 (.xcallv (.t 11) [(.t 15)])]) (.cond (.t 16) (.seq (.reg [o 17 (.mov (.t 5)),
  o 4 (.mov (.t 17))]) .ret) .skip)))) (.reg [o 18 (.bin true .add (.t 8) (.c (.int .i64 1))),
  o 8 (.mov (.t 18))]))))
def h68_0 : LSh := ⟨[0, 1, 7, 8], ⟨[(.v y67), (.fn 69 [(.elm y6)]), (.v y6), (.v y6)], []⟩, [y67, y6, y6, y6], 0, []⟩
def x68_0 : List XSh := [⟨.ret, [4], ⟨⟨[(.v y6)], []⟩, [y6], [], 0⟩⟩, ⟨(.exit 0), [], ⟨⟨[], []⟩, [], [], 0⟩⟩]
noncomputable def s68_0 (T : List FEnt) : Y106 := dstep (xs := x68_0) h68_0 (dxc T b68_0)
noncomputable def l68_0 (T : List FEnt) : Y94 := whileF (s68_0 T)
noncomputable def q68_0 (F69 : Y86) (a0 : List Y9) (a1 : Int) (a2 : Int) (a3 : Int) : Option Y105 :=
cond (decide (a3 < a2)) (
chk (inR a3 (List.length a0)) (
(F69 ((ix a0 a3), a1)).bind fun (r1 : Bool) => (
cond r1 (
some (Sum.inr (Sum.inl a3))) (
chk (fits .i64 (a3 + (1 : Int))) (
some (Sum.inl (a0, a1, a2, (a3 + (1 : Int))))))))) (
some (Sum.inr (Sum.inr ())))
theorem g68_0 (F69 : Y86) (a0 : List Y9) (a1 : Int) (a2 : Int) (a3 : Int) : s68_0 (T68 F69) (a0, a1, a2, a3) = q68_0 F69 a0 a1 a2 a3 := by kernel_rfl
noncomputable def p68_0 (a0 : List Y9) (a1 : Int) (a2 : Int) (a3 : Int) : Option Y105 := q68_0 P69 a0 a1 a2 a3
noncomputable def L68_0 : Y94 := whileF (fun x => p68_0 x.1 x.2.1 x.2.2.1 x.2.2.2)
theorem v68_0 : l68_0 (T68 P69) = L68_0 := congrArg whileF (funext fun x => (g68_0 P69 x.1 x.2.1 x.2.2.1 x.2.2.2).trans (show q68_0 P69 x.1 x.2.1 x.2.2.1 x.2.2.2 = q68_0 P69 x.1 x.2.1 x.2.2.1 x.2.2.2 from rfl))
def c68 : DCode := (.seq (.reg [o 4 (.mov (.c (.int .i64 0)))]) (.seq (.seq (.reg [o 6 (.mov (.t 0)),
  o 7 (.len (.t 6)),
  o 8 (.mov (.c (.int .i64 0)))]) (.blk 0 (.loop h68_0 x68_0 b68_0))) (.seq (.reg [o 4 (.mov (.c (.int .i64 (-1))))]) .ret)))
theorem ok68 : L.Fn Try.prog 68 19 [(.t 4)] (erase c68) := L.Fn.of hmix Try.func68 [] (by kernel_rfl)
def sh68 : FSh := ⟨⟨[(.v y67), (.fn 69 [(.elm y6)])], []⟩, [y67, y6], 0, ⟨⟨[(.v y6)], []⟩, [y6], [], 0⟩, true⟩
noncomputable def q68 (F69 : Y86) (l68_0 : Y94) (a0 : List Y9) (a1 : Int) : Option Int :=
(l68_0 (a0, a1, (↑(List.length a0) : Int), (0 : Int))).bind (fun (y2 : Int ⊕ Unit) => Sum.elim (fun (y3 : Int) => (
some y3)) (fun (y4 : Unit) => (
some (-1 : Int))) y2)
theorem g68 (F69 : Y86) (a0 : List Y9) (a1 : Int) : dxf (T68 F69) sh68 [(.t 4)] c68 (a0, a1) = q68 F69 (l68_0 (T68 F69)) a0 a1 := by kernel_rfl
noncomputable def p68 (a0 : List Y9) (a1 : Int) : Option Int := q68 P69 L68_0 a0 a1
noncomputable def P68 : Y95 := fun x => p68 x.1 x.2
theorem v68 : dxf (T68 P69) sh68 [(.t 4)] c68 = P68 := funext fun x => (g68 P69 x.1 x.2).trans (show q68 P69 (l68_0 (T68 P69)) x.1 x.2 = q68 P69 L68_0 x.1 x.2 from by rw [v68_0])
theorem d68 : DC Try.prog 68 sh68 P68 := DC_eq v68 (dxf_sound (sh := sh68) t68 ok68 (by kernel_rfl))
noncomputable def T47 (F68 : Y95) : List FEnt := [⟨68, sh68, F68⟩]
theorem t47 : DTblOK Try.prog (T47 P68) := (DTbl_cons' (f := 68) (sh := sh68) (F := P68) d68 (by kernel_rfl) DTbl_nil)
def c47 : DCode := (.seq (.reg [o 2 (.box (.t 0)),
  o 3 (.box (.t 1)),
  o 4 (.alc [(.int .i64 0), (.int .i64 0), (.int .i64 0), .emp, .emp, (.int .i64 0), (.int .i64 0), (.int .i64 0), (.int .i64 0)]),
  o 5 (.mov (.c (.bool false)))]) (.seq (.reg [o 7 (.fld (.t 2) 1),
  o 8 (.ld1 (.t 7) false),
  o 9 (.mkf 69 [(.t 3)]),
  o 10 (.xcall 68 [(.t 8), (.t 9)]),
  o 6 (.mov (.t 10))]) (.seq (.seq (.reg [o 11 (.mov (.t 6)),
  o 12 (.bin true .lss (.t 11) (.c (.int .i64 0)))]) (.cond (.t 12) (.seq (.reg [o 13 (.bld [(.int .i64 0), (.int .i64 0), (.int .i64 0), .emp, .emp, (.int .i64 0), (.int .i64 0), (.int .i64 0), (.int .i64 0)] []),
  .op ⟨none, .sto (.t 4) (.t 13) 9, none⟩ none,
  o 5 (.mov (.c (.bool false)))]) .ret) .skip)) (.seq (.reg [o 14 (.fld (.t 2) 1),
  o 15 (.ld1 (.t 14) false),
  o 16 (.mov (.t 6)),
  o 17 (.idx (.t 15) (.t 16) 9),
  o 18 (.ldn (.t 17) 9 false),
  .op ⟨none, .sto (.t 4) (.t 18) 9, none⟩ none,
  o 5 (.mov (.c (.bool true)))]) .ret))))
theorem ok47 : L.Fn Try.prog 47 19 [(.cell 4 true 9), (.t 5)] (erase c47) := L.Fn.of hmix Try.func47 [] (by kernel_rfl)
def sh47 : FSh := ⟨⟨[(.st y69), (.v y6)], []⟩, [y69, y6], 0, ⟨⟨[(.tup [(.st y66), (.v .bool)])], []⟩, [y66, .bool], [], 0⟩, false⟩
noncomputable def q47 (F68 : Y95) (a0 : Y20) (a1 : Int) : Option Y19 :=
(F68 (a0.2.1, a1)).bind fun (r1 : Int) => (
cond (decide (r1 < (0 : Int))) (
some (((0 : Int), ((0 : Int), ((0 : Int), (([] : List Int), (([] : List Y2), ((0 : Int), ((0 : Int), ((0 : Int), (0 : Int))))))))), false)) (
chk (inR r1 (List.length a0.2.1)) (
some ((ix a0.2.1 r1), true))))
theorem g47 (F68 : Y95) (a0 : Y20) (a1 : Int) : dxf (T47 F68) sh47 [(.cell 4 true 9), (.t 5)] c47 (a0, a1) = q47 F68 a0 a1 := by kernel_rfl
noncomputable def p47 (a0 : Y20) (a1 : Int) : Option Y19 := q47 P68 a0 a1
noncomputable def P47 : Y33 := fun x => p47 x.1 x.2
theorem v47 : dxf (T47 P68) sh47 [(.cell 4 true 9), (.t 5)] c47 = P47 := funext fun x => (g47 P68 x.1 x.2).trans (show q47 P68 x.1 x.2 = q47 P68 x.1 x.2 from rfl)
theorem d47 : DC Try.prog 47 sh47 P47 := DC_eq v47 (dxf_sound (sh := sh47) t47 ok47 (by kernel_rfl))
noncomputable def T46 (F40 : Y4) : List FEnt := [⟨40, sh40, F40⟩]
theorem t46 : DTblOK Try.prog (T46 P40) := (DTbl_cons' (f := 40) (sh := sh40) (F := P40) d40 (by kernel_rfl) DTbl_nil)
def c46 : DCode := (.seq (.reg [o 2 (.mov (.c (.bool false)))]) (.seq (.reg [o 3 (.mov (.t 0)),
  o 4 (.xcall 40 [(.t 3), (.c (.int .i64 0)), (.c (.int .i64 10000000))]),
  o 2 (.mov (.t 4))]) .ret))
theorem ok46 : L.Fn Try.prog 46 5 [(.t 2)] (erase c46) := L.Fn.of hmix Try.func46 [] (by kernel_rfl)
def sh46 : FSh := ⟨⟨[(.v y6)], []⟩, [y6], 0, ⟨⟨[(.v .bool)], []⟩, [.bool], [], 0⟩, true⟩
noncomputable def q46 (F40 : Y4) (a0 : Int) : Option Bool :=
(F40 (a0, (0 : Int), (10000000 : Int))).bind fun (r1 : Bool) => (
some r1)
theorem g46 (F40 : Y4) (a0 : Int) : dxf (T46 F40) sh46 [(.t 2)] c46 a0 = q46 F40 a0 := by kernel_rfl
noncomputable def p46 (a0 : Int) : Option Bool := q46 P40 a0
noncomputable def P46 : Y71 := fun x => p46 x
theorem v46 : dxf (T46 P40) sh46 [(.t 2)] c46 = P46 := funext fun x => (g46 P40 x).trans (show q46 P40 x = q46 P40 x from rfl)
theorem d46 : DC Try.prog 46 sh46 P46 := DC_eq v46 (dxf_sound (sh := sh46) t46 ok46 (by kernel_rfl))
noncomputable def T70 (F40 : Y4) : List FEnt := [⟨40, sh40, F40⟩]
theorem t70 : DTblOK Try.prog (T70 P40) := (DTbl_cons' (f := 40) (sh := sh40) (F := P40) d40 (by kernel_rfl) DTbl_nil)
def c70 : DCode := (.seq (.reg [o 2 (.mov (.c (.bool false)))]) (.seq (.reg [o 3 (.mov (.t 0)),
  o 4 (.xcall 40 [(.t 3), (.c (.int .i64 0)), (.c (.int .i64 1000))]),
  o 2 (.mov (.t 4))]) .ret))
theorem ok70 : L.Fn Try.prog 70 5 [(.t 2)] (erase c70) := L.Fn.of hmix Try.func70 [] (by kernel_rfl)
def sh70 : FSh := ⟨⟨[(.v y6)], []⟩, [y6], 0, ⟨⟨[(.v .bool)], []⟩, [.bool], [], 0⟩, true⟩
noncomputable def q70 (F40 : Y4) (a0 : Int) : Option Bool :=
(F40 (a0, (0 : Int), (1000 : Int))).bind fun (r1 : Bool) => (
some r1)
theorem g70 (F40 : Y4) (a0 : Int) : dxf (T70 F40) sh70 [(.t 2)] c70 a0 = q70 F40 a0 := by kernel_rfl
noncomputable def p70 (a0 : Int) : Option Bool := q70 P40 a0
noncomputable def P70 : Y71 := fun x => p70 x
theorem v70 : dxf (T70 P40) sh70 [(.t 2)] c70 = P70 := funext fun x => (g70 P40 x).trans (show q70 P40 x = q70 P40 x from rfl)
theorem d70 : DC Try.prog 70 sh70 P70 := DC_eq v70 (dxf_sound (sh := sh70) t70 ok70 (by kernel_rfl))
noncomputable def T72 (F70 : Y71) : List FEnt := [⟨70, sh70, F70⟩]
theorem t72 : DTblOK Try.prog (T72 P70) := (DTbl_cons' (f := 70) (sh := sh70) (F := P70) d70 (by kernel_rfl) DTbl_nil)
def c72 : DCode := (.seq (.reg [o 2 (.mov (.c (.bool false)))]) (.seq (.reg [o 3 (.mov (.t 0)),
  o 4 (.xcall 70 [(.t 3)]),
  o 5 (.unot (.t 4)),
  o 2 (.mov (.t 5))]) .ret))
theorem ok72 : L.Fn Try.prog 72 6 [(.t 2)] (erase c72) := L.Fn.of hmix Try.func72 [] (by kernel_rfl)
def sh72 : FSh := ⟨⟨[(.v y6)], []⟩, [y6], 0, ⟨⟨[(.v .bool)], []⟩, [.bool], [], 0⟩, true⟩
noncomputable def q72 (F70 : Y71) (a0 : Int) : Option Bool :=
(F70 a0).bind fun (r1 : Bool) => (
some (!r1))
theorem g72 (F70 : Y71) (a0 : Int) : dxf (T72 F70) sh72 [(.t 2)] c72 a0 = q72 F70 a0 := by kernel_rfl
noncomputable def p72 (a0 : Int) : Option Bool := q72 P70 a0
noncomputable def P72 : Y71 := fun x => p72 x
theorem v72 : dxf (T72 P70) sh72 [(.t 2)] c72 = P72 := funext fun x => (g72 P70 x).trans (show q72 P70 x = q72 P70 x from rfl)
theorem d72 : DC Try.prog 72 sh72 P72 := DC_eq v72 (dxf_sound (sh := sh72) t72 ok72 (by kernel_rfl))
noncomputable def T85 (F72 : Y71) : List FEnt := [⟨72, sh72, F72⟩]
theorem t85 : DTblOK Try.prog (T85 P72) := (DTbl_cons' (f := 72) (sh := sh72) (F := P72) d72 (by kernel_rfl) DTbl_nil)
def b85_0 : DCode := (.seq (.reg [o 9 (.bin true .lss (.t 8) (.t 7))]) (.seq (.cond (.t 9) .skip (.exit 0)) (.seq (.blk 1 (.seq (.reg [o 10 (.mov (.t 8)),
  o 5 (.mov (.t 10))]) (.seq (.reg [o 11 (.mov (.t 1)),
  o 12 (.mov (.t 0)),
  o 13 (.mov (.t 5)),
  o 14 (.idx (.t 12) (.t 13) 1),
  o 15 (.ld1 (.t 14) false),
  o 16 (.xcallv (.t 11) [(.t 15)])]) (.cond (.t 16) (.seq (.reg [o 17 (.mov (.t 5)),
  o 4 (.mov (.t 17))]) .ret) .skip)))) (.reg [o 18 (.bin true .add (.t 8) (.c (.int .i64 1))),
  o 8 (.mov (.t 18))]))))
def h85_0 : LSh := ⟨[0, 1, 7, 8], ⟨[(.v y12), (.fn 72 []), (.v y6), (.v y6)], []⟩, [y12, y6, y6], 0, []⟩
def x85_0 : List XSh := [⟨.ret, [4], ⟨⟨[(.v y6)], []⟩, [y6], [], 0⟩⟩, ⟨(.exit 0), [], ⟨⟨[], []⟩, [], [], 0⟩⟩]
noncomputable def s85_0 (T : List FEnt) : Y87 := dstep (xs := x85_0) h85_0 (dxc T b85_0)
noncomputable def l85_0 (T : List FEnt) : Y72 := whileF (s85_0 T)
noncomputable def q85_0 (F72 : Y71) (a0 : List Int) (a1 : Int) (a2 : Int) : Option Y83 :=
cond (decide (a2 < a1)) (
chk (inR a2 (List.length a0)) (
(F72 (ix a0 a2)).bind fun (r1 : Bool) => (
cond r1 (
some (Sum.inr (Sum.inl a2))) (
chk (fits .i64 (a2 + (1 : Int))) (
some (Sum.inl (a0, a1, (a2 + (1 : Int))))))))) (
some (Sum.inr (Sum.inr ())))
theorem g85_0 (F72 : Y71) (a0 : List Int) (a1 : Int) (a2 : Int) : s85_0 (T85 F72) (a0, a1, a2) = q85_0 F72 a0 a1 a2 := by kernel_rfl
noncomputable def p85_0 (a0 : List Int) (a1 : Int) (a2 : Int) : Option Y83 := q85_0 P72 a0 a1 a2
noncomputable def L85_0 : Y72 := whileF (fun x => p85_0 x.1 x.2.1 x.2.2)
theorem v85_0 : l85_0 (T85 P72) = L85_0 := congrArg whileF (funext fun x => (g85_0 P72 x.1 x.2.1 x.2.2).trans (show q85_0 P72 x.1 x.2.1 x.2.2 = q85_0 P72 x.1 x.2.1 x.2.2 from rfl))
def c85 : DCode := (.seq (.reg [o 4 (.mov (.c (.int .i64 0)))]) (.seq (.seq (.reg [o 6 (.mov (.t 0)),
  o 7 (.len (.t 6)),
  o 8 (.mov (.c (.int .i64 0)))]) (.blk 0 (.loop h85_0 x85_0 b85_0))) (.seq (.reg [o 4 (.mov (.c (.int .i64 (-1))))]) .ret)))
theorem ok85 : L.Fn Try.prog 85 19 [(.t 4)] (erase c85) := L.Fn.of hmix Try.func85 [] (by kernel_rfl)
def sh85 : FSh := ⟨⟨[(.v y12), (.fn 72 [])], []⟩, [y12], 0, ⟨⟨[(.v y6)], []⟩, [y6], [], 0⟩, true⟩
noncomputable def q85 (F72 : Y71) (l85_0 : Y72) (a0 : List Int) : Option Int :=
(l85_0 (a0, (↑(List.length a0) : Int), (0 : Int))).bind (fun (y2 : Int ⊕ Unit) => Sum.elim (fun (y3 : Int) => (
some y3)) (fun (y4 : Unit) => (
some (-1 : Int))) y2)
theorem g85 (F72 : Y71) (a0 : List Int) : dxf (T85 F72) sh85 [(.t 4)] c85 a0 = q85 F72 (l85_0 (T85 F72)) a0 := by kernel_rfl
noncomputable def p85 (a0 : List Int) : Option Int := q85 P72 L85_0 a0
noncomputable def P85 : Y73 := fun x => p85 x
theorem v85 : dxf (T85 P72) sh85 [(.t 4)] c85 = P85 := funext fun x => (g85 P72 x).trans (show q85 P72 (l85_0 (T85 P72)) x = q85 P72 L85_0 x from by rw [v85_0])
theorem d85 : DC Try.prog 85 sh85 P85 := DC_eq v85 (dxf_sound (sh := sh85) t85 ok85 (by kernel_rfl))
noncomputable def T71 (F85 : Y73) : List FEnt := [⟨85, sh85, F85⟩]
theorem t71 : DTblOK Try.prog (T71 P85) := (DTbl_cons' (f := 85) (sh := sh85) (F := P85) d85 (by kernel_rfl) DTbl_nil)
def c71 : DCode := (.seq (.reg [o 4 (.mov (.c (.bool false)))]) (.seq (.reg [o 5 (.mov (.t 0)),
  o 6 (.mov (.t 1)),
  o 7 (.xcall 85 [(.t 5), (.t 6)]),
  o 8 (.bin true .geq (.t 7) (.c (.int .i64 0))),
  o 4 (.mov (.t 8))]) .ret))
theorem ok71 : L.Fn Try.prog 71 9 [(.t 4)] (erase c71) := L.Fn.of hmix Try.func71 [] (by kernel_rfl)
def sh71 : FSh := ⟨⟨[(.v y12), (.fn 72 [])], []⟩, [y12], 0, ⟨⟨[(.v .bool)], []⟩, [.bool], [], 0⟩, true⟩
noncomputable def q71 (F85 : Y73) (a0 : List Int) : Option Bool :=
(F85 a0).bind fun (r1 : Int) => (
some (decide ((0 : Int) ≤ r1)))
theorem g71 (F85 : Y73) (a0 : List Int) : dxf (T71 F85) sh71 [(.t 4)] c71 a0 = q71 F85 a0 := by kernel_rfl
noncomputable def p71 (a0 : List Int) : Option Bool := q71 P85 a0
noncomputable def P71 : Y74 := fun x => p71 x
theorem v71 : dxf (T71 P85) sh71 [(.t 4)] c71 = P71 := funext fun x => (g71 P85 x).trans (show q71 P85 x = q71 P85 x from rfl)
theorem d71 : DC Try.prog 71 sh71 P71 := DC_eq v71 (dxf_sound (sh := sh71) t71 ok71 (by kernel_rfl))
noncomputable def T50 (F46 : Y71) (F70 : Y71) (F40 : Y4) (F71 : Y74) : List FEnt := [⟨46, sh46, F46⟩, ⟨70, sh70, F70⟩, ⟨40, sh40, F40⟩, ⟨71, sh71, F71⟩]
theorem t50 : DTblOK Try.prog (T50 P46 P70 P40 P71) := (DTbl_cons' (f := 46) (sh := sh46) (F := P46) d46 (by kernel_rfl) (DTbl_cons' (f := 70) (sh := sh70) (F := P70) d70 (by kernel_rfl) (DTbl_cons' (f := 40) (sh := sh40) (F := P40) d40 (by kernel_rfl) (DTbl_cons' (f := 71) (sh := sh71) (F := P71) d71 (by kernel_rfl) DTbl_nil))))
def b50_0 : DCode := (.seq (.reg [o 11 (.bin true .lss (.t 10) (.t 9))]) (.seq (.cond (.t 11) .skip (.exit 0)) (.seq (.blk 1 (.seq (.reg [o 12 (.mov (.t 10)),
  o 13 (.idx (.t 8) (.t 10) 2),
  o 14 (.ldn (.t 13) 2 false),
  o 4 (.alc [(.int .i64 0), (.int .i64 0)]),
  o 3 (.mov (.t 12)),
  .op ⟨none, .sto (.t 4) (.t 14) 2, none⟩ none]) (.seq (.drw [] [r 15 (.fld (.t 4) 0),
  r 16 (.ld1 (.t 15) false),
  r 17 (.xcall 46 [(.t 16)]),
  r 18 (.unot (.t 17)),
  r 19 (.mov (.t 18)),
  (⟨some 20, .fld (.t 4) 1, some (19, false)⟩, none),
  (⟨some 21, .ld1 (.t 20) false, some (19, false)⟩, none),
  (⟨some 22, .xcall 70 [(.t 21)], some (19, false)⟩, none),
  (⟨some 23, .unot (.t 22), some (19, false)⟩, none),
  r 24 (.pick (.t 19) (.c (.bool true)) (.t 23)),
  r 25 (.mov (.t 24)),
  (⟨some 26, .mov (.t 3), some (25, false)⟩, none),
  (⟨some 27, .bin true .gtr (.t 26) (.c (.int .i64 0)), some (25, false)⟩, none),
  (⟨some 28, .mov (.t 27), some (25, false)⟩, none),
  (⟨some 29, .fld (.t 4) 0, some (28, true)⟩, none),
  (⟨some 30, .ld1 (.t 29) false, some (28, true)⟩, none),
  (⟨some 31, .fld (.t 1) 4, some (28, true)⟩, none),
  (⟨some 32, .ld1 (.t 31) false, some (28, true)⟩, none),
  (⟨some 33, .mov (.t 3), some (28, true)⟩, none),
  (⟨some 34, .bin true .sub (.t 33) (.c (.int .i64 1)), some (28, true)⟩, none),
  (⟨some 35, .idx (.t 32) (.t 34) 2, some (28, true)⟩, none),
  (⟨some 36, .fld (.t 35) 0, some (28, true)⟩, none),
  (⟨some 37, .ld1 (.t 36) false, some (28, true)⟩, none),
  (⟨some 38, .bin true .leq (.t 30) (.t 37), some (28, true)⟩, none),
  (⟨some 39, .pick (.t 28) (.t 38) (.c (.bool false)), some (25, false)⟩, none),
  r 40 (.pick (.t 25) (.c (.bool true)) (.t 39))]) (.cond (.t 40) (.seq (.reg [o 2 (.mov (.c (.bool false)))]) .ret) .skip)))) (.reg [o 41 (.bin true .add (.t 10) (.c (.int .i64 1))),
  o 10 (.mov (.t 41))]))))
def h50_0 : LSh := ⟨[1, 8, 9, 10], ⟨[(.ptr 0 0), (.v y15), (.v y6), (.v y6)], [(0, (.boxT y66))]⟩, [y15, y6, y6, y66], 1, [0]⟩
def x50_0 : List XSh := [⟨.ret, [2], ⟨⟨[(.v .bool)], [(0, (.boxT y66))]⟩, [.bool, y66], [0], 1⟩⟩, ⟨(.exit 0), [1], ⟨⟨[(.ptr 0 0)], [(0, (.boxT y66))]⟩, [y66], [0], 1⟩⟩]
noncomputable def s50_0 (T : List FEnt) : Y104 := dstep (xs := x50_0) h50_0 (dxc T b50_0)
noncomputable def l50_0 (T : List FEnt) : Y96 := whileF (s50_0 T)
noncomputable def q50_0 (F46 : Y71) (F70 : Y71) (F40 : Y4) (F71 : Y74) (a0 : List Y2) (a1 : Int) (a2 : Int) (a3 : Y9) : Option Y102 :=
cond (decide (a2 < a1)) (
chk (inR a2 (List.length a0)) (
(F46 ((ix a0 a2).1)).bind fun (r1 : Bool) => (
cond (!r1) (
some (Sum.inr (Sum.inl (false, a3)))) (
(F70 ((ix a0 a2).2)).bind fun (r2 : Bool) => (
cond (!r2) (
some (Sum.inr (Sum.inl (false, a3)))) (
cond (decide ((0 : Int) < a2)) (
chk (fits .i64 (a2 - (1 : Int))) (
chk (inR (a2 - (1 : Int)) (List.length a3.2.2.2.2.1)) (
cond (decide ((ix a0 a2).1 ≤ (ix a3.2.2.2.2.1 (a2 - (1 : Int))).1)) (
some (Sum.inr (Sum.inl (false, a3)))) (
chk (fits .i64 (a2 + (1 : Int))) (
some (Sum.inl (a0, a1, (a2 + (1 : Int)), a3))))))) (
chk (fits .i64 (a2 + (1 : Int))) (
some (Sum.inl (a0, a1, (a2 + (1 : Int)), a3)))))))))) (
some (Sum.inr (Sum.inr a3)))
theorem g50_0 (F46 : Y71) (F70 : Y71) (F40 : Y4) (F71 : Y74) (a0 : List Y2) (a1 : Int) (a2 : Int) (a3 : Y9) : s50_0 (T50 F46 F70 F40 F71) (a0, a1, a2, a3) = q50_0 F46 F70 F40 F71 a0 a1 a2 a3 := by kernel_rfl
noncomputable def p50_0 (a0 : List Y2) (a1 : Int) (a2 : Int) (a3 : Y9) : Option Y102 := q50_0 P46 P70 P40 P71 a0 a1 a2 a3
noncomputable def L50_0 : Y96 := whileF (fun x => p50_0 x.1 x.2.1 x.2.2.1 x.2.2.2)
theorem v50_0 : l50_0 (T50 P46 P70 P40 P71) = L50_0 := congrArg whileF (funext fun x => (g50_0 P46 P70 P40 P71 x.1 x.2.1 x.2.2.1 x.2.2.2).trans (show q50_0 P46 P70 P40 P71 x.1 x.2.1 x.2.2.1 x.2.2.2 = q50_0 P46 P70 P40 P71 x.1 x.2.1 x.2.2.1 x.2.2.2 from rfl))
def c50 : DCode := (.seq (.reg [o 1 (.box (.t 0)),
  o 2 (.mov (.c (.bool false)))]) (.seq (.seq (.reg [o 7 (.fld (.t 1) 4),
  o 8 (.ld1 (.t 7) false),
  o 9 (.len (.t 8)),
  o 10 (.mov (.c (.int .i64 0)))]) (.blk 0 (.loop h50_0 x50_0 b50_0))) (.seq (.reg [o 42 (.fld (.t 1) 3),
  o 43 (.ld1 (.t 42) false),
  o 44 (.len (.t 43)),
  o 45 (.xcall 40 [(.t 44), (.c (.int .i64 1)), (.c (.int .i64 6))]),
  o 46 (.mov (.t 45)),
  og 47 46 true (.fld (.t 1) 3),
  og 48 46 true (.ld1 (.t 47) false),
  og 49 46 true (.xcall 71 [(.t 48), (.c (.fn 72 []))]),
  og 50 46 true (.unot (.t 49)),
  o 51 (.pick (.t 46) (.t 50) (.c (.bool false))),
  o 5 (.mov (.t 51))]) (.seq (.reg [o 52 (.fld (.t 1) 1),
  o 53 (.ld1 (.t 52) false),
  o 54 (.fld (.t 1) 2),
  o 55 (.ld1 (.t 54) false),
  o 56 (.bin true .leq (.t 53) (.t 55)),
  o 57 (.mov (.t 56)),
  og 58 57 true (.fld (.t 1) 1),
  og 59 57 true (.ld1 (.t 58) false),
  og 60 57 true (.xcall 40 [(.t 59), (.c (.int .i64 0)), (.c (.int .i64 99))]),
  o 61 (.pick (.t 57) (.t 60) (.c (.bool false))),
  o 62 (.mov (.t 61)),
  og 63 62 true (.fld (.t 1) 2),
  og 64 62 true (.ld1 (.t 63) false),
  og 65 62 true (.xcall 40 [(.t 64), (.c (.int .i64 0)), (.c (.int .i64 99))]),
  o 66 (.pick (.t 62) (.t 65) (.c (.bool false))),
  o 6 (.mov (.t 66))]) (.seq (.reg [o 67 (.mov (.t 5)),
  o 68 (.mov (.t 67)),
  og 69 68 true (.mov (.t 6)),
  o 70 (.pick (.t 68) (.t 69) (.c (.bool false))),
  o 71 (.mov (.t 70)),
  og 72 71 true (.fld (.t 1) 0),
  og 73 71 true (.ld1 (.t 72) false),
  og 74 71 true (.xcall 40 [(.t 73), (.c (.int .i64 0)), (.c (.int .i64 99))]),
  o 75 (.pick (.t 71) (.t 74) (.c (.bool false))),
  o 76 (.mov (.t 75)),
  og 77 76 true (.fld (.t 1) 4),
  og 78 76 true (.ld1 (.t 77) false),
  og 79 76 true (.len (.t 78)),
  og 80 76 true (.bin true .leq (.t 79) (.c (.int .i64 4))),
  o 81 (.pick (.t 76) (.t 80) (.c (.bool false))),
  o 82 (.mov (.t 81)),
  og 83 82 true (.fld (.t 1) 5),
  og 84 82 true (.ld1 (.t 83) false),
  og 85 82 true (.xcall 46 [(.t 84)]),
  o 86 (.pick (.t 82) (.t 85) (.c (.bool false))),
  o 87 (.mov (.t 86)),
  og 88 87 true (.fld (.t 1) 7),
  og 89 87 true (.ld1 (.t 88) false),
  og 90 87 true (.xcall 46 [(.t 89)]),
  o 91 (.pick (.t 87) (.t 90) (.c (.bool false))),
  o 92 (.mov (.t 91)),
  og 93 92 true (.fld (.t 1) 6),
  og 94 92 true (.ld1 (.t 93) false),
  og 95 92 true (.xcall 70 [(.t 94)]),
  o 96 (.pick (.t 92) (.t 95) (.c (.bool false))),
  o 97 (.mov (.t 96)),
  og 98 97 true (.fld (.t 1) 8),
  og 99 97 true (.ld1 (.t 98) false),
  og 100 97 true (.xcall 40 [(.t 99), (.c (.int .i64 0)), (.c (.int .i64 100000000))]),
  o 101 (.pick (.t 97) (.t 100) (.c (.bool false))),
  o 2 (.mov (.t 101))]) .ret)))))
theorem ok50 : L.Fn Try.prog 50 102 [(.t 2)] (erase c50) := L.Fn.of hmix Try.func50 [] (by kernel_rfl)
def sh50 : FSh := ⟨⟨[(.st y66)], []⟩, [y66], 0, ⟨⟨[(.v .bool)], []⟩, [.bool], [], 0⟩, true⟩
noncomputable def q50 (F46 : Y71) (F70 : Y71) (F40 : Y4) (F71 : Y74) (l50_0 : Y96) (a0 : Y9) : Option Bool :=
(l50_0 (a0.2.2.2.2.1, (↑(List.length a0.2.2.2.2.1) : Int), (0 : Int), a0)).bind (fun (y3 : Y10 ⊕ Y9) => Sum.elim (fun (y4 : Y10) => (
some y4.1)) (fun (y5 : Y9) => (
(F40 ((↑(List.length y5.2.2.2.1) : Int), (1 : Int), (6 : Int))).bind fun (r6 : Bool) => (
cond r6 (
(F71 y5.2.2.2.1).bind fun (r7 : Bool) => (
cond (decide (y5.2.1 ≤ y5.2.2.1)) (
(F40 (y5.2.1, (0 : Int), (99 : Int))).bind fun (r8 : Bool) => (
cond r8 (
(F40 (y5.2.2.1, (0 : Int), (99 : Int))).bind fun (r9 : Bool) => (
cond (!r7) (
cond r9 (
(F40 (y5.1, (0 : Int), (99 : Int))).bind fun (r10 : Bool) => (
cond r10 (
cond (decide ((↑(List.length y5.2.2.2.2.1) : Int) ≤ (4 : Int))) (
(F46 y5.2.2.2.2.2.1).bind fun (r11 : Bool) => (
cond r11 (
(F46 y5.2.2.2.2.2.2.2.1).bind fun (r12 : Bool) => (
cond r12 (
(F70 y5.2.2.2.2.2.2.1).bind fun (r13 : Bool) => (
cond r13 (
(F40 (y5.2.2.2.2.2.2.2.2, (0 : Int), (100000000 : Int))).bind fun (r14 : Bool) => (
some r14)) (
some false))) (
some false))) (
some false))) (
some false)) (
some false))) (
some false)) (
some false))) (
cond (!r7) (
some false) (
some false)))) (
cond (!r7) (
some false) (
some false)))) (
cond (decide (y5.2.1 ≤ y5.2.2.1)) (
(F40 (y5.2.1, (0 : Int), (99 : Int))).bind fun (r15 : Bool) => (
cond r15 (
(F40 (y5.2.2.1, (0 : Int), (99 : Int))).bind fun (r16 : Bool) => (
some false)) (
some false))) (
some false))))) y3)
theorem g50 (F46 : Y71) (F70 : Y71) (F40 : Y4) (F71 : Y74) (a0 : Y9) : dxf (T50 F46 F70 F40 F71) sh50 [(.t 2)] c50 a0 = q50 F46 F70 F40 F71 (l50_0 (T50 F46 F70 F40 F71)) a0 := by kernel_rfl
noncomputable def p50 (a0 : Y9) : Option Bool := q50 P46 P70 P40 P71 L50_0 a0
noncomputable def P50 : Y11 := fun x => p50 x
theorem v50 : dxf (T50 P46 P70 P40 P71) sh50 [(.t 2)] c50 = P50 := funext fun x => (g50 P46 P70 P40 P71 x).trans (show q50 P46 P70 P40 P71 (l50_0 (T50 P46 P70 P40 P71)) x = q50 P46 P70 P40 P71 L50_0 x from by rw [v50_0])
theorem d50 : DC Try.prog 50 sh50 P50 := DC_eq v50 (dxf_sound (sh := sh50) t50 ok50 (by kernel_rfl))
noncomputable def T77 : List FEnt := []
theorem t77 : DTblOK Try.prog T77 := DTbl_nil
def c77 : DCode := (.seq (.reg [o 2 (.mov (.c .emp))]) (.seq (.seq (.reg [o 3 (.mov (.t 0)),
  o 4 (.isn false (.t 3))]) (.cond (.t 4) (.seq (.reg [o 2 (.mov (.c .emp))]) .ret) .skip)) (.seq (.reg [.op ⟨some 5, .bsr 45 6 [], none⟩ (some (true, y48)),
  o 6 (.mov (.t 0)),
  .op ⟨some 7, .app 45 6 48 (.t 5) (.t 6), none⟩ (some (true, y48)),
  o 2 (.mov (.t 7))]) .ret)))
theorem ok77 : L.Fn Try.prog 77 8 [(.t 2)] (erase c77) := L.Fn.of hmix Try.func77 [] (by kernel_rfl)
def sh77 : FSh := ⟨⟨[(.v y60)], []⟩, [y60], 0, ⟨⟨[(.slc 0)], [(0, (.row 45 y48))]⟩, [y60], [], 1⟩, true⟩
noncomputable def q77 (a0 : List Y3) : Option Y8 :=
bisn (decide (List.length a0 = 0)) (
some ([] : List Y3)) (
chk (capOk 48 (List.length ([] : List Y3) + List.length a0)) (
some (([] : List Y3) ++ a0)))
theorem g77 (a0 : List Y3) : dxf T77 sh77 [(.t 2)] c77 a0 = q77 a0 := by kernel_rfl
noncomputable def p77 (a0 : List Y3) : Option Y8 := q77 a0
noncomputable def P77 : Y77 := fun x => p77 x
theorem v77 : dxf T77 sh77 [(.t 2)] c77 = P77 := funext fun x => (g77 x).trans (show q77 x = q77 x from rfl)
theorem d77 : DC Try.prog 77 sh77 P77 := DC_eq v77 (dxf_sound (sh := sh77) t77 ok77 (by kernel_rfl))
noncomputable def T79 : List FEnt := []
theorem t79 : DTblOK Try.prog T79 := DTbl_nil
def c79 : DCode := (.seq (.reg [o 2 (.box (.t 0)),
  o 3 (.box (.t 1)),
  o 4 (.mov (.c (.int .i64 0)))]) (.seq (.reg [o 5 (.fld (.t 2) 0),
  o 6 (.ld1 (.t 5) false),
  o 7 (.fld (.t 3) 0),
  o 8 (.ld1 (.t 7) false),
  o 9 (.bin false .sub (.t 6) (.t 8)),
  o 4 (.mov (.t 9))]) .ret))
theorem ok79 : L.Fn Try.prog 79 10 [(.t 4)] (erase c79) := L.Fn.of hmix Try.func79 [(1, { ch := [0,0,0,0,1,0] })] (by kernel_rfl)
def sh79 : FSh := ⟨⟨[(.st y48), (.st y48)], []⟩, [y48, y48], 0, ⟨⟨[(.v y6)], []⟩, [y6], [], 0⟩, true⟩
noncomputable def q79 (a0 : Y3) (a1 : Y3) : Option Int :=
some (IntKind.wrap .i64 (a0.1 - a1.1))
theorem g79 (a0 : Y3) (a1 : Y3) : dxf T79 sh79 [(.t 4)] c79 (a0, a1) = q79 a0 a1 := by kernel_rfl
noncomputable def p79 (a0 : Y3) (a1 : Y3) : Option Int := q79 a0 a1
noncomputable def P79 : Y75 := fun x => p79 x.1 x.2
theorem v79 : dxf T79 sh79 [(.t 4)] c79 = P79 := funext fun x => (g79 x.1 x.2).trans (show q79 x.1 x.2 = q79 x.1 x.2 from rfl)
theorem d79 : DC Try.prog 79 sh79 P79 := DC_eq v79 (dxf_sound (sh := sh79) t79 ok79 (by kernel_rfl))
noncomputable def T91 (F79 : Y75) : List FEnt := [⟨79, sh79, F79⟩]
theorem t91 : DTblOK Try.prog (T91 P79) := (DTbl_cons' (f := 79) (sh := sh79) (F := P79) d79 (by kernel_rfl) DTbl_nil)
def b91_1 : DCode := (.seq (.seq (.drw [] [r 18 (.mov (.t 9)),
  r 19 (.mov (.t 1)),
  r 20 (.bin true .gtr (.t 18) (.t 19)),
  r 21 (.mov (.t 20)),
  (⟨some 22, .mov (.t 3), some (21, true)⟩, none),
  (⟨some 23, .mov (.t 0), some (21, true)⟩, none),
  (⟨some 24, .mov (.t 9), some (21, true)⟩, none),
  (⟨some 25, .idx (.t 23) (.t 24) 6, some (21, true)⟩, none),
  (⟨some 26, .ldn (.t 25) 6 false, some (21, true)⟩, none),
  (⟨some 27, .mov (.t 0), some (21, true)⟩, none),
  (⟨some 28, .mov (.t 9), some (21, true)⟩, none),
  (⟨some 29, .bin true .sub (.t 28) (.c (.int .i64 1)), some (21, true)⟩, none),
  (⟨some 30, .idx (.t 27) (.t 29) 6, some (21, true)⟩, none),
  (⟨some 31, .ldn (.t 30) 6 false, some (21, true)⟩, none),
  (⟨some 32, .xcallv (.t 22) [(.t 26), (.t 31)], some (21, true)⟩, none),
  (⟨some 33, .bin true .lss (.t 32) (.c (.int .i64 0)), some (21, true)⟩, none),
  r 34 (.pick (.t 21) (.t 33) (.c (.bool false)))]) (.cond (.t 34) .skip (.exit 2))) (.seq (.blk 3 (.drw [] [r 37 (.mov (.t 0)),
  r 38 (.mov (.t 9)),
  r 39 (.mov (.t 0)),
  r 40 (.mov (.t 9)),
  r 41 (.bin true .sub (.t 40) (.c (.int .i64 1))),
  r 42 (.mov (.t 0)),
  r 43 (.mov (.t 9)),
  r 44 (.bin true .sub (.t 43) (.c (.int .i64 1))),
  r 45 (.idx (.t 42) (.t 44) 6),
  r 46 (.ldn (.t 45) 6 false),
  r 47 (.mov (.t 0)),
  r 48 (.mov (.t 9)),
  r 49 (.idx (.t 47) (.t 48) 6),
  r 50 (.ldn (.t 49) 6 false),
  r 51 (.idx (.t 37) (.t 38) 6),
  (⟨none, .sto (.t 51) (.t 46) 6, none⟩, none),
  r 52 (.idx (.t 39) (.t 41) 6),
  (⟨none, .sto (.t 52) (.t 50) 6, none⟩, none)])) (.reg [o 35 (.mov (.t 9)),
  o 36 (.bin true .sub (.t 35) (.c (.int .i64 1))),
  o 9 (.mov (.t 36))])))
def h91_1 : LSh := ⟨[0, 1, 2, 3, 8, 9], ⟨[(.slc 0), (.v y6), (.v y6), (.fn 79 []), (.v y6), (.v y6)], [(0, (.row 45 y48))]⟩, [y6, y6, y6, y6, y60], 1, [0]⟩
def x91_1 : List XSh := [⟨(.exit 2), [0, 1, 2, 3, 8], ⟨⟨[(.slc 0), (.v y6), (.v y6), (.fn 79 []), (.v y6)], [(0, (.row 45 y48))]⟩, [y6, y6, y6, y60], [0], 1⟩⟩]
noncomputable def s91_1 (T : List FEnt) : Y97 := dstep (xs := x91_1) h91_1 (dxc T b91_1)
noncomputable def l91_1 (T : List FEnt) : Y88 := whileF (s91_1 T)
noncomputable def q91_1 (F79 : Y75) (a0 : Int) (a1 : Int) (a2 : Int) (a3 : Int) (a4 : List Y3) : Option Y90 :=
cond (decide (a0 < a3)) (
chk (inR a3 (List.length a4)) (
chk (fits .i64 (a3 - (1 : Int))) (
chk (inR (a3 - (1 : Int)) (List.length a4)) (
(F79 ((ix a4 a3), (ix a4 (a3 - (1 : Int))))).bind fun (r1 : Int) => (
cond (decide (r1 < (0 : Int))) (
chk (fits .i64 (a3 - (1 : Int))) (
chk (fits .i64 (a3 - (1 : Int))) (
chk (inR (a3 - (1 : Int)) (List.length a4)) (
chk (inR a3 (List.length a4)) (
chk (inR a3 (List.length a4)) (
chk (inR (a3 - (1 : Int)) (List.length (List.set a4 (Int.toNat a3) (ix a4 (a3 - (1 : Int)))))) (
chk (fits .i64 (a3 - (1 : Int))) (
some (Sum.inl (a0, a1, a2, (a3 - (1 : Int)), (List.set (List.set a4 (Int.toNat a3) (ix a4 (a3 - (1 : Int)))) (Int.toNat (a3 - (1 : Int))) (ix a4 a3)))))))))))) (
some (Sum.inr (a0, a1, a2, a4)))))))) (
some (Sum.inr (a0, a1, a2, a4)))
theorem g91_1 (F79 : Y75) (a0 : Int) (a1 : Int) (a2 : Int) (a3 : Int) (a4 : List Y3) : s91_1 (T91 F79) (a0, a1, a2, a3, a4) = q91_1 F79 a0 a1 a2 a3 a4 := by kernel_rfl
noncomputable def p91_1 (a0 : Int) (a1 : Int) (a2 : Int) (a3 : Int) (a4 : List Y3) : Option Y90 := q91_1 P79 a0 a1 a2 a3 a4
noncomputable def L91_1 : Y88 := whileF (fun x => p91_1 x.1 x.2.1 x.2.2.1 x.2.2.2.1 x.2.2.2.2)
theorem v91_1 : l91_1 (T91 P79) = L91_1 := congrArg whileF (funext fun x => (g91_1 P79 x.1 x.2.1 x.2.2.1 x.2.2.2.1 x.2.2.2.2).trans (show q91_1 P79 x.1 x.2.1 x.2.2.1 x.2.2.2.1 x.2.2.2.2 = q91_1 P79 x.1 x.2.1 x.2.2.1 x.2.2.2.1 x.2.2.2.2 from rfl))
def b91_0 : DCode := (.seq (.seq (.reg [o 12 (.mov (.t 8)),
  o 13 (.mov (.t 2)),
  o 14 (.bin true .lss (.t 12) (.t 13))]) (.cond (.t 14) .skip (.exit 0))) (.seq (.blk 1 (.seq (.reg [o 17 (.mov (.t 8)),
  o 9 (.mov (.t 17))]) (.blk 2 (.loop h91_1 x91_1 b91_1)))) (.reg [o 15 (.mov (.t 8)),
  o 16 (.bin true .add (.t 15) (.c (.int .i64 1))),
  o 8 (.mov (.t 16))])))
def h91_0 : LSh := ⟨[0, 1, 2, 3, 8], ⟨[(.slc 0), (.v y6), (.v y6), (.fn 79 []), (.v y6)], [(0, (.row 45 y48))]⟩, [y6, y6, y6, y60], 1, [0]⟩
def x91_0 : List XSh := [⟨(.exit 0), [], ⟨⟨[], [(0, (.row 45 y48))]⟩, [y60], [0], 1⟩⟩]
noncomputable def s91_0 (T : List FEnt) : Y98 := dstep (xs := x91_0) h91_0 (dxc T b91_0)
noncomputable def l91_0 (T : List FEnt) : Y78 := whileF (s91_0 T)
noncomputable def q91_0 (F79 : Y75) (l91_1 : Y88) (a0 : Int) (a1 : Int) (a2 : Int) (a3 : List Y3) : Option Y91 :=
cond (decide (a2 < a1)) (
(l91_1 (a0, a1, a2, a2, a3)).bind fun (y2 : Y79) => (
chk (fits .i64 (y2.2.2.1 + (1 : Int))) (
some (Sum.inl (y2.1, y2.2.1, (y2.2.2.1 + (1 : Int)), y2.2.2.2))))) (
some (Sum.inr a3))
theorem g91_0 (F79 : Y75) (a0 : Int) (a1 : Int) (a2 : Int) (a3 : List Y3) : s91_0 (T91 F79) (a0, a1, a2, a3) = q91_0 F79 (l91_1 (T91 F79)) a0 a1 a2 a3 := by kernel_rfl
noncomputable def p91_0 (a0 : Int) (a1 : Int) (a2 : Int) (a3 : List Y3) : Option Y91 := q91_0 P79 L91_1 a0 a1 a2 a3
noncomputable def L91_0 : Y78 := whileF (fun x => p91_0 x.1 x.2.1 x.2.2.1 x.2.2.2)
theorem v91_0 : l91_0 (T91 P79) = L91_0 := congrArg whileF (funext fun x => (g91_0 P79 x.1 x.2.1 x.2.2.1 x.2.2.2).trans (show q91_0 P79 (l91_1 (T91 P79)) x.1 x.2.1 x.2.2.1 x.2.2.2 = q91_0 P79 L91_1 x.1 x.2.1 x.2.2.1 x.2.2.2 from by rw [v91_1]))
def c91 : DCode := (.seq (.reg [o 10 (.mov (.t 1)),
  o 11 (.bin true .add (.t 10) (.c (.int .i64 1))),
  o 8 (.mov (.t 11))]) (.blk 0 (.loop h91_0 x91_0 b91_0)))
theorem ok91 : L.Fn Try.prog 91 53 [] (erase c91) := L.Fn.of hmix Try.func91 [] (by kernel_rfl)
def sh91 : FSh := ⟨⟨[(.slc 0), (.v y6), (.v y6), (.fn 79 [])], [(0, (.row 45 y48))]⟩, [y6, y6, y60], 1, ⟨⟨[(.tup [])], [(0, (.row 45 y48))]⟩, [y60], [0], 1⟩, false⟩
noncomputable def q91 (F79 : Y75) (l91_0 : Y78) (a0 : Int) (a1 : Int) (a2 : List Y3) : Option Y8 :=
chk (fits .i64 (a0 + (1 : Int))) (
(l91_0 (a0, a1, (a0 + (1 : Int)), a2)).bind fun (y3 : List Y3) => (
some y3))
theorem g91 (F79 : Y75) (a0 : Int) (a1 : Int) (a2 : List Y3) : dxf (T91 F79) sh91 [] c91 (a0, a1, a2) = q91 F79 (l91_0 (T91 F79)) a0 a1 a2 := by kernel_rfl
noncomputable def p91 (a0 : Int) (a1 : Int) (a2 : List Y3) : Option Y8 := q91 P79 L91_0 a0 a1 a2
noncomputable def P91 : Y80 := fun x => p91 x.1 x.2.1 x.2.2
theorem v91 : dxf (T91 P79) sh91 [] c91 = P91 := funext fun x => (g91 P79 x.1 x.2.1 x.2.2).trans (show q91 P79 (l91_0 (T91 P79)) x.1 x.2.1 x.2.2 = q91 P79 L91_0 x.1 x.2.1 x.2.2 from by rw [v91_0])
theorem d91 : DC Try.prog 91 sh91 P91 := DC_eq v91 (dxf_sound (sh := sh91) t91 ok91 (by kernel_rfl))
noncomputable def T109 : List FEnt := []
theorem t109 : DTblOK Try.prog T109 := DTbl_nil
def b109_0 : DCode := (.seq (.seq (.reg [o 11 (.mov (.t 10)),
  o 12 (.mov (.t 3)),
  o 13 (.bin true .lss (.t 11) (.t 12))]) (.cond (.t 13) .skip (.exit 0))) (.seq (.blk 1 (.drw [] [r 16 (.mov (.t 0)),
  r 17 (.mov (.t 1)),
  r 18 (.mov (.t 10)),
  r 19 (.bin true .add (.t 17) (.t 18)),
  r 20 (.mov (.t 0)),
  r 21 (.mov (.t 2)),
  r 22 (.mov (.t 10)),
  r 23 (.bin true .add (.t 21) (.t 22)),
  r 24 (.mov (.t 0)),
  r 25 (.mov (.t 2)),
  r 26 (.mov (.t 10)),
  r 27 (.bin true .add (.t 25) (.t 26)),
  r 28 (.idx (.t 24) (.t 27) 6),
  r 29 (.ldn (.t 28) 6 false),
  r 30 (.mov (.t 0)),
  r 31 (.mov (.t 1)),
  r 32 (.mov (.t 10)),
  r 33 (.bin true .add (.t 31) (.t 32)),
  r 34 (.idx (.t 30) (.t 33) 6),
  r 35 (.ldn (.t 34) 6 false),
  r 36 (.idx (.t 16) (.t 19) 6),
  (⟨none, .sto (.t 36) (.t 29) 6, none⟩, none),
  r 37 (.idx (.t 20) (.t 23) 6),
  (⟨none, .sto (.t 37) (.t 35) 6, none⟩, none)])) (.reg [o 14 (.mov (.t 10)),
  o 15 (.bin true .add (.t 14) (.c (.int .i64 1))),
  o 10 (.mov (.t 15))])))
def h109_0 : LSh := ⟨[0, 1, 2, 3, 10], ⟨[(.slc 0), (.v y6), (.v y6), (.v y6), (.v y6)], [(0, (.row 45 y48))]⟩, [y6, y6, y6, y6, y60], 1, [0]⟩
def x109_0 : List XSh := [⟨(.exit 0), [], ⟨⟨[], [(0, (.row 45 y48))]⟩, [y60], [0], 1⟩⟩]
noncomputable def s109_0 (T : List FEnt) : Y99 := dstep (xs := x109_0) h109_0 (dxc T b109_0)
noncomputable def l109_0 (T : List FEnt) : Y81 := whileF (s109_0 T)
noncomputable def q109_0 (a0 : Int) (a1 : Int) (a2 : Int) (a3 : Int) (a4 : List Y3) : Option Y92 :=
cond (decide (a3 < a2)) (
chk (fits .i64 (a0 + a3)) (
chk (fits .i64 (a1 + a3)) (
chk (fits .i64 (a1 + a3)) (
chk (inR (a1 + a3) (List.length a4)) (
chk (fits .i64 (a0 + a3)) (
chk (inR (a0 + a3) (List.length a4)) (
chk (inR (a0 + a3) (List.length a4)) (
chk (inR (a1 + a3) (List.length (List.set a4 (Int.toNat (a0 + a3)) (ix a4 (a1 + a3))))) (
chk (fits .i64 (a3 + (1 : Int))) (
some (Sum.inl (a0, a1, a2, (a3 + (1 : Int)), (List.set (List.set a4 (Int.toNat (a0 + a3)) (ix a4 (a1 + a3))) (Int.toNat (a1 + a3)) (ix a4 (a0 + a3))))))))))))))) (
some (Sum.inr a4))
theorem g109_0 (a0 : Int) (a1 : Int) (a2 : Int) (a3 : Int) (a4 : List Y3) : s109_0 T109 (a0, a1, a2, a3, a4) = q109_0 a0 a1 a2 a3 a4 := by kernel_rfl
noncomputable def p109_0 (a0 : Int) (a1 : Int) (a2 : Int) (a3 : Int) (a4 : List Y3) : Option Y92 := q109_0 a0 a1 a2 a3 a4
noncomputable def L109_0 : Y81 := whileF (fun x => p109_0 x.1 x.2.1 x.2.2.1 x.2.2.2.1 x.2.2.2.2)
theorem v109_0 : l109_0 T109 = L109_0 := congrArg whileF (funext fun x => (g109_0 x.1 x.2.1 x.2.2.1 x.2.2.2.1 x.2.2.2.2).trans (show q109_0 x.1 x.2.1 x.2.2.1 x.2.2.2.1 x.2.2.2.2 = q109_0 x.1 x.2.1 x.2.2.1 x.2.2.2.1 x.2.2.2.2 from rfl))
def c109 : DCode := (.seq (.reg [o 10 (.mov (.c (.int .i64 0)))]) (.blk 0 (.loop h109_0 x109_0 b109_0)))
theorem ok109 : L.Fn Try.prog 109 38 [] (erase c109) := L.Fn.of hmix Try.func109 [] (by kernel_rfl)
def sh109 : FSh := ⟨⟨[(.slc 0), (.v y6), (.v y6), (.v y6), (.fn 79 [])], [(0, (.row 45 y48))]⟩, [y6, y6, y6, y60], 1, ⟨⟨[(.tup [])], [(0, (.row 45 y48))]⟩, [y60], [0], 1⟩, false⟩
noncomputable def q109 (l109_0 : Y81) (a0 : Int) (a1 : Int) (a2 : Int) (a3 : List Y3) : Option Y8 :=
(l109_0 (a0, a1, a2, (0 : Int), a3)).bind fun (y1 : List Y3) => (
some y1)
theorem g109 (a0 : Int) (a1 : Int) (a2 : Int) (a3 : List Y3) : dxf T109 sh109 [] c109 (a0, a1, a2, a3) = q109 (l109_0 T109) a0 a1 a2 a3 := by kernel_rfl
noncomputable def p109 (a0 : Int) (a1 : Int) (a2 : Int) (a3 : List Y3) : Option Y8 := q109 L109_0 a0 a1 a2 a3
noncomputable def P109 : Y78 := fun x => p109 x.1 x.2.1 x.2.2.1 x.2.2.2
theorem v109 : dxf T109 sh109 [] c109 = P109 := funext fun x => (g109 x.1 x.2.1 x.2.2.1 x.2.2.2).trans (show q109 (l109_0 T109) x.1 x.2.1 x.2.2.1 x.2.2.2 = q109 L109_0 x.1 x.2.1 x.2.2.1 x.2.2.2 from by rw [v109_0])
theorem d109 : DC Try.prog 109 sh109 P109 := DC_eq v109 (dxf_sound (sh := sh109) t109 ok109 (by kernel_rfl))
noncomputable def T103 (F109 : Y78) : List FEnt := [⟨109, sh109, F109⟩]
theorem t103 : DTblOK Try.prog (T103 P109) := (DTbl_cons' (f := 109) (sh := sh109) (F := P109) d109 (by kernel_rfl) DTbl_nil)
def b103_0 : DCode := (.seq (.seq (.reg [o 18 (.mov (.t 10)),
  o 19 (.mov (.t 11)),
  o 20 (.bin true .neq (.t 18) (.t 19))]) (.cond (.t 20) .skip (.exit 0))) (.blk 1 (.seq (.reg [o 21 (.mov (.t 10)),
  o 22 (.mov (.t 11)),
  o 23 (.bin true .gtr (.t 21) (.t 22))]) (.cond (.t 23) (.seq (.reg [o 24 (.mov (.t 0)),
  o 25 (.mov (.t 2)),
  o 26 (.mov (.t 10)),
  o 27 (.bin true .sub (.t 25) (.t 26)),
  o 28 (.mov (.t 2)),
  o 29 (.mov (.t 11)),
  o 30 (.mov (.t 4)),
  o 31 (.xcall 109 [(.t 24), (.t 27), (.t 28), (.t 29), (.t 30)])]) (.reg [o 32 (.mov (.t 10)),
  o 33 (.mov (.t 11)),
  o 34 (.bin true .sub (.t 32) (.t 33)),
  o 10 (.mov (.t 34))])) (.seq (.reg [o 35 (.mov (.t 0)),
  o 36 (.mov (.t 2)),
  o 37 (.mov (.t 10)),
  o 38 (.bin true .sub (.t 36) (.t 37)),
  o 39 (.mov (.t 2)),
  o 40 (.mov (.t 11)),
  o 41 (.bin true .add (.t 39) (.t 40)),
  o 42 (.mov (.t 10)),
  o 43 (.bin true .sub (.t 41) (.t 42)),
  o 44 (.mov (.t 10)),
  o 45 (.mov (.t 4)),
  o 46 (.xcall 109 [(.t 35), (.t 38), (.t 43), (.t 44), (.t 45)])]) (.reg [o 47 (.mov (.t 11)),
  o 48 (.mov (.t 10)),
  o 49 (.bin true .sub (.t 47) (.t 48)),
  o 11 (.mov (.t 49))]))))))
def h103_0 : LSh := ⟨[0, 2, 4, 10, 11], ⟨[(.slc 0), (.v y6), (.fn 79 []), (.v y6), (.v y6)], [(0, (.row 45 y48))]⟩, [y6, y6, y6, y60], 1, [0]⟩
def x103_0 : List XSh := [⟨(.exit 0), [0, 2, 4, 10], ⟨⟨[(.slc 0), (.v y6), (.fn 79 []), (.v y6)], [(0, (.row 45 y48))]⟩, [y6, y6, y60], [0], 1⟩⟩]
noncomputable def s103_0 (T : List FEnt) : Y100 := dstep (xs := x103_0) h103_0 (dxc T b103_0)
noncomputable def l103_0 (T : List FEnt) : Y89 := whileF (s103_0 T)
noncomputable def q103_0 (F109 : Y78) (a0 : Int) (a1 : Int) (a2 : Int) (a3 : List Y3) : Option Y93 :=
cond (!decide (a1 = a2)) (
cond (decide (a2 < a1)) (
chk (fits .i64 (a0 - a1)) (
(F109 ((a0 - a1), a0, a2, a3)).bind fun (r1 : List Y3) => (
chk (fits .i64 (a1 - a2)) (
some (Sum.inl (a0, (a1 - a2), a2, r1)))))) (
chk (fits .i64 (a0 - a1)) (
chk (fits .i64 (a0 + a2)) (
chk (fits .i64 ((a0 + a2) - a1)) (
(F109 ((a0 - a1), ((a0 + a2) - a1), a1, a3)).bind fun (r2 : List Y3) => (
chk (fits .i64 (a2 - a1)) (
some (Sum.inl (a0, a1, (a2 - a1), r2))))))))) (
some (Sum.inr (a0, a1, a3)))
theorem g103_0 (F109 : Y78) (a0 : Int) (a1 : Int) (a2 : Int) (a3 : List Y3) : s103_0 (T103 F109) (a0, a1, a2, a3) = q103_0 F109 a0 a1 a2 a3 := by kernel_rfl
noncomputable def p103_0 (a0 : Int) (a1 : Int) (a2 : Int) (a3 : List Y3) : Option Y93 := q103_0 P109 a0 a1 a2 a3
noncomputable def L103_0 : Y89 := whileF (fun x => p103_0 x.1 x.2.1 x.2.2.1 x.2.2.2)
theorem v103_0 : l103_0 (T103 P109) = L103_0 := congrArg whileF (funext fun x => (g103_0 P109 x.1 x.2.1 x.2.2.1 x.2.2.2).trans (show q103_0 P109 x.1 x.2.1 x.2.2.1 x.2.2.2 = q103_0 P109 x.1 x.2.1 x.2.2.1 x.2.2.2 from rfl))
def c103 : DCode := (.seq (.reg [o 12 (.mov (.t 2)),
  o 13 (.mov (.t 1)),
  o 14 (.bin true .sub (.t 12) (.t 13)),
  o 10 (.mov (.t 14))]) (.seq (.reg [o 15 (.mov (.t 3)),
  o 16 (.mov (.t 2)),
  o 17 (.bin true .sub (.t 15) (.t 16)),
  o 11 (.mov (.t 17))]) (.seq (.blk 0 (.loop h103_0 x103_0 b103_0)) (.reg [o 50 (.mov (.t 0)),
  o 51 (.mov (.t 2)),
  o 52 (.mov (.t 10)),
  o 53 (.bin true .sub (.t 51) (.t 52)),
  o 54 (.mov (.t 2)),
  o 55 (.mov (.t 10)),
  o 56 (.mov (.t 4)),
  o 57 (.xcall 109 [(.t 50), (.t 53), (.t 54), (.t 55), (.t 56)])]))))
theorem ok103 : L.Fn Try.prog 103 58 [] (erase c103) := L.Fn.of hmix Try.func103 [] (by kernel_rfl)
def sh103 : FSh := ⟨⟨[(.slc 0), (.v y6), (.v y6), (.v y6), (.fn 79 [])], [(0, (.row 45 y48))]⟩, [y6, y6, y6, y60], 1, ⟨⟨[(.tup [])], [(0, (.row 45 y48))]⟩, [y60], [0], 1⟩, false⟩
noncomputable def q103 (F109 : Y78) (l103_0 : Y89) (a0 : Int) (a1 : Int) (a2 : Int) (a3 : List Y3) : Option Y8 :=
chk (fits .i64 (a1 - a0)) (
chk (fits .i64 (a2 - a1)) (
(l103_0 (a1, (a1 - a0), (a2 - a1), a3)).bind fun (y3 : Y82) => (
chk (fits .i64 (y3.1 - y3.2.1)) (
(F109 ((y3.1 - y3.2.1), y3.1, y3.2.1, y3.2.2)).bind fun (r4 : List Y3) => (
some r4)))))
theorem g103 (F109 : Y78) (a0 : Int) (a1 : Int) (a2 : Int) (a3 : List Y3) : dxf (T103 F109) sh103 [] c103 (a0, a1, a2, a3) = q103 F109 (l103_0 (T103 F109)) a0 a1 a2 a3 := by kernel_rfl
noncomputable def p103 (a0 : Int) (a1 : Int) (a2 : Int) (a3 : List Y3) : Option Y8 := q103 P109 L103_0 a0 a1 a2 a3
noncomputable def P103 : Y78 := fun x => p103 x.1 x.2.1 x.2.2.1 x.2.2.2
theorem v103 : dxf (T103 P109) sh103 [] c103 = P103 := funext fun x => (g103 P109 x.1 x.2.1 x.2.2.1 x.2.2.2).trans (show q103 P109 (l103_0 (T103 P109)) x.1 x.2.1 x.2.2.1 x.2.2.2 = q103 P109 L103_0 x.1 x.2.1 x.2.2.1 x.2.2.2 from by rw [v103_0])
theorem d103 : DC Try.prog 103 sh103 P103 := DC_eq v103 (dxf_sound (sh := sh103) t103 ok103 (by kernel_rfl))
end Go.Proofs.Ytfknkinmnecoeaa.D
