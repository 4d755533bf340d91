/- Cut down from a longer text. -/
import Derived.Test.YtdacabdocbhkdaaGreatG12m
import Derived.Test.YtdacabdocbhkdaaGreatProg
set_option linter.unusedVariables false
set_option maxRecDepth 100000
namespace Go.Proofs.YtdacabdocbhkdaaGreat.D
open Go Go.Proofs L
noncomputable def T132:List FEnt:=[]
theorem t132:DTblOK Tryz.prog T132:=DTbl_nil
def h132_0:LSh:=⟨[0,6,7],⟨[(.slc 0),(.v y13),(.v y13)],[(0,(.row 3 y13))]⟩,[y13,y13,y25],1,[0]⟩
noncomputable def c132:=anF Tryz.prog [] Tryz.f132 (.s .n (.s .n (.b (.l h132_0 x128_0 .n))))
noncomputable def s132_0 (T:List FEnt):=dstep (xs:=x128_0) h132_0 (dxc T (sb [1,1,2,2] c132))
noncomputable def l132_0 (T:List FEnt):=whileF (s132_0 T)
noncomputable def q132_0 (a0 a1:Int)(a2:List Int):Option Y622:=
cond (decide (a0 < a1)) (
chk (inR a1 a2.length) (
chk (inR a0 a2.length) (
chk (inR a0 a2.length) (
chk (inR a1 (List.length (List.set a2 a0.toNat (ix a2 a1)))) (
chk (fits .i64 (a0+1)) (
chk (fits .i64 (a1-1)) (
some (Sum.inl ((a0+1),(a1-1),(List.set (List.set a2 a0.toNat (ix a2 a1)) a1.toNat (ix a2 a0))))))))))) (
some (Sum.inr a2))
theorem g132_0 (a0 a1:Int)(a2:List Int):s132_0 T132 (a0,a1,a2)=q132_0 a0 a1 a2:=by kernel_rfl
noncomputable def p132_0:=q132_0
noncomputable def L132_0:Y560:=whileF (fun x=>p132_0 x.1 x.2.1 x.2.2)
theorem v132_0:l132_0 T132=L132_0:=congrArg whileF (funext fun x=>(g132_0 x.1 x.2.1 x.2.2))
theorem ok132:L.Fn Tryz.prog 132 32 [] (erase c132):=Fn.ofA hmix Tryz.func132 _ _ (by kernel_rfl)
def sh132:FSh:=⟨⟨[(.slc 0),(.v y13),(.v y13)],[(0,(.row 3 y13))]⟩,[y13,y13,y25],1,⟨⟨[(.tup [])],[(0,(.row 3 y13))]⟩,[y25],[0],1⟩,false⟩
noncomputable def q132 (l132_0:Y560)(a0 a1:Int)(a2:List Int):Option Y2:=
chk (fits .i64 (a1-1)) (
(l132_0 (a0,(a1-1),a2)).bind fun y1=>(
some y1))
theorem g132 (a0 a1:Int)(a2:List Int):dxf T132 sh132 [] c132 (a0,a1,a2)=q132 (l132_0 T132) a0 a1 a2:=by kernel_rfl
noncomputable def p132:=q132 L132_0
noncomputable def P132:Y560:=fun x=>p132 x.1 x.2.1 x.2.2
theorem v132:dxf T132 sh132 [] c132=P132:=funext fun x=>(g132 x.1 x.2.1 x.2.2).trans (by rw[v132_0] <;> rfl)
theorem d132:DC Tryz.prog 132 sh132 P132:=DC_eq v132 (dxf_sound t132 ok132 (by kernel_rfl))
noncomputable def T133 (F134:Y557):List FEnt:=[⟨134,sh134,F134⟩]
theorem t133:DTblOK Tryz.prog (T133 P134):=(DTbl_cons' d134 (by kernel_rfl) DTbl_nil)
def h133_1:LSh:=⟨[0,1,2,7,8],⟨[(.slc 0),(.v y13),(.v y13),(.v y13),(.v y13)],[(0,(.row 3 y13))]⟩,[y13,y13,y13,y13,y25],1,[0]⟩
def x133_1:List XSh:=[⟨(.exit 2),[0,1,2,7,8],⟨⟨[(.slc 0),(.v y13),(.v y13),(.v y13),(.v y13)],[(0,(.row 3 y13))]⟩,[y13,y13,y13,y13,y25],[0],1⟩⟩]
def h133_3:LSh:=⟨[0,1,2,7,8,9],⟨[(.slc 0),(.v y13),(.v y13),(.v y13),(.v y13),(.v y13)],[(0,(.row 3 y13))]⟩,[y13,y13,y13,y13,y13,y25],1,[0]⟩
def x133_3:List XSh:=[⟨(.exit 4),[0,1,2,7,8],⟨⟨[(.slc 0),(.v y13),(.v y13),(.v y13),(.v y13)],[(0,(.row 3 y13))]⟩,[y13,y13,y13,y13,y25],[0],1⟩⟩]
def x133_2:List XSh:=[⟨.normal,[0,1,2,7,8],⟨⟨[(.slc 0),(.v y13),(.v y13),(.v y13),(.v y13)],[(0,(.row 3 y13))]⟩,[y13,y13,y13,y13,y25],[0],1⟩⟩]
def h133_4:LSh:=⟨[0,1,2,7,8,10],⟨[(.slc 0),(.v y13),(.v y13),(.v y13),(.v y13),(.v y13)],[(0,(.row 3 y13))]⟩,[y13,y13,y13,y13,y13,y25],1,[0]⟩
def x133_4:List XSh:=[⟨(.exit 6),[0,1,2,7,8],⟨⟨[(.slc 0),(.v y13),(.v y13),(.v y13),(.v y13)],[(0,(.row 3 y13))]⟩,[y13,y13,y13,y13,y25],[0],1⟩⟩]
def x133_0:List XSh:=[⟨.ret,[6],⟨⟨[(.v .bool)],[(0,(.row 3 y13))]⟩,[.bool,y25],[0],1⟩⟩,⟨(.exit 0),[],⟨⟨[],[(0,(.row 3 y13))]⟩,[y25],[0],1⟩⟩]
noncomputable def c133:=anF Tryz.prog [] Tryz.f133 (.s .n (.s .n (.s (.s .n (.b (.l h133_1 x133_0 (.s .n (.s (.b (.s (.b (.l h133_1 x133_1 .n)) (.s .n (.s .n (.s .n (.s (.o h133_1 x133_2 (.s .n (.s (.s .n (.b (.l h133_3 x133_3 .n))) .n))) (.s .n (.s (.s .n (.b (.l h133_4 x133_4 .n))) .n)))))))) .n))))) .n)))
noncomputable def s133_1 (T:List FEnt):=dstep (xs:=x133_1) h133_1 (dxc T (sb [1,1,0,1,2,2,1,0,2,0,2,2] c133))
noncomputable def l133_1 (T:List FEnt):=whileF (s133_1 T)
noncomputable def q133_1 (F134:Y557)(a0 a1 a2 a3:Int)(a4:List Int):Option Y623:=
cond (decide (a2 < a1)) (
chk (inR a2 a4.length) (
chk (fits .i64 (a2-1)) (
chk (inR (a2-1) a4.length) (
(F134 ((ix a4 a2),(ix a4 (a2-1)))).bind fun r1=>(
cond (!r1) (
chk (fits .i64 (a2+1)) (
some (Sum.inl (a0,a1,(a2+1),a3,a4)))) (
some (Sum.inr (a0,a1,a2,a3,a4)))))))) (
some (Sum.inr (a0,a1,a2,a3,a4)))
theorem g133_1 (F134:Y557)(a0 a1 a2 a3:Int)(a4:List Int):s133_1 (T133 F134) (a0,a1,a2,a3,a4)=q133_1 F134 a0 a1 a2 a3 a4:=by kernel_rfl
noncomputable def p133_1:=q133_1 P134
noncomputable def L133_1:Y613:=whileF (fun x=>p133_1 x.1 x.2.1 x.2.2.1 x.2.2.2.1 x.2.2.2.2)
theorem v133_1:l133_1 (T133 P134) =L133_1:=congrArg whileF (funext fun x=>(g133_1 P134 x.1 x.2.1 x.2.2.1 x.2.2.2.1 x.2.2.2.2))
noncomputable def s133_3 (T:List FEnt):=dstep (xs:=x133_3) h133_3 (dxc T (sb [1,1,0,1,2,2,1,0,2,1,1,1,1,0,2,1,0,1,2,2] c133))
noncomputable def l133_3 (T:List FEnt):=whileF (s133_3 T)
noncomputable def q133_3 (F134:Y557)(a0 a1 a2 a3 a4:Int)(a5:List Int):Option Y624:=
cond (decide (1≤a4)) (
chk (inR a4 a5.length) (
chk (fits .i64 (a4-1)) (
chk (inR (a4-1) a5.length) (
(F134 ((ix a5 a4),(ix a5 (a4-1)))).bind fun r3=>(
cond (!r3) (
some (Sum.inr (a0,a1,a2,a3,a5))) (
chk (fits .i64 (a4-1)) (
chk (fits .i64 (a4-1)) (
chk (inR (a4-1) a5.length) (
chk (inR a4 a5.length) (
chk (inR a4 a5.length) (
chk (inR (a4-1) (List.length (List.set a5 a4.toNat (ix a5 (a4-1))))) (
chk (fits .i64 (a4-1)) (
some (Sum.inl (a0,a1,a2,a3,(a4-1),(List.set (List.set a5 a4.toNat (ix a5 (a4-1))) (Int.toNat (a4-1)) (ix a5 a4))))))))))))))))) (
some (Sum.inr (a0,a1,a2,a3,a5)))
theorem g133_3 (F134:Y557)(a0 a1 a2 a3 a4:Int)(a5:List Int):s133_3 (T133 F134) (a0,a1,a2,a3,a4,a5)=q133_3 F134 a0 a1 a2 a3 a4 a5:=by kernel_rfl
noncomputable def p133_3:=q133_3 P134
noncomputable def L133_3:Y614:=whileF (fun x=>p133_3 x.1 x.2.1 x.2.2.1 x.2.2.2.1 x.2.2.2.2.1 x.2.2.2.2.2)
theorem v133_3:l133_3 (T133 P134) =L133_3:=congrArg whileF (funext fun x=>(g133_3 P134 x.1 x.2.1 x.2.2.1 x.2.2.2.1 x.2.2.2.2.1 x.2.2.2.2.2))
noncomputable def l133_2 (T:List FEnt):=onceF (xs:=x133_2) h133_1 (dxc T (sb [1,1,0,1,2,2,1,0,2,1,1,1,1,0,2] c133))
noncomputable def q133_2 (F134:Y557)(l133_3:Y614)(a0 a1 a2 a3:Int)(a4:List Int):Option Y563:=
chk (fits .i64 (a2-a0)) (
cond (decide (2≤(a2-a0))) (
chk (fits .i64 (a2-1)) (
(l133_3 (a0,a1,a2,a3,(a2-1),a4)).bind fun y4=>(
some (y4.1,y4.2.1,y4.2.2.1,y4.2.2.2.1,y4.2.2.2.2)))) (
some (a0,a1,a2,a3,a4)))
theorem g133_2 (F134:Y557)(a0 a1 a2 a3:Int)(a4:List Int):l133_2 (T133 F134) (a0,a1,a2,a3,a4)=q133_2 F134 (l133_3 (T133 F134)) a0 a1 a2 a3 a4:=by kernel_rfl
noncomputable def p133_2:=q133_2 P134 L133_3
noncomputable def L133_2:Y613:=fun x=>p133_2 x.1 x.2.1 x.2.2.1 x.2.2.2.1 x.2.2.2.2
theorem v133_2:l133_2 (T133 P134) =L133_2:=funext fun x=>(g133_2 P134 x.1 x.2.1 x.2.2.1 x.2.2.2.1 x.2.2.2.2).trans (by rw[v133_3] <;> rfl)
noncomputable def s133_4 (T:List FEnt):=dstep (xs:=x133_4) h133_4 (dxc T (sb [1,1,0,1,2,2,1,0,2,1,1,1,1,1,1,0,1,2,2] c133))
noncomputable def l133_4 (T:List FEnt):=whileF (s133_4 T)
noncomputable def q133_4 (F134:Y557)(a0 a1 a2 a3 a4:Int)(a5:List Int):Option Y624:=
cond (decide (a4 < a1)) (
chk (inR a4 a5.length) (
chk (fits .i64 (a4-1)) (
chk (inR (a4-1) a5.length) (
(F134 ((ix a5 a4),(ix a5 (a4-1)))).bind fun r6=>(
cond (!r6) (
some (Sum.inr (a0,a1,a2,a3,a5))) (
chk (fits .i64 (a4-1)) (
chk (fits .i64 (a4-1)) (
chk (inR (a4-1) a5.length) (
chk (inR a4 a5.length) (
chk (inR a4 a5.length) (
chk (inR (a4-1) (List.length (List.set a5 a4.toNat (ix a5 (a4-1))))) (
chk (fits .i64 (a4+1)) (
some (Sum.inl (a0,a1,a2,a3,(a4+1),(List.set (List.set a5 a4.toNat (ix a5 (a4-1))) (Int.toNat (a4-1)) (ix a5 a4))))))))))))))))) (
some (Sum.inr (a0,a1,a2,a3,a5)))
theorem g133_4 (F134:Y557)(a0 a1 a2 a3 a4:Int)(a5:List Int):s133_4 (T133 F134) (a0,a1,a2,a3,a4,a5)=q133_4 F134 a0 a1 a2 a3 a4 a5:=by kernel_rfl
noncomputable def p133_4:=q133_4 P134
noncomputable def L133_4:Y614:=whileF (fun x=>p133_4 x.1 x.2.1 x.2.2.1 x.2.2.2.1 x.2.2.2.2.1 x.2.2.2.2.2)
theorem v133_4:l133_4 (T133 P134) =L133_4:=congrArg whileF (funext fun x=>(g133_4 P134 x.1 x.2.1 x.2.2.1 x.2.2.2.1 x.2.2.2.2.1 x.2.2.2.2.2))
noncomputable def s133_0 (T:List FEnt):=dstep (xs:=x133_0) h133_1 (dxc T (sb [1,1,0,1,2,2] c133))
noncomputable def l133_0 (T:List FEnt):=whileF (s133_0 T)
noncomputable def q133_0 (F134:Y557)(l133_1 l133_2:Y613)(l133_4:Y614)(a0 a1 a2 a3:Int)(a4:List Int):Option Y640:=
cond (decide (a3 < 5)) (
(l133_1 (a0,a1,a2,a3,a4)).bind fun y2=>(
cond (decide (y2.2.2.1=y2.2.1)) (
some (Sum.inr (Sum.inl (true,y2.2.2.2.2)))) (
chk (fits .i64 (y2.2.1-y2.1)) (
cond (decide ((y2.2.1-y2.1) < 50)) (
some (Sum.inr (Sum.inl (false,y2.2.2.2.2)))) (
chk (fits .i64 (y2.2.2.1-1)) (
chk (fits .i64 (y2.2.2.1-1)) (
chk (inR (y2.2.2.1-1) y2.2.2.2.2.length) (
chk (inR y2.2.2.1 y2.2.2.2.2.length) (
chk (inR y2.2.2.1 y2.2.2.2.2.length) (
chk (inR (y2.2.2.1-1) (List.length (List.set y2.2.2.2.2 y2.2.2.1.toNat (ix y2.2.2.2.2 (y2.2.2.1-1))))) (
(l133_2 (y2.1,y2.2.1,y2.2.2.1,y2.2.2.2.1,(List.set (List.set y2.2.2.2.2 y2.2.2.1.toNat (ix y2.2.2.2.2 (y2.2.2.1-1))) (Int.toNat (y2.2.2.1-1)) (ix y2.2.2.2.2 y2.2.2.1)))).bind fun y5=>(
chk (fits .i64 (y5.2.1-y5.2.2.1)) (
cond (decide (2≤(y5.2.1-y5.2.2.1))) (
chk (fits .i64 (y5.2.2.1+1)) (
(l133_4 (y5.1,y5.2.1,y5.2.2.1,y5.2.2.2.1,(y5.2.2.1+1),y5.2.2.2.2)).bind fun y7=>(
chk (fits .i64 (y7.2.2.2.1+1)) (
some (Sum.inl (y7.1,y7.2.1,y7.2.2.1,(y7.2.2.2.1+1),y7.2.2.2.2)))))) (
chk (fits .i64 (y5.2.2.2.1+1)) (
some (Sum.inl (y5.1,y5.2.1,y5.2.2.1,(y5.2.2.2.1+1),y5.2.2.2.2))))))))))))))))) (
some (Sum.inr (Sum.inr a4)))
theorem g133_0 (F134:Y557)(a0 a1 a2 a3:Int)(a4:List Int):s133_0 (T133 F134) (a0,a1,a2,a3,a4)=q133_0 F134 (l133_1 (T133 F134)) (l133_2 (T133 F134)) (l133_4 (T133 F134)) a0 a1 a2 a3 a4:=by kernel_rfl
noncomputable def p133_0:=q133_0 P134 L133_1 L133_2 L133_4
noncomputable def L133_0:Y634:=whileF (fun x=>p133_0 x.1 x.2.1 x.2.2.1 x.2.2.2.1 x.2.2.2.2)
theorem v133_0:l133_0 (T133 P134) =L133_0:=congrArg whileF (funext fun x=>(g133_0 P134 x.1 x.2.1 x.2.2.1 x.2.2.2.1 x.2.2.2.2).trans (by rw[v133_1,v133_2,v133_4] <;> rfl))
theorem ok133:L.Fn Tryz.prog 133 133 [(.t 6)] (erase c133):=Fn.ofA hmix Tryz.func133 _ _ (by kernel_rfl)
def sh133:FSh:=⟨⟨[(.slc 0),(.v y13),(.v y13)],[(0,(.row 3 y13))]⟩,[y13,y13,y25],1,⟨⟨[(.v .bool)],[(0,(.row 3 y13))]⟩,[.bool,y25],[0],1⟩,false⟩
noncomputable def q133 (F134:Y557)(l133_0:Y634)(a0 a1:Int)(a2:List Int):Option Y611:=
chk (fits .i64 (a0+1)) (
(l133_0 (a0,a1,(a0+1),0,a2)).bind (fun y8=>Sum.elim (fun y9=>(
some (y9.1,y9.2))) (fun y10=>(
some (false,y10))) y8))
theorem g133 (F134:Y557)(a0 a1:Int)(a2:List Int):dxf (T133 F134) sh133 [(.t 6)] c133 (a0,a1,a2)=q133 F134 (l133_0 (T133 F134)) a0 a1 a2:=by kernel_rfl
noncomputable def p133:=q133 P134 L133_0
noncomputable def P133:Y615:=fun x=>p133 x.1 x.2.1 x.2.2
theorem v133:dxf (T133 P134) sh133 [(.t 6)] c133=P133:=funext fun x=>(g133 P134 x.1 x.2.1 x.2.2).trans (by rw[v133_0] <;> rfl)
theorem d133:DC Tryz.prog 133 sh133 P133:=DC_eq v133 (dxf_sound t133 ok133 (by kernel_rfl))
noncomputable def T135 (F134:Y557):List FEnt:=[⟨134,sh134,F134⟩]
theorem t135:DTblOK Tryz.prog (T135 P134):=(DTbl_cons' d134 (by kernel_rfl) DTbl_nil)
def h135_1:LSh:=⟨[0,1,9,10],⟨[(.slc 0),(.v y13),(.v y13),(.v y13)],[(0,(.row 3 y13))]⟩,[y13,y13,y13,y25],1,[0]⟩
def x135_1:List XSh:=[⟨(.exit 2),[0,1,9,10],⟨⟨[(.slc 0),(.v y13),(.v y13),(.v y13)],[(0,(.row 3 y13))]⟩,[y13,y13,y13,y25],[0],1⟩⟩]
def x135_2:List XSh:=[⟨(.exit 4),[0,1,9,10],⟨⟨[(.slc 0),(.v y13),(.v y13),(.v y13)],[(0,(.row 3 y13))]⟩,[y13,y13,y13,y25],[0],1⟩⟩]
def x135_0:List XSh:=[⟨(.exit 0),[9],⟨⟨[(.v y13)],[(0,(.row 3 y13))]⟩,[y13,y25],[0],1⟩⟩]
noncomputable def c135:=anF Tryz.prog [] Tryz.f135 (.s .n (.s .n (.s .n (.s (.b (.l h135_1 x135_0 (.b (.s (.b (.l h135_1 x135_1 .n)) (.s (.b (.l h135_1 x135_2 .n)) .n))))) .n))))
noncomputable def s135_1 (T:List FEnt):=dstep (xs:=x135_1) h135_1 (dxc T (sb [1,1,1,0,2,2,2,0,2,2] c135))
noncomputable def l135_1 (T:List FEnt):=whileF (s135_1 T)
noncomputable def q135_1 (F134:Y557)(a0 a1 a2:Int)(a3:List Int):Option Y626:=
cond (decide (a1≤a2)) (
chk (inR a0 a3.length) (
chk (inR a1 a3.length) (
(F134 ((ix a3 a0),(ix a3 a1))).bind fun r1=>(
cond (!r1) (
chk (fits .i64 (a1+1)) (
some (Sum.inl (a0,(a1+1),a2,a3)))) (
some (Sum.inr (a0,a1,a2,a3))))))) (
some (Sum.inr (a0,a1,a2,a3)))
theorem g135_1 (F134:Y557)(a0 a1 a2:Int)(a3:List Int):s135_1 (T135 F134) (a0,a1,a2,a3)=q135_1 F134 a0 a1 a2 a3:=by kernel_rfl
noncomputable def p135_1:=q135_1 P134
noncomputable def L135_1:Y616:=whileF (fun x=>p135_1 x.1 x.2.1 x.2.2.1 x.2.2.2)
theorem v135_1:l135_1 (T135 P134) =L135_1:=congrArg whileF (funext fun x=>(g135_1 P134 x.1 x.2.1 x.2.2.1 x.2.2.2))
noncomputable def s135_2 (T:List FEnt):=dstep (xs:=x135_2) h135_1 (dxc T (sb [1,1,1,0,2,2,2,1,0,2,2] c135))
noncomputable def l135_2 (T:List FEnt):=whileF (s135_2 T)
noncomputable def q135_2 (F134:Y557)(a0 a1 a2:Int)(a3:List Int):Option Y626:=
cond (decide (a1≤a2)) (
chk (inR a0 a3.length) (
chk (inR a2 a3.length) (
(F134 ((ix a3 a0),(ix a3 a2))).bind fun r3=>(
cond r3 (
chk (fits .i64 (a2-1)) (
some (Sum.inl (a0,a1,(a2-1),a3)))) (
some (Sum.inr (a0,a1,a2,a3))))))) (
some (Sum.inr (a0,a1,a2,a3)))
theorem g135_2 (F134:Y557)(a0 a1 a2:Int)(a3:List Int):s135_2 (T135 F134) (a0,a1,a2,a3)=q135_2 F134 a0 a1 a2 a3:=by kernel_rfl
noncomputable def p135_2:=q135_2 P134
noncomputable def L135_2:Y616:=whileF (fun x=>p135_2 x.1 x.2.1 x.2.2.1 x.2.2.2)
theorem v135_2:l135_2 (T135 P134) =L135_2:=congrArg whileF (funext fun x=>(g135_2 P134 x.1 x.2.1 x.2.2.1 x.2.2.2))
noncomputable def s135_0 (T:List FEnt):=dstep (xs:=x135_0) h135_1 (dxc T (sb [1,1,1,0,2,2] c135))
noncomputable def l135_0 (T:List FEnt):=whileF (s135_0 T)
noncomputable def q135_0 (F134:Y557)(l135_1 l135_2:Y616)(a0 a1 a2:Int)(a3:List Int):Option Y627:=
(l135_1 (a0,a1,a2,a3)).bind fun y2=>(
(l135_2 (y2.1,y2.2.1,y2.2.2.1,y2.2.2.2)).bind fun y4=>(
cond (decide (y4.2.2.1 < y4.2.1)) (
some (Sum.inr (y4.2.1,y4.2.2.2))) (
chk (inR y4.2.2.1 y4.2.2.2.length) (
chk (inR y4.2.1 y4.2.2.2.length) (
chk (inR y4.2.1 y4.2.2.2.length) (
chk (inR y4.2.2.1 (List.length (List.set y4.2.2.2 y4.2.1.toNat (ix y4.2.2.2 y4.2.2.1)))) (
chk (fits .i64 (y4.2.1+1)) (
chk (fits .i64 (y4.2.2.1-1)) (
some (Sum.inl (y4.1,(y4.2.1+1),(y4.2.2.1-1),(List.set (List.set y4.2.2.2 y4.2.1.toNat (ix y4.2.2.2 y4.2.2.1)) y4.2.2.1.toNat (ix y4.2.2.2 y4.2.1)))))))))))))
theorem g135_0 (F134:Y557)(a0 a1 a2:Int)(a3:List Int):s135_0 (T135 F134) (a0,a1,a2,a3)=q135_0 F134 (l135_1 (T135 F134)) (l135_2 (T135 F134)) a0 a1 a2 a3:=by kernel_rfl
noncomputable def p135_0:=q135_0 P134 L135_1 L135_2
noncomputable def L135_0:Y617:=whileF (fun x=>p135_0 x.1 x.2.1 x.2.2.1 x.2.2.2)
theorem v135_0:l135_0 (T135 P134) =L135_0:=congrArg whileF (funext fun x=>(g135_0 P134 x.1 x.2.1 x.2.2.1 x.2.2.2).trans (by rw[v135_1,v135_2] <;> rfl))
theorem ok135:L.Fn Tryz.prog 135 84 [(.t 8)] (erase c135):=Fn.ofA hmix Tryz.func135 _ _ (by kernel_rfl)
def sh135:FSh:=⟨⟨[(.slc 0),(.v y13),(.v y13),(.v y13)],[(0,(.row 3 y13))]⟩,[y13,y13,y13,y25],1,⟨⟨[(.v y13)],[(0,(.row 3 y13))]⟩,[y13,y25],[0],1⟩,false⟩
noncomputable def q135 (F134:Y557)(l135_0:Y617)(a0 a1 a2:Int)(a3:List Int):Option Y327:=
chk (inR a2 a3.length) (
chk (inR a0 a3.length) (
chk (inR a0 a3.length) (
chk (inR a2 (List.length (List.set a3 a0.toNat (ix a3 a2)))) (
chk (fits .i64 (a0+1)) (
chk (fits .i64 (a1-1)) (
(l135_0 (a0,(a0+1),(a1-1),(List.set (List.set a3 a0.toNat (ix a3 a2)) a2.toNat (ix a3 a0)))).bind fun y5=>(
some (y5.1,y5.2))))))))
theorem g135 (F134:Y557)(a0 a1 a2:Int)(a3:List Int):dxf (T135 F134) sh135 [(.t 8)] c135 (a0,a1,a2,a3)=q135 F134 (l135_0 (T135 F134)) a0 a1 a2 a3:=by kernel_rfl
noncomputable def p135:=q135 P134 L135_0
noncomputable def P135:Y617:=fun x=>p135 x.1 x.2.1 x.2.2.1 x.2.2.2
theorem v135:dxf (T135 P134) sh135 [(.t 8)] c135=P135:=funext fun x=>(g135 P134 x.1 x.2.1 x.2.2.1 x.2.2.2).trans (by rw[v135_0] <;> rfl)
theorem d135:DC Tryz.prog 135 sh135 P135:=DC_eq v135 (dxf_sound t135 ok135 (by kernel_rfl))
noncomputable def T136 (F134:Y557):List FEnt:=[⟨134,sh134,F134⟩]
theorem t136:DTblOK Tryz.prog (T136 P134):=(DTbl_cons' d134 (by kernel_rfl) DTbl_nil)
def h136_0:LSh:=⟨[0,1,10,11],⟨[(.slc 0),(.v y13),(.v y13),(.v y13)],[(0,(.row 3 y13))]⟩,[y13,y13,y13,y25],1,[0]⟩
def x136_0:List XSh:=[⟨(.exit 0),[0,1,10,11],⟨⟨[(.slc 0),(.v y13),(.v y13),(.v y13)],[(0,(.row 3 y13))]⟩,[y13,y13,y13,y25],[0],1⟩⟩]
def x136_1:List XSh:=[⟨(.exit 2),[0,1,10,11],⟨⟨[(.slc 0),(.v y13),(.v y13),(.v y13)],[(0,(.row 3 y13))]⟩,[y13,y13,y13,y25],[0],1⟩⟩]
def x136_3:List XSh:=[⟨(.exit 6),[0,1,10,11],⟨⟨[(.slc 0),(.v y13),(.v y13),(.v y13)],[(0,(.row 3 y13))]⟩,[y13,y13,y13,y25],[0],1⟩⟩]
def x136_4:List XSh:=[⟨(.exit 8),[0,1,10,11],⟨⟨[(.slc 0),(.v y13),(.v y13),(.v y13)],[(0,(.row 3 y13))]⟩,[y13,y13,y13,y25],[0],1⟩⟩]
def x136_2:List XSh:=[⟨(.exit 4),[0,1,11],⟨⟨[(.slc 0),(.v y13),(.v y13)],[(0,(.row 3 y13))]⟩,[y13,y13,y25],[0],1⟩⟩]
noncomputable def c136:=anF Tryz.prog [] Tryz.f136 (.s .n (.s .n (.s .n (.s (.b (.l h136_0 x136_0 .n)) (.s (.b (.l h136_0 x136_1 .n)) (.s .n (.s .n (.s .n (.s .n (.s (.b (.l h136_0 x136_2 (.b (.s (.b (.l h136_0 x136_3 .n)) (.s (.b (.l h136_0 x136_4 .n)) .n))))) .n))))))))))
noncomputable def s136_0 (T:List FEnt):=dstep (xs:=x136_0) h136_0 (dxc T (sb [1,1,1,0,2,2] c136))
noncomputable def l136_0 (T:List FEnt):=whileF (s136_0 T)
noncomputable def q136_0 (F134:Y557)(a0 a1 a2:Int)(a3:List Int):Option Y626:=
cond (decide (a1≤a2)) (
chk (inR a1 a3.length) (
chk (inR a0 a3.length) (
(F134 ((ix a3 a1),(ix a3 a0))).bind fun r1=>(
cond r1 (
chk (fits .i64 (a1+1)) (
some (Sum.inl (a0,(a1+1),a2,a3)))) (
some (Sum.inr (a0,a1,a2,a3))))))) (
some (Sum.inr (a0,a1,a2,a3)))
theorem g136_0 (F134:Y557)(a0 a1 a2:Int)(a3:List Int):s136_0 (T136 F134) (a0,a1,a2,a3)=q136_0 F134 a0 a1 a2 a3:=by kernel_rfl
noncomputable def p136_0:=q136_0 P134
noncomputable def L136_0:Y616:=whileF (fun x=>p136_0 x.1 x.2.1 x.2.2.1 x.2.2.2)
theorem v136_0:l136_0 (T136 P134) =L136_0:=congrArg whileF (funext fun x=>(g136_0 P134 x.1 x.2.1 x.2.2.1 x.2.2.2))
noncomputable def s136_1 (T:List FEnt):=dstep (xs:=x136_1) h136_0 (dxc T (sb [1,1,1,1,0,2,2] c136))
noncomputable def l136_1 (T:List FEnt):=whileF (s136_1 T)
noncomputable def q136_1 (F134:Y557)(a0 a1 a2:Int)(a3:List Int):Option Y626:=
cond (decide (a1≤a2)) (
chk (inR a2 a3.length) (
chk (inR a0 a3.length) (
(F134 ((ix a3 a2),(ix a3 a0))).bind fun r3=>(
cond (!r3) (
chk (fits .i64 (a2-1)) (
some (Sum.inl (a0,a1,(a2-1),a3)))) (
some (Sum.inr (a0,a1,a2,a3))))))) (
some (Sum.inr (a0,a1,a2,a3)))
theorem g136_1 (F134:Y557)(a0 a1 a2:Int)(a3:List Int):s136_1 (T136 F134) (a0,a1,a2,a3)=q136_1 F134 a0 a1 a2 a3:=by kernel_rfl
noncomputable def p136_1:=q136_1 P134
noncomputable def L136_1:Y616:=whileF (fun x=>p136_1 x.1 x.2.1 x.2.2.1 x.2.2.2)
theorem v136_1:l136_1 (T136 P134) =L136_1:=congrArg whileF (funext fun x=>(g136_1 P134 x.1 x.2.1 x.2.2.1 x.2.2.2))
noncomputable def s136_3 (T:List FEnt):=dstep (xs:=x136_3) h136_0 (dxc T (sb [1,1,1,1,1,1,1,1,1,0,2,2,2,0,2,2] c136))
noncomputable def l136_3 (T:List FEnt):=whileF (s136_3 T)
noncomputable def q136_3 (F134:Y557)(a0 a1 a2:Int)(a3:List Int):Option Y626:=
cond (decide (a1≤a2)) (
chk (inR a1 a3.length) (
chk (inR a0 a3.length) (
(F134 ((ix a3 a1),(ix a3 a0))).bind fun r5=>(
cond r5 (
chk (fits .i64 (a1+1)) (
some (Sum.inl (a0,(a1+1),a2,a3)))) (
some (Sum.inr (a0,a1,a2,a3))))))) (
some (Sum.inr (a0,a1,a2,a3)))
theorem g136_3 (F134:Y557)(a0 a1 a2:Int)(a3:List Int):s136_3 (T136 F134) (a0,a1,a2,a3)=q136_3 F134 a0 a1 a2 a3:=by kernel_rfl
noncomputable def p136_3:=q136_3 P134
noncomputable def L136_3:Y616:=whileF (fun x=>p136_3 x.1 x.2.1 x.2.2.1 x.2.2.2)
theorem v136_3:l136_3 (T136 P134) =L136_3:=congrArg whileF (funext fun x=>(g136_3 P134 x.1 x.2.1 x.2.2.1 x.2.2.2))
noncomputable def s136_4 (T:List FEnt):=dstep (xs:=x136_4) h136_0 (dxc T (sb [1,1,1,1,1,1,1,1,1,0,2,2,2,1,0,2,2] c136))
noncomputable def l136_4 (T:List FEnt):=whileF (s136_4 T)
noncomputable def q136_4 (F134:Y557)(a0 a1 a2:Int)(a3:List Int):Option Y626:=
cond (decide (a1≤a2)) (
chk (inR a2 a3.length) (
chk (inR a0 a3.length) (
(F134 ((ix a3 a2),(ix a3 a0))).bind fun r7=>(
cond (!r7) (
chk (fits .i64 (a2-1)) (
some (Sum.inl (a0,a1,(a2-1),a3)))) (
some (Sum.inr (a0,a1,a2,a3))))))) (
some (Sum.inr (a0,a1,a2,a3)))
theorem g136_4 (F134:Y557)(a0 a1 a2:Int)(a3:List Int):s136_4 (T136 F134) (a0,a1,a2,a3)=q136_4 F134 a0 a1 a2 a3:=by kernel_rfl
noncomputable def p136_4:=q136_4 P134
noncomputable def L136_4:Y616:=whileF (fun x=>p136_4 x.1 x.2.1 x.2.2.1 x.2.2.2)
theorem v136_4:l136_4 (T136 P134) =L136_4:=congrArg whileF (funext fun x=>(g136_4 P134 x.1 x.2.1 x.2.2.1 x.2.2.2))
noncomputable def s136_2 (T:List FEnt):=dstep (xs:=x136_2) h136_0 (dxc T (sb [1,1,1,1,1,1,1,1,1,0,2,2] c136))
noncomputable def l136_2 (T:List FEnt):=whileF (s136_2 T)
noncomputable def q136_2 (F134:Y557)(l136_3 l136_4:Y616)(a0 a1 a2:Int)(a3:List Int):Option Y628:=
(l136_3 (a0,a1,a2,a3)).bind fun y6=>(
(l136_4 (y6.1,y6.2.1,y6.2.2.1,y6.2.2.2)).bind fun y8=>(
cond (decide (y8.2.2.1 < y8.2.1)) (
some (Sum.inr (y8.1,y8.2.2.1,y8.2.2.2))) (
chk (inR y8.2.2.1 y8.2.2.2.length) (
chk (inR y8.2.1 y8.2.2.2.length) (
chk (inR y8.2.1 y8.2.2.2.length) (
chk (inR y8.2.2.1 (List.length (List.set y8.2.2.2 y8.2.1.toNat (ix y8.2.2.2 y8.2.2.1)))) (
chk (fits .i64 (y8.2.1+1)) (
chk (fits .i64 (y8.2.2.1-1)) (
some (Sum.inl (y8.1,(y8.2.1+1),(y8.2.2.1-1),(List.set (List.set y8.2.2.2 y8.2.1.toNat (ix y8.2.2.2 y8.2.2.1)) y8.2.2.1.toNat (ix y8.2.2.2 y8.2.1)))))))))))))
theorem g136_2 (F134:Y557)(a0 a1 a2:Int)(a3:List Int):s136_2 (T136 F134) (a0,a1,a2,a3)=q136_2 F134 (l136_3 (T136 F134)) (l136_4 (T136 F134)) a0 a1 a2 a3:=by kernel_rfl
noncomputable def p136_2:=q136_2 P134 L136_3 L136_4
noncomputable def L136_2:Y618:=whileF (fun x=>p136_2 x.1 x.2.1 x.2.2.1 x.2.2.2)
theorem v136_2:l136_2 (T136 P134) =L136_2:=congrArg whileF (funext fun x=>(g136_2 P134 x.1 x.2.1 x.2.2.1 x.2.2.2).trans (by rw[v136_3,v136_4] <;> rfl))
theorem ok136:L.Fn Tryz.prog 136 168 [(.t 8),(.t 9)] (erase c136):=Fn.ofA hmix Tryz.func136 _ _ (by kernel_rfl)
def sh136:FSh:=⟨⟨[(.slc 0),(.v y13),(.v y13),(.v y13)],[(0,(.row 3 y13))]⟩,[y13,y13,y13,y25],1,⟨⟨[(.tup [(.v y13),(.v .bool)])],[(0,(.row 3 y13))]⟩,[y13,.bool,y25],[0],1⟩,false⟩
noncomputable def q136 (F134:Y557)(l136_0 l136_1:Y616)(l136_2:Y618)(a0 a1 a2:Int)(a3:List Int):Option Y609:=
chk (inR a2 a3.length) (
chk (inR a0 a3.length) (
chk (inR a0 a3.length) (
chk (inR a2 (List.length (List.set a3 a0.toNat (ix a3 a2)))) (
chk (fits .i64 (a0+1)) (
chk (fits .i64 (a1-1)) (
(l136_0 (a0,(a0+1),(a1-1),(List.set (List.set a3 a0.toNat (ix a3 a2)) a2.toNat (ix a3 a0)))).bind fun y2=>(
(l136_1 (y2.1,y2.2.1,y2.2.2.1,y2.2.2.2)).bind fun y4=>(
cond (decide (y4.2.2.1 < y4.2.1)) (
chk (inR y4.1 y4.2.2.2.length) (
chk (inR y4.2.2.1 y4.2.2.2.length) (
chk (inR y4.2.2.1 y4.2.2.2.length) (
chk (inR y4.1 (List.length (List.set y4.2.2.2 y4.2.2.1.toNat (ix y4.2.2.2 y4.1)))) (
some (y4.2.2.1,true,(List.set (List.set y4.2.2.2 y4.2.2.1.toNat (ix y4.2.2.2 y4.1)) y4.1.toNat (ix y4.2.2.2 y4.2.2.1)))))))) (
chk (inR y4.2.2.1 y4.2.2.2.length) (
chk (inR y4.2.1 y4.2.2.2.length) (
chk (inR y4.2.1 y4.2.2.2.length) (
chk (inR y4.2.2.1 (List.length (List.set y4.2.2.2 y4.2.1.toNat (ix y4.2.2.2 y4.2.2.1)))) (
chk (fits .i64 (y4.2.1+1)) (
chk (fits .i64 (y4.2.2.1-1)) (
(l136_2 (y4.1,(y4.2.1+1),(y4.2.2.1-1),(List.set (List.set y4.2.2.2 y4.2.1.toNat (ix y4.2.2.2 y4.2.2.1)) y4.2.2.1.toNat (ix y4.2.2.2 y4.2.1)))).bind fun y9=>(
chk (inR y9.1 y9.2.2.length) (
chk (inR y9.2.1 y9.2.2.length) (
chk (inR y9.2.1 y9.2.2.length) (
chk (inR y9.1 (List.length (List.set y9.2.2 y9.2.1.toNat (ix y9.2.2 y9.1)))) (
some (y9.2.1,false,(List.set (List.set y9.2.2 y9.2.1.toNat (ix y9.2.2 y9.1)) y9.1.toNat (ix y9.2.2 y9.2.1)))))))))))))))))))))))
theorem g136 (F134:Y557)(a0 a1 a2:Int)(a3:List Int):dxf (T136 F134) sh136 [(.t 8),(.t 9)] c136 (a0,a1,a2,a3)=q136 F134 (l136_0 (T136 F134)) (l136_1 (T136 F134)) (l136_2 (T136 F134)) a0 a1 a2 a3:=by kernel_rfl
noncomputable def p136:=q136 P134 L136_0 L136_1 L136_2
noncomputable def P136:Y619:=fun x=>p136 x.1 x.2.1 x.2.2.1 x.2.2.2
theorem v136:dxf (T136 P134) sh136 [(.t 8),(.t 9)] c136=P136:=funext fun x=>(g136 P134 x.1 x.2.1 x.2.2.1 x.2.2.2).trans (by rw[v136_0,v136_1,v136_2] <;> rfl)
theorem d136:DC Tryz.prog 136 sh136 P136:=DC_eq v136 (dxf_sound t136 ok136 (by kernel_rfl))
def sh111:FSh:=⟨⟨[(.slc 0),(.v y13),(.v y13),(.v y13)],[(0,(.row 3 y13))]⟩,[y13,y13,y13,y25],1,⟨⟨[(.tup [])],[(0,(.row 3 y13))]⟩,[y25],[0],1⟩,false⟩
noncomputable def T111 (F128:Y560)(F129:Y560)(F130:Y560)(F131:Y573)(F132:Y560)(F133:Y615)(F134:Y557)(F135:Y617)(F136:Y619)(F111:Y558):List FEnt:=[⟨128,sh128,F128⟩,⟨129,sh129,F129⟩,⟨130,sh130,F130⟩,⟨131,sh131,F131⟩,⟨132,sh132,F132⟩,⟨133,sh133,F133⟩,⟨134,sh134,F134⟩,⟨135,sh135,F135⟩,⟨136,sh136,F136⟩,⟨111,sh111,F111⟩]
theorem t111 (F111:Y558)(h:DC Tryz.prog 111 sh111 F111):DTblOK Tryz.prog (T111 P128 P129 P130 P131 P132 P133 P134 P135 P136 F111):=(DTbl_cons' d128 (by kernel_rfl) (DTbl_cons' d129 (by kernel_rfl) (DTbl_cons' d130 (by kernel_rfl) (DTbl_cons' d131 (by kernel_rfl) (DTbl_cons' d132 (by kernel_rfl) (DTbl_cons' d133 (by kernel_rfl) (DTbl_cons' d134 (by kernel_rfl) (DTbl_cons' d135 (by kernel_rfl) (DTbl_cons' d136 (by kernel_rfl) (DTbl_cons' h (by kernel_rfl) DTbl_nil))))))))))
def h111_1:LSh:=⟨[0,1,2,3,8,9,10],⟨[(.slc 0),(.v y13),(.v y13),(.v y13),(.v .bool),(.v .bool),(.v y13)],[(0,(.row 3 y13))]⟩,[y13,y13,y13,.bool,.bool,y13,y25],1,[0]⟩
def x111_1:List XSh:=[⟨.normal,[0,1,2,3,8,9,10],⟨⟨[(.slc 0),(.v y13),(.v y13),(.v y13),(.v .bool),(.v .bool),(.v y13)],[(0,(.row 3 y13))]⟩,[y13,y13,y13,.bool,.bool,y13,y25],[0],1⟩⟩]
def h111_2:LSh:=⟨[0,1,2,3,8,9,10,11,12],⟨[(.slc 0),(.v y13),(.v y13),(.v y13),(.v .bool),(.v .bool),(.v y13),(.v y13),(.v y13)],[(0,(.row 3 y13))]⟩,[y13,y13,y13,.bool,.bool,y13,y13,y13,y25],1,[0]⟩
def x111_2:List XSh:=[⟨.normal,[0,1,2,3,8,9,10,11,12],⟨⟨[(.slc 0),(.v y13),(.v y13),(.v y13),(.v .bool),(.v .bool),(.v y13),(.v y13),(.v y13)],[(0,(.row 3 y13))]⟩,[y13,y13,y13,.bool,.bool,y13,y13,y13,y25],[0],1⟩⟩]
def x111_3:List XSh:=[⟨.ret,[],⟨⟨[],[(0,(.row 3 y13))]⟩,[y25],[0],1⟩⟩,⟨.normal,[0,1,2,3,8,9,10,11],⟨⟨[(.slc 0),(.v y13),(.v y13),(.v y13),(.v .bool),(.v .bool),(.v y13),(.v y13)],[(0,(.row 3 y13))]⟩,[y13,y13,y13,.bool,.bool,y13,y13,y25],[0],1⟩⟩]
def h111_0:LSh:=⟨[0,1,2,3,8,9],⟨[(.slc 0),(.v y13),(.v y13),(.v y13),(.v .bool),(.v .bool)],[(0,(.row 3 y13))]⟩,[y13,y13,y13,.bool,.bool,y25],1,[0]⟩
def x111_0:List XSh:=[⟨.ret,[],⟨⟨[],[(0,(.row 3 y13))]⟩,[y25],[0],1⟩⟩]
noncomputable def c111:=anF Tryz.prog [] Tryz.f111 (.s .n (.s .n (.b (.l h111_0 x111_0 (.b (.s .n (.s .n (.s .n (.s (.o h111_1 x111_1 .n) (.s .n (.s (.o h111_2 x111_2 .n) (.s (.o h111_2 x111_3 .n) .n))))))))))))
noncomputable def l111_1 (T:List FEnt):=onceF (xs:=x111_1) h111_1 (dxc T (sb [1,1,2,2,2,1,1,1,0,2] c111))
noncomputable def q111_1 (F128 F129 F130:Y560)(F131:Y573)(F132:Y560)(F133:Y615)(F134:Y557)(F135:Y617)(F136:Y619)(F111:Y558)(a0 a1 a2:Int)(a3 a4:Bool)(a5:Int)(a6:List Int):Option Y606:=
cond (!a3) (
(F130 (a0,a1,a6)).bind fun r3=>(
chk (fits .i64 (a2-1)) (
some (a0,a1,(a2-1),a3,a4,a5,r3)))) (
some (a0,a1,a2,a3,a4,a5,a6))
theorem g111_1 (F128 F129 F130:Y560)(F131:Y573)(F132:Y560)(F133:Y615)(F134:Y557)(F135:Y617)(F136:Y619)(F111:Y558)(a0 a1 a2:Int)(a3 a4:Bool)(a5:Int)(a6:List Int):l111_1 (T111 F128 F129 F130 F131 F132 F133 F134 F135 F136 F111) (a0,a1,a2,a3,a4,a5,a6)=q111_1 F128 F129 F130 F131 F132 F133 F134 F135 F136 F111 a0 a1 a2 a3 a4 a5 a6:=by kernel_rfl
noncomputable def p111_1 (F111:Y558):=q111_1 P128 P129 P130 P131 P132 P133 P134 P135 P136 F111
noncomputable def L111_1 (F111:Y558):Y620:=fun x=>p111_1 F111 x.1 x.2.1 x.2.2.1 x.2.2.2.1 x.2.2.2.2.1 x.2.2.2.2.2.1 x.2.2.2.2.2.2
theorem v111_1 (F111:Y558):l111_1 (T111 P128 P129 P130 P131 P132 P133 P134 P135 P136 F111)=L111_1 F111:=funext fun x=>(g111_1 P128 P129 P130 P131 P132 P133 P134 P135 P136 F111 x.1 x.2.1 x.2.2.1 x.2.2.2.1 x.2.2.2.2.1 x.2.2.2.2.2.1 x.2.2.2.2.2.2)
noncomputable def l111_2 (T:List FEnt):=onceF (xs:=x111_2) h111_2 (dxc T (sb [1,1,2,2,2,1,1,1,1,1,0,2] c111))
noncomputable def q111_2 (F128 F129 F130:Y560)(F131:Y573)(F132:Y560)(F133:Y615)(F134:Y557)(F135:Y617)(F136:Y619)(F111:Y558)(a0 a1 a2:Int)(a3 a4:Bool)(a5 a6 a7:Int)(a8:List Int):Option Y607:=
cond (decide (a7=2)) (
(F132 (a0,a1,a8)).bind fun r6=>(
chk (fits .i64 (a1-1)) (
chk (fits .i64 (a6-a0)) (
chk (fits .i64 ((a1-1)-(a6-a0))) (
some (a0,a1,a2,a3,a4,a5,((a1-1)-(a6-a0)),1,r6)))))) (
some (a0,a1,a2,a3,a4,a5,a6,a7,a8))
theorem g111_2 (F128 F129 F130:Y560)(F131:Y573)(F132:Y560)(F133:Y615)(F134:Y557)(F135:Y617)(F136:Y619)(F111:Y558)(a0 a1 a2:Int)(a3 a4:Bool)(a5 a6 a7:Int)(a8:List Int):l111_2 (T111 F128 F129 F130 F131 F132 F133 F134 F135 F136 F111) (a0,a1,a2,a3,a4,a5,a6,a7,a8)=q111_2 F128 F129 F130 F131 F132 F133 F134 F135 F136 F111 a0 a1 a2 a3 a4 a5 a6 a7 a8:=by kernel_rfl
noncomputable def p111_2 (F111:Y558):=q111_2 P128 P129 P130 P131 P132 P133 P134 P135 P136 F111
noncomputable def L111_2 (F111:Y558):Y621:=fun x=>p111_2 F111 x.1 x.2.1 x.2.2.1 x.2.2.2.1 x.2.2.2.2.1 x.2.2.2.2.2.1 x.2.2.2.2.2.2.1 x.2.2.2.2.2.2.2.1 x.2.2.2.2.2.2.2.2
theorem v111_2 (F111:Y558):l111_2 (T111 P128 P129 P130 P131 P132 P133 P134 P135 P136 F111)=L111_2 F111:=funext fun x=>(g111_2 P128 P129 P130 P131 P132 P133 P134 P135 P136 F111 x.1 x.2.1 x.2.2.1 x.2.2.2.1 x.2.2.2.2.1 x.2.2.2.2.2.1 x.2.2.2.2.2.2.1 x.2.2.2.2.2.2.2.1 x.2.2.2.2.2.2.2.2)
noncomputable def l111_3 (T:List FEnt):=onceF (xs:=x111_3) h111_2 (dxc T (sb [1,1,2,2,2,1,1,1,1,1,1,0,2] c111))
noncomputable def q111_3 (F128 F129 F130:Y560)(F131:Y573)(F132:Y560)(F133:Y615)(F134:Y557)(F135:Y617)(F136:Y619)(F111:Y558)(a0 a1 a2:Int)(a3 a4:Bool)(a5 a6 a7:Int)(a8:List Int):Option Y629:=
cond a3 (
cond a4 (
cond (decide (a7=1)) (
(F133 (a0,a1,a8)).bind fun r8=>(
cond r8.1 (
some (Sum.inl r8.2)) (
some (Sum.inr (a0,a1,a2,a3,a4,a5,a6,r8.2))))) (
some (Sum.inr (a0,a1,a2,a3,a4,a5,a6,a8)))) (
some (Sum.inr (a0,a1,a2,a3,a4,a5,a6,a8)))) (
some (Sum.inr (a0,a1,a2,a3,a4,a5,a6,a8)))
theorem g111_3 (F128 F129 F130:Y560)(F131:Y573)(F132:Y560)(F133:Y615)(F134:Y557)(F135:Y617)(F136:Y619)(F111:Y558)(a0 a1 a2:Int)(a3 a4:Bool)(a5 a6 a7:Int)(a8:List Int):l111_3 (T111 F128 F129 F130 F131 F132 F133 F134 F135 F136 F111) (a0,a1,a2,a3,a4,a5,a6,a7,a8)=q111_3 F128 F129 F130 F131 F132 F133 F134 F135 F136 F111 a0 a1 a2 a3 a4 a5 a6 a7 a8:=by kernel_rfl
noncomputable def p111_3 (F111:Y558):=q111_3 P128 P129 P130 P131 P132 P133 P134 P135 P136 F111
noncomputable def L111_3 (F111:Y558):Y638:=fun x=>p111_3 F111 x.1 x.2.1 x.2.2.1 x.2.2.2.1 x.2.2.2.2.1 x.2.2.2.2.2.1 x.2.2.2.2.2.2.1 x.2.2.2.2.2.2.2.1 x.2.2.2.2.2.2.2.2
theorem v111_3 (F111:Y558):l111_3 (T111 P128 P129 P130 P131 P132 P133 P134 P135 P136 F111)=L111_3 F111:=funext fun x=>(g111_3 P128 P129 P130 P131 P132 P133 P134 P135 P136 F111 x.1 x.2.1 x.2.2.1 x.2.2.2.1 x.2.2.2.2.1 x.2.2.2.2.2.1 x.2.2.2.2.2.2.1 x.2.2.2.2.2.2.2.1 x.2.2.2.2.2.2.2.2)
noncomputable def s111_0 (T:List FEnt):=dstep (xs:=x111_0) h111_0 (dxc T (sb [1,1,2,2] c111))
noncomputable def l111_0 (T:List FEnt):=whileF (s111_0 T)
noncomputable def q111_0 (F128 F129 F130:Y560)(F131:Y573)(F132:Y560)(F133:Y615)(F134:Y557)(F135:Y617)(F136:Y619)(F111:Y558)(l111_1:Y620)(l111_2:Y621)(l111_3:Y638)(a0 a1 a2:Int)(a3 a4:Bool)(a5:List Int):Option Y630:=
chk (fits .i64 (a1-a0)) (
cond (decide ((a1-a0)≤12)) (
(F128 (a0,a1,a5)).bind fun r1=>(
some (Sum.inr r1))) (
cond (decide (a2=0)) (
(F129 (a0,a1,a5)).bind fun r2=>(
some (Sum.inr r2))) (
(l111_1 (a0,a1,a2,a3,a4,(a1-a0),a5)).bind fun y4=>(
(F131 (y4.1,y4.2.1,y4.2.2.2.2.2.2)).bind fun r5=>(
(l111_2 (y4.1,y4.2.1,y4.2.2.1,y4.2.2.2.1,y4.2.2.2.2.1,y4.2.2.2.2.2.1,r5.1,r5.2.1,r5.2.2)).bind fun y7=>(
(l111_3 (y7.1,y7.2.1,y7.2.2.1,y7.2.2.2.1,y7.2.2.2.2.1,y7.2.2.2.2.2.1,y7.2.2.2.2.2.2.1,y7.2.2.2.2.2.2.2.1,y7.2.2.2.2.2.2.2.2)).bind (fun y9=>Sum.elim (fun y10=>(
some (Sum.inr y10))) (fun y11=>(
cond (decide (0 < y11.1)) (
chk (fits .i64 (y11.1-1)) (
chk (inR (y11.1-1) y11.2.2.2.2.2.2.2.length) (
chk (inR y11.2.2.2.2.2.2.1 y11.2.2.2.2.2.2.2.length) (
(F134 ((ix y11.2.2.2.2.2.2.2 (y11.1-1)),(ix y11.2.2.2.2.2.2.2 y11.2.2.2.2.2.2.1))).bind fun r12=>(
cond (!r12) (
(F135 (y11.1,y11.2.1,y11.2.2.2.2.2.2.1,y11.2.2.2.2.2.2.2)).bind fun r13=>(
some (Sum.inl (r13.1,y11.2.1,y11.2.2.1,y11.2.2.2.1,y11.2.2.2.2.1,r13.2)))) (
(F136 (y11.1,y11.2.1,y11.2.2.2.2.2.2.1,y11.2.2.2.2.2.2.2)).bind fun r14=>(
chk (fits .i64 (r14.1-y11.1)) (
chk (fits .i64 (y11.2.1-r14.1)) (
chk (fits .i64 (Int.tdiv y11.2.2.2.2.2.1 8)) (
cond (decide ((r14.1-y11.1) < (y11.2.1-r14.1))) (
(F111 (y11.1,r14.1,y11.2.2.1,r14.2.2)).bind fun r15=>(
chk (fits .i64 (r14.1+1)) (
some (Sum.inl ((r14.1+1),y11.2.1,y11.2.2.1,decide ((Int.tdiv y11.2.2.2.2.2.1 8)≤(r14.1-y11.1)),r14.2.1,r15))))) (
chk (fits .i64 (r14.1+1)) (
(F111 ((r14.1+1),y11.2.1,y11.2.2.1,r14.2.2)).bind fun r16=>(
some (Sum.inl (y11.1,r14.1,y11.2.2.1,decide ((Int.tdiv y11.2.2.2.2.2.1 8)≤(y11.2.1-r14.1)),r14.2.1,r16))))))))))))))) (
(F136 (y11.1,y11.2.1,y11.2.2.2.2.2.2.1,y11.2.2.2.2.2.2.2)).bind fun r17=>(
chk (fits .i64 (r17.1-y11.1)) (
chk (fits .i64 (y11.2.1-r17.1)) (
chk (fits .i64 (Int.tdiv y11.2.2.2.2.2.1 8)) (
cond (decide ((r17.1-y11.1) < (y11.2.1-r17.1))) (
(F111 (y11.1,r17.1,y11.2.2.1,r17.2.2)).bind fun r18=>(
chk (fits .i64 (r17.1+1)) (
some (Sum.inl ((r17.1+1),y11.2.1,y11.2.2.1,decide ((Int.tdiv y11.2.2.2.2.2.1 8)≤(r17.1-y11.1)),r17.2.1,r18))))) (
chk (fits .i64 (r17.1+1)) (
(F111 ((r17.1+1),y11.2.1,y11.2.2.1,r17.2.2)).bind fun r19=>(
some (Sum.inl (y11.1,r17.1,y11.2.2.1,decide ((Int.tdiv y11.2.2.2.2.2.1 8)≤(y11.2.1-r17.1)),r17.2.1,r19)))))))))))) y9)))))))
theorem g111_0 (F128 F129 F130:Y560)(F131:Y573)(F132:Y560)(F133:Y615)(F134:Y557)(F135:Y617)(F136:Y619)(F111:Y558)(a0 a1 a2:Int)(a3 a4:Bool)(a5:List Int):s111_0 (T111 F128 F129 F130 F131 F132 F133 F134 F135 F136 F111) (a0,a1,a2,a3,a4,a5)=q111_0 F128 F129 F130 F131 F132 F133 F134 F135 F136 F111 (l111_1 (T111 F128 F129 F130 F131 F132 F133 F134 F135 F136 F111)) (l111_2 (T111 F128 F129 F130 F131 F132 F133 F134 F135 F136 F111)) (l111_3 (T111 F128 F129 F130 F131 F132 F133 F134 F135 F136 F111)) a0 a1 a2 a3 a4 a5:=by kernel_rfl
noncomputable def p111_0 (F111:Y558):=q111_0 P128 P129 P130 P131 P132 P133 P134 P135 P136 F111 (L111_1 F111) (L111_2 F111) (L111_3 F111)
noncomputable def L111_0 (F111:Y558):Y605:=whileF (fun x=>p111_0 F111 x.1 x.2.1 x.2.2.1 x.2.2.2.1 x.2.2.2.2.1 x.2.2.2.2.2)
theorem v111_0 (F111:Y558):l111_0 (T111 P128 P129 P130 P131 P132 P133 P134 P135 P136 F111)=L111_0 F111:=congrArg whileF (funext fun x=>(g111_0 P128 P129 P130 P131 P132 P133 P134 P135 P136 F111 x.1 x.2.1 x.2.2.1 x.2.2.2.1 x.2.2.2.2.1 x.2.2.2.2.2).trans (by rw[v111_1 F111,v111_2 F111,v111_3 F111] <;> rfl))
theorem ok111:L.Fn Tryz.prog 111 134 [] (erase c111):=Fn.ofA hmix Tryz.func111 _ _ (by kernel_rfl)
noncomputable def q111 (F128 F129 F130:Y560)(F131:Y573)(F132:Y560)(F133:Y615)(F134:Y557)(F135:Y617)(F136:Y619)(F111:Y558)(l111_0:Y605)(a0 a1 a2:Int)(a3:List Int):Option Y2:=
(l111_0 (a0,a1,a2,true,true,a3)).bind fun y20=>(
some y20)
theorem g111 (F128 F129 F130:Y560)(F131:Y573)(F132:Y560)(F133:Y615)(F134:Y557)(F135:Y617)(F136:Y619)(F111:Y558)(a0 a1 a2:Int)(a3:List Int):dxf (T111 F128 F129 F130 F131 F132 F133 F134 F135 F136 F111) sh111 [] c111 (a0,a1,a2,a3)=q111 F128 F129 F130 F131 F132 F133 F134 F135 F136 F111 (l111_0 (T111 F128 F129 F130 F131 F132 F133 F134 F135 F136 F111)) a0 a1 a2 a3:=by kernel_rfl
noncomputable def p111 (F111:Y558):=q111 P128 P129 P130 P131 P132 P133 P134 P135 P136 F111 (L111_0 F111)
noncomputable def R111:Nat→Int×Int×Int×Y2→Option Y2
  | 0=>fun _=>none
  | n+1=>fun x=>p111 (R111 n) x.1 x.2.1 x.2.2.1 x.2.2.2
noncomputable def P111:Y558:=R111 18446744073709551616
theorem v111 (F111:Y558):dxf (T111 P128 P129 P130 P131 P132 P133 P134 P135 P136 F111) sh111 [] c111=fun x=>p111 F111 x.1 x.2.1 x.2.2.1 x.2.2.2:=funext fun x=>(g111 P128 P129 P130 P131 P132 P133 P134 P135 P136 F111 x.1 x.2.1 x.2.2.1 x.2.2.2).trans (by rw[v111_0 F111] <;> rfl)
theorem D111:∀ n,DC Tryz.prog 111 sh111 (R111 n)
  | 0=>DC_none (dxf_sound (sh:=sh111) DTbl_nil ok111 (by kernel_rfl)).1
  | n+1=>DC_eq (v111 (R111 n)) (dxf_sound (sh:=sh111) (t111 (R111 n) (D111 n)) ok111 (by kernel_rfl))
theorem d111:DC Tryz.prog 111 sh111 P111:=D111 _
noncomputable def T66 (F112:Y145)(F111:Y558):List FEnt:=[⟨112,sh112,F112⟩,⟨111,sh111,F111⟩]
theorem t66:DTblOK Tryz.prog (T66 P112 P111):=(DTbl_cons' d112 (by kernel_rfl) (DTbl_cons' d111 (by kernel_rfl) DTbl_nil))
noncomputable def c66:=anF Tryz.prog [] Tryz.f66 .n
theorem ok66:L.Fn Tryz.prog 66 11 [] (erase c66):=Fn.ofA hmix Tryz.func66 _ _ (by kernel_rfl)
def sh66:FSh:=⟨⟨[(.slc 0)],[(0,(.row 3 y13))]⟩,[y25],1,⟨⟨[(.tup [])],[(0,(.row 3 y13))]⟩,[y25],[0],1⟩,false⟩
noncomputable def q66 (F112:Y145)(F111:Y558)(a0:List Int):Option Y2:=
chk (fits .u64 (↑a0.length:Int)) (
(F112 (↑a0.length:Int)).bind fun r1=>(
(F111 (0,(↑a0.length:Int),r1,a0)).bind fun r2=>(
some r2)))
theorem g66 (F112:Y145)(F111:Y558)(a0:List Int):dxf (T66 F112 F111) sh66 [] c66 a0=q66 F112 F111 a0:=by kernel_rfl
noncomputable def p66:=q66 P112 P111
noncomputable def P66:Y95:=fun x=>p66 x
theorem v66:dxf (T66 P112 P111) sh66 [] c66=P66:=funext fun x=>(g66 P112 P111 x)
theorem d66:DC Tryz.prog 66 sh66 P66:=DC_eq v66 (dxf_sound t66 ok66 (by kernel_rfl))
end Go.Proofs.YtdacabdocbhkdaaGreat.D
