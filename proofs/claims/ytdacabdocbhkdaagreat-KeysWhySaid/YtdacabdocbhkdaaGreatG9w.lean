/- Cut down from a longer text. -/
import Derived.Test.YtdacabdocbhkdaaGreatG8w
import Derived.Test.YtdacabdocbhkdaaGreatProg
set_option linter.unusedVariables false
set_option maxRecDepth 100000
namespace Go.Proofs.YtdacabdocbhkdaaGreat.D
open Go Go.Proofs Go.Proofs.YtdacabdocbhkdaaGreat.L
noncomputable def T58 (F54:Y446)(F24:Y8)(F59:Y450)(F55:Y453):List FEnt:=[⟨54,sh54,F54⟩,⟨24,sh24,F24⟩,⟨59,sh59,F59⟩,⟨55,sh55,F55⟩]
theorem t58:DTblOK Tryz.prog (T58 P54 P24 P59 P55):=(DTbl_cons' (f:=54) (sh:=sh54) (F:=P54) d54 (by kernel_rfl) (DTbl_cons' (f:=24) (sh:=sh24) (F:=P24) d24 (by kernel_rfl) (DTbl_cons' (f:=59) (sh:=sh59) (F:=P59) d59 (by kernel_rfl) (DTbl_cons' (f:=55) (sh:=sh55) (F:=P55) d55 (by kernel_rfl) DTbl_nil))))
def h58_0:LSh:=⟨[3,4,5,6,11,12,13],⟨[(.v y13),(.ptr 0 0),(.ptr 1 0),(.ptr 2 0),(.v y13),(.v .bool),(.v y13)],[(0,(.boxT y91)),(1,(.boxT y87)),(2,(.boxT y67))]⟩,[y13,y13,.bool,y13,y91,y87,y67],3,[0,1,2]⟩
def x58_0:List XSh:=[⟨(.exit 0),[3,4,5,6,11,12],⟨⟨[(.v y13),(.ptr 0 0),(.ptr 1 0),(.ptr 2 0),(.v y13),(.v .bool)],[(0,(.boxT y91)),(1,(.boxT y87)),(2,(.boxT y67))]⟩,[y13,y13,.bool,y91,y87,y67],[0,1,2],3⟩⟩]
def h58_1:LSh:=⟨[3,4,5,6,11,12,15],⟨[(.v y13),(.ptr 0 0),(.ptr 1 0),(.ptr 2 0),(.v y13),(.v .bool),(.v y13)],[(0,(.boxT y91)),(1,(.boxT y87)),(2,(.boxT y67))]⟩,[y13,y13,.bool,y13,y91,y87,y67],3,[0,1,2]⟩
def x58_1:List XSh:=[⟨.ret,[8,9],⟨⟨[(.v y13),(.v y13)],[(0,(.boxT y91)),(1,(.boxT y87)),(2,(.boxT y67))]⟩,[y13,y13,y91,y87,y67],[0,1,2],3⟩⟩,⟨(.exit 2),[3,4,5,6],⟨⟨[(.v y13),(.ptr 0 0),(.ptr 1 0),(.ptr 2 0)],[(0,(.boxT y91)),(1,(.boxT y87)),(2,(.boxT y67))]⟩,[y13,y91,y87,y67],[0,1,2],3⟩⟩]
def h58_2:LSh:=⟨[3,5,16,17],⟨[(.v y13),(.ptr 0 0),(.slc 1),(.v y13)],[(0,(.boxT y87)),(1,(.row 4 .bool))]⟩,[y13,y13,y87,y422],2,[0,1]⟩
def x58_2:List XSh:=[⟨.ret,[8,9],⟨⟨[(.v y13),(.v y13)],[(0,(.boxT y87)),(1,(.row 4 .bool))]⟩,[y13,y13,y87,y422],[0,1],2⟩⟩,⟨(.exit 4),[3,5],⟨⟨[(.v y13),(.ptr 0 0)],[(0,(.boxT y87)),(1,(.row 4 .bool))]⟩,[y13,y87,y422],[0,1],2⟩⟩]
noncomputable def c58:DCode:=anF Tryz.prog [] Tryz.f58 (.s .n (.s .n (.s .n (.s (.s .n (.b (.l h58_0 x58_0 .n))) (.s .n (.s (.s .n (.b (.l h58_1 x58_1 .n))) (.s .n (.s (.s .n (.b (.l h58_2 x58_2 .n))) .n))))))))
noncomputable def b58_0:DCode:=sb [1,1,1,0,1,2,2] c58
noncomputable def b58_1:DCode:=sb [1,1,1,1,1,0,1,2,2] c58
noncomputable def b58_2:DCode:=sb [1,1,1,1,1,1,1,0,1,2,2] c58
noncomputable def s58_0 (T:List FEnt):Y516:=dstep (xs:=x58_0) h58_0 (dxc T b58_0)
noncomputable def l58_0 (T:List FEnt):Y508:=whileF (s58_0 T)
noncomputable def q58_0 (F54:Y446)(F24:Y8)(F59:Y450)(F55:Y453)(a0:Int)(a1:Int)(a2:Bool)(a3:Int)(a4:Y42)(a5:Y12)(a6:Y22):Option Y511:=
cond (decide (a3 < (↑(List.length a4.2.2.2.1):Int))) (
chk (inR a3 (List.length a4.2.2.2.1)) (
cond (decide ((ix a4.2.2.2.1 a3).2.1=a5.1)) (
(F24 (a4.2.2.2.2,(ix a4.2.2.2.1 a3).1)).bind fun(r2:Bool)=>(
cond (!r2) (
cond a2 (
cond (decide (a1 < (0:Int))) (
chk (fits .i64 (a3+(1:Int))) (
some (Sum.inl (a0,a3,true,(a3+(1:Int)),a4,a5,a6)))) (
chk (inR a1 (List.length a4.2.2.2.1)) (
cond (decide ((ix a4.2.2.2.1 a3).1 < (ix a4.2.2.2.1 a1).1)) (
chk (fits .i64 (a3+(1:Int))) (
some (Sum.inl (a0,a3,true,(a3+(1:Int)),a4,a5,a6)))) (
chk (fits .i64 (a3+(1:Int))) (
some (Sum.inl (a0,a1,true,(a3+(1:Int)),a4,a5,a6))))))) (
(F59 (a4,(ix a4.2.2.2.1 a3),a5,a6)).bind fun(r3:Bool)=>(
cond (decide (a1 < (0:Int))) (
chk (fits .i64 (a3+(1:Int))) (
some (Sum.inl (a0,a3,r3,(a3+(1:Int)),a4,a5,a6)))) (
chk (inR a1 (List.length a4.2.2.2.1)) (
cond (decide ((ix a4.2.2.2.1 a3).1 < (ix a4.2.2.2.1 a1).1)) (
chk (fits .i64 (a3+(1:Int))) (
some (Sum.inl (a0,a3,r3,(a3+(1:Int)),a4,a5,a6)))) (
chk (fits .i64 (a3+(1:Int))) (
some (Sum.inl (a0,a1,r3,(a3+(1:Int)),a4,a5,a6))))))))) (
chk (fits .i64 (a3+(1:Int))) (
some (Sum.inl (a0,a1,a2,(a3+(1:Int)),a4,a5,a6)))))) (
chk (fits .i64 (a3+(1:Int))) (
some (Sum.inl (a0,a1,a2,(a3+(1:Int)),a4,a5,a6)))))) (
some (Sum.inr (a0,a1,a2,a4,a5,a6)))
theorem g58_0 (F54:Y446)(F24:Y8)(F59:Y450)(F55:Y453)(a0:Int)(a1:Int)(a2:Bool)(a3:Int)(a4:Y42)(a5:Y12)(a6:Y22):s58_0 (T58 F54 F24 F59 F55) (a0,a1,a2,a3,a4,a5,a6)=q58_0 F54 F24 F59 F55 a0 a1 a2 a3 a4 a5 a6:=by kernel_rfl
noncomputable def p58_0 (a0:Int)(a1:Int)(a2:Bool)(a3:Int)(a4:Y42)(a5:Y12)(a6:Y22):Option Y511:=q58_0 P54 P24 P59 P55 a0 a1 a2 a3 a4 a5 a6
noncomputable def L58_0:Y508:=whileF (fun x=>p58_0 x.1 x.2.1 x.2.2.1 x.2.2.2.1 x.2.2.2.2.1 x.2.2.2.2.2.1 x.2.2.2.2.2.2)
theorem v58_0:l58_0 (T58 P54 P24 P59 P55) =L58_0:=congrArg whileF (funext fun x=>(g58_0 P54 P24 P59 P55 x.1 x.2.1 x.2.2.1 x.2.2.2.1 x.2.2.2.2.1 x.2.2.2.2.2.1 x.2.2.2.2.2.2).trans (show q58_0 P54 P24 P59 P55 x.1 x.2.1 x.2.2.1 x.2.2.2.1 x.2.2.2.2.1 x.2.2.2.2.2.1 x.2.2.2.2.2.2=q58_0 P54 P24 P59 P55 x.1 x.2.1 x.2.2.1 x.2.2.2.1 x.2.2.2.2.1 x.2.2.2.2.2.1 x.2.2.2.2.2.2 from rfl))
noncomputable def s58_1 (T:List FEnt):Y522:=dstep (xs:=x58_1) h58_1 (dxc T b58_1)
noncomputable def l58_1 (T:List FEnt):Y517:=whileF (s58_1 T)
noncomputable def q58_1 (F54:Y446)(F24:Y8)(F59:Y450)(F55:Y453)(a0:Int)(a1:Int)(a2:Bool)(a3:Int)(a4:Y42)(a5:Y12)(a6:Y22):Option Y521:=
cond (decide (a3 < (↑(List.length a6.2.1):Int))) (
cond a5.2.2.2.2.2.1 (
cond (!a2) (
chk (inR a1 (List.length a4.2.2.2.1)) (
chk (inR a3 (List.length a6.2.1)) (
(F24 ((ix a4.2.2.2.1 a1).2.2.1,(ix a6.2.1 a3))).bind fun(r5:Bool)=>(
cond (!r5) (
chk (inR a3 (List.length a6.2.1)) (
some (Sum.inr (Sum.inl ((3:Int),(ix a6.2.1 a3),a4,a5,a6))))) (
chk (fits .i64 (a3+(1:Int))) (
some (Sum.inl (a0,a1,a2,(a3+(1:Int)),a4,a5,a6)))))))) (
some (Sum.inr (Sum.inr (a0,a4,a5,a6))))) (
some (Sum.inr (Sum.inr (a0,a4,a5,a6))))) (
some (Sum.inr (Sum.inr (a0,a4,a5,a6))))
theorem g58_1 (F54:Y446)(F24:Y8)(F59:Y450)(F55:Y453)(a0:Int)(a1:Int)(a2:Bool)(a3:Int)(a4:Y42)(a5:Y12)(a6:Y22):s58_1 (T58 F54 F24 F59 F55) (a0,a1,a2,a3,a4,a5,a6)=q58_1 F54 F24 F59 F55 a0 a1 a2 a3 a4 a5 a6:=by kernel_rfl
noncomputable def p58_1 (a0:Int)(a1:Int)(a2:Bool)(a3:Int)(a4:Y42)(a5:Y12)(a6:Y22):Option Y521:=q58_1 P54 P24 P59 P55 a0 a1 a2 a3 a4 a5 a6
noncomputable def L58_1:Y517:=whileF (fun x=>p58_1 x.1 x.2.1 x.2.2.1 x.2.2.2.1 x.2.2.2.2.1 x.2.2.2.2.2.1 x.2.2.2.2.2.2)
theorem v58_1:l58_1 (T58 P54 P24 P59 P55) =L58_1:=congrArg whileF (funext fun x=>(g58_1 P54 P24 P59 P55 x.1 x.2.1 x.2.2.1 x.2.2.2.1 x.2.2.2.2.1 x.2.2.2.2.2.1 x.2.2.2.2.2.2).trans (show q58_1 P54 P24 P59 P55 x.1 x.2.1 x.2.2.1 x.2.2.2.1 x.2.2.2.2.1 x.2.2.2.2.2.1 x.2.2.2.2.2.2=q58_1 P54 P24 P59 P55 x.1 x.2.1 x.2.2.1 x.2.2.2.1 x.2.2.2.2.1 x.2.2.2.2.2.1 x.2.2.2.2.2.2 from rfl))
noncomputable def s58_2 (T:List FEnt):Y497:=dstep (xs:=x58_2) h58_2 (dxc T b58_2)
noncomputable def l58_2 (T:List FEnt):Y493:=whileF (s58_2 T)
noncomputable def q58_2 (F54:Y446)(F24:Y8)(F59:Y450)(F55:Y453)(a0:Int)(a1:Int)(a2:Y12)(a3:List Bool):Option Y495:=
chk (fits .i64 (a0+a2.2.2.2.2.1)) (
cond (decide (a1 < (a0+a2.2.2.2.2.1))) (
cond (decide ((9999:Int) < a1)) (
some (Sum.inr (Sum.inl ((4:Int),a1,a2,a3)))) (
chk (inR a1 (List.length a3)) (
cond (!(ix a3 a1)) (
some (Sum.inr (Sum.inl ((4:Int),a1,a2,a3)))) (
chk (fits .i64 (a1+(1:Int))) (
some (Sum.inl (a0,(a1+(1:Int)),a2,a3))))))) (
some (Sum.inr (Sum.inr (a0,a2,a3)))))
theorem g58_2 (F54:Y446)(F24:Y8)(F59:Y450)(F55:Y453)(a0:Int)(a1:Int)(a2:Y12)(a3:List Bool):s58_2 (T58 F54 F24 F59 F55) (a0,a1,a2,a3)=q58_2 F54 F24 F59 F55 a0 a1 a2 a3:=by kernel_rfl
noncomputable def p58_2 (a0:Int)(a1:Int)(a2:Y12)(a3:List Bool):Option Y495:=q58_2 P54 P24 P59 P55 a0 a1 a2 a3
noncomputable def L58_2:Y493:=whileF (fun x=>p58_2 x.1 x.2.1 x.2.2.1 x.2.2.2)
theorem v58_2:l58_2 (T58 P54 P24 P59 P55) =L58_2:=congrArg whileF (funext fun x=>(g58_2 P54 P24 P59 P55 x.1 x.2.1 x.2.2.1 x.2.2.2).trans (show q58_2 P54 P24 P59 P55 x.1 x.2.1 x.2.2.1 x.2.2.2=q58_2 P54 P24 P59 P55 x.1 x.2.1 x.2.2.1 x.2.2.2 from rfl))
theorem ok58:L.Fn Tryz.prog 58 142 [(.t 8),(.t 9)] (erase c58):=Fn.ofA hmix Tryz.func58 _ _ (by kernel_rfl)
def sh58:FSh:=⟨⟨[(.st y91),(.st y87),(.st y67),(.v y13)],[]⟩,[y91,y87,y67,y13],0,⟨⟨[(.tup [(.v y13),(.v y13)])],[]⟩,[y13,y13],[],0⟩,true⟩
noncomputable def q58 (F54:Y446)(F24:Y8)(F59:Y450)(F55:Y453)(l58_0:Y508)(l58_1:Y517)(l58_2:Y493)(a0:Y42)(a1:Y12)(a2:Y22)(a3:Int):Option Y1:=
(F54 (a0,a1,a2)).bind fun(r1:List Int)=>(
cond (decide ((0:Int) < (↑(List.length r1):Int))) (
chk (inR (0:Int) (List.length r1)) (
some ((1:Int),(ix r1 (0:Int))))) (
(l58_0 (a3,(-1:Int),false,(0:Int),a0,a1,a2)).bind fun(y4:Y498)=>(
cond y4.2.2.2.2.1.2.2.2.2.2.1 (
cond (decide (y4.2.1 < (0:Int))) (
some ((2:Int),(-1:Int))) (
(l58_1 (y4.1,y4.2.1,y4.2.2.1,(0:Int),y4.2.2.2.1,y4.2.2.2.2.1,y4.2.2.2.2.2)).bind (fun(y6:Y499⊕Y500)=>Sum.elim (fun(y7:Y499)=>(
some (y7.1,y7.2.1))) (fun(y8:Y500)=>(
(F55 (y8.2.1,y8.2.2.1,y8.2.2.2)).bind fun(r9:List Bool)=>(
(l58_2 (y8.1,y8.1,y8.2.2.1,r9)).bind (fun(y10:Y490⊕Y427)=>Sum.elim (fun(y11:Y490)=>(
some (y11.1,y11.2.1))) (fun(y12:Y427)=>(
chk (fits .i64 (y12.1+y12.2.1.2.2.2.2.1)) (
chk (fits .i64 ((y12.1+y12.2.1.2.2.2.2.1)-(1:Int))) (
some ((0:Int),((y12.1+y12.2.1.2.2.2.2.1)-(1:Int))))))) y10)))) y6))) (
(l58_1 (y4.1,y4.2.1,y4.2.2.1,(0:Int),y4.2.2.2.1,y4.2.2.2.2.1,y4.2.2.2.2.2)).bind (fun(y13:Y499⊕Y500)=>Sum.elim (fun(y14:Y499)=>(
some (y14.1,y14.2.1))) (fun(y15:Y500)=>(
(F55 (y15.2.1,y15.2.2.1,y15.2.2.2)).bind fun(r16:List Bool)=>(
(l58_2 (y15.1,y15.1,y15.2.2.1,r16)).bind (fun(y17:Y490⊕Y427)=>Sum.elim (fun(y18:Y490)=>(
some (y18.1,y18.2.1))) (fun(y19:Y427)=>(
chk (fits .i64 (y19.1+y19.2.1.2.2.2.2.1)) (
chk (fits .i64 ((y19.1+y19.2.1.2.2.2.2.1)-(1:Int))) (
some ((0:Int),((y19.1+y19.2.1.2.2.2.2.1)-(1:Int))))))) y17)))) y13)))))
theorem g58 (F54:Y446)(F24:Y8)(F59:Y450)(F55:Y453)(a0:Y42)(a1:Y12)(a2:Y22)(a3:Int):dxf (T58 F54 F24 F59 F55) sh58 [(.t 8),(.t 9)] c58 (a0,a1,a2,a3)=q58 F54 F24 F59 F55 (l58_0 (T58 F54 F24 F59 F55)) (l58_1 (T58 F54 F24 F59 F55)) (l58_2 (T58 F54 F24 F59 F55)) a0 a1 a2 a3:=by kernel_rfl
noncomputable def p58 (a0:Y42)(a1:Y12)(a2:Y22)(a3:Int):Option Y1:=q58 P54 P24 P59 P55 L58_0 L58_1 L58_2 a0 a1 a2 a3
noncomputable def P58:Y501:=fun x=>p58 x.1 x.2.1 x.2.2.1 x.2.2.2
theorem v58:dxf (T58 P54 P24 P59 P55) sh58 [(.t 8),(.t 9)] c58=P58:=funext fun x=>(g58 P54 P24 P59 P55 x.1 x.2.1 x.2.2.1 x.2.2.2).trans (show q58 P54 P24 P59 P55 (l58_0 (T58 P54 P24 P59 P55)) (l58_1 (T58 P54 P24 P59 P55)) (l58_2 (T58 P54 P24 P59 P55)) x.1 x.2.1 x.2.2.1 x.2.2.2=q58 P54 P24 P59 P55 L58_0 L58_1 L58_2 x.1 x.2.1 x.2.2.1 x.2.2.2 from by rw[v58_0,v58_1,v58_2])
theorem d58:DC Tryz.prog 58 sh58 P58:=DC_eq v58 (dxf_sound (sh:=sh58) t58 ok58 (by kernel_rfl))
noncomputable def T34 (F53:Y397)(F19:Y396)(F20:Y215)(F58:Y501):List FEnt:=[⟨53,sh53,F53⟩,⟨19,sh19,F19⟩,⟨20,sh20,F20⟩,⟨58,sh58,F58⟩]
theorem t34:DTblOK Tryz.prog (T34 P53 P19 P20 P58):=(DTbl_cons' (f:=53) (sh:=sh53) (F:=P53) d53 (by kernel_rfl) (DTbl_cons' (f:=19) (sh:=sh19) (F:=P19) d19 (by kernel_rfl) (DTbl_cons' (f:=20) (sh:=sh20) (F:=P20) d20 (by kernel_rfl) (DTbl_cons' (f:=58) (sh:=sh58) (F:=P58) d58 (by kernel_rfl) DTbl_nil))))
noncomputable def c34:DCode:=anF Tryz.prog [] Tryz.f34 .n
theorem ok34:L.Fn Tryz.prog 34 46 [(.t 8),(.t 9),(.t 10)] (erase c34):=Fn.ofA hmix Tryz.func34 _ _ (by kernel_rfl)
def sh34:FSh:=⟨⟨[(.st y91),(.v y13),(.v y13),(.v y13)],[]⟩,[y91,y13,y13,y13],0,⟨⟨[(.tup [(.v y13),(.v y13),(.v y13)])],[]⟩,[y13,y13,y13],[],0⟩,true⟩
noncomputable def q34 (F53:Y397)(F19:Y396)(F20:Y215)(F58:Y501)(a0:Y42)(a1:Int)(a2:Int)(a3:Int):Option Y274:=
(F53 (a0,a1,a2,a3)).bind fun(r1:Int)=>(
cond (!decide (r1=(0:Int))) (
some ((0:Int),(0:Int),r1)) (
(F19 (a0,a1)).bind fun(r2:Y12×Bool)=>(
(F20 (a0,a2)).bind fun(r3:Y22×Bool)=>(
(F58 (a0,r2.1,r3.1,a3)).bind fun(r4:Int×Int)=>(
some (r4.1,r4.2,(0:Int)))))))
theorem g34 (F53:Y397)(F19:Y396)(F20:Y215)(F58:Y501)(a0:Y42)(a1:Int)(a2:Int)(a3:Int):dxf (T34 F53 F19 F20 F58) sh34 [(.t 8),(.t 9),(.t 10)] c34 (a0,a1,a2,a3)=q34 F53 F19 F20 F58 a0 a1 a2 a3:=by kernel_rfl
noncomputable def p34 (a0:Y42)(a1:Int)(a2:Int)(a3:Int):Option Y274:=q34 P53 P19 P20 P58 a0 a1 a2 a3
noncomputable def P34:Y301:=fun x=>p34 x.1 x.2.1 x.2.2.1 x.2.2.2
theorem v34:dxf (T34 P53 P19 P20 P58) sh34 [(.t 8),(.t 9),(.t 10)] c34=P34:=funext fun x=>(g34 P53 P19 P20 P58 x.1 x.2.1 x.2.2.1 x.2.2.2).trans (show q34 P53 P19 P20 P58 x.1 x.2.1 x.2.2.1 x.2.2.2=q34 P53 P19 P20 P58 x.1 x.2.1 x.2.2.1 x.2.2.2 from rfl)
theorem d34:DC Tryz.prog 34 sh34 P34:=DC_eq v34 (dxf_sound (sh:=sh34) t34 ok34 (by kernel_rfl))
noncomputable def T33 (F43:Y311)(F44:Y302):List FEnt:=[⟨43,sh43,F43⟩,⟨44,sh44,F44⟩]
theorem t33:DTblOK Tryz.prog (T33 P43 P44):=(DTbl_cons' (f:=43) (sh:=sh43) (F:=P43) d43 (by kernel_rfl) (DTbl_cons' (f:=44) (sh:=sh44) (F:=P44) d44 (by kernel_rfl) DTbl_nil))
def h33_0:LSh:=⟨[3,10,29,30,31],⟨[(.v y13),(.v (.opt y229)),(.v y35),(.v y13),(.v y13)],[]⟩,[y13,(.opt y229),y35,y13,y13],0,[]⟩
def x33_0:List XSh:=[⟨.ret,[8,9],⟨⟨[(.v y13),(.v y13)],[]⟩,[y13,y13],[],0⟩⟩,⟨(.exit 0),[],⟨⟨[],[]⟩,[],[],0⟩⟩]
noncomputable def c33:DCode:=anF Tryz.prog [] Tryz.f33 (.s .n (.s .n (.s .n (.s (.s .n (.b (.l h33_0 x33_0 .n))) .n))))
noncomputable def b33_0:DCode:=sb [1,1,1,0,1,2,2] c33
noncomputable def s33_0 (T:List FEnt):Y518:=dstep (xs:=x33_0) h33_0 (dxc T b33_0)
noncomputable def l33_0 (T:List FEnt):Y502:=whileF (s33_0 T)
noncomputable def q33_0 (F43:Y311)(F44:Y302)(a0:Int)(a1:Option Y181)(a2:List Y1)(a3:Int)(a4:Int):Option Y513:=
cond (decide (a4 < a3)) (
chk (inR a4 (List.length a2)) (
cond (decide ((max a0 ((ix a2 a4).1))≤(ix a2 a4).2)) (
(F44 (a1,(max a0 ((ix a2 a4).1)))).bind fun(r2:Bool)=>(
cond r2 (
some (Sum.inr (Sum.inl ((max a0 ((ix a2 a4).1)),(0:Int))))) (
chk (fits .i64 (a4+(1:Int))) (
some (Sum.inl (a0,a1,a2,a3,(a4+(1:Int)))))))) (
chk (fits .i64 (a4+(1:Int))) (
some (Sum.inl (a0,a1,a2,a3,(a4+(1:Int)))))))) (
some (Sum.inr (Sum.inr ())))
theorem g33_0 (F43:Y311)(F44:Y302)(a0:Int)(a1:Option Y181)(a2:List Y1)(a3:Int)(a4:Int):s33_0 (T33 F43 F44) (a0,a1,a2,a3,a4)=q33_0 F43 F44 a0 a1 a2 a3 a4:=by kernel_rfl
noncomputable def p33_0 (a0:Int)(a1:Option Y181)(a2:List Y1)(a3:Int)(a4:Int):Option Y513:=q33_0 P43 P44 a0 a1 a2 a3 a4
noncomputable def L33_0:Y502:=whileF (fun x=>p33_0 x.1 x.2.1 x.2.2.1 x.2.2.2.1 x.2.2.2.2)
theorem v33_0:l33_0 (T33 P43 P44) =L33_0:=congrArg whileF (funext fun x=>(g33_0 P43 P44 x.1 x.2.1 x.2.2.1 x.2.2.2.1 x.2.2.2.2).trans (show q33_0 P43 P44 x.1 x.2.1 x.2.2.1 x.2.2.2.1 x.2.2.2.2=q33_0 P43 P44 x.1 x.2.1 x.2.2.1 x.2.2.2.1 x.2.2.2.2 from rfl))
theorem ok33:L.Fn Tryz.prog 33 50 [(.t 8),(.t 9)] (erase c33):=Fn.ofA hmix Tryz.func33 _ _ (by kernel_rfl)
def sh33:FSh:=⟨⟨[(.st y91),(.v y13),(.v y13),(.v y13)],[]⟩,[y91,y13,y13,y13],0,⟨⟨[(.tup [(.v y13),(.v y13)])],[]⟩,[y13,y13],[],0⟩,true⟩
noncomputable def q33 (F43:Y311)(F44:Y302)(l33_0:Y502)(a0:Y42)(a1:Int)(a2:Int)(a3:Int):Option Y1:=
(F43 (a0,a1,a2,a3)).bind fun(r1:Y289×Int)=>(
cond (!decide (r1.2=(0:Int))) (
some ((0:Int),r1.2)) (
chk (Option.isSome r1.1) (
(l33_0 (a3,r1.1,(dof r1.1 ((0:Int),((0:Int),((0:Int),((0:Int),((0:Int),(false,([],((0:Int),([],([],([],([],[]))))))))))))).2.2.2.2.2.2.2.2.2.2.2.2,(↑(List.length ((dof r1.1 ((0:Int),((0:Int),((0:Int),((0:Int),((0:Int),(false,([],((0:Int),([],([],([],([],[]))))))))))))).2.2.2.2.2.2.2.2.2.2.2.2)):Int),(0:Int))).bind (fun(y3:Y1⊕Unit)=>Sum.elim (fun(y4:Int×Int)=>(
some (y4.1,y4.2))) (fun(y5:Unit)=>(
some ((0:Int),(3:Int)))) y3))))
theorem g33 (F43:Y311)(F44:Y302)(a0:Y42)(a1:Int)(a2:Int)(a3:Int):dxf (T33 F43 F44) sh33 [(.t 8),(.t 9)] c33 (a0,a1,a2,a3)=q33 F43 F44 (l33_0 (T33 F43 F44)) a0 a1 a2 a3:=by kernel_rfl
noncomputable def p33 (a0:Y42)(a1:Int)(a2:Int)(a3:Int):Option Y1:=q33 P43 P44 L33_0 a0 a1 a2 a3
noncomputable def P33:Y356:=fun x=>p33 x.1 x.2.1 x.2.2.1 x.2.2.2
theorem v33:dxf (T33 P43 P44) sh33 [(.t 8),(.t 9)] c33=P33:=funext fun x=>(g33 P43 P44 x.1 x.2.1 x.2.2.1 x.2.2.2).trans (show q33 P43 P44 (l33_0 (T33 P43 P44)) x.1 x.2.1 x.2.2.1 x.2.2.2=q33 P43 P44 L33_0 x.1 x.2.1 x.2.2.1 x.2.2.2 from by rw[v33_0])
theorem d33:DC Tryz.prog 33 sh33 P33:=DC_eq v33 (dxf_sound (sh:=sh33) t33 ok33 (by kernel_rfl))
noncomputable def T35 (F53:Y397)(F19:Y396)(F20:Y215)(F54:Y446)(F55:Y453):List FEnt:=[⟨53,sh53,F53⟩,⟨19,sh19,F19⟩,⟨20,sh20,F20⟩,⟨54,sh54,F54⟩,⟨55,sh55,F55⟩]
theorem t35:DTblOK Tryz.prog (T35 P53 P19 P20 P54 P55):=(DTbl_cons' (f:=53) (sh:=sh53) (F:=P53) d53 (by kernel_rfl) (DTbl_cons' (f:=19) (sh:=sh19) (F:=P19) d19 (by kernel_rfl) (DTbl_cons' (f:=20) (sh:=sh20) (F:=P20) d20 (by kernel_rfl) (DTbl_cons' (f:=54) (sh:=sh54) (F:=P54) d54 (by kernel_rfl) (DTbl_cons' (f:=55) (sh:=sh55) (F:=P55) d55 (by kernel_rfl) DTbl_nil)))))
def h35_0:LSh:=⟨[11,15,16,17],⟨[(.ptr 0 0),(.slc 1),(.v y13),(.v y13)],[(0,(.boxT y87)),(1,(.row 4 .bool))]⟩,[y13,y13,y87,y422],2,[0,1]⟩
def x35_0:List XSh:=[⟨.ret,[8,9],⟨⟨[(.v y13),(.v y13)],[(0,(.boxT y87)),(1,(.row 4 .bool))]⟩,[y13,y13,y87,y422],[0,1],2⟩⟩,⟨(.exit 0),[],⟨⟨[],[(0,(.boxT y87)),(1,(.row 4 .bool))]⟩,[y87,y422],[0,1],2⟩⟩]
noncomputable def c35:DCode:=anF Tryz.prog [] Tryz.f35 (.s .n (.s .n (.s .n (.s .n (.s .n (.s .n (.s .n (.s (.s .n (.b (.l h35_0 x35_0 .n))) .n))))))))
noncomputable def b35_0:DCode:=sb [1,1,1,1,1,1,1,0,1,2,2] c35
noncomputable def s35_0 (T:List FEnt):Y503:=dstep (xs:=x35_0) h35_0 (dxc T b35_0)
noncomputable def l35_0 (T:List FEnt):Y494:=whileF (s35_0 T)
noncomputable def q35_0 (F53:Y397)(F19:Y396)(F20:Y215)(F54:Y446)(F55:Y453)(a0:Int)(a1:Int)(a2:Y12)(a3:List Bool):Option Y496:=
cond (decide (a1 < (↑(List.length a3):Int))) (
chk (fits .i64 (a0+(1:Int))) (
chk (inR a1 (List.length a3)) (
cond (!(ix a3 a1)) (
cond (decide (a2.2.2.2.2.1≤(0:Int))) (
chk (fits .i64 (a1-a2.2.2.2.2.1)) (
chk (fits .i64 ((a1-a2.2.2.2.2.1)+(1:Int))) (
some (Sum.inr (Sum.inl (((a1-a2.2.2.2.2.1)+(1:Int)),(0:Int),a2,a3)))))) (
chk (fits .i64 (a1+(1:Int))) (
some (Sum.inl ((0:Int),(a1+(1:Int)),a2,a3))))) (
cond (decide (a2.2.2.2.2.1≤(a0+(1:Int)))) (
chk (fits .i64 (a1-a2.2.2.2.2.1)) (
chk (fits .i64 ((a1-a2.2.2.2.2.1)+(1:Int))) (
some (Sum.inr (Sum.inl (((a1-a2.2.2.2.2.1)+(1:Int)),(0:Int),a2,a3)))))) (
chk (fits .i64 (a1+(1:Int))) (
some (Sum.inl ((a0+(1:Int)),(a1+(1:Int)),a2,a3)))))))) (
some (Sum.inr (Sum.inr (a2,a3))))
theorem g35_0 (F53:Y397)(F19:Y396)(F20:Y215)(F54:Y446)(F55:Y453)(a0:Int)(a1:Int)(a2:Y12)(a3:List Bool):s35_0 (T35 F53 F19 F20 F54 F55) (a0,a1,a2,a3)=q35_0 F53 F19 F20 F54 F55 a0 a1 a2 a3:=by kernel_rfl
noncomputable def p35_0 (a0:Int)(a1:Int)(a2:Y12)(a3:List Bool):Option Y496:=q35_0 P53 P19 P20 P54 P55 a0 a1 a2 a3
noncomputable def L35_0:Y494:=whileF (fun x=>p35_0 x.1 x.2.1 x.2.2.1 x.2.2.2)
theorem v35_0:l35_0 (T35 P53 P19 P20 P54 P55) =L35_0:=congrArg whileF (funext fun x=>(g35_0 P53 P19 P20 P54 P55 x.1 x.2.1 x.2.2.1 x.2.2.2).trans (show q35_0 P53 P19 P20 P54 P55 x.1 x.2.1 x.2.2.1 x.2.2.2=q35_0 P53 P19 P20 P54 P55 x.1 x.2.1 x.2.2.1 x.2.2.2 from rfl))
theorem ok35:L.Fn Tryz.prog 35 71 [(.t 8),(.t 9)] (erase c35):=Fn.ofA hmix Tryz.func35 _ _ (by kernel_rfl)
def sh35:FSh:=⟨⟨[(.st y91),(.v y13),(.v y13),(.v y13)],[]⟩,[y91,y13,y13,y13],0,⟨⟨[(.tup [(.v y13),(.v y13)])],[]⟩,[y13,y13],[],0⟩,true⟩
noncomputable def q35 (F53:Y397)(F19:Y396)(F20:Y215)(F54:Y446)(F55:Y453)(l35_0:Y494)(a0:Y42)(a1:Int)(a2:Int)(a3:Int):Option Y1:=
(F53 (a0,a1,a2,a3)).bind fun(r1:Int)=>(
cond (!decide (r1=(0:Int))) (
some ((0:Int),r1)) (
(F19 (a0,a1)).bind fun(r2:Y12×Bool)=>(
(F20 (a0,a2)).bind fun(r3:Y22×Bool)=>(
(F54 (a0,r2.1,r3.1)).bind fun(r4:List Int)=>(
cond (decide ((0:Int) < (↑(List.length r4):Int))) (
some ((0:Int),(3:Int))) (
(F55 (a0,r2.1,r3.1)).bind fun(r5:List Bool)=>(
(l35_0 ((0:Int),a3,r2.1,r5)).bind (fun(y6:Y490⊕Y428)=>Sum.elim (fun(y7:Y490)=>(
some (y7.1,y7.2.1))) (fun(y8:Y12×Y420)=>(
some ((0:Int),(3:Int)))) y6))))))))
theorem g35 (F53:Y397)(F19:Y396)(F20:Y215)(F54:Y446)(F55:Y453)(a0:Y42)(a1:Int)(a2:Int)(a3:Int):dxf (T35 F53 F19 F20 F54 F55) sh35 [(.t 8),(.t 9)] c35 (a0,a1,a2,a3)=q35 F53 F19 F20 F54 F55 (l35_0 (T35 F53 F19 F20 F54 F55)) a0 a1 a2 a3:=by kernel_rfl
noncomputable def p35 (a0:Y42)(a1:Int)(a2:Int)(a3:Int):Option Y1:=q35 P53 P19 P20 P54 P55 L35_0 a0 a1 a2 a3
noncomputable def P35:Y356:=fun x=>p35 x.1 x.2.1 x.2.2.1 x.2.2.2
theorem v35:dxf (T35 P53 P19 P20 P54 P55) sh35 [(.t 8),(.t 9)] c35=P35:=funext fun x=>(g35 P53 P19 P20 P54 P55 x.1 x.2.1 x.2.2.1 x.2.2.2).trans (show q35 P53 P19 P20 P54 P55 (l35_0 (T35 P53 P19 P20 P54 P55)) x.1 x.2.1 x.2.2.1 x.2.2.2=q35 P53 P19 P20 P54 P55 L35_0 x.1 x.2.1 x.2.2.1 x.2.2.2 from by rw[v35_0])
theorem d35:DC Tryz.prog 35 sh35 P35:=DC_eq v35 (dxf_sound (sh:=sh35) t35 ok35 (by kernel_rfl))
noncomputable def T36 (F53:Y397)(F19:Y396)(F20:Y215)(F58:Y501)(F59:Y450):List FEnt:=[⟨53,sh53,F53⟩,⟨19,sh19,F19⟩,⟨20,sh20,F20⟩,⟨58,sh58,F58⟩,⟨59,sh59,F59⟩]
theorem t36:DTblOK Tryz.prog (T36 P53 P19 P20 P58 P59):=(DTbl_cons' (f:=53) (sh:=sh53) (F:=P53) d53 (by kernel_rfl) (DTbl_cons' (f:=19) (sh:=sh19) (F:=P19) d19 (by kernel_rfl) (DTbl_cons' (f:=20) (sh:=sh20) (F:=P20) d20 (by kernel_rfl) (DTbl_cons' (f:=58) (sh:=sh58) (F:=P58) d58 (by kernel_rfl) (DTbl_cons' (f:=59) (sh:=sh59) (F:=P59) d59 (by kernel_rfl) DTbl_nil)))))
def h36_1:LSh:=⟨[3,4,11,13,17,18,19,20],⟨[(.v y13),(.ptr 0 0),(.ptr 1 0),(.ptr 2 0),(.v y13),(.v y13),(.v y13),(.v y13)],[(0,(.boxT y91)),(1,(.boxT y87)),(2,(.boxT y67))]⟩,[y13,y13,y13,y13,y13,y91,y87,y67],3,[0,1,2]⟩
def x36_1:List XSh:=[⟨(.exit 2),[3,4,11,13,17,19],⟨⟨[(.v y13),(.ptr 0 0),(.ptr 1 0),(.ptr 2 0),(.v y13),(.v y13)],[(0,(.boxT y91)),(1,(.boxT y87)),(2,(.boxT y67))]⟩,[y13,y13,y13,y91,y87,y67],[0,1,2],3⟩⟩]
def h36_0:LSh:=⟨[3,4,11,13,17,18],⟨[(.v y13),(.ptr 0 0),(.ptr 1 0),(.ptr 2 0),(.v y13),(.v y13)],[(0,(.boxT y91)),(1,(.boxT y87)),(2,(.boxT y67))]⟩,[y13,y13,y13,y91,y87,y67],3,[0,1,2]⟩
def x36_0:List XSh:=[⟨(.exit 0),[17],⟨⟨[(.v y13)],[(0,(.boxT y91)),(1,(.boxT y87)),(2,(.boxT y67))]⟩,[y13,y91,y87,y67],[0,1,2],3⟩⟩]
noncomputable def c36:DCode:=anF Tryz.prog [] Tryz.f36 (.s .n (.s .n (.s .n (.s .n (.s .n (.s .n (.s (.s .n (.b (.l h36_0 x36_0 (.s .n (.s (.b (.s .n (.s (.s .n (.b (.l h36_1 x36_1 .n))) .n))) .n))))) .n)))))))
noncomputable def b36_1:DCode:=sb [1,1,1,1,1,1,0,1,2,2,1,0,2,1,0,1,2,2] c36
noncomputable def b36_0:DCode:=sb [1,1,1,1,1,1,0,1,2,2] c36
noncomputable def s36_1 (T:List FEnt):Y519:=dstep (xs:=x36_1) h36_1 (dxc T b36_1)
noncomputable def l36_1 (T:List FEnt):Y509:=whileF (s36_1 T)
noncomputable def q36_1 (F53:Y397)(F19:Y396)(F20:Y215)(F58:Y501)(F59:Y450)(a0:Int)(a1:Int)(a2:Int)(a3:Int)(a4:Int)(a5:Y42)(a6:Y12)(a7:Y22):Option Y514:=
cond (decide (a4 < (↑(List.length a5.2.2.2.1):Int))) (
chk (inR a4 (List.length a5.2.2.2.1)) (
(F59 (a5,(ix a5.2.2.2.1 a4),a6,a7)).bind fun(r5:Bool)=>(
cond r5 (
cond (decide ((ix a5.2.2.2.1 a4).2.2.2.1≤a2)) (
chk (fits .i64 ((ix a5.2.2.2.1 a4).2.2.2.2+(1:Int))) (
chk (fits .i64 (a4+(1:Int))) (
some (Sum.inl (a0,a1,a2,(max a3 ((ix a5.2.2.2.1 a4).2.2.2.2+(1:Int))),(a4+(1:Int)),a5,a6,a7))))) (
chk (fits .i64 (a4+(1:Int))) (
some (Sum.inl (a0,a1,a2,a3,(a4+(1:Int)),a5,a6,a7))))) (
chk (fits .i64 (a4+(1:Int))) (
some (Sum.inl (a0,a1,a2,a3,(a4+(1:Int)),a5,a6,a7))))))) (
some (Sum.inr (a0,a1,a3,a5,a6,a7)))
theorem g36_1 (F53:Y397)(F19:Y396)(F20:Y215)(F58:Y501)(F59:Y450)(a0:Int)(a1:Int)(a2:Int)(a3:Int)(a4:Int)(a5:Y42)(a6:Y12)(a7:Y22):s36_1 (T36 F53 F19 F20 F58 F59) (a0,a1,a2,a3,a4,a5,a6,a7)=q36_1 F53 F19 F20 F58 F59 a0 a1 a2 a3 a4 a5 a6 a7:=by kernel_rfl
noncomputable def p36_1 (a0:Int)(a1:Int)(a2:Int)(a3:Int)(a4:Int)(a5:Y42)(a6:Y12)(a7:Y22):Option Y514:=q36_1 P53 P19 P20 P58 P59 a0 a1 a2 a3 a4 a5 a6 a7
noncomputable def L36_1:Y509:=whileF (fun x=>p36_1 x.1 x.2.1 x.2.2.1 x.2.2.2.1 x.2.2.2.2.1 x.2.2.2.2.2.1 x.2.2.2.2.2.2.1 x.2.2.2.2.2.2.2)
theorem v36_1:l36_1 (T36 P53 P19 P20 P58 P59) =L36_1:=congrArg whileF (funext fun x=>(g36_1 P53 P19 P20 P58 P59 x.1 x.2.1 x.2.2.1 x.2.2.2.1 x.2.2.2.2.1 x.2.2.2.2.2.1 x.2.2.2.2.2.2.1 x.2.2.2.2.2.2.2).trans (show q36_1 P53 P19 P20 P58 P59 x.1 x.2.1 x.2.2.1 x.2.2.2.1 x.2.2.2.2.1 x.2.2.2.2.2.1 x.2.2.2.2.2.2.1 x.2.2.2.2.2.2.2=q36_1 P53 P19 P20 P58 P59 x.1 x.2.1 x.2.2.1 x.2.2.2.1 x.2.2.2.2.1 x.2.2.2.2.2.1 x.2.2.2.2.2.2.1 x.2.2.2.2.2.2.2 from rfl))
noncomputable def s36_0 (T:List FEnt):Y520:=dstep (xs:=x36_0) h36_0 (dxc T b36_0)
noncomputable def l36_0 (T:List FEnt):Y510:=whileF (s36_0 T)
noncomputable def q36_0 (F53:Y397)(F19:Y396)(F20:Y215)(F58:Y501)(F59:Y450)(l36_1:Y509)(a0:Int)(a1:Int)(a2:Int)(a3:Y42)(a4:Y12)(a5:Y22):Option Y515:=
chk (fits .i64 (a0+a4.2.2.2.2.1)) (
cond (decide (a2 < (a0+a4.2.2.2.2.1))) (
cond a4.2.2.2.2.2.1 (
(l36_1 (a0,a1,a2,a2,(0:Int),a3,a4,a5)).bind fun(y6:Y504)=>(
chk (fits .i64 (y6.2.1+(1:Int))) (
some (Sum.inl (y6.1,(y6.2.1+(1:Int)),y6.2.2.1,y6.2.2.2.1,y6.2.2.2.2.1,y6.2.2.2.2.2))))) (
some (Sum.inr (a1,a3,a4,a5)))) (
some (Sum.inr (a1,a3,a4,a5))))
theorem g36_0 (F53:Y397)(F19:Y396)(F20:Y215)(F58:Y501)(F59:Y450)(a0:Int)(a1:Int)(a2:Int)(a3:Y42)(a4:Y12)(a5:Y22):s36_0 (T36 F53 F19 F20 F58 F59) (a0,a1,a2,a3,a4,a5)=q36_0 F53 F19 F20 F58 F59 (l36_1 (T36 F53 F19 F20 F58 F59)) a0 a1 a2 a3 a4 a5:=by kernel_rfl
noncomputable def p36_0 (a0:Int)(a1:Int)(a2:Int)(a3:Y42)(a4:Y12)(a5:Y22):Option Y515:=q36_0 P53 P19 P20 P58 P59 L36_1 a0 a1 a2 a3 a4 a5
noncomputable def L36_0:Y510:=whileF (fun x=>p36_0 x.1 x.2.1 x.2.2.1 x.2.2.2.1 x.2.2.2.2.1 x.2.2.2.2.2)
theorem v36_0:l36_0 (T36 P53 P19 P20 P58 P59) =L36_0:=congrArg whileF (funext fun x=>(g36_0 P53 P19 P20 P58 P59 x.1 x.2.1 x.2.2.1 x.2.2.2.1 x.2.2.2.2.1 x.2.2.2.2.2).trans (show q36_0 P53 P19 P20 P58 P59 (l36_1 (T36 P53 P19 P20 P58 P59)) x.1 x.2.1 x.2.2.1 x.2.2.2.1 x.2.2.2.2.1 x.2.2.2.2.2=q36_0 P53 P19 P20 P58 P59 L36_1 x.1 x.2.1 x.2.2.1 x.2.2.2.1 x.2.2.2.2.1 x.2.2.2.2.2 from by rw[v36_1]))
theorem ok36:L.Fn Tryz.prog 36 96 [(.t 8),(.t 9)] (erase c36):=Fn.ofA hmix Tryz.func36 _ _ (by kernel_rfl)
def sh36:FSh:=⟨⟨[(.st y91),(.v y13),(.v y13),(.v y13)],[]⟩,[y91,y13,y13,y13],0,⟨⟨[(.tup [(.v y13),(.v y13)])],[]⟩,[y13,y13],[],0⟩,true⟩
noncomputable def q36 (F53:Y397)(F19:Y396)(F20:Y215)(F58:Y501)(F59:Y450)(l36_0:Y510)(a0:Y42)(a1:Int)(a2:Int)(a3:Int):Option Y1:=
(F53 (a0,a1,a2,a3)).bind fun(r1:Int)=>(
cond (!decide (r1=(0:Int))) (
some ((0:Int),r1)) (
(F19 (a0,a1)).bind fun(r2:Y12×Bool)=>(
(F20 (a0,a2)).bind fun(r3:Y22×Bool)=>(
(F58 (a0,r2.1,r3.1,a3)).bind fun(r4:Int×Int)=>(
cond (!decide (r4.1=(0:Int))) (
some ((0:Int),(3:Int))) (
(l36_0 (a3,(0:Int),a3,a0,r2.1,r3.1)).bind fun(y7:Y500)=>(
some (y7.1,(0:Int)))))))))
theorem g36 (F53:Y397)(F19:Y396)(F20:Y215)(F58:Y501)(F59:Y450)(a0:Y42)(a1:Int)(a2:Int)(a3:Int):dxf (T36 F53 F19 F20 F58 F59) sh36 [(.t 8),(.t 9)] c36 (a0,a1,a2,a3)=q36 F53 F19 F20 F58 F59 (l36_0 (T36 F53 F19 F20 F58 F59)) a0 a1 a2 a3:=by kernel_rfl
noncomputable def p36 (a0:Y42)(a1:Int)(a2:Int)(a3:Int):Option Y1:=q36 P53 P19 P20 P58 P59 L36_0 a0 a1 a2 a3
noncomputable def P36:Y356:=fun x=>p36 x.1 x.2.1 x.2.2.1 x.2.2.2
theorem v36:dxf (T36 P53 P19 P20 P58 P59) sh36 [(.t 8),(.t 9)] c36=P36:=funext fun x=>(g36 P53 P19 P20 P58 P59 x.1 x.2.1 x.2.2.1 x.2.2.2).trans (show q36 P53 P19 P20 P58 P59 (l36_0 (T36 P53 P19 P20 P58 P59)) x.1 x.2.1 x.2.2.1 x.2.2.2=q36 P53 P19 P20 P58 P59 L36_0 x.1 x.2.1 x.2.2.1 x.2.2.2 from by rw[v36_0])
theorem d36:DC Tryz.prog 36 sh36 P36:=DC_eq v36 (dxf_sound (sh:=sh36) t36 ok36 (by kernel_rfl))
end Go.Proofs.YtdacabdocbhkdaaGreat.D
