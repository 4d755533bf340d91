/- Cut down from a longer text. -/
import Derived.Test.YtdacabdocbhkdaaGreatG8f
import Derived.Test.YtdacabdocbhkdaaGreatProg
set_option linter.unusedVariables false
set_option maxRecDepth 100000
namespace Go.Proofs.YtdacabdocbhkdaaGreat.D
open Go Go.Proofs Go.Proofs.YtdacabdocbhkdaaGreat.L
noncomputable def T58 (F54:Y446)(F24:Y8)(F59:Y450)(F55:Y453):List FEnt:=[⟨54,sh54,F54⟩,⟨24,sh24,F24⟩,⟨59,sh59,F59⟩,⟨55,sh55,F55⟩]
theorem t58:DTblOK Tryz.prog (T58 P54 P24 P59 P55):=(DTbl_cons' d54 (by kernel_rfl) (DTbl_cons' d24 (by kernel_rfl) (DTbl_cons' d59 (by kernel_rfl) (DTbl_cons' d55 (by kernel_rfl) DTbl_nil))))
def h58_0:LSh:=⟨[3,4,5,6,11,12,13],⟨[(.v y13),(.ptr 0 0),(.ptr 1 0),(.ptr 2 0),(.v y13),(.v .bool),(.v y13)],[(0,(.boxT y91)),(1,(.boxT y87)),(2,(.boxT y67))]⟩,[y13,y13,.bool,y13,y91,y87,y67],3,[0,1,2]⟩
def x58_0:List XSh:=[⟨(.exit 0),[3,4,5,6,11,12],⟨⟨[(.v y13),(.ptr 0 0),(.ptr 1 0),(.ptr 2 0),(.v y13),(.v .bool)],[(0,(.boxT y91)),(1,(.boxT y87)),(2,(.boxT y67))]⟩,[y13,y13,.bool,y91,y87,y67],[0,1,2],3⟩⟩]
def h58_1:LSh:=⟨[3,4,5,6,11,12,15],⟨[(.v y13),(.ptr 0 0),(.ptr 1 0),(.ptr 2 0),(.v y13),(.v .bool),(.v y13)],[(0,(.boxT y91)),(1,(.boxT y87)),(2,(.boxT y67))]⟩,[y13,y13,.bool,y13,y91,y87,y67],3,[0,1,2]⟩
def x58_1:List XSh:=[⟨.ret,[8,9],⟨⟨[(.v y13),(.v y13)],[(0,(.boxT y91)),(1,(.boxT y87)),(2,(.boxT y67))]⟩,[y13,y13,y91,y87,y67],[0,1,2],3⟩⟩,⟨(.exit 2),[3,4,5,6],⟨⟨[(.v y13),(.ptr 0 0),(.ptr 1 0),(.ptr 2 0)],[(0,(.boxT y91)),(1,(.boxT y87)),(2,(.boxT y67))]⟩,[y13,y91,y87,y67],[0,1,2],3⟩⟩]
def h58_2:LSh:=⟨[3,5,16,17],⟨[(.v y13),(.ptr 0 0),(.slc 1),(.v y13)],[(0,(.boxT y87)),(1,(.row 4 .bool))]⟩,[y13,y13,y87,y422],2,[0,1]⟩
def x58_2:List XSh:=[⟨.ret,[8,9],⟨⟨[(.v y13),(.v y13)],[(0,(.boxT y87)),(1,(.row 4 .bool))]⟩,[y13,y13,y87,y422],[0,1],2⟩⟩,⟨(.exit 4),[3,5],⟨⟨[(.v y13),(.ptr 0 0)],[(0,(.boxT y87)),(1,(.row 4 .bool))]⟩,[y13,y87,y422],[0,1],2⟩⟩]
noncomputable def c58:DCode:=anF Tryz.prog [] Tryz.f58 (.s .n (.s .n (.s .n (.s (.s .n (.b (.l h58_0 x58_0 .n))) (.s .n (.s (.s .n (.b (.l h58_1 x58_1 .n))) (.s .n (.s (.s .n (.b (.l h58_2 x58_2 .n))) .n))))))))
noncomputable def s58_0 (T:List FEnt):Y516:=dstep (xs:=x58_0) h58_0 (dxc T (sb [1,1,1,0,1,2,2] c58))
noncomputable def l58_0 (T:List FEnt):Y508:=whileF (s58_0 T)
noncomputable def q58_0 (F54:Y446)(F24:Y8)(F59:Y450)(F55:Y453)(a0 a1:Int)(a2:Bool)(a3:Int)(a4:Y42)(a5:Y12)(a6:Y22):Option Y511:=
cond (decide (a3 < (↑a4.2.2.2.1.length:Int))) (
chk (inR a3 a4.2.2.2.1.length) (
cond (decide ((ix a4.2.2.2.1 a3).2.1=a5.1)) (
(F24 (a4.2.2.2.2,(ix a4.2.2.2.1 a3).1)).bind fun r2=>(
cond (!r2) (
cond a2 (
cond (decide (a1 < 0)) (
chk (fits .i64 (a3+1)) (
some (Sum.inl (a0,a3,true,(a3+1),a4,a5,a6)))) (
chk (inR a1 a4.2.2.2.1.length) (
cond (decide ((ix a4.2.2.2.1 a3).1 < (ix a4.2.2.2.1 a1).1)) (
chk (fits .i64 (a3+1)) (
some (Sum.inl (a0,a3,true,(a3+1),a4,a5,a6)))) (
chk (fits .i64 (a3+1)) (
some (Sum.inl (a0,a1,true,(a3+1),a4,a5,a6))))))) (
(F59 (a4,(ix a4.2.2.2.1 a3),a5,a6)).bind fun r3=>(
cond (decide (a1 < 0)) (
chk (fits .i64 (a3+1)) (
some (Sum.inl (a0,a3,r3,(a3+1),a4,a5,a6)))) (
chk (inR a1 a4.2.2.2.1.length) (
cond (decide ((ix a4.2.2.2.1 a3).1 < (ix a4.2.2.2.1 a1).1)) (
chk (fits .i64 (a3+1)) (
some (Sum.inl (a0,a3,r3,(a3+1),a4,a5,a6)))) (
chk (fits .i64 (a3+1)) (
some (Sum.inl (a0,a1,r3,(a3+1),a4,a5,a6))))))))) (
chk (fits .i64 (a3+1)) (
some (Sum.inl (a0,a1,a2,(a3+1),a4,a5,a6)))))) (
chk (fits .i64 (a3+1)) (
some (Sum.inl (a0,a1,a2,(a3+1),a4,a5,a6)))))) (
some (Sum.inr (a0,a1,a2,a4,a5,a6)))
theorem g58_0 (F54:Y446)(F24:Y8)(F59:Y450)(F55:Y453)(a0 a1:Int)(a2:Bool)(a3:Int)(a4:Y42)(a5:Y12)(a6:Y22):s58_0 (T58 F54 F24 F59 F55) (a0,a1,a2,a3,a4,a5,a6)=q58_0 F54 F24 F59 F55 a0 a1 a2 a3 a4 a5 a6:=by kernel_rfl
noncomputable def p58_0:=q58_0 P54 P24 P59 P55
noncomputable def L58_0:Y508:=whileF (fun x=>p58_0 x.1 x.2.1 x.2.2.1 x.2.2.2.1 x.2.2.2.2.1 x.2.2.2.2.2.1 x.2.2.2.2.2.2)
theorem v58_0:l58_0 (T58 P54 P24 P59 P55) =L58_0:=congrArg whileF (funext fun x=>(g58_0 P54 P24 P59 P55 x.1 x.2.1 x.2.2.1 x.2.2.2.1 x.2.2.2.2.1 x.2.2.2.2.2.1 x.2.2.2.2.2.2))
noncomputable def s58_1 (T:List FEnt):Y522:=dstep (xs:=x58_1) h58_1 (dxc T (sb [1,1,1,1,1,0,1,2,2] c58))
noncomputable def l58_1 (T:List FEnt):Y517:=whileF (s58_1 T)
noncomputable def q58_1 (F54:Y446)(F24:Y8)(F59:Y450)(F55:Y453)(a0 a1:Int)(a2:Bool)(a3:Int)(a4:Y42)(a5:Y12)(a6:Y22):Option Y521:=
cond (decide (a3 < (↑a6.2.1.length:Int))) (
cond a5.2.2.2.2.2.1 (
cond (!a2) (
chk (inR a1 a4.2.2.2.1.length) (
chk (inR a3 a6.2.1.length) (
(F24 ((ix a4.2.2.2.1 a1).2.2.1,(ix a6.2.1 a3))).bind fun r5=>(
cond (!r5) (
chk (inR a3 a6.2.1.length) (
some (Sum.inr (Sum.inl (3,(ix a6.2.1 a3),a4,a5,a6))))) (
chk (fits .i64 (a3+1)) (
some (Sum.inl (a0,a1,a2,(a3+1),a4,a5,a6)))))))) (
some (Sum.inr (Sum.inr (a0,a4,a5,a6))))) (
some (Sum.inr (Sum.inr (a0,a4,a5,a6))))) (
some (Sum.inr (Sum.inr (a0,a4,a5,a6))))
theorem g58_1 (F54:Y446)(F24:Y8)(F59:Y450)(F55:Y453)(a0 a1:Int)(a2:Bool)(a3:Int)(a4:Y42)(a5:Y12)(a6:Y22):s58_1 (T58 F54 F24 F59 F55) (a0,a1,a2,a3,a4,a5,a6)=q58_1 F54 F24 F59 F55 a0 a1 a2 a3 a4 a5 a6:=by kernel_rfl
noncomputable def p58_1:=q58_1 P54 P24 P59 P55
noncomputable def L58_1:Y517:=whileF (fun x=>p58_1 x.1 x.2.1 x.2.2.1 x.2.2.2.1 x.2.2.2.2.1 x.2.2.2.2.2.1 x.2.2.2.2.2.2)
theorem v58_1:l58_1 (T58 P54 P24 P59 P55) =L58_1:=congrArg whileF (funext fun x=>(g58_1 P54 P24 P59 P55 x.1 x.2.1 x.2.2.1 x.2.2.2.1 x.2.2.2.2.1 x.2.2.2.2.2.1 x.2.2.2.2.2.2))
noncomputable def s58_2 (T:List FEnt):Y497:=dstep (xs:=x58_2) h58_2 (dxc T (sb [1,1,1,1,1,1,1,0,1,2,2] c58))
noncomputable def l58_2 (T:List FEnt):Y493:=whileF (s58_2 T)
noncomputable def q58_2 (F54:Y446)(F24:Y8)(F59:Y450)(F55:Y453)(a0 a1:Int)(a2:Y12)(a3:List Bool):Option Y495:=
chk (fits .i64 (a0+a2.2.2.2.2.1)) (
cond (decide (a1 < (a0+a2.2.2.2.2.1))) (
cond (decide (9999 < a1)) (
some (Sum.inr (Sum.inl (4,a1,a2,a3)))) (
chk (inR a1 a3.length) (
cond (!(ix a3 a1)) (
some (Sum.inr (Sum.inl (4,a1,a2,a3)))) (
chk (fits .i64 (a1+1)) (
some (Sum.inl (a0,(a1+1),a2,a3))))))) (
some (Sum.inr (Sum.inr (a0,a2,a3)))))
theorem g58_2 (F54:Y446)(F24:Y8)(F59:Y450)(F55:Y453)(a0 a1:Int)(a2:Y12)(a3:List Bool):s58_2 (T58 F54 F24 F59 F55) (a0,a1,a2,a3)=q58_2 F54 F24 F59 F55 a0 a1 a2 a3:=by kernel_rfl
noncomputable def p58_2:=q58_2 P54 P24 P59 P55
noncomputable def L58_2:Y493:=whileF (fun x=>p58_2 x.1 x.2.1 x.2.2.1 x.2.2.2)
theorem v58_2:l58_2 (T58 P54 P24 P59 P55) =L58_2:=congrArg whileF (funext fun x=>(g58_2 P54 P24 P59 P55 x.1 x.2.1 x.2.2.1 x.2.2.2))
theorem ok58:L.Fn Tryz.prog 58 142 [(.t 8),(.t 9)] (erase c58):=Fn.ofA hmix Tryz.func58 _ _ (by kernel_rfl)
def sh58:FSh:=⟨⟨[(.st y91),(.st y87),(.st y67),(.v y13)],[]⟩,[y91,y87,y67,y13],0,⟨⟨[(.tup [(.v y13),(.v y13)])],[]⟩,[y13,y13],[],0⟩,true⟩
noncomputable def q58 (F54:Y446)(F24:Y8)(F59:Y450)(F55:Y453)(l58_0:Y508)(l58_1:Y517)(l58_2:Y493)(a0:Y42)(a1:Y12)(a2:Y22)(a3:Int):Option Y1:=
(F54 (a0,a1,a2)).bind fun r1=>(
cond (decide (0 < (↑r1.length:Int))) (
chk (inR 0 r1.length) (
some (1,(ix r1 0)))) (
(l58_0 (a3,(-1),false,0,a0,a1,a2)).bind fun y4=>(
cond y4.2.2.2.2.1.2.2.2.2.2.1 (
cond (decide (y4.2.1 < 0)) (
some (2,(-1))) (
(l58_1 (y4.1,y4.2.1,y4.2.2.1,0,y4.2.2.2.1,y4.2.2.2.2.1,y4.2.2.2.2.2)).bind (fun y6=>Sum.elim (fun y7=>(
some (y7.1,y7.2.1))) (fun y8=>(
(F55 (y8.2.1,y8.2.2.1,y8.2.2.2)).bind fun r9=>(
(l58_2 (y8.1,y8.1,y8.2.2.1,r9)).bind (fun y10=>Sum.elim (fun y11=>(
some (y11.1,y11.2.1))) (fun y12=>(
chk (fits .i64 (y12.1+y12.2.1.2.2.2.2.1)) (
chk (fits .i64 ((y12.1+y12.2.1.2.2.2.2.1)-1)) (
some (0,((y12.1+y12.2.1.2.2.2.2.1)-1)))))) y10)))) y6))) (
(l58_1 (y4.1,y4.2.1,y4.2.2.1,0,y4.2.2.2.1,y4.2.2.2.2.1,y4.2.2.2.2.2)).bind (fun y13=>Sum.elim (fun y14=>(
some (y14.1,y14.2.1))) (fun y15=>(
(F55 (y15.2.1,y15.2.2.1,y15.2.2.2)).bind fun r16=>(
(l58_2 (y15.1,y15.1,y15.2.2.1,r16)).bind (fun y17=>Sum.elim (fun y18=>(
some (y18.1,y18.2.1))) (fun y19=>(
chk (fits .i64 (y19.1+y19.2.1.2.2.2.2.1)) (
chk (fits .i64 ((y19.1+y19.2.1.2.2.2.2.1)-1)) (
some (0,((y19.1+y19.2.1.2.2.2.2.1)-1)))))) y17)))) y13)))))
theorem g58 (F54:Y446)(F24:Y8)(F59:Y450)(F55:Y453)(a0:Y42)(a1:Y12)(a2:Y22)(a3:Int):dxf (T58 F54 F24 F59 F55) sh58 [(.t 8),(.t 9)] c58 (a0,a1,a2,a3)=q58 F54 F24 F59 F55 (l58_0 (T58 F54 F24 F59 F55)) (l58_1 (T58 F54 F24 F59 F55)) (l58_2 (T58 F54 F24 F59 F55)) a0 a1 a2 a3:=by kernel_rfl
noncomputable def p58:=q58 P54 P24 P59 P55 L58_0 L58_1 L58_2
noncomputable def P58:Y501:=fun x=>p58 x.1 x.2.1 x.2.2.1 x.2.2.2
theorem v58:dxf (T58 P54 P24 P59 P55) sh58 [(.t 8),(.t 9)] c58=P58:=funext fun x=>(g58 P54 P24 P59 P55 x.1 x.2.1 x.2.2.1 x.2.2.2).trans (by rw[v58_0,v58_1,v58_2] <;> rfl)
theorem d58:DC Tryz.prog 58 sh58 P58:=DC_eq v58 (dxf_sound t58 ok58 (by kernel_rfl))
end Go.Proofs.YtdacabdocbhkdaaGreat.D
