/- Cut down from a longer text. -/
import Derived.Test.YtdacabdocbhkdaaGreatG7m
import Derived.Test.YtdacabdocbhkdaaGreatProg
set_option linter.unusedVariables false
set_option maxRecDepth 100000
namespace Go.Proofs.YtdacabdocbhkdaaGreat.D
open Go Go.Proofs L
noncomputable def T32 (F56:Y425)(F57:Y436)(F31:Y94):List FEnt:=[⟨56,sh56,F56⟩,⟨57,sh57,F57⟩,⟨31,sh31,F31⟩]
theorem t32:DTblOK Tryz.prog (T32 P56 P57 P31):=(DTbl_cons' d56 (by kernel_rfl) (DTbl_cons' d57 (by kernel_rfl) (DTbl_cons' d31 (by kernel_rfl) DTbl_nil)))
def h32_0:LSh:=⟨[2,3,5],⟨[(.ptr 0 0),(.ptr 1 0),(.v y13)],[(0,(.boxT y91)),(1,(.boxT y91))]⟩,[y13,y91,y91],2,[0,1]⟩
def x32_0:List XSh:=[⟨.ret,[4],⟨⟨[(.v .bool)],[(0,(.boxT y91)),(1,(.boxT y91))]⟩,[.bool,y91,y91],[0,1],2⟩⟩,⟨(.exit 0),[2,3],⟨⟨[(.ptr 0 0),(.ptr 1 0)],[(0,(.boxT y91)),(1,(.boxT y91))]⟩,[y91,y91],[0,1],2⟩⟩]
def h32_1:LSh:=⟨[2,3,8],⟨[(.ptr 0 0),(.ptr 1 0),(.v y13)],[(0,(.boxT y91)),(1,(.boxT y91))]⟩,[y13,y91,y91],2,[0,1]⟩
def x32_1:List XSh:=[⟨.ret,[4],⟨⟨[(.v .bool)],[(0,(.boxT y91)),(1,(.boxT y91))]⟩,[.bool,y91,y91],[0,1],2⟩⟩,⟨(.exit 2),[],⟨⟨[],[(0,(.boxT y91)),(1,(.boxT y91))]⟩,[y91,y91],[0,1],2⟩⟩]
noncomputable def c32:=anF Tryz.prog [(6,{ch:=[0,1,0,0,1,0,1,0,0,1,0,0,0,0],rs:=[2,3] }),(12,{ch:=[0,1,0,0,1,0,1,0,0,1,0,0,0,0],rs:=[2,3] })] Tryz.f32 (.s .n (.s .n (.s (.s .n (.b (.l h32_0 x32_0 .n))) (.s (.s .n (.b (.l h32_1 x32_1 .n))) .n))))
noncomputable def s32_0 (T:List FEnt):=dstep (xs:=x32_0) h32_0 (dxc T (sb [1,1,0,1,2,2] c32))
noncomputable def l32_0 (T:List FEnt):=whileF (s32_0 T)
noncomputable def q32_0 (F56:Y425)(F57:Y436)(F31:Y94)(a0:Int)(a1 a2:Y42):Option Y485:=
cond (decide (a0 < (↑a1.2.1.length:Int))) (
chk (inR a0 a1.2.1.length) (
chk (inR a0 a2.2.1.length) (
cond (!decide ((ix a1.2.1 a0).1=(ix a2.2.1 a0).1)) (
some (Sum.inr (Sum.inl (false,a1,a2)))) (
cond (!decide ((ix a1.2.1 a0).2.1=(ix a2.2.1 a0).2.1)) (
some (Sum.inr (Sum.inl (false,a1,a2)))) (
cond (!decide ((ix a1.2.1 a0).2.2.1=(ix a2.2.1 a0).2.2.1)) (
some (Sum.inr (Sum.inl (false,a1,a2)))) (
cond (!decide ((ix a1.2.1 a0).2.2.2.1=(ix a2.2.1 a0).2.2.2.1)) (
some (Sum.inr (Sum.inl (false,a1,a2)))) (
cond (!decide ((ix a1.2.1 a0).2.2.2.2.1=(ix a2.2.1 a0).2.2.2.2.1)) (
some (Sum.inr (Sum.inl (false,a1,a2)))) (
cond (((ix a1.2.1 a0).2.2.2.2.2.1)!=((ix a2.2.1 a0).2.2.2.2.2.1)) (
some (Sum.inr (Sum.inl (false,a1,a2)))) (
(F31 ((ix a1.2.1 a0).2.2.2.2.2.2,(ix a2.2.1 a0).2.2.2.2.2.2)).bind fun r4=>(
cond (!r4) (
some (Sum.inr (Sum.inl (false,a1,a2)))) (
chk (fits .i64 (a0+1)) (
some (Sum.inl ((a0+1),a1,a2)))))))))))))) (
some (Sum.inr (Sum.inr (a1,a2))))
theorem g32_0 (F56:Y425)(F57:Y436)(F31:Y94)(a0:Int)(a1 a2:Y42):s32_0 (T32 F56 F57 F31) (a0,a1,a2)=q32_0 F56 F57 F31 a0 a1 a2:=by kernel_rfl
noncomputable def p32_0:=q32_0 P56 P57 P31
noncomputable def L32_0:Y483:=whileF (fun x=>p32_0 x.1 x.2.1 x.2.2)
theorem v32_0:l32_0 (T32 P56 P57 P31) =L32_0:=congrArg whileF (funext fun x=>(g32_0 P56 P57 P31 x.1 x.2.1 x.2.2))
noncomputable def s32_1 (T:List FEnt):=dstep (xs:=x32_1) h32_1 (dxc T (sb [1,1,1,0,1,2,2] c32))
noncomputable def l32_1 (T:List FEnt):=whileF (s32_1 T)
noncomputable def q32_1 (F56:Y425)(F57:Y436)(F31:Y94)(a0:Int)(a1 a2:Y42):Option Y485:=
cond (decide (a0 < (↑a1.2.2.1.length:Int))) (
chk (inR a0 a1.2.2.1.length) (
chk (inR a0 a2.2.2.1.length) (
cond (!decide ((ix a1.2.2.1 a0).1=(ix a2.2.2.1 a0).1)) (
some (Sum.inr (Sum.inl (false,a1,a2)))) (
(F31 ((ix a1.2.2.1 a0).2.1,(ix a2.2.2.1 a0).2.1)).bind fun r8=>(
cond (!r8) (
some (Sum.inr (Sum.inl (false,a1,a2)))) (
(F56 ((ix a1.2.2.1 a0).2.2,(ix a2.2.2.1 a0).2.2)).bind fun r9=>(
cond (!r9) (
some (Sum.inr (Sum.inl (false,a1,a2)))) (
chk (fits .i64 (a0+1)) (
some (Sum.inl ((a0+1),a1,a2))))))))))) (
some (Sum.inr (Sum.inr (a1,a2))))
theorem g32_1 (F56:Y425)(F57:Y436)(F31:Y94)(a0:Int)(a1 a2:Y42):s32_1 (T32 F56 F57 F31) (a0,a1,a2)=q32_1 F56 F57 F31 a0 a1 a2:=by kernel_rfl
noncomputable def p32_1:=q32_1 P56 P57 P31
noncomputable def L32_1:Y483:=whileF (fun x=>p32_1 x.1 x.2.1 x.2.2)
theorem v32_1:l32_1 (T32 P56 P57 P31) =L32_1:=congrArg whileF (funext fun x=>(g32_1 P56 P57 P31 x.1 x.2.1 x.2.2))
theorem ok32:L.Fn Tryz.prog 32 154 [(.t 4)] (erase c32):=Fn.ofA hmix Tryz.func32 _ _ (by kernel_rfl)
def sh32:FSh:=⟨⟨[(.st y91),(.st y91)],[]⟩,[y91,y91],0,⟨⟨[(.v .bool)],[]⟩,[.bool],[],0⟩,true⟩
noncomputable def q32 (F56:Y425)(F57:Y436)(F31:Y94)(l32_0 l32_1:Y483)(a0 a1:Y42):Option Bool:=
(F56 (a0.1,a1.1)).bind fun r1=>(
cond (!r1) (
some false) (
cond (!decide ((↑a0.2.1.length:Int)=(↑a1.2.1.length:Int))) (
some false) (
cond (!decide ((↑a0.2.2.1.length:Int)=(↑a1.2.2.1.length:Int))) (
some false) (
(F57 (a0.2.2.2.1,a1.2.2.2.1)).bind fun r2=>(
cond (!r2) (
some false) (
(F31 (a0.2.2.2.2,a1.2.2.2.2)).bind fun r3=>(
cond (!r3) (
some false) (
(l32_0 (0,a0,a1)).bind (fun y5=>Sum.elim (fun y6=>(
some y6.1)) (fun y7=>(
(l32_1 (0,y7.1,y7.2)).bind (fun y10=>Sum.elim (fun y11=>(
some y11.1)) (fun y12=>(
some true)) y10))) y5)))))))))
theorem g32 (F56:Y425)(F57:Y436)(F31:Y94)(a0 a1:Y42):dxf (T32 F56 F57 F31) sh32 [(.t 4)] c32 (a0,a1)=q32 F56 F57 F31 (l32_0 (T32 F56 F57 F31)) (l32_1 (T32 F56 F57 F31)) a0 a1:=by kernel_rfl
noncomputable def p32:=q32 P56 P57 P31 L32_0 L32_1
noncomputable def P32:Y476:=fun x=>p32 x.1 x.2
theorem v32:dxf (T32 P56 P57 P31) sh32 [(.t 4)] c32=P32:=funext fun x=>(g32 P56 P57 P31 x.1 x.2).trans (by rw[v32_0,v32_1] <;> rfl)
theorem d32:DC Tryz.prog 32 sh32 P32:=DC_eq v32 (dxf_sound t32 ok32 (by kernel_rfl))
noncomputable def T8 (F27:Y44)(F15:Y323)(F25:Y361)(F28:Y198)(F26:Y198)(F22:Y357)(F29:Y357)(F21:Y447)(F30:Y454)(F31:Y94)(F32:Y476):List FEnt:=[⟨27,sh27,F27⟩,⟨15,sh15,F15⟩,⟨25,sh25,F25⟩,⟨28,sh28,F28⟩,⟨26,sh26,F26⟩,⟨22,sh22,F22⟩,⟨29,sh29,F29⟩,⟨21,sh21,F21⟩,⟨30,sh30,F30⟩,⟨31,sh31,F31⟩,⟨32,sh32,F32⟩]
theorem t8:DTblOK Tryz.prog (T8 P27 P15 P25 P28 P26 P22 P29 P21 P30 P31 P32):=(DTbl_cons' d27 (by kernel_rfl) (DTbl_cons' d15 (by kernel_rfl) (DTbl_cons' d25 (by kernel_rfl) (DTbl_cons' d28 (by kernel_rfl) (DTbl_cons' d26 (by kernel_rfl) (DTbl_cons' d22 (by kernel_rfl) (DTbl_cons' d29 (by kernel_rfl) (DTbl_cons' d21 (by kernel_rfl) (DTbl_cons' d30 (by kernel_rfl) (DTbl_cons' d31 (by kernel_rfl) (DTbl_cons' d32 (by kernel_rfl) DTbl_nil)))))))))))
def h8_0:LSh:=⟨[2,5,10,12,14],⟨[(.ptr 0 0),(.ptr 1 0),(.v y35),(.slc 2),(.v y13)],[(0,(.boxT y91)),(1,(.boxT y91)),(2,(.row 55 y24))]⟩,[y35,y13,y91,y91,y35],3,[0,1,2]⟩
def x8_0:List XSh:=[⟨.ret,[4],⟨⟨[(.v .bool)],[(0,(.boxT y91)),(1,(.boxT y91)),(2,(.row 55 y24))]⟩,[.bool,y91,y91,y35],[0,1,2],3⟩⟩,⟨(.exit 0),[2,5],⟨⟨[(.ptr 0 0),(.ptr 1 0)],[(0,(.boxT y91)),(1,(.boxT y91)),(2,(.row 55 y24))]⟩,[y91,y91,y35],[0,1,2],3⟩⟩]
noncomputable def c8:=anF Tryz.prog [(4,{ch:=[0,0,1,0,0],rs:=[2],ord:=[0,2,1,3,4] })] Tryz.f8 (.s .n (.s .n (.s .n (.s .n (.s .n (.s .n (.s (.r [.f 5 19 [0],.f 5 19 [1],.f 5 19 [2],.f 5 19 [3],.f 5 19 [4]]) (.s .n (.s .n (.s (.s .n (.b (.l h8_0 x8_0 .n))) .n))))))))))
noncomputable def s8_0 (T:List FEnt):=dstep (xs:=x8_0) h8_0 (dxc T (sb [1,1,1,1,1,1,1,1,1,0,1,2,2] c8))
noncomputable def l8_0 (T:List FEnt):=whileF (s8_0 T)
noncomputable def q8_0 (F27:Y44)(F15:Y323)(F25:Y361)(F28 F26:Y198)(F22 F29:Y357)(F21:Y447)(F30:Y454)(F31:Y94)(F32:Y476)(a0:List Y1)(a1:Int)(a2 a3:Y42)(a4:List Y1):Option Y486:=
cond (decide (a1 < (↑a0.length:Int))) (
chk (inR a1 a0.length) (
chk (inR a1 a4.length) (
cond (!(decide ((ix a0 a1).1=(ix a4 a1).1)&&decide ((ix a0 a1).2=(ix a4 a1).2))) (
some (Sum.inr (Sum.inl (false,a2,a3,a4)))) (
chk (fits .i64 (a1+1)) (
some (Sum.inl (a0,(a1+1),a2,a3,a4))))))) (
some (Sum.inr (Sum.inr (a2,a3,a4))))
theorem g8_0 (F27:Y44)(F15:Y323)(F25:Y361)(F28 F26:Y198)(F22 F29:Y357)(F21:Y447)(F30:Y454)(F31:Y94)(F32:Y476)(a0:List Y1)(a1:Int)(a2 a3:Y42)(a4:List Y1):s8_0 (T8 F27 F15 F25 F28 F26 F22 F29 F21 F30 F31 F32) (a0,a1,a2,a3,a4)=q8_0 F27 F15 F25 F28 F26 F22 F29 F21 F30 F31 F32 a0 a1 a2 a3 a4:=by kernel_rfl
noncomputable def p8_0:=q8_0 P27 P15 P25 P28 P26 P22 P29 P21 P30 P31 P32
noncomputable def L8_0:Y484:=whileF (fun x=>p8_0 x.1 x.2.1 x.2.2.1 x.2.2.2.1 x.2.2.2.2)
theorem v8_0:l8_0 (T8 P27 P15 P25 P28 P26 P22 P29 P21 P30 P31 P32) =L8_0:=congrArg whileF (funext fun x=>(g8_0 P27 P15 P25 P28 P26 P22 P29 P21 P30 P31 P32 x.1 x.2.1 x.2.2.1 x.2.2.2.1 x.2.2.2.2))
theorem ok8:L.Fn Tryz.prog 8 103 [(.t 4)] (erase c8):=Fn.ofA hmix Tryz.func8 _ _ (by kernel_rfl)
def sh8:FSh:=⟨⟨[(.st y91),(.st y473)],[]⟩,[y91,y473],0,⟨⟨[(.v .bool)],[]⟩,[.bool],[],0⟩,true⟩
noncomputable def q8 (F27:Y44)(F15:Y323)(F25:Y361)(F28 F26:Y198)(F22 F29:Y357)(F21:Y447)(F30:Y454)(F31:Y94)(F32:Y476)(l8_0:Y484)(a0:Y42)(a1:Y274):Option Bool:=
(F27 a0).bind fun r1=>(
cond r1 (
(F15 ()).bind fun r2=>(
some r2)) (
(F25 a0).bind fun r3=>(
(F28 r3).bind fun r4=>(
(F26 a0).bind fun r5=>(
cond (!decide (r4=r5)) (
some false) (
(F22 (r3,a1.1,a1.2.1)).bind fun r6=>(
(F29 (a0,a1.1,a1.2.1)).bind fun r7=>(
(F21 (r3,a1.1,a1.2.1)).bind fun r8=>(
(F30 (a0,a1.1,a1.2.1)).bind fun r9=>(
(F31 (r6.2,r7.2)).bind fun r10=>(
cond (!r10) (
some false) (
cond (!decide (r6.1=r7.1)) (
some false) (
cond (!decide ((↑r8.1.length:Int)=(↑r9.2.length:Int))) (
some false) (
cond (!decide (r8.2=r9.1)) (
some false) (
(l8_0 (r8.1,0,a0,r3,r9.2)).bind (fun y11=>Sum.elim (fun y12=>(
some y12.1)) (fun y13=>(
(F32 (y13.2.1,y13.1)).bind fun r14=>(
cond r14 (
(F15 ()).bind fun r15=>(
some r15)) (
some false)))) y11))))))))))))))))
theorem g8 (F27:Y44)(F15:Y323)(F25:Y361)(F28 F26:Y198)(F22 F29:Y357)(F21:Y447)(F30:Y454)(F31:Y94)(F32:Y476)(a0:Y42)(a1:Y274):dxf (T8 F27 F15 F25 F28 F26 F22 F29 F21 F30 F31 F32) sh8 [(.t 4)] c8 (a0,a1)=q8 F27 F15 F25 F28 F26 F22 F29 F21 F30 F31 F32 (l8_0 (T8 F27 F15 F25 F28 F26 F22 F29 F21 F30 F31 F32)) a0 a1:=by kernel_rfl
noncomputable def p8:=q8 P27 P15 P25 P28 P26 P22 P29 P21 P30 P31 P32 L8_0
noncomputable def P8:Y479:=fun x=>p8 x.1 x.2
theorem v8:dxf (T8 P27 P15 P25 P28 P26 P22 P29 P21 P30 P31 P32) sh8 [(.t 4)] c8=P8:=funext fun x=>(g8 P27 P15 P25 P28 P26 P22 P29 P21 P30 P31 P32 x.1 x.2).trans (by rw[v8_0] <;> rfl)
theorem d8:DC Tryz.prog 8 sh8 P8:=DC_eq v8 (dxf_sound t8 ok8 (by kernel_rfl))
end Go.Proofs.YtdacabdocbhkdaaGreat.D
