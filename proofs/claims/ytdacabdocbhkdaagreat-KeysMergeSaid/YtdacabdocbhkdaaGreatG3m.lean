/- Cut down from a longer text. -/
import Derived.Test.YtdacabdocbhkdaaGreatG2m
import Derived.Test.YtdacabdocbhkdaaGreatProg
set_option linter.unusedVariables false
set_option maxRecDepth 100000
namespace Go.Proofs.YtdacabdocbhkdaaGreat.D
open Go Go.Proofs L
noncomputable def T143:List FEnt:=[]
theorem t143:DTblOK Tryz.prog T143:=DTbl_nil
def h143_0:LSh:=⟨[0,8,9],⟨[(.slc 0),(.v y13),(.v y13)],[(0,(.row 55 y24))]⟩,[y13,y13,y35],1,[0]⟩
noncomputable def c143:=anF Tryz.prog [] Tryz.f143 (.s .n (.s .n (.b (.l h143_0 x139_0 .n))))
noncomputable def s143_0 (T:List FEnt):=dstep (xs:=x139_0) h143_0 (dxc T (sb [1,1,2,2] c143))
noncomputable def l143_0 (T:List FEnt):=whileF (s143_0 T)
noncomputable def q143_0 (a0 a1:Int)(a2:List Y1):Option Y248:=
cond (decide (a0 < a1)) (
chk (inR a1 a2.length) (
chk (inR a0 a2.length) (
chk (inR a0 a2.length) (
chk (inR a1 (List.length (List.set a2 a0.toNat (ix a2 a1)))) (
chk (fits .i64 (a0+1)) (
chk (fits .i64 (a1-1)) (
some (Sum.inl ((a0+1),(a1-1),(List.set (List.set a2 a0.toNat (ix a2 a1)) a1.toNat (ix a2 a0))))))))))) (
some (Sum.inr a2))
theorem g143_0 (a0 a1:Int)(a2:List Y1):s143_0 T143 (a0,a1,a2)=q143_0 a0 a1 a2:=by kernel_rfl
noncomputable def p143_0:=q143_0
noncomputable def L143_0:Y157:=whileF (fun x=>p143_0 x.1 x.2.1 x.2.2)
theorem v143_0:l143_0 T143=L143_0:=congrArg whileF (funext fun x=>(g143_0 x.1 x.2.1 x.2.2))
theorem ok143:L.Fn Tryz.prog 143 34 [] (erase c143):=Fn.ofA hmix Tryz.func143 _ _ (by kernel_rfl)
def sh143:FSh:=⟨⟨[(.slc 0),(.v y13),(.v y13),(.fn 77 [])],[(0,(.row 55 y24))]⟩,[y13,y13,y35],1,⟨⟨[(.tup [])],[(0,(.row 55 y24))]⟩,[y35],[0],1⟩,false⟩
noncomputable def q143 (l143_0:Y157)(a0 a1:Int)(a2:List Y1):Option Y14:=
chk (fits .i64 (a1-1)) (
(l143_0 (a0,(a1-1),a2)).bind fun y1=>(
some y1))
theorem g143 (a0 a1:Int)(a2:List Y1):dxf T143 sh143 [] c143 (a0,a1,a2)=q143 (l143_0 T143) a0 a1 a2:=by kernel_rfl
noncomputable def p143:=q143 L143_0
noncomputable def P143:Y157:=fun x=>p143 x.1 x.2.1 x.2.2
theorem v143:dxf T143 sh143 [] c143=P143:=funext fun x=>(g143 x.1 x.2.1 x.2.2).trans (by rw[v143_0] <;> rfl)
theorem d143:DC Tryz.prog 143 sh143 P143:=DC_eq v143 (dxf_sound t143 ok143 (by kernel_rfl))
noncomputable def T144 (F77:Y146):List FEnt:=[⟨77,sh77,F77⟩]
theorem t144:DTblOK Tryz.prog (T144 P77):=(DTbl_cons' d77 (by kernel_rfl) DTbl_nil)
def h144_1:LSh:=⟨[0,1,2,3,9,10],⟨[(.slc 0),(.v y13),(.v y13),(.fn 77 []),(.v y13),(.v y13)],[(0,(.row 55 y24))]⟩,[y13,y13,y13,y13,y35],1,[0]⟩
def x144_1:List XSh:=[⟨(.exit 2),[0,1,2,3,9,10],⟨⟨[(.slc 0),(.v y13),(.v y13),(.fn 77 []),(.v y13),(.v y13)],[(0,(.row 55 y24))]⟩,[y13,y13,y13,y13,y35],[0],1⟩⟩]
def h144_3:LSh:=⟨[0,1,2,3,9,10,11],⟨[(.slc 0),(.v y13),(.v y13),(.fn 77 []),(.v y13),(.v y13),(.v y13)],[(0,(.row 55 y24))]⟩,[y13,y13,y13,y13,y13,y35],1,[0]⟩
def x144_3:List XSh:=[⟨(.exit 4),[0,1,2,3,9,10],⟨⟨[(.slc 0),(.v y13),(.v y13),(.fn 77 []),(.v y13),(.v y13)],[(0,(.row 55 y24))]⟩,[y13,y13,y13,y13,y35],[0],1⟩⟩]
def x144_2:List XSh:=[⟨.normal,[0,1,2,3,9,10],⟨⟨[(.slc 0),(.v y13),(.v y13),(.fn 77 []),(.v y13),(.v y13)],[(0,(.row 55 y24))]⟩,[y13,y13,y13,y13,y35],[0],1⟩⟩]
def h144_4:LSh:=⟨[0,1,2,3,9,10,12],⟨[(.slc 0),(.v y13),(.v y13),(.fn 77 []),(.v y13),(.v y13),(.v y13)],[(0,(.row 55 y24))]⟩,[y13,y13,y13,y13,y13,y35],1,[0]⟩
def x144_4:List XSh:=[⟨(.exit 6),[0,1,2,3,9,10],⟨⟨[(.slc 0),(.v y13),(.v y13),(.fn 77 []),(.v y13),(.v y13)],[(0,(.row 55 y24))]⟩,[y13,y13,y13,y13,y35],[0],1⟩⟩]
def x144_0:List XSh:=[⟨.ret,[8],⟨⟨[(.v .bool)],[(0,(.row 55 y24))]⟩,[.bool,y35],[0],1⟩⟩,⟨(.exit 0),[],⟨⟨[],[(0,(.row 55 y24))]⟩,[y35],[0],1⟩⟩]
noncomputable def c144:=anF Tryz.prog [] Tryz.f144 (.s .n (.s .n (.s (.s .n (.b (.l h144_1 x144_0 (.s .n (.s (.b (.s (.b (.l h144_1 x144_1 .n)) (.s .n (.s .n (.s .n (.s (.o h144_1 x144_2 (.s .n (.s (.s .n (.b (.l h144_3 x144_3 .n))) .n))) (.s .n (.s (.s .n (.b (.l h144_4 x144_4 .n))) .n)))))))) .n))))) .n)))
noncomputable def s144_1 (T:List FEnt):=dstep (xs:=x144_1) h144_1 (dxc T (sb [1,1,0,1,2,2,1,0,2,0,2,2] c144))
noncomputable def l144_1 (T:List FEnt):=whileF (s144_1 T)
noncomputable def q144_1 (F77:Y146)(a0 a1 a2 a3:Int)(a4:List Y1):Option Y249:=
cond (decide (a2 < a1)) (
chk (inR a2 a4.length) (
chk (fits .i64 (a2-1)) (
chk (inR (a2-1) a4.length) (
(F77 ((ix a4 a2),(ix a4 (a2-1)))).bind fun r1=>(
cond (!(decide (r1 < 0))) (
chk (fits .i64 (a2+1)) (
some (Sum.inl (a0,a1,(a2+1),a3,a4)))) (
some (Sum.inr (a0,a1,a2,a3,a4)))))))) (
some (Sum.inr (a0,a1,a2,a3,a4)))
theorem g144_1 (F77:Y146)(a0 a1 a2 a3:Int)(a4:List Y1):s144_1 (T144 F77) (a0,a1,a2,a3,a4)=q144_1 F77 a0 a1 a2 a3 a4:=by kernel_rfl
noncomputable def p144_1:=q144_1 P77
noncomputable def L144_1:Y238:=whileF (fun x=>p144_1 x.1 x.2.1 x.2.2.1 x.2.2.2.1 x.2.2.2.2)
theorem v144_1:l144_1 (T144 P77) =L144_1:=congrArg whileF (funext fun x=>(g144_1 P77 x.1 x.2.1 x.2.2.1 x.2.2.2.1 x.2.2.2.2))
noncomputable def s144_3 (T:List FEnt):=dstep (xs:=x144_3) h144_3 (dxc T (sb [1,1,0,1,2,2,1,0,2,1,1,1,1,0,2,1,0,1,2,2] c144))
noncomputable def l144_3 (T:List FEnt):=whileF (s144_3 T)
noncomputable def q144_3 (F77:Y146)(a0 a1 a2 a3 a4:Int)(a5:List Y1):Option Y250:=
cond (decide (1≤a4)) (
chk (inR a4 a5.length) (
chk (fits .i64 (a4-1)) (
chk (inR (a4-1) a5.length) (
(F77 ((ix a5 a4),(ix a5 (a4-1)))).bind fun r3=>(
cond (!(decide (r3 < 0))) (
some (Sum.inr (a0,a1,a2,a3,a5))) (
chk (fits .i64 (a4-1)) (
chk (fits .i64 (a4-1)) (
chk (inR (a4-1) a5.length) (
chk (inR a4 a5.length) (
chk (inR a4 a5.length) (
chk (inR (a4-1) (List.length (List.set a5 a4.toNat (ix a5 (a4-1))))) (
chk (fits .i64 (a4-1)) (
some (Sum.inl (a0,a1,a2,a3,(a4-1),(List.set (List.set a5 a4.toNat (ix a5 (a4-1))) (Int.toNat (a4-1)) (ix a5 a4))))))))))))))))) (
some (Sum.inr (a0,a1,a2,a3,a5)))
theorem g144_3 (F77:Y146)(a0 a1 a2 a3 a4:Int)(a5:List Y1):s144_3 (T144 F77) (a0,a1,a2,a3,a4,a5)=q144_3 F77 a0 a1 a2 a3 a4 a5:=by kernel_rfl
noncomputable def p144_3:=q144_3 P77
noncomputable def L144_3:Y239:=whileF (fun x=>p144_3 x.1 x.2.1 x.2.2.1 x.2.2.2.1 x.2.2.2.2.1 x.2.2.2.2.2)
theorem v144_3:l144_3 (T144 P77) =L144_3:=congrArg whileF (funext fun x=>(g144_3 P77 x.1 x.2.1 x.2.2.1 x.2.2.2.1 x.2.2.2.2.1 x.2.2.2.2.2))
noncomputable def l144_2 (T:List FEnt):=onceF (xs:=x144_2) h144_1 (dxc T (sb [1,1,0,1,2,2,1,0,2,1,1,1,1,0,2] c144))
noncomputable def q144_2 (F77:Y146)(l144_3:Y239)(a0 a1 a2 a3:Int)(a4:List Y1):Option Y165:=
chk (fits .i64 (a2-a0)) (
cond (decide (2≤(a2-a0))) (
chk (fits .i64 (a2-1)) (
(l144_3 (a0,a1,a2,a3,(a2-1),a4)).bind fun y4=>(
some (y4.1,y4.2.1,y4.2.2.1,y4.2.2.2.1,y4.2.2.2.2)))) (
some (a0,a1,a2,a3,a4)))
theorem g144_2 (F77:Y146)(a0 a1 a2 a3:Int)(a4:List Y1):l144_2 (T144 F77) (a0,a1,a2,a3,a4)=q144_2 F77 (l144_3 (T144 F77)) a0 a1 a2 a3 a4:=by kernel_rfl
noncomputable def p144_2:=q144_2 P77 L144_3
noncomputable def L144_2:Y238:=fun x=>p144_2 x.1 x.2.1 x.2.2.1 x.2.2.2.1 x.2.2.2.2
theorem v144_2:l144_2 (T144 P77) =L144_2:=funext fun x=>(g144_2 P77 x.1 x.2.1 x.2.2.1 x.2.2.2.1 x.2.2.2.2).trans (by rw[v144_3] <;> rfl)
noncomputable def s144_4 (T:List FEnt):=dstep (xs:=x144_4) h144_4 (dxc T (sb [1,1,0,1,2,2,1,0,2,1,1,1,1,1,1,0,1,2,2] c144))
noncomputable def l144_4 (T:List FEnt):=whileF (s144_4 T)
noncomputable def q144_4 (F77:Y146)(a0 a1 a2 a3 a4:Int)(a5:List Y1):Option Y250:=
cond (decide (a4 < a1)) (
chk (inR a4 a5.length) (
chk (fits .i64 (a4-1)) (
chk (inR (a4-1) a5.length) (
(F77 ((ix a5 a4),(ix a5 (a4-1)))).bind fun r6=>(
cond (!(decide (r6 < 0))) (
some (Sum.inr (a0,a1,a2,a3,a5))) (
chk (fits .i64 (a4-1)) (
chk (fits .i64 (a4-1)) (
chk (inR (a4-1) a5.length) (
chk (inR a4 a5.length) (
chk (inR a4 a5.length) (
chk (inR (a4-1) (List.length (List.set a5 a4.toNat (ix a5 (a4-1))))) (
chk (fits .i64 (a4+1)) (
some (Sum.inl (a0,a1,a2,a3,(a4+1),(List.set (List.set a5 a4.toNat (ix a5 (a4-1))) (Int.toNat (a4-1)) (ix a5 a4))))))))))))))))) (
some (Sum.inr (a0,a1,a2,a3,a5)))
theorem g144_4 (F77:Y146)(a0 a1 a2 a3 a4:Int)(a5:List Y1):s144_4 (T144 F77) (a0,a1,a2,a3,a4,a5)=q144_4 F77 a0 a1 a2 a3 a4 a5:=by kernel_rfl
noncomputable def p144_4:=q144_4 P77
noncomputable def L144_4:Y239:=whileF (fun x=>p144_4 x.1 x.2.1 x.2.2.1 x.2.2.2.1 x.2.2.2.2.1 x.2.2.2.2.2)
theorem v144_4:l144_4 (T144 P77) =L144_4:=congrArg whileF (funext fun x=>(g144_4 P77 x.1 x.2.1 x.2.2.1 x.2.2.2.1 x.2.2.2.2.1 x.2.2.2.2.2))
noncomputable def s144_0 (T:List FEnt):=dstep (xs:=x144_0) h144_1 (dxc T (sb [1,1,0,1,2,2] c144))
noncomputable def l144_0 (T:List FEnt):=whileF (s144_0 T)
noncomputable def q144_0 (F77:Y146)(l144_1 l144_2:Y238)(l144_4:Y239)(a0 a1 a2 a3:Int)(a4:List Y1):Option Y269:=
cond (decide (a3 < 5)) (
(l144_1 (a0,a1,a2,a3,a4)).bind fun y2=>(
cond (decide (y2.2.2.1=y2.2.1)) (
some (Sum.inr (Sum.inl (true,y2.2.2.2.2)))) (
chk (fits .i64 (y2.2.1-y2.1)) (
cond (decide ((y2.2.1-y2.1) < 50)) (
some (Sum.inr (Sum.inl (false,y2.2.2.2.2)))) (
chk (fits .i64 (y2.2.2.1-1)) (
chk (fits .i64 (y2.2.2.1-1)) (
chk (inR (y2.2.2.1-1) y2.2.2.2.2.length) (
chk (inR y2.2.2.1 y2.2.2.2.2.length) (
chk (inR y2.2.2.1 y2.2.2.2.2.length) (
chk (inR (y2.2.2.1-1) (List.length (List.set y2.2.2.2.2 y2.2.2.1.toNat (ix y2.2.2.2.2 (y2.2.2.1-1))))) (
(l144_2 (y2.1,y2.2.1,y2.2.2.1,y2.2.2.2.1,(List.set (List.set y2.2.2.2.2 y2.2.2.1.toNat (ix y2.2.2.2.2 (y2.2.2.1-1))) (Int.toNat (y2.2.2.1-1)) (ix y2.2.2.2.2 y2.2.2.1)))).bind fun y5=>(
chk (fits .i64 (y5.2.1-y5.2.2.1)) (
cond (decide (2≤(y5.2.1-y5.2.2.1))) (
chk (fits .i64 (y5.2.2.1+1)) (
(l144_4 (y5.1,y5.2.1,y5.2.2.1,y5.2.2.2.1,(y5.2.2.1+1),y5.2.2.2.2)).bind fun y7=>(
chk (fits .i64 (y7.2.2.2.1+1)) (
some (Sum.inl (y7.1,y7.2.1,y7.2.2.1,(y7.2.2.2.1+1),y7.2.2.2.2)))))) (
chk (fits .i64 (y5.2.2.2.1+1)) (
some (Sum.inl (y5.1,y5.2.1,y5.2.2.1,(y5.2.2.2.1+1),y5.2.2.2.2))))))))))))))))) (
some (Sum.inr (Sum.inr a4)))
theorem g144_0 (F77:Y146)(a0 a1 a2 a3:Int)(a4:List Y1):s144_0 (T144 F77) (a0,a1,a2,a3,a4)=q144_0 F77 (l144_1 (T144 F77)) (l144_2 (T144 F77)) (l144_4 (T144 F77)) a0 a1 a2 a3 a4:=by kernel_rfl
noncomputable def p144_0:=q144_0 P77 L144_1 L144_2 L144_4
noncomputable def L144_0:Y261:=whileF (fun x=>p144_0 x.1 x.2.1 x.2.2.1 x.2.2.2.1 x.2.2.2.2)
theorem v144_0:l144_0 (T144 P77) =L144_0:=congrArg whileF (funext fun x=>(g144_0 P77 x.1 x.2.1 x.2.2.1 x.2.2.2.1 x.2.2.2.2).trans (by rw[v144_1,v144_2,v144_4] <;> rfl))
theorem ok144:L.Fn Tryz.prog 144 141 [(.t 8)] (erase c144):=Fn.ofA hmix Tryz.func144 _ _ (by kernel_rfl)
def sh144:FSh:=⟨⟨[(.slc 0),(.v y13),(.v y13),(.fn 77 [])],[(0,(.row 55 y24))]⟩,[y13,y13,y35],1,⟨⟨[(.v .bool)],[(0,(.row 55 y24))]⟩,[.bool,y35],[0],1⟩,false⟩
noncomputable def q144 (F77:Y146)(l144_0:Y261)(a0 a1:Int)(a2:List Y1):Option Y234:=
chk (fits .i64 (a0+1)) (
(l144_0 (a0,a1,(a0+1),0,a2)).bind (fun y8=>Sum.elim (fun y9=>(
some (y9.1,y9.2))) (fun y10=>(
some (false,y10))) y8))
theorem g144 (F77:Y146)(a0 a1:Int)(a2:List Y1):dxf (T144 F77) sh144 [(.t 8)] c144 (a0,a1,a2)=q144 F77 (l144_0 (T144 F77)) a0 a1 a2:=by kernel_rfl
noncomputable def p144:=q144 P77 L144_0
noncomputable def P144:Y240:=fun x=>p144 x.1 x.2.1 x.2.2
theorem v144:dxf (T144 P77) sh144 [(.t 8)] c144=P144:=funext fun x=>(g144 P77 x.1 x.2.1 x.2.2).trans (by rw[v144_0] <;> rfl)
theorem d144:DC Tryz.prog 144 sh144 P144:=DC_eq v144 (dxf_sound t144 ok144 (by kernel_rfl))
noncomputable def T145 (F77:Y146):List FEnt:=[⟨77,sh77,F77⟩]
theorem t145:DTblOK Tryz.prog (T145 P77):=(DTbl_cons' d77 (by kernel_rfl) DTbl_nil)
def h145_1:LSh:=⟨[0,1,4,11,12],⟨[(.slc 0),(.v y13),(.fn 77 []),(.v y13),(.v y13)],[(0,(.row 55 y24))]⟩,[y13,y13,y13,y35],1,[0]⟩
def x145_1:List XSh:=[⟨(.exit 2),[0,1,4,11,12],⟨⟨[(.slc 0),(.v y13),(.fn 77 []),(.v y13),(.v y13)],[(0,(.row 55 y24))]⟩,[y13,y13,y13,y35],[0],1⟩⟩]
def x145_2:List XSh:=[⟨(.exit 4),[0,1,4,11,12],⟨⟨[(.slc 0),(.v y13),(.fn 77 []),(.v y13),(.v y13)],[(0,(.row 55 y24))]⟩,[y13,y13,y13,y35],[0],1⟩⟩]
def x145_0:List XSh:=[⟨(.exit 0),[11],⟨⟨[(.v y13)],[(0,(.row 55 y24))]⟩,[y13,y35],[0],1⟩⟩]
noncomputable def c145:=anF Tryz.prog [] Tryz.f145 (.s .n (.s .n (.s .n (.s (.b (.l h145_1 x145_0 (.b (.s (.b (.l h145_1 x145_1 .n)) (.s (.b (.l h145_1 x145_2 .n)) .n))))) .n))))
noncomputable def s145_1 (T:List FEnt):=dstep (xs:=x145_1) h145_1 (dxc T (sb [1,1,1,0,2,2,2,0,2,2] c145))
noncomputable def l145_1 (T:List FEnt):=whileF (s145_1 T)
noncomputable def q145_1 (F77:Y146)(a0 a1 a2:Int)(a3:List Y1):Option Y252:=
cond (decide (a1≤a2)) (
chk (inR a0 a3.length) (
chk (inR a1 a3.length) (
(F77 ((ix a3 a0),(ix a3 a1))).bind fun r1=>(
cond (!(decide (r1 < 0))) (
chk (fits .i64 (a1+1)) (
some (Sum.inl (a0,(a1+1),a2,a3)))) (
some (Sum.inr (a0,a1,a2,a3))))))) (
some (Sum.inr (a0,a1,a2,a3)))
theorem g145_1 (F77:Y146)(a0 a1 a2:Int)(a3:List Y1):s145_1 (T145 F77) (a0,a1,a2,a3)=q145_1 F77 a0 a1 a2 a3:=by kernel_rfl
noncomputable def p145_1:=q145_1 P77
noncomputable def L145_1:Y241:=whileF (fun x=>p145_1 x.1 x.2.1 x.2.2.1 x.2.2.2)
theorem v145_1:l145_1 (T145 P77) =L145_1:=congrArg whileF (funext fun x=>(g145_1 P77 x.1 x.2.1 x.2.2.1 x.2.2.2))
noncomputable def s145_2 (T:List FEnt):=dstep (xs:=x145_2) h145_1 (dxc T (sb [1,1,1,0,2,2,2,1,0,2,2] c145))
noncomputable def l145_2 (T:List FEnt):=whileF (s145_2 T)
noncomputable def q145_2 (F77:Y146)(a0 a1 a2:Int)(a3:List Y1):Option Y252:=
cond (decide (a1≤a2)) (
chk (inR a0 a3.length) (
chk (inR a2 a3.length) (
(F77 ((ix a3 a0),(ix a3 a2))).bind fun r3=>(
cond (decide (r3 < 0)) (
chk (fits .i64 (a2-1)) (
some (Sum.inl (a0,a1,(a2-1),a3)))) (
some (Sum.inr (a0,a1,a2,a3))))))) (
some (Sum.inr (a0,a1,a2,a3)))
theorem g145_2 (F77:Y146)(a0 a1 a2:Int)(a3:List Y1):s145_2 (T145 F77) (a0,a1,a2,a3)=q145_2 F77 a0 a1 a2 a3:=by kernel_rfl
noncomputable def p145_2:=q145_2 P77
noncomputable def L145_2:Y241:=whileF (fun x=>p145_2 x.1 x.2.1 x.2.2.1 x.2.2.2)
theorem v145_2:l145_2 (T145 P77) =L145_2:=congrArg whileF (funext fun x=>(g145_2 P77 x.1 x.2.1 x.2.2.1 x.2.2.2))
noncomputable def s145_0 (T:List FEnt):=dstep (xs:=x145_0) h145_1 (dxc T (sb [1,1,1,0,2,2] c145))
noncomputable def l145_0 (T:List FEnt):=whileF (s145_0 T)
noncomputable def q145_0 (F77:Y146)(l145_1 l145_2:Y241)(a0 a1 a2:Int)(a3:List Y1):Option Y253:=
(l145_1 (a0,a1,a2,a3)).bind fun y2=>(
(l145_2 (y2.1,y2.2.1,y2.2.2.1,y2.2.2.2)).bind fun y4=>(
cond (decide (y4.2.2.1 < y4.2.1)) (
some (Sum.inr (y4.2.1,y4.2.2.2))) (
chk (inR y4.2.2.1 y4.2.2.2.length) (
chk (inR y4.2.1 y4.2.2.2.length) (
chk (inR y4.2.1 y4.2.2.2.length) (
chk (inR y4.2.2.1 (List.length (List.set y4.2.2.2 y4.2.1.toNat (ix y4.2.2.2 y4.2.2.1)))) (
chk (fits .i64 (y4.2.1+1)) (
chk (fits .i64 (y4.2.2.1-1)) (
some (Sum.inl (y4.1,(y4.2.1+1),(y4.2.2.1-1),(List.set (List.set y4.2.2.2 y4.2.1.toNat (ix y4.2.2.2 y4.2.2.1)) y4.2.2.1.toNat (ix y4.2.2.2 y4.2.1)))))))))))))
theorem g145_0 (F77:Y146)(a0 a1 a2:Int)(a3:List Y1):s145_0 (T145 F77) (a0,a1,a2,a3)=q145_0 F77 (l145_1 (T145 F77)) (l145_2 (T145 F77)) a0 a1 a2 a3:=by kernel_rfl
noncomputable def p145_0:=q145_0 P77 L145_1 L145_2
noncomputable def L145_0:Y242:=whileF (fun x=>p145_0 x.1 x.2.1 x.2.2.1 x.2.2.2)
theorem v145_0:l145_0 (T145 P77) =L145_0:=congrArg whileF (funext fun x=>(g145_0 P77 x.1 x.2.1 x.2.2.1 x.2.2.2).trans (by rw[v145_1,v145_2] <;> rfl))
theorem ok145:L.Fn Tryz.prog 145 90 [(.t 10)] (erase c145):=Fn.ofA hmix Tryz.func145 _ _ (by kernel_rfl)
def sh145:FSh:=⟨⟨[(.slc 0),(.v y13),(.v y13),(.v y13),(.fn 77 [])],[(0,(.row 55 y24))]⟩,[y13,y13,y13,y35],1,⟨⟨[(.v y13)],[(0,(.row 55 y24))]⟩,[y13,y35],[0],1⟩,false⟩
noncomputable def q145 (F77:Y146)(l145_0:Y242)(a0 a1 a2:Int)(a3:List Y1):Option Y235:=
chk (inR a2 a3.length) (
chk (inR a0 a3.length) (
chk (inR a0 a3.length) (
chk (inR a2 (List.length (List.set a3 a0.toNat (ix a3 a2)))) (
chk (fits .i64 (a0+1)) (
chk (fits .i64 (a1-1)) (
(l145_0 (a0,(a0+1),(a1-1),(List.set (List.set a3 a0.toNat (ix a3 a2)) a2.toNat (ix a3 a0)))).bind fun y5=>(
some (y5.1,y5.2))))))))
theorem g145 (F77:Y146)(a0 a1 a2:Int)(a3:List Y1):dxf (T145 F77) sh145 [(.t 10)] c145 (a0,a1,a2,a3)=q145 F77 (l145_0 (T145 F77)) a0 a1 a2 a3:=by kernel_rfl
noncomputable def p145:=q145 P77 L145_0
noncomputable def P145:Y242:=fun x=>p145 x.1 x.2.1 x.2.2.1 x.2.2.2
theorem v145:dxf (T145 P77) sh145 [(.t 10)] c145=P145:=funext fun x=>(g145 P77 x.1 x.2.1 x.2.2.1 x.2.2.2).trans (by rw[v145_0] <;> rfl)
theorem d145:DC Tryz.prog 145 sh145 P145:=DC_eq v145 (dxf_sound t145 ok145 (by kernel_rfl))
noncomputable def T146 (F77:Y146):List FEnt:=[⟨77,sh77,F77⟩]
theorem t146:DTblOK Tryz.prog (T146 P77):=(DTbl_cons' d77 (by kernel_rfl) DTbl_nil)
def h146_0:LSh:=⟨[0,1,4,12,13],⟨[(.slc 0),(.v y13),(.fn 77 []),(.v y13),(.v y13)],[(0,(.row 55 y24))]⟩,[y13,y13,y13,y35],1,[0]⟩
def x146_0:List XSh:=[⟨(.exit 0),[0,1,4,12,13],⟨⟨[(.slc 0),(.v y13),(.fn 77 []),(.v y13),(.v y13)],[(0,(.row 55 y24))]⟩,[y13,y13,y13,y35],[0],1⟩⟩]
def x146_1:List XSh:=[⟨(.exit 2),[0,1,4,12,13],⟨⟨[(.slc 0),(.v y13),(.fn 77 []),(.v y13),(.v y13)],[(0,(.row 55 y24))]⟩,[y13,y13,y13,y35],[0],1⟩⟩]
def x146_3:List XSh:=[⟨(.exit 6),[0,1,4,12,13],⟨⟨[(.slc 0),(.v y13),(.fn 77 []),(.v y13),(.v y13)],[(0,(.row 55 y24))]⟩,[y13,y13,y13,y35],[0],1⟩⟩]
def x146_4:List XSh:=[⟨(.exit 8),[0,1,4,12,13],⟨⟨[(.slc 0),(.v y13),(.fn 77 []),(.v y13),(.v y13)],[(0,(.row 55 y24))]⟩,[y13,y13,y13,y35],[0],1⟩⟩]
def x146_2:List XSh:=[⟨(.exit 4),[0,1,13],⟨⟨[(.slc 0),(.v y13),(.v y13)],[(0,(.row 55 y24))]⟩,[y13,y13,y35],[0],1⟩⟩]
noncomputable def c146:=anF Tryz.prog [] Tryz.f146 (.s .n (.s .n (.s .n (.s (.b (.l h146_0 x146_0 .n)) (.s (.b (.l h146_0 x146_1 .n)) (.s .n (.s .n (.s .n (.s .n (.s (.b (.l h146_0 x146_2 (.b (.s (.b (.l h146_0 x146_3 .n)) (.s (.b (.l h146_0 x146_4 .n)) .n))))) .n))))))))))
noncomputable def s146_0 (T:List FEnt):=dstep (xs:=x146_0) h146_0 (dxc T (sb [1,1,1,0,2,2] c146))
noncomputable def l146_0 (T:List FEnt):=whileF (s146_0 T)
noncomputable def q146_0 (F77:Y146)(a0 a1 a2:Int)(a3:List Y1):Option Y252:=
cond (decide (a1≤a2)) (
chk (inR a1 a3.length) (
chk (inR a0 a3.length) (
(F77 ((ix a3 a1),(ix a3 a0))).bind fun r1=>(
cond (decide (r1 < 0)) (
chk (fits .i64 (a1+1)) (
some (Sum.inl (a0,(a1+1),a2,a3)))) (
some (Sum.inr (a0,a1,a2,a3))))))) (
some (Sum.inr (a0,a1,a2,a3)))
theorem g146_0 (F77:Y146)(a0 a1 a2:Int)(a3:List Y1):s146_0 (T146 F77) (a0,a1,a2,a3)=q146_0 F77 a0 a1 a2 a3:=by kernel_rfl
noncomputable def p146_0:=q146_0 P77
noncomputable def L146_0:Y241:=whileF (fun x=>p146_0 x.1 x.2.1 x.2.2.1 x.2.2.2)
theorem v146_0:l146_0 (T146 P77) =L146_0:=congrArg whileF (funext fun x=>(g146_0 P77 x.1 x.2.1 x.2.2.1 x.2.2.2))
noncomputable def s146_1 (T:List FEnt):=dstep (xs:=x146_1) h146_0 (dxc T (sb [1,1,1,1,0,2,2] c146))
noncomputable def l146_1 (T:List FEnt):=whileF (s146_1 T)
noncomputable def q146_1 (F77:Y146)(a0 a1 a2:Int)(a3:List Y1):Option Y252:=
cond (decide (a1≤a2)) (
chk (inR a2 a3.length) (
chk (inR a0 a3.length) (
(F77 ((ix a3 a2),(ix a3 a0))).bind fun r3=>(
cond (!(decide (r3 < 0))) (
chk (fits .i64 (a2-1)) (
some (Sum.inl (a0,a1,(a2-1),a3)))) (
some (Sum.inr (a0,a1,a2,a3))))))) (
some (Sum.inr (a0,a1,a2,a3)))
theorem g146_1 (F77:Y146)(a0 a1 a2:Int)(a3:List Y1):s146_1 (T146 F77) (a0,a1,a2,a3)=q146_1 F77 a0 a1 a2 a3:=by kernel_rfl
noncomputable def p146_1:=q146_1 P77
noncomputable def L146_1:Y241:=whileF (fun x=>p146_1 x.1 x.2.1 x.2.2.1 x.2.2.2)
theorem v146_1:l146_1 (T146 P77) =L146_1:=congrArg whileF (funext fun x=>(g146_1 P77 x.1 x.2.1 x.2.2.1 x.2.2.2))
noncomputable def s146_3 (T:List FEnt):=dstep (xs:=x146_3) h146_0 (dxc T (sb [1,1,1,1,1,1,1,1,1,0,2,2,2,0,2,2] c146))
noncomputable def l146_3 (T:List FEnt):=whileF (s146_3 T)
noncomputable def q146_3 (F77:Y146)(a0 a1 a2:Int)(a3:List Y1):Option Y252:=
cond (decide (a1≤a2)) (
chk (inR a1 a3.length) (
chk (inR a0 a3.length) (
(F77 ((ix a3 a1),(ix a3 a0))).bind fun r5=>(
cond (decide (r5 < 0)) (
chk (fits .i64 (a1+1)) (
some (Sum.inl (a0,(a1+1),a2,a3)))) (
some (Sum.inr (a0,a1,a2,a3))))))) (
some (Sum.inr (a0,a1,a2,a3)))
theorem g146_3 (F77:Y146)(a0 a1 a2:Int)(a3:List Y1):s146_3 (T146 F77) (a0,a1,a2,a3)=q146_3 F77 a0 a1 a2 a3:=by kernel_rfl
noncomputable def p146_3:=q146_3 P77
noncomputable def L146_3:Y241:=whileF (fun x=>p146_3 x.1 x.2.1 x.2.2.1 x.2.2.2)
theorem v146_3:l146_3 (T146 P77) =L146_3:=congrArg whileF (funext fun x=>(g146_3 P77 x.1 x.2.1 x.2.2.1 x.2.2.2))
noncomputable def s146_4 (T:List FEnt):=dstep (xs:=x146_4) h146_0 (dxc T (sb [1,1,1,1,1,1,1,1,1,0,2,2,2,1,0,2,2] c146))
noncomputable def l146_4 (T:List FEnt):=whileF (s146_4 T)
noncomputable def q146_4 (F77:Y146)(a0 a1 a2:Int)(a3:List Y1):Option Y252:=
cond (decide (a1≤a2)) (
chk (inR a2 a3.length) (
chk (inR a0 a3.length) (
(F77 ((ix a3 a2),(ix a3 a0))).bind fun r7=>(
cond (!(decide (r7 < 0))) (
chk (fits .i64 (a2-1)) (
some (Sum.inl (a0,a1,(a2-1),a3)))) (
some (Sum.inr (a0,a1,a2,a3))))))) (
some (Sum.inr (a0,a1,a2,a3)))
theorem g146_4 (F77:Y146)(a0 a1 a2:Int)(a3:List Y1):s146_4 (T146 F77) (a0,a1,a2,a3)=q146_4 F77 a0 a1 a2 a3:=by kernel_rfl
noncomputable def p146_4:=q146_4 P77
noncomputable def L146_4:Y241:=whileF (fun x=>p146_4 x.1 x.2.1 x.2.2.1 x.2.2.2)
theorem v146_4:l146_4 (T146 P77) =L146_4:=congrArg whileF (funext fun x=>(g146_4 P77 x.1 x.2.1 x.2.2.1 x.2.2.2))
noncomputable def s146_2 (T:List FEnt):=dstep (xs:=x146_2) h146_0 (dxc T (sb [1,1,1,1,1,1,1,1,1,0,2,2] c146))
noncomputable def l146_2 (T:List FEnt):=whileF (s146_2 T)
noncomputable def q146_2 (F77:Y146)(l146_3 l146_4:Y241)(a0 a1 a2:Int)(a3:List Y1):Option Y254:=
(l146_3 (a0,a1,a2,a3)).bind fun y6=>(
(l146_4 (y6.1,y6.2.1,y6.2.2.1,y6.2.2.2)).bind fun y8=>(
cond (decide (y8.2.2.1 < y8.2.1)) (
some (Sum.inr (y8.1,y8.2.2.1,y8.2.2.2))) (
chk (inR y8.2.2.1 y8.2.2.2.length) (
chk (inR y8.2.1 y8.2.2.2.length) (
chk (inR y8.2.1 y8.2.2.2.length) (
chk (inR y8.2.2.1 (List.length (List.set y8.2.2.2 y8.2.1.toNat (ix y8.2.2.2 y8.2.2.1)))) (
chk (fits .i64 (y8.2.1+1)) (
chk (fits .i64 (y8.2.2.1-1)) (
some (Sum.inl (y8.1,(y8.2.1+1),(y8.2.2.1-1),(List.set (List.set y8.2.2.2 y8.2.1.toNat (ix y8.2.2.2 y8.2.2.1)) y8.2.2.1.toNat (ix y8.2.2.2 y8.2.1)))))))))))))
theorem g146_2 (F77:Y146)(a0 a1 a2:Int)(a3:List Y1):s146_2 (T146 F77) (a0,a1,a2,a3)=q146_2 F77 (l146_3 (T146 F77)) (l146_4 (T146 F77)) a0 a1 a2 a3:=by kernel_rfl
noncomputable def p146_2:=q146_2 P77 L146_3 L146_4
noncomputable def L146_2:Y243:=whileF (fun x=>p146_2 x.1 x.2.1 x.2.2.1 x.2.2.2)
theorem v146_2:l146_2 (T146 P77) =L146_2:=congrArg whileF (funext fun x=>(g146_2 P77 x.1 x.2.1 x.2.2.1 x.2.2.2).trans (by rw[v146_3,v146_4] <;> rfl))
theorem ok146:L.Fn Tryz.prog 146 178 [(.t 10),(.t 11)] (erase c146):=Fn.ofA hmix Tryz.func146 _ _ (by kernel_rfl)
def sh146:FSh:=⟨⟨[(.slc 0),(.v y13),(.v y13),(.v y13),(.fn 77 [])],[(0,(.row 55 y24))]⟩,[y13,y13,y13,y35],1,⟨⟨[(.tup [(.v y13),(.v .bool)])],[(0,(.row 55 y24))]⟩,[y13,.bool,y35],[0],1⟩,false⟩
noncomputable def q146 (F77:Y146)(l146_0 l146_1:Y241)(l146_2:Y243)(a0 a1 a2:Int)(a3:List Y1):Option Y232:=
chk (inR a2 a3.length) (
chk (inR a0 a3.length) (
chk (inR a0 a3.length) (
chk (inR a2 (List.length (List.set a3 a0.toNat (ix a3 a2)))) (
chk (fits .i64 (a0+1)) (
chk (fits .i64 (a1-1)) (
(l146_0 (a0,(a0+1),(a1-1),(List.set (List.set a3 a0.toNat (ix a3 a2)) a2.toNat (ix a3 a0)))).bind fun y2=>(
(l146_1 (y2.1,y2.2.1,y2.2.2.1,y2.2.2.2)).bind fun y4=>(
cond (decide (y4.2.2.1 < y4.2.1)) (
chk (inR y4.1 y4.2.2.2.length) (
chk (inR y4.2.2.1 y4.2.2.2.length) (
chk (inR y4.2.2.1 y4.2.2.2.length) (
chk (inR y4.1 (List.length (List.set y4.2.2.2 y4.2.2.1.toNat (ix y4.2.2.2 y4.1)))) (
some (y4.2.2.1,true,(List.set (List.set y4.2.2.2 y4.2.2.1.toNat (ix y4.2.2.2 y4.1)) y4.1.toNat (ix y4.2.2.2 y4.2.2.1)))))))) (
chk (inR y4.2.2.1 y4.2.2.2.length) (
chk (inR y4.2.1 y4.2.2.2.length) (
chk (inR y4.2.1 y4.2.2.2.length) (
chk (inR y4.2.2.1 (List.length (List.set y4.2.2.2 y4.2.1.toNat (ix y4.2.2.2 y4.2.2.1)))) (
chk (fits .i64 (y4.2.1+1)) (
chk (fits .i64 (y4.2.2.1-1)) (
(l146_2 (y4.1,(y4.2.1+1),(y4.2.2.1-1),(List.set (List.set y4.2.2.2 y4.2.1.toNat (ix y4.2.2.2 y4.2.2.1)) y4.2.2.1.toNat (ix y4.2.2.2 y4.2.1)))).bind fun y9=>(
chk (inR y9.1 y9.2.2.length) (
chk (inR y9.2.1 y9.2.2.length) (
chk (inR y9.2.1 y9.2.2.length) (
chk (inR y9.1 (List.length (List.set y9.2.2 y9.2.1.toNat (ix y9.2.2 y9.1)))) (
some (y9.2.1,false,(List.set (List.set y9.2.2 y9.2.1.toNat (ix y9.2.2 y9.1)) y9.1.toNat (ix y9.2.2 y9.2.1)))))))))))))))))))))))
theorem g146 (F77:Y146)(a0 a1 a2:Int)(a3:List Y1):dxf (T146 F77) sh146 [(.t 10),(.t 11)] c146 (a0,a1,a2,a3)=q146 F77 (l146_0 (T146 F77)) (l146_1 (T146 F77)) (l146_2 (T146 F77)) a0 a1 a2 a3:=by kernel_rfl
noncomputable def p146:=q146 P77 L146_0 L146_1 L146_2
noncomputable def P146:Y244:=fun x=>p146 x.1 x.2.1 x.2.2.1 x.2.2.2
theorem v146:dxf (T146 P77) sh146 [(.t 10),(.t 11)] c146=P146:=funext fun x=>(g146 P77 x.1 x.2.1 x.2.2.1 x.2.2.2).trans (by rw[v146_0,v146_1,v146_2] <;> rfl)
theorem d146:DC Tryz.prog 146 sh146 P146:=DC_eq v146 (dxf_sound t146 ok146 (by kernel_rfl))
def sh119:FSh:=⟨⟨[(.slc 0),(.v y13),(.v y13),(.v y13),(.fn 77 [])],[(0,(.row 55 y24))]⟩,[y13,y13,y13,y35],1,⟨⟨[(.tup [])],[(0,(.row 55 y24))]⟩,[y35],[0],1⟩,false⟩
noncomputable def T119 (F139:Y157)(F140:Y157)(F141:Y157)(F142:Y187)(F143:Y157)(F144:Y240)(F77:Y146)(F145:Y242)(F146:Y244)(F119:Y155):List FEnt:=[⟨139,sh139,F139⟩,⟨140,sh140,F140⟩,⟨141,sh141,F141⟩,⟨142,sh142,F142⟩,⟨143,sh143,F143⟩,⟨144,sh144,F144⟩,⟨77,sh77,F77⟩,⟨145,sh145,F145⟩,⟨146,sh146,F146⟩,⟨119,sh119,F119⟩]
theorem t119 (F119:Y155)(h:DC Tryz.prog 119 sh119 F119):DTblOK Tryz.prog (T119 P139 P140 P141 P142 P143 P144 P77 P145 P146 F119):=(DTbl_cons' d139 (by kernel_rfl) (DTbl_cons' d140 (by kernel_rfl) (DTbl_cons' d141 (by kernel_rfl) (DTbl_cons' d142 (by kernel_rfl) (DTbl_cons' d143 (by kernel_rfl) (DTbl_cons' d144 (by kernel_rfl) (DTbl_cons' d77 (by kernel_rfl) (DTbl_cons' d145 (by kernel_rfl) (DTbl_cons' d146 (by kernel_rfl) (DTbl_cons' h (by kernel_rfl) DTbl_nil))))))))))
def h119_1:LSh:=⟨[0,1,2,3,4,10,11,12],⟨[(.slc 0),(.v y13),(.v y13),(.v y13),(.fn 77 []),(.v .bool),(.v .bool),(.v y13)],[(0,(.row 55 y24))]⟩,[y13,y13,y13,.bool,.bool,y13,y35],1,[0]⟩
def x119_1:List XSh:=[⟨.normal,[0,1,2,3,4,10,11,12],⟨⟨[(.slc 0),(.v y13),(.v y13),(.v y13),(.fn 77 []),(.v .bool),(.v .bool),(.v y13)],[(0,(.row 55 y24))]⟩,[y13,y13,y13,.bool,.bool,y13,y35],[0],1⟩⟩]
def h119_2:LSh:=⟨[0,1,2,3,4,10,11,12,13,14],⟨[(.slc 0),(.v y13),(.v y13),(.v y13),(.fn 77 []),(.v .bool),(.v .bool),(.v y13),(.v y13),(.v y13)],[(0,(.row 55 y24))]⟩,[y13,y13,y13,.bool,.bool,y13,y13,y13,y35],1,[0]⟩
def x119_2:List XSh:=[⟨.normal,[0,1,2,3,4,10,11,12,13,14],⟨⟨[(.slc 0),(.v y13),(.v y13),(.v y13),(.fn 77 []),(.v .bool),(.v .bool),(.v y13),(.v y13),(.v y13)],[(0,(.row 55 y24))]⟩,[y13,y13,y13,.bool,.bool,y13,y13,y13,y35],[0],1⟩⟩]
def x119_3:List XSh:=[⟨.ret,[],⟨⟨[],[(0,(.row 55 y24))]⟩,[y35],[0],1⟩⟩,⟨.normal,[0,1,2,3,4,10,11,12,13],⟨⟨[(.slc 0),(.v y13),(.v y13),(.v y13),(.fn 77 []),(.v .bool),(.v .bool),(.v y13),(.v y13)],[(0,(.row 55 y24))]⟩,[y13,y13,y13,.bool,.bool,y13,y13,y35],[0],1⟩⟩]
def h119_0:LSh:=⟨[0,1,2,3,4,10,11],⟨[(.slc 0),(.v y13),(.v y13),(.v y13),(.fn 77 []),(.v .bool),(.v .bool)],[(0,(.row 55 y24))]⟩,[y13,y13,y13,.bool,.bool,y35],1,[0]⟩
def x119_0:List XSh:=[⟨.ret,[],⟨⟨[],[(0,(.row 55 y24))]⟩,[y35],[0],1⟩⟩]
noncomputable def c119:=anF Tryz.prog [] Tryz.f119 (.s .n (.s .n (.b (.l h119_0 x119_0 (.b (.s .n (.s .n (.s .n (.s (.o h119_1 x119_1 .n) (.s .n (.s (.o h119_2 x119_2 .n) (.s (.o h119_2 x119_3 .n) .n))))))))))))
noncomputable def l119_1 (T:List FEnt):=onceF (xs:=x119_1) h119_1 (dxc T (sb [1,1,2,2,2,1,1,1,0,2] c119))
noncomputable def q119_1 (F139 F140 F141:Y157)(F142:Y187)(F143:Y157)(F144:Y240)(F77:Y146)(F145:Y242)(F146:Y244)(F119:Y155)(a0 a1 a2:Int)(a3 a4:Bool)(a5:Int)(a6:List Y1):Option Y159:=
cond (!a3) (
(F141 (a0,a1,a6)).bind fun r3=>(
chk (fits .i64 (a2-1)) (
some (a0,a1,(a2-1),a3,a4,a5,r3)))) (
some (a0,a1,a2,a3,a4,a5,a6))
theorem g119_1 (F139 F140 F141:Y157)(F142:Y187)(F143:Y157)(F144:Y240)(F77:Y146)(F145:Y242)(F146:Y244)(F119:Y155)(a0 a1 a2:Int)(a3 a4:Bool)(a5:Int)(a6:List Y1):l119_1 (T119 F139 F140 F141 F142 F143 F144 F77 F145 F146 F119) (a0,a1,a2,a3,a4,a5,a6)=q119_1 F139 F140 F141 F142 F143 F144 F77 F145 F146 F119 a0 a1 a2 a3 a4 a5 a6:=by kernel_rfl
noncomputable def p119_1 (F119:Y155):=q119_1 P139 P140 P141 P142 P143 P144 P77 P145 P146 F119
noncomputable def L119_1 (F119:Y155):Y180:=fun x=>p119_1 F119 x.1 x.2.1 x.2.2.1 x.2.2.2.1 x.2.2.2.2.1 x.2.2.2.2.2.1 x.2.2.2.2.2.2
theorem v119_1 (F119:Y155):l119_1 (T119 P139 P140 P141 P142 P143 P144 P77 P145 P146 F119)=L119_1 F119:=funext fun x=>(g119_1 P139 P140 P141 P142 P143 P144 P77 P145 P146 F119 x.1 x.2.1 x.2.2.1 x.2.2.2.1 x.2.2.2.2.1 x.2.2.2.2.2.1 x.2.2.2.2.2.2)
noncomputable def l119_2 (T:List FEnt):=onceF (xs:=x119_2) h119_2 (dxc T (sb [1,1,2,2,2,1,1,1,1,1,0,2] c119))
noncomputable def q119_2 (F139 F140 F141:Y157)(F142:Y187)(F143:Y157)(F144:Y240)(F77:Y146)(F145:Y242)(F146:Y244)(F119:Y155)(a0 a1 a2:Int)(a3 a4:Bool)(a5 a6 a7:Int)(a8:List Y1):Option Y230:=
cond (decide (a7=2)) (
(F143 (a0,a1,a8)).bind fun r6=>(
chk (fits .i64 (a1-1)) (
chk (fits .i64 (a6-a0)) (
chk (fits .i64 ((a1-1)-(a6-a0))) (
some (a0,a1,a2,a3,a4,a5,((a1-1)-(a6-a0)),1,r6)))))) (
some (a0,a1,a2,a3,a4,a5,a6,a7,a8))
theorem g119_2 (F139 F140 F141:Y157)(F142:Y187)(F143:Y157)(F144:Y240)(F77:Y146)(F145:Y242)(F146:Y244)(F119:Y155)(a0 a1 a2:Int)(a3 a4:Bool)(a5 a6 a7:Int)(a8:List Y1):l119_2 (T119 F139 F140 F141 F142 F143 F144 F77 F145 F146 F119) (a0,a1,a2,a3,a4,a5,a6,a7,a8)=q119_2 F139 F140 F141 F142 F143 F144 F77 F145 F146 F119 a0 a1 a2 a3 a4 a5 a6 a7 a8:=by kernel_rfl
noncomputable def p119_2 (F119:Y155):=q119_2 P139 P140 P141 P142 P143 P144 P77 P145 P146 F119
noncomputable def L119_2 (F119:Y155):Y245:=fun x=>p119_2 F119 x.1 x.2.1 x.2.2.1 x.2.2.2.1 x.2.2.2.2.1 x.2.2.2.2.2.1 x.2.2.2.2.2.2.1 x.2.2.2.2.2.2.2.1 x.2.2.2.2.2.2.2.2
theorem v119_2 (F119:Y155):l119_2 (T119 P139 P140 P141 P142 P143 P144 P77 P145 P146 F119)=L119_2 F119:=funext fun x=>(g119_2 P139 P140 P141 P142 P143 P144 P77 P145 P146 F119 x.1 x.2.1 x.2.2.1 x.2.2.2.1 x.2.2.2.2.1 x.2.2.2.2.2.1 x.2.2.2.2.2.2.1 x.2.2.2.2.2.2.2.1 x.2.2.2.2.2.2.2.2)
noncomputable def l119_3 (T:List FEnt):=onceF (xs:=x119_3) h119_2 (dxc T (sb [1,1,2,2,2,1,1,1,1,1,1,0,2] c119))
noncomputable def q119_3 (F139 F140 F141:Y157)(F142:Y187)(F143:Y157)(F144:Y240)(F77:Y146)(F145:Y242)(F146:Y244)(F119:Y155)(a0 a1 a2:Int)(a3 a4:Bool)(a5 a6 a7:Int)(a8:List Y1):Option Y255:=
cond a3 (
cond a4 (
cond (decide (a7=1)) (
(F144 (a0,a1,a8)).bind fun r8=>(
cond r8.1 (
some (Sum.inl r8.2)) (
some (Sum.inr (a0,a1,a2,a3,a4,a5,a6,r8.2))))) (
some (Sum.inr (a0,a1,a2,a3,a4,a5,a6,a8)))) (
some (Sum.inr (a0,a1,a2,a3,a4,a5,a6,a8)))) (
some (Sum.inr (a0,a1,a2,a3,a4,a5,a6,a8)))
theorem g119_3 (F139 F140 F141:Y157)(F142:Y187)(F143:Y157)(F144:Y240)(F77:Y146)(F145:Y242)(F146:Y244)(F119:Y155)(a0 a1 a2:Int)(a3 a4:Bool)(a5 a6 a7:Int)(a8:List Y1):l119_3 (T119 F139 F140 F141 F142 F143 F144 F77 F145 F146 F119) (a0,a1,a2,a3,a4,a5,a6,a7,a8)=q119_3 F139 F140 F141 F142 F143 F144 F77 F145 F146 F119 a0 a1 a2 a3 a4 a5 a6 a7 a8:=by kernel_rfl
noncomputable def p119_3 (F119:Y155):=q119_3 P139 P140 P141 P142 P143 P144 P77 P145 P146 F119
noncomputable def L119_3 (F119:Y155):Y265:=fun x=>p119_3 F119 x.1 x.2.1 x.2.2.1 x.2.2.2.1 x.2.2.2.2.1 x.2.2.2.2.2.1 x.2.2.2.2.2.2.1 x.2.2.2.2.2.2.2.1 x.2.2.2.2.2.2.2.2
theorem v119_3 (F119:Y155):l119_3 (T119 P139 P140 P141 P142 P143 P144 P77 P145 P146 F119)=L119_3 F119:=funext fun x=>(g119_3 P139 P140 P141 P142 P143 P144 P77 P145 P146 F119 x.1 x.2.1 x.2.2.1 x.2.2.2.1 x.2.2.2.2.1 x.2.2.2.2.2.1 x.2.2.2.2.2.2.1 x.2.2.2.2.2.2.2.1 x.2.2.2.2.2.2.2.2)
noncomputable def s119_0 (T:List FEnt):=dstep (xs:=x119_0) h119_0 (dxc T (sb [1,1,2,2] c119))
noncomputable def l119_0 (T:List FEnt):=whileF (s119_0 T)
noncomputable def q119_0 (F139 F140 F141:Y157)(F142:Y187)(F143:Y157)(F144:Y240)(F77:Y146)(F145:Y242)(F146:Y244)(F119:Y155)(l119_1:Y180)(l119_2:Y245)(l119_3:Y265)(a0 a1 a2:Int)(a3 a4:Bool)(a5:List Y1):Option Y194:=
chk (fits .i64 (a1-a0)) (
cond (decide ((a1-a0)≤12)) (
(F139 (a0,a1,a5)).bind fun r1=>(
some (Sum.inr r1))) (
cond (decide (a2=0)) (
(F140 (a0,a1,a5)).bind fun r2=>(
some (Sum.inr r2))) (
(l119_1 (a0,a1,a2,a3,a4,(a1-a0),a5)).bind fun y4=>(
(F142 (y4.1,y4.2.1,y4.2.2.2.2.2.2)).bind fun r5=>(
(l119_2 (y4.1,y4.2.1,y4.2.2.1,y4.2.2.2.1,y4.2.2.2.2.1,y4.2.2.2.2.2.1,r5.1,r5.2.1,r5.2.2)).bind fun y7=>(
(l119_3 (y7.1,y7.2.1,y7.2.2.1,y7.2.2.2.1,y7.2.2.2.2.1,y7.2.2.2.2.2.1,y7.2.2.2.2.2.2.1,y7.2.2.2.2.2.2.2.1,y7.2.2.2.2.2.2.2.2)).bind (fun y9=>Sum.elim (fun y10=>(
some (Sum.inr y10))) (fun y11=>(
cond (decide (0 < y11.1)) (
chk (fits .i64 (y11.1-1)) (
chk (inR (y11.1-1) y11.2.2.2.2.2.2.2.length) (
chk (inR y11.2.2.2.2.2.2.1 y11.2.2.2.2.2.2.2.length) (
(F77 ((ix y11.2.2.2.2.2.2.2 (y11.1-1)),(ix y11.2.2.2.2.2.2.2 y11.2.2.2.2.2.2.1))).bind fun r12=>(
cond (!(decide (r12 < 0))) (
(F145 (y11.1,y11.2.1,y11.2.2.2.2.2.2.1,y11.2.2.2.2.2.2.2)).bind fun r13=>(
some (Sum.inl (r13.1,y11.2.1,y11.2.2.1,y11.2.2.2.1,y11.2.2.2.2.1,r13.2)))) (
(F146 (y11.1,y11.2.1,y11.2.2.2.2.2.2.1,y11.2.2.2.2.2.2.2)).bind fun r14=>(
chk (fits .i64 (r14.1-y11.1)) (
chk (fits .i64 (y11.2.1-r14.1)) (
chk (fits .i64 (Int.tdiv y11.2.2.2.2.2.1 8)) (
cond (decide ((r14.1-y11.1) < (y11.2.1-r14.1))) (
(F119 (y11.1,r14.1,y11.2.2.1,r14.2.2)).bind fun r15=>(
chk (fits .i64 (r14.1+1)) (
some (Sum.inl ((r14.1+1),y11.2.1,y11.2.2.1,decide ((Int.tdiv y11.2.2.2.2.2.1 8)≤(r14.1-y11.1)),r14.2.1,r15))))) (
chk (fits .i64 (r14.1+1)) (
(F119 ((r14.1+1),y11.2.1,y11.2.2.1,r14.2.2)).bind fun r16=>(
some (Sum.inl (y11.1,r14.1,y11.2.2.1,decide ((Int.tdiv y11.2.2.2.2.2.1 8)≤(y11.2.1-r14.1)),r14.2.1,r16))))))))))))))) (
(F146 (y11.1,y11.2.1,y11.2.2.2.2.2.2.1,y11.2.2.2.2.2.2.2)).bind fun r17=>(
chk (fits .i64 (r17.1-y11.1)) (
chk (fits .i64 (y11.2.1-r17.1)) (
chk (fits .i64 (Int.tdiv y11.2.2.2.2.2.1 8)) (
cond (decide ((r17.1-y11.1) < (y11.2.1-r17.1))) (
(F119 (y11.1,r17.1,y11.2.2.1,r17.2.2)).bind fun r18=>(
chk (fits .i64 (r17.1+1)) (
some (Sum.inl ((r17.1+1),y11.2.1,y11.2.2.1,decide ((Int.tdiv y11.2.2.2.2.2.1 8)≤(r17.1-y11.1)),r17.2.1,r18))))) (
chk (fits .i64 (r17.1+1)) (
(F119 ((r17.1+1),y11.2.1,y11.2.2.1,r17.2.2)).bind fun r19=>(
some (Sum.inl (y11.1,r17.1,y11.2.2.1,decide ((Int.tdiv y11.2.2.2.2.2.1 8)≤(y11.2.1-r17.1)),r17.2.1,r19)))))))))))) y9)))))))
theorem g119_0 (F139 F140 F141:Y157)(F142:Y187)(F143:Y157)(F144:Y240)(F77:Y146)(F145:Y242)(F146:Y244)(F119:Y155)(a0 a1 a2:Int)(a3 a4:Bool)(a5:List Y1):s119_0 (T119 F139 F140 F141 F142 F143 F144 F77 F145 F146 F119) (a0,a1,a2,a3,a4,a5)=q119_0 F139 F140 F141 F142 F143 F144 F77 F145 F146 F119 (l119_1 (T119 F139 F140 F141 F142 F143 F144 F77 F145 F146 F119)) (l119_2 (T119 F139 F140 F141 F142 F143 F144 F77 F145 F146 F119)) (l119_3 (T119 F139 F140 F141 F142 F143 F144 F77 F145 F146 F119)) a0 a1 a2 a3 a4 a5:=by kernel_rfl
noncomputable def p119_0 (F119:Y155):=q119_0 P139 P140 P141 P142 P143 P144 P77 P145 P146 F119 (L119_1 F119) (L119_2 F119) (L119_3 F119)
noncomputable def L119_0 (F119:Y155):Y158:=whileF (fun x=>p119_0 F119 x.1 x.2.1 x.2.2.1 x.2.2.2.1 x.2.2.2.2.1 x.2.2.2.2.2)
theorem v119_0 (F119:Y155):l119_0 (T119 P139 P140 P141 P142 P143 P144 P77 P145 P146 F119)=L119_0 F119:=congrArg whileF (funext fun x=>(g119_0 P139 P140 P141 P142 P143 P144 P77 P145 P146 F119 x.1 x.2.1 x.2.2.1 x.2.2.2.1 x.2.2.2.2.1 x.2.2.2.2.2).trans (by rw[v119_1 F119,v119_2 F119,v119_3 F119] <;> rfl))
theorem ok119:L.Fn Tryz.prog 119 148 [] (erase c119):=Fn.ofA hmix Tryz.func119 _ _ (by kernel_rfl)
noncomputable def q119 (F139 F140 F141:Y157)(F142:Y187)(F143:Y157)(F144:Y240)(F77:Y146)(F145:Y242)(F146:Y244)(F119:Y155)(l119_0:Y158)(a0 a1 a2:Int)(a3:List Y1):Option Y14:=
(l119_0 (a0,a1,a2,true,true,a3)).bind fun y20=>(
some y20)
theorem g119 (F139 F140 F141:Y157)(F142:Y187)(F143:Y157)(F144:Y240)(F77:Y146)(F145:Y242)(F146:Y244)(F119:Y155)(a0 a1 a2:Int)(a3:List Y1):dxf (T119 F139 F140 F141 F142 F143 F144 F77 F145 F146 F119) sh119 [] c119 (a0,a1,a2,a3)=q119 F139 F140 F141 F142 F143 F144 F77 F145 F146 F119 (l119_0 (T119 F139 F140 F141 F142 F143 F144 F77 F145 F146 F119)) a0 a1 a2 a3:=by kernel_rfl
noncomputable def p119 (F119:Y155):=q119 P139 P140 P141 P142 P143 P144 P77 P145 P146 F119 (L119_0 F119)
noncomputable def R119:Nat→Int×Int×Int×Y14→Option Y14
  | 0=>fun _=>none
  | n+1=>fun x=>p119 (R119 n) x.1 x.2.1 x.2.2.1 x.2.2.2
noncomputable def P119:Y155:=R119 18446744073709551616
theorem v119 (F119:Y155):dxf (T119 P139 P140 P141 P142 P143 P144 P77 P145 P146 F119) sh119 [] c119=fun x=>p119 F119 x.1 x.2.1 x.2.2.1 x.2.2.2:=funext fun x=>(g119 P139 P140 P141 P142 P143 P144 P77 P145 P146 F119 x.1 x.2.1 x.2.2.1 x.2.2.2).trans (by rw[v119_0 F119] <;> rfl)
theorem D119:∀ n,DC Tryz.prog 119 sh119 (R119 n)
  | 0=>DC_none (dxf_sound (sh:=sh119) DTbl_nil ok119 (by kernel_rfl)).1
  | n+1=>DC_eq (v119 (R119 n)) (dxf_sound (sh:=sh119) (t119 (R119 n) (D119 n)) ok119 (by kernel_rfl))
theorem d119:DC Tryz.prog 119 sh119 P119:=D119 _
noncomputable def T76 (F112:Y145)(F119:Y155):List FEnt:=[⟨112,sh112,F112⟩,⟨119,sh119,F119⟩]
theorem t76:DTblOK Tryz.prog (T76 P112 P119):=(DTbl_cons' d112 (by kernel_rfl) (DTbl_cons' d119 (by kernel_rfl) DTbl_nil))
noncomputable def c76:=anF Tryz.prog [] Tryz.f76 .n
theorem ok76:L.Fn Tryz.prog 76 14 [] (erase c76):=Fn.ofA hmix Tryz.func76 _ _ (by kernel_rfl)
def sh76:FSh:=⟨⟨[(.slc 0),(.fn 77 [])],[(0,(.row 55 y24))]⟩,[y35],1,⟨⟨[(.tup [])],[(0,(.row 55 y24))]⟩,[y35],[0],1⟩,false⟩
noncomputable def q76 (F112:Y145)(F119:Y155)(a0:List Y1):Option Y14:=
chk (fits .u64 (↑a0.length:Int)) (
(F112 (↑a0.length:Int)).bind fun r1=>(
(F119 (0,(↑a0.length:Int),r1,a0)).bind fun r2=>(
some r2)))
theorem g76 (F112:Y145)(F119:Y155)(a0:List Y1):dxf (T76 F112 F119) sh76 [] c76 a0=q76 F112 F119 a0:=by kernel_rfl
noncomputable def p76:=q76 P112 P119
noncomputable def P76:Y160:=fun x=>p76 x
theorem v76:dxf (T76 P112 P119) sh76 [] c76=P76:=funext fun x=>(g76 P112 P119 x)
theorem d76:DC Tryz.prog 76 sh76 P76:=DC_eq v76 (dxf_sound t76 ok76 (by kernel_rfl))
noncomputable def T45 (F75:Y205)(F76:Y160):List FEnt:=[⟨75,sh75,F75⟩,⟨76,sh76,F76⟩]
theorem t45:DTblOK Tryz.prog (T45 P75 P76):=(DTbl_cons' d75 (by kernel_rfl) (DTbl_cons' d76 (by kernel_rfl) DTbl_nil))
def h45_0:LSh:=⟨[0,3,9,10,11],⟨[(.elm y229),(.slc 0),(.v y78),(.v y13),(.v y13)],[(0,(.row 55 y24))]⟩,[y229,y78,y13,y13,y35],1,[]⟩
def x45_0:List XSh:=[⟨(.exit 0),[3],⟨⟨[(.slc 0)],[(0,(.row 55 y24))]⟩,[y35],[],1⟩⟩]
noncomputable def c45:=anF Tryz.prog [] Tryz.f45 (.s .n (.s .n (.s (.s .n (.b (.l h45_0 x45_0 (.s .n (.s .n (.s (.b (.s .n (.s .n (.s (.r [.a 6 true y24,.a 7 true y24]) .n)))) .n)))))) .n)))
noncomputable def s45_0 (T:List FEnt):=dstep (xs:=x45_0) h45_0 (dxc T (sb [1,1,0,1,2,2] c45))
noncomputable def l45_0 (T:List FEnt):=whileF (s45_0 T)
noncomputable def q45_0 (F75:Y205)(F76:Y160)(a0:Y181)(a1:List Y15)(a2 a3:Int)(a4:List Y1):Option Y272:=
cond (decide (a3 < a2)) (
chk (inR a3 a1.length) (
(F75 (a0,(ix a1 a3))).bind fun r1=>(
cond r1 (
chk (capOk 16 (List.length a4+List.length ([(ix a1 a3).2.2.2]:List Y1))) (
chk (fits .i64 (a3+1)) (
some (Sum.inl (a0,a1,a2,(a3+1),(a4++([(ix a1 a3).2.2.2]:List Y1))))))) (
chk (fits .i64 (a3+1)) (
some (Sum.inl (a0,a1,a2,(a3+1),a4))))))) (
some (Sum.inr a4))
theorem g45_0 (F75:Y205)(F76:Y160)(a0:Y181)(a1:List Y15)(a2 a3:Int)(a4:List Y1):s45_0 (T45 F75 F76) (a0,a1,a2,a3,a4)=q45_0 F75 F76 a0 a1 a2 a3 a4:=by kernel_rfl
noncomputable def p45_0:=q45_0 P75 P76
noncomputable def L45_0:Y266:=whileF (fun x=>p45_0 x.1 x.2.1 x.2.2.1 x.2.2.2.1 x.2.2.2.2)
theorem v45_0:l45_0 (T45 P75 P76) =L45_0:=congrArg whileF (funext fun x=>(g45_0 P75 P76 x.1 x.2.1 x.2.2.1 x.2.2.2.1 x.2.2.2.2))
theorem ok45:L.Fn Tryz.prog 45 30 [(.t 2)] (erase c45):=Fn.ofA hmix Tryz.func45 _ _ (by kernel_rfl)
def sh45:FSh:=⟨⟨[(.elm y229)],[]⟩,[y229],0,⟨⟨[(.slc 0)],[(0,(.row 55 y24))]⟩,[y35],[],1⟩,true⟩
noncomputable def q45 (F75:Y205)(F76:Y160)(l45_0:Y266)(a0:Y181):Option Y14:=
(l45_0 (a0,a0.2.2.2.2.2.2.2.2.2.2.2.1,(↑a0.2.2.2.2.2.2.2.2.2.2.2.1.length:Int),0,([]:List Y1))).bind fun y2=>(
(F76 y2).bind fun r3=>(
some r3))
theorem g45 (F75:Y205)(F76:Y160)(a0:Y181):dxf (T45 F75 F76) sh45 [(.t 2)] c45 a0=q45 F75 F76 (l45_0 (T45 F75 F76)) a0:=by kernel_rfl
noncomputable def p45:=q45 P75 P76 L45_0
noncomputable def P45:Y246:=fun x=>p45 x
theorem v45:dxf (T45 P75 P76) sh45 [(.t 2)] c45=P45:=funext fun x=>(g45 P75 P76 x).trans (by rw[v45_0] <;> rfl)
theorem d45:DC Tryz.prog 45 sh45 P45:=DC_eq v45 (dxf_sound t45 ok45 (by kernel_rfl))
noncomputable def T110 (F45:Y246):List FEnt:=[⟨45,sh45,F45⟩]
theorem t110:DTblOK Tryz.prog (T110 P45):=(DTbl_cons' d45 (by kernel_rfl) DTbl_nil)
def h110_0:LSh:=⟨[3,16,17,18],⟨[(.slc 0),(.slc 1),(.v y13),(.v y13)],[(0,(.row 55 y24)),(1,(.row 55 y24))]⟩,[y13,y13,y35,y35],2,[1]⟩
def x110_0:List XSh:=[⟨(.exit 0),[3],⟨⟨[(.slc 2)],[(1,(.row 55 y24)),(2,(.row 55 y24))]⟩,[y35,y35],[1],3⟩⟩]
noncomputable def c110:=anF Tryz.prog [] Tryz.f110 (.s .n (.s (.s .n (.s (.s (.r [.a 1 true y24]) .n) .n)) (.s .n (.s (.s .n (.b (.l h110_0 x110_0 (.s .n (.s .n (.s (.b (.s .n (.s .n (.s .n (.s .n (.r [.a 2 true y24,.a 3 true y24])))))) .n)))))) .n))))
noncomputable def s110_0 (T:List FEnt):=dstep (xs:=x110_0) h110_0 (dxc T (sb [1,1,1,0,1,2,2] c110))
noncomputable def l110_0 (T:List FEnt):=whileF (s110_0 T)
noncomputable def q110_0 (F45:Y246)(a0 a1:Int)(a2 a3:List Y1):Option Y256:=
cond (decide (a1 < a0)) (
chk (inR a1 a3.length) (
cond (decide (0 < (↑a2.length:Int))) (
chk (fits .i64 ((↑a2.length:Int)-1)) (
chk (inR ((↑a2.length:Int)-1) a2.length) (
chk (fits .i64 ((ix a2 ((↑a2.length:Int)-1)).2+1)) (
cond (decide ((ix a3 a1).1≤((ix a2 ((↑a2.length:Int)-1)).2+1))) (
chk (fits .i64 ((↑a2.length:Int)-1)) (
chk (fits .i64 ((↑a2.length:Int)-1)) (
chk (inR ((↑a2.length:Int)-1) a2.length) (
chk (inR ((↑a2.length:Int)-1) a2.length) (
chk (fits .i64 (a1+1)) (
some (Sum.inl (a0,(a1+1),(List.set a2 (Int.toNat ((↑a2.length:Int)-1)) ((ix a2 ((↑a2.length:Int)-1)).1,(max ((ix a2 ((↑a2.length:Int)-1)).2) ((ix a3 a1).2)))),a3)))))))) (
chk (capOk 16 (List.length a2+List.length ([(ix a3 a1)]:List Y1))) (
chk (fits .i64 (a1+1)) (
some (Sum.inl (a0,(a1+1),(a2++([(ix a3 a1)]:List Y1)),a3))))))))) (
chk (capOk 16 (List.length a2+List.length ([(ix a3 a1)]:List Y1))) (
chk (fits .i64 (a1+1)) (
some (Sum.inl (a0,(a1+1),(a2++([(ix a3 a1)]:List Y1)),a3))))))) (
some (Sum.inr (a3,a2)))
theorem g110_0 (F45:Y246)(a0 a1:Int)(a2 a3:List Y1):s110_0 (T110 F45) (a0,a1,a2,a3)=q110_0 F45 a0 a1 a2 a3:=by kernel_rfl
noncomputable def p110_0:=q110_0 P45
noncomputable def L110_0:Y247:=whileF (fun x=>p110_0 x.1 x.2.1 x.2.2.1 x.2.2.2)
theorem v110_0:l110_0 (T110 P45) =L110_0:=congrArg whileF (funext fun x=>(g110_0 P45 x.1 x.2.1 x.2.2.1 x.2.2.2))
theorem ok110:L.Fn Tryz.prog 110 58 [(.t 2)] (erase c110):=Fn.ofA hmix Tryz.func110 _ _ (by kernel_rfl)
def sh110:FSh:=⟨⟨[(.ptr 0 0)],[(0,(.box [(.v y13),(.v y13),(.v y13),(.v y13),(.v y13),(.v .bool),(.v y25),(.v y13),(.v y25),(.v y35),(.slc 1),(.slc 2),(.slc 3)])),(1,(.row 64 y24)),(2,(.row 59 y68)),(3,(.row 55 y24))]⟩,[y13,y13,y13,y13,y13,.bool,y25,y13,y25,y35,y35,y78,y35],4,⟨⟨[(.slc 4)],[(0,(.box [(.v y13),(.v y13),(.v y13),(.v y13),(.v y13),(.v .bool),(.v y25),(.v y13),(.v y25),(.v y35),(.slc 1),(.slc 2),(.slc 3)])),(1,(.row 64 y24)),(2,(.row 59 y68)),(3,(.row 55 y24)),(4,(.row 55 y24))]⟩,[y13,y13,y13,y13,y13,.bool,y25,y13,y25,y35,y35,y78,y35,y35],[0,1,2,3],5⟩,false⟩
noncomputable def q110 (F45:Y246)(l110_0:Y247)(a0 a1 a2 a3 a4:Int)(a5:Bool)(a6:List Int)(a7:Int)(a8:List Int)(a9 a10:List Y1)(a11:List Y15)(a12:List Y1):Option Y257:=
cond (!a5) (
some (a0,a1,a2,a3,a4,a5,a6,a7,a8,a9,a10,a11,a12,([(0,9999)]:List Y1))) (
(F45 (a0,(a1,(a2,(a3,(a4,(a5,(a6,(a7,(a8,(a9,(a10,(a11,a12))))))))))))).bind fun r1=>(
(l110_0 ((↑r1.length:Int),0,([]:List Y1),r1)).bind fun y2=>(
some (a0,a1,a2,a3,a4,a5,a6,a7,a8,a9,a10,a11,a12,y2.2))))
theorem g110 (F45:Y246)(a0 a1 a2 a3 a4:Int)(a5:Bool)(a6:List Int)(a7:Int)(a8:List Int)(a9 a10:List Y1)(a11:List Y15)(a12:List Y1):dxf (T110 F45) sh110 [(.t 2)] c110 (a0,a1,a2,a3,a4,a5,a6,a7,a8,a9,a10,a11,a12)=q110 F45 (l110_0 (T110 F45)) a0 a1 a2 a3 a4 a5 a6 a7 a8 a9 a10 a11 a12:=by kernel_rfl
noncomputable def p110:=q110 P45 L110_0
noncomputable def P110:Y268:=fun x=>p110 x.1 x.2.1 x.2.2.1 x.2.2.2.1 x.2.2.2.2.1 x.2.2.2.2.2.1 x.2.2.2.2.2.2.1 x.2.2.2.2.2.2.2.1 x.2.2.2.2.2.2.2.2.1 x.2.2.2.2.2.2.2.2.2.1 x.2.2.2.2.2.2.2.2.2.2.1 x.2.2.2.2.2.2.2.2.2.2.2.1 x.2.2.2.2.2.2.2.2.2.2.2.2
theorem v110:dxf (T110 P45) sh110 [(.t 2)] c110=P110:=funext fun x=>(g110 P45 x.1 x.2.1 x.2.2.1 x.2.2.2.1 x.2.2.2.2.1 x.2.2.2.2.2.1 x.2.2.2.2.2.2.1 x.2.2.2.2.2.2.2.1 x.2.2.2.2.2.2.2.2.1 x.2.2.2.2.2.2.2.2.2.1 x.2.2.2.2.2.2.2.2.2.2.1 x.2.2.2.2.2.2.2.2.2.2.2.1 x.2.2.2.2.2.2.2.2.2.2.2.2).trans (by rw[v110_0] <;> rfl)
theorem d110:DC Tryz.prog 110 sh110 P110:=DC_eq v110 (dxf_sound t110 ok110 (by kernel_rfl))
end Go.Proofs.YtdacabdocbhkdaaGreat.D
