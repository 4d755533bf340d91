/- Cut down from a longer text. -/
import Derived.Test.YtdacabdocbhkdaaGreatG9m
import Derived.Test.YtdacabdocbhkdaaGreatProg
set_option linter.unusedVariables false
set_option maxRecDepth 100000
namespace Go.Proofs.YtdacabdocbhkdaaGreat.D
open Go Go.Proofs L
noncomputable def T14 (F27:Y44)(F26:Y198)(F19:Y396)(F20:Y215):List FEnt:=[⟨27,sh27,F27⟩,⟨26,sh26,F26⟩,⟨19,sh19,F19⟩,⟨20,sh20,F20⟩]
theorem t14:DTblOK Tryz.prog (T14 P27 P26 P19 P20):=(DTbl_cons' d27 (by kernel_rfl) (DTbl_cons' d26 (by kernel_rfl) (DTbl_cons' d19 (by kernel_rfl) (DTbl_cons' d20 (by kernel_rfl) DTbl_nil))))
noncomputable def c14:=anF Tryz.prog [] Tryz.f14 .n
theorem ok14:L.Fn Tryz.prog 14 44 [(.t 4)] (erase c14):=Fn.ofA hmix Tryz.func14 _ _ (by kernel_rfl)
def sh14:FSh:=⟨⟨[(.st y91),(.st y473)],[]⟩,[y91,y473],0,⟨⟨[(.v .bool)],[]⟩,[.bool],[],0⟩,true⟩
noncomputable def q14 (F27:Y44)(F26:Y198)(F19:Y396)(F20:Y215)(a0:Y42)(a1:Y274):Option Bool:=
(F27 a0).bind fun r1=>(
cond r1 (
some false) (
(F26 a0).bind fun r2=>(
cond (!decide (r2=0)) (
some false) (
cond (decide (a1.2.2 < 0)) (
some false) (
cond (decide (9999 < a1.2.2)) (
some false) (
(F19 (a0,a1.1)).bind fun r3=>(
(F20 (a0,a1.2.1)).bind fun r4=>(
cond r3.2 (
some r4.2) (
some false)))))))))
theorem g14 (F27:Y44)(F26:Y198)(F19:Y396)(F20:Y215)(a0:Y42)(a1:Y274):dxf (T14 F27 F26 F19 F20) sh14 [(.t 4)] c14 (a0,a1)=q14 F27 F26 F19 F20 a0 a1:=by kernel_rfl
noncomputable def p14:=q14 P27 P26 P19 P20
noncomputable def P14:Y479:=fun x=>p14 x.1 x.2
theorem v14:dxf (T14 P27 P26 P19 P20) sh14 [(.t 4)] c14=P14:=funext fun x=>(g14 P27 P26 P19 P20 x.1 x.2)
theorem d14:DC Tryz.prog 14 sh14 P14:=DC_eq v14 (dxf_sound t14 ok14 (by kernel_rfl))
noncomputable def T23:List FEnt:=[]
theorem t23:DTblOK Tryz.prog T23:=DTbl_nil
def h23_0:LSh:=⟨[0,1,5],⟨[(.v y35),(.v y13),(.v y13)],[]⟩,[y35,y13,y13],0,[]⟩
noncomputable def c23:=anF Tryz.prog [] Tryz.f23 (.s .n (.s (.s .n (.b (.l h23_0 x125_0 .n))) .n))
noncomputable def s23_0 (T:List FEnt):=dstep (xs:=x125_0) h23_0 (dxc T (sb [1,0,1,2,2] c23))
noncomputable def l23_0 (T:List FEnt):=whileF (s23_0 T)
noncomputable def q23_0 (a0:List Y1)(a1 a2:Int):Option Y527:=
cond (decide (a2 < (↑a0.length:Int))) (
chk (inR a2 a0.length) (
cond (decide ((ix a0 a2).1≤a1)) (
chk (inR a2 a0.length) (
cond (decide (a1≤(ix a0 a2).2)) (
some (Sum.inr (Sum.inl true))) (
chk (fits .i64 (a2+1)) (
some (Sum.inl (a0,a1,(a2+1))))))) (
chk (fits .i64 (a2+1)) (
some (Sum.inl (a0,a1,(a2+1))))))) (
some (Sum.inr (Sum.inr ())))
theorem g23_0 (a0:List Y1)(a1 a2:Int):s23_0 T23 (a0,a1,a2)=q23_0 a0 a1 a2:=by kernel_rfl
noncomputable def p23_0:=q23_0
noncomputable def L23_0:Y523:=whileF (fun x=>p23_0 x.1 x.2.1 x.2.2)
theorem v23_0:l23_0 T23=L23_0:=congrArg whileF (funext fun x=>(g23_0 x.1 x.2.1 x.2.2))
theorem ok23:L.Fn Tryz.prog 23 28 [(.t 4)] (erase c23):=Fn.ofA hmix Tryz.func23 _ _ (by kernel_rfl)
def sh23:FSh:=⟨⟨[(.v y35),(.v y13)],[]⟩,[y35,y13],0,⟨⟨[(.v .bool)],[]⟩,[.bool],[],0⟩,true⟩
noncomputable def q23 (l23_0:Y523)(a0:List Y1)(a1:Int):Option Bool:=
(l23_0 (a0,a1,0)).bind (fun y1=>Sum.elim (fun y2=>(
some y2)) (fun y3=>(
some false)) y1)
theorem g23 (a0:List Y1)(a1:Int):dxf T23 sh23 [(.t 4)] c23 (a0,a1)=q23 (l23_0 T23) a0 a1:=by kernel_rfl
noncomputable def p23:=q23 L23_0
noncomputable def P23:Y21:=fun x=>p23 x.1 x.2
theorem v23:dxf T23 sh23 [(.t 4)] c23=P23:=funext fun x=>(g23 x.1 x.2).trans (by rw[v23_0] <;> rfl)
theorem d23:DC Tryz.prog 23 sh23 P23:=DC_eq v23 (dxf_sound t23 ok23 (by kernel_rfl))
noncomputable def T4 (F14:Y479)(F15:Y323)(F19:Y396)(F20:Y215)(F17:Y301)(F21:Y447)(F22:Y357)(F23:Y21)(F24:Y8):List FEnt:=[⟨14,sh14,F14⟩,⟨15,sh15,F15⟩,⟨19,sh19,F19⟩,⟨20,sh20,F20⟩,⟨17,sh17,F17⟩,⟨21,sh21,F21⟩,⟨22,sh22,F22⟩,⟨23,sh23,F23⟩,⟨24,sh24,F24⟩]
theorem t4:DTblOK Tryz.prog (T4 P14 P15 P19 P20 P17 P21 P22 P23 P24):=(DTbl_cons' d14 (by kernel_rfl) (DTbl_cons' d15 (by kernel_rfl) (DTbl_cons' d19 (by kernel_rfl) (DTbl_cons' d20 (by kernel_rfl) (DTbl_cons' d17 (by kernel_rfl) (DTbl_cons' d21 (by kernel_rfl) (DTbl_cons' d22 (by kernel_rfl) (DTbl_cons' d23 (by kernel_rfl) (DTbl_cons' d24 (by kernel_rfl) DTbl_nil)))))))))
def h4_0:LSh:=⟨[3,5,7,9,10,12,14,16],⟨[(.ptr 0 0),(.ptr 1 0),(.ptr 2 0),(.v y13),(.v y13),(.v y35),(.slc 3),(.v y13)],[(0,(.boxT y473)),(1,(.boxT y87)),(2,(.boxT y67)),(3,(.row 3 y13))]⟩,[y13,y13,y35,y13,y473,y87,y67,y25],4,[0,1,2,3]⟩
def x4_0:List XSh:=[⟨.ret,[4],⟨⟨[(.v .bool)],[(0,(.boxT y473)),(1,(.boxT y87)),(2,(.boxT y67)),(3,(.row 3 y13))]⟩,[.bool,y473,y87,y67,y25],[0,1,2,3],4⟩⟩,⟨(.exit 0),[3,5,7,9,10,12,14],⟨⟨[(.ptr 0 0),(.ptr 1 0),(.ptr 2 0),(.v y13),(.v y13),(.v y35),(.slc 3)],[(0,(.boxT y473)),(1,(.boxT y87)),(2,(.boxT y67)),(3,(.row 3 y13))]⟩,[y13,y13,y35,y473,y87,y67,y25],[0,1,2,3],4⟩⟩]
def h4_1:LSh:=⟨[3,5,7,9,10,12,14,17,18,19],⟨[(.ptr 0 0),(.ptr 1 0),(.ptr 2 0),(.v y13),(.v y13),(.v y35),(.slc 3),(.v .bool),(.v y13),(.v y13)],[(0,(.boxT y473)),(1,(.boxT y87)),(2,(.boxT y67)),(3,(.row 3 y13))]⟩,[y13,y13,y35,.bool,y13,y13,y473,y87,y67,y25],4,[0,1,2,3]⟩
def x4_1:List XSh:=[⟨(.exit 2),[3,5,7,9,10,12,14,17,18],⟨⟨[(.ptr 0 0),(.ptr 1 0),(.ptr 2 0),(.v y13),(.v y13),(.v y35),(.slc 3),(.v .bool),(.v y13)],[(0,(.boxT y473)),(1,(.boxT y87)),(2,(.boxT y67)),(3,(.row 3 y13))]⟩,[y13,y13,y35,.bool,y13,y473,y87,y67,y25],[0,1,2,3],4⟩⟩]
noncomputable def c4:=anF Tryz.prog [] Tryz.f4 (.s .n (.s .n (.s .n (.s .n (.s .n (.s .n (.s .n (.s .n (.s (.s .n (.b (.l h4_0 x4_0 .n))) (.s .n (.s (.s .n (.b (.l h4_1 x4_1 .n))) .n)))))))))))
noncomputable def s4_0 (T:List FEnt):=dstep (xs:=x4_0) h4_0 (dxc T (sb [1,1,1,1,1,1,1,1,0,1,2,2] c4))
noncomputable def l4_0 (T:List FEnt):=whileF (s4_0 T)
noncomputable def q4_0 (F14:Y479)(F15:Y323)(F19:Y396)(F20:Y215)(F17:Y301)(F21:Y447)(F22:Y357)(F23:Y21)(F24:Y8)(a0 a1:Int)(a2:List Y1)(a3:Int)(a4:Y274)(a5:Y12)(a6:Y22)(a7:List Int):Option Y538:=
cond (decide (a3 < (↑a2.length:Int))) (
chk (inR a3 a2.length) (
cond (decide ((ix a2 a3).1 < 0)) (
some (Sum.inr (Sum.inl (false,a4,a5,a6,a7)))) (
chk (inR a3 a2.length) (
chk (inR a3 a2.length) (
cond (decide ((ix a2 a3).2 < (ix a2 a3).1)) (
some (Sum.inr (Sum.inl (false,a4,a5,a6,a7)))) (
chk (inR a3 a2.length) (
cond (decide (9999 < (ix a2 a3).2)) (
some (Sum.inr (Sum.inl (false,a4,a5,a6,a7)))) (
cond (decide (0 < a3)) (
chk (inR a3 a2.length) (
chk (fits .i64 (a3-1)) (
chk (inR (a3-1) a2.length) (
chk (fits .i64 ((ix a2 (a3-1)).2+1)) (
cond (decide ((ix a2 a3).1≤((ix a2 (a3-1)).2+1))) (
some (Sum.inr (Sum.inl (false,a4,a5,a6,a7)))) (
chk (fits .i64 (a3+1)) (
some (Sum.inl (a0,a1,a2,(a3+1),a4,a5,a6,a7))))))))) (
chk (fits .i64 (a3+1)) (
some (Sum.inl (a0,a1,a2,(a3+1),a4,a5,a6,a7)))))))))))) (
some (Sum.inr (Sum.inr (a0,a1,a2,a4,a5,a6,a7))))
theorem g4_0 (F14:Y479)(F15:Y323)(F19:Y396)(F20:Y215)(F17:Y301)(F21:Y447)(F22:Y357)(F23:Y21)(F24:Y8)(a0 a1:Int)(a2:List Y1)(a3:Int)(a4:Y274)(a5:Y12)(a6:Y22)(a7:List Int):s4_0 (T4 F14 F15 F19 F20 F17 F21 F22 F23 F24) (a0,a1,a2,a3,a4,a5,a6,a7)=q4_0 F14 F15 F19 F20 F17 F21 F22 F23 F24 a0 a1 a2 a3 a4 a5 a6 a7:=by kernel_rfl
noncomputable def p4_0:=q4_0 P14 P15 P19 P20 P17 P21 P22 P23 P24
noncomputable def L4_0:Y535:=whileF (fun x=>p4_0 x.1 x.2.1 x.2.2.1 x.2.2.2.1 x.2.2.2.2.1 x.2.2.2.2.2.1 x.2.2.2.2.2.2.1 x.2.2.2.2.2.2.2)
theorem v4_0:l4_0 (T4 P14 P15 P19 P20 P17 P21 P22 P23 P24) =L4_0:=congrArg whileF (funext fun x=>(g4_0 P14 P15 P19 P20 P17 P21 P22 P23 P24 x.1 x.2.1 x.2.2.1 x.2.2.2.1 x.2.2.2.2.1 x.2.2.2.2.2.1 x.2.2.2.2.2.2.1 x.2.2.2.2.2.2.2))
noncomputable def s4_1 (T:List FEnt):=dstep (xs:=x4_1) h4_1 (dxc T (sb [1,1,1,1,1,1,1,1,1,1,0,1,2,2] c4))
noncomputable def l4_1 (T:List FEnt):=whileF (s4_1 T)
noncomputable def q4_1 (F14:Y479)(F15:Y323)(F19:Y396)(F20:Y215)(F17:Y301)(F21:Y447)(F22:Y357)(F23:Y21)(F24:Y8)(a0 a1:Int)(a2:List Y1)(a3:Bool)(a4 a5:Int)(a6:Y274)(a7:Y12)(a8:Y22)(a9:List Int):Option Y533:=
chk (fits .i64 (a6.2.2+a7.2.2.2.2.1)) (
cond (decide (a5 < (a6.2.2+a7.2.2.2.2.1))) (
(F23 (a2,a5)).bind fun r11=>(
cond (!r11) (
cond a3 (
chk (fits .i64 (a5+1)) (
some (Sum.inl (a0,a1,a2,false,a5,(a5+1),a6,a7,a8,a9)))) (
chk (fits .i64 (a5+1)) (
some (Sum.inl (a0,a1,a2,false,a4,(a5+1),a6,a7,a8,a9))))) (
chk (fits .i64 (a5+1)) (
some (Sum.inl (a0,a1,a2,a3,a4,(a5+1),a6,a7,a8,a9)))))) (
some (Sum.inr (a0,a1,a2,a3,a4,a6,a7,a8,a9))))
theorem g4_1 (F14:Y479)(F15:Y323)(F19:Y396)(F20:Y215)(F17:Y301)(F21:Y447)(F22:Y357)(F23:Y21)(F24:Y8)(a0 a1:Int)(a2:List Y1)(a3:Bool)(a4 a5:Int)(a6:Y274)(a7:Y12)(a8:Y22)(a9:List Int):s4_1 (T4 F14 F15 F19 F20 F17 F21 F22 F23 F24) (a0,a1,a2,a3,a4,a5,a6,a7,a8,a9)=q4_1 F14 F15 F19 F20 F17 F21 F22 F23 F24 a0 a1 a2 a3 a4 a5 a6 a7 a8 a9:=by kernel_rfl
noncomputable def p4_1:=q4_1 P14 P15 P19 P20 P17 P21 P22 P23 P24
noncomputable def L4_1:Y531:=whileF (fun x=>p4_1 x.1 x.2.1 x.2.2.1 x.2.2.2.1 x.2.2.2.2.1 x.2.2.2.2.2.1 x.2.2.2.2.2.2.1 x.2.2.2.2.2.2.2.1 x.2.2.2.2.2.2.2.2.1 x.2.2.2.2.2.2.2.2.2)
theorem v4_1:l4_1 (T4 P14 P15 P19 P20 P17 P21 P22 P23 P24) =L4_1:=congrArg whileF (funext fun x=>(g4_1 P14 P15 P19 P20 P17 P21 P22 P23 P24 x.1 x.2.1 x.2.2.1 x.2.2.2.1 x.2.2.2.2.1 x.2.2.2.2.2.1 x.2.2.2.2.2.2.1 x.2.2.2.2.2.2.2.1 x.2.2.2.2.2.2.2.2.1 x.2.2.2.2.2.2.2.2.2))
theorem ok4:L.Fn Tryz.prog 4 226 [(.t 4)] (erase c4):=Fn.ofA hmix Tryz.func4 _ _ (by kernel_rfl)
def sh4:FSh:=⟨⟨[(.st y91),(.st y473)],[]⟩,[y91,y473],0,⟨⟨[(.v .bool)],[]⟩,[.bool],[],0⟩,true⟩
noncomputable def q4 (F14:Y479)(F15:Y323)(F19:Y396)(F20:Y215)(F17:Y301)(F21:Y447)(F22:Y357)(F23:Y21)(F24:Y8)(l4_0:Y535)(l4_1:Y531)(a0:Y42)(a1:Y274):Option Bool:=
(F14 (a0,a1)).bind fun r1=>(
cond (!r1) (
(F15 ()).bind fun r2=>(
some r2)) (
(F19 (a0,a1.1)).bind fun r3=>(
(F20 (a0,a1.2.1)).bind fun r4=>(
(F17 (a0,a1.1,a1.2.1,a1.2.2)).bind fun r5=>(
(F21 (a0,a1.1,a1.2.1)).bind fun r6=>(
(F22 (a0,a1.1,a1.2.1)).bind fun r7=>(
cond (!decide (r5.2.2=0)) (
some false) (
cond (!decide (r6.2=0)) (
some false) (
cond (!decide (r7.1=0)) (
some false) (
cond (decide (30 < (↑r6.1.length:Int))) (
some false) (
(l4_0 (r5.1,r5.2.1,r6.1,0,a1,r3.1,r4.1,r7.2)).bind (fun y8=>Sum.elim (fun y9=>(
some y9.1)) (fun y10=>(
(l4_1 (y10.1,y10.2.1,y10.2.2.1,true,(-1),y10.2.2.2.1.2.2,y10.2.2.2.1,y10.2.2.2.2.1,y10.2.2.2.2.2.1,y10.2.2.2.2.2.2)).bind fun y12=>(
cond y12.2.2.2.1 (
cond ((decide (y12.1=0))!=(decide ((↑y12.2.2.2.2.2.2.2.2.length:Int)=0))) (
some false) (
cond (decide (y12.1=0)) (
chk (fits .i64 (y12.2.2.2.2.2.1.2.2+y12.2.2.2.2.2.2.1.2.2.2.2.1)) (
chk (fits .i64 ((y12.2.2.2.2.2.1.2.2+y12.2.2.2.2.2.2.1.2.2.2.2.1)-1)) (
cond (decide (y12.2.1=((y12.2.2.2.2.2.1.2.2+y12.2.2.2.2.2.2.1.2.2.2.2.1)-1))) (
(F15 ()).bind fun r13=>(
some r13)) (
some false)))) (
cond (decide (y12.1=1)) (
(F24 (y12.2.2.2.2.2.2.2.2,y12.2.1)).bind fun r14=>(
cond r14 (
(F15 ()).bind fun r15=>(
some r15)) (
some false))) (
cond (decide (y12.1=2)) (
cond y12.2.2.2.2.2.2.1.2.2.2.2.2.1 (
cond (decide ((↑y12.2.2.1.length:Int)=0)) (
cond (decide (y12.2.1=(-1))) (
(F15 ()).bind fun r16=>(
some r16)) (
some false)) (
some false)) (
some false)) (
cond (decide (y12.1=3)) (
cond y12.2.2.2.2.2.2.1.2.2.2.2.2.1 (
cond (decide ((↑y12.2.2.1.length:Int)=0)) (
(F24 (y12.2.2.2.2.2.2.2.1.2.1,y12.2.1)).bind fun r17=>(
cond r17 (
(F15 ()).bind fun r18=>(
some r18)) (
some false))) (
some false)) (
some false)) (
cond (decide (y12.1=4)) (
cond (decide (y12.2.1=y12.2.2.2.2.1)) (
(F15 ()).bind fun r19=>(
some r19)) (
some false)) (
some false))))))) (
cond ((decide (y12.1=0))!=false) (
some false) (
cond (decide (y12.1=0)) (
chk (fits .i64 (y12.2.2.2.2.2.1.2.2+y12.2.2.2.2.2.2.1.2.2.2.2.1)) (
chk (fits .i64 ((y12.2.2.2.2.2.1.2.2+y12.2.2.2.2.2.2.1.2.2.2.2.1)-1)) (
cond (decide (y12.2.1=((y12.2.2.2.2.2.1.2.2+y12.2.2.2.2.2.2.1.2.2.2.2.1)-1))) (
(F15 ()).bind fun r20=>(
some r20)) (
some false)))) (
cond (decide (y12.1=1)) (
(F24 (y12.2.2.2.2.2.2.2.2,y12.2.1)).bind fun r21=>(
cond r21 (
(F15 ()).bind fun r22=>(
some r22)) (
some false))) (
cond (decide (y12.1=2)) (
cond y12.2.2.2.2.2.2.1.2.2.2.2.2.1 (
cond (decide ((↑y12.2.2.1.length:Int)=0)) (
cond (decide (y12.2.1=(-1))) (
(F15 ()).bind fun r23=>(
some r23)) (
some false)) (
some false)) (
some false)) (
cond (decide (y12.1=3)) (
cond y12.2.2.2.2.2.2.1.2.2.2.2.2.1 (
cond (decide ((↑y12.2.2.1.length:Int)=0)) (
(F24 (y12.2.2.2.2.2.2.2.1.2.1,y12.2.1)).bind fun r24=>(
cond r24 (
(F15 ()).bind fun r25=>(
some r25)) (
some false))) (
some false)) (
some false)) (
cond (decide (y12.1=4)) (
cond (decide (y12.2.1=y12.2.2.2.2.1)) (
(F15 ()).bind fun r26=>(
some r26)) (
some false)) (
some false)))))))))) y8))))))))))))
theorem g4 (F14:Y479)(F15:Y323)(F19:Y396)(F20:Y215)(F17:Y301)(F21:Y447)(F22:Y357)(F23:Y21)(F24:Y8)(a0:Y42)(a1:Y274):dxf (T4 F14 F15 F19 F20 F17 F21 F22 F23 F24) sh4 [(.t 4)] c4 (a0,a1)=q4 F14 F15 F19 F20 F17 F21 F22 F23 F24 (l4_0 (T4 F14 F15 F19 F20 F17 F21 F22 F23 F24)) (l4_1 (T4 F14 F15 F19 F20 F17 F21 F22 F23 F24)) a0 a1:=by kernel_rfl
noncomputable def p4:=q4 P14 P15 P19 P20 P17 P21 P22 P23 P24 L4_0 L4_1
noncomputable def P4:Y479:=fun x=>p4 x.1 x.2
theorem v4:dxf (T4 P14 P15 P19 P20 P17 P21 P22 P23 P24) sh4 [(.t 4)] c4=P4:=funext fun x=>(g4 P14 P15 P19 P20 P17 P21 P22 P23 P24 x.1 x.2).trans (by rw[v4_0,v4_1] <;> rfl)
theorem d4:DC Tryz.prog 4 sh4 P4:=DC_eq v4 (dxf_sound t4 ok4 (by kernel_rfl))
noncomputable def T5 (F14:Y479)(F15:Y323)(F25:Y361)(F26:Y198)(F17:Y301)(F21:Y447)(F23:Y21):List FEnt:=[⟨14,sh14,F14⟩,⟨15,sh15,F15⟩,⟨25,sh25,F25⟩,⟨26,sh26,F26⟩,⟨17,sh17,F17⟩,⟨21,sh21,F21⟩,⟨23,sh23,F23⟩]
theorem t5:DTblOK Tryz.prog (T5 P14 P15 P25 P26 P17 P21 P23):=(DTbl_cons' d14 (by kernel_rfl) (DTbl_cons' d15 (by kernel_rfl) (DTbl_cons' d25 (by kernel_rfl) (DTbl_cons' d26 (by kernel_rfl) (DTbl_cons' d17 (by kernel_rfl) (DTbl_cons' d21 (by kernel_rfl) (DTbl_cons' d23 (by kernel_rfl) DTbl_nil)))))))
noncomputable def c5:=anF Tryz.prog [(3,{ch:=[1,0,1,0,0,0,0,0],rs:=[3],ord:=[0,2,1,3,4,5,6,7] })] Tryz.f5 (.s .n (.s .n (.s .n (.s (.r [.a 3 true y68,.a 4 true y68]) (.s (.r [.a 4 false y13,.a 5 false y13]) (.s .n (.s .n (.s .n (.s .n (.s .n (.s (.r [.f 5 48 [0],.f 5 48 [1],.f 5 48 [2],.f 5 55 [],.f 5 48 [4]]) (.s (.r [.f 5 50 [0],.f 5 50 [1],.f 5 50 [2],.f 5 50 [3],.f 5 62 []]) .n))))))))))))
theorem ok5:L.Fn Tryz.prog 5 199 [(.t 6)] (erase c5):=Fn.ofA hmix Tryz.func5 _ _ (by kernel_rfl)
def sh5:FSh:=⟨⟨[(.st y91),(.st y68),(.st y473)],[]⟩,[y91,y68,y473],0,⟨⟨[(.v .bool)],[]⟩,[.bool],[],0⟩,true⟩
noncomputable def q5 (F14:Y479)(F15:Y323)(F25:Y361)(F26:Y198)(F17:Y301)(F21:Y447)(F23:Y21)(a0:Y42)(a1:Y15)(a2:Y274):Option Bool:=
(F14 (a0,a2)).bind fun r1=>(
cond (!r1) (
(F15 ()).bind fun r2=>(
some r2)) (
cond (decide (50 < (↑a1.2.2.1.length:Int))) (
(F15 ()).bind fun r3=>(
some r3)) (
cond (decide (20≤(↑a0.2.2.2.1.length:Int))) (
(F15 ()).bind fun r4=>(
some r4)) (
cond (decide (20≤(↑a0.2.2.2.2.length:Int))) (
(F15 ()).bind fun r5=>(
some r5)) (
(F25 a0).bind fun r6=>(
(F25 a0).bind fun r7=>(
chk (capOk 56 (List.length r6.2.2.2.1+List.length ([a1]:List Y15))) (
chk (capOk 8 (List.length r7.2.2.2.2+List.length ([a1.1]:List Int))) (
(F26 (r6.1,(r6.2.1,(r6.2.2.1,((r6.2.2.2.1++([a1]:List Y15)),r6.2.2.2.2))))).bind fun r8=>(
cond (!decide (r8=0)) (
(F15 ()).bind fun r9=>(
some r9)) (
(F26 (r7.1,(r7.2.1,(r7.2.2.1,(r7.2.2.2.1,(r7.2.2.2.2++([a1.1]:List Int))))))).bind fun r10=>(
cond (!decide (r10=0)) (
(F15 ()).bind fun r11=>(
some r11)) (
(F17 (a0,a2.1,a2.2.1,a2.2.2)).bind fun r12=>(
(F17 ((r6.1,(r6.2.1,(r6.2.2.1,((r6.2.2.2.1++([a1]:List Y15)),r6.2.2.2.2)))),a2.1,a2.2.1,a2.2.2)).bind fun r13=>(
(F17 ((r7.1,(r7.2.1,(r7.2.2.1,(r7.2.2.2.1,(r7.2.2.2.2++([a1.1]:List Int)))))),a2.1,a2.2.1,a2.2.2)).bind fun r14=>(
(F21 (a0,a2.1,a2.2.1)).bind fun r15=>(
(F21 ((r6.1,(r6.2.1,(r6.2.2.1,((r6.2.2.2.1++([a1]:List Y15)),r6.2.2.2.2)))),a2.1,a2.2.1)).bind fun r16=>(
(F21 ((r7.1,(r7.2.1,(r7.2.2.1,(r7.2.2.2.1,(r7.2.2.2.2++([a1.1]:List Int)))))),a2.1,a2.2.1)).bind fun r17=>(
cond (!decide (r12.2.2=0)) (
some false) (
cond (!decide (r13.2.2=0)) (
some false) (
cond (!decide (r14.2.2=0)) (
some false) (
cond (!decide (r15.2=0)) (
some false) (
cond (!decide (r16.2=0)) (
some false) (
cond (!decide (r17.2=0)) (
some false) (
(F23 (r15.1,a2.2.2)).bind fun r18=>(
cond r18 (
(F23 (r16.1,a2.2.2)).bind fun r19=>(
cond (!r19) (
some false) (
(F23 (r17.1,a2.2.2)).bind fun r20=>(
cond r20 (
(F23 (r15.1,a2.2.2)).bind fun r21=>(
cond (!r21) (
some false) (
cond (!decide (r12.1=0)) (
cond (!decide (r14.1=0)) (
(F15 ()).bind fun r22=>(
some r22)) (
cond (decide (r12.1=0)) (
(F15 ()).bind fun r23=>(
some r23)) (
some false))) (
cond (decide (r13.1=0)) (
cond (!decide (r14.1=0)) (
(F15 ()).bind fun r24=>(
some r24)) (
cond (decide (r12.1=0)) (
(F15 ()).bind fun r25=>(
some r25)) (
some false))) (
some false))))) (
cond (!decide (r12.1=0)) (
cond (!decide (r14.1=0)) (
(F15 ()).bind fun r26=>(
some r26)) (
cond (decide (r12.1=0)) (
(F15 ()).bind fun r27=>(
some r27)) (
some false))) (
cond (decide (r13.1=0)) (
cond (!decide (r14.1=0)) (
(F15 ()).bind fun r28=>(
some r28)) (
cond (decide (r12.1=0)) (
(F15 ()).bind fun r29=>(
some r29)) (
some false))) (
some false))))))) (
(F23 (r17.1,a2.2.2)).bind fun r30=>(
cond r30 (
(F23 (r15.1,a2.2.2)).bind fun r31=>(
cond (!r31) (
some false) (
cond (!decide (r12.1=0)) (
cond (!decide (r14.1=0)) (
(F15 ()).bind fun r32=>(
some r32)) (
cond (decide (r12.1=0)) (
(F15 ()).bind fun r33=>(
some r33)) (
some false))) (
cond (decide (r13.1=0)) (
cond (!decide (r14.1=0)) (
(F15 ()).bind fun r34=>(
some r34)) (
cond (decide (r12.1=0)) (
(F15 ()).bind fun r35=>(
some r35)) (
some false))) (
some false))))) (
cond (!decide (r12.1=0)) (
cond (!decide (r14.1=0)) (
(F15 ()).bind fun r36=>(
some r36)) (
cond (decide (r12.1=0)) (
(F15 ()).bind fun r37=>(
some r37)) (
some false))) (
cond (decide (r13.1=0)) (
cond (!decide (r14.1=0)) (
(F15 ()).bind fun r38=>(
some r38)) (
cond (decide (r12.1=0)) (
(F15 ()).bind fun r39=>(
some r39)) (
some false))) (
some false)))))))))))))))))))))))))))))))
theorem g5 (F14:Y479)(F15:Y323)(F25:Y361)(F26:Y198)(F17:Y301)(F21:Y447)(F23:Y21)(a0:Y42)(a1:Y15)(a2:Y274):dxf (T5 F14 F15 F25 F26 F17 F21 F23) sh5 [(.t 6)] c5 (a0,a1,a2)=q5 F14 F15 F25 F26 F17 F21 F23 a0 a1 a2:=by kernel_rfl
noncomputable def p5:=q5 P14 P15 P25 P26 P17 P21 P23
noncomputable def P5:Y537:=fun x=>p5 x.1 x.2.1 x.2.2
theorem v5:dxf (T5 P14 P15 P25 P26 P17 P21 P23) sh5 [(.t 6)] c5=P5:=funext fun x=>(g5 P14 P15 P25 P26 P17 P21 P23 x.1 x.2.1 x.2.2)
theorem d5:DC Tryz.prog 5 sh5 P5:=DC_eq v5 (dxf_sound t5 ok5 (by kernel_rfl))
end Go.Proofs.YtdacabdocbhkdaaGreat.D
