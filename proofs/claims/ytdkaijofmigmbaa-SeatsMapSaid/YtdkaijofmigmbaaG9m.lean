import Derived.Test.YtdkaijofmigmbaaG8m
import Derived.Test.YtdkaijofmigmbaaProg
set_option linter.unusedVariables false
set_option maxRecDepth 100000
namespace Go.Proofs.Ytdkaijofmigmbaa.D
open Go Go.Proofs Go.Proofs.Ytdkaijofmigmbaa.L
def j14:List RSh:=[(.ptr 0 0),(.ptr 1 0),(.v y7),(.slc 2),(.v y7)]
def X9:List (Nat×OSh):=[(0,(.boxT aY)),(1,(.boxT iX)),(2,(.row 40 da))]
def Ya:FSh:=⟨⟨TL,[]⟩,TK,0,⟨⟨KQ,[]⟩,[y7,y7],[],0⟩,true⟩
noncomputable def T9 (F12:dD)(F14:cX)(F32:x5)(F33:x6)(F21:iU)(F15:dq):List FEnt:=[⟨12,tx,F12⟩,⟨14,pL,F14⟩,⟨32,X8,F32⟩,⟨33,Ya,F33⟩,⟨21,xM,F21⟩,⟨15,qr,F15⟩]
def Yb:LSh:=⟨[1,3,5,7],⟨j25,Gt⟩,[bd,y7,aY,iX],2,[0,1]⟩
def Yc:List XSh:=[⟨.ret,[6],⟨⟨ft,Gt⟩,[.bool,aY,iX],[0,1],2⟩⟩,⟨(.exit 0),[1,3,5],⟨⟨[(.v bd),(.ptr 0 0),(.ptr 1 0)],Gt⟩,[bd,aY,iX],[0,1],2⟩⟩]
def JI:LSh:=⟨[1,3,5,8,10],⟨j13,Gt⟩,z13,2,[0,1]⟩
def Yd:List XSh:=[⟨.ret,[6],⟨⟨ft,Gt⟩,[.bool,aY,iX],[0,1],2⟩⟩,⟨.normal,[1,3,5,8,10],⟨⟨j13,Gt⟩,z13,[0,1],2⟩⟩]
def Ye:List XSh:=[⟨.ret,[6],⟨⟨ft,Gt⟩,[.bool,aY,iX],[0,1],2⟩⟩,⟨.normal,[1,3,5,10],⟨⟨j25,Gt⟩,[bd,y7,aY,iX],[0,1],2⟩⟩]
def Yf:LSh:=⟨[3,5,10,18,19],⟨j14,X9⟩,[y7,y7,aY,iX,bd],3,[0,1]⟩
def Yg:List XSh:=[⟨(.exit 2),[3,5,10,18],⟨⟨[(.ptr 0 0),(.ptr 1 0),(.v y7),(.slc 2)],X9⟩,[y7,aY,iX,bd],[0,1],3⟩⟩]
def Yh:LSh:=⟨[3,5,10,18,20],⟨j14,X9⟩,[y7,y7,aY,iX,bd],3,[0,1,2]⟩
def Yi:List XSh:=[⟨.ret,[6],⟨⟨ft,X9⟩,[.bool,aY,iX,bd],[0,1,2],3⟩⟩,⟨(.exit 4),[],⟨⟨[],X9⟩,[aY,iX,bd],[0,1,2],3⟩⟩]
noncomputable def c9:=bU Try.prog [] Try.f9 (.s .n (.s .n (.s (.s .n (.b (.l Yb Yc .n))) (.s .n (.s .n (.s .n (.s (.o JI Yd .n) (.s (.o JI Ye .n) (.s .n (.s (.r [.a 0 true da,.a 2 true da]) (.s (.s .n (.b (.l Yf Yg (.s .n (.s (.b (.r [.a 10 true da,.a 11 true da])) .n))))) (.s (.s .n (.b (.l Yh Yi .n))) .n))))))))))))
noncomputable def s9_0 (T:List FEnt):=aG (xs:=Yc) Yb (bg T (sb [1,1,0,1,2,2] c9))
noncomputable def l9_0 (T:List FEnt):=ah (s9_0 T)
noncomputable def l9_1 (T:List FEnt):=fg (xs:=Yd) JI (bg T (sb [1,1,1,1,1,1,0,2] c9))
noncomputable def l9_2 (T:List FEnt):=fg (xs:=Ye) JI (bg T (sb [1,1,1,1,1,1,1,0,2] c9))
noncomputable def s9_3 (T:List FEnt):=aG (xs:=Yg) Yf (bg T (sb [1,1,1,1,1,1,1,1,1,1,0,1,2,2] c9))
noncomputable def l9_3 (T:List FEnt):=ah (s9_3 T)
noncomputable def s9_4 (T:List FEnt):=aG (xs:=Yi) Yh (bg T (sb [1,1,1,1,1,1,1,1,1,1,1,0,1,2,2] c9))
noncomputable def l9_4 (T:List FEnt):=ah (s9_4 T)
def sh9:FSh:=⟨⟨RO,[]⟩,RN,0,⟨⟨ft,[]⟩,[.bool],[],0⟩,true⟩
noncomputable def q9 (F12:dD)(F14:cX)(F32:x5)(F33:x6)(F21:iU)(F15:dq)(l9_0:Y498)(l9_1:Y499)(l9_2:Gz)(l9_3:Y490)(l9_4:Y501)(a0:Y2×Int)(a1:List Y1)(a2:ci):Option Bool:=
(F12 (a0,a1,a2.1)).bind fun r1=>(
cond (!r1) (
(F14 ()).bind fun r2=>(
some r2)) (
cond (decide (a2.2.2 < 1)) (
(F14 ()).bind fun r3=>(
some r3)) (
cond (decide (12 < a2.2.2)) (
(F14 ()).bind fun r4=>(
some r4)) (
cond (decide (10 < (↑a1.length:Int))) (
(F14 ()).bind fun r5=>(
some r5)) (
(l9_0 (a1,0,a0,a2)).bind (fun y9=>Sum.elim (fun y10=>(
some y10.1)) (fun y11=>(
(F32 (y11.2.1,y11.1,y11.2.2.1)).bind fun r12=>(
(F33 (y11.2.1,y11.1,y11.2.2.1,y11.2.2.2.2)).bind fun r13=>(
cond (!decide (r12.2=0)) (
some false) (
cond (!decide (r13.2=0)) (
some false) (
cond (decide (r12.1 < 0)) (
some false) (
cond (decide (12 < r12.1)) (
some false) (
cond (decide (r13.1 < 0)) (
some false) (
cond ((decide (0 < r13.1))!=(decide (y11.2.2.2.2≤r12.1))) (
some false) (
(l9_1 (y11.1,r12.1,r13.1,y11.2.1,y11.2.2)).bind (fun y15=>Sum.elim (fun y16=>(
some y16.1)) (fun y17=>(
(l9_2 (y17.1,y17.2.1,y17.2.2.1,y17.2.2.2.1,y17.2.2.2.2)).bind (fun y19=>Sum.elim (fun y20=>(
some y20.1)) (fun y21=>(
cond (decide (28 < y21.2.1)) (
(F14 ()).bind fun r22=>(
some r22)) (
aj (bM 40 (List.length ([]:List Y1)+List.length y21.1)) (
(l9_3 (y21.2.1,0,y21.2.2.1,y21.2.2.2,(([]:List Y1)++y21.1))).bind fun y23=>(
(l9_4 (y23.1,0,y23.2.1,y23.2.2.1,y23.2.2.2)).bind (fun y25=>Sum.elim (fun y26=>(
some y26.1)) (fun y27=>(
(F14 ()).bind fun r28=>(
some r28))) y25)))))) y19))) y15))))))))))) y9))))))
theorem g9 (F12:dD)(F14:cX)(F32:x5)(F33:x6)(F21:iU)(F15:dq):aO (T9 F12 F14 F32 F33 F21 F15) sh9 [(.t 6)] c9=u3 (q9 F12 F14 F32 F33 F21 F15 (l9_0 (T9 F12 F14 F32 F33 F21 F15)) (l9_1 (T9 F12 F14 F32 F33 F21 F15)) (l9_2 (T9 F12 F14 F32 F33 F21 F15)) (l9_3 (T9 F12 F14 F32 F33 F21 F15)) (l9_4 (T9 F12 F14 F32 F33 F21 F15))):=funext fun _=>by kernel_rfl
def sh34:FSh:=⟨⟨TL,[]⟩,TK,0,⟨⟨[(.tup j36)],[]⟩,[y7,y7,y7],[],0⟩,true⟩
def sh35:FSh:=⟨⟨I7,[]⟩,I5,0,⟨⟨KQ,[]⟩,[y7,y7],[],0⟩,true⟩
def sh36:FSh:=⟨⟨TL,[]⟩,TK,0,⟨⟨KQ,[]⟩,[y7,y7],[],0⟩,true⟩
noncomputable def T10 (F24:Hr)(F14:cX)(F25:x4)(F21:iU)(F34:iU)(F32:x5)(F35:x5)(F33:x6)(F36:x6):List FEnt:=[⟨24,BB,F24⟩,⟨14,pL,F14⟩,⟨25,Gn,F25⟩,⟨21,xM,F21⟩,⟨34,sh34,F34⟩,⟨32,X8,F32⟩,⟨35,sh35,F35⟩,⟨33,Ya,F33⟩,⟨36,sh36,F36⟩]
noncomputable def c10:=bU Try.prog [] Try.f10 .n
def sh10:FSh:=⟨⟨RO,[]⟩,RN,0,⟨⟨ft,[]⟩,[.bool],[],0⟩,true⟩
noncomputable def q10 (F24:Hr)(F14:cX)(F25:x4)(F21 F34:iU)(F32 F35:x5)(F33 F36:x6)(a0:Y2×Int)(a1:List Y1)(a2:ci):Option Bool:=
(F24 (a0,a1)).bind fun r1=>(
cond r1 (
(F14 ()).bind fun r2=>(
some r2)) (
(F25 (a0,a1)).bind fun r3=>(
(F21 ((r3.2.1,r3.1),r3.2.2,a2.1,a2.2.2)).bind fun r4=>(
(F34 (a0,a1,a2.1,a2.2.2)).bind fun r5=>(
(F32 ((r3.2.1,r3.1),r3.2.2,a2.1)).bind fun r6=>(
(F35 (a0,a1,a2.1)).bind fun r7=>(
(F33 ((r3.2.1,r3.1),r3.2.2,a2.1,a2.2.2)).bind fun r8=>(
(F36 (a0,a1,a2.1,a2.2.2)).bind fun r9=>(
cond (decide (r4.1=r5.1)) (
cond (decide (r4.2.1=r5.2.1)) (
cond (decide (r4.2.2=r5.2.2)) (
cond (decide (r6.1=r7.1)) (
cond (decide (r6.2=r7.2)) (
cond (decide (r8.1=r9.1)) (
cond (decide (r8.2=r9.2)) (
(F14 ()).bind fun r10=>(
some r10)) (
some false)) (
some false)) (
some false)) (
some false)) (
some false)) (
some false)) (
some false))))))))))
theorem g10 (F24:Hr)(F14:cX)(F25:x4)(F21 F34:iU)(F32 F35:x5)(F33 F36:x6):aO (T10 F24 F14 F25 F21 F34 F32 F35 F33 F36) sh10 [(.t 6)] c10=u3 (q10 F24 F14 F25 F21 F34 F32 F35 F33 F36):=funext fun _=>by kernel_rfl
end Go.Proofs.Ytdkaijofmigmbaa.D
