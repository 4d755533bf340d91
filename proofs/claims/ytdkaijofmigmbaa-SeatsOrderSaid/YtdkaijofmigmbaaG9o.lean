import Derived.Test.YtdkaijofmigmbaaG8o
import Derived.Test.YtdkaijofmigmbaaProg
set_option linter.unusedVariables false
set_option maxRecDepth 100000
namespace Go.Proofs.Ytdkaijofmigmbaa.D
open Go Go.Proofs Go.Proofs.Ytdkaijofmigmbaa.L
def j14:List RSh:=[(.ptr 0 0),(.ptr 1 0),(.v y7),(.slc 2),(.v y7)]
def Yf:List (Nat×OSh):=[(0,(.boxT aW)),(1,(.boxT iR)),(2,(.row 40 cW))]
def Yg:FSh:=⟨⟨TD,[]⟩,TC,0,⟨⟨KF,[]⟩,[y7,y7],[],0⟩,true⟩
noncomputable def T9 (F12:dz)(F14:cV)(F32:xO)(F33:xP)(F21:iQ)(F15:dn):List FEnt:=[⟨12,sP,F12⟩,⟨14,pj,F14⟩,⟨32,Ye,F32⟩,⟨33,Yg,F33⟩,⟨21,xz,F21⟩,⟨15,pS,F15⟩]
def Yh:LSh:=⟨[1,3,5,7],⟨j25,Gd⟩,[bc,y7,aW,iR],2,[0,1]⟩
def Yi:List XSh:=[⟨.ret,[6],⟨⟨fk,Gd⟩,[.bool,aW,iR],[0,1],2⟩⟩,⟨(.exit 0),[1,3,5],⟨⟨[(.v bc),(.ptr 0 0),(.ptr 1 0)],Gd⟩,[bc,aW,iR],[0,1],2⟩⟩]
def Jv:LSh:=⟨[1,3,5,8,10],⟨j13,Gd⟩,z13,2,[0,1]⟩
def Yj:List XSh:=[⟨.ret,[6],⟨⟨fk,Gd⟩,[.bool,aW,iR],[0,1],2⟩⟩,⟨.normal,[1,3,5,8,10],⟨⟨j13,Gd⟩,z13,[0,1],2⟩⟩]
def Yk:List XSh:=[⟨.ret,[6],⟨⟨fk,Gd⟩,[.bool,aW,iR],[0,1],2⟩⟩,⟨.normal,[1,3,5,10],⟨⟨j25,Gd⟩,[bc,y7,aW,iR],[0,1],2⟩⟩]
def Yl:LSh:=⟨[3,5,10,18,19],⟨j14,Yf⟩,[y7,y7,aW,iR,bc],3,[0,1]⟩
def Ym:List XSh:=[⟨(.exit 2),[3,5,10,18],⟨⟨[(.ptr 0 0),(.ptr 1 0),(.v y7),(.slc 2)],Yf⟩,[y7,aW,iR,bc],[0,1],3⟩⟩]
def Yn:LSh:=⟨[3,5,10,18,20],⟨j14,Yf⟩,[y7,y7,aW,iR,bc],3,[0,1,2]⟩
def Yo:List XSh:=[⟨.ret,[6],⟨⟨fk,Yf⟩,[.bool,aW,iR,bc],[0,1,2],3⟩⟩,⟨(.exit 4),[],⟨⟨[],Yf⟩,[aW,iR,bc],[0,1,2],3⟩⟩]
noncomputable def c9:=bU Try.prog [] Try.f9 (.s .n (.s .n (.s (.s .n (.b (.l Yh Yi .n))) (.s .n (.s .n (.s .n (.s (.o Jv Yj .n) (.s (.o Jv Yk .n) (.s .n (.s (.r [.a 0 true cW,.a 2 true cW]) (.s (.s .n (.b (.l Yl Ym (.s .n (.s (.b (.r [.a 10 true cW,.a 11 true cW])) .n))))) (.s (.s .n (.b (.l Yn Yo .n))) .n))))))))))))
noncomputable def s9_0 (T:List FEnt):=aG (xs:=Yi) Yh (bf T (sb [1,1,0,1,2,2] c9))
noncomputable def l9_0 (T:List FEnt):=af (s9_0 T)
noncomputable def l9_1 (T:List FEnt):=eZ (xs:=Yj) Jv (bf T (sb [1,1,1,1,1,1,0,2] c9))
noncomputable def l9_2 (T:List FEnt):=eZ (xs:=Yk) Jv (bf T (sb [1,1,1,1,1,1,1,0,2] c9))
noncomputable def s9_3 (T:List FEnt):=aG (xs:=Ym) Yl (bf T (sb [1,1,1,1,1,1,1,1,1,1,0,1,2,2] c9))
noncomputable def l9_3 (T:List FEnt):=af (s9_3 T)
noncomputable def s9_4 (T:List FEnt):=aG (xs:=Yo) Yn (bf T (sb [1,1,1,1,1,1,1,1,1,1,1,0,1,2,2] c9))
noncomputable def l9_4 (T:List FEnt):=af (s9_4 T)
def sh9:FSh:=⟨⟨RN,[]⟩,RM,0,⟨⟨fk,[]⟩,[.bool],[],0⟩,true⟩
noncomputable def q9 (F12:dz)(F14:cV)(F32:xO)(F33:xP)(F21:iQ)(F15:dn)(l9_0:Y498)(l9_1:Y499)(l9_2:Gj)(l9_3:Y490)(l9_4:Y501)(a0:Y2×Int)(a1:List Y1)(a2:cj):Option Bool:=
(F12 (a0,a1,a2.1)).bind fun r1=>(
cond (!r1) (
(F14 ()).bind fun r2=>(
some r2)) (
cond (decide (a2.2.2 < 1)) (
(F14 ()).bind fun r3=>(
some r3)) (
cond (decide (12 < a2.2.2)) (
(F14 ()).bind fun r4=>(
some r4)) (
cond (decide (10 < (↑a1.length:Int))) (
(F14 ()).bind fun r5=>(
some r5)) (
(l9_0 (a1,0,a0,a2)).bind (fun y9=>Sum.elim (fun y10=>(
some y10.1)) (fun y11=>(
(F32 (y11.2.1,y11.1,y11.2.2.1)).bind fun r12=>(
(F33 (y11.2.1,y11.1,y11.2.2.1,y11.2.2.2.2)).bind fun r13=>(
cond (!decide (r12.2=0)) (
some false) (
cond (!decide (r13.2=0)) (
some false) (
cond (decide (r12.1 < 0)) (
some false) (
cond (decide (12 < r12.1)) (
some false) (
cond (decide (r13.1 < 0)) (
some false) (
cond ((decide (0 < r13.1))!=(decide (y11.2.2.2.2≤r12.1))) (
some false) (
(l9_1 (y11.1,r12.1,r13.1,y11.2.1,y11.2.2)).bind (fun y15=>Sum.elim (fun y16=>(
some y16.1)) (fun y17=>(
(l9_2 (y17.1,y17.2.1,y17.2.2.1,y17.2.2.2.1,y17.2.2.2.2)).bind (fun y19=>Sum.elim (fun y20=>(
some y20.1)) (fun y21=>(
cond (decide (28 < y21.2.1)) (
(F14 ()).bind fun r22=>(
some r22)) (
ai (bM 40 (List.length ([]:List Y1)+List.length y21.1)) (
(l9_3 (y21.2.1,0,y21.2.2.1,y21.2.2.2,(([]:List Y1)++y21.1))).bind fun y23=>(
(l9_4 (y23.1,0,y23.2.1,y23.2.2.1,y23.2.2.2)).bind (fun y25=>Sum.elim (fun y26=>(
some y26.1)) (fun y27=>(
(F14 ()).bind fun r28=>(
some r28))) y25)))))) y19))) y15))))))))))) y9))))))
theorem g9 (F12:dz)(F14:cV)(F32:xO)(F33:xP)(F21:iQ)(F15:dn):aO (T9 F12 F14 F32 F33 F21 F15) sh9 [(.t 6)] c9=u3 (q9 F12 F14 F32 F33 F21 F15 (l9_0 (T9 F12 F14 F32 F33 F21 F15)) (l9_1 (T9 F12 F14 F32 F33 F21 F15)) (l9_2 (T9 F12 F14 F32 F33 F21 F15)) (l9_3 (T9 F12 F14 F32 F33 F21 F15)) (l9_4 (T9 F12 F14 F32 F33 F21 F15))):=funext fun _=>by kernel_rfl
def sh34:FSh:=⟨⟨TD,[]⟩,TC,0,⟨⟨[(.tup j36)],[]⟩,[y7,y7,y7],[],0⟩,true⟩
def sh35:FSh:=⟨⟨IL,[]⟩,IJ,0,⟨⟨KF,[]⟩,[y7,y7],[],0⟩,true⟩
def sh36:FSh:=⟨⟨TD,[]⟩,TC,0,⟨⟨KF,[]⟩,[y7,y7],[],0⟩,true⟩
noncomputable def T10 (F24:Ha)(F14:cV)(F25:xN)(F21:iQ)(F34:iQ)(F32:xO)(F35:xO)(F33:xP)(F36:xP):List FEnt:=[⟨24,Bj,F24⟩,⟨14,pj,F14⟩,⟨25,F8,F25⟩,⟨21,xz,F21⟩,⟨34,sh34,F34⟩,⟨32,Ye,F32⟩,⟨35,sh35,F35⟩,⟨33,Yg,F33⟩,⟨36,sh36,F36⟩]
noncomputable def c10:=bU Try.prog [] Try.f10 .n
def sh10:FSh:=⟨⟨RN,[]⟩,RM,0,⟨⟨fk,[]⟩,[.bool],[],0⟩,true⟩
noncomputable def q10 (F24:Ha)(F14:cV)(F25:xN)(F21 F34:iQ)(F32 F35:xO)(F33 F36:xP)(a0:Y2×Int)(a1:List Y1)(a2:cj):Option Bool:=
(F24 (a0,a1)).bind fun r1=>(
cond r1 (
(F14 ()).bind fun r2=>(
some r2)) (
(F25 (a0,a1)).bind fun r3=>(
(F21 ((r3.2.1,r3.1),r3.2.2,a2.1,a2.2.2)).bind fun r4=>(
(F34 (a0,a1,a2.1,a2.2.2)).bind fun r5=>(
(F32 ((r3.2.1,r3.1),r3.2.2,a2.1)).bind fun r6=>(
(F35 (a0,a1,a2.1)).bind fun r7=>(
(F33 ((r3.2.1,r3.1),r3.2.2,a2.1,a2.2.2)).bind fun r8=>(
(F36 (a0,a1,a2.1,a2.2.2)).bind fun r9=>(
cond (decide (r4.1=r5.1)) (
cond (decide (r4.2.1=r5.2.1)) (
cond (decide (r4.2.2=r5.2.2)) (
cond (decide (r6.1=r7.1)) (
cond (decide (r6.2=r7.2)) (
cond (decide (r8.1=r9.1)) (
cond (decide (r8.2=r9.2)) (
(F14 ()).bind fun r10=>(
some r10)) (
some false)) (
some false)) (
some false)) (
some false)) (
some false)) (
some false)) (
some false))))))))))
theorem g10 (F24:Ha)(F14:cV)(F25:xN)(F21 F34:iQ)(F32 F35:xO)(F33 F36:xP):aO (T10 F24 F14 F25 F21 F34 F32 F35 F33 F36) sh10 [(.t 6)] c10=u3 (q10 F24 F14 F25 F21 F34 F32 F35 F33 F36):=funext fun _=>by kernel_rfl
end Go.Proofs.Ytdkaijofmigmbaa.D
