import Derived.Test.YtdkaijofmigmbaaG8f
import Derived.Test.YtdkaijofmigmbaaProg
set_option linter.unusedVariables false
set_option maxRecDepth 100000
namespace Go.Proofs.Ytdkaijofmigmbaa.D
open Go Go.Proofs Go.Proofs.Ytdkaijofmigmbaa.L
def j14:List RSh:=[(.ptr 0 0),(.ptr 1 0),(.v y7),(.slc 2),(.v y7)]
def Z9:List (Nat×OSh):=[(0,(.boxT aY)),(1,(.boxT je)),(2,(.row 40 cW))]
noncomputable def VN (F42:ca)(F42v1:gE)(F55:ue):List FEnt:=[⟨42,tR,F42⟩,⟨42,iP,F42v1⟩,⟨55,G1,F55⟩]
theorem t33:al Try.prog (VN ja P42v1 uw):=dK (dK (dK aj d55) rT) Vp
def PB:LSh:=⟨[3,12,27,28,29],⟨[(.v y7),(.v y7),(.slc 0),(.v y7),(.v y7)],dg⟩,JT,1,[0]⟩
def PC:List XSh:=[⟨(.exit 0),[12],⟨⟨lZ,dg⟩,[y7,y19],[0],1⟩⟩]
noncomputable def c33:=bK Try.prog [] Try.f33 (.s .n (.s .n (.s .n (.s .n (.s (.s .n (.b (.l PB PC .n))) .n)))))
noncomputable def PD (T:List FEnt):=aD (xs:=PC) PB (bd T (sb [1,1,1,1,0,1,2,2] c33))
noncomputable def l33_0 (T:List FEnt):=af (PD T)
noncomputable def sD (F42:ca)(F42v1:gE)(F55:ue)(a0 a1 a2 a3:Int)(a4:List Int):Option Y284:=
cond (decide (a3 < a2)) (
ai (aA a3 a4.length) (
ai (decide (a0≠0)) (
ai (ah .i64 (Int.tdiv (ix a4 a3) a0)) (
ai (ah .i64 (a1+(Int.tdiv (ix a4 a3) a0))) (
ai (ah .i64 (a3+1)) (
some (Sum.inl (a0,(a1+(Int.tdiv (ix a4 a3) a0)),a2,(a3+1),a4)))))))) (
some (Sum.inr (a1,a4)))
theorem aaa (F42:ca)(F42v1:gE)(F55:ue):PD (VN F42 F42v1 F55)=u5 (sD F42 F42v1 F55):=funext fun _=>by kernel_rfl
noncomputable def PE:=sD ja P42v1 uw
noncomputable def we:KR:=af (u5 PE)
theorem aab:l33_0 (VN ja P42v1 uw)=we:=congrArg af (aaa ja P42v1 uw)
theorem ok33:L.Fn Try.prog 33 40 [(.t 8),(.t 9)] (erase c33):=oA Try.func33
def G3:FSh:=⟨⟨Vm,[]⟩,Vl,0,⟨⟨LU,[]⟩,[y7,y7],[],0⟩,true⟩
noncomputable def q33 (F42:ca)(F42v1:gE)(F55:ue)(l33_0:KR)(a0:Y2×Int)(a1:List Y1)(a2 a3:Int):Option yz:=
Id (F42 (a0,a1,a2,0,a3)) (fun r1=>(
cond (!decide (r1=0)) (
some (0,r1)) (
none))) (
(F42v1 (a0,a1,a2,0,a3)).bind fun r2=>(
cond (!decide (r2.1=0)) (
some (0,r2.1)) (
(F55 (r2.2.1,r2.2.2.1,r2.2.2.2.1,r2.2.2.2.2.1,r2.2.2.2.2.2)).bind fun r3=>(
(l33_0 (a3,0,(↑r3.2.2.2.2.2.length:Int),0,r3.2.2.2.2.2)).bind fun y4=>(
some (y4.1,0))))))
theorem g33 (F42:ca)(F42v1:gE)(F55:ue):aK (VN F42 F42v1 F55) G3 [(.t 8),(.t 9)] c33=u4 (q33 F42 F42v1 F55 (l33_0 (VN F42 F42v1 F55))):=funext fun _=>by kernel_rfl
noncomputable def p33:=q33 ja P42v1 uw we
noncomputable def PF:uf:=u4 p33
theorem v33:aK (VN ja P42v1 uw) G3 [(.t 8),(.t 9)] c33=PF:=(g33 ja P42v1 uw).trans (by rw[aab] <;> rfl)
theorem d33:DC Try.prog 33 G3 PF:=dD v33 t33 ok33
noncomputable def T9 (F12:dG)(F14:cX)(F32:uc)(F33:uf)(F21:iR)(F15:dp):List FEnt:=[⟨12,tY,F12⟩,⟨14,qd,F14⟩,⟨32,G2,F32⟩,⟨33,G3,F33⟩,⟨21,yp,F21⟩,⟨15,qJ,F15⟩]
def aac:LSh:=⟨[1,3,5,7],⟨j26,GZ⟩,[bc,y7,aY,je],2,[0,1]⟩
def aad:List XSh:=[⟨.ret,[6],⟨⟨fE,GZ⟩,[.bool,aY,je],[0,1],2⟩⟩,⟨(.exit 0),[1,3,5],⟨⟨[(.v bc),(.ptr 0 0),(.ptr 1 0)],GZ⟩,[bc,aY,je],[0,1],2⟩⟩]
def Kz:LSh:=⟨[1,3,5,8,10],⟨j13,GZ⟩,z15,2,[0,1]⟩
def aae:List XSh:=[⟨.ret,[6],⟨⟨fE,GZ⟩,[.bool,aY,je],[0,1],2⟩⟩,⟨.normal,[1,3,5,8,10],⟨⟨j13,GZ⟩,z15,[0,1],2⟩⟩]
def aaf:List XSh:=[⟨.ret,[6],⟨⟨fE,GZ⟩,[.bool,aY,je],[0,1],2⟩⟩,⟨.normal,[1,3,5,10],⟨⟨j26,GZ⟩,[bc,y7,aY,je],[0,1],2⟩⟩]
def aag:LSh:=⟨[3,5,10,18,19],⟨j14,Z9⟩,[y7,y7,aY,je,bc],3,[0,1]⟩
def aah:List XSh:=[⟨(.exit 2),[3,5,10,18],⟨⟨[(.ptr 0 0),(.ptr 1 0),(.v y7),(.slc 2)],Z9⟩,[y7,aY,je,bc],[0,1],3⟩⟩]
def aai:LSh:=⟨[3,5,10,18,20],⟨j14,Z9⟩,[y7,y7,aY,je,bc],3,[0,1,2]⟩
def aaj:List XSh:=[⟨.ret,[6],⟨⟨fE,Z9⟩,[.bool,aY,je,bc],[0,1,2],3⟩⟩,⟨(.exit 4),[],⟨⟨[],Z9⟩,[aY,je,bc],[0,1,2],3⟩⟩]
noncomputable def c9:=bK Try.prog [] Try.f9 (.s .n (.s .n (.s (.s .n (.b (.l aac aad .n))) (.s .n (.s .n (.s .n (.s (.o Kz aae .n) (.s (.o Kz aaf .n) (.s .n (.s (.r [.a 0 true cW,.a 2 true cW]) (.s (.s .n (.b (.l aag aah (.s .n (.s (.b (.r [.a 10 true cW,.a 11 true cW])) .n))))) (.s (.s .n (.b (.l aai aaj .n))) .n))))))))))))
noncomputable def s9_0 (T:List FEnt):=aD (xs:=aad) aac (bd T (sb [1,1,0,1,2,2] c9))
noncomputable def l9_0 (T:List FEnt):=af (s9_0 T)
noncomputable def l9_1 (T:List FEnt):=fp (xs:=aae) Kz (bd T (sb [1,1,1,1,1,1,0,2] c9))
noncomputable def l9_2 (T:List FEnt):=fp (xs:=aaf) Kz (bd T (sb [1,1,1,1,1,1,1,0,2] c9))
noncomputable def s9_3 (T:List FEnt):=aD (xs:=aah) aag (bd T (sb [1,1,1,1,1,1,1,1,1,1,0,1,2,2] c9))
noncomputable def l9_3 (T:List FEnt):=af (s9_3 T)
noncomputable def s9_4 (T:List FEnt):=aD (xs:=aaj) aai (bd T (sb [1,1,1,1,1,1,1,1,1,1,1,0,1,2,2] c9))
noncomputable def l9_4 (T:List FEnt):=af (s9_4 T)
def sh9:FSh:=⟨⟨Tu,[]⟩,Tt,0,⟨⟨fE,[]⟩,[.bool],[],0⟩,true⟩
noncomputable def q9 (F12:dG)(F14:cX)(F32:uc)(F33:uf)(F21:iR)(F15:dp)(l9_0:Y8×Int×dE×Int×Int×Int→Option (TK⊕(Y8×dE×Int×Int×Int)))(l9_1:Y8×Int×Int×dE×Int×Int×Int→Option (TK⊕Y433))(l9_2:G9)(l9_3:Int×Int×dE×cR×Y8→Option (Int×dE×cR×Y8))(l9_4:Int×Int×dE×cR×Y8→Option ((Bool×dE×cR×Y8)⊕(dE×cR×Y8)))(a0:Y2×Int)(a1:List Y1)(a2:cR):Option Bool:=
(F12 (a0,a1,a2.1)).bind fun r1=>(
cond (!r1) (
(F14 ()).bind fun r2=>(
some r2)) (
cond (decide (a2.2.2 < 1)) (
(F14 ()).bind fun r3=>(
some r3)) (
cond (decide (12 < a2.2.2)) (
(F14 ()).bind fun r4=>(
some r4)) (
cond (decide (10 < (↑a1.length:Int))) (
(F14 ()).bind fun r5=>(
some r5)) (
(l9_0 (a1,0,a0,a2)).bind (fun y9=>Sum.elim (fun y10=>(
some y10.1)) (fun y11=>(
(F32 (y11.2.1,y11.1,y11.2.2.1)).bind fun r12=>(
(F33 (y11.2.1,y11.1,y11.2.2.1,y11.2.2.2.2)).bind fun r13=>(
cond (!decide (r12.2=0)) (
some false) (
cond (!decide (r13.2=0)) (
some false) (
cond (decide (r12.1 < 0)) (
some false) (
cond (decide (12 < r12.1)) (
some false) (
cond (decide (r13.1 < 0)) (
some false) (
cond ((decide (0 < r13.1))!=(decide (y11.2.2.2.2≤r12.1))) (
some false) (
(l9_1 (y11.1,r12.1,r13.1,y11.2.1,y11.2.2)).bind (fun y15=>Sum.elim (fun y16=>(
some y16.1)) (fun y17=>(
(l9_2 (y17.1,y17.2.1,y17.2.2.1,y17.2.2.2.1,y17.2.2.2.2)).bind (fun y19=>Sum.elim (fun y20=>(
some y20.1)) (fun y21=>(
cond (decide (28 < y21.2.1)) (
(F14 ()).bind fun r22=>(
some r22)) (
ai (bC 40 (List.length ([]:List Y1)+List.length y21.1)) (
(l9_3 (y21.2.1,0,y21.2.2.1,y21.2.2.2,(([]:List Y1)++y21.1))).bind fun y23=>(
(l9_4 (y23.1,0,y23.2.1,y23.2.2.1,y23.2.2.2)).bind (fun y25=>Sum.elim (fun y26=>(
some y26.1)) (fun y27=>(
(F14 ()).bind fun r28=>(
some r28))) y25)))))) y19))) y15))))))))))) y9))))))
theorem g9 (F12:dG)(F14:cX)(F32:uc)(F33:uf)(F21:iR)(F15:dp):aK (T9 F12 F14 F32 F33 F21 F15) sh9 [(.t 6)] c9=u3 (q9 F12 F14 F32 F33 F21 F15 (l9_0 (T9 F12 F14 F32 F33 F21 F15)) (l9_1 (T9 F12 F14 F32 F33 F21 F15)) (l9_2 (T9 F12 F14 F32 F33 F21 F15)) (l9_3 (T9 F12 F14 F32 F33 F21 F15)) (l9_4 (T9 F12 F14 F32 F33 F21 F15))):=funext fun _=>by kernel_rfl
noncomputable def T34 (F51:ca)(F52:eN)(F56:kz):List FEnt:=[⟨51,tU,F51⟩,⟨52,tX,F52⟩,⟨56,Cv,F56⟩]
theorem t34:al Try.prog (T34 P51 P52 P56):=dK (dK (dK aj d56) VB) Vx
noncomputable def c34:=bK Try.prog [] Try.f34 .n
theorem ok34:L.Fn Try.prog 34 38 [(.t 8),(.t 9),(.t 10)] (erase c34):=oA Try.func34
def KA:FSh:=⟨⟨Vm,[]⟩,Vl,0,⟨⟨[(.tup j37)],[]⟩,[y7,y7,y7],[],0⟩,true⟩
noncomputable def q34 (F51:ca)(F52:eN)(F56:kz)(a0:Y2×Int)(a1:List Y1)(a2 a3:Int):Option cR:=
(F51 (a0,a1,a2,0,a3)).bind fun r1=>(
cond (!decide (r1=0)) (
some (0,0,r1)) (
(F52 (a0,a1,a2)).bind fun r2=>(
(F56 (a3,r2.1)).bind fun r3=>(
cond (!r3.2.2.1) (
some (0,0,3)) (
some (r3.1,r3.2.1,0))))))
theorem g34 (F51:ca)(F52:eN)(F56:kz):aK (T34 F51 F52 F56) KA [(.t 8),(.t 9),(.t 10)] c34=u4 (q34 F51 F52 F56):=funext fun _=>by kernel_rfl
noncomputable def p34:=q34 P51 P52 P56
noncomputable def PG:iR:=u4 p34
theorem v34:aK (T34 P51 P52 P56) KA [(.t 8),(.t 9),(.t 10)] c34=PG:=g34 P51 P52 P56
theorem d34:DC Try.prog 34 KA PG:=dD v34 t34 ok34
noncomputable def VO (F51:ca)(F52:eN)(F56:kz):List FEnt:=[⟨51,tU,F51⟩,⟨52,tX,F52⟩,⟨56,Cv,F56⟩]
theorem t35:al Try.prog (VO P51 P52 P56):=dK (dK (dK aj d56) VB) Vx
def PH:LSh:=⟨[9,10],⟨Rm,GV⟩,[y7,cD,iS,y19,y19],5,[0,1,2,3,4]⟩
def PI:List XSh:=[⟨.ret,[6,7],⟨⟨j44,GV⟩,z12,[0,1,2,3,4],5⟩⟩,⟨(.exit 0),[],⟨⟨[],GV⟩,z19,[0,1,2,3,4],5⟩⟩]
noncomputable def c35:=bK Try.prog [] Try.f35 (.s .n (.s .n (.s .n (.s (.s .n (.b (.l PH PI .n))) .n))))
noncomputable def PJ (T:List FEnt):=aD (xs:=PI) PH (bd T (sb [1,1,1,0,1,2,2] c35))
noncomputable def l35_0 (T:List FEnt):=af (PJ T)
noncomputable def q35_0 (F51:ca)(F52:eN)(F56:kz)(a0:Int)(a1:List Y2)(a2:List Y4)(a3 a4:List Int):Option (TM⊕Y496):=
cond (decide (0 < a0)) (
(F56 (a0,a1)).bind fun r3=>(
cond r3.2.2.1 (
some (Sum.inr (Sum.inl (a0,0,r3.2.2.2,a2,a3,a4)))) (
ai (ah .i64 (a0-1)) (
some (Sum.inl ((a0-1),r3.2.2.2,a2,a3,a4)))))) (
some (Sum.inr (Sum.inr (a1,a2,a3,a4))))
theorem aak (F51:ca)(F52:eN)(F56:kz):PJ (VO F51 F52 F56)=u5 (q35_0 F51 F52 F56):=funext fun _=>by kernel_rfl
noncomputable def PL:=q35_0 P51 P52 P56
noncomputable def wg:Y502:=af (u5 PL)
theorem aal:l35_0 (VO P51 P52 P56)=wg:=congrArg af (aak P51 P52 P56)
theorem ok35:L.Fn Try.prog 35 39 [(.t 6),(.t 7)] (erase c35):=oA Try.func35
def KB:FSh:=⟨⟨JV,[]⟩,JS,0,⟨⟨LU,[]⟩,[y7,y7],[],0⟩,true⟩
noncomputable def q35 (F51:ca)(F52:eN)(F56:kz)(l35_0:Y502)(a0:Y2×Int)(a1:List Y1)(a2:Int):Option yz:=
(F51 (a0,a1,a2,0,1)).bind fun r1=>(
cond (!decide (r1=0)) (
some (0,r1)) (
(F52 (a0,a1,a2)).bind fun r2=>(
(l35_0 (12,r2.1,r2.2.1,r2.2.2.1,r2.2.2.2)).bind (fun y4=>Sum.elim (fun y5=>(
some (y5.1,y5.2.1))) (fun y6=>(
some (0,0))) y4))))
theorem g35 (F51:ca)(F52:eN)(F56:kz):aK (VO F51 F52 F56) KB [(.t 6),(.t 7)] c35=u3 (q35 F51 F52 F56 (l35_0 (VO F51 F52 F56))):=funext fun _=>by kernel_rfl
noncomputable def p35:=q35 P51 P52 P56 wg
noncomputable def PM:uc:=u3 p35
theorem v35:aK (VO P51 P52 P56) KB [(.t 6),(.t 7)] c35=PM:=(g35 P51 P52 P56).trans (by rw[aal] <;> rfl)
theorem d35:DC Try.prog 35 KB PM:=dD v35 t35 ok35
noncomputable def KC (F51:ca)(F52:eN)(F22:eM):List FEnt:=[⟨51,tU,F51⟩,⟨52,tX,F52⟩,⟨22,Cu,F22⟩]
theorem t36:al Try.prog (KC P51 P52 P22):=dK (dK (dK aj d22) VB) Vx
def PN:LSh:=⟨[3,11,12,13,14],⟨[(.v y7),(.ptr 0 0),(.v y7),(.v y7),(.v y7)],GV⟩,[y7,y7,y7,y7,cD,iS,y19,y19],5,[0,1,2,3,4]⟩
def PO:List XSh:=[⟨(.exit 2),[3,11,12,13],⟨⟨[(.v y7),(.ptr 0 0),(.v y7),(.v y7)],GV⟩,z10,[0,1,2,3,4],5⟩⟩]
def PP:LSh:=⟨[3,11,12,13],⟨[(.v y7),(.ptr 0 0),(.v y7),(.v y7)],GV⟩,z10,5,[0,1,2,3,4]⟩
def PQ:List XSh:=[⟨(.exit 0),[12],⟨⟨lZ,GV⟩,[y7,cD,iS,y19,y19],[0,1,2,3,4],5⟩⟩]
noncomputable def c36:=bK Try.prog [] Try.f36 (.s .n (.s .n (.s .n (.s .n (.s (.s .n (.b (.l PP PQ (.s .n (.s (.b (.s .n (.b (.l PN PO .n)))) .n))))) .n)))))
noncomputable def PR (T:List FEnt):=aD (xs:=PO) PN (bd T (sb [1,1,1,1,0,1,2,2,1,0,2,1,2,2] c36))
noncomputable def l36_1 (T:List FEnt):=af (PR T)
noncomputable def q36_1 (F51:ca)(F52:eN)(F22:eM)(a0 a1 a2 a3:Int)(a4:List Y2)(a5:List Y4)(a6 a7:List Int):Option Y387:=
ai (aA a2 a4.length) (
cond (decide (a3 < (↑(List.length (ix a4 a2)):Int))) (
ai (aA a2 a4.length) (
(F22 ((ix a4 a2),a3,a0)).bind fun r3=>(
cond r3 (
ai (ah .i64 (a1+1)) (
ai (ah .i64 (a0-1)) (
ai (ah .i64 (a3+(a0-1))) (
ai (ah .i64 ((a3+(a0-1))+1)) (
some (Sum.inl (a0,(a1+1),a2,((a3+(a0-1))+1),a4,a5,a6,a7))))))) (
ai (ah .i64 (a3+1)) (
some (Sum.inl (a0,a1,a2,(a3+1),a4,a5,a6,a7))))))) (
some (Sum.inr (a0,a1,a2,a4,a5,a6,a7))))
theorem g36_1 (F51:ca)(F52:eN)(F22:eM):PR (KC F51 F52 F22)=u8 (q36_1 F51 F52 F22):=funext fun _=>by kernel_rfl
noncomputable def PS:=q36_1 P51 P52 P22
noncomputable def wh:KV:=af (u8 PS)
theorem v36_1:l36_1 (KC P51 P52 P22)=wh:=congrArg af (g36_1 P51 P52 P22)
noncomputable def PT (T:List FEnt):=aD (xs:=PQ) PP (bd T (sb [1,1,1,1,0,1,2,2] c36))
noncomputable def l36_0 (T:List FEnt):=af (PT T)
noncomputable def sE (F51:ca)(F52:eN)(F22:eM)(l36_1:KV)(a0 a1 a2:Int)(a3:List Y2)(a4:List Y4)(a5 a6:List Int):Option (KT⊕TM):=
cond (decide (a2 < (↑a3.length:Int))) (
(l36_1 (a0,a1,a2,0,a3,a4,a5,a6)).bind fun y4=>(
ai (ah .i64 (y4.2.2.1+1)) (
some (Sum.inl (y4.1,y4.2.1,(y4.2.2.1+1),y4.2.2.2.1,y4.2.2.2.2.1,y4.2.2.2.2.2.1,y4.2.2.2.2.2.2))))) (
some (Sum.inr (a1,a3,a4,a5,a6)))
theorem g36_0 (F51:ca)(F52:eN)(F22:eM):PT (KC F51 F52 F22)=u7 (sE F51 F52 F22 (l36_1 (KC F51 F52 F22))):=funext fun _=>by kernel_rfl
noncomputable def PU:=sE P51 P52 P22 wh
noncomputable def Bg:Y491:=af (u7 PU)
theorem v36_0:l36_0 (KC P51 P52 P22)=Bg:=congrArg af ((g36_0 P51 P52 P22).trans (by rw[v36_1] <;> rfl))
theorem ok36:L.Fn Try.prog 36 59 [(.t 8),(.t 9)] (erase c36):=oA Try.func36
def KD:FSh:=⟨⟨Vm,[]⟩,Vl,0,⟨⟨LU,[]⟩,[y7,y7],[],0⟩,true⟩
noncomputable def q36 (F51:ca)(F52:eN)(F22:eM)(l36_0:Y491)(a0:Y2×Int)(a1:List Y1)(a2 a3:Int):Option yz:=
(F51 (a0,a1,a2,0,a3)).bind fun r1=>(
cond (!decide (r1=0)) (
some (0,r1)) (
(F52 (a0,a1,a2)).bind fun r2=>(
(l36_0 (a3,0,0,r2.1,r2.2.1,r2.2.2.1,r2.2.2.2)).bind fun y5=>(
some (y5.1,0)))))
theorem g36 (F51:ca)(F52:eN)(F22:eM):aK (KC F51 F52 F22) KD [(.t 8),(.t 9)] c36=u4 (q36 F51 F52 F22 (l36_0 (KC F51 F52 F22))):=funext fun _=>by kernel_rfl
noncomputable def p36:=q36 P51 P52 P22 Bg
noncomputable def PV:uf:=u4 p36
theorem v36:aK (KC P51 P52 P22) KD [(.t 8),(.t 9)] c36=PV:=(g36 P51 P52 P22).trans (by rw[v36_0] <;> rfl)
theorem d36:DC Try.prog 36 KD PV:=dD v36 t36 ok36
noncomputable def T10 (F24:Ij)(F14:cX)(F25:yD)(F21:iR)(F34:iR)(F32:uc)(F35:uc)(F33:uf)(F36:uf):List FEnt:=[⟨24,Cb,F24⟩,⟨14,qd,F14⟩,⟨25,GU,F25⟩,⟨21,yp,F21⟩,⟨34,KA,F34⟩,⟨32,G2,F32⟩,⟨35,KB,F35⟩,⟨33,G3,F33⟩,⟨36,KD,F36⟩]
theorem t10:al Try.prog (T10 wN fJ CY P21 PG PA PM PF PV):=dK (dK (dK (dK (dK (dK (dK (dK (dK aj d36) d33) d35) d32) d34) d21) d25) Vv) d24
noncomputable def c10:=bK Try.prog [] Try.f10 .n
theorem ok10:L.Fn Try.prog 10 127 [(.t 6)] (erase c10):=oA Try.func10
def Tz:FSh:=⟨⟨Tu,[]⟩,Tt,0,⟨⟨fE,[]⟩,[.bool],[],0⟩,true⟩
noncomputable def q10 (F24:Ij)(F14:cX)(F25:yD)(F21 F34:iR)(F32 F35:uc)(F33 F36:uf)(a0:Y2×Int)(a1:List Y1)(a2:cR):Option Bool:=
(F24 (a0,a1)).bind fun r1=>(
cond r1 (
(F14 ()).bind fun r2=>(
some r2)) (
(F25 (a0,a1)).bind fun r3=>(
(F21 ((r3.2.1,r3.1),r3.2.2,a2.1,a2.2.2)).bind fun r4=>(
(F34 (a0,a1,a2.1,a2.2.2)).bind fun r5=>(
(F32 ((r3.2.1,r3.1),r3.2.2,a2.1)).bind fun r6=>(
(F35 (a0,a1,a2.1)).bind fun r7=>(
(F33 ((r3.2.1,r3.1),r3.2.2,a2.1,a2.2.2)).bind fun r8=>(
(F36 (a0,a1,a2.1,a2.2.2)).bind fun r9=>(
cond (decide (r4.1=r5.1)) (
cond (decide (r4.2.1=r5.2.1)) (
cond (decide (r4.2.2=r5.2.2)) (
cond (decide (r6.1=r7.1)) (
cond (decide (r6.2=r7.2)) (
cond (decide (r8.1=r9.1)) (
cond (decide (r8.2=r9.2)) (
(F14 ()).bind fun r10=>(
some r10)) (
some false)) (
some false)) (
some false)) (
some false)) (
some false)) (
some false)) (
some false))))))))))
theorem g10 (F24:Ij)(F14:cX)(F25:yD)(F21 F34:iR)(F32 F35:uc)(F33 F36:uf):aK (T10 F24 F14 F25 F21 F34 F32 F35 F33 F36) Tz [(.t 6)] c10=u3 (q10 F24 F14 F25 F21 F34 F32 F35 F33 F36):=funext fun _=>by kernel_rfl
noncomputable def p10:=q10 wN fJ CY P21 PG PA PM PF PV
noncomputable def P10:G8:=u3 p10
theorem v10:aK (T10 wN fJ CY P21 PG PA PM PF PV) Tz [(.t 6)] c10=P10:=g10 wN fJ CY P21 PG PA PM PF PV
theorem d10:DC Try.prog 10 Tz P10:=dD v10 t10 ok10
end Go.Proofs.Ytdkaijofmigmbaa.D
