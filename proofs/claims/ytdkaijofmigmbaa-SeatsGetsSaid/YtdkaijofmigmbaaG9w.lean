import Derived.Test.YtdkaijofmigmbaaG8w
import Derived.Test.YtdkaijofmigmbaaProg
set_option linter.unusedVariables false
set_option maxRecDepth 100000
namespace Go.Proofs.Ytdkaijofmigmbaa.D
open Go Go.Proofs Go.Proofs.Ytdkaijofmigmbaa.L
def j14:List RSh:=[(.ptr 0 0),(.ptr 1 0),(.v y7),(.slc 2),(.v y7)]
def k20:List (Nat×OSh):=[(0,(.boxT aU)),(1,(.boxT jg)),(2,(.row 40 cZ))]
noncomputable def Wb (F42:dH)(F42v1:gH)(F55:tT):List FEnt:=[⟨42,tJ,F42⟩,⟨42,iS,F42v1⟩,⟨55,Hd,F55⟩]
theorem t33:ak Try.prog (Wb i6 P42v1 uq):=dK (dK (dK ai d55) rO) VN
def Qg:LSh:=⟨[3,12,27,28,29],⟨[(.v y7),(.v y7),(.slc 0),(.v y7),(.v y7)],di⟩,J1,1,[0]⟩
def Qh:List XSh:=[⟨(.exit 0),[12],⟨⟨mh,di⟩,[y7,y19],[0],1⟩⟩]
noncomputable def c33:=bK Try.prog [] Try.f33 (.s .n (.s .n (.s .n (.s .n (.s (.s .n (.b (.l Qg Qh .n))) .n)))))
noncomputable def Qi (T:List FEnt):=aB (xs:=Qh) Qg (bc T (sb [1,1,1,1,0,1,2,2] c33))
noncomputable def l33_0 (T:List FEnt):=aa (Qi T)
noncomputable def so (F42:dH)(F42v1:gH)(F55:tT)(a0 a1 a2 a3:Int)(a4:List Int):Option Y284:=
cond (decide (a3 < a2)) (
ah (aA a3 a4.length) (
ah (decide (a0≠0)) (
ah (af .i64 (Int.tdiv (ix a4 a3) a0)) (
ah (af .i64 (a1+(Int.tdiv (ix a4 a3) a0))) (
ah (af .i64 (a3+1)) (
some (Sum.inl (a0,(a1+(Int.tdiv (ix a4 a3) a0)),a2,(a3+1),a4)))))))) (
some (Sum.inr (a1,a4)))
theorem g33_0 (F42:dH)(F42v1:gH)(F55:tT):Qi (Wb F42 F42v1 F55)=u5 (so F42 F42v1 F55):=funext fun _=>by kernel_rfl
noncomputable def Qj:=so i6 P42v1 uq
noncomputable def wa:K8:=aa (u5 Qj)
theorem v33_0:l33_0 (Wb i6 P42v1 uq)=wa:=congrArg aa (g33_0 i6 P42v1 uq)
theorem ok33:L.Fn Try.prog 33 40 [(.t 8),(.t 9)] (erase c33):=oA Try.func33
def Hf:FSh:=⟨⟨VK,[]⟩,VJ,0,⟨⟨Mr,[]⟩,[y7,y7],[],0⟩,true⟩
noncomputable def q33 (F42:dH)(F42v1:gH)(F55:tT)(l33_0:K8)(a0:Y2×Int)(a1:List Y1)(a2 a3:Int):Option CD:=
Io (F42 (a0,a1,a2,0,a3)) (fun r1=>(
cond (!decide (r1=0)) (
some (0,r1)) (
none))) (
(F42v1 (a0,a1,a2,0,a3)).bind fun r2=>(
cond (!decide (r2.1=0)) (
some (0,r2.1)) (
(F55 (r2.2.1,r2.2.2.1,r2.2.2.2.1,r2.2.2.2.2.1,r2.2.2.2.2.2)).bind fun r3=>(
(l33_0 (a3,0,(↑r3.2.2.2.2.2.length:Int),0,r3.2.2.2.2.2)).bind fun y4=>(
some (y4.1,0))))))
theorem g33 (F42:dH)(F42v1:gH)(F55:tT):aK (Wb F42 F42v1 F55) Hf [(.t 8),(.t 9)] c33=u4 (q33 F42 F42v1 F55 (l33_0 (Wb F42 F42v1 F55))):=funext fun _=>by kernel_rfl
noncomputable def p33:=q33 i6 P42v1 uq wa
noncomputable def P33:jf:=u4 p33
theorem v33:aK (Wb i6 P42v1 uq) Hf [(.t 8),(.t 9)] c33=P33:=(g33 i6 P42v1 uq).trans (by rw[v33_0] <;> rfl)
theorem d33:DC Try.prog 33 Hf P33:=dD v33 t33 ok33
noncomputable def T9 (F12:cp)(F14:bS)(F32:je)(F33:jf)(F21:dL)(F15:bZ):List FEnt:=[⟨12,tN,F12⟩,⟨14,pX,F14⟩,⟨32,He,F32⟩,⟨33,Hf,F33⟩,⟨21,yp,F21⟩,⟨15,qF,F15⟩]
theorem t9:ak Try.prog (T9 P12 P14 P32 P33 P21 P15):=dK (dK (dK (dK (dK (dK ai Tw) d21) d33) d32) TO) V6
def h9_0:LSh:=⟨[1,3,5,7],⟨j26,G8⟩,[aZ,y7,aU,jg],2,[0,1]⟩
def x9_0:List XSh:=[⟨.ret,[6],⟨⟨fG,G8⟩,[.bool,aU,jg],[0,1],2⟩⟩,⟨(.exit 0),[1,3,5],⟨⟨[(.v aZ),(.ptr 0 0),(.ptr 1 0)],G8⟩,[aZ,aU,jg],[0,1],2⟩⟩]
def KO:LSh:=⟨[1,3,5,8,10],⟨j13,G8⟩,z13,2,[0,1]⟩
def x9_1:List XSh:=[⟨.ret,[6],⟨⟨fG,G8⟩,[.bool,aU,jg],[0,1],2⟩⟩,⟨.normal,[1,3,5,8,10],⟨⟨j13,G8⟩,z13,[0,1],2⟩⟩]
def x9_2:List XSh:=[⟨.ret,[6],⟨⟨fG,G8⟩,[.bool,aU,jg],[0,1],2⟩⟩,⟨.normal,[1,3,5,10],⟨⟨j26,G8⟩,[aZ,y7,aU,jg],[0,1],2⟩⟩]
def h9_3:LSh:=⟨[3,5,10,18,19],⟨j14,k20⟩,[y7,y7,aU,jg,aZ],3,[0,1]⟩
def x9_3:List XSh:=[⟨(.exit 2),[3,5,10,18],⟨⟨[(.ptr 0 0),(.ptr 1 0),(.v y7),(.slc 2)],k20⟩,[y7,aU,jg,aZ],[0,1],3⟩⟩]
def h9_4:LSh:=⟨[3,5,10,18,20],⟨j14,k20⟩,[y7,y7,aU,jg,aZ],3,[0,1,2]⟩
def x9_4:List XSh:=[⟨.ret,[6],⟨⟨fG,k20⟩,[.bool,aU,jg,aZ],[0,1,2],3⟩⟩,⟨(.exit 4),[],⟨⟨[],k20⟩,[aU,jg,aZ],[0,1,2],3⟩⟩]
noncomputable def c9:=bK Try.prog [] Try.f9 (.s .n (.s .n (.s (.s .n (.b (.l h9_0 x9_0 .n))) (.s .n (.s .n (.s .n (.s (.o KO x9_1 .n) (.s (.o KO x9_2 .n) (.s .n (.s (.r [.a 0 true cZ,.a 2 true cZ]) (.s (.s .n (.b (.l h9_3 x9_3 (.s .n (.s (.b (.r [.a 10 true cZ,.a 11 true cZ])) .n))))) (.s (.s .n (.b (.l h9_4 x9_4 .n))) .n))))))))))))
noncomputable def s9_0 (T:List FEnt):=aB (xs:=x9_0) h9_0 (bc T (sb [1,1,0,1,2,2] c9))
noncomputable def l9_0 (T:List FEnt):=aa (s9_0 T)
noncomputable def q9_0 (F12:cp)(F14:bS)(F32:je)(F33:jf)(F21:dL)(F15:bZ)(a0:List Y1)(a1:Int)(a2:Y2×Int)(a3:cw):Option (Y418⊕Y492):=
cond (decide (a1 < (↑a0.length:Int))) (
ah (aA a1 a0.length) (
cond (decide (a3.1 < (ix a0 a1).2.1)) (
(F14 ()).bind fun r6=>(
some (Sum.inr (Sum.inl (r6,a2,a3))))) (
ah (aA a1 a0.length) (
cond (decide (40≤(ix a0 a1).2.2.2.1)) (
(F14 ()).bind fun r7=>(
some (Sum.inr (Sum.inl (r7,a2,a3))))) (
ah (aA a1 a0.length) (
cond (decide (40≤(ix a0 a1).1)) (
(F14 ()).bind fun r8=>(
some (Sum.inr (Sum.inl (r8,a2,a3))))) (
ah (af .i64 (a1+1)) (
some (Sum.inl (a0,(a1+1),a2,a3)))))))))) (
some (Sum.inr (Sum.inr (a0,a2,a3))))
theorem g9_0 (F12:cp)(F14:bS)(F32:je)(F33:jf)(F21:dL)(F15:bZ):s9_0 (T9 F12 F14 F32 F33 F21 F15)=u4 (q9_0 F12 F14 F32 F33 F21 F15):=funext fun _=>by kernel_rfl
noncomputable def p9_0:=q9_0 P12 P14 P32 P33 P21 P15
noncomputable def L9_0:Y498:=aa (u4 p9_0)
theorem v9_0:l9_0 (T9 P12 P14 P32 P33 P21 P15)=L9_0:=congrArg aa (g9_0 P12 P14 P32 P33 P21 P15)
noncomputable def l9_1 (T:List FEnt):=fw (xs:=x9_1) KO (bc T (sb [1,1,1,1,1,1,0,2] c9))
noncomputable def KP (F12:cp)(F14:bS)(F32:je)(F33:jf)(F21:dL)(F15:bZ)(a0:List Y1)(a1 a2:Int)(a3:Y2×Int)(a4:cw):Option Y493:=
cond (decide (0 < a1)) (
(F21 (a3,a0,a4.1,a1)).bind fun r14=>(
cond (!decide (r14.2.2=0)) (
some (Sum.inl (false,a3,a4))) (
some (Sum.inr (a0,a1,a2,a3,a4))))) (
some (Sum.inr (a0,a1,a2,a3,a4)))
theorem g9_1 (F12:cp)(F14:bS)(F32:je)(F33:jf)(F21:dL)(F15:bZ):l9_1 (T9 F12 F14 F32 F33 F21 F15)=u5 (KP F12 F14 F32 F33 F21 F15):=funext fun _=>by kernel_rfl
noncomputable def p9_1:=KP P12 P14 P32 P33 P21 P15
noncomputable def KQ:Y499:=fun x=>p9_1 x.1 x.2.1 x.2.2.1 x.2.2.2.1 x.2.2.2.2
theorem v9_1:l9_1 (T9 P12 P14 P32 P33 P21 P15)=KQ:=g9_1 P12 P14 P32 P33 P21 P15
noncomputable def l9_2 (T:List FEnt):=fw (xs:=x9_2) KO (bc T (sb [1,1,1,1,1,1,1,0,2] c9))
noncomputable def KR (F12:cp)(F14:bS)(F32:je)(F33:jf)(F21:dL)(F15:bZ)(a0:List Y1)(a1 a2:Int)(a3:Y2×Int)(a4:cw):Option Ug:=
cond (decide (a1 < 12)) (
ah (af .i64 (a1+1)) (
(F21 (a3,a0,a4.1,(a1+1))).bind fun r18=>(
cond (!decide (r18.2.2=3)) (
some (Sum.inl (false,a3,a4))) (
some (Sum.inr (a0,a2,a3,a4)))))) (
some (Sum.inr (a0,a2,a3,a4)))
theorem g9_2 (F12:cp)(F14:bS)(F32:je)(F33:jf)(F21:dL)(F15:bZ):l9_2 (T9 F12 F14 F32 F33 F21 F15)=u5 (KR F12 F14 F32 F33 F21 F15):=funext fun _=>by kernel_rfl
noncomputable def p9_2:=KR P12 P14 P32 P33 P21 P15
noncomputable def KS:CL:=fun x=>p9_2 x.1 x.2.1 x.2.2.1 x.2.2.2.1 x.2.2.2.2
theorem v9_2:l9_2 (T9 P12 P14 P32 P33 P21 P15)=KS:=g9_2 P12 P14 P32 P33 P21 P15
noncomputable def s9_3 (T:List FEnt):=aB (xs:=x9_3) h9_3 (bc T (sb [1,1,1,1,1,1,1,1,1,1,0,1,2,2] c9))
noncomputable def l9_3 (T:List FEnt):=aa (s9_3 T)
noncomputable def CA (F12:cp)(F14:bS)(F32:je)(F33:jf)(F21:dL)(F15:bZ)(a0 a1:Int)(a2:Y2×Int)(a3:cw)(a4:List Y1):Option (Y489⊕Y485):=
cond (decide (a1≤a0)) (
ah (af .i64 (40+a1)) (
ah (af .i64 (40+a1)) (
ah (bC 40 (List.length a4+List.length ([((40+a1),(a3.1,(1,((40+a1),a3.2.2))))]:List Y1))) (
ah (af .i64 (a1+1)) (
some (Sum.inl (a0,(a1+1),a2,a3,(a4++([((40+a1),(a3.1,(1,((40+a1),a3.2.2))))]:List Y1))))))))) (
some (Sum.inr (a0,a2,a3,a4)))
theorem g9_3 (F12:cp)(F14:bS)(F32:je)(F33:jf)(F21:dL)(F15:bZ):s9_3 (T9 F12 F14 F32 F33 F21 F15)=u5 (CA F12 F14 F32 F33 F21 F15):=funext fun _=>by kernel_rfl
noncomputable def p9_3:=CA P12 P14 P32 P33 P21 P15
noncomputable def KT:Y490:=aa (u5 p9_3)
theorem v9_3:l9_3 (T9 P12 P14 P32 P33 P21 P15)=KT:=congrArg aa (g9_3 P12 P14 P32 P33 P21 P15)
noncomputable def s9_4 (T:List FEnt):=aB (xs:=x9_4) h9_4 (bc T (sb [1,1,1,1,1,1,1,1,1,1,1,0,1,2,2] c9))
noncomputable def l9_4 (T:List FEnt):=aa (s9_4 T)
noncomputable def CB (F12:cp)(F14:bS)(F32:je)(F33:jf)(F21:dL)(F15:bZ)(a0 a1:Int)(a2:Y2×Int)(a3:cw)(a4:List Y1):Option (Y489⊕Y495):=
cond (decide (a1≤a0)) (
ah (af .i64 (40+a1)) (
(F15 (a2,a4,a3.1,(40+a1))).bind fun r24=>(
cond (!decide (r24.2=0)) (
some (Sum.inr (Sum.inl (false,a2,a3,a4)))) (
cond ((decide (r24.1.1=2))!=(decide (a1 < a0))) (
some (Sum.inr (Sum.inl (false,a2,a3,a4)))) (
cond ((decide (r24.1.1=1))!=(decide (a1=a0))) (
some (Sum.inr (Sum.inl (false,a2,a3,a4)))) (
ah (af .i64 (a1+1)) (
some (Sum.inl (a0,(a1+1),a2,a3,a4))))))))) (
some (Sum.inr (Sum.inr (a2,a3,a4))))
theorem g9_4 (F12:cp)(F14:bS)(F32:je)(F33:jf)(F21:dL)(F15:bZ):s9_4 (T9 F12 F14 F32 F33 F21 F15)=u5 (CB F12 F14 F32 F33 F21 F15):=funext fun _=>by kernel_rfl
noncomputable def p9_4:=CB P12 P14 P32 P33 P21 P15
noncomputable def KU:Y501:=aa (u5 p9_4)
theorem v9_4:l9_4 (T9 P12 P14 P32 P33 P21 P15)=KU:=congrArg aa (g9_4 P12 P14 P32 P33 P21 P15)
theorem ok9:L.Fn Try.prog 9 209 [(.t 6)] (erase c9):=oA Try.func9
def sh9:FSh:=⟨⟨TQ,[]⟩,TP,0,⟨⟨fG,[]⟩,[.bool],[],0⟩,true⟩
noncomputable def q9 (F12:cp)(F14:bS)(F32:je)(F33:jf)(F21:dL)(F15:bZ)(l9_0:Y498)(l9_1:Y499)(l9_2:CL)(l9_3:Y490)(l9_4:Y501)(a0:Y2×Int)(a1:List Y1)(a2:cw):Option Bool:=
(F12 (a0,a1,a2.1)).bind fun r1=>(
cond (!r1) (
(F14 ()).bind fun r2=>(
some r2)) (
cond (decide (a2.2.2 < 1)) (
(F14 ()).bind fun r3=>(
some r3)) (
cond (decide (12 < a2.2.2)) (
(F14 ()).bind fun r4=>(
some r4)) (
cond (decide (10 < (↑a1.length:Int))) (
(F14 ()).bind fun r5=>(
some r5)) (
(l9_0 (a1,0,a0,a2)).bind (fun y9=>Sum.elim (fun y10=>(
some y10.1)) (fun y11=>(
(F32 (y11.2.1,y11.1,y11.2.2.1)).bind fun r12=>(
(F33 (y11.2.1,y11.1,y11.2.2.1,y11.2.2.2.2)).bind fun r13=>(
cond (!decide (r12.2=0)) (
some false) (
cond (!decide (r13.2=0)) (
some false) (
cond (decide (r12.1 < 0)) (
some false) (
cond (decide (12 < r12.1)) (
some false) (
cond (decide (r13.1 < 0)) (
some false) (
cond ((decide (0 < r13.1))!=(decide (y11.2.2.2.2≤r12.1))) (
some false) (
(l9_1 (y11.1,r12.1,r13.1,y11.2.1,y11.2.2)).bind (fun y15=>Sum.elim (fun y16=>(
some y16.1)) (fun y17=>(
(l9_2 (y17.1,y17.2.1,y17.2.2.1,y17.2.2.2.1,y17.2.2.2.2)).bind (fun y19=>Sum.elim (fun y20=>(
some y20.1)) (fun y21=>(
cond (decide (28 < y21.2.1)) (
(F14 ()).bind fun r22=>(
some r22)) (
ah (bC 40 (List.length ([]:List Y1)+List.length y21.1)) (
(l9_3 (y21.2.1,0,y21.2.2.1,y21.2.2.2,(([]:List Y1)++y21.1))).bind fun y23=>(
(l9_4 (y23.1,0,y23.2.1,y23.2.2.1,y23.2.2.2)).bind (fun y25=>Sum.elim (fun y26=>(
some y26.1)) (fun y27=>(
(F14 ()).bind fun r28=>(
some r28))) y25)))))) y19))) y15))))))))))) y9))))))
theorem g9 (F12:cp)(F14:bS)(F32:je)(F33:jf)(F21:dL)(F15:bZ):aK (T9 F12 F14 F32 F33 F21 F15) sh9 [(.t 6)] c9=u3 (q9 F12 F14 F32 F33 F21 F15 (l9_0 (T9 F12 F14 F32 F33 F21 F15)) (l9_1 (T9 F12 F14 F32 F33 F21 F15)) (l9_2 (T9 F12 F14 F32 F33 F21 F15)) (l9_3 (T9 F12 F14 F32 F33 F21 F15)) (l9_4 (T9 F12 F14 F32 F33 F21 F15))):=funext fun _=>by kernel_rfl
noncomputable def p9:=q9 P12 P14 P32 P33 P21 P15 L9_0 KQ KS KT KU
noncomputable def P9:CK:=u3 p9
theorem v9:aK (T9 P12 P14 P32 P33 P21 P15) sh9 [(.t 6)] c9=P9:=(g9 P12 P14 P32 P33 P21 P15).trans (by rw[v9_0,v9_1,v9_2,v9_3,v9_4] <;> rfl)
theorem d9:DC Try.prog 9 sh9 P9:=dD v9 t9 ok9
def sh34:FSh:=⟨⟨VK,[]⟩,VJ,0,⟨⟨[(.tup j37)],[]⟩,[y7,y7,y7],[],0⟩,true⟩
def sh35:FSh:=⟨⟨J3,[]⟩,J0,0,⟨⟨Mr,[]⟩,[y7,y7],[],0⟩,true⟩
def sh36:FSh:=⟨⟨VK,[]⟩,VJ,0,⟨⟨Mr,[]⟩,[y7,y7],[],0⟩,true⟩
noncomputable def T10 (F24:Iu)(F14:bS)(F25:yD)(F21:dL)(F34:dL)(F32:je)(F35:je)(F33:jf)(F36:jf):List FEnt:=[⟨24,B9,F24⟩,⟨14,pX,F14⟩,⟨25,G3,F25⟩,⟨21,yp,F21⟩,⟨34,sh34,F34⟩,⟨32,He,F32⟩,⟨35,sh35,F35⟩,⟨33,Hf,F33⟩,⟨36,sh36,F36⟩]
noncomputable def c10:=bK Try.prog [] Try.f10 .n
def sh10:FSh:=⟨⟨TQ,[]⟩,TP,0,⟨⟨fG,[]⟩,[.bool],[],0⟩,true⟩
noncomputable def q10 (F24:Iu)(F14:bS)(F25:yD)(F21 F34:dL)(F32 F35:je)(F33 F36:jf)(a0:Y2×Int)(a1:List Y1)(a2:cw):Option Bool:=
(F24 (a0,a1)).bind fun r1=>(
cond r1 (
(F14 ()).bind fun r2=>(
some r2)) (
(F25 (a0,a1)).bind fun r3=>(
(F21 ((r3.2.1,r3.1),r3.2.2,a2.1,a2.2.2)).bind fun r4=>(
(F34 (a0,a1,a2.1,a2.2.2)).bind fun r5=>(
(F32 ((r3.2.1,r3.1),r3.2.2,a2.1)).bind fun r6=>(
(F35 (a0,a1,a2.1)).bind fun r7=>(
(F33 ((r3.2.1,r3.1),r3.2.2,a2.1,a2.2.2)).bind fun r8=>(
(F36 (a0,a1,a2.1,a2.2.2)).bind fun r9=>(
cond (decide (r4.1=r5.1)) (
cond (decide (r4.2.1=r5.2.1)) (
cond (decide (r4.2.2=r5.2.2)) (
cond (decide (r6.1=r7.1)) (
cond (decide (r6.2=r7.2)) (
cond (decide (r8.1=r9.1)) (
cond (decide (r8.2=r9.2)) (
(F14 ()).bind fun r10=>(
some r10)) (
some false)) (
some false)) (
some false)) (
some false)) (
some false)) (
some false)) (
some false))))))))))
theorem g10 (F24:Iu)(F14:bS)(F25:yD)(F21 F34:dL)(F32 F35:je)(F33 F36:jf):aK (T10 F24 F14 F25 F21 F34 F32 F35 F33 F36) sh10 [(.t 6)] c10=u3 (q10 F24 F14 F25 F21 F34 F32 F35 F33 F36):=funext fun _=>by kernel_rfl
end Go.Proofs.Ytdkaijofmigmbaa.D
