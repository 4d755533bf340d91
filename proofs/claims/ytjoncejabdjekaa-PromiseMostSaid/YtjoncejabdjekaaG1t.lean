import Derived.Test.YtjoncejabdjekaaG0t
import Derived.Test.YtjoncejabdjekaaProg
set_option linter.unusedVariables false
set_option maxRecDepth 100000
namespace Go.Proofs.Ytjoncejabdjekaa.D
open Go Go.Proofs Go.Proofs.Ytjoncejabdjekaa.L
def z3:List Ty:=[y11,aH,y11,y11,aW,cn,cT,dW,aW]
def Rs:List RSh:=[(.tup [(.slc 0),(.v y11),(.v y11)])]
def j7:List RSh:=[(.ptr 0 0),(.v aH),(.v y11),(.v y11)]
def j5:List RSh:=[(.slc 0),(.v y11),(.ptr 1 0),(.v aH),(.v y11),(.v y11)]
def PN:List RSh:=[(.st bM),(.v aH)]
def Rt:List (Nat×OSh):=[(0,(.boxT bM)),(1,(.imap 0 true mf))]
def k3:List (Nat×OSh):=[(0,(.boxT bM)),(1,(.box [(.v cn),(.v cT),(.mp 3),(.slc 4)])),(2,(.imap 2 false y11)),(3,(.imap 2 false y11)),(4,(.row 3 y11))]
def Fo:List (Nat×OSh):=[(0,(.row 3 y11))]
def k7:List (Nat×OSh):=[(0,(.box [(.slc 1),(.v cT),(.mp 2),(.slc 3)])),(1,(.row 43 mf)),(2,(.imap 2 false y11)),(3,(.row 3 y11))]
def k8:List (Nat×OSh):=[(0,(.row 3 y11)),(1,(.box [(.v cn),(.v cT),(.mp 2),(.slc 3)])),(2,(.imap 2 false y11)),(3,(.row 3 y11))]
def BU:List (Nat×OSh):=[(0,(.boxT bM)),(1,(.row 3 y11))]
noncomputable def Kr (F11:fD)(F32:Y7):List FEnt:=[⟨11,sa,F11⟩,⟨32,qK,F32⟩]
theorem U0:ay Try.prog (Kr P11 P32):=dK (dK an Km) LA
def Fp:LSh:=⟨[2,6,20,21,22],⟨[(.ptr 0 0),(.mp 1),(.v cn),(.v y11),(.v y11)],Rt⟩,[cn,y11,y11,bM,Jz],2,[0,1]⟩
def Fq:List XSh:=[⟨.ret,[4],⟨⟨oF,Rt⟩,[y11,bM,Jz],[0,1],2⟩⟩,⟨(.exit 0),[],⟨⟨[],Rt⟩,[bM,Jz],[0,1],2⟩⟩]
noncomputable def PP:=dv Try.prog [] Try.f40 (.s .n (.s .n (.s .n (.s (.r [.a 0 true mf]) (.s (.s .n (.b (.l Fp Fq .n))) .n)))))
noncomputable def Fs (T:List FEnt):=aK (xs:=Fq) Fp (b6 T (sb [1,1,1,1,0,1,2,2] PP))
noncomputable def l40_0 (T:List FEnt):=af (Fs T)
noncomputable def Ft (F11:fD)(F32:Y7)(a0:List Y1)(a1 a2:Int)(a3:aO×aT)(a4:List SN):Option ((aO×Int×Int×dA×DX)⊕Od):=
cond (decide (a2 < a1)) (
aA (aU a2 a0.length) (
cond (Option.isSome (be a4 [(ix a0 a2).1])) (
cond (!((decide ((fl (be a4 [(ix a0 a2).1]) (0,(0,0))).1=(ix a0 a2).1)&&decide ((fl (be a4 [(ix a0 a2).1]) (0,(0,0))).2.1=(ix a0 a2).2.1))&&decide ((fl (be a4 [(ix a0 a2).1]) (0,(0,0))).2.2=(ix a0 a2).2.2))) (
some (Sum.inr (Sum.inl (72,a3,a4)))) (
(F32 ((ix a0 a2).1,0,99)).bind fun r2=>(
cond (!r2) (
some (Sum.inr (Sum.inl (72,a3,a4)))) (
(F32 ((ix a0 a2).2.2,0,99)).bind fun r3=>(
cond (!r3) (
some (Sum.inr (Sum.inl (72,a3,a4)))) (
aA (aw .i64 ((↑a3.1.length:Int)-1)) (
(F32 ((ix a0 a2).2.1,0,((↑a3.1.length:Int)-1))).bind fun r4=>(
cond (!r4) (
some (Sum.inr (Sum.inl (72,a3,a4)))) (
aA (aw .i64 (a2+1)) (
some (Sum.inl (a0,a1,(a2+1),a3,(di a4 [(ix a0 a2).1] (ix a0 a2)))))))))))))) (
(F32 ((ix a0 a2).1,0,99)).bind fun r5=>(
cond (!r5) (
some (Sum.inr (Sum.inl (72,a3,a4)))) (
(F32 ((ix a0 a2).2.2,0,99)).bind fun r6=>(
cond (!r6) (
some (Sum.inr (Sum.inl (72,a3,a4)))) (
aA (aw .i64 ((↑a3.1.length:Int)-1)) (
(F32 ((ix a0 a2).2.1,0,((↑a3.1.length:Int)-1))).bind fun r7=>(
cond (!r7) (
some (Sum.inr (Sum.inl (72,a3,a4)))) (
aA (aw .i64 (a2+1)) (
some (Sum.inl (a0,a1,(a2+1),a3,(di a4 [(ix a0 a2).1] (ix a0 a2))))))))))))))) (
some (Sum.inr (Sum.inr (a3,a4))))
theorem LM (F11:fD)(F32:Y7):Fs (Kr F11 F32)=u5 (Ft F11 F32):=funext fun _=>by kernel_rfl
noncomputable def LN:=Ft P11 P32
noncomputable def Fu:Oe:=af (u5 LN)
theorem LO:l40_0 (Kr P11 P32)=Fu:=congrArg af (LM P11 P32)
theorem Ru:L.Fn Try.prog 40 66 [(.t 4)] (erase PP):=oA Try.func40
def Ao:FSh:=⟨⟨[(.st bM),(.v cn)],[]⟩,[bM,cn],0,⟨⟨oF,[]⟩,[y11],[],0⟩,true⟩
noncomputable def Tg (F11:fD)(F32:Y7)(l40_0:Oe)(a0:aO×aT)(a1:List Y1):Option Int:=
(F11 a0).bind fun r1=>(
cond (!decide (r1=0)) (
some r1) (
cond (decide (30 < (↑a1.length:Int))) (
some 72) (
(l40_0 (a1,(↑a1.length:Int),0,a0,([]:List SN))).bind (fun y8=>Sum.elim (fun y9=>(
some y9.1)) (fun y10=>(
some 0)) y8))))
theorem U1 (F11:fD)(F32:Y7):bx (Kr F11 F32) Ao [(.t 4)] PP=u2 (Tg F11 F32 (l40_0 (Kr F11 F32))):=funext fun _=>by kernel_rfl
noncomputable def U2:=Tg P11 P32 Fu
noncomputable def xV:qN:=u2 U2
theorem U3:bx (Kr P11 P32) Ao [(.t 4)] PP=xV:=(U1 P11 P32).trans (by rw[LO] <;> rfl)
theorem Th:DC Try.prog 40 Ao xV:=dD U3 U0 Ru
noncomputable def Rv:List FEnt:=[]
theorem U4:ay Try.prog Rv:=an
noncomputable def Rw:=dv Try.prog [] Try.f58 .n
theorem Rx:L.Fn Try.prog 58 9 [(.t 3)] (erase Rw):=oA Try.func58
def C9:FSh:=⟨⟨[(.st n5),(.elm mf)],[]⟩,[n5,mf],0,⟨⟨ju,[]⟩,[.bool],[],0⟩,true⟩
noncomputable def Ti (a0:Y2)(a1:Y1):Option Bool:=
some (decide (a0.1=a1.2.2))
theorem U5:bx Rv C9 [(.t 3)] Rw=u2 Ti:=funext fun _=>by kernel_rfl
noncomputable def U6:=Ti
noncomputable def Da:kU:=u2 U6
theorem U7:bx Rv C9 [(.t 3)] Rw=Da:=U5
theorem U8:DC Try.prog 58 C9 Da:=dD U7 U4 Rx
noncomputable def pz (F58:kU):List FEnt:=[⟨58,C9,F58⟩]
theorem LP:ay Try.prog (pz Da):=dK an U8
def vD:LSh:=⟨[0,1,7,8],⟨[(.v cT),(.fn 58 [(.elm mf)]),(.v y11),(.v y11)],[]⟩,[cT,mf,y11,y11],0,[]⟩
noncomputable def vE:=dv Try.prog [] Try.f56 (.s .n (.s (.s .n (.b (.l vD py .n))) .n))
noncomputable def vF (T:List FEnt):=aK (xs:=py) vD (b6 T (sb [1,0,1,2,2] vE))
noncomputable def l56v1_0 (T:List FEnt):=af (vF T)
noncomputable def vG (F58:kU)(a0:List Y2)(a1:Y1)(a2 a3:Int):Option ((aT×Y1×Int×Int)⊕Y3):=
cond (decide (a3 < a2)) (
aA (aU a3 a0.length) (
(F58 ((ix a0 a3),a1)).bind fun r1=>(
cond r1 (
some (Sum.inr (Sum.inl a3))) (
aA (aw .i64 (a3+1)) (
some (Sum.inl (a0,a1,a2,(a3+1)))))))) (
some (Sum.inr (Sum.inr ())))
theorem Db (F58:kU):vF (pz F58)=u4 (vG F58):=funext fun _=>by kernel_rfl
noncomputable def Dc:=vG Da
noncomputable def vH:NZ:=af (u4 Dc)
theorem Dd:l56v1_0 (pz Da)=vH:=congrArg af (Db Da)
theorem Jv:L.Fn Try.prog 56 19 [(.t 4)] (erase vE):=oA Try.func56
def qL:FSh:=⟨⟨[(.v cT),(.fn 58 [(.elm mf)])],[]⟩,[cT,mf],0,⟨⟨oF,[]⟩,[y11],[],0⟩,true⟩
noncomputable def Fv (F58:kU)(l56v1_0:NZ)(a0:List Y2)(a1:Y1):Option Int:=
(l56v1_0 (a0,a1,(↑a0.length:Int),0)).bind (fun y2=>Sum.elim (fun y3=>(
some y3)) (fun y4=>(
some (-1))) y2)
theorem LQ (F58:kU):bx (pz F58) qL [(.t 4)] vE=u2 (Fv F58 (l56v1_0 (pz F58))):=funext fun _=>by kernel_rfl
noncomputable def LR:=Fv Da vH
noncomputable def kK:ya:=u2 LR
theorem LS:bx (pz Da) qL [(.t 4)] vE=kK:=(LQ Da).trans (by rw[Dd] <;> rfl)
theorem LT:DC Try.prog 56 qL kK:=dD LS LP Jv
noncomputable def Ks (F37:jv)(F56v1:ya)(F57:hD):List FEnt:=[⟨37,sc,F37⟩,⟨56,qL,F56v1⟩,⟨57,sd,F57⟩]
theorem U9:ay Try.prog (Ks P37 kK cN):=dK (dK (dK an LD) LT) LC
def Fw:LSh:=⟨[2,4,5,6,13,14,15],⟨[(.ptr 0 0),(.ptr 1 0),(.v y11),(.mp 2),(.v cn),(.v y11),(.v y11)],k3⟩,[y11,cn,y11,y11,bM,cn,cT,dW,dW,aW],5,[0,1,2,3,4]⟩
def Fx:List XSh:=[⟨(.exit 0),[4,5],⟨⟨[(.ptr 1 0),(.v y11)],k3⟩,[y11,bM,cn,cT,dW,dW,aW],[0,1,2,3,4],5⟩⟩]
noncomputable def PQ:=dv Try.prog [] Try.f41 (.s .n (.s .n (.s (.r [.a 0 false y11]) (.s (.s .n (.b (.l Fw Fx .n))) .n))))
noncomputable def Fy (T:List FEnt):=aK (xs:=Fx) Fw (b6 T (sb [1,1,1,0,1,2,2] PQ))
noncomputable def l41_0 (T:List FEnt):=af (Fy T)
noncomputable def Fz (F37:jv)(F56v1:ya)(F57:hD)(a0:Int)(a1:List Y1)(a2 a3:Int)(a4:aO×aT)(a5:List Y1)(a6:List Y2)(a7 a8:List Y5)(a9:List Int):Option ((Int×aO×Int×Int×dA×aO×aT×db×db×Y6)⊕N2):=
cond (decide (a3 < a2)) (
aA (aU a3 a1.length) (
aA (aw .i64 ((fl (be a7 [(ix a1 a3).2.2,(ix a1 a3).2.1]) 0)+1)) (
cond (decide (1 < (fl (be (di a7 [(ix a1 a3).2.2,(ix a1 a3).2.1] ((fl (be a7 [(ix a1 a3).2.2,(ix a1 a3).2.1]) 0)+1)) [(ix a1 a3).2.2,(ix a1 a3).2.1]) 0))) (
aA (aw .i64 (a3+1)) (
some (Sum.inl (a0,a1,a2,(a3+1),a4,a5,a6,(di a7 [(ix a1 a3).2.2,(ix a1 a3).2.1] ((fl (be a7 [(ix a1 a3).2.2,(ix a1 a3).2.1]) 0)+1)),a8,a9)))) (
(F56v1 (a4.2,(ix a1 a3))).bind fun r2=>(
cond (decide (r2 < 0)) (
aA (aw .i64 (a0+1)) (
aA (aw .i64 (a3+1)) (
some (Sum.inl ((a0+1),a1,a2,(a3+1),a4,a5,a6,(di a7 [(ix a1 a3).2.2,(ix a1 a3).2.1] ((fl (be a7 [(ix a1 a3).2.2,(ix a1 a3).2.1]) 0)+1)),a8,a9))))) (
(F57 (r2,(ix a1 a3).2.1,a5,a6,a8,a9)).bind fun r3=>(
cond (!r3.1) (
aA (aw .i64 (a0+1)) (
aA (aw .i64 (a3+1)) (
some (Sum.inl ((a0+1),a1,a2,(a3+1),a4,r3.2.1,r3.2.2.1,(di a7 [(ix a1 a3).2.2,(ix a1 a3).2.1] ((fl (be a7 [(ix a1 a3).2.2,(ix a1 a3).2.1]) 0)+1)),r3.2.2.2.1,r3.2.2.2.2))))) (
aA (aU r2 r3.2.2.2.2.length) (
cond (decide ((ix r3.2.2.2.2 r2)=0)) (
aA (aw .i64 (a0+1)) (
aA (aw .i64 ((fl (be r3.2.2.2.1 [r2,(ix a1 a3).2.1]) 0)+1)) (
aA (aw .i64 (a3+1)) (
some (Sum.inl ((a0+1),a1,a2,(a3+1),a4,r3.2.1,r3.2.2.1,(di a7 [(ix a1 a3).2.2,(ix a1 a3).2.1] ((fl (be a7 [(ix a1 a3).2.2,(ix a1 a3).2.1]) 0)+1)),(di r3.2.2.2.1 [r2,(ix a1 a3).2.1] ((fl (be r3.2.2.2.1 [r2,(ix a1 a3).2.1]) 0)+1)),r3.2.2.2.2)))))) (
aA (aU r2 r3.2.2.2.2.length) (
aA (aw .i64 ((ix r3.2.2.2.2 r2)-1)) (
aA (aU r2 r3.2.2.2.2.length) (
aA (aw .i64 ((fl (be r3.2.2.2.1 [r2,(ix a1 a3).2.1]) 0)+1)) (
aA (aw .i64 (a3+1)) (
some (Sum.inl (a0,a1,a2,(a3+1),a4,r3.2.1,r3.2.2.1,(di a7 [(ix a1 a3).2.2,(ix a1 a3).2.1] ((fl (be a7 [(ix a1 a3).2.2,(ix a1 a3).2.1]) 0)+1)),(di r3.2.2.2.1 [r2,(ix a1 a3).2.1] ((fl (be r3.2.2.2.1 [r2,(ix a1 a3).2.1]) 0)+1)),(List.set r3.2.2.2.2 r2.toNat ((ix r3.2.2.2.2 r2)-1))))))))))))))))))) (
some (Sum.inr (a0,a4,a5,a6,a7,a8,a9)))
theorem LU (F37:jv)(F56v1:ya)(F57:hD):Fy (Ks F37 F56v1 F57)=BW (Fz F37 F56v1 F57):=funext fun _=>by kernel_rfl
noncomputable def LV:=Fz P37 kK cN
noncomputable def FA:N9:=af (BW LV)
theorem LW:l41_0 (Ks P37 kK cN)=FA:=congrArg af (LU P37 kK cN)
theorem Ry:L.Fn Try.prog 41 89 [(.t 4),(.t 5)] (erase PQ):=oA Try.func41
def Ap:FSh:=⟨⟨[(.st bM),(.v cn)],[]⟩,[bM,cn],0,⟨⟨[(.tup [(.ptr 0 0),(.v y11)])],ot⟩,z6,[],3⟩,false⟩
noncomputable def Tj (F37:jv)(F56v1:ya)(F57:hD)(l41_0:N9)(a0:aO×aT)(a1:List Y1):Option KP:=
(F37 a0).bind fun r1=>(
(l41_0 (0,a1,(↑a1.length:Int),0,a0,r1.1,r1.2.1,([]:List Y5),r1.2.2.1,r1.2.2.2)).bind fun y4=>(
some (y4.1,y4.2.2.1,y4.2.2.2.1,y4.2.2.2.2.2.1,y4.2.2.2.2.2.2)))
theorem Va (F37:jv)(F56v1:ya)(F57:hD):bx (Ks F37 F56v1 F57) Ap [(.t 4),(.t 5)] PQ=u2 (Tj F37 F56v1 F57 (l41_0 (Ks F37 F56v1 F57))):=funext fun _=>by kernel_rfl
noncomputable def Vb:=Tj P37 kK cN FA
noncomputable def xW:qO:=u2 Vb
theorem Vc:bx (Ks P37 kK cN) Ap [(.t 4),(.t 5)] PQ=xW:=(Va P37 kK cN).trans (by rw[LW] <;> rfl)
theorem Tk:DC Try.prog 41 Ap xW:=dD Vc U9 Ry
noncomputable def Rz (F40:qN)(F41:qO):List FEnt:=[⟨40,Ao,F40⟩,⟨41,Ap,F41⟩]
theorem Vd:ay Try.prog (Rz xV xW):=dK (dK an Tk) Th
noncomputable def RA:=dv Try.prog [] Try.f17 .n
theorem RB:L.Fn Try.prog 17 26 [(.t 4),(.t 5),(.t 6)] (erase RA):=oA Try.func17
def De:FSh:=⟨⟨[(.st bM),(.v cn)],[]⟩,[bM,cn],0,⟨⟨Rs,Fo⟩,[y11,y11,aW],[],1⟩,true⟩
noncomputable def Tl (F40:qN)(F41:qO)(a0:aO×aT)(a1:List Y1):Option NY:=
(F40 (a0,a1)).bind fun r1=>(
cond (!decide (r1=0)) (
some (0,r1,([]:List Int))) (
(F41 (a0,a1)).bind fun r2=>(
some (r2.1,0,r2.2.2.2.2))))
theorem Ve (F40:qN)(F41:qO):bx (Rz F40 F41) De [(.t 4),(.t 5),(.t 6)] RA=u2 (Tl F40 F41):=funext fun _=>by kernel_rfl
noncomputable def Vf:=Tl xV xW
noncomputable def P17:DY:=u2 Vf
theorem Vg:bx (Rz xV xW) De [(.t 4),(.t 5),(.t 6)] RA=P17:=Ve xV xW
theorem Vh:DC Try.prog 17 De P17:=dD Vg Vd RB
noncomputable def RE:List FEnt:=[]
theorem Vi:ay Try.prog RE:=an
noncomputable def RF:=dv Try.prog [] Try.f44 (.s .n (.s .n (.s (.r [.a 0 true mf,.a 2 true mf]) .n)))
theorem RG:L.Fn Try.prog 44 8 [(.t 2)] (erase RF):=oA Try.func44
def Df:FSh:=⟨⟨[(.v cn)],[]⟩,[cn],0,⟨⟨[(.slc 0)],[(0,(.row 43 mf))]⟩,[cn],[],1⟩,true⟩
noncomputable def Tm (a0:List Y1):Option aO:=
Jh (decide (List.length a0=0)) (
some ([]:List Y1)) (
aA (cf 24 (List.length ([]:List Y1)+List.length a0)) (
some (([]:List Y1)++a0)))
theorem g44 (a0:List Y1):bx RE Df [(.t 2)] RF a0=Tm a0:=by kernel_rfl
noncomputable def Vj:=Tm
noncomputable def Dg:yb:=fun x=>Vj x
theorem Vk:bx RE Df [(.t 2)] RF=Dg:=funext fun x=>(g44 x)
theorem Vl:DC Try.prog 44 Df Dg:=dD Vk Vi RG
noncomputable def Kt (F40:qN)(F32:Y7)(F41:qO)(F44:yb)(F45:wD):List FEnt:=[⟨40,Ao,F40⟩,⟨32,qK,F32⟩,⟨41,Ap,F41⟩,⟨44,Df,F44⟩,⟨45,xT,F45⟩]
theorem Vm:ay Try.prog (Kt xV P32 xW Dg P45):=dK (dK (dK (dK (dK an Rm) Vl) Tk) Km) Th
def FB:LSh:=⟨[2,9,44,45],⟨[(.v y11),(.ptr 0 0),(.v y11),(.v y11)],k7⟩,[y11,y11,y11,cT,cn,dW,aW],4,[0,1,2,3]⟩
def FC:List XSh:=[⟨(.exit 0),[9],⟨⟨Kj,k7⟩,[cT,cn,dW,aW],[0,1,2,3],4⟩⟩]
noncomputable def PR:=dv Try.prog [] Try.f19 (.s .n (.s .n (.s .n (.s .n (.s .n (.s (.s .n (.b (.l FB FC .n))) (.s (.r [.f 1 9 [0]]) .n)))))))
noncomputable def FD (T:List FEnt):=aK (xs:=FC) FB (b6 T (sb [1,1,1,1,1,0,1,2,2] PR))
noncomputable def l19_0 (T:List FEnt):=af (FD T)
noncomputable def FE (F40:qN)(F32:Y7)(F41:qO)(F44:yb)(F45:wD)(a0 a1 a2:Int)(a3:List Y2)(a4:List Y1)(a5:List Y5)(a6:List Int):Option ((Int×Int×Int×aT×aO×db×Y6)⊕N0):=
cond (decide (a2 < a1)) (
aA (aU a2 a4.length) (
cond (decide ((ix a4 a2).1 < a0)) (
aA (aU a2 a4.length) (
aA (aw .i64 (a2+1)) (
some (Sum.inl (a0,a1,(a2+1),a3,(List.set a4 a2.toNat ((ix a4 a2).1,((ix a4 a2).2.1,0))),a5,a6))))) (
aA (aw .i64 (a2+1)) (
some (Sum.inl (a0,a1,(a2+1),a3,a4,a5,a6)))))) (
some (Sum.inr (a3,a4,a5,a6)))
theorem LX (F40:qN)(F32:Y7)(F41:qO)(F44:yb)(F45:wD):FD (Kt F40 F32 F41 F44 F45)=u7 (FE F40 F32 F41 F44 F45):=funext fun _=>by kernel_rfl
noncomputable def LY:=FE xV P32 xW Dg P45
noncomputable def FF:N3:=af (u7 LY)
theorem LZ:l19_0 (Kt xV P32 xW Dg P45)=FF:=congrArg af (LX xV P32 xW Dg P45)
theorem RH:L.Fn Try.prog 19 74 [(.t 6),(.t 7)] (erase PR):=oA Try.func19
def Dh:FSh:=⟨⟨[(.st bM),(.v cn),(.v y11)],[]⟩,[bM,cn,y11],0,⟨⟨QF,[]⟩,[y11,y11],[],0⟩,true⟩
noncomputable def Tn (F40:qN)(F32:Y7)(F41:qO)(F44:yb)(F45:wD)(l19_0:N3)(a0:aO×aT)(a1:List Y1)(a2:Int):Option Y4:=
(F40 (a0,a1)).bind fun r1=>(
cond (!decide (r1=0)) (
some (0,r1)) (
(F32 (a2,0,99)).bind fun r2=>(
cond (!r2) (
some (0,1)) (
(F41 (a0,a1)).bind fun r3=>(
(F44 r3.2.1).bind fun r4=>(
(l19_0 (a2,(↑r4.length:Int),0,r3.2.2.1,r4,r3.2.2.2.1,r3.2.2.2.2)).bind fun y5=>(
(F45 (y5.2.1,y5.1,y5.2.2.1,y5.2.2.2)).bind fun r6=>(
some (r6.2.1,0)))))))))
theorem Vn (F40:qN)(F32:Y7)(F41:qO)(F44:yb)(F45:wD):bx (Kt F40 F32 F41 F44 F45) Dh [(.t 6),(.t 7)] PR=u3 (Tn F40 F32 F41 F44 F45 (l19_0 (Kt F40 F32 F41 F44 F45))):=funext fun _=>by kernel_rfl
noncomputable def Vo:=Tn xV P32 xW Dg P45 FF
noncomputable def P19:DZ:=u3 Vo
theorem Vp:bx (Kt xV P32 xW Dg P45) Dh [(.t 6),(.t 7)] PR=P19:=(Vn xV P32 xW Dg P45).trans (by rw[LZ] <;> rfl)
theorem Vq:DC Try.prog 19 Dh P19:=dD Vp Vm RH
noncomputable def Di (F32:Y7)(F57:hD):List FEnt:=[⟨32,qK,F32⟩,⟨57,sd,F57⟩]
theorem Vr:ay Try.prog (Di P32 cN):=dK (dK an LD) Km
def FG:LSh:=⟨[0,5,6,18,19,20,37,38,39],⟨[(.ptr 0 0),(.v y11),(.v aW),(.v aH),(.v y11),(.v y11),(.v aW),(.v y11),(.v y11)],ot⟩,[y11,aW,aH,y11,y11,aW,y11,y11,cn,cT,dW,aW],3,[0,1,2]⟩
def FH:List XSh:=[⟨.ret,[4],⟨⟨ju,ot⟩,[.bool,cn,cT,dW,aW],[0,1,2],3⟩⟩,⟨(.exit 2),[0,18,19,20],⟨⟨j7,ot⟩,[aH,y11,y11,cn,cT,dW,aW],[0,1,2],3⟩⟩]
def FI:LSh:=⟨[0,18,19,20],⟨j7,ot⟩,[aH,y11,y11,cn,cT,dW,aW],3,[0,1,2]⟩
def FJ:List XSh:=[⟨.ret,[4],⟨⟨ju,ot⟩,[.bool,cn,cT,dW,aW],[0,1,2],3⟩⟩,⟨(.exit 0),[],⟨⟨[],ot⟩,z7,[0,1,2],3⟩⟩]
noncomputable def Ma:=dv Try.prog [] Try.f38 (.s .n (.s .n (.s (.s .n (.b (.l FI FJ (.s .n (.s .n (.s (.b (.s .n (.s .n (.s .n (.b (.l FG FH .n)))))) .n)))))) .n)))
noncomputable def FK (T:List FEnt):=aK (xs:=FH) FG (b6 T (sb [1,1,0,1,2,2,1,1,0,2,1,1,1,2,2] Ma))
noncomputable def l38_1 (T:List FEnt):=af (FK T)
noncomputable def vI (F32:Y7)(F57:hD)(a0:Int)(a1:List Int)(a2:List Y6)(a3 a4:Int)(a5:List Int)(a6 a7:Int)(a8:List Y1)(a9:List Y2)(a10:List Y5)(a11:List Int):Option ((Int×Y6×aB×Int×Int×Y6×Int×Int×aO×aT×db×Y6)⊕N7):=
cond (decide (a7 < a6)) (
aA (aU a7 a5.length) (
aA (aw .i64 ((↑a9.length:Int)-1)) (
(F32 ((ix a5 a7),0,((↑a9.length:Int)-1))).bind fun r1=>(
cond (!r1) (
some (Sum.inr (Sum.inl (false,a8,a9,a10,a11)))) (
cond (decide (0 < a7)) (
aA (aw .i64 (a7-1)) (
aA (aU (a7-1) a1.length) (
cond (decide ((ix a5 a7)≤(ix a1 (a7-1)))) (
some (Sum.inr (Sum.inl (false,a8,a9,a10,a11)))) (
(F57 ((ix a5 a7),a0,a8,a9,a10,a11)).bind fun r2=>(
cond (!r2.1) (
some (Sum.inr (Sum.inl (false,r2.2.1,r2.2.2.1,r2.2.2.2.1,r2.2.2.2.2)))) (
aA (aw .i64 (a7+1)) (
some (Sum.inl (a0,a1,a2,a3,a4,a5,a6,(a7+1),r2.2.1,r2.2.2.1,r2.2.2.2.1,r2.2.2.2.2))))))))) (
(F57 ((ix a5 a7),a0,a8,a9,a10,a11)).bind fun r3=>(
cond (!r3.1) (
some (Sum.inr (Sum.inl (false,r3.2.1,r3.2.2.1,r3.2.2.2.1,r3.2.2.2.2)))) (
aA (aw .i64 (a7+1)) (
some (Sum.inl (a0,a1,a2,a3,a4,a5,a6,(a7+1),r3.2.1,r3.2.2.1,r3.2.2.2.1,r3.2.2.2.2))))))))))) (
some (Sum.inr (Sum.inr (a2,a3,a4,a8,a9,a10,a11))))
theorem Mb (F32:Y7)(F57:hD):FK (Di F32 F57)=BX (vI F32 F57):=funext fun _=>by kernel_rfl
noncomputable def Aq:=vI P32 cN
noncomputable def Ar:Oa:=af (BX Aq)
theorem Mc:l38_1 (Di P32 cN)=Ar:=congrArg af (Mb P32 cN)
noncomputable def FL (T:List FEnt):=aK (xs:=FJ) FI (b6 T (sb [1,1,0,1,2,2] Ma))
noncomputable def l38_0 (T:List FEnt):=af (FL T)
noncomputable def vJ (F32:Y7)(F57:hD)(l38_1:Oa)(a0:List Y6)(a1 a2:Int)(a3:List Y1)(a4:List Y2)(a5:List Y5)(a6:List Int):Option (N1⊕N8):=
cond (decide (a2 < a1)) (
aA (aU a2 a0.length) (
aA (aU a2 a3.length) (
cond (decide ((ix a3 a2).2.2 < (↑(List.length (ix a0 a2)):Int))) (
some (Sum.inr (Sum.inl (false,a3,a4,a5,a6)))) (
(l38_1 (a2,(ix a0 a2),a0,a1,a2,(ix a0 a2),(↑(List.length (ix a0 a2)):Int),0,a3,a4,a5,a6)).bind (fun y4=>Sum.elim (fun y5=>(
some (Sum.inr (Sum.inl (y5.1,y5.2.1,y5.2.2.1,y5.2.2.2.1,y5.2.2.2.2))))) (fun y6=>(
aA (aw .i64 (y6.2.2.1+1)) (
some (Sum.inl (y6.1,y6.2.1,(y6.2.2.1+1),y6.2.2.2.1,y6.2.2.2.2.1,y6.2.2.2.2.2.1,y6.2.2.2.2.2.2))))) y4))))) (
some (Sum.inr (Sum.inr (a3,a4,a5,a6))))
theorem Md (F32:Y7)(F57:hD):FL (Di F32 F57)=u7 (vJ F32 F57 (l38_1 (Di F32 F57))):=funext fun _=>by kernel_rfl
noncomputable def As:=vJ P32 cN Ar
noncomputable def At:Ob:=af (u7 As)
theorem Me:l38_0 (Di P32 cN)=At:=congrArg af ((Md P32 cN).trans (by rw[Mc] <;> rfl))
theorem RI:L.Fn Try.prog 38 76 [(.t 4)] (erase Ma):=oA Try.func38
def Dj:FSh:=⟨⟨[(.ptr 0 0),(.v aH)],ot⟩,[aH,cn,cT,dW,aW],3,⟨⟨ju,ot⟩,[.bool,cn,cT,dW,aW],[0,1,2],3⟩,false⟩
noncomputable def PS (F32:Y7)(F57:hD)(l38_0:Ob)(a0:List Y6)(a1:List Y1)(a2:List Y2)(a3:List Y5)(a4:List Int):Option KO:=
cond (!decide ((↑a0.length:Int)=(↑a1.length:Int))) (
some (false,a1,a2,a3,a4)) (
(l38_0 (a0,(↑a0.length:Int),0,a1,a2,a3,a4)).bind (fun y7=>Sum.elim (fun y8=>(
some (y8.1,y8.2.1,y8.2.2.1,y8.2.2.2.1,y8.2.2.2.2))) (fun y9=>(
some (true,y9.1,y9.2.1,y9.2.2.1,y9.2.2.2))) y7))
theorem Vt (F32:Y7)(F57:hD):bx (Di F32 F57) Dj [(.t 4)] Ma=u5 (PS F32 F57 (l38_0 (Di F32 F57))):=funext fun _=>by kernel_rfl
noncomputable def RJ:=PS P32 cN At
noncomputable def qZ:oI:=u5 RJ
theorem Vu:bx (Di P32 cN) Dj [(.t 4)] Ma=qZ:=(Vt P32 cN).trans (by rw[Me] <;> rfl)
theorem Vv:DC Try.prog 38 Dj qZ:=dD Vu Vr RI
noncomputable def yv (F11:fD)(F37:jv)(F38:oI):List FEnt:=[⟨11,sa,F11⟩,⟨37,sc,F37⟩,⟨38,Dj,F38⟩]
theorem Vw:ay Try.prog (yv P11 P37 qZ):=dK (dK (dK an Vv) LC) LA
def FM:LSh:=⟨[4,5,8,30,31,32,36,37,38],⟨[(.slc 0),(.v y11),(.ptr 1 0),(.v aH),(.v y11),(.v y11),(.v aW),(.v y11),(.v y11)],k8⟩,[y11,aH,y11,y11,aW,y11,y11,aW,cn,cT,dW,aW],4,[0,1,2,3]⟩
def FN:List XSh:=[⟨(.exit 2),[4,5,8,30,31,32],⟨⟨j5,k8⟩,z3,[0,1,2,3],4⟩⟩]
def FO:LSh:=⟨[4,5,8,30,31,32],⟨j5,k8⟩,z3,4,[0,1,2,3]⟩
def FP:List XSh:=[⟨(.exit 0),[4,5,8],⟨⟨[(.slc 0),(.v y11),(.ptr 1 0)],k8⟩,[y11,aW,cn,cT,dW,aW],[0,1,2,3],4⟩⟩]
def FQ:LSh:=⟨[4,5,8,50,51,52],⟨[(.slc 0),(.v y11),(.ptr 1 0),(.slc 0),(.v y11),(.v y11)],k8⟩,[y11,y11,y11,aW,cn,cT,dW,aW],4,[0,1,2,3]⟩
def FR:List XSh:=[⟨(.exit 4),[4,5],⟨⟨[(.slc 0),(.v y11)],k8⟩,[y11,aW,cn,cT,dW,aW],[0,1,2,3],4⟩⟩]
noncomputable def Ku:=dv Try.prog [] Try.f13 (.s .n (.s .n (.s .n (.s .n (.s (.r [.a 3 false y11]) (.s (.s .n (.b (.l FO FP (.s .n (.s .n (.s (.b (.s .n (.s .n (.b (.l FM FN .n))))) .n)))))) (.s (.s .n (.b (.l FQ FR .n))) .n)))))))
noncomputable def FS (T:List FEnt):=aK (xs:=FN) FM (b6 T (sb [1,1,1,1,1,0,1,2,2,1,1,0,2,1,1,2,2] Ku))
noncomputable def l13_1 (T:List FEnt):=af (FS T)
noncomputable def vK (F11:fD)(F37:jv)(F38:oI)(a0:Int)(a1:List Y6)(a2 a3:Int)(a4:List Int)(a5 a6:Int)(a7:List Int)(a8:List Y1)(a9:List Y2)(a10:List Y5)(a11:List Int):Option ((Int×aB×Int×Int×Y6×Int×Int×Y6×aO×aT×db×Y6)⊕Jx):=
cond (decide (a6 < a5)) (
aA (aU a6 a4.length) (
aA (aU (ix a4 a6) a7.length) (
aA (aw .i64 ((ix a7 (ix a4 a6))+1)) (
aA (aU (ix a4 a6) a7.length) (
aA (aw .i64 (a6+1)) (
some (Sum.inl (a0,a1,a2,a3,a4,a5,(a6+1),(List.set a7 (Int.toNat (ix a4 a6)) ((ix a7 (ix a4 a6))+1)),a8,a9,a10,a11)))))))) (
some (Sum.inr (a0,a1,a2,a3,a7,a8,a9,a10,a11)))
theorem Mf (F11:fD)(F37:jv)(F38:oI):FS (yv F11 F37 F38)=BX (vK F11 F37 F38):=funext fun _=>by kernel_rfl
noncomputable def Au:=vK P11 P37 qZ
noncomputable def Av:N4:=af (BX Au)
theorem Mg:l13_1 (yv P11 P37 qZ)=Av:=congrArg af (Mf P11 P37 qZ)
noncomputable def FT (T:List FEnt):=aK (xs:=FP) FO (b6 T (sb [1,1,1,1,1,0,1,2,2] Ku))
noncomputable def l13_0 (T:List FEnt):=af (FT T)
noncomputable def vL (F11:fD)(F37:jv)(F38:oI)(l13_1:N4)(a0:Int)(a1:List Y6)(a2 a3:Int)(a4:List Int)(a5:List Y1)(a6:List Y2)(a7:List Y5)(a8:List Int):Option (Jx⊕DU):=
cond (decide (a3 < a2)) (
aA (aU a3 a1.length) (
(l13_1 (a0,a1,a2,a3,(ix a1 a3),(↑(List.length (ix a1 a3)):Int),0,a4,a5,a6,a7,a8)).bind fun y4=>(
aA (aw .i64 (y4.2.2.2.1+1)) (
some (Sum.inl (y4.1,y4.2.1,y4.2.2.1,(y4.2.2.2.1+1),y4.2.2.2.2.1,y4.2.2.2.2.2.1,y4.2.2.2.2.2.2.1,y4.2.2.2.2.2.2.2.1,y4.2.2.2.2.2.2.2.2)))))) (
some (Sum.inr (a0,a4,a5,a6,a7,a8)))
theorem Mh (F11:fD)(F37:jv)(F38:oI):FT (yv F11 F37 F38)=u9 (vL F11 F37 F38 (l13_1 (yv F11 F37 F38))):=funext fun _=>by kernel_rfl
noncomputable def Aw:=vL P11 P37 qZ Av
noncomputable def Ax:N5:=af (u9 Aw)
theorem Mi:l13_0 (yv P11 P37 qZ)=Ax:=congrArg af ((Mh P11 P37 qZ).trans (by rw[Mg] <;> rfl))
noncomputable def FU (T:List FEnt):=aK (xs:=FR) FQ (b6 T (sb [1,1,1,1,1,1,0,1,2,2] Ku))
noncomputable def l13_2 (T:List FEnt):=af (FU T)
noncomputable def vM (F11:fD)(F37:jv)(F38:oI)(a0 a1 a2:Int)(a3:List Int)(a4:List Y1)(a5:List Y2)(a6:List Y5)(a7:List Int):Option ((Int×Int×Int×Y6×aO×aT×db×Y6)⊕DU):=
cond (decide (a2 < a1)) (
aA (aU a2 a3.length) (
aA (aU a2 a7.length) (
aA (aw .i64 (a0+(min (ix a3 a2) (ix a7 a2)))) (
aA (aw .i64 (a2+1)) (
some (Sum.inl ((a0+(min (ix a3 a2) (ix a7 a2))),a1,(a2+1),a3,a4,a5,a6,a7))))))) (
some (Sum.inr (a0,a3,a4,a5,a6,a7)))
theorem Mj (F11:fD)(F37:jv)(F38:oI):FU (yv F11 F37 F38)=u8 (vM F11 F37 F38):=funext fun _=>by kernel_rfl
noncomputable def Ay:=vM P11 P37 qZ
noncomputable def Az:N6:=af (u8 Ay)
theorem Ml:l13_2 (yv P11 P37 qZ)=Az:=congrArg af (Mj P11 P37 qZ)
theorem RK:L.Fn Try.prog 13 71 [(.t 4),(.t 5),(.t 6)] (erase Ku):=oA Try.func13
def AA:FSh:=⟨⟨PN,[]⟩,[bM,aH],0,⟨⟨Rs,Fo⟩,[y11,y11,aW],[],1⟩,true⟩
noncomputable def Mm (F11:fD)(F37:jv)(F38:oI)(l13_0:N5)(l13_2:N6)(a0:aO×aT)(a1:List Y6):Option NY:=
(F11 a0).bind fun r1=>(
cond (!decide (r1=0)) (
some (0,r1,([]:List Int))) (
(F37 a0).bind fun r2=>(
(F38 (a1,r2.1,r2.2.1,r2.2.2.1,r2.2.2.2)).bind fun r3=>(
cond (!r3.1) (
some (0,71,([]:List Int))) (
aA (decide (0≤(↑a0.2.length:Int))) (
aA (decide (8*(↑a0.2.length:Int)≤140737488355328)) (
(l13_0 (0,a1,(↑a1.length:Int),0,(cP (Int.toNat (↑a0.2.length:Int)) 0:List Int),r3.2.1,r3.2.2.1,r3.2.2.2.1,r3.2.2.2.2)).bind fun y5=>(
(l13_2 (y5.1,(↑y5.2.1.length:Int),0,y5.2.1,y5.2.2.1,y5.2.2.2.1,y5.2.2.2.2.1,y5.2.2.2.2.2)).bind fun y6=>(
some (y6.1,0,y6.2.1))))))))))
theorem Vx (F11:fD)(F37:jv)(F38:oI):bx (yv F11 F37 F38) AA [(.t 4),(.t 5),(.t 6)] Ku=u2 (Mm F11 F37 F38 (l13_0 (yv F11 F37 F38)) (l13_2 (yv F11 F37 F38))):=funext fun _=>by kernel_rfl
noncomputable def PT:=Mm P11 P37 qZ Ax Az
noncomputable def P13:lJ:=u2 PT
theorem Vy:bx (yv P11 P37 qZ) AA [(.t 4),(.t 5),(.t 6)] Ku=P13:=(Vx P11 P37 qZ).trans (by rw[Mi,Ml] <;> rfl)
theorem To:DC Try.prog 13 AA P13:=dD Vy Vw RK
noncomputable def Kv:List FEnt:=[]
theorem Vz:ay Try.prog Kv:=an
def FX:LSh:=⟨[0,1,5],⟨[(.v aW),(.v aW),(.v y11)],[]⟩,[aW,aW,y11],0,[]⟩
def vN:List XSh:=[⟨.ret,[4],⟨⟨ju,[]⟩,[.bool],[],0⟩⟩,⟨(.exit 0),[],⟨⟨[],[]⟩,[],[],0⟩⟩]
noncomputable def PU:=dv Try.prog [] Try.f15 (.s .n (.s .n (.s (.s .n (.b (.l FX vN .n))) .n)))
noncomputable def FY (T:List FEnt):=aK (xs:=vN) FX (b6 T (sb [1,1,0,1,2,2] PU))
noncomputable def l15_0 (T:List FEnt):=af (FY T)
noncomputable def FZ (a0 a1:List Int)(a2:Int):Option ((Y6×Y6×Int)⊕Qm):=
cond (decide (a2 < (↑a0.length:Int))) (
aA (aU a2 a0.length) (
aA (aU a2 a1.length) (
cond (!decide ((ix a0 a2)=(ix a1 a2))) (
some (Sum.inr (Sum.inl false))) (
aA (aw .i64 (a2+1)) (
some (Sum.inl (a0,a1,(a2+1)))))))) (
some (Sum.inr (Sum.inr ())))
theorem Mn:FY Kv=u3 FZ:=funext fun _=>by kernel_rfl
noncomputable def Mo:=FZ
noncomputable def F0:T3:=af (u3 Mo)
theorem Mp:l15_0 Kv=F0:=congrArg af Mn
theorem RL:L.Fn Try.prog 15 26 [(.t 4)] (erase PU):=oA Try.func15
def Dk:FSh:=⟨⟨[(.v aW),(.v aW)],[]⟩,[aW,aW],0,⟨⟨ju,[]⟩,[.bool],[],0⟩,true⟩
noncomputable def Tp (l15_0:T3)(a0 a1:List Int):Option Bool:=
cond (!decide ((↑a0.length:Int)=(↑a1.length:Int))) (
some false) (
(l15_0 (a0,a1,0)).bind (fun y1=>Sum.elim (fun y2=>(
some y2)) (fun y3=>(
some true)) y1))
theorem g15:bx Kv Dk [(.t 4)] PU=u2 (Tp (l15_0 Kv)):=funext fun _=>by kernel_rfl
noncomputable def VA:=Tp F0
noncomputable def P15:Qn:=u2 VA
theorem VB:bx Kv Dk [(.t 4)] PU=P15:=g15.trans (by rw[Mp] <;> rfl)
theorem VC:DC Try.prog 15 Dk P15:=dD VB Vz RL
noncomputable def T9 (F31:Ql)(F22:wC)(F17:DY)(F19:DZ)(F13:lJ)(F15:Qn):List FEnt:=[⟨31,C2,F31⟩,⟨22,xU,F22⟩,⟨17,De,F17⟩,⟨19,Dh,F19⟩,⟨13,AA,F13⟩,⟨15,Dk,F15⟩]
theorem t9:ay Try.prog (T9 P31 P22 P17 P19 P13 P15):=dK (dK (dK (dK (dK (dK an VC) To) Vq) Vh) Rr) Ul
noncomputable def c9:=dv Try.prog [] Try.f9 (.s .n (.s .n (.s .n (.s .n (.s .n (.s (.r [.a 1 false y11,.a 2 false y11,.a 3 false y11,.f 4 37 [],.f 4 38 [],.f 4 39 [],.a 4 false aW]) (.s (.r [.a 20 false y11,.a 33 false y11]) .n)))))))
theorem VD:L.Fn Try.prog 9 85 [(.t 0)] (erase c9):=oA Try.func9
def Mq:FSh:=⟨⟨[],[]⟩,[],0,⟨⟨ju,[]⟩,[.bool],[],0⟩,true⟩
noncomputable def q9 (F31:Ql)(F22:wC)(F17:DY)(F19:DZ)(F13:lJ)(F15:Qn):Option Bool:=
(F31 ()).bind fun r1=>(
(F22 (r1.1,r1.2.1)).bind fun r2=>(
(F17 ((r1.1,r1.2.1),r1.2.2)).bind fun r3=>(
(F19 ((r1.1,r1.2.1),r1.2.2,2)).bind fun r4=>(
(F13 ((r1.1,r1.2.1),([([0]:List Int),([1,2]:List Int),([0]:List Int)]:List Y6))).bind fun r5=>(
cond (decide (r2.2=0)) (
cond (decide (r3.2.1=0)) (
cond (decide (r4.2=0)) (
cond (decide (r5.2.1=0)) (
cond (decide (r2.1=4)) (
(F15 (r3.2.2,([1,2,1]:List Int))).bind fun r6=>(
cond r6 (
cond (decide (r3.1=2)) (
cond (decide (r4.1=1)) (
(F15 (r5.2.2,([2,1,1]:List Int))).bind fun r7=>(
cond r7 (
some (decide (r5.1=4))) (
some false))) (
some false)) (
some false)) (
some false))) (
some false)) (
some false)) (
some false)) (
some false)) (
some false))))))
theorem g9 (F31:Ql)(F22:wC)(F17:DY)(F19:DZ)(F13:lJ)(F15:Qn):bx (T9 F31 F22 F17 F19 F13 F15) Mq [(.t 0)] c9 ()=q9 F31 F22 F17 F19 F13 F15:=by kernel_rfl
noncomputable def p9:Option Bool:=q9 P31 P22 P17 P19 P13 P15
noncomputable def P9:DT:=fun x=>p9
theorem v9:bx (T9 P31 P22 P17 P19 P13 P15) Mq [(.t 0)] c9=P9:=funext fun x=>(g9 P31 P22 P17 P19 P13 P15)
theorem d9:DC Try.prog 9 Mq P9:=dD v9 t9 VD
noncomputable def RM:List FEnt:=[]
theorem VE:ay Try.prog RM:=an
noncomputable def RN:=dv Try.prog [(1,{ch:=[1,0,1,0,1,0,1,0,0,0],rs:=[1],ord:=[0,1,2,4,5,6,3,7,8,9] })] Try.f10 (.s .n (.s (.r [.a 6 true mf,.a 7 true n5]) .n))
theorem RO:L.Fn Try.prog 10 12 [(.cell 2 true 2)] (erase RN):=oA Try.func10
def Dl:FSh:=⟨⟨xS,[]⟩,[bM],0,⟨⟨[(.agg PA)],[(0,(.row 43 mf)),(1,(.row 50 n5))]⟩,[cn,cT],[],2⟩,true⟩
noncomputable def RP (a0:aO×aT):Option dA:=
aA (cf 24 a0.1.length) (
aA (cf 48 a0.2.length) (
some (a0.1,a0.2)))
theorem g10 (a0:aO×aT):bx RM Dl [(.cell 2 true 2)] RN a0=RP a0:=by kernel_rfl
noncomputable def Tq:=RP
noncomputable def P10:Ea:=fun x=>Tq x
theorem VF:bx RM Dl [(.cell 2 true 2)] RN=P10:=funext fun x=>(g10 x)
theorem VG:DC Try.prog 10 Dl P10:=dD VF VE RO
noncomputable def Kw:List FEnt:=[]
theorem VH:ay Try.prog Kw:=an
def F1:LSh:=⟨[1,3,4],⟨[(.ptr 0 0),(.slc 1),(.v y11)],BU⟩,[y11,bM,aW],2,[0]⟩
def F2:List XSh:=[⟨(.exit 0),[3],⟨⟨[(.slc 1)],BU⟩,[bM,aW],[0],2⟩⟩]
noncomputable def PV:=dv Try.prog [] Try.f48 (.s .n (.s .n (.s (.s .n (.b (.l F1 F2 (.s .n (.s (.b (.r [.a 7 false y11,.a 8 false y11])) .n))))) .n)))
noncomputable def F3 (T:List FEnt):=aK (xs:=F2) F1 (b6 T (sb [1,1,0,1,2,2] PV))
noncomputable def l48_0 (T:List FEnt):=af (F3 T)
noncomputable def pA (a0:Int)(a1:aO×aT)(a2:List Int):Option (Jy⊕Eb):=
cond (decide (a0 < (↑a1.2.length:Int))) (
aA (aU a0 a1.2.length) (
aA (cf 8 (List.length a2+List.length ([(ix a1.2 a0).2.1]:List Int))) (
aA (aw .i64 (a0+1)) (
some (Sum.inl ((a0+1),a1,(a2++([(ix a1.2 a0).2.1]:List Int)))))))) (
some (Sum.inr (a1,a2)))
theorem Mr:F3 Kw=u3 pA:=funext fun _=>by kernel_rfl
noncomputable def F4:=pA
noncomputable def vO:Oc:=af (u3 F4)
theorem v48_0:l48_0 Kw=vO:=congrArg af Mr
theorem RQ:L.Fn Try.prog 48 22 [(.t 2)] (erase PV):=oA Try.func48
def Dm:FSh:=⟨⟨xS,[]⟩,[bM],0,⟨⟨[(.slc 0)],Fo⟩,[aW],[],1⟩,true⟩
noncomputable def PW (l48_0:Oc)(a0:aO×aT):Option Y6:=
(l48_0 (0,a0,([]:List Int))).bind fun y1=>(
some y1.2)
theorem g48 (a0:aO×aT):bx Kw Dm [(.t 2)] PV a0=PW (l48_0 Kw) a0:=by kernel_rfl
noncomputable def VI:=PW vO
noncomputable def P48:DW:=fun x=>VI x
theorem VJ:bx Kw Dm [(.t 2)] PV=P48:=funext fun x=>(g48 x).trans (by rw[v48_0] <;> rfl)
theorem VK:DC Try.prog 48 Dm P48:=dD VJ VH RQ
end Go.Proofs.Ytjoncejabdjekaa.D
