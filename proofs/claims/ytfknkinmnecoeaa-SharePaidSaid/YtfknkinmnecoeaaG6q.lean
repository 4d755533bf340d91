import Derived.Test.YtfknkinmnecoeaaG5q
import Derived.Test.YtfknkinmnecoeaaProg
set_option linter.unusedVariables false
set_option maxRecDepth 100000
namespace Go.Proofs.Ytfknkinmnecoeaa.D
open Go Go.Proofs Go.Proofs.Ytfknkinmnecoeaa.L
def j3:List RSh:=[(.v y3),(.ptr 0 0),(.slc 1),(.slc 2),(.v y3),(.v y3),(.v y3),(.v y3)]
def j4:List RSh:=[(.v y3),(.ptr 0 0),(.slc 1),(.slc 2),(.v y3),(.v y3),(.v y3)]
noncomputable def xn (F23:rC)(F15:kY)(F20:dG)(F34:ia)(F35:jq)(F36:kZ)(F21:kX):List FEnt:=[⟨23,yN,F23⟩,⟨15,zP,F15⟩,⟨20,Ai,F20⟩,⟨34,Aj,F34⟩,⟨35,z5,F35⟩,⟨36,As,F36⟩,⟨21,zO,F21⟩]
theorem XA:aq Try.prog (xn jY jv gz gD kh kj P21):=dK (dK (dK (dK (dK (dK (dK ai Tn) TK) Tx) TF) TE) Tq) SH
def GO:LSh:=⟨[1,3,8,10,14,15,16,17],⟨j3,k3⟩,[y3,y3,y3,y3,y3,bx,y8,y8],3,[0,1,2]⟩
def GP:List XSh:=[⟨(.exit 2),[1,3,8,10,14,15,16],⟨⟨j4,k3⟩,[y3,y3,y3,y3,bx,y8,y8],[0,1,2],3⟩⟩]
def GQ:LSh:=⟨[1,3,8,10,14,15,16,18],⟨j3,k3⟩,[y3,y3,y3,y3,y3,bx,y8,y8],3,[0,1,2]⟩
def GR:List XSh:=[⟨(.exit 4),[1,3,8,10,14,15,16],⟨⟨j4,k3⟩,[y3,y3,y3,y3,bx,y8,y8],[0,1,2],3⟩⟩]
def GS:LSh:=⟨[1,3,8,10,14],⟨[(.v y3),(.ptr 0 0),(.slc 1),(.slc 2),(.v y3)],k3⟩,[y3,y3,bx,y8,y8],3,[0,1,2]⟩
def GT:List XSh:=[⟨.ret,[6],⟨⟨jp,k3⟩,[.bool,bx,y8,y8],[0,1,2],3⟩⟩,⟨(.exit 0),[],⟨⟨[],k3⟩,[bx,y8,y8],[0,1,2],3⟩⟩]
noncomputable def JU:=cN Try.prog [] Try.f12 (.s .n (.s .n (.s .n (.s .n (.s (.r [.a 0 true y6,.a 2 true y6,.a 4 true y6]) (.s .n (.s .n (.s .n (.s (.s .n (.b (.l GS GT (.s .n (.s (.b (.s .n (.s .n (.s (.s .n (.b (.l GO GP .n))) (.s (.s .n (.b (.l GQ GR .n))) .n))))) .n))))) .n)))))))))
noncomputable def GU (T:List FEnt):=aI (xs:=GP) GO (bG T (sb [1,1,1,1,1,1,1,1,0,1,2,2,1,0,2,1,1,0,1,2,2] JU))
noncomputable def l12_1 (T:List FEnt):=af (GU T)
noncomputable def o9 (F23:rC)(F15:kY)(F20:dG)(F34:ia)(F35:jq)(F36:kZ)(F21:kX)(a0 a1 a2 a3 a4:Int)(a5:bg)(a6 a7:List Y2):Option Nz:=
cond (decide (a4 < (↑a7.length:Int))) (
an (aZ a4 a7.length) (
cond (decide ((ix a7 a4).1=a2)) (
an (aZ a4 a7.length) (
an (ah .i64 (a3+(ix a7 a4).2)) (
an (ah .i64 (a4+1)) (
some (Sum.inl (a0,a1,a2,(a3+(ix a7 a4).2),(a4+1),a5,a6,a7)))))) (
an (ah .i64 (a4+1)) (
some (Sum.inl (a0,a1,a2,a3,(a4+1),a5,a6,a7)))))) (
some (Sum.inr (a0,a1,a2,a3,a5,a6,a7)))
theorem Ms (F23:rC)(F15:kY)(F20:dG)(F34:ia)(F35:jq)(F36:kZ)(F21:kX):GU (xn F23 F15 F20 F34 F35 F36 F21)=u8 (o9 F23 F15 F20 F34 F35 F36 F21):=funext fun _=>by kernel_rfl
noncomputable def GV:=o9 jY jv gz gD kh kj P21
noncomputable def rA:IJ:=af (u8 GV)
theorem Mu:l12_1 (xn jY jv gz gD kh kj P21)=rA:=congrArg af (Ms jY jv gz gD kh kj P21)
noncomputable def GW (T:List FEnt):=aI (xs:=GR) GQ (bG T (sb [1,1,1,1,1,1,1,1,0,1,2,2,1,0,2,1,1,1,0,1,2,2] JU))
noncomputable def l12_2 (T:List FEnt):=af (GW T)
noncomputable def pa (F23:rC)(F15:kY)(F20:dG)(F34:ia)(F35:jq)(F36:kZ)(F21:kX)(a0 a1 a2 a3 a4:Int)(a5:bg)(a6 a7:List Y2):Option Nz:=
cond (decide (a4 < (↑a6.length:Int))) (
an (aZ a4 a6.length) (
cond (decide ((ix a6 a4).1=a2)) (
an (aZ a4 a6.length) (
an (ah .i64 (a3-(ix a6 a4).2)) (
an (ah .i64 (a4+1)) (
some (Sum.inl (a0,a1,a2,(a3-(ix a6 a4).2),(a4+1),a5,a6,a7)))))) (
an (ah .i64 (a4+1)) (
some (Sum.inl (a0,a1,a2,a3,(a4+1),a5,a6,a7)))))) (
some (Sum.inr (a0,a1,a2,a3,a5,a6,a7)))
theorem Mw (F23:rC)(F15:kY)(F20:dG)(F34:ia)(F35:jq)(F36:kZ)(F21:kX):GW (xn F23 F15 F20 F34 F35 F36 F21)=u8 (pa F23 F15 F20 F34 F35 F36 F21):=funext fun _=>by kernel_rfl
noncomputable def GX:=pa jY jv gz gD kh kj P21
noncomputable def rB:IJ:=af (u8 GX)
theorem Mx:l12_2 (xn jY jv gz gD kh kj P21)=rB:=congrArg af (Mw jY jv gz gD kh kj P21)
noncomputable def GY (T:List FEnt):=aI (xs:=GT) GS (bG T (sb [1,1,1,1,1,1,1,1,0,1,2,2] JU))
noncomputable def l12_0 (T:List FEnt):=af (GY T)
noncomputable def pb (F23:rC)(F15:kY)(F20:dG)(F34:ia)(F35:jq)(F36:kZ)(F21:kX)(l12_1 l12_2:IJ)(a0 a1:Int)(a2:bg)(a3 a4:List Y2):Option ((Int×Int×bg×Y4×Y4)⊕NA):=
cond (decide (a1 < (↑a2.2.1.length:Int))) (
an (aZ a1 a2.2.1.length) (
(l12_1 (a0,a1,(ix a2.2.1 a1).1,0,0,a2,a3,a4)).bind fun y14=>(
(l12_2 (y14.1,y14.2.1,y14.2.2.1,y14.2.2.2.1,0,y14.2.2.2.2.1,y14.2.2.2.2.2.1,y14.2.2.2.2.2.2)).bind fun y15=>(
(F21 (y15.2.2.2.2.1,y15.2.2.1,y15.1)).bind fun r16=>(
cond (!decide (r16.2=0)) (
some (Sum.inr (Sum.inl (false,y15.2.2.2.2.1,y15.2.2.2.2.2.1,y15.2.2.2.2.2.2)))) (
cond (!decide (y15.2.2.2.1=r16.1)) (
some (Sum.inr (Sum.inl (false,y15.2.2.2.2.1,y15.2.2.2.2.2.1,y15.2.2.2.2.2.2)))) (
an (ah .i64 (y15.2.1+1)) (
some (Sum.inl (y15.1,(y15.2.1+1),y15.2.2.2.2.1,y15.2.2.2.2.2.1,y15.2.2.2.2.2.2)))))))))) (
some (Sum.inr (Sum.inr (a2,a3,a4))))
theorem My (F23:rC)(F15:kY)(F20:dG)(F34:ia)(F35:jq)(F36:kZ)(F21:kX):GY (xn F23 F15 F20 F34 F35 F36 F21)=u5 (pb F23 F15 F20 F34 F35 F36 F21 (l12_1 (xn F23 F15 F20 F34 F35 F36 F21)) (l12_2 (xn F23 F15 F20 F34 F35 F36 F21))):=funext fun _=>by kernel_rfl
noncomputable def GZ:=pb jY jv gz gD kh kj P21 rA rB
noncomputable def vN:NB:=af (u5 GZ)
theorem Mz:l12_0 (xn jY jv gz gD kh kj P21)=vN:=congrArg af ((My jY jv gz gD kh kj P21).trans (by rw[Mu,Mx] <;> rfl))
theorem R7:L.Fn Try.prog 12 167 [(.t 6)] (erase JU):=oA Try.func12
def IA:FSh:=⟨⟨Ot,[]⟩,[bx,y3,y8],0,⟨⟨jp,[]⟩,[.bool],[],0⟩,true⟩
noncomputable def OG (F23:rC)(F15:kY)(F20:dG)(F34:ia)(F35:jq)(F36:kZ)(F21:kX)(l12_0:NB)(a0:bg)(a1:Int)(a2:List Y2):Option Bool:=
(F23 a0).bind fun r1=>(
cond r1 (
(F15 ()).bind fun r2=>(
some r2)) (
(F20 a0).bind fun r3=>(
cond (!decide (r3=0)) (
(F15 ()).bind fun r4=>(
some r4)) (
cond (decide (a1 < 0)) (
(F15 ()).bind fun r5=>(
some r5)) (
cond (decide (99 < a1)) (
(F15 ()).bind fun r6=>(
some r6)) (
cond (decide (80 < (↑a2.length:Int))) (
(F15 ()).bind fun r7=>(
some r7)) (
(F34 (a0,a2)).bind fun r8=>(
cond (!r8) (
(F15 ()).bind fun r9=>(
some r9)) (
(F35 (a0,a1,a2)).bind fun r10=>(
cond (!decide (r10.1=0)) (
some false) (
an (ah .i64 ((↑r10.2.1.length:Int)+(↑r10.2.2.length:Int))) (
cond (decide ((↑a0.2.1.length:Int) < ((↑r10.2.1.length:Int)+(↑r10.2.2.length:Int)))) (
some false) (
an (bD 16 (List.length ([]:List Y2)+List.length a2)) (
an (bD 16 (List.length (([]:List Y2)++a2)+List.length r10.2.1)) (
(F34 (a0,((([]:List Y2)++a2)++r10.2.1))).bind fun r11=>(
cond (!r11) (
some false) (
(F35 (a0,a1,((([]:List Y2)++a2)++r10.2.1))).bind fun r12=>(
cond (!decide (r12.1=0)) (
some false) (
cond (decide (0 < (↑r12.2.1.length:Int))) (
some false) (
(F36 (r12.2.2,r10.2.2)).bind fun r13=>(
cond (!r13) (
some false) (
(l12_0 (a1,0,a0,r10.2.2,((([]:List Y2)++a2)++r10.2.1))).bind (fun y17=>Sum.elim (fun y18=>(
some y18.1)) (fun y19=>(
(F15 ()).bind fun r20=>(
some r20))) y17)))))))))))))))))))))))
theorem XB (F23:rC)(F15:kY)(F20:dG)(F34:ia)(F35:jq)(F36:kZ)(F21:kX):aX (xn F23 F15 F20 F34 F35 F36 F21) IA [(.t 6)] JU=u3 (OG F23 F15 F20 F34 F35 F36 F21 (l12_0 (xn F23 F15 F20 F34 F35 F36 F21))):=funext fun _=>by kernel_rfl
noncomputable def XC:=OG jY jv gz gD kh kj P21 vN
noncomputable def OH:Np:=u3 XC
theorem XE:aX (xn jY jv gz gD kh kj P21) IA [(.t 6)] JU=OH:=(XB jY jv gz gD kh kj P21).trans (by rw[Mz] <;> rfl)
theorem d12:DC Try.prog 12 IA OH:=dD XE XA R7
end Go.Proofs.Ytfknkinmnecoeaa.D
