import Derived.Test.YtdkaijofmigmbaaGreatG3z
import Derived.Test.YtdkaijofmigmbaaGreatProg
set_option linter.unusedVariables false
set_option maxRecDepth 100000
namespace Go.Proofs.YtdkaijofmigmbaaGreat.D
open Go Go.Proofs Go.Proofs.YtdkaijofmigmbaaGreat.L
def k7:List (Nat×OSh):=[(0,(.box [(.v y19),(.slc 1),(.slc 2)])),(1,(.row 3 y7)),(2,(.row 3 y7))]
def k8:List (Nat×OSh):=[(0,(.box [(.v y19),(.slc 2),(.slc 3)])),(2,(.row 3 y7)),(3,(.row 3 y7))]
def NX:List (Nat×OSh):=[(0,(.boxT cp)),(1,(.boxT y19)),(2,(.row 3 y7))]
def fX:FSh:=⟨⟨[(.ptr 0 0),(.v y19)],k7⟩,[y19,y19,y19,y19],3,⟨⟨kH,k7⟩,[.bool,y19,y19,y19],[0,1,2],3⟩,false⟩
noncomputable def nJ (F35:kl)(F21v1:gL):List FEnt:=[⟨35,yQ,F35⟩,⟨21,fX,F21v1⟩]
theorem HY (F21v1:gL)(h:DC Tryz.prog 21 fX F21v1):am Tryz.prog (nJ P35 F21v1):=(bG Sy (by kernel_rfl) (bG h (by kernel_rfl) aa))
def sH:LSh:=⟨[0,1,5,6,18,19,20],⟨[(.ptr 0 0),(.v y19),(.v y7),(.slc 1),(.slc 2),(.v y7),(.v y7)],[(0,(.box [(.v y19),(.slc 2),(.slc 3)])),(1,(.row 3 y7)),(2,(.row 3 y7)),(3,(.row 3 y7))]⟩,[y19,y7,y7,y7,y19,y19,y19,y19],4,[0,2,3]⟩
def sI:List XSh:=[⟨.ret,[4],⟨⟨kH,k8⟩,[.bool,y19,y19,y19],[0,2,3],4⟩⟩,⟨(.exit 0),[],⟨⟨[],k8⟩,[y19,y19,y19],[0,2,3],4⟩⟩]
noncomputable def sJ:=cz Tryz.prog [] Tryz.f21 (.s .n (.s .n (.s .n (.s .n (.s (.s .n (.b (.l sH sI (.s .n (.s .n (.s (.b (.s .n (.s .n (.s (.r [.a 2 false y7,.a 3 false y7]) .n)))) .n)))))) .n)))))
noncomputable def sK (T:List FEnt):=aU (xs:=sI) sH (bT T (sb [1,1,1,1,0,1,2,2] sJ))
noncomputable def l21v1_0 (T:List FEnt):=af (sK T)
noncomputable def q21v1_0 (F35:kl)(F21v1:gL)(a0:List Int)(a1 a2 a3:Int)(a4 a5 a6 a7:List Int):Option ((Y2×Int×Int×Int×Y2×Y2×Y2×Y2)⊕IT):=
cond (decide (a3 < a2)) (
aq (bv a3 a6.length) (
aq (bv a1 a4.length) (
cond (decide ((ix a6 a3) < (ix a4 a1))) (
aq (au .i64 (a3+1)) (
some (Sum.inl (a0,a1,a2,(a3+1),a4,a5,a6,a7)))) (
(F35 (a5,(ix a6 a3))).bind fun r1=>(
cond r1 (
aq (au .i64 (a3+1)) (
some (Sum.inl (a0,a1,a2,(a3+1),a4,a5,a6,a7)))) (
aq (bI 8 (List.length a5+List.length ([(ix a6 a3)]:List Int))) (
aq (bv a3 a6.length) (
aq (bv a1 a4.length) (
aq (au .i64 ((ix a6 a3)-(ix a4 a1))) (
aq (bv a3 a6.length) (
aq (bv a1 a7.length) (
aq (decide ((0:Int)≤1)) (
aq (decide (1≤(↑a0.length:Int))) (
aq (decide ((↑a0.length:Int)≤(↑a0.length:Int))) (
(F21v1 ((pj a0 1 (↑a0.length:Int)),a4,(List.set a6 a3.toNat ((ix a6 a3)-(ix a4 a1))),(List.set a7 a1.toNat a3))).bind fun r2=>(
cond r2.1 (
some (Sum.inr (Sum.inl (true,r2.2.1,r2.2.2.1,r2.2.2.2)))) (
aq (bv a3 r2.2.2.1.length) (
aq (au .i64 (a3+1)) (
some (Sum.inl (a0,a1,a2,(a3+1),r2.2.1,(a5++([(ix a6 a3)]:List Int)),(List.set r2.2.2.1 a3.toNat (ix a6 a3)),r2.2.2.2))))))))))))))))))))) (
some (Sum.inr (Sum.inr (a4,a6,a7))))
theorem yR (F35:kl)(F21v1:gL):sK (nJ F35 F21v1)=u8 (q21v1_0 F35 F21v1):=funext fun _=>by kernel_rfl
noncomputable def sL (F21v1:gL):=q21v1_0 P35 F21v1
noncomputable def L21v1_0 (F21v1:gL):IW:=af (u8 (sL F21v1))
theorem yS (F21v1:gL):l21v1_0 (nJ P35 F21v1)=L21v1_0 F21v1:=congrArg af (yR P35 F21v1)
theorem wb:L.Fn Tryz.prog 21 78 [(.t 4)] (erase sJ):=oA Tryz.func21
noncomputable def q21v1 (F35:kl)(F21v1:gL)(l21v1_0:IW)(a0 a1 a2 a3:List Int):Option ze:=
cond (decide ((↑a0.length:Int)=0)) (
some (true,a1,a2,a3)) (
aq (bv 0 a0.length) (
(l21v1_0 (a0,(ix a0 0),(↑a2.length:Int),0,a1,([]:List Int),a2,a3)).bind (fun y3=>Sum.elim (fun y4=>(
some (y4.1,y4.2.1,y4.2.2.1,y4.2.2.2))) (fun y5=>(
some (false,y5.1,y5.2.1,y5.2.2))) y3)))
theorem HZ (F35:kl)(F21v1:gL):aO (nJ F35 F21v1) fX [(.t 4)] sJ=u4 (q21v1 F35 F21v1 (l21v1_0 (nJ F35 F21v1))):=funext fun _=>by kernel_rfl
noncomputable def Co (F21v1:gL):=q21v1 P35 F21v1 (L21v1_0 F21v1)
noncomputable def R21v1:Nat→Y2×Y2×Y2×Y2→Option ze
  | 0=>fun _=>none
  | n+1=>fun x=>Co (R21v1 n) x.1 x.2.1 x.2.2.1 x.2.2.2
noncomputable def eW:gL:=R21v1 18446744073709551616
theorem H0 (F21v1:gL):aO (nJ P35 F21v1) fX [(.t 4)] sJ=fun x=>Co F21v1 x.1 x.2.1 x.2.2.1 x.2.2.2:=(HZ P35 F21v1).trans (by rw[yS F21v1] <;> rfl)
theorem Cp:∀ n,DC Tryz.prog 21 fX (R21v1 n)
  | 0=>rY (dx (sh:=fX) aa wb (by kernel_rfl)).1
  | n+1=>pH (H0 (R21v1 n)) (dx (sh:=fX) (HY (R21v1 n) (Cp n)) wb (by kernel_rfl))
theorem H1:DC Tryz.prog 21 fX eW:=Cp _
noncomputable def T6 (F14:kl)(F15v1:sO)(F18:uc)(F20:kS)(F21v1:gL):List FEnt:=[⟨14,vS,F14⟩,⟨15,oD,F15v1⟩,⟨18,yN,F18⟩,⟨20,yO,F20⟩,⟨21,fX,F21v1⟩]
theorem t6:am Tryz.prog (T6 mG eV P18 qX eW):=dK (dK (dK (dK (dK aa H1) So) Sk) HH) Nk
def H2:LSh:=⟨[2,3,6,20,21],⟨[(.ptr 0 0),(.ptr 1 0),(.slc 2),(.v y7),(.v y7)],NX⟩,[y7,y7,cp,y19,y19],3,[0,1]⟩
def H3:List XSh:=[⟨(.exit 0),[2,3,6],⟨⟨[(.ptr 0 0),(.ptr 1 0),(.slc 2)],NX⟩,[cp,y19,y19],[0,1],3⟩⟩]
noncomputable def c6:=cz Tryz.prog [(12,{ch:=[1,0,1,0,1,0,0,0,0,0],rs:=[3,2],ord:=[0,1,2,4,5,65573,3,6,7,8,9] })] Tryz.f6 (.s .n (.s .n (.s .n (.s .n (.s (.s .n (.b (.l H2 H3 (.s .n (.s .n (.s (.b (.s .n (.r [.a 2 false y7,.a 3 false y7]))) .n)))))) (.s .n (.s (.r [.a 7 false y7]) (.s (.s (.r [.f 2 6 []]) .n) .n))))))))
noncomputable def H4 (T:List FEnt):=aU (xs:=H3) H2 (bT T (sb [1,1,1,1,0,1,2,2] c6))
noncomputable def l6_0 (T:List FEnt):=af (H4 T)
noncomputable def tV (F14:kl)(F15v1:sO)(F18:uc)(F20:kS)(F21v1:gL)(a0 a1:Int)(a2:Y2×Int)(a3 a4:List Int):Option ((Int×Int×oF×Y2×Y2)⊕IQ):=
cond (decide (a1 < a0)) (
aq (bI 8 (List.length a4+List.length ([a1]:List Int))) (
aq (au .i64 (a1+1)) (
some (Sum.inl (a0,(a1+1),a2,a3,(a4++([a1]:List Int))))))) (
some (Sum.inr (a2,a3,a4)))
theorem MA (F14:kl)(F15v1:sO)(F18:uc)(F20:kS)(F21v1:gL):H4 (T6 F14 F15v1 F18 F20 F21v1)=u5 (tV F14 F15v1 F18 F20 F21v1):=funext fun _=>by kernel_rfl
noncomputable def H5:=tV mG eV P18 qX eW
noncomputable def wc:IX:=af (u5 H5)
theorem MB:l6_0 (T6 mG eV P18 qX eW)=wc:=congrArg af (MA mG eV P18 qX eW)
theorem Sz:L.Fn Tryz.prog 6 49 [(.t 4),(.t 5)] (erase c6):=oA Tryz.func6
def JY:FSh:=⟨⟨[(.st cp),(.v y19)],[]⟩,[cp,y19],0,⟨⟨[(.tup Ei)],iU⟩,[y7,y19],[],1⟩,true⟩
noncomputable def q6 (F14:kl)(F15v1:sO)(F18:uc)(F20:kS)(F21v1:gL)(l6_0:IX)(a0:Y2×Int)(a1:List Int):Option CG:=
(F14 a0).bind fun r1=>(
cond (!r1) (
some (40,([]:List Int))) (
cond (decide (12 < (↑a1.length:Int))) (
some (1,([]:List Int))) (
(F15v1 a1).bind fun r2=>(
cond r2 (
some (1,([]:List Int))) (
(l6_0 ((↑a1.length:Int),0,a0,a1,([]:List Int))).bind fun y3=>(
(F18 (y3.2.2,y3.2.1)).bind fun r4=>(
aq (decide (0≤(↑r4.2.length:Int))) (
aq (decide (8*(↑r4.2.length:Int)≤140737488355328)) (
(F20 y3.1.1).bind fun r5=>(
aq (decide (0≤(↑r4.2.length:Int))) (
aq (decide (8*(↑r4.2.length:Int)≤140737488355328)) (
(F21v1 (r4.1,r4.2,r5,(dF (Int.toNat (↑r4.2.length:Int)) 0:List Int))).bind fun r6=>(
cond (!r6.1) (
some (3,([]:List Int))) (
some (0,r6.2.2.2)))))))))))))))
theorem g6 (F14:kl)(F15v1:sO)(F18:uc)(F20:kS)(F21v1:gL):aO (T6 F14 F15v1 F18 F20 F21v1) JY [(.t 4),(.t 5)] c6=u2 (q6 F14 F15v1 F18 F20 F21v1 (l6_0 (T6 F14 F15v1 F18 F20 F21v1))):=funext fun _=>by kernel_rfl
noncomputable def p6:=q6 mG eV P18 qX eW wc
noncomputable def P6:zf:=u2 p6
theorem v6:aO (T6 mG eV P18 qX eW) JY [(.t 4),(.t 5)] c6=P6:=(g6 mG eV P18 qX eW).trans (by rw[MB] <;> rfl)
theorem d6:DC Tryz.prog 6 JY P6:=dD v6 t6 Sz
noncomputable def MC:List FEnt:=[]
theorem SA:am Tryz.prog MC:=aa
noncomputable def MD:=cz Tryz.prog [] Tryz.f25 .n
theorem ME:L.Fn Tryz.prog 25 15 [(.t 6)] (erase MD):=oA Tryz.func25
def tW:FSh:=⟨⟨Ku,[]⟩,[y7,y7,y7],0,⟨⟨kH,[]⟩,[.bool],[],0⟩,true⟩
noncomputable def NY (a0 a1 a2:Int):Option Bool:=
cond (decide (a1≤a0)) (
some (decide (a0≤a2))) (
some false)
theorem SB:aO MC tW [(.t 6)] MD=u3 NY:=funext fun _=>by kernel_rfl
noncomputable def SC:=NY
noncomputable def P25:Y5:=u3 SC
theorem SD:aO MC tW [(.t 6)] MD=P25:=SB
theorem MF:DC Tryz.prog 25 tW P25:=dD SD SA ME
noncomputable def Fq (F25:Y5):List FEnt:=[⟨25,tW,F25⟩]
theorem SE:am Tryz.prog (Fq P25):=dK aa MF
def Cq:LSh:=⟨[1,3],⟨E3,[(0,(.boxT cp))]⟩,[y7,cp],1,[0]⟩
def Cr:List XSh:=[⟨.ret,[2],⟨⟨kH,[(0,(.boxT cp))]⟩,[.bool,cp],[0],1⟩⟩,⟨(.exit 0),[1],⟨⟨zK,[(0,(.boxT cp))]⟩,[cp],[0],1⟩⟩]
noncomputable def JZ:=cz Tryz.prog [] Tryz.f22 (.s .n (.s (.s .n (.b (.l Cq Cr .n))) .n))
noncomputable def Cs (T:List FEnt):=aU (xs:=Cr) Cq (bT T (sb [1,0,1,2,2] JZ))
noncomputable def l22_0 (T:List FEnt):=af (Cs T)
noncomputable def nK (F25:Y5)(a0:Int)(a1:Y2×Int):Option ((Int×Y2×Int)⊕IU):=
cond (decide (a0 < (↑a1.1.length:Int))) (
aq (bv a0 a1.1.length) (
(F25 ((ix a1.1 a0),1,12)).bind fun r1=>(
cond (!r1) (
some (Sum.inr (Sum.inl (false,a1)))) (
aq (au .i64 (a0+1)) (
some (Sum.inl ((a0+1),a1))))))) (
some (Sum.inr (Sum.inr a1)))
theorem H6 (F25:Y5):Cs (Fq F25)=u2 (nK F25):=funext fun _=>by kernel_rfl
noncomputable def Ct:=nK P25
noncomputable def sM:IY:=af (u2 Ct)
theorem v22_0:l22_0 (Fq P25)=sM:=congrArg af (H6 P25)
theorem MG:L.Fn Tryz.prog 22 27 [(.t 2)] (erase JZ):=oA Tryz.func22
def yT:FSh:=⟨⟨[(.st cp)],[]⟩,[cp],0,⟨⟨kH,[]⟩,[.bool],[],0⟩,true⟩
noncomputable def J0 (F25:Y5)(l22_0:IY)(a0:Y2×Int):Option Bool:=
(l22_0 (0,a0)).bind (fun y2=>Sum.elim (fun y3=>(
some y3.1)) (fun y4=>(
(F25 ((↑y4.1.length:Int),1,6)).bind fun r5=>(
cond r5 (
(F25 (y4.2,1,600)).bind fun r6=>(
some r6)) (
some false)))) y2)
theorem g22 (F25:Y5)(a0:Y2×Int):aO (Fq F25) yT [(.t 2)] JZ a0=J0 F25 (l22_0 (Fq F25)) a0:=by kernel_rfl
noncomputable def SF:=J0 P25 sM
noncomputable def Cu:kl:=fun x=>SF x
theorem SG:aO (Fq P25) yT [(.t 2)] JZ=Cu:=funext fun x=>(g22 P25 x).trans (by rw[v22_0] <;> rfl)
theorem SH:DC Tryz.prog 22 yT Cu:=dD SG SE MG
noncomputable def Fs (F25:Y5):List FEnt:=[⟨25,tW,F25⟩]
theorem SI:am Tryz.prog (Fs P25):=dK aa MF
def Cv:LSh:=⟨[0,3],⟨Eh,[]⟩,[y19,y7],0,[]⟩
def Cw:List XSh:=[⟨.ret,[2],⟨⟨kH,[]⟩,[.bool],[],0⟩⟩,⟨(.exit 0),[0],⟨⟨[(.v y19)],[]⟩,[y19],[],0⟩⟩]
noncomputable def J1:=cz Tryz.prog [] Tryz.f23 (.s .n (.s (.s .n (.b (.l Cv Cw .n))) .n))
noncomputable def Cx (T:List FEnt):=aU (xs:=Cw) Cv (bT T (sb [1,0,1,2,2] J1))
noncomputable def l23_0 (T:List FEnt):=af (Cx T)
noncomputable def nL (F25:Y5)(a0:List Int)(a1:Int):Option (oF⊕IP):=
cond (decide (a1 < (↑a0.length:Int))) (
aq (bv a1 a0.length) (
(F25 ((ix a0 a1),1,12)).bind fun r1=>(
cond (!r1) (
some (Sum.inr (Sum.inl false))) (
aq (au .i64 (a1+1)) (
some (Sum.inl (a0,(a1+1)))))))) (
some (Sum.inr (Sum.inr a0)))
theorem H7 (F25:Y5):Cx (Fs F25)=u2 (nL F25):=funext fun _=>by kernel_rfl
noncomputable def Cy:=nL P25
noncomputable def sN:IS:=af (u2 Cy)
theorem v23_0:l23_0 (Fs P25)=sN:=congrArg af (H7 P25)
theorem MH:L.Fn Tryz.prog 23 19 [(.t 2)] (erase J1):=oA Tryz.func23
def yU:FSh:=⟨⟨[(.v y19)],[]⟩,[y19],0,⟨⟨kH,[]⟩,[.bool],[],0⟩,true⟩
noncomputable def J2 (F25:Y5)(l23_0:IS)(a0:List Int):Option Bool:=
(l23_0 (a0,0)).bind (fun y2=>Sum.elim (fun y3=>(
some y3)) (fun y4=>(
some (decide ((↑y4.length:Int)≤12)))) y2)
theorem g23 (F25:Y5)(a0:List Int):aO (Fs F25) yU [(.t 2)] J1 a0=J2 F25 (l23_0 (Fs F25)) a0:=by kernel_rfl
noncomputable def SJ:=J2 P25 sN
noncomputable def Cz:sO:=fun x=>SJ x
theorem SK:aO (Fs P25) yU [(.t 2)] J1=Cz:=funext fun x=>(g23 P25 x).trans (by rw[v23_0] <;> rfl)
theorem SL:DC Tryz.prog 23 yU Cz:=dD SK SI MH
noncomputable def Ft:List FEnt:=[]
theorem SM:am Tryz.prog Ft:=aa
def CA:LSh:=⟨[0,1,5],⟨[(.v y19),(.v y7),(.v y7)],[]⟩,[y19,y7,y7],0,[]⟩
noncomputable def J3:=cz Tryz.prog [] Tryz.f36 (.s .n (.s (.s .n (.b (.l CA nD .n))) .n))
noncomputable def CB (T:List FEnt):=aU (xs:=nD) CA (bT T (sb [1,0,1,2,2] J3))
noncomputable def l36_0 (T:List FEnt):=af (CB T)
noncomputable def nM (a0:List Int)(a1 a2:Int):Option (Oi⊕yZ):=
cond (decide (a2 < (↑a0.length:Int))) (
aq (bv a2 a0.length) (
cond (decide ((ix a0 a2)=a1)) (
some (Sum.inr (Sum.inl true))) (
aq (au .i64 (a2+1)) (
some (Sum.inl (a0,a1,(a2+1))))))) (
some (Sum.inr (Sum.inr ())))
theorem H8:CB Ft=u3 nM:=funext fun _=>by kernel_rfl
noncomputable def CC:=nM
noncomputable def pR:IN:=af (u3 CC)
theorem H9:l36_0 Ft=pR:=congrArg af H8
theorem MI:L.Fn Tryz.prog 36 18 [(.t 4)] (erase J3):=oA Tryz.func36
def yV:FSh:=⟨⟨Eh,[]⟩,[y19,y7],0,⟨⟨kH,[]⟩,[.bool],[],0⟩,true⟩
noncomputable def J4 (l36_0:IN)(a0:List Int)(a1:Int):Option Bool:=
(l36_0 (a0,a1,0)).bind (fun y1=>Sum.elim (fun y2=>(
some y2)) (fun y3=>(
some false)) y1)
theorem g36:aO Ft yV [(.t 4)] J3=u2 (J4 (l36_0 Ft)):=funext fun _=>by kernel_rfl
noncomputable def SN:=J4 pR
noncomputable def P36:kl:=u2 SN
theorem SO:aO Ft yV [(.t 4)] J3=P36:=g36.trans (by rw[H9] <;> rfl)
theorem SP:DC Tryz.prog 36 yV P36:=dD SO SM MI
def oE:FSh:=⟨⟨[(.v y19),(.v y19)],[]⟩,Bs,0,⟨⟨kH,[]⟩,[.bool],[],0⟩,true⟩
noncomputable def Fu (F36:kl)(F24:fY):List FEnt:=[⟨36,yV,F36⟩,⟨24,oE,F24⟩]
theorem SQ (F24:fY)(h:DC Tryz.prog 24 oE F24):am Tryz.prog (Fu P36 F24):=(bG SP (by kernel_rfl) (bG h (by kernel_rfl) aa))
noncomputable def J5:=cz Tryz.prog [] Tryz.f24 (.s .n (.s .n (.s (.s .n (.b (.l sx nD (.s .n (.s (.b (.s .n (.s (.s (.r [.a 0 false y7,.a 2 false y7]) .n) .n))) .n))))) .n)))
noncomputable def CD (T:List FEnt):=aU (xs:=nD) sx (bT T (sb [1,1,0,1,2,2] J5))
noncomputable def l24_0 (T:List FEnt):=af (CD T)
noncomputable def q24_0 (F36:kl)(F24:fY)(a0 a1:List Int)(a2:Int):Option IK:=
cond (decide (a2 < (↑a0.length:Int))) (
aq (bv a2 a0.length) (
aq (bv 0 a1.length) (
cond (decide ((ix a1 0)≤(ix a0 a2))) (
aq (decide ((0:Int)≤0)) (
aq (decide (0≤a2)) (
aq (decide (a2≤(↑a0.length:Int))) (
aq (bv a2 a0.length) (
(F36 ((pj a0 0 a2),(ix a0 a2))).bind fun r1=>(
cond (!r1) (
aq (bI 8 (List.length ([]:List Int)+List.length a0)) (
aq (bv a2 (List.length (([]:List Int)++a0))) (
aq (bv 0 a1.length) (
aq (au .i64 ((ix (([]:List Int)++a0) a2)-(ix a1 0))) (
aq (bv a2 (List.length (([]:List Int)++a0))) (
aq (decide ((0:Int)≤1)) (
aq (decide (1≤(↑a1.length:Int))) (
aq (decide ((↑a1.length:Int)≤(↑a1.length:Int))) (
(F24 ((List.set (([]:List Int)++a0) a2.toNat ((ix (([]:List Int)++a0) a2)-(ix a1 0))),(pj a1 1 (↑a1.length:Int)))).bind fun r2=>(
cond r2 (
some (Sum.inr (Sum.inl true))) (
aq (au .i64 (a2+1)) (
some (Sum.inl (a0,a1,(a2+1))))))))))))))) (
aq (au .i64 (a2+1)) (
some (Sum.inl (a0,a1,(a2+1))))))))))) (
aq (au .i64 (a2+1)) (
some (Sum.inl (a0,a1,(a2+1)))))))) (
some (Sum.inr (Sum.inr ())))
theorem Ia (F36:kl)(F24:fY):CD (Fu F36 F24)=u3 (q24_0 F36 F24):=funext fun _=>by kernel_rfl
noncomputable def CE (F24:fY):=q24_0 P36 F24
noncomputable def L24_0 (F24:fY):y6:=af (u3 (CE F24))
theorem Ib (F24:fY):l24_0 (Fu P36 F24)=L24_0 F24:=congrArg af (Ia P36 F24)
theorem Ic:L.Fn Tryz.prog 24 51 [(.t 4)] (erase J5):=oA Tryz.func24
noncomputable def q24 (F36:kl)(F24:fY)(l24_0:y6)(a0 a1:List Int):Option Bool:=
cond (decide ((↑a1.length:Int)=0)) (
some true) (
(l24_0 (a0,a1,0)).bind (fun y3=>Sum.elim (fun y4=>(
some y4)) (fun y5=>(
some false)) y3))
theorem SR (F36:kl)(F24:fY):aO (Fu F36 F24) oE [(.t 4)] J5=u2 (q24 F36 F24 (l24_0 (Fu F36 F24))):=funext fun _=>by kernel_rfl
noncomputable def NZ (F24:fY):=q24 P36 F24 (L24_0 F24)
noncomputable def R24:Nat→Y2×Y2→Option Bool
  | 0=>fun _=>none
  | n+1=>fun x=>NZ (R24 n) x.1 x.2
noncomputable def En:fY:=R24 18446744073709551616
theorem SS (F24:fY):aO (Fu P36 F24) oE [(.t 4)] J5=fun x=>NZ F24 x.1 x.2:=(SR P36 F24).trans (by rw[Ib F24] <;> rfl)
theorem N0:∀ n,DC Tryz.prog 24 oE (R24 n)
  | 0=>rY (dx (sh:=oE) aa Ic (by kernel_rfl)).1
  | n+1=>pH (SS (R24 n)) (dx (sh:=oE) (SQ (R24 n) (N0 n)) Ic (by kernel_rfl))
theorem ST:DC Tryz.prog 24 oE En:=N0 _
noncomputable def T7 (F22:kl)(F23:sO)(F24:fY):List FEnt:=[⟨22,yT,F22⟩,⟨23,yU,F23⟩,⟨24,oE,F24⟩]
theorem t7:am Tryz.prog (T7 Cu Cz En):=dK (dK (dK aa ST) SL) SH
noncomputable def c7:=cz Tryz.prog [] Tryz.f7 .n
theorem SU:L.Fn Tryz.prog 7 16 [(.t 4)] (erase c7):=oA Tryz.func7
def J6:FSh:=⟨⟨[(.st cp),(.v y19)],[]⟩,[cp,y19],0,⟨⟨pN,[]⟩,[y7],[],0⟩,true⟩
noncomputable def q7 (F22:kl)(F23:sO)(F24:fY)(a0:Y2×Int)(a1:List Int):Option Int:=
(F22 a0).bind fun r1=>(
cond (!r1) (
some 40) (
(F23 a1).bind fun r2=>(
cond (!r2) (
some 1) (
(F24 (a0.1,a1)).bind fun r3=>(
cond (!r3) (
some 3) (
some 0))))))
theorem g7 (F22:kl)(F23:sO)(F24:fY):aO (T7 F22 F23 F24) J6 [(.t 4)] c7=u2 (q7 F22 F23 F24):=funext fun _=>by kernel_rfl
noncomputable def p7:=q7 Cu Cz En
noncomputable def P7:zg:=u2 p7
theorem v7:aO (T7 Cu Cz En) J6 [(.t 4)] c7=P7:=g7 Cu Cz En
theorem d7:DC Tryz.prog 7 J6 P7:=dD v7 t7 SU
noncomputable def T8 (F25:Y5):List FEnt:=[⟨25,tW,F25⟩]
theorem t8:am Tryz.prog (T8 P25):=dK aa MF
def Id:LSh:=⟨[1,2,7,8],⟨[(.v y19),(.v y19),(.slc 0),(.v y7)],iU⟩,[y19,y19,y7,y19],1,[0]⟩
def Ie:List XSh:=[⟨.ret,[6],⟨⟨kH,iU⟩,[.bool,y19],[0],1⟩⟩,⟨(.exit 0),[1,2],⟨⟨[(.v y19),(.v y19)],iU⟩,[y19,y19,y19],[0],1⟩⟩]
noncomputable def c8:=cz Tryz.prog [] Tryz.f8 (.s .n (.s (.r [.a 0 false y7,.a 3 false y7]) (.s (.s .n (.b (.l Id Ie .n))) .n)))
noncomputable def If (T:List FEnt):=aU (xs:=Ie) Id (bT T (sb [1,1,0,1,2,2] c8))
noncomputable def l8_0 (T:List FEnt):=af (If T)
noncomputable def q8_0 (F25:Y5)(a0 a1:List Int)(a2:Int)(a3:List Int):Option ((Y2×Y2×Int×Y2)⊕IV):=
cond (decide (a2 < (↑a1.length:Int))) (
cond (decide (a2 < (↑a0.length:Int))) (
aq (bv a2 a1.length) (
aq (au .i64 ((↑a3.length:Int)-1)) (
(F25 ((ix a1 a2),0,((↑a3.length:Int)-1))).bind fun r1=>(
cond (!r1) (
some (Sum.inr (Sum.inl (false,a3)))) (
aq (bv a2 a1.length) (
aq (bv (ix a1 a2) a3.length) (
aq (bv a2 a0.length) (
aq (au .i64 ((ix a3 (ix a1 a2))-(ix a0 a2))) (
aq (bv (ix a1 a2) a3.length) (
aq (bv a2 a1.length) (
aq (bv (ix a1 a2) (List.length (List.set a3 (Int.toNat (ix a1 a2)) ((ix a3 (ix a1 a2))-(ix a0 a2))))) (
cond (decide ((ix (List.set a3 (Int.toNat (ix a1 a2)) ((ix a3 (ix a1 a2))-(ix a0 a2))) (ix a1 a2)) < 0)) (
some (Sum.inr (Sum.inl (false,(List.set a3 (Int.toNat (ix a1 a2)) ((ix a3 (ix a1 a2))-(ix a0 a2))))))) (
aq (au .i64 (a2+1)) (
some (Sum.inl (a0,a1,(a2+1),(List.set a3 (Int.toNat (ix a1 a2)) ((ix a3 (ix a1 a2))-(ix a0 a2))))))))))))))))))) (
some (Sum.inr (Sum.inr (a0,a1,a3))))) (
some (Sum.inr (Sum.inr (a0,a1,a3))))
theorem MJ (F25:Y5):If (T8 F25)=u4 (q8_0 F25):=funext fun _=>by kernel_rfl
noncomputable def Ig:=q8_0 P25
noncomputable def yW:IZ:=af (u4 Ig)
theorem MK:l8_0 (T8 P25)=yW:=congrArg af (MJ P25)
theorem SW:L.Fn Tryz.prog 8 60 [(.t 6)] (erase c8):=oA Tryz.func8
def J7:FSh:=⟨⟨[(.st cp),(.v y19),(.v y19)],[]⟩,[cp,y19,y19],0,⟨⟨kH,[]⟩,[.bool],[],0⟩,true⟩
noncomputable def q8 (F25:Y5)(l8_0:IZ)(a0:Y2×Int)(a1 a2:List Int):Option Bool:=
aq (bI 8 (List.length ([]:List Int)+List.length a0.1)) (
(l8_0 (a1,a2,0,(([]:List Int)++a0.1))).bind (fun y2=>Sum.elim (fun y3=>(
some y3.1)) (fun y4=>(
some (decide ((↑y4.2.1.length:Int)=(↑y4.1.length:Int))))) y2))
theorem g8 (F25:Y5):aO (T8 F25) J7 [(.t 6)] c8=u3 (q8 F25 (l8_0 (T8 F25))):=funext fun _=>by kernel_rfl
noncomputable def p8:=q8 P25 yW
noncomputable def P8:zh:=u3 p8
theorem v8:aO (T8 P25) J7 [(.t 6)] c8=P8:=(g8 P25).trans (by rw[MK] <;> rfl)
theorem d8:DC Tryz.prog 8 J7 P8:=dD v8 t8 SW
noncomputable def T3 (F4:y8)(F5:zd)(F6:zf)(F7:zg)(F8:zh):List FEnt:=[⟨4,JO,F4⟩,⟨5,JP,F5⟩,⟨6,JY,F6⟩,⟨7,J6,F7⟩,⟨8,J7,F8⟩]
theorem t3:am Tryz.prog (T3 P4 P5 P6 P7 P8):=dK (dK (dK (dK (dK aa d8) d7) d6) d5) d4
noncomputable def c3:=cz Tryz.prog [(4,{ch:=[1,1,0,0,0,0,0,0,0,0],rs:=[5] })] Tryz.f3 (.s .n (.s .n (.s .n (.s (.r [.a 3 false y7]) .n))))
theorem SX:L.Fn Tryz.prog 3 67 [(.t 4)] (erase c3):=oA Tryz.func3
def ML:FSh:=⟨⟨[(.st cp),(.v y19)],[]⟩,[cp,y19],0,⟨⟨kH,[]⟩,[.bool],[],0⟩,true⟩
noncomputable def q3 (F4:y8)(F5:zd)(F6:zf)(F7:zg)(F8:zh)(a0:Y2×Int)(a1:List Int):Option Bool:=
cond (decide (30 < (↑a0.1.length:Int))) (
(F4 ()).bind fun r1=>(
some r1)) (
cond (decide (30 < (↑a1.length:Int))) (
(F4 ()).bind fun r2=>(
some r2)) (
cond (decide (7 < (↑a1.length:Int))) (
cond (decide ((↑a1.length:Int)≤12)) (
(F4 ()).bind fun r3=>(
some r3)) (
(F5 (a0,([]:List Y1))).bind fun r4=>(
aq (bI 8 a1.length) (
(F6 ((r4.2.1,r4.1),a1)).bind fun r5=>(
(F7 (a0,a1)).bind fun r6=>(
cond (!decide (r5.1=r6)) (
some false) (
cond (!decide (r5.1=0)) (
cond (decide (0 < (↑r5.2.length:Int))) (
some false) (
cond (!decide (r5.1=0)) (
(F4 ()).bind fun r7=>(
some r7)) (
(F8 (a0,a1,r5.2)).bind fun r8=>(
cond r8 (
(F4 ()).bind fun r9=>(
some r9)) (
some false))))) (
cond (!decide (r5.1=0)) (
(F4 ()).bind fun r10=>(
some r10)) (
(F8 (a0,a1,r5.2)).bind fun r11=>(
cond r11 (
(F4 ()).bind fun r12=>(
some r12)) (
some false))))))))))) (
(F5 (a0,([]:List Y1))).bind fun r13=>(
aq (bI 8 a1.length) (
(F6 ((r13.2.1,r13.1),a1)).bind fun r14=>(
(F7 (a0,a1)).bind fun r15=>(
cond (!decide (r14.1=r15)) (
some false) (
cond (!decide (r14.1=0)) (
cond (decide (0 < (↑r14.2.length:Int))) (
some false) (
cond (!decide (r14.1=0)) (
(F4 ()).bind fun r16=>(
some r16)) (
(F8 (a0,a1,r14.2)).bind fun r17=>(
cond r17 (
(F4 ()).bind fun r18=>(
some r18)) (
some false))))) (
cond (!decide (r14.1=0)) (
(F4 ()).bind fun r19=>(
some r19)) (
(F8 (a0,a1,r14.2)).bind fun r20=>(
cond r20 (
(F4 ()).bind fun r21=>(
some r21)) (
some false))))))))))))
theorem g3 (F4:y8)(F5:zd)(F6:zf)(F7:zg)(F8:zh):aO (T3 F4 F5 F6 F7 F8) ML [(.t 4)] c3=u2 (q3 F4 F5 F6 F7 F8):=funext fun _=>by kernel_rfl
noncomputable def p3:=q3 P4 P5 P6 P7 P8
noncomputable def P3:oF×Y2→Option Bool:=u2 p3
theorem v3:aO (T3 P4 P5 P6 P7 P8) ML [(.t 4)] c3=P3:=g3 P4 P5 P6 P7 P8
theorem d3:DC Tryz.prog 3 ML P3:=dD v3 t3 SX
end Go.Proofs.YtdkaijofmigmbaaGreat.D
