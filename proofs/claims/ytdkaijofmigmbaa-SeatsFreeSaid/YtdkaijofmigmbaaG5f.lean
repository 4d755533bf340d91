import Derived.Test.YtdkaijofmigmbaaG4f
import Derived.Test.YtdkaijofmigmbaaProg
set_option linter.unusedVariables false
set_option maxRecDepth 100000
namespace Go.Proofs.Ytdkaijofmigmbaa.D
open Go Go.Proofs Go.Proofs.Ytdkaijofmigmbaa.L
def JS:List Ty:=[aY,bc,y7]
def z16:List Ty:=[aY,bc,y7,y7,y7]
def Vl:List Ty:=[aY,bc,y7,y7]
def JT:List Ty:=[y7,y7,y7,y7,y19]
def vP:List Ty:=[y7,y7,y7,y19]
def JU:List Ty:=[y7,y7,y19]
def JV:List RSh:=[(.st aY),(.v bc),(.v y7)]
def j20:List RSh:=[(.st aY),(.v bc),(.v y7),(.v y7),(.v y7)]
def Vm:List RSh:=[(.st aY),(.v bc),(.v y7),(.v y7)]
def j44:List RSh:=[(.v y7),(.v y7)]
def S8:List RSh:=[(.slc 0),(.v y7),(.v y7),(.v y7),(.v y7)]
def vQ:List RSh:=[(.slc 0),(.v y7),(.v y7),(.v y7)]
def j12:List RSh:=[(.slc 0),(.v y7),(.v y7),(.v y7),(.v y7),(.v y7)]
def k10:List (Nat×OSh):=[(0,(.box [(.v y19),(.v y7),(.slr 2),(.mp 3),(.slc 4)])),(1,(.pool cW)),(2,(.rows 22 3 y7)),(3,(.pmap 1)),(4,(.row 3 y7))]
def k3:List (Nat×OSh):=[(0,(.box [(.v y19),(.v y7),(.slr 2),(.mp 3),(.slc 4)])),(1,(.row 40 cW)),(2,(.rows 22 3 y7)),(3,(.pmap 5)),(4,(.row 3 y7)),(5,(.pool cW))]
def Vn:List (Nat×OSh):=[(0,(.row 3 y7)),(1,(.boxT y7))]
noncomputable def nj:List FEnt:=[]
theorem S9:al Try.prog nj:=aj
def vR:LSh:=⟨[0,1,2,11,12],⟨j19,k10⟩,z9,5,[0,1,2,3,4]⟩
def vS:List XSh:=[⟨(.exit 0),[1,2],⟨⟨[(.pel 1),(.v y7)],k10⟩,z11,[0,1,2,3,4],5⟩⟩]
noncomputable def tQ:=bK Try.prog [] Try.f111 (.s (.s .n (.b (.l vR vS .n))) .n)
noncomputable def vT (T:List FEnt):=aD (xs:=vS) vR (bd T (sb [0,1,2,2] tQ))
noncomputable def l111v1_0 (T:List FEnt):=af (vT T)
noncomputable def vU (a0 a1 a2 a3:Int)(a4:List Int)(a5:Int)(a6:List Y3)(a7:List Y2)(a8:List Int):Option Y165:=
cond (decide (a3 < a2)) (
ai (aA ((pd a6 a0).2.1) a7.length) (
ai (ah .i64 ((pd a6 a0).2.2.1+a3)) (
ai (aA ((pd a6 a0).2.2.1+a3) (List.length (ix a7 ((pd a6 a0).2.1)))) (
ai (ah .i64 (a3+1)) (
some (Sum.inl (a0,a1,a2,(a3+1),a4,a5,a6,(List.set a7 (Int.toNat ((pd a6 a0).2.1)) (List.set (ix a7 ((pd a6 a0).2.1)) (Int.toNat ((pd a6 a0).2.2.1+a3)) (-1))),a8))))))) (
some (Sum.inr (a0,a1,a4,a5,a6,a7,a8)))
theorem F0:vT nj=u9 vU:=funext fun _=>by kernel_rfl
noncomputable def F1:=vU
noncomputable def vV:KK:=af (u9 F1)
theorem F2:l111v1_0 nj=vV:=congrArg af F0
theorem JW:L.Fn Try.prog 111 48 [] (erase tQ):=oA Try.func111
def oO:FSh:=⟨⟨[(.ptr 0 0),(.pel 1),(.v y7)],k10⟩,z11,5,⟨⟨pX,k10⟩,[y19,y7,oa,cD,y19],[0,1,2,3,4],5⟩,false⟩
noncomputable def F3 (l111v1_0:KK)(a0 a1:Int)(a2:List Int)(a3:Int)(a4:List Y3)(a5:List Y2)(a6:List Int):Option TC:=
(l111v1_0 (a0,a1,(pd a4 a0).2.2.2.1,0,a2,a3,a4,a5,a6)).bind fun y1=>(
some (y1.2.2.1,y1.2.2.2.1,(C3 (C2 (yF y1.2.2.2.2.1 y1.1 y1.2.1) y1.1 (-1)) y1.1 (-1)),y1.2.2.2.2.2.1,y1.2.2.2.2.2.2))
theorem g111v1:aK nj oO [] tQ=u7 (F3 (l111v1_0 nj)):=funext fun _=>by kernel_rfl
noncomputable def F4:=F3 vV
noncomputable def P111v1:qP:=u7 F4
theorem Ta:aK nj oO [] tQ=P111v1:=g111v1.trans (by rw[F2] <;> rfl)
theorem Tb:DC Try.prog 111 oO P111v1:=dD Ta S9 JW
noncomputable def T84 (F43:oi)(F112:KL)(F111v1:qP):List FEnt:=[⟨43,Cp,F43⟩,⟨112,Aw,F112⟩,⟨111,oO,F111v1⟩]
theorem t84:al Try.prog (T84 n9 qI P111v1):=dK (dK (dK aj Tb) d112) d43
noncomputable def c84:=bK Try.prog [] Try.f84 (.s .n (.s .n (.b (.s .n (.s .n (.s .n (.s .n (.s .n (.s (.r [.a 7 false y7,.a 8 false y7]) .n)))))))))
theorem ok84:L.Fn Try.prog 84 70 [] (erase c84):=oA Try.func84
def JX:FSh:=⟨⟨[(.ptr 0 0),(.st cW)],k9⟩,[cW,y19,y7,cD,y19,oa],5,⟨⟨pX,k9⟩,Xh,[0,1,2],5⟩,false⟩
noncomputable def q84 (F43:oi)(F112:KL)(F111v1:qP)(a0:Y1)(a1:List Int)(a2:Int)(a3:List Y2)(a4:List Int)(a5:List Y3):Option wj:=
(F43 (a0.2.2.2.1,a1,a2,a3,a4,a5)).bind fun r1=>(
cond (decide (a0.2.2.1=1)) (
(F112 (a0.2.2.2.1,a0.2.2.2.2,a0.2.1,r1.2.1,r1.2.2.1,r1.2.2.2.1,r1.2.2.2.2.1,r1.2.2.2.2.2)).bind fun r2=>(
some (r2.1,r2.2.1,r2.2.2.1,r2.2.2.2.1,r2.2.2.2.2))) (
cond (decide (a0.2.2.1=2)) (
cond (decide ((pd r1.2.2.2.2.2 r1.1).1=2)) (
some (r1.2.1,r1.2.2.1,r1.2.2.2.1,r1.2.2.2.2.1,(yF r1.2.2.2.2.2 r1.1 3))) (
cond (decide (a0.2.2.1=2)) (
ai (bC 8 (List.length r1.2.2.2.2.1+List.length ([a0.2.2.2.1]:List Int))) (
some (r1.2.1,r1.2.2.1,r1.2.2.2.1,(r1.2.2.2.2.1++([a0.2.2.2.1]:List Int)),r1.2.2.2.2.2))) (
cond (decide ((pd r1.2.2.2.2.2 r1.1).1=2)) (
(F111v1 (r1.1,5,r1.2.1,r1.2.2.1,r1.2.2.2.2.2,r1.2.2.2.1,r1.2.2.2.2.1)).bind fun r3=>(
some (r3.1,r3.2.1,r3.2.2.2.1,r3.2.2.2.2,r3.2.2.1))) (
cond (decide ((pd r1.2.2.2.2.2 r1.1).1=3)) (
(F111v1 (r1.1,5,r1.2.1,r1.2.2.1,r1.2.2.2.2.2,r1.2.2.2.1,r1.2.2.2.2.1)).bind fun r4=>(
some (r4.1,r4.2.1,r4.2.2.2.1,r4.2.2.2.2,r4.2.2.1))) (
some (r1.2.1,r1.2.2.1,r1.2.2.2.1,r1.2.2.2.2.1,r1.2.2.2.2.2)))))) (
cond (decide (a0.2.2.1=2)) (
ai (bC 8 (List.length r1.2.2.2.2.1+List.length ([a0.2.2.2.1]:List Int))) (
some (r1.2.1,r1.2.2.1,r1.2.2.2.1,(r1.2.2.2.2.1++([a0.2.2.2.1]:List Int)),r1.2.2.2.2.2))) (
cond (decide ((pd r1.2.2.2.2.2 r1.1).1=2)) (
(F111v1 (r1.1,5,r1.2.1,r1.2.2.1,r1.2.2.2.2.2,r1.2.2.2.1,r1.2.2.2.2.1)).bind fun r5=>(
some (r5.1,r5.2.1,r5.2.2.2.1,r5.2.2.2.2,r5.2.2.1))) (
cond (decide ((pd r1.2.2.2.2.2 r1.1).1=3)) (
(F111v1 (r1.1,5,r1.2.1,r1.2.2.1,r1.2.2.2.2.2,r1.2.2.2.1,r1.2.2.2.2.1)).bind fun r6=>(
some (r6.1,r6.2.1,r6.2.2.2.1,r6.2.2.2.2,r6.2.2.1))) (
some (r1.2.1,r1.2.2.1,r1.2.2.2.1,r1.2.2.2.2.1,r1.2.2.2.2.2)))))))
theorem g84 (F43:oi)(F112:KL)(F111v1:qP):aK (T84 F43 F112 F111v1) JX [] c84=u6 (q84 F43 F112 F111v1):=funext fun _=>by kernel_rfl
noncomputable def p84:=q84 n9 qI P111v1
noncomputable def P84:CD:=u6 p84
theorem v84:aK (T84 n9 qI P111v1) JX [] c84=P84:=g84 n9 qI P111v1
theorem d84:DC Try.prog 84 JX P84:=dD v84 t84 ok84
noncomputable def Vo (F77:Cz)(F79:nl)(F78:nl)(F82:nl)(F83:CB)(F84:CD):List FEnt:=[⟨77,Jz,F77⟩,⟨79,JA,F79⟩,⟨78,JL,F78⟩,⟨82,JN,F82⟩,⟨83,JQ,F83⟩,⟨84,JX,F84⟩]
theorem t65:al Try.prog (Vo Cg Ch Ao uq P83 P84):=dK (dK (dK (dK (dK (dK aj d84) d83) d82) d78) d79) d77
def MB:LSh:=⟨[2,7,17,18,19],⟨[(.v y7),(.ptr 0 0),(.slc 1),(.v y7),(.v y7)],k3⟩,[y7,y7,y7,y19,y7,bc,cD,y19,oa],6,[0,1,2,3]⟩
def MC:List XSh:=[⟨(.exit 0),[2,7],⟨⟨[(.v y7),(.ptr 0 0)],k3⟩,[y7,y19,y7,bc,cD,y19,oa],[0,1,2,3],6⟩⟩]
noncomputable def c65:=bK Try.prog [] Try.f65 (.s .n (.s .n (.s .n (.s (.s .n (.b (.l MB MC .n))) .n))))
noncomputable def MD (T:List FEnt):=aD (xs:=MC) MB (bd T (sb [1,1,1,0,1,2,2] c65))
noncomputable def l65_0 (T:List FEnt):=af (MD T)
noncomputable def rS (F77:Cz)(F79 F78 F82:nl)(F83:CB)(F84:CD)(a0 a1 a2:Int)(a3:List Int)(a4:Int)(a5:List Y1)(a6:List Y2)(a7:List Int)(a8:List Y3):Option ((Int×Int×Int×Y2×Int×Y8×Y9×Y2×iQ)⊕Y207):=
cond (decide (a2 < a1)) (
ai (aA a2 a5.length) (
cond (decide (a0 < (ix a5 a2).2.1)) (
some (Sum.inr (a0,a3,a4,a5,a6,a7,a8))) (
(F83 ((ix a5 a2).2.1,a3,a4,a6,a7,a8)).bind fun r5=>(
(F84 ((ix a5 a2),r5.1,r5.2.1,r5.2.2.1,r5.2.2.2.1,r5.2.2.2.2)).bind fun r6=>(
ai (ah .i64 (a2+1)) (
some (Sum.inl (a0,a1,(a2+1),r6.1,r6.2.1,a5,r6.2.2.1,r6.2.2.2.1,r6.2.2.2.2)))))))) (
some (Sum.inr (a0,a3,a4,a5,a6,a7,a8)))
theorem Xl (F77:Cz)(F79 F78 F82:nl)(F83:CB)(F84:CD):MD (Vo F77 F79 F78 F82 F83 F84)=u9 (rS F77 F79 F78 F82 F83 F84):=funext fun _=>by kernel_rfl
noncomputable def ME:=rS Cg Ch Ao uq P83 P84
noncomputable def L65_0:Y235:=af (u9 ME)
theorem Xm:l65_0 (Vo Cg Ch Ao uq P83 P84)=L65_0:=congrArg af (Xl Cg Ch Ao uq P83 P84)
theorem ok65:L.Fn Try.prog 65 39 [(.t 6)] (erase c65):=oA Try.func65
def F5:FSh:=⟨⟨JV,[]⟩,JS,0,⟨⟨If,k9⟩,Xh,[],5⟩,false⟩
noncomputable def q65 (F77:Cz)(F79 F78 F82:nl)(F83:CB)(F84:CD)(l65_0:Y235)(a0:Y2×Int)(a1:List Y1)(a2:Int):Option wj:=
(F77 a0).bind fun r1=>(
(F79 a1).bind fun r2=>(
(F78 r2).bind fun r3=>(
(F82 r3).bind fun r4=>(
(l65_0 (a2,(↑r4.length:Int),0,r1.1,r1.2.1,r4,r1.2.2.1,([]:List Int),r1.2.2.2)).bind fun y7=>(
(F83 (y7.1,y7.2.1,y7.2.2.1,y7.2.2.2.2.1,y7.2.2.2.2.2.1,y7.2.2.2.2.2.2)).bind fun r8=>(
some (r8.1,r8.2.1,r8.2.2.1,r8.2.2.2.1,r8.2.2.2.2)))))))
theorem g65 (F77:Cz)(F79 F78 F82:nl)(F83:CB)(F84:CD):aK (Vo F77 F79 F78 F82 F83 F84) F5 [(.t 6)] c65=u3 (q65 F77 F79 F78 F82 F83 F84 (l65_0 (Vo F77 F79 F78 F82 F83 F84))):=funext fun _=>by kernel_rfl
noncomputable def p65:=q65 Cg Ch Ao uq P83 P84 L65_0
noncomputable def P65:yC:=u3 p65
theorem v65:aK (Vo Cg Ch Ao uq P83 P84) F5 [(.t 6)] c65=P65:=(g65 Cg Ch Ao uq P83 P84).trans (by rw[Xm] <;> rfl)
theorem d65:DC Try.prog 65 F5 P65:=dD v65 t65 ok65
noncomputable def T42 (F26:ux)(F60:Y5)(F65:yC):List FEnt:=[⟨26,Ce,F26⟩,⟨60,tC,F60⟩,⟨65,F5,F65⟩]
theorem t42:al Try.prog (T42 vH P60 P65):=dK (dK (dK aj d65) U9) d26
noncomputable def c42:=bK Try.prog [] Try.f42 .n
theorem ok42:L.Fn Try.prog 42 36 [(.t 10),(.t 11)] (erase c42):=oA Try.func42
def tR:FSh:=⟨⟨j20,[]⟩,z16,0,⟨⟨[(.tup [.nilp,(.v y7)])],[]⟩,[y7],[],0⟩,true⟩
noncomputable def q42 (F26:ux)(F60:Y5)(F65:yC)(a0:Y2×Int)(a1:List Y1)(a2 a3 a4:Int):Option Int:=
(F26 (a0,a1)).bind fun r1=>(
cond (!decide (r1=0)) (
some r1) (
(F60 (a2,0,9999)).bind fun r2=>(
cond (!r2) (
some 1) (
(F60 (a3,0,99)).bind fun r3=>(
cond (!r3) (
some 1) (
(F60 (a4,1,12)).bind fun r4=>(
cond (!r4) (
some 1) (
(F65 (a0,a1,a2)).bind fun r5=>(
none)))))))))
theorem g42 (F26:ux)(F60:Y5)(F65:yC):aK (T42 F26 F60 F65) tR [(.t 10),(.t 11)] c42=u5 (q42 F26 F60 F65):=funext fun _=>by kernel_rfl
noncomputable def p42:=q42 vH P60 P65
noncomputable def ja:ca:=u5 p42
theorem v42:aK (T42 vH P60 P65) tR [(.t 10),(.t 11)] c42=ja:=g42 vH P60 P65
theorem Vp:DC Try.prog 42 tR ja:=dD v42 t42 ok42
noncomputable def F6 (F26:ux)(F60:Y5)(F65:yC):List FEnt:=[⟨26,Ce,F26⟩,⟨60,tC,F60⟩,⟨65,F5,F65⟩]
theorem Xn:al Try.prog (F6 vH P60 P65):=dK (dK (dK aj d65) U9) d26
noncomputable def F7:=bK Try.prog [] Try.f42 .n
theorem Tc:L.Fn Try.prog 42 36 [(.t 10),(.t 11)] (erase F7):=oA Try.func42
def iP:FSh:=⟨⟨j20,[]⟩,z16,0,⟨⟨[(.tup Rm)],k9⟩,U8,[],5⟩,false⟩
noncomputable def Ax (F26:ux)(F60:Y5)(F65:yC)(a0:Y2×Int)(a1:List Y1)(a2 a3 a4:Int):Option oh:=
(F26 (a0,a1)).bind fun r1=>(
cond (!decide (r1=0)) (
none) (
(F60 (a2,0,9999)).bind fun r2=>(
cond (!r2) (
none) (
(F60 (a3,0,99)).bind fun r3=>(
cond (!r3) (
none) (
(F60 (a4,1,12)).bind fun r4=>(
cond (!r4) (
none) (
(F65 (a0,a1,a2)).bind fun r5=>(
some (0,r5.1,r5.2.1,r5.2.2.1,r5.2.2.2.1,r5.2.2.2.2))))))))))
theorem Xo (F26:ux)(F60:Y5)(F65:yC):aK (F6 F26 F60 F65) iP [(.t 10),(.t 11)] F7=u5 (Ax F26 F60 F65):=funext fun _=>by kernel_rfl
noncomputable def Xp:=Ax vH P60 P65
noncomputable def P42v1:gE:=u5 Xp
theorem Xq:aK (F6 vH P60 P65) iP [(.t 10),(.t 11)] F7=P42v1:=Xo vH P60 P65
theorem rT:DC Try.prog 42 iP P42v1:=dD Xq Xn Tc
noncomputable def T15 (F42:ca)(F42v1:gE)(F43:oi):List FEnt:=[⟨42,tR,F42⟩,⟨42,iP,F42v1⟩,⟨43,Cp,F43⟩]
theorem t15:al Try.prog (T15 ja P42v1 n9):=dK (dK (dK aj d43) rT) Vp
noncomputable def c15:=bK Try.prog [] Try.f15 .n
theorem ok15:L.Fn Try.prog 15 30 [(.cell 8 true 4),(.t 9)] (erase c15):=oA Try.func15
def qJ:FSh:=⟨⟨Vm,[]⟩,Vl,0,⟨⟨[(.tup [(.st fj),(.v y7)])],[]⟩,[fj,y7],[],0⟩,true⟩
noncomputable def q15 (F42:ca)(F42v1:gE)(F43:oi)(a0:Y2×Int)(a1:List Y1)(a2 a3:Int):Option TE:=
Id (F42 (a0,a1,a2,a3,1)) (fun r1=>(
cond (!decide (r1=0)) (
some ((0,(0,(0,0))),r1)) (
none))) (
(F42v1 (a0,a1,a2,a3,1)).bind fun r2=>(
cond (!decide (r2.1=0)) (
some ((0,(0,(0,0))),r2.1)) (
(F43 (a3,r2.2.1,r2.2.2.1,r2.2.2.2.1,r2.2.2.2.2.1,r2.2.2.2.2.2)).bind fun r3=>(
some (((pd r3.2.2.2.2.2 r3.1).1,((pd r3.2.2.2.2.2 r3.1).2.1,((pd r3.2.2.2.2.2 r3.1).2.2.1,(pd r3.2.2.2.2.2 r3.1).2.2.2.1))),0)))))
theorem g15 (F42:ca)(F42v1:gE)(F43:oi):aK (T15 F42 F42v1 F43) qJ [(.cell 8 true 4),(.t 9)] c15=u4 (q15 F42 F42v1 F43):=funext fun _=>by kernel_rfl
noncomputable def p15:=q15 ja P42v1 n9
noncomputable def P15:dp:=u4 p15
theorem v15:aK (T15 ja P42v1 n9) qJ [(.cell 8 true 4),(.t 9)] c15=P15:=g15 ja P42v1 n9
theorem Xr:DC Try.prog 15 qJ P15:=dD v15 t15 ok15
noncomputable def T21 (F42:ca)(F42v1:gE)(F46:wl):List FEnt:=[⟨42,tR,F42⟩,⟨42,iP,F42v1⟩,⟨46,sh46,F46⟩]
theorem t21:al Try.prog (T21 ja P42v1 qQ):=dK (dK (dK aj d46) rT) Vp
noncomputable def c21:=bK Try.prog [] Try.f21 .n
theorem ok21:L.Fn Try.prog 21 37 [(.t 8),(.t 9),(.t 10)] (erase c21):=oA Try.func21
def yp:FSh:=⟨⟨Vm,[]⟩,Vl,0,⟨⟨[(.tup j37)],[]⟩,[y7,y7,y7],[],0⟩,true⟩
noncomputable def q21 (F42:ca)(F42v1:gE)(F46:wl)(a0:Y2×Int)(a1:List Y1)(a2 a3:Int):Option cR:=
Id (F42 (a0,a1,a2,0,a3)) (fun r1=>(
cond (!decide (r1=0)) (
some (0,0,r1)) (
none))) (
(F42v1 (a0,a1,a2,0,a3)).bind fun r2=>(
cond (!decide (r2.1=0)) (
some (0,0,r2.1)) (
(F46 (a3,r2.2.1,r2.2.2.1,r2.2.2.2.1,r2.2.2.2.2.1,r2.2.2.2.2.2)).bind fun r3=>(
cond (!r3.2.1) (
some (0,0,3)) (
some (r3.1.2.1,r3.1.2.2.1,0))))))
theorem g21 (F42:ca)(F42v1:gE)(F46:wl):aK (T21 F42 F42v1 F46) yp [(.t 8),(.t 9),(.t 10)] c21=u4 (q21 F42 F42v1 F46):=funext fun _=>by kernel_rfl
noncomputable def p21:=q21 ja P42v1 qQ
noncomputable def P21:iR:=u4 p21
theorem v21:aK (T21 ja P42v1 qQ) yp [(.t 8),(.t 9),(.t 10)] c21=P21:=g21 ja P42v1 qQ
theorem d21:DC Try.prog 21 yp P21:=dD v21 t21 ok21
noncomputable def Td:List FEnt:=[]
theorem t118:al Try.prog Td:=aj
noncomputable def Te:=bK Try.prog [] Try.f118 .n
theorem Xs:L.Fn Try.prog 118 6 [(.t 2)] (erase Te):=oA Try.func118
def Ay:FSh:=⟨⟨lZ,[]⟩,[y7],0,⟨⟨fE,[]⟩,[.bool],[],0⟩,true⟩
noncomputable def Xt (a0:Int):Option Bool:=
some (!decide (a0=a0))
theorem g118 (a0:Int):aK Td Ay [(.t 2)] Te a0=Xt a0:=by kernel_rfl
noncomputable def p118:=Xt
noncomputable def vW:mm:=fun x=>p118 x
theorem v118:aK Td Ay [(.t 2)] Te=vW:=funext fun x=>(g118 x)
theorem d118:DC Try.prog 118 Ay vW:=dD v118 t118 Xs
noncomputable def T91 (F118:mm):List FEnt:=[⟨118,Ay,F118⟩]
theorem t91:al Try.prog (T91 vW):=dK aj d118
noncomputable def c91:=bK Try.prog [] Try.f91 .n
theorem ok91:L.Fn Try.prog 91 17 [(.t 4)] (erase c91):=oA Try.func91
def qK:FSh:=⟨⟨j44,[]⟩,[y7,y7],0,⟨⟨fE,[]⟩,[.bool],[],0⟩,true⟩
noncomputable def q91 (F118:mm)(a0 a1:Int):Option Bool:=
(F118 a0).bind fun r1=>(
cond r1 (
(F118 a1).bind fun r2=>(
cond (!r2) (
some true) (
some (decide (a0 < a1))))) (
some (decide (a0 < a1))))
theorem g91 (F118:mm):aK (T91 F118) qK [(.t 4)] c91=u2 (q91 F118):=funext fun _=>by kernel_rfl
noncomputable def p91:=q91 vW
noncomputable def P91:bJ:=u2 p91
theorem v91:aK (T91 vW) qK [(.t 4)] c91=P91:=g91 vW
theorem Tf:DC Try.prog 91 qK P91:=dD v91 t91 ok91
noncomputable def JY (F91:bJ):List FEnt:=[⟨91,qK,F91⟩]
theorem t85:al Try.prog (JY P91):=dK aj Tf
def MF:LSh:=⟨[0,1,2,6,7],⟨S8,dg⟩,JT,1,[0]⟩
def MG:List XSh:=[⟨(.exit 2),[0,1,2,6],⟨⟨vQ,dg⟩,vP,[0],1⟩⟩]
def MH:LSh:=⟨[0,1,2,6],⟨vQ,dg⟩,vP,1,[0]⟩
def Az:List XSh:=[⟨(.exit 0),[],⟨⟨[],dg⟩,[y19],[0],1⟩⟩]
noncomputable def Xu:=bK Try.prog [] Try.f85 (.s .n (.b (.l MH Az (.s .n (.s (.b (.s .n (.b (.l MF MG .n)))) .n)))))
noncomputable def MI (T:List FEnt):=aD (xs:=MG) MF (bd T (sb [1,2,2,1,0,2,1,2,2] Xu))
noncomputable def l85_1 (T:List FEnt):=af (MI T)
noncomputable def F8 (F91:bJ)(a0 a1 a2 a3:Int)(a4:List Int):Option Y224:=
cond (decide (a0 < a3)) (
ai (aA a3 a4.length) (
ai (ah .i64 (a3-1)) (
ai (aA (a3-1) a4.length) (
(F91 ((ix a4 a3),(ix a4 (a3-1)))).bind fun r1=>(
cond r1 (
ai (ah .i64 (a3-1)) (
ai (ah .i64 (a3-1)) (
ai (aA (a3-1) a4.length) (
ai (aA a3 a4.length) (
ai (aA a3 a4.length) (
ai (aA (a3-1) (List.length (List.set a4 a3.toNat (ix a4 (a3-1))))) (
ai (ah .i64 (a3-1)) (
some (Sum.inl (a0,a1,a2,(a3-1),(List.set (List.set a4 a3.toNat (ix a4 (a3-1))) (Int.toNat (a3-1)) (ix a4 a3)))))))))))) (
some (Sum.inr (a0,a1,a2,a4)))))))) (
some (Sum.inr (a0,a1,a2,a4)))
theorem Xv (F91:bJ):MI (JY F91)=u5 (F8 F91):=funext fun _=>by kernel_rfl
noncomputable def MJ:=F8 P91
noncomputable def F9:KN:=af (u5 MJ)
theorem Xw:l85_1 (JY P91)=F9:=congrArg af (Xv P91)
noncomputable def MK (T:List FEnt):=aD (xs:=Az) MH (bd T (sb [1,2,2] Xu))
noncomputable def l85_0 (T:List FEnt):=af (MK T)
noncomputable def Ga (F91:bJ)(l85_1:KN)(a0 a1 a2:Int)(a3:List Int):Option Y225:=
cond (decide (a2 < a1)) (
(l85_1 (a0,a1,a2,a2,a3)).bind fun y2=>(
ai (ah .i64 (y2.2.2.1+1)) (
some (Sum.inl (y2.1,y2.2.1,(y2.2.2.1+1),y2.2.2.2))))) (
some (Sum.inr a3))
theorem Xx (F91:bJ):MK (JY F91)=u4 (Ga F91 (l85_1 (JY F91))):=funext fun _=>by kernel_rfl
noncomputable def ML:=Ga P91 F9
noncomputable def Gb:cJ:=af (u4 ML)
theorem Xy:l85_0 (JY P91)=Gb:=congrArg af ((Xx P91).trans (by rw[Xw] <;> rfl))
theorem ok85:L.Fn Try.prog 85 49 [] (erase Xu):=oA Try.func85
def JZ:FSh:=⟨⟨Ig,dg⟩,JU,1,⟨⟨pX,dg⟩,[y19],[0],1⟩,false⟩
noncomputable def q85 (F91:bJ)(l85_0:cJ)(a0 a1:Int)(a2:List Int):Option Y2:=
ai (ah .i64 (a0+1)) (
(l85_0 (a0,a1,(a0+1),a2)).bind fun y3=>(
some y3))
theorem g85 (F91:bJ):aK (JY F91) JZ [] Xu=u3 (q85 F91 (l85_0 (JY F91))):=funext fun _=>by kernel_rfl
noncomputable def p85:=q85 P91 Gb
noncomputable def rU:dY:=u3 p85
theorem v85:aK (JY P91) JZ [] Xu=rU:=(g85 P91).trans (by rw[Xy] <;> rfl)
theorem d85:DC Try.prog 85 JZ rU:=dD v85 t85 ok85
noncomputable def Cr (F91:bJ):List FEnt:=[⟨91,qK,F91⟩]
theorem t113:al Try.prog (Cr P91):=dK aj Tf
def Gc:LSh:=⟨[0,2,3,8],⟨vQ,dg⟩,vP,1,[0]⟩
def Gd:List XSh:=[⟨(.exit 0),[],⟨⟨[],dg⟩,[y19],[0],1⟩⟩,⟨.ret,[],⟨⟨[],dg⟩,[y19],[0],1⟩⟩]
noncomputable def J0:=bK Try.prog [] Try.f113 (.s .n (.b (.l Gc Gd .n)))
noncomputable def Ge (T:List FEnt):=aD (xs:=Gd) Gc (bd T (sb [1,2,2] J0))
noncomputable def l113_0 (T:List FEnt):=af (Ge T)
noncomputable def yq (F91:bJ)(a0 a1 a2:Int)(a3:List Int):Option (t7⊕KM):=
ai (ah .i64 (2*a2)) (
ai (ah .i64 ((2*a2)+1)) (
cond (decide (a0≤((2*a2)+1))) (
some (Sum.inr (Sum.inl a3))) (
ai (ah .i64 (((2*a2)+1)+1)) (
cond (decide ((((2*a2)+1)+1) < a0)) (
ai (ah .i64 (a1+((2*a2)+1))) (
ai (aA (a1+((2*a2)+1)) a3.length) (
ai (ah .i64 (a1+((2*a2)+1))) (
ai (ah .i64 ((a1+((2*a2)+1))+1)) (
ai (aA ((a1+((2*a2)+1))+1) a3.length) (
(F91 ((ix a3 (a1+((2*a2)+1))),(ix a3 ((a1+((2*a2)+1))+1)))).bind fun r1=>(
cond r1 (
ai (ah .i64 (((2*a2)+1)+1)) (
ai (ah .i64 (a1+a2)) (
ai (aA (a1+a2) a3.length) (
ai (ah .i64 (a1+(((2*a2)+1)+1))) (
ai (aA (a1+(((2*a2)+1)+1)) a3.length) (
(F91 ((ix a3 (a1+a2)),(ix a3 (a1+(((2*a2)+1)+1))))).bind fun r2=>(
cond (!r2) (
some (Sum.inr (Sum.inr a3))) (
ai (ah .i64 (a1+a2)) (
ai (ah .i64 (a1+(((2*a2)+1)+1))) (
ai (ah .i64 (a1+(((2*a2)+1)+1))) (
ai (aA (a1+(((2*a2)+1)+1)) a3.length) (
ai (ah .i64 (a1+a2)) (
ai (aA (a1+a2) a3.length) (
ai (aA (a1+a2) a3.length) (
ai (aA (a1+(((2*a2)+1)+1)) (List.length (List.set a3 (Int.toNat (a1+a2)) (ix a3 (a1+(((2*a2)+1)+1)))))) (
some (Sum.inl (a0,a1,(((2*a2)+1)+1),(List.set (List.set a3 (Int.toNat (a1+a2)) (ix a3 (a1+(((2*a2)+1)+1)))) (Int.toNat (a1+(((2*a2)+1)+1))) (ix a3 (a1+a2))))))))))))))))))))) (
ai (ah .i64 (a1+a2)) (
ai (aA (a1+a2) a3.length) (
ai (ah .i64 (a1+((2*a2)+1))) (
ai (aA (a1+((2*a2)+1)) a3.length) (
(F91 ((ix a3 (a1+a2)),(ix a3 (a1+((2*a2)+1))))).bind fun r3=>(
cond (!r3) (
some (Sum.inr (Sum.inr a3))) (
ai (ah .i64 (a1+a2)) (
ai (ah .i64 (a1+((2*a2)+1))) (
ai (ah .i64 (a1+((2*a2)+1))) (
ai (aA (a1+((2*a2)+1)) a3.length) (
ai (ah .i64 (a1+a2)) (
ai (aA (a1+a2) a3.length) (
ai (aA (a1+a2) a3.length) (
ai (aA (a1+((2*a2)+1)) (List.length (List.set a3 (Int.toNat (a1+a2)) (ix a3 (a1+((2*a2)+1)))))) (
some (Sum.inl (a0,a1,((2*a2)+1),(List.set (List.set a3 (Int.toNat (a1+a2)) (ix a3 (a1+((2*a2)+1)))) (Int.toNat (a1+((2*a2)+1))) (ix a3 (a1+a2))))))))))))))))))))))))))) (
ai (ah .i64 (a1+a2)) (
ai (aA (a1+a2) a3.length) (
ai (ah .i64 (a1+((2*a2)+1))) (
ai (aA (a1+((2*a2)+1)) a3.length) (
(F91 ((ix a3 (a1+a2)),(ix a3 (a1+((2*a2)+1))))).bind fun r4=>(
cond (!r4) (
some (Sum.inr (Sum.inr a3))) (
ai (ah .i64 (a1+a2)) (
ai (ah .i64 (a1+((2*a2)+1))) (
ai (ah .i64 (a1+((2*a2)+1))) (
ai (aA (a1+((2*a2)+1)) a3.length) (
ai (ah .i64 (a1+a2)) (
ai (aA (a1+a2) a3.length) (
ai (aA (a1+a2) a3.length) (
ai (aA (a1+((2*a2)+1)) (List.length (List.set a3 (Int.toNat (a1+a2)) (ix a3 (a1+((2*a2)+1)))))) (
some (Sum.inl (a0,a1,((2*a2)+1),(List.set (List.set a3 (Int.toNat (a1+a2)) (ix a3 (a1+((2*a2)+1)))) (Int.toNat (a1+((2*a2)+1))) (ix a3 (a1+a2))))))))))))))))))))))))
theorem Tg (F91:bJ):Ge (Cr F91)=u4 (yq F91):=funext fun _=>by kernel_rfl
noncomputable def Gf:=yq P91
noncomputable def yr:Y212:=af (u4 Gf)
theorem Th:l113_0 (Cr P91)=yr:=congrArg af (Tg P91)
theorem Xz:L.Fn Try.prog 113 76 [] (erase J0):=oA Try.func113
def AA:FSh:=⟨⟨vQ,dg⟩,vP,1,⟨⟨pX,dg⟩,[y19],[0],1⟩,false⟩
noncomputable def Ti (F91:bJ)(l113_0:Y212)(a0 a1 a2:Int)(a3:List Int):Option Y2:=
(l113_0 (a1,a2,a0,a3)).bind (fun y5=>Sum.elim (fun y6=>(
some y6)) (fun y7=>(
some y7)) y5)
theorem g113 (F91:bJ):aK (Cr F91) AA [] J0=u4 (Ti F91 (l113_0 (Cr F91))):=funext fun _=>by kernel_rfl
noncomputable def XA:=Ti P91 yr
noncomputable def lr:cJ:=u4 XA
theorem v113:aK (Cr P91) AA [] J0=lr:=(g113 P91).trans (by rw[Th] <;> rfl)
theorem d113:DC Try.prog 113 AA lr:=dD v113 t113 Xz
noncomputable def J1 (F113:cJ):List FEnt:=[⟨113,AA,F113⟩]
theorem t86:al Try.prog (J1 lr):=dK aj d113
def MM:LSh:=⟨[0,6,7,8,9],⟨S8,dg⟩,JT,1,[0]⟩
def MN:List XSh:=[⟨(.exit 0),[0,6,7,8],⟨⟨vQ,dg⟩,vP,[0],1⟩⟩]
def MO:LSh:=⟨[0,6,7,10],⟨vQ,dg⟩,vP,1,[0]⟩
def MP:List XSh:=[⟨(.exit 2),[],⟨⟨[],dg⟩,[y19],[0],1⟩⟩]
noncomputable def XB:=bK Try.prog [] Try.f86 (.s .n (.s .n (.s .n (.s (.s .n (.b (.l MM MN .n))) (.s .n (.b (.l MO MP .n)))))))
noncomputable def MQ (T:List FEnt):=aD (xs:=MN) MM (bd T (sb [1,1,1,0,1,2,2] XB))
noncomputable def l86_0 (T:List FEnt):=af (MQ T)
noncomputable def Gg (F113:cJ)(a0 a1 a2 a3:Int)(a4:List Int):Option Y224:=
cond (decide (0≤a3)) (
(F113 (a3,a2,a0,a4)).bind fun r1=>(
ai (ah .i64 (a3-1)) (
some (Sum.inl (a0,a1,a2,(a3-1),r1))))) (
some (Sum.inr (a0,a1,a2,a4)))
theorem XC (F113:cJ):MQ (J1 F113)=u5 (Gg F113):=funext fun _=>by kernel_rfl
noncomputable def MS:=Gg lr
noncomputable def Gh:KN:=af (u5 MS)
theorem XE:l86_0 (J1 lr)=Gh:=congrArg af (XC lr)
noncomputable def MT (T:List FEnt):=aD (xs:=MP) MO (bd T (sb [1,1,1,1,1,2,2] XB))
noncomputable def l86_1 (T:List FEnt):=af (MT T)
noncomputable def Gi (F113:cJ)(a0 a1 a2:Int)(a3:List Int):Option Y225:=
cond (decide (0≤a2)) (
ai (ah .i64 (a0+a2)) (
ai (ah .i64 (a0+a2)) (
ai (aA (a0+a2) a3.length) (
ai (aA a0 a3.length) (
ai (aA a0 a3.length) (
ai (aA (a0+a2) (List.length (List.set a3 a0.toNat (ix a3 (a0+a2))))) (
(F113 (a1,a2,a0,(List.set (List.set a3 a0.toNat (ix a3 (a0+a2))) (Int.toNat (a0+a2)) (ix a3 a0)))).bind fun r3=>(
ai (ah .i64 (a2-1)) (
some (Sum.inl (a0,a1,(a2-1),r3))))))))))) (
some (Sum.inr a3))
theorem XF (F113:cJ):MT (J1 F113)=u4 (Gi F113):=funext fun _=>by kernel_rfl
noncomputable def MU:=Gi lr
noncomputable def Gj:cJ:=af (u4 MU)
theorem XG:l86_1 (J1 lr)=Gj:=congrArg af (XF lr)
theorem ok86:L.Fn Try.prog 86 56 [] (erase XB):=oA Try.func86
def J2:FSh:=⟨⟨Ig,dg⟩,JU,1,⟨⟨pX,dg⟩,[y19],[0],1⟩,false⟩
noncomputable def q86 (F113:cJ)(l86_0:KN)(l86_1:cJ)(a0 a1:Int)(a2:List Int):Option Y2:=
ai (ah .i64 (a1-a0)) (
ai (ah .i64 ((a1-a0)-1)) (
ai (ah .i64 (Int.tdiv ((a1-a0)-1) 2)) (
(l86_0 (a0,0,(a1-a0),(Int.tdiv ((a1-a0)-1) 2),a2)).bind fun y2=>(
ai (ah .i64 (y2.2.2.1-1)) (
(l86_1 (y2.1,y2.2.1,(y2.2.2.1-1),y2.2.2.2)).bind fun y4=>(
some y4))))))
theorem g86 (F113:cJ):aK (J1 F113) J2 [] XB=u3 (q86 F113 (l86_0 (J1 F113)) (l86_1 (J1 F113))):=funext fun _=>by kernel_rfl
noncomputable def p86:=q86 lr Gh Gj
noncomputable def rV:dY:=u3 p86
theorem v86:aK (J1 lr) J2 [] XB=rV:=(g86 lr).trans (by rw[XE,XG] <;> rfl)
theorem d86:DC Try.prog 86 J2 rV:=dD v86 t86 ok86
noncomputable def Vq (F114:oc)(F115:G4):List FEnt:=[⟨114,vJ,F114⟩,⟨115,vK,F115⟩]
theorem t87:al Try.prog (Vq hX h9):=dK (dK aj WO) WM
def MV:LSh:=⟨[0,1,6,7,8,9],⟨j11,[(0,(.row 3 y7)),(1,(.boxT jb))]⟩,[y7,y7,jb,y7,y19,jb],2,[0,1]⟩
def MW:List XSh:=[⟨(.exit 0),[],⟨⟨[],[(0,(.row 3 y7)),(1,(.boxT jb))]⟩,[y19,jb],[0,1],2⟩⟩]
noncomputable def c87:=bK Try.prog [] Try.f87 (.s .n (.s .n (.s (.s .n (.s .n (.s .n (.b (.l MV MW .n))))) .n)))
noncomputable def MX (T:List FEnt):=aD (xs:=MW) MV (bd T (sb [1,1,0,1,1,1,2,2] c87))
noncomputable def l87_0 (T:List FEnt):=af (MX T)
noncomputable def AB (F114:oc)(F115:G4)(a0 a1 a2 a3:Int)(a4:List Int)(a5:Int):Option ((Int×Int×Int×Int×Y2×Int)⊕dE):=
ai (ah .i64 (Int.tdiv a1 4)) (
ai (ah .i64 ((Int.tdiv a1 4)*2)) (
ai (ah .i64 (a0+((Int.tdiv a1 4)*2))) (
ai (ah .i64 ((a0+((Int.tdiv a1 4)*2))+1)) (
cond (decide (a3≤((a0+((Int.tdiv a1 4)*2))+1))) (
(F115 a5).bind fun r2=>(
ai (ah .u64 (a2-1)) (
ai (ah .i64 (bu .u64 r2.1 (a2-1))) (
cond (decide (a1≤(bu .u64 r2.1 (a2-1)))) (
ai (ah .i64 ((bu .u64 r2.1 (a2-1))-a1)) (
ai (ah .i64 (a0+((bu .u64 r2.1 (a2-1))-a1))) (
ai (ah .i64 (a0+((bu .u64 r2.1 (a2-1))-a1))) (
ai (aA (a0+((bu .u64 r2.1 (a2-1))-a1)) a4.length) (
ai (aA a3 a4.length) (
ai (aA a3 a4.length) (
ai (aA (a0+((bu .u64 r2.1 (a2-1))-a1)) (List.length (List.set a4 a3.toNat (ix a4 (a0+((bu .u64 r2.1 (a2-1))-a1)))))) (
ai (ah .i64 (a3+1)) (
some (Sum.inl (a0,a1,a2,(a3+1),(List.set (List.set a4 a3.toNat (ix a4 (a0+((bu .u64 r2.1 (a2-1))-a1)))) (Int.toNat (a0+((bu .u64 r2.1 (a2-1))-a1))) (ix a4 a3)),r2.2))))))))))) (
ai (ah .i64 (a0+(bu .u64 r2.1 (a2-1)))) (
ai (ah .i64 (a0+(bu .u64 r2.1 (a2-1)))) (
ai (aA (a0+(bu .u64 r2.1 (a2-1))) a4.length) (
ai (aA a3 a4.length) (
ai (aA a3 a4.length) (
ai (aA (a0+(bu .u64 r2.1 (a2-1))) (List.length (List.set a4 a3.toNat (ix a4 (a0+(bu .u64 r2.1 (a2-1))))))) (
ai (ah .i64 (a3+1)) (
some (Sum.inl (a0,a1,a2,(a3+1),(List.set (List.set a4 a3.toNat (ix a4 (a0+(bu .u64 r2.1 (a2-1))))) (Int.toNat (a0+(bu .u64 r2.1 (a2-1)))) (ix a4 a3)),r2.2)))))))))))))) (
some (Sum.inr (a4,a5)))))))
theorem XH (F114:oc)(F115:G4):MX (Vq F114 F115)=u6 (AB F114 F115):=funext fun _=>by kernel_rfl
noncomputable def Gk:=AB hX h9
noncomputable def Gl:Y213:=af (u6 Gk)
theorem XI:l87_0 (Vq hX h9)=Gl:=congrArg af (XH hX h9)
theorem ok87:L.Fn Try.prog 87 65 [] (erase c87):=oA Try.func87
def J3:FSh:=⟨⟨Ig,dg⟩,JU,1,⟨⟨pX,dg⟩,[y19],[0],1⟩,false⟩
noncomputable def q87 (F114:oc)(F115:G4)(l87_0:Y213)(a0 a1:Int)(a2:List Int):Option Y2:=
ai (ah .i64 (a1-a0)) (
cond (decide (8≤(a1-a0))) (
ai (ah .u64 (a1-a0)) (
(F114 (a1-a0)).bind fun r1=>(
ai (ah .i64 (Int.tdiv (a1-a0) 4)) (
ai (ah .i64 ((Int.tdiv (a1-a0) 4)*2)) (
ai (ah .i64 (a0+((Int.tdiv (a1-a0) 4)*2))) (
ai (ah .i64 ((a0+((Int.tdiv (a1-a0) 4)*2))-1)) (
(l87_0 (a0,(a1-a0),r1,((a0+((Int.tdiv (a1-a0) 4)*2))-1),a2,(a1-a0))).bind fun y3=>(
some y3.1)))))))) (
some a2))
theorem g87 (F114:oc)(F115:G4):aK (Vq F114 F115) J3 [] c87=u3 (q87 F114 F115 (l87_0 (Vq F114 F115))):=funext fun _=>by kernel_rfl
noncomputable def p87:=q87 hX h9 Gl
noncomputable def qL:dY:=u3 p87
theorem v87:aK (Vq hX h9) J3 [] c87=qL:=(g87 hX h9).trans (by rw[XI] <;> rfl)
theorem d87:DC Try.prog 87 J3 qL:=dD v87 t87 ok87
noncomputable def Tj (F91:bJ):List FEnt:=[⟨91,qK,F91⟩]
theorem t125:al Try.prog (Tj P91):=dK aj Tf
noncomputable def Tk:=bK Try.prog [] Try.f125 .n
theorem XJ:L.Fn Try.prog 125 28 [(.t 8),(.t 9)] (erase Tk):=oA Try.func125
def AD:FSh:=⟨⟨[(.slc 0),(.v y7),(.v y7),(.ptr 1 0)],Vn⟩,[y7,y7,y19,y7],2,⟨⟨LU,Vn⟩,[y7,y7,y19,y7],[0,1],2⟩,false⟩
noncomputable def Tl (F91:bJ)(a0 a1:Int)(a2:List Int)(a3:Int):Option Y198:=
ai (aA a1 a2.length) (
ai (aA a0 a2.length) (
(F91 ((ix a2 a1),(ix a2 a0))).bind fun r1=>(
cond r1 (
ai (ah .i64 (a3+1)) (
some (a1,a0,a2,(a3+1)))) (
some (a0,a1,a2,a3)))))
theorem g125 (F91:bJ):aK (Tj F91) AD [(.t 8),(.t 9)] Tk=u4 (Tl F91):=funext fun _=>by kernel_rfl
noncomputable def XK:=Tl P91
noncomputable def qM:KO:=u4 XK
theorem v125:aK (Tj P91) AD [(.t 8),(.t 9)] Tk=qM:=g125 P91
theorem d125:DC Try.prog 125 AD qM:=dD v125 t125 XJ
noncomputable def Tm (F125:KO):List FEnt:=[⟨125,AD,F125⟩]
theorem t117:al Try.prog (Tm qM):=dK aj d125
noncomputable def Tn:=bK Try.prog [] Try.f117 .n
theorem XL:L.Fn Try.prog 117 36 [(.t 10)] (erase Tn):=oA Try.func117
def vX:FSh:=⟨⟨[(.slc 0),(.v y7),(.v y7),(.v y7),(.ptr 1 0)],Vn⟩,[y7,y7,y7,y19,y7],2,⟨⟨lZ,Vn⟩,[y7,y19,y7],[0,1],2⟩,false⟩
noncomputable def To (F125:KO)(a0 a1 a2:Int)(a3:List Int)(a4:Int):Option G5:=
(F125 (a0,a1,a3,a4)).bind fun r1=>(
(F125 (r1.2.1,a2,r1.2.2.1,r1.2.2.2)).bind fun r2=>(
(F125 (r1.1,r2.1,r2.2.2.1,r2.2.2.2)).bind fun r3=>(
some (r3.2.1,r3.2.2.1,r3.2.2.2))))
theorem g117 (F125:KO):aK (Tm F125) vX [(.t 10)] Tn=u5 (To F125):=funext fun _=>by kernel_rfl
noncomputable def XM:=To qM
noncomputable def nk:yB:=u5 XM
theorem v117:aK (Tm qM) vX [(.t 10)] Tn=nk:=g117 qM
theorem XN:DC Try.prog 117 vX nk:=dD v117 t117 XL
noncomputable def Tp (F117:yB):List FEnt:=[⟨117,vX,F117⟩]
theorem t116:al Try.prog (Tp nk):=dK aj XN
noncomputable def Tq:=bK Try.prog [] Try.f116 .n
theorem XO:L.Fn Try.prog 116 15 [(.t 6)] (erase Tq):=oA Try.func116
def AE:FSh:=⟨⟨[(.slc 0),(.v y7),(.ptr 1 0)],Vn⟩,[y7,y19,y7],2,⟨⟨lZ,Vn⟩,[y7,y19,y7],[0,1],2⟩,false⟩
noncomputable def Tr (F117:yB)(a0:Int)(a1:List Int)(a2:Int):Option G5:=
ai (ah .i64 (a0-1)) (
ai (ah .i64 (a0+1)) (
(F117 ((a0-1),a0,(a0+1),a1,a2)).bind fun r1=>(
some (r1.1,r1.2.1,r1.2.2))))
theorem g116 (F117:yB):aK (Tp F117) AE [(.t 6)] Tq=u3 (Tr F117):=funext fun _=>by kernel_rfl
noncomputable def XP:=Tr nk
noncomputable def tS:KP:=u3 XP
theorem v116:aK (Tp nk) AE [(.t 6)] Tq=tS:=g116 nk
theorem d116:DC Try.prog 116 AE tS:=dD v116 t116 XO
noncomputable def T88 (F116:KP)(F117:yB):List FEnt:=[⟨116,AE,F116⟩,⟨117,vX,F117⟩]
theorem t88:al Try.prog (T88 tS nk):=dK (dK aj XN) d116
noncomputable def c88:=bK Try.prog [] Try.f88 .n
theorem ok88:L.Fn Try.prog 88 57 [(.t 6),(.t 7)] (erase c88):=oA Try.func88
def J4:FSh:=⟨⟨Ig,dg⟩,JU,1,⟨⟨LU,dg⟩,JU,[0],1⟩,false⟩
noncomputable def q88 (F116:KP)(F117:yB)(a0 a1:Int)(a2:List Int):Option G6:=
ai (ah .i64 (a1-a0)) (
ai (ah .i64 (Int.tdiv (a1-a0) 4)) (
ai (ah .i64 ((Int.tdiv (a1-a0) 4)*1)) (
ai (ah .i64 (a0+((Int.tdiv (a1-a0) 4)*1))) (
ai (ah .i64 (Int.tdiv (a1-a0) 4)) (
ai (ah .i64 ((Int.tdiv (a1-a0) 4)*2)) (
ai (ah .i64 (a0+((Int.tdiv (a1-a0) 4)*2))) (
ai (ah .i64 (Int.tdiv (a1-a0) 4)) (
ai (ah .i64 ((Int.tdiv (a1-a0) 4)*3)) (
ai (ah .i64 (a0+((Int.tdiv (a1-a0) 4)*3))) (
cond (decide (8≤(a1-a0))) (
cond (decide (50≤(a1-a0))) (
(F116 ((a0+((Int.tdiv (a1-a0) 4)*1)),a2,0)).bind fun r1=>(
(F116 ((a0+((Int.tdiv (a1-a0) 4)*2)),r1.2.1,r1.2.2)).bind fun r2=>(
(F116 ((a0+((Int.tdiv (a1-a0) 4)*3)),r2.2.1,r2.2.2)).bind fun r3=>(
(F117 (r1.1,r2.1,r3.1,r3.2.1,r3.2.2)).bind fun r4=>(
cond (decide (r4.2.2=0)) (
some (r4.1,1,r4.2.1)) (
cond (decide (r4.2.2=12)) (
some (r4.1,2,r4.2.1)) (
some (r4.1,0,r4.2.1)))))))) (
(F117 ((a0+((Int.tdiv (a1-a0) 4)*1)),(a0+((Int.tdiv (a1-a0) 4)*2)),(a0+((Int.tdiv (a1-a0) 4)*3)),a2,0)).bind fun r5=>(
cond (decide (r5.2.2=0)) (
some (r5.1,1,r5.2.1)) (
cond (decide (r5.2.2=12)) (
some (r5.1,2,r5.2.1)) (
some (r5.1,0,r5.2.1)))))) (
cond (decide ((0:Int)=0)) (
some ((a0+((Int.tdiv (a1-a0) 4)*2)),1,a2)) (
cond (decide ((0:Int)=12)) (
some ((a0+((Int.tdiv (a1-a0) 4)*2)),2,a2)) (
some ((a0+((Int.tdiv (a1-a0) 4)*2)),0,a2))))))))))))))
theorem g88 (F116:KP)(F117:yB):aK (T88 F116 F117) J4 [(.t 6),(.t 7)] c88=u3 (q88 F116 F117):=funext fun _=>by kernel_rfl
noncomputable def p88:=q88 tS nk
noncomputable def rW:oj:=u3 p88
theorem v88:aK (T88 tS nk) J4 [(.t 6),(.t 7)] c88=rW:=g88 tS nk
theorem d88:DC Try.prog 88 J4 rW:=dD v88 t88 ok88
noncomputable def Vr:List FEnt:=[]
theorem t89:al Try.prog Vr:=aj
def MY:LSh:=⟨[0,6,7],⟨Ig,dg⟩,JU,1,[0]⟩
noncomputable def c89:=bK Try.prog [] Try.f89 (.s .n (.s .n (.b (.l MY Az .n))))
noncomputable def MZ (T:List FEnt):=aD (xs:=Az) MY (bd T (sb [1,1,2,2] c89))
noncomputable def l89_0 (T:List FEnt):=af (MZ T)
noncomputable def Gm (a0 a1:Int)(a2:List Int):Option (G6⊕Y2):=
cond (decide (a0 < a1)) (
ai (aA a1 a2.length) (
ai (aA a0 a2.length) (
ai (aA a0 a2.length) (
ai (aA a1 (List.length (List.set a2 a0.toNat (ix a2 a1)))) (
ai (ah .i64 (a0+1)) (
ai (ah .i64 (a1-1)) (
some (Sum.inl ((a0+1),(a1-1),(List.set (List.set a2 a0.toNat (ix a2 a1)) a1.toNat (ix a2 a0))))))))))) (
some (Sum.inr a2))
theorem XQ:MZ Vr=u3 Gm:=funext fun _=>by kernel_rfl
noncomputable def M0:=Gm
noncomputable def Gn:dY:=af (u3 M0)
theorem XR:l89_0 Vr=Gn:=congrArg af XQ
theorem ok89:L.Fn Try.prog 89 32 [] (erase c89):=oA Try.func89
def J5:FSh:=⟨⟨Ig,dg⟩,JU,1,⟨⟨pX,dg⟩,[y19],[0],1⟩,false⟩
noncomputable def q89 (l89_0:dY)(a0 a1:Int)(a2:List Int):Option Y2:=
ai (ah .i64 (a1-1)) (
(l89_0 (a0,(a1-1),a2)).bind fun y1=>(
some y1))
theorem g89:aK Vr J5 [] c89=u3 (q89 (l89_0 Vr)):=funext fun _=>by kernel_rfl
noncomputable def p89:=q89 Gn
noncomputable def rX:dY:=u3 p89
theorem v89:aK Vr J5 [] c89=rX:=g89.trans (by rw[XR] <;> rfl)
theorem d89:DC Try.prog 89 J5 rX:=dD v89 t89 ok89
noncomputable def ur (F91:bJ):List FEnt:=[⟨91,qK,F91⟩]
theorem t90:al Try.prog (ur P91):=dK aj Tf
def rY:LSh:=⟨[0,1,2,7,8],⟨S8,dg⟩,JT,1,[0]⟩
def M1:List XSh:=[⟨(.exit 2),[0,1,2,7,8],⟨⟨S8,dg⟩,JT,[0],1⟩⟩]
def M2:LSh:=⟨[0,1,2,7,8,9],⟨j12,dg⟩,[y7,y7,y7,y7,y7,y19],1,[0]⟩
def M3:List XSh:=[⟨(.exit 4),[0,1,2,7,8],⟨⟨S8,dg⟩,JT,[0],1⟩⟩]
def M4:List XSh:=[⟨.normal,[0,1,2,7,8],⟨⟨S8,dg⟩,JT,[0],1⟩⟩]
def M5:LSh:=⟨[0,1,2,7,8,10],⟨j12,dg⟩,[y7,y7,y7,y7,y7,y19],1,[0]⟩
def M6:List XSh:=[⟨(.exit 6),[0,1,2,7,8],⟨⟨S8,dg⟩,JT,[0],1⟩⟩]
def M7:List XSh:=[⟨.ret,[6],⟨⟨fE,dg⟩,[.bool,y19],[0],1⟩⟩,⟨(.exit 0),[],⟨⟨[],dg⟩,[y19],[0],1⟩⟩]
noncomputable def M8:=bK Try.prog [] Try.f90 (.s .n (.s .n (.s (.s .n (.b (.l rY M7 (.s .n (.s (.b (.s (.b (.l rY M1 .n)) (.s .n (.s .n (.s .n (.s (.o rY M4 (.s .n (.s (.s .n (.b (.l M2 M3 .n))) .n))) (.s .n (.s (.s .n (.b (.l M5 M6 .n))) .n)))))))) .n))))) .n)))
noncomputable def M9 (T:List FEnt):=aD (xs:=M1) rY (bd T (sb [1,1,0,1,2,2,1,0,2,0,2,2] M8))
noncomputable def l90_1 (T:List FEnt):=af (M9 T)
noncomputable def Gp (F91:bJ)(a0 a1 a2 a3:Int)(a4:List Int):Option (t9⊕t9):=
cond (decide (a2 < a1)) (
ai (aA a2 a4.length) (
ai (ah .i64 (a2-1)) (
ai (aA (a2-1) a4.length) (
(F91 ((ix a4 a2),(ix a4 (a2-1)))).bind fun r1=>(
cond (!r1) (
ai (ah .i64 (a2+1)) (
some (Sum.inl (a0,a1,(a2+1),a3,a4)))) (
some (Sum.inr (a0,a1,a2,a3,a4)))))))) (
some (Sum.inr (a0,a1,a2,a3,a4)))
theorem XS (F91:bJ):M9 (ur F91)=u5 (Gp F91):=funext fun _=>by kernel_rfl
noncomputable def Na:=Gp P91
noncomputable def Gq:TG:=af (u5 Na)
theorem XT:l90_1 (ur P91)=Gq:=congrArg af (XS P91)
noncomputable def Nb (T:List FEnt):=aD (xs:=M3) M2 (bd T (sb [1,1,0,1,2,2,1,0,2,1,1,1,1,0,2,1,0,1,2,2] M8))
noncomputable def l90_3 (T:List FEnt):=af (Nb T)
noncomputable def Gr (F91:bJ)(a0 a1 a2 a3 a4:Int)(a5:List Int):Option Y230:=
cond (decide (1≤a4)) (
ai (aA a4 a5.length) (
ai (ah .i64 (a4-1)) (
ai (aA (a4-1) a5.length) (
(F91 ((ix a5 a4),(ix a5 (a4-1)))).bind fun r3=>(
cond (!r3) (
some (Sum.inr (a0,a1,a2,a3,a5))) (
ai (ah .i64 (a4-1)) (
ai (ah .i64 (a4-1)) (
ai (aA (a4-1) a5.length) (
ai (aA a4 a5.length) (
ai (aA a4 a5.length) (
ai (aA (a4-1) (List.length (List.set a5 a4.toNat (ix a5 (a4-1))))) (
ai (ah .i64 (a4-1)) (
some (Sum.inl (a0,a1,a2,a3,(a4-1),(List.set (List.set a5 a4.toNat (ix a5 (a4-1))) (Int.toNat (a4-1)) (ix a5 a4))))))))))))))))) (
some (Sum.inr (a0,a1,a2,a3,a5)))
theorem XU (F91:bJ):Nb (ur F91)=u6 (Gr F91):=funext fun _=>by kernel_rfl
noncomputable def Nc:=Gr P91
noncomputable def Gs:KQ:=af (u6 Nc)
theorem XV:l90_3 (ur P91)=Gs:=congrArg af (XU P91)
noncomputable def l90_2 (T:List FEnt):=fp (xs:=M4) rY (bd T (sb [1,1,0,1,2,2,1,0,2,1,1,1,1,0,2] M8))
noncomputable def Gt (F91:bJ)(l90_3:KQ)(a0 a1 a2 a3:Int)(a4:List Int):Option t9:=
ai (ah .i64 (a2-a0)) (
cond (decide (2≤(a2-a0))) (
ai (ah .i64 (a2-1)) (
(l90_3 (a0,a1,a2,a3,(a2-1),a4)).bind fun y4=>(
some (y4.1,y4.2.1,y4.2.2.1,y4.2.2.2.1,y4.2.2.2.2)))) (
some (a0,a1,a2,a3,a4)))
theorem XW (F91:bJ):l90_2 (ur F91)=u5 (Gt F91 (l90_3 (ur F91))):=funext fun _=>by kernel_rfl
noncomputable def Nd:=Gt P91 Gs
noncomputable def AF:TG:=fun x=>Nd x.1 x.2.1 x.2.2.1 x.2.2.2.1 x.2.2.2.2
theorem XX:l90_2 (ur P91)=AF:=(XW P91).trans (by rw[XV] <;> rfl)
noncomputable def Nf (T:List FEnt):=aD (xs:=M6) M5 (bd T (sb [1,1,0,1,2,2,1,0,2,1,1,1,1,1,1,0,1,2,2] M8))
noncomputable def l90_4 (T:List FEnt):=af (Nf T)
noncomputable def Gu (F91:bJ)(a0 a1 a2 a3 a4:Int)(a5:List Int):Option Y230:=
cond (decide (a4 < a1)) (
ai (aA a4 a5.length) (
ai (ah .i64 (a4-1)) (
ai (aA (a4-1) a5.length) (
(F91 ((ix a5 a4),(ix a5 (a4-1)))).bind fun r6=>(
cond (!r6) (
some (Sum.inr (a0,a1,a2,a3,a5))) (
ai (ah .i64 (a4-1)) (
ai (ah .i64 (a4-1)) (
ai (aA (a4-1) a5.length) (
ai (aA a4 a5.length) (
ai (aA a4 a5.length) (
ai (aA (a4-1) (List.length (List.set a5 a4.toNat (ix a5 (a4-1))))) (
ai (ah .i64 (a4+1)) (
some (Sum.inl (a0,a1,a2,a3,(a4+1),(List.set (List.set a5 a4.toNat (ix a5 (a4-1))) (Int.toNat (a4-1)) (ix a5 a4))))))))))))))))) (
some (Sum.inr (a0,a1,a2,a3,a5)))
theorem XY (F91:bJ):Nf (ur F91)=u6 (Gu F91):=funext fun _=>by kernel_rfl
noncomputable def Ng:=Gu P91
noncomputable def Gv:KQ:=af (u6 Ng)
theorem XZ:l90_4 (ur P91)=Gv:=congrArg af (XY P91)
noncomputable def Nh (T:List FEnt):=aD (xs:=M7) rY (bd T (sb [1,1,0,1,2,2] M8))
noncomputable def l90_0 (T:List FEnt):=af (Nh T)
noncomputable def Gw (F91:bJ)(l90_1 l90_2:TG)(l90_4:KQ)(a0 a1 a2 a3:Int)(a4:List Int):Option (t9⊕Y231):=
cond (decide (a3 < 5)) (
(l90_1 (a0,a1,a2,a3,a4)).bind fun y2=>(
cond (decide (y2.2.2.1=y2.2.1)) (
some (Sum.inr (Sum.inl (true,y2.2.2.2.2)))) (
ai (ah .i64 (y2.2.1-y2.1)) (
cond (decide ((y2.2.1-y2.1) < 50)) (
some (Sum.inr (Sum.inl (false,y2.2.2.2.2)))) (
ai (ah .i64 (y2.2.2.1-1)) (
ai (ah .i64 (y2.2.2.1-1)) (
ai (aA (y2.2.2.1-1) y2.2.2.2.2.length) (
ai (aA y2.2.2.1 y2.2.2.2.2.length) (
ai (aA y2.2.2.1 y2.2.2.2.2.length) (
ai (aA (y2.2.2.1-1) (List.length (List.set y2.2.2.2.2 y2.2.2.1.toNat (ix y2.2.2.2.2 (y2.2.2.1-1))))) (
(l90_2 (y2.1,y2.2.1,y2.2.2.1,y2.2.2.2.1,(List.set (List.set y2.2.2.2.2 y2.2.2.1.toNat (ix y2.2.2.2.2 (y2.2.2.1-1))) (Int.toNat (y2.2.2.1-1)) (ix y2.2.2.2.2 y2.2.2.1)))).bind fun y5=>(
ai (ah .i64 (y5.2.1-y5.2.2.1)) (
cond (decide (2≤(y5.2.1-y5.2.2.1))) (
ai (ah .i64 (y5.2.2.1+1)) (
(l90_4 (y5.1,y5.2.1,y5.2.2.1,y5.2.2.2.1,(y5.2.2.1+1),y5.2.2.2.2)).bind fun y7=>(
ai (ah .i64 (y7.2.2.2.1+1)) (
some (Sum.inl (y7.1,y7.2.1,y7.2.2.1,(y7.2.2.2.1+1),y7.2.2.2.2)))))) (
ai (ah .i64 (y5.2.2.2.1+1)) (
some (Sum.inl (y5.1,y5.2.1,y5.2.2.1,(y5.2.2.2.1+1),y5.2.2.2.2))))))))))))))))) (
some (Sum.inr (Sum.inr a4)))
theorem X0 (F91:bJ):Nh (ur F91)=u5 (Gw F91 (l90_1 (ur F91)) (l90_2 (ur F91)) (l90_4 (ur F91))):=funext fun _=>by kernel_rfl
noncomputable def Ni:=Gw P91 Gq AF Gv
noncomputable def Gx:Y245:=af (u5 Ni)
theorem X1:l90_0 (ur P91)=Gx:=congrArg af ((X0 P91).trans (by rw[XT,XX,XZ] <;> rfl))
theorem ok90:L.Fn Try.prog 90 133 [(.t 6)] (erase M8):=oA Try.func90
def J6:FSh:=⟨⟨Ig,dg⟩,JU,1,⟨⟨fE,dg⟩,[.bool,y19],[0],1⟩,false⟩
noncomputable def q90 (F91:bJ)(l90_0:Y245)(a0 a1:Int)(a2:List Int):Option TF:=
ai (ah .i64 (a0+1)) (
(l90_0 (a0,a1,(a0+1),0,a2)).bind (fun y8=>Sum.elim (fun y9=>(
some (y9.1,y9.2))) (fun y10=>(
some (false,y10))) y8))
theorem g90 (F91:bJ):aK (ur F91) J6 [(.t 6)] M8=u3 (q90 F91 (l90_0 (ur F91))):=funext fun _=>by kernel_rfl
noncomputable def p90:=q90 P91 Gx
noncomputable def rZ:ol:=u3 p90
theorem v90:aK (ur P91) J6 [(.t 6)] M8=rZ:=(g90 P91).trans (by rw[X1] <;> rfl)
theorem d90:DC Try.prog 90 J6 rZ:=dD v90 t90 ok90
noncomputable def CW (F91:bJ):List FEnt:=[⟨91,qK,F91⟩]
theorem t92:al Try.prog (CW P91):=dK aj Tf
def sa:LSh:=⟨[0,1,9,10],⟨vQ,dg⟩,vP,1,[0]⟩
def Nj:List XSh:=[⟨(.exit 2),[0,1,9,10],⟨⟨vQ,dg⟩,vP,[0],1⟩⟩]
def Nk:List XSh:=[⟨(.exit 4),[0,1,9,10],⟨⟨vQ,dg⟩,vP,[0],1⟩⟩]
def Nl:List XSh:=[⟨(.exit 0),[9],⟨⟨lZ,dg⟩,[y7,y19],[0],1⟩⟩]
noncomputable def Vs:=bK Try.prog [] Try.f92 (.s .n (.s .n (.s .n (.s (.b (.l sa Nl (.b (.s (.b (.l sa Nj .n)) (.s (.b (.l sa Nk .n)) .n))))) .n))))
noncomputable def Nn (T:List FEnt):=aD (xs:=Nj) sa (bd T (sb [1,1,1,0,2,2,2,0,2,2] Vs))
noncomputable def l92_1 (T:List FEnt):=af (Nn T)
noncomputable def Gy (F91:bJ)(a0 a1 a2:Int)(a3:List Int):Option CC:=
cond (decide (a1≤a2)) (
ai (aA a0 a3.length) (
ai (aA a1 a3.length) (
(F91 ((ix a3 a0),(ix a3 a1))).bind fun r1=>(
cond (!r1) (
ai (ah .i64 (a1+1)) (
some (Sum.inl (a0,(a1+1),a2,a3)))) (
some (Sum.inr (a0,a1,a2,a3))))))) (
some (Sum.inr (a0,a1,a2,a3)))
theorem X2 (F91:bJ):Nn (CW F91)=u4 (Gy F91):=funext fun _=>by kernel_rfl
noncomputable def No:=Gy P91
noncomputable def Gz:ua:=af (u4 No)
theorem X3:l92_1 (CW P91)=Gz:=congrArg af (X2 P91)
noncomputable def Np (T:List FEnt):=aD (xs:=Nk) sa (bd T (sb [1,1,1,0,2,2,2,1,0,2,2] Vs))
noncomputable def l92_2 (T:List FEnt):=af (Np T)
noncomputable def GA (F91:bJ)(a0 a1 a2:Int)(a3:List Int):Option CC:=
cond (decide (a1≤a2)) (
ai (aA a0 a3.length) (
ai (aA a2 a3.length) (
(F91 ((ix a3 a0),(ix a3 a2))).bind fun r3=>(
cond r3 (
ai (ah .i64 (a2-1)) (
some (Sum.inl (a0,a1,(a2-1),a3)))) (
some (Sum.inr (a0,a1,a2,a3))))))) (
some (Sum.inr (a0,a1,a2,a3)))
theorem X4 (F91:bJ):Np (CW F91)=u4 (GA F91):=funext fun _=>by kernel_rfl
noncomputable def Nq:=GA P91
noncomputable def GB:ua:=af (u4 Nq)
theorem X5:l92_2 (CW P91)=GB:=congrArg af (X4 P91)
noncomputable def Nr (T:List FEnt):=aD (xs:=Nl) sa (bd T (sb [1,1,1,0,2,2] Vs))
noncomputable def l92_0 (T:List FEnt):=af (Nr T)
noncomputable def GC (F91:bJ)(l92_1 l92_2:ua)(a0 a1 a2:Int)(a3:List Int):Option (t7⊕Ii):=
(l92_1 (a0,a1,a2,a3)).bind fun y2=>(
(l92_2 (y2.1,y2.2.1,y2.2.2.1,y2.2.2.2)).bind fun y4=>(
cond (decide (y4.2.2.1 < y4.2.1)) (
some (Sum.inr (y4.2.1,y4.2.2.2))) (
ai (aA y4.2.2.1 y4.2.2.2.length) (
ai (aA y4.2.1 y4.2.2.2.length) (
ai (aA y4.2.1 y4.2.2.2.length) (
ai (aA y4.2.2.1 (List.length (List.set y4.2.2.2 y4.2.1.toNat (ix y4.2.2.2 y4.2.2.1)))) (
ai (ah .i64 (y4.2.1+1)) (
ai (ah .i64 (y4.2.2.1-1)) (
some (Sum.inl (y4.1,(y4.2.1+1),(y4.2.2.1-1),(List.set (List.set y4.2.2.2 y4.2.1.toNat (ix y4.2.2.2 y4.2.2.1)) y4.2.2.1.toNat (ix y4.2.2.2 y4.2.1)))))))))))))
theorem X6 (F91:bJ):Nr (CW F91)=u4 (GC F91 (l92_1 (CW F91)) (l92_2 (CW F91))):=funext fun _=>by kernel_rfl
noncomputable def Ns:=GC P91 Gz GB
noncomputable def GD:mb:=af (u4 Ns)
theorem X7:l92_0 (CW P91)=GD:=congrArg af ((X6 P91).trans (by rw[X3,X5] <;> rfl))
theorem ok92:L.Fn Try.prog 92 84 [(.t 8)] (erase Vs):=oA Try.func92
def J7:FSh:=⟨⟨vQ,dg⟩,vP,1,⟨⟨lZ,dg⟩,[y7,y19],[0],1⟩,false⟩
noncomputable def q92 (F91:bJ)(l92_0:mb)(a0 a1 a2:Int)(a3:List Int):Option Ii:=
ai (aA a2 a3.length) (
ai (aA a0 a3.length) (
ai (aA a0 a3.length) (
ai (aA a2 (List.length (List.set a3 a0.toNat (ix a3 a2)))) (
ai (ah .i64 (a0+1)) (
ai (ah .i64 (a1-1)) (
(l92_0 (a0,(a0+1),(a1-1),(List.set (List.set a3 a0.toNat (ix a3 a2)) a2.toNat (ix a3 a0)))).bind fun y5=>(
some (y5.1,y5.2))))))))
theorem g92 (F91:bJ):aK (CW F91) J7 [(.t 8)] Vs=u4 (q92 F91 (l92_0 (CW F91))):=funext fun _=>by kernel_rfl
noncomputable def p92:=q92 P91 GD
noncomputable def sc:mb:=u4 p92
theorem v92:aK (CW P91) J7 [(.t 8)] Vs=sc:=(g92 P91).trans (by rw[X7] <;> rfl)
theorem d92:DC Try.prog 92 J7 sc:=dD v92 t92 ok92
end Go.Proofs.Ytdkaijofmigmbaa.D
