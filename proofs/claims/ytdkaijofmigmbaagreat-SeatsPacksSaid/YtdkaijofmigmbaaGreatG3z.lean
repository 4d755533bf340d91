import Derived.Test.YtdkaijofmigmbaaGreatG2z
import Derived.Test.YtdkaijofmigmbaaGreatProg
set_option linter.unusedVariables false
set_option maxRecDepth 100000
namespace Go.Proofs.YtdkaijofmigmbaaGreat.D
open Go Go.Proofs Go.Proofs.YtdkaijofmigmbaaGreat.L
def Bs:List Ty:=[y19,y19]
def Lz:List Ty:=[y7,y7,y7,y19,y19]
def z6:List Ty:=[y7,y7,y7,.bool,.bool,y7,y19,y19]
def j9:List RSh:=[(.st cp),(.v cR),(.v y7),(.v y7),(.v y7)]
def LA:List RSh:=[(.slc 0),(.v y7),(.v y7),(.v y7)]
def j5:List RSh:=[(.slc 0),(.v y7),(.v y7),(.v y7),(.v .bool),(.v .bool),(.v y7)]
def G1:List RSh:=[(.ptr 1 0)]
def j6:List RSh:=[(.slc 0),(.v y7),(.v y7),(.fn 19 [(.ptr 1 0)]),(.v y7)]
def j3:List RSh:=[(.slc 0),(.v y7),(.v y7),(.v y7),(.fn 19 [(.ptr 1 0)]),(.v .bool),(.v .bool),(.v y7)]
def k5:List (Nat×OSh):=[(0,(.box [(.v y19),(.v y7),(.slr 2),(.mp 3),(.slc 4)])),(1,(.pool eJ)),(2,(.rows 22 3 y7)),(3,(.pmap 1)),(4,(.row 3 y7))]
def k1:List (Nat×OSh):=[(0,(.box [(.v y19),(.v y7),(.slr 2),(.mp 3),(.slc 4)])),(1,(.row 56 eJ)),(2,(.rows 22 3 y7)),(3,(.pmap 5)),(4,(.row 3 y7)),(5,(.pool eJ))]
def sg:List (Nat×OSh):=[(0,(.row 3 y7)),(1,(.boxT y19))]
noncomputable def nB:List FEnt:=[]
theorem G2:am Tryz.prog nB:=aa
def si:LSh:=⟨[0,1,2,11,12],⟨j8,k5⟩,z5,5,[0,1,2,3,4]⟩
def sj:List XSh:=[⟨(.exit 0),[1,2],⟨⟨[(.pel 1),(.v y7)],k5⟩,z7,[0,1,2,3,4],5⟩⟩]
noncomputable def sm:=cz Tryz.prog [] Tryz.f81 (.s (.s .n (.b (.l si sj .n))) .n)
noncomputable def so (T:List FEnt):=aU (xs:=sj) si (bT T (sb [0,1,2,2] sm))
noncomputable def l81v1_0 (T:List FEnt):=af (so T)
noncomputable def sr (a0 a1 a2 a3:Int)(a4:List Int)(a5:Int)(a6:List Y3)(a7:List Y2)(a8:List Int):Option Ip:=
cond (decide (a3 < a2)) (
aq (bv ((pd a6 a0).2.1) a7.length) (
aq (au .i64 ((pd a6 a0).2.2.1+a3)) (
aq (bv ((pd a6 a0).2.2.1+a3) (List.length (ix a7 ((pd a6 a0).2.1)))) (
aq (au .i64 (a3+1)) (
some (Sum.inl (a0,a1,a2,(a3+1),a4,a5,a6,(List.set a7 (Int.toNat ((pd a6 a0).2.1)) (List.set (ix a7 ((pd a6 a0).2.1)) (Int.toNat ((pd a6 a0).2.2.1+a3)) (-1))),a8))))))) (
some (Sum.inr (a0,a1,a4,a5,a6,a7,a8)))
theorem ym:so nB=u9 sr:=funext fun _=>by kernel_rfl
noncomputable def yn:=sr
noncomputable def ss:yX:=af (u9 yn)
theorem yo:l81v1_0 nB=ss:=congrArg af ym
theorem Ej:L.Fn Tryz.prog 81 48 [] (erase sm):=oA Tryz.func81
def oB:FSh:=⟨⟨[(.ptr 0 0),(.pel 1),(.v y7)],k5⟩,z7,5,⟨⟨qe,k5⟩,[y19,y7,y53,y32,y19],[0,1,2,3,4],5⟩,false⟩
noncomputable def Bt (l81v1_0:yX)(a0 a1:Int)(a2:List Int)(a3:Int)(a4:List Y3)(a5:List Y2)(a6:List Int):Option MP:=
(l81v1_0 (a0,a1,(pd a4 a0).2.2.2.1,0,a2,a3,a4,a5,a6)).bind fun y1=>(
some (y1.2.2.1,y1.2.2.2.1,(MS (MQ (Fy y1.2.2.2.2.1 y1.1 y1.2.1) y1.1 (-1)) y1.1 (-1)),y1.2.2.2.2.2.1,y1.2.2.2.2.2.2))
theorem g81v1:aO nB oB [] sm=u7 (Bt (l81v1_0 nB)):=funext fun _=>by kernel_rfl
noncomputable def G3:=Bt ss
noncomputable def nC:mH:=u7 G3
theorem G4:aO nB oB [] sm=nC:=g81v1.trans (by rw[yo] <;> rfl)
theorem G5:DC Tryz.prog 81 oB nC:=dD G4 G2 Ej
noncomputable def LB (F27:kR)(F82:yY)(F81v1:mH):List FEnt:=[⟨27,tT,F27⟩,⟨82,yl,F82⟩,⟨81,oB,F81v1⟩]
theorem QU:am Tryz.prog (LB pO Fh nC):=dK (dK (dK aa G5) QT) Lx
noncomputable def LC:=cz Tryz.prog [] Tryz.f60 (.s .n (.s .n (.b (.s .n (.s .n (.s .n (.s .n (.s .n (.s (.r [.a 7 false y7,.a 8 false y7]) .n)))))))))
theorem LD:L.Fn Tryz.prog 60 70 [] (erase LC):=oA Tryz.func60
def yp:FSh:=⟨⟨[(.ptr 0 0),(.st eJ)],k4⟩,[eJ,y19,y7,y32,y19,y53],5,⟨⟨qe,k4⟩,z9,[0,1,2],5⟩,false⟩
noncomputable def NI (F27:kR)(F82:yY)(F81v1:mH)(a0:Y1)(a1:List Int)(a2:Int)(a3:List Y2)(a4:List Int)(a5:List Y3):Option CI:=
(F27 (a0.2.2.2.1,a1,a2,a3,a4,a5)).bind fun r1=>(
cond (decide (a0.2.2.1=1)) (
(F82 (a0.2.2.2.1,a0.2.2.2.2,a0.2.1,r1.2.1,r1.2.2.1,r1.2.2.2.1,r1.2.2.2.2.1,r1.2.2.2.2.2)).bind fun r2=>(
some (r2.1,r2.2.1,r2.2.2.1,r2.2.2.2.1,r2.2.2.2.2))) (
cond (decide (a0.2.2.1=2)) (
cond (decide ((pd r1.2.2.2.2.2 r1.1).1=2)) (
some (r1.2.1,r1.2.2.1,r1.2.2.2.1,r1.2.2.2.2.1,(Fy r1.2.2.2.2.2 r1.1 3))) (
cond (decide (a0.2.2.1=2)) (
aq (bI 8 (List.length r1.2.2.2.2.1+List.length ([a0.2.2.2.1]:List Int))) (
some (r1.2.1,r1.2.2.1,r1.2.2.2.1,(r1.2.2.2.2.1++([a0.2.2.2.1]:List Int)),r1.2.2.2.2.2))) (
cond (decide ((pd r1.2.2.2.2.2 r1.1).1=2)) (
(F81v1 (r1.1,5,r1.2.1,r1.2.2.1,r1.2.2.2.2.2,r1.2.2.2.1,r1.2.2.2.2.1)).bind fun r3=>(
some (r3.1,r3.2.1,r3.2.2.2.1,r3.2.2.2.2,r3.2.2.1))) (
cond (decide ((pd r1.2.2.2.2.2 r1.1).1=3)) (
(F81v1 (r1.1,5,r1.2.1,r1.2.2.1,r1.2.2.2.2.2,r1.2.2.2.1,r1.2.2.2.2.1)).bind fun r4=>(
some (r4.1,r4.2.1,r4.2.2.2.1,r4.2.2.2.2,r4.2.2.1))) (
some (r1.2.1,r1.2.2.1,r1.2.2.2.1,r1.2.2.2.2.1,r1.2.2.2.2.2)))))) (
cond (decide (a0.2.2.1=2)) (
aq (bI 8 (List.length r1.2.2.2.2.1+List.length ([a0.2.2.2.1]:List Int))) (
some (r1.2.1,r1.2.2.1,r1.2.2.2.1,(r1.2.2.2.2.1++([a0.2.2.2.1]:List Int)),r1.2.2.2.2.2))) (
cond (decide ((pd r1.2.2.2.2.2 r1.1).1=2)) (
(F81v1 (r1.1,5,r1.2.1,r1.2.2.1,r1.2.2.2.2.2,r1.2.2.2.1,r1.2.2.2.2.1)).bind fun r5=>(
some (r5.1,r5.2.1,r5.2.2.2.1,r5.2.2.2.2,r5.2.2.1))) (
cond (decide ((pd r1.2.2.2.2.2 r1.1).1=3)) (
(F81v1 (r1.1,5,r1.2.1,r1.2.2.1,r1.2.2.2.2.2,r1.2.2.2.1,r1.2.2.2.2.1)).bind fun r6=>(
some (r6.1,r6.2.1,r6.2.2.2.1,r6.2.2.2.2,r6.2.2.1))) (
some (r1.2.1,r1.2.2.1,r1.2.2.2.1,r1.2.2.2.2.1,r1.2.2.2.2.2)))))))
theorem QV (F27:kR)(F82:yY)(F81v1:mH):aO (LB F27 F82 F81v1) yp [] LC=u6 (NI F27 F82 F81v1):=funext fun _=>by kernel_rfl
noncomputable def QW:=NI pO Fh nC
noncomputable def yq:ue:=u6 QW
theorem QX:aO (LB pO Fh nC) yp [] LC=yq:=QV pO Fh nC
theorem QY:DC Tryz.prog 60 yp yq:=dD QX QU LD
noncomputable def Fi (F53:tY)(F55:oG)(F54:oG)(F58:oG)(F59:tZ)(F60:ue):List FEnt:=[⟨53,xW,F53⟩,⟨55,xY,F55⟩,⟨54,yd,F54⟩,⟨58,yg,F58⟩,⟨59,yj,F59⟩,⟨60,yp,F60⟩]
theorem QZ:am Tryz.prog (Fi xX xZ ye yh yk yq):=dK (dK (dK (dK (dK (dK aa QY) QK) QB) Qx) PO) PK
def Bu:LSh:=⟨[2,7,17,18,19],⟨[(.v y7),(.ptr 0 0),(.slc 1),(.v y7),(.v y7)],k1⟩,[y7,y7,y7,y19,y7,cR,y32,y19,y53],6,[0,1,2,3]⟩
def Bv:List XSh:=[⟨(.exit 0),[2,7],⟨⟨[(.v y7),(.ptr 0 0)],k1⟩,[y7,y19,y7,cR,y32,y19,y53],[0,1,2,3],6⟩⟩]
noncomputable def JM:=cz Tryz.prog [] Tryz.f38 (.s .n (.s .n (.s .n (.s (.s .n (.b (.l Bu Bv .n))) .n))))
noncomputable def Bw (T:List FEnt):=aU (xs:=Bv) Bu (bT T (sb [1,1,1,0,1,2,2] JM))
noncomputable def l38_0 (T:List FEnt):=af (Bw T)
noncomputable def Bx (F53:tY)(F55 F54 F58:oG)(F59:tZ)(F60:ue)(a0 a1 a2:Int)(a3:List Int)(a4:Int)(a5:List Y1)(a6:List Y2)(a7:List Int)(a8:List Y3):Option ((Int×Int×Int×Y2×Int×Y8×Y9×Y2×gi)⊕IC):=
cond (decide (a2 < a1)) (
aq (bv a2 a5.length) (
cond (decide (a0 < (ix a5 a2).2.1)) (
some (Sum.inr (a0,a3,a4,a5,a6,a7,a8))) (
(F59 ((ix a5 a2).2.1,a3,a4,a6,a7,a8)).bind fun r5=>(
(F60 ((ix a5 a2),r5.1,r5.2.1,r5.2.2.1,r5.2.2.2.1,r5.2.2.2.2)).bind fun r6=>(
aq (au .i64 (a2+1)) (
some (Sum.inl (a0,a1,(a2+1),r6.1,r6.2.1,a5,r6.2.2.1,r6.2.2.2.1,r6.2.2.2.2)))))))) (
some (Sum.inr (a0,a3,a4,a5,a6,a7,a8)))
theorem G6 (F53:tY)(F55 F54 F58:oG)(F59:tZ)(F60:ue):Bw (Fi F53 F55 F54 F58 F59 F60)=u9 (Bx F53 F55 F54 F58 F59 F60):=funext fun _=>by kernel_rfl
noncomputable def G7:=Bx xX xZ ye yh yk yq
noncomputable def By:IL:=af (u9 G7)
theorem G8:l38_0 (Fi xX xZ ye yh yk yq)=By:=congrArg af (G6 xX xZ ye yh yk yq)
theorem LE:L.Fn Tryz.prog 38 39 [(.t 6)] (erase JM):=oA Tryz.func38
def vU:FSh:=⟨⟨[(.st cp),(.v cR),(.v y7)],[]⟩,[cp,cR,y7],0,⟨⟨zK,k4⟩,z9,[],5⟩,false⟩
noncomputable def NJ (F53:tY)(F55 F54 F58:oG)(F59:tZ)(F60:ue)(l38_0:IL)(a0:Y2×Int)(a1:List Y1)(a2:Int):Option CI:=
(F53 a0).bind fun r1=>(
(F55 a1).bind fun r2=>(
(F54 r2).bind fun r3=>(
(F58 r3).bind fun r4=>(
(l38_0 (a2,(↑r4.length:Int),0,r1.1,r1.2.1,r4,r1.2.2.1,([]:List Int),r1.2.2.2)).bind fun y7=>(
(F59 (y7.1,y7.2.1,y7.2.2.1,y7.2.2.2.2.1,y7.2.2.2.2.2.1,y7.2.2.2.2.2.2)).bind fun r8=>(
some (r8.1,r8.2.1,r8.2.2.1,r8.2.2.2.1,r8.2.2.2.2)))))))
theorem Q0 (F53:tY)(F55 F54 F58:oG)(F59:tZ)(F60:ue):aO (Fi F53 F55 F54 F58 F59 F60) vU [(.t 6)] JM=u3 (NJ F53 F55 F54 F58 F59 F60 (l38_0 (Fi F53 F55 F54 F58 F59 F60))):=funext fun _=>by kernel_rfl
noncomputable def Q1:=NJ xX xZ ye yh yk yq By
noncomputable def wt:qY:=u3 Q1
theorem Q2:aO (Fi xX xZ ye yh yk yq) vU [(.t 6)] JM=wt:=(Q0 xX xZ ye yh yk yq).trans (by rw[G8] <;> rfl)
theorem NK:DC Tryz.prog 38 vU wt:=dD Q2 QZ LE
noncomputable def LF (F37:Eo)(F17:Y5)(F38:qY):List FEnt:=[⟨37,vT,F37⟩,⟨17,mF,F17⟩,⟨38,vU,F38⟩]
theorem Q3:am Tryz.prog (LF ws P17 wt):=dK (dK (dK aa NK) Ef) No
noncomputable def LG:=cz Tryz.prog [] Tryz.f26 .n
theorem LH:L.Fn Tryz.prog 26 36 [(.t 10),(.t 11)] (erase LG):=oA Tryz.func26
def tU:FSh:=⟨⟨j9,[]⟩,[cp,cR,y7,y7,y7],0,⟨⟨[(.tup [.nilp,(.v y7)])],[]⟩,[y7],[],0⟩,true⟩
noncomputable def NL (F37:Eo)(F17:Y5)(F38:qY)(a0:Y2×Int)(a1:List Y1)(a2 a3 a4:Int):Option Int:=
(F37 (a0,a1)).bind fun r1=>(
cond (!decide (r1=0)) (
some r1) (
(F17 (a2,0,9999)).bind fun r2=>(
cond (!r2) (
some 1) (
(F17 (a3,0,99)).bind fun r3=>(
cond (!r3) (
some 1) (
(F17 (a4,1,12)).bind fun r4=>(
cond (!r4) (
some 1) (
(F38 (a0,a1,a2)).bind fun r5=>(
none)))))))))
theorem Q4 (F37:Eo)(F17:Y5)(F38:qY):aO (LF F37 F17 F38) tU [(.t 10),(.t 11)] LG=u5 (NL F37 F17 F38):=funext fun _=>by kernel_rfl
noncomputable def Q5:=NL ws P17 wt
noncomputable def su:mI:=u5 Q5
theorem Q6:aO (LF ws P17 wt) tU [(.t 10),(.t 11)] LG=su:=Q4 ws P17 wt
theorem LI:DC Tryz.prog 26 tU su:=dD Q6 Q3 LH
noncomputable def vV (F37:Eo)(F17:Y5)(F38:qY):List FEnt:=[⟨37,vT,F37⟩,⟨17,mF,F17⟩,⟨38,vU,F38⟩]
theorem G9:am Tryz.prog (vV ws P17 wt):=dK (dK (dK aa NK) Ef) No
noncomputable def vW:=cz Tryz.prog [] Tryz.f26 .n
theorem Ek:L.Fn Tryz.prog 26 36 [(.t 10),(.t 11)] (erase vW):=oA Tryz.func26
def kj:FSh:=⟨⟨j9,[]⟩,[cp,cR,y7,y7,y7],0,⟨⟨[(.tup E3)],k4⟩,z8,[],5⟩,false⟩
noncomputable def Bz (F37:Eo)(F17:Y5)(F38:qY)(a0:Y2×Int)(a1:List Y1)(a2 a3 a4:Int):Option ux:=
(F37 (a0,a1)).bind fun r1=>(
cond (!decide (r1=0)) (
none) (
(F17 (a2,0,9999)).bind fun r2=>(
cond (!r2) (
none) (
(F17 (a3,0,99)).bind fun r3=>(
cond (!r3) (
none) (
(F17 (a4,1,12)).bind fun r4=>(
cond (!r4) (
none) (
(F38 (a0,a1,a2)).bind fun r5=>(
some (0,r5.1,r5.2.1,r5.2.2.1,r5.2.2.2.1,r5.2.2.2.2))))))))))
theorem Ha (F37:Eo)(F17:Y5)(F38:qY):aO (vV F37 F17 F38) kj [(.t 10),(.t 11)] vW=u5 (Bz F37 F17 F38):=funext fun _=>by kernel_rfl
noncomputable def Hb:=Bz ws P17 wt
noncomputable def eU:mJ:=u5 Hb
theorem Hc:aO (vV ws P17 wt) kj [(.t 10),(.t 11)] vW=eU:=Ha ws P17 wt
theorem vX:DC Tryz.prog 26 kj eU:=dD Hc G9 Ek
noncomputable def LJ (F26:mI)(F26v1:mJ)(F27:kR):List FEnt:=[⟨26,tU,F26⟩,⟨26,kj,F26v1⟩,⟨27,tT,F27⟩]
theorem Q7:am Tryz.prog (LJ su eU pO):=dK (dK (dK aa Lx) vX) LI
noncomputable def LK:=cz Tryz.prog [] Tryz.f10 .n
theorem LL:L.Fn Tryz.prog 10 30 [(.cell 8 true 4),(.t 9)] (erase LK):=oA Tryz.func10
def yr:FSh:=⟨⟨[(.st cp),(.v cR),(.v y7),(.v y7)],[]⟩,[cp,cR,y7,y7],0,⟨⟨[(.tup [(.st ms),(.v y7)])],[]⟩,[ms,y7],[],0⟩,true⟩
noncomputable def NM (F26:mI)(F26v1:mJ)(F27:kR)(a0:Y2×Int)(a1:List Y1)(a2 a3:Int):Option Iz:=
FK (F26 (a0,a1,a2,a3,1)) (fun r1=>(
cond (!decide (r1=0)) (
some ((0,(0,(0,0))),r1)) (
none))) (
(F26v1 (a0,a1,a2,a3,1)).bind fun r2=>(
cond (!decide (r2.1=0)) (
some ((0,(0,(0,0))),r2.1)) (
(F27 (a3,r2.2.1,r2.2.2.1,r2.2.2.2.1,r2.2.2.2.2.1,r2.2.2.2.2.2)).bind fun r3=>(
some (((pd r3.2.2.2.2.2 r3.1).1,((pd r3.2.2.2.2.2 r3.1).2.1,((pd r3.2.2.2.2.2 r3.1).2.2.1,(pd r3.2.2.2.2.2 r3.1).2.2.2.1))),0)))))
theorem g10 (F26:mI)(F26v1:mJ)(F27:kR):aO (LJ F26 F26v1 F27) yr [(.cell 8 true 4),(.t 9)] LK=u4 (NM F26 F26v1 F27):=funext fun _=>by kernel_rfl
noncomputable def Q8:=NM su eU pO
noncomputable def P10:za:=u4 Q8
theorem Q9:aO (LJ su eU pO) yr [(.cell 8 true 4),(.t 9)] LK=P10:=g10 su eU pO
theorem Ra:DC Tryz.prog 10 yr P10:=dD Q9 Q7 LL
noncomputable def LM (F26:mI)(F26v1:mJ)(F28:pS):List FEnt:=[⟨26,tU,F26⟩,⟨26,kj,F26v1⟩,⟨28,sh28,F28⟩]
theorem Rb:am Tryz.prog (LM su eU uf):=dK (dK (dK aa OA) vX) LI
noncomputable def LN:=cz Tryz.prog [] Tryz.f11 .n
theorem LO:L.Fn Tryz.prog 11 37 [(.t 8),(.t 9),(.t 10)] (erase LN):=oA Tryz.func11
def yt:FSh:=⟨⟨[(.st cp),(.v cR),(.v y7),(.v y7)],[]⟩,[cp,cR,y7,y7],0,⟨⟨[(.tup Ku)],[]⟩,[y7,y7,y7],[],0⟩,true⟩
noncomputable def NN (F26:mI)(F26v1:mJ)(F28:pS)(a0:Y2×Int)(a1:List Y1)(a2 a3:Int):Option Iu:=
FK (F26 (a0,a1,a2,0,a3)) (fun r1=>(
cond (!decide (r1=0)) (
some (0,0,r1)) (
none))) (
(F26v1 (a0,a1,a2,0,a3)).bind fun r2=>(
cond (!decide (r2.1=0)) (
some (0,0,r2.1)) (
(F28 (a3,r2.2.1,r2.2.2.1,r2.2.2.2.1,r2.2.2.2.2.1,r2.2.2.2.2.2)).bind fun r3=>(
cond (!r3.2.1) (
some (0,0,3)) (
some (r3.1.2.1,r3.1.2.2.1,0))))))
theorem Rc (F26:mI)(F26v1:mJ)(F28:pS):aO (LM F26 F26v1 F28) yt [(.t 8),(.t 9),(.t 10)] LN=u4 (NN F26 F26v1 F28):=funext fun _=>by kernel_rfl
noncomputable def Rd:=NN su eU uf
noncomputable def P11:zb:=u4 Rd
theorem Re:aO (LM su eU uf) yt [(.t 8),(.t 9),(.t 10)] LN=P11:=Rc su eU uf
theorem Rf:DC Tryz.prog 11 yt P11:=dD Re Rb LO
noncomputable def LP:List FEnt:=[]
theorem Rh:am Tryz.prog LP:=aa
noncomputable def LQ:=cz Tryz.prog [] Tryz.f86 .n
theorem LR:L.Fn Tryz.prog 86 6 [(.t 2)] (erase LQ):=oA Tryz.func86
def yu:FSh:=⟨⟨pN,[]⟩,[y7],0,⟨⟨kH,[]⟩,[.bool],[],0⟩,true⟩
noncomputable def NO (a0:Int):Option Bool:=
some (!decide (a0=a0))
theorem g86 (a0:Int):aO LP yu [(.t 2)] LQ a0=NO a0:=by kernel_rfl
noncomputable def Ri:=NO
noncomputable def Fj:qf:=fun x=>Ri x
theorem Rj:aO LP yu [(.t 2)] LQ=Fj:=funext fun x=>(g86 x)
theorem Rk:DC Tryz.prog 86 yu Fj:=dD Rj Rh LR
noncomputable def LS (F86:qf):List FEnt:=[⟨86,yu,F86⟩]
theorem Rl:am Tryz.prog (LS Fj):=dK aa Rk
noncomputable def LT:=cz Tryz.prog [] Tryz.f69 .n
theorem LU:L.Fn Tryz.prog 69 17 [(.t 4)] (erase LT):=oA Tryz.func69
def yv:FSh:=⟨⟨[(.v y7),(.v y7)],[]⟩,[y7,y7],0,⟨⟨kH,[]⟩,[.bool],[],0⟩,true⟩
noncomputable def NP (F86:qf)(a0 a1:Int):Option Bool:=
(F86 a0).bind fun r1=>(
cond r1 (
(F86 a1).bind fun r2=>(
cond (!r2) (
some true) (
some (decide (a0 < a1))))) (
some (decide (a0 < a1))))
theorem Rm (F86:qf):aO (LS F86) yv [(.t 4)] LT=u2 (NP F86):=funext fun _=>by kernel_rfl
noncomputable def Rn:=NP Fj
noncomputable def uu:pT:=u2 Rn
theorem Ro:aO (LS Fj) yv [(.t 4)] LT=uu:=Rm Fj
theorem Rp:DC Tryz.prog 69 yv uu:=dD Ro Rl LU
noncomputable def yw (F69:pT):List FEnt:=[⟨69,yv,F69⟩]
theorem Rq:am Tryz.prog (yw uu):=dK aa Rp
def BA:LSh:=⟨[0,1,2,6,7],⟨[(.slc 0),(.v y7),(.v y7),(.v y7),(.v y7)],iU⟩,[y7,y7,y7,y7,y19],1,[0]⟩
def BB:List XSh:=[⟨(.exit 2),[0,1,2,6],⟨⟨LA,iU⟩,[y7,y7,y7,y19],[0],1⟩⟩]
def BC:LSh:=⟨[0,1,2,6],⟨LA,iU⟩,[y7,y7,y7,y19],1,[0]⟩
def BD:List XSh:=[⟨(.exit 0),[],⟨⟨[],iU⟩,[y19],[0],1⟩⟩]
noncomputable def Hd:=cz Tryz.prog [] Tryz.f63 (.s .n (.b (.l BC BD (.s .n (.s (.b (.s .n (.b (.l BA BB .n)))) .n)))))
noncomputable def BE (T:List FEnt):=aU (xs:=BB) BA (bT T (sb [1,2,2,1,0,2,1,2,2] Hd))
noncomputable def l63_1 (T:List FEnt):=af (BE T)
noncomputable def BF (F69:pT)(a0 a1 a2 a3:Int)(a4:List Int):Option (IA⊕Er):=
cond (decide (a0 < a3)) (
aq (bv a3 a4.length) (
aq (au .i64 (a3-1)) (
aq (bv (a3-1) a4.length) (
(F69 ((ix a4 a3),(ix a4 (a3-1)))).bind fun r1=>(
cond r1 (
aq (au .i64 (a3-1)) (
aq (au .i64 (a3-1)) (
aq (bv (a3-1) a4.length) (
aq (bv a3 a4.length) (
aq (bv a3 a4.length) (
aq (bv (a3-1) (List.length (List.set a4 a3.toNat (ix a4 (a3-1))))) (
aq (au .i64 (a3-1)) (
some (Sum.inl (a0,a1,a2,(a3-1),(List.set (List.set a4 a3.toNat (ix a4 (a3-1))) (Int.toNat (a3-1)) (ix a4 a3)))))))))))) (
some (Sum.inr (a0,a1,a2,a4)))))))) (
some (Sum.inr (a0,a1,a2,a4)))
theorem He (F69:pT):BE (yw F69)=u5 (BF F69):=funext fun _=>by kernel_rfl
noncomputable def Hf:=BF uu
noncomputable def BG:ID:=af (u5 Hf)
theorem Hg:l63_1 (yw uu)=BG:=congrArg af (He uu)
noncomputable def BH (T:List FEnt):=aU (xs:=BD) BC (bT T (sb [1,2,2] Hd))
noncomputable def l63_0 (T:List FEnt):=af (BH T)
noncomputable def BI (F69:pT)(l63_1:ID)(a0 a1 a2:Int)(a3:List Int):Option (Er⊕Y2):=
cond (decide (a2 < a1)) (
(l63_1 (a0,a1,a2,a2,a3)).bind fun y2=>(
aq (au .i64 (y2.2.2.1+1)) (
some (Sum.inl (y2.1,y2.2.1,(y2.2.2.1+1),y2.2.2.2))))) (
some (Sum.inr a3))
theorem Hi (F69:pT):BH (yw F69)=u4 (BI F69 (l63_1 (yw F69))):=funext fun _=>by kernel_rfl
noncomputable def Hj:=BI uu BG
noncomputable def BJ:ua:=af (u4 Hj)
theorem Hk:l63_0 (yw uu)=BJ:=congrArg af ((Hi uu).trans (by rw[Hg] <;> rfl))
theorem LV:L.Fn Tryz.prog 63 49 [] (erase Hd):=oA Tryz.func63
def yx:FSh:=⟨⟨[(.slc 0),(.v y7),(.v y7)],iU⟩,[y7,y7,y19],1,⟨⟨qe,iU⟩,[y19],[0],1⟩,false⟩
noncomputable def NQ (F69:pT)(l63_0:ua)(a0 a1:Int)(a2:List Int):Option Y2:=
aq (au .i64 (a0+1)) (
(l63_0 (a0,a1,(a0+1),a2)).bind fun y3=>(
some y3))
theorem Rr (F69:pT):aO (yw F69) yx [] Hd=u3 (NQ F69 (l63_0 (yw F69))):=funext fun _=>by kernel_rfl
noncomputable def Rs:=NQ uu BJ
noncomputable def uv:pU:=u3 Rs
theorem Rt:aO (yw uu) yx [] Hd=uv:=(Rr uu).trans (by rw[Hk] <;> rfl)
theorem Ru:DC Tryz.prog 63 yx uv:=dD Rt Rq LV
noncomputable def yz (F63:pU):List FEnt:=[⟨63,yx,F63⟩]
theorem Rv:am Tryz.prog (yz uv):=dK aa Ru
def BK:LSh:=⟨[0,1,2,3,8,9,10],⟨j5,iU⟩,[y7,y7,y7,.bool,.bool,y7,y19],1,[0]⟩
def BL:List XSh:=[⟨.normal,[0,1,2,3,8,9,10],⟨⟨j5,iU⟩,[y7,y7,y7,.bool,.bool,y7,y19],[0],1⟩⟩]
def BM:LSh:=⟨[0,1,2,3,8,9],⟨[(.slc 0),(.v y7),(.v y7),(.v y7),(.v .bool),(.v .bool)],iU⟩,[y7,y7,y7,.bool,.bool,y19],1,[0]⟩
def BN:List XSh:=[⟨.ret,[],⟨⟨[],iU⟩,[y19],[0],1⟩⟩]
noncomputable def Hl:=cz Tryz.prog [] Tryz.f40 (.s .n (.s .n (.b (.l BM BN (.b (.s .n (.s .n (.s .n (.s (.o BK BL .n) .n)))))))))
noncomputable def l40_1 (T:List FEnt):=kD (xs:=BL) BK (bT T (sb [1,1,2,2,2,1,1,1,0,2] Hl))
noncomputable def BO (F63:pU)(a0 a1 a2:Int)(a3 a4:Bool)(a5:Int)(a6:List Int):Option Iw:=
cond (!a3) (
none) (
some (a0,a1,a2,a3,a4,a5,a6))
theorem Hm (F63:pU):l40_1 (yz F63)=u7 (BO F63):=funext fun _=>by kernel_rfl
noncomputable def Hn:=BO uv
noncomputable def BP:IE:=fun x=>Hn x.1 x.2.1 x.2.2.1 x.2.2.2.1 x.2.2.2.2.1 x.2.2.2.2.2.1 x.2.2.2.2.2.2
theorem Ho:l40_1 (yz uv)=BP:=Hm uv
noncomputable def BQ (T:List FEnt):=aU (xs:=BN) BM (bT T (sb [1,1,2,2] Hl))
noncomputable def l40_0 (T:List FEnt):=af (BQ T)
noncomputable def BR (F63:pU)(l40_1:IE)(a0 a1 a2:Int)(a3 a4:Bool)(a5:List Int):Option ((Int×Int×Int×Bool×Bool×Y2)⊕Y2):=
aq (au .i64 (a1-a0)) (
cond (decide ((a1-a0)≤12)) (
(F63 (a0,a1,a5)).bind fun r1=>(
some (Sum.inr r1))) (
cond (decide (a2=0)) (
none) (
(l40_1 (a0,a1,a2,a3,a4,(a1-a0),a5)).bind fun y2=>(
none))))
theorem Hp (F63:pU):BQ (yz F63)=u6 (BR F63 (l40_1 (yz F63))):=funext fun _=>by kernel_rfl
noncomputable def Hq:=BR uv BP
noncomputable def BS:Iv:=af (u6 Hq)
theorem Hr:l40_0 (yz uv)=BS:=congrArg af ((Hp uv).trans (by rw[Ho] <;> rfl))
theorem LW:L.Fn Tryz.prog 40 134 [] (erase Hl):=oA Tryz.func40
def yA:FSh:=⟨⟨LA,iU⟩,[y7,y7,y7,y19],1,⟨⟨qe,iU⟩,[y19],[0],1⟩,false⟩
noncomputable def NR (F63:pU)(l40_0:Iv)(a0 a1 a2:Int)(a3:List Int):Option Y2:=
(l40_0 (a0,a1,a2,true,true,a3)).bind fun y3=>(
some y3)
theorem Rw (F63:pU):aO (yz F63) yA [] Hl=u4 (NR F63 (l40_0 (yz F63))):=funext fun _=>by kernel_rfl
noncomputable def Rx:=NR uv BS
noncomputable def P40:ua:=u4 Rx
theorem Ry:aO (yz uv) yA [] Hl=P40:=(Rw uv).trans (by rw[Hr] <;> rfl)
theorem Rz:DC Tryz.prog 40 yA P40:=dD Ry Rv LW
noncomputable def LX (F34:sQ)(F40:ua):List FEnt:=[⟨34,tS,F34⟩,⟨40,yA,F40⟩]
theorem RA:am Tryz.prog (LX P34 P40):=dK (dK aa Rz) Ld
noncomputable def LY:=cz Tryz.prog [] Tryz.f29 .n
theorem LZ:L.Fn Tryz.prog 29 11 [] (erase LY):=oA Tryz.func29
def yB:FSh:=⟨⟨sf,iU⟩,[y19],1,⟨⟨qe,iU⟩,[y19],[0],1⟩,false⟩
noncomputable def NT (F34:sQ)(F40:ua)(a0:List Int):Option Y2:=
aq (au .u64 (↑a0.length:Int)) (
(F34 (↑a0.length:Int)).bind fun r1=>(
(F40 (0,(↑a0.length:Int),r1,a0)).bind fun r2=>(
some r2)))
theorem g29 (F34:sQ)(F40:ua)(a0:List Int):aO (LX F34 F40) yB [] LY a0=NT F34 F40 a0:=by kernel_rfl
noncomputable def RB:=NT P34 P40
noncomputable def Fk:kS:=fun x=>RB x
theorem RE:aO (LX P34 P40) yB [] LY=Fk:=funext fun x=>(g29 P34 P40 x)
theorem RF:DC Tryz.prog 29 yB Fk:=dD RE RA LZ
noncomputable def yC:List FEnt:=[]
theorem RG:am Tryz.prog yC:=aa
def BT:LSh:=⟨[0,3,4,5],⟨[(.slc 0),(.v y7),(.slo 0 1),(.v y7)],iU⟩,[y7,y7,y7,y7,y19],1,[0]⟩
def BU:List XSh:=[⟨(.exit 2),[0,3],⟨⟨Ei,iU⟩,[y7,y19],[0],1⟩⟩]
def BV:LSh:=⟨[0,3],⟨Ei,iU⟩,[y7,y19],1,[]⟩
def BW:List XSh:=[⟨.ret,[2],⟨⟨sf,iU⟩,[y19],[],1⟩⟩,⟨(.exit 0),[0],⟨⟨sf,iU⟩,[y19],[],1⟩⟩]
noncomputable def Hs:=cz Tryz.prog [(7,{ch:=[0,0,1,0] }),(14,{ch:=[0,0,1,0] }),(15,{ch:=[0,0,2,0] })] Tryz.f30 (.s .n (.s .n (.s (.s .n (.b (.l BV BW (.s .n (.s (.b (.s .n (.s (.s .n (.s (.s .n (.b (.l BT BU .n))) .n)) .n))) .n))))) .n)))
noncomputable def BX (T:List FEnt):=aU (xs:=BU) BT (bT T (sb [1,1,0,1,2,2,1,0,2,1,0,1,0,1,2,2] Hs))
noncomputable def l30_1 (T:List FEnt):=af (BX T)
noncomputable def BY (a0 a1 a2 a3:Int)(a4:List Int):Option (IA⊕CG):=
cond (decide (a3 < (↑a2.toNat:Int))) (
aq (bv a3 a2.toNat) (
aq (au .i64 (a3-1)) (
aq (bv (a3-1) a2.toNat) (
cond (!decide ((rJ a4 (a1.toNat+Int.toNat a3))=(rJ a4 (a1.toNat+Int.toNat (a3-1))))) (
aq (bv a3 a2.toNat) (
aq (bv a0 a4.length) (
aq (au .i64 (a0+1)) (
aq (au .i64 (a3+1)) (
some (Sum.inl ((a0+1),(↑a1.toNat:Int),(↑a2.toNat:Int),(a3+1),(List.set a4 a0.toNat (rJ a4 (a1.toNat+Int.toNat a3)))))))))) (
aq (au .i64 (a3+1)) (
some (Sum.inl (a0,(↑a1.toNat:Int),(↑a2.toNat:Int),(a3+1),a4)))))))) (
some (Sum.inr (a0,a4)))
theorem Ht:BX yC=u5 BY:=funext fun _=>by kernel_rfl
noncomputable def Hu:=BY
noncomputable def BZ:IF:=af (u5 Hu)
theorem Hv:l30_1 yC=BZ:=congrArg af Ht
noncomputable def B0 (T:List FEnt):=aU (xs:=BW) BV (bT T (sb [1,1,0,1,2,2] Hs))
noncomputable def l30_0 (T:List FEnt):=af (B0 T)
noncomputable def B1 (l30_1:IF)(a0:Int)(a1:List Int):Option (CG⊕IB):=
cond (decide (a0 < (↑a1.length:Int))) (
aq (bv a0 a1.length) (
aq (au .i64 (a0-1)) (
aq (bv (a0-1) a1.length) (
cond (decide ((ix a1 a0)=(ix a1 (a0-1)))) (
aq (decide (0≤a0)) (
aq (decide (a0≤(↑a1.length:Int))) (
aq (decide ((↑a1.length:Int)≤(↑a1.length:Int))) (
aq (decide (0 < List.length a1)) (
(l30_1 (a0,(↑a0.toNat:Int),(↑(Int.toNat ((↑a1.length:Int)-a0)):Int),1,a1)).bind fun y1=>(
aq (decide (0≤y1.1)) (
aq (decide (y1.1≤(↑y1.2.length:Int))) (
aq (decide ((↑y1.2.length:Int)≤(↑y1.2.length:Int))) (
aq (decide (0 < List.length y1.2)) (
aq (decide (0≤y1.1)) (
aq (decide (y1.1≤(↑(List.length (oh y1.2 y1.1.toNat (Int.toNat ((↑y1.2.length:Int)-y1.1)) 0)):Int))) (
aq (decide (0 < List.length (oh y1.2 y1.1.toNat (Int.toNat ((↑y1.2.length:Int)-y1.1)) 0))) (
some (Sum.inr (Sum.inl (List.take y1.1.toNat (oh y1.2 y1.1.toNat (Int.toNat ((↑y1.2.length:Int)-y1.1)) 0))))))))))))))))) (
aq (au .i64 (a0+1)) (
some (Sum.inl ((a0+1),a1)))))))) (
some (Sum.inr (Sum.inr a1)))
theorem g30_0:B0 yC=u2 (B1 (l30_1 yC)):=funext fun _=>by kernel_rfl
noncomputable def Hw:=B1 BZ
noncomputable def B2:IG:=af (u2 Hw)
theorem v30_0:l30_0 yC=B2:=congrArg af (g30_0.trans (by rw[Hv] <;> rfl))
theorem Ma:L.Fn Tryz.prog 30 61 [(.t 2)] (erase Hs):=oA Tryz.func30
def yD:FSh:=⟨⟨sf,iU⟩,[y19],1,⟨⟨sf,iU⟩,[y19],[],1⟩,false⟩
noncomputable def NU (l30_0:IG)(a0:List Int):Option Y2:=
cond (decide ((↑a0.length:Int) < 2)) (
some a0) (
(l30_0 (1,a0)).bind (fun y2=>Sum.elim (fun y3=>(
some y3)) (fun y4=>(
some y4)) y2))
theorem g30 (a0:List Int):aO yC yD [(.t 2)] Hs a0=NU (l30_0 yC) a0:=by kernel_rfl
noncomputable def RH:=NU B2
noncomputable def Fl:kS:=fun x=>RH x
theorem RI:aO yC yD [(.t 2)] Hs=Fl:=funext fun x=>(g30 x).trans (by rw[v30_0] <;> rfl)
theorem RJ:DC Tryz.prog 30 yD Fl:=dD RI RG Ma
noncomputable def Mb (F26:mI)(F26v1:mJ)(F29:kS)(F30:kS):List FEnt:=[⟨26,tU,F26⟩,⟨26,kj,F26v1⟩,⟨29,yB,F29⟩,⟨30,yD,F30⟩]
theorem RK:am Tryz.prog (Mb su eU Fk Fl):=dK (dK (dK (dK aa RJ) RF) vX) LI
noncomputable def Mc:=cz Tryz.prog [] Tryz.f12 .n
theorem Md:L.Fn Tryz.prog 12 30 [(.t 6),(.t 7)] (erase Mc):=oA Tryz.func12
def yE:FSh:=⟨⟨[(.st cp),(.v cR),(.v y7)],[]⟩,[cp,cR,y7],0,⟨⟨[(.tup Ei)],iU⟩,[y7,y19],[],1⟩,true⟩
noncomputable def NV (F26:mI)(F26v1:mJ)(F29 F30:kS)(a0:Y2×Int)(a1:List Y1)(a2:Int):Option CG:=
FK (F26 (a0,a1,a2,0,1)) (fun r1=>(
cond (!decide (r1=0)) (
some (r1,([]:List Int))) (
none))) (
(F26v1 (a0,a1,a2,0,1)).bind fun r2=>(
cond (!decide (r2.1=0)) (
some (r2.1,([]:List Int))) (
(F29 r2.2.2.2.2.1).bind fun r3=>(
(F30 r3).bind fun r4=>(
some (0,r4))))))
theorem RL (F26:mI)(F26v1:mJ)(F29 F30:kS):aO (Mb F26 F26v1 F29 F30) yE [(.t 6),(.t 7)] Mc=u3 (NV F26 F26v1 F29 F30):=funext fun _=>by kernel_rfl
noncomputable def RM:=NV su eU Fk Fl
noncomputable def P12:zc:=u3 RM
theorem RN:aO (Mb su eU Fk Fl) yE [(.t 6),(.t 7)] Mc=P12:=RL su eU Fk Fl
theorem RO:DC Tryz.prog 12 yE P12:=dD RN RK Md
noncomputable def Fm:List FEnt:=[]
theorem RP:am Tryz.prog Fm:=aa
def sx:LSh:=⟨[0,1,5],⟨[(.v y19),(.v y19),(.v y7)],[]⟩,[y19,y19,y7],0,[]⟩
def nD:List XSh:=[⟨.ret,[4],⟨⟨kH,[]⟩,[.bool],[],0⟩⟩,⟨(.exit 0),[],⟨⟨[],[]⟩,[],[],0⟩⟩]
noncomputable def JN:=cz Tryz.prog [] Tryz.f13 (.s .n (.s .n (.s (.s .n (.b (.l sx nD .n))) .n)))
noncomputable def B3 (T:List FEnt):=aU (xs:=nD) sx (bT T (sb [1,1,0,1,2,2] JN))
noncomputable def l13_0 (T:List FEnt):=af (B3 T)
noncomputable def B4 (a0 a1:List Int)(a2:Int):Option IK:=
cond (decide (a2 < (↑a0.length:Int))) (
aq (bv a2 a0.length) (
aq (bv a2 a1.length) (
cond (!decide ((ix a0 a2)=(ix a1 a2))) (
some (Sum.inr (Sum.inl false))) (
aq (au .i64 (a2+1)) (
some (Sum.inl (a0,a1,(a2+1)))))))) (
some (Sum.inr (Sum.inr ())))
theorem Hx:B3 Fm=u3 B4:=funext fun _=>by kernel_rfl
noncomputable def Hy:=B4
noncomputable def B5:y6:=af (u3 Hy)
theorem Hz:l13_0 Fm=B5:=congrArg af Hx
theorem Me:L.Fn Tryz.prog 13 26 [(.t 4)] (erase JN):=oA Tryz.func13
def yF:FSh:=⟨⟨[(.v y19),(.v y19)],[]⟩,Bs,0,⟨⟨kH,[]⟩,[.bool],[],0⟩,true⟩
noncomputable def NW (l13_0:y6)(a0 a1:List Int):Option Bool:=
cond (!decide ((↑a0.length:Int)=(↑a1.length:Int))) (
some false) (
(l13_0 (a0,a1,0)).bind (fun y1=>Sum.elim (fun y2=>(
some y2)) (fun y3=>(
some true)) y1))
theorem g13:aO Fm yF [(.t 4)] JN=u2 (NW (l13_0 Fm)):=funext fun _=>by kernel_rfl
noncomputable def RQ:=NW B5
noncomputable def P13:fY:=u2 RQ
theorem RR:aO Fm yF [(.t 4)] JN=P13:=g13.trans (by rw[Hz] <;> rfl)
theorem RS:DC Tryz.prog 13 yF P13:=dD RR RP Me
noncomputable def T4 (F9:Kc)(F10:za)(F11:zb)(F12:zc)(F13:fY):List FEnt:=[⟨9,JA,F9⟩,⟨10,yr,F10⟩,⟨11,yt,F11⟩,⟨12,yE,F12⟩,⟨13,yF,F13⟩]
theorem t4:am Tryz.prog (T4 P9 P10 P11 P12 P13):=dK (dK (dK (dK (dK aa RS) RO) Rf) Ra) d9
noncomputable def c4:=cz Tryz.prog [] Tryz.f4 (.s .n (.s .n (.s .n (.s .n (.s .n (.s (.r [.a 25 false y7]) .n))))))
theorem RT:L.Fn Tryz.prog 4 61 [(.t 0)] (erase c4):=oA Tryz.func4
def JO:FSh:=⟨⟨[],[]⟩,[],0,⟨⟨kH,[]⟩,[.bool],[],0⟩,true⟩
noncomputable def q4 (F9:Kc)(F10:za)(F11:zb)(F12:zc)(F13:fY):Option Bool:=
(F9 ()).bind fun r1=>(
(F10 ((r1.2.1,r1.1),r1.2.2,12,2)).bind fun r2=>(
(F11 ((r1.2.1,r1.1),r1.2.2,1,1)).bind fun r3=>(
(F12 ((r1.2.1,r1.1),r1.2.2,12)).bind fun r4=>(
cond (decide (r2.2=0)) (
cond (decide (r3.2.2=0)) (
cond (decide (r4.1=0)) (
cond (((decide (r2.1.1=4)&&decide (r2.1.2.1=(-1)))&&decide (r2.1.2.2.1=(-1)))&&decide (r2.1.2.2.2=2)) (
cond (decide (r3.1=0)) (
cond (decide (r3.2.1=4)) (
(F13 (r4.2,([2]:List Int))).bind fun r5=>(
some r5)) (
some false)) (
some false)) (
some false)) (
some false)) (
some false)) (
some false)))))
theorem g4 (F9:Kc)(F10:za)(F11:zb)(F12:zc)(F13:fY):aO (T4 F9 F10 F11 F12 F13) JO [(.t 0)] c4 ()=q4 F9 F10 F11 F12 F13:=by kernel_rfl
noncomputable def p4:Option Bool:=q4 P9 P10 P11 P12 P13
noncomputable def P4:y8:=fun x=>p4
theorem v4:aO (T4 P9 P10 P11 P12 P13) JO [(.t 0)] c4=P4:=funext fun x=>(g4 P9 P10 P11 P12 P13)
theorem d4:DC Tryz.prog 4 JO P4:=dD v4 t4 RT
noncomputable def T5:List FEnt:=[]
theorem t5:am Tryz.prog T5:=aa
noncomputable def c5:=cz Tryz.prog [(2,{ch:=[1,1,0,0,0,0],rs:=[2] })] Tryz.f5 (.s .n (.s (.r [.a 0 false y7,.a 3 false y7]) (.s (.r [.a 3 true eJ]) .n)))
theorem RU:L.Fn Tryz.prog 5 15 [(.cell 4 true 2),(.t 5)] (erase c5):=oA Tryz.func5
def JP:FSh:=⟨⟨[(.st cp),(.v cR)],[]⟩,[cp,cR],0,⟨⟨Nj,[(0,(.row 3 y7)),(1,(.row 56 eJ))]⟩,[y7,y19,cR],[],2⟩,true⟩
noncomputable def q5 (a0:Y2×Int)(a1:List Y1):Option Ii:=
aq (bI 8 (List.length ([]:List Int)+List.length a0.1)) (
aq (bI 40 a1.length) (
some (a0.2,(([]:List Int)++a0.1),a1)))
theorem g5:aO T5 JP [(.cell 4 true 2),(.t 5)] c5=u2 q5:=funext fun _=>by kernel_rfl
noncomputable def p5:=q5
noncomputable def P5:zd:=u2 p5
theorem v5:aO T5 JP [(.cell 4 true 2),(.t 5)] c5=P5:=g5
theorem d5:DC Tryz.prog 5 JP P5:=dD v5 t5 RU
noncomputable def Mf (F17:Y5):List FEnt:=[⟨17,mF,F17⟩]
theorem RW:am Tryz.prog (Mf P17):=dK aa Ef
noncomputable def Mg:=cz Tryz.prog [] Tryz.f16 .n
theorem Mh:L.Fn Tryz.prog 16 6 [(.t 2)] (erase Mg):=oA Tryz.func16
def yG:FSh:=⟨⟨pN,[]⟩,[y7],0,⟨⟨kH,[]⟩,[.bool],[],0⟩,true⟩
noncomputable def JQ (F17:Y5)(a0:Int):Option Bool:=
(F17 (a0,1,12)).bind fun r1=>(
some (!r1))
theorem g16 (F17:Y5)(a0:Int):aO (Mf F17) yG [(.t 2)] Mg a0=JQ F17 a0:=by kernel_rfl
noncomputable def RX:=JQ P17
noncomputable def P16:qf:=fun x=>RX x
theorem RY:aO (Mf P17) yG [(.t 2)] Mg=P16:=funext fun x=>(g16 P17 x)
theorem RZ:DC Tryz.prog 16 yG P16:=dD RY RW Mh
noncomputable def nE (F16:qf):List FEnt:=[⟨16,yG,F16⟩]
theorem HA:am Tryz.prog (nE P16):=dK aa RZ
def sy:LSh:=⟨[0,1,7,8],⟨[(.v y19),(.fn 16 []),(.v y7),(.v y7)],[]⟩,[y19,y7,y7],0,[]⟩
noncomputable def sA:=cz Tryz.prog [] Tryz.f32 (.s .n (.s (.s .n (.b (.l sy ny .n))) .n))
noncomputable def sB (T:List FEnt):=aU (xs:=ny) sy (bT T (sb [1,0,1,2,2] sA))
noncomputable def l32v1_0 (T:List FEnt):=af (sB T)
noncomputable def gZ (F16:qf)(a0:List Int)(a1 a2:Int):Option Oo:=
cond (decide (a2 < a1)) (
aq (bv a2 a0.length) (
(F16 (ix a0 a2)).bind fun r1=>(
cond r1 (
some (Sum.inr (Sum.inl a2))) (
aq (au .i64 (a2+1)) (
some (Sum.inl (a0,a1,(a2+1)))))))) (
some (Sum.inr (Sum.inr ())))
theorem yH (F16:qf):sB (nE F16)=u3 (gZ F16):=funext fun _=>by kernel_rfl
noncomputable def sC:=gZ P16
noncomputable def hG:Ka:=af (u3 sC)
theorem v32v1_0:l32v1_0 (nE P16)=hG:=congrArg af (yH P16)
theorem El:L.Fn Tryz.prog 32 19 [(.t 4)] (erase sA):=oA Tryz.func32
def oC:FSh:=⟨⟨[(.v y19),(.fn 16 [])],[]⟩,[y19],0,⟨⟨pN,[]⟩,[y7],[],0⟩,true⟩
noncomputable def nF (F16:qf)(l32v1_0:Ka)(a0:List Int):Option Int:=
(l32v1_0 (a0,(↑a0.length:Int),0)).bind (fun y2=>Sum.elim (fun y3=>(
some y3)) (fun y4=>(
some (-1))) y2)
theorem g32v1 (F16:qf)(a0:List Int):aO (nE F16) oC [(.t 4)] sA a0=nF F16 (l32v1_0 (nE F16)) a0:=by kernel_rfl
noncomputable def HB:=nF P16 hG
noncomputable def P32v1:uw:=fun x=>HB x
theorem HC:aO (nE P16) oC [(.t 4)] sA=P32v1:=funext fun x=>(g32v1 P16 x).trans (by rw[v32v1_0] <;> rfl)
theorem HD:DC Tryz.prog 32 oC P32v1:=dD HC HA El
noncomputable def vY (F32v1:uw):List FEnt:=[⟨32,oC,F32v1⟩]
theorem HE:am Tryz.prog (vY P32v1):=dK aa HD
noncomputable def vZ:=cz Tryz.prog [] Tryz.f15 .n
theorem Em:L.Fn Tryz.prog 15 9 [(.t 4)] (erase vZ):=oA Tryz.func15
def oD:FSh:=⟨⟨[(.v y19),(.fn 16 [])],[]⟩,[y19],0,⟨⟨kH,[]⟩,[.bool],[],0⟩,true⟩
noncomputable def sD (F32v1:uw)(a0:List Int):Option Bool:=
(F32v1 a0).bind fun r1=>(
some (decide (0≤r1)))
theorem g15v1 (F32v1:uw)(a0:List Int):aO (vY F32v1) oD [(.t 4)] vZ a0=sD F32v1 a0:=by kernel_rfl
noncomputable def HF:=sD P32v1
noncomputable def eV:sO:=fun x=>HF x
theorem HG:aO (vY P32v1) oD [(.t 4)] vZ=eV:=funext fun x=>(g15v1 P32v1 x)
theorem HH:DC Tryz.prog 15 oD eV:=dD HG HE Em
noncomputable def Mi:List FEnt:=[]
theorem R0:am Tryz.prog Mi:=aa
noncomputable def Mj:=cz Tryz.prog [] Tryz.f19 .n
theorem Ml:L.Fn Tryz.prog 19 15 [(.t 5)] (erase Mj):=oA Tryz.func19
def yI:FSh:=⟨⟨[(.v y7),(.v y7),(.elm y19)],[]⟩,[y7,y7,y19],0,⟨⟨pN,[]⟩,[y7],[],0⟩,true⟩
noncomputable def JR (a0 a1:Int)(a2:List Int):Option Int:=
aq (bv a1 a2.length) (
aq (bv a0 a2.length) (
aq (au .i64 ((ix a2 a1)-(ix a2 a0))) (
some ((ix a2 a1)-(ix a2 a0)))))
theorem R1:aO Mi yI [(.t 5)] Mj=u3 JR:=funext fun _=>by kernel_rfl
noncomputable def R2:=JR
noncomputable def P19:pV:=u3 R2
theorem R3:aO Mi yI [(.t 5)] Mj=P19:=R1
theorem R4:DC Tryz.prog 19 yI P19:=dD R3 R0 Ml
noncomputable def yJ (F19:pV):List FEnt:=[⟨19,yI,F19⟩]
theorem R5:am Tryz.prog (yJ P19):=dK aa R4
def B6:LSh:=⟨[0,1,2,3,8,9],⟨[(.slc 0),(.v y7),(.v y7),(.fn 19 G1),(.v y7),(.v y7)],sg⟩,[y7,y7,y7,y7,y19,y19],2,[0,1]⟩
def B7:List XSh:=[⟨(.exit 2),[0,1,2,3,8],⟨⟨j6,sg⟩,Lz,[0,1],2⟩⟩]
def B8:LSh:=⟨[0,1,2,3,8],⟨j6,sg⟩,Lz,2,[0,1]⟩
def B9:List XSh:=[⟨(.exit 0),[],⟨⟨[],sg⟩,Bs,[0,1],2⟩⟩]
noncomputable def HI:=cz Tryz.prog [] Tryz.f41 (.s .n (.b (.l B8 B9 (.s .n (.s (.b (.s .n (.b (.l B6 B7 .n)))) .n)))))
noncomputable def Ca (T:List FEnt):=aU (xs:=B7) B6 (bT T (sb [1,2,2,1,0,2,1,2,2] HI))
noncomputable def l41_1 (T:List FEnt):=af (Ca T)
noncomputable def q41_1 (F19:pV)(a0 a1 a2 a3:Int)(a4 a5:List Int):Option ((Int×Int×Int×Int×Y2×Y2)⊕Es):=
cond (decide (a0 < a3)) (
aq (bv a3 a4.length) (
aq (au .i64 (a3-1)) (
aq (bv (a3-1) a4.length) (
(F19 ((ix a4 a3),(ix a4 (a3-1)),a5)).bind fun r1=>(
cond (decide (r1 < 0)) (
aq (au .i64 (a3-1)) (
aq (au .i64 (a3-1)) (
aq (bv (a3-1) a4.length) (
aq (bv a3 a4.length) (
aq (bv a3 a4.length) (
aq (bv (a3-1) (List.length (List.set a4 a3.toNat (ix a4 (a3-1))))) (
aq (au .i64 (a3-1)) (
some (Sum.inl (a0,a1,a2,(a3-1),(List.set (List.set a4 a3.toNat (ix a4 (a3-1))) (Int.toNat (a3-1)) (ix a4 a3)),a5)))))))))) (
some (Sum.inr (a0,a1,a2,a4,a5)))))))) (
some (Sum.inr (a0,a1,a2,a4,a5)))
theorem HJ (F19:pV):Ca (yJ F19)=u6 (q41_1 F19):=funext fun _=>by kernel_rfl
noncomputable def Cb:=q41_1 P19
noncomputable def pP:IH:=af (u6 Cb)
theorem HK:l41_1 (yJ P19)=pP:=congrArg af (HJ P19)
noncomputable def Cc (T:List FEnt):=aU (xs:=B9) B8 (bT T (sb [1,2,2] HI))
noncomputable def l41_0 (T:List FEnt):=af (Cc T)
noncomputable def pQ (F19:pV)(l41_1:IH)(a0 a1 a2:Int)(a3 a4:List Int):Option (Es⊕oH):=
cond (decide (a2 < a1)) (
(l41_1 (a0,a1,a2,a2,a3,a4)).bind fun y2=>(
aq (au .i64 (y2.2.2.1+1)) (
some (Sum.inl (y2.1,y2.2.1,(y2.2.2.1+1),y2.2.2.2.1,y2.2.2.2.2))))) (
some (Sum.inr (a3,a4)))
theorem HL (F19:pV):Cc (yJ F19)=u5 (pQ F19 (l41_1 (yJ F19))):=funext fun _=>by kernel_rfl
noncomputable def Cd:=pQ P19 pP
noncomputable def sE:ub:=af (u5 Cd)
theorem HM:l41_0 (yJ P19)=sE:=congrArg af ((HL P19).trans (by rw[HK] <;> rfl))
theorem Mm:L.Fn Tryz.prog 41 53 [] (erase HI):=oA Tryz.func41
def yK:FSh:=⟨⟨[(.slc 0),(.v y7),(.v y7),(.fn 19 G1)],sg⟩,[y7,y7,y19,y19],2,⟨⟨qe,sg⟩,Bs,[0,1],2⟩,false⟩
noncomputable def JS (F19:pV)(l41_0:ub)(a0 a1:Int)(a2 a3:List Int):Option oH:=
aq (au .i64 (a0+1)) (
(l41_0 (a0,a1,(a0+1),a2,a3)).bind fun y3=>(
some (y3.1,y3.2)))
theorem R6 (F19:pV):aO (yJ F19) yK [] HI=u4 (JS F19 (l41_0 (yJ F19))):=funext fun _=>by kernel_rfl
noncomputable def R7:=JS P19 sE
noncomputable def qW:pW:=u4 R7
theorem R8:aO (yJ P19) yK [] HI=qW:=(R6 P19).trans (by rw[HM] <;> rfl)
theorem R9:DC Tryz.prog 41 yK qW:=dD R8 R5 Mm
noncomputable def yL (F41:pW):List FEnt:=[⟨41,yK,F41⟩]
theorem Sa:am Tryz.prog (yL qW):=dK aa R9
def Ce:LSh:=⟨[0,1,2,3,4,10,11,12],⟨j3,sg⟩,z6,2,[0,1]⟩
def Cf:List XSh:=[⟨.normal,[0,1,2,3,4,10,11,12],⟨⟨j3,sg⟩,z6,[0,1],2⟩⟩]
def Cg:LSh:=⟨[0,1,2,3,4,10,11],⟨[(.slc 0),(.v y7),(.v y7),(.v y7),(.fn 19 G1),(.v .bool),(.v .bool)],sg⟩,[y7,y7,y7,.bool,.bool,y19,y19],2,[0,1]⟩
def Ch:List XSh:=[⟨.ret,[],⟨⟨[],sg⟩,Bs,[0,1],2⟩⟩]
noncomputable def HN:=cz Tryz.prog [] Tryz.f33 (.s .n (.s .n (.b (.l Cg Ch (.b (.s .n (.s .n (.s .n (.s (.o Ce Cf .n) .n)))))))))
noncomputable def l33_1 (T:List FEnt):=kD (xs:=Cf) Ce (bT T (sb [1,1,2,2,2,1,1,1,0,2] HN))
noncomputable def Ci (F41:pW)(a0 a1 a2:Int)(a3 a4:Bool)(a5:Int)(a6 a7:List Int):Option Ix:=
cond (!a3) (
none) (
some (a0,a1,a2,a3,a4,a5,a6,a7))
theorem HO (F41:pW):l33_1 (yL F41)=u8 (Ci F41):=funext fun _=>by kernel_rfl
noncomputable def HP:=Ci qW
noncomputable def wa:II:=fun x=>HP x.1 x.2.1 x.2.2.1 x.2.2.2.1 x.2.2.2.2.1 x.2.2.2.2.2.1 x.2.2.2.2.2.2.1 x.2.2.2.2.2.2.2
theorem HQ:l33_1 (yL qW)=wa:=HO qW
noncomputable def Cj (T:List FEnt):=aU (xs:=Ch) Cg (bT T (sb [1,1,2,2] HN))
noncomputable def l33_0 (T:List FEnt):=af (Cj T)
noncomputable def sF (F41:pW)(l33_1:II)(a0 a1 a2:Int)(a3 a4:Bool)(a5 a6:List Int):Option ((Int×Int×Int×Bool×Bool×Y2×Y2)⊕oH):=
aq (au .i64 (a1-a0)) (
cond (decide ((a1-a0)≤12)) (
(F41 (a0,a1,a5,a6)).bind fun r1=>(
some (Sum.inr (r1.1,r1.2)))) (
cond (decide (a2=0)) (
none) (
(l33_1 (a0,a1,a2,a3,a4,(a1-a0),a5,a6)).bind fun y2=>(
none))))
theorem HS (F41:pW):Cj (yL F41)=u7 (sF F41 (l33_1 (yL F41))):=funext fun _=>by kernel_rfl
noncomputable def HU:=sF qW wa
noncomputable def sG:IJ:=af (u7 HU)
theorem HV:l33_0 (yL qW)=sG:=congrArg af ((HS qW).trans (by rw[HQ] <;> rfl))
theorem Mn:L.Fn Tryz.prog 33 148 [] (erase HN):=oA Tryz.func33
def yM:FSh:=⟨⟨[(.slc 0),(.v y7),(.v y7),(.v y7),(.fn 19 G1)],sg⟩,Lz,2,⟨⟨qe,sg⟩,Bs,[0,1],2⟩,false⟩
noncomputable def JT (F41:pW)(l33_0:IJ)(a0 a1 a2:Int)(a3 a4:List Int):Option oH:=
(l33_0 (a0,a1,a2,true,true,a3,a4)).bind fun y3=>(
some (y3.1,y3.2))
theorem Sb (F41:pW):aO (yL F41) yM [] HN=u5 (JT F41 (l33_0 (yL F41))):=funext fun _=>by kernel_rfl
noncomputable def Sc:=JT qW sG
noncomputable def Ck:ub:=u5 Sc
theorem Se:aO (yL qW) yM [] HN=Ck:=(Sb qW).trans (by rw[HV] <;> rfl)
theorem Sf:DC Tryz.prog 33 yM Ck:=dD Se Sa Mn
noncomputable def Mo (F34:sQ)(F33:ub):List FEnt:=[⟨34,tS,F34⟩,⟨33,yM,F33⟩]
theorem Sg:am Tryz.prog (Mo P34 Ck):=dK (dK aa Sf) Ld
noncomputable def Mp:=cz Tryz.prog [] Tryz.f18 .n
theorem Mq:L.Fn Tryz.prog 18 14 [] (erase Mp):=oA Tryz.func18
def yN:FSh:=⟨⟨[(.slc 0),(.fn 19 G1)],sg⟩,Bs,2,⟨⟨qe,sg⟩,Bs,[0,1],2⟩,false⟩
noncomputable def JU (F34:sQ)(F33:ub)(a0 a1:List Int):Option oH:=
aq (au .u64 (↑a0.length:Int)) (
(F34 (↑a0.length:Int)).bind fun r1=>(
(F33 (0,(↑a0.length:Int),r1,a0,a1)).bind fun r2=>(
some (r2.1,r2.2))))
theorem Sh (F34:sQ)(F33:ub):aO (Mo F34 F33) yN [] Mp=u2 (JU F34 F33):=funext fun _=>by kernel_rfl
noncomputable def Si:=JU P34 Ck
noncomputable def P18:uc:=u2 Si
theorem Sj:aO (Mo P34 Ck) yN [] Mp=P18:=Sh P34 Ck
theorem Sk:DC Tryz.prog 18 yN P18:=dD Sj Sg Mq
noncomputable def Mr:List FEnt:=[]
theorem Sl:am Tryz.prog Mr:=aa
noncomputable def Ms:=cz Tryz.prog [] Tryz.f20 (.s .n (.s .n (.s (.r [.a 0 false y7,.a 2 false y7]) .n)))
theorem Mu:L.Fn Tryz.prog 20 8 [(.t 2)] (erase Ms):=oA Tryz.func20
def yO:FSh:=⟨⟨[(.v y19)],[]⟩,[y19],0,⟨⟨sf,iU⟩,[y19],[],1⟩,true⟩
noncomputable def JV (a0:List Int):Option Y2:=
vn (decide (List.length a0=0)) (
some ([]:List Int)) (
aq (bI 8 (List.length ([]:List Int)+List.length a0)) (
some (([]:List Int)++a0)))
theorem g20 (a0:List Int):aO Mr yO [(.t 2)] Ms a0=JV a0:=by kernel_rfl
noncomputable def Sm:=JV
noncomputable def qX:kS:=fun x=>Sm x
theorem Sn:aO Mr yO [(.t 2)] Ms=qX:=funext fun x=>(g20 x)
theorem So:DC Tryz.prog 20 yO qX:=dD Sn Sl Mu
noncomputable def Fo:List FEnt:=[]
theorem Sp:am Tryz.prog Fo:=aa
def Cl:LSh:=⟨[0,1,7,8],⟨[(.v y19),(.v y7),(.v y7),(.v y7)],[]⟩,[y19,y7,y7,y7],0,[]⟩
noncomputable def JW:=cz Tryz.prog [] Tryz.f51 (.s .n (.s (.s .n (.b (.l Cl ny .n))) .n))
noncomputable def Cm (T:List FEnt):=aU (xs:=ny) Cl (bT T (sb [1,0,1,2,2] JW))
noncomputable def l51_0 (T:List FEnt):=af (Cm T)
noncomputable def nG (a0:List Int)(a1 a2 a3:Int):Option ((Y2×Int×Int×Int)⊕J8):=
cond (decide (a3 < a2)) (
aq (bv a3 a0.length) (
cond (decide (a1=(ix a0 a3))) (
some (Sum.inr (Sum.inl a3))) (
aq (au .i64 (a3+1)) (
some (Sum.inl (a0,a1,a2,(a3+1))))))) (
some (Sum.inr (Sum.inr ())))
theorem HW:Cm Fo=u4 nG:=funext fun _=>by kernel_rfl
noncomputable def Cn:=nG
noncomputable def nH:Iy:=af (u4 Cn)
theorem HX:l51_0 Fo=nH:=congrArg af HW
theorem Mw:L.Fn Tryz.prog 51 19 [(.t 4)] (erase JW):=oA Tryz.func51
def yP:FSh:=⟨⟨Eh,[]⟩,[y19,y7],0,⟨⟨pN,[]⟩,[y7],[],0⟩,true⟩
noncomputable def Fp (l51_0:Iy)(a0:List Int)(a1:Int):Option Int:=
(l51_0 (a0,a1,(↑a0.length:Int),0)).bind (fun y1=>Sum.elim (fun y2=>(
some y2)) (fun y3=>(
some (-1))) y1)
theorem g51:aO Fo yP [(.t 4)] JW=u2 (Fp (l51_0 Fo)):=funext fun _=>by kernel_rfl
noncomputable def Sq:=Fp nH
noncomputable def P51:y9:=u2 Sq
theorem Sr:aO Fo yP [(.t 4)] JW=P51:=g51.trans (by rw[HX] <;> rfl)
theorem Ss:DC Tryz.prog 51 yP P51:=dD Sr Sp Mw
noncomputable def Mx (F51:y9):List FEnt:=[⟨51,yP,F51⟩]
theorem Su:am Tryz.prog (Mx P51):=dK aa Ss
noncomputable def My:=cz Tryz.prog [] Tryz.f35 .n
theorem Mz:L.Fn Tryz.prog 35 9 [(.t 4)] (erase My):=oA Tryz.func35
def yQ:FSh:=⟨⟨Eh,[]⟩,[y19,y7],0,⟨⟨kH,[]⟩,[.bool],[],0⟩,true⟩
noncomputable def JX (F51:y9)(a0:List Int)(a1:Int):Option Bool:=
(F51 (a0,a1)).bind fun r1=>(
some (decide (0≤r1)))
theorem Sv (F51:y9):aO (Mx F51) yQ [(.t 4)] My=u2 (JX F51):=funext fun _=>by kernel_rfl
noncomputable def Sw:=JX P51
noncomputable def P35:kl:=u2 Sw
theorem Sx:aO (Mx P51) yQ [(.t 4)] My=P35:=Sv P51
theorem Sy:DC Tryz.prog 35 yQ P35:=dD Sx Su Mz
end Go.Proofs.YtdkaijofmigmbaaGreat.D
