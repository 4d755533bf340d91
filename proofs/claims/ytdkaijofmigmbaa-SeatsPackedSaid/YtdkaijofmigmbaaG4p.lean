import Derived.Test.YtdkaijofmigmbaaG3p
import Derived.Test.YtdkaijofmigmbaaProg
set_option linter.unusedVariables false
set_option maxRecDepth 100000
namespace Go.Proofs.Ytdkaijofmigmbaa.D
open Go Go.Proofs Go.Proofs.Ytdkaijofmigmbaa.L
def EL:List Ty:=[y19,y19]
def LU:List Ty:=[y7,y7,y7,y19,y19]
def z6:List Ty:=[y7,y7,y7,.bool,.bool,y7,y19,y19]
def j9:List RSh:=[(.st cH),(.v di),(.v y7),(.v y7),(.v y7)]
def LV:List RSh:=[(.slc 0),(.v y7),(.v y7),(.v y7)]
def j5:List RSh:=[(.slc 0),(.v y7),(.v y7),(.v y7),(.v .bool),(.v .bool),(.v y7)]
def Hj:List RSh:=[(.ptr 1 0)]
def j6:List RSh:=[(.slc 0),(.v y7),(.v y7),(.fn 62 [(.ptr 1 0)]),(.v y7)]
def j3:List RSh:=[(.slc 0),(.v y7),(.v y7),(.v y7),(.fn 62 [(.ptr 1 0)]),(.v .bool),(.v .bool),(.v y7)]
def k5:List (Nat×OSh):=[(0,(.box [(.v y19),(.v y7),(.slr 2),(.mp 3),(.slc 4)])),(1,(.pool eI)),(2,(.rows 22 3 y7)),(3,(.pmap 1)),(4,(.row 3 y7))]
def k1:List (Nat×OSh):=[(0,(.box [(.v y19),(.v y7),(.slr 2),(.mp 3),(.slc 4)])),(1,(.row 40 eI)),(2,(.rows 22 3 y7)),(3,(.pmap 5)),(4,(.row 3 y7)),(5,(.pool eI))]
def si:List (Nat×OSh):=[(0,(.row 3 y7)),(1,(.boxT y19))]
noncomputable def jV:List FEnt:=[]
theorem EM:am Try.prog jV:=aa
def pC:LSh:=⟨[0,1,2,11,12],⟨j8,k5⟩,z5,5,[0,1,2,3,4]⟩
def pD:List XSh:=[⟨(.exit 0),[1,2],⟨⟨[(.pel 1),(.v y7)],k5⟩,z7,[0,1,2,3,4],5⟩⟩]
noncomputable def ot:=cI Try.prog [] Try.f111 (.s (.s .n (.b (.l pC pD .n))) .n)
noncomputable def pE (T:List FEnt):=aV (xs:=pD) pC (bR T (sb [0,1,2,2] ot))
noncomputable def l111v1_0 (T:List FEnt):=ah (pE T)
noncomputable def pF (a0 a1 a2 a3:Int)(a4:List Int)(a5:Int)(a6:List Y3)(a7:List Y2)(a8:List Int):Option It:=
cond (decide (a3 < a2)) (
au (bF ((pd a6 a0).2.1) a7.length) (
au (an .i64 ((pd a6 a0).2.2.1+a3)) (
au (bF ((pd a6 a0).2.2.1+a3) (List.length (ix a7 ((pd a6 a0).2.1)))) (
au (an .i64 (a3+1)) (
some (Sum.inl (a0,a1,a2,(a3+1),a4,a5,a6,(List.set a7 (Int.toNat ((pd a6 a0).2.1)) (List.set (ix a7 ((pd a6 a0).2.1)) (Int.toNat ((pd a6 a0).2.2.1+a3)) (-1))),a8))))))) (
some (Sum.inr (a0,a1,a4,a5,a6,a7,a8)))
theorem wK:pE jV=u9 pF:=funext fun _=>by kernel_rfl
noncomputable def wL:=pF
noncomputable def pG:zL:=ah (u9 wL)
theorem wM:l111v1_0 jV=pG:=congrArg ah wK
theorem za:L.Fn Try.prog 111 48 [] (erase ot):=oA Try.func111
def lg:FSh:=⟨⟨[(.ptr 0 0),(.pel 1),(.v y7)],k5⟩,z7,5,⟨⟨pT,k5⟩,[y19,y7,y53,y32,y19],[0,1,2,3,4],5⟩,false⟩
noncomputable def wN (l111v1_0:zL)(a0 a1:Int)(a2:List Int)(a3:Int)(a4:List Y3)(a5:List Y2)(a6:List Int):Option Nc:=
(l111v1_0 (a0,a1,(pd a4 a0).2.2.2.1,0,a2,a3,a4,a5,a6)).bind fun y1=>(
some (y1.2.2.1,y1.2.2.2.1,(Ng (Nf (F6 y1.2.2.2.2.1 y1.1 y1.2.1) y1.1 (-1)) y1.1 (-1)),y1.2.2.2.2.2.1,y1.2.2.2.2.2.2))
theorem g111v1:aQ jV lg [] ot=u7 (wN (l111v1_0 jV)):=funext fun _=>by kernel_rfl
noncomputable def EN:=wN pG
noncomputable def jW:my:=u7 EN
theorem EO:aQ jV lg [] ot=jW:=g111v1.trans (by rw[wM] <;> rfl)
theorem EP:DC Try.prog 111 lg jW:=dD EO EM za
noncomputable def LW (F43:kH)(F112:zM)(F111v1:my):List FEnt:=[⟨43,tW,F43⟩,⟨112,sg,F112⟩,⟨111,lg,F111v1⟩]
theorem Qn:am Try.prog (LW pB tY jW):=dK (dK (dK aa EP) LT) LO
noncomputable def LX:=cI Try.prog [] Try.f84 (.s .n (.s .n (.b (.s .n (.s .n (.s .n (.s .n (.s .n (.s (.r [.a 7 false y7,.a 8 false y7]) .n)))))))))
theorem LY:L.Fn Try.prog 84 70 [] (erase LX):=oA Try.func84
def zb:FSh:=⟨⟨[(.ptr 0 0),(.st eI)],k4⟩,[eI,y19,y7,y32,y19,y53],5,⟨⟨pT,k4⟩,z9,[0,1,2],5⟩,false⟩
noncomputable def NW (F43:kH)(F112:zM)(F111v1:my)(a0:Y1)(a1:List Int)(a2:Int)(a3:List Y2)(a4:List Int)(a5:List Y3):Option pJ:=
(F43 (a0.2.2.2.1,a1,a2,a3,a4,a5)).bind fun r1=>(
cond (decide (a0.2.2.1=1)) (
(F112 (a0.2.2.2.1,a0.2.2.2.2,a0.2.1,r1.2.1,r1.2.2.1,r1.2.2.2.1,r1.2.2.2.2.1,r1.2.2.2.2.2)).bind fun r2=>(
some (r2.1,r2.2.1,r2.2.2.1,r2.2.2.2.1,r2.2.2.2.2))) (
cond (decide (a0.2.2.1=2)) (
cond (decide ((pd r1.2.2.2.2.2 r1.1).1=2)) (
some (r1.2.1,r1.2.2.1,r1.2.2.2.1,r1.2.2.2.2.1,(F6 r1.2.2.2.2.2 r1.1 3))) (
cond (decide (a0.2.2.1=2)) (
au (cp 8 (List.length r1.2.2.2.2.1+List.length ([a0.2.2.2.1]:List Int))) (
some (r1.2.1,r1.2.2.1,r1.2.2.2.1,(r1.2.2.2.2.1++([a0.2.2.2.1]:List Int)),r1.2.2.2.2.2))) (
cond (decide ((pd r1.2.2.2.2.2 r1.1).1=2)) (
(F111v1 (r1.1,5,r1.2.1,r1.2.2.1,r1.2.2.2.2.2,r1.2.2.2.1,r1.2.2.2.2.1)).bind fun r3=>(
some (r3.1,r3.2.1,r3.2.2.2.1,r3.2.2.2.2,r3.2.2.1))) (
cond (decide ((pd r1.2.2.2.2.2 r1.1).1=3)) (
(F111v1 (r1.1,5,r1.2.1,r1.2.2.1,r1.2.2.2.2.2,r1.2.2.2.1,r1.2.2.2.2.1)).bind fun r4=>(
some (r4.1,r4.2.1,r4.2.2.2.1,r4.2.2.2.2,r4.2.2.1))) (
some (r1.2.1,r1.2.2.1,r1.2.2.2.1,r1.2.2.2.2.1,r1.2.2.2.2.2)))))) (
cond (decide (a0.2.2.1=2)) (
au (cp 8 (List.length r1.2.2.2.2.1+List.length ([a0.2.2.2.1]:List Int))) (
some (r1.2.1,r1.2.2.1,r1.2.2.2.1,(r1.2.2.2.2.1++([a0.2.2.2.1]:List Int)),r1.2.2.2.2.2))) (
cond (decide ((pd r1.2.2.2.2.2 r1.1).1=2)) (
(F111v1 (r1.1,5,r1.2.1,r1.2.2.1,r1.2.2.2.2.2,r1.2.2.2.1,r1.2.2.2.2.1)).bind fun r5=>(
some (r5.1,r5.2.1,r5.2.2.2.1,r5.2.2.2.2,r5.2.2.1))) (
cond (decide ((pd r1.2.2.2.2.2 r1.1).1=3)) (
(F111v1 (r1.1,5,r1.2.1,r1.2.2.1,r1.2.2.2.2.2,r1.2.2.2.1,r1.2.2.2.2.1)).bind fun r6=>(
some (r6.1,r6.2.1,r6.2.2.2.1,r6.2.2.2.2,r6.2.2.1))) (
some (r1.2.1,r1.2.2.1,r1.2.2.2.1,r1.2.2.2.2.1,r1.2.2.2.2.2)))))))
theorem Qo (F43:kH)(F112:zM)(F111v1:my):aQ (LW F43 F112 F111v1) zb [] LX=u6 (NW F43 F112 F111v1):=funext fun _=>by kernel_rfl
noncomputable def Qp:=NW pB tY jW
noncomputable def zc:uc:=u6 Qp
theorem Qq:aQ (LW pB tY jW) zb [] LX=zc:=Qo pB tY jW
theorem Qr:DC Try.prog 84 zb zc:=dD Qq Qn LY
noncomputable def FU (F77:t7)(F79:ow)(F78:ow)(F82:ow)(F83:t8)(F84:uc):List FEnt:=[⟨77,yN,F77⟩,⟨79,yP,F79⟩,⟨78,yU,F78⟩,⟨82,yX,F82⟩,⟨83,y6,F83⟩,⟨84,zb,F84⟩]
theorem Qs:am Try.prog (FU yO yQ yV yY y8 zc):=dK (dK (dK (dK (dK (dK aa Qr) Qi) Qd) P9) PP) PL
def Br:LSh:=⟨[2,7,17,18,19],⟨[(.v y7),(.ptr 0 0),(.slc 1),(.v y7),(.v y7)],k1⟩,[y7,y7,y7,y19,y7,di,y32,y19,y53],6,[0,1,2,3]⟩
def Bs:List XSh:=[⟨(.exit 0),[2,7],⟨⟨[(.v y7),(.ptr 0 0)],k1⟩,[y7,y19,y7,di,y32,y19,y53],[0,1,2,3],6⟩⟩]
noncomputable def JD:=cI Try.prog [] Try.f65 (.s .n (.s .n (.s .n (.s (.s .n (.b (.l Br Bs .n))) .n))))
noncomputable def Bt (T:List FEnt):=aV (xs:=Bs) Br (bR T (sb [1,1,1,0,1,2,2] JD))
noncomputable def l65_0 (T:List FEnt):=ah (Bt T)
noncomputable def Bu (F77:t7)(F79 F78 F82:ow)(F83:t8)(F84:uc)(a0 a1 a2:Int)(a3:List Int)(a4:Int)(a5:List Y1)(a6:List Y2)(a7:List Int)(a8:List Y3):Option ((Int×Int×Int×Y2×Int×Y8×Y9×Y2×fV)⊕IJ):=
cond (decide (a2 < a1)) (
au (bF a2 a5.length) (
cond (decide (a0 < (ix a5 a2).2.1)) (
some (Sum.inr (a0,a3,a4,a5,a6,a7,a8))) (
(F83 ((ix a5 a2).2.1,a3,a4,a6,a7,a8)).bind fun r5=>(
(F84 ((ix a5 a2),r5.1,r5.2.1,r5.2.2.1,r5.2.2.2.1,r5.2.2.2.2)).bind fun r6=>(
au (an .i64 (a2+1)) (
some (Sum.inl (a0,a1,(a2+1),r6.1,r6.2.1,a5,r6.2.2.1,r6.2.2.2.1,r6.2.2.2.2)))))))) (
some (Sum.inr (a0,a3,a4,a5,a6,a7,a8)))
theorem Hk (F77:t7)(F79 F78 F82:ow)(F83:t8)(F84:uc):Bt (FU F77 F79 F78 F82 F83 F84)=u9 (Bu F77 F79 F78 F82 F83 F84):=funext fun _=>by kernel_rfl
noncomputable def Hl:=Bu yO yQ yV yY y8 zc
noncomputable def Bv:IU:=ah (u9 Hl)
theorem Hm:l65_0 (FU yO yQ yV yY y8 zc)=Bv:=congrArg ah (Hk yO yQ yV yY y8 zc)
theorem LZ:L.Fn Try.prog 65 39 [(.t 6)] (erase JD):=oA Try.func65
def wO:FSh:=⟨⟨[(.st cH),(.v di),(.v y7)],[]⟩,[cH,di,y7],0,⟨⟨At,k4⟩,z9,[],5⟩,false⟩
noncomputable def NX (F77:t7)(F79 F78 F82:ow)(F83:t8)(F84:uc)(l65_0:IU)(a0:Y2×Int)(a1:List Y1)(a2:Int):Option pJ:=
(F77 a0).bind fun r1=>(
(F79 a1).bind fun r2=>(
(F78 r2).bind fun r3=>(
(F82 r3).bind fun r4=>(
(l65_0 (a2,(↑r4.length:Int),0,r1.1,r1.2.1,r4,r1.2.2.1,([]:List Int),r1.2.2.2)).bind fun y7=>(
(F83 (y7.1,y7.2.1,y7.2.2.1,y7.2.2.2.2.1,y7.2.2.2.2.2.1,y7.2.2.2.2.2.2)).bind fun r8=>(
some (r8.1,r8.2.1,r8.2.2.1,r8.2.2.2.1,r8.2.2.2.2)))))))
theorem Qt (F77:t7)(F79 F78 F82:ow)(F83:t8)(F84:uc):aQ (FU F77 F79 F78 F82 F83 F84) wO [(.t 6)] JD=u3 (NX F77 F79 F78 F82 F83 F84 (l65_0 (FU F77 F79 F78 F82 F83 F84))):=funext fun _=>by kernel_rfl
noncomputable def Qu:=NX yO yQ yV yY y8 zc Bv
noncomputable def xq:qQ:=u3 Qu
theorem Qv:aQ (FU yO yQ yV yY y8 zc) wO [(.t 6)] JD=xq:=(Qt yO yQ yV yY y8 zc).trans (by rw[Hm] <;> rfl)
theorem NY:DC Try.prog 65 wO xq:=dD Qv Qs LZ
noncomputable def Ma (F26:EY)(F60:Y5)(F65:qQ):List FEnt:=[⟨26,vV,F26⟩,⟨60,mu,F60⟩,⟨65,wO,F65⟩]
theorem Qw:am Try.prog (Ma xp P60 xq):=dK (dK (dK aa NY) Ec) NK
noncomputable def Mb:=cI Try.prog [] Try.f42 .n
theorem Mc:L.Fn Try.prog 42 36 [(.t 10),(.t 11)] (erase Mb):=oA Try.func42
def tZ:FSh:=⟨⟨j9,[]⟩,[cH,di,y7,y7,y7],0,⟨⟨[(.tup [.nilp,(.v y7)])],[]⟩,[y7],[],0⟩,true⟩
noncomputable def NZ (F26:EY)(F60:Y5)(F65:qQ)(a0:Y2×Int)(a1:List Y1)(a2 a3 a4:Int):Option Int:=
(F26 (a0,a1)).bind fun r1=>(
cond (!decide (r1=0)) (
some r1) (
(F60 (a2,0,9999)).bind fun r2=>(
cond (!r2) (
some 1) (
(F60 (a3,0,99)).bind fun r3=>(
cond (!r3) (
some 1) (
(F60 (a4,1,12)).bind fun r4=>(
cond (!r4) (
some 1) (
(F65 (a0,a1,a2)).bind fun r5=>(
none)))))))))
theorem Qx (F26:EY)(F60:Y5)(F65:qQ):aQ (Ma F26 F60 F65) tZ [(.t 10),(.t 11)] Mb=u5 (NZ F26 F60 F65):=funext fun _=>by kernel_rfl
noncomputable def Qy:=NZ xp P60 xq
noncomputable def sj:mz:=u5 Qy
theorem Qz:aQ (Ma xp P60 xq) tZ [(.t 10),(.t 11)] Mb=sj:=Qx xp P60 xq
theorem Md:DC Try.prog 42 tZ sj:=dD Qz Qw Mc
noncomputable def wP (F26:EY)(F60:Y5)(F65:qQ):List FEnt:=[⟨26,vV,F26⟩,⟨60,mu,F60⟩,⟨65,wO,F65⟩]
theorem Hn:am Try.prog (wP xp P60 xq):=dK (dK (dK aa NY) Ec) NK
noncomputable def wQ:=cI Try.prog [] Try.f42 .n
theorem EQ:L.Fn Try.prog 42 36 [(.t 10),(.t 11)] (erase wQ):=oA Try.func42
def jX:FSh:=⟨⟨j9,[]⟩,[cH,di,y7,y7,y7],0,⟨⟨[(.tup FI)],k4⟩,z8,[],5⟩,false⟩
noncomputable def Bw (F26:EY)(F60:Y5)(F65:qQ)(a0:Y2×Int)(a1:List Y1)(a2 a3 a4:Int):Option uu:=
(F26 (a0,a1)).bind fun r1=>(
cond (!decide (r1=0)) (
none) (
(F60 (a2,0,9999)).bind fun r2=>(
cond (!r2) (
none) (
(F60 (a3,0,99)).bind fun r3=>(
cond (!r3) (
none) (
(F60 (a4,1,12)).bind fun r4=>(
cond (!r4) (
none) (
(F65 (a0,a1,a2)).bind fun r5=>(
some (0,r5.1,r5.2.1,r5.2.2.1,r5.2.2.2.1,r5.2.2.2.2))))))))))
theorem Ho (F26:EY)(F60:Y5)(F65:qQ):aQ (wP F26 F60 F65) jX [(.t 10),(.t 11)] wQ=u5 (Bw F26 F60 F65):=funext fun _=>by kernel_rfl
noncomputable def Hp:=Bw xp P60 xq
noncomputable def eH:mA:=u5 Hp
theorem Hq:aQ (wP xp P60 xq) jX [(.t 10),(.t 11)] wQ=eH:=Ho xp P60 xq
theorem wR:DC Try.prog 42 jX eH:=dD Hq Hn EQ
noncomputable def Me (F42:mz)(F42v1:mA)(F43:kH):List FEnt:=[⟨42,tZ,F42⟩,⟨42,jX,F42v1⟩,⟨43,tW,F43⟩]
theorem QA:am Try.prog (Me sj eH pB):=dK (dK (dK aa LO) wR) Md
noncomputable def Mf:=cI Try.prog [] Try.f15 .n
theorem Mg:L.Fn Try.prog 15 30 [(.cell 8 true 4),(.t 9)] (erase Mf):=oA Try.func15
def zd:FSh:=⟨⟨[(.st cH),(.v di),(.v y7),(.v y7)],[]⟩,[cH,di,y7,y7],0,⟨⟨[(.tup [(.st mh),(.v y7)])],[]⟩,[mh,y7],[],0⟩,true⟩
noncomputable def N0 (F42:mz)(F42v1:mA)(F43:kH)(a0:Y2×Int)(a1:List Y1)(a2 a3:Int):Option IF:=
Gi (F42 (a0,a1,a2,a3,1)) (fun r1=>(
cond (!decide (r1=0)) (
some ((0,(0,(0,0))),r1)) (
none))) (
(F42v1 (a0,a1,a2,a3,1)).bind fun r2=>(
cond (!decide (r2.1=0)) (
some ((0,(0,(0,0))),r2.1)) (
(F43 (a3,r2.2.1,r2.2.2.1,r2.2.2.2.1,r2.2.2.2.2.1,r2.2.2.2.2.2)).bind fun r3=>(
some (((pd r3.2.2.2.2.2 r3.1).1,((pd r3.2.2.2.2.2 r3.1).2.1,((pd r3.2.2.2.2.2 r3.1).2.2.1,(pd r3.2.2.2.2.2 r3.1).2.2.2.1))),0)))))
theorem QB (F42:mz)(F42v1:mA)(F43:kH):aQ (Me F42 F42v1 F43) zd [(.cell 8 true 4),(.t 9)] Mf=u4 (N0 F42 F42v1 F43):=funext fun _=>by kernel_rfl
noncomputable def QC:=N0 sj eH pB
noncomputable def P15:zQ:=u4 QC
theorem QD:aQ (Me sj eH pB) zd [(.cell 8 true 4),(.t 9)] Mf=P15:=QB sj eH pB
theorem QE:DC Try.prog 15 zd P15:=dD QD QA Mg
noncomputable def Mh (F42:mz)(F42v1:mA)(F46:pK):List FEnt:=[⟨42,tZ,F42⟩,⟨42,jX,F42v1⟩,⟨46,sh46,F46⟩]
theorem QF:am Try.prog (Mh sj eH ue):=dK (dK (dK aa OK) wR) Md
noncomputable def Mi:=cI Try.prog [] Try.f21 .n
theorem Mj:L.Fn Try.prog 21 37 [(.t 8),(.t 9),(.t 10)] (erase Mi):=oA Try.func21
def ze:FSh:=⟨⟨[(.st cH),(.v di),(.v y7),(.v y7)],[]⟩,[cH,di,y7,y7],0,⟨⟨[(.tup Ke)],[]⟩,[y7,y7,y7],[],0⟩,true⟩
noncomputable def N1 (F42:mz)(F42v1:mA)(F46:pK)(a0:Y2×Int)(a1:List Y1)(a2 a3:Int):Option Iy:=
Gi (F42 (a0,a1,a2,0,a3)) (fun r1=>(
cond (!decide (r1=0)) (
some (0,0,r1)) (
none))) (
(F42v1 (a0,a1,a2,0,a3)).bind fun r2=>(
cond (!decide (r2.1=0)) (
some (0,0,r2.1)) (
(F46 (a3,r2.2.1,r2.2.2.1,r2.2.2.2.1,r2.2.2.2.2.1,r2.2.2.2.2.2)).bind fun r3=>(
cond (!r3.2.1) (
some (0,0,3)) (
some (r3.1.2.1,r3.1.2.2.1,0))))))
theorem QG (F42:mz)(F42v1:mA)(F46:pK):aQ (Mh F42 F42v1 F46) ze [(.t 8),(.t 9),(.t 10)] Mi=u4 (N1 F42 F42v1 F46):=funext fun _=>by kernel_rfl
noncomputable def QH:=N1 sj eH ue
noncomputable def P21:zR:=u4 QH
theorem QI:aQ (Mh sj eH ue) ze [(.t 8),(.t 9),(.t 10)] Mi=P21:=QG sj eH ue
theorem QJ:DC Try.prog 21 ze P21:=dD QI QF Mj
noncomputable def ER:List FEnt:=[]
theorem Ml:am Try.prog ER:=aa
noncomputable def ES:=cI Try.prog [] Try.f118 .n
theorem Hr:L.Fn Try.prog 118 6 [(.t 2)] (erase ES):=oA Try.func118
def sm:FSh:=⟨⟨pU,[]⟩,[y7],0,⟨⟨lf,[]⟩,[.bool],[],0⟩,true⟩
noncomputable def Hs (a0:Int):Option Bool:=
some (!decide (a0=a0))
theorem g118 (a0:Int):aQ ER sm [(.t 2)] ES a0=Hs a0:=by kernel_rfl
noncomputable def Mm:=Hs
noncomputable def t3:pV:=fun x=>Mm x
theorem Mn:aQ ER sm [(.t 2)] ES=t3:=funext fun x=>(g118 x)
theorem Mo:DC Try.prog 118 sm t3:=dD Mn Ml Hr
noncomputable def Mp (F118:pV):List FEnt:=[⟨118,sm,F118⟩]
theorem QK:am Try.prog (Mp t3):=dK aa Mo
noncomputable def Mq:=cI Try.prog [] Try.f91 .n
theorem Mr:L.Fn Try.prog 91 17 [(.t 4)] (erase Mq):=oA Try.func91
def zf:FSh:=⟨⟨[(.v y7),(.v y7)],[]⟩,[y7,y7],0,⟨⟨lf,[]⟩,[.bool],[],0⟩,true⟩
noncomputable def N2 (F118:pV)(a0 a1:Int):Option Bool:=
(F118 a0).bind fun r1=>(
cond r1 (
(F118 a1).bind fun r2=>(
cond (!r2) (
some true) (
some (decide (a0 < a1))))) (
some (decide (a0 < a1))))
theorem QL (F118:pV):aQ (Mp F118) zf [(.t 4)] Mq=u2 (N2 F118):=funext fun _=>by kernel_rfl
noncomputable def QM:=N2 t3
noncomputable def uq:pL:=u2 QM
theorem QN:aQ (Mp t3) zf [(.t 4)] Mq=uq:=QL t3
theorem QO:DC Try.prog 91 zf uq:=dD QN QK Mr
noncomputable def zg (F91:pL):List FEnt:=[⟨91,zf,F91⟩]
theorem QP:am Try.prog (zg uq):=dK aa QO
def Bx:LSh:=⟨[0,1,2,6,7],⟨[(.slc 0),(.v y7),(.v y7),(.v y7),(.v y7)],iH⟩,[y7,y7,y7,y7,y19],1,[0]⟩
def By:List XSh:=[⟨(.exit 2),[0,1,2,6],⟨⟨LV,iH⟩,[y7,y7,y7,y19],[0],1⟩⟩]
def Bz:LSh:=⟨[0,1,2,6],⟨LV,iH⟩,[y7,y7,y7,y19],1,[0]⟩
def BA:List XSh:=[⟨(.exit 0),[],⟨⟨[],iH⟩,[y19],[0],1⟩⟩]
noncomputable def Ht:=cI Try.prog [] Try.f85 (.s .n (.b (.l Bz BA (.s .n (.s (.b (.s .n (.b (.l Bx By .n)))) .n)))))
noncomputable def BB (T:List FEnt):=aV (xs:=By) Bx (bR T (sb [1,2,2,1,0,2,1,2,2] Ht))
noncomputable def l85_1 (T:List FEnt):=ah (BB T)
noncomputable def BC (F91:pL)(a0 a1 a2 a3:Int)(a4:List Int):Option (IG⊕E2):=
cond (decide (a0 < a3)) (
au (bF a3 a4.length) (
au (an .i64 (a3-1)) (
au (bF (a3-1) a4.length) (
(F91 ((ix a4 a3),(ix a4 (a3-1)))).bind fun r1=>(
cond r1 (
au (an .i64 (a3-1)) (
au (an .i64 (a3-1)) (
au (bF (a3-1) a4.length) (
au (bF a3 a4.length) (
au (bF a3 a4.length) (
au (bF (a3-1) (List.length (List.set a4 a3.toNat (ix a4 (a3-1))))) (
au (an .i64 (a3-1)) (
some (Sum.inl (a0,a1,a2,(a3-1),(List.set (List.set a4 a3.toNat (ix a4 (a3-1))) (Int.toNat (a3-1)) (ix a4 a3)))))))))))) (
some (Sum.inr (a0,a1,a2,a4)))))))) (
some (Sum.inr (a0,a1,a2,a4)))
theorem Hu (F91:pL):BB (zg F91)=u5 (BC F91):=funext fun _=>by kernel_rfl
noncomputable def Hv:=BC uq
noncomputable def BD:IK:=ah (u5 Hv)
theorem Hw:l85_1 (zg uq)=BD:=congrArg ah (Hu uq)
noncomputable def BE (T:List FEnt):=aV (xs:=BA) Bz (bR T (sb [1,2,2] Ht))
noncomputable def l85_0 (T:List FEnt):=ah (BE T)
noncomputable def BF (F91:pL)(l85_1:IK)(a0 a1 a2:Int)(a3:List Int):Option (E2⊕Y2):=
cond (decide (a2 < a1)) (
(l85_1 (a0,a1,a2,a2,a3)).bind fun y2=>(
au (an .i64 (y2.2.2.1+1)) (
some (Sum.inl (y2.1,y2.2.1,(y2.2.2.1+1),y2.2.2.2))))) (
some (Sum.inr a3))
theorem Hx (F91:pL):BE (zg F91)=u4 (BF F91 (l85_1 (zg F91))):=funext fun _=>by kernel_rfl
noncomputable def Hy:=BF uq BD
noncomputable def BG:t9:=ah (u4 Hy)
theorem Hz:l85_0 (zg uq)=BG:=congrArg ah ((Hx uq).trans (by rw[Hw] <;> rfl))
theorem Ms:L.Fn Try.prog 85 49 [] (erase Ht):=oA Try.func85
def zh:FSh:=⟨⟨[(.slc 0),(.v y7),(.v y7)],iH⟩,[y7,y7,y19],1,⟨⟨pT,iH⟩,[y19],[0],1⟩,false⟩
noncomputable def N3 (F91:pL)(l85_0:t9)(a0 a1:Int)(a2:List Int):Option Y2:=
au (an .i64 (a0+1)) (
(l85_0 (a0,a1,(a0+1),a2)).bind fun y3=>(
some y3))
theorem QQ (F91:pL):aQ (zg F91) zh [] Ht=u3 (N3 F91 (l85_0 (zg F91))):=funext fun _=>by kernel_rfl
noncomputable def QR:=N3 uq BG
noncomputable def ur:pM:=u3 QR
theorem QS:aQ (zg uq) zh [] Ht=ur:=(QQ uq).trans (by rw[Hz] <;> rfl)
theorem QT:DC Try.prog 85 zh ur:=dD QS QP Ms
noncomputable def zi (F85:pM):List FEnt:=[⟨85,zh,F85⟩]
theorem QU:am Try.prog (zi ur):=dK aa QT
def BH:LSh:=⟨[0,1,2,3,8,9,10],⟨j5,iH⟩,[y7,y7,y7,.bool,.bool,y7,y19],1,[0]⟩
def BI:List XSh:=[⟨.normal,[0,1,2,3,8,9,10],⟨⟨j5,iH⟩,[y7,y7,y7,.bool,.bool,y7,y19],[0],1⟩⟩]
def BJ:LSh:=⟨[0,1,2,3,8,9],⟨[(.slc 0),(.v y7),(.v y7),(.v y7),(.v .bool),(.v .bool)],iH⟩,[y7,y7,y7,.bool,.bool,y19],1,[0]⟩
def BK:List XSh:=[⟨.ret,[],⟨⟨[],iH⟩,[y19],[0],1⟩⟩]
noncomputable def HA:=cI Try.prog [] Try.f66 (.s .n (.s .n (.b (.l BJ BK (.b (.s .n (.s .n (.s .n (.s (.o BH BI .n) .n)))))))))
noncomputable def l66_1 (T:List FEnt):=kq (xs:=BI) BH (bR T (sb [1,1,2,2,2,1,1,1,0,2] HA))
noncomputable def BL (F85:pM)(a0 a1 a2:Int)(a3 a4:Bool)(a5:Int)(a6:List Int):Option IB:=
cond (!a3) (
none) (
some (a0,a1,a2,a3,a4,a5,a6))
theorem HB (F85:pM):l66_1 (zi F85)=u7 (BL F85):=funext fun _=>by kernel_rfl
noncomputable def HC:=BL ur
noncomputable def BM:IL:=fun x=>HC x.1 x.2.1 x.2.2.1 x.2.2.2.1 x.2.2.2.2.1 x.2.2.2.2.2.1 x.2.2.2.2.2.2
theorem HD:l66_1 (zi ur)=BM:=HB ur
noncomputable def BN (T:List FEnt):=aV (xs:=BK) BJ (bR T (sb [1,1,2,2] HA))
noncomputable def l66_0 (T:List FEnt):=ah (BN T)
noncomputable def BO (F85:pM)(l66_1:IL)(a0 a1 a2:Int)(a3 a4:Bool)(a5:List Int):Option ((Int×Int×Int×Bool×Bool×Y2)⊕Y2):=
au (an .i64 (a1-a0)) (
cond (decide ((a1-a0)≤12)) (
(F85 (a0,a1,a5)).bind fun r1=>(
some (Sum.inr r1))) (
cond (decide (a2=0)) (
none) (
(l66_1 (a0,a1,a2,a3,a4,(a1-a0),a5)).bind fun y2=>(
none))))
theorem HE (F85:pM):BN (zi F85)=u6 (BO F85 (l66_1 (zi F85))):=funext fun _=>by kernel_rfl
noncomputable def HF:=BO ur BM
noncomputable def BP:IA:=ah (u6 HF)
theorem HG:l66_0 (zi ur)=BP:=congrArg ah ((HE ur).trans (by rw[HD] <;> rfl))
theorem Mu:L.Fn Try.prog 66 134 [] (erase HA):=oA Try.func66
def zj:FSh:=⟨⟨LV,iH⟩,[y7,y7,y7,y19],1,⟨⟨pT,iH⟩,[y19],[0],1⟩,false⟩
noncomputable def N4 (F85:pM)(l66_0:IA)(a0 a1 a2:Int)(a3:List Int):Option Y2:=
(l66_0 (a0,a1,a2,true,true,a3)).bind fun y3=>(
some y3)
theorem QV (F85:pM):aQ (zi F85) zj [] HA=u4 (N4 F85 (l66_0 (zi F85))):=funext fun _=>by kernel_rfl
noncomputable def QW:=N4 ur BP
noncomputable def P66:t9:=u4 QW
theorem QX:aQ (zi ur) zj [] HA=P66:=(QV ur).trans (by rw[HG] <;> rfl)
theorem QY:DC Try.prog 66 zj P66:=dD QX QU Mu
noncomputable def Mw (F67:sO)(F66:t9):List FEnt:=[⟨67,tU,F67⟩,⟨66,zj,F66⟩]
theorem QZ:am Try.prog (Mw P67 P66):=dK (dK aa QY) Lj
noncomputable def Mx:=cI Try.prog [] Try.f44 .n
theorem My:L.Fn Try.prog 44 11 [] (erase Mx):=oA Try.func44
def zl:FSh:=⟨⟨rV,iH⟩,[y19],1,⟨⟨pT,iH⟩,[y19],[0],1⟩,false⟩
noncomputable def N5 (F67:sO)(F66:t9)(a0:List Int):Option Y2:=
au (an .u64 (↑a0.length:Int)) (
(F67 (↑a0.length:Int)).bind fun r1=>(
(F66 (0,(↑a0.length:Int),r1,a0)).bind fun r2=>(
some r2)))
theorem g44 (F67:sO)(F66:t9)(a0:List Int):aQ (Mw F67 F66) zl [] Mx a0=N5 F67 F66 a0:=by kernel_rfl
noncomputable def Q0:=N5 P67 P66
noncomputable def FX:kI:=fun x=>Q0 x
theorem Q1:aQ (Mw P67 P66) zl [] Mx=FX:=funext fun x=>(g44 P67 P66 x)
theorem Q2:DC Try.prog 44 zl FX:=dD Q1 QZ My
noncomputable def zm:List FEnt:=[]
theorem Q3:am Try.prog zm:=aa
def BQ:LSh:=⟨[0,3,4,5],⟨[(.slc 0),(.v y7),(.slo 0 1),(.v y7)],iH⟩,[y7,y7,y7,y7,y19],1,[0]⟩
def BR:List XSh:=[⟨(.exit 2),[0,3],⟨⟨AK,iH⟩,[y7,y19],[0],1⟩⟩]
def BS:LSh:=⟨[0,3],⟨AK,iH⟩,[y7,y19],1,[]⟩
def BT:List XSh:=[⟨.ret,[2],⟨⟨rV,iH⟩,[y19],[],1⟩⟩,⟨(.exit 0),[0],⟨⟨rV,iH⟩,[y19],[],1⟩⟩]
noncomputable def HH:=cI Try.prog [(7,{ch:=[0,0,1,0] }),(14,{ch:=[0,0,1,0] }),(15,{ch:=[0,0,2,0] })] Try.f45 (.s .n (.s .n (.s (.s .n (.b (.l BS BT (.s .n (.s (.b (.s .n (.s (.s .n (.s (.s .n (.b (.l BQ BR .n))) .n)) .n))) .n))))) .n)))
noncomputable def BU (T:List FEnt):=aV (xs:=BR) BQ (bR T (sb [1,1,0,1,2,2,1,0,2,1,0,1,0,1,2,2] HH))
noncomputable def l45_1 (T:List FEnt):=ah (BU T)
noncomputable def BV (a0 a1 a2 a3:Int)(a4:List Int):Option (IG⊕CB):=
cond (decide (a3 < (↑a2.toNat:Int))) (
au (bF a3 a2.toNat) (
au (an .i64 (a3-1)) (
au (bF (a3-1) a2.toNat) (
cond (!decide ((rA a4 (a1.toNat+Int.toNat a3))=(rA a4 (a1.toNat+Int.toNat (a3-1))))) (
au (bF a3 a2.toNat) (
au (bF a0 a4.length) (
au (an .i64 (a0+1)) (
au (an .i64 (a3+1)) (
some (Sum.inl ((a0+1),(↑a1.toNat:Int),(↑a2.toNat:Int),(a3+1),(List.set a4 a0.toNat (rA a4 (a1.toNat+Int.toNat a3)))))))))) (
au (an .i64 (a3+1)) (
some (Sum.inl (a0,(↑a1.toNat:Int),(↑a2.toNat:Int),(a3+1),a4)))))))) (
some (Sum.inr (a0,a4)))
theorem HI:BU zm=u5 BV:=funext fun _=>by kernel_rfl
noncomputable def HJ:=BV
noncomputable def BW:IM:=ah (u5 HJ)
theorem HK:l45_1 zm=BW:=congrArg ah HI
noncomputable def BX (T:List FEnt):=aV (xs:=BT) BS (bR T (sb [1,1,0,1,2,2] HH))
noncomputable def l45_0 (T:List FEnt):=ah (BX T)
noncomputable def BY (l45_1:IM)(a0:Int)(a1:List Int):Option (CB⊕IH):=
cond (decide (a0 < (↑a1.length:Int))) (
au (bF a0 a1.length) (
au (an .i64 (a0-1)) (
au (bF (a0-1) a1.length) (
cond (decide ((ix a1 a0)=(ix a1 (a0-1)))) (
au (decide (0≤a0)) (
au (decide (a0≤(↑a1.length:Int))) (
au (decide ((↑a1.length:Int)≤(↑a1.length:Int))) (
au (decide (0 < List.length a1)) (
(l45_1 (a0,(↑a0.toNat:Int),(↑(Int.toNat ((↑a1.length:Int)-a0)):Int),1,a1)).bind fun y1=>(
au (decide (0≤y1.1)) (
au (decide (y1.1≤(↑y1.2.length:Int))) (
au (decide ((↑y1.2.length:Int)≤(↑y1.2.length:Int))) (
au (decide (0 < List.length y1.2)) (
au (decide (0≤y1.1)) (
au (decide (y1.1≤(↑(List.length (nX y1.2 y1.1.toNat (Int.toNat ((↑y1.2.length:Int)-y1.1)) 0)):Int))) (
au (decide (0 < List.length (nX y1.2 y1.1.toNat (Int.toNat ((↑y1.2.length:Int)-y1.1)) 0))) (
some (Sum.inr (Sum.inl (List.take y1.1.toNat (nX y1.2 y1.1.toNat (Int.toNat ((↑y1.2.length:Int)-y1.1)) 0))))))))))))))))) (
au (an .i64 (a0+1)) (
some (Sum.inl ((a0+1),a1)))))))) (
some (Sum.inr (Sum.inr a1)))
theorem g45_0:BX zm=u2 (BY (l45_1 zm)):=funext fun _=>by kernel_rfl
noncomputable def HL:=BY BW
noncomputable def BZ:IN:=ah (u2 HL)
theorem v45_0:l45_0 zm=BZ:=congrArg ah (g45_0.trans (by rw[HK] <;> rfl))
theorem Mz:L.Fn Try.prog 45 61 [(.t 2)] (erase HH):=oA Try.func45
def zn:FSh:=⟨⟨rV,iH⟩,[y19],1,⟨⟨rV,iH⟩,[y19],[],1⟩,false⟩
noncomputable def N6 (l45_0:IN)(a0:List Int):Option Y2:=
cond (decide ((↑a0.length:Int) < 2)) (
some a0) (
(l45_0 (1,a0)).bind (fun y2=>Sum.elim (fun y3=>(
some y3)) (fun y4=>(
some y4)) y2))
theorem g45 (a0:List Int):aQ zm zn [(.t 2)] HH a0=N6 (l45_0 zm) a0:=by kernel_rfl
noncomputable def Q4:=N6 BZ
noncomputable def FY:kI:=fun x=>Q4 x
theorem Q5:aQ zm zn [(.t 2)] HH=FY:=funext fun x=>(g45 x).trans (by rw[v45_0] <;> rfl)
theorem Q6:DC Try.prog 45 zn FY:=dD Q5 Q3 Mz
noncomputable def MA (F42:mz)(F42v1:mA)(F44:kI)(F45:kI):List FEnt:=[⟨42,tZ,F42⟩,⟨42,jX,F42v1⟩,⟨44,zl,F44⟩,⟨45,zn,F45⟩]
theorem Q7:am Try.prog (MA sj eH FX FY):=dK (dK (dK (dK aa Q6) Q2) wR) Md
noncomputable def MB:=cI Try.prog [] Try.f16 .n
theorem MC:L.Fn Try.prog 16 30 [(.t 6),(.t 7)] (erase MB):=oA Try.func16
def zo:FSh:=⟨⟨[(.st cH),(.v di),(.v y7)],[]⟩,[cH,di,y7],0,⟨⟨[(.tup AK)],iH⟩,[y7,y19],[],1⟩,true⟩
noncomputable def N7 (F42:mz)(F42v1:mA)(F44 F45:kI)(a0:Y2×Int)(a1:List Y1)(a2:Int):Option CB:=
Gi (F42 (a0,a1,a2,0,1)) (fun r1=>(
cond (!decide (r1=0)) (
some (r1,([]:List Int))) (
none))) (
(F42v1 (a0,a1,a2,0,1)).bind fun r2=>(
cond (!decide (r2.1=0)) (
some (r2.1,([]:List Int))) (
(F44 r2.2.2.2.2.1).bind fun r3=>(
(F45 r3).bind fun r4=>(
some (0,r4))))))
theorem Q8 (F42:mz)(F42v1:mA)(F44 F45:kI):aQ (MA F42 F42v1 F44 F45) zo [(.t 6),(.t 7)] MB=u3 (N7 F42 F42v1 F44 F45):=funext fun _=>by kernel_rfl
noncomputable def Q9:=N7 sj eH FX FY
noncomputable def P16:zS:=u3 Q9
theorem Ra:aQ (MA sj eH FX FY) zo [(.t 6),(.t 7)] MB=P16:=Q8 sj eH FX FY
theorem Rb:DC Try.prog 16 zo P16:=dD Ra Q7 MC
noncomputable def FZ:List FEnt:=[]
theorem Rc:am Try.prog FZ:=aa
def B0:LSh:=⟨[0,1,5],⟨[(.v y19),(.v y19),(.v y7)],[]⟩,[y19,y19,y7],0,[]⟩
def B1:List XSh:=[⟨.ret,[4],⟨⟨lf,[]⟩,[.bool],[],0⟩⟩,⟨(.exit 0),[],⟨⟨[],[]⟩,[],[],0⟩⟩]
noncomputable def JE:=cI Try.prog [] Try.f20 (.s .n (.s .n (.s (.s .n (.b (.l B0 B1 .n))) .n)))
noncomputable def B2 (T:List FEnt):=aV (xs:=B1) B0 (bR T (sb [1,1,0,1,2,2] JE))
noncomputable def l20_0 (T:List FEnt):=ah (B2 T)
noncomputable def B3 (a0 a1:List Int)(a2:Int):Option ((Y2×Y2×Int)⊕Iz):=
cond (decide (a2 < (↑a0.length:Int))) (
au (bF a2 a0.length) (
au (bF a2 a1.length) (
cond (!decide ((ix a0 a2)=(ix a1 a2))) (
some (Sum.inr (Sum.inl false))) (
au (an .i64 (a2+1)) (
some (Sum.inl (a0,a1,(a2+1)))))))) (
some (Sum.inr (Sum.inr ())))
theorem HM:B2 FZ=u3 B3:=funext fun _=>by kernel_rfl
noncomputable def HN:=B3
noncomputable def B4:IC:=ah (u3 HN)
theorem HO:l20_0 FZ=B4:=congrArg ah HM
theorem MD:L.Fn Try.prog 20 26 [(.t 4)] (erase JE):=oA Try.func20
def zp:FSh:=⟨⟨[(.v y19),(.v y19)],[]⟩,EL,0,⟨⟨lf,[]⟩,[.bool],[],0⟩,true⟩
noncomputable def N8 (l20_0:IC)(a0 a1:List Int):Option Bool:=
cond (!decide ((↑a0.length:Int)=(↑a1.length:Int))) (
some false) (
(l20_0 (a0,a1,0)).bind (fun y1=>Sum.elim (fun y2=>(
some y2)) (fun y3=>(
some true)) y1))
theorem g20:aQ FZ zp [(.t 4)] JE=u2 (N8 (l20_0 FZ)):=funext fun _=>by kernel_rfl
noncomputable def Rd:=N8 B4
noncomputable def P20:zN:=u2 Rd
theorem Re:aQ FZ zp [(.t 4)] JE=P20:=g20.trans (by rw[HO] <;> rfl)
theorem Rf:DC Try.prog 20 zp P20:=dD Re Rc MD
noncomputable def ME (F41:zK)(F15:zQ)(F21:zR)(F16:zS)(F20:zN):List FEnt:=[⟨41,yH,F41⟩,⟨15,zd,F15⟩,⟨21,ze,F21⟩,⟨16,zo,F16⟩,⟨20,zp,F20⟩]
theorem Rh:am Try.prog (ME P41 P15 P21 P16 P20):=dK (dK (dK (dK (dK aa Rf) Rb) QJ) QE) Pk
noncomputable def MF:=cI Try.prog [] Try.f14 (.s .n (.s .n (.s .n (.s .n (.s .n (.s (.r [.a 25 false y7]) .n))))))
theorem MG:L.Fn Try.prog 14 61 [(.t 0)] (erase MF):=oA Try.func14
def zq:FSh:=⟨⟨[],[]⟩,[],0,⟨⟨lf,[]⟩,[.bool],[],0⟩,true⟩
noncomputable def N9 (F41:zK)(F15:zQ)(F21:zR)(F16:zS)(F20:zN):Option Bool:=
(F41 ()).bind fun r1=>(
(F15 ((r1.2.1,r1.1),r1.2.2,12,2)).bind fun r2=>(
(F21 ((r1.2.1,r1.1),r1.2.2,1,1)).bind fun r3=>(
(F16 ((r1.2.1,r1.1),r1.2.2,12)).bind fun r4=>(
cond (decide (r2.2=0)) (
cond (decide (r3.2.2=0)) (
cond (decide (r4.1=0)) (
cond (((decide (r2.1.1=4)&&decide (r2.1.2.1=(-1)))&&decide (r2.1.2.2.1=(-1)))&&decide (r2.1.2.2.2=2)) (
cond (decide (r3.1=0)) (
cond (decide (r3.2.1=4)) (
(F20 (r4.2,([2]:List Int))).bind fun r5=>(
some r5)) (
some false)) (
some false)) (
some false)) (
some false)) (
some false)) (
some false)))))
theorem g14 (F41:zK)(F15:zQ)(F21:zR)(F16:zS)(F20:zN):aQ (ME F41 F15 F21 F16 F20) zq [(.t 0)] MF ()=N9 F41 F15 F21 F16 F20:=by kernel_rfl
noncomputable def Ri:Option Bool:=N9 P41 P15 P21 P16 P20
noncomputable def B5:zO:=fun x=>Ri
theorem Rj:aQ (ME P41 P15 P21 P16 P20) zq [(.t 0)] MF=B5:=funext fun x=>(g14 P41 P15 P21 P16 P20)
theorem Rk:DC Try.prog 14 zq B5:=dD Rj Rh MG
noncomputable def F0 (F57:Y5):List FEnt:=[⟨57,tS,F57⟩]
theorem Rl:am Try.prog (F0 P57):=dK aa Ky
def B6:LSh:=⟨[0,3],⟨FK,[]⟩,[y19,y7],0,[]⟩
def B7:List XSh:=[⟨.ret,[2],⟨⟨lf,[]⟩,[.bool],[],0⟩⟩,⟨(.exit 0),[0],⟨⟨[(.v y19)],[]⟩,[y19],[],0⟩⟩]
noncomputable def JF:=cI Try.prog [] Try.f38 (.s .n (.s (.s .n (.b (.l B6 B7 .n))) .n))
noncomputable def B8 (T:List FEnt):=aV (xs:=B7) B6 (bR T (sb [1,0,1,2,2] JF))
noncomputable def l38_0 (T:List FEnt):=ah (B8 T)
noncomputable def nu (F57:Y5)(a0:List Int)(a1:Int):Option (pW⊕II):=
cond (decide (a1 < (↑a0.length:Int))) (
au (bF a1 a0.length) (
(F57 ((ix a0 a1),1,12)).bind fun r1=>(
cond (!r1) (
some (Sum.inr (Sum.inl false))) (
au (an .i64 (a1+1)) (
some (Sum.inl (a0,(a1+1)))))))) (
some (Sum.inr (Sum.inr a0)))
theorem HP (F57:Y5):B8 (F0 F57)=u2 (nu F57):=funext fun _=>by kernel_rfl
noncomputable def B9:=nu P57
noncomputable def so:IP:=ah (u2 B9)
theorem v38_0:l38_0 (F0 P57)=so:=congrArg ah (HP P57)
theorem MH:L.Fn Try.prog 38 19 [(.t 2)] (erase JF):=oA Try.func38
def zt:FSh:=⟨⟨[(.v y19)],[]⟩,[y19],0,⟨⟨lf,[]⟩,[.bool],[],0⟩,true⟩
noncomputable def JG (F57:Y5)(l38_0:IP)(a0:List Int):Option Bool:=
(l38_0 (a0,0)).bind (fun y2=>Sum.elim (fun y3=>(
some y3)) (fun y4=>(
some (decide ((↑y4.length:Int)≤12)))) y2)
theorem g38 (F57:Y5)(a0:List Int):aQ (F0 F57) zt [(.t 2)] JF a0=JG F57 (l38_0 (F0 F57)) a0:=by kernel_rfl
noncomputable def Rm:=JG P57 so
noncomputable def Ca:sM:=fun x=>Rm x
theorem Rn:aQ (F0 P57) zt [(.t 2)] JF=Ca:=funext fun x=>(g38 P57 x).trans (by rw[v38_0] <;> rfl)
theorem Ro:DC Try.prog 38 zt Ca:=dD Rn Rl MH
noncomputable def MI (F60:Y5):List FEnt:=[⟨60,mu,F60⟩]
theorem Rp:am Try.prog (MI P60):=dK aa Ec
noncomputable def MJ:=cI Try.prog [] Try.f59 .n
theorem MK:L.Fn Try.prog 59 6 [(.t 2)] (erase MJ):=oA Try.func59
def zu:FSh:=⟨⟨pU,[]⟩,[y7],0,⟨⟨lf,[]⟩,[.bool],[],0⟩,true⟩
noncomputable def JH (F60:Y5)(a0:Int):Option Bool:=
(F60 (a0,1,12)).bind fun r1=>(
some (!r1))
theorem g59 (F60:Y5)(a0:Int):aQ (MI F60) zu [(.t 2)] MJ a0=JH F60 a0:=by kernel_rfl
noncomputable def Rq:=JH P60
noncomputable def P59:pV:=fun x=>Rq x
theorem Rr:aQ (MI P60) zu [(.t 2)] MJ=P59:=funext fun x=>(g59 P60 x)
theorem Rs:DC Try.prog 59 zu P59:=dD Rr Rp MK
noncomputable def nv (F59:pV):List FEnt:=[⟨59,zu,F59⟩]
theorem HQ:am Try.prog (nv P59):=dK aa Rs
def sr:LSh:=⟨[0,1,7,8],⟨[(.v y19),(.fn 59 []),(.v y7),(.v y7)],[]⟩,[y19,y7,y7],0,[]⟩
noncomputable def ss:=cI Try.prog [] Try.f74 (.s .n (.s (.s .n (.b (.l sr nq .n))) .n))
noncomputable def su (T:List FEnt):=aV (xs:=nq) sr (bR T (sb [1,0,1,2,2] ss))
noncomputable def l74v1_0 (T:List FEnt):=ah (su T)
noncomputable def gM (F59:pV)(a0:List Int)(a1 a2:Int):Option OB:=
cond (decide (a2 < a1)) (
au (bF a2 a0.length) (
(F59 (ix a0 a2)).bind fun r1=>(
cond r1 (
some (Sum.inr (Sum.inl a2))) (
au (an .i64 (a2+1)) (
some (Sum.inl (a0,a1,(a2+1)))))))) (
some (Sum.inr (Sum.inr ())))
theorem zw (F59:pV):su (nv F59)=u3 (gM F59):=funext fun _=>by kernel_rfl
noncomputable def sx:=gM P59
noncomputable def gN:JW:=ah (u3 sx)
theorem v74v1_0:l74v1_0 (nv P59)=gN:=congrArg ah (zw P59)
theorem ET:L.Fn Try.prog 74 19 [(.t 4)] (erase ss):=oA Try.func74
def ou:FSh:=⟨⟨[(.v y19),(.fn 59 [])],[]⟩,[y19],0,⟨⟨pU,[]⟩,[y7],[],0⟩,true⟩
noncomputable def nw (F59:pV)(l74v1_0:JW)(a0:List Int):Option Int:=
(l74v1_0 (a0,(↑a0.length:Int),0)).bind (fun y2=>Sum.elim (fun y3=>(
some y3)) (fun y4=>(
some (-1))) y2)
theorem g74v1 (F59:pV)(a0:List Int):aQ (nv F59) ou [(.t 4)] ss a0=nw F59 (l74v1_0 (nv F59)) a0:=by kernel_rfl
noncomputable def HS:=nw P59 gN
noncomputable def P74v1:ut:=fun x=>HS x
theorem HU:aQ (nv P59) ou [(.t 4)] ss=P74v1:=funext fun x=>(g74v1 P59 x).trans (by rw[v74v1_0] <;> rfl)
theorem HV:DC Try.prog 74 ou P74v1:=dD HU HQ ET
noncomputable def wS (F74v1:ut):List FEnt:=[⟨74,ou,F74v1⟩]
theorem HW:am Try.prog (wS P74v1):=dK aa HV
noncomputable def wT:=cI Try.prog [] Try.f58 .n
theorem EU:L.Fn Try.prog 58 9 [(.t 4)] (erase wT):=oA Try.func58
def ov:FSh:=⟨⟨[(.v y19),(.fn 59 [])],[]⟩,[y19],0,⟨⟨lf,[]⟩,[.bool],[],0⟩,true⟩
noncomputable def sy (F74v1:ut)(a0:List Int):Option Bool:=
(F74v1 a0).bind fun r1=>(
some (decide (0≤r1)))
theorem g58v1 (F74v1:ut)(a0:List Int):aQ (wS F74v1) ov [(.t 4)] wT a0=sy F74v1 a0:=by kernel_rfl
noncomputable def HX:=sy P74v1
noncomputable def fk:sM:=fun x=>HX x
theorem HY:aQ (wS P74v1) ov [(.t 4)] wT=fk:=funext fun x=>(g58v1 P74v1 x)
theorem HZ:DC Try.prog 58 ov fk:=dD HY HW EU
noncomputable def ML:List FEnt:=[]
theorem Rt:am Try.prog ML:=aa
noncomputable def MM:=cI Try.prog [] Try.f62 .n
theorem MN:L.Fn Try.prog 62 15 [(.t 5)] (erase MM):=oA Try.func62
def zx:FSh:=⟨⟨[(.v y7),(.v y7),(.elm y19)],[]⟩,[y7,y7,y19],0,⟨⟨pU,[]⟩,[y7],[],0⟩,true⟩
noncomputable def JI (a0 a1:Int)(a2:List Int):Option Int:=
au (bF a1 a2.length) (
au (bF a0 a2.length) (
au (an .i64 ((ix a2 a1)-(ix a2 a0))) (
some ((ix a2 a1)-(ix a2 a0)))))
theorem Ru:aQ ML zx [(.t 5)] MM=u3 JI:=funext fun _=>by kernel_rfl
noncomputable def Rv:=JI
noncomputable def P62:pN:=u3 Rv
theorem Rw:aQ ML zx [(.t 5)] MM=P62:=Ru
theorem Rx:DC Try.prog 62 zx P62:=dD Rw Rt MN
noncomputable def zy (F62:pN):List FEnt:=[⟨62,zx,F62⟩]
theorem Ry:am Try.prog (zy P62):=dK aa Rx
def Cb:LSh:=⟨[0,1,2,3,8,9],⟨[(.slc 0),(.v y7),(.v y7),(.fn 62 Hj),(.v y7),(.v y7)],si⟩,[y7,y7,y7,y7,y19,y19],2,[0,1]⟩
def Cc:List XSh:=[⟨(.exit 2),[0,1,2,3,8],⟨⟨j6,si⟩,LU,[0,1],2⟩⟩]
def Cd:LSh:=⟨[0,1,2,3,8],⟨j6,si⟩,LU,2,[0,1]⟩
def Ce:List XSh:=[⟨(.exit 0),[],⟨⟨[],si⟩,EL,[0,1],2⟩⟩]
noncomputable def H0:=cI Try.prog [] Try.f98 (.s .n (.b (.l Cd Ce (.s .n (.s (.b (.s .n (.b (.l Cb Cc .n)))) .n)))))
noncomputable def Cf (T:List FEnt):=aV (xs:=Cc) Cb (bR T (sb [1,2,2,1,0,2,1,2,2] H0))
noncomputable def l98_1 (T:List FEnt):=ah (Cf T)
noncomputable def q98_1 (F62:pN)(a0 a1 a2 a3:Int)(a4 a5:List Int):Option ((Int×Int×Int×Int×Y2×Y2)⊕E3):=
cond (decide (a0 < a3)) (
au (bF a3 a4.length) (
au (an .i64 (a3-1)) (
au (bF (a3-1) a4.length) (
(F62 ((ix a4 a3),(ix a4 (a3-1)),a5)).bind fun r1=>(
cond (decide (r1 < 0)) (
au (an .i64 (a3-1)) (
au (an .i64 (a3-1)) (
au (bF (a3-1) a4.length) (
au (bF a3 a4.length) (
au (bF a3 a4.length) (
au (bF (a3-1) (List.length (List.set a4 a3.toNat (ix a4 (a3-1))))) (
au (an .i64 (a3-1)) (
some (Sum.inl (a0,a1,a2,(a3-1),(List.set (List.set a4 a3.toNat (ix a4 (a3-1))) (Int.toNat (a3-1)) (ix a4 a3)),a5)))))))))) (
some (Sum.inr (a0,a1,a2,a4,a5)))))))) (
some (Sum.inr (a0,a1,a2,a4,a5)))
theorem H1 (F62:pN):Cf (zy F62)=u6 (q98_1 F62):=funext fun _=>by kernel_rfl
noncomputable def Cg:=q98_1 P62
noncomputable def pH:IQ:=ah (u6 Cg)
theorem H2:l98_1 (zy P62)=pH:=congrArg ah (H1 P62)
noncomputable def Ch (T:List FEnt):=aV (xs:=Ce) Cd (bR T (sb [1,2,2] H0))
noncomputable def l98_0 (T:List FEnt):=ah (Ch T)
noncomputable def pI (F62:pN)(l98_1:IQ)(a0 a1 a2:Int)(a3 a4:List Int):Option (E3⊕ox):=
cond (decide (a2 < a1)) (
(l98_1 (a0,a1,a2,a2,a3,a4)).bind fun y2=>(
au (an .i64 (y2.2.2.1+1)) (
some (Sum.inl (y2.1,y2.2.1,(y2.2.2.1+1),y2.2.2.2.1,y2.2.2.2.2))))) (
some (Sum.inr (a3,a4)))
theorem H3 (F62:pN):Ch (zy F62)=u5 (pI F62 (l98_1 (zy F62))):=funext fun _=>by kernel_rfl
noncomputable def Ci:=pI P62 pH
noncomputable def sA:ua:=ah (u5 Ci)
theorem H4:l98_0 (zy P62)=sA:=congrArg ah ((H3 P62).trans (by rw[H2] <;> rfl))
theorem MO:L.Fn Try.prog 98 53 [] (erase H0):=oA Try.func98
def zz:FSh:=⟨⟨[(.slc 0),(.v y7),(.v y7),(.fn 62 Hj)],si⟩,[y7,y7,y19,y19],2,⟨⟨pT,si⟩,EL,[0,1],2⟩,false⟩
noncomputable def JJ (F62:pN)(l98_0:ua)(a0 a1:Int)(a2 a3:List Int):Option ox:=
au (an .i64 (a0+1)) (
(l98_0 (a0,a1,(a0+1),a2,a3)).bind fun y3=>(
some (y3.1,y3.2)))
theorem Rz (F62:pN):aQ (zy F62) zz [] H0=u4 (JJ F62 (l98_0 (zy F62))):=funext fun _=>by kernel_rfl
noncomputable def RA:=JJ P62 sA
noncomputable def qP:pO:=u4 RA
theorem RB:aQ (zy P62) zz [] H0=qP:=(Rz P62).trans (by rw[H4] <;> rfl)
theorem RE:DC Try.prog 98 zz qP:=dD RB Ry MO
noncomputable def zA (F98:pO):List FEnt:=[⟨98,zz,F98⟩]
theorem RF:am Try.prog (zA qP):=dK aa RE
def Cj:LSh:=⟨[0,1,2,3,4,10,11,12],⟨j3,si⟩,z6,2,[0,1]⟩
def Ck:List XSh:=[⟨.normal,[0,1,2,3,4,10,11,12],⟨⟨j3,si⟩,z6,[0,1],2⟩⟩]
def Cl:LSh:=⟨[0,1,2,3,4,10,11],⟨[(.slc 0),(.v y7),(.v y7),(.v y7),(.fn 62 Hj),(.v .bool),(.v .bool)],si⟩,[y7,y7,y7,.bool,.bool,y19,y19],2,[0,1]⟩
def Cm:List XSh:=[⟨.ret,[],⟨⟨[],si⟩,EL,[0,1],2⟩⟩]
noncomputable def H5:=cI Try.prog [] Try.f75 (.s .n (.s .n (.b (.l Cl Cm (.b (.s .n (.s .n (.s .n (.s (.o Cj Ck .n) .n)))))))))
noncomputable def l75_1 (T:List FEnt):=kq (xs:=Ck) Cj (bR T (sb [1,1,2,2,2,1,1,1,0,2] H5))
noncomputable def Cn (F98:pO)(a0 a1 a2:Int)(a3 a4:Bool)(a5:Int)(a6 a7:List Int):Option ID:=
cond (!a3) (
none) (
some (a0,a1,a2,a3,a4,a5,a6,a7))
theorem H6 (F98:pO):l75_1 (zA F98)=u8 (Cn F98):=funext fun _=>by kernel_rfl
noncomputable def H7:=Cn qP
noncomputable def wU:IS:=fun x=>H7 x.1 x.2.1 x.2.2.1 x.2.2.2.1 x.2.2.2.2.1 x.2.2.2.2.2.1 x.2.2.2.2.2.2.1 x.2.2.2.2.2.2.2
theorem H8:l75_1 (zA qP)=wU:=H6 qP
noncomputable def Co (T:List FEnt):=aV (xs:=Cm) Cl (bR T (sb [1,1,2,2] H5))
noncomputable def l75_0 (T:List FEnt):=ah (Co T)
noncomputable def sB (F98:pO)(l75_1:IS)(a0 a1 a2:Int)(a3 a4:Bool)(a5 a6:List Int):Option ((Int×Int×Int×Bool×Bool×Y2×Y2)⊕ox):=
au (an .i64 (a1-a0)) (
cond (decide ((a1-a0)≤12)) (
(F98 (a0,a1,a5,a6)).bind fun r1=>(
some (Sum.inr (r1.1,r1.2)))) (
cond (decide (a2=0)) (
none) (
(l75_1 (a0,a1,a2,a3,a4,(a1-a0),a5,a6)).bind fun y2=>(
none))))
theorem H9 (F98:pO):Co (zA F98)=u7 (sB F98 (l75_1 (zA F98))):=funext fun _=>by kernel_rfl
noncomputable def Ia:=sB qP wU
noncomputable def sC:IT:=ah (u7 Ia)
theorem Ib:l75_0 (zA qP)=sC:=congrArg ah ((H9 qP).trans (by rw[H8] <;> rfl))
theorem MP:L.Fn Try.prog 75 148 [] (erase H5):=oA Try.func75
def zB:FSh:=⟨⟨[(.slc 0),(.v y7),(.v y7),(.v y7),(.fn 62 Hj)],si⟩,LU,2,⟨⟨pT,si⟩,EL,[0,1],2⟩,false⟩
noncomputable def JK (F98:pO)(l75_0:IT)(a0 a1 a2:Int)(a3 a4:List Int):Option ox:=
(l75_0 (a0,a1,a2,true,true,a3,a4)).bind fun y3=>(
some (y3.1,y3.2))
theorem RG (F98:pO):aQ (zA F98) zB [] H5=u5 (JK F98 (l75_0 (zA F98))):=funext fun _=>by kernel_rfl
noncomputable def RH:=JK qP sC
noncomputable def Cp:ua:=u5 RH
theorem RI:aQ (zA qP) zB [] H5=Cp:=(RG qP).trans (by rw[Ib] <;> rfl)
theorem RJ:DC Try.prog 75 zB Cp:=dD RI RF MP
noncomputable def MQ (F67:sO)(F75:ua):List FEnt:=[⟨67,tU,F67⟩,⟨75,zB,F75⟩]
theorem RK:am Try.prog (MQ P67 Cp):=dK (dK aa RJ) Lj
noncomputable def MS:=cI Try.prog [] Try.f61 .n
theorem MT:L.Fn Try.prog 61 14 [] (erase MS):=oA Try.func61
def zC:FSh:=⟨⟨[(.slc 0),(.fn 62 Hj)],si⟩,EL,2,⟨⟨pT,si⟩,EL,[0,1],2⟩,false⟩
noncomputable def JL (F67:sO)(F75:ua)(a0 a1:List Int):Option ox:=
au (an .u64 (↑a0.length:Int)) (
(F67 (↑a0.length:Int)).bind fun r1=>(
(F75 (0,(↑a0.length:Int),r1,a0,a1)).bind fun r2=>(
some (r2.1,r2.2))))
theorem RL (F67:sO)(F75:ua):aQ (MQ F67 F75) zC [] MS=u2 (JL F67 F75):=funext fun _=>by kernel_rfl
noncomputable def RM:=JL P67 Cp
noncomputable def P61:ub:=u2 RM
theorem RN:aQ (MQ P67 Cp) zC [] MS=P61:=RL P67 Cp
theorem RO:DC Try.prog 61 zC P61:=dD RN RK MT
noncomputable def MU:List FEnt:=[]
theorem RP:am Try.prog MU:=aa
noncomputable def MV:=cI Try.prog [] Try.f63 (.s .n (.s .n (.s (.r [.a 0 false y7,.a 2 false y7]) .n)))
theorem MW:L.Fn Try.prog 63 8 [(.t 2)] (erase MV):=oA Try.func63
def zD:FSh:=⟨⟨[(.v y19)],[]⟩,[y19],0,⟨⟨rV,iH⟩,[y19],[],1⟩,true⟩
noncomputable def JM (a0:List Int):Option Y2:=
vj (decide (List.length a0=0)) (
some ([]:List Int)) (
au (cp 8 (List.length ([]:List Int)+List.length a0)) (
some (([]:List Int)++a0)))
theorem g63 (a0:List Int):aQ MU zD [(.t 2)] MV a0=JM a0:=by kernel_rfl
noncomputable def RQ:=JM
noncomputable def sD:kI:=fun x=>RQ x
theorem RR:aQ MU zD [(.t 2)] MV=sD:=funext fun x=>(g63 x)
theorem RS:DC Try.prog 63 zD sD:=dD RR RP MW
noncomputable def t4:List FEnt:=[]
theorem MX:am Try.prog t4:=aa
def wV:LSh:=⟨[0,1,7,8],⟨[(.v y19),(.v y7),(.v y7),(.v y7)],[]⟩,[y19,y7,y7,y7],0,[]⟩
noncomputable def zE:=cI Try.prog [] Try.f106 (.s .n (.s (.s .n (.b (.l wV nq .n))) .n))
noncomputable def wW (T:List FEnt):=aV (xs:=nq) wV (bR T (sb [1,0,1,2,2] zE))
noncomputable def l106_0 (T:List FEnt):=ah (wW T)
noncomputable def jY (a0:List Int)(a1 a2 a3:Int):Option ((Y2×Int×Int×Int)⊕JU):=
cond (decide (a3 < a2)) (
au (bF a3 a0.length) (
cond (decide (a1=(ix a0 a3))) (
some (Sum.inr (Sum.inl a3))) (
au (an .i64 (a3+1)) (
some (Sum.inl (a0,a1,a2,(a3+1))))))) (
some (Sum.inr (Sum.inr ())))
theorem EV:wW t4=u4 jY:=funext fun _=>by kernel_rfl
noncomputable def wX:=jY
noncomputable def jZ:IE:=ah (u4 wX)
theorem EW:l106_0 t4=jZ:=congrArg ah EV
theorem Ic:L.Fn Try.prog 106 19 [(.t 4)] (erase zE):=oA Try.func106
def sE:FSh:=⟨⟨FK,[]⟩,[y19,y7],0,⟨⟨pU,[]⟩,[y7],[],0⟩,true⟩
noncomputable def t5 (l106_0:IE)(a0:List Int)(a1:Int):Option Int:=
(l106_0 (a0,a1,(↑a0.length:Int),0)).bind (fun y1=>Sum.elim (fun y2=>(
some y2)) (fun y3=>(
some (-1))) y1)
theorem g106:aQ t4 sE [(.t 4)] zE=u2 (t5 (l106_0 t4)):=funext fun _=>by kernel_rfl
noncomputable def MY:=t5 jZ
noncomputable def P106:zP:=u2 MY
theorem MZ:aQ t4 sE [(.t 4)] zE=P106:=g106.trans (by rw[EW] <;> rfl)
theorem M0:DC Try.prog 106 sE P106:=dD MZ MX Ic
noncomputable def M1 (F106:zP):List FEnt:=[⟨106,sE,F106⟩]
theorem RT:am Try.prog (M1 P106):=dK aa M0
noncomputable def M2:=cI Try.prog [] Try.f76 .n
theorem M3:L.Fn Try.prog 76 9 [(.t 4)] (erase M2):=oA Try.func76
def zF:FSh:=⟨⟨FK,[]⟩,[y19,y7],0,⟨⟨lf,[]⟩,[.bool],[],0⟩,true⟩
noncomputable def JN (F106:zP)(a0:List Int)(a1:Int):Option Bool:=
(F106 (a0,a1)).bind fun r1=>(
some (decide (0≤r1)))
theorem RU (F106:zP):aQ (M1 F106) zF [(.t 4)] M2=u2 (JN F106):=funext fun _=>by kernel_rfl
noncomputable def RW:=JN P106
noncomputable def P76:mw:=u2 RW
theorem RX:aQ (M1 P106) zF [(.t 4)] M2=P76:=RU P106
theorem RY:DC Try.prog 76 zF P76:=dD RX RT M3
end Go.Proofs.Ytdkaijofmigmbaa.D
