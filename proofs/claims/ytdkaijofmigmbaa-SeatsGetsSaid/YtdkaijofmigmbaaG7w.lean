import Derived.Test.YtdkaijofmigmbaaG6w
import Derived.Test.YtdkaijofmigmbaaProg
set_option linter.unusedVariables false
set_option maxRecDepth 100000
namespace Go.Proofs.Ytdkaijofmigmbaa.D
open Go Go.Proofs Go.Proofs.Ytdkaijofmigmbaa.L
def z17:List Ty:=[y7,y7,.bool,cG]
def TP:List Ty:=[aU,aZ,jg]
def j36:List RSh:=[(.v y19),(.v y7),(.v y7)]
def j34:List RSh:=[(.v y7),(.v y7),(.v .bool)]
def j29:List RSh:=[(.slr 0),(.slc 1),(.slc 2),(.slc 3)]
def TQ:List RSh:=[(.st aU),(.v aZ),(.st jg)]
def yx:List (Nat×OSh):=[(0,(.rows 22 3 y7))]
def k11:List (Nat×OSh):=[(0,(.box [(.slr 1),(.slc 2),(.slc 3),(.slc 4)])),(1,(.rows 22 3 y7)),(2,(.row 32 fq)),(3,(.row 3 y7)),(4,(.row 3 y7))]
def Zh:List (Nat×OSh):=[(0,(.rows 22 3 y7)),(1,(.row 32 fq)),(2,(.row 3 y7)),(3,(.row 3 y7))]
def k5:List (Nat×OSh):=[(0,(.boxT aU)),(1,(.box [(.slr 2),(.slc 3),(.slc 4),(.slc 5)])),(2,(.rows 22 3 y7)),(3,(.row 32 fq)),(4,(.row 3 y7)),(5,(.row 3 y7))]
def k1:List (Nat×OSh):=[(0,(.boxT aU)),(1,(.box [.emp,.emp,.emp,.emp])),(2,(.box [(.slr 4),(.slc 5),(.slc 6),(.slc 7)])),(3,(.boxT cZ)),(4,(.rows 22 3 y7)),(5,(.row 32 fq)),(6,(.row 3 y7)),(7,(.row 3 y7))]
def k2:List (Nat×OSh):=[(0,(.boxT aU)),(1,(.box [.emp,.emp,.emp,.emp])),(2,(.box [(.slr 3),(.slc 4),(.slc 5),(.slc 6)])),(3,(.rows 22 3 y7)),(4,(.row 32 fq)),(5,(.row 3 y7)),(6,(.row 3 y7))]
def Zi:List (Nat×OSh):=[(0,(.rows 22 3 y7)),(1,(.rows 22 3 y7))]
noncomputable def T47:List FEnt:=[]
theorem t47:ak Try.prog T47:=ai
noncomputable def c47:=bK Try.prog [] Try.f47 .n
theorem ok47:L.Fn Try.prog 47 20 [(.t 4)] (erase c47):=oA Try.func47
def G4:FSh:=⟨⟨WN,[]⟩,[y19,y7],0,⟨⟨fG,[]⟩,[.bool],[],0⟩,true⟩
noncomputable def q47 (a0:List Int)(a1:Int):Option Bool:=
cond (decide (0≤a1)) (
cond (decide (a1 < (↑a0.length:Int))) (
ah (aA a1 a0.length) (
some (decide ((ix a0 a1)=(-1))))) (
some false)) (
some false)
theorem g47:aK T47 G4 [(.t 4)] c47=u2 q47:=funext fun _=>by kernel_rfl
noncomputable def p47:=q47
noncomputable def uo:lY:=u2 p47
theorem v47:aK T47 G4 [(.t 4)] c47=uo:=g47
theorem d47:DC Try.prog 47 G4 uo:=dD v47 t47 ok47
noncomputable def VW (F47:lY):List FEnt:=[⟨47,G4,F47⟩]
theorem t22:ak Try.prog (VW uo):=dK ai d47
def O0:LSh:=⟨[0,1,2,7],⟨[(.v y19),(.v y7),(.v y7),(.v y7)],[]⟩,[y19,y7,y7,y7],0,[]⟩
def O3:List XSh:=[⟨.ret,[6],⟨⟨fG,[]⟩,[.bool],[],0⟩⟩,⟨(.exit 0),[],⟨⟨[],[]⟩,[],[],0⟩⟩]
noncomputable def c22:=bK Try.prog [] Try.f22 (.s .n (.s (.s .n (.b (.l O0 O3 .n))) .n))
noncomputable def O4 (T:List FEnt):=aB (xs:=O3) O0 (bc T (sb [1,0,1,2,2] c22))
noncomputable def l22_0 (T:List FEnt):=aa (O4 T)
noncomputable def sd (F47:lY)(a0:List Int)(a1 a2 a3:Int):Option ((Y2×Int×Int×Int)⊕we):=
ah (af .i64 (a1+a2)) (
cond (decide (a3 < (a1+a2))) (
(F47 (a0,a3)).bind fun r1=>(
cond (!r1) (
some (Sum.inr (Sum.inl false))) (
ah (af .i64 (a3+1)) (
some (Sum.inl (a0,a1,a2,(a3+1))))))) (
some (Sum.inr (Sum.inr ()))))
theorem Zj (F47:lY):O4 (VW F47)=u4 (sd F47):=funext fun _=>by kernel_rfl
noncomputable def O5:=sd uo
noncomputable def AP:Y340:=aa (u4 O5)
theorem Zk:l22_0 (VW uo)=AP:=congrArg aa (Zj uo)
theorem ok22:L.Fn Try.prog 22 20 [(.t 6)] (erase c22):=oA Try.func22
def G5:FSh:=⟨⟨j36,[]⟩,WM,0,⟨⟨fG,[]⟩,[.bool],[],0⟩,true⟩
noncomputable def q22 (F47:lY)(l22_0:Y340)(a0:List Int)(a1 a2:Int):Option Bool:=
(l22_0 (a0,a1,a2,a1)).bind (fun y2=>Sum.elim (fun y3=>(
some y3)) (fun y4=>(
some true)) y2)
theorem g22 (F47:lY):aK (VW F47) G5 [(.t 6)] c22=u3 (q22 F47 (l22_0 (VW F47))):=funext fun _=>by kernel_rfl
noncomputable def p22:=q22 uo AP
noncomputable def P22:fH:=u3 p22
theorem v22:aK (VW uo) G5 [(.t 6)] c22=P22:=(g22 uo).trans (by rw[Zk] <;> rfl)
theorem d22:DC Try.prog 22 G5 P22:=dD v22 t22 ok22
noncomputable def T23 (F47:lY):List FEnt:=[⟨47,G4,F47⟩]
theorem t23:ak Try.prog (T23 uo):=dK ai d47
noncomputable def c23:=bK Try.prog [] Try.f23 .n
theorem ok23:L.Fn Try.prog 23 36 [(.t 6)] (erase c23):=oA Try.func23
def G6:FSh:=⟨⟨j36,[]⟩,WM,0,⟨⟨fG,[]⟩,[.bool],[],0⟩,true⟩
noncomputable def q23 (F47:lY)(a0:List Int)(a1 a2:Int):Option Bool:=
ah (af .i64 (a1-1)) (
ah (af .i64 (a1+a2)) (
(F47 (a0,(a1-1))).bind fun r1=>(
cond r1 (
ah (af .i64 ((a1-1)-1)) (
(F47 (a0,((a1-1)-1))).bind fun r2=>(
cond (!r2) (
some true) (
(F47 (a0,(a1+a2))).bind fun r3=>(
cond r3 (
ah (af .i64 ((a1+a2)+1)) (
(F47 (a0,((a1+a2)+1))).bind fun r4=>(
some (!r4)))) (
some false)))))) (
(F47 (a0,(a1+a2))).bind fun r5=>(
cond r5 (
ah (af .i64 ((a1+a2)+1)) (
(F47 (a0,((a1+a2)+1))).bind fun r6=>(
some (!r6)))) (
some false))))))
theorem g23 (F47:lY):aK (T23 F47) G6 [(.t 6)] c23=u3 (q23 F47):=funext fun _=>by kernel_rfl
noncomputable def p23:=q23 uo
noncomputable def P23:fH:=u3 p23
theorem v23:aK (T23 uo) G6 [(.t 6)] c23=P23:=g23 uo
theorem d23:DC Try.prog 23 G6 P23:=dD v23 t23 ok23
noncomputable def C7 (F22:fH)(F23:fH):List FEnt:=[⟨22,G5,F22⟩,⟨23,G6,F23⟩]
theorem t56:ak Try.prog (C7 P22 P23):=dK (dK ai d23) d22
def O6:LSh:=⟨[0,1,7,8,9],⟨[(.slr 0),(.v y7),(.v y7),(.v y7),(.v y7)],yx⟩,[y7,y7,y7,y7,cG],1,[0]⟩
def O7:List XSh:=[⟨.ret,[4,5,6],⟨⟨j34,yx⟩,z17,[0],1⟩⟩,⟨(.exit 4),[0,1,7,8],⟨⟨[(.slr 0),(.v y7),(.v y7),(.v y7)],yx⟩,[y7,y7,y7,cG],[0],1⟩⟩]
def O8:LSh:=⟨[0,1,7,8],⟨[(.slr 0),(.v y7),(.v y7),(.v y7)],yx⟩,[y7,y7,y7,cG],1,[0]⟩
def O9:List XSh:=[⟨.ret,[4,5,6],⟨⟨j34,yx⟩,z17,[0],1⟩⟩,⟨(.exit 2),[0,1,7],⟨⟨[(.slr 0),(.v y7),(.v y7)],yx⟩,[y7,y7,cG],[0],1⟩⟩]
def Pa:LSh:=⟨[0,1,7],⟨[(.slr 0),(.v y7),(.v y7)],yx⟩,[y7,y7,cG],1,[0]⟩
def Pb:List XSh:=[⟨.ret,[4,5,6],⟨⟨j34,yx⟩,z17,[0],1⟩⟩,⟨(.exit 0),[],⟨⟨[],yx⟩,[cG],[0],1⟩⟩]
noncomputable def VX:=bK Try.prog [] Try.f56 (.s .n (.s (.s .n (.b (.l Pa Pb (.s .n (.s (.b (.s .n (.b (.l O8 O9 (.s .n (.s (.b (.s .n (.b (.l O6 O7 .n)))) .n)))))) .n))))) .n))
noncomputable def Pc (T:List FEnt):=aB (xs:=O7) O6 (bc T (sb [1,0,1,2,2,1,0,2,1,2,2,1,0,2,1,2,2] VX))
noncomputable def l56_2 (T:List FEnt):=aa (Pc T)
noncomputable def Pd (F22 F23:fH)(a0 a1 a2 a3:Int)(a4:List Y2):Option ((Int×Int×Int×Int×Y9)⊕Y384):=
ah (af .i64 (a3+a0)) (
ah (aA a2 a4.length) (
cond (decide ((a3+a0)≤(↑(List.length (ix a4 a2)):Int))) (
ah (aA a2 a4.length) (
(F22 ((ix a4 a2),a3,a0)).bind fun r1=>(
cond r1 (
cond (decide (a1=1)) (
some (Sum.inr (Sum.inl (a2,a3,true,a4)))) (
ah (aA a2 a4.length) (
(F23 ((ix a4 a2),a3,a0)).bind fun r2=>(
cond (!r2) (
some (Sum.inr (Sum.inl (a2,a3,true,a4)))) (
ah (af .i64 (a3+1)) (
some (Sum.inl (a0,a1,a2,(a3+1),a4)))))))) (
ah (af .i64 (a3+1)) (
some (Sum.inl (a0,a1,a2,(a3+1),a4))))))) (
some (Sum.inr (Sum.inr (a0,a1,a2,a4))))))
theorem Zl (F22 F23:fH):Pc (C7 F22 F23)=u5 (Pd F22 F23):=funext fun _=>by kernel_rfl
noncomputable def Zm:=Pd P22 P23
noncomputable def Pe:Y395:=aa (u5 Zm)
theorem Zn:l56_2 (C7 P22 P23)=Pe:=congrArg aa (Zl P22 P23)
noncomputable def Pf (T:List FEnt):=aB (xs:=O9) O8 (bc T (sb [1,0,1,2,2,1,0,2,1,2,2] VX))
noncomputable def l56_1 (T:List FEnt):=aa (Pf T)
noncomputable def Pg (F22 F23:fH)(l56_2:Y395)(a0 a1 a2:Int)(a3:List Y2):Option (Y345⊕Y385):=
cond (decide (a2 < (↑a3.length:Int))) (
(l56_2 (a0,a1,a2,0,a3)).bind (fun y3=>Sum.elim (fun y4=>(
some (Sum.inr (Sum.inl (y4.1,y4.2.1,y4.2.2.1,y4.2.2.2))))) (fun y5=>(
ah (af .i64 (y5.2.2.1+1)) (
some (Sum.inl (y5.1,y5.2.1,(y5.2.2.1+1),y5.2.2.2))))) y3)) (
some (Sum.inr (Sum.inr (a0,a1,a3))))
theorem Zo (F22 F23:fH):Pf (C7 F22 F23)=u4 (Pg F22 F23 (l56_2 (C7 F22 F23))):=funext fun _=>by kernel_rfl
noncomputable def Zp:=Pg P22 P23 Pe
noncomputable def Ph:Y396:=aa (u4 Zp)
theorem Zq:l56_1 (C7 P22 P23)=Ph:=congrArg aa ((Zo P22 P23).trans (by rw[Zn] <;> rfl))
noncomputable def Pj (T:List FEnt):=aB (xs:=Pb) Pa (bc T (sb [1,0,1,2,2] VX))
noncomputable def l56_0 (T:List FEnt):=aa (Pj T)
noncomputable def Pk (F22 F23:fH)(l56_1:Y396)(a0 a1:Int)(a2:List Y2):Option (Y346⊕Y386):=
cond (decide (a1 < 2)) (
(l56_1 (a0,a1,0,a2)).bind (fun y6=>Sum.elim (fun y7=>(
some (Sum.inr (Sum.inl (y7.1,y7.2.1,y7.2.2.1,y7.2.2.2))))) (fun y8=>(
ah (af .i64 (y8.2.1+1)) (
some (Sum.inl (y8.1,(y8.2.1+1),y8.2.2))))) y6)) (
some (Sum.inr (Sum.inr a2)))
theorem Zr (F22 F23:fH):Pj (C7 F22 F23)=u3 (Pk F22 F23 (l56_1 (C7 F22 F23))):=funext fun _=>by kernel_rfl
noncomputable def Zs:=Pk P22 P23 Ph
noncomputable def Pl:Y397:=aa (u3 Zs)
theorem Zt:l56_0 (C7 P22 P23)=Pl:=congrArg aa ((Zr P22 P23).trans (by rw[Zq] <;> rfl))
theorem ok56:L.Fn Try.prog 56 54 [(.t 4),(.t 5),(.t 6)] (erase VX):=oA Try.func56
def Kq:FSh:=⟨⟨[(.slr 0),(.v y7)],yx⟩,[y7,cG],1,⟨⟨[(.tup j34)],yx⟩,z17,[0],1⟩,false⟩
noncomputable def q56 (F22 F23:fH)(l56_0:Y397)(a0:Int)(a1:List Y2):Option Hj:=
(l56_0 (a0,0,a1)).bind (fun y9=>Sum.elim (fun y10=>(
some (y10.1,y10.2.1,y10.2.2.1,y10.2.2.2))) (fun y11=>(
some (0,0,false,y11))) y9)
theorem g56 (F22 F23:fH):aK (C7 F22 F23) Kq [(.t 4),(.t 5),(.t 6)] VX=u2 (q56 F22 F23 (l56_0 (C7 F22 F23))):=funext fun _=>by kernel_rfl
noncomputable def p56:=q56 P22 P23 Pl
noncomputable def C8:wh:=u2 p56
theorem v56:aK (C7 P22 P23) Kq [(.t 4),(.t 5),(.t 6)] VX=C8:=(g56 P22 P23).trans (by rw[Zt] <;> rfl)
theorem d56:DC Try.prog 56 Kq C8:=dD v56 t56 ok56
noncomputable def lX:List FEnt:=[]
theorem Zu:ak Try.prog lX:=ai
def AQ:LSh:=⟨[1,2,3,6,7],⟨[(.v y7),(.v y7),(.ptr 0 0),(.v y7),(.v y7)],k11⟩,[y7,y7,y7,y7,cG,ij,y19,y19],5,[0,1,2,3,4]⟩
def AR:List XSh:=[⟨(.exit 2),[1,2,3,6],⟨⟨[(.v y7),(.v y7),(.ptr 0 0),(.v y7)],k11⟩,[y7,y7,y7,cG,ij,y19,y19],[0,1,2,3,4],5⟩⟩]
def AS:LSh:=⟨[1,2,3,6],⟨[(.v y7),(.v y7),(.ptr 0 0),(.v y7)],k11⟩,[y7,y7,y7,cG,ij,y19,y19],5,[0,1,2,3,4]⟩
def AT:List XSh:=[⟨(.exit 0),[1,2,3],⟨⟨[(.v y7),(.v y7),(.ptr 0 0)],k11⟩,[y7,y7,cG,ij,y19,y19],[0,1,2,3,4],5⟩⟩]
noncomputable def vX:=bK Try.prog [] Try.f73 (.s .n (.s (.s .n (.b (.l AS AT (.s .n (.s (.b (.s .n (.b (.l AQ AR .n)))) .n))))) .n))
noncomputable def AU (T:List FEnt):=aB (xs:=AR) AQ (bc T (sb [1,0,1,2,2,1,0,2,1,2,2] vX))
noncomputable def l73v1_1 (T:List FEnt):=aa (AU T)
noncomputable def AW (a0 a1 a2 a3:Int)(a4:List Y2)(a5:List Y4)(a6 a7:List Int):Option ((Int×Int×Int×Int×Y9×fY×Y2×Y2)⊕Ub):=
ah (aA a2 a4.length) (
cond (decide (a3 < (↑(List.length (ix a4 a2)):Int))) (
ah (aA a2 a4.length) (
ah (aA a3 (List.length (ix a4 a2))) (
cond (decide ((ix (ix a4 a2) a3)=a0)) (
ah (aA a2 a4.length) (
ah (aA a3 (List.length (ix a4 a2))) (
ah (af .i64 (a3+1)) (
some (Sum.inl (a0,a1,a2,(a3+1),(List.set a4 a2.toNat (List.set (ix a4 a2) a3.toNat (-1))),a5,a6,a7)))))) (
ah (af .i64 (a3+1)) (
some (Sum.inl (a0,a1,a2,(a3+1),a4,a5,a6,a7))))))) (
some (Sum.inr (a0,a1,a2,a4,a5,a6,a7))))
theorem Kr:AU lX=u8 AW:=funext fun _=>by kernel_rfl
noncomputable def Ks:=AW
noncomputable def AX:Y372:=aa (u8 Ks)
theorem Kt:l73v1_1 lX=AX:=congrArg aa Kr
noncomputable def AY (T:List FEnt):=aB (xs:=AT) AS (bc T (sb [1,0,1,2,2] vX))
noncomputable def l73v1_0 (T:List FEnt):=aa (AY T)
noncomputable def AZ (l73v1_1:Y372)(a0 a1 a2:Int)(a3:List Y2)(a4:List Y4)(a5 a6:List Int):Option (Ub⊕Y348):=
cond (decide (a2 < (↑a3.length:Int))) (
(l73v1_1 (a0,a1,a2,0,a3,a4,a5,a6)).bind fun y1=>(
ah (af .i64 (y1.2.2.1+1)) (
some (Sum.inl (y1.1,y1.2.1,(y1.2.2.1+1),y1.2.2.2.1,y1.2.2.2.2.1,y1.2.2.2.2.2.1,y1.2.2.2.2.2.2))))) (
some (Sum.inr (a0,a1,a3,a4,a5,a6)))
theorem g73v1_0:AY lX=u7 (AZ (l73v1_1 lX)):=funext fun _=>by kernel_rfl
noncomputable def Ku:=AZ AX
noncomputable def A0:Y373:=aa (u7 Ku)
theorem Kv:l73v1_0 lX=A0:=congrArg aa (g73v1_0.trans (by rw[Kt] <;> rfl))
theorem TR:L.Fn Try.prog 73 54 [] (erase vX):=oA Try.func73
def pY:FSh:=⟨⟨[(.agg j29),(.v y7),(.v y7)],Zh⟩,[y7,y7,cG,ij,y19,y19],4,⟨⟨pR,Zh⟩,[cG,ij,y19,y19],[0,1,2,3],4⟩,false⟩
noncomputable def Pm (l73v1_0:Y373)(a0 a1:Int)(a2:List Y2)(a3:List Y4)(a4 a5:List Int):Option CJ:=
(l73v1_0 (a0,a1,0,a2,a3,a4,a5)).bind fun y2=>(
ah (aA y2.1 y2.2.2.2.1.length) (
ah (aA y2.1 y2.2.2.2.1.length) (
some (y2.2.2.1,(List.set y2.2.2.2.1 y2.1.toNat (y2.2.1,((-1),((-1),(ix y2.2.2.2.1 y2.1).2.2.2)))),y2.2.2.2.2.1,y2.2.2.2.2.2))))
theorem g73v1:aK lX pY [] vX=u6 (Pm (l73v1_0 lX)):=funext fun _=>by kernel_rfl
noncomputable def Zv:=Pm A0
noncomputable def eE:nk:=u6 Zv
theorem Zw:aK lX pY [] vX=eE:=g73v1.trans (by rw[Kv] <;> rfl)
theorem Pn:DC Try.prog 73 pY eE:=dD Zw Zu TR
noncomputable def se (F73v1:nk):List FEnt:=[⟨73,pY,F73v1⟩]
theorem Zx:ak Try.prog (se eE):=dK ai Pn
def A1:LSh:=⟨[2,3,4,6],⟨[(.v y7),(.ptr 0 0),(.ptr 1 0),(.v y7)],k5⟩,[y7,y7,aU,cG,ij,y19,y19],6,[0,1,2,3,4,5]⟩
def A2:List XSh:=[⟨(.exit 0),[],⟨⟨[],k5⟩,[aU,cG,ij,y19,y19],[0,1,2,3,4,5],6⟩⟩]
noncomputable def A3:=bK Try.prog [] Try.f72 (.s .n (.s .n (.b (.l A1 A2 .n))))
noncomputable def A4 (T:List FEnt):=aB (xs:=A2) A1 (bc T (sb [1,1,2,2] A3))
noncomputable def l72v1_0 (T:List FEnt):=aa (A4 T)
noncomputable def A5 (F73v1:nk)(a0 a1:Int)(a2:Y2×Int)(a3:List Y2)(a4:List Y4)(a5 a6:List Int):Option ((Int×Int×dC×Y9×fY×Y2×Y2)⊕Y350):=
cond (decide (a1 < (↑a4.length:Int))) (
ah (aA a1 a4.length) (
cond (decide ((ix a4 a1).1=2)) (
ah (aA a1 a5.length) (
ah (af .i64 ((ix a5 a1)+a2.2)) (
cond (decide (((ix a5 a1)+a2.2)≤a0)) (
(F73v1 (a1,4,a3,a4,a5,a6)).bind fun r1=>(
ah (af .i64 (a1+1)) (
some (Sum.inl (a0,(a1+1),a2,r1.1,r1.2.1,r1.2.2.1,r1.2.2.2))))) (
ah (af .i64 (a1+1)) (
some (Sum.inl (a0,(a1+1),a2,a3,a4,a5,a6))))))) (
ah (af .i64 (a1+1)) (
some (Sum.inl (a0,(a1+1),a2,a3,a4,a5,a6)))))) (
some (Sum.inr (a2,a3,a4,a5,a6)))
theorem Kw (F73v1:nk):A4 (se F73v1)=u7 (A5 F73v1):=funext fun _=>by kernel_rfl
noncomputable def Kx:=A5 eE
noncomputable def A6:Y375:=aa (u7 Kx)
theorem Ky:l72v1_0 (se eE)=A6:=congrArg aa (Kw eE)
theorem TS:L.Fn Try.prog 72 36 [] (erase A3):=oA Try.func72
def tM:FSh:=⟨⟨[(.st aU),(.agg j29),(.v y7)],Zh⟩,[aU,y7,cG,ij,y19,y19],4,⟨⟨pR,Zh⟩,[cG,ij,y19,y19],[0,1,2,3],4⟩,false⟩
noncomputable def Po (F73v1:nk)(l72v1_0:Y375)(a0:Y2×Int)(a1:Int)(a2:List Y2)(a3:List Y4)(a4 a5:List Int):Option CJ:=
(l72v1_0 (a1,0,a0,a2,a3,a4,a5)).bind fun y2=>(
some (y2.2.1,y2.2.2.1,y2.2.2.2.1,y2.2.2.2.2))
theorem Zy (F73v1:nk):aK (se F73v1) tM [] A3=u6 (Po F73v1 (l72v1_0 (se F73v1))):=funext fun _=>by kernel_rfl
noncomputable def Zz:=Po eE A6
noncomputable def i7:wj:=u6 Zz
theorem ZA:aK (se eE) tM [] A3=i7:=(Zy eE).trans (by rw[Ky] <;> rfl)
theorem ZB:DC Try.prog 72 tM i7:=dD ZA Zx TS
noncomputable def Kz (F70:wg)(F71:nj)(F72v1:wj)(F56:wh)(F73v1:nk):List FEnt:=[⟨70,Kn,F70⟩,⟨71,Kp,F71⟩,⟨72,tM,F72v1⟩,⟨56,Kq,F56⟩,⟨73,pY,F73v1⟩]
theorem t52:ak Try.prog (Kz C6 yw i7 C8 eE):=dK (dK (dK (dK (dK ai Pn) d56) ZB) d71) d70
def Pp:LSh:=⟨[2,3,6,7,8,9,10,12,13,15],⟨[(.v y7),(.ptr 0 0),(.ptr 1 0),(.ptr 2 0),(.v aZ),(.v y7),(.ptr 3 0),(.v y7),(.v y7),(.v y7)],k1⟩,[y7,aZ,y7,y7,y7,y7,aU,cZ,cG,ij,y19,y19],8,[0,1,2,3,4,5,6,7]⟩
def Pq:List XSh:=[⟨(.exit 3),[2,3,6,7,8,9,10,12,13],⟨⟨[(.v y7),(.ptr 0 0),(.ptr 1 0),(.ptr 2 0),(.v aZ),(.v y7),(.ptr 3 0),(.v y7),(.v y7)],k1⟩,[y7,aZ,y7,y7,y7,aU,cZ,cG,ij,y19,y19],[0,1,2,3,4,5,6,7],8⟩⟩]
def Pr:LSh:=⟨[2,3,6,7,8,9],⟨[(.v y7),(.ptr 0 0),(.ptr 1 0),(.ptr 2 0),(.v aZ),(.v y7)],k2⟩,[y7,aZ,y7,aU,cG,ij,y19,y19],7,[0,1,2,3,4,5]⟩
def Ps:List XSh:=[⟨(.exit 0),[2,3,6,7],⟨⟨[(.v y7),(.ptr 0 0),(.ptr 1 0),(.ptr 2 0)],k2⟩,[y7,aU,cG,ij,y19,y19],[0,1,2,3,4,5],7⟩⟩]
noncomputable def ZC:=bK Try.prog [] Try.f52 (.s .n (.s .n (.s .n (.s (.s .n (.b (.l Pr Ps (.s .n (.s (.b (.s .n (.s .n (.s .n (.s .n (.s .n (.b (.s .n (.s (.s .n (.s .n (.s .n (.s (.s .n (.b (.l Pp Pq .n))) .n)))) (.s .n (.s (.s .n (.s .n (.r [.a 4 false y7,.a 5 false y7]))) .n))))))))))) .n))))) .n))))
noncomputable def Pt (T:List FEnt):=aB (xs:=Pq) Pp (bc T (sb [1,1,1,0,1,2,2,1,0,2,1,1,1,1,1,2,1,0,1,1,1,0,1,2,2] ZC))
noncomputable def l52_1 (T:List FEnt):=aa (Pt T)
noncomputable def Pu (F70:wg)(F71:nj)(F72v1:wj)(F56:wh)(F73v1:nk)(a0:Int)(a1:List Y1)(a2 a3 a4 a5:Int)(a6:Y2×Int)(a7:Y1)(a8:List Y2)(a9:List Y4)(a10 a11:List Int):Option ((Int×Y8×Int×Int×Int×Int×dC×Y1×Y9×fY×Y2×Y2)⊕Y351):=
ah (af .i64 (a4+a7.2.2.2.2)) (
cond (decide (a5 < (a4+a7.2.2.2.2))) (
ah (aA a3 a8.length) (
ah (aA a5 (List.length (ix a8 a3))) (
ah (af .i64 (a5+1)) (
some (Sum.inl (a0,a1,a2,a3,a4,(a5+1),a6,a7,(List.set a8 a3.toNat (List.set (ix a8 a3) a5.toNat a7.2.2.2.1)),a9,a10,a11)))))) (
some (Sum.inr (a0,a1,a2,a3,a4,a6,a7,a8,a9,a10,a11))))
theorem ZD (F70:wg)(F71:nj)(F72v1:wj)(F56:wh)(F73v1:nk):Pt (Kz F70 F71 F72v1 F56 F73v1)=u12 (Pu F70 F71 F72v1 F56 F73v1):=funext fun _=>by kernel_rfl
noncomputable def ZE:=Pu C6 yw i7 C8 eE
noncomputable def Pv:Y377:=aa (u12 ZE)
theorem ZF:l52_1 (Kz C6 yw i7 C8 eE)=Pv:=congrArg aa (ZD C6 yw i7 C8 eE)
noncomputable def Pw (T:List FEnt):=aB (xs:=Ps) Pr (bc T (sb [1,1,1,0,1,2,2] ZC))
noncomputable def l52_0 (T:List FEnt):=aa (Pw T)
noncomputable def Px (F70:wg)(F71:nj)(F72v1:wj)(F56:wh)(F73v1:nk)(l52_1:Y377)(a0:Int)(a1:List Y1)(a2:Int)(a3:Y2×Int)(a4:List Y2)(a5:List Y4)(a6 a7:List Int):Option ((Int×Y8×Int×dC×Y9×fY×Y2×Y2)⊕Y352):=
cond (decide (a2 < (↑a1.length:Int))) (
ah (aA a2 a1.length) (
cond (decide (a0 < (ix a1 a2).2.1)) (
some (Sum.inr (a0,a3,a4,a5,a6,a7))) (
(F72v1 (a3,(ix a1 a2).2.1,a4,a5,a6,a7)).bind fun r3=>(
ah (aA ((ix a1 a2).2.2.2.1) r3.2.1.length) (
cond (decide ((ix a1 a2).2.2.1=1)) (
cond (!decide ((ix r3.2.1 ((ix a1 a2).2.2.2.1)).1=0)) (
ah (af .i64 (a2+1)) (
some (Sum.inl (a0,a1,(a2+1),a3,r3.1,r3.2.1,r3.2.2.1,r3.2.2.2)))) (
(F56 ((ix a1 a2).2.2.2.2,r3.1)).bind fun r4=>(
cond (!r4.2.2.1) (
ah (aA ((ix a1 a2).2.2.2.1) r3.2.1.length) (
ah (af .i64 (a2+1)) (
some (Sum.inl (a0,a1,(a2+1),a3,r4.2.2.2,(List.set r3.2.1 (Int.toNat ((ix a1 a2).2.2.2.1)) (1,((-1),((-1),(ix a1 a2).2.2.2.2)))),r3.2.2.1,r3.2.2.2))))) (
(l52_1 (a0,a1,a2,r4.1,r4.2.1,r4.2.1,a3,(ix a1 a2),r4.2.2.2,r3.2.1,r3.2.2.1,r3.2.2.2)).bind fun y5=>(
ah (aA y5.2.2.2.2.2.2.1.2.2.2.1 y5.2.2.2.2.2.2.2.2.1.length) (
ah (aA y5.2.2.2.2.2.2.1.2.2.2.1 y5.2.2.2.2.2.2.2.2.2.1.length) (
ah (af .i64 (y5.2.2.1+1)) (
some (Sum.inl (y5.1,y5.2.1,(y5.2.2.1+1),y5.2.2.2.2.2.1,y5.2.2.2.2.2.2.2.1,(List.set y5.2.2.2.2.2.2.2.2.1 y5.2.2.2.2.2.2.1.2.2.2.1.toNat (2,(y5.2.2.2.1,(y5.2.2.2.2.1,y5.2.2.2.2.2.2.1.2.2.2.2)))),(List.set y5.2.2.2.2.2.2.2.2.2.1 y5.2.2.2.2.2.2.1.2.2.2.1.toNat y5.2.2.2.2.2.2.1.2.1),y5.2.2.2.2.2.2.2.2.2.2)))))))))) (
cond (decide ((ix a1 a2).2.2.1=2)) (
cond (decide ((ix r3.2.1 ((ix a1 a2).2.2.2.1)).1=2)) (
ah (aA ((ix a1 a2).2.2.2.1) r3.2.1.length) (
ah (af .i64 (a2+1)) (
some (Sum.inl (a0,a1,(a2+1),a3,r3.1,(List.set r3.2.1 (Int.toNat ((ix a1 a2).2.2.2.1)) (3,(ix r3.2.1 ((ix a1 a2).2.2.2.1)).2)),r3.2.2.1,r3.2.2.2))))) (
ah (bC 8 (List.length r3.2.2.2+List.length ([(ix a1 a2).2.2.2.1]:List Int))) (
ah (af .i64 (a2+1)) (
some (Sum.inl (a0,a1,(a2+1),a3,r3.1,r3.2.1,r3.2.2.1,(r3.2.2.2++([(ix a1 a2).2.2.2.1]:List Int)))))))) (
cond (decide ((ix a1 a2).2.2.1=3)) (
cond (decide ((ix r3.2.1 ((ix a1 a2).2.2.2.1)).1=2)) (
(F73v1 ((ix a1 a2).2.2.2.1,5,r3.1,r3.2.1,r3.2.2.1,r3.2.2.2)).bind fun r6=>(
ah (af .i64 (a2+1)) (
some (Sum.inl (a0,a1,(a2+1),a3,r6.1,r6.2.1,r6.2.2.1,r6.2.2.2))))) (
cond (decide ((ix r3.2.1 ((ix a1 a2).2.2.2.1)).1=3)) (
(F73v1 ((ix a1 a2).2.2.2.1,5,r3.1,r3.2.1,r3.2.2.1,r3.2.2.2)).bind fun r7=>(
ah (af .i64 (a2+1)) (
some (Sum.inl (a0,a1,(a2+1),a3,r7.1,r7.2.1,r7.2.2.1,r7.2.2.2))))) (
ah (af .i64 (a2+1)) (
some (Sum.inl (a0,a1,(a2+1),a3,r3.1,r3.2.1,r3.2.2.1,r3.2.2.2)))))) (
ah (af .i64 (a2+1)) (
some (Sum.inl (a0,a1,(a2+1),a3,r3.1,r3.2.1,r3.2.2.1,r3.2.2.2))))))))))) (
some (Sum.inr (a0,a3,a4,a5,a6,a7)))
theorem ZG (F70:wg)(F71:nj)(F72v1:wj)(F56:wh)(F73v1:nk):Pw (Kz F70 F71 F72v1 F56 F73v1)=u8 (Px F70 F71 F72v1 F56 F73v1 (l52_1 (Kz F70 F71 F72v1 F56 F73v1))):=funext fun _=>by kernel_rfl
noncomputable def ZH:=Px C6 yw i7 C8 eE Pv
noncomputable def Py:Y378:=aa (u8 ZH)
theorem ZI:l52_0 (Kz C6 yw i7 C8 eE)=Py:=congrArg aa ((ZG C6 yw i7 C8 eE).trans (by rw[ZF] <;> rfl))
theorem ok52:L.Fn Try.prog 52 143 [(.cell 6 true 4)] (erase ZC):=oA Try.func52
def Ct:FSh:=⟨⟨J3,[]⟩,J0,0,⟨⟨[(.agg j29)],Zh⟩,[cG,ij,y19,y19],[],4⟩,false⟩
noncomputable def q52 (F70:wg)(F71:nj)(F72v1:wj)(F56:wh)(F73v1:nk)(l52_0:Y378)(a0:Y2×Int)(a1:List Y1)(a2:Int):Option CJ:=
(F70 a0).bind fun r1=>(
(F71 a1).bind fun r2=>(
(l52_0 (a2,r2,0,a0,r1.1,r1.2.1,r1.2.2,([]:List Int))).bind fun y8=>(
(F72v1 (y8.2.1,y8.1,y8.2.2.1,y8.2.2.2.1,y8.2.2.2.2.1,y8.2.2.2.2.2)).bind fun r9=>(
some (r9.1,r9.2.1,r9.2.2.1,r9.2.2.2)))))
theorem g52 (F70:wg)(F71:nj)(F72v1:wj)(F56:wh)(F73v1:nk):aK (Kz F70 F71 F72v1 F56 F73v1) Ct [(.cell 6 true 4)] ZC=u3 (q52 F70 F71 F72v1 F56 F73v1 (l52_0 (Kz F70 F71 F72v1 F56 F73v1))):=funext fun _=>by kernel_rfl
noncomputable def p52:=q52 C6 yw i7 C8 eE Py
noncomputable def vY:oh:=u3 p52
theorem v52:aK (Kz C6 yw i7 C8 eE) Ct [(.cell 6 true 4)] ZC=vY:=(g52 C6 yw i7 C8 eE).trans (by rw[ZI] <;> rfl)
theorem d52:DC Try.prog 52 Ct vY:=dD v52 t52 ok52
noncomputable def T28 (F51:dH)(F52:oh):List FEnt:=[⟨51,Cs,F51⟩,⟨52,Ct,F52⟩]
theorem t28:ak Try.prog (T28 vW vY):=dK (dK ai d52) d51
noncomputable def c28:=bK Try.prog [] Try.f28 .n
theorem ok28:L.Fn Try.prog 28 28 [(.cell 8 true 4),(.t 9)] (erase c28):=oA Try.func28
def KA:FSh:=⟨⟨VK,[]⟩,VJ,0,⟨⟨[(.tup [(.st fq),(.v y7)])],[]⟩,[fq,y7],[],0⟩,true⟩
noncomputable def q28 (F51:dH)(F52:oh)(a0:Y2×Int)(a1:List Y1)(a2 a3:Int):Option TY:=
(F51 (a0,a1,a2,a3,1)).bind fun r1=>(
cond (!decide (r1=0)) (
some ((0,(0,(0,0))),r1)) (
(F52 (a0,a1,a2)).bind fun r2=>(
ah (aA a3 r2.2.1.length) (
some ((ix r2.2.1 a3),0)))))
theorem g28 (F51:dH)(F52:oh):aK (T28 F51 F52) KA [(.cell 8 true 4),(.t 9)] c28=u4 (q28 F51 F52):=funext fun _=>by kernel_rfl
noncomputable def p28:=q28 vW vY
noncomputable def VY:bZ:=u4 p28
theorem v28:aK (T28 vW vY) KA [(.cell 8 true 4),(.t 9)] c28=VY:=g28 vW vY
theorem d28:DC Try.prog 28 KA VY:=dD v28 t28 ok28
noncomputable def T17 (F42:dH)(F42v1:gH):List FEnt:=[⟨42,tJ,F42⟩,⟨42,iS,F42v1⟩]
theorem t17:ak Try.prog (T17 i6 P42v1):=dK (dK ai rO) VN
noncomputable def c17:=bK Try.prog [] Try.f17 .n
theorem ok17:L.Fn Try.prog 17 24 [(.t 6),(.t 7)] (erase c17):=oA Try.func17
def yz:FSh:=⟨⟨J3,[]⟩,J0,0,⟨⟨[(.tup [(.slr 0),(.v y7)])],yx⟩,[y7,cG],[],1⟩,false⟩
noncomputable def q17 (F42:dH)(F42v1:gH)(a0:Y2×Int)(a1:List Y1)(a2:Int):Option Ud:=
Io (F42 (a0,a1,a2,0,1)) (fun r1=>(
cond (!decide (r1=0)) (
some (r1,([]:List Y2))) (
none))) (
(F42v1 (a0,a1,a2,0,1)).bind fun r2=>(
cond (!decide (r2.1=0)) (
some (r2.1,([]:List Y2))) (
some (0,r2.2.2.2.1))))
theorem g17 (F42:dH)(F42v1:gH):aK (T17 F42 F42v1) yz [(.t 6),(.t 7)] c17=u3 (q17 F42 F42v1):=funext fun _=>by kernel_rfl
noncomputable def p17:=q17 i6 P42v1
noncomputable def P17:eF:=u3 p17
theorem v17:aK (T17 i6 P42v1) yz [(.t 6),(.t 7)] c17=P17:=g17 i6 P42v1
theorem d17:DC Try.prog 17 yz P17:=dD v17 t17 ok17
noncomputable def T29 (F51:dH)(F52:oh):List FEnt:=[⟨51,Cs,F51⟩,⟨52,Ct,F52⟩]
theorem t29:ak Try.prog (T29 vW vY):=dK (dK ai d52) d51
noncomputable def c29:=bK Try.prog [] Try.f29 .n
theorem ok29:L.Fn Try.prog 29 21 [(.t 6),(.t 7)] (erase c29):=oA Try.func29
def KB:FSh:=⟨⟨J3,[]⟩,J0,0,⟨⟨[(.tup [(.slr 0),(.v y7)])],yx⟩,[y7,cG],[],1⟩,false⟩
noncomputable def q29 (F51:dH)(F52:oh)(a0:Y2×Int)(a1:List Y1)(a2:Int):Option Ud:=
(F51 (a0,a1,a2,0,1)).bind fun r1=>(
cond (!decide (r1=0)) (
some (r1,([]:List Y2))) (
(F52 (a0,a1,a2)).bind fun r2=>(
some (0,r2.1))))
theorem g29 (F51:dH)(F52:oh):aK (T29 F51 F52) KB [(.t 6),(.t 7)] c29=u3 (q29 F51 F52):=funext fun _=>by kernel_rfl
noncomputable def p29:=q29 vW vY
noncomputable def VZ:eF:=u3 p29
theorem v29:aK (T29 vW vY) KB [(.t 6),(.t 7)] c29=VZ:=g29 vW vY
theorem d29:DC Try.prog 29 KB VZ:=dD v29 t29 ok29
noncomputable def V0 (F20:jI):List FEnt:=[⟨20,yv,F20⟩]
theorem t19:ak Try.prog (V0 P20):=dK ai d20
def Pz:LSh:=⟨[0,1,5],⟨[(.slr 0),(.slr 1),(.v y7)],Zi⟩,[y7,cG,cG],2,[0,1]⟩
def PA:List XSh:=[⟨.ret,[4],⟨⟨fG,Zi⟩,[.bool,cG,cG],[0,1],2⟩⟩,⟨(.exit 0),[],⟨⟨[],Zi⟩,[cG,cG],[0,1],2⟩⟩]
noncomputable def c19:=bK Try.prog [] Try.f19 (.s .n (.s .n (.s (.s .n (.b (.l Pz PA .n))) .n)))
noncomputable def PB (T:List FEnt):=aB (xs:=PA) Pz (bc T (sb [1,1,0,1,2,2] c19))
noncomputable def l19_0 (T:List FEnt):=aa (PB T)
noncomputable def PC (F20:jI)(a0:Int)(a1 a2:List Y2):Option ((Int×Y9×Y9)⊕Y392):=
cond (decide (a0 < (↑a1.length:Int))) (
ah (aA a0 a1.length) (
ah (aA a0 a2.length) (
(F20 ((ix a1 a0),(ix a2 a0))).bind fun r1=>(
cond (!r1) (
some (Sum.inr (Sum.inl (false,a1,a2)))) (
ah (af .i64 (a0+1)) (
some (Sum.inl ((a0+1),a1,a2)))))))) (
some (Sum.inr (Sum.inr (a1,a2))))
theorem ZJ (F20:jI):PB (V0 F20)=u3 (PC F20):=funext fun _=>by kernel_rfl
noncomputable def ZK:=PC P20
noncomputable def PD:Y403:=aa (u3 ZK)
theorem ZL:l19_0 (V0 P20)=PD:=congrArg aa (ZJ P20)
theorem ok19:L.Fn Try.prog 19 27 [(.t 4)] (erase c19):=oA Try.func19
def G7:FSh:=⟨⟨[(.slr 0),(.slr 1)],Zi⟩,[cG,cG],2,⟨⟨fG,Zi⟩,[.bool,cG,cG],[0,1],2⟩,false⟩
noncomputable def q19 (F20:jI)(l19_0:Y403)(a0 a1:List Y2):Option Uc:=
cond (!decide ((↑a0.length:Int)=(↑a1.length:Int))) (
some (false,a0,a1)) (
(l19_0 (0,a0,a1)).bind (fun y2=>Sum.elim (fun y3=>(
some (y3.1,y3.2.1,y3.2.2))) (fun y4=>(
some (true,y4.1,y4.2))) y2))
theorem g19 (F20:jI):aK (V0 F20) G7 [(.t 4)] c19=u2 (q19 F20 (l19_0 (V0 F20))):=funext fun _=>by kernel_rfl
noncomputable def p19:=q19 P20 PD
noncomputable def Cu:tS:=u2 p19
theorem v19:aK (V0 P20) G7 [(.t 4)] c19=Cu:=(g19 P20).trans (by rw[ZL] <;> rfl)
theorem d19:DC Try.prog 19 G7 Cu:=dD v19 t19 ok19
noncomputable def V1:List FEnt:=[]
theorem t53:ak Try.prog V1:=ai
def PE:LSh:=⟨[0,1,5],⟨j36,[]⟩,WM,0,[]⟩
noncomputable def c53:=bK Try.prog [] Try.f53 (.s .n (.s (.s .n (.b (.l PE rX .n))) .n))
noncomputable def PF (T:List FEnt):=aB (xs:=rX) PE (bc T (sb [1,0,1,2,2] c53))
noncomputable def l53_0 (T:List FEnt):=aa (PF T)
noncomputable def PG (a0:List Int)(a1 a2:Int):Option (Y72⊕we):=
cond (decide (a2 < (↑a0.length:Int))) (
ah (aA a2 a0.length) (
cond (decide ((ix a0 a2)=a1)) (
some (Sum.inr (Sum.inl true))) (
ah (af .i64 (a2+1)) (
some (Sum.inl (a0,a1,(a2+1))))))) (
some (Sum.inr (Sum.inr ())))
theorem ZM:PF V1=u3 PG:=funext fun _=>by kernel_rfl
noncomputable def ZN:=PG
noncomputable def PH:Y342:=aa (u3 ZN)
theorem ZO:l53_0 V1=PH:=congrArg aa ZM
theorem ok53:L.Fn Try.prog 53 18 [(.t 4)] (erase c53):=oA Try.func53
def KC:FSh:=⟨⟨WN,[]⟩,[y19,y7],0,⟨⟨fG,[]⟩,[.bool],[],0⟩,true⟩
noncomputable def q53 (l53_0:Y342)(a0:List Int)(a1:Int):Option Bool:=
(l53_0 (a0,a1,0)).bind (fun y1=>Sum.elim (fun y2=>(
some y2)) (fun y3=>(
some false)) y1)
theorem g53:aK V1 KC [(.t 4)] c53=u2 (q53 (l53_0 V1)):=funext fun _=>by kernel_rfl
noncomputable def p53:=q53 PH
noncomputable def KD:lY:=u2 p53
theorem v53:aK V1 KC [(.t 4)] c53=KD:=g53.trans (by rw[ZO] <;> rfl)
theorem d53:DC Try.prog 53 KC KD:=dD v53 t53 ok53
noncomputable def V2 (F51:dH)(F52:oh)(F53:lY):List FEnt:=[⟨51,Cs,F51⟩,⟨52,Ct,F52⟩,⟨53,KC,F53⟩]
theorem t30:ak Try.prog (V2 vW vY KD):=dK (dK (dK ai d53) d52) d51
def PI:LSh:=⟨[9,10,11],⟨[(.ptr 0 0),(.slc 1),(.v y7)],[(0,(.box [(.slr 2),(.slc 3),(.slc 4),(.slc 5)])),(1,(.row 3 y7)),(2,(.rows 22 3 y7)),(3,(.row 32 fq)),(4,(.row 3 y7)),(5,(.row 3 y7))]⟩,[y7,y19,cG,ij,y19,y19],6,[0,2,3,4,5]⟩
def PJ:List XSh:=[⟨(.exit 0),[10],⟨⟨[(.slc 6)],[(0,(.box [(.slr 2),(.slc 3),(.slc 4),(.slc 5)])),(2,(.rows 22 3 y7)),(3,(.row 32 fq)),(4,(.row 3 y7)),(5,(.row 3 y7)),(6,(.row 3 y7))]⟩,[cG,ij,y19,y19,y19],[0,2,3,4,5],7⟩⟩]
noncomputable def c30:=bK Try.prog [] Try.f30 (.s .n (.s .n (.s .n (.s .n (.s (.s .n (.b (.l PI PJ (.s .n (.s (.b (.s .n (.s (.r [.a 2 false y7,.a 3 false y7]) .n))) .n))))) .n)))))
noncomputable def PL (T:List FEnt):=aB (xs:=PJ) PI (bc T (sb [1,1,1,1,0,1,2,2] c30))
noncomputable def l30_0 (T:List FEnt):=aa (PL T)
noncomputable def PM (F51:dH)(F52:oh)(F53:lY)(a0:Int)(a1:List Int)(a2:List Y2)(a3:List Y4)(a4 a5:List Int):Option ((Int×Y2×Y9×fY×Y2×Y2)⊕Y354):=
cond (decide (a0≤99)) (
(F53 (a5,a0)).bind fun r3=>(
cond r3 (
ah (bC 8 (List.length a1+List.length ([a0]:List Int))) (
ah (af .i64 (a0+1)) (
some (Sum.inl ((a0+1),(a1++([a0]:List Int)),a2,a3,a4,a5))))) (
ah (af .i64 (a0+1)) (
some (Sum.inl ((a0+1),a1,a2,a3,a4,a5)))))) (
some (Sum.inr (a2,a3,a4,a5,a1)))
theorem ZP (F51:dH)(F52:oh)(F53:lY):PL (V2 F51 F52 F53)=u6 (PM F51 F52 F53):=funext fun _=>by kernel_rfl
noncomputable def ZQ:=PM vW vY KD
noncomputable def PN:Y383:=aa (u6 ZQ)
theorem ZS:l30_0 (V2 vW vY KD)=PN:=congrArg aa (ZP vW vY KD)
theorem ok30:L.Fn Try.prog 30 36 [(.t 6),(.t 7)] (erase c30):=oA Try.func30
def KE:FSh:=⟨⟨J3,[]⟩,J0,0,⟨⟨[(.tup RL)],di⟩,[y7,y19],[],1⟩,true⟩
noncomputable def q30 (F51:dH)(F52:oh)(F53:lY)(l30_0:Y383)(a0:Y2×Int)(a1:List Y1)(a2:Int):Option It:=
(F51 (a0,a1,a2,0,1)).bind fun r1=>(
cond (!decide (r1=0)) (
some (r1,([]:List Int))) (
(F52 (a0,a1,a2)).bind fun r2=>(
(l30_0 (0,([]:List Int),r2.1,r2.2.1,r2.2.2.1,r2.2.2.2)).bind fun y4=>(
some (0,y4.2.2.2.2)))))
theorem g30 (F51:dH)(F52:oh)(F53:lY):aK (V2 F51 F52 F53) KE [(.t 6),(.t 7)] c30=u3 (q30 F51 F52 F53 (l30_0 (V2 F51 F52 F53))):=funext fun _=>by kernel_rfl
noncomputable def p30:=q30 vW vY KD PN
noncomputable def V3:gI:=u3 p30
theorem v30:aK (V2 vW vY KD) KE [(.t 6),(.t 7)] c30=V3:=(g30 vW vY KD).trans (by rw[ZS] <;> rfl)
theorem d30:DC Try.prog 30 KE V3:=dD v30 t30 ok30
noncomputable def V4:List FEnt:=[]
theorem t31:ak Try.prog V4:=ai
def PO:LSh:=⟨[0,1,5],⟨[(.v aZ),(.v aZ),(.v y7)],[]⟩,[aZ,aZ,y7],0,[]⟩
noncomputable def c31:=bK Try.prog [] Try.f31 (.s .n (.s .n (.s (.s .n (.b (.l PO rX .n))) .n)))
noncomputable def PP (T:List FEnt):=aB (xs:=rX) PO (bc T (sb [1,1,0,1,2,2] c31))
noncomputable def l31_0 (T:List FEnt):=aa (PP T)
noncomputable def PQ (a0 a1:List Y1)(a2:Int):Option (Y294⊕we):=
cond (decide (a2 < (↑a0.length:Int))) (
ah (aA a2 a0.length) (
ah (aA a2 a1.length) (
cond (!((((decide ((ix a0 a2).1=(ix a1 a2).1)&&decide ((ix a0 a2).2.1=(ix a1 a2).2.1))&&decide ((ix a0 a2).2.2.1=(ix a1 a2).2.2.1))&&decide ((ix a0 a2).2.2.2.1=(ix a1 a2).2.2.2.1))&&decide ((ix a0 a2).2.2.2.2=(ix a1 a2).2.2.2.2))) (
some (Sum.inr (Sum.inl false))) (
ah (af .i64 (a2+1)) (
some (Sum.inl (a0,a1,(a2+1)))))))) (
some (Sum.inr (Sum.inr ())))
theorem ZT:PP V4=u3 PQ:=funext fun _=>by kernel_rfl
noncomputable def ZU:=PQ
noncomputable def PR:Y355:=aa (u3 ZU)
theorem ZV:l31_0 V4=PR:=congrArg aa ZT
theorem ok31:L.Fn Try.prog 31 26 [(.t 4)] (erase c31):=oA Try.func31
def KF:FSh:=⟨⟨[(.v aZ),(.v aZ)],[]⟩,[aZ,aZ],0,⟨⟨fG,[]⟩,[.bool],[],0⟩,true⟩
noncomputable def q31 (l31_0:Y355)(a0 a1:List Y1):Option Bool:=
cond (!decide ((↑a0.length:Int)=(↑a1.length:Int))) (
some false) (
(l31_0 (a0,a1,0)).bind (fun y1=>Sum.elim (fun y2=>(
some y2)) (fun y3=>(
some true)) y1))
theorem g31:aK V4 KF [(.t 4)] c31=u2 (q31 (l31_0 V4)):=funext fun _=>by kernel_rfl
noncomputable def p31:=q31 PR
noncomputable def V5:La:=u2 p31
theorem v31:aK V4 KF [(.t 4)] c31=V5:=g31.trans (by rw[ZV] <;> rfl)
theorem d31:DC Try.prog 31 KF V5:=dD v31 t31 ok31
noncomputable def T8 (F24:Iu)(F14:bS)(F25:yD)(F26:ur)(F27:ur)(F15:bZ)(F28:bZ)(F17:eF)(F29:eF)(F19:tS)(F16:gI)(F30:gI)(F20:jI)(F31:La):List FEnt:=[⟨24,B9,F24⟩,⟨14,pX,F14⟩,⟨25,G3,F25⟩,⟨26,Cc,F26⟩,⟨27,Cr,F27⟩,⟨15,qF,F15⟩,⟨28,KA,F28⟩,⟨17,yz,F17⟩,⟨29,KB,F29⟩,⟨19,G7,F19⟩,⟨16,yu,F16⟩,⟨30,KE,F30⟩,⟨20,yv,F20⟩,⟨31,KF,F31⟩]
theorem t8:ak Try.prog (T8 C2 P14 VT vC wO P15 VY P17 VZ Cu P16 V3 P20 V5):=dK (dK (dK (dK (dK (dK (dK (dK (dK (dK (dK (dK (dK (dK ai d31) d20) d30) d16) d19) d29) d17) d28) Tw) d27) d26) d25) TO) d24
noncomputable def c8:=bK Try.prog [(4,{ch:=[0,0,0,1,0,0,0],rs:=[3],ord:=[0,1,3,4,2,5,6] })] Try.f8 (.s .n (.s .n (.s .n (.s .n (.s .n (.s .n (.s (.r [.f 4 25 [0,0],.f 4 8 []]) .n)))))))
theorem ok8:L.Fn Try.prog 8 132 [(.t 6)] (erase c8):=oA Try.func8
def sh8:FSh:=⟨⟨TQ,[]⟩,TP,0,⟨⟨fG,[]⟩,[.bool],[],0⟩,true⟩
noncomputable def q8 (F24:Iu)(F14:bS)(F25:yD)(F26 F27:ur)(F15 F28:bZ)(F17 F29:eF)(F19:tS)(F16 F30:gI)(F20:jI)(F31:La)(a0:Y2×Int)(a1:List Y1)(a2:cw):Option Bool:=
(F24 (a0,a1)).bind fun r1=>(
cond r1 (
(F14 ()).bind fun r2=>(
some r2)) (
(F25 (a0,a1)).bind fun r3=>(
(F26 ((r3.2.1,r3.1),r3.2.2)).bind fun r4=>(
(F27 (a0,a1)).bind fun r5=>(
cond (!decide (r4=r5)) (
some false) (
(F15 ((r3.2.1,r3.1),r3.2.2,a2.1,a2.2.1)).bind fun r6=>(
(F28 (a0,a1,a2.1,a2.2.1)).bind fun r7=>(
(F17 ((r3.2.1,r3.1),r3.2.2,a2.1)).bind fun r8=>(
(F29 (a0,a1,a2.1)).bind fun r9=>(
cond (!(((decide (r6.1.1=r7.1.1)&&decide (r6.1.2.1=r7.1.2.1))&&decide (r6.1.2.2.1=r7.1.2.2.1))&&decide (r6.1.2.2.2=r7.1.2.2.2))) (
some false) (
cond (!decide (r6.2=r7.2)) (
some false) (
(F19 (r8.2,r9.2)).bind fun r10=>(
cond (!r10.1) (
some false) (
cond (!decide (r8.1=r9.1)) (
some false) (
(F16 ((r3.2.1,r3.1),r3.2.2,a2.1)).bind fun r11=>(
(F30 (a0,a1,a2.1)).bind fun r12=>(
(F20 (r11.2,r12.2)).bind fun r13=>(
cond r13 (
cond (decide (r11.1=r12.1)) (
(F20 (r3.2.1,a0.1)).bind fun r14=>(
cond r14 (
(F31 (r3.2.2,a1)).bind fun r15=>(
cond r15 (
(F14 ()).bind fun r16=>(
some r16)) (
some false))) (
some false))) (
some false)) (
some false)))))))))))))))))))
theorem g8 (F24:Iu)(F14:bS)(F25:yD)(F26 F27:ur)(F15 F28:bZ)(F17 F29:eF)(F19:tS)(F16 F30:gI)(F20:jI)(F31:La):aK (T8 F24 F14 F25 F26 F27 F15 F28 F17 F29 F19 F16 F30 F20 F31) sh8 [(.t 6)] c8=u3 (q8 F24 F14 F25 F26 F27 F15 F28 F17 F29 F19 F16 F30 F20 F31):=funext fun _=>by kernel_rfl
noncomputable def p8:=q8 C2 P14 VT vC wO P15 VY P17 VZ Cu P16 V3 P20 V5
noncomputable def P8:CK:=u3 p8
theorem v8:aK (T8 C2 P14 VT vC wO P15 VY P17 VZ Cu P16 V3 P20 V5) sh8 [(.t 6)] c8=P8:=g8 C2 P14 VT vC wO P15 VY P17 VZ Cu P16 V3 P20 V5
theorem d8:DC Try.prog 8 sh8 P8:=dD v8 t8 ok8
noncomputable def T12 (F24:Iu)(F27:ur):List FEnt:=[⟨24,B9,F24⟩,⟨27,Cr,F27⟩]
theorem t12:ak Try.prog (T12 C2 wO):=dK (dK ai d27) d24
noncomputable def c12:=bK Try.prog [] Try.f12 .n
theorem ok12:L.Fn Try.prog 12 25 [(.t 6)] (erase c12):=oA Try.func12
def tN:FSh:=⟨⟨J3,[]⟩,J0,0,⟨⟨fG,[]⟩,[.bool],[],0⟩,true⟩
noncomputable def q12 (F24:Iu)(F27:ur)(a0:Y2×Int)(a1:List Y1)(a2:Int):Option Bool:=
(F24 (a0,a1)).bind fun r1=>(
cond (!r1) (
(F27 (a0,a1)).bind fun r2=>(
cond (decide (r2=0)) (
cond (decide (0≤a2)) (
some (decide (a2≤9999))) (
some false)) (
some false))) (
some false))
theorem g12 (F24:Iu)(F27:ur):aK (T12 F24 F27) tN [(.t 6)] c12=u3 (q12 F24 F27):=funext fun _=>by kernel_rfl
noncomputable def p12:=q12 C2 wO
noncomputable def P12:cp:=u3 p12
theorem v12:aK (T12 C2 wO) tN [(.t 6)] c12=P12:=g12 C2 wO
theorem V6:DC Try.prog 12 tN P12:=dD v12 t12 ok12
noncomputable def T13:List FEnt:=[]
theorem t13:ak Try.prog T13:=ai
noncomputable def c13:=bK Try.prog [] Try.f13 .n
theorem ok13:L.Fn Try.prog 13 9 [(.t 2)] (erase c13):=oA Try.func13
def Cv:FSh:=⟨⟨mh,[]⟩,[y7],0,⟨⟨fG,[]⟩,[.bool],[],0⟩,true⟩
noncomputable def q13 (a0:Int):Option Bool:=
cond (decide (0≤a0)) (
some (decide (a0≤99))) (
some false)
theorem g13 (a0:Int):aK T13 Cv [(.t 2)] c13 a0=q13 a0:=by kernel_rfl
noncomputable def p13:=q13
noncomputable def kH:mj:=fun x=>p13 x
theorem v13:aK T13 Cv [(.t 2)] c13=kH:=funext fun x=>(g13 x)
theorem d13:DC Try.prog 13 Cv kH:=dD v13 t13 ok13
noncomputable def T3 (F12:cp)(F14:bS)(F13:mj)(F15:bZ):List FEnt:=[⟨12,tN,F12⟩,⟨14,pX,F14⟩,⟨13,Cv,F13⟩,⟨15,qF,F15⟩]
theorem t3:ak Try.prog (T3 P12 P14 kH P15):=dK (dK (dK (dK ai Tw) d13) TO) V6
noncomputable def c3:=bK Try.prog [] Try.f3 .n
theorem ok3:L.Fn Try.prog 3 129 [(.t 6)] (erase c3):=oA Try.func3
def sh3:FSh:=⟨⟨TQ,[]⟩,TP,0,⟨⟨fG,[]⟩,[.bool],[],0⟩,true⟩
noncomputable def q3 (F12:cp)(F14:bS)(F13:mj)(F15:bZ)(a0:Y2×Int)(a1:List Y1)(a2:cw):Option Bool:=
(F12 (a0,a1,a2.1)).bind fun r1=>(
cond (!r1) (
(F14 ()).bind fun r2=>(
some r2)) (
(F13 a2.2.1).bind fun r3=>(
cond (!r3) (
(F14 ()).bind fun r4=>(
some r4)) (
cond (decide (a2.2.2 < a2.1)) (
(F14 ()).bind fun r5=>(
some r5)) (
cond (decide (9999 < a2.2.2)) (
(F14 ()).bind fun r6=>(
some r6)) (
(F15 (a0,a1,a2.1,a2.2.1)).bind fun r7=>(
(F15 (a0,a1,a2.2.2,a2.2.1)).bind fun r8=>(
cond (!decide (r7.2=0)) (
some false) (
cond (!decide (r8.2=0)) (
some false) (
cond (decide (r7.1.1=2)) (
ah (af .i64 (a2.1+a0.2)) (
cond (decide (a2.2.2 < (a2.1+a0.2))) (
cond (!decide (r8.1.1=0)) (
cond (!decide (r8.1.1=1)) (
cond (decide (r8.1.2.2.2=r7.1.2.2.2)) (
(F14 ()).bind fun r9=>(
some r9)) (
some false)) (
some false)) (
some false)) (
cond (!decide (r8.1.1=2)) (
cond (!decide (r8.1.1=0)) (
cond (!decide (r8.1.1=1)) (
cond (decide (r8.1.2.2.2=r7.1.2.2.2)) (
(F14 ()).bind fun r10=>(
some r10)) (
some false)) (
some false)) (
some false)) (
some false)))) (
cond (decide (r7.1.1=3)) (
cond (((decide (r8.1.1=r7.1.1)&&decide (r8.1.2.1=r7.1.2.1))&&decide (r8.1.2.2.1=r7.1.2.2.1))&&decide (r8.1.2.2.2=r7.1.2.2.2)) (
(F14 ()).bind fun r11=>(
some r11)) (
cond (((decide (r8.1.1=5)&&decide (r8.1.2.1=(-1)))&&decide (r8.1.2.2.1=(-1)))&&decide (r8.1.2.2.2=r7.1.2.2.2)) (
(F14 ()).bind fun r12=>(
some r12)) (
some false))) (
cond (decide (r7.1.1=1)) (
cond (decide (r7.1.1=1)) (
cond (((decide (r8.1.1=r7.1.1)&&decide (r8.1.2.1=r7.1.2.1))&&decide (r8.1.2.2.1=r7.1.2.2.1))&&decide (r8.1.2.2.2=r7.1.2.2.2)) (
(F14 ()).bind fun r13=>(
some r13)) (
some false)) (
cond (((decide (r7.1.1=0)&&decide (r7.1.2.1=(-1)))&&decide (r7.1.2.2.1=(-1)))&&decide (r7.1.2.2.2=0)) (
(F14 ()).bind fun r14=>(
some r14)) (
some false))) (
cond (decide (r7.1.1=4)) (
cond (decide (r7.1.1=4)) (
cond (((decide (r8.1.1=r7.1.1)&&decide (r8.1.2.1=r7.1.2.1))&&decide (r8.1.2.2.1=r7.1.2.2.1))&&decide (r8.1.2.2.2=r7.1.2.2.2)) (
(F14 ()).bind fun r15=>(
some r15)) (
some false)) (
cond (((decide (r7.1.1=0)&&decide (r7.1.2.1=(-1)))&&decide (r7.1.2.2.1=(-1)))&&decide (r7.1.2.2.2=0)) (
(F14 ()).bind fun r16=>(
some r16)) (
some false))) (
cond (decide (r7.1.1=5)) (
cond (((decide (r8.1.1=r7.1.1)&&decide (r8.1.2.1=r7.1.2.1))&&decide (r8.1.2.2.1=r7.1.2.2.1))&&decide (r8.1.2.2.2=r7.1.2.2.2)) (
(F14 ()).bind fun r17=>(
some r17)) (
some false)) (
cond (((decide (r7.1.1=0)&&decide (r7.1.2.1=(-1)))&&decide (r7.1.2.2.1=(-1)))&&decide (r7.1.2.2.2=0)) (
(F14 ()).bind fun r18=>(
some r18)) (
some false))))))))))))))))
theorem g3 (F12:cp)(F14:bS)(F13:mj)(F15:bZ):aK (T3 F12 F14 F13 F15) sh3 [(.t 6)] c3=u3 (q3 F12 F14 F13 F15):=funext fun _=>by kernel_rfl
noncomputable def p3:=q3 P12 P14 kH P15
noncomputable def P3:CK:=u3 p3
theorem v3:aK (T3 P12 P14 kH P15) sh3 [(.t 6)] c3=P3:=g3 P12 P14 kH P15
theorem d3:DC Try.prog 3 sh3 P3:=dD v3 t3 ok3
end Go.Proofs.Ytdkaijofmigmbaa.D
