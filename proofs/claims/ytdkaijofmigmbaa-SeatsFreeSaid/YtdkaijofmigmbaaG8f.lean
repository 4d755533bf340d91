import Derived.Test.YtdkaijofmigmbaaG7f
import Derived.Test.YtdkaijofmigmbaaProg
set_option linter.unusedVariables false
set_option maxRecDepth 100000
namespace Go.Proofs.Ytdkaijofmigmbaa.D
open Go Go.Proofs Go.Proofs.Ytdkaijofmigmbaa.L
def z15:List Ty:=[bc,y7,y7,aY,je]
def z8:List Ty:=[bc,.bool,y7,y7,aY,je,fj,cD]
def z3:List Ty:=[bc,y7,y7,y7,y7,y7,y7,y7,aY,je,cD]
def j13:List RSh:=[(.v bc),(.ptr 0 0),(.ptr 1 0),(.v y7),(.v y7)]
def j26:List RSh:=[(.v bc),(.ptr 0 0),(.ptr 1 0),(.v y7)]
def j6:List RSh:=[(.v bc),(.ptr 0 0),(.ptr 1 0),(.ptr 2 0),(.slr 3),(.v .bool),(.v y7),(.v y7)]
def j2:List RSh:=[(.v bc),(.ptr 0 0),(.ptr 1 0),(.v y7),(.slr 2),(.v y7),(.v y7),(.v y7),(.v y7),(.v y7),(.v y7)]
def GZ:List (Nat×OSh):=[(0,(.boxT aY)),(1,(.boxT je))]
def k18:List (Nat×OSh):=[(0,(.boxT je)),(1,(.boxT fj)),(2,(.boxT fj)),(3,(.row 3 y7))]
def k22:List (Nat×OSh):=[(0,(.rows 22 3 y7)),(1,(.boxT aY))]
def VK:List (Nat×OSh):=[(0,(.boxT aY)),(1,(.boxT je)),(2,(.boxT fj)),(3,(.rows 22 3 y7))]
def k16:List (Nat×OSh):=[(0,(.boxT aY)),(1,(.boxT y18)),(2,(.row 40 cW)),(3,(.row 40 cW))]
def Tx:List (Nat×OSh):=[(0,(.boxT aY)),(1,(.boxT je)),(2,(.rows 22 3 y7))]
noncomputable def T4 (F12:dG)(F14:cX)(F13:mm)(F15:dp)(F16:gF):List FEnt:=[⟨12,tY,F12⟩,⟨14,qd,F14⟩,⟨13,Cx,F13⟩,⟨15,qJ,F15⟩,⟨16,yu,F16⟩]
theorem t4:al Try.prog (T4 iZ fJ nN P15 P16):=dK (dK (dK (dK (dK aj d16) Xr) d13) Vv) d12
def Ku:LSh:=⟨[1,3,5,7,8],⟨j13,GZ⟩,z15,2,[0,1]⟩
def Kv:List XSh:=[⟨.ret,[6],⟨⟨fE,GZ⟩,[.bool,aY,je],[0,1],2⟩⟩,⟨(.exit 0),[1,3,5,7],⟨⟨j26,GZ⟩,[bc,y7,aY,je],[0,1],2⟩⟩]
def Zs:LSh:=⟨[5,10,12,14,16,17],⟨[(.ptr 0 0),(.ptr 1 0),(.ptr 2 0),(.slc 3),(.v .bool),(.v y7)],k18⟩,[.bool,y7,je,fj,fj,y19],4,[0,1,2,3]⟩
def Zt:List XSh:=[⟨.ret,[6],⟨⟨fE,k18⟩,[.bool,je,fj,fj,y19],[0,1,2,3],4⟩⟩,⟨(.exit 2),[10,12,16],⟨⟨[(.ptr 1 0),(.ptr 2 0),(.v .bool)],k18⟩,[.bool,je,fj,fj,y19],[0,1,2,3],4⟩⟩]
noncomputable def c4:=bK Try.prog [(12,{ch:=[1,0,0,0,0,0,1,0,1,0,1,0,0],rs:=[5],ord:=[0,1,3,4,5,6,7,8,9,10,2,11,12] })] Try.f4 (.s .n (.s .n (.s .n (.s (.s .n (.b (.l Ku Kv .n))) (.s .n (.s (.r [.a 9 true cW,.a 10 true cW,.a 11 true cW]) (.s .n (.s .n (.s .n (.s .n (.s .n (.s (.s .n (.b (.l Zs Zt .n))) .n))))))))))))
noncomputable def Zu (T:List FEnt):=aD (xs:=Kv) Ku (bd T (sb [1,1,1,0,1,2,2] c4))
noncomputable def l4_0 (T:List FEnt):=af (Zu T)
noncomputable def Zv (F12:dG)(F14:cX)(F13:mm)(F15:dp)(F16:gF)(a0:List Y1)(a1 a2:Int)(a3:Y2×Int)(a4:cR):Option Y475:=
cond (decide (a2 < (↑a0.length:Int))) (
ai (aA a2 a0.length) (
cond (decide (a4.1 < (ix a0 a2).2.1)) (
(F14 ()).bind fun r6=>(
some (Sum.inr (Sum.inl (r6,a3,a4))))) (
ai (aA a2 a0.length) (
ai (ah .i64 (a2+1)) (
some (Sum.inl (a0,(max a1 ((ix a0 a2).1)),(a2+1),a3,a4))))))) (
some (Sum.inr (Sum.inr (a0,a1,a3,a4))))
theorem g4_0 (F12:dG)(F14:cX)(F13:mm)(F15:dp)(F16:gF):Zu (T4 F12 F14 F13 F15 F16)=u5 (Zv F12 F14 F13 F15 F16):=funext fun _=>by kernel_rfl
noncomputable def p4_0:=Zv iZ fJ nN P15 P16
noncomputable def Zw:G9:=af (u5 p4_0)
theorem v4_0:l4_0 (T4 iZ fJ nN P15 P16)=Zw:=congrArg af (g4_0 iZ fJ nN P15 P16)
noncomputable def Zx (T:List FEnt):=aD (xs:=Zt) Zs (bd T (sb [1,1,1,1,1,1,1,1,1,1,1,0,1,2,2] c4))
noncomputable def l4_1 (T:List FEnt):=af (Zx T)
noncomputable def Zy (F12:dG)(F14:cX)(F13:mm)(F15:dp)(F16:gF)(a0:Bool)(a1:Int)(a2:cR)(a3 a4:Y4)(a5:List Int):Option ((Bool×Int×cR×Y4×Y4×Y2)⊕Y434):=
cond (decide (a1 < (↑a5.length:Int))) (
cond a0 (
cond (decide (0 < a1)) (
ai (aA a1 a5.length) (
ai (ah .i64 (a1-1)) (
ai (aA (a1-1) a5.length) (
cond (decide ((ix a5 a1)≤(ix a5 (a1-1)))) (
some (Sum.inr (Sum.inl (false,a2,a3,a4,a5)))) (
ai (ah .i64 (a1+1)) (
some (Sum.inl (true,(a1+1),a2,a3,a4,a5)))))))) (
ai (ah .i64 (a1+1)) (
some (Sum.inl (true,(a1+1),a2,a3,a4,a5))))) (
ai (aA a1 a5.length) (
cond (decide (0 < a1)) (
ai (aA a1 a5.length) (
ai (ah .i64 (a1-1)) (
ai (aA (a1-1) a5.length) (
cond (decide ((ix a5 a1)≤(ix a5 (a1-1)))) (
some (Sum.inr (Sum.inl (false,a2,a3,a4,a5)))) (
ai (ah .i64 (a1+1)) (
some (Sum.inl (decide ((ix a5 a1)=a2.2.1),(a1+1),a2,a3,a4,a5)))))))) (
ai (ah .i64 (a1+1)) (
some (Sum.inl (decide ((ix a5 a1)=a2.2.1),(a1+1),a2,a3,a4,a5))))))) (
some (Sum.inr (Sum.inr (a0,a2,a3,a4,a5))))
theorem g4_1 (F12:dG)(F14:cX)(F13:mm)(F15:dp)(F16:gF):Zx (T4 F12 F14 F13 F15 F16)=u6 (Zy F12 F14 F13 F15 F16):=funext fun _=>by kernel_rfl
noncomputable def p4_1:=Zy iZ fJ nN P15 P16
noncomputable def Zz:Y444:=af (u6 p4_1)
theorem v4_1:l4_1 (T4 iZ fJ nN P15 P16)=Zz:=congrArg af (g4_1 iZ fJ nN P15 P16)
theorem ok4:L.Fn Try.prog 4 165 [(.t 6)] (erase c4):=oA Try.func4
def sh4:FSh:=⟨⟨Tu,[]⟩,Tt,0,⟨⟨fE,[]⟩,[.bool],[],0⟩,true⟩
noncomputable def q4 (F12:dG)(F14:cX)(F13:mm)(F15:dp)(F16:gF)(l4_0:G9)(l4_1:Y444)(a0:Y2×Int)(a1:List Y1)(a2:cR):Option Bool:=
(F12 (a0,a1,a2.1)).bind fun r1=>(
cond (!r1) (
(F14 ()).bind fun r2=>(
some r2)) (
(F13 a2.2.1).bind fun r3=>(
cond (!r3) (
(F14 ()).bind fun r4=>(
some r4)) (
cond (decide (40≤(↑a1.length:Int))) (
(F14 ()).bind fun r5=>(
some r5)) (
(l4_0 (a1,(-1),0,a0,a2)).bind (fun y7=>Sum.elim (fun y8=>(
some y8.1)) (fun y9=>(
cond (decide (99≤y9.2.1)) (
(F14 ()).bind fun r10=>(
some r10)) (
ai (ah .i64 (y9.2.1+1)) (
ai (bC 40 y9.1.length) (
ai (bC 40 (List.length y9.1+List.length ([((y9.2.1+1),(y9.2.2.2.1,(2,(y9.2.2.2.2.1,0))))]:List Y1))) (
(F15 (y9.2.2.1,y9.1,y9.2.2.2.1,y9.2.2.2.2.1)).bind fun r11=>(
(F15 (y9.2.2.1,(y9.1++([((y9.2.1+1),(y9.2.2.2.1,(2,(y9.2.2.2.2.1,0))))]:List Y1)),y9.2.2.2.1,y9.2.2.2.2.1)).bind fun r12=>(
(F16 (y9.2.2.1,(y9.1++([((y9.2.1+1),(y9.2.2.2.1,(2,(y9.2.2.2.2.1,0))))]:List Y1)),y9.2.2.2.1)).bind fun r13=>(
cond (!decide (r11.2=0)) (
some false) (
cond (!decide (r12.2=0)) (
some false) (
cond (!decide (r13.1=0)) (
some false) (
cond (decide (40 < (↑r13.2.length:Int))) (
some false) (
(l4_1 (false,0,y9.2.2.2,r11.1,r12.1,r13.2)).bind (fun y14=>Sum.elim (fun y15=>(
some y15.1)) (fun y16=>(
cond (decide (y16.2.2.1.1=2)) (
cond (((decide (y16.2.2.2.1.1=3)&&decide (y16.2.2.2.1.2.1=y16.2.2.1.2.1))&&decide (y16.2.2.2.1.2.2.1=y16.2.2.1.2.2.1))&&decide (y16.2.2.2.1.2.2.2=y16.2.2.1.2.2.2)) (
(F14 ()).bind fun r17=>(
some r17)) (
some false)) (
cond (((decide (y16.2.2.2.1.1=y16.2.2.1.1)&&decide (y16.2.2.2.1.2.1=y16.2.2.1.2.1))&&decide (y16.2.2.2.1.2.2.1=y16.2.2.1.2.2.1))&&decide (y16.2.2.2.1.2.2.2=y16.2.2.1.2.2.2)) (
cond y16.1 (
(F14 ()).bind fun r18=>(
some r18)) (
some false)) (
some false)))) y14)))))))))))))) y7))))))
theorem g4 (F12:dG)(F14:cX)(F13:mm)(F15:dp)(F16:gF):aK (T4 F12 F14 F13 F15 F16) sh4 [(.t 6)] c4=u3 (q4 F12 F14 F13 F15 F16 (l4_0 (T4 F12 F14 F13 F15 F16)) (l4_1 (T4 F12 F14 F13 F15 F16))):=funext fun _=>by kernel_rfl
noncomputable def p4:=q4 iZ fJ nN P15 P16 Zw Zz
noncomputable def P4:G8:=u3 p4
theorem v4:aK (T4 iZ fJ nN P15 P16) sh4 [(.t 6)] c4=P4:=(g4 iZ fJ nN P15 P16).trans (by rw[v4_0,v4_1] <;> rfl)
theorem d4:DC Try.prog 4 sh4 P4:=dD v4 t4 ok4
noncomputable def VL:List FEnt:=[]
theorem t18:al Try.prog VL:=aj
def Ph:LSh:=⟨[1,2,5],⟨[(.slr 0),(.ptr 1 0),(.v y7)],k22⟩,[y7,cD,aY],2,[0,1]⟩
def Pj:List XSh:=[⟨.ret,[4],⟨⟨fE,k22⟩,[.bool,cD,aY],[0,1],2⟩⟩,⟨(.exit 0),[1,2],⟨⟨[(.slr 0),(.ptr 1 0)],k22⟩,[cD,aY],[0,1],2⟩⟩]
noncomputable def c18:=bK Try.prog [] Try.f18 (.s .n (.s (.s .n (.b (.l Ph Pj .n))) .n))
noncomputable def Pk (T:List FEnt):=aD (xs:=Pj) Ph (bd T (sb [1,0,1,2,2] c18))
noncomputable def l18_0 (T:List FEnt):=af (Pk T)
noncomputable def Pl (a0:Int)(a1:List Y2)(a2:Y2×Int):Option ((Int×Y9×Y2×Int)⊕Y455):=
cond (decide (a0 < (↑a1.length:Int))) (
cond (decide (a0 < (↑a2.1.length:Int))) (
ai (aA a0 a1.length) (
ai (aA a0 a2.1.length) (
cond (!decide ((↑(List.length (ix a1 a0)):Int)=(ix a2.1 a0))) (
some (Sum.inr (Sum.inl (false,a1,a2)))) (
ai (ah .i64 (a0+1)) (
some (Sum.inl ((a0+1),a1,a2))))))) (
some (Sum.inr (Sum.inr (a1,a2))))) (
some (Sum.inr (Sum.inr (a1,a2))))
theorem ZA:Pk VL=u3 Pl:=funext fun _=>by kernel_rfl
noncomputable def ZB:=Pl
noncomputable def Pm:Y466:=af (u3 ZB)
theorem ZC:l18_0 VL=Pm:=congrArg af ZA
theorem ok18:L.Fn Try.prog 18 36 [(.t 4)] (erase c18):=oA Try.func18
def G0:FSh:=⟨⟨[(.st aY),(.slr 0)],yw⟩,[aY,cD],1,⟨⟨fE,yw⟩,[.bool,cD],[0],1⟩,false⟩
noncomputable def q18 (l18_0:Y466)(a0:Y2×Int)(a1:List Y2):Option Y436:=
(l18_0 (0,a1,a0)).bind (fun y1=>Sum.elim (fun y2=>(
some (y2.1,y2.2.1))) (fun y3=>(
some (decide ((↑y3.1.length:Int)=(↑y3.2.1.length:Int)),y3.1))) y1)
theorem g18:aK VL G0 [(.t 4)] c18=u2 (q18 (l18_0 VL)):=funext fun _=>by kernel_rfl
noncomputable def p18:=q18 Pm
noncomputable def wc:lu:=u2 p18
theorem v18:aK VL G0 [(.t 4)] c18=wc:=g18.trans (by rw[ZC] <;> rfl)
theorem d18:DC Try.prog 18 G0 wc:=dD v18 t18 ok18
noncomputable def T5 (F12:dG)(F14:cX)(F13:mm)(F15:dp)(F17:fo)(F18:lu):List FEnt:=[⟨12,tY,F12⟩,⟨14,qd,F14⟩,⟨13,Cx,F13⟩,⟨15,qJ,F15⟩,⟨17,yx,F17⟩,⟨18,G0,F18⟩]
theorem t5:al Try.prog (T5 iZ fJ nN P15 ml wc):=dK (dK (dK (dK (dK (dK aj d18) d17) Xr) d13) Vv) d12
def ZD:LSh:=⟨[1,3,5,7,9,11,12,13,14],⟨[(.v bc),(.ptr 0 0),(.ptr 1 0),(.ptr 2 0),(.slr 3),(.v .bool),(.v y7),(.v y7),(.v y7)],VK⟩,[bc,.bool,y7,y7,y7,aY,je,fj,cD],4,[0,1,2,3]⟩
def ZE:List XSh:=[⟨.ret,[6],⟨⟨fE,VK⟩,[.bool,aY,je,fj,cD],[0,1,2,3],4⟩⟩,⟨(.exit 2),[1,3,5,7,9,11,12,13],⟨⟨j6,VK⟩,z8,[0,1,2,3],4⟩⟩]
def ZF:LSh:=⟨[1,3,5,7,9,11,12,13],⟨j6,VK⟩,z8,4,[0,1,2,3]⟩
def ZG:List XSh:=[⟨.ret,[6],⟨⟨fE,VK⟩,[.bool,aY,je,fj,cD],[0,1,2,3],4⟩⟩,⟨(.exit 0),[7,11,12],⟨⟨[(.ptr 2 0),(.v .bool),(.v y7)],VK⟩,[.bool,y7,aY,je,fj,cD],[0,1,2,3],4⟩⟩]
noncomputable def c5:=bK Try.prog [] Try.f5 (.s .n (.s .n (.s .n (.s .n (.s .n (.s .n (.s .n (.s .n (.s (.s .n (.b (.l ZF ZG (.s .n (.s (.b (.s .n (.b (.l ZD ZE .n)))) .n))))) .n)))))))))
noncomputable def ZH (T:List FEnt):=aD (xs:=ZE) ZD (bd T (sb [1,1,1,1,1,1,1,1,0,1,2,2,1,0,2,1,2,2] c5))
noncomputable def l5_1 (T:List FEnt):=af (ZH T)
noncomputable def ZI (F12:dG)(F14:cX)(F13:mm)(F15:dp)(F17:fo)(F18:lu)(a0:List Y1)(a1:Bool)(a2 a3 a4:Int)(a5:Y2×Int)(a6:cR)(a7:Y4)(a8:List Y2):Option ((Y8×Bool×Int×Int×Int×dE×cR×Y4×Y9)⊕Y456):=
ai (aA a3 a8.length) (
cond (decide (a4 < (↑(List.length (ix a8 a3)):Int))) (
ai (aA a3 a8.length) (
ai (aA a4 (List.length (ix a8 a3))) (
cond (decide ((ix (ix a8 a3) a4)=a6.2.1)) (
ai (ah .i64 (a2+1)) (
cond (!a1) (
some (Sum.inr (Sum.inl (false,a5,a6,a7,a8)))) (
cond (!decide (a3=a7.2.1)) (
some (Sum.inr (Sum.inl (false,a5,a6,a7,a8)))) (
cond (decide (a4 < a7.2.2.1)) (
some (Sum.inr (Sum.inl (false,a5,a6,a7,a8)))) (
ai (ah .i64 (a7.2.2.1+a7.2.2.2)) (
cond (decide ((a7.2.2.1+a7.2.2.2)≤a4)) (
some (Sum.inr (Sum.inl (false,a5,a6,a7,a8)))) (
cond (decide ((ix (ix a8 a3) a4)=(-1))) (
ai (ah .i64 (a4+1)) (
some (Sum.inl (a0,a1,(a2+1),a3,(a4+1),a5,a6,a7,a8)))) (
(F15 (a5,a0,a6.1,(ix (ix a8 a3) a4))).bind fun r8=>(
cond (!decide (r8.2=0)) (
some (Sum.inr (Sum.inl (false,a5,a6,a7,a8)))) (
cond (!decide (r8.1.1=2)) (
cond (!decide (r8.1.1=3)) (
some (Sum.inr (Sum.inl (false,a5,a6,a7,a8)))) (
cond (!decide (r8.1.2.1=a3)) (
some (Sum.inr (Sum.inl (false,a5,a6,a7,a8)))) (
cond (decide (a4 < r8.1.2.2.1)) (
some (Sum.inr (Sum.inl (false,a5,a6,a7,a8)))) (
ai (ah .i64 (r8.1.2.2.1+r8.1.2.2.2)) (
cond (decide ((r8.1.2.2.1+r8.1.2.2.2)≤a4)) (
some (Sum.inr (Sum.inl (false,a5,a6,a7,a8)))) (
ai (ah .i64 (a4+1)) (
some (Sum.inl (a0,a1,(a2+1),a3,(a4+1),a5,a6,a7,a8))))))))) (
cond (!decide (r8.1.2.1=a3)) (
some (Sum.inr (Sum.inl (false,a5,a6,a7,a8)))) (
cond (decide (a4 < r8.1.2.2.1)) (
some (Sum.inr (Sum.inl (false,a5,a6,a7,a8)))) (
ai (ah .i64 (r8.1.2.2.1+r8.1.2.2.2)) (
cond (decide ((r8.1.2.2.1+r8.1.2.2.2)≤a4)) (
some (Sum.inr (Sum.inl (false,a5,a6,a7,a8)))) (
ai (ah .i64 (a4+1)) (
some (Sum.inl (a0,a1,(a2+1),a3,(a4+1),a5,a6,a7,a8)))))))))))))))))) (
cond (decide ((ix (ix a8 a3) a4)=(-1))) (
ai (ah .i64 (a4+1)) (
some (Sum.inl (a0,a1,a2,a3,(a4+1),a5,a6,a7,a8)))) (
(F15 (a5,a0,a6.1,(ix (ix a8 a3) a4))).bind fun r9=>(
cond (!decide (r9.2=0)) (
some (Sum.inr (Sum.inl (false,a5,a6,a7,a8)))) (
cond (!decide (r9.1.1=2)) (
cond (!decide (r9.1.1=3)) (
some (Sum.inr (Sum.inl (false,a5,a6,a7,a8)))) (
cond (!decide (r9.1.2.1=a3)) (
some (Sum.inr (Sum.inl (false,a5,a6,a7,a8)))) (
cond (decide (a4 < r9.1.2.2.1)) (
some (Sum.inr (Sum.inl (false,a5,a6,a7,a8)))) (
ai (ah .i64 (r9.1.2.2.1+r9.1.2.2.2)) (
cond (decide ((r9.1.2.2.1+r9.1.2.2.2)≤a4)) (
some (Sum.inr (Sum.inl (false,a5,a6,a7,a8)))) (
ai (ah .i64 (a4+1)) (
some (Sum.inl (a0,a1,a2,a3,(a4+1),a5,a6,a7,a8))))))))) (
cond (!decide (r9.1.2.1=a3)) (
some (Sum.inr (Sum.inl (false,a5,a6,a7,a8)))) (
cond (decide (a4 < r9.1.2.2.1)) (
some (Sum.inr (Sum.inl (false,a5,a6,a7,a8)))) (
ai (ah .i64 (r9.1.2.2.1+r9.1.2.2.2)) (
cond (decide ((r9.1.2.2.1+r9.1.2.2.2)≤a4)) (
some (Sum.inr (Sum.inl (false,a5,a6,a7,a8)))) (
ai (ah .i64 (a4+1)) (
some (Sum.inl (a0,a1,a2,a3,(a4+1),a5,a6,a7,a8))))))))))))))) (
some (Sum.inr (Sum.inr (a0,a1,a2,a3,a5,a6,a7,a8)))))
theorem g5_1 (F12:dG)(F14:cX)(F13:mm)(F15:dp)(F17:fo)(F18:lu):ZH (T5 F12 F14 F13 F15 F17 F18)=u9 (ZI F12 F14 F13 F15 F17 F18):=funext fun _=>by kernel_rfl
noncomputable def p5_1:=ZI iZ fJ nN P15 ml wc
noncomputable def ZJ:Y467:=af (u9 p5_1)
theorem v5_1:l5_1 (T5 iZ fJ nN P15 ml wc)=ZJ:=congrArg af (g5_1 iZ fJ nN P15 ml wc)
noncomputable def ZK (T:List FEnt):=aD (xs:=ZG) ZF (bd T (sb [1,1,1,1,1,1,1,1,0,1,2,2] c5))
noncomputable def l5_0 (T:List FEnt):=af (ZK T)
noncomputable def ZL (F12:dG)(F14:cX)(F13:mm)(F15:dp)(F17:fo)(F18:lu)(l5_1:Y467)(a0:List Y1)(a1:Bool)(a2 a3:Int)(a4:Y2×Int)(a5:cR)(a6:Y4)(a7:List Y2):Option (Y422⊕Y457):=
cond (decide (a3 < (↑a7.length:Int))) (
(l5_1 (a0,a1,a2,a3,0,a4,a5,a6,a7)).bind (fun y10=>Sum.elim (fun y11=>(
some (Sum.inr (Sum.inl (y11.1,y11.2.1,y11.2.2.1,y11.2.2.2.1,y11.2.2.2.2))))) (fun y12=>(
ai (ah .i64 (y12.2.2.2.1+1)) (
some (Sum.inl (y12.1,y12.2.1,y12.2.2.1,(y12.2.2.2.1+1),y12.2.2.2.2.1,y12.2.2.2.2.2.1,y12.2.2.2.2.2.2.1,y12.2.2.2.2.2.2.2))))) y10)) (
some (Sum.inr (Sum.inr (a1,a2,a4,a5,a6,a7))))
theorem g5_0 (F12:dG)(F14:cX)(F13:mm)(F15:dp)(F17:fo)(F18:lu):ZK (T5 F12 F14 F13 F15 F17 F18)=u8 (ZL F12 F14 F13 F15 F17 F18 (l5_1 (T5 F12 F14 F13 F15 F17 F18))):=funext fun _=>by kernel_rfl
noncomputable def p5_0:=ZL iZ fJ nN P15 ml wc ZJ
noncomputable def ZM:Y468:=af (u8 p5_0)
theorem v5_0:l5_0 (T5 iZ fJ nN P15 ml wc)=ZM:=congrArg af ((g5_0 iZ fJ nN P15 ml wc).trans (by rw[v5_1] <;> rfl))
theorem ok5:L.Fn Try.prog 5 187 [(.t 6)] (erase c5):=oA Try.func5
def sh5:FSh:=⟨⟨Tu,[]⟩,Tt,0,⟨⟨fE,[]⟩,[.bool],[],0⟩,true⟩
noncomputable def q5 (F12:dG)(F14:cX)(F13:mm)(F15:dp)(F17:fo)(F18:lu)(l5_0:Y468)(a0:Y2×Int)(a1:List Y1)(a2:cR):Option Bool:=
(F12 (a0,a1,a2.1)).bind fun r1=>(
cond (!r1) (
(F14 ()).bind fun r2=>(
some r2)) (
(F13 a2.2.1).bind fun r3=>(
cond (!r3) (
(F14 ()).bind fun r4=>(
some r4)) (
(F15 (a0,a1,a2.1,a2.2.1)).bind fun r5=>(
(F17 (a0,a1,a2.1)).bind fun r6=>(
cond (!decide (r5.2=0)) (
some false) (
cond (!decide (r6.1=0)) (
some false) (
(F18 (a0,r6.2)).bind fun r7=>(
cond (!r7.1) (
some false) (
cond (decide (r5.1.1=2)) (
(l5_0 (a1,true,0,0,a0,a2,r5.1,r7.2)).bind (fun y13=>Sum.elim (fun y14=>(
some y14.1)) (fun y15=>(
cond (!y15.1) (
(F14 ()).bind fun r16=>(
some r16)) (
cond (decide (y15.2.1=y15.2.2.2.2.1.2.2.2)) (
(F14 ()).bind fun r17=>(
some r17)) (
some false)))) y13)) (
cond (!(decide (r5.1.1=3))) (
cond (!decide (r5.1.2.1=(-1))) (
some false) (
cond (!decide (r5.1.2.2.1=(-1))) (
some false) (
(l5_0 (a1,decide (r5.1.1=3),0,0,a0,a2,r5.1,r7.2)).bind (fun y18=>Sum.elim (fun y19=>(
some y19.1)) (fun y20=>(
cond (!y20.1) (
(F14 ()).bind fun r21=>(
some r21)) (
cond (decide (y20.2.1=y20.2.2.2.2.1.2.2.2)) (
(F14 ()).bind fun r22=>(
some r22)) (
some false)))) y18)))) (
(l5_0 (a1,decide (r5.1.1=3),0,0,a0,a2,r5.1,r7.2)).bind (fun y23=>Sum.elim (fun y24=>(
some y24.1)) (fun y25=>(
cond (!y25.1) (
(F14 ()).bind fun r26=>(
some r26)) (
cond (decide (y25.2.1=y25.2.2.2.2.1.2.2.2)) (
(F14 ()).bind fun r27=>(
some r27)) (
some false)))) y23)))))))))))))
theorem g5 (F12:dG)(F14:cX)(F13:mm)(F15:dp)(F17:fo)(F18:lu):aK (T5 F12 F14 F13 F15 F17 F18) sh5 [(.t 6)] c5=u3 (q5 F12 F14 F13 F15 F17 F18 (l5_0 (T5 F12 F14 F13 F15 F17 F18))):=funext fun _=>by kernel_rfl
noncomputable def p5:=q5 iZ fJ nN P15 ml wc ZM
noncomputable def P5:G8:=u3 p5
theorem v5:aK (T5 iZ fJ nN P15 ml wc) sh5 [(.t 6)] c5=P5:=(g5 iZ fJ nN P15 ml wc).trans (by rw[v5_0] <;> rfl)
theorem d5:DC Try.prog 5 sh5 P5:=dD v5 t5 ok5
noncomputable def T6 (F12:dG)(F14:cX)(F17:fo)(F16:gF)(F19:ub)(F20:jF):List FEnt:=[⟨12,tY,F12⟩,⟨14,qd,F14⟩,⟨17,yx,F17⟩,⟨16,yu,F16⟩,⟨19,GY,F19⟩,⟨20,yv,F20⟩]
theorem t6:al Try.prog (T6 iZ fJ ml P16 Cw P20):=dK (dK (dK (dK (dK (dK aj d20) d19) d16) d17) Vv) d12
def ZN:LSh:=⟨[1,3,5,7,8,9],⟨[(.v bc),(.ptr 0 0),(.ptr 1 0),(.slc 2),(.slc 3),(.v y7)],k16⟩,[bc,y7,aY,y18,bc,bc],4,[0,1]⟩
def ZO:List XSh:=[⟨(.exit 0),[1,3,5,7,8],⟨⟨[(.v bc),(.ptr 0 0),(.ptr 1 0),(.slc 2),(.slc 3)],k16⟩,[bc,aY,y18,bc,bc],[0,1],4⟩⟩]
noncomputable def c6:=bK Try.prog [] Try.f6 (.s .n (.s .n (.s .n (.s (.s .n (.b (.l ZN ZO (.s .n (.s (.b (.s .n (.s (.r [.a 6 true cW,.a 7 true cW]) (.s .n (.s (.r [.a 2 true cW,.a 3 true cW]) .n))))) .n))))) (.s .n (.s (.r [.f 4 7 []]) (.s (.r [.f 4 8 []]) .n)))))))
noncomputable def ZP (T:List FEnt):=aD (xs:=ZO) ZN (bd T (sb [1,1,1,0,1,2,2] c6))
noncomputable def l6_0 (T:List FEnt):=af (ZP T)
noncomputable def ZQ (F12:dG)(F14:cX)(F17:fo)(F16:gF)(F19:ub)(F20:jF)(a0:List Y1)(a1:Int)(a2:Y2×Int)(a3:Int×Int)(a4 a5:List Y1):Option ((Y8×Int×dE×yz×Y8×Y8)⊕Y424):=
cond (decide (a1 < (↑a0.length:Int))) (
ai (ah .i64 (a1+a3.1)) (
ai (decide ((↑a0.length:Int)≠0)) (
ai (aA (Int.tmod (a1+a3.1) (↑a0.length:Int)) a0.length) (
ai (aA a1 a0.length) (
ai (bC 40 (List.length a4+List.length ([(ix a0 (Int.tmod (a1+a3.1) (↑a0.length:Int))),(ix a0 a1)]:List Y1))) (
cond (decide ((ix a0 (Int.tmod (a1+a3.1) (↑a0.length:Int))).2.1≤a3.2)) (
ai (bC 40 (List.length a5+List.length ([(ix a0 (Int.tmod (a1+a3.1) (↑a0.length:Int)))]:List Y1))) (
ai (ah .i64 (a1+1)) (
some (Sum.inl (a0,(a1+1),a2,a3,(a4++([(ix a0 (Int.tmod (a1+a3.1) (↑a0.length:Int))),(ix a0 a1)]:List Y1)),(a5++([(ix a0 (Int.tmod (a1+a3.1) (↑a0.length:Int)))]:List Y1))))))) (
ai (ah .i64 (a1+1)) (
some (Sum.inl (a0,(a1+1),a2,a3,(a4++([(ix a0 (Int.tmod (a1+a3.1) (↑a0.length:Int))),(ix a0 a1)]:List Y1)),a5)))))))))) (
some (Sum.inr (a0,a2,a3,a4,a5)))
theorem g6_0 (F12:dG)(F14:cX)(F17:fo)(F16:gF)(F19:ub)(F20:jF):ZP (T6 F12 F14 F17 F16 F19 F20)=u6 (ZQ F12 F14 F17 F16 F19 F20):=funext fun _=>by kernel_rfl
noncomputable def p6_0:=ZQ iZ fJ ml P16 Cw P20
noncomputable def ZS:Y446:=af (u6 p6_0)
theorem v6_0:l6_0 (T6 iZ fJ ml P16 Cw P20)=ZS:=congrArg af (g6_0 iZ fJ ml P16 Cw P20)
theorem ok6:L.Fn Try.prog 6 171 [(.t 6)] (erase c6):=oA Try.func6
def sh6:FSh:=⟨⟨[(.st aY),(.v bc),(.st y18)],[]⟩,[aY,bc,y18],0,⟨⟨fE,[]⟩,[.bool],[],0⟩,true⟩
noncomputable def q6 (F12:dG)(F14:cX)(F17:fo)(F16:gF)(F19:ub)(F20:jF)(l6_0:Y446)(a0:Y2×Int)(a1:List Y1)(a2:Int×Int):Option Bool:=
(F12 (a0,a1,a2.2)).bind fun r1=>(
cond (!r1) (
(F14 ()).bind fun r2=>(
some r2)) (
cond (decide (20 < (↑a1.length:Int))) (
(F14 ()).bind fun r3=>(
some r3)) (
cond (decide (a2.1 < 0)) (
(F14 ()).bind fun r4=>(
some r4)) (
cond (decide (100 < a2.1)) (
(F14 ()).bind fun r5=>(
some r5)) (
(l6_0 (a1,0,a0,a2,([]:List Y1),([]:List Y1))).bind fun y6=>(
(F17 (y6.2.1,y6.1,y6.2.2.1.2)).bind fun r7=>(
(F17 (y6.2.1,y6.2.2.2.1,y6.2.2.1.2)).bind fun r8=>(
(F17 (y6.2.1,y6.2.2.2.2,y6.2.2.1.2)).bind fun r9=>(
(F16 (y6.2.1,y6.1,y6.2.2.1.2)).bind fun r10=>(
(F16 (y6.2.1,y6.2.2.2.1,y6.2.2.1.2)).bind fun r11=>(
(F16 (y6.2.1,y6.2.2.2.2,y6.2.2.1.2)).bind fun r12=>(
cond (decide (r7.1=0)) (
cond (decide (r8.1=0)) (
cond (decide (r9.1=0)) (
(F19 (r7.2,r8.2)).bind fun r13=>(
cond r13.1 (
(F19 (r13.2.1,r9.2)).bind fun r14=>(
cond r14.1 (
cond (decide (r10.1=0)) (
cond (decide (r11.1=0)) (
cond (decide (r12.1=0)) (
(F20 (r10.2,r11.2)).bind fun r15=>(
cond r15 (
(F20 (r10.2,r12.2)).bind fun r16=>(
cond r16 (
(F14 ()).bind fun r17=>(
some r17)) (
some false))) (
some false))) (
some false)) (
some false)) (
some false)) (
some false))) (
some false))) (
some false)) (
some false)) (
some false)))))))))))))
theorem g6 (F12:dG)(F14:cX)(F17:fo)(F16:gF)(F19:ub)(F20:jF):aK (T6 F12 F14 F17 F16 F19 F20) sh6 [(.t 6)] c6=u3 (q6 F12 F14 F17 F16 F19 F20 (l6_0 (T6 F12 F14 F17 F16 F19 F20))):=funext fun _=>by kernel_rfl
noncomputable def p6:=q6 iZ fJ ml P16 Cw P20 ZS
noncomputable def P6:dE×Y8×Int×Int→Option Bool:=u3 p6
theorem v6:aK (T6 iZ fJ ml P16 Cw P20) sh6 [(.t 6)] c6=P6:=(g6 iZ fJ ml P16 Cw P20).trans (by rw[v6_0] <;> rfl)
theorem d6:DC Try.prog 6 sh6 P6:=dD v6 t6 ok6
noncomputable def T7 (F12:dG)(F14:cX)(F17:fo)(F21:iR)(F18:lu)(F22:eM)(F23:eM)(F15:dp):List FEnt:=[⟨12,tY,F12⟩,⟨14,qd,F14⟩,⟨17,yx,F17⟩,⟨21,yp,F21⟩,⟨18,G0,F18⟩,⟨22,Cu,F22⟩,⟨23,GX,F23⟩,⟨15,qJ,F15⟩]
def ZT:LSh:=⟨[1,3,5,7,9,11,12,13,14,15,16,17],⟨[(.v bc),(.ptr 0 0),(.ptr 1 0),(.v y7),(.slr 2),(.v y7),(.v y7),(.v y7),(.v y7),(.v y7),(.v y7),(.v y7)],Tx⟩,[bc,y7,y7,y7,y7,y7,y7,y7,y7,aY,je,cD],3,[0,1,2]⟩
def ZU:List XSh:=[⟨(.exit 4),[1,3,5,7,9,11,12,13,14,15,16],⟨⟨j2,Tx⟩,z3,[0,1,2],3⟩⟩]
def ZV:LSh:=⟨[1,3,5,7,9,11,12,13,14,15,16],⟨j2,Tx⟩,z3,3,[0,1,2]⟩
def ZW:List XSh:=[⟨(.exit 2),[1,3,5,7,9,11,12,13,14,15],⟨⟨[(.v bc),(.ptr 0 0),(.ptr 1 0),(.v y7),(.slr 2),(.v y7),(.v y7),(.v y7),(.v y7),(.v y7)],Tx⟩,[bc,y7,y7,y7,y7,y7,y7,aY,je,cD],[0,1,2],3⟩⟩]
def ZX:LSh:=⟨[1,3,5,7,9,11,12,13,15],⟨[(.v bc),(.ptr 0 0),(.ptr 1 0),(.v y7),(.slr 2),(.v y7),(.v y7),(.v y7),(.v y7)],Tx⟩,[bc,y7,y7,y7,y7,y7,aY,je,cD],3,[0,1,2]⟩
def ZY:List XSh:=[⟨.ret,[6],⟨⟨fE,Tx⟩,[.bool,aY,je,cD],[0,1,2],3⟩⟩,⟨.normal,[1,3,5,7,11,12,13],⟨⟨[(.v bc),(.ptr 0 0),(.ptr 1 0),(.v y7),(.v y7),(.v y7),(.v y7)],Tx⟩,[bc,y7,y7,y7,y7,aY,je,cD],[0,1,2],3⟩⟩]
noncomputable def c7:=bK Try.prog [(32,{ch:=[1,0,0,0,0,0,1,0,1,0,1,0,0],rs:=[5],ord:=[0,1,3,4,5,6,7,8,9,10,2,11,12] })] Try.f7 (.s .n (.s .n (.s .n (.s (.s .n (.b (.l Ku Kv .n))) (.s .n (.s .n (.s .n (.s .n (.s (.s .n (.b (.l ZV ZW (.s .n (.s (.b (.s .n (.b (.l ZT ZU .n)))) .n))))) (.s .n (.s (.o ZX ZY .n) (.s .n (.s (.r [.a 9 true cW,.a 10 true cW,.a 11 true cW]) .n)))))))))))))
noncomputable def s7_0 (T:List FEnt):=aD (xs:=Kv) Ku (bd T (sb [1,1,1,0,1,2,2] c7))
noncomputable def l7_0 (T:List FEnt):=af (s7_0 T)
noncomputable def q7_0 (F12:dG)(F14:cX)(F17:fo)(F21:iR)(F18:lu)(F22 F23:eM)(F15:dp)(a0:List Y1)(a1 a2:Int)(a3:Y2×Int)(a4:cR):Option Y475:=
cond (decide (a2 < (↑a0.length:Int))) (
ai (aA a2 a0.length) (
cond (decide (a4.1 < (ix a0 a2).2.1)) (
(F14 ()).bind fun r6=>(
some (Sum.inr (Sum.inl (r6,a3,a4))))) (
ai (aA a2 a0.length) (
cond (decide ((ix a0 a2).2.2.2.1=99)) (
(F14 ()).bind fun r7=>(
some (Sum.inr (Sum.inl (r7,a3,a4))))) (
ai (aA a2 a0.length) (
ai (ah .i64 (a2+1)) (
some (Sum.inl (a0,(max a1 ((ix a0 a2).1)),(a2+1),a3,a4))))))))) (
some (Sum.inr (Sum.inr (a0,a1,a3,a4))))
noncomputable def p7_0:=q7_0 iZ fJ ml P21 wc P22 P23 P15
noncomputable def L7_0:G9:=af (u5 p7_0)
noncomputable def s7_2 (T:List FEnt):=aD (xs:=ZU) ZT (bd T (sb [1,1,1,1,1,1,1,1,0,1,2,2,1,0,2,1,2,2] c7))
noncomputable def l7_2 (T:List FEnt):=af (s7_2 T)
noncomputable def q7_2 (F12:dG)(F14:cX)(F17:fo)(F21:iR)(F18:lu)(F22 F23:eM)(F15:dp)(a0:List Y1)(a1 a2 a3 a4 a5 a6 a7 a8:Int)(a9:Y2×Int)(a10:cR)(a11:List Y2):Option ((Y8×Int×Int×Int×Int×Int×Int×Int×Int×dE×cR×Y9)⊕TL):=
ai (aA a7 a11.length) (
cond (decide (a8 < (↑(List.length (ix a11 a7)):Int))) (
ai (aA a7 a11.length) (
(F22 ((ix a11 a7),a8,a10.2.2)).bind fun r14=>(
cond r14 (
ai (ah .i64 (a5+1)) (
ai (aA a7 a11.length) (
(F23 ((ix a11 a7),a8,a10.2.2)).bind fun r15=>(
cond (!r15) (
ai (ah .i64 (a6+1)) (
ai (ah .i64 (a8+1)) (
some (Sum.inl (a0,a1,a2,a3,a4,(a5+1),(a6+1),a7,(a8+1),a9,a10,a11))))) (
ai (ah .i64 (a8+1)) (
some (Sum.inl (a0,a1,a2,a3,a4,(a5+1),a6,a7,(a8+1),a9,a10,a11)))))))) (
ai (ah .i64 (a8+1)) (
some (Sum.inl (a0,a1,a2,a3,a4,a5,a6,a7,(a8+1),a9,a10,a11))))))) (
some (Sum.inr (a0,a1,a2,a3,a4,a5,a6,a7,a9,a10,a11))))
noncomputable def p7_2:=q7_2 iZ fJ ml P21 wc P22 P23 P15
noncomputable def L7_2:Y447:=af (u12 p7_2)
noncomputable def s7_1 (T:List FEnt):=aD (xs:=ZW) ZV (bd T (sb [1,1,1,1,1,1,1,1,0,1,2,2] c7))
noncomputable def l7_1 (T:List FEnt):=af (s7_1 T)
noncomputable def q7_1 (F12:dG)(F14:cX)(F17:fo)(F21:iR)(F18:lu)(F22 F23:eM)(F15:dp)(l7_2:Y447)(a0:List Y1)(a1 a2 a3 a4 a5 a6 a7:Int)(a8:Y2×Int)(a9:cR)(a10:List Y2):Option (TL⊕Y427):=
cond (decide (a7 < (↑a10.length:Int))) (
(l7_2 (a0,a1,a2,a3,a4,a5,a6,a7,0,a8,a9,a10)).bind fun y16=>(
ai (ah .i64 (y16.2.2.2.2.2.2.2.1+1)) (
some (Sum.inl (y16.1,y16.2.1,y16.2.2.1,y16.2.2.2.1,y16.2.2.2.2.1,y16.2.2.2.2.2.1,y16.2.2.2.2.2.2.1,(y16.2.2.2.2.2.2.2.1+1),y16.2.2.2.2.2.2.2.2.1,y16.2.2.2.2.2.2.2.2.2.1,y16.2.2.2.2.2.2.2.2.2.2))))) (
some (Sum.inr (a0,a1,a2,a3,a4,a5,a6,a8,a9,a10)))
noncomputable def p7_1:=q7_1 iZ fJ ml P21 wc P22 P23 P15 L7_2
noncomputable def L7_1:Y448:=af (u11 p7_1)
noncomputable def l7_3 (T:List FEnt):=fp (xs:=ZY) ZX (bd T (sb [1,1,1,1,1,1,1,1,1,1,0,2] c7))
noncomputable def q7_3 (F12:dG)(F14:cX)(F17:fo)(F21:iR)(F18:lu)(F22 F23:eM)(F15:dp)(a0:List Y1)(a1 a2 a3 a4 a5:Int)(a6:Y2×Int)(a7:cR)(a8:List Y2):Option Y461:=
cond (decide (a4=0)) (
cond (decide (a2 < 0)) (
some (Sum.inl (false,a6,a7,a8))) (
cond (decide ((↑a8.length:Int)≤a2)) (
some (Sum.inl (false,a6,a7,a8))) (
cond (decide (a3 < 0)) (
some (Sum.inl (false,a6,a7,a8))) (
ai (aA a2 a8.length) (
(F22 ((ix a8 a2),a3,a7.2.2)).bind fun r18=>(
cond (!r18) (
some (Sum.inl (false,a6,a7,a8))) (
ai (aA a2 a8.length) (
(F23 ((ix a8 a2),a3,a7.2.2)).bind fun r19=>(
cond r19 (
cond (decide (0 < a5)) (
some (Sum.inl (false,a6,a7,a8))) (
some (Sum.inr (a0,a1,a2,a3,a4,a6,a7,a8)))) (
some (Sum.inr (a0,a1,a2,a3,a4,a6,a7,a8)))))))))))) (
some (Sum.inr (a0,a1,a2,a3,a4,a6,a7,a8)))
noncomputable def p7_3:=q7_3 iZ fJ ml P21 wc P22 P23 P15
noncomputable def L7_3:Y472:=fun x=>p7_3 x.1 x.2.1 x.2.2.1 x.2.2.2.1 x.2.2.2.2.1 x.2.2.2.2.2.1 x.2.2.2.2.2.2.1 x.2.2.2.2.2.2.2.1 x.2.2.2.2.2.2.2.2
def sh7:FSh:=⟨⟨Tu,[]⟩,Tt,0,⟨⟨fE,[]⟩,[.bool],[],0⟩,true⟩
noncomputable def q7 (F12:dG)(F14:cX)(F17:fo)(F21:iR)(F18:lu)(F22 F23:eM)(F15:dp)(l7_0:G9)(l7_1:Y448)(l7_3:Y472)(a0:Y2×Int)(a1:List Y1)(a2:cR):Option Bool:=
(F12 (a0,a1,a2.1)).bind fun r1=>(
cond (!r1) (
(F14 ()).bind fun r2=>(
some r2)) (
cond (decide (a2.2.2 < 1)) (
(F14 ()).bind fun r3=>(
some r3)) (
cond (decide (12 < a2.2.2)) (
(F14 ()).bind fun r4=>(
some r4)) (
cond (decide (40≤(↑a1.length:Int))) (
(F14 ()).bind fun r5=>(
some r5)) (
(l7_0 (a1,(-1),0,a0,a2)).bind (fun y8=>Sum.elim (fun y9=>(
some y9.1)) (fun y10=>(
(F17 (y10.2.2.1,y10.1,y10.2.2.2.1)).bind fun r11=>(
(F21 (y10.2.2.1,y10.1,y10.2.2.2.1,y10.2.2.2.2.2)).bind fun r12=>(
cond (!decide (r11.1=0)) (
some false) (
(F18 (y10.2.2.1,r11.2)).bind fun r13=>(
cond (!r13.1) (
some false) (
cond (!decide (r12.2.2=0)) (
cond (!decide (r12.2.2=3)) (
some false) (
(l7_1 (y10.1,y10.2.1,r12.1,r12.2.1,r12.2.2,0,0,0,y10.2.2.1,y10.2.2.2,r13.2)).bind fun y17=>(
cond ((decide (y17.2.2.2.2.1=0))!=(decide (0 < y17.2.2.2.2.2.1))) (
some false) (
(l7_3 (y17.1,y17.2.1,y17.2.2.1,y17.2.2.2.1,y17.2.2.2.2.1,y17.2.2.2.2.2.2.1,y17.2.2.2.2.2.2.2.1,y17.2.2.2.2.2.2.2.2.1,y17.2.2.2.2.2.2.2.2.2)).bind (fun y20=>Sum.elim (fun y21=>(
some y21.1)) (fun y22=>(
cond (decide (99≤y22.2.1)) (
(F14 ()).bind fun r23=>(
some r23)) (
ai (ah .i64 (y22.2.1+1)) (
ai (bC 40 y22.1.length) (
ai (bC 40 (List.length y22.1+List.length ([((y22.2.1+1),(y22.2.2.2.2.2.2.1.1,(1,(99,y22.2.2.2.2.2.2.1.2.2))))]:List Y1))) (
(F15 (y22.2.2.2.2.2.1,(y22.1++([((y22.2.1+1),(y22.2.2.2.2.2.2.1.1,(1,(99,y22.2.2.2.2.2.2.1.2.2))))]:List Y1)),y22.2.2.2.2.2.2.1.1,99)).bind fun r24=>(
cond (decide (y22.2.2.2.2.1=0)) (
cond (decide (r24.2=0)) (
cond (((decide (r24.1.1=2)&&decide (r24.1.2.1=y22.2.2.1))&&decide (r24.1.2.2.1=y22.2.2.2.1))&&decide (r24.1.2.2.2=y22.2.2.2.2.2.2.1.2.2)) (
(F14 ()).bind fun r25=>(
some r25)) (
some false)) (
some false)) (
cond (decide (r24.2=0)) (
cond (((decide (r24.1.1=1)&&decide (r24.1.2.1=(-1)))&&decide (r24.1.2.2.1=(-1)))&&decide (r24.1.2.2.2=y22.2.2.2.2.2.2.1.2.2)) (
(F14 ()).bind fun r26=>(
some r26)) (
some false)) (
some false))))))))) y20))))) (
(l7_1 (y10.1,y10.2.1,r12.1,r12.2.1,r12.2.2,0,0,0,y10.2.2.1,y10.2.2.2,r13.2)).bind fun y27=>(
cond ((decide (y27.2.2.2.2.1=0))!=(decide (0 < y27.2.2.2.2.2.1))) (
some false) (
(l7_3 (y27.1,y27.2.1,y27.2.2.1,y27.2.2.2.1,y27.2.2.2.2.1,y27.2.2.2.2.2.2.1,y27.2.2.2.2.2.2.2.1,y27.2.2.2.2.2.2.2.2.1,y27.2.2.2.2.2.2.2.2.2)).bind (fun y28=>Sum.elim (fun y29=>(
some y29.1)) (fun y30=>(
cond (decide (99≤y30.2.1)) (
(F14 ()).bind fun r31=>(
some r31)) (
ai (ah .i64 (y30.2.1+1)) (
ai (bC 40 y30.1.length) (
ai (bC 40 (List.length y30.1+List.length ([((y30.2.1+1),(y30.2.2.2.2.2.2.1.1,(1,(99,y30.2.2.2.2.2.2.1.2.2))))]:List Y1))) (
(F15 (y30.2.2.2.2.2.1,(y30.1++([((y30.2.1+1),(y30.2.2.2.2.2.2.1.1,(1,(99,y30.2.2.2.2.2.2.1.2.2))))]:List Y1)),y30.2.2.2.2.2.2.1.1,99)).bind fun r32=>(
cond (decide (y30.2.2.2.2.1=0)) (
cond (decide (r32.2=0)) (
cond (((decide (r32.1.1=2)&&decide (r32.1.2.1=y30.2.2.1))&&decide (r32.1.2.2.1=y30.2.2.2.1))&&decide (r32.1.2.2.2=y30.2.2.2.2.2.2.1.2.2)) (
(F14 ()).bind fun r33=>(
some r33)) (
some false)) (
some false)) (
cond (decide (r32.2=0)) (
cond (((decide (r32.1.1=1)&&decide (r32.1.2.1=(-1)))&&decide (r32.1.2.2.1=(-1)))&&decide (r32.1.2.2.2=y30.2.2.2.2.2.2.1.2.2)) (
(F14 ()).bind fun r34=>(
some r34)) (
some false)) (
some false))))))))) y28))))))))))) y8))))))
theorem g7 (F12:dG)(F14:cX)(F17:fo)(F21:iR)(F18:lu)(F22 F23:eM)(F15:dp):aK (T7 F12 F14 F17 F21 F18 F22 F23 F15) sh7 [(.t 6)] c7=u3 (q7 F12 F14 F17 F21 F18 F22 F23 F15 (l7_0 (T7 F12 F14 F17 F21 F18 F22 F23 F15)) (l7_1 (T7 F12 F14 F17 F21 F18 F22 F23 F15)) (l7_3 (T7 F12 F14 F17 F21 F18 F22 F23 F15))):=funext fun _=>by kernel_rfl
noncomputable def p7:=q7 iZ fJ ml P21 wc P22 P23 P15 L7_0 L7_1 L7_3
noncomputable def T63:List FEnt:=[]
theorem t63:al Try.prog T63:=aj
noncomputable def c63:=bK Try.prog [] Try.f63 (.s .n (.s .n (.s (.r [.a 0 false y7,.a 2 false y7]) .n)))
theorem ok63:L.Fn Try.prog 63 8 [(.t 2)] (erase c63):=oA Try.func63
def Kw:FSh:=⟨⟨[(.v y19)],[]⟩,[y19],0,⟨⟨zS,dg⟩,[y19],[],1⟩,true⟩
noncomputable def q63 (a0:List Int):Option Y2:=
BN (decide (List.length a0=0)) (
some ([]:List Int)) (
ai (bC 8 (List.length ([]:List Int)+List.length a0)) (
some (([]:List Int)++a0)))
theorem g63 (a0:List Int):aK T63 Kw [(.t 2)] c63 a0=q63 a0:=by kernel_rfl
noncomputable def p63:=q63
noncomputable def P63:mc:=fun x=>p63 x
theorem v63:aK T63 Kw [(.t 2)] c63=P63:=funext fun x=>(g63 x)
theorem d63:DC Try.prog 63 Kw P63:=dD v63 t63 ok63
noncomputable def Kx (F63:mc):List FEnt:=[⟨63,Kw,F63⟩]
theorem t55:al Try.prog (Kx P63):=dK aj d63
def Pn:LSh:=⟨[3,6,12,13,14,21,22,23],⟨[(.slc 0),(.v y7),(.slr 1),(.v y7),(.v y7),(.slc 2),(.v y7),(.v y7)],[(0,(.row 3 y7)),(1,(.rows 22 3 y7)),(2,(.row 3 y7))]⟩,[y7,y7,y7,y7,y7,y19,cD,y19],3,[1,2]⟩
def Po:List XSh:=[⟨(.exit 2),[3,12,13,14],⟨⟨[(.slc 3),(.slr 1),(.v y7),(.v y7)],[(1,(.rows 22 3 y7)),(2,(.row 3 y7)),(3,(.row 3 y7))]⟩,[y7,y7,cD,y19,y19],[1,2],4⟩⟩]
def Pp:LSh:=⟨[3,12,13,14],⟨[(.slc 0),(.slr 1),(.v y7),(.v y7)],[(0,(.row 3 y7)),(1,(.rows 22 3 y7))]⟩,[y7,y7,y19,cD],2,[1]⟩
def Pq:List XSh:=[⟨(.exit 0),[3],⟨⟨[(.slc 2)],[(1,(.rows 22 3 y7)),(2,(.row 3 y7))]⟩,[cD,y19],[1],3⟩⟩]
noncomputable def ZZ:=bK Try.prog [] Try.f55 (.s .n (.s .n (.s (.s .n (.b (.l Pp Pq (.s .n (.s .n (.s (.b (.s .n (.s .n (.s (.r [.a 2 false y7,.a 3 false y7]) (.b (.l Pn Po (.s .n (.s .n (.s (.b (.s .n (.s .n (.s (.s .n (.s (.r [.a 2 false y7,.a 3 false y7]) .n)) .n)))) .n))))))))) .n)))))) .n)))
noncomputable def Pr (T:List FEnt):=aD (xs:=Po) Pn (bd T (sb [1,1,0,1,2,2,1,1,0,2,1,1,1,2,2] ZZ))
noncomputable def l55_1 (T:List FEnt):=af (Pr T)
noncomputable def q55_1 (F63:mc)(a0 a1 a2 a3 a4:Int)(a5:List Int)(a6:List Y2)(a7:List Int):Option ((Int×Int×Int×Int×Int×Y2×Y9×Y2)⊕Y430):=
cond (decide (a4 < a3)) (
ai (aA a4 a7.length) (
cond (decide ((ix a7 a4)=(-1))) (
ai (ah .i64 (a0+1)) (
ai (ah .i64 (a4+1)) (
some (Sum.inl ((a0+1),a1,a2,a3,(a4+1),a5,a6,a7))))) (
cond (decide (0 < a0)) (
ai (bC 8 (List.length a5+List.length ([a0]:List Int))) (
ai (ah .i64 (a4+1)) (
some (Sum.inl (0,a1,a2,a3,(a4+1),(a5++([a0]:List Int)),a6,a7))))) (
ai (ah .i64 (a4+1)) (
some (Sum.inl (0,a1,a2,a3,(a4+1),a5,a6,a7))))))) (
some (Sum.inr (a1,a2,a6,a7,a5)))
theorem Z4 (F63:mc):Pr (Kx F63)=u8 (q55_1 F63):=funext fun _=>by kernel_rfl
noncomputable def Ps:=q55_1 P63
noncomputable def sA:Y449:=af (u8 Ps)
theorem Z5:l55_1 (Kx P63)=sA:=congrArg af (Z4 P63)
noncomputable def Pt (T:List FEnt):=aD (xs:=Pq) Pp (bd T (sb [1,1,0,1,2,2] ZZ))
noncomputable def l55_0 (T:List FEnt):=af (Pt T)
noncomputable def sB (F63:mc)(l55_1:Y449)(a0 a1:Int)(a2:List Int)(a3:List Y2):Option ((Int×Int×Y2×Y9)⊕Y442):=
cond (decide (a1 < a0)) (
ai (aA a1 a3.length) (
(F63 (ix a3 a1)).bind fun r1=>(
ai (bC 8 (List.length r1+List.length ([0]:List Int))) (
(l55_1 (0,a0,a1,(↑(List.length (r1++([0]:List Int))):Int),0,a2,a3,(r1++([0]:List Int)))).bind fun y2=>(
ai (ah .i64 (y2.2.1+1)) (
some (Sum.inl (y2.1,(y2.2.1+1),y2.2.2.2.2,y2.2.2.1)))))))) (
some (Sum.inr (a3,a2)))
theorem Z6 (F63:mc):Pt (Kx F63)=u4 (sB F63 (l55_1 (Kx F63))):=funext fun _=>by kernel_rfl
noncomputable def Pu:=sB P63 sA
noncomputable def wd:Y450:=af (u4 Pu)
theorem Z7:l55_0 (Kx P63)=wd:=congrArg af ((Z6 P63).trans (by rw[Z5] <;> rfl))
theorem ok55:L.Fn Try.prog 55 40 [(.t 2)] (erase ZZ):=oA Try.func55
def G1:FSh:=⟨⟨If,k9⟩,Xh,5,⟨⟨[(.slc 5)],[(0,(.box j23)),(1,(.rows 22 3 y7)),(2,(.pmap 4)),(3,(.row 3 y7)),(4,(.pool cW)),(5,(.row 3 y7))]⟩,[y19,y7,cD,y19,oa,y19],[0,1,2,3,4],6⟩,false⟩
noncomputable def q55 (F63:mc)(l55_0:Y450)(a0:List Int)(a1:Int)(a2:List Y2)(a3:List Int)(a4:List Y3):Option Y431:=
(l55_0 ((↑a2.length:Int),0,([]:List Int),a2)).bind fun y3=>(
some (a0,a1,y3.1,a3,a4,y3.2))
theorem g55 (F63:mc):aK (Kx F63) G1 [(.t 2)] ZZ=u5 (q55 F63 (l55_0 (Kx F63))):=funext fun _=>by kernel_rfl
noncomputable def p55:=q55 P63 wd
noncomputable def uw:ue:=u5 p55
theorem v55:aK (Kx P63) G1 [(.t 2)] ZZ=uw:=(g55 P63).trans (by rw[Z7] <;> rfl)
theorem d55:DC Try.prog 55 G1 uw:=dD v55 t55 ok55
noncomputable def VM:List FEnt:=[]
theorem t54:al Try.prog VM:=aj
def Pv:LSh:=⟨[0,3,4],⟨j36,[]⟩,Wq,0,[]⟩
def Pw:List XSh:=[⟨(.exit 0),[3],⟨⟨lZ,[]⟩,[y7],[],0⟩⟩]
noncomputable def c54:=bK Try.prog [] Try.f54 (.s .n (.s .n (.s .n (.s (.s .n (.b (.l Pv Pw .n))) .n))))
noncomputable def Px (T:List FEnt):=aD (xs:=Pw) Pv (bd T (sb [1,1,1,0,1,2,2] c54))
noncomputable def l54_0 (T:List FEnt):=af (Px T)
noncomputable def sC (a0:List Int)(a1 a2:Int):Option (Y72⊕Int):=
cond (decide (a2 < (↑a0.length:Int))) (
ai (aA a2 a0.length) (
ai (ah .i64 (a2+1)) (
some (Sum.inl (a0,(max a1 (ix a0 a2)),(a2+1)))))) (
some (Sum.inr a1))
theorem Z8:Px VM=u3 sC:=funext fun _=>by kernel_rfl
noncomputable def Py:=sC
noncomputable def Bf:Y415:=af (u3 Py)
theorem v54_0:l54_0 VM=Bf:=congrArg af Z8
theorem ok54:L.Fn Try.prog 54 25 [(.t 2)] (erase c54):=oA Try.func54
def Ky:FSh:=⟨⟨[(.v y19)],[]⟩,[y19],0,⟨⟨lZ,[]⟩,[y7],[],0⟩,true⟩
noncomputable def q54 (l54_0:Y415)(a0:List Int):Option Int:=
cond (decide ((↑a0.length:Int) < 1)) (
none) (
ai (aA 0 a0.length) (
(l54_0 (a0,(ix a0 0),1)).bind fun y1=>(
some y1)))
theorem g54 (a0:List Int):aK VM Ky [(.t 2)] c54 a0=q54 (l54_0 VM) a0:=by kernel_rfl
noncomputable def p54:=q54 Bf
noncomputable def Pz:C1:=fun x=>p54 x
theorem v54:aK VM Ky [(.t 2)] c54=Pz:=funext fun x=>(g54 x).trans (by rw[v54_0] <;> rfl)
theorem d54:DC Try.prog 54 Ky Pz:=dD v54 t54 ok54
noncomputable def T32 (F42:ca)(F42v1:gE)(F55:ue)(F54:C1):List FEnt:=[⟨42,tR,F42⟩,⟨42,iP,F42v1⟩,⟨55,G1,F55⟩,⟨54,Ky,F54⟩]
theorem t32:al Try.prog (T32 ja P42v1 uw Pz):=dK (dK (dK (dK aj d54) d55) rT) Vp
noncomputable def c32:=bK Try.prog [] Try.f32 (.s .n (.s .n (.s .n (.s (.r [.a 2 false y7,.a 3 false y7]) .n))))
theorem ok32:L.Fn Try.prog 32 25 [(.t 6),(.t 7)] (erase c32):=oA Try.func32
def G2:FSh:=⟨⟨JV,[]⟩,JS,0,⟨⟨LU,[]⟩,[y7,y7],[],0⟩,true⟩
noncomputable def q32 (F42:ca)(F42v1:gE)(F55:ue)(F54:C1)(a0:Y2×Int)(a1:List Y1)(a2:Int):Option yz:=
Id (F42 (a0,a1,a2,0,1)) (fun r1=>(
cond (!decide (r1=0)) (
some (0,r1)) (
none))) (
(F42v1 (a0,a1,a2,0,1)).bind fun r2=>(
cond (!decide (r2.1=0)) (
some (0,r2.1)) (
(F55 (r2.2.1,r2.2.2.1,r2.2.2.2.1,r2.2.2.2.2.1,r2.2.2.2.2.2)).bind fun r3=>(
ai (bC 8 (List.length r3.2.2.2.2.2+List.length ([0]:List Int))) (
(F54 (r3.2.2.2.2.2++([0]:List Int))).bind fun r4=>(
some (r4,0)))))))
theorem g32 (F42:ca)(F42v1:gE)(F55:ue)(F54:C1):aK (T32 F42 F42v1 F55 F54) G2 [(.t 6),(.t 7)] c32=u3 (q32 F42 F42v1 F55 F54):=funext fun _=>by kernel_rfl
noncomputable def p32:=q32 ja P42v1 uw Pz
noncomputable def PA:uc:=u3 p32
theorem v32:aK (T32 ja P42v1 uw Pz) G2 [(.t 6),(.t 7)] c32=PA:=g32 ja P42v1 uw Pz
theorem d32:DC Try.prog 32 G2 PA:=dD v32 t32 ok32
end Go.Proofs.Ytdkaijofmigmbaa.D
