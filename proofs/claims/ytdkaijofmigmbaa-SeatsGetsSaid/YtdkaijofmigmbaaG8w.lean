import Derived.Test.YtdkaijofmigmbaaG7w
import Derived.Test.YtdkaijofmigmbaaProg
set_option linter.unusedVariables false
set_option maxRecDepth 100000
namespace Go.Proofs.Ytdkaijofmigmbaa.D
open Go Go.Proofs Go.Proofs.Ytdkaijofmigmbaa.L
def z13:List Ty:=[aZ,y7,y7,aU,jg]
def z8:List Ty:=[aZ,.bool,y7,y7,aU,jg,fq,cG]
def z3:List Ty:=[aZ,y7,y7,y7,y7,y7,y7,y7,aU,jg,cG]
def j13:List RSh:=[(.v aZ),(.ptr 0 0),(.ptr 1 0),(.v y7),(.v y7)]
def j26:List RSh:=[(.v aZ),(.ptr 0 0),(.ptr 1 0),(.v y7)]
def j6:List RSh:=[(.v aZ),(.ptr 0 0),(.ptr 1 0),(.ptr 2 0),(.slr 3),(.v .bool),(.v y7),(.v y7)]
def j2:List RSh:=[(.v aZ),(.ptr 0 0),(.ptr 1 0),(.v y7),(.slr 2),(.v y7),(.v y7),(.v y7),(.v y7),(.v y7),(.v y7)]
def G8:List (Nat×OSh):=[(0,(.boxT aU)),(1,(.boxT jg))]
def k18:List (Nat×OSh):=[(0,(.boxT jg)),(1,(.boxT fq)),(2,(.boxT fq)),(3,(.row 3 y7))]
def k22:List (Nat×OSh):=[(0,(.rows 22 3 y7)),(1,(.boxT aU))]
def V7:List (Nat×OSh):=[(0,(.boxT aU)),(1,(.boxT jg)),(2,(.boxT fq)),(3,(.rows 22 3 y7))]
def k16:List (Nat×OSh):=[(0,(.boxT aU)),(1,(.boxT y18)),(2,(.row 40 cZ)),(3,(.row 40 cZ))]
def TT:List (Nat×OSh):=[(0,(.boxT aU)),(1,(.boxT jg)),(2,(.rows 22 3 y7))]
noncomputable def T4 (F12:cp)(F14:bS)(F13:mj)(F15:bZ)(F16:gI):List FEnt:=[⟨12,tN,F12⟩,⟨14,pX,F14⟩,⟨13,Cv,F13⟩,⟨15,qF,F15⟩,⟨16,yu,F16⟩]
theorem t4:ak Try.prog (T4 P12 P14 kH P15 P16):=dK (dK (dK (dK (dK ai d16) Tw) d13) TO) V6
def KG:LSh:=⟨[1,3,5,7,8],⟨j13,G8⟩,z13,2,[0,1]⟩
def KH:List XSh:=[⟨.ret,[6],⟨⟨fG,G8⟩,[.bool,aU,jg],[0,1],2⟩⟩,⟨(.exit 0),[1,3,5,7],⟨⟨j26,G8⟩,[aZ,y7,aU,jg],[0,1],2⟩⟩]
def ZW:LSh:=⟨[5,10,12,14,16,17],⟨[(.ptr 0 0),(.ptr 1 0),(.ptr 2 0),(.slc 3),(.v .bool),(.v y7)],k18⟩,[.bool,y7,jg,fq,fq,y19],4,[0,1,2,3]⟩
def ZX:List XSh:=[⟨.ret,[6],⟨⟨fG,k18⟩,[.bool,jg,fq,fq,y19],[0,1,2,3],4⟩⟩,⟨(.exit 2),[10,12,16],⟨⟨[(.ptr 1 0),(.ptr 2 0),(.v .bool)],k18⟩,[.bool,jg,fq,fq,y19],[0,1,2,3],4⟩⟩]
noncomputable def c4:=bK Try.prog [(12,{ch:=[1,0,0,0,0,0,1,0,1,0,1,0,0],rs:=[5],ord:=[0,1,3,4,5,6,7,8,9,10,2,11,12] })] Try.f4 (.s .n (.s .n (.s .n (.s (.s .n (.b (.l KG KH .n))) (.s .n (.s (.r [.a 9 true cZ,.a 10 true cZ,.a 11 true cZ]) (.s .n (.s .n (.s .n (.s .n (.s .n (.s (.s .n (.b (.l ZW ZX .n))) .n))))))))))))
noncomputable def ZY (T:List FEnt):=aB (xs:=KH) KG (bc T (sb [1,1,1,0,1,2,2] c4))
noncomputable def l4_0 (T:List FEnt):=aa (ZY T)
noncomputable def ZZ (F12:cp)(F14:bS)(F13:mj)(F15:bZ)(F16:gI)(a0:List Y1)(a1 a2:Int)(a3:Y2×Int)(a4:cw):Option Y475:=
cond (decide (a2 < (↑a0.length:Int))) (
ah (aA a2 a0.length) (
cond (decide (a4.1 < (ix a0 a2).2.1)) (
(F14 ()).bind fun r6=>(
some (Sum.inr (Sum.inl (r6,a3,a4))))) (
ah (aA a2 a0.length) (
ah (af .i64 (a2+1)) (
some (Sum.inl (a0,(max a1 ((ix a0 a2).1)),(a2+1),a3,a4))))))) (
some (Sum.inr (Sum.inr (a0,a1,a3,a4))))
theorem g4_0 (F12:cp)(F14:bS)(F13:mj)(F15:bZ)(F16:gI):ZY (T4 F12 F14 F13 F15 F16)=u5 (ZZ F12 F14 F13 F15 F16):=funext fun _=>by kernel_rfl
noncomputable def p4_0:=ZZ P12 P14 kH P15 P16
noncomputable def Z4:CL:=aa (u5 p4_0)
theorem v4_0:l4_0 (T4 P12 P14 kH P15 P16)=Z4:=congrArg aa (g4_0 P12 P14 kH P15 P16)
noncomputable def Z5 (T:List FEnt):=aB (xs:=ZX) ZW (bc T (sb [1,1,1,1,1,1,1,1,1,1,1,0,1,2,2] c4))
noncomputable def l4_1 (T:List FEnt):=aa (Z5 T)
noncomputable def Z6 (F12:cp)(F14:bS)(F13:mj)(F15:bZ)(F16:gI)(a0:Bool)(a1:Int)(a2:cw)(a3 a4:Y4)(a5:List Int):Option ((Bool×Int×cw×Y4×Y4×Y2)⊕Y434):=
cond (decide (a1 < (↑a5.length:Int))) (
cond a0 (
cond (decide (0 < a1)) (
ah (aA a1 a5.length) (
ah (af .i64 (a1-1)) (
ah (aA (a1-1) a5.length) (
cond (decide ((ix a5 a1)≤(ix a5 (a1-1)))) (
some (Sum.inr (Sum.inl (false,a2,a3,a4,a5)))) (
ah (af .i64 (a1+1)) (
some (Sum.inl (true,(a1+1),a2,a3,a4,a5)))))))) (
ah (af .i64 (a1+1)) (
some (Sum.inl (true,(a1+1),a2,a3,a4,a5))))) (
ah (aA a1 a5.length) (
cond (decide (0 < a1)) (
ah (aA a1 a5.length) (
ah (af .i64 (a1-1)) (
ah (aA (a1-1) a5.length) (
cond (decide ((ix a5 a1)≤(ix a5 (a1-1)))) (
some (Sum.inr (Sum.inl (false,a2,a3,a4,a5)))) (
ah (af .i64 (a1+1)) (
some (Sum.inl (decide ((ix a5 a1)=a2.2.1),(a1+1),a2,a3,a4,a5)))))))) (
ah (af .i64 (a1+1)) (
some (Sum.inl (decide ((ix a5 a1)=a2.2.1),(a1+1),a2,a3,a4,a5))))))) (
some (Sum.inr (Sum.inr (a0,a2,a3,a4,a5))))
theorem g4_1 (F12:cp)(F14:bS)(F13:mj)(F15:bZ)(F16:gI):Z5 (T4 F12 F14 F13 F15 F16)=u6 (Z6 F12 F14 F13 F15 F16):=funext fun _=>by kernel_rfl
noncomputable def p4_1:=Z6 P12 P14 kH P15 P16
noncomputable def Z7:Y444:=aa (u6 p4_1)
theorem v4_1:l4_1 (T4 P12 P14 kH P15 P16)=Z7:=congrArg aa (g4_1 P12 P14 kH P15 P16)
theorem ok4:L.Fn Try.prog 4 165 [(.t 6)] (erase c4):=oA Try.func4
def sh4:FSh:=⟨⟨TQ,[]⟩,TP,0,⟨⟨fG,[]⟩,[.bool],[],0⟩,true⟩
noncomputable def q4 (F12:cp)(F14:bS)(F13:mj)(F15:bZ)(F16:gI)(l4_0:CL)(l4_1:Y444)(a0:Y2×Int)(a1:List Y1)(a2:cw):Option Bool:=
(F12 (a0,a1,a2.1)).bind fun r1=>(
cond (!r1) (
(F14 ()).bind fun r2=>(
some r2)) (
(F13 a2.2.1).bind fun r3=>(
cond (!r3) (
(F14 ()).bind fun r4=>(
some r4)) (
cond (decide (40≤(↑a1.length:Int))) (
(F14 ()).bind fun r5=>(
some r5)) (
(l4_0 (a1,(-1),0,a0,a2)).bind (fun y7=>Sum.elim (fun y8=>(
some y8.1)) (fun y9=>(
cond (decide (99≤y9.2.1)) (
(F14 ()).bind fun r10=>(
some r10)) (
ah (af .i64 (y9.2.1+1)) (
ah (bC 40 y9.1.length) (
ah (bC 40 (List.length y9.1+List.length ([((y9.2.1+1),(y9.2.2.2.1,(2,(y9.2.2.2.2.1,0))))]:List Y1))) (
(F15 (y9.2.2.1,y9.1,y9.2.2.2.1,y9.2.2.2.2.1)).bind fun r11=>(
(F15 (y9.2.2.1,(y9.1++([((y9.2.1+1),(y9.2.2.2.1,(2,(y9.2.2.2.2.1,0))))]:List Y1)),y9.2.2.2.1,y9.2.2.2.2.1)).bind fun r12=>(
(F16 (y9.2.2.1,(y9.1++([((y9.2.1+1),(y9.2.2.2.1,(2,(y9.2.2.2.2.1,0))))]:List Y1)),y9.2.2.2.1)).bind fun r13=>(
cond (!decide (r11.2=0)) (
some false) (
cond (!decide (r12.2=0)) (
some false) (
cond (!decide (r13.1=0)) (
some false) (
cond (decide (40 < (↑r13.2.length:Int))) (
some false) (
(l4_1 (false,0,y9.2.2.2,r11.1,r12.1,r13.2)).bind (fun y14=>Sum.elim (fun y15=>(
some y15.1)) (fun y16=>(
cond (decide (y16.2.2.1.1=2)) (
cond (((decide (y16.2.2.2.1.1=3)&&decide (y16.2.2.2.1.2.1=y16.2.2.1.2.1))&&decide (y16.2.2.2.1.2.2.1=y16.2.2.1.2.2.1))&&decide (y16.2.2.2.1.2.2.2=y16.2.2.1.2.2.2)) (
(F14 ()).bind fun r17=>(
some r17)) (
some false)) (
cond (((decide (y16.2.2.2.1.1=y16.2.2.1.1)&&decide (y16.2.2.2.1.2.1=y16.2.2.1.2.1))&&decide (y16.2.2.2.1.2.2.1=y16.2.2.1.2.2.1))&&decide (y16.2.2.2.1.2.2.2=y16.2.2.1.2.2.2)) (
cond y16.1 (
(F14 ()).bind fun r18=>(
some r18)) (
some false)) (
some false)))) y14)))))))))))))) y7))))))
theorem g4 (F12:cp)(F14:bS)(F13:mj)(F15:bZ)(F16:gI):aK (T4 F12 F14 F13 F15 F16) sh4 [(.t 6)] c4=u3 (q4 F12 F14 F13 F15 F16 (l4_0 (T4 F12 F14 F13 F15 F16)) (l4_1 (T4 F12 F14 F13 F15 F16))):=funext fun _=>by kernel_rfl
noncomputable def p4:=q4 P12 P14 kH P15 P16 Z4 Z7
noncomputable def P4:CK:=u3 p4
theorem v4:aK (T4 P12 P14 kH P15 P16) sh4 [(.t 6)] c4=P4:=(g4 P12 P14 kH P15 P16).trans (by rw[v4_0,v4_1] <;> rfl)
theorem d4:DC Try.prog 4 sh4 P4:=dD v4 t4 ok4
noncomputable def V8:List FEnt:=[]
theorem t18:ak Try.prog V8:=ai
def PS:LSh:=⟨[1,2,5],⟨[(.slr 0),(.ptr 1 0),(.v y7)],k22⟩,[y7,cG,aU],2,[0,1]⟩
def PT:List XSh:=[⟨.ret,[4],⟨⟨fG,k22⟩,[.bool,cG,aU],[0,1],2⟩⟩,⟨(.exit 0),[1,2],⟨⟨[(.slr 0),(.ptr 1 0)],k22⟩,[cG,aU],[0,1],2⟩⟩]
noncomputable def c18:=bK Try.prog [] Try.f18 (.s .n (.s (.s .n (.b (.l PS PT .n))) .n))
noncomputable def PU (T:List FEnt):=aB (xs:=PT) PS (bc T (sb [1,0,1,2,2] c18))
noncomputable def l18_0 (T:List FEnt):=aa (PU T)
noncomputable def sf (a0:Int)(a1:List Y2)(a2:Y2×Int):Option ((Int×Y9×Y2×Int)⊕Y455):=
cond (decide (a0 < (↑a1.length:Int))) (
cond (decide (a0 < (↑a2.1.length:Int))) (
ah (aA a0 a1.length) (
ah (aA a0 a2.1.length) (
cond (!decide ((↑(List.length (ix a1 a0)):Int)=(ix a2.1 a0))) (
some (Sum.inr (Sum.inl (false,a1,a2)))) (
ah (af .i64 (a0+1)) (
some (Sum.inl ((a0+1),a1,a2))))))) (
some (Sum.inr (Sum.inr (a1,a2))))) (
some (Sum.inr (Sum.inr (a1,a2))))
theorem Z8:PU V8=u3 sf:=funext fun _=>by kernel_rfl
noncomputable def PV:=sf
noncomputable def A7:Y466:=aa (u3 PV)
theorem Z9:l18_0 V8=A7:=congrArg aa Z8
theorem ok18:L.Fn Try.prog 18 36 [(.t 4)] (erase c18):=oA Try.func18
def G9:FSh:=⟨⟨[(.st aU),(.slr 0)],yx⟩,[aU,cG],1,⟨⟨fG,yx⟩,[.bool,cG],[0],1⟩,false⟩
noncomputable def q18 (l18_0:Y466)(a0:Y2×Int)(a1:List Y2):Option Y436:=
(l18_0 (0,a1,a0)).bind (fun y1=>Sum.elim (fun y2=>(
some (y2.1,y2.2.1))) (fun y3=>(
some (decide ((↑y3.1.length:Int)=(↑y3.2.1.length:Int)),y3.1))) y1)
theorem g18:aK V8 G9 [(.t 4)] c18=u2 (q18 (l18_0 V8)):=funext fun _=>by kernel_rfl
noncomputable def p18:=q18 A7
noncomputable def P18:iU:=u2 p18
theorem v18:aK V8 G9 [(.t 4)] c18=P18:=g18.trans (by rw[Z9] <;> rfl)
theorem d18:DC Try.prog 18 G9 P18:=dD v18 t18 ok18
noncomputable def T5 (F12:cp)(F14:bS)(F13:mj)(F15:bZ)(F17:eF)(F18:iU):List FEnt:=[⟨12,tN,F12⟩,⟨14,pX,F14⟩,⟨13,Cv,F13⟩,⟨15,qF,F15⟩,⟨17,yz,F17⟩,⟨18,G9,F18⟩]
theorem t5:ak Try.prog (T5 P12 P14 kH P15 P17 P18):=dK (dK (dK (dK (dK (dK ai d18) d17) Tw) d13) TO) V6
def aaa:LSh:=⟨[1,3,5,7,9,11,12,13,14],⟨[(.v aZ),(.ptr 0 0),(.ptr 1 0),(.ptr 2 0),(.slr 3),(.v .bool),(.v y7),(.v y7),(.v y7)],V7⟩,[aZ,.bool,y7,y7,y7,aU,jg,fq,cG],4,[0,1,2,3]⟩
def aab:List XSh:=[⟨.ret,[6],⟨⟨fG,V7⟩,[.bool,aU,jg,fq,cG],[0,1,2,3],4⟩⟩,⟨(.exit 2),[1,3,5,7,9,11,12,13],⟨⟨j6,V7⟩,z8,[0,1,2,3],4⟩⟩]
def aac:LSh:=⟨[1,3,5,7,9,11,12,13],⟨j6,V7⟩,z8,4,[0,1,2,3]⟩
def aad:List XSh:=[⟨.ret,[6],⟨⟨fG,V7⟩,[.bool,aU,jg,fq,cG],[0,1,2,3],4⟩⟩,⟨(.exit 0),[7,11,12],⟨⟨[(.ptr 2 0),(.v .bool),(.v y7)],V7⟩,[.bool,y7,aU,jg,fq,cG],[0,1,2,3],4⟩⟩]
noncomputable def c5:=bK Try.prog [] Try.f5 (.s .n (.s .n (.s .n (.s .n (.s .n (.s .n (.s .n (.s .n (.s (.s .n (.b (.l aac aad (.s .n (.s (.b (.s .n (.b (.l aaa aab .n)))) .n))))) .n)))))))))
noncomputable def aae (T:List FEnt):=aB (xs:=aab) aaa (bc T (sb [1,1,1,1,1,1,1,1,0,1,2,2,1,0,2,1,2,2] c5))
noncomputable def l5_1 (T:List FEnt):=aa (aae T)
noncomputable def Cw (F12:cp)(F14:bS)(F13:mj)(F15:bZ)(F17:eF)(F18:iU)(a0:List Y1)(a1:Bool)(a2 a3 a4:Int)(a5:Y2×Int)(a6:cw)(a7:Y4)(a8:List Y2):Option ((Y8×Bool×Int×Int×Int×dC×cw×Y4×Y9)⊕Y456):=
ah (aA a3 a8.length) (
cond (decide (a4 < (↑(List.length (ix a8 a3)):Int))) (
ah (aA a3 a8.length) (
ah (aA a4 (List.length (ix a8 a3))) (
cond (decide ((ix (ix a8 a3) a4)=a6.2.1)) (
ah (af .i64 (a2+1)) (
cond (!a1) (
some (Sum.inr (Sum.inl (false,a5,a6,a7,a8)))) (
cond (!decide (a3=a7.2.1)) (
some (Sum.inr (Sum.inl (false,a5,a6,a7,a8)))) (
cond (decide (a4 < a7.2.2.1)) (
some (Sum.inr (Sum.inl (false,a5,a6,a7,a8)))) (
ah (af .i64 (a7.2.2.1+a7.2.2.2)) (
cond (decide ((a7.2.2.1+a7.2.2.2)≤a4)) (
some (Sum.inr (Sum.inl (false,a5,a6,a7,a8)))) (
cond (decide ((ix (ix a8 a3) a4)=(-1))) (
ah (af .i64 (a4+1)) (
some (Sum.inl (a0,a1,(a2+1),a3,(a4+1),a5,a6,a7,a8)))) (
(F15 (a5,a0,a6.1,(ix (ix a8 a3) a4))).bind fun r8=>(
cond (!decide (r8.2=0)) (
some (Sum.inr (Sum.inl (false,a5,a6,a7,a8)))) (
cond (!decide (r8.1.1=2)) (
cond (!decide (r8.1.1=3)) (
some (Sum.inr (Sum.inl (false,a5,a6,a7,a8)))) (
cond (!decide (r8.1.2.1=a3)) (
some (Sum.inr (Sum.inl (false,a5,a6,a7,a8)))) (
cond (decide (a4 < r8.1.2.2.1)) (
some (Sum.inr (Sum.inl (false,a5,a6,a7,a8)))) (
ah (af .i64 (r8.1.2.2.1+r8.1.2.2.2)) (
cond (decide ((r8.1.2.2.1+r8.1.2.2.2)≤a4)) (
some (Sum.inr (Sum.inl (false,a5,a6,a7,a8)))) (
ah (af .i64 (a4+1)) (
some (Sum.inl (a0,a1,(a2+1),a3,(a4+1),a5,a6,a7,a8))))))))) (
cond (!decide (r8.1.2.1=a3)) (
some (Sum.inr (Sum.inl (false,a5,a6,a7,a8)))) (
cond (decide (a4 < r8.1.2.2.1)) (
some (Sum.inr (Sum.inl (false,a5,a6,a7,a8)))) (
ah (af .i64 (r8.1.2.2.1+r8.1.2.2.2)) (
cond (decide ((r8.1.2.2.1+r8.1.2.2.2)≤a4)) (
some (Sum.inr (Sum.inl (false,a5,a6,a7,a8)))) (
ah (af .i64 (a4+1)) (
some (Sum.inl (a0,a1,(a2+1),a3,(a4+1),a5,a6,a7,a8)))))))))))))))))) (
cond (decide ((ix (ix a8 a3) a4)=(-1))) (
ah (af .i64 (a4+1)) (
some (Sum.inl (a0,a1,a2,a3,(a4+1),a5,a6,a7,a8)))) (
(F15 (a5,a0,a6.1,(ix (ix a8 a3) a4))).bind fun r9=>(
cond (!decide (r9.2=0)) (
some (Sum.inr (Sum.inl (false,a5,a6,a7,a8)))) (
cond (!decide (r9.1.1=2)) (
cond (!decide (r9.1.1=3)) (
some (Sum.inr (Sum.inl (false,a5,a6,a7,a8)))) (
cond (!decide (r9.1.2.1=a3)) (
some (Sum.inr (Sum.inl (false,a5,a6,a7,a8)))) (
cond (decide (a4 < r9.1.2.2.1)) (
some (Sum.inr (Sum.inl (false,a5,a6,a7,a8)))) (
ah (af .i64 (r9.1.2.2.1+r9.1.2.2.2)) (
cond (decide ((r9.1.2.2.1+r9.1.2.2.2)≤a4)) (
some (Sum.inr (Sum.inl (false,a5,a6,a7,a8)))) (
ah (af .i64 (a4+1)) (
some (Sum.inl (a0,a1,a2,a3,(a4+1),a5,a6,a7,a8))))))))) (
cond (!decide (r9.1.2.1=a3)) (
some (Sum.inr (Sum.inl (false,a5,a6,a7,a8)))) (
cond (decide (a4 < r9.1.2.2.1)) (
some (Sum.inr (Sum.inl (false,a5,a6,a7,a8)))) (
ah (af .i64 (r9.1.2.2.1+r9.1.2.2.2)) (
cond (decide ((r9.1.2.2.1+r9.1.2.2.2)≤a4)) (
some (Sum.inr (Sum.inl (false,a5,a6,a7,a8)))) (
ah (af .i64 (a4+1)) (
some (Sum.inl (a0,a1,a2,a3,(a4+1),a5,a6,a7,a8))))))))))))))) (
some (Sum.inr (Sum.inr (a0,a1,a2,a3,a5,a6,a7,a8)))))
theorem g5_1 (F12:cp)(F14:bS)(F13:mj)(F15:bZ)(F17:eF)(F18:iU):aae (T5 F12 F14 F13 F15 F17 F18)=u9 (Cw F12 F14 F13 F15 F17 F18):=funext fun _=>by kernel_rfl
noncomputable def aaf:=Cw P12 P14 kH P15 P17 P18
noncomputable def Ha:Y467:=aa (u9 aaf)
theorem v5_1:l5_1 (T5 P12 P14 kH P15 P17 P18)=Ha:=congrArg aa (g5_1 P12 P14 kH P15 P17 P18)
noncomputable def aag (T:List FEnt):=aB (xs:=aad) aac (bc T (sb [1,1,1,1,1,1,1,1,0,1,2,2] c5))
noncomputable def l5_0 (T:List FEnt):=aa (aag T)
noncomputable def Cx (F12:cp)(F14:bS)(F13:mj)(F15:bZ)(F17:eF)(F18:iU)(l5_1:Y467)(a0:List Y1)(a1:Bool)(a2 a3:Int)(a4:Y2×Int)(a5:cw)(a6:Y4)(a7:List Y2):Option (Y422⊕Y457):=
cond (decide (a3 < (↑a7.length:Int))) (
(l5_1 (a0,a1,a2,a3,0,a4,a5,a6,a7)).bind (fun y10=>Sum.elim (fun y11=>(
some (Sum.inr (Sum.inl (y11.1,y11.2.1,y11.2.2.1,y11.2.2.2.1,y11.2.2.2.2))))) (fun y12=>(
ah (af .i64 (y12.2.2.2.1+1)) (
some (Sum.inl (y12.1,y12.2.1,y12.2.2.1,(y12.2.2.2.1+1),y12.2.2.2.2.1,y12.2.2.2.2.2.1,y12.2.2.2.2.2.2.1,y12.2.2.2.2.2.2.2))))) y10)) (
some (Sum.inr (Sum.inr (a1,a2,a4,a5,a6,a7))))
theorem g5_0 (F12:cp)(F14:bS)(F13:mj)(F15:bZ)(F17:eF)(F18:iU):aag (T5 F12 F14 F13 F15 F17 F18)=u8 (Cx F12 F14 F13 F15 F17 F18 (l5_1 (T5 F12 F14 F13 F15 F17 F18))):=funext fun _=>by kernel_rfl
noncomputable def aah:=Cx P12 P14 kH P15 P17 P18 Ha
noncomputable def KI:Y468:=aa (u8 aah)
theorem v5_0:l5_0 (T5 P12 P14 kH P15 P17 P18)=KI:=congrArg aa ((g5_0 P12 P14 kH P15 P17 P18).trans (by rw[v5_1] <;> rfl))
theorem ok5:L.Fn Try.prog 5 187 [(.t 6)] (erase c5):=oA Try.func5
def sh5:FSh:=⟨⟨TQ,[]⟩,TP,0,⟨⟨fG,[]⟩,[.bool],[],0⟩,true⟩
noncomputable def q5 (F12:cp)(F14:bS)(F13:mj)(F15:bZ)(F17:eF)(F18:iU)(l5_0:Y468)(a0:Y2×Int)(a1:List Y1)(a2:cw):Option Bool:=
(F12 (a0,a1,a2.1)).bind fun r1=>(
cond (!r1) (
(F14 ()).bind fun r2=>(
some r2)) (
(F13 a2.2.1).bind fun r3=>(
cond (!r3) (
(F14 ()).bind fun r4=>(
some r4)) (
(F15 (a0,a1,a2.1,a2.2.1)).bind fun r5=>(
(F17 (a0,a1,a2.1)).bind fun r6=>(
cond (!decide (r5.2=0)) (
some false) (
cond (!decide (r6.1=0)) (
some false) (
(F18 (a0,r6.2)).bind fun r7=>(
cond (!r7.1) (
some false) (
cond (decide (r5.1.1=2)) (
(l5_0 (a1,true,0,0,a0,a2,r5.1,r7.2)).bind (fun y13=>Sum.elim (fun y14=>(
some y14.1)) (fun y15=>(
cond (!y15.1) (
(F14 ()).bind fun r16=>(
some r16)) (
cond (decide (y15.2.1=y15.2.2.2.2.1.2.2.2)) (
(F14 ()).bind fun r17=>(
some r17)) (
some false)))) y13)) (
cond (!(decide (r5.1.1=3))) (
cond (!decide (r5.1.2.1=(-1))) (
some false) (
cond (!decide (r5.1.2.2.1=(-1))) (
some false) (
(l5_0 (a1,decide (r5.1.1=3),0,0,a0,a2,r5.1,r7.2)).bind (fun y18=>Sum.elim (fun y19=>(
some y19.1)) (fun y20=>(
cond (!y20.1) (
(F14 ()).bind fun r21=>(
some r21)) (
cond (decide (y20.2.1=y20.2.2.2.2.1.2.2.2)) (
(F14 ()).bind fun r22=>(
some r22)) (
some false)))) y18)))) (
(l5_0 (a1,decide (r5.1.1=3),0,0,a0,a2,r5.1,r7.2)).bind (fun y23=>Sum.elim (fun y24=>(
some y24.1)) (fun y25=>(
cond (!y25.1) (
(F14 ()).bind fun r26=>(
some r26)) (
cond (decide (y25.2.1=y25.2.2.2.2.1.2.2.2)) (
(F14 ()).bind fun r27=>(
some r27)) (
some false)))) y23)))))))))))))
theorem g5 (F12:cp)(F14:bS)(F13:mj)(F15:bZ)(F17:eF)(F18:iU):aK (T5 F12 F14 F13 F15 F17 F18) sh5 [(.t 6)] c5=u3 (q5 F12 F14 F13 F15 F17 F18 (l5_0 (T5 F12 F14 F13 F15 F17 F18))):=funext fun _=>by kernel_rfl
noncomputable def p5:=q5 P12 P14 kH P15 P17 P18 KI
noncomputable def P5:CK:=u3 p5
theorem v5:aK (T5 P12 P14 kH P15 P17 P18) sh5 [(.t 6)] c5=P5:=(g5 P12 P14 kH P15 P17 P18).trans (by rw[v5_0] <;> rfl)
theorem d5:DC Try.prog 5 sh5 P5:=dD v5 t5 ok5
noncomputable def T6 (F12:cp)(F14:bS)(F17:eF)(F16:gI)(F19:tS)(F20:jI):List FEnt:=[⟨12,tN,F12⟩,⟨14,pX,F14⟩,⟨17,yz,F17⟩,⟨16,yu,F16⟩,⟨19,G7,F19⟩,⟨20,yv,F20⟩]
theorem t6:ak Try.prog (T6 P12 P14 P17 P16 Cu P20):=dK (dK (dK (dK (dK (dK ai d20) d19) d16) d17) TO) V6
def aai:LSh:=⟨[1,3,5,7,8,9],⟨[(.v aZ),(.ptr 0 0),(.ptr 1 0),(.slc 2),(.slc 3),(.v y7)],k16⟩,[aZ,y7,aU,y18,aZ,aZ],4,[0,1]⟩
def aaj:List XSh:=[⟨(.exit 0),[1,3,5,7,8],⟨⟨[(.v aZ),(.ptr 0 0),(.ptr 1 0),(.slc 2),(.slc 3)],k16⟩,[aZ,aU,y18,aZ,aZ],[0,1],4⟩⟩]
noncomputable def c6:=bK Try.prog [] Try.f6 (.s .n (.s .n (.s .n (.s (.s .n (.b (.l aai aaj (.s .n (.s (.b (.s .n (.s (.r [.a 6 true cZ,.a 7 true cZ]) (.s .n (.s (.r [.a 2 true cZ,.a 3 true cZ]) .n))))) .n))))) (.s .n (.s (.r [.f 4 7 []]) (.s (.r [.f 4 8 []]) .n)))))))
noncomputable def aak (T:List FEnt):=aB (xs:=aaj) aai (bc T (sb [1,1,1,0,1,2,2] c6))
noncomputable def l6_0 (T:List FEnt):=aa (aak T)
noncomputable def aal (F12:cp)(F14:bS)(F17:eF)(F16:gI)(F19:tS)(F20:jI)(a0:List Y1)(a1:Int)(a2:Y2×Int)(a3:Int×Int)(a4 a5:List Y1):Option ((Y8×Int×dC×CD×Y8×Y8)⊕Y424):=
cond (decide (a1 < (↑a0.length:Int))) (
ah (af .i64 (a1+a3.1)) (
ah (decide ((↑a0.length:Int)≠0)) (
ah (aA (Int.tmod (a1+a3.1) (↑a0.length:Int)) a0.length) (
ah (aA a1 a0.length) (
ah (bC 40 (List.length a4+List.length ([(ix a0 (Int.tmod (a1+a3.1) (↑a0.length:Int))),(ix a0 a1)]:List Y1))) (
cond (decide ((ix a0 (Int.tmod (a1+a3.1) (↑a0.length:Int))).2.1≤a3.2)) (
ah (bC 40 (List.length a5+List.length ([(ix a0 (Int.tmod (a1+a3.1) (↑a0.length:Int)))]:List Y1))) (
ah (af .i64 (a1+1)) (
some (Sum.inl (a0,(a1+1),a2,a3,(a4++([(ix a0 (Int.tmod (a1+a3.1) (↑a0.length:Int))),(ix a0 a1)]:List Y1)),(a5++([(ix a0 (Int.tmod (a1+a3.1) (↑a0.length:Int)))]:List Y1))))))) (
ah (af .i64 (a1+1)) (
some (Sum.inl (a0,(a1+1),a2,a3,(a4++([(ix a0 (Int.tmod (a1+a3.1) (↑a0.length:Int))),(ix a0 a1)]:List Y1)),a5)))))))))) (
some (Sum.inr (a0,a2,a3,a4,a5)))
theorem g6_0 (F12:cp)(F14:bS)(F17:eF)(F16:gI)(F19:tS)(F20:jI):aak (T6 F12 F14 F17 F16 F19 F20)=u6 (aal F12 F14 F17 F16 F19 F20):=funext fun _=>by kernel_rfl
noncomputable def p6_0:=aal P12 P14 P17 P16 Cu P20
noncomputable def aam:Y446:=aa (u6 p6_0)
theorem v6_0:l6_0 (T6 P12 P14 P17 P16 Cu P20)=aam:=congrArg aa (g6_0 P12 P14 P17 P16 Cu P20)
theorem ok6:L.Fn Try.prog 6 171 [(.t 6)] (erase c6):=oA Try.func6
def sh6:FSh:=⟨⟨[(.st aU),(.v aZ),(.st y18)],[]⟩,[aU,aZ,y18],0,⟨⟨fG,[]⟩,[.bool],[],0⟩,true⟩
noncomputable def q6 (F12:cp)(F14:bS)(F17:eF)(F16:gI)(F19:tS)(F20:jI)(l6_0:Y446)(a0:Y2×Int)(a1:List Y1)(a2:Int×Int):Option Bool:=
(F12 (a0,a1,a2.2)).bind fun r1=>(
cond (!r1) (
(F14 ()).bind fun r2=>(
some r2)) (
cond (decide (20 < (↑a1.length:Int))) (
(F14 ()).bind fun r3=>(
some r3)) (
cond (decide (a2.1 < 0)) (
(F14 ()).bind fun r4=>(
some r4)) (
cond (decide (100 < a2.1)) (
(F14 ()).bind fun r5=>(
some r5)) (
(l6_0 (a1,0,a0,a2,([]:List Y1),([]:List Y1))).bind fun y6=>(
(F17 (y6.2.1,y6.1,y6.2.2.1.2)).bind fun r7=>(
(F17 (y6.2.1,y6.2.2.2.1,y6.2.2.1.2)).bind fun r8=>(
(F17 (y6.2.1,y6.2.2.2.2,y6.2.2.1.2)).bind fun r9=>(
(F16 (y6.2.1,y6.1,y6.2.2.1.2)).bind fun r10=>(
(F16 (y6.2.1,y6.2.2.2.1,y6.2.2.1.2)).bind fun r11=>(
(F16 (y6.2.1,y6.2.2.2.2,y6.2.2.1.2)).bind fun r12=>(
cond (decide (r7.1=0)) (
cond (decide (r8.1=0)) (
cond (decide (r9.1=0)) (
(F19 (r7.2,r8.2)).bind fun r13=>(
cond r13.1 (
(F19 (r13.2.1,r9.2)).bind fun r14=>(
cond r14.1 (
cond (decide (r10.1=0)) (
cond (decide (r11.1=0)) (
cond (decide (r12.1=0)) (
(F20 (r10.2,r11.2)).bind fun r15=>(
cond r15 (
(F20 (r10.2,r12.2)).bind fun r16=>(
cond r16 (
(F14 ()).bind fun r17=>(
some r17)) (
some false))) (
some false))) (
some false)) (
some false)) (
some false)) (
some false))) (
some false))) (
some false)) (
some false)) (
some false)))))))))))))
theorem g6 (F12:cp)(F14:bS)(F17:eF)(F16:gI)(F19:tS)(F20:jI):aK (T6 F12 F14 F17 F16 F19 F20) sh6 [(.t 6)] c6=u3 (q6 F12 F14 F17 F16 F19 F20 (l6_0 (T6 F12 F14 F17 F16 F19 F20))):=funext fun _=>by kernel_rfl
noncomputable def p6:=q6 P12 P14 P17 P16 Cu P20 aam
noncomputable def P6:dC×Y8×Int×Int→Option Bool:=u3 p6
theorem v6:aK (T6 P12 P14 P17 P16 Cu P20) sh6 [(.t 6)] c6=P6:=(g6 P12 P14 P17 P16 Cu P20).trans (by rw[v6_0] <;> rfl)
theorem d6:DC Try.prog 6 sh6 P6:=dD v6 t6 ok6
noncomputable def T7 (F12:cp)(F14:bS)(F17:eF)(F21:dL)(F18:iU)(F22:fH)(F23:fH)(F15:bZ):List FEnt:=[⟨12,tN,F12⟩,⟨14,pX,F14⟩,⟨17,yz,F17⟩,⟨21,yp,F21⟩,⟨18,G9,F18⟩,⟨22,G5,F22⟩,⟨23,G6,F23⟩,⟨15,qF,F15⟩]
theorem t7:ak Try.prog (T7 P12 P14 P17 P21 P18 P22 P23 P15):=dK (dK (dK (dK (dK (dK (dK (dK ai Tw) d23) d22) d18) d21) d17) TO) V6
def aan:LSh:=⟨[1,3,5,7,9,11,12,13,14,15,16,17],⟨[(.v aZ),(.ptr 0 0),(.ptr 1 0),(.v y7),(.slr 2),(.v y7),(.v y7),(.v y7),(.v y7),(.v y7),(.v y7),(.v y7)],TT⟩,[aZ,y7,y7,y7,y7,y7,y7,y7,y7,aU,jg,cG],3,[0,1,2]⟩
def aao:List XSh:=[⟨(.exit 4),[1,3,5,7,9,11,12,13,14,15,16],⟨⟨j2,TT⟩,z3,[0,1,2],3⟩⟩]
def aap:LSh:=⟨[1,3,5,7,9,11,12,13,14,15,16],⟨j2,TT⟩,z3,3,[0,1,2]⟩
def aaq:List XSh:=[⟨(.exit 2),[1,3,5,7,9,11,12,13,14,15],⟨⟨[(.v aZ),(.ptr 0 0),(.ptr 1 0),(.v y7),(.slr 2),(.v y7),(.v y7),(.v y7),(.v y7),(.v y7)],TT⟩,[aZ,y7,y7,y7,y7,y7,y7,aU,jg,cG],[0,1,2],3⟩⟩]
def aar:LSh:=⟨[1,3,5,7,9,11,12,13,15],⟨[(.v aZ),(.ptr 0 0),(.ptr 1 0),(.v y7),(.slr 2),(.v y7),(.v y7),(.v y7),(.v y7)],TT⟩,[aZ,y7,y7,y7,y7,y7,aU,jg,cG],3,[0,1,2]⟩
def aas:List XSh:=[⟨.ret,[6],⟨⟨fG,TT⟩,[.bool,aU,jg,cG],[0,1,2],3⟩⟩,⟨.normal,[1,3,5,7,11,12,13],⟨⟨[(.v aZ),(.ptr 0 0),(.ptr 1 0),(.v y7),(.v y7),(.v y7),(.v y7)],TT⟩,[aZ,y7,y7,y7,y7,aU,jg,cG],[0,1,2],3⟩⟩]
noncomputable def c7:=bK Try.prog [(32,{ch:=[1,0,0,0,0,0,1,0,1,0,1,0,0],rs:=[5],ord:=[0,1,3,4,5,6,7,8,9,10,2,11,12] })] Try.f7 (.s .n (.s .n (.s .n (.s (.s .n (.b (.l KG KH .n))) (.s .n (.s .n (.s .n (.s .n (.s (.s .n (.b (.l aap aaq (.s .n (.s (.b (.s .n (.b (.l aan aao .n)))) .n))))) (.s .n (.s (.o aar aas .n) (.s .n (.s (.r [.a 9 true cZ,.a 10 true cZ,.a 11 true cZ]) .n)))))))))))))
noncomputable def aat (T:List FEnt):=aB (xs:=KH) KG (bc T (sb [1,1,1,0,1,2,2] c7))
noncomputable def l7_0 (T:List FEnt):=aa (aat T)
noncomputable def q7_0 (F12:cp)(F14:bS)(F17:eF)(F21:dL)(F18:iU)(F22 F23:fH)(F15:bZ)(a0:List Y1)(a1 a2:Int)(a3:Y2×Int)(a4:cw):Option Y475:=
cond (decide (a2 < (↑a0.length:Int))) (
ah (aA a2 a0.length) (
cond (decide (a4.1 < (ix a0 a2).2.1)) (
(F14 ()).bind fun r6=>(
some (Sum.inr (Sum.inl (r6,a3,a4))))) (
ah (aA a2 a0.length) (
cond (decide ((ix a0 a2).2.2.2.1=99)) (
(F14 ()).bind fun r7=>(
some (Sum.inr (Sum.inl (r7,a3,a4))))) (
ah (aA a2 a0.length) (
ah (af .i64 (a2+1)) (
some (Sum.inl (a0,(max a1 ((ix a0 a2).1)),(a2+1),a3,a4))))))))) (
some (Sum.inr (Sum.inr (a0,a1,a3,a4))))
theorem g7_0 (F12:cp)(F14:bS)(F17:eF)(F21:dL)(F18:iU)(F22 F23:fH)(F15:bZ):aat (T7 F12 F14 F17 F21 F18 F22 F23 F15)=u5 (q7_0 F12 F14 F17 F21 F18 F22 F23 F15):=funext fun _=>by kernel_rfl
noncomputable def aau:=q7_0 P12 P14 P17 P21 P18 P22 P23 P15
noncomputable def L7_0:CL:=aa (u5 aau)
theorem v7_0:l7_0 (T7 P12 P14 P17 P21 P18 P22 P23 P15)=L7_0:=congrArg aa (g7_0 P12 P14 P17 P21 P18 P22 P23 P15)
noncomputable def aav (T:List FEnt):=aB (xs:=aao) aan (bc T (sb [1,1,1,1,1,1,1,1,0,1,2,2,1,0,2,1,2,2] c7))
noncomputable def l7_2 (T:List FEnt):=aa (aav T)
noncomputable def Cy (F12:cp)(F14:bS)(F17:eF)(F21:dL)(F18:iU)(F22 F23:fH)(F15:bZ)(a0:List Y1)(a1 a2 a3 a4 a5 a6 a7 a8:Int)(a9:Y2×Int)(a10:cw)(a11:List Y2):Option ((Y8×Int×Int×Int×Int×Int×Int×Int×Int×dC×cw×Y9)⊕Uf):=
ah (aA a7 a11.length) (
cond (decide (a8 < (↑(List.length (ix a11 a7)):Int))) (
ah (aA a7 a11.length) (
(F22 ((ix a11 a7),a8,a10.2.2)).bind fun r14=>(
cond r14 (
ah (af .i64 (a5+1)) (
ah (aA a7 a11.length) (
(F23 ((ix a11 a7),a8,a10.2.2)).bind fun r15=>(
cond (!r15) (
ah (af .i64 (a6+1)) (
ah (af .i64 (a8+1)) (
some (Sum.inl (a0,a1,a2,a3,a4,(a5+1),(a6+1),a7,(a8+1),a9,a10,a11))))) (
ah (af .i64 (a8+1)) (
some (Sum.inl (a0,a1,a2,a3,a4,(a5+1),a6,a7,(a8+1),a9,a10,a11)))))))) (
ah (af .i64 (a8+1)) (
some (Sum.inl (a0,a1,a2,a3,a4,a5,a6,a7,(a8+1),a9,a10,a11))))))) (
some (Sum.inr (a0,a1,a2,a3,a4,a5,a6,a7,a9,a10,a11))))
theorem g7_2 (F12:cp)(F14:bS)(F17:eF)(F21:dL)(F18:iU)(F22 F23:fH)(F15:bZ):aav (T7 F12 F14 F17 F21 F18 F22 F23 F15)=u12 (Cy F12 F14 F17 F21 F18 F22 F23 F15):=funext fun _=>by kernel_rfl
noncomputable def aaw:=Cy P12 P14 P17 P21 P18 P22 P23 P15
noncomputable def Hb:Y447:=aa (u12 aaw)
theorem v7_2:l7_2 (T7 P12 P14 P17 P21 P18 P22 P23 P15)=Hb:=congrArg aa (g7_2 P12 P14 P17 P21 P18 P22 P23 P15)
noncomputable def aax (T:List FEnt):=aB (xs:=aaq) aap (bc T (sb [1,1,1,1,1,1,1,1,0,1,2,2] c7))
noncomputable def l7_1 (T:List FEnt):=aa (aax T)
noncomputable def Cz (F12:cp)(F14:bS)(F17:eF)(F21:dL)(F18:iU)(F22 F23:fH)(F15:bZ)(l7_2:Y447)(a0:List Y1)(a1 a2 a3 a4 a5 a6 a7:Int)(a8:Y2×Int)(a9:cw)(a10:List Y2):Option (Uf⊕Y427):=
cond (decide (a7 < (↑a10.length:Int))) (
(l7_2 (a0,a1,a2,a3,a4,a5,a6,a7,0,a8,a9,a10)).bind fun y16=>(
ah (af .i64 (y16.2.2.2.2.2.2.2.1+1)) (
some (Sum.inl (y16.1,y16.2.1,y16.2.2.1,y16.2.2.2.1,y16.2.2.2.2.1,y16.2.2.2.2.2.1,y16.2.2.2.2.2.2.1,(y16.2.2.2.2.2.2.2.1+1),y16.2.2.2.2.2.2.2.2.1,y16.2.2.2.2.2.2.2.2.2.1,y16.2.2.2.2.2.2.2.2.2.2))))) (
some (Sum.inr (a0,a1,a2,a3,a4,a5,a6,a8,a9,a10)))
theorem g7_1 (F12:cp)(F14:bS)(F17:eF)(F21:dL)(F18:iU)(F22 F23:fH)(F15:bZ):aax (T7 F12 F14 F17 F21 F18 F22 F23 F15)=u11 (Cz F12 F14 F17 F21 F18 F22 F23 F15 (l7_2 (T7 F12 F14 F17 F21 F18 F22 F23 F15))):=funext fun _=>by kernel_rfl
noncomputable def aay:=Cz P12 P14 P17 P21 P18 P22 P23 P15 Hb
noncomputable def KJ:Y448:=aa (u11 aay)
theorem v7_1:l7_1 (T7 P12 P14 P17 P21 P18 P22 P23 P15)=KJ:=congrArg aa ((g7_1 P12 P14 P17 P21 P18 P22 P23 P15).trans (by rw[v7_2] <;> rfl))
noncomputable def l7_3 (T:List FEnt):=fw (xs:=aas) aar (bc T (sb [1,1,1,1,1,1,1,1,1,1,0,2] c7))
noncomputable def KK (F12:cp)(F14:bS)(F17:eF)(F21:dL)(F18:iU)(F22 F23:fH)(F15:bZ)(a0:List Y1)(a1 a2 a3 a4 a5:Int)(a6:Y2×Int)(a7:cw)(a8:List Y2):Option Y461:=
cond (decide (a4=0)) (
cond (decide (a2 < 0)) (
some (Sum.inl (false,a6,a7,a8))) (
cond (decide ((↑a8.length:Int)≤a2)) (
some (Sum.inl (false,a6,a7,a8))) (
cond (decide (a3 < 0)) (
some (Sum.inl (false,a6,a7,a8))) (
ah (aA a2 a8.length) (
(F22 ((ix a8 a2),a3,a7.2.2)).bind fun r18=>(
cond (!r18) (
some (Sum.inl (false,a6,a7,a8))) (
ah (aA a2 a8.length) (
(F23 ((ix a8 a2),a3,a7.2.2)).bind fun r19=>(
cond r19 (
cond (decide (0 < a5)) (
some (Sum.inl (false,a6,a7,a8))) (
some (Sum.inr (a0,a1,a2,a3,a4,a6,a7,a8)))) (
some (Sum.inr (a0,a1,a2,a3,a4,a6,a7,a8)))))))))))) (
some (Sum.inr (a0,a1,a2,a3,a4,a6,a7,a8)))
theorem g7_3 (F12:cp)(F14:bS)(F17:eF)(F21:dL)(F18:iU)(F22 F23:fH)(F15:bZ):l7_3 (T7 F12 F14 F17 F21 F18 F22 F23 F15)=u9 (KK F12 F14 F17 F21 F18 F22 F23 F15):=funext fun _=>by kernel_rfl
noncomputable def p7_3:=KK P12 P14 P17 P21 P18 P22 P23 P15
noncomputable def Hc:Y472:=fun x=>p7_3 x.1 x.2.1 x.2.2.1 x.2.2.2.1 x.2.2.2.2.1 x.2.2.2.2.2.1 x.2.2.2.2.2.2.1 x.2.2.2.2.2.2.2.1 x.2.2.2.2.2.2.2.2
theorem v7_3:l7_3 (T7 P12 P14 P17 P21 P18 P22 P23 P15)=Hc:=g7_3 P12 P14 P17 P21 P18 P22 P23 P15
theorem ok7:L.Fn Try.prog 7 232 [(.t 6)] (erase c7):=oA Try.func7
def sh7:FSh:=⟨⟨TQ,[]⟩,TP,0,⟨⟨fG,[]⟩,[.bool],[],0⟩,true⟩
noncomputable def q7 (F12:cp)(F14:bS)(F17:eF)(F21:dL)(F18:iU)(F22 F23:fH)(F15:bZ)(l7_0:CL)(l7_1:Y448)(l7_3:Y472)(a0:Y2×Int)(a1:List Y1)(a2:cw):Option Bool:=
(F12 (a0,a1,a2.1)).bind fun r1=>(
cond (!r1) (
(F14 ()).bind fun r2=>(
some r2)) (
cond (decide (a2.2.2 < 1)) (
(F14 ()).bind fun r3=>(
some r3)) (
cond (decide (12 < a2.2.2)) (
(F14 ()).bind fun r4=>(
some r4)) (
cond (decide (40≤(↑a1.length:Int))) (
(F14 ()).bind fun r5=>(
some r5)) (
(l7_0 (a1,(-1),0,a0,a2)).bind (fun y8=>Sum.elim (fun y9=>(
some y9.1)) (fun y10=>(
(F17 (y10.2.2.1,y10.1,y10.2.2.2.1)).bind fun r11=>(
(F21 (y10.2.2.1,y10.1,y10.2.2.2.1,y10.2.2.2.2.2)).bind fun r12=>(
cond (!decide (r11.1=0)) (
some false) (
(F18 (y10.2.2.1,r11.2)).bind fun r13=>(
cond (!r13.1) (
some false) (
cond (!decide (r12.2.2=0)) (
cond (!decide (r12.2.2=3)) (
some false) (
(l7_1 (y10.1,y10.2.1,r12.1,r12.2.1,r12.2.2,0,0,0,y10.2.2.1,y10.2.2.2,r13.2)).bind fun y17=>(
cond ((decide (y17.2.2.2.2.1=0))!=(decide (0 < y17.2.2.2.2.2.1))) (
some false) (
(l7_3 (y17.1,y17.2.1,y17.2.2.1,y17.2.2.2.1,y17.2.2.2.2.1,y17.2.2.2.2.2.2.1,y17.2.2.2.2.2.2.2.1,y17.2.2.2.2.2.2.2.2.1,y17.2.2.2.2.2.2.2.2.2)).bind (fun y20=>Sum.elim (fun y21=>(
some y21.1)) (fun y22=>(
cond (decide (99≤y22.2.1)) (
(F14 ()).bind fun r23=>(
some r23)) (
ah (af .i64 (y22.2.1+1)) (
ah (bC 40 y22.1.length) (
ah (bC 40 (List.length y22.1+List.length ([((y22.2.1+1),(y22.2.2.2.2.2.2.1.1,(1,(99,y22.2.2.2.2.2.2.1.2.2))))]:List Y1))) (
(F15 (y22.2.2.2.2.2.1,(y22.1++([((y22.2.1+1),(y22.2.2.2.2.2.2.1.1,(1,(99,y22.2.2.2.2.2.2.1.2.2))))]:List Y1)),y22.2.2.2.2.2.2.1.1,99)).bind fun r24=>(
cond (decide (y22.2.2.2.2.1=0)) (
cond (decide (r24.2=0)) (
cond (((decide (r24.1.1=2)&&decide (r24.1.2.1=y22.2.2.1))&&decide (r24.1.2.2.1=y22.2.2.2.1))&&decide (r24.1.2.2.2=y22.2.2.2.2.2.2.1.2.2)) (
(F14 ()).bind fun r25=>(
some r25)) (
some false)) (
some false)) (
cond (decide (r24.2=0)) (
cond (((decide (r24.1.1=1)&&decide (r24.1.2.1=(-1)))&&decide (r24.1.2.2.1=(-1)))&&decide (r24.1.2.2.2=y22.2.2.2.2.2.2.1.2.2)) (
(F14 ()).bind fun r26=>(
some r26)) (
some false)) (
some false))))))))) y20))))) (
(l7_1 (y10.1,y10.2.1,r12.1,r12.2.1,r12.2.2,0,0,0,y10.2.2.1,y10.2.2.2,r13.2)).bind fun y27=>(
cond ((decide (y27.2.2.2.2.1=0))!=(decide (0 < y27.2.2.2.2.2.1))) (
some false) (
(l7_3 (y27.1,y27.2.1,y27.2.2.1,y27.2.2.2.1,y27.2.2.2.2.1,y27.2.2.2.2.2.2.1,y27.2.2.2.2.2.2.2.1,y27.2.2.2.2.2.2.2.2.1,y27.2.2.2.2.2.2.2.2.2)).bind (fun y28=>Sum.elim (fun y29=>(
some y29.1)) (fun y30=>(
cond (decide (99≤y30.2.1)) (
(F14 ()).bind fun r31=>(
some r31)) (
ah (af .i64 (y30.2.1+1)) (
ah (bC 40 y30.1.length) (
ah (bC 40 (List.length y30.1+List.length ([((y30.2.1+1),(y30.2.2.2.2.2.2.1.1,(1,(99,y30.2.2.2.2.2.2.1.2.2))))]:List Y1))) (
(F15 (y30.2.2.2.2.2.1,(y30.1++([((y30.2.1+1),(y30.2.2.2.2.2.2.1.1,(1,(99,y30.2.2.2.2.2.2.1.2.2))))]:List Y1)),y30.2.2.2.2.2.2.1.1,99)).bind fun r32=>(
cond (decide (y30.2.2.2.2.1=0)) (
cond (decide (r32.2=0)) (
cond (((decide (r32.1.1=2)&&decide (r32.1.2.1=y30.2.2.1))&&decide (r32.1.2.2.1=y30.2.2.2.1))&&decide (r32.1.2.2.2=y30.2.2.2.2.2.2.1.2.2)) (
(F14 ()).bind fun r33=>(
some r33)) (
some false)) (
some false)) (
cond (decide (r32.2=0)) (
cond (((decide (r32.1.1=1)&&decide (r32.1.2.1=(-1)))&&decide (r32.1.2.2.1=(-1)))&&decide (r32.1.2.2.2=y30.2.2.2.2.2.2.1.2.2)) (
(F14 ()).bind fun r34=>(
some r34)) (
some false)) (
some false))))))))) y28))))))))))) y8))))))
theorem g7 (F12:cp)(F14:bS)(F17:eF)(F21:dL)(F18:iU)(F22 F23:fH)(F15:bZ):aK (T7 F12 F14 F17 F21 F18 F22 F23 F15) sh7 [(.t 6)] c7=u3 (q7 F12 F14 F17 F21 F18 F22 F23 F15 (l7_0 (T7 F12 F14 F17 F21 F18 F22 F23 F15)) (l7_1 (T7 F12 F14 F17 F21 F18 F22 F23 F15)) (l7_3 (T7 F12 F14 F17 F21 F18 F22 F23 F15))):=funext fun _=>by kernel_rfl
noncomputable def p7:=q7 P12 P14 P17 P21 P18 P22 P23 P15 L7_0 KJ Hc
noncomputable def P7:CK:=u3 p7
theorem v7:aK (T7 P12 P14 P17 P21 P18 P22 P23 P15) sh7 [(.t 6)] c7=P7:=(g7 P12 P14 P17 P21 P18 P22 P23 P15).trans (by rw[v7_0,v7_1,v7_3] <;> rfl)
theorem d7:DC Try.prog 7 sh7 P7:=dD v7 t7 ok7
noncomputable def T63:List FEnt:=[]
theorem t63:ak Try.prog T63:=ai
noncomputable def c63:=bK Try.prog [] Try.f63 (.s .n (.s .n (.s (.r [.a 0 false y7,.a 2 false y7]) .n)))
theorem ok63:L.Fn Try.prog 63 8 [(.t 2)] (erase c63):=oA Try.func63
def KL:FSh:=⟨⟨[(.v y19)],[]⟩,[y19],0,⟨⟨zP,di⟩,[y19],[],1⟩,true⟩
noncomputable def q63 (a0:List Int):Option Y2:=
BL (decide (List.length a0=0)) (
some ([]:List Int)) (
ah (bC 8 (List.length ([]:List Int)+List.length a0)) (
some (([]:List Int)++a0)))
theorem g63 (a0:List Int):aK T63 KL [(.t 2)] c63 a0=q63 a0:=by kernel_rfl
noncomputable def p63:=q63
noncomputable def P63:l7:=fun x=>p63 x
theorem v63:aK T63 KL [(.t 2)] c63=P63:=funext fun x=>(g63 x)
theorem d63:DC Try.prog 63 KL P63:=dD v63 t63 ok63
noncomputable def KM (F63:l7):List FEnt:=[⟨63,KL,F63⟩]
theorem t55:ak Try.prog (KM P63):=dK ai d63
def PW:LSh:=⟨[3,6,12,13,14,21,22,23],⟨[(.slc 0),(.v y7),(.slr 1),(.v y7),(.v y7),(.slc 2),(.v y7),(.v y7)],[(0,(.row 3 y7)),(1,(.rows 22 3 y7)),(2,(.row 3 y7))]⟩,[y7,y7,y7,y7,y7,y19,cG,y19],3,[1,2]⟩
def PX:List XSh:=[⟨(.exit 2),[3,12,13,14],⟨⟨[(.slc 3),(.slr 1),(.v y7),(.v y7)],[(1,(.rows 22 3 y7)),(2,(.row 3 y7)),(3,(.row 3 y7))]⟩,[y7,y7,cG,y19,y19],[1,2],4⟩⟩]
def PY:LSh:=⟨[3,12,13,14],⟨[(.slc 0),(.slr 1),(.v y7),(.v y7)],[(0,(.row 3 y7)),(1,(.rows 22 3 y7))]⟩,[y7,y7,y19,cG],2,[1]⟩
def PZ:List XSh:=[⟨(.exit 0),[3],⟨⟨[(.slc 2)],[(1,(.rows 22 3 y7)),(2,(.row 3 y7))]⟩,[cG,y19],[1],3⟩⟩]
noncomputable def c55:=bK Try.prog [] Try.f55 (.s .n (.s .n (.s (.s .n (.b (.l PY PZ (.s .n (.s .n (.s (.b (.s .n (.s .n (.s (.r [.a 2 false y7,.a 3 false y7]) (.b (.l PW PX (.s .n (.s .n (.s (.b (.s .n (.s .n (.s (.s .n (.s (.r [.a 2 false y7,.a 3 false y7]) .n)) .n)))) .n))))))))) .n)))))) .n)))
noncomputable def P0 (T:List FEnt):=aB (xs:=PX) PW (bc T (sb [1,1,0,1,2,2,1,1,0,2,1,1,1,2,2] c55))
noncomputable def l55_1 (T:List FEnt):=aa (P0 T)
noncomputable def q55_1 (F63:l7)(a0 a1 a2 a3 a4:Int)(a5:List Int)(a6:List Y2)(a7:List Int):Option ((Int×Int×Int×Int×Int×Y2×Y9×Y2)⊕Y430):=
cond (decide (a4 < a3)) (
ah (aA a4 a7.length) (
cond (decide ((ix a7 a4)=(-1))) (
ah (af .i64 (a0+1)) (
ah (af .i64 (a4+1)) (
some (Sum.inl ((a0+1),a1,a2,a3,(a4+1),a5,a6,a7))))) (
cond (decide (0 < a0)) (
ah (bC 8 (List.length a5+List.length ([a0]:List Int))) (
ah (af .i64 (a4+1)) (
some (Sum.inl (0,a1,a2,a3,(a4+1),(a5++([a0]:List Int)),a6,a7))))) (
ah (af .i64 (a4+1)) (
some (Sum.inl (0,a1,a2,a3,(a4+1),a5,a6,a7))))))) (
some (Sum.inr (a1,a2,a6,a7,a5)))
theorem g55_1 (F63:l7):P0 (KM F63)=u8 (q55_1 F63):=funext fun _=>by kernel_rfl
noncomputable def P1:=q55_1 P63
noncomputable def sg:Y449:=aa (u8 P1)
theorem v55_1:l55_1 (KM P63)=sg:=congrArg aa (g55_1 P63)
noncomputable def P2 (T:List FEnt):=aB (xs:=PZ) PY (bc T (sb [1,1,0,1,2,2] c55))
noncomputable def l55_0 (T:List FEnt):=aa (P2 T)
noncomputable def si (F63:l7)(l55_1:Y449)(a0 a1:Int)(a2:List Int)(a3:List Y2):Option ((Int×Int×Y2×Y9)⊕Y442):=
cond (decide (a1 < a0)) (
ah (aA a1 a3.length) (
(F63 (ix a3 a1)).bind fun r1=>(
ah (bC 8 (List.length r1+List.length ([0]:List Int))) (
(l55_1 (0,a0,a1,(↑(List.length (r1++([0]:List Int))):Int),0,a2,a3,(r1++([0]:List Int)))).bind fun y2=>(
ah (af .i64 (y2.2.1+1)) (
some (Sum.inl (y2.1,(y2.2.1+1),y2.2.2.2.2,y2.2.2.1)))))))) (
some (Sum.inr (a3,a2)))
theorem g55_0 (F63:l7):P2 (KM F63)=u4 (si F63 (l55_1 (KM F63))):=funext fun _=>by kernel_rfl
noncomputable def Qa:=si P63 sg
noncomputable def vZ:Y450:=aa (u4 Qa)
theorem v55_0:l55_0 (KM P63)=vZ:=congrArg aa ((g55_0 P63).trans (by rw[v55_1] <;> rfl))
theorem ok55:L.Fn Try.prog 55 40 [(.t 2)] (erase c55):=oA Try.func55
def Hd:FSh:=⟨⟨Iq,k9⟩,XE,5,⟨⟨[(.slc 5)],[(0,(.box j23)),(1,(.rows 22 3 y7)),(2,(.pmap 4)),(3,(.row 3 y7)),(4,(.pool cZ)),(5,(.row 3 y7))]⟩,[y19,y7,cG,y19,n5,y19],[0,1,2,3,4],6⟩,false⟩
noncomputable def q55 (F63:l7)(l55_0:Y450)(a0:List Int)(a1:Int)(a2:List Y2)(a3:List Int)(a4:List Y3):Option Y431:=
(l55_0 ((↑a2.length:Int),0,([]:List Int),a2)).bind fun y3=>(
some (a0,a1,y3.1,a3,a4,y3.2))
theorem g55 (F63:l7):aK (KM F63) Hd [(.t 2)] c55=u5 (q55 F63 (l55_0 (KM F63))):=funext fun _=>by kernel_rfl
noncomputable def p55:=q55 P63 vZ
noncomputable def uq:tT:=u5 p55
theorem v55:aK (KM P63) Hd [(.t 2)] c55=uq:=(g55 P63).trans (by rw[v55_0] <;> rfl)
theorem d55:DC Try.prog 55 Hd uq:=dD v55 t55 ok55
noncomputable def V9:List FEnt:=[]
theorem t54:ak Try.prog V9:=ai
def Qb:LSh:=⟨[0,3,4],⟨j36,[]⟩,WM,0,[]⟩
def Qc:List XSh:=[⟨(.exit 0),[3],⟨⟨mh,[]⟩,[y7],[],0⟩⟩]
noncomputable def c54:=bK Try.prog [] Try.f54 (.s .n (.s .n (.s .n (.s (.s .n (.b (.l Qb Qc .n))) .n))))
noncomputable def Qd (T:List FEnt):=aB (xs:=Qc) Qb (bc T (sb [1,1,1,0,1,2,2] c54))
noncomputable def l54_0 (T:List FEnt):=aa (Qd T)
noncomputable def sj (a0:List Int)(a1 a2:Int):Option (Y72⊕Int):=
cond (decide (a2 < (↑a0.length:Int))) (
ah (aA a2 a0.length) (
ah (af .i64 (a2+1)) (
some (Sum.inl (a0,(max a1 (ix a0 a2)),(a2+1)))))) (
some (Sum.inr a1))
theorem g54_0:Qd V9=u3 sj:=funext fun _=>by kernel_rfl
noncomputable def Qe:=sj
noncomputable def A8:Y415:=aa (u3 Qe)
theorem v54_0:l54_0 V9=A8:=congrArg aa g54_0
theorem ok54:L.Fn Try.prog 54 25 [(.t 2)] (erase c54):=oA Try.func54
def KN:FSh:=⟨⟨[(.v y19)],[]⟩,[y19],0,⟨⟨mh,[]⟩,[y7],[],0⟩,true⟩
noncomputable def q54 (l54_0:Y415)(a0:List Int):Option Int:=
cond (decide ((↑a0.length:Int) < 1)) (
none) (
ah (aA 0 a0.length) (
(l54_0 (a0,(ix a0 0),1)).bind fun y1=>(
some y1)))
theorem g54 (a0:List Int):aK V9 KN [(.t 2)] c54 a0=q54 (l54_0 V9) a0:=by kernel_rfl
noncomputable def p54:=q54 A8
noncomputable def Qf:C9:=fun x=>p54 x
theorem v54:aK V9 KN [(.t 2)] c54=Qf:=funext fun x=>(g54 x).trans (by rw[v54_0] <;> rfl)
theorem d54:DC Try.prog 54 KN Qf:=dD v54 t54 ok54
noncomputable def T32 (F42:dH)(F42v1:gH)(F55:tT)(F54:C9):List FEnt:=[⟨42,tJ,F42⟩,⟨42,iS,F42v1⟩,⟨55,Hd,F55⟩,⟨54,KN,F54⟩]
theorem t32:ak Try.prog (T32 i6 P42v1 uq Qf):=dK (dK (dK (dK ai d54) d55) rO) VN
noncomputable def c32:=bK Try.prog [] Try.f32 (.s .n (.s .n (.s .n (.s (.r [.a 2 false y7,.a 3 false y7]) .n))))
theorem ok32:L.Fn Try.prog 32 25 [(.t 6),(.t 7)] (erase c32):=oA Try.func32
def He:FSh:=⟨⟨J3,[]⟩,J0,0,⟨⟨Mr,[]⟩,[y7,y7],[],0⟩,true⟩
noncomputable def q32 (F42:dH)(F42v1:gH)(F55:tT)(F54:C9)(a0:Y2×Int)(a1:List Y1)(a2:Int):Option CD:=
Io (F42 (a0,a1,a2,0,1)) (fun r1=>(
cond (!decide (r1=0)) (
some (0,r1)) (
none))) (
(F42v1 (a0,a1,a2,0,1)).bind fun r2=>(
cond (!decide (r2.1=0)) (
some (0,r2.1)) (
(F55 (r2.2.1,r2.2.2.1,r2.2.2.2.1,r2.2.2.2.2.1,r2.2.2.2.2.2)).bind fun r3=>(
ah (bC 8 (List.length r3.2.2.2.2.2+List.length ([0]:List Int))) (
(F54 (r3.2.2.2.2.2++([0]:List Int))).bind fun r4=>(
some (r4,0)))))))
theorem g32 (F42:dH)(F42v1:gH)(F55:tT)(F54:C9):aK (T32 F42 F42v1 F55 F54) He [(.t 6),(.t 7)] c32=u3 (q32 F42 F42v1 F55 F54):=funext fun _=>by kernel_rfl
noncomputable def p32:=q32 i6 P42v1 uq Qf
noncomputable def P32:je:=u3 p32
theorem v32:aK (T32 i6 P42v1 uq Qf) He [(.t 6),(.t 7)] c32=P32:=g32 i6 P42v1 uq Qf
theorem d32:DC Try.prog 32 He P32:=dD v32 t32 ok32
end Go.Proofs.Ytdkaijofmigmbaa.D
