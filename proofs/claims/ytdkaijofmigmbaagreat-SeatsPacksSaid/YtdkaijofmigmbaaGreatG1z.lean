import Derived.Test.YtdkaijofmigmbaaGreatH2z
import Derived.Test.YtdkaijofmigmbaaGreatProg
set_option linter.unusedVariables false
set_option maxRecDepth 100000
namespace Go.Proofs.YtdkaijofmigmbaaGreat.D
open Go Go.Proofs Go.Proofs.YtdkaijofmigmbaaGreat.L
def z5:List Ty:=[y7,y7,y7,y7,y19,y7,y53,y32,y19]
def z7:List Ty:=[y7,y7,y19,y7,y53,y32,y19]
def z9:List Ty:=[y19,y7,y32,y19,y53]
def Nj:List RSh:=[(.tup [(.agg [(.slc 0),(.v y7)]),(.slc 1)])]
def pN:List RSh:=[(.v y7)]
def Jz:List RSh:=[(.v oL),(.v oL)]
def Eh:List RSh:=[(.v y19),(.v y7)]
def Ei:List RSh:=[(.slc 0),(.v y7)]
def sf:List RSh:=[(.slc 0)]
def j7:List RSh:=[(.slc 0),(.v y7),(.v y7),(.fn 56 []),(.v y7)]
def j4:List RSh:=[(.slc 0),(.v y7),(.v y7),(.v y7),(.fn 56 []),(.v .bool),(.v .bool),(.v y7)]
def j8:List RSh:=[(.ptr 0 0),(.pel 1),(.v y7),(.v y7),(.v y7)]
def iU:List (Nat×OSh):=[(0,(.row 3 y7))]
def k6:List (Nat×OSh):=[(0,(.box [(.v y19),(.v y7),(.slr 1),(.mp 2),.emp])),(1,(.rows 22 3 y7)),(2,(.pmap 3)),(3,(.pool eJ))]
def mq:List (Nat×OSh):=[(0,(.row 56 eJ))]
def k3:List (Nat×OSh):=[(0,(.box [(.v y19),(.v y7),(.slr 2),(.mpl 3),(.slc 4)])),(1,(.pool eJ)),(2,(.rows 22 3 y7)),(3,(.gone 1)),(4,(.row 3 y7))]
noncomputable def T9:List FEnt:=[]
theorem t9:am Tryz.prog T9:=aa
noncomputable def c9:=cz Tryz.prog [] Tryz.f9 (.s .n (.s (.r [.a 0 false y7,.a 7 true eJ]) .n))
theorem O3:L.Fn Tryz.prog 9 10 [(.cell 0 true 2),(.t 1)] (erase c9):=oA Tryz.func9
def JA:FSh:=⟨⟨[],[]⟩,[],0,⟨⟨Nj,[(0,(.row 3 y7)),(1,(.row 56 eJ))]⟩,[y7,y19,cR],[],2⟩,true⟩
noncomputable def q9:Option Ii:=
some (10,([5,3]:List Int),([(1,(0,(1,(1,2)))),(2,(1,(1,(2,2)))),(3,(5,(2,(1,0)))),(4,(12,(1,(3,3)))),(5,(11,(2,(2,0))))]:List Y1))
theorem g9:aO T9 JA [(.cell 0 true 2),(.t 1)] c9 ()=q9:=by kernel_rfl
noncomputable def p9:Option Ii:=q9
noncomputable def P9:Kc:=fun x=>p9
theorem v9:aO T9 JA [(.cell 0 true 2),(.t 1)] c9=P9:=funext fun x=>(g9)
theorem d9:DC Tryz.prog 9 JA P9:=dD v9 t9 O3
noncomputable def KH (F17:Y5):List FEnt:=[⟨17,mF,F17⟩]
theorem O4:am Tryz.prog (KH P17):=dK aa Ef
noncomputable def KI:=cz Tryz.prog [] Tryz.f31 .n
theorem KJ:L.Fn Tryz.prog 31 6 [(.t 2)] (erase KI):=oA Tryz.func31
def xN:FSh:=⟨⟨pN,[]⟩,[y7],0,⟨⟨kH,[]⟩,[.bool],[],0⟩,true⟩
noncomputable def JB (F17:Y5)(a0:Int):Option Bool:=
(F17 (a0,1,12)).bind fun r1=>(
some (!r1))
theorem g31 (F17:Y5)(a0:Int):aO (KH F17) xN [(.t 2)] KI a0=JB F17 a0:=by kernel_rfl
noncomputable def O5:=JB P17
noncomputable def P31:qf:=fun x=>O5 x
theorem O6:aO (KH P17) xN [(.t 2)] KI=P31:=funext fun x=>(g31 P17 x)
theorem O7:DC Tryz.prog 31 xN P31:=dD O6 O4 KJ
noncomputable def E6 (F31:qf):List FEnt:=[⟨31,xN,F31⟩]
theorem O8:am Tryz.prog (E6 P31):=dK aa O7
def Ae:LSh:=⟨[0,1,7,8],⟨[(.v y19),(.fn 31 []),(.v y7),(.v y7)],[]⟩,[y19,y7,y7],0,[]⟩
def ny:List XSh:=[⟨.ret,[4],⟨⟨pN,[]⟩,[y7],[],0⟩⟩,⟨(.exit 0),[],⟨⟨[],[]⟩,[],[],0⟩⟩]
noncomputable def JC:=cz Tryz.prog [] Tryz.f32 (.s .n (.s (.s .n (.b (.l Ae ny .n))) .n))
noncomputable def Af (T:List FEnt):=aU (xs:=ny) Ae (bT T (sb [1,0,1,2,2] JC))
noncomputable def l32_0 (T:List FEnt):=af (Af T)
noncomputable def nz (F31:qf)(a0:List Int)(a1 a2:Int):Option Oo:=
cond (decide (a2 < a1)) (
aq (bv a2 a0.length) (
(F31 (ix a0 a2)).bind fun r1=>(
cond r1 (
some (Sum.inr (Sum.inl a2))) (
aq (au .i64 (a2+1)) (
some (Sum.inl (a0,a1,(a2+1)))))))) (
some (Sum.inr (Sum.inr ())))
theorem Gh (F31:qf):Af (E6 F31)=u3 (nz F31):=funext fun _=>by kernel_rfl
noncomputable def Ag:=nz P31
noncomputable def nA:Ka:=af (u3 Ag)
theorem v32_0:l32_0 (E6 P31)=nA:=congrArg af (Gh P31)
theorem KK:L.Fn Tryz.prog 32 19 [(.t 4)] (erase JC):=oA Tryz.func32
def xO:FSh:=⟨⟨[(.v y19),(.fn 31 [])],[]⟩,[y19],0,⟨⟨pN,[]⟩,[y7],[],0⟩,true⟩
noncomputable def E7 (F31:qf)(l32_0:Ka)(a0:List Int):Option Int:=
(l32_0 (a0,(↑a0.length:Int),0)).bind (fun y2=>Sum.elim (fun y3=>(
some y3)) (fun y4=>(
some (-1))) y2)
theorem g32 (F31:qf)(a0:List Int):aO (E6 F31) xO [(.t 4)] JC a0=E7 F31 (l32_0 (E6 F31)) a0:=by kernel_rfl
noncomputable def O9:=E7 P31 nA
noncomputable def P32:uw:=fun x=>O9 x
theorem Pa:aO (E6 P31) xO [(.t 4)] JC=P32:=funext fun x=>(g32 P31 x).trans (by rw[v32_0] <;> rfl)
theorem Pb:DC Tryz.prog 32 xO P32:=dD Pa O8 KK
noncomputable def KL (F32:uw):List FEnt:=[⟨32,xO,F32⟩]
theorem Pc:am Tryz.prog (KL P32):=dK aa Pb
noncomputable def KM:=cz Tryz.prog [] Tryz.f15 .n
theorem KN:L.Fn Tryz.prog 15 9 [(.t 4)] (erase KM):=oA Tryz.func15
def xP:FSh:=⟨⟨[(.v y19),(.fn 31 [])],[]⟩,[y19],0,⟨⟨kH,[]⟩,[.bool],[],0⟩,true⟩
noncomputable def JD (F32:uw)(a0:List Int):Option Bool:=
(F32 a0).bind fun r1=>(
some (decide (0≤r1)))
theorem g15 (F32:uw)(a0:List Int):aO (KL F32) xP [(.t 4)] KM a0=JD F32 a0:=by kernel_rfl
noncomputable def Pd:=JD P32
noncomputable def P15:sO:=fun x=>Pd x
theorem Pe:aO (KL P32) xP [(.t 4)] KM=P15:=funext fun x=>(g15 P32 x)
theorem Pf:DC Tryz.prog 15 xP P15:=dD Pe Pc KN
noncomputable def KO (F17:Y5)(F15:sO):List FEnt:=[⟨17,mF,F17⟩,⟨15,xP,F15⟩]
theorem Pg:am Tryz.prog (KO P17 P15):=dK (dK aa Pf) Ef
noncomputable def KP:=cz Tryz.prog [] Tryz.f14 .n
theorem KQ:L.Fn Tryz.prog 14 20 [(.t 2)] (erase KP):=oA Tryz.func14
def vS:FSh:=⟨⟨[(.st cp)],[]⟩,[cp],0,⟨⟨kH,[]⟩,[.bool],[],0⟩,true⟩
noncomputable def JE (F17:Y5)(F15:sO)(a0:Y2×Int):Option Bool:=
(F17 ((↑a0.1.length:Int),1,6)).bind fun r1=>(
cond r1 (
(F15 a0.1).bind fun r2=>(
cond (!r2) (
(F17 (a0.2,1,600)).bind fun r3=>(
some r3)) (
some false))) (
some false))
theorem g14 (F17:Y5)(F15:sO)(a0:Y2×Int):aO (KO F17 F15) vS [(.t 2)] KP a0=JE F17 F15 a0:=by kernel_rfl
noncomputable def Ph:=JE P17 P15
noncomputable def mG:kl:=fun x=>Ph x
theorem Pj:aO (KO P17 P15) vS [(.t 2)] KP=mG:=funext fun x=>(g14 P17 P15 x)
theorem Nk:DC Tryz.prog 14 vS mG:=dD Pj Pg KQ
noncomputable def KR (F17:Y5):List FEnt:=[⟨17,mF,F17⟩]
theorem Pk:am Tryz.prog (KR P17):=dK aa Ef
noncomputable def KS:=cz Tryz.prog [] Tryz.f52 .n
theorem KT:L.Fn Tryz.prog 52 32 [(.t 2)] (erase KS):=oA Tryz.func52
def xQ:FSh:=⟨⟨[(.st eJ)],[]⟩,[eJ],0,⟨⟨kH,[]⟩,[.bool],[],0⟩,true⟩
noncomputable def Nl (F17:Y5)(a0:Y1):Option Bool:=
cond (decide (a0.2.2.1=1)) (
(F17 (a0.1,0,99)).bind fun r1=>(
cond r1 (
(F17 (a0.2.2.2.1,0,99)).bind fun r2=>(
cond r2 (
(F17 (a0.2.1,0,9999)).bind fun r3=>(
cond r3 (
(F17 (a0.2.2.2.2,1,12)).bind fun r4=>(
some r4)) (
some false))) (
some false))) (
some false))) (
cond (decide (a0.2.2.1=2)) (
cond (decide (a0.2.2.1=2)) (
(F17 (a0.1,0,99)).bind fun r5=>(
cond r5 (
(F17 (a0.2.2.2.1,0,99)).bind fun r6=>(
cond r6 (
(F17 (a0.2.1,0,9999)).bind fun r7=>(
cond r7 (
(F17 (a0.2.2.2.2,0,0)).bind fun r8=>(
some r8)) (
some false))) (
some false))) (
some false))) (
some false)) (
cond (decide (a0.2.2.1=3)) (
(F17 (a0.1,0,99)).bind fun r9=>(
cond r9 (
(F17 (a0.2.2.2.1,0,99)).bind fun r10=>(
cond r10 (
(F17 (a0.2.1,0,9999)).bind fun r11=>(
cond r11 (
(F17 (a0.2.2.2.2,0,0)).bind fun r12=>(
some r12)) (
some false))) (
some false))) (
some false))) (
some false)))
theorem g52 (F17:Y5)(a0:Y1):aO (KR F17) xQ [(.t 2)] KS a0=Nl F17 a0:=by kernel_rfl
noncomputable def Pl:=Nl P17
noncomputable def xR:Fv:=fun x=>Pl x
theorem Pm:aO (KR P17) xQ [(.t 2)] KS=xR:=funext fun x=>(g52 P17 x)
theorem Pn:DC Tryz.prog 52 xQ xR:=dD Pm Pk KT
noncomputable def E8 (F14:kl)(F52:Fv):List FEnt:=[⟨14,vS,F14⟩,⟨52,xQ,F52⟩]
theorem Po:am Tryz.prog (E8 mG xR):=dK (dK aa Pn) Nk
def Ah:LSh:=⟨[5,17,18,19],⟨[(.mp 0),(.v cR),(.v y7),(.v y7)],[(0,(.imap 0 true eJ))]⟩,[cR,y7,y7,Ep],1,[0]⟩
def Ai:List XSh:=[⟨.ret,[4],⟨⟨pN,[(0,(.imap 0 true eJ))]⟩,[y7,Ep],[0],1⟩⟩,⟨(.exit 0),[],⟨⟨[],[(0,(.imap 0 true eJ))]⟩,[Ep],[0],1⟩⟩]
noncomputable def JF:=cz Tryz.prog [] Tryz.f37 (.s .n (.s .n (.s .n (.s (.r [.a 0 true eJ]) (.s (.s .n (.b (.l Ah Ai .n))) .n)))))
noncomputable def Aj (T:List FEnt):=aU (xs:=Ai) Ah (bT T (sb [1,1,1,1,0,1,2,2] JF))
noncomputable def l37_0 (T:List FEnt):=af (Aj T)
noncomputable def Ak (F14:kl)(F52:Fv)(a0:List Y1)(a1 a2:Int)(a3:List MN):Option ((Y8×Int×Int×Kb)⊕Iq):=
cond (decide (a2 < a1)) (
aq (bv a2 a0.length) (
(F52 (ix a0 a2)).bind fun r2=>(
cond (!r2) (
some (Sum.inr (Sum.inl (41,a3)))) (
cond (Option.isSome (ef a3 [(ix a0 a2).1])) (
cond (!((((decide ((EZ (ef a3 [(ix a0 a2).1]) (0,(0,(0,(0,0))))).1=(ix a0 a2).1)&&decide ((EZ (ef a3 [(ix a0 a2).1]) (0,(0,(0,(0,0))))).2.1=(ix a0 a2).2.1))&&decide ((EZ (ef a3 [(ix a0 a2).1]) (0,(0,(0,(0,0))))).2.2.1=(ix a0 a2).2.2.1))&&decide ((EZ (ef a3 [(ix a0 a2).1]) (0,(0,(0,(0,0))))).2.2.2.1=(ix a0 a2).2.2.2.1))&&decide ((EZ (ef a3 [(ix a0 a2).1]) (0,(0,(0,(0,0))))).2.2.2.2=(ix a0 a2).2.2.2.2))) (
some (Sum.inr (Sum.inl (41,a3)))) (
aq (au .i64 (a2+1)) (
some (Sum.inl (a0,a1,(a2+1),(oe a3 [(ix a0 a2).1] (ix a0 a2))))))) (
aq (au .i64 (a2+1)) (
some (Sum.inl (a0,a1,(a2+1),(oe a3 [(ix a0 a2).1] (ix a0 a2)))))))))) (
some (Sum.inr (Sum.inr a3)))
theorem Gi (F14:kl)(F52:Fv):Aj (E8 F14 F52)=u4 (Ak F14 F52):=funext fun _=>by kernel_rfl
noncomputable def Gj:=Ak mG xR
noncomputable def Al:Ir:=af (u4 Gj)
theorem Gk:l37_0 (E8 mG xR)=Al:=congrArg af (Gi mG xR)
theorem KU:L.Fn Tryz.prog 37 46 [(.t 4)] (erase JF):=oA Tryz.func37
def vT:FSh:=⟨⟨[(.st cp),(.v cR)],[]⟩,[cp,cR],0,⟨⟨pN,[]⟩,[y7],[],0⟩,true⟩
noncomputable def Nn (F14:kl)(F52:Fv)(l37_0:Ir)(a0:Y2×Int)(a1:List Y1):Option Int:=
(F14 a0).bind fun r1=>(
cond (!r1) (
some 40) (
cond (decide (40 < (↑a1.length:Int))) (
some 41) (
(l37_0 (a1,(↑a1.length:Int),0,([]:List MN))).bind (fun y3=>Sum.elim (fun y4=>(
some y4.1)) (fun y5=>(
some 0)) y3))))
theorem Pp (F14:kl)(F52:Fv):aO (E8 F14 F52) vT [(.t 4)] JF=u2 (Nn F14 F52 (l37_0 (E8 F14 F52))):=funext fun _=>by kernel_rfl
noncomputable def Pq:=Nn mG xR Al
noncomputable def ws:Eo:=u2 Pq
theorem Pr:aO (E8 mG xR) vT [(.t 4)] JF=ws:=(Pp mG xR).trans (by rw[Gk] <;> rfl)
theorem No:DC Tryz.prog 37 vT ws:=dD Pr Po KU
noncomputable def KV:List FEnt:=[]
theorem Ps:am Tryz.prog KV:=aa
noncomputable def KW:=cz Tryz.prog [] Tryz.f93 .n
theorem KX:L.Fn Tryz.prog 93 51 [(.t 4),(.t 5)] (erase KW):=oA Tryz.func93
def xS:FSh:=⟨⟨Jz,[]⟩,[oL,oL],0,⟨⟨[(.tup Jz)],[]⟩,[oL,oL],[],0⟩,true⟩
noncomputable def Np (a0 a1:Int):Option J9:=
aq (au .u64 ((cD .u64 a0 4294967295)*(cD .u64 a1 4294967295))) (
aq (au .u64 ((bh .u64 a0 32)*(cD .u64 a1 4294967295))) (
aq (au .u64 (((bh .u64 a0 32)*(cD .u64 a1 4294967295))+(bh .u64 ((cD .u64 a0 4294967295)*(cD .u64 a1 4294967295)) 32))) (
aq (au .u64 ((cD .u64 a0 4294967295)*(bh .u64 a1 32))) (
aq (au .u64 ((cD .u64 (((bh .u64 a0 32)*(cD .u64 a1 4294967295))+(bh .u64 ((cD .u64 a0 4294967295)*(cD .u64 a1 4294967295)) 32)) 4294967295)+((cD .u64 a0 4294967295)*(bh .u64 a1 32)))) (
aq (au .u64 ((bh .u64 a0 32)*(bh .u64 a1 32))) (
aq (au .u64 (((bh .u64 a0 32)*(bh .u64 a1 32))+(bh .u64 (((bh .u64 a0 32)*(cD .u64 a1 4294967295))+(bh .u64 ((cD .u64 a0 4294967295)*(cD .u64 a1 4294967295)) 32)) 32))) (
aq (au .u64 ((((bh .u64 a0 32)*(bh .u64 a1 32))+(bh .u64 (((bh .u64 a0 32)*(cD .u64 a1 4294967295))+(bh .u64 ((cD .u64 a0 4294967295)*(cD .u64 a1 4294967295)) 32)) 32))+(bh .u64 ((cD .u64 (((bh .u64 a0 32)*(cD .u64 a1 4294967295))+(bh .u64 ((cD .u64 a0 4294967295)*(cD .u64 a1 4294967295)) 32)) 4294967295)+((cD .u64 a0 4294967295)*(bh .u64 a1 32))) 32))) (
aq (au .u64 (a0*a1)) (
some (((((bh .u64 a0 32)*(bh .u64 a1 32))+(bh .u64 (((bh .u64 a0 32)*(cD .u64 a1 4294967295))+(bh .u64 ((cD .u64 a0 4294967295)*(cD .u64 a1 4294967295)) 32)) 32))+(bh .u64 ((cD .u64 (((bh .u64 a0 32)*(cD .u64 a1 4294967295))+(bh .u64 ((cD .u64 a0 4294967295)*(cD .u64 a1 4294967295)) 32)) 4294967295)+((cD .u64 a0 4294967295)*(bh .u64 a1 32))) 32)),(a0*a1)))))))))))
theorem Pt:aO KV xS [(.t 4),(.t 5)] KW=u2 Np:=funext fun _=>by kernel_rfl
noncomputable def Pu:=Np
noncomputable def E9:sP:=u2 Pu
theorem Pv:aO KV xS [(.t 4),(.t 5)] KW=E9:=Pt
theorem Pw:DC Tryz.prog 93 xS E9:=dD Pv Ps KX
noncomputable def KY (F93:sP):List FEnt:=[⟨93,xS,F93⟩]
theorem Px:am Tryz.prog (KY E9):=dK aa Pw
noncomputable def KZ:=cz Tryz.prog [] Tryz.f88 .n
theorem K0:L.Fn Tryz.prog 88 30 [(.t 4),(.t 5)] (erase KZ):=oA Tryz.func88
def xT:FSh:=⟨⟨Jz,[]⟩,[oL,oL],0,⟨⟨[(.tup Jz)],[]⟩,[oL,oL],[],0⟩,true⟩
noncomputable def Nq (F93:sP)(a0 a1:Int):Option J9:=
(F93 (a0,a1)).bind fun r1=>(
some (r1.1,r1.2))
theorem Py (F93:sP):aO (KY F93) xT [(.t 4),(.t 5)] KZ=u2 (Nq F93):=funext fun _=>by kernel_rfl
noncomputable def Pz:=Nq E9
noncomputable def uq:sP:=u2 Pz
theorem PA:aO (KY E9) xT [(.t 4),(.t 5)] KZ=uq:=Py E9
theorem PB:DC Tryz.prog 88 xT uq:=dD PA Px K0
noncomputable def xU (F88:sP):List FEnt:=[⟨88,xT,F88⟩]
theorem PC:am Tryz.prog (xU uq):=dK aa PB
def Am:LSh:=⟨[0,1],⟨Eh,[]⟩,[y19,y7],0,[]⟩
def An:List XSh:=[⟨.normal,[0,1],⟨⟨Eh,[]⟩,[y19,y7],[],0⟩⟩]
def Ao:LSh:=⟨[7,8],⟨Ei,iU⟩,[y7,y19],1,[0]⟩
def Ap:List XSh:=[⟨(.exit 0),[7],⟨⟨sf,iU⟩,[y19],[0],1⟩⟩]
noncomputable def Gl:=cz Tryz.prog [(9,{ch:=[0,0,0,1,0,0,1,0,0,0],rs:=[] })] Tryz.f77 (.s .n (.s (.o Am An .n) (.s .n (.s .n (.s (.r [.a 2 false y7]) (.s .n (.s (.b (.l Ao Ap .n)) .n)))))))
noncomputable def l77_0 (T:List FEnt):=kD (xs:=An) Am (bT T (sb [1,0,2] Gl))
noncomputable def Aq (F88:sP)(a0:List Int)(a1:Int):Option oF:=
cond (decide (a1 < 0)) (
none) (
some (a0,a1))
theorem Gm (F88:sP):l77_0 (xU F88)=u2 (Aq F88):=funext fun _=>by kernel_rfl
noncomputable def Gn:=Aq uq
noncomputable def Ar:Oj:=fun x=>Gn x.1 x.2
theorem Gp:l77_0 (xU uq)=Ar:=Gm uq
noncomputable def As (T:List FEnt):=aU (xs:=Ap) Ao (bT T (sb [1,1,1,1,1,1,0,2,2] Gl))
noncomputable def l77_1 (T:List FEnt):=af (As T)
noncomputable def At (F88:sP)(a0:Int)(a1:List Int):Option (CG⊕Y2):=
cond (decide (a0 < (↑a1.length:Int))) (
aq (decide (0≤a0)) (
aq (decide (a0≤(↑a1.length:Int))) (
aq (decide ((↑a1.length:Int)≤(↑a1.length:Int))) (
aq (decide (0 < List.length a1)) (
aq (decide ((0:Int)≤0)) (
aq (decide (0≤a0)) (
aq (decide (a0≤(↑a1.length:Int))) (
aq (decide (0 < List.length a1)) (
aq (au .i64 (a0+(↑(min (List.length (List.take (Int.toNat (a0-0)) (List.drop (Int.toNat 0) a1))) (Int.toNat ((↑a1.length:Int)-a0))):Int))) (
some (Sum.inl ((a0+(↑(min (List.length (List.take (Int.toNat (a0-0)) (List.drop (Int.toNat 0) a1))) (Int.toNat ((↑a1.length:Int)-a0))):Int)),(kO a1 a0.toNat (List.take (min (List.length (List.take (Int.toNat (a0-0)) (List.drop (Int.toNat 0) a1))) (Int.toNat ((↑a1.length:Int)-a0))) (List.take (Int.toNat (a0-0)) (List.drop (Int.toNat 0) a1)))))))))))))))) (
some (Sum.inr a1))
theorem Gq (F88:sP):As (xU F88)=u2 (At F88):=funext fun _=>by kernel_rfl
noncomputable def Gr:=At uq
noncomputable def Au:Og:=af (u2 Gr)
theorem Gs:l77_1 (xU uq)=Au:=congrArg af (Gq uq)
theorem K1:L.Fn Tryz.prog 77 48 [(.t 4)] (erase Gl):=oA Tryz.func77
def xV:FSh:=⟨⟨Eh,[]⟩,[y19,y7],0,⟨⟨sf,iU⟩,[y19],[],1⟩,true⟩
noncomputable def Nr (F88:sP)(l77_0:Oj)(l77_1:Og)(a0:List Int)(a1:Int):Option Y2:=
(l77_0 (a0,a1)).bind fun y1=>(
aq (au .u64 (↑y1.1.length:Int)) (
aq (au .u64 y1.2) (
(F88 ((↑y1.1.length:Int),y1.2)).bind fun r2=>(
cond (decide (0 < r2.1)) (
none) (
cond (decide (9223372036854775807 < r2.2)) (
none) (
aq (au .i64 r2.2) (
aq (decide (0≤r2.2)) (
aq (decide (8*r2.2≤140737488355328)) (
(l77_1 ((↑(min y1.1.length (List.length (dF r2.2.toNat 0:List Int))):Int),(kO (dF r2.2.toNat 0:List Int) 0 (List.take (min y1.1.length (List.length (dF r2.2.toNat 0:List Int))) y1.1)))).bind fun y3=>(
some y3))))))))))
theorem PD (F88:sP):aO (xU F88) xV [(.t 4)] Gl=u2 (Nr F88 (l77_0 (xU F88)) (l77_1 (xU F88))):=funext fun _=>by kernel_rfl
noncomputable def PE:=Nr uq Ar Au
noncomputable def P77:Fw:=u2 PE
theorem PF:aO (xU uq) xV [(.t 4)] Gl=P77:=(PD uq).trans (by rw[Gp,Gs] <;> rfl)
theorem PG:DC Tryz.prog 77 xV P77:=dD PF PC K1
noncomputable def Fa (F77:Fw):List FEnt:=[⟨77,xV,F77⟩]
theorem PH:am Tryz.prog (Fa P77):=dK aa PG
def Av:LSh:=⟨[3,11,12,13],⟨[(.ptr 0 0),(.v y19),(.v y7),(.v y7)],k6⟩,[y19,y7,y7,y19,y7,y32,y53],4,[0,2,3]⟩
def Aw:List XSh:=[⟨(.exit 0),[3],⟨⟨zK,[(0,(.box [(.v y19),(.v y7),(.slr 4),(.mp 2),.emp])),(2,(.pmap 3)),(3,(.pool eJ)),(4,(.rows 22 3 y7))]⟩,[y19,y7,y53,y32],[0,2,3],5⟩⟩]
noncomputable def JG:=cz Tryz.prog [(5,{ch:=[0,0,0,0,1,1,0,0,0,0,0,0,1],rs:=[3] })] Tryz.f53 (.s .n (.s (.r [.a 1 true (.opt eJ)]) (.s (.s .n (.b (.l Av Aw (.s .n (.s .n (.s (.b (.s .n (.r [.a 5 false y7,.a 8 true y19,.a 9 true y19]))) .n)))))) .n)))
noncomputable def Ax (T:List FEnt):=aU (xs:=Aw) Av (bT T (sb [1,1,0,1,2,2] JG))
noncomputable def l53_0 (T:List FEnt):=af (Ax T)
noncomputable def Ay (F77:Fw)(a0:List Int)(a1 a2:Int)(a3:List Int)(a4:Int)(a5:List Y2)(a6:List Y3):Option ((Y2×Int×Int×Y2×Int×Y9×gi)⊕Ok):=
cond (decide (a2 < a1)) (
aq (bv a2 a0.length) (
(F77 (([(-1)]:List Int),(ix a0 a2))).bind fun r1=>(
aq (bI 24 (List.length a5+List.length ([r1]:List Y2))) (
aq (au .i64 (a2+1)) (
some (Sum.inl (a0,a1,(a2+1),a3,a4,(a5++([r1]:List Y2)),a6))))))) (
some (Sum.inr (a3,a4,a6,a5)))
theorem Gt (F77:Fw):Ax (Fa F77)=u7 (Ay F77):=funext fun _=>by kernel_rfl
noncomputable def Gu:=Ay P77
noncomputable def Az:Ij:=af (u7 Gu)
theorem v53_0:l53_0 (Fa P77)=Az:=congrArg af (Gt P77)
theorem K2:L.Fn Tryz.prog 53 31 [(.t 2)] (erase JG):=oA Tryz.func53
def xW:FSh:=⟨⟨[(.st cp)],[]⟩,[cp],0,⟨⟨zK,k6⟩,[y19,y7,y32,y53],[],4⟩,false⟩
noncomputable def Ns (F77:Fw)(l53_0:Ij)(a0:Y2×Int):Option Oq:=
(l53_0 (a0.1,(↑a0.1.length:Int),0,a0.1,a0.2,([]:List Y2),([]:List Y3))).bind fun y2=>(
some (y2.1,y2.2.1,y2.2.2.2,y2.2.2.1))
theorem g53 (F77:Fw)(a0:Y2×Int):aO (Fa F77) xW [(.t 2)] JG a0=Ns F77 (l53_0 (Fa F77)) a0:=by kernel_rfl
noncomputable def PI:=Ns P77 Az
noncomputable def xX:tY:=fun x=>PI x
theorem PJ:aO (Fa P77) xW [(.t 2)] JG=xX:=funext fun x=>(g53 P77 x).trans (by rw[v53_0] <;> rfl)
theorem PK:DC Tryz.prog 53 xW xX:=dD PJ PH K2
noncomputable def K3:List FEnt:=[]
theorem PL:am Tryz.prog K3:=aa
noncomputable def K4:=cz Tryz.prog [] Tryz.f55 .n
theorem K5:L.Fn Tryz.prog 55 4 [(.t 2)] (erase K4):=oA Tryz.func55
def xY:FSh:=⟨⟨[(.v cR)],[]⟩,[cR],0,⟨⟨[(.fn 80 zK)],[(0,(.boxT cR))]⟩,[cR],[],1⟩,false⟩
noncomputable def Nt (a0:List Y1):Option Y8:=
some a0
theorem g55 (a0:List Y1):aO K3 xY [(.t 2)] K4 a0=Nt a0:=by kernel_rfl
noncomputable def PM:=Nt
noncomputable def xZ:oG:=fun x=>PM x
theorem PN:aO K3 xY [(.t 2)] K4=xZ:=funext fun x=>(g55 x)
theorem PO:DC Tryz.prog 55 xY xZ:=dD PN PL K5
noncomputable def K6 (F89:oG):List FEnt:=[⟨89,sh89,F89⟩]
theorem PP:am Tryz.prog (K6 P89):=dK aa S6
noncomputable def K7:=cz Tryz.prog [] Tryz.f78 .n
theorem K8:L.Fn Tryz.prog 78 5 [(.t 2)] (erase K7):=oA Tryz.func78
def x4:FSh:=⟨⟨[(.fn 80 zK)],[(0,(.boxT cR))]⟩,[cR],1,⟨⟨sf,mq⟩,[cR],[],1⟩,false⟩
noncomputable def Nu (F89:oG)(a0:List Y1):Option Y8:=
(F89 a0).bind fun r1=>(
some r1)
theorem g78 (F89:oG)(a0:List Y1):aO (K6 F89) x4 [(.t 2)] K7 a0=Nu F89 a0:=by kernel_rfl
noncomputable def PQ:=Nu P89
noncomputable def P78:oG:=fun x=>PQ x
theorem PR:aO (K6 P89) x4 [(.t 2)] K7=P78:=funext fun x=>(g78 P89 x)
theorem PS:DC Tryz.prog 78 x4 P78:=dD PR PP K8
noncomputable def Fb:List FEnt:=[]
theorem PT:am Tryz.prog Fb:=aa
def AA:LSh:=⟨[0,2],⟨[(.v oL),(.v y7)],[]⟩,[oL,y7],0,[]⟩
def AB:List XSh:=[⟨.normal,[0,2],⟨⟨[(.v oL),(.v y7)],[]⟩,[oL,y7],[],0⟩⟩]
noncomputable def JH:=cz Tryz.prog [] Tryz.f50 (.s .n (.s (.o AA AB .n) .n))
noncomputable def l50_0 (T:List FEnt):=kD (xs:=AB) AA (bT T (sb [1,0,2] JH))
noncomputable def AD (a0 a1:Int):Option J9:=
cond (decide (4294967296≤a0)) (
some ((bh .u64 a0 32),32)) (
some (a0,a1))
theorem Gv:l50_0 Fb=u2 AD:=funext fun _=>by kernel_rfl
noncomputable def Gw:=AD
noncomputable def AE:sP:=fun x=>Gw x.1 x.2
theorem v50_0:l50_0 Fb=AE:=Gv
theorem K9:L.Fn Tryz.prog 50 25 [(.t 2)] (erase JH):=oA Tryz.func50
def x5:FSh:=⟨⟨[(.v oL)],[]⟩,[oL],0,⟨⟨pN,[]⟩,[y7],[],0⟩,true⟩
noncomputable def Nv (l50_0:sP)(a0:Int):Option Int:=
(l50_0 (a0,0)).bind fun y1=>(
cond (decide (65536≤y1.1)) (
aq (au .i64 (y1.2+16)) (
cond (decide (256≤(bh .u64 y1.1 16))) (
aq (au .i64 ((y1.2+16)+8)) (
aq (au .u8 (bh .u64 (bh .u64 y1.1 16) 8)) (
aq (bv (bh .u64 (bh .u64 y1.1 16) 8) (ByteArray.size tb)) (
aq (au .i64 (un tb (bh .u64 (bh .u64 y1.1 16) 8))) (
aq (au .i64 (((y1.2+16)+8)+(un tb (bh .u64 (bh .u64 y1.1 16) 8)))) (
some (((y1.2+16)+8)+(un tb (bh .u64 (bh .u64 y1.1 16) 8))))))))) (
aq (au .u8 (bh .u64 y1.1 16)) (
aq (bv (bh .u64 y1.1 16) (ByteArray.size tb)) (
aq (au .i64 (un tb (bh .u64 y1.1 16))) (
aq (au .i64 ((y1.2+16)+(un tb (bh .u64 y1.1 16)))) (
some ((y1.2+16)+(un tb (bh .u64 y1.1 16)))))))))) (
cond (decide (256≤y1.1)) (
aq (au .i64 (y1.2+8)) (
aq (au .u8 (bh .u64 y1.1 8)) (
aq (bv (bh .u64 y1.1 8) (ByteArray.size tb)) (
aq (au .i64 (un tb (bh .u64 y1.1 8))) (
aq (au .i64 ((y1.2+8)+(un tb (bh .u64 y1.1 8)))) (
some ((y1.2+8)+(un tb (bh .u64 y1.1 8))))))))) (
aq (au .u8 y1.1) (
aq (bv y1.1 (ByteArray.size tb)) (
aq (au .i64 (un tb y1.1)) (
aq (au .i64 (y1.2+(un tb y1.1))) (
some (y1.2+(un tb y1.1)))))))))
theorem g50 (a0:Int):aO Fb x5 [(.t 2)] JH a0=Nv (l50_0 Fb) a0:=by kernel_rfl
noncomputable def PU:=Nv AE
noncomputable def P50:sQ:=fun x=>PU x
theorem PV:aO Fb x5 [(.t 2)] JH=P50:=funext fun x=>(g50 x).trans (by rw[v50_0] <;> rfl)
theorem PW:DC Tryz.prog 50 x5 P50:=dD PV PT K9
noncomputable def La (F50:sQ):List FEnt:=[⟨50,x5,F50⟩]
theorem PX:am Tryz.prog (La P50):=dK aa PW
noncomputable def Lb:=cz Tryz.prog [] Tryz.f34 .n
theorem Lc:L.Fn Tryz.prog 34 8 [(.t 2)] (erase Lb):=oA Tryz.func34
def tS:FSh:=⟨⟨[(.v oL)],[]⟩,[oL],0,⟨⟨pN,[]⟩,[y7],[],0⟩,true⟩
noncomputable def Nw (F50:sQ)(a0:Int):Option Int:=
(F50 a0).bind fun r1=>(
some r1)
theorem g34 (F50:sQ)(a0:Int):aO (La F50) tS [(.t 2)] Lb a0=Nw F50 a0:=by kernel_rfl
noncomputable def PY:=Nw P50
noncomputable def P34:sQ:=fun x=>PY x
theorem PZ:aO (La P50) tS [(.t 2)] Lb=P34:=funext fun x=>(g34 P50 x)
theorem Ld:DC Tryz.prog 34 tS P34:=dD PZ PX Lc
noncomputable def Fc:List FEnt:=[]
theorem P0:am Tryz.prog Fc:=aa
def AF:LSh:=⟨[3,6,7,8],⟨[(.v y7),(.v y19),(.v y7),(.v y7)],[]⟩,[y7,y19,y7,y7],0,[]⟩
def AG:List XSh:=[⟨.ret,[2],⟨⟨pN,[]⟩,[y7],[],0⟩⟩,⟨(.exit 0),[3],⟨⟨pN,[]⟩,[y7],[],0⟩⟩]
noncomputable def JI:=cz Tryz.prog [] Tryz.f57 (.s .n (.s .n (.s (.s .n (.b (.l AF AG .n))) .n)))
noncomputable def AH (T:List FEnt):=aU (xs:=AG) AF (bT T (sb [1,1,0,1,2,2] JI))
noncomputable def l57_0 (T:List FEnt):=af (AH T)
noncomputable def AI (a0:Int)(a1:List Int)(a2 a3:Int):Option ((Int×Y2×Int×Int)⊕Of):=
cond (decide (a3 < a2)) (
aq (bv a3 a1.length) (
cond (!decide ((ix a1 a3)=a0)) (
some (Sum.inr (Sum.inl (ix a1 a3)))) (
aq (au .i64 (a3+1)) (
some (Sum.inl (a0,a1,a2,(a3+1))))))) (
some (Sum.inr (Sum.inr a0)))
theorem Gx:AH Fc=u4 AI:=funext fun _=>by kernel_rfl
noncomputable def Gy:=AI
noncomputable def AJ:Oh:=af (u4 Gy)
theorem v57_0:l57_0 Fc=AJ:=congrArg af Gx
theorem Lf:L.Fn Tryz.prog 57 18 [(.t 2)] (erase JI):=oA Tryz.func57
def x6:FSh:=⟨⟨[(.v y19)],[]⟩,[y19],0,⟨⟨pN,[]⟩,[y7],[],0⟩,true⟩
noncomputable def Nx (l57_0:Oh)(a0:List Int):Option Int:=
(l57_0 (0,a0,(↑a0.length:Int),0)).bind (fun y1=>Sum.elim (fun y2=>(
some y2)) (fun y3=>(
some y3)) y1)
theorem g57 (a0:List Int):aO Fc x6 [(.t 2)] JI a0=Nx (l57_0 Fc) a0:=by kernel_rfl
noncomputable def P1:=Nx AJ
noncomputable def Fd:uw:=fun x=>P1 x
theorem P2:aO Fc x6 [(.t 2)] JI=Fd:=funext fun x=>(g57 x).trans (by rw[v57_0] <;> rfl)
theorem Qa:DC Tryz.prog 57 x6 Fd:=dD P2 P0 Lf
noncomputable def Lg (F57:uw):List FEnt:=[⟨57,x6,F57⟩]
theorem Qb:am Tryz.prog (Lg Fd):=dK aa Qa
noncomputable def Lh:=cz Tryz.prog [] Tryz.f56 (.s .n (.s (.r [.a 10 false y7]) .n))
theorem Li:L.Fn Tryz.prog 56 17 [(.t 4)] (erase Lh):=oA Tryz.func56
def x7:FSh:=⟨⟨[(.st eJ),(.st eJ)],[]⟩,[eJ,eJ],0,⟨⟨pN,[]⟩,[y7],[],0⟩,true⟩
noncomputable def Ny (F57:uw)(a0 a1:Y1):Option Int:=
aq (au .i64 (a0.2.1-a1.2.1)) (
aq (au .i64 (a0.1-a1.1)) (
(F57 ([(a0.2.1-a1.2.1),(a0.1-a1.1)]:List Int)).bind fun r1=>(
some r1)))
theorem Qc (F57:uw):aO (Lg F57) x7 [(.t 4)] Lh=u2 (Ny F57):=funext fun _=>by kernel_rfl
noncomputable def Qd:=Ny Fd
noncomputable def ur:CF:=u2 Qd
theorem Qe:aO (Lg Fd) x7 [(.t 4)] Lh=ur:=Qc Fd
theorem Qf:DC Tryz.prog 56 x7 ur:=dD Qe Qb Li
noncomputable def x8 (F56:CF):List FEnt:=[⟨56,x7,F56⟩]
theorem Qg:am Tryz.prog (x8 ur):=dK aa Qf
def AK:LSh:=⟨[0,1,2,3,8,9],⟨[(.slc 0),(.v y7),(.v y7),(.fn 56 []),(.v y7),(.v y7)],mq⟩,[y7,y7,y7,y7,cR],1,[0]⟩
def AL:List XSh:=[⟨(.exit 2),[0,1,2,3,8],⟨⟨j7,mq⟩,[y7,y7,y7,cR],[0],1⟩⟩]
def AM:LSh:=⟨[0,1,2,3,8],⟨j7,mq⟩,[y7,y7,y7,cR],1,[0]⟩
def AN:List XSh:=[⟨(.exit 0),[],⟨⟨[],mq⟩,[cR],[0],1⟩⟩]
noncomputable def Gz:=cz Tryz.prog [] Tryz.f94 (.s .n (.b (.l AM AN (.s .n (.s (.b (.s .n (.b (.l AK AL .n)))) .n)))))
noncomputable def AO (T:List FEnt):=aU (xs:=AL) AK (bT T (sb [1,2,2,1,0,2,1,2,2] Gz))
noncomputable def l94_1 (T:List FEnt):=af (AO T)
noncomputable def AP (F56:CF)(a0 a1 a2 a3:Int)(a4:List Y1):Option (Ot⊕MO):=
cond (decide (a0 < a3)) (
aq (bv a3 a4.length) (
aq (au .i64 (a3-1)) (
aq (bv (a3-1) a4.length) (
(F56 ((ix a4 a3),(ix a4 (a3-1)))).bind fun r1=>(
cond (decide (r1 < 0)) (
aq (au .i64 (a3-1)) (
aq (au .i64 (a3-1)) (
aq (bv (a3-1) a4.length) (
aq (bv a3 a4.length) (
aq (bv a3 a4.length) (
aq (bv (a3-1) (List.length (List.set a4 a3.toNat (ix a4 (a3-1))))) (
aq (au .i64 (a3-1)) (
some (Sum.inl (a0,a1,a2,(a3-1),(List.set (List.set a4 a3.toNat (ix a4 (a3-1))) (Int.toNat (a3-1)) (ix a4 a3)))))))))))) (
some (Sum.inr (a0,a1,a2,a4)))))))) (
some (Sum.inr (a0,a1,a2,a4)))
theorem GA (F56:CF):AO (x8 F56)=u5 (AP F56):=funext fun _=>by kernel_rfl
noncomputable def GB:=AP ur
noncomputable def AQ:Ik:=af (u5 GB)
theorem GC:l94_1 (x8 ur)=AQ:=congrArg af (GA ur)
noncomputable def AR (T:List FEnt):=aU (xs:=AN) AM (bT T (sb [1,2,2] Gz))
noncomputable def l94_0 (T:List FEnt):=af (AR T)
noncomputable def AS (F56:CF)(l94_1:Ik)(a0 a1 a2:Int)(a3:List Y1):Option (MO⊕Y8):=
cond (decide (a2 < a1)) (
(l94_1 (a0,a1,a2,a2,a3)).bind fun y2=>(
aq (au .i64 (y2.2.2.1+1)) (
some (Sum.inl (y2.1,y2.2.1,(y2.2.2.1+1),y2.2.2.2))))) (
some (Sum.inr a3))
theorem GD (F56:CF):AR (x8 F56)=u4 (AS F56 (l94_1 (x8 F56))):=funext fun _=>by kernel_rfl
noncomputable def GE:=AS ur AQ
noncomputable def AT:Fx:=af (u4 GE)
theorem GF:l94_0 (x8 ur)=AT:=congrArg af ((GD ur).trans (by rw[GC] <;> rfl))
theorem Lj:L.Fn Tryz.prog 94 53 [] (erase Gz):=oA Tryz.func94
def x9:FSh:=⟨⟨[(.slc 0),(.v y7),(.v y7),(.fn 56 [])],mq⟩,[y7,y7,cR],1,⟨⟨qe,mq⟩,[cR],[0],1⟩,false⟩
noncomputable def Nz (F56:CF)(l94_0:Fx)(a0 a1:Int)(a2:List Y1):Option Y8:=
aq (au .i64 (a0+1)) (
(l94_0 (a0,a1,(a0+1),a2)).bind fun y3=>(
some y3))
theorem Qh (F56:CF):aO (x8 F56) x9 [] Gz=u3 (Nz F56 (l94_0 (x8 F56))):=funext fun _=>by kernel_rfl
noncomputable def Qi:=Nz ur AT
noncomputable def ut:CH:=u3 Qi
theorem Qj:aO (x8 ur) x9 [] Gz=ut:=(Qh ur).trans (by rw[GF] <;> rfl)
theorem Qk:DC Tryz.prog 94 x9 ut:=dD Qj Qg Lj
noncomputable def ya (F94:CH):List FEnt:=[⟨94,x9,F94⟩]
theorem Ql:am Tryz.prog (ya ut):=dK aa Qk
def AU:LSh:=⟨[0,1,2,3,4,10,11,12],⟨j4,mq⟩,[y7,y7,y7,.bool,.bool,y7,cR],1,[0]⟩
def AW:List XSh:=[⟨.normal,[0,1,2,3,4,10,11,12],⟨⟨j4,mq⟩,[y7,y7,y7,.bool,.bool,y7,cR],[0],1⟩⟩]
def AX:LSh:=⟨[0,1,2,3,4,10,11],⟨[(.slc 0),(.v y7),(.v y7),(.v y7),(.fn 56 []),(.v .bool),(.v .bool)],mq⟩,[y7,y7,y7,.bool,.bool,cR],1,[0]⟩
def AY:List XSh:=[⟨.ret,[],⟨⟨[],mq⟩,[cR],[0],1⟩⟩]
noncomputable def GG:=cz Tryz.prog [] Tryz.f90 (.s .n (.s .n (.b (.l AX AY (.b (.s .n (.s .n (.s .n (.s (.o AU AW .n) .n)))))))))
noncomputable def l90_1 (T:List FEnt):=kD (xs:=AW) AU (bT T (sb [1,1,2,2,2,1,1,1,0,2] GG))
noncomputable def AZ (F94:CH)(a0 a1 a2:Int)(a3 a4:Bool)(a5:Int)(a6:List Y1):Option Om:=
cond (!a3) (
none) (
some (a0,a1,a2,a3,a4,a5,a6))
theorem GH (F94:CH):l90_1 (ya F94)=u7 (AZ F94):=funext fun _=>by kernel_rfl
noncomputable def GI:=AZ ut
noncomputable def A0:Il:=fun x=>GI x.1 x.2.1 x.2.2.1 x.2.2.2.1 x.2.2.2.2.1 x.2.2.2.2.2.1 x.2.2.2.2.2.2
theorem GJ:l90_1 (ya ut)=A0:=GH ut
noncomputable def A1 (T:List FEnt):=aU (xs:=AY) AX (bT T (sb [1,1,2,2] GG))
noncomputable def l90_0 (T:List FEnt):=af (A1 T)
noncomputable def A2 (F94:CH)(l90_1:Il)(a0 a1 a2:Int)(a3 a4:Bool)(a5:List Y1):Option ((Int×Int×Int×Bool×Bool×Y8)⊕Y8):=
aq (au .i64 (a1-a0)) (
cond (decide ((a1-a0)≤12)) (
(F94 (a0,a1,a5)).bind fun r1=>(
some (Sum.inr r1))) (
cond (decide (a2=0)) (
none) (
(l90_1 (a0,a1,a2,a3,a4,(a1-a0),a5)).bind fun y2=>(
none))))
theorem GK (F94:CH):A1 (ya F94)=u6 (A2 F94 (l90_1 (ya F94))):=funext fun _=>by kernel_rfl
noncomputable def GL:=A2 ut A0
noncomputable def A3:Ol:=af (u6 GL)
theorem GM:l90_0 (ya ut)=A3:=congrArg af ((GK ut).trans (by rw[GJ] <;> rfl))
theorem Lk:L.Fn Tryz.prog 90 148 [] (erase GG):=oA Tryz.func90
def yb:FSh:=⟨⟨[(.slc 0),(.v y7),(.v y7),(.v y7),(.fn 56 [])],mq⟩,[y7,y7,y7,cR],1,⟨⟨qe,mq⟩,[cR],[0],1⟩,false⟩
noncomputable def NA (F94:CH)(l90_0:Ol)(a0 a1 a2:Int)(a3:List Y1):Option Y8:=
(l90_0 (a0,a1,a2,true,true,a3)).bind fun y3=>(
some y3)
theorem Qm (F94:CH):aO (ya F94) yb [] GG=u4 (NA F94 (l90_0 (ya F94))):=funext fun _=>by kernel_rfl
noncomputable def Qn:=NA ut A3
noncomputable def P90:Fx:=u4 Qn
theorem Qo:aO (ya ut) yb [] GG=P90:=(Qm ut).trans (by rw[GM] <;> rfl)
theorem Qp:DC Tryz.prog 90 yb P90:=dD Qo Ql Lk
noncomputable def Ll (F34:sQ)(F90:Fx):List FEnt:=[⟨34,tS,F34⟩,⟨90,yb,F90⟩]
theorem Qq:am Tryz.prog (Ll P34 P90):=dK (dK aa Qp) Ld
noncomputable def Lm:=cz Tryz.prog [] Tryz.f79 .n
theorem Ln:L.Fn Tryz.prog 79 14 [] (erase Lm):=oA Tryz.func79
def yc:FSh:=⟨⟨[(.slc 0),(.fn 56 [])],mq⟩,[cR],1,⟨⟨qe,mq⟩,[cR],[0],1⟩,false⟩
noncomputable def NB (F34:sQ)(F90:Fx)(a0:List Y1):Option Y8:=
aq (au .u64 (↑a0.length:Int)) (
(F34 (↑a0.length:Int)).bind fun r1=>(
(F90 (0,(↑a0.length:Int),r1,a0)).bind fun r2=>(
some r2)))
theorem g79 (F34:sQ)(F90:Fx)(a0:List Y1):aO (Ll F34 F90) yc [] Lm a0=NB F34 F90 a0:=by kernel_rfl
noncomputable def Qr:=NB P34 P90
noncomputable def P79:oG:=fun x=>Qr x
theorem Qs:aO (Ll P34 P90) yc [] Lm=P79:=funext fun x=>(g79 P34 P90 x)
theorem Qt:DC Tryz.prog 79 yc P79:=dD Qs Qq Ln
noncomputable def Lo (F78:oG)(F79:oG):List FEnt:=[⟨78,x4,F78⟩,⟨79,yc,F79⟩]
theorem Qu:am Tryz.prog (Lo P78 P79):=dK (dK aa Qt) PS
noncomputable def Lp:=cz Tryz.prog [] Tryz.f54 .n
theorem Lq:L.Fn Tryz.prog 54 12 [(.t 4)] (erase Lp):=oA Tryz.func54
def yd:FSh:=⟨⟨[(.fn 80 zK),(.fn 56 [])],[(0,(.boxT cR))]⟩,[cR],1,⟨⟨sf,mq⟩,[cR],[],1⟩,false⟩
noncomputable def NC (F78 F79:oG)(a0:List Y1):Option Y8:=
(F78 a0).bind fun r1=>(
(F79 r1).bind fun r2=>(
some r2))
theorem g54 (F78 F79:oG)(a0:List Y1):aO (Lo F78 F79) yd [(.t 4)] Lp a0=NC F78 F79 a0:=by kernel_rfl
noncomputable def Qv:=NC P78 P79
noncomputable def ye:oG:=fun x=>Qv x
theorem Qw:aO (Lo P78 P79) yd [(.t 4)] Lp=ye:=funext fun x=>(g54 P78 P79 x)
theorem Qx:DC Tryz.prog 54 yd ye:=dD Qw Qu Lq
noncomputable def yf:List FEnt:=[]
theorem Qy:am Tryz.prog yf:=aa
def A4:LSh:=⟨[0,3,4,5],⟨[(.slc 0),(.v y7),(.slo 0 5),(.v y7)],mq⟩,[y7,y7,y7,y7,cR],1,[0]⟩
def A5:List XSh:=[⟨(.exit 2),[0,3],⟨⟨Ei,mq⟩,[y7,cR],[0],1⟩⟩]
def A6:LSh:=⟨[0,3],⟨Ei,mq⟩,[y7,cR],1,[]⟩
def A7:List XSh:=[⟨.ret,[2],⟨⟨sf,mq⟩,[cR],[],1⟩⟩,⟨(.exit 0),[0],⟨⟨sf,mq⟩,[cR],[],1⟩⟩]
noncomputable def GN:=cz Tryz.prog [(7,{ch:=[0,0,1,0] }),(14,{ch:=[0,0,1,0] }),(15,{ch:=[0,0,2,0] })] Tryz.f58 (.s .n (.s .n (.s (.s .n (.b (.l A6 A7 (.s .n (.s (.b (.s .n (.s (.s .n (.s (.s .n (.b (.l A4 A5 .n))) .n)) .n))) .n))))) .n)))
noncomputable def A8 (T:List FEnt):=aU (xs:=A5) A4 (bT T (sb [1,1,0,1,2,2,1,0,2,1,0,1,0,1,2,2] GN))
noncomputable def l58_1 (T:List FEnt):=af (A8 T)
noncomputable def A9 (a0 a1 a2 a3:Int)(a4:List Y1):Option (Ot⊕Ih):=
cond (decide (a3 < (↑a2.toNat:Int))) (
aq (bv a3 a2.toNat) (
aq (au .i64 (a3-1)) (
aq (bv (a3-1) a2.toNat) (
cond (!((((decide ((rJ a4 (a1.toNat+Int.toNat a3)).1=(rJ a4 (a1.toNat+Int.toNat (a3-1))).1)&&decide ((rJ a4 (a1.toNat+Int.toNat a3)).2.1=(rJ a4 (a1.toNat+Int.toNat (a3-1))).2.1))&&decide ((rJ a4 (a1.toNat+Int.toNat a3)).2.2.1=(rJ a4 (a1.toNat+Int.toNat (a3-1))).2.2.1))&&decide ((rJ a4 (a1.toNat+Int.toNat a3)).2.2.2.1=(rJ a4 (a1.toNat+Int.toNat (a3-1))).2.2.2.1))&&decide ((rJ a4 (a1.toNat+Int.toNat a3)).2.2.2.2=(rJ a4 (a1.toNat+Int.toNat (a3-1))).2.2.2.2))) (
aq (bv a3 a2.toNat) (
aq (bv a0 a4.length) (
aq (au .i64 (a0+1)) (
aq (au .i64 (a3+1)) (
some (Sum.inl ((a0+1),(↑a1.toNat:Int),(↑a2.toNat:Int),(a3+1),(List.set a4 a0.toNat (rJ a4 (a1.toNat+Int.toNat a3)))))))))) (
aq (au .i64 (a3+1)) (
some (Sum.inl (a0,(↑a1.toNat:Int),(↑a2.toNat:Int),(a3+1),a4)))))))) (
some (Sum.inr (a0,a4)))
theorem GO:A8 yf=u5 A9:=funext fun _=>by kernel_rfl
noncomputable def GP:=A9
noncomputable def Ba:Im:=af (u5 GP)
theorem GQ:l58_1 yf=Ba:=congrArg af GO
noncomputable def Bb (T:List FEnt):=aU (xs:=A7) A6 (bT T (sb [1,1,0,1,2,2] GN))
noncomputable def l58_0 (T:List FEnt):=af (Bb T)
noncomputable def Bc (l58_1:Im)(a0:Int)(a1:List Y1):Option (Ih⊕Ou):=
cond (decide (a0 < (↑a1.length:Int))) (
aq (bv a0 a1.length) (
aq (au .i64 (a0-1)) (
aq (bv (a0-1) a1.length) (
cond ((((decide ((ix a1 a0).1=(ix a1 (a0-1)).1)&&decide ((ix a1 a0).2.1=(ix a1 (a0-1)).2.1))&&decide ((ix a1 a0).2.2.1=(ix a1 (a0-1)).2.2.1))&&decide ((ix a1 a0).2.2.2.1=(ix a1 (a0-1)).2.2.2.1))&&decide ((ix a1 a0).2.2.2.2=(ix a1 (a0-1)).2.2.2.2)) (
aq (decide (0≤a0)) (
aq (decide (a0≤(↑a1.length:Int))) (
aq (decide ((↑a1.length:Int)≤(↑a1.length:Int))) (
aq (decide (0 < List.length a1)) (
(l58_1 (a0,(↑a0.toNat:Int),(↑(Int.toNat ((↑a1.length:Int)-a0)):Int),1,a1)).bind fun y1=>(
aq (decide (0≤y1.1)) (
aq (decide (y1.1≤(↑y1.2.length:Int))) (
aq (decide ((↑y1.2.length:Int)≤(↑y1.2.length:Int))) (
aq (decide (0 < List.length y1.2)) (
aq (decide (0≤y1.1)) (
aq (decide (y1.1≤(↑(List.length (oh y1.2 y1.1.toNat (Int.toNat ((↑y1.2.length:Int)-y1.1)) (0,(0,(0,(0,0)))))):Int))) (
aq (decide (0 < List.length (oh y1.2 y1.1.toNat (Int.toNat ((↑y1.2.length:Int)-y1.1)) (0,(0,(0,(0,0))))))) (
some (Sum.inr (Sum.inl (List.take y1.1.toNat (oh y1.2 y1.1.toNat (Int.toNat ((↑y1.2.length:Int)-y1.1)) (0,(0,(0,(0,0))))))))))))))))))))) (
aq (au .i64 (a0+1)) (
some (Sum.inl ((a0+1),a1)))))))) (
some (Sum.inr (Sum.inr a1)))
theorem g58_0:Bb yf=u2 (Bc (l58_1 yf)):=funext fun _=>by kernel_rfl
noncomputable def GR:=Bc Ba
noncomputable def Bd:Io:=af (u2 GR)
theorem v58_0:l58_0 yf=Bd:=congrArg af (g58_0.trans (by rw[GQ] <;> rfl))
theorem Lr:L.Fn Tryz.prog 58 61 [(.t 2)] (erase GN):=oA Tryz.func58
def yg:FSh:=⟨⟨sf,mq⟩,[cR],1,⟨⟨sf,mq⟩,[cR],[],1⟩,false⟩
noncomputable def ND (l58_0:Io)(a0:List Y1):Option Y8:=
cond (decide ((↑a0.length:Int) < 2)) (
some a0) (
(l58_0 (1,a0)).bind (fun y2=>Sum.elim (fun y3=>(
some y3)) (fun y4=>(
some y4)) y2))
theorem g58 (a0:List Y1):aO yf yg [(.t 2)] GN a0=ND (l58_0 yf) a0:=by kernel_rfl
noncomputable def Qz:=ND Bd
noncomputable def yh:oG:=fun x=>Qz x
theorem QA:aO yf yg [(.t 2)] GN=yh:=funext fun x=>(g58 x).trans (by rw[v58_0] <;> rfl)
theorem QB:DC Tryz.prog 58 yg yh:=dD QA Qy Lr
noncomputable def Fe:List FEnt:=[]
theorem QC:am Tryz.prog Fe:=aa
def Be:LSh:=⟨[0,1,2,11,12],⟨j8,k3⟩,z5,5,[0,1,2,3,4]⟩
def Bf:List XSh:=[⟨(.exit 0),[1,2],⟨⟨[(.pel 1),(.v y7)],k3⟩,z7,[0,1,2,3,4],5⟩⟩]
noncomputable def JJ:=cz Tryz.prog [] Tryz.f81 (.s (.s .n (.b (.l Be Bf .n))) .n)
noncomputable def Bg (T:List FEnt):=aU (xs:=Bf) Be (bT T (sb [0,1,2,2] JJ))
noncomputable def l81_0 (T:List FEnt):=af (Bg T)
noncomputable def Bh (a0 a1 a2 a3:Int)(a4:List Int)(a5:Int)(a6:List Y3)(a7:List Y2)(a8:List Int):Option Ip:=
cond (decide (a3 < a2)) (
aq (bv ((pd a6 a0).2.1) a7.length) (
aq (au .i64 ((pd a6 a0).2.2.1+a3)) (
aq (bv ((pd a6 a0).2.2.1+a3) (List.length (ix a7 ((pd a6 a0).2.1)))) (
aq (au .i64 (a3+1)) (
some (Sum.inl (a0,a1,a2,(a3+1),a4,a5,a6,(List.set a7 (Int.toNat ((pd a6 a0).2.1)) (List.set (ix a7 ((pd a6 a0).2.1)) (Int.toNat ((pd a6 a0).2.2.1+a3)) (-1))),a8))))))) (
some (Sum.inr (a0,a1,a4,a5,a6,a7,a8)))
theorem GS:Bg Fe=u9 Bh:=funext fun _=>by kernel_rfl
noncomputable def GT:=Bh
noncomputable def Bi:yX:=af (u9 GT)
theorem GU:l81_0 Fe=Bi:=congrArg af GS
theorem Ls:L.Fn Tryz.prog 81 48 [] (erase JJ):=oA Tryz.func81
def yi:FSh:=⟨⟨[(.ptr 0 0),(.pel 1),(.v y7)],k3⟩,z7,5,⟨⟨qe,k3⟩,[y19,y7,y53,y32,y19],[0,1,2,3,4],5⟩,false⟩
noncomputable def NE (l81_0:yX)(a0 a1:Int)(a2:List Int)(a3:Int)(a4:List Y3)(a5:List Y2)(a6:List Int):Option MP:=
(l81_0 (a0,a1,(pd a4 a0).2.2.2.1,0,a2,a3,a4,a5,a6)).bind fun y1=>(
some (y1.2.2.1,y1.2.2.2.1,(MS (MQ (Fy y1.2.2.2.2.1 y1.1 y1.2.1) y1.1 (-1)) y1.1 (-1)),y1.2.2.2.2.2.1,y1.2.2.2.2.2.2))
theorem g81:aO Fe yi [] JJ=u7 (NE (l81_0 Fe)):=funext fun _=>by kernel_rfl
noncomputable def QD:=NE Bi
noncomputable def P81:mH:=u7 QD
theorem QE:aO Fe yi [] JJ=P81:=g81.trans (by rw[GU] <;> rfl)
theorem QF:DC Tryz.prog 81 yi P81:=dD QE QC Ls
noncomputable def Ff (F81:mH):List FEnt:=[⟨81,yi,F81⟩]
theorem QG:am Tryz.prog (Ff P81):=dK aa QF
def Bj:LSh:=⟨[0,1],⟨E3,[(0,(.box [(.v y19),(.v y7),(.slr 1),(.mpl 2),(.slc 3)])),(1,(.rows 22 3 y7)),(2,(.gone 4)),(3,(.row 3 y7)),(4,(.pool eJ))]⟩,z8,5,[0,1,2,3,4]⟩
noncomputable def JK:=cz Tryz.prog [] Tryz.f59 (.m [] Bj .n)
noncomputable def GV:DCode:=sb [2] JK
noncomputable def Bk (T:List FEnt):=jh Bj 10 13 4 (fun K=>bT T GV (gh 1 K))
noncomputable def l59_0 (T:List FEnt)(es:List Int)(x:ux):Option ux:=@rngF _ _ (decDens [y7,y19,y7,y32,y19,y53]) es (Bk T) x
noncomputable def Bl (F81:mH)(a0:Int)(a1:List Int)(a2:Int)(a3:List Y2)(a4:List Int)(a5:List Y3)(e:Int):Option ux:=
cond (decide ((pd a5 e).1=2)) (
aq (au .i64 ((pd a5 e).2.2.2.2+a2)) (
cond (decide (((pd a5 e).2.2.2.2+a2)≤a0)) (
(F81 (e,4,a1,a2,a5,a3,a4)).bind fun r1=>(
some (a0,r1.1,r1.2.1,r1.2.2.2.1,r1.2.2.2.2,r1.2.2.1))) (
some (a0,a1,a2,a3,a4,a5)))) (
some (a0,a1,a2,a3,a4,a5))
theorem g59_0 (F81:mH)(a0:Int)(a1:List Int)(a2:Int)(a3:List Y2)(a4:List Int)(a5:List Y3)(e:Int):Bk (Ff F81) (a0,a1,a2,a3,a4,a5) e=Bl F81 a0 a1 a2 a3 a4 a5 e:=by kernel_rfl
noncomputable def GW (a0:Int)(a1:List Int)(a2:Int)(a3:List Y2)(a4:List Int)(a5:List Y3)(e:Int):Option ux:=Bl P81 a0 a1 a2 a3 a4 a5 e
noncomputable def Bm (es:List Int)(x:ux):Option ux:=@rngF _ _ (decDens [y7,y19,y7,y32,y19,y53]) es (fun x e=>GW x.1 x.2.1 x.2.2.1 x.2.2.2.1 x.2.2.2.2.1 x.2.2.2.2.2 e) x
theorem GX:l59_0 (Ff P81)=Bm:=funext fun es=>funext fun x=>congrArg (fun s=>@rngF _ _ (decDens [y7,y19,y7,y32,y19,y53]) es s x) (funext fun x=>funext fun e=>(g59_0 P81 x.1 x.2.1 x.2.2.1 x.2.2.2.1 x.2.2.2.2.1 x.2.2.2.2.2 e))
theorem Lt:L.Fn Tryz.prog 59 38 [] (erase JK):=oA Tryz.func59
def yj:FSh:=⟨⟨E3,k4⟩,z8,5,⟨⟨qe,k4⟩,z9,[0,1,2,3,4],5⟩,false⟩
noncomputable def NF (F81:mH)(l59_0:List Int→ux→Option ux)(a0:Int)(a1:List Int)(a2:Int)(a3:List Y2)(a4:List Int)(a5:List Y3):Option CI:=
(l59_0 (List.map (·.1) a5) (a0,a1,a2,a3,a4,a5)).bind fun y2=>(
some (y2.2.1,y2.2.2.1,y2.2.2.2.1,y2.2.2.2.2.1,y2.2.2.2.2.2))
theorem QH (F81:mH):aO (Ff F81) yj [] JK=u6 (NF F81 (l59_0 (Ff F81))):=funext fun _=>by kernel_rfl
noncomputable def QI:=NF P81 Bm
noncomputable def yk:tZ:=u6 QI
theorem QJ:aO (Ff P81) yj [] JK=yk:=(QH P81).trans (by rw[GX] <;> rfl)
theorem QK:DC Tryz.prog 59 yj yk:=dD QJ QG Lt
noncomputable def Lu:List FEnt:=[]
theorem QL:am Tryz.prog Lu:=aa
noncomputable def Lv:=cz Tryz.prog [] Tryz.f27 .n
theorem Lw:L.Fn Tryz.prog 27 28 [(.t 4)] (erase Lv):=oA Tryz.func27
def tT:FSh:=⟨⟨E3,k4⟩,z8,5,⟨⟨[(.pel 4)],k4⟩,z8,[0,1,2,3],5⟩,false⟩
noncomputable def NG (a0:Int)(a1:List Int)(a2:Int)(a3:List Y2)(a4:List Int)(a5:List Y3):Option ux:=
cond (Option.isSome (aZ a5 a0)) (
some (a0,a1,a2,a3,a4,a5)) (
aq (!Option.isSome (aZ a5 a0)) (
some (a0,a1,a2,a3,a4,(a5++[(a0,(0,((-1),((-1),(0,0)))))]))))
theorem QM:aO Lu tT [(.t 4)] Lv=u6 NG:=funext fun _=>by kernel_rfl
noncomputable def QN:=NG
noncomputable def pO:kR:=u6 QN
theorem QO:aO Lu tT [(.t 4)] Lv=pO:=QM
theorem Lx:DC Tryz.prog 27 tT pO:=dD QO QL Lw
end Go.Proofs.YtdkaijofmigmbaaGreat.D
