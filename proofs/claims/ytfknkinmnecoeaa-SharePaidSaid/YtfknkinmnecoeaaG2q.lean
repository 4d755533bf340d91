import Derived.Test.YtfknkinmnecoeaaG1q
import Derived.Test.YtfknkinmnecoeaaProg
set_option linter.unusedVariables false
set_option maxRecDepth 100000
namespace Go.Proofs.Ytfknkinmnecoeaa.D
open Go Go.Proofs Go.Proofs.Ytfknkinmnecoeaa.L
def Ob:List RSh:=[(.st bx),(.v y3),(.v y3)]
def SX:List RSh:=[(.ptr 0 0),(.ptr 1 0),(.ptr 2 0),(.v y3)]
def P7:List RSh:=[(.st bx),(.st dE),(.v y3)]
def CF:List (Nat×OSh):=[(0,(.row 97 y3))]
def k4:List (Nat×OSh):=[(0,(.boxT dE)),(1,(.boxT ej)),(2,(.boxT ej))]
def k7:List (Nat×OSh):=[(0,(.boxT bx)),(1,(.boxT dE))]
noncomputable def P8 (F87:OK):List FEnt:=[⟨87,CE,F87⟩]
theorem U7:aq Try.prog (P8 P87):=dK ai U6
noncomputable def P9:=cN Try.prog [] Try.f78 .n
theorem Qa:L.Fn Try.prog 78 9 [] (erase P9):=oA Try.func78
def CG:FSh:=⟨⟨[(.slc 0),(.fn 79 [])],k9⟩,[dB],1,⟨⟨Bi,k9⟩,[dB],[0],1⟩,false⟩
noncomputable def Qb (F87:OK)(a0:List cH):Option cA:=
(F87 ((↑a0.length:Int),a0)).bind fun r1=>(
some r1)
theorem g78 (F87:OK)(a0:List cH):aX (P8 F87) CG [] P9 a0=Qb F87 a0:=by kernel_rfl
noncomputable def SY:=Qb P87
noncomputable def P78:Bo:=fun x=>SY x
theorem U8:aX (P8 P87) CG [] P9=P78:=funext fun x=>(g78 P87 x)
theorem U9:DC Try.prog 78 CG P78:=dD U8 U7 Qa
noncomputable def CH:List FEnt:=[]
theorem Va:aq Try.prog CH:=ai
def ER:LSh:=⟨[0,3,4,5],⟨[(.slc 0),(.v y3),(.slo 0 6),(.v y3)],k9⟩,z1,1,[0]⟩
def ES:List XSh:=[⟨(.exit 2),[0,3],⟨⟨[(.slc 0),(.v y3)],k9⟩,[y3,dB],[0],1⟩⟩]
def ET:LSh:=⟨[0,3],⟨[(.slc 0),(.v y3)],k9⟩,[y3,dB],1,[]⟩
def EU:List XSh:=[⟨.ret,[2],⟨⟨Eb,k9⟩,[dB],[],1⟩⟩,⟨(.exit 0),[0],⟨⟨Eb,k9⟩,[dB],[],1⟩⟩]
noncomputable def K2:=cN Try.prog [(7,{ch:=[0,0,1,0] }),(14,{ch:=[0,0,1,0] }),(15,{ch:=[0,0,2,0] })] Try.f80 (.s .n (.s .n (.s (.s .n (.b (.l ET EU (.s .n (.s (.b (.s .n (.s (.s .n (.s (.s .n (.b (.l ER ES .n))) .n)) .n))) .n))))) .n)))
noncomputable def EV (T:List FEnt):=aI (xs:=ES) ER (bG T (sb [1,1,0,1,2,2,1,0,2,1,0,1,0,1,2,2] K2))
noncomputable def l80_1 (T:List FEnt):=af (EV T)
noncomputable def uN (a0 a1 a2 a3:Int)(a4:List cH):Option (R9⊕Dl):=
cond (decide (a3 < (↑a2.toNat:Int))) (
an (aZ a3 a2.toNat) (
an (ah .i64 (a3-1)) (
an (aZ (a3-1) a2.toNat) (
cond (!(((((decide ((qL a4 (a1.toNat+Int.toNat a3)).1=(qL a4 (a1.toNat+Int.toNat (a3-1))).1)&&decide ((qL a4 (a1.toNat+Int.toNat a3)).2.1=(qL a4 (a1.toNat+Int.toNat (a3-1))).2.1))&&decide ((qL a4 (a1.toNat+Int.toNat a3)).2.2.1=(qL a4 (a1.toNat+Int.toNat (a3-1))).2.2.1))&&decide ((qL a4 (a1.toNat+Int.toNat a3)).2.2.2.1=(qL a4 (a1.toNat+Int.toNat (a3-1))).2.2.2.1))&&decide ((qL a4 (a1.toNat+Int.toNat a3)).2.2.2.2.1=(qL a4 (a1.toNat+Int.toNat (a3-1))).2.2.2.2.1))&&decide ((qL a4 (a1.toNat+Int.toNat a3)).2.2.2.2.2=(qL a4 (a1.toNat+Int.toNat (a3-1))).2.2.2.2.2))) (
an (aZ a3 a2.toNat) (
an (aZ a0 a4.length) (
an (ah .i64 (a0+1)) (
an (ah .i64 (a3+1)) (
some (Sum.inl ((a0+1),(↑a1.toNat:Int),(↑a2.toNat:Int),(a3+1),(List.set a4 a0.toNat (qL a4 (a1.toNat+Int.toNat a3)))))))))) (
an (ah .i64 (a3+1)) (
some (Sum.inl (a0,(↑a1.toNat:Int),(↑a2.toNat:Int),(a3+1),a4)))))))) (
some (Sum.inr (a0,a4)))
theorem K3:EV CH=u5 uN:=funext fun _=>by kernel_rfl
noncomputable def zp:=uN
noncomputable def zq:MF:=af (u5 zp)
theorem K4:l80_1 CH=zq:=congrArg af K3
noncomputable def EW (T:List FEnt):=aI (xs:=EU) ET (bG T (sb [1,1,0,1,2,2] K2))
noncomputable def l80_0 (T:List FEnt):=af (EW T)
noncomputable def uO (l80_1:MF)(a0:Int)(a1:List cH):Option (Dl⊕MD):=
cond (decide (a0 < (↑a1.length:Int))) (
an (aZ a0 a1.length) (
an (ah .i64 (a0-1)) (
an (aZ (a0-1) a1.length) (
cond (((((decide ((ix a1 a0).1=(ix a1 (a0-1)).1)&&decide ((ix a1 a0).2.1=(ix a1 (a0-1)).2.1))&&decide ((ix a1 a0).2.2.1=(ix a1 (a0-1)).2.2.1))&&decide ((ix a1 a0).2.2.2.1=(ix a1 (a0-1)).2.2.2.1))&&decide ((ix a1 a0).2.2.2.2.1=(ix a1 (a0-1)).2.2.2.2.1))&&decide ((ix a1 a0).2.2.2.2.2=(ix a1 (a0-1)).2.2.2.2.2)) (
an (decide (0≤a0)) (
an (decide (a0≤(↑a1.length:Int))) (
an (decide ((↑a1.length:Int)≤(↑a1.length:Int))) (
an (decide (0 < List.length a1)) (
(l80_1 (a0,(↑a0.toNat:Int),(↑(Int.toNat ((↑a1.length:Int)-a0)):Int),1,a1)).bind fun y1=>(
an (decide (0≤y1.1)) (
an (decide (y1.1≤(↑y1.2.length:Int))) (
an (decide ((↑y1.2.length:Int)≤(↑y1.2.length:Int))) (
an (decide (0 < List.length y1.2)) (
an (decide (0≤y1.1)) (
an (decide (y1.1≤(↑(List.length (nS y1.2 y1.1.toNat (Int.toNat ((↑y1.2.length:Int)-y1.1)) (0,(0,(0,(0,(0,0))))))):Int))) (
an (decide (0 < List.length (nS y1.2 y1.1.toNat (Int.toNat ((↑y1.2.length:Int)-y1.1)) (0,(0,(0,(0,(0,0)))))))) (
some (Sum.inr (Sum.inl (List.take y1.1.toNat (nS y1.2 y1.1.toNat (Int.toNat ((↑y1.2.length:Int)-y1.1)) (0,(0,(0,(0,(0,0)))))))))))))))))))))) (
an (ah .i64 (a0+1)) (
some (Sum.inl ((a0+1),a1)))))))) (
some (Sum.inr (Sum.inr a1)))
theorem g80_0:EW CH=u2 (uO (l80_1 CH)):=funext fun _=>by kernel_rfl
noncomputable def uP:=uO zq
noncomputable def uQ:MG:=af (u2 uP)
theorem v80_0:l80_0 CH=uQ:=congrArg af (g80_0.trans (by rw[K4] <;> rfl))
theorem Qc:L.Fn Try.prog 80 61 [(.t 2)] (erase K2):=oA Try.func80
def CI:FSh:=⟨⟨Eb,k9⟩,[dB],1,⟨⟨Eb,k9⟩,[dB],[],1⟩,false⟩
noncomputable def K5 (l80_0:MG)(a0:List cH):Option cA:=
cond (decide ((↑a0.length:Int) < 2)) (
some a0) (
(l80_0 (1,a0)).bind (fun y2=>Sum.elim (fun y3=>(
some y3)) (fun y4=>(
some y4)) y2))
theorem g80 (a0:List cH):aX CH CI [(.t 2)] K2 a0=K5 (l80_0 CH) a0:=by kernel_rfl
noncomputable def Oc:=K5 uQ
noncomputable def P80:Bo:=fun x=>Oc x
theorem Vb:aX CH CI [(.t 2)] K2=P80:=funext fun x=>(g80 x).trans (by rw[v80_0] <;> rfl)
theorem Vc:DC Try.prog 80 CI P80:=dD Vb Va Qc
noncomputable def JF (F77:Bo)(F78:Bo)(F80:Bo):List FEnt:=[⟨77,Cz,F77⟩,⟨78,CG,F78⟩,⟨80,CI,F80⟩]
theorem Vd:aq Try.prog (JF P77 P78 P80):=dK (dK (dK ai Vc) U9) UQ
def EX:LSh:=⟨[4,5],⟨[(.slc 0),(.v y3)],k9⟩,[y3,dB],1,[0]⟩
def EY:List XSh:=[⟨.ret,[2,3],⟨⟨[.emp,(.v .bool)],k9⟩,[.bool,dB],[0],1⟩⟩,⟨(.exit 0),[4],⟨⟨Eb,k9⟩,[dB],[0],1⟩⟩]
noncomputable def Od:=cN Try.prog [] Try.f56 (.s .n (.s .n (.s .n (.s (.s .n (.b (.l EX EY .n))) .n))))
noncomputable def EZ (T:List FEnt):=aI (xs:=EY) EX (bG T (sb [1,1,1,0,1,2,2] Od))
noncomputable def l56_0 (T:List FEnt):=af (EZ T)
noncomputable def uR (F77 F78 F80:Bo)(a0:Int)(a1:List cH):Option (Dl⊕MJ):=
cond (decide (a0 < (↑a1.length:Int))) (
an (aZ a0 a1.length) (
an (ah .i64 (a0-1)) (
an (aZ (a0-1) a1.length) (
cond (decide ((ix a1 a0).1=(ix a1 (a0-1)).1)) (
an (aZ a0 a1.length) (
an (ah .i64 (a0-1)) (
an (aZ (a0-1) a1.length) (
cond (!(((((decide ((ix a1 a0).1=(ix a1 (a0-1)).1)&&decide ((ix a1 a0).2.1=(ix a1 (a0-1)).2.1))&&decide ((ix a1 a0).2.2.1=(ix a1 (a0-1)).2.2.1))&&decide ((ix a1 a0).2.2.2.1=(ix a1 (a0-1)).2.2.2.1))&&decide ((ix a1 a0).2.2.2.2.1=(ix a1 (a0-1)).2.2.2.2.1))&&decide ((ix a1 a0).2.2.2.2.2=(ix a1 (a0-1)).2.2.2.2.2))) (
some (Sum.inr (Sum.inl (false,a1)))) (
an (ah .i64 (a0+1)) (
some (Sum.inl ((a0+1),a1)))))))) (
an (ah .i64 (a0+1)) (
some (Sum.inl ((a0+1),a1)))))))) (
some (Sum.inr (Sum.inr a1)))
theorem K6 (F77 F78 F80:Bo):EZ (JF F77 F78 F80)=u2 (uR F77 F78 F80):=funext fun _=>by kernel_rfl
noncomputable def zt:=uR P77 P78 P80
noncomputable def zu:ML:=af (u2 zt)
theorem v56_0:l56_0 (JF P77 P78 P80)=zu:=congrArg af (K6 P77 P78 P80)
theorem Qd:L.Fn Try.prog 56 42 [(.t 2),(.t 3)] (erase Od):=oA Try.func56
def zw:FSh:=⟨⟨[(.v dB)],[]⟩,[dB],0,⟨⟨[(.tup [(.slc 0),(.v .bool)])],k9⟩,[.bool,dB],[],1⟩,true⟩
noncomputable def Qe (F77 F78 F80:Bo)(l56_0:ML)(a0:List cH):Option ID:=
(F77 a0).bind fun r1=>(
(F78 r1).bind fun r2=>(
(l56_0 (1,r2)).bind (fun y3=>Sum.elim (fun y4=>(
some (y4.1,([]:List cH)))) (fun y5=>(
(F80 y5).bind fun r6=>(
some (true,r6)))) y3)))
theorem g56 (F77 F78 F80:Bo)(a0:List cH):aX (JF F77 F78 F80) zw [(.t 2),(.t 3)] Od a0=Qe F77 F78 F80 (l56_0 (JF F77 F78 F80)) a0:=by kernel_rfl
noncomputable def SZ:=Qe P77 P78 P80 zu
noncomputable def P56:nt:=fun x=>SZ x
theorem Ve:aX (JF P77 P78 P80) zw [(.t 2),(.t 3)] Od=P56:=funext fun x=>(g56 P77 P78 P80 x).trans (by rw[v56_0] <;> rfl)
theorem S4:DC Try.prog 56 zw P56:=dD Ve Vd Qd
noncomputable def Qf (F47:fh)(F40:cS)(F46:lF):List FEnt:=[⟨47,rl,F47⟩,⟨40,nl,F40⟩,⟨46,wP,F46⟩]
theorem Vf:aq Try.prog (Qf P47 P40 P46):=dK (dK (dK ai Px) Ee) Ku
noncomputable def Qg:=cN Try.prog [] Try.f75 .n
theorem Qh:L.Fn Try.prog 75 44 [(.t 4)] (erase Qg):=oA Try.func75
def CJ:FSh:=⟨⟨[(.st bx),(.st ej)],[]⟩,[bx,ej],0,⟨⟨jp,[]⟩,[.bool],[],0⟩,true⟩
noncomputable def Qi (F47:fh)(F40:cS)(F46:lF)(a0:bg)(a1:cH):Option Bool:=
(F47 (a0,a1.2.2.1)).bind fun r1=>(
cond r1.2 (
(F40 (a1.1,0,99)).bind fun r2=>(
cond r2 (
(F40 (a1.2.1,1,2)).bind fun r3=>(
cond r3 (
(F40 (a1.2.2.2.1,r1.1.2.1,r1.1.2.2.1)).bind fun r4=>(
cond r4 (
(F40 (a1.2.2.2.2.1,0,9)).bind fun r5=>(
cond r5 (
(F46 a1.2.2.2.2.2).bind fun r6=>(
some r6)) (
some false))) (
some false))) (
some false))) (
some false))) (
some false))
theorem Vg (F47:fh)(F40:cS)(F46:lF):aX (Qf F47 F40 F46) CJ [(.t 4)] Qg=u2 (Qi F47 F40 F46):=funext fun _=>by kernel_rfl
noncomputable def S6:=Qi P47 P40 P46
noncomputable def E2:Dp:=u2 S6
theorem Vh:aX (Qf P47 P40 P46) CJ [(.t 4)] Qg=E2:=Vg P47 P40 P46
theorem Vi:DC Try.prog 75 CJ E2:=dD Vh Vf Qh
noncomputable def Qj (F75:Dp):List FEnt:=[⟨75,CJ,F75⟩]
theorem Vj:aq Try.prog (Qj E2):=dK ai Vi
noncomputable def Qk:=cN Try.prog [] Try.f74 .n
theorem Ql:L.Fn Try.prog 74 8 [(.t 3)] (erase Qk):=oA Try.func74
def CK:FSh:=⟨⟨[(.st ej),(.elm bx)],[]⟩,[ej,bx],0,⟨⟨jp,[]⟩,[.bool],[],0⟩,true⟩
noncomputable def Qm (F75:Dp)(a0:cH)(a1:bg):Option Bool:=
(F75 (a1,a0)).bind fun r1=>(
some (!r1))
theorem Vk (F75:Dp):aX (Qj F75) CK [(.t 3)] Qk=u2 (Qm F75):=funext fun _=>by kernel_rfl
noncomputable def S7:=Qm E2
noncomputable def Bn:wY:=u2 S7
theorem Vl:aX (Qj E2) CK [(.t 3)] Qk=Bn:=Vk E2
theorem Vm:DC Try.prog 74 CK Bn:=dD Vl Vj Ql
noncomputable def JG (F74:wY):List FEnt:=[⟨74,CK,F74⟩]
theorem Vn:aq Try.prog (JG Bn):=dK ai Vm
def E3:LSh:=⟨[0,1,7,8],⟨[(.v dB),(.fn 74 [(.elm bx)]),(.v y3),(.v y3)],[]⟩,[dB,bx,y3,y3],0,[]⟩
noncomputable def Oe:=cN Try.prog [] Try.f86 (.s .n (.s (.s .n (.b (.l E3 oX .n))) .n))
noncomputable def E4 (T:List FEnt):=aI (xs:=oX) E3 (bG T (sb [1,0,1,2,2] Oe))
noncomputable def l86_0 (T:List FEnt):=af (E4 T)
noncomputable def uS (F74:wY)(a0:List cH)(a1:bg)(a2 a3:Int):Option ((cA×bg×Int×Int)⊕JV):=
cond (decide (a3 < a2)) (
an (aZ a3 a0.length) (
(F74 ((ix a0 a3),a1)).bind fun r1=>(
cond r1 (
some (Sum.inr (Sum.inl a3))) (
an (ah .i64 (a3+1)) (
some (Sum.inl (a0,a1,a2,(a3+1)))))))) (
some (Sum.inr (Sum.inr ())))
theorem K7 (F74:wY):E4 (JG F74)=u4 (uS F74):=funext fun _=>by kernel_rfl
noncomputable def uT:=uS Bn
noncomputable def uU:MO:=af (u4 uT)
theorem K8:l86_0 (JG Bn)=uU:=congrArg af (K7 Bn)
theorem Qn:L.Fn Try.prog 86 19 [(.t 4)] (erase Oe):=oA Try.func86
def CL:FSh:=⟨⟨[(.v dB),(.fn 74 [(.elm bx)])],[]⟩,[dB,bx],0,⟨⟨lE,[]⟩,[y3],[],0⟩,true⟩
noncomputable def Of (F74:wY)(l86_0:MO)(a0:List cH)(a1:bg):Option Int:=
(l86_0 (a0,a1,(↑a0.length:Int),0)).bind (fun y2=>Sum.elim (fun y3=>(
some y3)) (fun y4=>(
some (-1))) y2)
theorem Vo (F74:wY):aX (JG F74) CL [(.t 4)] Oe=u2 (Of F74 (l86_0 (JG F74))):=funext fun _=>by kernel_rfl
noncomputable def Qo:=Of Bn uU
noncomputable def E5:Dn:=u2 Qo
theorem Vp:aX (JG Bn) CL [(.t 4)] Oe=E5:=(Vo Bn).trans (by rw[K8] <;> rfl)
theorem Vq:DC Try.prog 86 CL E5:=dD Vp Vn Qn
noncomputable def Qp (F86:Dn):List FEnt:=[⟨86,CL,F86⟩]
theorem Vr:aq Try.prog (Qp E5):=dK ai Vq
noncomputable def Qq:=cN Try.prog [] Try.f73 .n
theorem Qr:L.Fn Try.prog 73 9 [(.t 4)] (erase Qq):=oA Try.func73
def CM:FSh:=⟨⟨[(.v dB),(.fn 74 [(.elm bx)])],[]⟩,[dB,bx],0,⟨⟨jp,[]⟩,[.bool],[],0⟩,true⟩
noncomputable def Og (F86:Dn)(a0:List cH)(a1:bg):Option Bool:=
(F86 (a0,a1)).bind fun r1=>(
some (decide (0≤r1)))
theorem Vs (F86:Dn):aX (Qp F86) CM [(.t 4)] Qq=u2 (Og F86):=funext fun _=>by kernel_rfl
noncomputable def Qs:=Og E5
noncomputable def CN:Do:=u2 Qs
theorem Vt:aX (Qp E5) CM [(.t 4)] Qq=CN:=Vs E5
theorem Vu:DC Try.prog 73 CM CN:=dD Vt Vr Qr
noncomputable def Qt (F56:nt)(F73:Do):List FEnt:=[⟨56,zw,F56⟩,⟨73,CM,F73⟩]
theorem Vv:aq Try.prog (Qt P56 CN):=dK (dK ai Vu) S4
noncomputable def Qu:=cN Try.prog [] Try.f51 .n
theorem Qv:L.Fn Try.prog 51 24 [(.t 4)] (erase Qu):=oA Try.func51
def CO:FSh:=⟨⟨[(.st bx),(.v dB)],[]⟩,[bx,dB],0,⟨⟨jp,[]⟩,[.bool],[],0⟩,true⟩
noncomputable def Qw (F56:nt)(F73:Do)(a0:bg)(a1:List cH):Option Bool:=
(F56 a1).bind fun r1=>(
cond r1.1 (
cond (decide ((↑a1.length:Int)≤40)) (
(F73 (a1,a0)).bind fun r2=>(
some (!r2))) (
some false)) (
some false))
theorem Vw (F56:nt)(F73:Do):aX (Qt F56 F73) CO [(.t 4)] Qu=u2 (Qw F56 F73):=funext fun _=>by kernel_rfl
noncomputable def S8:=Qw P56 CN
noncomputable def P51:nX:=u2 S8
theorem Vx:aX (Qt P56 CN) CO [(.t 4)] Qu=P51:=Vw P56 CN
theorem Vy:DC Try.prog 51 CO P51:=dD Vx Vv Qv
noncomputable def JH (F40:cS)(F47:fh)(F50:vO)(F51:nX):List FEnt:=[⟨40,nl,F40⟩,⟨47,rl,F47⟩,⟨50,Cy,F50⟩,⟨51,CO,F51⟩]
theorem Vz:aq Try.prog (JH P40 P47 P50 P51):=dK (dK (dK (dK ai Vy) UN) Ku) Ee
def E6:LSh:=⟨[1,18,19,20],⟨[(.ptr 0 0),(.v eP),(.v y3),(.v y3)],rk⟩,[eP,y3,y3,bx],1,[0]⟩
def E7:List XSh:=[⟨.ret,[2],⟨⟨lE,rk⟩,[y3,bx],[0],1⟩⟩,⟨(.exit 0),[1],⟨⟨Jz,rk⟩,[bx],[0],1⟩⟩]
noncomputable def Oh:=cN Try.prog [(6,{ch:=[0,1,0,0,0,0,1,0,0,0,0,0,0,0],rs:=[1,4] })] Try.f27 (.s .n (.s .n (.s (.s .n (.b (.l E6 E7 .n))) .n)))
noncomputable def E8 (T:List FEnt):=aI (xs:=E7) E6 (bG T (sb [1,1,0,1,2,2] Oh))
noncomputable def l27_0 (T:List FEnt):=af (E8 T)
noncomputable def uV (F40:cS)(F47:fh)(F50:vO)(F51:nX)(a0:List Y7)(a1 a2:Int)(a3:bg):Option ((dc×Int×Int×Int×dc×cA)⊕MQ):=
cond (decide (a2 < a1)) (
an (aZ a2 a0.length) (
an (decide ((0:Int)≤0)) (
an (decide (0≤a2)) (
an (decide (a2≤(↑a3.2.1.length:Int))) (
(F47 ((0,((Ib a3.2.1 0 a2),([]:List cH))),(ix a0 a2).1)).bind fun r2=>(
cond r2.2 (
some (Sum.inr (Sum.inl (80,a3)))) (
(F50 (ix a0 a2)).bind fun r3=>(
cond (!r3) (
some (Sum.inr (Sum.inl (80,a3)))) (
an (ah .i64 (a2+1)) (
some (Sum.inl (a0,a1,(a2+1),a3)))))))))))) (
some (Sum.inr (Sum.inr a3)))
theorem K9 (F40:cS)(F47:fh)(F50:vO)(F51:nX):E8 (JH F40 F47 F50 F51)=u4 (uV F40 F47 F50 F51):=funext fun _=>by kernel_rfl
noncomputable def zx:=uV P40 P47 P50 P51
noncomputable def zy:MS:=af (u4 zx)
theorem v27_0:l27_0 (JH P40 P47 P50 P51)=zy:=congrArg af (K9 P40 P47 P50 P51)
theorem Qx:L.Fn Try.prog 27 48 [(.t 2)] (erase Oh):=oA Try.func27
def zz:FSh:=⟨⟨[(.st bx)],[]⟩,[bx],0,⟨⟨lE,[]⟩,[y3],[],0⟩,true⟩
noncomputable def Qy (F40:cS)(F47:fh)(F50:vO)(F51:nX)(l27_0:MS)(a0:bg):Option Int:=
(F40 (a0.1,0,500)).bind fun r1=>(
cond (!r1) (
some 80) (
cond (decide (6 < (↑a0.2.1.length:Int))) (
some 80) (
(l27_0 (a0.2.1,(↑a0.2.1.length:Int),0,a0)).bind (fun y4=>Sum.elim (fun y5=>(
some y5.1)) (fun y6=>(
(F51 (y6,y6.2.2)).bind fun r7=>(
cond (!r7) (
some 81) (
some 0)))) y4))))
theorem g27 (F40:cS)(F47:fh)(F50:vO)(F51:nX)(a0:bg):aX (JH F40 F47 F50 F51) zz [(.t 2)] Oh a0=Qy F40 F47 F50 F51 (l27_0 (JH F40 F47 F50 F51)) a0:=by kernel_rfl
noncomputable def S9:=Qy P40 P47 P50 P51 zy
noncomputable def nr:dG:=fun x=>S9 x
theorem VA:aX (JH P40 P47 P50 P51) zz [(.t 2)] Oh=nr:=funext fun x=>(g27 P40 P47 P50 P51 x).trans (by rw[v27_0] <;> rfl)
theorem Ta:DC Try.prog 27 zz nr:=dD VA Vz Qx
noncomputable def Qz (F27:dG)(F47:fh):List FEnt:=[⟨27,zz,F27⟩,⟨47,rl,F47⟩]
theorem VB:aq Try.prog (Qz nr P47):=dK (dK ai Ku) Ta
noncomputable def QA:=cN Try.prog [] Try.f39 .n
theorem QB:L.Fn Try.prog 39 25 [(.cell 4 true 9),(.t 5)] (erase QA):=oA Try.func39
def zA:FSh:=⟨⟨[(.st bx),(.v y3)],[]⟩,[bx,y3],0,⟨⟨[(.tup [(.st dE),(.v y3)])],[]⟩,[dE,y3],[],0⟩,false⟩
noncomputable def QC (F27:dG)(F47:fh)(a0:bg)(a1:Int):Option MK:=
(F27 a0).bind fun r1=>(
cond (!decide (r1=0)) (
some ((0,(0,(0,(([]:List Int),(([]:List Y2),(0,(0,(0,0)))))))),r1)) (
(F47 (a0,a1)).bind fun r2=>(
cond (!r2.2) (
some ((0,(0,(0,(([]:List Int),(([]:List Y2),(0,(0,(0,0)))))))),1)) (
some (r2.1,0)))))
theorem VC (F27:dG)(F47:fh):aX (Qz F27 F47) zA [(.cell 4 true 9),(.t 5)] QA=u2 (QC F27 F47):=funext fun _=>by kernel_rfl
noncomputable def Tb:=QC nr P47
noncomputable def xl:tp:=u2 Tb
theorem VD:aX (Qz nr P47) zA [(.cell 4 true 9),(.t 5)] QA=xl:=VC nr P47
theorem Tc:DC Try.prog 39 zA xl:=dD VD VB QB
noncomputable def CP (F56:nt):List FEnt:=[⟨56,zw,F56⟩]
theorem VE:aq Try.prog (CP P56):=dK ai S4
def E9:LSh:=⟨[1,2,7,8,23,24,25],⟨[(.v y3),(.v y3),(.mp 0),(.v (.opt ej)),(.slc 1),(.v y3),(.v y3)],[(0,(.imap 0 true ej)),(1,(.row 45 ej))]⟩,[y3,y3,(.opt ej),y3,y3,MV,dB],2,[0,1]⟩
def Fa:List XSh:=[⟨(.exit 0),[7,8],⟨⟨[(.mp 0),(.v (.opt ej))],[(0,(.imap 0 true ej)),(1,(.row 45 ej))]⟩,[(.opt ej),MV,dB],[0,1],2⟩⟩]
def Fb:LSh:=⟨[13],⟨lE,[]⟩,[y3],0,[]⟩
noncomputable def La:=cN Try.prog [] Try.f42 (.s .n (.s (.r [.a 0 true ej]) (.s .n (.s .n (.s (.s .n (.b (.l E9 Fa (.s .n (.s .n (.s .n (.r [.f 2 8 []]))))))) (.s .n (.s .n (.s (.m [] Fb .n) .n))))))))
noncomputable def Lb:DCode:=sb [1,1,1,1,1,1,1,0,2] La
noncomputable def Fc (T:List FEnt):=aI (xs:=Fa) E9 (bG T (sb [1,1,1,1,0,1,2,2] La))
noncomputable def l42_0 (T:List FEnt):=af (Fc T)
noncomputable def uW (F56:nt)(a0 a1:Int)(a2:Option cH)(a3 a4:Int)(a5:List IC)(a6:List cH):Option ((Int×Int×IB×Int×Int×IE×cA)⊕MH):=
cond (decide (a4 < a3)) (
an (aZ a4 a6.length) (
cond (!decide ((ix a6 a4).2.2.1=a0)) (
an (ah .i64 (a4+1)) (
some (Sum.inl (a0,a1,a2,a3,(a4+1),a5,a6)))) (
cond (!decide ((ix a6 a4).2.2.2.1=a1)) (
an (ah .i64 (a4+1)) (
some (Sum.inl (a0,a1,a2,a3,(a4+1),a5,a6)))) (
cond (decide ((ix a6 a4).2.1=2)) (
an (ah .i64 (a4+1)) (
some (Sum.inl (a0,a1,(some (ix a6 a4):Option cH),a3,(a4+1),a5,a6)))) (
an (ah .i64 (a4+1)) (
some (Sum.inl (a0,a1,a2,a3,(a4+1),(cK a5 [(ix a6 a4).2.2.2.2.1] (ix a6 a4)),a6)))))))) (
some (Sum.inr (a2,a5,a6)))
theorem Lc (F56:nt):Fc (CP F56)=u7 (uW F56):=funext fun _=>by kernel_rfl
noncomputable def zB:=uW P56
noncomputable def L42_0:MM:=af (u7 zB)
theorem Ld:l42_0 (CP P56)=L42_0:=congrArg af (Lc P56)
noncomputable def Fd (T:List FEnt):=lR Fb 56 59 0 true ej (fun K=>bG T Lb (gC 4 K))
noncomputable def l42_1 (T:List FEnt)(es:List J0)(x:Int):Option Int:=rngF es (Fd T) x
noncomputable def Fe (F56:nt)(a0:Int)(e:J0):Option Int:=
an (ah .i64 (a0+e.2.2.2.2.2.2)) (
some (a0+e.2.2.2.2.2.2))
theorem g42_1 (F56:nt)(a0:Int)(e:J0):Fd (CP F56) a0 e=Fe F56 a0 e:=by kernel_rfl
noncomputable def zD (a0:Int)(e:J0):Option Int:=Fe P56 a0 e
noncomputable def rx (es:List J0)(x:Int):Option Int:=rngF es (fun x e=>zD x e) x
theorem Lf:l42_1 (CP P56)=rx:=funext fun es=>funext fun x=>congrArg (fun s=>rngF es s x) (funext fun x=>funext fun e=>(g42_1 P56 x e))
theorem QD:L.Fn Try.prog 42 66 [(.t 6)] (erase La):=oA Try.func42
def zE:FSh:=⟨⟨Ob,[]⟩,[bx,y3,y3],0,⟨⟨lE,[]⟩,[y3],[],0⟩,true⟩
noncomputable def QE (F56:nt)(l42_0:MM)(l42_1:List J0→Int→Option Int)(a0:bg)(a1 a2:Int):Option Int:=
(F56 a0.2.2).bind fun r1=>(
(l42_0 (a1,a2,(none:Option cH),(↑r1.2.length:Int),0,([]:List IC),r1.2)).bind fun y2=>(
cond (Option.isSome y2.1) (
an (Option.isSome y2.1) (
some ((sc y2.1 (0,(0,(0,(0,(0,0)))))).2.2.2.2.2))) (
(l42_1 y2.2.1 0).bind fun y3=>(
some y3))))
theorem VF (F56:nt):aX (CP F56) zE [(.t 6)] La=u3 (QE F56 (l42_0 (CP F56)) (l42_1 (CP F56))):=funext fun _=>by kernel_rfl
noncomputable def Td:=QE P56 L42_0 rx
noncomputable def th:kW:=u3 Td
theorem VG:aX (CP P56) zE [(.t 6)] La=th:=(VF P56).trans (by rw[Ld,Lf] <;> rfl)
theorem Te:DC Try.prog 42 zE th:=dD VG VE QD
noncomputable def JI:List FEnt:=[]
theorem VH:aq Try.prog JI:=ai
def Ff:LSh:=⟨[0,3,4],⟨[(.slo 0 1),(.v y3),(.v y3)],CF⟩,[y3,y3,y3,y3,y5],1,[0]⟩
def Fg:List XSh:=[⟨(.exit 0),[3],⟨⟨lE,CF⟩,[y3,y5],[0],1⟩⟩]
noncomputable def Oi:=cN Try.prog [] Try.f65 (.s .n (.s .n (.s .n (.s (.s .n (.b (.l Ff Fg .n))) .n))))
noncomputable def Fh (T:List FEnt):=aI (xs:=Fg) Ff (bG T (sb [1,1,1,0,1,2,2] Oi))
noncomputable def l65_0 (T:List FEnt):=af (Fh T)
noncomputable def Fi (a0 a1 a2 a3:Int)(a4:List Int):Option ((Int×Int×Int×Int×Y1)⊕tn):=
cond (decide (a3 < (↑a1.toNat:Int))) (
an (aZ a3 a1.toNat) (
an (ah .i64 (a3+1)) (
some (Sum.inl ((↑a0.toNat:Int),(↑a1.toNat:Int),(max a2 (qL a4 (a0.toNat+Int.toNat a3))),(a3+1),a4))))) (
some (Sum.inr (a2,a4)))
theorem Lg:Fh JI=u5 Fi:=funext fun _=>by kernel_rfl
noncomputable def uX:=Fi
noncomputable def uY:MC:=af (u5 uX)
theorem Lh:l65_0 JI=uY:=congrArg af Lg
theorem QF:L.Fn Try.prog 65 25 [(.t 2)] (erase Oi):=oA Try.func65
def CQ:FSh:=⟨⟨[(.slo 0 1)],CF⟩,[y3,y3,y5],1,⟨⟨lE,CF⟩,[y3,y5],[0],1⟩,false⟩
noncomputable def Tf (l65_0:MC)(a0 a1:Int)(a2:List Int):Option tn:=
cond (decide ((↑a1.toNat:Int) < 1)) (
none) (
an (aZ 0 a1.toNat) (
(l65_0 ((↑a0.toNat:Int),(↑a1.toNat:Int),(qL a2 (a0.toNat+Int.toNat 0)),1,a2)).bind fun y1=>(
some (y1.1,y1.2))))
theorem g65:aX JI CQ [(.t 2)] Oi=u3 (Tf (l65_0 JI)):=funext fun _=>by kernel_rfl
noncomputable def VI:=Tf uY
noncomputable def zF:wW:=u3 VI
theorem VJ:aX JI CQ [(.t 2)] Oi=zF:=g65.trans (by rw[Lh] <;> rfl)
theorem VK:DC Try.prog 65 CQ zF:=dD VJ VH QF
noncomputable def JJ:List FEnt:=[]
theorem VL:aq Try.prog JJ:=ai
def Fj:LSh:=⟨[0,1,7,8],⟨[(.slo 0 1),(.v y3),(.v y3),(.v y3)],CF⟩,[y3,y3,y3,y3,y3,y5],1,[0]⟩
def Fk:List XSh:=[⟨.ret,[4],⟨⟨lE,CF⟩,[y3,y5],[0],1⟩⟩,⟨(.exit 0),[],⟨⟨[],CF⟩,[y5],[0],1⟩⟩]
noncomputable def Oj:=cN Try.prog [] Try.f66 (.s .n (.s (.s .n (.b (.l Fj Fk .n))) .n))
noncomputable def Fl (T:List FEnt):=aI (xs:=Fk) Fj (bG T (sb [1,0,1,2,2] Oj))
noncomputable def l66_0 (T:List FEnt):=af (Fl T)
noncomputable def zG (a0 a1 a2 a3 a4:Int)(a5:List Int):Option ((Int×Int×Int×Int×Int×Y1)⊕ME):=
cond (decide (a4 < a3)) (
an (aZ a4 a1.toNat) (
cond (decide (a2=(qL a5 (a0.toNat+Int.toNat a4)))) (
some (Sum.inr (Sum.inl (a4,a5)))) (
an (ah .i64 (a4+1)) (
some (Sum.inl ((↑a0.toNat:Int),(↑a1.toNat:Int),a2,a3,(a4+1),a5)))))) (
some (Sum.inr (Sum.inr a5)))
theorem Li:Fl JJ=u6 zG:=funext fun _=>by kernel_rfl
noncomputable def zH:=zG
noncomputable def uZ:MI:=af (u6 zH)
theorem Lj:l66_0 JJ=uZ:=congrArg af Li
theorem QG:L.Fn Try.prog 66 19 [(.t 4)] (erase Oj):=oA Try.func66
def CS:FSh:=⟨⟨[(.slo 0 1),(.v y3)],CF⟩,[y3,y3,y3,y5],1,⟨⟨lE,CF⟩,[y3,y5],[0],1⟩,false⟩
noncomputable def Tg (l66_0:MI)(a0 a1 a2:Int)(a3:List Int):Option tn:=
(l66_0 ((↑a0.toNat:Int),(↑a1.toNat:Int),a2,(↑a1.toNat:Int),0,a3)).bind (fun y1=>Sum.elim (fun y2=>(
some (y2.1,y2.2))) (fun y3=>(
some ((-1),y3))) y1)
theorem g66:aX JJ CS [(.t 4)] Oj=u4 (Tg (l66_0 JJ)):=funext fun _=>by kernel_rfl
noncomputable def VM:=Tg uZ
noncomputable def zI:wX:=u4 VM
theorem VN:aX JJ CS [(.t 4)] Oj=zI:=g66.trans (by rw[Lj] <;> rfl)
theorem VO:DC Try.prog 66 CS zI:=dD VN VL QG
noncomputable def JK (F65:wW)(F66:wX):List FEnt:=[⟨65,CQ,F65⟩,⟨66,CS,F66⟩]
theorem VP:aq Try.prog (JK zF zI):=dK (dK ai VO) VK
def Fm:LSh:=⟨[5,8,9,10,40,41,42],⟨[(.ptr 0 0),(.ptr 1 0),(.ptr 2 0),(.v y3),(.v y8),(.v y3),(.v y3)],k4⟩,[y3,y8,y3,y3,dE,ej,ej],3,[0,1,2]⟩
def u0:List XSh:=[⟨(.exit 0),[5,8,9,10],⟨⟨SX,k4⟩,[y3,dE,ej,ej],[0,1,2],3⟩⟩]
noncomputable def Ok:=cN Try.prog [(11,{ch:=[0,1,0,0,0,0,1],rs:=[9] })] Try.f41 (.s .n (.s .n (.s .n (.s .n (.s (.s .n (.b (.l Fm u0 .n))) (.s (.r [.a 18 false y3]) .n))))))
noncomputable def Fo (T:List FEnt):=aI (xs:=u0) Fm (bG T (sb [1,1,1,1,0,1,2,2] Ok))
noncomputable def l41_0 (T:List FEnt):=af (Fo T)
noncomputable def vc (F65:wW)(F66:wX)(a0:Int)(a1:List Y2)(a2 a3:Int)(a4:Y7)(a5 a6:cH):Option ((Int×Y4×Int×Int×Y7×cH×Int×Int×Int×Int×Int×Int)⊕Dm):=
cond (decide (a3 < a2)) (
an (aZ a3 a1.length) (
cond (decide ((ix a1 a3).1≤a6.2.2.1)) (
an (ah .i64 (a3+1)) (
some (Sum.inl ((max a0 ((ix a1 a3).2)),a1,a2,(a3+1),a4,a5,a6)))) (
an (ah .i64 (a3+1)) (
some (Sum.inl (a0,a1,a2,(a3+1),a4,a5,a6)))))) (
some (Sum.inr (a0,a4,a5,a6)))
theorem Lk (F65:wW)(F66:wX):Fo (JK F65 F66)=u7 (vc F65 F66):=funext fun _=>by kernel_rfl
noncomputable def vd:=vc zF zI
noncomputable def zJ:MN:=af (u7 vd)
theorem Ll:l41_0 (JK zF zI)=zJ:=congrArg af (Lk zF zI)
theorem QH:L.Fn Try.prog 41 93 [(.cell 8 true 6)] (erase Ok):=oA Try.func41
def wS:FSh:=⟨⟨[(.v y3),(.st dE),(.v y3),(.v y3)],[]⟩,[y3,dE,y3,y3],0,⟨⟨[(.st ej)],[]⟩,[ej],[],0⟩,true⟩
noncomputable def QI (F65:wW)(F66:wX)(l41_0:MN)(a0:Int)(a1:Y7)(a2 a3:Int):Option cH:=
an (ah .i64 (a3*a0)) (
an (ah .i64 (Int.tdiv (a3*a0) 1000)) (
an (ah .i64 (a3-(Int.tdiv (a3*a0) 1000))) (
an (ah .i64 (a2-a1.2.1)) (
an (ah .i64 ((↑a1.2.2.2.1.length:Int)-1)) (
an (aZ (min (a2-a1.2.1) ((↑a1.2.2.2.1.length:Int)-1)) a1.2.2.2.1.length) (
(l41_0 ((ix a1.2.2.2.1 (min (a2-a1.2.1) ((↑a1.2.2.2.1.length:Int)-1))),a1.2.2.2.2.1,(↑a1.2.2.2.2.1.length:Int),0,a1,(0,(0,(0,(0,(0,0))))),(a3,((Int.tdiv (a3*a0) 1000),((a3-(Int.tdiv (a3*a0) 1000)),(0,(0,0))))))).bind fun y1=>(
an (ah .i64 (y1.2.2.2.2.2.1*y1.1)) (
an (ah .i64 (Int.tdiv (y1.2.2.2.2.2.1*y1.1) 1000)) (
an (ah .i64 (y1.2.2.2.2.2.1-y1.2.1.2.2.2.2.2.1)) (
an (ah .i64 ((max 0 (y1.2.2.2.2.2.1-y1.2.1.2.2.2.2.2.1))*y1.2.1.2.2.2.2.2.2.1)) (
an (ah .i64 (Int.tdiv ((max 0 (y1.2.2.2.2.2.1-y1.2.1.2.2.2.2.2.1))*y1.2.1.2.2.2.2.2.2.1) 1000)) (
an (Nat.beq (List.length (gB 3 0:List Int)) 3) (
an (dH 3 (List.length ([(Int.tdiv (y1.2.2.2.2.2.1*y1.1) 1000),(Int.tdiv ((max 0 (y1.2.2.2.2.2.1-y1.2.1.2.2.2.2.2.1))*y1.2.1.2.2.2.2.2.2.1) 1000),y1.2.1.2.2.2.2.2.2.2.1]:List Int))) (
(F65 ((↑0:Int),(↑3:Int),([(Int.tdiv (y1.2.2.2.2.2.1*y1.1) 1000),(Int.tdiv ((max 0 (y1.2.2.2.2.2.1-y1.2.1.2.2.2.2.2.1))*y1.2.1.2.2.2.2.2.2.1) 1000),y1.2.1.2.2.2.2.2.2.2.1]:List Int))).bind fun r2=>(
an (dH 3 r2.2.length) (
an (dH 3 r2.2.length) (
(F65 ((↑0:Int),(↑3:Int),r2.2)).bind fun r3=>(
(F66 ((↑0:Int),(↑3:Int),r3.1,r3.2)).bind fun r4=>(
an (ah .i64 (1+r4.1)) (
an (ah .i64 (y1.2.2.2.2.2.1-(min y1.2.2.2.2.2.1 r2.1))) (
some (y1.2.2.2.1,(y1.2.2.2.2.1,(y1.2.2.2.2.2.1,((min y1.2.2.2.2.2.1 r2.1),((y1.2.2.2.2.2.1-(min y1.2.2.2.2.2.1 r2.1)),(1+r4.1)))))))))))))))))))))))))))
theorem VQ (F65:wW)(F66:wX):aX (JK F65 F66) wS [(.cell 8 true 6)] Ok=u4 (QI F65 F66 (l41_0 (JK F65 F66))):=funext fun _=>by kernel_rfl
noncomputable def Th:=QI zF zI zJ
noncomputable def nL:gE:=u4 Th
theorem VR:aX (JK zF zI) wS [(.cell 8 true 6)] Ok=nL:=(VQ zF zI).trans (by rw[Ll] <;> rfl)
theorem QJ:DC Try.prog 41 wS nL:=dD VR VP QH
noncomputable def QK (F39:tp)(F40:cS)(F42:kW)(F41:gE):List FEnt:=[⟨39,zA,F39⟩,⟨40,nl,F40⟩,⟨42,zE,F42⟩,⟨41,wS,F41⟩]
theorem VS:aq Try.prog (QK xl P40 th nL):=dK (dK (dK (dK ai QJ) Te) Ee) Tc
noncomputable def QL:=cN Try.prog [(6,{ch:=[0,1,1,0,0,0,0,0,0,0,0],rs:=[3,8] })] Try.f17 .n
theorem QM:L.Fn Try.prog 17 37 [(.cell 6 true 6),(.t 7)] (erase QL):=oA Try.func17
def zK:FSh:=⟨⟨Ob,[]⟩,[bx,y3,y3],0,⟨⟨[(.tup [(.st ej),(.v y3)])],[]⟩,[ej,y3],[],0⟩,true⟩
noncomputable def QN (F39:tp)(F40:cS)(F42:kW)(F41:gE)(a0:bg)(a1 a2:Int):Option MB:=
(F39 (a0,a1)).bind fun r1=>(
cond (!decide (r1.2=0)) (
some ((0,(0,(0,(0,(0,0))))),r1.2)) (
(F40 (a2,r1.1.2.1,r1.1.2.2.1)).bind fun r2=>(
cond (!r2) (
some ((0,(0,(0,(0,(0,0))))),1)) (
(F42 (a0,a1,a2)).bind fun r3=>(
(F41 (a0.1,r1.1,a2,r3)).bind fun r4=>(
some (r4,0)))))))
theorem VT (F39:tp)(F40:cS)(F42:kW)(F41:gE):aX (QK F39 F40 F42 F41) zK [(.cell 6 true 6),(.t 7)] QL=u3 (QN F39 F40 F42 F41):=funext fun _=>by kernel_rfl
noncomputable def Ti:=QN xl P40 th nL
noncomputable def P17:p9:=u3 Ti
theorem VU:aX (QK xl P40 th nL) zK [(.cell 6 true 6),(.t 7)] QL=P17:=VT xl P40 th nL
theorem Tj:DC Try.prog 17 zK P17:=dD VU VS QM
noncomputable def JL (F42:kW)(F41:gE):List FEnt:=[⟨42,zE,F42⟩,⟨41,wS,F41⟩]
theorem VV:aq Try.prog (JL th nL):=dK (dK ai QJ) Te
def ve:LSh:=⟨[2,3,4,7,8],⟨[(.v y3),(.ptr 0 0),(.ptr 1 0),(.v y3),(.v y3)],k7⟩,[y3,y3,y3,bx,dE],2,[0,1]⟩
def vg:List XSh:=[⟨(.exit 0),[2,4,7],⟨⟨[(.v y3),(.ptr 1 0),(.v y3)],k7⟩,[y3,y3,bx,dE],[0,1],2⟩⟩]
noncomputable def Ol:=cN Try.prog [(5,{ch:=[0,0,1,1,0,0,0,0,0,0,0,0,0,0],rs:=[3,4] })] Try.f45 (.s .n (.s .n (.s (.s .n (.b (.l ve vg .n))) .n)))
noncomputable def Fp (T:List FEnt):=aI (xs:=vg) ve (bG T (sb [1,1,0,1,2,2] Ol))
noncomputable def l45_0 (T:List FEnt):=af (Fp T)
noncomputable def vh (F42:kW)(F41:gE)(a0 a1 a2:Int)(a3:bg)(a4:Y7):Option MU:=
cond (decide (a2≤(min a0 a4.2.2.1))) (
(F42 (a3,a4.1,a2)).bind fun r1=>(
(F41 (a3.1,a4,a2,r1)).bind fun r2=>(
an (ah .i64 (a1+r2.2.2.2.1)) (
an (ah .i64 (a2+1)) (
some (Sum.inl (a0,(a1+r2.2.2.2.1),(a2+1),a3,a4))))))) (
some (Sum.inr (a0,a1,a3,a4)))
theorem Lm (F42:kW)(F41:gE):Fp (JL F42 F41)=u5 (vh F42 F41):=funext fun _=>by kernel_rfl
noncomputable def zL:=vh th nL
noncomputable def zM:Dq:=af (u5 zL)
theorem Ln:l45_0 (JL th nL)=zM:=congrArg af (Lm th nL)
theorem QO:L.Fn Try.prog 45 41 [(.t 6)] (erase Ol):=oA Try.func45
def zN:FSh:=⟨⟨P7,[]⟩,[bx,dE,y3],0,⟨⟨lE,[]⟩,[y3],[],0⟩,true⟩
noncomputable def QP (F42:kW)(F41:gE)(l45_0:Dq)(a0:bg)(a1:Y7)(a2:Int):Option Int:=
(l45_0 (a2,0,a1.2.1,a0,a1)).bind fun y3=>(
cond (decide (y3.2.2.2.2.2.1≤y3.1)) (
some (max y3.2.1 y3.2.2.2.2.2.2.2.2.2.2.2)) (
some y3.2.1))
theorem VW (F42:kW)(F41:gE):aX (JL F42 F41) zN [(.t 6)] Ol=u3 (QP F42 F41 (l45_0 (JL F42 F41))):=funext fun _=>by kernel_rfl
noncomputable def Tk:=QP th nL zM
noncomputable def ns:gr:=u3 Tk
theorem VX:aX (JL th nL) zN [(.t 6)] Ol=ns:=(VW th nL).trans (by rw[Ln] <;> rfl)
theorem Tl:DC Try.prog 45 zN ns:=dD VX VV QO
noncomputable def QQ (F39:tp)(F40:cS)(F45:gr):List FEnt:=[⟨39,zA,F39⟩,⟨40,nl,F40⟩,⟨45,zN,F45⟩]
theorem VY:aq Try.prog (QQ xl P40 ns):=dK (dK (dK ai Tl) Ee) Tc
noncomputable def QR:=cN Try.prog [] Try.f21 .n
theorem QS:L.Fn Try.prog 21 26 [(.t 6),(.t 7)] (erase QR):=oA Try.func21
def zO:FSh:=⟨⟨Ob,[]⟩,[bx,y3,y3],0,⟨⟨[(.tup [(.v y3),(.v y3)])],[]⟩,[y3,y3],[],0⟩,true⟩
noncomputable def QT (F39:tp)(F40:cS)(F45:gr)(a0:bg)(a1 a2:Int):Option Y2:=
(F39 (a0,a1)).bind fun r1=>(
cond (!decide (r1.2=0)) (
some (0,r1.2)) (
(F40 (a2,0,99)).bind fun r2=>(
cond (!r2) (
some (0,1)) (
(F45 (a0,r1.1,a2)).bind fun r3=>(
some (r3,0))))))
theorem VZ (F39:tp)(F40:cS)(F45:gr):aX (QQ F39 F40 F45) zO [(.t 6),(.t 7)] QR=u3 (QT F39 F40 F45):=funext fun _=>by kernel_rfl
noncomputable def Tm:=QT xl P40 ns
noncomputable def P21:kX:=u3 Tm
theorem V0:aX (QQ xl P40 ns) zO [(.t 6),(.t 7)] QR=P21:=VZ xl P40 ns
theorem Tn:DC Try.prog 21 zO P21:=dD V0 VY QS
end Go.Proofs.Ytfknkinmnecoeaa.D
