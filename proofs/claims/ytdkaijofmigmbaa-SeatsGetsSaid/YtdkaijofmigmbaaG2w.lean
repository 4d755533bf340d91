import Derived.Test.YtdkaijofmigmbaaG1w
import Derived.Test.YtdkaijofmigmbaaProg
set_option linter.unusedVariables false
set_option maxRecDepth 100000
namespace Go.Proofs.Ytdkaijofmigmbaa.D
open Go Go.Proofs Go.Proofs.Ytdkaijofmigmbaa.L
def z6:List Ty:=[y7,y7,y7,.bool,.bool,y7,y7,y7,aZ]
def z9:List Ty:=[y7,y7,y7,y7,y19,y7,n5,cG,y19]
def z10:List Ty:=[y7,y7,y19,y7,n5,cG,y19]
def j9:List RSh:=[(.slc 0),(.v y7),(.v y7),(.fn 80 []),(.v y7),(.v y7),(.v y7)]
def MN:List RSh:=[(.slc 0),(.v y7),(.fn 80 []),(.v y7),(.v y7)]
def j7:List RSh:=[(.slc 0),(.v y7),(.v y7),(.v y7),(.fn 80 []),(.v .bool),(.v .bool),(.v y7)]
def j4:List RSh:=[(.slc 0),(.v y7),(.v y7),(.v y7),(.fn 80 []),(.v .bool),(.v .bool),(.v y7),(.v y7),(.v y7)]
def j19:List RSh:=[(.ptr 0 0),(.pel 1),(.v y7),(.v y7),(.v y7)]
def k8:List (Nat×OSh):=[(0,(.box [(.v y19),(.v y7),(.slr 2),(.mpl 3),(.slc 4)])),(1,(.pool cZ)),(2,(.rows 22 3 y7)),(3,(.gone 1)),(4,(.row 3 y7))]
noncomputable def ja (F80:dV):List FEnt:=[⟨80,qC,F80⟩]
theorem t134:ak Try.prog (ja P80):=dK ai RZ
def m8:LSh:=⟨[0,1,2,3,9,10],⟨Vz,dw⟩,Mq,1,[0]⟩
def E7:List XSh:=[⟨(.exit 2),[0,1,2,3,9,10],⟨⟨Vz,dw⟩,Mq,[0],1⟩⟩]
def E8:LSh:=⟨[0,1,2,3,9,10,11],⟨j9,dw⟩,[y7,y7,y7,y7,y7,aZ],1,[0]⟩
def E9:List XSh:=[⟨(.exit 4),[0,1,2,3,9,10],⟨⟨Vz,dw⟩,Mq,[0],1⟩⟩]
def Fa:List XSh:=[⟨.normal,[0,1,2,3,9,10],⟨⟨Vz,dw⟩,Mq,[0],1⟩⟩]
def Fb:LSh:=⟨[0,1,2,3,9,10,12],⟨j9,dw⟩,[y7,y7,y7,y7,y7,aZ],1,[0]⟩
def Fc:List XSh:=[⟨(.exit 6),[0,1,2,3,9,10],⟨⟨Vz,dw⟩,Mq,[0],1⟩⟩]
def Fd:List XSh:=[⟨.ret,[8],⟨⟨fG,dw⟩,[.bool,aZ],[0],1⟩⟩,⟨(.exit 0),[],⟨⟨[],dw⟩,[aZ],[0],1⟩⟩]
noncomputable def vH:=bK Try.prog [] Try.f134 (.s .n (.s .n (.s (.s .n (.b (.l m8 Fd (.s .n (.s (.b (.s (.b (.l m8 E7 .n)) (.s .n (.s .n (.s .n (.s (.o m8 Fa (.s .n (.s (.s .n (.b (.l E8 E9 .n))) .n))) (.s .n (.s (.s .n (.b (.l Fb Fc .n))) .n)))))))) .n))))) .n)))
noncomputable def Fe (T:List FEnt):=aB (xs:=E7) m8 (bc T (sb [1,1,0,1,2,2,1,0,2,0,2,2] vH))
noncomputable def l134_1 (T:List FEnt):=aa (Fe T)
noncomputable def xS (F80:dV)(a0 a1 a2 a3:Int)(a4:List Y1):Option (KW⊕KW):=
cond (decide (a2 < a1)) (
ah (aA a2 a4.length) (
ah (af .i64 (a2-1)) (
ah (aA (a2-1) a4.length) (
(F80 ((ix a4 a2),(ix a4 (a2-1)))).bind fun r1=>(
cond (!(decide (r1 < 0))) (
ah (af .i64 (a2+1)) (
some (Sum.inl (a0,a1,(a2+1),a3,a4)))) (
some (Sum.inr (a0,a1,a2,a3,a4)))))))) (
some (Sum.inr (a0,a1,a2,a3,a4)))
theorem SD (F80:dV):Fe (ja F80)=u5 (xS F80):=funext fun _=>by kernel_rfl
noncomputable def Ff:=xS P80
noncomputable def xT:TX:=aa (u5 Ff)
theorem SE:l134_1 (ja P80)=xT:=congrArg aa (SD P80)
noncomputable def Fg (T:List FEnt):=aB (xs:=E9) E8 (bc T (sb [1,1,0,1,2,2,1,0,2,1,1,1,1,0,2,1,0,1,2,2] vH))
noncomputable def l134_3 (T:List FEnt):=aa (Fg T)
noncomputable def xU (F80:dV)(a0 a1 a2 a3 a4:Int)(a5:List Y1):Option Y156:=
cond (decide (1≤a4)) (
ah (aA a4 a5.length) (
ah (af .i64 (a4-1)) (
ah (aA (a4-1) a5.length) (
(F80 ((ix a5 a4),(ix a5 (a4-1)))).bind fun r3=>(
cond (!(decide (r3 < 0))) (
some (Sum.inr (a0,a1,a2,a3,a5))) (
ah (af .i64 (a4-1)) (
ah (af .i64 (a4-1)) (
ah (aA (a4-1) a5.length) (
ah (aA a4 a5.length) (
ah (aA a4 a5.length) (
ah (aA (a4-1) (List.length (List.set a5 a4.toNat (ix a5 (a4-1))))) (
ah (af .i64 (a4-1)) (
some (Sum.inl (a0,a1,a2,a3,(a4-1),(List.set (List.set a5 a4.toNat (ix a5 (a4-1))) (Int.toNat (a4-1)) (ix a5 a4))))))))))))))))) (
some (Sum.inr (a0,a1,a2,a3,a5)))
theorem SF (F80:dV):Fg (ja F80)=u6 (xU F80):=funext fun _=>by kernel_rfl
noncomputable def Fh:=xU P80
noncomputable def xV:K0:=aa (u6 Fh)
theorem SG:l134_3 (ja P80)=xV:=congrArg aa (SF P80)
noncomputable def l134_2 (T:List FEnt):=fw (xs:=Fa) m8 (bc T (sb [1,1,0,1,2,2,1,0,2,1,1,1,1,0,2] vH))
noncomputable def xW (F80:dV)(l134_3:K0)(a0 a1 a2 a3:Int)(a4:List Y1):Option KW:=
ah (af .i64 (a2-a0)) (
cond (decide (2≤(a2-a0))) (
ah (af .i64 (a2-1)) (
(l134_3 (a0,a1,a2,a3,(a2-1),a4)).bind fun y4=>(
some (y4.1,y4.2.1,y4.2.2.1,y4.2.2.2.1,y4.2.2.2.2)))) (
some (a0,a1,a2,a3,a4)))
theorem SH (F80:dV):l134_2 (ja F80)=u5 (xW F80 (l134_3 (ja F80))):=funext fun _=>by kernel_rfl
noncomputable def Fi:=xW P80 xV
noncomputable def tB:TX:=fun x=>Fi x.1 x.2.1 x.2.2.1 x.2.2.2.1 x.2.2.2.2
theorem SI:l134_2 (ja P80)=tB:=(SH P80).trans (by rw[SG] <;> rfl)
noncomputable def Fj (T:List FEnt):=aB (xs:=Fc) Fb (bc T (sb [1,1,0,1,2,2,1,0,2,1,1,1,1,1,1,0,1,2,2] vH))
noncomputable def l134_4 (T:List FEnt):=aa (Fj T)
noncomputable def xX (F80:dV)(a0 a1 a2 a3 a4:Int)(a5:List Y1):Option Y156:=
cond (decide (a4 < a1)) (
ah (aA a4 a5.length) (
ah (af .i64 (a4-1)) (
ah (aA (a4-1) a5.length) (
(F80 ((ix a5 a4),(ix a5 (a4-1)))).bind fun r6=>(
cond (!(decide (r6 < 0))) (
some (Sum.inr (a0,a1,a2,a3,a5))) (
ah (af .i64 (a4-1)) (
ah (af .i64 (a4-1)) (
ah (aA (a4-1) a5.length) (
ah (aA a4 a5.length) (
ah (aA a4 a5.length) (
ah (aA (a4-1) (List.length (List.set a5 a4.toNat (ix a5 (a4-1))))) (
ah (af .i64 (a4+1)) (
some (Sum.inl (a0,a1,a2,a3,(a4+1),(List.set (List.set a5 a4.toNat (ix a5 (a4-1))) (Int.toNat (a4-1)) (ix a5 a4))))))))))))))))) (
some (Sum.inr (a0,a1,a2,a3,a5)))
theorem SJ (F80:dV):Fj (ja F80)=u6 (xX F80):=funext fun _=>by kernel_rfl
noncomputable def Fk:=xX P80
noncomputable def xY:K0:=aa (u6 Fk)
theorem SK:l134_4 (ja P80)=xY:=congrArg aa (SJ P80)
noncomputable def Fl (T:List FEnt):=aB (xs:=Fd) m8 (bc T (sb [1,1,0,1,2,2] vH))
noncomputable def l134_0 (T:List FEnt):=aa (Fl T)
noncomputable def xZ (F80:dV)(l134_1 l134_2:TX)(l134_4:K0)(a0 a1 a2 a3:Int)(a4:List Y1):Option (KW⊕Y157):=
cond (decide (a3 < 5)) (
(l134_1 (a0,a1,a2,a3,a4)).bind fun y2=>(
cond (decide (y2.2.2.1=y2.2.1)) (
some (Sum.inr (Sum.inl (true,y2.2.2.2.2)))) (
ah (af .i64 (y2.2.1-y2.1)) (
cond (decide ((y2.2.1-y2.1) < 50)) (
some (Sum.inr (Sum.inl (false,y2.2.2.2.2)))) (
ah (af .i64 (y2.2.2.1-1)) (
ah (af .i64 (y2.2.2.1-1)) (
ah (aA (y2.2.2.1-1) y2.2.2.2.2.length) (
ah (aA y2.2.2.1 y2.2.2.2.2.length) (
ah (aA y2.2.2.1 y2.2.2.2.2.length) (
ah (aA (y2.2.2.1-1) (List.length (List.set y2.2.2.2.2 y2.2.2.1.toNat (ix y2.2.2.2.2 (y2.2.2.1-1))))) (
(l134_2 (y2.1,y2.2.1,y2.2.2.1,y2.2.2.2.1,(List.set (List.set y2.2.2.2.2 y2.2.2.1.toNat (ix y2.2.2.2.2 (y2.2.2.1-1))) (Int.toNat (y2.2.2.1-1)) (ix y2.2.2.2.2 y2.2.2.1)))).bind fun y5=>(
ah (af .i64 (y5.2.1-y5.2.2.1)) (
cond (decide (2≤(y5.2.1-y5.2.2.1))) (
ah (af .i64 (y5.2.2.1+1)) (
(l134_4 (y5.1,y5.2.1,y5.2.2.1,y5.2.2.2.1,(y5.2.2.1+1),y5.2.2.2.2)).bind fun y7=>(
ah (af .i64 (y7.2.2.2.1+1)) (
some (Sum.inl (y7.1,y7.2.1,y7.2.2.1,(y7.2.2.2.1+1),y7.2.2.2.2)))))) (
ah (af .i64 (y5.2.2.2.1+1)) (
some (Sum.inl (y5.1,y5.2.1,y5.2.2.1,(y5.2.2.2.1+1),y5.2.2.2.2))))))))))))))))) (
some (Sum.inr (Sum.inr a4)))
theorem SL (F80:dV):Fl (ja F80)=u5 (xZ F80 (l134_1 (ja F80)) (l134_2 (ja F80)) (l134_4 (ja F80))):=funext fun _=>by kernel_rfl
noncomputable def Fm:=xZ P80 xT tB xY
noncomputable def x4:Y168:=aa (u5 Fm)
theorem SM:l134_0 (ja P80)=x4:=congrArg aa ((SL P80).trans (by rw[SE,SI,SK] <;> rfl))
theorem Xo:L.Fn Try.prog 134 141 [(.t 8)] (erase vH):=oA Try.func134
def Ah:FSh:=⟨⟨VA,dw⟩,JA,1,⟨⟨fG,dw⟩,[.bool,aZ],[0],1⟩,false⟩
noncomputable def SN (F80:dV)(l134_0:Y168)(a0 a1:Int)(a2:List Y1):Option TV:=
ah (af .i64 (a0+1)) (
(l134_0 (a0,a1,(a0+1),0,a2)).bind (fun y8=>Sum.elim (fun y9=>(
some (y9.1,y9.2))) (fun y10=>(
some (false,y10))) y8))
theorem g134 (F80:dV):aK (ja F80) Ah [(.t 8)] vH=u3 (SN F80 (l134_0 (ja F80))):=funext fun _=>by kernel_rfl
noncomputable def Xp:=SN P80 x4
noncomputable def ig:n8:=u3 Xp
theorem v134:aK (ja P80) Ah [(.t 8)] vH=ig:=(g134 P80).trans (by rw[SM] <;> rfl)
theorem d134:DC Try.prog 134 Ah ig:=dD v134 t134 Xo
noncomputable def nY (F80:dV):List FEnt:=[⟨80,qC,F80⟩]
theorem t135:ak Try.prog (nY P80):=dK ai RZ
def m9:LSh:=⟨[0,1,4,11,12],⟨MN,dw⟩,vA,1,[0]⟩
def Fo:List XSh:=[⟨(.exit 2),[0,1,4,11,12],⟨⟨MN,dw⟩,vA,[0],1⟩⟩]
def Fp:List XSh:=[⟨(.exit 4),[0,1,4,11,12],⟨⟨MN,dw⟩,vA,[0],1⟩⟩]
def Fq:List XSh:=[⟨(.exit 0),[11],⟨⟨mh,dw⟩,[y7,aZ],[0],1⟩⟩]
noncomputable def Ck:=bK Try.prog [] Try.f135 (.s .n (.s .n (.s .n (.s (.b (.l m9 Fq (.b (.s (.b (.l m9 Fo .n)) (.s (.b (.l m9 Fp .n)) .n))))) .n))))
noncomputable def Fs (T:List FEnt):=aB (xs:=Fo) m9 (bc T (sb [1,1,1,0,2,2,2,0,2,2] Ck))
noncomputable def l135_1 (T:List FEnt):=aa (Fs T)
noncomputable def x5 (F80:dV)(a0 a1 a2:Int)(a3:List Y1):Option CF:=
cond (decide (a1≤a2)) (
ah (aA a0 a3.length) (
ah (aA a1 a3.length) (
(F80 ((ix a3 a0),(ix a3 a1))).bind fun r1=>(
cond (!(decide (r1 < 0))) (
ah (af .i64 (a1+1)) (
some (Sum.inl (a0,(a1+1),a2,a3)))) (
some (Sum.inr (a0,a1,a2,a3))))))) (
some (Sum.inr (a0,a1,a2,a3)))
theorem SO (F80:dV):Fs (nY F80)=u4 (x5 F80):=funext fun _=>by kernel_rfl
noncomputable def Ft:=x5 P80
noncomputable def x6:tO:=aa (u4 Ft)
theorem SP:l135_1 (nY P80)=x6:=congrArg aa (SO P80)
noncomputable def Fu (T:List FEnt):=aB (xs:=Fp) m9 (bc T (sb [1,1,1,0,2,2,2,1,0,2,2] Ck))
noncomputable def l135_2 (T:List FEnt):=aa (Fu T)
noncomputable def x7 (F80:dV)(a0 a1 a2:Int)(a3:List Y1):Option CF:=
cond (decide (a1≤a2)) (
ah (aA a0 a3.length) (
ah (aA a2 a3.length) (
(F80 ((ix a3 a0),(ix a3 a2))).bind fun r3=>(
cond (decide (r3 < 0)) (
ah (af .i64 (a2-1)) (
some (Sum.inl (a0,a1,(a2-1),a3)))) (
some (Sum.inr (a0,a1,a2,a3))))))) (
some (Sum.inr (a0,a1,a2,a3)))
theorem SQ (F80:dV):Fu (nY F80)=u4 (x7 F80):=funext fun _=>by kernel_rfl
noncomputable def Fv:=x7 P80
noncomputable def x8:tO:=aa (u4 Fv)
theorem SR:l135_2 (nY P80)=x8:=congrArg aa (SQ P80)
noncomputable def Fw (T:List FEnt):=aB (xs:=Fq) m9 (bc T (sb [1,1,1,0,2,2] Ck))
noncomputable def l135_0 (T:List FEnt):=aa (Fw T)
noncomputable def x9 (F80:dV)(l135_1 l135_2:tO)(a0 a1 a2:Int)(a3:List Y1):Option (KV⊕Qk):=
(l135_1 (a0,a1,a2,a3)).bind fun y2=>(
(l135_2 (y2.1,y2.2.1,y2.2.2.1,y2.2.2.2)).bind fun y4=>(
cond (decide (y4.2.2.1 < y4.2.1)) (
some (Sum.inr (y4.2.1,y4.2.2.2))) (
ah (aA y4.2.2.1 y4.2.2.2.length) (
ah (aA y4.2.1 y4.2.2.2.length) (
ah (aA y4.2.1 y4.2.2.2.length) (
ah (aA y4.2.2.1 (List.length (List.set y4.2.2.2 y4.2.1.toNat (ix y4.2.2.2 y4.2.2.1)))) (
ah (af .i64 (y4.2.1+1)) (
ah (af .i64 (y4.2.2.1-1)) (
some (Sum.inl (y4.1,(y4.2.1+1),(y4.2.2.1-1),(List.set (List.set y4.2.2.2 y4.2.1.toNat (ix y4.2.2.2 y4.2.2.1)) y4.2.2.1.toNat (ix y4.2.2.2 y4.2.1)))))))))))))
theorem SS (F80:dV):Fw (nY F80)=u4 (x9 F80 (l135_1 (nY F80)) (l135_2 (nY F80))):=funext fun _=>by kernel_rfl
noncomputable def Fx:=x9 P80 x6 x8
noncomputable def ya:lZ:=aa (u4 Fx)
theorem ST:l135_0 (nY P80)=ya:=congrArg aa ((SS P80).trans (by rw[SP,SR] <;> rfl))
theorem Xq:L.Fn Try.prog 135 90 [(.t 10)] (erase Ck):=oA Try.func135
def Ai:FSh:=⟨⟨j16,dw⟩,vA,1,⟨⟨mh,dw⟩,[y7,aZ],[0],1⟩,false⟩
noncomputable def SU (F80:dV)(l135_0:lZ)(a0 a1 a2:Int)(a3:List Y1):Option Qk:=
ah (aA a2 a3.length) (
ah (aA a0 a3.length) (
ah (aA a0 a3.length) (
ah (aA a2 (List.length (List.set a3 a0.toNat (ix a3 a2)))) (
ah (af .i64 (a0+1)) (
ah (af .i64 (a1-1)) (
(l135_0 (a0,(a0+1),(a1-1),(List.set (List.set a3 a0.toNat (ix a3 a2)) a2.toNat (ix a3 a0)))).bind fun y5=>(
some (y5.1,y5.2))))))))
theorem g135 (F80:dV):aK (nY F80) Ai [(.t 10)] Ck=u4 (SU F80 (l135_0 (nY F80))):=funext fun _=>by kernel_rfl
noncomputable def Xr:=SU P80 ya
noncomputable def ii:lZ:=u4 Xr
theorem v135:aK (nY P80) Ai [(.t 10)] Ck=ii:=(g135 P80).trans (by rw[ST] <;> rfl)
theorem d135:DC Try.prog 135 Ai ii:=dD v135 t135 Xq
noncomputable def jb (F80:dV):List FEnt:=[⟨80,qC,F80⟩]
theorem t136:ak Try.prog (jb P80):=dK ai RZ
def gF:LSh:=⟨[0,1,4,12,13],⟨MN,dw⟩,vA,1,[0]⟩
def Fy:List XSh:=[⟨(.exit 0),[0,1,4,12,13],⟨⟨MN,dw⟩,vA,[0],1⟩⟩]
def Fz:List XSh:=[⟨(.exit 2),[0,1,4,12,13],⟨⟨MN,dw⟩,vA,[0],1⟩⟩]
def FA:List XSh:=[⟨(.exit 6),[0,1,4,12,13],⟨⟨MN,dw⟩,vA,[0],1⟩⟩]
def FB:List XSh:=[⟨(.exit 8),[0,1,4,12,13],⟨⟨MN,dw⟩,vA,[0],1⟩⟩]
def FC:List XSh:=[⟨(.exit 4),[0,1,13],⟨⟨Ir,dw⟩,JA,[0],1⟩⟩]
noncomputable def vI:=bK Try.prog [] Try.f136 (.s .n (.s .n (.s .n (.s (.b (.l gF Fy .n)) (.s (.b (.l gF Fz .n)) (.s .n (.s .n (.s .n (.s .n (.s (.b (.l gF FC (.b (.s (.b (.l gF FA .n)) (.s (.b (.l gF FB .n)) .n))))) .n))))))))))
noncomputable def FD (T:List FEnt):=aB (xs:=Fy) gF (bc T (sb [1,1,1,0,2,2] vI))
noncomputable def l136_0 (T:List FEnt):=aa (FD T)
noncomputable def yb (F80:dV)(a0 a1 a2:Int)(a3:List Y1):Option CF:=
cond (decide (a1≤a2)) (
ah (aA a1 a3.length) (
ah (aA a0 a3.length) (
(F80 ((ix a3 a1),(ix a3 a0))).bind fun r1=>(
cond (decide (r1 < 0)) (
ah (af .i64 (a1+1)) (
some (Sum.inl (a0,(a1+1),a2,a3)))) (
some (Sum.inr (a0,a1,a2,a3))))))) (
some (Sum.inr (a0,a1,a2,a3)))
theorem SW (F80:dV):FD (jb F80)=u4 (yb F80):=funext fun _=>by kernel_rfl
noncomputable def FE:=yb P80
noncomputable def yc:tO:=aa (u4 FE)
theorem SX:l136_0 (jb P80)=yc:=congrArg aa (SW P80)
noncomputable def FF (T:List FEnt):=aB (xs:=Fz) gF (bc T (sb [1,1,1,1,0,2,2] vI))
noncomputable def l136_1 (T:List FEnt):=aa (FF T)
noncomputable def yd (F80:dV)(a0 a1 a2:Int)(a3:List Y1):Option CF:=
cond (decide (a1≤a2)) (
ah (aA a2 a3.length) (
ah (aA a0 a3.length) (
(F80 ((ix a3 a2),(ix a3 a0))).bind fun r3=>(
cond (!(decide (r3 < 0))) (
ah (af .i64 (a2-1)) (
some (Sum.inl (a0,a1,(a2-1),a3)))) (
some (Sum.inr (a0,a1,a2,a3))))))) (
some (Sum.inr (a0,a1,a2,a3)))
theorem SY (F80:dV):FF (jb F80)=u4 (yd F80):=funext fun _=>by kernel_rfl
noncomputable def FG:=yd P80
noncomputable def ye:tO:=aa (u4 FG)
theorem SZ:l136_1 (jb P80)=ye:=congrArg aa (SY P80)
noncomputable def FH (T:List FEnt):=aB (xs:=FA) gF (bc T (sb [1,1,1,1,1,1,1,1,1,0,2,2,2,0,2,2] vI))
noncomputable def l136_3 (T:List FEnt):=aa (FH T)
noncomputable def yf (F80:dV)(a0 a1 a2:Int)(a3:List Y1):Option CF:=
cond (decide (a1≤a2)) (
ah (aA a1 a3.length) (
ah (aA a0 a3.length) (
(F80 ((ix a3 a1),(ix a3 a0))).bind fun r5=>(
cond (decide (r5 < 0)) (
ah (af .i64 (a1+1)) (
some (Sum.inl (a0,(a1+1),a2,a3)))) (
some (Sum.inr (a0,a1,a2,a3))))))) (
some (Sum.inr (a0,a1,a2,a3)))
theorem S4 (F80:dV):FH (jb F80)=u4 (yf F80):=funext fun _=>by kernel_rfl
noncomputable def FI:=yf P80
noncomputable def yg:tO:=aa (u4 FI)
theorem S6:l136_3 (jb P80)=yg:=congrArg aa (S4 P80)
noncomputable def FJ (T:List FEnt):=aB (xs:=FB) gF (bc T (sb [1,1,1,1,1,1,1,1,1,0,2,2,2,1,0,2,2] vI))
noncomputable def l136_4 (T:List FEnt):=aa (FJ T)
noncomputable def yh (F80:dV)(a0 a1 a2:Int)(a3:List Y1):Option CF:=
cond (decide (a1≤a2)) (
ah (aA a2 a3.length) (
ah (aA a0 a3.length) (
(F80 ((ix a3 a2),(ix a3 a0))).bind fun r7=>(
cond (!(decide (r7 < 0))) (
ah (af .i64 (a2-1)) (
some (Sum.inl (a0,a1,(a2-1),a3)))) (
some (Sum.inr (a0,a1,a2,a3))))))) (
some (Sum.inr (a0,a1,a2,a3)))
theorem S7 (F80:dV):FJ (jb F80)=u4 (yh F80):=funext fun _=>by kernel_rfl
noncomputable def FK:=yh P80
noncomputable def yi:tO:=aa (u4 FK)
theorem S8:l136_4 (jb P80)=yi:=congrArg aa (S7 P80)
noncomputable def FL (T:List FEnt):=aB (xs:=FC) gF (bc T (sb [1,1,1,1,1,1,1,1,1,0,2,2] vI))
noncomputable def l136_2 (T:List FEnt):=aa (FL T)
noncomputable def yj (F80:dV)(l136_3 l136_4:tO)(a0 a1 a2:Int)(a3:List Y1):Option (KV⊕Y97):=
(l136_3 (a0,a1,a2,a3)).bind fun y6=>(
(l136_4 (y6.1,y6.2.1,y6.2.2.1,y6.2.2.2)).bind fun y8=>(
cond (decide (y8.2.2.1 < y8.2.1)) (
some (Sum.inr (y8.1,y8.2.2.1,y8.2.2.2))) (
ah (aA y8.2.2.1 y8.2.2.2.length) (
ah (aA y8.2.1 y8.2.2.2.length) (
ah (aA y8.2.1 y8.2.2.2.length) (
ah (aA y8.2.2.1 (List.length (List.set y8.2.2.2 y8.2.1.toNat (ix y8.2.2.2 y8.2.2.1)))) (
ah (af .i64 (y8.2.1+1)) (
ah (af .i64 (y8.2.2.1-1)) (
some (Sum.inl (y8.1,(y8.2.1+1),(y8.2.2.1-1),(List.set (List.set y8.2.2.2 y8.2.1.toNat (ix y8.2.2.2 y8.2.2.1)) y8.2.2.1.toNat (ix y8.2.2.2 y8.2.1)))))))))))))
theorem S9 (F80:dV):FL (jb F80)=u4 (yj F80 (l136_3 (jb F80)) (l136_4 (jb F80))):=funext fun _=>by kernel_rfl
noncomputable def FM:=yj P80 yg yi
noncomputable def yk:Y147:=aa (u4 FM)
theorem Ta:l136_2 (jb P80)=yk:=congrArg aa ((S9 P80).trans (by rw[S6,S8] <;> rfl))
theorem Xs:L.Fn Try.prog 136 178 [(.t 10),(.t 11)] (erase vI):=oA Try.func136
def Aj:FSh:=⟨⟨j16,dw⟩,vA,1,⟨⟨[(.tup [(.v y7),(.v .bool)])],dw⟩,[y7,.bool,aZ],[0],1⟩,false⟩
noncomputable def Tb (F80:dV)(l136_0 l136_1:tO)(l136_2:Y147)(a0 a1 a2:Int)(a3:List Y1):Option Y135:=
ah (aA a2 a3.length) (
ah (aA a0 a3.length) (
ah (aA a0 a3.length) (
ah (aA a2 (List.length (List.set a3 a0.toNat (ix a3 a2)))) (
ah (af .i64 (a0+1)) (
ah (af .i64 (a1-1)) (
(l136_0 (a0,(a0+1),(a1-1),(List.set (List.set a3 a0.toNat (ix a3 a2)) a2.toNat (ix a3 a0)))).bind fun y2=>(
(l136_1 (y2.1,y2.2.1,y2.2.2.1,y2.2.2.2)).bind fun y4=>(
cond (decide (y4.2.2.1 < y4.2.1)) (
ah (aA y4.1 y4.2.2.2.length) (
ah (aA y4.2.2.1 y4.2.2.2.length) (
ah (aA y4.2.2.1 y4.2.2.2.length) (
ah (aA y4.1 (List.length (List.set y4.2.2.2 y4.2.2.1.toNat (ix y4.2.2.2 y4.1)))) (
some (y4.2.2.1,true,(List.set (List.set y4.2.2.2 y4.2.2.1.toNat (ix y4.2.2.2 y4.1)) y4.1.toNat (ix y4.2.2.2 y4.2.2.1)))))))) (
ah (aA y4.2.2.1 y4.2.2.2.length) (
ah (aA y4.2.1 y4.2.2.2.length) (
ah (aA y4.2.1 y4.2.2.2.length) (
ah (aA y4.2.2.1 (List.length (List.set y4.2.2.2 y4.2.1.toNat (ix y4.2.2.2 y4.2.2.1)))) (
ah (af .i64 (y4.2.1+1)) (
ah (af .i64 (y4.2.2.1-1)) (
(l136_2 (y4.1,(y4.2.1+1),(y4.2.2.1-1),(List.set (List.set y4.2.2.2 y4.2.1.toNat (ix y4.2.2.2 y4.2.2.1)) y4.2.2.1.toNat (ix y4.2.2.2 y4.2.1)))).bind fun y9=>(
ah (aA y9.1 y9.2.2.length) (
ah (aA y9.2.1 y9.2.2.length) (
ah (aA y9.2.1 y9.2.2.length) (
ah (aA y9.1 (List.length (List.set y9.2.2 y9.2.1.toNat (ix y9.2.2 y9.1)))) (
some (y9.2.1,false,(List.set (List.set y9.2.2 y9.2.1.toNat (ix y9.2.2 y9.1)) y9.1.toNat (ix y9.2.2 y9.2.1)))))))))))))))))))))))
theorem g136 (F80:dV):aK (jb F80) Aj [(.t 10),(.t 11)] vI=u4 (Tb F80 (l136_0 (jb F80)) (l136_1 (jb F80)) (l136_2 (jb F80))):=funext fun _=>by kernel_rfl
noncomputable def Xt:=Tb P80 yc ye yk
noncomputable def gG:n9:=u4 Xt
theorem v136:aK (jb P80) Aj [(.t 10),(.t 11)] vI=gG:=(g136 P80).trans (by rw[SX,SZ,Ta] <;> rfl)
theorem d136:DC Try.prog 136 Aj gG:=dD v136 t136 Xs
def lW:FSh:=⟨⟨j16,dw⟩,vA,1,⟨⟨pR,dw⟩,[aZ],[0],1⟩,false⟩
noncomputable def lk (F129:lp)(F130:lp)(F131:lp)(F132:n7)(F133:lp)(F134:n8)(F80:dV)(F135:lZ)(F136:n9)(F124:gJ):List FEnt:=[⟨129,zZ,F129⟩,⟨130,Ab,F130⟩,⟨131,Ac,F131⟩,⟨132,Af,F132⟩,⟨133,Ag,F133⟩,⟨134,Ah,F134⟩,⟨80,qC,F80⟩,⟨135,Ai,F135⟩,⟨136,Aj,F136⟩,⟨124,lW,F124⟩]
theorem t124 (F124:gJ)(h:DC Try.prog 124 lW F124):ak Try.prog (lk hX hY gE ib ic ig P80 ii gG F124):=(aJ d129 (by kernel_rfl) (aJ d130 (by kernel_rfl) (aJ d131 (by kernel_rfl) (aJ d132 (by kernel_rfl) (aJ d133 (by kernel_rfl) (aJ d134 (by kernel_rfl) (aJ RZ (by kernel_rfl) (aJ d135 (by kernel_rfl) (aJ d136 (by kernel_rfl) (aJ h (by kernel_rfl) ai))))))))))
def FN:LSh:=⟨[0,1,2,3,4,10,11,12],⟨j7,dw⟩,[y7,y7,y7,.bool,.bool,y7,aZ],1,[0]⟩
def FO:List XSh:=[⟨.normal,[0,1,2,3,4,10,11,12],⟨⟨j7,dw⟩,[y7,y7,y7,.bool,.bool,y7,aZ],[0],1⟩⟩]
def tC:LSh:=⟨[0,1,2,3,4,10,11,12,13,14],⟨j4,dw⟩,z6,1,[0]⟩
def FP:List XSh:=[⟨.normal,[0,1,2,3,4,10,11,12,13,14],⟨⟨j4,dw⟩,z6,[0],1⟩⟩]
def FQ:List XSh:=[⟨.ret,[],⟨⟨[],dw⟩,[aZ],[0],1⟩⟩,⟨.normal,[0,1,2,3,4,10,11,12,13],⟨⟨[(.slc 0),(.v y7),(.v y7),(.v y7),(.fn 80 []),(.v .bool),(.v .bool),(.v y7),(.v y7)],dw⟩,[y7,y7,y7,.bool,.bool,y7,y7,aZ],[0],1⟩⟩]
def FR:LSh:=⟨[0,1,2,3,4,10,11],⟨[(.slc 0),(.v y7),(.v y7),(.v y7),(.fn 80 []),(.v .bool),(.v .bool)],dw⟩,[y7,y7,y7,.bool,.bool,aZ],1,[0]⟩
def FS:List XSh:=[⟨.ret,[],⟨⟨[],dw⟩,[aZ],[0],1⟩⟩]
noncomputable def yl:=bK Try.prog [] Try.f124 (.s .n (.s .n (.b (.l FR FS (.b (.s .n (.s .n (.s .n (.s (.o FN FO .n) (.s .n (.s (.o tC FP .n) (.s (.o tC FQ .n) .n))))))))))))
noncomputable def l124_1 (T:List FEnt):=fw (xs:=FO) FN (bc T (sb [1,1,2,2,2,1,1,1,0,2] yl))
noncomputable def tD (F129 F130 F131:lp)(F132:n7)(F133:lp)(F134:n8)(F80:dV)(F135:lZ)(F136:n9)(F124:gJ)(a0 a1 a2:Int)(a3 a4:Bool)(a5:Int)(a6:List Y1):Option Y132:=
cond (!a3) (
(F131 (a0,a1,a6)).bind fun r3=>(
ah (af .i64 (a2-1)) (
some (a0,a1,(a2-1),a3,a4,a5,r3)))) (
some (a0,a1,a2,a3,a4,a5,a6))
theorem Tc (F129 F130 F131:lp)(F132:n7)(F133:lp)(F134:n8)(F80:dV)(F135:lZ)(F136:n9)(F124:gJ):l124_1 (lk F129 F130 F131 F132 F133 F134 F80 F135 F136 F124)=u7 (tD F129 F130 F131 F132 F133 F134 F80 F135 F136 F124):=funext fun _=>by kernel_rfl
noncomputable def ym (F124:gJ):=tD hX hY gE ib ic ig P80 ii gG F124
noncomputable def pT (F124:gJ):Y149:=fun x=>ym F124 x.1 x.2.1 x.2.2.1 x.2.2.2.1 x.2.2.2.2.1 x.2.2.2.2.2.1 x.2.2.2.2.2.2
theorem Td (F124:gJ):l124_1 (lk hX hY gE ib ic ig P80 ii gG F124)=pT F124:=Tc hX hY gE ib ic ig P80 ii gG F124
noncomputable def l124_2 (T:List FEnt):=fw (xs:=FP) tC (bc T (sb [1,1,2,2,2,1,1,1,1,1,0,2] yl))
noncomputable def yn (F129 F130 F131:lp)(F132:n7)(F133:lp)(F134:n8)(F80:dV)(F135:lZ)(F136:n9)(F124:gJ)(a0 a1 a2:Int)(a3 a4:Bool)(a5 a6 a7:Int)(a8:List Y1):Option Y133:=
cond (decide (a7=2)) (
(F133 (a0,a1,a8)).bind fun r6=>(
ah (af .i64 (a1-1)) (
ah (af .i64 (a6-a0)) (
ah (af .i64 ((a1-1)-(a6-a0))) (
some (a0,a1,a2,a3,a4,a5,((a1-1)-(a6-a0)),1,r6)))))) (
some (a0,a1,a2,a3,a4,a5,a6,a7,a8))
theorem Te (F129 F130 F131:lp)(F132:n7)(F133:lp)(F134:n8)(F80:dV)(F135:lZ)(F136:n9)(F124:gJ):l124_2 (lk F129 F130 F131 F132 F133 F134 F80 F135 F136 F124)=u9 (yn F129 F130 F131 F132 F133 F134 F80 F135 F136 F124):=funext fun _=>by kernel_rfl
noncomputable def FT (F124:gJ):=yn hX hY gE ib ic ig P80 ii gG F124
noncomputable def tE (F124:gJ):Y150:=fun x=>FT F124 x.1 x.2.1 x.2.2.1 x.2.2.2.1 x.2.2.2.2.1 x.2.2.2.2.2.1 x.2.2.2.2.2.2.1 x.2.2.2.2.2.2.2.1 x.2.2.2.2.2.2.2.2
theorem Tf (F124:gJ):l124_2 (lk hX hY gE ib ic ig P80 ii gG F124)=tE F124:=Te hX hY gE ib ic ig P80 ii gG F124
noncomputable def l124_3 (T:List FEnt):=fw (xs:=FQ) tC (bc T (sb [1,1,2,2,2,1,1,1,1,1,1,0,2] yl))
noncomputable def yo (F129 F130 F131:lp)(F132:n7)(F133:lp)(F134:n8)(F80:dV)(F135:lZ)(F136:n9)(F124:gJ)(a0 a1 a2:Int)(a3 a4:Bool)(a5 a6 a7:Int)(a8:List Y1):Option Y161:=
cond a3 (
cond a4 (
cond (decide (a7=1)) (
(F134 (a0,a1,a8)).bind fun r8=>(
cond r8.1 (
some (Sum.inl r8.2)) (
some (Sum.inr (a0,a1,a2,a3,a4,a5,a6,r8.2))))) (
some (Sum.inr (a0,a1,a2,a3,a4,a5,a6,a8)))) (
some (Sum.inr (a0,a1,a2,a3,a4,a5,a6,a8)))) (
some (Sum.inr (a0,a1,a2,a3,a4,a5,a6,a8)))
theorem Tg (F129 F130 F131:lp)(F132:n7)(F133:lp)(F134:n8)(F80:dV)(F135:lZ)(F136:n9)(F124:gJ):l124_3 (lk F129 F130 F131 F132 F133 F134 F80 F135 F136 F124)=u9 (yo F129 F130 F131 F132 F133 F134 F80 F135 F136 F124):=funext fun _=>by kernel_rfl
noncomputable def FU (F124:gJ):=yo hX hY gE ib ic ig P80 ii gG F124
noncomputable def tF (F124:gJ):Y172:=fun x=>FU F124 x.1 x.2.1 x.2.2.1 x.2.2.2.1 x.2.2.2.2.1 x.2.2.2.2.2.1 x.2.2.2.2.2.2.1 x.2.2.2.2.2.2.2.1 x.2.2.2.2.2.2.2.2
theorem Th (F124:gJ):l124_3 (lk hX hY gE ib ic ig P80 ii gG F124)=tF F124:=Tg hX hY gE ib ic ig P80 ii gG F124
noncomputable def FX (T:List FEnt):=aB (xs:=FS) FR (bc T (sb [1,1,2,2] yl))
noncomputable def l124_0 (T:List FEnt):=aa (FX T)
noncomputable def pU (F129 F130 F131:lp)(F132:n7)(F133:lp)(F134:n8)(F80:dV)(F135:lZ)(F136:n9)(F124:gJ)(l124_1:Y149)(l124_2:Y150)(l124_3:Y172)(a0 a1 a2:Int)(a3 a4:Bool)(a5:List Y1):Option ((Int×Int×Int×Bool×Bool×Y8)⊕Y8):=
ah (af .i64 (a1-a0)) (
cond (decide ((a1-a0)≤12)) (
(F129 (a0,a1,a5)).bind fun r1=>(
some (Sum.inr r1))) (
cond (decide (a2=0)) (
(F130 (a0,a1,a5)).bind fun r2=>(
some (Sum.inr r2))) (
(l124_1 (a0,a1,a2,a3,a4,(a1-a0),a5)).bind fun y4=>(
(F132 (y4.1,y4.2.1,y4.2.2.2.2.2.2)).bind fun r5=>(
(l124_2 (y4.1,y4.2.1,y4.2.2.1,y4.2.2.2.1,y4.2.2.2.2.1,y4.2.2.2.2.2.1,r5.1,r5.2.1,r5.2.2)).bind fun y7=>(
(l124_3 (y7.1,y7.2.1,y7.2.2.1,y7.2.2.2.1,y7.2.2.2.2.1,y7.2.2.2.2.2.1,y7.2.2.2.2.2.2.1,y7.2.2.2.2.2.2.2.1,y7.2.2.2.2.2.2.2.2)).bind (fun y9=>Sum.elim (fun y10=>(
some (Sum.inr y10))) (fun y11=>(
cond (decide (0 < y11.1)) (
ah (af .i64 (y11.1-1)) (
ah (aA (y11.1-1) y11.2.2.2.2.2.2.2.length) (
ah (aA y11.2.2.2.2.2.2.1 y11.2.2.2.2.2.2.2.length) (
(F80 ((ix y11.2.2.2.2.2.2.2 (y11.1-1)),(ix y11.2.2.2.2.2.2.2 y11.2.2.2.2.2.2.1))).bind fun r12=>(
cond (!(decide (r12 < 0))) (
(F135 (y11.1,y11.2.1,y11.2.2.2.2.2.2.1,y11.2.2.2.2.2.2.2)).bind fun r13=>(
some (Sum.inl (r13.1,y11.2.1,y11.2.2.1,y11.2.2.2.1,y11.2.2.2.2.1,r13.2)))) (
(F136 (y11.1,y11.2.1,y11.2.2.2.2.2.2.1,y11.2.2.2.2.2.2.2)).bind fun r14=>(
ah (af .i64 (r14.1-y11.1)) (
ah (af .i64 (y11.2.1-r14.1)) (
ah (af .i64 (Int.tdiv y11.2.2.2.2.2.1 8)) (
cond (decide ((r14.1-y11.1) < (y11.2.1-r14.1))) (
(F124 (y11.1,r14.1,y11.2.2.1,r14.2.2)).bind fun r15=>(
ah (af .i64 (r14.1+1)) (
some (Sum.inl ((r14.1+1),y11.2.1,y11.2.2.1,decide ((Int.tdiv y11.2.2.2.2.2.1 8)≤(r14.1-y11.1)),r14.2.1,r15))))) (
ah (af .i64 (r14.1+1)) (
(F124 ((r14.1+1),y11.2.1,y11.2.2.1,r14.2.2)).bind fun r16=>(
some (Sum.inl (y11.1,r14.1,y11.2.2.1,decide ((Int.tdiv y11.2.2.2.2.2.1 8)≤(y11.2.1-r14.1)),r14.2.1,r16))))))))))))))) (
(F136 (y11.1,y11.2.1,y11.2.2.2.2.2.2.1,y11.2.2.2.2.2.2.2)).bind fun r17=>(
ah (af .i64 (r17.1-y11.1)) (
ah (af .i64 (y11.2.1-r17.1)) (
ah (af .i64 (Int.tdiv y11.2.2.2.2.2.1 8)) (
cond (decide ((r17.1-y11.1) < (y11.2.1-r17.1))) (
(F124 (y11.1,r17.1,y11.2.2.1,r17.2.2)).bind fun r18=>(
ah (af .i64 (r17.1+1)) (
some (Sum.inl ((r17.1+1),y11.2.1,y11.2.2.1,decide ((Int.tdiv y11.2.2.2.2.2.1 8)≤(r17.1-y11.1)),r17.2.1,r18))))) (
ah (af .i64 (r17.1+1)) (
(F124 ((r17.1+1),y11.2.1,y11.2.2.1,r17.2.2)).bind fun r19=>(
some (Sum.inl (y11.1,r17.1,y11.2.2.1,decide ((Int.tdiv y11.2.2.2.2.2.1 8)≤(y11.2.1-r17.1)),r17.2.1,r19)))))))))))) y9)))))))
theorem Ti (F129 F130 F131:lp)(F132:n7)(F133:lp)(F134:n8)(F80:dV)(F135:lZ)(F136:n9)(F124:gJ):FX (lk F129 F130 F131 F132 F133 F134 F80 F135 F136 F124)=u6 (pU F129 F130 F131 F132 F133 F134 F80 F135 F136 F124 (l124_1 (lk F129 F130 F131 F132 F133 F134 F80 F135 F136 F124)) (l124_2 (lk F129 F130 F131 F132 F133 F134 F80 F135 F136 F124)) (l124_3 (lk F129 F130 F131 F132 F133 F134 F80 F135 F136 F124))):=funext fun _=>by kernel_rfl
noncomputable def ll (F124:gJ):=pU hX hY gE ib ic ig P80 ii gG F124 (pT F124) (tE F124) (tF F124)
noncomputable def tG (F124:gJ):Y131:=aa (u6 (ll F124))
theorem Tj (F124:gJ):l124_0 (lk hX hY gE ib ic ig P80 ii gG F124)=tG F124:=congrArg aa ((Ti hX hY gE ib ic ig P80 ii gG F124).trans (by rw[Td F124,Tf F124,Th F124] <;> rfl))
theorem MO:L.Fn Try.prog 124 148 [] (erase yl):=oA Try.func124
noncomputable def JS (F129 F130 F131:lp)(F132:n7)(F133:lp)(F134:n8)(F80:dV)(F135:lZ)(F136:n9)(F124:gJ)(l124_0:Y131)(a0 a1 a2:Int)(a3:List Y1):Option Y8:=
(l124_0 (a0,a1,a2,true,true,a3)).bind fun y20=>(
some y20)
theorem g124 (F129 F130 F131:lp)(F132:n7)(F133:lp)(F134:n8)(F80:dV)(F135:lZ)(F136:n9)(F124:gJ):aK (lk F129 F130 F131 F132 F133 F134 F80 F135 F136 F124) lW [] yl=u4 (JS F129 F130 F131 F132 F133 F134 F80 F135 F136 F124 (l124_0 (lk F129 F130 F131 F132 F133 F134 F80 F135 F136 F124))):=funext fun _=>by kernel_rfl
noncomputable def Cl (F124:gJ):=JS hX hY gE ib ic ig P80 ii gG F124 (tG F124)
noncomputable def jc:Nat→Int×Int×Int×Y8→Option Y8
  | 0=>fun _=>none
  | n+1=>fun x=>Cl (jc n) x.1 x.2.1 x.2.2.1 x.2.2.2
noncomputable def P124:gJ:=jc 18446744073709551616
theorem v124 (F124:gJ):aK (lk hX hY gE ib ic ig P80 ii gG F124) lW [] yl=fun x=>Cl F124 x.1 x.2.1 x.2.2.1 x.2.2.2:=(g124 hX hY gE ib ic ig P80 ii gG F124).trans (by rw[Tj F124] <;> rfl)
theorem Xu:∀ n,DC Try.prog 124 lW (jc n)
  | 0=>zH (eW (sh:=lW) ai MO (by kernel_rfl)).1
  | n+1=>vl (v124 (jc n)) (eW (sh:=lW) (t124 (jc n) (Xu n)) MO (by kernel_rfl))
theorem d124:DC Try.prog 124 lW P124:=Xu _
noncomputable def Tk (F67:n6)(F124:gJ):List FEnt:=[⟨67,Cg,F67⟩,⟨124,lW,F124⟩]
theorem t109:ak Try.prog (Tk P67 P124):=dK (dK ai d124) d67
noncomputable def Tl:=bK Try.prog [] Try.f109 .n
theorem Xv:L.Fn Try.prog 109 14 [] (erase Tl):=oA Try.func109
def Ak:FSh:=⟨⟨[(.slc 0),(.fn 80 [])],dw⟩,[aZ],1,⟨⟨pR,dw⟩,[aZ],[0],1⟩,false⟩
noncomputable def Tm (F67:n6)(F124:gJ)(a0:List Y1):Option Y8:=
ah (af .u64 (↑a0.length:Int)) (
(F67 (↑a0.length:Int)).bind fun r1=>(
(F124 (0,(↑a0.length:Int),r1,a0)).bind fun r2=>(
some r2)))
theorem g109 (F67:n6)(F124:gJ)(a0:List Y1):aK (Tk F67 F124) Ak [] Tl a0=Tm F67 F124 a0:=by kernel_rfl
noncomputable def Xw:=Tm P67 P124
noncomputable def P109:nj:=fun x=>Xw x
theorem v109:aK (Tk P67 P124) Ak [] Tl=P109:=funext fun x=>(g109 P67 P124 x)
theorem d109:DC Try.prog 109 Ak P109:=dD v109 t109 Xv
noncomputable def T78 (F108:nj)(F109:nj):List FEnt:=[⟨108,zU,F108⟩,⟨109,Ak,F109⟩]
theorem t78:ak Try.prog (T78 P108 P109):=dK (dK ai d109) d108
noncomputable def c78:=bK Try.prog [] Try.f78 .n
theorem ok78:L.Fn Try.prog 78 12 [(.t 4)] (erase c78):=oA Try.func78
def JT:FSh:=⟨⟨[(.fn 110 Iq),(.fn 80 [])],[(0,(.boxT aZ))]⟩,[aZ],1,⟨⟨zP,dw⟩,[aZ],[],1⟩,false⟩
noncomputable def q78 (F108 F109:nj)(a0:List Y1):Option Y8:=
(F108 a0).bind fun r1=>(
(F109 r1).bind fun r2=>(
some r2))
theorem g78 (F108 F109:nj)(a0:List Y1):aK (T78 F108 F109) JT [(.t 4)] c78 a0=q78 F108 F109 a0:=by kernel_rfl
noncomputable def p78:=q78 P108 P109
noncomputable def Al:nj:=fun x=>p78 x
theorem v78:aK (T78 P108 P109) JT [(.t 4)] c78=Al:=funext fun x=>(g78 P108 P109 x)
theorem d78:DC Try.prog 78 JT Al:=dD v78 t78 ok78
noncomputable def JU:List FEnt:=[]
theorem t82:ak Try.prog JU:=ai
def MP:LSh:=⟨[0,3,4,5],⟨[(.slc 0),(.v y7),(.slo 0 5),(.v y7)],dw⟩,Mq,1,[0]⟩
def MQ:List XSh:=[⟨(.exit 2),[0,3],⟨⟨RL,dw⟩,[y7,aZ],[0],1⟩⟩]
def MS:LSh:=⟨[0,3],⟨RL,dw⟩,[y7,aZ],1,[]⟩
def MT:List XSh:=[⟨.ret,[2],⟨⟨zP,dw⟩,[aZ],[],1⟩⟩,⟨(.exit 0),[0],⟨⟨zP,dw⟩,[aZ],[],1⟩⟩]
noncomputable def Xx:=bK Try.prog [(7,{ch:=[0,0,1,0] }),(14,{ch:=[0,0,1,0] }),(15,{ch:=[0,0,2,0] })] Try.f82 (.s .n (.s .n (.s (.s .n (.b (.l MS MT (.s .n (.s (.b (.s .n (.s (.s .n (.s (.s .n (.b (.l MP MQ .n))) .n)) .n))) .n))))) .n)))
noncomputable def MU (T:List FEnt):=aB (xs:=MQ) MP (bc T (sb [1,1,0,1,2,2,1,0,2,1,0,1,0,1,2,2] Xx))
noncomputable def l82_1 (T:List FEnt):=aa (MU T)
noncomputable def Am (a0 a1 a2 a3:Int)(a4:List Y1):Option (KW⊕Qk):=
cond (decide (a3 < (↑a2.toNat:Int))) (
ah (aA a3 a2.toNat) (
ah (af .i64 (a3-1)) (
ah (aA (a3-1) a2.toNat) (
cond (!((((decide ((xj a4 (a1.toNat+Int.toNat a3)).1=(xj a4 (a1.toNat+Int.toNat (a3-1))).1)&&decide ((xj a4 (a1.toNat+Int.toNat a3)).2.1=(xj a4 (a1.toNat+Int.toNat (a3-1))).2.1))&&decide ((xj a4 (a1.toNat+Int.toNat a3)).2.2.1=(xj a4 (a1.toNat+Int.toNat (a3-1))).2.2.1))&&decide ((xj a4 (a1.toNat+Int.toNat a3)).2.2.2.1=(xj a4 (a1.toNat+Int.toNat (a3-1))).2.2.2.1))&&decide ((xj a4 (a1.toNat+Int.toNat a3)).2.2.2.2=(xj a4 (a1.toNat+Int.toNat (a3-1))).2.2.2.2))) (
ah (aA a3 a2.toNat) (
ah (aA a0 a4.length) (
ah (af .i64 (a0+1)) (
ah (af .i64 (a3+1)) (
some (Sum.inl ((a0+1),(↑a1.toNat:Int),(↑a2.toNat:Int),(a3+1),(List.set a4 a0.toNat (xj a4 (a1.toNat+Int.toNat a3)))))))))) (
ah (af .i64 (a3+1)) (
some (Sum.inl (a0,(↑a1.toNat:Int),(↑a2.toNat:Int),(a3+1),a4)))))))) (
some (Sum.inr (a0,a4)))
theorem Xy:MU JU=u5 Am:=funext fun _=>by kernel_rfl
noncomputable def FY:=Am
noncomputable def FZ:Y151:=aa (u5 FY)
theorem Xz:l82_1 JU=FZ:=congrArg aa Xy
noncomputable def MV (T:List FEnt):=aB (xs:=MT) MS (bc T (sb [1,1,0,1,2,2] Xx))
noncomputable def l82_0 (T:List FEnt):=aa (MV T)
noncomputable def An (l82_1:Y151)(a0:Int)(a1:List Y1):Option (Qk⊕Y94):=
cond (decide (a0 < (↑a1.length:Int))) (
ah (aA a0 a1.length) (
ah (af .i64 (a0-1)) (
ah (aA (a0-1) a1.length) (
cond ((((decide ((ix a1 a0).1=(ix a1 (a0-1)).1)&&decide ((ix a1 a0).2.1=(ix a1 (a0-1)).2.1))&&decide ((ix a1 a0).2.2.1=(ix a1 (a0-1)).2.2.1))&&decide ((ix a1 a0).2.2.2.1=(ix a1 (a0-1)).2.2.2.1))&&decide ((ix a1 a0).2.2.2.2=(ix a1 (a0-1)).2.2.2.2)) (
ah (decide (0≤a0)) (
ah (decide (a0≤(↑a1.length:Int))) (
ah (decide ((↑a1.length:Int)≤(↑a1.length:Int))) (
ah (decide (0 < List.length a1)) (
(l82_1 (a0,(↑a0.toNat:Int),(↑(Int.toNat ((↑a1.length:Int)-a0)):Int),1,a1)).bind fun y1=>(
ah (decide (0≤y1.1)) (
ah (decide (y1.1≤(↑y1.2.length:Int))) (
ah (decide ((↑y1.2.length:Int)≤(↑y1.2.length:Int))) (
ah (decide (0 < List.length y1.2)) (
ah (decide (0≤y1.1)) (
ah (decide (y1.1≤(↑(List.length (cA y1.2 y1.1.toNat (Int.toNat ((↑y1.2.length:Int)-y1.1)) (0,(0,(0,(0,0)))))):Int))) (
ah (decide (0 < List.length (cA y1.2 y1.1.toNat (Int.toNat ((↑y1.2.length:Int)-y1.1)) (0,(0,(0,(0,0))))))) (
some (Sum.inr (Sum.inl (List.take y1.1.toNat (cA y1.2 y1.1.toNat (Int.toNat ((↑y1.2.length:Int)-y1.1)) (0,(0,(0,(0,0))))))))))))))))))))) (
ah (af .i64 (a0+1)) (
some (Sum.inl ((a0+1),a1)))))))) (
some (Sum.inr (Sum.inr a1)))
theorem g82_0:MV JU=u2 (An (l82_1 JU)):=funext fun _=>by kernel_rfl
noncomputable def Ao:=An FZ
noncomputable def Ap:Y152:=aa (u2 Ao)
theorem v82_0:l82_0 JU=Ap:=congrArg aa (g82_0.trans (by rw[Xz] <;> rfl))
theorem ok82:L.Fn Try.prog 82 61 [(.t 2)] (erase Xx):=oA Try.func82
def JV:FSh:=⟨⟨zP,dw⟩,[aZ],1,⟨⟨zP,dw⟩,[aZ],[],1⟩,false⟩
noncomputable def XA (l82_0:Y152)(a0:List Y1):Option Y8:=
cond (decide ((↑a0.length:Int) < 2)) (
some a0) (
(l82_0 (1,a0)).bind (fun y2=>Sum.elim (fun y3=>(
some y3)) (fun y4=>(
some y4)) y2))
theorem g82 (a0:List Y1):aK JU JV [(.t 2)] Xx a0=XA (l82_0 JU) a0:=by kernel_rfl
noncomputable def p82:=XA Ap
noncomputable def uk:nj:=fun x=>p82 x
theorem v82:aK JU JV [(.t 2)] Xx=uk:=funext fun x=>(g82 x).trans (by rw[v82_0] <;> rfl)
theorem d82:DC Try.prog 82 JV uk:=dD v82 t82 ok82
noncomputable def Cm:List FEnt:=[]
theorem t111:ak Try.prog Cm:=ai
def F0:LSh:=⟨[0,1,2,11,12],⟨j19,k8⟩,z9,5,[0,1,2,3,4]⟩
def F1:List XSh:=[⟨(.exit 0),[1,2],⟨⟨[(.pel 1),(.v y7)],k8⟩,z10,[0,1,2,3,4],5⟩⟩]
noncomputable def JW:=bK Try.prog [] Try.f111 (.s (.s .n (.b (.l F0 F1 .n))) .n)
noncomputable def F2 (T:List FEnt):=aB (xs:=F1) F0 (bc T (sb [0,1,2,2] JW))
noncomputable def l111_0 (T:List FEnt):=aa (F2 T)
noncomputable def na (a0 a1 a2 a3:Int)(a4:List Int)(a5:Int)(a6:List Y3)(a7:List Y2)(a8:List Int):Option Y165:=
cond (decide (a3 < a2)) (
ah (aA ((pd a6 a0).2.1) a7.length) (
ah (af .i64 ((pd a6 a0).2.2.1+a3)) (
ah (aA ((pd a6 a0).2.2.1+a3) (List.length (ix a7 ((pd a6 a0).2.1)))) (
ah (af .i64 (a3+1)) (
some (Sum.inl (a0,a1,a2,(a3+1),a4,a5,a6,(List.set a7 (Int.toNat ((pd a6 a0).2.1)) (List.set (ix a7 ((pd a6 a0).2.1)) (Int.toNat ((pd a6 a0).2.2.1+a3)) (-1))),a8))))))) (
some (Sum.inr (a0,a1,a4,a5,a6,a7,a8)))
theorem Tn:F2 Cm=u9 na:=funext fun _=>by kernel_rfl
noncomputable def F3:=na
noncomputable def tH:K1:=aa (u9 F3)
theorem To:l111_0 Cm=tH:=congrArg aa Tn
theorem XB:L.Fn Try.prog 111 48 [] (erase JW):=oA Try.func111
def Aq:FSh:=⟨⟨[(.ptr 0 0),(.pel 1),(.v y7)],k8⟩,z10,5,⟨⟨pR,k8⟩,[y19,y7,n5,cG,y19],[0,1,2,3,4],5⟩,false⟩
noncomputable def JX (l111_0:K1)(a0 a1:Int)(a2:List Int)(a3:Int)(a4:List Y3)(a5:List Y2)(a6:List Int):Option TW:=
(l111_0 (a0,a1,(pd a4 a0).2.2.2.1,0,a2,a3,a4,a5,a6)).bind fun y1=>(
some (y1.2.2.1,y1.2.2.2.1,(Db (Da (yE y1.2.2.2.2.1 y1.1 y1.2.1) y1.1 (-1)) y1.1 (-1)),y1.2.2.2.2.2.1,y1.2.2.2.2.2.2))
theorem g111:aK Cm Aq [] JW=u7 (JX (l111_0 Cm)):=funext fun _=>by kernel_rfl
noncomputable def XC:=JX tH
noncomputable def P111:qK:=u7 XC
theorem v111:aK Cm Aq [] JW=P111:=g111.trans (by rw[To] <;> rfl)
theorem d111:DC Try.prog 111 Aq P111:=dD v111 t111 XB
end Go.Proofs.Ytdkaijofmigmbaa.D
