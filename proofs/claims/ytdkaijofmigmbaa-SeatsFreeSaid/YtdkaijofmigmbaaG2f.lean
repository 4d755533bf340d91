import Derived.Test.YtdkaijofmigmbaaG1f
import Derived.Test.YtdkaijofmigmbaaProg
set_option linter.unusedVariables false
set_option maxRecDepth 100000
namespace Go.Proofs.Ytdkaijofmigmbaa.D
open Go Go.Proofs Go.Proofs.Ytdkaijofmigmbaa.L
def z6:List Ty:=[y7,y7,y7,.bool,.bool,y7,y7,y7,bc]
def z9:List Ty:=[y7,y7,y7,y7,y19,y7,oa,cD,y19]
def z11:List Ty:=[y7,y7,y19,y7,oa,cD,y19]
def j9:List RSh:=[(.slc 0),(.v y7),(.v y7),(.fn 80 []),(.v y7),(.v y7),(.v y7)]
def Mo:List RSh:=[(.slc 0),(.v y7),(.fn 80 []),(.v y7),(.v y7)]
def j7:List RSh:=[(.slc 0),(.v y7),(.v y7),(.v y7),(.fn 80 []),(.v .bool),(.v .bool),(.v y7)]
def j4:List RSh:=[(.slc 0),(.v y7),(.v y7),(.v y7),(.fn 80 []),(.v .bool),(.v .bool),(.v y7),(.v y7),(.v y7)]
def j19:List RSh:=[(.ptr 0 0),(.pel 1),(.v y7),(.v y7),(.v y7)]
def k8:List (Nat×OSh):=[(0,(.box [(.v y19),(.v y7),(.slr 2),(.mpl 3),(.slc 4)])),(1,(.pool cW)),(2,(.rows 22 3 y7)),(3,(.gone 1)),(4,(.row 3 y7))]
noncomputable def i7 (F80:dW):List FEnt:=[⟨80,qG,F80⟩]
theorem t134:al Try.prog (i7 P80):=dK aj RE
def na:LSh:=⟨[0,1,2,3,9,10],⟨Vb,dt⟩,LT,1,[0]⟩
def EX:List XSh:=[⟨(.exit 2),[0,1,2,3,9,10],⟨⟨Vb,dt⟩,LT,[0],1⟩⟩]
def EY:LSh:=⟨[0,1,2,3,9,10,11],⟨j9,dt⟩,[y7,y7,y7,y7,y7,bc],1,[0]⟩
def EZ:List XSh:=[⟨(.exit 4),[0,1,2,3,9,10],⟨⟨Vb,dt⟩,LT,[0],1⟩⟩]
def E2:List XSh:=[⟨.normal,[0,1,2,3,9,10],⟨⟨Vb,dt⟩,LT,[0],1⟩⟩]
def E3:LSh:=⟨[0,1,2,3,9,10,12],⟨j9,dt⟩,[y7,y7,y7,y7,y7,bc],1,[0]⟩
def E4:List XSh:=[⟨(.exit 6),[0,1,2,3,9,10],⟨⟨Vb,dt⟩,LT,[0],1⟩⟩]
def E5:List XSh:=[⟨.ret,[8],⟨⟨fE,dt⟩,[.bool,bc],[0],1⟩⟩,⟨(.exit 0),[],⟨⟨[],dt⟩,[bc],[0],1⟩⟩]
noncomputable def vM:=bK Try.prog [] Try.f134 (.s .n (.s .n (.s (.s .n (.b (.l na E5 (.s .n (.s (.b (.s (.b (.l na EX .n)) (.s .n (.s .n (.s .n (.s (.o na E2 (.s .n (.s (.s .n (.b (.l EY EZ .n))) .n))) (.s .n (.s (.s .n (.b (.l E3 E4 .n))) .n)))))))) .n))))) .n)))
noncomputable def E6 (T:List FEnt):=aD (xs:=EX) na (bd T (sb [1,1,0,1,2,2,1,0,2,0,2,2] vM))
noncomputable def l134_1 (T:List FEnt):=af (E6 T)
noncomputable def xS (F80:dW)(a0 a1 a2 a3:Int)(a4:List Y1):Option (KF⊕KF):=
cond (decide (a2 < a1)) (
ai (aA a2 a4.length) (
ai (ah .i64 (a2-1)) (
ai (aA (a2-1) a4.length) (
(F80 ((ix a4 a2),(ix a4 (a2-1)))).bind fun r1=>(
cond (!(decide (r1 < 0))) (
ai (ah .i64 (a2+1)) (
some (Sum.inl (a0,a1,(a2+1),a3,a4)))) (
some (Sum.inr (a0,a1,a2,a3,a4)))))))) (
some (Sum.inr (a0,a1,a2,a3,a4)))
theorem Sj (F80:dW):E6 (i7 F80)=u5 (xS F80):=funext fun _=>by kernel_rfl
noncomputable def E7:=xS P80
noncomputable def xT:TD:=af (u5 E7)
theorem Sk:l134_1 (i7 P80)=xT:=congrArg af (Sj P80)
noncomputable def E8 (T:List FEnt):=aD (xs:=EZ) EY (bd T (sb [1,1,0,1,2,2,1,0,2,1,1,1,1,0,2,1,0,1,2,2] vM))
noncomputable def l134_3 (T:List FEnt):=af (E8 T)
noncomputable def xU (F80:dW)(a0 a1 a2 a3 a4:Int)(a5:List Y1):Option Y156:=
cond (decide (1≤a4)) (
ai (aA a4 a5.length) (
ai (ah .i64 (a4-1)) (
ai (aA (a4-1) a5.length) (
(F80 ((ix a5 a4),(ix a5 (a4-1)))).bind fun r3=>(
cond (!(decide (r3 < 0))) (
some (Sum.inr (a0,a1,a2,a3,a5))) (
ai (ah .i64 (a4-1)) (
ai (ah .i64 (a4-1)) (
ai (aA (a4-1) a5.length) (
ai (aA a4 a5.length) (
ai (aA a4 a5.length) (
ai (aA (a4-1) (List.length (List.set a5 a4.toNat (ix a5 (a4-1))))) (
ai (ah .i64 (a4-1)) (
some (Sum.inl (a0,a1,a2,a3,(a4-1),(List.set (List.set a5 a4.toNat (ix a5 (a4-1))) (Int.toNat (a4-1)) (ix a5 a4))))))))))))))))) (
some (Sum.inr (a0,a1,a2,a3,a5)))
theorem Sl (F80:dW):E8 (i7 F80)=u6 (xU F80):=funext fun _=>by kernel_rfl
noncomputable def E9:=xU P80
noncomputable def xV:KJ:=af (u6 E9)
theorem Sm:l134_3 (i7 P80)=xV:=congrArg af (Sl P80)
noncomputable def l134_2 (T:List FEnt):=fp (xs:=E2) na (bd T (sb [1,1,0,1,2,2,1,0,2,1,1,1,1,0,2] vM))
noncomputable def xW (F80:dW)(l134_3:KJ)(a0 a1 a2 a3:Int)(a4:List Y1):Option KF:=
ai (ah .i64 (a2-a0)) (
cond (decide (2≤(a2-a0))) (
ai (ah .i64 (a2-1)) (
(l134_3 (a0,a1,a2,a3,(a2-1),a4)).bind fun y4=>(
some (y4.1,y4.2.1,y4.2.2.1,y4.2.2.2.1,y4.2.2.2.2)))) (
some (a0,a1,a2,a3,a4)))
theorem Sn (F80:dW):l134_2 (i7 F80)=u5 (xW F80 (l134_3 (i7 F80))):=funext fun _=>by kernel_rfl
noncomputable def Fa:=xW P80 xV
noncomputable def tJ:TD:=fun x=>Fa x.1 x.2.1 x.2.2.1 x.2.2.2.1 x.2.2.2.2
theorem So:l134_2 (i7 P80)=tJ:=(Sn P80).trans (by rw[Sm] <;> rfl)
noncomputable def Fb (T:List FEnt):=aD (xs:=E4) E3 (bd T (sb [1,1,0,1,2,2,1,0,2,1,1,1,1,1,1,0,1,2,2] vM))
noncomputable def l134_4 (T:List FEnt):=af (Fb T)
noncomputable def xX (F80:dW)(a0 a1 a2 a3 a4:Int)(a5:List Y1):Option Y156:=
cond (decide (a4 < a1)) (
ai (aA a4 a5.length) (
ai (ah .i64 (a4-1)) (
ai (aA (a4-1) a5.length) (
(F80 ((ix a5 a4),(ix a5 (a4-1)))).bind fun r6=>(
cond (!(decide (r6 < 0))) (
some (Sum.inr (a0,a1,a2,a3,a5))) (
ai (ah .i64 (a4-1)) (
ai (ah .i64 (a4-1)) (
ai (aA (a4-1) a5.length) (
ai (aA a4 a5.length) (
ai (aA a4 a5.length) (
ai (aA (a4-1) (List.length (List.set a5 a4.toNat (ix a5 (a4-1))))) (
ai (ah .i64 (a4+1)) (
some (Sum.inl (a0,a1,a2,a3,(a4+1),(List.set (List.set a5 a4.toNat (ix a5 (a4-1))) (Int.toNat (a4-1)) (ix a5 a4))))))))))))))))) (
some (Sum.inr (a0,a1,a2,a3,a5)))
theorem Sp (F80:dW):Fb (i7 F80)=u6 (xX F80):=funext fun _=>by kernel_rfl
noncomputable def Fc:=xX P80
noncomputable def xY:KJ:=af (u6 Fc)
theorem Sq:l134_4 (i7 P80)=xY:=congrArg af (Sp P80)
noncomputable def Fd (T:List FEnt):=aD (xs:=E5) na (bd T (sb [1,1,0,1,2,2] vM))
noncomputable def l134_0 (T:List FEnt):=af (Fd T)
noncomputable def xZ (F80:dW)(l134_1 l134_2:TD)(l134_4:KJ)(a0 a1 a2 a3:Int)(a4:List Y1):Option (KF⊕Y157):=
cond (decide (a3 < 5)) (
(l134_1 (a0,a1,a2,a3,a4)).bind fun y2=>(
cond (decide (y2.2.2.1=y2.2.1)) (
some (Sum.inr (Sum.inl (true,y2.2.2.2.2)))) (
ai (ah .i64 (y2.2.1-y2.1)) (
cond (decide ((y2.2.1-y2.1) < 50)) (
some (Sum.inr (Sum.inl (false,y2.2.2.2.2)))) (
ai (ah .i64 (y2.2.2.1-1)) (
ai (ah .i64 (y2.2.2.1-1)) (
ai (aA (y2.2.2.1-1) y2.2.2.2.2.length) (
ai (aA y2.2.2.1 y2.2.2.2.2.length) (
ai (aA y2.2.2.1 y2.2.2.2.2.length) (
ai (aA (y2.2.2.1-1) (List.length (List.set y2.2.2.2.2 y2.2.2.1.toNat (ix y2.2.2.2.2 (y2.2.2.1-1))))) (
(l134_2 (y2.1,y2.2.1,y2.2.2.1,y2.2.2.2.1,(List.set (List.set y2.2.2.2.2 y2.2.2.1.toNat (ix y2.2.2.2.2 (y2.2.2.1-1))) (Int.toNat (y2.2.2.1-1)) (ix y2.2.2.2.2 y2.2.2.1)))).bind fun y5=>(
ai (ah .i64 (y5.2.1-y5.2.2.1)) (
cond (decide (2≤(y5.2.1-y5.2.2.1))) (
ai (ah .i64 (y5.2.2.1+1)) (
(l134_4 (y5.1,y5.2.1,y5.2.2.1,y5.2.2.2.1,(y5.2.2.1+1),y5.2.2.2.2)).bind fun y7=>(
ai (ah .i64 (y7.2.2.2.1+1)) (
some (Sum.inl (y7.1,y7.2.1,y7.2.2.1,(y7.2.2.2.1+1),y7.2.2.2.2)))))) (
ai (ah .i64 (y5.2.2.2.1+1)) (
some (Sum.inl (y5.1,y5.2.1,y5.2.2.1,(y5.2.2.2.1+1),y5.2.2.2.2))))))))))))))))) (
some (Sum.inr (Sum.inr a4)))
theorem Sr (F80:dW):Fd (i7 F80)=u5 (xZ F80 (l134_1 (i7 F80)) (l134_2 (i7 F80)) (l134_4 (i7 F80))):=funext fun _=>by kernel_rfl
noncomputable def Fe:=xZ P80 xT tJ xY
noncomputable def x4:Y168:=af (u5 Fe)
theorem Ss:l134_0 (i7 P80)=x4:=congrArg af ((Sr P80).trans (by rw[Sk,So,Sq] <;> rfl))
theorem W1:L.Fn Try.prog 134 141 [(.t 8)] (erase vM):=oA Try.func134
def Ak:FSh:=⟨⟨Vc,dt⟩,Js,1,⟨⟨fE,dt⟩,[.bool,bc],[0],1⟩,false⟩
noncomputable def Su (F80:dW)(l134_0:Y168)(a0 a1:Int)(a2:List Y1):Option TB:=
ai (ah .i64 (a0+1)) (
(l134_0 (a0,a1,(a0+1),0,a2)).bind (fun y8=>Sum.elim (fun y9=>(
some (y9.1,y9.2))) (fun y10=>(
some (false,y10))) y8))
theorem g134 (F80:dW):aK (i7 F80) Ak [(.t 8)] vM=u3 (Su F80 (l134_0 (i7 F80))):=funext fun _=>by kernel_rfl
noncomputable def W2:=Su P80 x4
noncomputable def ic:oe:=u3 W2
theorem v134:aK (i7 P80) Ak [(.t 8)] vM=ic:=(g134 P80).trans (by rw[Ss] <;> rfl)
theorem d134:DC Try.prog 134 Ak ic:=dD v134 t134 W1
noncomputable def n8 (F80:dW):List FEnt:=[⟨80,qG,F80⟩]
theorem t135:al Try.prog (n8 P80):=dK aj RE
def nc:LSh:=⟨[0,1,4,11,12],⟨Mo,dt⟩,vF,1,[0]⟩
def Ff:List XSh:=[⟨(.exit 2),[0,1,4,11,12],⟨⟨Mo,dt⟩,vF,[0],1⟩⟩]
def Fg:List XSh:=[⟨(.exit 4),[0,1,4,11,12],⟨⟨Mo,dt⟩,vF,[0],1⟩⟩]
def Fh:List XSh:=[⟨(.exit 0),[11],⟨⟨lZ,dt⟩,[y7,bc],[0],1⟩⟩]
noncomputable def Cm:=bK Try.prog [] Try.f135 (.s .n (.s .n (.s .n (.s (.b (.l nc Fh (.b (.s (.b (.l nc Ff .n)) (.s (.b (.l nc Fg .n)) .n))))) .n))))
noncomputable def Fi (T:List FEnt):=aD (xs:=Ff) nc (bd T (sb [1,1,1,0,2,2,2,0,2,2] Cm))
noncomputable def l135_1 (T:List FEnt):=af (Fi T)
noncomputable def x5 (F80:dW)(a0 a1 a2:Int)(a3:List Y1):Option CA:=
cond (decide (a1≤a2)) (
ai (aA a0 a3.length) (
ai (aA a1 a3.length) (
(F80 ((ix a3 a0),(ix a3 a1))).bind fun r1=>(
cond (!(decide (r1 < 0))) (
ai (ah .i64 (a1+1)) (
some (Sum.inl (a0,(a1+1),a2,a3)))) (
some (Sum.inr (a0,a1,a2,a3))))))) (
some (Sum.inr (a0,a1,a2,a3)))
theorem Sv (F80:dW):Fi (n8 F80)=u4 (x5 F80):=funext fun _=>by kernel_rfl
noncomputable def Fj:=x5 P80
noncomputable def x6:tZ:=af (u4 Fj)
theorem Sw:l135_1 (n8 P80)=x6:=congrArg af (Sv P80)
noncomputable def Fk (T:List FEnt):=aD (xs:=Fg) nc (bd T (sb [1,1,1,0,2,2,2,1,0,2,2] Cm))
noncomputable def l135_2 (T:List FEnt):=af (Fk T)
noncomputable def x7 (F80:dW)(a0 a1 a2:Int)(a3:List Y1):Option CA:=
cond (decide (a1≤a2)) (
ai (aA a0 a3.length) (
ai (aA a2 a3.length) (
(F80 ((ix a3 a0),(ix a3 a2))).bind fun r3=>(
cond (decide (r3 < 0)) (
ai (ah .i64 (a2-1)) (
some (Sum.inl (a0,a1,(a2-1),a3)))) (
some (Sum.inr (a0,a1,a2,a3))))))) (
some (Sum.inr (a0,a1,a2,a3)))
theorem Sx (F80:dW):Fk (n8 F80)=u4 (x7 F80):=funext fun _=>by kernel_rfl
noncomputable def Fl:=x7 P80
noncomputable def x8:tZ:=af (u4 Fl)
theorem Sy:l135_2 (n8 P80)=x8:=congrArg af (Sx P80)
noncomputable def Fm (T:List FEnt):=aD (xs:=Fh) nc (bd T (sb [1,1,1,0,2,2] Cm))
noncomputable def l135_0 (T:List FEnt):=af (Fm T)
noncomputable def x9 (F80:dW)(l135_1 l135_2:tZ)(a0 a1 a2:Int)(a3:List Y1):Option (KE⊕PW):=
(l135_1 (a0,a1,a2,a3)).bind fun y2=>(
(l135_2 (y2.1,y2.2.1,y2.2.2.1,y2.2.2.2)).bind fun y4=>(
cond (decide (y4.2.2.1 < y4.2.1)) (
some (Sum.inr (y4.2.1,y4.2.2.2))) (
ai (aA y4.2.2.1 y4.2.2.2.length) (
ai (aA y4.2.1 y4.2.2.2.length) (
ai (aA y4.2.1 y4.2.2.2.length) (
ai (aA y4.2.2.1 (List.length (List.set y4.2.2.2 y4.2.1.toNat (ix y4.2.2.2 y4.2.2.1)))) (
ai (ah .i64 (y4.2.1+1)) (
ai (ah .i64 (y4.2.2.1-1)) (
some (Sum.inl (y4.1,(y4.2.1+1),(y4.2.2.1-1),(List.set (List.set y4.2.2.2 y4.2.1.toNat (ix y4.2.2.2 y4.2.2.1)) y4.2.2.1.toNat (ix y4.2.2.2 y4.2.1)))))))))))))
theorem Sz (F80:dW):Fm (n8 F80)=u4 (x9 F80 (l135_1 (n8 F80)) (l135_2 (n8 F80))):=funext fun _=>by kernel_rfl
noncomputable def Fo:=x9 P80 x6 x8
noncomputable def ya:ma:=af (u4 Fo)
theorem SA:l135_0 (n8 P80)=ya:=congrArg af ((Sz P80).trans (by rw[Sw,Sy] <;> rfl))
theorem W3:L.Fn Try.prog 135 90 [(.t 10)] (erase Cm):=oA Try.func135
def Al:FSh:=⟨⟨j16,dt⟩,vF,1,⟨⟨lZ,dt⟩,[y7,bc],[0],1⟩,false⟩
noncomputable def SB (F80:dW)(l135_0:ma)(a0 a1 a2:Int)(a3:List Y1):Option PW:=
ai (aA a2 a3.length) (
ai (aA a0 a3.length) (
ai (aA a0 a3.length) (
ai (aA a2 (List.length (List.set a3 a0.toNat (ix a3 a2)))) (
ai (ah .i64 (a0+1)) (
ai (ah .i64 (a1-1)) (
(l135_0 (a0,(a0+1),(a1-1),(List.set (List.set a3 a0.toNat (ix a3 a2)) a2.toNat (ix a3 a0)))).bind fun y5=>(
some (y5.1,y5.2))))))))
theorem g135 (F80:dW):aK (n8 F80) Al [(.t 10)] Cm=u4 (SB F80 (l135_0 (n8 F80))):=funext fun _=>by kernel_rfl
noncomputable def W5:=SB P80 ya
noncomputable def ig:ma:=u4 W5
theorem v135:aK (n8 P80) Al [(.t 10)] Cm=ig:=(g135 P80).trans (by rw[SA] <;> rfl)
theorem d135:DC Try.prog 135 Al ig:=dD v135 t135 W3
noncomputable def i8 (F80:dW):List FEnt:=[⟨80,qG,F80⟩]
theorem t136:al Try.prog (i8 P80):=dK aj RE
def gC:LSh:=⟨[0,1,4,12,13],⟨Mo,dt⟩,vF,1,[0]⟩
def Fp:List XSh:=[⟨(.exit 0),[0,1,4,12,13],⟨⟨Mo,dt⟩,vF,[0],1⟩⟩]
def Fq:List XSh:=[⟨(.exit 2),[0,1,4,12,13],⟨⟨Mo,dt⟩,vF,[0],1⟩⟩]
def Fs:List XSh:=[⟨(.exit 6),[0,1,4,12,13],⟨⟨Mo,dt⟩,vF,[0],1⟩⟩]
def Ft:List XSh:=[⟨(.exit 8),[0,1,4,12,13],⟨⟨Mo,dt⟩,vF,[0],1⟩⟩]
def Fu:List XSh:=[⟨(.exit 4),[0,1,13],⟨⟨Ig,dt⟩,Js,[0],1⟩⟩]
noncomputable def vN:=bK Try.prog [] Try.f136 (.s .n (.s .n (.s .n (.s (.b (.l gC Fp .n)) (.s (.b (.l gC Fq .n)) (.s .n (.s .n (.s .n (.s .n (.s (.b (.l gC Fu (.b (.s (.b (.l gC Fs .n)) (.s (.b (.l gC Ft .n)) .n))))) .n))))))))))
noncomputable def Fv (T:List FEnt):=aD (xs:=Fp) gC (bd T (sb [1,1,1,0,2,2] vN))
noncomputable def l136_0 (T:List FEnt):=af (Fv T)
noncomputable def yb (F80:dW)(a0 a1 a2:Int)(a3:List Y1):Option CA:=
cond (decide (a1≤a2)) (
ai (aA a1 a3.length) (
ai (aA a0 a3.length) (
(F80 ((ix a3 a1),(ix a3 a0))).bind fun r1=>(
cond (decide (r1 < 0)) (
ai (ah .i64 (a1+1)) (
some (Sum.inl (a0,(a1+1),a2,a3)))) (
some (Sum.inr (a0,a1,a2,a3))))))) (
some (Sum.inr (a0,a1,a2,a3)))
theorem SC (F80:dW):Fv (i8 F80)=u4 (yb F80):=funext fun _=>by kernel_rfl
noncomputable def Fw:=yb P80
noncomputable def yc:tZ:=af (u4 Fw)
theorem SD:l136_0 (i8 P80)=yc:=congrArg af (SC P80)
noncomputable def Fx (T:List FEnt):=aD (xs:=Fq) gC (bd T (sb [1,1,1,1,0,2,2] vN))
noncomputable def l136_1 (T:List FEnt):=af (Fx T)
noncomputable def yd (F80:dW)(a0 a1 a2:Int)(a3:List Y1):Option CA:=
cond (decide (a1≤a2)) (
ai (aA a2 a3.length) (
ai (aA a0 a3.length) (
(F80 ((ix a3 a2),(ix a3 a0))).bind fun r3=>(
cond (!(decide (r3 < 0))) (
ai (ah .i64 (a2-1)) (
some (Sum.inl (a0,a1,(a2-1),a3)))) (
some (Sum.inr (a0,a1,a2,a3))))))) (
some (Sum.inr (a0,a1,a2,a3)))
theorem SE (F80:dW):Fx (i8 F80)=u4 (yd F80):=funext fun _=>by kernel_rfl
noncomputable def Fy:=yd P80
noncomputable def ye:tZ:=af (u4 Fy)
theorem SF:l136_1 (i8 P80)=ye:=congrArg af (SE P80)
noncomputable def Fz (T:List FEnt):=aD (xs:=Fs) gC (bd T (sb [1,1,1,1,1,1,1,1,1,0,2,2,2,0,2,2] vN))
noncomputable def l136_3 (T:List FEnt):=af (Fz T)
noncomputable def yf (F80:dW)(a0 a1 a2:Int)(a3:List Y1):Option CA:=
cond (decide (a1≤a2)) (
ai (aA a1 a3.length) (
ai (aA a0 a3.length) (
(F80 ((ix a3 a1),(ix a3 a0))).bind fun r5=>(
cond (decide (r5 < 0)) (
ai (ah .i64 (a1+1)) (
some (Sum.inl (a0,(a1+1),a2,a3)))) (
some (Sum.inr (a0,a1,a2,a3))))))) (
some (Sum.inr (a0,a1,a2,a3)))
theorem SG (F80:dW):Fz (i8 F80)=u4 (yf F80):=funext fun _=>by kernel_rfl
noncomputable def FA:=yf P80
noncomputable def yg:tZ:=af (u4 FA)
theorem SH:l136_3 (i8 P80)=yg:=congrArg af (SG P80)
noncomputable def FB (T:List FEnt):=aD (xs:=Ft) gC (bd T (sb [1,1,1,1,1,1,1,1,1,0,2,2,2,1,0,2,2] vN))
noncomputable def l136_4 (T:List FEnt):=af (FB T)
noncomputable def yh (F80:dW)(a0 a1 a2:Int)(a3:List Y1):Option CA:=
cond (decide (a1≤a2)) (
ai (aA a2 a3.length) (
ai (aA a0 a3.length) (
(F80 ((ix a3 a2),(ix a3 a0))).bind fun r7=>(
cond (!(decide (r7 < 0))) (
ai (ah .i64 (a2-1)) (
some (Sum.inl (a0,a1,(a2-1),a3)))) (
some (Sum.inr (a0,a1,a2,a3))))))) (
some (Sum.inr (a0,a1,a2,a3)))
theorem SI (F80:dW):FB (i8 F80)=u4 (yh F80):=funext fun _=>by kernel_rfl
noncomputable def FC:=yh P80
noncomputable def yi:tZ:=af (u4 FC)
theorem SJ:l136_4 (i8 P80)=yi:=congrArg af (SI P80)
noncomputable def FD (T:List FEnt):=aD (xs:=Fu) gC (bd T (sb [1,1,1,1,1,1,1,1,1,0,2,2] vN))
noncomputable def l136_2 (T:List FEnt):=af (FD T)
noncomputable def yj (F80:dW)(l136_3 l136_4:tZ)(a0 a1 a2:Int)(a3:List Y1):Option (KE⊕Y97):=
(l136_3 (a0,a1,a2,a3)).bind fun y6=>(
(l136_4 (y6.1,y6.2.1,y6.2.2.1,y6.2.2.2)).bind fun y8=>(
cond (decide (y8.2.2.1 < y8.2.1)) (
some (Sum.inr (y8.1,y8.2.2.1,y8.2.2.2))) (
ai (aA y8.2.2.1 y8.2.2.2.length) (
ai (aA y8.2.1 y8.2.2.2.length) (
ai (aA y8.2.1 y8.2.2.2.length) (
ai (aA y8.2.2.1 (List.length (List.set y8.2.2.2 y8.2.1.toNat (ix y8.2.2.2 y8.2.2.1)))) (
ai (ah .i64 (y8.2.1+1)) (
ai (ah .i64 (y8.2.2.1-1)) (
some (Sum.inl (y8.1,(y8.2.1+1),(y8.2.2.1-1),(List.set (List.set y8.2.2.2 y8.2.1.toNat (ix y8.2.2.2 y8.2.2.1)) y8.2.2.1.toNat (ix y8.2.2.2 y8.2.1)))))))))))))
theorem SK (F80:dW):FD (i8 F80)=u4 (yj F80 (l136_3 (i8 F80)) (l136_4 (i8 F80))):=funext fun _=>by kernel_rfl
noncomputable def FE:=yj P80 yg yi
noncomputable def yk:Y147:=af (u4 FE)
theorem SL:l136_2 (i8 P80)=yk:=congrArg af ((SK P80).trans (by rw[SH,SJ] <;> rfl))
theorem W6:L.Fn Try.prog 136 178 [(.t 10),(.t 11)] (erase vN):=oA Try.func136
def Am:FSh:=⟨⟨j16,dt⟩,vF,1,⟨⟨[(.tup [(.v y7),(.v .bool)])],dt⟩,[y7,.bool,bc],[0],1⟩,false⟩
noncomputable def SM (F80:dW)(l136_0 l136_1:tZ)(l136_2:Y147)(a0 a1 a2:Int)(a3:List Y1):Option Y135:=
ai (aA a2 a3.length) (
ai (aA a0 a3.length) (
ai (aA a0 a3.length) (
ai (aA a2 (List.length (List.set a3 a0.toNat (ix a3 a2)))) (
ai (ah .i64 (a0+1)) (
ai (ah .i64 (a1-1)) (
(l136_0 (a0,(a0+1),(a1-1),(List.set (List.set a3 a0.toNat (ix a3 a2)) a2.toNat (ix a3 a0)))).bind fun y2=>(
(l136_1 (y2.1,y2.2.1,y2.2.2.1,y2.2.2.2)).bind fun y4=>(
cond (decide (y4.2.2.1 < y4.2.1)) (
ai (aA y4.1 y4.2.2.2.length) (
ai (aA y4.2.2.1 y4.2.2.2.length) (
ai (aA y4.2.2.1 y4.2.2.2.length) (
ai (aA y4.1 (List.length (List.set y4.2.2.2 y4.2.2.1.toNat (ix y4.2.2.2 y4.1)))) (
some (y4.2.2.1,true,(List.set (List.set y4.2.2.2 y4.2.2.1.toNat (ix y4.2.2.2 y4.1)) y4.1.toNat (ix y4.2.2.2 y4.2.2.1)))))))) (
ai (aA y4.2.2.1 y4.2.2.2.length) (
ai (aA y4.2.1 y4.2.2.2.length) (
ai (aA y4.2.1 y4.2.2.2.length) (
ai (aA y4.2.2.1 (List.length (List.set y4.2.2.2 y4.2.1.toNat (ix y4.2.2.2 y4.2.2.1)))) (
ai (ah .i64 (y4.2.1+1)) (
ai (ah .i64 (y4.2.2.1-1)) (
(l136_2 (y4.1,(y4.2.1+1),(y4.2.2.1-1),(List.set (List.set y4.2.2.2 y4.2.1.toNat (ix y4.2.2.2 y4.2.2.1)) y4.2.2.1.toNat (ix y4.2.2.2 y4.2.1)))).bind fun y9=>(
ai (aA y9.1 y9.2.2.length) (
ai (aA y9.2.1 y9.2.2.length) (
ai (aA y9.2.1 y9.2.2.length) (
ai (aA y9.1 (List.length (List.set y9.2.2 y9.2.1.toNat (ix y9.2.2 y9.1)))) (
some (y9.2.1,false,(List.set (List.set y9.2.2 y9.2.1.toNat (ix y9.2.2 y9.1)) y9.1.toNat (ix y9.2.2 y9.2.1)))))))))))))))))))))))
theorem g136 (F80:dW):aK (i8 F80) Am [(.t 10),(.t 11)] vN=u4 (SM F80 (l136_0 (i8 F80)) (l136_1 (i8 F80)) (l136_2 (i8 F80))):=funext fun _=>by kernel_rfl
noncomputable def W7:=SM P80 yc ye yk
noncomputable def gD:og:=u4 W7
theorem v136:aK (i8 P80) Am [(.t 10),(.t 11)] vN=gD:=(g136 P80).trans (by rw[SD,SF,SL] <;> rfl)
theorem d136:DC Try.prog 136 Am gD:=dD v136 t136 W6
def l6:FSh:=⟨⟨j16,dt⟩,vF,1,⟨⟨pX,dt⟩,[bc],[0],1⟩,false⟩
noncomputable def lp (F129:ly)(F130:ly)(F131:ly)(F132:od)(F133:ly)(F134:oe)(F80:dW)(F135:ma)(F136:og)(F124:gH):List FEnt:=[⟨129,Ac,F129⟩,⟨130,Ae,F130⟩,⟨131,Af,F131⟩,⟨132,Ai,F132⟩,⟨133,Aj,F133⟩,⟨134,Ak,F134⟩,⟨80,qG,F80⟩,⟨135,Al,F135⟩,⟨136,Am,F136⟩,⟨124,l6,F124⟩]
theorem t124 (F124:gH)(h:DC Try.prog 124 l6 F124):al Try.prog (lp gZ hU gB ia ib ic P80 ig gD F124):=(aL d129 (by kernel_rfl) (aL d130 (by kernel_rfl) (aL d131 (by kernel_rfl) (aL d132 (by kernel_rfl) (aL d133 (by kernel_rfl) (aL d134 (by kernel_rfl) (aL RE (by kernel_rfl) (aL d135 (by kernel_rfl) (aL d136 (by kernel_rfl) (aL h (by kernel_rfl) aj))))))))))
def FF:LSh:=⟨[0,1,2,3,4,10,11,12],⟨j7,dt⟩,[y7,y7,y7,.bool,.bool,y7,bc],1,[0]⟩
def FG:List XSh:=[⟨.normal,[0,1,2,3,4,10,11,12],⟨⟨j7,dt⟩,[y7,y7,y7,.bool,.bool,y7,bc],[0],1⟩⟩]
def tK:LSh:=⟨[0,1,2,3,4,10,11,12,13,14],⟨j4,dt⟩,z6,1,[0]⟩
def FH:List XSh:=[⟨.normal,[0,1,2,3,4,10,11,12,13,14],⟨⟨j4,dt⟩,z6,[0],1⟩⟩]
def FI:List XSh:=[⟨.ret,[],⟨⟨[],dt⟩,[bc],[0],1⟩⟩,⟨.normal,[0,1,2,3,4,10,11,12,13],⟨⟨[(.slc 0),(.v y7),(.v y7),(.v y7),(.fn 80 []),(.v .bool),(.v .bool),(.v y7),(.v y7)],dt⟩,[y7,y7,y7,.bool,.bool,y7,y7,bc],[0],1⟩⟩]
def FJ:LSh:=⟨[0,1,2,3,4,10,11],⟨[(.slc 0),(.v y7),(.v y7),(.v y7),(.fn 80 []),(.v .bool),(.v .bool)],dt⟩,[y7,y7,y7,.bool,.bool,bc],1,[0]⟩
def FK:List XSh:=[⟨.ret,[],⟨⟨[],dt⟩,[bc],[0],1⟩⟩]
noncomputable def yl:=bK Try.prog [] Try.f124 (.s .n (.s .n (.b (.l FJ FK (.b (.s .n (.s .n (.s .n (.s (.o FF FG .n) (.s .n (.s (.o tK FH .n) (.s (.o tK FI .n) .n))))))))))))
noncomputable def l124_1 (T:List FEnt):=fp (xs:=FG) FF (bd T (sb [1,1,2,2,2,1,1,1,0,2] yl))
noncomputable def tL (F129 F130 F131:ly)(F132:od)(F133:ly)(F134:oe)(F80:dW)(F135:ma)(F136:og)(F124:gH)(a0 a1 a2:Int)(a3 a4:Bool)(a5:Int)(a6:List Y1):Option Y132:=
cond (!a3) (
(F131 (a0,a1,a6)).bind fun r3=>(
ai (ah .i64 (a2-1)) (
some (a0,a1,(a2-1),a3,a4,a5,r3)))) (
some (a0,a1,a2,a3,a4,a5,a6))
theorem SN (F129 F130 F131:ly)(F132:od)(F133:ly)(F134:oe)(F80:dW)(F135:ma)(F136:og)(F124:gH):l124_1 (lp F129 F130 F131 F132 F133 F134 F80 F135 F136 F124)=u7 (tL F129 F130 F131 F132 F133 F134 F80 F135 F136 F124):=funext fun _=>by kernel_rfl
noncomputable def ym (F124:gH):=tL gZ hU gB ia ib ic P80 ig gD F124
noncomputable def pZ (F124:gH):Y149:=fun x=>ym F124 x.1 x.2.1 x.2.2.1 x.2.2.2.1 x.2.2.2.2.1 x.2.2.2.2.2.1 x.2.2.2.2.2.2
theorem SO (F124:gH):l124_1 (lp gZ hU gB ia ib ic P80 ig gD F124)=pZ F124:=SN gZ hU gB ia ib ic P80 ig gD F124
noncomputable def l124_2 (T:List FEnt):=fp (xs:=FH) tK (bd T (sb [1,1,2,2,2,1,1,1,1,1,0,2] yl))
noncomputable def yn (F129 F130 F131:ly)(F132:od)(F133:ly)(F134:oe)(F80:dW)(F135:ma)(F136:og)(F124:gH)(a0 a1 a2:Int)(a3 a4:Bool)(a5 a6 a7:Int)(a8:List Y1):Option Y133:=
cond (decide (a7=2)) (
(F133 (a0,a1,a8)).bind fun r6=>(
ai (ah .i64 (a1-1)) (
ai (ah .i64 (a6-a0)) (
ai (ah .i64 ((a1-1)-(a6-a0))) (
some (a0,a1,a2,a3,a4,a5,((a1-1)-(a6-a0)),1,r6)))))) (
some (a0,a1,a2,a3,a4,a5,a6,a7,a8))
theorem SP (F129 F130 F131:ly)(F132:od)(F133:ly)(F134:oe)(F80:dW)(F135:ma)(F136:og)(F124:gH):l124_2 (lp F129 F130 F131 F132 F133 F134 F80 F135 F136 F124)=u9 (yn F129 F130 F131 F132 F133 F134 F80 F135 F136 F124):=funext fun _=>by kernel_rfl
noncomputable def FL (F124:gH):=yn gZ hU gB ia ib ic P80 ig gD F124
noncomputable def tM (F124:gH):Y150:=fun x=>FL F124 x.1 x.2.1 x.2.2.1 x.2.2.2.1 x.2.2.2.2.1 x.2.2.2.2.2.1 x.2.2.2.2.2.2.1 x.2.2.2.2.2.2.2.1 x.2.2.2.2.2.2.2.2
theorem SQ (F124:gH):l124_2 (lp gZ hU gB ia ib ic P80 ig gD F124)=tM F124:=SP gZ hU gB ia ib ic P80 ig gD F124
noncomputable def l124_3 (T:List FEnt):=fp (xs:=FI) tK (bd T (sb [1,1,2,2,2,1,1,1,1,1,1,0,2] yl))
noncomputable def yo (F129 F130 F131:ly)(F132:od)(F133:ly)(F134:oe)(F80:dW)(F135:ma)(F136:og)(F124:gH)(a0 a1 a2:Int)(a3 a4:Bool)(a5 a6 a7:Int)(a8:List Y1):Option Y161:=
cond a3 (
cond a4 (
cond (decide (a7=1)) (
(F134 (a0,a1,a8)).bind fun r8=>(
cond r8.1 (
some (Sum.inl r8.2)) (
some (Sum.inr (a0,a1,a2,a3,a4,a5,a6,r8.2))))) (
some (Sum.inr (a0,a1,a2,a3,a4,a5,a6,a8)))) (
some (Sum.inr (a0,a1,a2,a3,a4,a5,a6,a8)))) (
some (Sum.inr (a0,a1,a2,a3,a4,a5,a6,a8)))
theorem SR (F129 F130 F131:ly)(F132:od)(F133:ly)(F134:oe)(F80:dW)(F135:ma)(F136:og)(F124:gH):l124_3 (lp F129 F130 F131 F132 F133 F134 F80 F135 F136 F124)=u9 (yo F129 F130 F131 F132 F133 F134 F80 F135 F136 F124):=funext fun _=>by kernel_rfl
noncomputable def FM (F124:gH):=yo gZ hU gB ia ib ic P80 ig gD F124
noncomputable def tN (F124:gH):Y172:=fun x=>FM F124 x.1 x.2.1 x.2.2.1 x.2.2.2.1 x.2.2.2.2.1 x.2.2.2.2.2.1 x.2.2.2.2.2.2.1 x.2.2.2.2.2.2.2.1 x.2.2.2.2.2.2.2.2
theorem SS (F124:gH):l124_3 (lp gZ hU gB ia ib ic P80 ig gD F124)=tN F124:=SR gZ hU gB ia ib ic P80 ig gD F124
noncomputable def FN (T:List FEnt):=aD (xs:=FK) FJ (bd T (sb [1,1,2,2] yl))
noncomputable def l124_0 (T:List FEnt):=af (FN T)
noncomputable def p9 (F129 F130 F131:ly)(F132:od)(F133:ly)(F134:oe)(F80:dW)(F135:ma)(F136:og)(F124:gH)(l124_1:Y149)(l124_2:Y150)(l124_3:Y172)(a0 a1 a2:Int)(a3 a4:Bool)(a5:List Y1):Option ((Int×Int×Int×Bool×Bool×Y8)⊕Y8):=
ai (ah .i64 (a1-a0)) (
cond (decide ((a1-a0)≤12)) (
(F129 (a0,a1,a5)).bind fun r1=>(
some (Sum.inr r1))) (
cond (decide (a2=0)) (
(F130 (a0,a1,a5)).bind fun r2=>(
some (Sum.inr r2))) (
(l124_1 (a0,a1,a2,a3,a4,(a1-a0),a5)).bind fun y4=>(
(F132 (y4.1,y4.2.1,y4.2.2.2.2.2.2)).bind fun r5=>(
(l124_2 (y4.1,y4.2.1,y4.2.2.1,y4.2.2.2.1,y4.2.2.2.2.1,y4.2.2.2.2.2.1,r5.1,r5.2.1,r5.2.2)).bind fun y7=>(
(l124_3 (y7.1,y7.2.1,y7.2.2.1,y7.2.2.2.1,y7.2.2.2.2.1,y7.2.2.2.2.2.1,y7.2.2.2.2.2.2.1,y7.2.2.2.2.2.2.2.1,y7.2.2.2.2.2.2.2.2)).bind (fun y9=>Sum.elim (fun y10=>(
some (Sum.inr y10))) (fun y11=>(
cond (decide (0 < y11.1)) (
ai (ah .i64 (y11.1-1)) (
ai (aA (y11.1-1) y11.2.2.2.2.2.2.2.length) (
ai (aA y11.2.2.2.2.2.2.1 y11.2.2.2.2.2.2.2.length) (
(F80 ((ix y11.2.2.2.2.2.2.2 (y11.1-1)),(ix y11.2.2.2.2.2.2.2 y11.2.2.2.2.2.2.1))).bind fun r12=>(
cond (!(decide (r12 < 0))) (
(F135 (y11.1,y11.2.1,y11.2.2.2.2.2.2.1,y11.2.2.2.2.2.2.2)).bind fun r13=>(
some (Sum.inl (r13.1,y11.2.1,y11.2.2.1,y11.2.2.2.1,y11.2.2.2.2.1,r13.2)))) (
(F136 (y11.1,y11.2.1,y11.2.2.2.2.2.2.1,y11.2.2.2.2.2.2.2)).bind fun r14=>(
ai (ah .i64 (r14.1-y11.1)) (
ai (ah .i64 (y11.2.1-r14.1)) (
ai (ah .i64 (Int.tdiv y11.2.2.2.2.2.1 8)) (
cond (decide ((r14.1-y11.1) < (y11.2.1-r14.1))) (
(F124 (y11.1,r14.1,y11.2.2.1,r14.2.2)).bind fun r15=>(
ai (ah .i64 (r14.1+1)) (
some (Sum.inl ((r14.1+1),y11.2.1,y11.2.2.1,decide ((Int.tdiv y11.2.2.2.2.2.1 8)≤(r14.1-y11.1)),r14.2.1,r15))))) (
ai (ah .i64 (r14.1+1)) (
(F124 ((r14.1+1),y11.2.1,y11.2.2.1,r14.2.2)).bind fun r16=>(
some (Sum.inl (y11.1,r14.1,y11.2.2.1,decide ((Int.tdiv y11.2.2.2.2.2.1 8)≤(y11.2.1-r14.1)),r14.2.1,r16))))))))))))))) (
(F136 (y11.1,y11.2.1,y11.2.2.2.2.2.2.1,y11.2.2.2.2.2.2.2)).bind fun r17=>(
ai (ah .i64 (r17.1-y11.1)) (
ai (ah .i64 (y11.2.1-r17.1)) (
ai (ah .i64 (Int.tdiv y11.2.2.2.2.2.1 8)) (
cond (decide ((r17.1-y11.1) < (y11.2.1-r17.1))) (
(F124 (y11.1,r17.1,y11.2.2.1,r17.2.2)).bind fun r18=>(
ai (ah .i64 (r17.1+1)) (
some (Sum.inl ((r17.1+1),y11.2.1,y11.2.2.1,decide ((Int.tdiv y11.2.2.2.2.2.1 8)≤(r17.1-y11.1)),r17.2.1,r18))))) (
ai (ah .i64 (r17.1+1)) (
(F124 ((r17.1+1),y11.2.1,y11.2.2.1,r17.2.2)).bind fun r19=>(
some (Sum.inl (y11.1,r17.1,y11.2.2.1,decide ((Int.tdiv y11.2.2.2.2.2.1 8)≤(y11.2.1-r17.1)),r17.2.1,r19)))))))))))) y9)))))))
theorem ST (F129 F130 F131:ly)(F132:od)(F133:ly)(F134:oe)(F80:dW)(F135:ma)(F136:og)(F124:gH):FN (lp F129 F130 F131 F132 F133 F134 F80 F135 F136 F124)=u6 (p9 F129 F130 F131 F132 F133 F134 F80 F135 F136 F124 (l124_1 (lp F129 F130 F131 F132 F133 F134 F80 F135 F136 F124)) (l124_2 (lp F129 F130 F131 F132 F133 F134 F80 F135 F136 F124)) (l124_3 (lp F129 F130 F131 F132 F133 F134 F80 F135 F136 F124))):=funext fun _=>by kernel_rfl
noncomputable def lq (F124:gH):=p9 gZ hU gB ia ib ic P80 ig gD F124 (pZ F124) (tM F124) (tN F124)
noncomputable def tO (F124:gH):Y131:=af (u6 (lq F124))
theorem SU (F124:gH):l124_0 (lp gZ hU gB ia ib ic P80 ig gD F124)=tO F124:=congrArg af ((ST gZ hU gB ia ib ic P80 ig gD F124).trans (by rw[SO F124,SQ F124,SS F124] <;> rfl))
theorem Mp:L.Fn Try.prog 124 148 [] (erase yl):=oA Try.func124
noncomputable def JK (F129 F130 F131:ly)(F132:od)(F133:ly)(F134:oe)(F80:dW)(F135:ma)(F136:og)(F124:gH)(l124_0:Y131)(a0 a1 a2:Int)(a3:List Y1):Option Y8:=
(l124_0 (a0,a1,a2,true,true,a3)).bind fun y20=>(
some y20)
theorem g124 (F129 F130 F131:ly)(F132:od)(F133:ly)(F134:oe)(F80:dW)(F135:ma)(F136:og)(F124:gH):aK (lp F129 F130 F131 F132 F133 F134 F80 F135 F136 F124) l6 [] yl=u4 (JK F129 F130 F131 F132 F133 F134 F80 F135 F136 F124 (l124_0 (lp F129 F130 F131 F132 F133 F134 F80 F135 F136 F124))):=funext fun _=>by kernel_rfl
noncomputable def Cn (F124:gH):=JK gZ hU gB ia ib ic P80 ig gD F124 (tO F124)
noncomputable def i9:Nat→Int×Int×Int×Y8→Option Y8
  | 0=>fun _=>none
  | n+1=>fun x=>Cn (i9 n) x.1 x.2.1 x.2.2.1 x.2.2.2
noncomputable def P124:gH:=i9 18446744073709551616
theorem v124 (F124:gH):aK (lp gZ hU gB ia ib ic P80 ig gD F124) l6 [] yl=fun x=>Cn F124 x.1 x.2.1 x.2.2.1 x.2.2.2:=(g124 gZ hU gB ia ib ic P80 ig gD F124).trans (by rw[SU F124] <;> rfl)
theorem W8:∀ n,DC Try.prog 124 l6 (i9 n)
  | 0=>zK (eL (sh:=l6) aj Mp (by kernel_rfl)).1
  | n+1=>vt (v124 (i9 n)) (eL (sh:=l6) (t124 (i9 n) (W8 n)) Mp (by kernel_rfl))
theorem d124:DC Try.prog 124 l6 P124:=W8 _
noncomputable def SW (F67:oc)(F124:gH):List FEnt:=[⟨67,Ci,F67⟩,⟨124,l6,F124⟩]
theorem t109:al Try.prog (SW P67 P124):=dK (dK aj d124) d67
noncomputable def SX:=bK Try.prog [] Try.f109 .n
theorem W9:L.Fn Try.prog 109 14 [] (erase SX):=oA Try.func109
def An:FSh:=⟨⟨[(.slc 0),(.fn 80 [])],dt⟩,[bc],1,⟨⟨pX,dt⟩,[bc],[0],1⟩,false⟩
noncomputable def SY (F67:oc)(F124:gH)(a0:List Y1):Option Y8:=
ai (ah .u64 (↑a0.length:Int)) (
(F67 (↑a0.length:Int)).bind fun r1=>(
(F124 (0,(↑a0.length:Int),r1,a0)).bind fun r2=>(
some r2)))
theorem g109 (F67:oc)(F124:gH)(a0:List Y1):aK (SW F67 F124) An [] SX a0=SY F67 F124 a0:=by kernel_rfl
noncomputable def Xa:=SY P67 P124
noncomputable def P109:nl:=fun x=>Xa x
theorem v109:aK (SW P67 P124) An [] SX=P109:=funext fun x=>(g109 P67 P124 x)
theorem d109:DC Try.prog 109 An P109:=dD v109 t109 W9
noncomputable def T78 (F108:nl)(F109:nl):List FEnt:=[⟨108,zX,F108⟩,⟨109,An,F109⟩]
theorem t78:al Try.prog (T78 P108 P109):=dK (dK aj d109) d108
noncomputable def c78:=bK Try.prog [] Try.f78 .n
theorem ok78:L.Fn Try.prog 78 12 [(.t 4)] (erase c78):=oA Try.func78
def JL:FSh:=⟨⟨[(.fn 110 If),(.fn 80 [])],[(0,(.boxT bc))]⟩,[bc],1,⟨⟨zS,dt⟩,[bc],[],1⟩,false⟩
noncomputable def q78 (F108 F109:nl)(a0:List Y1):Option Y8:=
(F108 a0).bind fun r1=>(
(F109 r1).bind fun r2=>(
some r2))
theorem g78 (F108 F109:nl)(a0:List Y1):aK (T78 F108 F109) JL [(.t 4)] c78 a0=q78 F108 F109 a0:=by kernel_rfl
noncomputable def p78:=q78 P108 P109
noncomputable def Ao:nl:=fun x=>p78 x
theorem v78:aK (T78 P108 P109) JL [(.t 4)] c78=Ao:=funext fun x=>(g78 P108 P109 x)
theorem d78:DC Try.prog 78 JL Ao:=dD v78 t78 ok78
noncomputable def JM:List FEnt:=[]
theorem t82:al Try.prog JM:=aj
def Mq:LSh:=⟨[0,3,4,5],⟨[(.slc 0),(.v y7),(.slo 0 5),(.v y7)],dt⟩,LT,1,[0]⟩
def Mr:List XSh:=[⟨(.exit 2),[0,3],⟨⟨Rp,dt⟩,[y7,bc],[0],1⟩⟩]
def Ms:LSh:=⟨[0,3],⟨Rp,dt⟩,[y7,bc],1,[]⟩
def Mu:List XSh:=[⟨.ret,[2],⟨⟨zS,dt⟩,[bc],[],1⟩⟩,⟨(.exit 0),[0],⟨⟨zS,dt⟩,[bc],[],1⟩⟩]
noncomputable def Xb:=bK Try.prog [(7,{ch:=[0,0,1,0] }),(14,{ch:=[0,0,1,0] }),(15,{ch:=[0,0,2,0] })] Try.f82 (.s .n (.s .n (.s (.s .n (.b (.l Ms Mu (.s .n (.s (.b (.s .n (.s (.s .n (.s (.s .n (.b (.l Mq Mr .n))) .n)) .n))) .n))))) .n)))
noncomputable def Mw (T:List FEnt):=aD (xs:=Mr) Mq (bd T (sb [1,1,0,1,2,2,1,0,2,1,0,1,0,1,2,2] Xb))
noncomputable def l82_1 (T:List FEnt):=af (Mw T)
noncomputable def Ap (a0 a1 a2 a3:Int)(a4:List Y1):Option (KF⊕PW):=
cond (decide (a3 < (↑a2.toNat:Int))) (
ai (aA a3 a2.toNat) (
ai (ah .i64 (a3-1)) (
ai (aA (a3-1) a2.toNat) (
cond (!((((decide ((xj a4 (a1.toNat+Int.toNat a3)).1=(xj a4 (a1.toNat+Int.toNat (a3-1))).1)&&decide ((xj a4 (a1.toNat+Int.toNat a3)).2.1=(xj a4 (a1.toNat+Int.toNat (a3-1))).2.1))&&decide ((xj a4 (a1.toNat+Int.toNat a3)).2.2.1=(xj a4 (a1.toNat+Int.toNat (a3-1))).2.2.1))&&decide ((xj a4 (a1.toNat+Int.toNat a3)).2.2.2.1=(xj a4 (a1.toNat+Int.toNat (a3-1))).2.2.2.1))&&decide ((xj a4 (a1.toNat+Int.toNat a3)).2.2.2.2=(xj a4 (a1.toNat+Int.toNat (a3-1))).2.2.2.2))) (
ai (aA a3 a2.toNat) (
ai (aA a0 a4.length) (
ai (ah .i64 (a0+1)) (
ai (ah .i64 (a3+1)) (
some (Sum.inl ((a0+1),(↑a1.toNat:Int),(↑a2.toNat:Int),(a3+1),(List.set a4 a0.toNat (xj a4 (a1.toNat+Int.toNat a3)))))))))) (
ai (ah .i64 (a3+1)) (
some (Sum.inl (a0,(↑a1.toNat:Int),(↑a2.toNat:Int),(a3+1),a4)))))))) (
some (Sum.inr (a0,a4)))
theorem Xc:Mw JM=u5 Ap:=funext fun _=>by kernel_rfl
noncomputable def FO:=Ap
noncomputable def FP:Y151:=af (u5 FO)
theorem Xd:l82_1 JM=FP:=congrArg af Xc
noncomputable def Mx (T:List FEnt):=aD (xs:=Mu) Ms (bd T (sb [1,1,0,1,2,2] Xb))
noncomputable def l82_0 (T:List FEnt):=af (Mx T)
noncomputable def Aq (l82_1:Y151)(a0:Int)(a1:List Y1):Option (PW⊕Y94):=
cond (decide (a0 < (↑a1.length:Int))) (
ai (aA a0 a1.length) (
ai (ah .i64 (a0-1)) (
ai (aA (a0-1) a1.length) (
cond ((((decide ((ix a1 a0).1=(ix a1 (a0-1)).1)&&decide ((ix a1 a0).2.1=(ix a1 (a0-1)).2.1))&&decide ((ix a1 a0).2.2.1=(ix a1 (a0-1)).2.2.1))&&decide ((ix a1 a0).2.2.2.1=(ix a1 (a0-1)).2.2.2.1))&&decide ((ix a1 a0).2.2.2.2=(ix a1 (a0-1)).2.2.2.2)) (
ai (decide (0≤a0)) (
ai (decide (a0≤(↑a1.length:Int))) (
ai (decide ((↑a1.length:Int)≤(↑a1.length:Int))) (
ai (decide (0 < List.length a1)) (
(l82_1 (a0,(↑a0.toNat:Int),(↑(Int.toNat ((↑a1.length:Int)-a0)):Int),1,a1)).bind fun y1=>(
ai (decide (0≤y1.1)) (
ai (decide (y1.1≤(↑y1.2.length:Int))) (
ai (decide ((↑y1.2.length:Int)≤(↑y1.2.length:Int))) (
ai (decide (0 < List.length y1.2)) (
ai (decide (0≤y1.1)) (
ai (decide (y1.1≤(↑(List.length (ct y1.2 y1.1.toNat (Int.toNat ((↑y1.2.length:Int)-y1.1)) (0,(0,(0,(0,0)))))):Int))) (
ai (decide (0 < List.length (ct y1.2 y1.1.toNat (Int.toNat ((↑y1.2.length:Int)-y1.1)) (0,(0,(0,(0,0))))))) (
some (Sum.inr (Sum.inl (List.take y1.1.toNat (ct y1.2 y1.1.toNat (Int.toNat ((↑y1.2.length:Int)-y1.1)) (0,(0,(0,(0,0))))))))))))))))))))) (
ai (ah .i64 (a0+1)) (
some (Sum.inl ((a0+1),a1)))))))) (
some (Sum.inr (Sum.inr a1)))
theorem g82_0:Mx JM=u2 (Aq (l82_1 JM)):=funext fun _=>by kernel_rfl
noncomputable def Ar:=Aq FP
noncomputable def As:Y152:=af (u2 Ar)
theorem v82_0:l82_0 JM=As:=congrArg af (g82_0.trans (by rw[Xd] <;> rfl))
theorem ok82:L.Fn Try.prog 82 61 [(.t 2)] (erase Xb):=oA Try.func82
def JN:FSh:=⟨⟨zS,dt⟩,[bc],1,⟨⟨zS,dt⟩,[bc],[],1⟩,false⟩
noncomputable def Xe (l82_0:Y152)(a0:List Y1):Option Y8:=
cond (decide ((↑a0.length:Int) < 2)) (
some a0) (
(l82_0 (1,a0)).bind (fun y2=>Sum.elim (fun y3=>(
some y3)) (fun y4=>(
some y4)) y2))
theorem g82 (a0:List Y1):aK JM JN [(.t 2)] Xb a0=Xe (l82_0 JM) a0:=by kernel_rfl
noncomputable def p82:=Xe As
noncomputable def uq:nl:=fun x=>p82 x
theorem v82:aK JM JN [(.t 2)] Xb=uq:=funext fun x=>(g82 x).trans (by rw[v82_0] <;> rfl)
theorem d82:DC Try.prog 82 JN uq:=dD v82 t82 ok82
noncomputable def Co:List FEnt:=[]
theorem t111:al Try.prog Co:=aj
def FQ:LSh:=⟨[0,1,2,11,12],⟨j19,k8⟩,z9,5,[0,1,2,3,4]⟩
def FR:List XSh:=[⟨(.exit 0),[1,2],⟨⟨[(.pel 1),(.v y7)],k8⟩,z11,[0,1,2,3,4],5⟩⟩]
noncomputable def JO:=bK Try.prog [] Try.f111 (.s (.s .n (.b (.l FQ FR .n))) .n)
noncomputable def FS (T:List FEnt):=aD (xs:=FR) FQ (bd T (sb [0,1,2,2] JO))
noncomputable def l111_0 (T:List FEnt):=af (FS T)
noncomputable def nf (a0 a1 a2 a3:Int)(a4:List Int)(a5:Int)(a6:List Y3)(a7:List Y2)(a8:List Int):Option Y165:=
cond (decide (a3 < a2)) (
ai (aA ((pd a6 a0).2.1) a7.length) (
ai (ah .i64 ((pd a6 a0).2.2.1+a3)) (
ai (aA ((pd a6 a0).2.2.1+a3) (List.length (ix a7 ((pd a6 a0).2.1)))) (
ai (ah .i64 (a3+1)) (
some (Sum.inl (a0,a1,a2,(a3+1),a4,a5,a6,(List.set a7 (Int.toNat ((pd a6 a0).2.1)) (List.set (ix a7 ((pd a6 a0).2.1)) (Int.toNat ((pd a6 a0).2.2.1+a3)) (-1))),a8))))))) (
some (Sum.inr (a0,a1,a4,a5,a6,a7,a8)))
theorem SZ:FS Co=u9 nf:=funext fun _=>by kernel_rfl
noncomputable def FT:=nf
noncomputable def tP:KK:=af (u9 FT)
theorem S4:l111_0 Co=tP:=congrArg af SZ
theorem Xf:L.Fn Try.prog 111 48 [] (erase JO):=oA Try.func111
def At:FSh:=⟨⟨[(.ptr 0 0),(.pel 1),(.v y7)],k8⟩,z11,5,⟨⟨pX,k8⟩,[y19,y7,oa,cD,y19],[0,1,2,3,4],5⟩,false⟩
noncomputable def JP (l111_0:KK)(a0 a1:Int)(a2:List Int)(a3:Int)(a4:List Y3)(a5:List Y2)(a6:List Int):Option TC:=
(l111_0 (a0,a1,(pd a4 a0).2.2.2.1,0,a2,a3,a4,a5,a6)).bind fun y1=>(
some (y1.2.2.1,y1.2.2.2.1,(C3 (C2 (yF y1.2.2.2.2.1 y1.1 y1.2.1) y1.1 (-1)) y1.1 (-1)),y1.2.2.2.2.2.1,y1.2.2.2.2.2.2))
theorem g111:aK Co At [] JO=u7 (JP (l111_0 Co)):=funext fun _=>by kernel_rfl
noncomputable def Xg:=JP tP
noncomputable def P111:qP:=u7 Xg
theorem v111:aK Co At [] JO=P111:=g111.trans (by rw[S4] <;> rfl)
theorem d111:DC Try.prog 111 At P111:=dD v111 t111 Xf
end Go.Proofs.Ytdkaijofmigmbaa.D
