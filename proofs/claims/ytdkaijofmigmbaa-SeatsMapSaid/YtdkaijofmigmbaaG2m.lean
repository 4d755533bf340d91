import Derived.Test.YtdkaijofmigmbaaG1m
import Derived.Test.YtdkaijofmigmbaaProg
set_option linter.unusedVariables false
set_option maxRecDepth 100000
namespace Go.Proofs.Ytdkaijofmigmbaa.D
open Go Go.Proofs Go.Proofs.Ytdkaijofmigmbaa.L
def z6:List Ty:=[y7,y7,y7,.bool,.bool,y7,y7,y7,bd]
def z9:List Ty:=[y7,y7,y7,y7,y19,y7,oz,cI,y19]
def z10:List Ty:=[y7,y7,y19,y7,oz,cI,y19]
def j9:List RSh:=[(.slc 0),(.v y7),(.v y7),(.fn 80 []),(.v y7),(.v y7),(.v y7)]
def K9:List RSh:=[(.slc 0),(.v y7),(.fn 80 []),(.v y7),(.v y7)]
def j7:List RSh:=[(.slc 0),(.v y7),(.v y7),(.v y7),(.fn 80 []),(.v .bool),(.v .bool),(.v y7)]
def j4:List RSh:=[(.slc 0),(.v y7),(.v y7),(.v y7),(.fn 80 []),(.v .bool),(.v .bool),(.v y7),(.v y7),(.v y7)]
def j19:List RSh:=[(.ptr 0 0),(.pel 1),(.v y7),(.v y7),(.v y7)]
def k8:List (Nat×OSh):=[(0,(.box [(.v y19),(.v y7),(.slr 2),(.mpl 3),(.slc 4)])),(1,(.pool da)),(2,(.rows 22 3 y7)),(3,(.gone 1)),(4,(.row 3 y7))]
noncomputable def iQ (F80:dS):List FEnt:=[⟨80,qo,F80⟩]
theorem t134:aq Try.prog (iQ P80):=(af PZ (by kernel_rfl) al)
def mO:LSh:=⟨[0,1,2,3,9,10],⟨TA,dv⟩,KP,1,[0]⟩
def Er:List XSh:=[⟨(.exit 2),[0,1,2,3,9,10],⟨⟨TA,dv⟩,KP,[0],1⟩⟩]
def Es:LSh:=⟨[0,1,2,3,9,10,11],⟨j9,dv⟩,[y7,y7,y7,y7,y7,bd],1,[0]⟩
def Et:List XSh:=[⟨(.exit 4),[0,1,2,3,9,10],⟨⟨TA,dv⟩,KP,[0],1⟩⟩]
def Eu:List XSh:=[⟨.normal,[0,1,2,3,9,10],⟨⟨TA,dv⟩,KP,[0],1⟩⟩]
def Ev:LSh:=⟨[0,1,2,3,9,10,12],⟨j9,dv⟩,[y7,y7,y7,y7,y7,bd],1,[0]⟩
def Ew:List XSh:=[⟨(.exit 6),[0,1,2,3,9,10],⟨⟨TA,dv⟩,KP,[0],1⟩⟩]
def Ex:List XSh:=[⟨.ret,[8],⟨⟨ft,dv⟩,[.bool,bd],[0],1⟩⟩,⟨(.exit 0),[],⟨⟨[],dv⟩,[bd],[0],1⟩⟩]
noncomputable def u0:=bU Try.prog [] Try.f134 (.s .n (.s .n (.s (.s .n (.b (.l mO Ex (.s .n (.s (.b (.s (.b (.l mO Er .n)) (.s .n (.s .n (.s .n (.s (.o mO Eu (.s .n (.s (.s .n (.b (.l Es Et .n))) .n))) (.s .n (.s (.s .n (.b (.l Ev Ew .n))) .n)))))))) .n))))) .n)))
noncomputable def Ey (T:List FEnt):=aG (xs:=Er) mO (bg T (sb [1,1,0,1,2,2,1,0,2,0,2,2] u0))
noncomputable def l134_1 (T:List FEnt):=ah (Ey T)
noncomputable def xd (F80:dS)(a0 a1 a2 a3:Int)(a4:List Y1):Option YH:=
cond (decide (a2 < a1)) (
aj (aC a2 a4.length) (
aj (ai .i64 (a2-1)) (
aj (aC (a2-1) a4.length) (
(F80 ((ix a4 a2),(ix a4 (a2-1)))).bind fun r1=>(
cond (!(decide (r1 < 0))) (
aj (ai .i64 (a2+1)) (
some (Sum.inl (a0,a1,(a2+1),a3,a4)))) (
some (Sum.inr (a0,a1,a2,a3,a4)))))))) (
some (Sum.inr (a0,a1,a2,a3,a4)))
theorem QG (F80:dS):Ey (iQ F80)=u5 (xd F80):=funext fun _=>by kernel_rfl
noncomputable def Ez:=xd P80
noncomputable def xe:RY:=ah (fun x=>Ez x.1 x.2.1 x.2.2.1 x.2.2.2.1 x.2.2.2.2)
theorem QH:l134_1 (iQ P80)=xe:=congrArg ah (QG P80)
noncomputable def EA (T:List FEnt):=aG (xs:=Et) Es (bg T (sb [1,1,0,1,2,2,1,0,2,1,1,1,1,0,2,1,0,1,2,2] u0))
noncomputable def l134_3 (T:List FEnt):=ah (EA T)
noncomputable def xf (F80:dS)(a0 a1 a2 a3 a4:Int)(a5:List Y1):Option RZ:=
cond (decide (1≤a4)) (
aj (aC a4 a5.length) (
aj (ai .i64 (a4-1)) (
aj (aC (a4-1) a5.length) (
(F80 ((ix a5 a4),(ix a5 (a4-1)))).bind fun r3=>(
cond (!(decide (r3 < 0))) (
some (Sum.inr (a0,a1,a2,a3,a5))) (
aj (ai .i64 (a4-1)) (
aj (ai .i64 (a4-1)) (
aj (aC (a4-1) a5.length) (
aj (aC a4 a5.length) (
aj (aC a4 a5.length) (
aj (aC (a4-1) (List.length (List.set a5 a4.toNat (ix a5 (a4-1))))) (
aj (ai .i64 (a4-1)) (
some (Sum.inl (a0,a1,a2,a3,(a4-1),(List.set (List.set a5 a4.toNat (ix a5 (a4-1))) (Int.toNat (a4-1)) (ix a5 a4))))))))))))))))) (
some (Sum.inr (a0,a1,a2,a3,a5)))
theorem QI (F80:dS):EA (iQ F80)=u6 (xf F80):=funext fun _=>by kernel_rfl
noncomputable def EB:=xf P80
noncomputable def xg:JO:=ah (fun x=>EB x.1 x.2.1 x.2.2.1 x.2.2.2.1 x.2.2.2.2.1 x.2.2.2.2.2)
theorem QJ:l134_3 (iQ P80)=xg:=congrArg ah (QI P80)
noncomputable def l134_2 (T:List FEnt):=fg (xs:=Eu) mO (bg T (sb [1,1,0,1,2,2,1,0,2,1,1,1,1,0,2] u0))
noncomputable def xh (F80:dS)(l134_3:JO)(a0 a1 a2 a3:Int)(a4:List Y1):Option JK:=
aj (ai .i64 (a2-a0)) (
cond (decide (2≤(a2-a0))) (
aj (ai .i64 (a2-1)) (
(l134_3 (a0,a1,a2,a3,(a2-1),a4)).bind fun y4=>(
some (y4.1,y4.2.1,y4.2.2.1,y4.2.2.2.1,y4.2.2.2.2)))) (
some (a0,a1,a2,a3,a4)))
theorem QK (F80:dS):l134_2 (iQ F80)=u5 (xh F80 (l134_3 (iQ F80))):=funext fun _=>by kernel_rfl
noncomputable def EC:=xh P80 xg
noncomputable def tg:RY:=fun x=>EC x.1 x.2.1 x.2.2.1 x.2.2.2.1 x.2.2.2.2
theorem QL:l134_2 (iQ P80)=tg:=(QK P80).trans (by rw[QJ] <;> rfl)
noncomputable def ED (T:List FEnt):=aG (xs:=Ew) Ev (bg T (sb [1,1,0,1,2,2,1,0,2,1,1,1,1,1,1,0,1,2,2] u0))
noncomputable def l134_4 (T:List FEnt):=ah (ED T)
noncomputable def xi (F80:dS)(a0 a1 a2 a3 a4:Int)(a5:List Y1):Option RZ:=
cond (decide (a4 < a1)) (
aj (aC a4 a5.length) (
aj (ai .i64 (a4-1)) (
aj (aC (a4-1) a5.length) (
(F80 ((ix a5 a4),(ix a5 (a4-1)))).bind fun r6=>(
cond (!(decide (r6 < 0))) (
some (Sum.inr (a0,a1,a2,a3,a5))) (
aj (ai .i64 (a4-1)) (
aj (ai .i64 (a4-1)) (
aj (aC (a4-1) a5.length) (
aj (aC a4 a5.length) (
aj (aC a4 a5.length) (
aj (aC (a4-1) (List.length (List.set a5 a4.toNat (ix a5 (a4-1))))) (
aj (ai .i64 (a4+1)) (
some (Sum.inl (a0,a1,a2,a3,(a4+1),(List.set (List.set a5 a4.toNat (ix a5 (a4-1))) (Int.toNat (a4-1)) (ix a5 a4))))))))))))))))) (
some (Sum.inr (a0,a1,a2,a3,a5)))
theorem QM (F80:dS):ED (iQ F80)=u6 (xi F80):=funext fun _=>by kernel_rfl
noncomputable def EE:=xi P80
noncomputable def xj:JO:=ah (fun x=>EE x.1 x.2.1 x.2.2.1 x.2.2.2.1 x.2.2.2.2.1 x.2.2.2.2.2)
theorem QN:l134_4 (iQ P80)=xj:=congrArg ah (QM P80)
noncomputable def EF (T:List FEnt):=aG (xs:=Ex) mO (bg T (sb [1,1,0,1,2,2] u0))
noncomputable def l134_0 (T:List FEnt):=ah (EF T)
noncomputable def xl (F80:dS)(l134_1 l134_2:RY)(l134_4:JO)(a0 a1 a2 a3:Int)(a4:List Y1):Option YS:=
cond (decide (a3 < 5)) (
(l134_1 (a0,a1,a2,a3,a4)).bind fun y2=>(
cond (decide (y2.2.2.1=y2.2.1)) (
some (Sum.inr (Sum.inl (true,y2.2.2.2.2)))) (
aj (ai .i64 (y2.2.1-y2.1)) (
cond (decide ((y2.2.1-y2.1) < 50)) (
some (Sum.inr (Sum.inl (false,y2.2.2.2.2)))) (
aj (ai .i64 (y2.2.2.1-1)) (
aj (ai .i64 (y2.2.2.1-1)) (
aj (aC (y2.2.2.1-1) y2.2.2.2.2.length) (
aj (aC y2.2.2.1 y2.2.2.2.2.length) (
aj (aC y2.2.2.1 y2.2.2.2.2.length) (
aj (aC (y2.2.2.1-1) (List.length (List.set y2.2.2.2.2 y2.2.2.1.toNat (ix y2.2.2.2.2 (y2.2.2.1-1))))) (
(l134_2 (y2.1,y2.2.1,y2.2.2.1,y2.2.2.2.1,(List.set (List.set y2.2.2.2.2 y2.2.2.1.toNat (ix y2.2.2.2.2 (y2.2.2.1-1))) (Int.toNat (y2.2.2.1-1)) (ix y2.2.2.2.2 y2.2.2.1)))).bind fun y5=>(
aj (ai .i64 (y5.2.1-y5.2.2.1)) (
cond (decide (2≤(y5.2.1-y5.2.2.1))) (
aj (ai .i64 (y5.2.2.1+1)) (
(l134_4 (y5.1,y5.2.1,y5.2.2.1,y5.2.2.2.1,(y5.2.2.1+1),y5.2.2.2.2)).bind fun y7=>(
aj (ai .i64 (y7.2.2.2.1+1)) (
some (Sum.inl (y7.1,y7.2.1,y7.2.2.1,(y7.2.2.2.1+1),y7.2.2.2.2)))))) (
aj (ai .i64 (y5.2.2.2.1+1)) (
some (Sum.inl (y5.1,y5.2.1,y5.2.2.1,(y5.2.2.2.1+1),y5.2.2.2.2))))))))))))))))) (
some (Sum.inr (Sum.inr a4)))
theorem QO (F80:dS):EF (iQ F80)=u5 (xl F80 (l134_1 (iQ F80)) (l134_2 (iQ F80)) (l134_4 (iQ F80))):=funext fun _=>by kernel_rfl
noncomputable def EG:=xl P80 xe tg xj
noncomputable def xm:YQ:=ah (fun x=>EG x.1 x.2.1 x.2.2.1 x.2.2.2.1 x.2.2.2.2)
theorem QP:l134_0 (iQ P80)=xm:=congrArg ah ((QO P80).trans (by rw[QH,QL,QN] <;> rfl))
theorem Vm:L.Fn Try.prog 134 141 [(.t 8)] (erase u0):=Fn.ofA aN Try.func134 _ _ (by kernel_rfl)
def zB:FSh:=⟨⟨TB,dv⟩,IC,1,⟨⟨ft,dv⟩,[.bool,bd],[0],1⟩,false⟩
noncomputable def QQ (F80:dS)(l134_0:YQ)(a0 a1:Int)(a2:List Y1):Option RW:=
aj (ai .i64 (a0+1)) (
(l134_0 (a0,a1,(a0+1),0,a2)).bind (fun y8=>Sum.elim (fun y9=>(
some (y9.1,y9.2))) (fun y10=>(
some (false,y10))) y8))
theorem g134 (F80:dS):aO (iQ F80) zB [(.t 8)] u0=u3 (QQ F80 (l134_0 (iQ F80))):=funext fun _=>by kernel_rfl
noncomputable def Vn:=QQ P80 xm
noncomputable def gW:nQ:=fun x=>Vn x.1 x.2.1 x.2.2
theorem v134:aO (iQ P80) zB [(.t 8)] u0=gW:=(g134 P80).trans (by rw[QP] <;> rfl)
theorem d134:DC Try.prog 134 zB gW:=aF v134 (ak t134 Vm (by kernel_rfl))
noncomputable def nM (F80:dS):List FEnt:=[⟨80,qo,F80⟩]
theorem t135:aq Try.prog (nM P80):=(af PZ (by kernel_rfl) al)
def mP:LSh:=⟨[0,1,4,11,12],⟨K9,dv⟩,uU,1,[0]⟩
def EH:List XSh:=[⟨(.exit 2),[0,1,4,11,12],⟨⟨K9,dv⟩,uU,[0],1⟩⟩]
def EI:List XSh:=[⟨(.exit 4),[0,1,4,11,12],⟨⟨K9,dv⟩,uU,[0],1⟩⟩]
def EJ:List XSh:=[⟨(.exit 0),[11],⟨⟨nK,dv⟩,[y7,bd],[0],1⟩⟩]
noncomputable def BM:=bU Try.prog [] Try.f135 (.s .n (.s .n (.s .n (.s (.b (.l mP EJ (.b (.s (.b (.l mP EH .n)) (.s (.b (.l mP EI .n)) .n))))) .n))))
noncomputable def EK (T:List FEnt):=aG (xs:=EH) mP (bg T (sb [1,1,1,0,2,2,2,0,2,2] BM))
noncomputable def l135_1 (T:List FEnt):=ah (EK T)
noncomputable def xn (F80:dS)(a0 a1 a2:Int)(a3:List Y1):Option xW:=
cond (decide (a1≤a2)) (
aj (aC a0 a3.length) (
aj (aC a1 a3.length) (
(F80 ((ix a3 a0),(ix a3 a1))).bind fun r1=>(
cond (!(decide (r1 < 0))) (
aj (ai .i64 (a1+1)) (
some (Sum.inl (a0,(a1+1),a2,a3)))) (
some (Sum.inr (a0,a1,a2,a3))))))) (
some (Sum.inr (a0,a1,a2,a3)))
theorem QR (F80:dS):EK (nM F80)=u4 (xn F80):=funext fun _=>by kernel_rfl
noncomputable def EL:=xn P80
noncomputable def xp:tz:=ah (fun x=>EL x.1 x.2.1 x.2.2.1 x.2.2.2)
theorem QS:l135_1 (nM P80)=xp:=congrArg ah (QR P80)
noncomputable def EM (T:List FEnt):=aG (xs:=EI) mP (bg T (sb [1,1,1,0,2,2,2,1,0,2,2] BM))
noncomputable def l135_2 (T:List FEnt):=ah (EM T)
noncomputable def xq (F80:dS)(a0 a1 a2:Int)(a3:List Y1):Option xW:=
cond (decide (a1≤a2)) (
aj (aC a0 a3.length) (
aj (aC a2 a3.length) (
(F80 ((ix a3 a0),(ix a3 a2))).bind fun r3=>(
cond (decide (r3 < 0)) (
aj (ai .i64 (a2-1)) (
some (Sum.inl (a0,a1,(a2-1),a3)))) (
some (Sum.inr (a0,a1,a2,a3))))))) (
some (Sum.inr (a0,a1,a2,a3)))
theorem QT (F80:dS):EM (nM F80)=u4 (xq F80):=funext fun _=>by kernel_rfl
noncomputable def EN:=xq P80
noncomputable def xt:tz:=ah (fun x=>EN x.1 x.2.1 x.2.2.1 x.2.2.2)
theorem QU:l135_2 (nM P80)=xt:=congrArg ah (QT P80)
noncomputable def EO (T:List FEnt):=aG (xs:=EJ) mP (bg T (sb [1,1,1,0,2,2] BM))
noncomputable def l135_0 (T:List FEnt):=ah (EO T)
noncomputable def xu (F80:dS)(l135_1 l135_2:tz)(a0 a1 a2:Int)(a3:List Y1):Option YJ:=
(l135_1 (a0,a1,a2,a3)).bind fun y2=>(
(l135_2 (y2.1,y2.2.1,y2.2.2.1,y2.2.2.2)).bind fun y4=>(
cond (decide (y4.2.2.1 < y4.2.1)) (
some (Sum.inr (y4.2.1,y4.2.2.2))) (
aj (aC y4.2.2.1 y4.2.2.2.length) (
aj (aC y4.2.1 y4.2.2.2.length) (
aj (aC y4.2.1 y4.2.2.2.length) (
aj (aC y4.2.2.1 (List.length (List.set y4.2.2.2 y4.2.1.toNat (ix y4.2.2.2 y4.2.2.1)))) (
aj (ai .i64 (y4.2.1+1)) (
aj (ai .i64 (y4.2.2.1-1)) (
some (Sum.inl (y4.1,(y4.2.1+1),(y4.2.2.1-1),(List.set (List.set y4.2.2.2 y4.2.1.toNat (ix y4.2.2.2 y4.2.2.1)) y4.2.2.1.toNat (ix y4.2.2.2 y4.2.1)))))))))))))
theorem QV (F80:dS):EO (nM F80)=u4 (xu F80 (l135_1 (nM F80)) (l135_2 (nM F80))):=funext fun _=>by kernel_rfl
noncomputable def EP:=xu P80 xp xt
noncomputable def xw:lO:=ah (fun x=>EP x.1 x.2.1 x.2.2.1 x.2.2.2)
theorem QW:l135_0 (nM P80)=xw:=congrArg ah ((QV P80).trans (by rw[QS,QU] <;> rfl))
theorem Vo:L.Fn Try.prog 135 90 [(.t 10)] (erase BM):=Fn.ofA aN Try.func135 _ _ (by kernel_rfl)
def zC:FSh:=⟨⟨j16,dv⟩,uU,1,⟨⟨nK,dv⟩,[y7,bd],[0],1⟩,false⟩
noncomputable def QX (F80:dS)(l135_0:lO)(a0 a1 a2:Int)(a3:List Y1):Option Og:=
aj (aC a2 a3.length) (
aj (aC a0 a3.length) (
aj (aC a0 a3.length) (
aj (aC a2 (List.length (List.set a3 a0.toNat (ix a3 a2)))) (
aj (ai .i64 (a0+1)) (
aj (ai .i64 (a1-1)) (
(l135_0 (a0,(a0+1),(a1-1),(List.set (List.set a3 a0.toNat (ix a3 a2)) a2.toNat (ix a3 a0)))).bind fun y5=>(
some (y5.1,y5.2))))))))
theorem g135 (F80:dS):aO (nM F80) zC [(.t 10)] BM=u4 (QX F80 (l135_0 (nM F80))):=funext fun _=>by kernel_rfl
noncomputable def Vp:=QX P80 xw
noncomputable def gX:lO:=fun x=>Vp x.1 x.2.1 x.2.2.1 x.2.2.2
theorem v135:aO (nM P80) zC [(.t 10)] BM=gX:=(g135 P80).trans (by rw[QW] <;> rfl)
theorem d135:DC Try.prog 135 zC gX:=aF v135 (ak t135 Vo (by kernel_rfl))
noncomputable def iR (F80:dS):List FEnt:=[⟨80,qo,F80⟩]
theorem t136:aq Try.prog (iR P80):=(af PZ (by kernel_rfl) al)
def gv:LSh:=⟨[0,1,4,12,13],⟨K9,dv⟩,uU,1,[0]⟩
def EQ:List XSh:=[⟨(.exit 0),[0,1,4,12,13],⟨⟨K9,dv⟩,uU,[0],1⟩⟩]
def ER:List XSh:=[⟨(.exit 2),[0,1,4,12,13],⟨⟨K9,dv⟩,uU,[0],1⟩⟩]
def ES:List XSh:=[⟨(.exit 6),[0,1,4,12,13],⟨⟨K9,dv⟩,uU,[0],1⟩⟩]
def ET:List XSh:=[⟨(.exit 8),[0,1,4,12,13],⟨⟨K9,dv⟩,uU,[0],1⟩⟩]
def EU:List XSh:=[⟨(.exit 4),[0,1,13],⟨⟨Ho,dv⟩,IC,[0],1⟩⟩]
noncomputable def vc:=bU Try.prog [] Try.f136 (.s .n (.s .n (.s .n (.s (.b (.l gv EQ .n)) (.s (.b (.l gv ER .n)) (.s .n (.s .n (.s .n (.s .n (.s (.b (.l gv EU (.b (.s (.b (.l gv ES .n)) (.s (.b (.l gv ET .n)) .n))))) .n))))))))))
noncomputable def EV (T:List FEnt):=aG (xs:=EQ) gv (bg T (sb [1,1,1,0,2,2] vc))
noncomputable def l136_0 (T:List FEnt):=ah (EV T)
noncomputable def xx (F80:dS)(a0 a1 a2:Int)(a3:List Y1):Option xW:=
cond (decide (a1≤a2)) (
aj (aC a1 a3.length) (
aj (aC a0 a3.length) (
(F80 ((ix a3 a1),(ix a3 a0))).bind fun r1=>(
cond (decide (r1 < 0)) (
aj (ai .i64 (a1+1)) (
some (Sum.inl (a0,(a1+1),a2,a3)))) (
some (Sum.inr (a0,a1,a2,a3))))))) (
some (Sum.inr (a0,a1,a2,a3)))
theorem QY (F80:dS):EV (iR F80)=u4 (xx F80):=funext fun _=>by kernel_rfl
noncomputable def EW:=xx P80
noncomputable def xy:tz:=ah (fun x=>EW x.1 x.2.1 x.2.2.1 x.2.2.2)
theorem QZ:l136_0 (iR P80)=xy:=congrArg ah (QY P80)
noncomputable def EX (T:List FEnt):=aG (xs:=ER) gv (bg T (sb [1,1,1,1,0,2,2] vc))
noncomputable def l136_1 (T:List FEnt):=ah (EX T)
noncomputable def xz (F80:dS)(a0 a1 a2:Int)(a3:List Y1):Option xW:=
cond (decide (a1≤a2)) (
aj (aC a2 a3.length) (
aj (aC a0 a3.length) (
(F80 ((ix a3 a2),(ix a3 a0))).bind fun r3=>(
cond (!(decide (r3 < 0))) (
aj (ai .i64 (a2-1)) (
some (Sum.inl (a0,a1,(a2-1),a3)))) (
some (Sum.inr (a0,a1,a2,a3))))))) (
some (Sum.inr (a0,a1,a2,a3)))
theorem Q0 (F80:dS):EX (iR F80)=u4 (xz F80):=funext fun _=>by kernel_rfl
noncomputable def EY:=xz P80
noncomputable def xA:tz:=ah (fun x=>EY x.1 x.2.1 x.2.2.1 x.2.2.2)
theorem Q1:l136_1 (iR P80)=xA:=congrArg ah (Q0 P80)
noncomputable def EZ (T:List FEnt):=aG (xs:=ES) gv (bg T (sb [1,1,1,1,1,1,1,1,1,0,2,2,2,0,2,2] vc))
noncomputable def l136_3 (T:List FEnt):=ah (EZ T)
noncomputable def xB (F80:dS)(a0 a1 a2:Int)(a3:List Y1):Option xW:=
cond (decide (a1≤a2)) (
aj (aC a1 a3.length) (
aj (aC a0 a3.length) (
(F80 ((ix a3 a1),(ix a3 a0))).bind fun r5=>(
cond (decide (r5 < 0)) (
aj (ai .i64 (a1+1)) (
some (Sum.inl (a0,(a1+1),a2,a3)))) (
some (Sum.inr (a0,a1,a2,a3))))))) (
some (Sum.inr (a0,a1,a2,a3)))
theorem Q2 (F80:dS):EZ (iR F80)=u4 (xB F80):=funext fun _=>by kernel_rfl
noncomputable def E2:=xB P80
noncomputable def xC:tz:=ah (fun x=>E2 x.1 x.2.1 x.2.2.1 x.2.2.2)
theorem Q3:l136_3 (iR P80)=xC:=congrArg ah (Q2 P80)
noncomputable def E3 (T:List FEnt):=aG (xs:=ET) gv (bg T (sb [1,1,1,1,1,1,1,1,1,0,2,2,2,1,0,2,2] vc))
noncomputable def l136_4 (T:List FEnt):=ah (E3 T)
noncomputable def xD (F80:dS)(a0 a1 a2:Int)(a3:List Y1):Option xW:=
cond (decide (a1≤a2)) (
aj (aC a2 a3.length) (
aj (aC a0 a3.length) (
(F80 ((ix a3 a2),(ix a3 a0))).bind fun r7=>(
cond (!(decide (r7 < 0))) (
aj (ai .i64 (a2-1)) (
some (Sum.inl (a0,a1,(a2-1),a3)))) (
some (Sum.inr (a0,a1,a2,a3))))))) (
some (Sum.inr (a0,a1,a2,a3)))
theorem Q4 (F80:dS):E3 (iR F80)=u4 (xD F80):=funext fun _=>by kernel_rfl
noncomputable def E4:=xD P80
noncomputable def xE:tz:=ah (fun x=>E4 x.1 x.2.1 x.2.2.1 x.2.2.2)
theorem Q5:l136_4 (iR P80)=xE:=congrArg ah (Q4 P80)
noncomputable def E5 (T:List FEnt):=aG (xs:=EU) gv (bg T (sb [1,1,1,1,1,1,1,1,1,0,2,2] vc))
noncomputable def l136_2 (T:List FEnt):=ah (E5 T)
noncomputable def xF (F80:dS)(l136_3 l136_4:tz)(a0 a1 a2:Int)(a3:List Y1):Option YK:=
(l136_3 (a0,a1,a2,a3)).bind fun y6=>(
(l136_4 (y6.1,y6.2.1,y6.2.2.1,y6.2.2.2)).bind fun y8=>(
cond (decide (y8.2.2.1 < y8.2.1)) (
some (Sum.inr (y8.1,y8.2.2.1,y8.2.2.2))) (
aj (aC y8.2.2.1 y8.2.2.2.length) (
aj (aC y8.2.1 y8.2.2.2.length) (
aj (aC y8.2.1 y8.2.2.2.length) (
aj (aC y8.2.2.1 (List.length (List.set y8.2.2.2 y8.2.1.toNat (ix y8.2.2.2 y8.2.2.1)))) (
aj (ai .i64 (y8.2.1+1)) (
aj (ai .i64 (y8.2.2.1-1)) (
some (Sum.inl (y8.1,(y8.2.1+1),(y8.2.2.1-1),(List.set (List.set y8.2.2.2 y8.2.1.toNat (ix y8.2.2.2 y8.2.2.1)) y8.2.2.1.toNat (ix y8.2.2.2 y8.2.1)))))))))))))
theorem Q6 (F80:dS):E5 (iR F80)=u4 (xF F80 (l136_3 (iR F80)) (l136_4 (iR F80))):=funext fun _=>by kernel_rfl
noncomputable def E6:=xF P80 xC xE
noncomputable def xG:YC:=ah (fun x=>E6 x.1 x.2.1 x.2.2.1 x.2.2.2)
theorem Q7:l136_2 (iR P80)=xG:=congrArg ah ((Q6 P80).trans (by rw[Q3,Q5] <;> rfl))
theorem Vq:L.Fn Try.prog 136 178 [(.t 10),(.t 11)] (erase vc):=Fn.ofA aN Try.func136 _ _ (by kernel_rfl)
def zD:FSh:=⟨⟨j16,dv⟩,uU,1,⟨⟨[(.tup [(.v y7),(.v .bool)])],dv⟩,[y7,.bool,bd],[0],1⟩,false⟩
noncomputable def Q8 (F80:dS)(l136_0 l136_1:tz)(l136_2:YC)(a0 a1 a2:Int)(a3:List Y1):Option Yz:=
aj (aC a2 a3.length) (
aj (aC a0 a3.length) (
aj (aC a0 a3.length) (
aj (aC a2 (List.length (List.set a3 a0.toNat (ix a3 a2)))) (
aj (ai .i64 (a0+1)) (
aj (ai .i64 (a1-1)) (
(l136_0 (a0,(a0+1),(a1-1),(List.set (List.set a3 a0.toNat (ix a3 a2)) a2.toNat (ix a3 a0)))).bind fun y2=>(
(l136_1 (y2.1,y2.2.1,y2.2.2.1,y2.2.2.2)).bind fun y4=>(
cond (decide (y4.2.2.1 < y4.2.1)) (
aj (aC y4.1 y4.2.2.2.length) (
aj (aC y4.2.2.1 y4.2.2.2.length) (
aj (aC y4.2.2.1 y4.2.2.2.length) (
aj (aC y4.1 (List.length (List.set y4.2.2.2 y4.2.2.1.toNat (ix y4.2.2.2 y4.1)))) (
some (y4.2.2.1,true,(List.set (List.set y4.2.2.2 y4.2.2.1.toNat (ix y4.2.2.2 y4.1)) y4.1.toNat (ix y4.2.2.2 y4.2.2.1)))))))) (
aj (aC y4.2.2.1 y4.2.2.2.length) (
aj (aC y4.2.1 y4.2.2.2.length) (
aj (aC y4.2.1 y4.2.2.2.length) (
aj (aC y4.2.2.1 (List.length (List.set y4.2.2.2 y4.2.1.toNat (ix y4.2.2.2 y4.2.2.1)))) (
aj (ai .i64 (y4.2.1+1)) (
aj (ai .i64 (y4.2.2.1-1)) (
(l136_2 (y4.1,(y4.2.1+1),(y4.2.2.1-1),(List.set (List.set y4.2.2.2 y4.2.1.toNat (ix y4.2.2.2 y4.2.2.1)) y4.2.2.1.toNat (ix y4.2.2.2 y4.2.1)))).bind fun y9=>(
aj (aC y9.1 y9.2.2.length) (
aj (aC y9.2.1 y9.2.2.length) (
aj (aC y9.2.1 y9.2.2.length) (
aj (aC y9.1 (List.length (List.set y9.2.2 y9.2.1.toNat (ix y9.2.2 y9.1)))) (
some (y9.2.1,false,(List.set (List.set y9.2.2 y9.2.1.toNat (ix y9.2.2 y9.1)) y9.1.toNat (ix y9.2.2 y9.2.1)))))))))))))))))))))))
theorem g136 (F80:dS):aO (iR F80) zD [(.t 10),(.t 11)] vc=u4 (Q8 F80 (l136_0 (iR F80)) (l136_1 (iR F80)) (l136_2 (iR F80))):=funext fun _=>by kernel_rfl
noncomputable def Vr:=Q8 P80 xy xA xG
noncomputable def gw:nR:=fun x=>Vr x.1 x.2.1 x.2.2.1 x.2.2.2
theorem v136:aO (iR P80) zD [(.t 10),(.t 11)] vc=gw:=(g136 P80).trans (by rw[QZ,Q1,Q7] <;> rfl)
theorem d136:DC Try.prog 136 zD gw:=aF v136 (ak t136 Vq (by kernel_rfl))
def lK:FSh:=⟨⟨j16,dv⟩,uU,1,⟨⟨pG,dv⟩,[bd],[0],1⟩,false⟩
noncomputable def kU (F129:ld)(F130:ld)(F131:ld)(F132:nP)(F133:ld)(F134:nQ)(F80:dS)(F135:lO)(F136:nR)(F124:gz):List FEnt:=[⟨129,zq,F129⟩,⟨130,zu,F130⟩,⟨131,zw,F131⟩,⟨132,zz,F132⟩,⟨133,zA,F133⟩,⟨134,zB,F134⟩,⟨80,qo,F80⟩,⟨135,zC,F135⟩,⟨136,zD,F136⟩,⟨124,lK,F124⟩]
theorem t124 (F124:gz)(h:DC Try.prog 124 lK F124):aq Try.prog (kU gQ gR gu gU gV gW P80 gX gw F124):=(af d129 (by kernel_rfl) (af d130 (by kernel_rfl) (af d131 (by kernel_rfl) (af d132 (by kernel_rfl) (af d133 (by kernel_rfl) (af d134 (by kernel_rfl) (af PZ (by kernel_rfl) (af d135 (by kernel_rfl) (af d136 (by kernel_rfl) (af h (by kernel_rfl) al))))))))))
def E7:LSh:=⟨[0,1,2,3,4,10,11,12],⟨j7,dv⟩,[y7,y7,y7,.bool,.bool,y7,bd],1,[0]⟩
def E8:List XSh:=[⟨.normal,[0,1,2,3,4,10,11,12],⟨⟨j7,dv⟩,[y7,y7,y7,.bool,.bool,y7,bd],[0],1⟩⟩]
def th:LSh:=⟨[0,1,2,3,4,10,11,12,13,14],⟨j4,dv⟩,z6,1,[0]⟩
def E9:List XSh:=[⟨.normal,[0,1,2,3,4,10,11,12,13,14],⟨⟨j4,dv⟩,z6,[0],1⟩⟩]
def Fa:List XSh:=[⟨.ret,[],⟨⟨[],dv⟩,[bd],[0],1⟩⟩,⟨.normal,[0,1,2,3,4,10,11,12,13],⟨⟨[(.slc 0),(.v y7),(.v y7),(.v y7),(.fn 80 []),(.v .bool),(.v .bool),(.v y7),(.v y7)],dv⟩,[y7,y7,y7,.bool,.bool,y7,y7,bd],[0],1⟩⟩]
def Fb:LSh:=⟨[0,1,2,3,4,10,11],⟨[(.slc 0),(.v y7),(.v y7),(.v y7),(.fn 80 []),(.v .bool),(.v .bool)],dv⟩,[y7,y7,y7,.bool,.bool,bd],1,[0]⟩
def Fc:List XSh:=[⟨.ret,[],⟨⟨[],dv⟩,[bd],[0],1⟩⟩]
noncomputable def xH:=bU Try.prog [] Try.f124 (.s .n (.s .n (.b (.l Fb Fc (.b (.s .n (.s .n (.s .n (.s (.o E7 E8 .n) (.s .n (.s (.o th E9 .n) (.s (.o th Fa .n) .n))))))))))))
noncomputable def l124_1 (T:List FEnt):=fg (xs:=E8) E7 (bg T (sb [1,1,2,2,2,1,1,1,0,2] xH))
noncomputable def ti (F129 F130 F131:ld)(F132:nP)(F133:ld)(F134:nQ)(F80:dS)(F135:lO)(F136:nR)(F124:gz)(a0 a1 a2:Int)(a3 a4:Bool)(a5:Int)(a6:List Y1):Option Yx:=
cond (!a3) (
(F131 (a0,a1,a6)).bind fun r3=>(
aj (ai .i64 (a2-1)) (
some (a0,a1,(a2-1),a3,a4,a5,r3)))) (
some (a0,a1,a2,a3,a4,a5,a6))
theorem Q9 (F129 F130 F131:ld)(F132:nP)(F133:ld)(F134:nQ)(F80:dS)(F135:lO)(F136:nR)(F124:gz):l124_1 (kU F129 F130 F131 F132 F133 F134 F80 F135 F136 F124)=u7 (ti F129 F130 F131 F132 F133 F134 F80 F135 F136 F124):=funext fun _=>by kernel_rfl
noncomputable def xI (F124:gz):=ti gQ gR gu gU gV gW P80 gX gw F124
noncomputable def pH (F124:gz):YD:=fun x=>xI F124 x.1 x.2.1 x.2.2.1 x.2.2.2.1 x.2.2.2.2.1 x.2.2.2.2.2.1 x.2.2.2.2.2.2
theorem Ra (F124:gz):l124_1 (kU gQ gR gu gU gV gW P80 gX gw F124)=pH F124:=Q9 gQ gR gu gU gV gW P80 gX gw F124
noncomputable def l124_2 (T:List FEnt):=fg (xs:=E9) th (bg T (sb [1,1,2,2,2,1,1,1,1,1,0,2] xH))
noncomputable def xJ (F129 F130 F131:ld)(F132:nP)(F133:ld)(F134:nQ)(F80:dS)(F135:lO)(F136:nR)(F124:gz)(a0 a1 a2:Int)(a3 a4:Bool)(a5 a6 a7:Int)(a8:List Y1):Option Yy:=
cond (decide (a7=2)) (
(F133 (a0,a1,a8)).bind fun r6=>(
aj (ai .i64 (a1-1)) (
aj (ai .i64 (a6-a0)) (
aj (ai .i64 ((a1-1)-(a6-a0))) (
some (a0,a1,a2,a3,a4,a5,((a1-1)-(a6-a0)),1,r6)))))) (
some (a0,a1,a2,a3,a4,a5,a6,a7,a8))
theorem Rb (F129 F130 F131:ld)(F132:nP)(F133:ld)(F134:nQ)(F80:dS)(F135:lO)(F136:nR)(F124:gz):l124_2 (kU F129 F130 F131 F132 F133 F134 F80 F135 F136 F124)=u9 (xJ F129 F130 F131 F132 F133 F134 F80 F135 F136 F124):=funext fun _=>by kernel_rfl
noncomputable def Fd (F124:gz):=xJ gQ gR gu gU gV gW P80 gX gw F124
noncomputable def tj (F124:gz):YE:=fun x=>Fd F124 x.1 x.2.1 x.2.2.1 x.2.2.2.1 x.2.2.2.2.1 x.2.2.2.2.2.1 x.2.2.2.2.2.2.1 x.2.2.2.2.2.2.2.1 x.2.2.2.2.2.2.2.2
theorem Rc (F124:gz):l124_2 (kU gQ gR gu gU gV gW P80 gX gw F124)=tj F124:=Rb gQ gR gu gU gV gW P80 gX gw F124
noncomputable def l124_3 (T:List FEnt):=fg (xs:=Fa) th (bg T (sb [1,1,2,2,2,1,1,1,1,1,1,0,2] xH))
noncomputable def xK (F129 F130 F131:ld)(F132:nP)(F133:ld)(F134:nQ)(F80:dS)(F135:lO)(F136:nR)(F124:gz)(a0 a1 a2:Int)(a3 a4:Bool)(a5 a6 a7:Int)(a8:List Y1):Option YL:=
cond a3 (
cond a4 (
cond (decide (a7=1)) (
(F134 (a0,a1,a8)).bind fun r8=>(
cond r8.1 (
some (Sum.inl r8.2)) (
some (Sum.inr (a0,a1,a2,a3,a4,a5,a6,r8.2))))) (
some (Sum.inr (a0,a1,a2,a3,a4,a5,a6,a8)))) (
some (Sum.inr (a0,a1,a2,a3,a4,a5,a6,a8)))) (
some (Sum.inr (a0,a1,a2,a3,a4,a5,a6,a8)))
theorem Rd (F129 F130 F131:ld)(F132:nP)(F133:ld)(F134:nQ)(F80:dS)(F135:lO)(F136:nR)(F124:gz):l124_3 (kU F129 F130 F131 F132 F133 F134 F80 F135 F136 F124)=u9 (xK F129 F130 F131 F132 F133 F134 F80 F135 F136 F124):=funext fun _=>by kernel_rfl
noncomputable def Fe (F124:gz):=xK gQ gR gu gU gV gW P80 gX gw F124
noncomputable def tn (F124:gz):YR:=fun x=>Fe F124 x.1 x.2.1 x.2.2.1 x.2.2.2.1 x.2.2.2.2.1 x.2.2.2.2.2.1 x.2.2.2.2.2.2.1 x.2.2.2.2.2.2.2.1 x.2.2.2.2.2.2.2.2
theorem Re (F124:gz):l124_3 (kU gQ gR gu gU gV gW P80 gX gw F124)=tn F124:=Rd gQ gR gu gU gV gW P80 gX gw F124
noncomputable def Ff (T:List FEnt):=aG (xs:=Fc) Fb (bg T (sb [1,1,2,2] xH))
noncomputable def l124_0 (T:List FEnt):=ah (Ff T)
noncomputable def pI (F129 F130 F131:ld)(F132:nP)(F133:ld)(F134:nQ)(F80:dS)(F135:lO)(F136:nR)(F124:gz)(l124_1:YD)(l124_2:YE)(l124_3:YR)(a0 a1 a2:Int)(a3 a4:Bool)(a5:List Y1):Option YM:=
aj (ai .i64 (a1-a0)) (
cond (decide ((a1-a0)≤12)) (
(F129 (a0,a1,a5)).bind fun r1=>(
some (Sum.inr r1))) (
cond (decide (a2=0)) (
(F130 (a0,a1,a5)).bind fun r2=>(
some (Sum.inr r2))) (
(l124_1 (a0,a1,a2,a3,a4,(a1-a0),a5)).bind fun y4=>(
(F132 (y4.1,y4.2.1,y4.2.2.2.2.2.2)).bind fun r5=>(
(l124_2 (y4.1,y4.2.1,y4.2.2.1,y4.2.2.2.1,y4.2.2.2.2.1,y4.2.2.2.2.2.1,r5.1,r5.2.1,r5.2.2)).bind fun y7=>(
(l124_3 (y7.1,y7.2.1,y7.2.2.1,y7.2.2.2.1,y7.2.2.2.2.1,y7.2.2.2.2.2.1,y7.2.2.2.2.2.2.1,y7.2.2.2.2.2.2.2.1,y7.2.2.2.2.2.2.2.2)).bind (fun y9=>Sum.elim (fun y10=>(
some (Sum.inr y10))) (fun y11=>(
cond (decide (0 < y11.1)) (
aj (ai .i64 (y11.1-1)) (
aj (aC (y11.1-1) y11.2.2.2.2.2.2.2.length) (
aj (aC y11.2.2.2.2.2.2.1 y11.2.2.2.2.2.2.2.length) (
(F80 ((ix y11.2.2.2.2.2.2.2 (y11.1-1)),(ix y11.2.2.2.2.2.2.2 y11.2.2.2.2.2.2.1))).bind fun r12=>(
cond (!(decide (r12 < 0))) (
(F135 (y11.1,y11.2.1,y11.2.2.2.2.2.2.1,y11.2.2.2.2.2.2.2)).bind fun r13=>(
some (Sum.inl (r13.1,y11.2.1,y11.2.2.1,y11.2.2.2.1,y11.2.2.2.2.1,r13.2)))) (
(F136 (y11.1,y11.2.1,y11.2.2.2.2.2.2.1,y11.2.2.2.2.2.2.2)).bind fun r14=>(
aj (ai .i64 (r14.1-y11.1)) (
aj (ai .i64 (y11.2.1-r14.1)) (
aj (ai .i64 (Int.tdiv y11.2.2.2.2.2.1 8)) (
cond (decide ((r14.1-y11.1) < (y11.2.1-r14.1))) (
(F124 (y11.1,r14.1,y11.2.2.1,r14.2.2)).bind fun r15=>(
aj (ai .i64 (r14.1+1)) (
some (Sum.inl ((r14.1+1),y11.2.1,y11.2.2.1,decide ((Int.tdiv y11.2.2.2.2.2.1 8)≤(r14.1-y11.1)),r14.2.1,r15))))) (
aj (ai .i64 (r14.1+1)) (
(F124 ((r14.1+1),y11.2.1,y11.2.2.1,r14.2.2)).bind fun r16=>(
some (Sum.inl (y11.1,r14.1,y11.2.2.1,decide ((Int.tdiv y11.2.2.2.2.2.1 8)≤(y11.2.1-r14.1)),r14.2.1,r16))))))))))))))) (
(F136 (y11.1,y11.2.1,y11.2.2.2.2.2.2.1,y11.2.2.2.2.2.2.2)).bind fun r17=>(
aj (ai .i64 (r17.1-y11.1)) (
aj (ai .i64 (y11.2.1-r17.1)) (
aj (ai .i64 (Int.tdiv y11.2.2.2.2.2.1 8)) (
cond (decide ((r17.1-y11.1) < (y11.2.1-r17.1))) (
(F124 (y11.1,r17.1,y11.2.2.1,r17.2.2)).bind fun r18=>(
aj (ai .i64 (r17.1+1)) (
some (Sum.inl ((r17.1+1),y11.2.1,y11.2.2.1,decide ((Int.tdiv y11.2.2.2.2.2.1 8)≤(r17.1-y11.1)),r17.2.1,r18))))) (
aj (ai .i64 (r17.1+1)) (
(F124 ((r17.1+1),y11.2.1,y11.2.2.1,r17.2.2)).bind fun r19=>(
some (Sum.inl (y11.1,r17.1,y11.2.2.1,decide ((Int.tdiv y11.2.2.2.2.2.1 8)≤(y11.2.1-r17.1)),r17.2.1,r19)))))))))))) y9)))))))
theorem Rf (F129 F130 F131:ld)(F132:nP)(F133:ld)(F134:nQ)(F80:dS)(F135:lO)(F136:nR)(F124:gz):Ff (kU F129 F130 F131 F132 F133 F134 F80 F135 F136 F124)=u6 (pI F129 F130 F131 F132 F133 F134 F80 F135 F136 F124 (l124_1 (kU F129 F130 F131 F132 F133 F134 F80 F135 F136 F124)) (l124_2 (kU F129 F130 F131 F132 F133 F134 F80 F135 F136 F124)) (l124_3 (kU F129 F130 F131 F132 F133 F134 F80 F135 F136 F124))):=funext fun _=>by kernel_rfl
noncomputable def kV (F124:gz):=pI gQ gR gu gU gV gW P80 gX gw F124 (pH F124) (tj F124) (tn F124)
noncomputable def tp (F124:gz):Yw:=ah (fun x=>kV F124 x.1 x.2.1 x.2.2.1 x.2.2.2.1 x.2.2.2.2.1 x.2.2.2.2.2)
theorem Rh (F124:gz):l124_0 (kU gQ gR gu gU gV gW P80 gX gw F124)=tp F124:=congrArg ah ((Rf gQ gR gu gU gV gW P80 gX gw F124).trans (by rw[Ra F124,Rc F124,Re F124] <;> rfl))
theorem La:L.Fn Try.prog 124 148 [] (erase xH):=Fn.ofA aN Try.func124 _ _ (by kernel_rfl)
noncomputable def IX (F129 F130 F131:ld)(F132:nP)(F133:ld)(F134:nQ)(F80:dS)(F135:lO)(F136:nR)(F124:gz)(l124_0:Yw)(a0 a1 a2:Int)(a3:List Y1):Option Y8:=
(l124_0 (a0,a1,a2,true,true,a3)).bind fun y20=>(
some y20)
theorem g124 (F129 F130 F131:ld)(F132:nP)(F133:ld)(F134:nQ)(F80:dS)(F135:lO)(F136:nR)(F124:gz):aO (kU F129 F130 F131 F132 F133 F134 F80 F135 F136 F124) lK [] xH=u4 (IX F129 F130 F131 F132 F133 F134 F80 F135 F136 F124 (l124_0 (kU F129 F130 F131 F132 F133 F134 F80 F135 F136 F124))):=funext fun _=>by kernel_rfl
noncomputable def BN (F124:gz):=IX gQ gR gu gU gV gW P80 gX gw F124 (tp F124)
noncomputable def iS:Nat→Int×Int×Int×Y8→Option Y8
  | 0=>fun _=>none
  | n+1=>fun x=>BN (iS n) x.1 x.2.1 x.2.2.1 x.2.2.2
noncomputable def P124:gz:=iS 18446744073709551616
theorem v124 (F124:gz):aO (kU gQ gR gu gU gV gW P80 gX gw F124) lK [] xH=fun x=>BN F124 x.1 x.2.1 x.2.2.1 x.2.2.2:=(g124 gQ gR gu gU gV gW P80 gX gw F124).trans (by rw[Rh F124] <;> rfl)
theorem Vs:∀ n,DC Try.prog 124 lK (iS n)
  | 0=>za (ak (sh:=lK) al La (by kernel_rfl)).1
  | n+1=>aF (v124 (iS n)) (ak (sh:=lK) (t124 (iS n) (Vs n)) La (by kernel_rfl))
theorem d124:DC Try.prog 124 lK P124:=Vs _
noncomputable def Ri (F67:nO)(F124:gz):List FEnt:=[⟨67,BI,F67⟩,⟨124,lK,F124⟩]
theorem t109:aq Try.prog (Ri P67 P124):=(af d67 (by kernel_rfl) (af d124 (by kernel_rfl) al))
noncomputable def Rj:=bU Try.prog [] Try.f109 .n
theorem Vt:L.Fn Try.prog 109 14 [] (erase Rj):=Fn.ofA aN Try.func109 _ _ (by kernel_rfl)
def zE:FSh:=⟨⟨[(.slc 0),(.fn 80 [])],dv⟩,[bd],1,⟨⟨pG,dv⟩,[bd],[0],1⟩,false⟩
noncomputable def Rk (F67:nO)(F124:gz)(a0:List Y1):Option Y8:=
aj (ai .u64 (↑a0.length:Int)) (
(F67 (↑a0.length:Int)).bind fun r1=>(
(F124 (0,(↑a0.length:Int),r1,a0)).bind fun r2=>(
some r2)))
theorem g109 (F67:nO)(F124:gz)(a0:List Y1):aO (Ri F67 F124) zE [] Rj a0=Rk F67 F124 a0:=by kernel_rfl
noncomputable def Vu:=Rk P67 P124
noncomputable def P109:mV:=fun x=>Vu x
theorem v109:aO (Ri P67 P124) zE [] Rj=P109:=funext fun x=>(g109 P67 P124 x)
theorem d109:DC Try.prog 109 zE P109:=aF v109 (ak t109 Vt (by kernel_rfl))
noncomputable def T78 (F108:mV)(F109:mV):List FEnt:=[⟨108,zl,F108⟩,⟨109,zE,F109⟩]
theorem t78:aq Try.prog (T78 P108 P109):=(af d108 (by kernel_rfl) (af d109 (by kernel_rfl) al))
noncomputable def c78:=bU Try.prog [] Try.f78 .n
theorem ok78:L.Fn Try.prog 78 12 [(.t 4)] (erase c78):=Fn.ofA aN Try.func78 _ _ (by kernel_rfl)
def IY:FSh:=⟨⟨[(.fn 110 Iy),(.fn 80 [])],[(0,(.boxT bd))]⟩,[bd],1,⟨⟨BA,dv⟩,[bd],[],1⟩,false⟩
noncomputable def q78 (F108 F109:mV)(a0:List Y1):Option Y8:=
(F108 a0).bind fun r1=>(
(F109 r1).bind fun r2=>(
some r2))
theorem g78 (F108 F109:mV)(a0:List Y1):aO (T78 F108 F109) IY [(.t 4)] c78 a0=q78 F108 F109 a0:=by kernel_rfl
noncomputable def p78:=q78 P108 P109
noncomputable def zF:mV:=fun x=>p78 x
theorem v78:aO (T78 P108 P109) IY [(.t 4)] c78=zF:=funext fun x=>(g78 P108 P109 x)
theorem d78:DC Try.prog 78 IY zF:=aF v78 (ak t78 ok78 (by kernel_rfl))
noncomputable def IZ:List FEnt:=[]
theorem t82:aq Try.prog IZ:=al
def Lb:LSh:=⟨[0,3,4,5],⟨[(.slc 0),(.v y7),(.slo 0 5),(.v y7)],dv⟩,KP,1,[0]⟩
def Lc:List XSh:=[⟨(.exit 2),[0,3],⟨⟨PM,dv⟩,[y7,bd],[0],1⟩⟩]
def Ld:LSh:=⟨[0,3],⟨PM,dv⟩,[y7,bd],1,[]⟩
def Lf:List XSh:=[⟨.ret,[2],⟨⟨BA,dv⟩,[bd],[],1⟩⟩,⟨(.exit 0),[0],⟨⟨BA,dv⟩,[bd],[],1⟩⟩]
noncomputable def Vv:=bU Try.prog [(7,{ch:=[0,0,1,0] }),(14,{ch:=[0,0,1,0] }),(15,{ch:=[0,0,2,0] })] Try.f82 (.s .n (.s .n (.s (.s .n (.b (.l Ld Lf (.s .n (.s (.b (.s .n (.s (.s .n (.s (.s .n (.b (.l Lb Lc .n))) .n)) .n))) .n))))) .n)))
noncomputable def Lg (T:List FEnt):=aG (xs:=Lc) Lb (bg T (sb [1,1,0,1,2,2,1,0,2,1,0,1,0,1,2,2] Vv))
noncomputable def l82_1 (T:List FEnt):=ah (Lg T)
noncomputable def zG (a0 a1 a2 a3:Int)(a4:List Y1):Option YN:=
cond (decide (a3 < (↑a2.toNat:Int))) (
aj (aC a3 a2.toNat) (
aj (ai .i64 (a3-1)) (
aj (aC (a3-1) a2.toNat) (
cond (!((((decide ((wB a4 (a1.toNat+Int.toNat a3)).1=(wB a4 (a1.toNat+Int.toNat (a3-1))).1)&&decide ((wB a4 (a1.toNat+Int.toNat a3)).2.1=(wB a4 (a1.toNat+Int.toNat (a3-1))).2.1))&&decide ((wB a4 (a1.toNat+Int.toNat a3)).2.2.1=(wB a4 (a1.toNat+Int.toNat (a3-1))).2.2.1))&&decide ((wB a4 (a1.toNat+Int.toNat a3)).2.2.2.1=(wB a4 (a1.toNat+Int.toNat (a3-1))).2.2.2.1))&&decide ((wB a4 (a1.toNat+Int.toNat a3)).2.2.2.2=(wB a4 (a1.toNat+Int.toNat (a3-1))).2.2.2.2))) (
aj (aC a3 a2.toNat) (
aj (aC a0 a4.length) (
aj (ai .i64 (a0+1)) (
aj (ai .i64 (a3+1)) (
some (Sum.inl ((a0+1),(↑a1.toNat:Int),(↑a2.toNat:Int),(a3+1),(List.set a4 a0.toNat (wB a4 (a1.toNat+Int.toNat a3)))))))))) (
aj (ai .i64 (a3+1)) (
some (Sum.inl (a0,(↑a1.toNat:Int),(↑a2.toNat:Int),(a3+1),a4)))))))) (
some (Sum.inr (a0,a4)))
theorem Vw:Lg IZ=u5 zG:=funext fun _=>by kernel_rfl
noncomputable def Fg:=zG
noncomputable def Fh:YF:=ah (fun x=>Fg x.1 x.2.1 x.2.2.1 x.2.2.2.1 x.2.2.2.2)
theorem Vx:l82_1 IZ=Fh:=congrArg ah Vw
noncomputable def Lh (T:List FEnt):=aG (xs:=Lf) Ld (bg T (sb [1,1,0,1,2,2] Vv))
noncomputable def l82_0 (T:List FEnt):=ah (Lh T)
noncomputable def zH (l82_1:YF)(a0:Int)(a1:List Y1):Option YO:=
cond (decide (a0 < (↑a1.length:Int))) (
aj (aC a0 a1.length) (
aj (ai .i64 (a0-1)) (
aj (aC (a0-1) a1.length) (
cond ((((decide ((ix a1 a0).1=(ix a1 (a0-1)).1)&&decide ((ix a1 a0).2.1=(ix a1 (a0-1)).2.1))&&decide ((ix a1 a0).2.2.1=(ix a1 (a0-1)).2.2.1))&&decide ((ix a1 a0).2.2.2.1=(ix a1 (a0-1)).2.2.2.1))&&decide ((ix a1 a0).2.2.2.2=(ix a1 (a0-1)).2.2.2.2)) (
aj (decide (0≤a0)) (
aj (decide (a0≤(↑a1.length:Int))) (
aj (decide ((↑a1.length:Int)≤(↑a1.length:Int))) (
aj (decide (0 < List.length a1)) (
(l82_1 (a0,(↑a0.toNat:Int),(↑(Int.toNat ((↑a1.length:Int)-a0)):Int),1,a1)).bind fun y1=>(
aj (decide (0≤y1.1)) (
aj (decide (y1.1≤(↑y1.2.length:Int))) (
aj (decide ((↑y1.2.length:Int)≤(↑y1.2.length:Int))) (
aj (decide (0 < List.length y1.2)) (
aj (decide (0≤y1.1)) (
aj (decide (y1.1≤(↑(List.length (cq y1.2 y1.1.toNat (Int.toNat ((↑y1.2.length:Int)-y1.1)) (0,(0,(0,(0,0)))))):Int))) (
aj (decide (0 < List.length (cq y1.2 y1.1.toNat (Int.toNat ((↑y1.2.length:Int)-y1.1)) (0,(0,(0,(0,0))))))) (
some (Sum.inr (Sum.inl (List.take y1.1.toNat (cq y1.2 y1.1.toNat (Int.toNat ((↑y1.2.length:Int)-y1.1)) (0,(0,(0,(0,0))))))))))))))))))))) (
aj (ai .i64 (a0+1)) (
some (Sum.inl ((a0+1),a1)))))))) (
some (Sum.inr (Sum.inr a1)))
theorem g82_0:Lh IZ=u2 (zH (l82_1 IZ)):=funext fun _=>by kernel_rfl
noncomputable def zI:=zH Fh
noncomputable def zJ:YG:=ah (fun x=>zI x.1 x.2)
theorem v82_0:l82_0 IZ=zJ:=congrArg ah (g82_0.trans (by rw[Vx] <;> rfl))
theorem ok82:L.Fn Try.prog 82 61 [(.t 2)] (erase Vv):=Fn.ofA aN Try.func82 _ _ (by kernel_rfl)
def I0:FSh:=⟨⟨BA,dv⟩,[bd],1,⟨⟨BA,dv⟩,[bd],[],1⟩,false⟩
noncomputable def Vy (l82_0:YG)(a0:List Y1):Option Y8:=
cond (decide ((↑a0.length:Int) < 2)) (
some a0) (
(l82_0 (1,a0)).bind (fun y2=>Sum.elim (fun y3=>(
some y3)) (fun y4=>(
some y4)) y2))
theorem g82 (a0:List Y1):aO IZ I0 [(.t 2)] Vv a0=Vy (l82_0 IZ) a0:=by kernel_rfl
noncomputable def p82:=Vy zJ
noncomputable def tR:mV:=fun x=>p82 x
theorem v82:aO IZ I0 [(.t 2)] Vv=tR:=funext fun x=>(g82 x).trans (by rw[v82_0] <;> rfl)
theorem d82:DC Try.prog 82 I0 tR:=aF v82 (ak t82 ok82 (by kernel_rfl))
noncomputable def BO:List FEnt:=[]
theorem t111:aq Try.prog BO:=al
def Fi:LSh:=⟨[0,1,2,11,12],⟨j19,k8⟩,z9,5,[0,1,2,3,4]⟩
def Fj:List XSh:=[⟨(.exit 0),[1,2],⟨⟨[(.pel 1),(.v y7)],k8⟩,z10,[0,1,2,3,4],5⟩⟩]
noncomputable def I1:=bU Try.prog [] Try.f111 (.s (.s .n (.b (.l Fi Fj .n))) .n)
noncomputable def Fk (T:List FEnt):=aG (xs:=Fj) Fi (bg T (sb [0,1,2,2] I1))
noncomputable def l111_0 (T:List FEnt):=ah (Fk T)
noncomputable def mQ (a0 a1 a2 a3:Int)(a4:List Int)(a5:Int)(a6:List Y3)(a7:List Y2)(a8:List Int):Option R0:=
cond (decide (a3 < a2)) (
aj (aC ((pd a6 a0).2.1) a7.length) (
aj (ai .i64 ((pd a6 a0).2.2.1+a3)) (
aj (aC ((pd a6 a0).2.2.1+a3) (List.length (ix a7 ((pd a6 a0).2.1)))) (
aj (ai .i64 (a3+1)) (
some (Sum.inl (a0,a1,a2,(a3+1),a4,a5,a6,(List.set a7 (Int.toNat ((pd a6 a0).2.1)) (List.set (ix a7 ((pd a6 a0).2.1)) (Int.toNat ((pd a6 a0).2.2.1+a3)) (-1))),a8))))))) (
some (Sum.inr (a0,a1,a4,a5,a6,a7,a8)))
theorem Rl:Fk BO=u9 mQ:=funext fun _=>by kernel_rfl
noncomputable def Fl:=mQ
noncomputable def tq:JP:=ah (fun x=>Fl x.1 x.2.1 x.2.2.1 x.2.2.2.1 x.2.2.2.2.1 x.2.2.2.2.2.1 x.2.2.2.2.2.2.1 x.2.2.2.2.2.2.2.1 x.2.2.2.2.2.2.2.2)
theorem Rm:l111_0 BO=tq:=congrArg ah Rl
theorem Vz:L.Fn Try.prog 111 48 [] (erase I1):=Fn.ofA aN Try.func111 _ _ (by kernel_rfl)
def zK:FSh:=⟨⟨[(.ptr 0 0),(.pel 1),(.v y7)],k8⟩,z10,5,⟨⟨pG,k8⟩,[y19,y7,oz,cI,y19],[0,1,2,3,4],5⟩,false⟩
noncomputable def I2 (l111_0:JP)(a0 a1:Int)(a2:List Int)(a3:Int)(a4:List Y3)(a5:List Y2)(a6:List Int):Option RX:=
(l111_0 (a0,a1,(pd a4 a0).2.2.2.1,0,a2,a3,a4,a5,a6)).bind fun y1=>(
some (y1.2.2.1,y1.2.2.2.1,(Cv (Cu (x7 y1.2.2.2.2.1 y1.1 y1.2.1) y1.1 (-1)) y1.1 (-1)),y1.2.2.2.2.2.1,y1.2.2.2.2.2.2))
theorem g111:aO BO zK [] I1=u7 (I2 (l111_0 BO)):=funext fun _=>by kernel_rfl
noncomputable def VA:=I2 tq
noncomputable def P111:qx:=fun x=>VA x.1 x.2.1 x.2.2.1 x.2.2.2.1 x.2.2.2.2.1 x.2.2.2.2.2.1 x.2.2.2.2.2.2
theorem v111:aO BO zK [] I1=P111:=g111.trans (by rw[Rm] <;> rfl)
theorem d111:DC Try.prog 111 zK P111:=aF v111 (ak t111 Vz (by kernel_rfl))
end Go.Proofs.Ytdkaijofmigmbaa.D
