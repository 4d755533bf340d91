import Derived.Test.YtdkaijofmigmbaaG1o
import Derived.Test.YtdkaijofmigmbaaProg
set_option linter.unusedVariables false
set_option maxRecDepth 100000
namespace Go.Proofs.Ytdkaijofmigmbaa.D
open Go Go.Proofs Go.Proofs.Ytdkaijofmigmbaa.L
def z6:List Ty:=[y7,y7,y7,.bool,.bool,y7,y7,y7,bc]
def z9:List Ty:=[y7,y7,y7,y7,y19,y7,n6,cG,y19]
def z10:List Ty:=[y7,y7,y19,y7,n6,cG,y19]
def j9:List RSh:=[(.slc 0),(.v y7),(.v y7),(.fn 80 []),(.v y7),(.v y7),(.v y7)]
def KY:List RSh:=[(.slc 0),(.v y7),(.fn 80 []),(.v y7),(.v y7)]
def j7:List RSh:=[(.slc 0),(.v y7),(.v y7),(.v y7),(.fn 80 []),(.v .bool),(.v .bool),(.v y7)]
def j4:List RSh:=[(.slc 0),(.v y7),(.v y7),(.v y7),(.fn 80 []),(.v .bool),(.v .bool),(.v y7),(.v y7),(.v y7)]
def j19:List RSh:=[(.ptr 0 0),(.pel 1),(.v y7),(.v y7),(.v y7)]
def k8:List (Nat×OSh):=[(0,(.box [(.v y19),(.v y7),(.slr 2),(.mpl 3),(.slc 4)])),(1,(.pool cW)),(2,(.rows 22 3 y7)),(3,(.gone 1)),(4,(.row 3 y7))]
noncomputable def iM (F80:dN):List FEnt:=[⟨80,pP,F80⟩]
theorem t134:al Try.prog (iM P80):=(aa PY (by kernel_rfl) ak)
def mE:LSh:=⟨[0,1,2,3,9,10],⟨Tr,dr⟩,KE,1,[0]⟩
def Eb:List XSh:=[⟨(.exit 2),[0,1,2,3,9,10],⟨⟨Tr,dr⟩,KE,[0],1⟩⟩]
def Ec:LSh:=⟨[0,1,2,3,9,10,11],⟨j9,dr⟩,[y7,y7,y7,y7,y7,bc],1,[0]⟩
def Ed:List XSh:=[⟨(.exit 4),[0,1,2,3,9,10],⟨⟨Tr,dr⟩,KE,[0],1⟩⟩]
def Ee:List XSh:=[⟨.normal,[0,1,2,3,9,10],⟨⟨Tr,dr⟩,KE,[0],1⟩⟩]
def Ef:LSh:=⟨[0,1,2,3,9,10,12],⟨j9,dr⟩,[y7,y7,y7,y7,y7,bc],1,[0]⟩
def Eg:List XSh:=[⟨(.exit 6),[0,1,2,3,9,10],⟨⟨Tr,dr⟩,KE,[0],1⟩⟩]
def Eh:List XSh:=[⟨.ret,[8],⟨⟨fk,dr⟩,[.bool,bc],[0],1⟩⟩,⟨(.exit 0),[],⟨⟨[],dr⟩,[bc],[0],1⟩⟩]
noncomputable def uB:=bU Try.prog [] Try.f134 (.s .n (.s .n (.s (.s .n (.b (.l mE Eh (.s .n (.s (.b (.s (.b (.l mE Eb .n)) (.s .n (.s .n (.s .n (.s (.o mE Ee (.s .n (.s (.s .n (.b (.l Ec Ed .n))) .n))) (.s .n (.s (.s .n (.b (.l Ef Eg .n))) .n)))))))) .n))))) .n)))
noncomputable def Ei (T:List FEnt):=aG (xs:=Eb) mE (bf T (sb [1,1,0,1,2,2,1,0,2,0,2,2] uB))
noncomputable def l134_1 (T:List FEnt):=af (Ei T)
noncomputable def wR (F80:dN)(a0 a1 a2 a3:Int)(a4:List Y1):Option YN:=
cond (decide (a2 < a1)) (
ai (aC a2 a4.length) (
ai (ah .i64 (a2-1)) (
ai (aC (a2-1) a4.length) (
(F80 ((ix a4 a2),(ix a4 (a2-1)))).bind fun r1=>(
cond (!(decide (r1 < 0))) (
ai (ah .i64 (a2+1)) (
some (Sum.inl (a0,a1,(a2+1),a3,a4)))) (
some (Sum.inr (a0,a1,a2,a3,a4)))))))) (
some (Sum.inr (a0,a1,a2,a3,a4)))
theorem QF (F80:dN):Ei (iM F80)=u5 (wR F80):=funext fun _=>by kernel_rfl
noncomputable def Ej:=wR P80
noncomputable def wS:RX:=af (fun x=>Ej x.1 x.2.1 x.2.2.1 x.2.2.2.1 x.2.2.2.2)
theorem QG:l134_1 (iM P80)=wS:=congrArg af (QF P80)
noncomputable def Ek (T:List FEnt):=aG (xs:=Ed) Ec (bf T (sb [1,1,0,1,2,2,1,0,2,1,1,1,1,0,2,1,0,1,2,2] uB))
noncomputable def l134_3 (T:List FEnt):=af (Ek T)
noncomputable def wT (F80:dN)(a0 a1 a2 a3 a4:Int)(a5:List Y1):Option RY:=
cond (decide (1≤a4)) (
ai (aC a4 a5.length) (
ai (ah .i64 (a4-1)) (
ai (aC (a4-1) a5.length) (
(F80 ((ix a5 a4),(ix a5 (a4-1)))).bind fun r3=>(
cond (!(decide (r3 < 0))) (
some (Sum.inr (a0,a1,a2,a3,a5))) (
ai (ah .i64 (a4-1)) (
ai (ah .i64 (a4-1)) (
ai (aC (a4-1) a5.length) (
ai (aC a4 a5.length) (
ai (aC a4 a5.length) (
ai (aC (a4-1) (List.length (List.set a5 a4.toNat (ix a5 (a4-1))))) (
ai (ah .i64 (a4-1)) (
some (Sum.inl (a0,a1,a2,a3,(a4-1),(List.set (List.set a5 a4.toNat (ix a5 (a4-1))) (Int.toNat (a4-1)) (ix a5 a4))))))))))))))))) (
some (Sum.inr (a0,a1,a2,a3,a5)))
theorem QH (F80:dN):Ek (iM F80)=u6 (wT F80):=funext fun _=>by kernel_rfl
noncomputable def El:=wT P80
noncomputable def wU:JB:=af (fun x=>El x.1 x.2.1 x.2.2.1 x.2.2.2.1 x.2.2.2.2.1 x.2.2.2.2.2)
theorem QI:l134_3 (iM P80)=wU:=congrArg af (QH P80)
noncomputable def l134_2 (T:List FEnt):=eZ (xs:=Ee) mE (bf T (sb [1,1,0,1,2,2,1,0,2,1,1,1,1,0,2] uB))
noncomputable def wV (F80:dN)(l134_3:JB)(a0 a1 a2 a3:Int)(a4:List Y1):Option Jx:=
ai (ah .i64 (a2-a0)) (
cond (decide (2≤(a2-a0))) (
ai (ah .i64 (a2-1)) (
(l134_3 (a0,a1,a2,a3,(a2-1),a4)).bind fun y4=>(
some (y4.1,y4.2.1,y4.2.2.1,y4.2.2.2.1,y4.2.2.2.2)))) (
some (a0,a1,a2,a3,a4)))
theorem QJ (F80:dN):l134_2 (iM F80)=u5 (wV F80 (l134_3 (iM F80))):=funext fun _=>by kernel_rfl
noncomputable def Em:=wV P80 wU
noncomputable def sE:RX:=fun x=>Em x.1 x.2.1 x.2.2.1 x.2.2.2.1 x.2.2.2.2
theorem QK:l134_2 (iM P80)=sE:=(QJ P80).trans (by rw[QI] <;> rfl)
noncomputable def En (T:List FEnt):=aG (xs:=Eg) Ef (bf T (sb [1,1,0,1,2,2,1,0,2,1,1,1,1,1,1,0,1,2,2] uB))
noncomputable def l134_4 (T:List FEnt):=af (En T)
noncomputable def wW (F80:dN)(a0 a1 a2 a3 a4:Int)(a5:List Y1):Option RY:=
cond (decide (a4 < a1)) (
ai (aC a4 a5.length) (
ai (ah .i64 (a4-1)) (
ai (aC (a4-1) a5.length) (
(F80 ((ix a5 a4),(ix a5 (a4-1)))).bind fun r6=>(
cond (!(decide (r6 < 0))) (
some (Sum.inr (a0,a1,a2,a3,a5))) (
ai (ah .i64 (a4-1)) (
ai (ah .i64 (a4-1)) (
ai (aC (a4-1) a5.length) (
ai (aC a4 a5.length) (
ai (aC a4 a5.length) (
ai (aC (a4-1) (List.length (List.set a5 a4.toNat (ix a5 (a4-1))))) (
ai (ah .i64 (a4+1)) (
some (Sum.inl (a0,a1,a2,a3,(a4+1),(List.set (List.set a5 a4.toNat (ix a5 (a4-1))) (Int.toNat (a4-1)) (ix a5 a4))))))))))))))))) (
some (Sum.inr (a0,a1,a2,a3,a5)))
theorem QL (F80:dN):En (iM F80)=u6 (wW F80):=funext fun _=>by kernel_rfl
noncomputable def Eo:=wW P80
noncomputable def wX:JB:=af (fun x=>Eo x.1 x.2.1 x.2.2.1 x.2.2.2.1 x.2.2.2.2.1 x.2.2.2.2.2)
theorem QM:l134_4 (iM P80)=wX:=congrArg af (QL P80)
noncomputable def Ep (T:List FEnt):=aG (xs:=Eh) mE (bf T (sb [1,1,0,1,2,2] uB))
noncomputable def l134_0 (T:List FEnt):=af (Ep T)
noncomputable def wY (F80:dN)(l134_1 l134_2:RX)(l134_4:JB)(a0 a1 a2 a3:Int)(a4:List Y1):Option YZ:=
cond (decide (a3 < 5)) (
(l134_1 (a0,a1,a2,a3,a4)).bind fun y2=>(
cond (decide (y2.2.2.1=y2.2.1)) (
some (Sum.inr (Sum.inl (true,y2.2.2.2.2)))) (
ai (ah .i64 (y2.2.1-y2.1)) (
cond (decide ((y2.2.1-y2.1) < 50)) (
some (Sum.inr (Sum.inl (false,y2.2.2.2.2)))) (
ai (ah .i64 (y2.2.2.1-1)) (
ai (ah .i64 (y2.2.2.1-1)) (
ai (aC (y2.2.2.1-1) y2.2.2.2.2.length) (
ai (aC y2.2.2.1 y2.2.2.2.2.length) (
ai (aC y2.2.2.1 y2.2.2.2.2.length) (
ai (aC (y2.2.2.1-1) (List.length (List.set y2.2.2.2.2 y2.2.2.1.toNat (ix y2.2.2.2.2 (y2.2.2.1-1))))) (
(l134_2 (y2.1,y2.2.1,y2.2.2.1,y2.2.2.2.1,(List.set (List.set y2.2.2.2.2 y2.2.2.1.toNat (ix y2.2.2.2.2 (y2.2.2.1-1))) (Int.toNat (y2.2.2.1-1)) (ix y2.2.2.2.2 y2.2.2.1)))).bind fun y5=>(
ai (ah .i64 (y5.2.1-y5.2.2.1)) (
cond (decide (2≤(y5.2.1-y5.2.2.1))) (
ai (ah .i64 (y5.2.2.1+1)) (
(l134_4 (y5.1,y5.2.1,y5.2.2.1,y5.2.2.2.1,(y5.2.2.1+1),y5.2.2.2.2)).bind fun y7=>(
ai (ah .i64 (y7.2.2.2.1+1)) (
some (Sum.inl (y7.1,y7.2.1,y7.2.2.1,(y7.2.2.2.1+1),y7.2.2.2.2)))))) (
ai (ah .i64 (y5.2.2.2.1+1)) (
some (Sum.inl (y5.1,y5.2.1,y5.2.2.1,(y5.2.2.2.1+1),y5.2.2.2.2))))))))))))))))) (
some (Sum.inr (Sum.inr a4)))
theorem QN (F80:dN):Ep (iM F80)=u5 (wY F80 (l134_1 (iM F80)) (l134_2 (iM F80)) (l134_4 (iM F80))):=funext fun _=>by kernel_rfl
noncomputable def Er:=wY P80 wS sE wX
noncomputable def wZ:YX:=af (fun x=>Er x.1 x.2.1 x.2.2.1 x.2.2.2.1 x.2.2.2.2)
theorem QO:l134_0 (iM P80)=wZ:=congrArg af ((QN P80).trans (by rw[QG,QK,QM] <;> rfl))
theorem Vj:L.Fn Try.prog 134 141 [(.t 8)] (erase uB):=Fn.ofA aM Try.func134 _ _ (by kernel_rfl)
def zn:FSh:=⟨⟨Ts,dr⟩,Ii,1,⟨⟨fk,dr⟩,[.bool,bc],[0],1⟩,false⟩
noncomputable def QP (F80:dN)(l134_0:YX)(a0 a1:Int)(a2:List Y1):Option RU:=
ai (ah .i64 (a0+1)) (
(l134_0 (a0,a1,(a0+1),0,a2)).bind (fun y8=>Sum.elim (fun y9=>(
some (y9.1,y9.2))) (fun y10=>(
some (false,y10))) y8))
theorem g134 (F80:dN):aO (iM F80) zn [(.t 8)] uB=u3 (QP F80 (l134_0 (iM F80))):=funext fun _=>by kernel_rfl
noncomputable def Vk:=QP P80 wZ
noncomputable def gQ:ny:=fun x=>Vk x.1 x.2.1 x.2.2
theorem v134:aO (iM P80) zn [(.t 8)] uB=gQ:=(g134 P80).trans (by rw[QO] <;> rfl)
theorem d134:DC Try.prog 134 zn gQ:=aD v134 (aj t134 Vj (by kernel_rfl))
noncomputable def nt (F80:dN):List FEnt:=[⟨80,pP,F80⟩]
theorem t135:al Try.prog (nt P80):=(aa PY (by kernel_rfl) ak)
def mF:LSh:=⟨[0,1,4,11,12],⟨KY,dr⟩,uu,1,[0]⟩
def Es:List XSh:=[⟨(.exit 2),[0,1,4,11,12],⟨⟨KY,dr⟩,uu,[0],1⟩⟩]
def Et:List XSh:=[⟨(.exit 4),[0,1,4,11,12],⟨⟨KY,dr⟩,uu,[0],1⟩⟩]
def Eu:List XSh:=[⟨(.exit 0),[11],⟨⟨nr,dr⟩,[y7,bc],[0],1⟩⟩]
noncomputable def Bu:=bU Try.prog [] Try.f135 (.s .n (.s .n (.s .n (.s (.b (.l mF Eu (.b (.s (.b (.l mF Es .n)) (.s (.b (.l mF Et .n)) .n))))) .n))))
noncomputable def Ev (T:List FEnt):=aG (xs:=Es) mF (bf T (sb [1,1,1,0,2,2,2,0,2,2] Bu))
noncomputable def l135_1 (T:List FEnt):=af (Ev T)
noncomputable def w6 (F80:dN)(a0 a1 a2:Int)(a3:List Y1):Option xJ:=
cond (decide (a1≤a2)) (
ai (aC a0 a3.length) (
ai (aC a1 a3.length) (
(F80 ((ix a3 a0),(ix a3 a1))).bind fun r1=>(
cond (!(decide (r1 < 0))) (
ai (ah .i64 (a1+1)) (
some (Sum.inl (a0,(a1+1),a2,a3)))) (
some (Sum.inr (a0,a1,a2,a3))))))) (
some (Sum.inr (a0,a1,a2,a3)))
theorem QQ (F80:dN):Ev (nt F80)=u4 (w6 F80):=funext fun _=>by kernel_rfl
noncomputable def Ew:=w6 P80
noncomputable def w7:sQ:=af (fun x=>Ew x.1 x.2.1 x.2.2.1 x.2.2.2)
theorem QR:l135_1 (nt P80)=w7:=congrArg af (QQ P80)
noncomputable def Ex (T:List FEnt):=aG (xs:=Et) mF (bf T (sb [1,1,1,0,2,2,2,1,0,2,2] Bu))
noncomputable def l135_2 (T:List FEnt):=af (Ex T)
noncomputable def xa (F80:dN)(a0 a1 a2:Int)(a3:List Y1):Option xJ:=
cond (decide (a1≤a2)) (
ai (aC a0 a3.length) (
ai (aC a2 a3.length) (
(F80 ((ix a3 a0),(ix a3 a2))).bind fun r3=>(
cond (decide (r3 < 0)) (
ai (ah .i64 (a2-1)) (
some (Sum.inl (a0,a1,(a2-1),a3)))) (
some (Sum.inr (a0,a1,a2,a3))))))) (
some (Sum.inr (a0,a1,a2,a3)))
theorem QS (F80:dN):Ex (nt F80)=u4 (xa F80):=funext fun _=>by kernel_rfl
noncomputable def Ey:=xa P80
noncomputable def xb:sQ:=af (fun x=>Ey x.1 x.2.1 x.2.2.1 x.2.2.2)
theorem QT:l135_2 (nt P80)=xb:=congrArg af (QS P80)
noncomputable def Ez (T:List FEnt):=aG (xs:=Eu) mF (bf T (sb [1,1,1,0,2,2] Bu))
noncomputable def l135_0 (T:List FEnt):=af (Ez T)
noncomputable def xd (F80:dN)(l135_1 l135_2:sQ)(a0 a1 a2:Int)(a3:List Y1):Option YQ:=
(l135_1 (a0,a1,a2,a3)).bind fun y2=>(
(l135_2 (y2.1,y2.2.1,y2.2.2.1,y2.2.2.2)).bind fun y4=>(
cond (decide (y4.2.2.1 < y4.2.1)) (
some (Sum.inr (y4.2.1,y4.2.2.2))) (
ai (aC y4.2.2.1 y4.2.2.2.length) (
ai (aC y4.2.1 y4.2.2.2.length) (
ai (aC y4.2.1 y4.2.2.2.length) (
ai (aC y4.2.2.1 (List.length (List.set y4.2.2.2 y4.2.1.toNat (ix y4.2.2.2 y4.2.2.1)))) (
ai (ah .i64 (y4.2.1+1)) (
ai (ah .i64 (y4.2.2.1-1)) (
some (Sum.inl (y4.1,(y4.2.1+1),(y4.2.2.1-1),(List.set (List.set y4.2.2.2 y4.2.1.toNat (ix y4.2.2.2 y4.2.2.1)) y4.2.2.1.toNat (ix y4.2.2.2 y4.2.1)))))))))))))
theorem QU (F80:dN):Ez (nt F80)=u4 (xd F80 (l135_1 (nt F80)) (l135_2 (nt F80))):=funext fun _=>by kernel_rfl
noncomputable def EA:=xd P80 w7 xb
noncomputable def xe:lD:=af (fun x=>EA x.1 x.2.1 x.2.2.1 x.2.2.2)
theorem QV:l135_0 (nt P80)=xe:=congrArg af ((QU P80).trans (by rw[QR,QT] <;> rfl))
theorem Vl:L.Fn Try.prog 135 90 [(.t 10)] (erase Bu):=Fn.ofA aM Try.func135 _ _ (by kernel_rfl)
def zo:FSh:=⟨⟨j16,dr⟩,uu,1,⟨⟨nr,dr⟩,[y7,bc],[0],1⟩,false⟩
noncomputable def QW (F80:dN)(l135_0:lD)(a0 a1 a2:Int)(a3:List Y1):Option Oh:=
ai (aC a2 a3.length) (
ai (aC a0 a3.length) (
ai (aC a0 a3.length) (
ai (aC a2 (List.length (List.set a3 a0.toNat (ix a3 a2)))) (
ai (ah .i64 (a0+1)) (
ai (ah .i64 (a1-1)) (
(l135_0 (a0,(a0+1),(a1-1),(List.set (List.set a3 a0.toNat (ix a3 a2)) a2.toNat (ix a3 a0)))).bind fun y5=>(
some (y5.1,y5.2))))))))
theorem g135 (F80:dN):aO (nt F80) zo [(.t 10)] Bu=u4 (QW F80 (l135_0 (nt F80))):=funext fun _=>by kernel_rfl
noncomputable def Vm:=QW P80 xe
noncomputable def gR:lD:=fun x=>Vm x.1 x.2.1 x.2.2.1 x.2.2.2
theorem v135:aO (nt P80) zo [(.t 10)] Bu=gR:=(g135 P80).trans (by rw[QV] <;> rfl)
theorem d135:DC Try.prog 135 zo gR:=aD v135 (aj t135 Vl (by kernel_rfl))
noncomputable def iN (F80:dN):List FEnt:=[⟨80,pP,F80⟩]
theorem t136:al Try.prog (iN P80):=(aa PY (by kernel_rfl) ak)
def gl:LSh:=⟨[0,1,4,12,13],⟨KY,dr⟩,uu,1,[0]⟩
def EB:List XSh:=[⟨(.exit 0),[0,1,4,12,13],⟨⟨KY,dr⟩,uu,[0],1⟩⟩]
def EC:List XSh:=[⟨(.exit 2),[0,1,4,12,13],⟨⟨KY,dr⟩,uu,[0],1⟩⟩]
def ED:List XSh:=[⟨(.exit 6),[0,1,4,12,13],⟨⟨KY,dr⟩,uu,[0],1⟩⟩]
def EE:List XSh:=[⟨(.exit 8),[0,1,4,12,13],⟨⟨KY,dr⟩,uu,[0],1⟩⟩]
def EF:List XSh:=[⟨(.exit 4),[0,1,13],⟨⟨G7,dr⟩,Ii,[0],1⟩⟩]
noncomputable def uC:=bU Try.prog [] Try.f136 (.s .n (.s .n (.s .n (.s (.b (.l gl EB .n)) (.s (.b (.l gl EC .n)) (.s .n (.s .n (.s .n (.s .n (.s (.b (.l gl EF (.b (.s (.b (.l gl ED .n)) (.s (.b (.l gl EE .n)) .n))))) .n))))))))))
noncomputable def EG (T:List FEnt):=aG (xs:=EB) gl (bf T (sb [1,1,1,0,2,2] uC))
noncomputable def l136_0 (T:List FEnt):=af (EG T)
noncomputable def xf (F80:dN)(a0 a1 a2:Int)(a3:List Y1):Option xJ:=
cond (decide (a1≤a2)) (
ai (aC a1 a3.length) (
ai (aC a0 a3.length) (
(F80 ((ix a3 a1),(ix a3 a0))).bind fun r1=>(
cond (decide (r1 < 0)) (
ai (ah .i64 (a1+1)) (
some (Sum.inl (a0,(a1+1),a2,a3)))) (
some (Sum.inr (a0,a1,a2,a3))))))) (
some (Sum.inr (a0,a1,a2,a3)))
theorem QX (F80:dN):EG (iN F80)=u4 (xf F80):=funext fun _=>by kernel_rfl
noncomputable def EH:=xf P80
noncomputable def xg:sQ:=af (fun x=>EH x.1 x.2.1 x.2.2.1 x.2.2.2)
theorem QY:l136_0 (iN P80)=xg:=congrArg af (QX P80)
noncomputable def EI (T:List FEnt):=aG (xs:=EC) gl (bf T (sb [1,1,1,1,0,2,2] uC))
noncomputable def l136_1 (T:List FEnt):=af (EI T)
noncomputable def xh (F80:dN)(a0 a1 a2:Int)(a3:List Y1):Option xJ:=
cond (decide (a1≤a2)) (
ai (aC a2 a3.length) (
ai (aC a0 a3.length) (
(F80 ((ix a3 a2),(ix a3 a0))).bind fun r3=>(
cond (!(decide (r3 < 0))) (
ai (ah .i64 (a2-1)) (
some (Sum.inl (a0,a1,(a2-1),a3)))) (
some (Sum.inr (a0,a1,a2,a3))))))) (
some (Sum.inr (a0,a1,a2,a3)))
theorem QZ (F80:dN):EI (iN F80)=u4 (xh F80):=funext fun _=>by kernel_rfl
noncomputable def EJ:=xh P80
noncomputable def xi:sQ:=af (fun x=>EJ x.1 x.2.1 x.2.2.1 x.2.2.2)
theorem Q0:l136_1 (iN P80)=xi:=congrArg af (QZ P80)
noncomputable def EK (T:List FEnt):=aG (xs:=ED) gl (bf T (sb [1,1,1,1,1,1,1,1,1,0,2,2,2,0,2,2] uC))
noncomputable def l136_3 (T:List FEnt):=af (EK T)
noncomputable def xj (F80:dN)(a0 a1 a2:Int)(a3:List Y1):Option xJ:=
cond (decide (a1≤a2)) (
ai (aC a1 a3.length) (
ai (aC a0 a3.length) (
(F80 ((ix a3 a1),(ix a3 a0))).bind fun r5=>(
cond (decide (r5 < 0)) (
ai (ah .i64 (a1+1)) (
some (Sum.inl (a0,(a1+1),a2,a3)))) (
some (Sum.inr (a0,a1,a2,a3))))))) (
some (Sum.inr (a0,a1,a2,a3)))
theorem Q1 (F80:dN):EK (iN F80)=u4 (xj F80):=funext fun _=>by kernel_rfl
noncomputable def EL:=xj P80
noncomputable def xl:sQ:=af (fun x=>EL x.1 x.2.1 x.2.2.1 x.2.2.2)
theorem Q2:l136_3 (iN P80)=xl:=congrArg af (Q1 P80)
noncomputable def EM (T:List FEnt):=aG (xs:=EE) gl (bf T (sb [1,1,1,1,1,1,1,1,1,0,2,2,2,1,0,2,2] uC))
noncomputable def l136_4 (T:List FEnt):=af (EM T)
noncomputable def xm (F80:dN)(a0 a1 a2:Int)(a3:List Y1):Option xJ:=
cond (decide (a1≤a2)) (
ai (aC a2 a3.length) (
ai (aC a0 a3.length) (
(F80 ((ix a3 a2),(ix a3 a0))).bind fun r7=>(
cond (!(decide (r7 < 0))) (
ai (ah .i64 (a2-1)) (
some (Sum.inl (a0,a1,(a2-1),a3)))) (
some (Sum.inr (a0,a1,a2,a3))))))) (
some (Sum.inr (a0,a1,a2,a3)))
theorem Q3 (F80:dN):EM (iN F80)=u4 (xm F80):=funext fun _=>by kernel_rfl
noncomputable def EN:=xm P80
noncomputable def xn:sQ:=af (fun x=>EN x.1 x.2.1 x.2.2.1 x.2.2.2)
theorem Q4:l136_4 (iN P80)=xn:=congrArg af (Q3 P80)
noncomputable def EO (T:List FEnt):=aG (xs:=EF) gl (bf T (sb [1,1,1,1,1,1,1,1,1,0,2,2] uC))
noncomputable def l136_2 (T:List FEnt):=af (EO T)
noncomputable def xp (F80:dN)(l136_3 l136_4:sQ)(a0 a1 a2:Int)(a3:List Y1):Option YR:=
(l136_3 (a0,a1,a2,a3)).bind fun y6=>(
(l136_4 (y6.1,y6.2.1,y6.2.2.1,y6.2.2.2)).bind fun y8=>(
cond (decide (y8.2.2.1 < y8.2.1)) (
some (Sum.inr (y8.1,y8.2.2.1,y8.2.2.2))) (
ai (aC y8.2.2.1 y8.2.2.2.length) (
ai (aC y8.2.1 y8.2.2.2.length) (
ai (aC y8.2.1 y8.2.2.2.length) (
ai (aC y8.2.2.1 (List.length (List.set y8.2.2.2 y8.2.1.toNat (ix y8.2.2.2 y8.2.2.1)))) (
ai (ah .i64 (y8.2.1+1)) (
ai (ah .i64 (y8.2.2.1-1)) (
some (Sum.inl (y8.1,(y8.2.1+1),(y8.2.2.1-1),(List.set (List.set y8.2.2.2 y8.2.1.toNat (ix y8.2.2.2 y8.2.2.1)) y8.2.2.1.toNat (ix y8.2.2.2 y8.2.1)))))))))))))
theorem Q5 (F80:dN):EO (iN F80)=u4 (xp F80 (l136_3 (iN F80)) (l136_4 (iN F80))):=funext fun _=>by kernel_rfl
noncomputable def EP:=xp P80 xl xn
noncomputable def xq:YI:=af (fun x=>EP x.1 x.2.1 x.2.2.1 x.2.2.2)
theorem Q6:l136_2 (iN P80)=xq:=congrArg af ((Q5 P80).trans (by rw[Q2,Q4] <;> rfl))
theorem Vn:L.Fn Try.prog 136 178 [(.t 10),(.t 11)] (erase uC):=Fn.ofA aM Try.func136 _ _ (by kernel_rfl)
def zp:FSh:=⟨⟨j16,dr⟩,uu,1,⟨⟨[(.tup [(.v y7),(.v .bool)])],dr⟩,[y7,.bool,bc],[0],1⟩,false⟩
noncomputable def Q7 (F80:dN)(l136_0 l136_1:sQ)(l136_2:YI)(a0 a1 a2:Int)(a3:List Y1):Option YG:=
ai (aC a2 a3.length) (
ai (aC a0 a3.length) (
ai (aC a0 a3.length) (
ai (aC a2 (List.length (List.set a3 a0.toNat (ix a3 a2)))) (
ai (ah .i64 (a0+1)) (
ai (ah .i64 (a1-1)) (
(l136_0 (a0,(a0+1),(a1-1),(List.set (List.set a3 a0.toNat (ix a3 a2)) a2.toNat (ix a3 a0)))).bind fun y2=>(
(l136_1 (y2.1,y2.2.1,y2.2.2.1,y2.2.2.2)).bind fun y4=>(
cond (decide (y4.2.2.1 < y4.2.1)) (
ai (aC y4.1 y4.2.2.2.length) (
ai (aC y4.2.2.1 y4.2.2.2.length) (
ai (aC y4.2.2.1 y4.2.2.2.length) (
ai (aC y4.1 (List.length (List.set y4.2.2.2 y4.2.2.1.toNat (ix y4.2.2.2 y4.1)))) (
some (y4.2.2.1,true,(List.set (List.set y4.2.2.2 y4.2.2.1.toNat (ix y4.2.2.2 y4.1)) y4.1.toNat (ix y4.2.2.2 y4.2.2.1)))))))) (
ai (aC y4.2.2.1 y4.2.2.2.length) (
ai (aC y4.2.1 y4.2.2.2.length) (
ai (aC y4.2.1 y4.2.2.2.length) (
ai (aC y4.2.2.1 (List.length (List.set y4.2.2.2 y4.2.1.toNat (ix y4.2.2.2 y4.2.2.1)))) (
ai (ah .i64 (y4.2.1+1)) (
ai (ah .i64 (y4.2.2.1-1)) (
(l136_2 (y4.1,(y4.2.1+1),(y4.2.2.1-1),(List.set (List.set y4.2.2.2 y4.2.1.toNat (ix y4.2.2.2 y4.2.2.1)) y4.2.2.1.toNat (ix y4.2.2.2 y4.2.1)))).bind fun y9=>(
ai (aC y9.1 y9.2.2.length) (
ai (aC y9.2.1 y9.2.2.length) (
ai (aC y9.2.1 y9.2.2.length) (
ai (aC y9.1 (List.length (List.set y9.2.2 y9.2.1.toNat (ix y9.2.2 y9.1)))) (
some (y9.2.1,false,(List.set (List.set y9.2.2 y9.2.1.toNat (ix y9.2.2 y9.1)) y9.1.toNat (ix y9.2.2 y9.2.1)))))))))))))))))))))))
theorem g136 (F80:dN):aO (iN F80) zp [(.t 10),(.t 11)] uC=u4 (Q7 F80 (l136_0 (iN F80)) (l136_1 (iN F80)) (l136_2 (iN F80))):=funext fun _=>by kernel_rfl
noncomputable def Vo:=Q7 P80 xg xi xq
noncomputable def gm:nz:=fun x=>Vo x.1 x.2.1 x.2.2.1 x.2.2.2
theorem v136:aO (iN P80) zp [(.t 10),(.t 11)] uC=gm:=(g136 P80).trans (by rw[QY,Q0,Q6] <;> rfl)
theorem d136:DC Try.prog 136 zp gm:=aD v136 (aj t136 Vn (by kernel_rfl))
def lA:FSh:=⟨⟨j16,dr⟩,uu,1,⟨⟨pc,dr⟩,[bc],[0],1⟩,false⟩
noncomputable def kI (F129:kS)(F130:kS)(F131:kS)(F132:nw)(F133:kS)(F134:ny)(F80:dN)(F135:lD)(F136:nz)(F124:gu):List FEnt:=[⟨129,zf,F129⟩,⟨130,zh,F130⟩,⟨131,zi,F131⟩,⟨132,zl,F132⟩,⟨133,zm,F133⟩,⟨134,zn,F134⟩,⟨80,pP,F80⟩,⟨135,zo,F135⟩,⟨136,zp,F136⟩,⟨124,lA,F124⟩]
theorem t124 (F124:gu)(h:DC Try.prog 124 lA F124):al Try.prog (kI gJ gK gk gN gO gQ P80 gR gm F124):=(aa d129 (by kernel_rfl) (aa d130 (by kernel_rfl) (aa d131 (by kernel_rfl) (aa d132 (by kernel_rfl) (aa d133 (by kernel_rfl) (aa d134 (by kernel_rfl) (aa PY (by kernel_rfl) (aa d135 (by kernel_rfl) (aa d136 (by kernel_rfl) (aa h (by kernel_rfl) ak))))))))))
def EQ:LSh:=⟨[0,1,2,3,4,10,11,12],⟨j7,dr⟩,[y7,y7,y7,.bool,.bool,y7,bc],1,[0]⟩
def ER:List XSh:=[⟨.normal,[0,1,2,3,4,10,11,12],⟨⟨j7,dr⟩,[y7,y7,y7,.bool,.bool,y7,bc],[0],1⟩⟩]
def sF:LSh:=⟨[0,1,2,3,4,10,11,12,13,14],⟨j4,dr⟩,z6,1,[0]⟩
def ES:List XSh:=[⟨.normal,[0,1,2,3,4,10,11,12,13,14],⟨⟨j4,dr⟩,z6,[0],1⟩⟩]
def ET:List XSh:=[⟨.ret,[],⟨⟨[],dr⟩,[bc],[0],1⟩⟩,⟨.normal,[0,1,2,3,4,10,11,12,13],⟨⟨[(.slc 0),(.v y7),(.v y7),(.v y7),(.fn 80 []),(.v .bool),(.v .bool),(.v y7),(.v y7)],dr⟩,[y7,y7,y7,.bool,.bool,y7,y7,bc],[0],1⟩⟩]
def EU:LSh:=⟨[0,1,2,3,4,10,11],⟨[(.slc 0),(.v y7),(.v y7),(.v y7),(.fn 80 []),(.v .bool),(.v .bool)],dr⟩,[y7,y7,y7,.bool,.bool,bc],1,[0]⟩
def EV:List XSh:=[⟨.ret,[],⟨⟨[],dr⟩,[bc],[0],1⟩⟩]
noncomputable def xt:=bU Try.prog [] Try.f124 (.s .n (.s .n (.b (.l EU EV (.b (.s .n (.s .n (.s .n (.s (.o EQ ER .n) (.s .n (.s (.o sF ES .n) (.s (.o sF ET .n) .n))))))))))))
noncomputable def l124_1 (T:List FEnt):=eZ (xs:=ER) EQ (bf T (sb [1,1,2,2,2,1,1,1,0,2] xt))
noncomputable def sG (F129 F130 F131:kS)(F132:nw)(F133:kS)(F134:ny)(F80:dN)(F135:lD)(F136:nz)(F124:gu)(a0 a1 a2:Int)(a3 a4:Bool)(a5:Int)(a6:List Y1):Option YE:=
cond (!a3) (
(F131 (a0,a1,a6)).bind fun r3=>(
ai (ah .i64 (a2-1)) (
some (a0,a1,(a2-1),a3,a4,a5,r3)))) (
some (a0,a1,a2,a3,a4,a5,a6))
theorem Q8 (F129 F130 F131:kS)(F132:nw)(F133:kS)(F134:ny)(F80:dN)(F135:lD)(F136:nz)(F124:gu):l124_1 (kI F129 F130 F131 F132 F133 F134 F80 F135 F136 F124)=u7 (sG F129 F130 F131 F132 F133 F134 F80 F135 F136 F124):=funext fun _=>by kernel_rfl
noncomputable def xu (F124:gu):=sG gJ gK gk gN gO gQ P80 gR gm F124
noncomputable def pe (F124:gu):YJ:=fun x=>xu F124 x.1 x.2.1 x.2.2.1 x.2.2.2.1 x.2.2.2.2.1 x.2.2.2.2.2.1 x.2.2.2.2.2.2
theorem Q9 (F124:gu):l124_1 (kI gJ gK gk gN gO gQ P80 gR gm F124)=pe F124:=Q8 gJ gK gk gN gO gQ P80 gR gm F124
noncomputable def l124_2 (T:List FEnt):=eZ (xs:=ES) sF (bf T (sb [1,1,2,2,2,1,1,1,1,1,0,2] xt))
noncomputable def xw (F129 F130 F131:kS)(F132:nw)(F133:kS)(F134:ny)(F80:dN)(F135:lD)(F136:nz)(F124:gu)(a0 a1 a2:Int)(a3 a4:Bool)(a5 a6 a7:Int)(a8:List Y1):Option YF:=
cond (decide (a7=2)) (
(F133 (a0,a1,a8)).bind fun r6=>(
ai (ah .i64 (a1-1)) (
ai (ah .i64 (a6-a0)) (
ai (ah .i64 ((a1-1)-(a6-a0))) (
some (a0,a1,a2,a3,a4,a5,((a1-1)-(a6-a0)),1,r6)))))) (
some (a0,a1,a2,a3,a4,a5,a6,a7,a8))
theorem Ra (F129 F130 F131:kS)(F132:nw)(F133:kS)(F134:ny)(F80:dN)(F135:lD)(F136:nz)(F124:gu):l124_2 (kI F129 F130 F131 F132 F133 F134 F80 F135 F136 F124)=u9 (xw F129 F130 F131 F132 F133 F134 F80 F135 F136 F124):=funext fun _=>by kernel_rfl
noncomputable def EW (F124:gu):=xw gJ gK gk gN gO gQ P80 gR gm F124
noncomputable def sH (F124:gu):YK:=fun x=>EW F124 x.1 x.2.1 x.2.2.1 x.2.2.2.1 x.2.2.2.2.1 x.2.2.2.2.2.1 x.2.2.2.2.2.2.1 x.2.2.2.2.2.2.2.1 x.2.2.2.2.2.2.2.2
theorem Rb (F124:gu):l124_2 (kI gJ gK gk gN gO gQ P80 gR gm F124)=sH F124:=Ra gJ gK gk gN gO gQ P80 gR gm F124
noncomputable def l124_3 (T:List FEnt):=eZ (xs:=ET) sF (bf T (sb [1,1,2,2,2,1,1,1,1,1,1,0,2] xt))
noncomputable def xx (F129 F130 F131:kS)(F132:nw)(F133:kS)(F134:ny)(F80:dN)(F135:lD)(F136:nz)(F124:gu)(a0 a1 a2:Int)(a3 a4:Bool)(a5 a6 a7:Int)(a8:List Y1):Option YS:=
cond a3 (
cond a4 (
cond (decide (a7=1)) (
(F134 (a0,a1,a8)).bind fun r8=>(
cond r8.1 (
some (Sum.inl r8.2)) (
some (Sum.inr (a0,a1,a2,a3,a4,a5,a6,r8.2))))) (
some (Sum.inr (a0,a1,a2,a3,a4,a5,a6,a8)))) (
some (Sum.inr (a0,a1,a2,a3,a4,a5,a6,a8)))) (
some (Sum.inr (a0,a1,a2,a3,a4,a5,a6,a8)))
theorem Rc (F129 F130 F131:kS)(F132:nw)(F133:kS)(F134:ny)(F80:dN)(F135:lD)(F136:nz)(F124:gu):l124_3 (kI F129 F130 F131 F132 F133 F134 F80 F135 F136 F124)=u9 (xx F129 F130 F131 F132 F133 F134 F80 F135 F136 F124):=funext fun _=>by kernel_rfl
noncomputable def EX (F124:gu):=xx gJ gK gk gN gO gQ P80 gR gm F124
noncomputable def sI (F124:gu):YY:=fun x=>EX F124 x.1 x.2.1 x.2.2.1 x.2.2.2.1 x.2.2.2.2.1 x.2.2.2.2.2.1 x.2.2.2.2.2.2.1 x.2.2.2.2.2.2.2.1 x.2.2.2.2.2.2.2.2
theorem Rd (F124:gu):l124_3 (kI gJ gK gk gN gO gQ P80 gR gm F124)=sI F124:=Rc gJ gK gk gN gO gQ P80 gR gm F124
noncomputable def EY (T:List FEnt):=aG (xs:=EV) EU (bf T (sb [1,1,2,2] xt))
noncomputable def l124_0 (T:List FEnt):=af (EY T)
noncomputable def pf (F129 F130 F131:kS)(F132:nw)(F133:kS)(F134:ny)(F80:dN)(F135:lD)(F136:nz)(F124:gu)(l124_1:YJ)(l124_2:YK)(l124_3:YY)(a0 a1 a2:Int)(a3 a4:Bool)(a5:List Y1):Option YT:=
ai (ah .i64 (a1-a0)) (
cond (decide ((a1-a0)≤12)) (
(F129 (a0,a1,a5)).bind fun r1=>(
some (Sum.inr r1))) (
cond (decide (a2=0)) (
(F130 (a0,a1,a5)).bind fun r2=>(
some (Sum.inr r2))) (
(l124_1 (a0,a1,a2,a3,a4,(a1-a0),a5)).bind fun y4=>(
(F132 (y4.1,y4.2.1,y4.2.2.2.2.2.2)).bind fun r5=>(
(l124_2 (y4.1,y4.2.1,y4.2.2.1,y4.2.2.2.1,y4.2.2.2.2.1,y4.2.2.2.2.2.1,r5.1,r5.2.1,r5.2.2)).bind fun y7=>(
(l124_3 (y7.1,y7.2.1,y7.2.2.1,y7.2.2.2.1,y7.2.2.2.2.1,y7.2.2.2.2.2.1,y7.2.2.2.2.2.2.1,y7.2.2.2.2.2.2.2.1,y7.2.2.2.2.2.2.2.2)).bind (fun y9=>Sum.elim (fun y10=>(
some (Sum.inr y10))) (fun y11=>(
cond (decide (0 < y11.1)) (
ai (ah .i64 (y11.1-1)) (
ai (aC (y11.1-1) y11.2.2.2.2.2.2.2.length) (
ai (aC y11.2.2.2.2.2.2.1 y11.2.2.2.2.2.2.2.length) (
(F80 ((ix y11.2.2.2.2.2.2.2 (y11.1-1)),(ix y11.2.2.2.2.2.2.2 y11.2.2.2.2.2.2.1))).bind fun r12=>(
cond (!(decide (r12 < 0))) (
(F135 (y11.1,y11.2.1,y11.2.2.2.2.2.2.1,y11.2.2.2.2.2.2.2)).bind fun r13=>(
some (Sum.inl (r13.1,y11.2.1,y11.2.2.1,y11.2.2.2.1,y11.2.2.2.2.1,r13.2)))) (
(F136 (y11.1,y11.2.1,y11.2.2.2.2.2.2.1,y11.2.2.2.2.2.2.2)).bind fun r14=>(
ai (ah .i64 (r14.1-y11.1)) (
ai (ah .i64 (y11.2.1-r14.1)) (
ai (ah .i64 (Int.tdiv y11.2.2.2.2.2.1 8)) (
cond (decide ((r14.1-y11.1) < (y11.2.1-r14.1))) (
(F124 (y11.1,r14.1,y11.2.2.1,r14.2.2)).bind fun r15=>(
ai (ah .i64 (r14.1+1)) (
some (Sum.inl ((r14.1+1),y11.2.1,y11.2.2.1,decide ((Int.tdiv y11.2.2.2.2.2.1 8)≤(r14.1-y11.1)),r14.2.1,r15))))) (
ai (ah .i64 (r14.1+1)) (
(F124 ((r14.1+1),y11.2.1,y11.2.2.1,r14.2.2)).bind fun r16=>(
some (Sum.inl (y11.1,r14.1,y11.2.2.1,decide ((Int.tdiv y11.2.2.2.2.2.1 8)≤(y11.2.1-r14.1)),r14.2.1,r16))))))))))))))) (
(F136 (y11.1,y11.2.1,y11.2.2.2.2.2.2.1,y11.2.2.2.2.2.2.2)).bind fun r17=>(
ai (ah .i64 (r17.1-y11.1)) (
ai (ah .i64 (y11.2.1-r17.1)) (
ai (ah .i64 (Int.tdiv y11.2.2.2.2.2.1 8)) (
cond (decide ((r17.1-y11.1) < (y11.2.1-r17.1))) (
(F124 (y11.1,r17.1,y11.2.2.1,r17.2.2)).bind fun r18=>(
ai (ah .i64 (r17.1+1)) (
some (Sum.inl ((r17.1+1),y11.2.1,y11.2.2.1,decide ((Int.tdiv y11.2.2.2.2.2.1 8)≤(r17.1-y11.1)),r17.2.1,r18))))) (
ai (ah .i64 (r17.1+1)) (
(F124 ((r17.1+1),y11.2.1,y11.2.2.1,r17.2.2)).bind fun r19=>(
some (Sum.inl (y11.1,r17.1,y11.2.2.1,decide ((Int.tdiv y11.2.2.2.2.2.1 8)≤(y11.2.1-r17.1)),r17.2.1,r19)))))))))))) y9)))))))
theorem Re (F129 F130 F131:kS)(F132:nw)(F133:kS)(F134:ny)(F80:dN)(F135:lD)(F136:nz)(F124:gu):EY (kI F129 F130 F131 F132 F133 F134 F80 F135 F136 F124)=u6 (pf F129 F130 F131 F132 F133 F134 F80 F135 F136 F124 (l124_1 (kI F129 F130 F131 F132 F133 F134 F80 F135 F136 F124)) (l124_2 (kI F129 F130 F131 F132 F133 F134 F80 F135 F136 F124)) (l124_3 (kI F129 F130 F131 F132 F133 F134 F80 F135 F136 F124))):=funext fun _=>by kernel_rfl
noncomputable def kJ (F124:gu):=pf gJ gK gk gN gO gQ P80 gR gm F124 (pe F124) (sH F124) (sI F124)
noncomputable def sJ (F124:gu):YD:=af (fun x=>kJ F124 x.1 x.2.1 x.2.2.1 x.2.2.2.1 x.2.2.2.2.1 x.2.2.2.2.2)
theorem Rf (F124:gu):l124_0 (kI gJ gK gk gN gO gQ P80 gR gm F124)=sJ F124:=congrArg af ((Re gJ gK gk gN gO gQ P80 gR gm F124).trans (by rw[Q9 F124,Rb F124,Rd F124] <;> rfl))
theorem KZ:L.Fn Try.prog 124 148 [] (erase xt):=Fn.ofA aM Try.func124 _ _ (by kernel_rfl)
noncomputable def IB (F129 F130 F131:kS)(F132:nw)(F133:kS)(F134:ny)(F80:dN)(F135:lD)(F136:nz)(F124:gu)(l124_0:YD)(a0 a1 a2:Int)(a3:List Y1):Option Y8:=
(l124_0 (a0,a1,a2,true,true,a3)).bind fun y20=>(
some y20)
theorem g124 (F129 F130 F131:kS)(F132:nw)(F133:kS)(F134:ny)(F80:dN)(F135:lD)(F136:nz)(F124:gu):aO (kI F129 F130 F131 F132 F133 F134 F80 F135 F136 F124) lA [] xt=u4 (IB F129 F130 F131 F132 F133 F134 F80 F135 F136 F124 (l124_0 (kI F129 F130 F131 F132 F133 F134 F80 F135 F136 F124))):=funext fun _=>by kernel_rfl
noncomputable def Bv (F124:gu):=IB gJ gK gk gN gO gQ P80 gR gm F124 (sJ F124)
noncomputable def iO:Nat→Int×Int×Int×Y8→Option Y8
  | 0=>fun _=>none
  | n+1=>fun x=>Bv (iO n) x.1 x.2.1 x.2.2.1 x.2.2.2
noncomputable def P124:gu:=iO 18446744073709551616
theorem v124 (F124:gu):aO (kI gJ gK gk gN gO gQ P80 gR gm F124) lA [] xt=fun x=>Bv F124 x.1 x.2.1 x.2.2.1 x.2.2.2:=(g124 gJ gK gk gN gO gQ P80 gR gm F124).trans (by rw[Rf F124] <;> rfl)
theorem Vp:∀ n,DC Try.prog 124 lA (iO n)
  | 0=>yP (aj (sh:=lA) ak KZ (by kernel_rfl)).1
  | n+1=>aD (v124 (iO n)) (aj (sh:=lA) (t124 (iO n) (Vp n)) KZ (by kernel_rfl))
theorem d124:DC Try.prog 124 lA P124:=Vp _
noncomputable def Rh (F67:nv)(F124:gu):List FEnt:=[⟨67,Bq,F67⟩,⟨124,lA,F124⟩]
theorem t109:al Try.prog (Rh P67 P124):=(aa d67 (by kernel_rfl) (aa d124 (by kernel_rfl) ak))
noncomputable def Ri:=bU Try.prog [] Try.f109 .n
theorem Vq:L.Fn Try.prog 109 14 [] (erase Ri):=Fn.ofA aM Try.func109 _ _ (by kernel_rfl)
def zq:FSh:=⟨⟨[(.slc 0),(.fn 80 [])],dr⟩,[bc],1,⟨⟨pc,dr⟩,[bc],[0],1⟩,false⟩
noncomputable def Rj (F67:nv)(F124:gu)(a0:List Y1):Option Y8:=
ai (ah .u64 (↑a0.length:Int)) (
(F67 (↑a0.length:Int)).bind fun r1=>(
(F124 (0,(↑a0.length:Int),r1,a0)).bind fun r2=>(
some r2)))
theorem g109 (F67:nv)(F124:gu)(a0:List Y1):aO (Rh F67 F124) zq [] Ri a0=Rj F67 F124 a0:=by kernel_rfl
noncomputable def Vr:=Rj P67 P124
noncomputable def P109:mL:=fun x=>Vr x
theorem v109:aO (Rh P67 P124) zq [] Ri=P109:=funext fun x=>(g109 P67 P124 x)
theorem d109:DC Try.prog 109 zq P109:=aD v109 (aj t109 Vq (by kernel_rfl))
noncomputable def T78 (F108:mL)(F109:mL):List FEnt:=[⟨108,za,F108⟩,⟨109,zq,F109⟩]
theorem t78:al Try.prog (T78 P108 P109):=(aa d108 (by kernel_rfl) (aa d109 (by kernel_rfl) ak))
noncomputable def c78:=bU Try.prog [] Try.f78 .n
theorem ok78:L.Fn Try.prog 78 12 [(.t 4)] (erase c78):=Fn.ofA aM Try.func78 _ _ (by kernel_rfl)
def IC:FSh:=⟨⟨[(.fn 110 Ie),(.fn 80 [])],[(0,(.boxT bc))]⟩,[bc],1,⟨⟨Bi,dr⟩,[bc],[],1⟩,false⟩
noncomputable def q78 (F108 F109:mL)(a0:List Y1):Option Y8:=
(F108 a0).bind fun r1=>(
(F109 r1).bind fun r2=>(
some r2))
theorem g78 (F108 F109:mL)(a0:List Y1):aO (T78 F108 F109) IC [(.t 4)] c78 a0=q78 F108 F109 a0:=by kernel_rfl
noncomputable def p78:=q78 P108 P109
noncomputable def zt:mL:=fun x=>p78 x
theorem v78:aO (T78 P108 P109) IC [(.t 4)] c78=zt:=funext fun x=>(g78 P108 P109 x)
theorem d78:DC Try.prog 78 IC zt:=aD v78 (aj t78 ok78 (by kernel_rfl))
noncomputable def ID:List FEnt:=[]
theorem t82:al Try.prog ID:=ak
def K0:LSh:=⟨[0,3,4,5],⟨[(.slc 0),(.v y7),(.slo 0 5),(.v y7)],dr⟩,KE,1,[0]⟩
def K1:List XSh:=[⟨(.exit 2),[0,3],⟨⟨PL,dr⟩,[y7,bc],[0],1⟩⟩]
def K2:LSh:=⟨[0,3],⟨PL,dr⟩,[y7,bc],1,[]⟩
def K3:List XSh:=[⟨.ret,[2],⟨⟨Bi,dr⟩,[bc],[],1⟩⟩,⟨(.exit 0),[0],⟨⟨Bi,dr⟩,[bc],[],1⟩⟩]
noncomputable def Vs:=bU Try.prog [(7,{ch:=[0,0,1,0] }),(14,{ch:=[0,0,1,0] }),(15,{ch:=[0,0,2,0] })] Try.f82 (.s .n (.s .n (.s (.s .n (.b (.l K2 K3 (.s .n (.s (.b (.s .n (.s (.s .n (.s (.s .n (.b (.l K0 K1 .n))) .n)) .n))) .n))))) .n)))
noncomputable def K4 (T:List FEnt):=aG (xs:=K1) K0 (bf T (sb [1,1,0,1,2,2,1,0,2,1,0,1,0,1,2,2] Vs))
noncomputable def l82_1 (T:List FEnt):=af (K4 T)
noncomputable def zu (a0 a1 a2 a3:Int)(a4:List Y1):Option YU:=
cond (decide (a3 < (↑a2.toNat:Int))) (
ai (aC a3 a2.toNat) (
ai (ah .i64 (a3-1)) (
ai (aC (a3-1) a2.toNat) (
cond (!((((decide ((wm a4 (a1.toNat+Int.toNat a3)).1=(wm a4 (a1.toNat+Int.toNat (a3-1))).1)&&decide ((wm a4 (a1.toNat+Int.toNat a3)).2.1=(wm a4 (a1.toNat+Int.toNat (a3-1))).2.1))&&decide ((wm a4 (a1.toNat+Int.toNat a3)).2.2.1=(wm a4 (a1.toNat+Int.toNat (a3-1))).2.2.1))&&decide ((wm a4 (a1.toNat+Int.toNat a3)).2.2.2.1=(wm a4 (a1.toNat+Int.toNat (a3-1))).2.2.2.1))&&decide ((wm a4 (a1.toNat+Int.toNat a3)).2.2.2.2=(wm a4 (a1.toNat+Int.toNat (a3-1))).2.2.2.2))) (
ai (aC a3 a2.toNat) (
ai (aC a0 a4.length) (
ai (ah .i64 (a0+1)) (
ai (ah .i64 (a3+1)) (
some (Sum.inl ((a0+1),(↑a1.toNat:Int),(↑a2.toNat:Int),(a3+1),(List.set a4 a0.toNat (wm a4 (a1.toNat+Int.toNat a3)))))))))) (
ai (ah .i64 (a3+1)) (
some (Sum.inl (a0,(↑a1.toNat:Int),(↑a2.toNat:Int),(a3+1),a4)))))))) (
some (Sum.inr (a0,a4)))
theorem Vt:K4 ID=u5 zu:=funext fun _=>by kernel_rfl
noncomputable def EZ:=zu
noncomputable def E2:YL:=af (fun x=>EZ x.1 x.2.1 x.2.2.1 x.2.2.2.1 x.2.2.2.2)
theorem Vu:l82_1 ID=E2:=congrArg af Vt
noncomputable def K5 (T:List FEnt):=aG (xs:=K3) K2 (bf T (sb [1,1,0,1,2,2] Vs))
noncomputable def l82_0 (T:List FEnt):=af (K5 T)
noncomputable def zw (l82_1:YL)(a0:Int)(a1:List Y1):Option YV:=
cond (decide (a0 < (↑a1.length:Int))) (
ai (aC a0 a1.length) (
ai (ah .i64 (a0-1)) (
ai (aC (a0-1) a1.length) (
cond ((((decide ((ix a1 a0).1=(ix a1 (a0-1)).1)&&decide ((ix a1 a0).2.1=(ix a1 (a0-1)).2.1))&&decide ((ix a1 a0).2.2.1=(ix a1 (a0-1)).2.2.1))&&decide ((ix a1 a0).2.2.2.1=(ix a1 (a0-1)).2.2.2.1))&&decide ((ix a1 a0).2.2.2.2=(ix a1 (a0-1)).2.2.2.2)) (
ai (decide (0≤a0)) (
ai (decide (a0≤(↑a1.length:Int))) (
ai (decide ((↑a1.length:Int)≤(↑a1.length:Int))) (
ai (decide (0 < List.length a1)) (
(l82_1 (a0,(↑a0.toNat:Int),(↑(Int.toNat ((↑a1.length:Int)-a0)):Int),1,a1)).bind fun y1=>(
ai (decide (0≤y1.1)) (
ai (decide (y1.1≤(↑y1.2.length:Int))) (
ai (decide ((↑y1.2.length:Int)≤(↑y1.2.length:Int))) (
ai (decide (0 < List.length y1.2)) (
ai (decide (0≤y1.1)) (
ai (decide (y1.1≤(↑(List.length (cS y1.2 y1.1.toNat (Int.toNat ((↑y1.2.length:Int)-y1.1)) (0,(0,(0,(0,0)))))):Int))) (
ai (decide (0 < List.length (cS y1.2 y1.1.toNat (Int.toNat ((↑y1.2.length:Int)-y1.1)) (0,(0,(0,(0,0))))))) (
some (Sum.inr (Sum.inl (List.take y1.1.toNat (cS y1.2 y1.1.toNat (Int.toNat ((↑y1.2.length:Int)-y1.1)) (0,(0,(0,(0,0))))))))))))))))))))) (
ai (ah .i64 (a0+1)) (
some (Sum.inl ((a0+1),a1)))))))) (
some (Sum.inr (Sum.inr a1)))
theorem g82_0:K5 ID=u2 (zw (l82_1 ID)):=funext fun _=>by kernel_rfl
noncomputable def zx:=zw E2
noncomputable def zy:YM:=af (fun x=>zx x.1 x.2)
theorem v82_0:l82_0 ID=zy:=congrArg af (g82_0.trans (by rw[Vu] <;> rfl))
theorem ok82:L.Fn Try.prog 82 61 [(.t 2)] (erase Vs):=Fn.ofA aM Try.func82 _ _ (by kernel_rfl)
def IE:FSh:=⟨⟨Bi,dr⟩,[bc],1,⟨⟨Bi,dr⟩,[bc],[],1⟩,false⟩
noncomputable def Vv (l82_0:YM)(a0:List Y1):Option Y8:=
cond (decide ((↑a0.length:Int) < 2)) (
some a0) (
(l82_0 (1,a0)).bind (fun y2=>Sum.elim (fun y3=>(
some y3)) (fun y4=>(
some y4)) y2))
theorem g82 (a0:List Y1):aO ID IE [(.t 2)] Vs a0=Vv (l82_0 ID) a0:=by kernel_rfl
noncomputable def p82:=Vv zy
noncomputable def tj:mL:=fun x=>p82 x
theorem v82:aO ID IE [(.t 2)] Vs=tj:=funext fun x=>(g82 x).trans (by rw[v82_0] <;> rfl)
theorem d82:DC Try.prog 82 IE tj:=aD v82 (aj t82 ok82 (by kernel_rfl))
noncomputable def Bw:List FEnt:=[]
theorem t111:al Try.prog Bw:=ak
def E3:LSh:=⟨[0,1,2,11,12],⟨j19,k8⟩,z9,5,[0,1,2,3,4]⟩
def E4:List XSh:=[⟨(.exit 0),[1,2],⟨⟨[(.pel 1),(.v y7)],k8⟩,z10,[0,1,2,3,4],5⟩⟩]
noncomputable def IF:=bU Try.prog [] Try.f111 (.s (.s .n (.b (.l E3 E4 .n))) .n)
noncomputable def E5 (T:List FEnt):=aG (xs:=E4) E3 (bf T (sb [0,1,2,2] IF))
noncomputable def l111_0 (T:List FEnt):=af (E5 T)
noncomputable def mG (a0 a1 a2 a3:Int)(a4:List Int)(a5:Int)(a6:List Y3)(a7:List Y2)(a8:List Int):Option RZ:=
cond (decide (a3 < a2)) (
ai (aC ((pd a6 a0).2.1) a7.length) (
ai (ah .i64 ((pd a6 a0).2.2.1+a3)) (
ai (aC ((pd a6 a0).2.2.1+a3) (List.length (ix a7 ((pd a6 a0).2.1)))) (
ai (ah .i64 (a3+1)) (
some (Sum.inl (a0,a1,a2,(a3+1),a4,a5,a6,(List.set a7 (Int.toNat ((pd a6 a0).2.1)) (List.set (ix a7 ((pd a6 a0).2.1)) (Int.toNat ((pd a6 a0).2.2.1+a3)) (-1))),a8))))))) (
some (Sum.inr (a0,a1,a4,a5,a6,a7,a8)))
theorem Rk:E5 Bw=u9 mG:=funext fun _=>by kernel_rfl
noncomputable def E6:=mG
noncomputable def sK:JC:=af (fun x=>E6 x.1 x.2.1 x.2.2.1 x.2.2.2.1 x.2.2.2.2.1 x.2.2.2.2.2.1 x.2.2.2.2.2.2.1 x.2.2.2.2.2.2.2.1 x.2.2.2.2.2.2.2.2)
theorem Rl:l111_0 Bw=sK:=congrArg af Rk
theorem Vw:L.Fn Try.prog 111 48 [] (erase IF):=Fn.ofA aM Try.func111 _ _ (by kernel_rfl)
def zz:FSh:=⟨⟨[(.ptr 0 0),(.pel 1),(.v y7)],k8⟩,z10,5,⟨⟨pc,k8⟩,[y19,y7,n6,cG,y19],[0,1,2,3,4],5⟩,false⟩
noncomputable def IG (l111_0:JC)(a0 a1:Int)(a2:List Int)(a3:Int)(a4:List Y3)(a5:List Y2)(a6:List Int):Option RW:=
(l111_0 (a0,a1,(pd a4 a0).2.2.2.1,0,a2,a3,a4,a5,a6)).bind fun y1=>(
some (y1.2.2.1,y1.2.2.2.1,(Ch (Cg (xQ y1.2.2.2.2.1 y1.1 y1.2.1) y1.1 (-1)) y1.1 (-1)),y1.2.2.2.2.2.1,y1.2.2.2.2.2.2))
theorem g111:aO Bw zz [] IF=u7 (IG (l111_0 Bw)):=funext fun _=>by kernel_rfl
noncomputable def Vx:=IG sK
noncomputable def P111:pX:=fun x=>Vx x.1 x.2.1 x.2.2.1 x.2.2.2.1 x.2.2.2.2.1 x.2.2.2.2.2.1 x.2.2.2.2.2.2
theorem v111:aO Bw zz [] IF=P111:=g111.trans (by rw[Rl] <;> rfl)
theorem d111:DC Try.prog 111 zz P111:=aD v111 (aj t111 Vw (by kernel_rfl))
end Go.Proofs.Ytdkaijofmigmbaa.D
