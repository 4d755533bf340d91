import Derived.Test.YtjoncejabdjekaaGYt
import Derived.Test.YtjoncejabdjekaaProg
set_option linter.unusedVariables false
set_option maxRecDepth 100000
namespace Go.Proofs.Ytjoncejabdjekaa.D
open Go Go.Proofs Go.Proofs.Ytjoncejabdjekaa.L
def z7:List Ty:=[cn,cT,dW,aW]
def z6:List Ty:=[y11,cn,cT,dW,aW]
def ju:List RSh:=[(.v .bool)]
def Kj:List RSh:=[(.ptr 0 0)]
def oF:List RSh:=[(.v y11)]
def xS:List RSh:=[(.st bM)]
def PA:List RSh:=[(.slc 0),(.slc 1)]
def j9:List RSh:=[(.ptr 0 0),(.v cT),(.v y11),(.v y11)]
def Lm:List RSh:=[(.v y12),(.v y11)]
def QF:List RSh:=[(.tup [(.v y11),(.v y11)])]
def oG:List (Nat×OSh):=[(0,(.boxT bM))]
def QG:List (Nat×OSh):=[(0,(.boxT bM)),(1,(.boxT n5))]
def ot:List (Nat×OSh):=[(0,(.box [(.v cn),(.v cT),(.mp 1),(.slc 2)])),(1,(.imap 2 false y11)),(2,(.row 3 y11))]
def SZ:List (Nat×OSh):=[(0,(.box [(.v cn),(.v cT),(.mp 2),(.slc 1)])),(1,(.row 3 y11)),(2,(.imap 2 false y11))]
def k9:List (Nat×OSh):=[(0,(.box [(.v cn),(.v cT),(.mp 2),(.slc 3)])),(1,(.boxT mf)),(2,(.imap 2 false y11)),(3,(.row 3 y11))]
theorem QH:Try.prog.follows .mixedOrders=true:=by kernel_rfl
theorem oA {f:FuncId}{fn:Func}(hf:Try.prog.funcs[f]?=some fn){cs:List (Nat×RCh)}{n:Nat}{rs:List Res}{H:HT}(h:(Ka Try.prog cs fn).map (fun x=>(x.1,x.2.1))=some (n,rs):=by kernel_rfl)(e:Nat.beq f YB=false:=by rfl):L.Fn Try.prog f n rs (erase (dv Try.prog cs fn H)):=Fn.ofA QH hf cs H h e
noncomputable def QI:List FEnt:=[]
theorem Ua:ay Try.prog QI:=an
noncomputable def QJ:=dv Try.prog [] Try.f36 .n
theorem QK:L.Fn Try.prog 36 15 [(.t 6)] (erase QJ):=oA Try.func36
def tY:FSh:=⟨⟨[(.v y11),(.v y11),(.v y11)],[]⟩,[y11,y11,y11],0,⟨⟨ju,[]⟩,[.bool],[],0⟩,true⟩
noncomputable def S4 (a0 a1 a2:Int):Option Bool:=
cond (decide (a1≤a0)) (
some (decide (a0≤a2))) (
some false)
theorem Ub:bx QI tY [(.t 6)] QJ=u3 S4:=funext fun _=>by kernel_rfl
noncomputable def Uc:=S4
noncomputable def P36:Y7:=u3 Uc
theorem Ud:bx QI tY [(.t 6)] QJ=P36:=Ub
theorem PB:DC Try.prog 36 tY P36:=dD Ud Ua QK
noncomputable def yt (F36:Y7):List FEnt:=[⟨36,tY,F36⟩]
theorem Ue:ay Try.prog (yt P36):=dK an PB
def vh:LSh:=⟨[1,3],⟨[(.ptr 0 0),(.v y11)],oG⟩,[y11,bM],1,[0]⟩
def vi:List XSh:=[⟨.ret,[2],⟨⟨oF,oG⟩,[y11,bM],[0],1⟩⟩,⟨(.exit 0),[1],⟨⟨Kj,oG⟩,[bM],[0],1⟩⟩]
def ER:LSh:=⟨[1,5,6,7,65,75,89],⟨[(.ptr 0 0),(.v y11),(.ptr 1 0),(.v y11),(.v .bool),(.v .bool),(.v .bool)],QG⟩,[y11,y11,.bool,.bool,.bool,bM,n5],2,[0,1]⟩
def ES:List XSh:=[⟨.ret,[2],⟨⟨oF,QG⟩,[y11,bM,n5],[0,1],2⟩⟩,⟨(.exit 4),[1,5,65,75,89],⟨⟨[(.ptr 0 0),(.v y11),(.v .bool),(.v .bool),(.v .bool)],QG⟩,[y11,.bool,.bool,.bool,bM,n5],[0,1],2⟩⟩]
def ET:LSh:=⟨[1,5],⟨[(.ptr 0 0),(.v y11)],oG⟩,[y11,bM],1,[0]⟩
def vj:List XSh:=[⟨.ret,[2],⟨⟨oF,oG⟩,[y11,bM],[0],1⟩⟩,⟨(.exit 2),[],⟨⟨[],oG⟩,[bM],[0],1⟩⟩]
noncomputable def Kk:=dv Try.prog [] Try.f12 (.s .n (.s .n (.s (.s .n (.b (.l vh vi .n))) (.s (.s .n (.b (.l ET vj (.s .n (.s (.b (.s .n (.s .n (.s .n (.b (.l ER ES .n)))))) .n))))) .n))))
noncomputable def EU (T:List FEnt):=aK (xs:=vi) vh (b6 T (sb [1,1,0,1,2,2] Kk))
noncomputable def l12_0 (T:List FEnt):=af (EU T)
noncomputable def vk (F36:Y7)(a0:Int)(a1:aO×aT):Option TX:=
cond (decide (a0 < (↑a1.1.length:Int))) (
aA (aU a0 a1.1.length) (
(F36 ((ix a1.1 a0).1,0,99)).bind fun r1=>(
cond (!r1) (
some (Sum.inr (Sum.inl (70,a1)))) (
(F36 ((ix a1.1 a0).2.1,0,9)).bind fun r2=>(
cond (!r2) (
some (Sum.inr (Sum.inl (70,a1)))) (
(F36 ((ix a1.1 a0).2.2,0,6)).bind fun r3=>(
cond (!r3) (
some (Sum.inr (Sum.inl (70,a1)))) (
aA (aw .i64 (a0+1)) (
some (Sum.inl ((a0+1),a1))))))))))) (
some (Sum.inr (Sum.inr a1)))
theorem Ln (F36:Y7):EU (yt F36)=u2 (vk F36):=funext fun _=>by kernel_rfl
noncomputable def zT:=vk P36
noncomputable def zU:SM:=af (u2 zT)
theorem v12_0:l12_0 (yt P36)=zU:=congrArg af (Ln P36)
noncomputable def EV (T:List FEnt):=aK (xs:=ES) ER (b6 T (sb [1,1,1,0,1,2,2,1,0,2,1,1,1,2,2] Kk))
noncomputable def l12_2 (T:List FEnt):=af (EV T)
noncomputable def vl (F36:Y7)(a0 a1:Int)(a2 a3 a4:Bool)(a5:aO×aT)(a6:Y2):Option ((Int×Int×Bool×Bool×Bool×dA×Int×Int×Int×Int×Int×Int)⊕TY):=
cond (decide (a1 < a0)) (
aA (aU a1 a5.2.length) (
cond (decide ((ix a5.2 a1).1=a6.1)) (
some (Sum.inr (Sum.inl (70,a5,a6)))) (
aA (aw .i64 (a1+1)) (
some (Sum.inl (a0,(a1+1),a2,a3,a4,a5,a6)))))) (
some (Sum.inr (Sum.inr (a0,a2,a3,a4,a5,a6))))
theorem Lo (F36:Y7):EV (yt F36)=u7 (vl F36):=funext fun _=>by kernel_rfl
noncomputable def zV:=vl P36
noncomputable def zW:TZ:=af (u7 zV)
theorem Lp:l12_2 (yt P36)=zW:=congrArg af (Lo P36)
noncomputable def EW (T:List FEnt):=aK (xs:=vj) ET (b6 T (sb [1,1,1,0,1,2,2] Kk))
noncomputable def l12_1 (T:List FEnt):=af (EW T)
noncomputable def vn (F36:Y7)(l12_2:TZ)(a0:Int)(a1:aO×aT):Option TX:=
cond (decide (a0 < (↑a1.2.length:Int))) (
aA (aU a0 a1.2.length) (
(F36 ((ix a1.2 a0).1,0,99)).bind fun r7=>(
cond (!r7) (
some (Sum.inr (Sum.inl (70,a1)))) (
(F36 ((ix a1.2 a0).2.1,0,8)).bind fun r8=>(
cond (!r8) (
some (Sum.inr (Sum.inl (70,a1)))) (
(F36 ((ix a1.2 a0).2.2.1,0,(ix a1.2 a0).2.2.2.1)).bind fun r9=>(
cond (!r9) (
some (Sum.inr (Sum.inl (70,a1)))) (
cond (decide (9 < (ix a1.2 a0).2.2.2.1)) (
some (Sum.inr (Sum.inl (70,a1)))) (
(F36 ((ix a1.2 a0).2.2.2.2.1,0,(ix a1.2 a0).2.2.2.2.2)).bind fun r10=>(
cond (!r10) (
some (Sum.inr (Sum.inl (70,a1)))) (
cond (decide (99 < (ix a1.2 a0).2.2.2.2.2)) (
some (Sum.inr (Sum.inl (70,a1)))) (
(l12_2 (a0,0,r8,r9,r10,a1,(ix a1.2 a0))).bind (fun y11=>Sum.elim (fun y12=>(
some (Sum.inr (Sum.inl (y12.1,y12.2.1))))) (fun y13=>(
aA (aw .i64 (y13.1+1)) (
some (Sum.inl ((y13.1+1),y13.2.2.2.2.1))))) y11))))))))))))) (
some (Sum.inr (Sum.inr a1)))
theorem Lq (F36:Y7):EW (yt F36)=u2 (vn F36 (l12_2 (yt F36))):=funext fun _=>by kernel_rfl
noncomputable def zX:=vn P36 zW
noncomputable def zY:SM:=af (u2 zX)
theorem v12_1:l12_1 (yt P36)=zY:=congrArg af ((Lq P36).trans (by rw[Lp] <;> rfl))
theorem QL:L.Fn Try.prog 12 111 [(.t 2)] (erase Kk):=oA Try.func12
def tZ:FSh:=⟨⟨xS,[]⟩,[bM],0,⟨⟨oF,[]⟩,[y11],[],0⟩,true⟩
noncomputable def Lr (F36:Y7)(l12_0 l12_1:SM)(a0:aO×aT):Option Int:=
cond (decide (8 < (↑a0.1.length:Int))) (
some 70) (
cond (decide (6 < (↑a0.2.length:Int))) (
some 70) (
(l12_0 (0,a0)).bind (fun y4=>Sum.elim (fun y5=>(
some y5.1)) (fun y6=>(
(l12_1 (0,y6)).bind (fun y14=>Sum.elim (fun y15=>(
some y15.1)) (fun y16=>(
some 0)) y14))) y4)))
theorem g12 (F36:Y7)(a0:aO×aT):bx (yt F36) tZ [(.t 2)] Kk a0=Lr F36 (l12_0 (yt F36)) (l12_1 (yt F36)) a0:=by kernel_rfl
noncomputable def PC:=Lr P36 zU zY
noncomputable def P12:fD:=fun x=>PC x
theorem Uf:bx (yt P36) tZ [(.t 2)] Kk=P12:=funext fun x=>(g12 P36 x).trans (by rw[v12_0,v12_1] <;> rfl)
theorem PD:DC Try.prog 12 tZ P12:=dD Uf Ue QL
noncomputable def Kl (F12:fD):List FEnt:=[⟨12,tZ,F12⟩]
theorem Ug:ay Try.prog (Kl P12):=dK an PD
def EX:List XSh:=[⟨.ret,[2],⟨⟨ju,oG⟩,[.bool,bM],[0],1⟩⟩,⟨(.exit 0),[1],⟨⟨Kj,oG⟩,[bM],[0],1⟩⟩]
noncomputable def PE:=dv Try.prog [] Try.f16 (.s .n (.s .n (.s .n (.s (.s .n (.b (.l vh EX .n))) .n))))
noncomputable def EY (T:List FEnt):=aK (xs:=EX) vh (b6 T (sb [1,1,1,0,1,2,2] PE))
noncomputable def l16_0 (T:List FEnt):=af (EY T)
noncomputable def vo (F12:fD)(a0:Int)(a1:aO×aT):Option (NW⊕KS):=
cond (decide (a0 < (↑a1.2.length:Int))) (
aA (aU a0 a1.2.length) (
cond (decide (3 < (ix a1.2 a0).2.1)) (
some (Sum.inr (Sum.inl (true,a1)))) (
aA (aw .i64 (a0+1)) (
some (Sum.inl ((a0+1),a1)))))) (
some (Sum.inr (Sum.inr a1)))
theorem Ls (F12:fD):EY (Kl F12)=u2 (vo F12):=funext fun _=>by kernel_rfl
noncomputable def zZ:=vo P12
noncomputable def z0:TU:=af (u2 zZ)
theorem v16_0:l16_0 (Kl P12)=z0:=congrArg af (Ls P12)
theorem QM:L.Fn Try.prog 16 41 [(.t 2)] (erase PE):=oA Try.func16
def z8:FSh:=⟨⟨xS,[]⟩,[bM],0,⟨⟨ju,[]⟩,[.bool],[],0⟩,true⟩
noncomputable def Lt (F12:fD)(l16_0:TU)(a0:aO×aT):Option Bool:=
cond (decide (40 < (↑a0.1.length:Int))) (
some true) (
cond (decide (40 < (↑a0.2.length:Int))) (
some true) (
(F12 a0).bind fun r1=>(
cond (!decide (r1=0)) (
some false) (
(l16_0 (0,a0)).bind (fun y2=>Sum.elim (fun y3=>(
some y3.1)) (fun y4=>(
cond (decide (5 < (↑y4.1.length:Int))) (
some true) (
some (decide (4 < (↑y4.2.length:Int)))))) y2)))))
theorem g16 (F12:fD)(a0:aO×aT):bx (Kl F12) z8 [(.t 2)] PE a0=Lt F12 (l16_0 (Kl F12)) a0:=by kernel_rfl
noncomputable def PF:=Lt P12 z0
noncomputable def P16:wB:=fun x=>PF x
theorem Uh:bx (Kl P12) z8 [(.t 2)] PE=P16:=funext fun x=>(g16 P12 x).trans (by rw[v16_0] <;> rfl)
theorem S5:DC Try.prog 16 z8 P16:=dD Uh Ug QM
noncomputable def QN:List FEnt:=[]
theorem Ui:ay Try.prog QN:=an
noncomputable def QO:=dv Try.prog [] Try.f31 (.s .n (.s (.r [.a 3 true mf,.a 10 true n5]) (.s (.r [.a 5 true mf]) .n)))
theorem QP:L.Fn Try.prog 31 21 [(.cell 0 true 2),(.t 1)] (erase QO):=oA Try.func31
def C2:FSh:=⟨⟨[],[]⟩,[],0,⟨⟨[(.tup [(.agg PA),(.slc 2)])],[(0,(.row 43 mf)),(1,(.row 50 n5)),(2,(.row 53 mf))]⟩,[cn,cT,cn],[],3⟩,true⟩
noncomputable def S6:Option SL:=
some (([(1,(2,1)),(1,(5,2)),(3,(2,1))]:List Y1),([(40,(2,(2,(2,(0,9))))),(41,(2,(0,(9,(0,2))))),(42,(1,(5,(9,(0,9)))))]:List Y2),([(1,(0,40)),(2,(0,40)),(3,(1,40)),(4,(2,41))]:List Y1))
theorem g31:bx QN C2 [(.cell 0 true 2),(.t 1)] QO ()=S6:=by kernel_rfl
noncomputable def Uj:Option SL:=S6
noncomputable def P31:Ql:=fun x=>Uj
theorem Uk:bx QN C2 [(.cell 0 true 2),(.t 1)] QO=P31:=funext fun x=>(g31)
theorem Ul:DC Try.prog 31 C2 P31:=dD Uk Ui QP
noncomputable def QQ:List FEnt:=[]
theorem Um:ay Try.prog QQ:=an
noncomputable def QR:=dv Try.prog [] Try.f32 .n
theorem QS:L.Fn Try.prog 32 15 [(.t 6)] (erase QR):=oA Try.func32
def qK:FSh:=⟨⟨[(.v y11),(.v y11),(.v y11)],[]⟩,[y11,y11,y11],0,⟨⟨ju,[]⟩,[.bool],[],0⟩,true⟩
noncomputable def S7 (a0 a1 a2:Int):Option Bool:=
cond (decide (a1≤a0)) (
some (decide (a0≤a2))) (
some false)
theorem Un:bx QQ qK [(.t 6)] QR=u3 S7:=funext fun _=>by kernel_rfl
noncomputable def Uo:=S7
noncomputable def P32:Y7:=u3 Uo
theorem Up:bx QQ qK [(.t 6)] QR=P32:=Un
theorem Km:DC Try.prog 32 qK P32:=dD Up Um QS
noncomputable def QT:List FEnt:=[]
theorem Uq:ay Try.prog QT:=an
noncomputable def QU:=dv Try.prog [] Try.f34 .n
theorem QV:L.Fn Try.prog 34 9 [(.t 3)] (erase QU):=oA Try.func34
def C3:FSh:=⟨⟨[(.st n5),(.elm n5)],[]⟩,[n5,n5],0,⟨⟨ju,[]⟩,[.bool],[],0⟩,true⟩
noncomputable def S8 (a0 a1:Y2):Option Bool:=
some (decide (a0.1=a1.1))
theorem Ur:bx QT C3 [(.t 3)] QU=u2 S8:=funext fun _=>by kernel_rfl
noncomputable def Us:=S8
noncomputable def BT:Y8:=u2 Us
theorem Ut:bx QT C3 [(.t 3)] QU=BT:=Ur
theorem Uu:DC Try.prog 34 C3 BT:=dD Ut Uq QV
noncomputable def Kn (F34:Y8):List FEnt:=[⟨34,C3,F34⟩]
theorem Uv:ay Try.prog (Kn BT):=dK an Uu
def EZ:LSh:=⟨[0,1,7,8],⟨[(.v cT),(.fn 34 [(.elm n5)]),(.v y11),(.v y11)],[]⟩,[cT,n5,y11,y11],0,[]⟩
def py:List XSh:=[⟨.ret,[4],⟨⟨oF,[]⟩,[y11],[],0⟩⟩,⟨(.exit 0),[],⟨⟨[],[]⟩,[],[],0⟩⟩]
noncomputable def PG:=dv Try.prog [] Try.f56 (.s .n (.s (.s .n (.b (.l EZ py .n))) .n))
noncomputable def E2 (T:List FEnt):=aK (xs:=py) EZ (b6 T (sb [1,0,1,2,2] PG))
noncomputable def l56_0 (T:List FEnt):=af (E2 T)
noncomputable def vq (F34:Y8)(a0:List Y2)(a1:Y2)(a2 a3:Int):Option ((aT×Y2×Int×Int)⊕Y3):=
cond (decide (a3 < a2)) (
aA (aU a3 a0.length) (
(F34 ((ix a0 a3),a1)).bind fun r1=>(
cond r1 (
some (Sum.inr (Sum.inl a3))) (
aA (aw .i64 (a3+1)) (
some (Sum.inl (a0,a1,a2,(a3+1)))))))) (
some (Sum.inr (Sum.inr ())))
theorem Lu (F34:Y8):E2 (Kn F34)=u4 (vq F34):=funext fun _=>by kernel_rfl
noncomputable def rZ:=vq BT
noncomputable def vr:TM:=af (u4 rZ)
theorem Lv:l56_0 (Kn BT)=vr:=congrArg af (Lu BT)
theorem QW:L.Fn Try.prog 56 19 [(.t 4)] (erase PG):=oA Try.func56
def C4:FSh:=⟨⟨[(.v cT),(.fn 34 [(.elm n5)])],[]⟩,[cT,n5],0,⟨⟨oF,[]⟩,[y11],[],0⟩,true⟩
noncomputable def PH (F34:Y8)(l56_0:TM)(a0:List Y2)(a1:Y2):Option Int:=
(l56_0 (a0,a1,(↑a0.length:Int),0)).bind (fun y2=>Sum.elim (fun y3=>(
some y3)) (fun y4=>(
some (-1))) y2)
theorem Uw (F34:Y8):bx (Kn F34) C4 [(.t 4)] PG=u2 (PH F34 (l56_0 (Kn F34))):=funext fun _=>by kernel_rfl
noncomputable def QX:=PH BT vr
noncomputable def E3:Qj:=u2 QX
theorem Ux:bx (Kn BT) C4 [(.t 4)] PG=E3:=(Uw BT).trans (by rw[Lv] <;> rfl)
theorem Uy:DC Try.prog 56 C4 E3:=dD Ux Uv QW
noncomputable def QY (F56:Qj):List FEnt:=[⟨56,C4,F56⟩]
theorem Uz:ay Try.prog (QY E3):=dK an Uy
noncomputable def QZ:=dv Try.prog [] Try.f33 .n
theorem Q0:L.Fn Try.prog 33 9 [(.t 4)] (erase QZ):=oA Try.func33
def C5:FSh:=⟨⟨[(.v cT),(.fn 34 [(.elm n5)])],[]⟩,[cT,n5],0,⟨⟨ju,[]⟩,[.bool],[],0⟩,true⟩
noncomputable def PI (F56:Qj)(a0:List Y2)(a1:Y2):Option Bool:=
(F56 (a0,a1)).bind fun r1=>(
some (decide (0≤r1)))
theorem UA (F56:Qj):bx (QY F56) C5 [(.t 4)] QZ=u2 (PI F56):=funext fun _=>by kernel_rfl
noncomputable def Q1:=PI E3
noncomputable def P33:H2:=u2 Q1
theorem UB:bx (QY E3) C5 [(.t 4)] QZ=P33:=UA E3
theorem UC:DC Try.prog 33 C5 P33:=dD UB Uz Q0
noncomputable def Q2 (F32:Y7):List FEnt:=[⟨32,qK,F32⟩]
theorem UD:ay Try.prog (Q2 P32):=dK an Km
noncomputable def Q3:=dv Try.prog [] Try.f35 .n
theorem Q4:L.Fn Try.prog 35 26 [(.t 6)] (erase Q3):=oA Try.func35
def C6:FSh:=⟨⟨[(.st SK),(.v y11),(.v y11)],[]⟩,[SK,y11,y11],0,⟨⟨ju,[]⟩,[.bool],[],0⟩,true⟩
noncomputable def Q5 (F32:Y7)(a0:Int×Int)(a1 a2:Int):Option Bool:=
cond (decide (a0.1≤a0.2)) (
(F32 (a0.1,a1,a2)).bind fun r1=>(
cond r1 (
(F32 (a0.2,a1,a2)).bind fun r2=>(
some r2)) (
some false))) (
some false)
theorem UE (F32:Y7):bx (Q2 F32) C6 [(.t 6)] Q3=u3 (Q5 F32):=funext fun _=>by kernel_rfl
noncomputable def S9:=Q5 P32
noncomputable def P35:Y9:=u3 S9
theorem UF:bx (Q2 P32) C6 [(.t 6)] Q3=P35:=UE P32
theorem UG:DC Try.prog 35 C6 P35:=dD UF UD Q4
noncomputable def C7 (F32:Y7)(F33:H2)(F35:Y9):List FEnt:=[⟨32,qK,F32⟩,⟨33,C5,F33⟩,⟨35,C6,F35⟩]
theorem UH:ay Try.prog (C7 P32 P33 P35):=dK (dK (dK an UG) UC) Km
def E4:LSh:=⟨[1,19,20,21],⟨[(.ptr 0 0),(.v cn),(.v y11),(.v y11)],oG⟩,[cn,y11,y11,bM],1,[0]⟩
def E5:LSh:=⟨[1,43,44,45],⟨j9,oG⟩,[cT,y11,y11,bM],1,[0]⟩
noncomputable def Lw:=dv Try.prog [] Try.f11 (.s .n (.s .n (.s (.s .n (.b (.l E4 vi .n))) (.s (.s .n (.b (.l E5 vj .n))) .n))))
noncomputable def E6 (T:List FEnt):=aK (xs:=vi) E4 (b6 T (sb [1,1,0,1,2,2] Lw))
noncomputable def l11_0 (T:List FEnt):=af (E6 T)
noncomputable def vt (F32:Y7)(F33:H2)(F35:Y9)(a0:List Y1)(a1 a2:Int)(a3:aO×aT):Option ((aO×Int×Int×aO×aT)⊕KR):=
cond (decide (a2 < a1)) (
aA (aU a2 a0.length) (
(F32 ((ix a0 a2).1,0,99)).bind fun r1=>(
cond (!r1) (
some (Sum.inr (Sum.inl (70,a3)))) (
(F32 ((ix a0 a2).2.1,0,9)).bind fun r2=>(
cond (!r2) (
some (Sum.inr (Sum.inl (70,a3)))) (
(F32 ((ix a0 a2).2.2,0,6)).bind fun r3=>(
cond (!r3) (
some (Sum.inr (Sum.inl (70,a3)))) (
aA (aw .i64 (a2+1)) (
some (Sum.inl (a0,a1,(a2+1),a3))))))))))) (
some (Sum.inr (Sum.inr a3)))
theorem Lx (F32:Y7)(F33:H2)(F35:Y9):E6 (C7 F32 F33 F35)=u4 (vt F32 F33 F35):=funext fun _=>by kernel_rfl
noncomputable def z9:=vt P32 P33 P35
noncomputable def Aa:TV:=af (u4 z9)
theorem v11_0:l11_0 (C7 P32 P33 P35)=Aa:=congrArg af (Lx P32 P33 P35)
noncomputable def E7 (T:List FEnt):=aK (xs:=vj) E5 (b6 T (sb [1,1,1,0,1,2,2] Lw))
noncomputable def l11_1 (T:List FEnt):=af (E7 T)
noncomputable def vu (F32:Y7)(F33:H2)(F35:Y9)(a0:List Y2)(a1 a2:Int)(a3:aO×aT):Option ((aT×Int×Int×aO×aT)⊕KR):=
cond (decide (a2 < a1)) (
aA (aU a2 a0.length) (
aA (decide ((0:Int)≤0)) (
aA (decide (0≤a2)) (
aA (decide (a2≤(↑a3.2.length:Int))) (
(F33 ((tF a3.2 0 a2),(ix a0 a2))).bind fun r7=>(
cond r7 (
some (Sum.inr (Sum.inl (70,a3)))) (
(F32 ((ix a0 a2).1,0,99)).bind fun r8=>(
cond (!r8) (
some (Sum.inr (Sum.inl (70,a3)))) (
(F32 ((ix a0 a2).2.1,0,8)).bind fun r9=>(
cond (!r9) (
some (Sum.inr (Sum.inl (70,a3)))) (
(F35 (((ix a0 a2).2.2.1,(ix a0 a2).2.2.2.1),0,9)).bind fun r10=>(
cond (!r10) (
some (Sum.inr (Sum.inl (70,a3)))) (
(F35 ((ix a0 a2).2.2.2.2,0,99)).bind fun r11=>(
cond (!r11) (
some (Sum.inr (Sum.inl (70,a3)))) (
aA (aw .i64 (a2+1)) (
some (Sum.inl (a0,a1,(a2+1),a3)))))))))))))))))) (
some (Sum.inr (Sum.inr a3)))
theorem Ly (F32:Y7)(F33:H2)(F35:Y9):E7 (C7 F32 F33 F35)=u4 (vu F32 F33 F35):=funext fun _=>by kernel_rfl
noncomputable def Ab:=vu P32 P33 P35
noncomputable def Ac:TW:=af (u4 Ab)
theorem v11_1:l11_1 (C7 P32 P33 P35)=Ac:=congrArg af (Ly P32 P33 P35)
theorem Q6:L.Fn Try.prog 11 85 [(.t 2)] (erase Lw):=oA Try.func11
def sa:FSh:=⟨⟨xS,[]⟩,[bM],0,⟨⟨oF,[]⟩,[y11],[],0⟩,true⟩
noncomputable def Lz (F32:Y7)(F33:H2)(F35:Y9)(l11_0:TV)(l11_1:TW)(a0:aO×aT):Option Int:=
cond (decide (8 < (↑a0.1.length:Int))) (
some 70) (
cond (decide (6 < (↑a0.2.length:Int))) (
some 70) (
(l11_0 (a0.1,(↑a0.1.length:Int),0,a0)).bind (fun y4=>Sum.elim (fun y5=>(
some y5.1)) (fun y6=>(
(l11_1 (y6.2,(↑y6.2.length:Int),0,y6)).bind (fun y12=>Sum.elim (fun y13=>(
some y13.1)) (fun y14=>(
some 0)) y12))) y4)))
theorem g11 (F32:Y7)(F33:H2)(F35:Y9)(a0:aO×aT):bx (C7 F32 F33 F35) sa [(.t 2)] Lw a0=Lz F32 F33 F35 (l11_0 (C7 F32 F33 F35)) (l11_1 (C7 F32 F33 F35)) a0:=by kernel_rfl
noncomputable def PJ:=Lz P32 P33 P35 Aa Ac
noncomputable def P11:fD:=fun x=>PJ x
theorem UI:bx (C7 P32 P33 P35) sa [(.t 2)] Lw=P11:=funext fun x=>(g11 P32 P33 P35 x).trans (by rw[v11_0,v11_1] <;> rfl)
theorem LA:DC Try.prog 11 sa P11:=dD UI UH Q6
noncomputable def Ko:List FEnt:=[]
theorem UJ:ay Try.prog Ko:=an
def E8:LSh:=⟨[3,11,12,13],⟨j9,ot⟩,[cT,y11,y11,cn,cT,dW,aW],3,[0,1]⟩
def E9:List XSh:=[⟨(.exit 0),[3],⟨⟨Kj,ot⟩,z7,[0,1],3⟩⟩]
noncomputable def PK:=dv Try.prog [] Try.f37 (.s .n (.s (.r [.a 1 false y11]) (.s (.s .n (.b (.l E8 E9 (.s .n (.s .n (.s (.b (.s .n (.r [.a 7 false y11,.a 8 false y11]))) .n)))))) .n)))
noncomputable def Fa (T:List FEnt):=aK (xs:=E9) E8 (b6 T (sb [1,1,0,1,2,2] PK))
noncomputable def l37_0 (T:List FEnt):=af (Fa T)
noncomputable def vw (a0:List Y2)(a1 a2:Int)(a3:List Y1)(a4:List Y2)(a5:List Y5)(a6:List Int):Option ((aT×Int×Int×aO×aT×db×Y6)⊕NX):=
cond (decide (a2 < a1)) (
aA (aU a2 a0.length) (
aA (cf 8 (List.length a6+List.length ([(ix a0 a2).2.1]:List Int))) (
aA (aw .i64 (a2+1)) (
some (Sum.inl (a0,a1,(a2+1),a3,a4,a5,(a6++([(ix a0 a2).2.1]:List Int)))))))) (
some (Sum.inr (a3,a4,a5,a6)))
theorem LB:Fa Ko=u7 vw:=funext fun _=>by kernel_rfl
noncomputable def Ad:=vw
noncomputable def Ae:TP:=af (u7 Ad)
theorem v37_0:l37_0 Ko=Ae:=congrArg af LB
theorem Q7:L.Fn Try.prog 37 30 [(.t 2)] (erase PK):=oA Try.func37
def sc:FSh:=⟨⟨xS,[]⟩,[bM],0,⟨⟨Kj,ot⟩,z7,[],3⟩,false⟩
noncomputable def Q8 (l37_0:TP)(a0:aO×aT):Option NX:=
(l37_0 (a0.2,(↑a0.2.length:Int),0,a0.1,a0.2,([]:List Y5),([]:List Int))).bind fun y1=>(
some (y1.1,y1.2.1,y1.2.2.1,y1.2.2.2))
theorem g37 (a0:aO×aT):bx Ko sc [(.t 2)] PK a0=Q8 (l37_0 Ko) a0:=by kernel_rfl
noncomputable def Ta:=Q8 Ae
noncomputable def P37:jv:=fun x=>Ta x
theorem UK:bx Ko sc [(.t 2)] PK=P37:=funext fun x=>(g37 x).trans (by rw[v37_0] <;> rfl)
theorem LC:DC Try.prog 37 sc P37:=dD UK UJ Q7
noncomputable def Q9:List FEnt:=[]
theorem UL:ay Try.prog Q9:=an
noncomputable def Ra:=dv Try.prog [] Try.f52 .n
theorem Rb:L.Fn Try.prog 52 10 [(.t 4)] (erase Ra):=oA Try.func52
def Af:FSh:=⟨⟨Lm,[]⟩,[y12,y11],0,⟨⟨ju,[]⟩,[.bool],[],0⟩,true⟩
noncomputable def Rc (a0 a1:Int):Option Bool:=
aA (decide (0≤a1)) (
some (decide ((yF .u64 (eU .u64 a0 a1) 1)=1)))
theorem UM:bx Q9 Af [(.t 4)] Ra=u2 Rc:=funext fun _=>by kernel_rfl
noncomputable def Tb:=Rc
noncomputable def P52:nZ:=u2 Tb
theorem UN:bx Q9 Af [(.t 4)] Ra=P52:=UM
theorem Tc:DC Try.prog 52 Af P52:=dD UN UL Rb
noncomputable def Rd (F32:Y7):List FEnt:=[⟨32,qK,F32⟩]
theorem UO:ay Try.prog (Rd P32):=dK an Km
noncomputable def Re:=dv Try.prog [(1,{ch:=[0,0,0,0,1,0,0,1,0,0,0,0,1,0,0,1,0,0,0,0],rs:=[0] })] Try.f57 .n
theorem Rf:L.Fn Try.prog 57 54 [(.t 6)] (erase Re):=oA Try.func57
def sd:FSh:=⟨⟨[(.ptr 0 0),(.v y11),(.v y11)],ot⟩,[y11,y11,cn,cT,dW,aW],3,⟨⟨ju,ot⟩,[.bool,cn,cT,dW,aW],[0,1,2],3⟩,false⟩
noncomputable def Rh (F32:Y7)(a0 a1:Int)(a2:List Y1)(a3:List Y2)(a4:List Y5)(a5:List Int):Option KO:=
aA (aU a0 a3.length) (
aA (aU a1 a2.length) (
(F32 ((ix a2 a1).2.1,(ix a3 a0).2.2.1,(ix a3 a0).2.2.2.1)).bind fun r1=>(
cond r1 (
(F32 ((ix a2 a1).1,(ix a3 a0).2.2.2.2.1,(ix a3 a0).2.2.2.2.2)).bind fun r2=>(
cond r2 (
some (decide ((fl (be a4 [a0,a1]) 0)=0),a2,a3,a4,a5)) (
some (false,a2,a3,a4,a5)))) (
some (false,a2,a3,a4,a5)))))
theorem UP (F32:Y7):bx (Rd F32) sd [(.t 6)] Re=u6 (Rh F32):=funext fun _=>by kernel_rfl
noncomputable def Td:=Rh P32
noncomputable def cN:hD:=u6 Td
theorem UQ:bx (Rd P32) sd [(.t 6)] Re=cN:=UP P32
theorem LD:DC Try.prog 57 sd cN:=dD UQ UO Rf
noncomputable def yu (F52:nZ)(F57:hD):List FEnt:=[⟨52,Af,F52⟩,⟨57,sd,F57⟩]
theorem UR:ay Try.prog (yu P52 cN):=dK (dK an LD) Tc
def Fb:LSh:=⟨[0,1,4,14,15,16],⟨[(.ptr 0 0),(.v y12),(.v y11),(.slc 1),(.v y11),(.v y11)],SZ⟩,[y12,y11,y11,y11,cn,cT,aW,dW],3,[0,1,2]⟩
def Fc:List XSh:=[⟨(.exit 0),[0,1,4],⟨⟨[(.ptr 0 0),(.v y12),(.v y11)],SZ⟩,[y12,y11,cn,cT,aW,dW],[0,1,2],3⟩⟩]
def Fd:LSh:=⟨[0,1,4,7,8,9,33,34,35,45,46],⟨[(.ptr 0 0),(.v y12),(.v y11),(.v y11),(.ptr 1 0),(.v y11),(.v cn),(.v y11),(.v y11),(.v y11),(.v y11)],k9⟩,[y12,y11,y11,y11,cn,y11,y11,y11,y11,cn,cT,mf,dW,aW],4,[0,1,2,3]⟩
def Fe:List XSh:=[⟨(.exit 4),[0,1,4,8,9,33,34,35],⟨⟨[(.ptr 0 0),(.v y12),(.v y11),(.ptr 1 0),(.v y11),(.v cn),(.v y11),(.v y11)],k9⟩,[y12,y11,y11,cn,y11,y11,cn,cT,mf,dW,aW],[0,1,2,3],4⟩⟩]
def Ff:LSh:=⟨[0,1,4,33,34,35],⟨[(.ptr 0 0),(.v y12),(.v y11),(.v cn),(.v y11),(.v y11)],ot⟩,[y12,y11,cn,y11,y11,cn,cT,dW,aW],3,[0,1,2]⟩
def Fg:List XSh:=[⟨(.exit 2),[4],⟨⟨oF,ot⟩,z6,[0,1,2],3⟩⟩]
noncomputable def Kp:=dv Try.prog [] Try.f59 (.s .n (.s (.s .n (.b (.l Fb Fc .n))) (.s (.s .n (.b (.l Ff Fg (.s .n (.s .n (.s (.b (.s .n (.s .n (.s (.s .n (.b (.l Fd Fe .n))) .n)))) .n)))))) .n)))
noncomputable def Fh (T:List FEnt):=aK (xs:=Fc) Fb (b6 T (sb [1,0,1,2,2] Kp))
noncomputable def l59_0 (T:List FEnt):=af (Fh T)
noncomputable def vz (F52:nZ)(F57:hD)(a0 a1 a2 a3:Int)(a4:List Y1)(a5:List Y2)(a6:List Int)(a7:List Y5):Option ((Int×Int×Int×Int×aO×aT×Y6×db)⊕TO):=
cond (decide (a3 < a2)) (
aA (aU a3 a6.length) (
(F52 (a0,a3)).bind fun r1=>(
cond (!r1) (
aA (aw .i64 (a1+(ix a6 a3))) (
aA (aw .i64 (a3+1)) (
some (Sum.inl (a0,(a1+(ix a6 a3)),a2,(a3+1),a4,a5,a6,a7))))) (
aA (aw .i64 (a3+1)) (
some (Sum.inl (a0,a1,a2,(a3+1),a4,a5,a6,a7))))))) (
some (Sum.inr (a0,a1,a4,a5,a6,a7)))
theorem LE (F52:nZ)(F57:hD):Fh (yu F52 F57)=u8 (vz F52 F57):=funext fun _=>by kernel_rfl
noncomputable def Ag:=vz P52 cN
noncomputable def Ah:TQ:=af (u8 Ag)
theorem LF:l59_0 (yu P52 cN)=Ah:=congrArg af (LE P52 cN)
noncomputable def Fi (T:List FEnt):=aK (xs:=Fe) Fd (b6 T (sb [1,1,0,1,2,2,1,1,0,2,1,1,0,1,2,2] Kp))
noncomputable def l59_2 (T:List FEnt):=af (Fi T)
noncomputable def vA (F52:nZ)(F57:hD)(a0 a1 a2 a3:Int)(a4:List Y1)(a5 a6 a7 a8:Int)(a9:List Y1)(a10:List Y2)(a11:Y1)(a12:List Y5)(a13:List Int):Option ((Int×Int×Int×Int×aO×Int×Int×Int×Int×aO×aT×Y1×db×Y6)⊕TN):=
cond (decide (a8 < a7)) (
(F52 (a0,a8)).bind fun r3=>(
cond r3 (
(F57 (a8,a2,a9,a10,a12,a13)).bind fun r4=>(
cond r4.1 (
aA (aw .i64 (a3+1)) (
aA (aw .i64 (a8+1)) (
some (Sum.inl (a0,a1,a2,(a3+1),a4,a5,a6,a7,(a8+1),r4.2.1,r4.2.2.1,a11,r4.2.2.2.1,r4.2.2.2.2))))) (
aA (aw .i64 (a8+1)) (
some (Sum.inl (a0,a1,a2,a3,a4,a5,a6,a7,(a8+1),r4.2.1,r4.2.2.1,a11,r4.2.2.2.1,r4.2.2.2.2)))))) (
aA (aw .i64 (a8+1)) (
some (Sum.inl (a0,a1,a2,a3,a4,a5,a6,a7,(a8+1),a9,a10,a11,a12,a13)))))) (
some (Sum.inr (a0,a1,a3,a4,a5,a6,a9,a10,a11,a12,a13)))
theorem LG (F52:nZ)(F57:hD):Fi (yu F52 F57)=Qo (vA F52 F57):=funext fun _=>by kernel_rfl
noncomputable def Ai:=vA P52 cN
noncomputable def Aj:TR:=af (Qo Ai)
theorem LH:l59_2 (yu P52 cN)=Aj:=congrArg af (LG P52 cN)
noncomputable def Fj (T:List FEnt):=aK (xs:=Fg) Ff (b6 T (sb [1,1,0,1,2,2] Kp))
noncomputable def l59_1 (T:List FEnt):=af (Fj T)
noncomputable def vB (F52:nZ)(F57:hD)(l59_2:TR)(a0 a1:Int)(a2:List Y1)(a3 a4:Int)(a5:List Y1)(a6:List Y2)(a7:List Y5)(a8:List Int):Option ((Int×Int×aO×Int×Int×aO×aT×db×Y6)⊕KP):=
cond (decide (a4 < a3)) (
aA (aU a4 a2.length) (
(l59_2 (a0,a1,a4,0,a2,a3,a4,(↑a6.length:Int),0,a5,a6,(ix a2 a4),a7,a8)).bind fun y5=>(
aA (aw .i64 (y5.2.1+(min y5.2.2.2.2.2.2.2.2.1.2.2 y5.2.2.1))) (
aA (aw .i64 (y5.2.2.2.2.2.1+1)) (
some (Sum.inl (y5.1,(y5.2.1+(min y5.2.2.2.2.2.2.2.2.1.2.2 y5.2.2.1)),y5.2.2.2.1,y5.2.2.2.2.1,(y5.2.2.2.2.2.1+1),y5.2.2.2.2.2.2.1,y5.2.2.2.2.2.2.2.1,y5.2.2.2.2.2.2.2.2.2.1,y5.2.2.2.2.2.2.2.2.2.2))))))) (
some (Sum.inr (a1,a5,a6,a7,a8)))
theorem LI (F52:nZ)(F57:hD):Fj (yu F52 F57)=u9 (vB F52 F57 (l59_2 (yu F52 F57))):=funext fun _=>by kernel_rfl
noncomputable def Ak:=vB P52 cN Aj
noncomputable def se:TS:=af (u9 Ak)
theorem LJ:l59_1 (yu P52 cN)=se:=congrArg af ((LI P52 cN).trans (by rw[LH] <;> rfl))
theorem Ri:L.Fn Try.prog 59 69 [(.t 4)] (erase Kp):=oA Try.func59
def C8:FSh:=⟨⟨[(.ptr 0 0),(.v y12)],ot⟩,[y12,cn,cT,dW,aW],3,⟨⟨oF,ot⟩,z6,[0,1,2],3⟩,false⟩
noncomputable def Rj (F52:nZ)(F57:hD)(l59_0:TQ)(l59_1:TS)(a0:Int)(a1:List Y1)(a2:List Y2)(a3:List Y5)(a4:List Int):Option KP:=
(l59_0 (a0,0,(↑a4.length:Int),0,a1,a2,a4,a3)).bind fun y2=>(
(l59_1 (y2.1,y2.2.1,y2.2.2.1,(↑y2.2.2.1.length:Int),0,y2.2.2.1,y2.2.2.2.1,y2.2.2.2.2.2,y2.2.2.2.2.1)).bind fun y6=>(
some (y6.1,y6.2.1,y6.2.2.1,y6.2.2.2.1,y6.2.2.2.2)))
theorem US (F52:nZ)(F57:hD):bx (yu F52 F57) C8 [(.t 4)] Kp=u5 (Rj F52 F57 (l59_0 (yu F52 F57)) (l59_1 (yu F52 F57))):=funext fun _=>by kernel_rfl
noncomputable def Te:=Rj P52 cN Ah se
noncomputable def Al:KQ:=u5 Te
theorem UT:bx (yu P52 cN) C8 [(.t 4)] Kp=Al:=(US P52 cN).trans (by rw[LF,LJ] <;> rfl)
theorem UU:DC Try.prog 59 C8 Al:=dD UT UR Ri
noncomputable def Kq (F59:KQ):List FEnt:=[⟨59,C8,F59⟩]
theorem UV:ay Try.prog (Kq Al):=dK an UU
def Fk:LSh:=⟨[0,2,3,14,15],⟨[(.ptr 0 0),(.v y12),(.v y11),(.v y12),(.v y12)],ot⟩,[y12,y11,y12,y12,cn,cT,dW,aW],3,[0,1,2]⟩
def Fl:List XSh:=[⟨(.exit 0),[2,3],⟨⟨Lm,ot⟩,[y12,y11,cn,cT,dW,aW],[0,1,2],3⟩⟩]
noncomputable def PL:=dv Try.prog [] Try.f45 (.s .n (.s .n (.s (.s .n (.b (.l Fk Fl .n))) .n)))
noncomputable def Fm (T:List FEnt):=aK (xs:=Fl) Fk (b6 T (sb [1,1,0,1,2,2] PL))
noncomputable def l45_0 (T:List FEnt):=af (Fm T)
noncomputable def vC (F59:KQ)(a0 a1 a2 a3:Int)(a4:List Y1)(a5:List Y2)(a6:List Y5)(a7:List Int):Option ((Int×Int×Int×Int×aO×aT×db×Y6)⊕Qk):=
cond (decide (a3 < a2)) (
(F59 (a3,a4,a5,a6,a7)).bind fun r2=>(
cond (decide (r2.1 < a1)) (
aA (aw .u64 (a3+1)) (
some (Sum.inl (a3,r2.1,a2,(a3+1),r2.2.1,r2.2.2.1,r2.2.2.2.1,r2.2.2.2.2)))) (
aA (aw .u64 (a3+1)) (
some (Sum.inl (a0,a1,a2,(a3+1),r2.2.1,r2.2.2.1,r2.2.2.2.1,r2.2.2.2.2)))))) (
some (Sum.inr (a0,a1,a4,a5,a6,a7)))
theorem LK (F59:KQ):Fm (Kq F59)=u8 (vC F59):=funext fun _=>by kernel_rfl
noncomputable def Am:=vC Al
noncomputable def An:TT:=af (u8 Am)
theorem LL:l45_0 (Kq Al)=An:=congrArg af (LK Al)
theorem Rk:L.Fn Try.prog 45 29 [(.t 2),(.t 3)] (erase PL):=oA Try.func45
def xT:FSh:=⟨⟨Kj,ot⟩,z7,3,⟨⟨[(.tup Lm)],ot⟩,[y12,y11,cn,cT,dW,aW],[0,1,2],3⟩,false⟩
noncomputable def Rl (F59:KQ)(l45_0:TT)(a0:List Y1)(a1:List Y2)(a2:List Y5)(a3:List Int):Option Qk:=
(F59 (0,a0,a1,a2,a3)).bind fun r1=>(
aA (decide (0≤(↑r1.2.2.1.length:Int))) (
(l45_0 (0,r1.1,(Lg .u64 1 (↑r1.2.2.1.length:Int)),0,r1.2.1,r1.2.2.1,r1.2.2.2.1,r1.2.2.2.2)).bind fun y3=>(
some (y3.1,y3.2.1,y3.2.2.1,y3.2.2.2.1,y3.2.2.2.2.1,y3.2.2.2.2.2))))
theorem UW (F59:KQ):bx (Kq F59) xT [(.t 2),(.t 3)] PL=u4 (Rl F59 (l45_0 (Kq F59))):=funext fun _=>by kernel_rfl
noncomputable def Tf:=Rl Al An
noncomputable def P45:wD:=u4 Tf
theorem UX:bx (Kq Al) xT [(.t 2),(.t 3)] PL=P45:=(UW Al).trans (by rw[LL] <;> rfl)
theorem Rm:DC Try.prog 45 xT P45:=dD UX UV Rk
noncomputable def Rn (F11:fD)(F37:jv)(F45:wD):List FEnt:=[⟨11,sa,F11⟩,⟨37,sc,F37⟩,⟨45,xT,F45⟩]
theorem UY:ay Try.prog (Rn P11 P37 P45):=dK (dK (dK an Rm) LC) LA
noncomputable def Ro:=dv Try.prog [] Try.f22 .n
theorem Rp:L.Fn Try.prog 22 19 [(.t 2),(.t 3)] (erase Ro):=oA Try.func22
def xU:FSh:=⟨⟨xS,[]⟩,[bM],0,⟨⟨QF,[]⟩,[y11,y11],[],0⟩,true⟩
noncomputable def PM (F11:fD)(F37:jv)(F45:wD)(a0:aO×aT):Option Y4:=
(F11 a0).bind fun r1=>(
cond (!decide (r1=0)) (
some (0,r1)) (
(F37 a0).bind fun r2=>(
(F45 (r2.1,r2.2.1,r2.2.2.1,r2.2.2.2)).bind fun r3=>(
some (r3.2.1,0)))))
theorem g22 (F11:fD)(F37:jv)(F45:wD)(a0:aO×aT):bx (Rn F11 F37 F45) xU [(.t 2),(.t 3)] Ro a0=PM F11 F37 F45 a0:=by kernel_rfl
noncomputable def Rq:=PM P11 P37 P45
noncomputable def P22:wC:=fun x=>Rq x
theorem UZ:bx (Rn P11 P37 P45) xU [(.t 2),(.t 3)] Ro=P22:=funext fun x=>(g22 P11 P37 P45 x)
theorem Rr:DC Try.prog 22 xU P22:=dD UZ UY Rp
end Go.Proofs.Ytjoncejabdjekaa.D
