import Derived.Test.YtfknkinmnecoeaaG2q
import Derived.Test.YtfknkinmnecoeaaProg
set_option linter.unusedVariables false
set_option maxRecDepth 100000
namespace Go.Proofs.Ytfknkinmnecoeaa.D
open Go Go.Proofs Go.Proofs.Ytfknkinmnecoeaa.L
def j9:List RSh:=[(.slc 0),(.v y3),(.v y3),(.fn 64 []),(.v y3)]
def j1:List RSh:=[(.slc 0),(.v y3),(.v y3),(.v y3),(.fn 64 []),(.v .bool),(.v .bool),(.v y3)]
def sg:List (Nat×OSh):=[(0,(.row 33 dE))]
noncomputable def JM (F17:p9)(F46:lF)(F47:fh)(F41:gE):List FEnt:=[⟨17,zK,F17⟩,⟨46,wP,F46⟩,⟨47,rl,F47⟩,⟨41,wS,F41⟩]
theorem V1:aq Try.prog (JM P17 P46 P47 nL):=dK (dK (dK (dK ai QJ) Ku) Px) Tj
def Fq:LSh:=⟨[2,3,4,12,14,15],⟨[(.v y3),(.v y3),(.ptr 0 0),(.ptr 1 0),(.v y3),(.v y3)],k7⟩,[y3,y3,y3,y3,bx,dE],2,[0,1]⟩
def Fs:List XSh:=[⟨(.exit 0),[14],⟨⟨lE,k7⟩,[y3,bx,dE],[0,1],2⟩⟩]
noncomputable def Om:=cN Try.prog [] Try.f22 (.s .n (.s .n (.s .n (.s .n (.s .n (.s (.b (.l Fq Fs .n)) .n))))))
noncomputable def Ft (T:List FEnt):=aI (xs:=Fs) Fq (bG T (sb [1,1,1,1,1,0,2,2] Om))
noncomputable def l22_0 (T:List FEnt):=af (Ft T)
noncomputable def vi (F17:p9)(F46:lF)(F47:fh)(F41:gE)(a0 a1 a2 a3:Int)(a4:bg)(a5:Y7):Option ((Int×Int×Int×Int×bg×Int×Int×Int×Y1×Y4×Int×Int×Int×Int)⊕MZ):=
cond (decide (a2 < a3)) (
an (ah .i64 (a2+a3)) (
an (ah .i64 (Int.tdiv (a2+a3) 2)) (
(F41 (a4.1,a5,a0,(Int.tdiv (a2+a3) 2))).bind fun r4=>(
cond (decide (a1≤r4.2.2.2.1)) (
some (Sum.inl (a0,a1,a2,(Int.tdiv (a2+a3) 2),a4,a5))) (
an (ah .i64 ((Int.tdiv (a2+a3) 2)+1)) (
some (Sum.inl (a0,a1,((Int.tdiv (a2+a3) 2)+1),a3,a4,a5)))))))) (
some (Sum.inr (a2,a4,a5)))
theorem Lo (F17:p9)(F46:lF)(F47:fh)(F41:gE):Ft (JM F17 F46 F47 F41)=u6 (vi F17 F46 F47 F41):=funext fun _=>by kernel_rfl
noncomputable def vj:=vi P17 P46 P47 nL
noncomputable def L22_0:M3:=af (u6 vj)
theorem Lp:l22_0 (JM P17 P46 P47 nL)=L22_0:=congrArg af (Lo P17 P46 P47 nL)
theorem QU:L.Fn Try.prog 22 58 [(.t 8),(.t 9)] (erase Om):=oA Try.func22
def CU:FSh:=⟨⟨[(.st bx),(.v y3),(.v y3),(.v y3)],[]⟩,[bx,y3,y3,y3],0,⟨⟨[(.tup [(.v y3),(.v y3)])],[]⟩,[y3,y3],[],0⟩,true⟩
noncomputable def QV (F17:p9)(F46:lF)(F47:fh)(F41:gE)(l22_0:M3)(a0:bg)(a1 a2 a3:Int):Option Y2:=
(F17 (a0,a1,a2)).bind fun r1=>(
cond (!decide (r1.2=0)) (
some (0,r1.2)) (
(F46 a3).bind fun r2=>(
cond (!r2) (
some (0,1)) (
(F47 (a0,a1)).bind fun r3=>(
(l22_0 (a2,a3,0,10000001,a0,r3.1)).bind fun y5=>(
cond (decide (10000000 < y5.1)) (
some (0,3)) (
some (y5.1,0))))))))
theorem V2 (F17:p9)(F46:lF)(F47:fh)(F41:gE):aX (JM F17 F46 F47 F41) CU [(.t 8),(.t 9)] Om=u4 (QV F17 F46 F47 F41 (l22_0 (JM F17 F46 F47 F41))):=funext fun _=>by kernel_rfl
noncomputable def To:=QV P17 P46 P47 nL L22_0
noncomputable def P22:Dr:=u4 To
theorem V3:aX (JM P17 P46 P47 nL) CU [(.t 8),(.t 9)] Om=P22:=(V2 P17 P46 P47 nL).trans (by rw[Lp] <;> rfl)
theorem V4:DC Try.prog 22 CU P22:=dD V3 V1 QU
noncomputable def QW (F38:ON)(F17:p9)(F21:kX)(F22:Dr):List FEnt:=[⟨38,Cs,F38⟩,⟨17,zK,F17⟩,⟨21,zO,F21⟩,⟨22,CU,F22⟩]
theorem V5:aq Try.prog (QW P38 P17 P21 P22):=dK (dK (dK (dK ai V4) Tn) Tj) Ui
noncomputable def QX:=cN Try.prog [] Try.f15 .n
theorem QY:L.Fn Try.prog 15 47 [(.t 0)] (erase QX):=oA Try.func15
def zP:FSh:=⟨⟨[],[]⟩,[],0,⟨⟨jp,[]⟩,[.bool],[],0⟩,true⟩
noncomputable def QZ (F38:ON)(F17:p9)(F21:kX)(F22:Dr):Option Bool:=
(F38 ()).bind fun r1=>(
(F17 (r1,5,10)).bind fun r2=>(
(F21 (r1,5,12)).bind fun r3=>(
(F22 (r1,5,11,3000)).bind fun r4=>(
cond (decide (r2.2=0)) (
cond (decide (r3.2=0)) (
cond (decide (r4.2=0)) (
cond (((((decide (r2.1.1=30000)&&decide (r2.1.2.1=3000))&&decide (r2.1.2.2.1=27000))&&decide (r2.1.2.2.2.1=18900))&&decide (r2.1.2.2.2.2.1=8100))&&decide (r2.1.2.2.2.2.2=1)) (
cond (decide (r3.1=40000)) (
some (decide (r4.1=3333))) (
some false)) (
some false)) (
some false)) (
some false)) (
some false)))))
theorem g15 (F38:ON)(F17:p9)(F21:kX)(F22:Dr):aX (QW F38 F17 F21 F22) zP [(.t 0)] QX ()=QZ F38 F17 F21 F22:=by kernel_rfl
noncomputable def Tp:Option Bool:=QZ P38 P17 P21 P22
noncomputable def jv:kY:=fun x=>Tp
theorem V6:aX (QW P38 P17 P21 P22) zP [(.t 0)] QX=jv:=funext fun x=>(g15 P38 P17 P21 P22)
theorem Tq:DC Try.prog 15 zP jv:=dD V6 V5 QY
noncomputable def JN:List FEnt:=[]
theorem V7:aq Try.prog JN:=ai
def Fu:LSh:=⟨[1,2,3,4],⟨SX,[(0,(.boxT bx)),(1,(.box [(.v y3),.emp,.emp])),(2,(.box [(.v y3),(.slc 3),(.slc 4)])),(3,(.row 33 dE)),(4,(.row 45 ej))]⟩,[y3,bx,y3,y3,eP,dB],5,[0,1,2,4]⟩
def Fv:List XSh:=[⟨(.exit 0),[2,3],⟨⟨[(.ptr 1 0),(.ptr 2 0)],[(0,(.boxT bx)),(1,(.box [(.v y3),.emp,.emp])),(2,(.box [(.v y3),(.slc 5),(.slc 4)])),(4,(.row 45 ej)),(5,(.row 33 dE))]⟩,[bx,y3,y3,dB,eP],[0,1,2,4],6⟩⟩]
noncomputable def On:=cN Try.prog [(1,{ch:=[0,1,1,0,1,0,0,0,0],rs:=[1] }),(6,{ch:=[1,0,0,0,1,0,1,0,0,1,0,1],rs:=[5],ord:=[0,1,2,4,5,6,3,8,7,9,10,11] })] Try.f24 (.s .n (.s (.r [.a 5 true ej]) (.s (.s .n (.b (.l Fu Fv (.s .n (.s (.b (.s .n (.s (.r [.a 6 false y3,.a 8 true y6]) (.r [.f 3 28 [],.f 3 32 [],.a 3 true dE,.a 4 true dE])))) .n))))) .n)))
noncomputable def Fw (T:List FEnt):=aI (xs:=Fv) Fu (bG T (sb [1,1,0,1,2,2] On))
noncomputable def l24_0 (T:List FEnt):=af (Fw T)
noncomputable def vk (a0:Int)(a1:bg)(a2 a3:Int)(a4:List Y7)(a5:List cH):Option ((Int×bg×Int×Int×dc×cA)⊕M0):=
cond (decide (a0 < (↑a1.2.1.length:Int))) (
an (aZ a0 a1.2.1.length) (
an (bD 8 (List.length ((ix a1.2.1 a0).2.2.2.1))) (
an (bD 16 (List.length ((ix a1.2.1 a0).2.2.2.2.1))) (
an (bD 104 (List.length a4+List.length ([(ix a1.2.1 a0)]:List Y7))) (
an (ah .i64 (a0+1)) (
some (Sum.inl ((a0+1),a1,a2,a3,(a4++([(ix a1.2.1 a0)]:List Y7)),a5)))))))) (
some (Sum.inr (a1,a2,a3,a5,a4)))
theorem Lq:Fw JN=u6 vk:=funext fun _=>by kernel_rfl
noncomputable def vl:=vk
noncomputable def zQ:M4:=af (u6 vl)
theorem v24_0:l24_0 JN=zQ:=congrArg af Lq
theorem Q0:L.Fn Try.prog 24 42 [(.cell 2 true 3)] (erase On):=oA Try.func24
def CV:FSh:=⟨⟨[(.st bx)],[]⟩,[bx],0,⟨⟨[(.agg [(.v y3),(.slc 0),(.slc 1)])],[(0,(.row 33 dE)),(1,(.row 45 ej))]⟩,[y3,eP,dB],[],2⟩,false⟩
noncomputable def Q1 (l24_0:M4)(a0:bg):Option bg:=
an (bD 48 a0.2.2.length) (
(l24_0 (0,a0,0,a0.1,([]:List Y7),a0.2.2)).bind fun y1=>(
some (y1.2.2.1,y1.2.2.2.2,y1.2.2.2.1)))
theorem g24 (a0:bg):aX JN CV [(.cell 2 true 3)] On a0=Q1 (l24_0 JN) a0:=by kernel_rfl
noncomputable def Tr:=Q1 zQ
noncomputable def CW:Ds:=fun x=>Tr x
theorem V8:aX JN CV [(.cell 2 true 3)] On=CW:=funext fun x=>(g24 x).trans (by rw[v24_0] <;> rfl)
theorem V9:DC Try.prog 24 CV CW:=dD V8 V7 Q0
noncomputable def Q2:List FEnt:=[]
theorem Wb:aq Try.prog Q2:=ai
noncomputable def Q3:=cN Try.prog [] Try.f63 .n
theorem Q4:L.Fn Try.prog 63 4 [(.t 2)] (erase Q3):=oA Try.func63
def CX:FSh:=⟨⟨[(.v eP)],[]⟩,[eP],0,⟨⟨[(.fn 84 Jz)],[(0,(.boxT eP))]⟩,[eP],[],1⟩,false⟩
noncomputable def Ts (a0:List Y7):Option dc:=
some a0
theorem g63 (a0:List Y7):aX Q2 CX [(.t 2)] Q3 a0=Ts a0:=by kernel_rfl
noncomputable def Wc:=Ts
noncomputable def qm:gu:=fun x=>Wc x
theorem Wd:aX Q2 CX [(.t 2)] Q3=qm:=funext fun x=>(g63 x)
theorem We:DC Try.prog 63 CX qm:=dD Wd Wb Q4
noncomputable def Q5 (F88:gu):List FEnt:=[⟨88,sh88,F88⟩]
theorem Wg:aq Try.prog (Q5 P88):=dK ai XL
noncomputable def Q6:=cN Try.prog [] Try.f82 .n
theorem Q7:L.Fn Try.prog 82 5 [(.t 2)] (erase Q6):=oA Try.func82
def CY:FSh:=⟨⟨[(.fn 84 Jz)],[(0,(.boxT eP))]⟩,[eP],1,⟨⟨Eb,sg⟩,[eP],[],1⟩,false⟩
noncomputable def Oo (F88:gu)(a0:List Y7):Option dc:=
(F88 a0).bind fun r1=>(
some r1)
theorem g82 (F88:gu)(a0:List Y7):aX (Q5 F88) CY [(.t 2)] Q6 a0=Oo F88 a0:=by kernel_rfl
noncomputable def Wh:=Oo P88
noncomputable def P82:gu:=fun x=>Wh x
theorem Wi:aX (Q5 P88) CY [(.t 2)] Q6=P82:=funext fun x=>(g82 P88 x)
theorem Wj:DC Try.prog 82 CY P82:=dD Wi Wg Q7
noncomputable def wT:List FEnt:=[]
theorem Q8:aq Try.prog wT:=ai
def zS:LSh:=⟨[0,2],⟨[(.v rE),(.v y3)],[]⟩,[rE,y3],0,[]⟩
def zT:List XSh:=[⟨.normal,[0,2],⟨⟨[(.v rE),(.v y3)],[]⟩,[rE,y3],[],0⟩⟩]
noncomputable def CZ:=cN Try.prog [] Try.f102 (.s .n (.s (.o zS zT .n) .n))
noncomputable def l102_0 (T:List FEnt):=mM (xs:=zT) zS (bG T (sb [1,0,2] CZ))
noncomputable def ti (a0 a1:Int):Option Y2:=
cond (decide (4294967296≤a0)) (
some ((bE .u64 a0 32),32)) (
some (a0,a1))
theorem Ix:l102_0 wT=u2 ti:=funext fun _=>by kernel_rfl
noncomputable def zU:=ti
noncomputable def tj:MW:=fun x=>zU x.1 x.2
theorem v102_0:l102_0 wT=tj:=Ix
theorem Lr:L.Fn Try.prog 102 25 [(.t 2)] (erase CZ):=oA Try.func102
def vn:FSh:=⟨⟨[(.v rE)],[]⟩,[rE],0,⟨⟨lE,[]⟩,[y3],[],0⟩,true⟩
noncomputable def Iy (l102_0:MW)(a0:Int):Option Int:=
(l102_0 (a0,0)).bind fun y1=>(
cond (decide (65536≤y1.1)) (
an (ah .i64 (y1.2+16)) (
cond (decide (256≤(bE .u64 y1.1 16))) (
an (ah .i64 ((y1.2+16)+8)) (
an (ah .u8 (bE .u64 (bE .u64 y1.1 16) 8)) (
an (aZ (bE .u64 (bE .u64 y1.1 16) 8) (ByteArray.size tb)) (
an (ah .i64 (wt tb (bE .u64 (bE .u64 y1.1 16) 8))) (
an (ah .i64 (((y1.2+16)+8)+(wt tb (bE .u64 (bE .u64 y1.1 16) 8)))) (
some (((y1.2+16)+8)+(wt tb (bE .u64 (bE .u64 y1.1 16) 8))))))))) (
an (ah .u8 (bE .u64 y1.1 16)) (
an (aZ (bE .u64 y1.1 16) (ByteArray.size tb)) (
an (ah .i64 (wt tb (bE .u64 y1.1 16))) (
an (ah .i64 ((y1.2+16)+(wt tb (bE .u64 y1.1 16)))) (
some ((y1.2+16)+(wt tb (bE .u64 y1.1 16)))))))))) (
cond (decide (256≤y1.1)) (
an (ah .i64 (y1.2+8)) (
an (ah .u8 (bE .u64 y1.1 8)) (
an (aZ (bE .u64 y1.1 8) (ByteArray.size tb)) (
an (ah .i64 (wt tb (bE .u64 y1.1 8))) (
an (ah .i64 ((y1.2+8)+(wt tb (bE .u64 y1.1 8)))) (
some ((y1.2+8)+(wt tb (bE .u64 y1.1 8))))))))) (
an (ah .u8 y1.1) (
an (aZ y1.1 (ByteArray.size tb)) (
an (ah .i64 (wt tb y1.1)) (
an (ah .i64 (y1.2+(wt tb y1.1))) (
some (y1.2+(wt tb y1.1)))))))))
theorem g102 (a0:Int):aX wT vn [(.t 2)] CZ a0=Iy (l102_0 wT) a0:=by kernel_rfl
noncomputable def Ls:=Iy tj
noncomputable def P102:rD:=fun x=>Ls x
theorem Q9:aX wT vn [(.t 2)] CZ=P102:=funext fun x=>(g102 x).trans (by rw[v102_0] <;> rfl)
theorem Ra:DC Try.prog 102 vn P102:=dD Q9 Q8 Lr
noncomputable def Rb (F102:rD):List FEnt:=[⟨102,vn,F102⟩]
theorem Wl:aq Try.prog (Rb P102):=dK ai Ra
noncomputable def Rc:=cN Try.prog [] Try.f90 .n
theorem Rd:L.Fn Try.prog 90 8 [(.t 2)] (erase Rc):=oA Try.func90
def C0:FSh:=⟨⟨[(.v rE)],[]⟩,[rE],0,⟨⟨lE,[]⟩,[y3],[],0⟩,true⟩
noncomputable def Re (F102:rD)(a0:Int):Option Int:=
(F102 a0).bind fun r1=>(
some r1)
theorem g90 (F102:rD)(a0:Int):aX (Rb F102) C0 [(.t 2)] Rc a0=Re F102 a0:=by kernel_rfl
noncomputable def Tt:=Re P102
noncomputable def P90:rD:=fun x=>Tt x
theorem Wm:aX (Rb P102) C0 [(.t 2)] Rc=P90:=funext fun x=>(g90 P102 x)
theorem Wn:DC Try.prog 90 C0 P90:=dD Wm Wl Rd
noncomputable def Rf:List FEnt:=[]
theorem Wo:aq Try.prog Rf:=ai
noncomputable def Rh:=cN Try.prog [] Try.f64 .n
theorem Ri:L.Fn Try.prog 64 10 [(.t 4)] (erase Rh):=oA Try.func64
def C1:FSh:=⟨⟨[(.st dE),(.st dE)],[]⟩,[dE,dE],0,⟨⟨lE,[]⟩,[y3],[],0⟩,true⟩
noncomputable def Tu (a0 a1:Y7):Option Int:=
an (ah .i64 (a0.1-a1.1)) (
some (a0.1-a1.1))
theorem Wp:aX Rf C1 [(.t 4)] Rh=u2 Tu:=funext fun _=>by kernel_rfl
noncomputable def Wq:=Tu
noncomputable def P64:rF:=u2 Wq
theorem Wr:aX Rf C1 [(.t 4)] Rh=P64:=Wp
theorem Ws:DC Try.prog 64 C1 P64:=dD Wr Wo Ri
noncomputable def C2 (F64:rF):List FEnt:=[⟨64,C1,F64⟩]
theorem Wt:aq Try.prog (C2 P64):=dK ai Ws
def Fx:LSh:=⟨[0,1,2,3,8,9],⟨[(.slc 0),(.v y3),(.v y3),(.fn 64 []),(.v y3),(.v y3)],sg⟩,[y3,y3,y3,y3,eP],1,[0]⟩
def Fy:List XSh:=[⟨(.exit 2),[0,1,2,3,8],⟨⟨j9,sg⟩,[y3,y3,y3,eP],[0],1⟩⟩]
def Fz:LSh:=⟨[0,1,2,3,8],⟨j9,sg⟩,[y3,y3,y3,eP],1,[0]⟩
def FA:List XSh:=[⟨(.exit 0),[],⟨⟨[],sg⟩,[eP],[0],1⟩⟩]
noncomputable def Lt:=cN Try.prog [] Try.f93 (.s .n (.b (.l Fz FA (.s .n (.s (.b (.s .n (.b (.l Fx Fy .n)))) .n)))))
noncomputable def FB (T:List FEnt):=aI (xs:=Fy) Fx (bG T (sb [1,2,2,1,0,2,1,2,2] Lt))
noncomputable def l93_1 (T:List FEnt):=af (FB T)
noncomputable def zV (F64:rF)(a0 a1 a2 a3:Int)(a4:List Y7):Option ((Int×Int×Int×Int×dc)⊕IF):=
cond (decide (a0 < a3)) (
an (aZ a3 a4.length) (
an (ah .i64 (a3-1)) (
an (aZ (a3-1) a4.length) (
(F64 ((ix a4 a3),(ix a4 (a3-1)))).bind fun r1=>(
cond (decide (r1 < 0)) (
an (ah .i64 (a3-1)) (
an (ah .i64 (a3-1)) (
an (aZ (a3-1) a4.length) (
an (aZ a3 a4.length) (
an (aZ a3 a4.length) (
an (aZ (a3-1) (List.length (List.set a4 a3.toNat (ix a4 (a3-1))))) (
an (ah .i64 (a3-1)) (
some (Sum.inl (a0,a1,a2,(a3-1),(List.set (List.set a4 a3.toNat (ix a4 (a3-1))) (Int.toNat (a3-1)) (ix a4 a3)))))))))))) (
some (Sum.inr (a0,a1,a2,a4)))))))) (
some (Sum.inr (a0,a1,a2,a4)))
theorem Lu (F64:rF):FB (C2 F64)=u5 (zV F64):=funext fun _=>by kernel_rfl
noncomputable def FC:=zV P64
noncomputable def zW:M1:=af (u5 FC)
theorem Lv:l93_1 (C2 P64)=zW:=congrArg af (Lu P64)
noncomputable def FD (T:List FEnt):=aI (xs:=FA) Fz (bG T (sb [1,2,2] Lt))
noncomputable def l93_0 (T:List FEnt):=af (FD T)
noncomputable def zX (F64:rF)(l93_1:M1)(a0 a1 a2:Int)(a3:List Y7):Option (IF⊕dc):=
cond (decide (a2 < a1)) (
(l93_1 (a0,a1,a2,a2,a3)).bind fun y2=>(
an (ah .i64 (y2.2.2.1+1)) (
some (Sum.inl (y2.1,y2.2.1,(y2.2.2.1+1),y2.2.2.2))))) (
some (Sum.inr a3))
theorem Lw (F64:rF):FD (C2 F64)=u4 (zX F64 (l93_1 (C2 F64))):=funext fun _=>by kernel_rfl
noncomputable def FE:=zX P64 zW
noncomputable def zY:wZ:=af (u4 FE)
theorem Lx:l93_0 (C2 P64)=zY:=congrArg af ((Lw P64).trans (by rw[Lv] <;> rfl))
theorem Rj:L.Fn Try.prog 93 53 [] (erase Lt):=oA Try.func93
def C3:FSh:=⟨⟨[(.slc 0),(.v y3),(.v y3),(.fn 64 [])],sg⟩,[y3,y3,eP],1,⟨⟨Bi,sg⟩,[eP],[0],1⟩,false⟩
noncomputable def Rk (F64:rF)(l93_0:wZ)(a0 a1:Int)(a2:List Y7):Option dc:=
an (ah .i64 (a0+1)) (
(l93_0 (a0,a1,(a0+1),a2)).bind fun y3=>(
some y3))
theorem Wu (F64:rF):aX (C2 F64) C3 [] Lt=u3 (Rk F64 (l93_0 (C2 F64))):=funext fun _=>by kernel_rfl
noncomputable def Tv:=Rk P64 zY
noncomputable def vo:rG:=u3 Tv
theorem Wv:aX (C2 P64) C3 [] Lt=vo:=(Wu P64).trans (by rw[Lx] <;> rfl)
theorem Ww:DC Try.prog 93 C3 vo:=dD Wv Wt Rj
noncomputable def C4 (F93:rG):List FEnt:=[⟨93,C3,F93⟩]
theorem Wx:aq Try.prog (C4 vo):=dK ai Ww
def FF:LSh:=⟨[0,1,2,3,4,10,11,12],⟨j1,sg⟩,[y3,y3,y3,.bool,.bool,y3,eP],1,[0]⟩
def FG:List XSh:=[⟨.normal,[0,1,2,3,4,10,11,12],⟨⟨j1,sg⟩,[y3,y3,y3,.bool,.bool,y3,eP],[0],1⟩⟩]
def FH:LSh:=⟨[0,1,2,3,4,10,11],⟨[(.slc 0),(.v y3),(.v y3),(.v y3),(.fn 64 []),(.v .bool),(.v .bool)],sg⟩,[y3,y3,y3,.bool,.bool,eP],1,[0]⟩
def FI:List XSh:=[⟨.ret,[],⟨⟨[],sg⟩,[eP],[0],1⟩⟩]
noncomputable def Ly:=cN Try.prog [] Try.f89 (.s .n (.s .n (.b (.l FH FI (.b (.s .n (.s .n (.s .n (.s (.o FF FG .n) .n)))))))))
noncomputable def l89_1 (T:List FEnt):=mM (xs:=FG) FF (bG T (sb [1,1,2,2,2,1,1,1,0,2] Ly))
noncomputable def FJ (F93:rG)(a0 a1 a2:Int)(a3 a4:Bool)(a5:Int)(a6:List Y7):Option MY:=
cond (!a3) (
none) (
some (a0,a1,a2,a3,a4,a5,a6))
theorem Lz (F93:rG):l89_1 (C4 F93)=u7 (FJ F93):=funext fun _=>by kernel_rfl
noncomputable def LA:=FJ vo
noncomputable def FK:M2:=fun x=>LA x.1 x.2.1 x.2.2.1 x.2.2.2.1 x.2.2.2.2.1 x.2.2.2.2.2.1 x.2.2.2.2.2.2
theorem LB:l89_1 (C4 vo)=FK:=Lz vo
noncomputable def FL (T:List FEnt):=aI (xs:=FI) FH (bG T (sb [1,1,2,2] Ly))
noncomputable def l89_0 (T:List FEnt):=af (FL T)
noncomputable def zZ (F93:rG)(l89_1:M2)(a0 a1 a2:Int)(a3 a4:Bool)(a5:List Y7):Option ((Int×Int×Int×Bool×Bool×dc)⊕dc):=
an (ah .i64 (a1-a0)) (
cond (decide ((a1-a0)≤12)) (
(F93 (a0,a1,a5)).bind fun r1=>(
some (Sum.inr r1))) (
cond (decide (a2=0)) (
none) (
(l89_1 (a0,a1,a2,a3,a4,(a1-a0),a5)).bind fun y2=>(
none))))
theorem LC (F93:rG):FL (C4 F93)=u6 (zZ F93 (l89_1 (C4 F93))):=funext fun _=>by kernel_rfl
noncomputable def z0:=zZ vo FK
noncomputable def vq:MX:=af (u6 z0)
theorem LD:l89_0 (C4 vo)=vq:=congrArg af ((LC vo).trans (by rw[LB] <;> rfl))
theorem Rl:L.Fn Try.prog 89 148 [] (erase Ly):=oA Try.func89
def C5:FSh:=⟨⟨[(.slc 0),(.v y3),(.v y3),(.v y3),(.fn 64 [])],sg⟩,[y3,y3,y3,eP],1,⟨⟨Bi,sg⟩,[eP],[0],1⟩,false⟩
noncomputable def Rm (F93:rG)(l89_0:MX)(a0 a1 a2:Int)(a3:List Y7):Option dc:=
(l89_0 (a0,a1,a2,true,true,a3)).bind fun y3=>(
some y3)
theorem Wy (F93:rG):aX (C4 F93) C5 [] Ly=u4 (Rm F93 (l89_0 (C4 F93))):=funext fun _=>by kernel_rfl
noncomputable def Rn:=Rm vo vq
noncomputable def P89:wZ:=u4 Rn
theorem Wz:aX (C4 vo) C5 [] Ly=P89:=(Wy vo).trans (by rw[LD] <;> rfl)
theorem WA:DC Try.prog 89 C5 P89:=dD Wz Wx Rl
noncomputable def Ro (F90:rD)(F89:wZ):List FEnt:=[⟨90,C0,F90⟩,⟨89,C5,F89⟩]
theorem WB:aq Try.prog (Ro P90 P89):=dK (dK ai WA) Wn
noncomputable def Rp:=cN Try.prog [] Try.f83 .n
theorem Rq:L.Fn Try.prog 83 14 [] (erase Rp):=oA Try.func83
def C6:FSh:=⟨⟨[(.slc 0),(.fn 64 [])],sg⟩,[eP],1,⟨⟨Bi,sg⟩,[eP],[0],1⟩,false⟩
noncomputable def Rr (F90:rD)(F89:wZ)(a0:List Y7):Option dc:=
an (ah .u64 (↑a0.length:Int)) (
(F90 (↑a0.length:Int)).bind fun r1=>(
(F89 (0,(↑a0.length:Int),r1,a0)).bind fun r2=>(
some r2)))
theorem g83 (F90:rD)(F89:wZ)(a0:List Y7):aX (Ro F90 F89) C6 [] Rp a0=Rr F90 F89 a0:=by kernel_rfl
noncomputable def Tw:=Rr P90 P89
noncomputable def P83:gu:=fun x=>Tw x
theorem WC:aX (Ro P90 P89) C6 [] Rp=P83:=funext fun x=>(g83 P90 P89 x)
theorem WD:DC Try.prog 83 C6 P83:=dD WC WB Rq
noncomputable def Rs (F82:gu)(F83:gu):List FEnt:=[⟨82,CY,F82⟩,⟨83,C6,F83⟩]
theorem WE:aq Try.prog (Rs P82 P83):=dK (dK ai WD) Wj
noncomputable def Rt:=cN Try.prog [] Try.f62 .n
theorem Ru:L.Fn Try.prog 62 12 [(.t 4)] (erase Rt):=oA Try.func62
def C7:FSh:=⟨⟨[(.fn 84 Jz),(.fn 64 [])],[(0,(.boxT eP))]⟩,[eP],1,⟨⟨Eb,sg⟩,[eP],[],1⟩,false⟩
noncomputable def Oq (F82 F83:gu)(a0:List Y7):Option dc:=
(F82 a0).bind fun r1=>(
(F83 r1).bind fun r2=>(
some r2))
theorem g62 (F82 F83:gu)(a0:List Y7):aX (Rs F82 F83) C7 [(.t 4)] Rt a0=Oq F82 F83 a0:=by kernel_rfl
noncomputable def WG:=Oq P82 P83
noncomputable def qn:gu:=fun x=>WG x
theorem WH:aX (Rs P82 P83) C7 [(.t 4)] Rt=qn:=funext fun x=>(g62 P82 P83 x)
theorem WI:DC Try.prog 62 C7 qn:=dD WH WE Ru
end Go.Proofs.Ytfknkinmnecoeaa.D
