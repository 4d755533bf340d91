import Derived.Test.YtjoncejabdjekaaGYo
import Derived.Test.YtjoncejabdjekaaProg
set_option linter.unusedVariables false
set_option maxRecDepth 100000
namespace Go.Proofs.Ytjoncejabdjekaa.D
open Go Go.Proofs Go.Proofs.Ytjoncejabdjekaa.L
def z6:List Ty:=[bX,bC,iR,bg]
def z4:List Ty:=[y12,bX,bC,iR,bg]
def z8:List Ty:=[aB,bX]
def KY:List RSh:=[(.slc 0),(.slc 1)]
def jP:List RSh:=[(.v .bool)]
def oj:List RSh:=[(.v y12)]
def Gc:List RSh:=[(.ptr 0 0)]
def j9:List RSh:=[(.ptr 0 0),(.v bC),(.v y12),(.v y12)]
def A7:List RSh:=[(.st aB)]
def LI:List RSh:=[(.tup [(.v y12),(.v y12)])]
def A8:List RSh:=[(.st aB),(.v bX)]
def KZ:List RSh:=[(.tup [(.slc 0),(.v y12),(.v y12)])]
def mW:List (Nat×OSh):=[(0,(.boxT aB))]
def k8:List (Nat×OSh):=[(0,(.box [(.v bX),(.v bC),(.mp 1),(.slc 2)])),(1,(.imap 2 false y12)),(2,(.row 3 y12))]
def k9:List (Nat×OSh):=[(0,(.box [(.v bX),(.v bC),(.mp 2),(.slc 1)])),(1,(.row 3 y12)),(2,(.imap 2 false y12))]
def k6:List (Nat×OSh):=[(0,(.box [(.v bX),(.v bC),(.mp 2),(.slc 3)])),(1,(.boxT fX)),(2,(.imap 2 false y12)),(3,(.row 3 y12))]
def LJ:List (Nat×OSh):=[(0,(.boxT aB)),(1,(.imap 0 true fX))]
def k1:List (Nat×OSh):=[(0,(.boxT aB)),(1,(.box [(.v bX),(.v bC),(.mp 3),(.slc 4)])),(2,(.imap 2 false y12)),(3,(.imap 2 false y12)),(4,(.row 3 y12))]
def Gd:List (Nat×OSh):=[(0,(.row 3 y12))]
theorem LK:Try.prog.follows .mixedOrders=true:=by kernel_rfl
theorem oA {f:FuncId}{fn:Func}(hf:Try.prog.funcs[f]?=some fn){cs:List (Nat×RCh)}{n:Nat}{rs:List Res}{H:HT}(h:(F3 Try.prog cs fn).map (fun x=>(x.1,x.2.1))=some (n,rs):=by kernel_rfl)(e:Nat.beq f YB=false:=by rfl):L.Fn Try.prog f n rs (erase (ef Try.prog cs fn H)):=Fn.ofA LK hf cs H h e
noncomputable def LL:List FEnt:=[]
theorem Pu:aw Try.prog LL:=am
noncomputable def LM:=ef Try.prog [] Try.f31 (.s .n (.s (.r [.a 3 true fX,.a 10 true lk]) (.s (.r [.a 5 true fX]) .n)))
theorem LN:L.Fn Try.prog 31 21 [(.cell 0 true 2),(.t 1)] (erase LM):=oA Try.func31
def zS:FSh:=⟨⟨[],[]⟩,[],0,⟨⟨[(.tup [(.agg KY),(.slc 2)])],[(0,(.row 43 fX)),(1,(.row 50 lk)),(2,(.row 53 fX))]⟩,[bX,bC,bX],[],3⟩,true⟩
noncomputable def Ox:Option Ol:=
some (([(1,(2,1)),(1,(5,2)),(3,(2,1))]:List Y1),([(40,(2,(2,(2,(0,9))))),(41,(2,(0,(9,(0,2))))),(42,(1,(5,(9,(0,9)))))]:List Y2),([(1,(0,40)),(2,(0,40)),(3,(1,40)),(4,(2,41))]:List Y1))
theorem g31:bH LL zS [(.cell 0 true 2),(.t 1)] LM ()=Ox:=by kernel_rfl
noncomputable def Pv:Option Ol:=Ox
noncomputable def P31:Lu:=fun x=>Pv
theorem Pw:bH LL zS [(.cell 0 true 2),(.t 1)] LM=P31:=funext fun x=>(g31)
theorem Px:DC Try.prog 31 zS P31:=dD Pw Pu LN
noncomputable def LO:List FEnt:=[]
theorem Py:aw Try.prog LO:=am
noncomputable def LP:=ef Try.prog [] Try.f32 .n
theorem LQ:L.Fn Try.prog 32 15 [(.t 6)] (erase LP):=oA Try.func32
def px:FSh:=⟨⟨[(.v y12),(.v y12),(.v y12)],[]⟩,[y12,y12,y12],0,⟨⟨jP,[]⟩,[.bool],[],0⟩,true⟩
noncomputable def Oy (a0 a1 a2:Int):Option Bool:=
cond (decide (a1≤a0)) (
some (decide (a0≤a2))) (
some false)
theorem Pz:bH LO px [(.t 6)] LP=u3 Oy:=funext fun _=>by kernel_rfl
noncomputable def PA:=Oy
noncomputable def P32:Y7:=u3 PA
theorem PB:bH LO px [(.t 6)] LP=P32:=Pz
theorem Ge:DC Try.prog 32 px P32:=dD PB Py LQ
noncomputable def LR:List FEnt:=[]
theorem PC:aw Try.prog LR:=am
noncomputable def LS:=ef Try.prog [] Try.f34 .n
theorem LT:L.Fn Try.prog 34 9 [(.t 3)] (erase LS):=oA Try.func34
def zT:FSh:=⟨⟨[(.st lk),(.elm lk)],[]⟩,[lk,lk],0,⟨⟨jP,[]⟩,[.bool],[],0⟩,true⟩
noncomputable def Oz (a0 a1:Y2):Option Bool:=
some (decide (a0.1=a1.1))
theorem PD:bH LR zT [(.t 3)] LS=u2 Oz:=funext fun _=>by kernel_rfl
noncomputable def PE:=Oz
noncomputable def yx:Y8:=u2 PE
theorem PF:bH LR zT [(.t 3)] LS=yx:=PD
theorem PG:DC Try.prog 34 zT yx:=dD PF PC LT
noncomputable def Gf (F34:Y8):List FEnt:=[⟨34,zT,F34⟩]
theorem PH:aw Try.prog (Gf yx):=dK am PG
def A9:LSh:=⟨[0,1,7,8],⟨[(.v bC),(.fn 34 [(.elm lk)]),(.v y12),(.v y12)],[]⟩,[bC,lk,y12,y12],0,[]⟩
def s6:List XSh:=[⟨.ret,[4],⟨⟨oj,[]⟩,[y12],[],0⟩⟩,⟨(.exit 0),[],⟨⟨[],[]⟩,[],[],0⟩⟩]
noncomputable def K0:=ef Try.prog [] Try.f56 (.s .n (.s (.s .n (.b (.l A9 s6 .n))) .n))
noncomputable def Ba (T:List FEnt):=aN (xs:=s6) A9 (bW T (sb [1,0,1,2,2] K0))
noncomputable def l56_0 (T:List FEnt):=aa (Ba T)
noncomputable def ta (F34:Y8)(a0:List Y2)(a1:Y2)(a2 a3:Int):Option ((aT×Y2×Int×Int)⊕Y3):=
cond (decide (a3 < a2)) (
au (aZ a3 a0.length) (
(F34 ((ix a0 a3),a1)).bind fun r1=>(
cond r1 (
some (Sum.inr (Sum.inl a3))) (
au (aq .i64 (a3+1)) (
some (Sum.inl (a0,a1,a2,(a3+1)))))))) (
some (Sum.inr (Sum.inr ())))
theorem G7 (F34:Y8):Ba (Gf F34)=u4 (ta F34):=funext fun _=>by kernel_rfl
noncomputable def qC:=ta yx
noncomputable def tb:Pb:=aa (u4 qC)
theorem G8:l56_0 (Gf yx)=tb:=congrArg aa (G7 yx)
theorem LU:L.Fn Try.prog 56 19 [(.t 4)] (erase K0):=oA Try.func56
def zU:FSh:=⟨⟨[(.v bC),(.fn 34 [(.elm lk)])],[]⟩,[bC,lk],0,⟨⟨oj,[]⟩,[y12],[],0⟩,true⟩
noncomputable def K1 (F34:Y8)(l56_0:Pb)(a0:List Y2)(a1:Y2):Option Int:=
(l56_0 (a0,a1,(↑a0.length:Int),0)).bind (fun y2=>Sum.elim (fun y3=>(
some y3)) (fun y4=>(
some (-1))) y2)
theorem PI (F34:Y8):bH (Gf F34) zU [(.t 4)] K0=u2 (K1 F34 (l56_0 (Gf F34))):=funext fun _=>by kernel_rfl
noncomputable def LV:=K1 yx tb
noncomputable def Bb:Lq:=u2 LV
theorem PJ:bH (Gf yx) zU [(.t 4)] K0=Bb:=(PI yx).trans (by rw[G8] <;> rfl)
theorem PK:DC Try.prog 56 zU Bb:=dD PJ PH LU
noncomputable def LW (F56:Lq):List FEnt:=[⟨56,zU,F56⟩]
theorem PL:aw Try.prog (LW Bb):=dK am PK
noncomputable def LX:=ef Try.prog [] Try.f33 .n
theorem LY:L.Fn Try.prog 33 9 [(.t 4)] (erase LX):=oA Try.func33
def zV:FSh:=⟨⟨[(.v bC),(.fn 34 [(.elm lk)])],[]⟩,[bC,lk],0,⟨⟨jP,[]⟩,[.bool],[],0⟩,true⟩
noncomputable def K2 (F56:Lq)(a0:List Y2)(a1:Y2):Option Bool:=
(F56 (a0,a1)).bind fun r1=>(
some (decide (0≤r1)))
theorem PM (F56:Lq):bH (LW F56) zV [(.t 4)] LX=u2 (K2 F56):=funext fun _=>by kernel_rfl
noncomputable def LZ:=K2 Bb
noncomputable def P33:DR:=u2 LZ
theorem PN:bH (LW Bb) zV [(.t 4)] LX=P33:=PM Bb
theorem PO:DC Try.prog 33 zV P33:=dD PN PL LY
noncomputable def Ma (F32:Y7):List FEnt:=[⟨32,px,F32⟩]
theorem PP:aw Try.prog (Ma P32):=dK am Ge
noncomputable def Mb:=ef Try.prog [] Try.f35 .n
theorem Mc:L.Fn Try.prog 35 26 [(.t 6)] (erase Mb):=oA Try.func35
def zW:FSh:=⟨⟨[(.st Ok),(.v y12),(.v y12)],[]⟩,[Ok,y12,y12],0,⟨⟨jP,[]⟩,[.bool],[],0⟩,true⟩
noncomputable def Md (F32:Y7)(a0:Int×Int)(a1 a2:Int):Option Bool:=
cond (decide (a0.1≤a0.2)) (
(F32 (a0.1,a1,a2)).bind fun r1=>(
cond r1 (
(F32 (a0.2,a1,a2)).bind fun r2=>(
some r2)) (
some false))) (
some false)
theorem PQ (F32:Y7):bH (Ma F32) zW [(.t 6)] Mb=u3 (Md F32):=funext fun _=>by kernel_rfl
noncomputable def OA:=Md P32
noncomputable def P35:Y9:=u3 OA
theorem PR:bH (Ma P32) zW [(.t 6)] Mb=P35:=PQ P32
theorem PS:DC Try.prog 35 zW P35:=dD PR PP Mc
noncomputable def zX (F32:Y7)(F33:DR)(F35:Y9):List FEnt:=[⟨32,px,F32⟩,⟨33,zV,F33⟩,⟨35,zW,F35⟩]
theorem PT:aw Try.prog (zX P32 P33 P35):=dK (dK (dK am PS) PO) Ge
def Bc:LSh:=⟨[1,19,20,21],⟨[(.ptr 0 0),(.v bX),(.v y12),(.v y12)],mW⟩,[bX,y12,y12,aB],1,[0]⟩
def tc:List XSh:=[⟨.ret,[2],⟨⟨oj,mW⟩,[y12,aB],[0],1⟩⟩,⟨(.exit 0),[1],⟨⟨Gc,mW⟩,[aB],[0],1⟩⟩]
def Be:LSh:=⟨[1,43,44,45],⟨j9,mW⟩,[bC,y12,y12,aB],1,[0]⟩
def td:List XSh:=[⟨.ret,[2],⟨⟨oj,mW⟩,[y12,aB],[0],1⟩⟩,⟨(.exit 2),[],⟨⟨[],mW⟩,[aB],[0],1⟩⟩]
noncomputable def G9:=ef Try.prog [] Try.f11 (.s .n (.s .n (.s (.s .n (.b (.l Bc tc .n))) (.s (.s .n (.b (.l Be td .n))) .n))))
noncomputable def Bf (T:List FEnt):=aN (xs:=tc) Bc (bW T (sb [1,1,0,1,2,2] G9))
noncomputable def l11_0 (T:List FEnt):=aa (Bf T)
noncomputable def te (F32:Y7)(F33:DR)(F35:Y9)(a0:List Y1)(a1 a2:Int)(a3:aK×aT):Option ((aK×Int×Int×aK×aT)⊕DS):=
cond (decide (a2 < a1)) (
au (aZ a2 a0.length) (
(F32 ((ix a0 a2).1,0,99)).bind fun r1=>(
cond (!r1) (
some (Sum.inr (Sum.inl (70,a3)))) (
(F32 ((ix a0 a2).2.1,0,9)).bind fun r2=>(
cond (!r2) (
some (Sum.inr (Sum.inl (70,a3)))) (
(F32 ((ix a0 a2).2.2,0,6)).bind fun r3=>(
cond (!r3) (
some (Sum.inr (Sum.inl (70,a3)))) (
au (aq .i64 (a2+1)) (
some (Sum.inl (a0,a1,(a2+1),a3))))))))))) (
some (Sum.inr (Sum.inr a3)))
theorem Ha (F32:Y7)(F33:DR)(F35:Y9):Bf (zX F32 F33 F35)=u4 (te F32 F33 F35):=funext fun _=>by kernel_rfl
noncomputable def wP:=te P32 P33 P35
noncomputable def wQ:Pm:=aa (u4 wP)
theorem v11_0:l11_0 (zX P32 P33 P35)=wQ:=congrArg aa (Ha P32 P33 P35)
noncomputable def Bg (T:List FEnt):=aN (xs:=td) Be (bW T (sb [1,1,1,0,1,2,2] G9))
noncomputable def l11_1 (T:List FEnt):=aa (Bg T)
noncomputable def tf (F32:Y7)(F33:DR)(F35:Y9)(a0:List Y2)(a1 a2:Int)(a3:aK×aT):Option ((aT×Int×Int×aK×aT)⊕DS):=
cond (decide (a2 < a1)) (
au (aZ a2 a0.length) (
au (decide ((0:Int)≤0)) (
au (decide (0≤a2)) (
au (decide (a2≤(↑a3.2.length:Int))) (
(F33 ((rB a3.2 0 a2),(ix a0 a2))).bind fun r7=>(
cond r7 (
some (Sum.inr (Sum.inl (70,a3)))) (
(F32 ((ix a0 a2).1,0,99)).bind fun r8=>(
cond (!r8) (
some (Sum.inr (Sum.inl (70,a3)))) (
(F32 ((ix a0 a2).2.1,0,8)).bind fun r9=>(
cond (!r9) (
some (Sum.inr (Sum.inl (70,a3)))) (
(F35 (((ix a0 a2).2.2.1,(ix a0 a2).2.2.2.1),0,9)).bind fun r10=>(
cond (!r10) (
some (Sum.inr (Sum.inl (70,a3)))) (
(F35 ((ix a0 a2).2.2.2.2,0,99)).bind fun r11=>(
cond (!r11) (
some (Sum.inr (Sum.inl (70,a3)))) (
au (aq .i64 (a2+1)) (
some (Sum.inl (a0,a1,(a2+1),a3)))))))))))))))))) (
some (Sum.inr (Sum.inr a3)))
theorem Hb (F32:Y7)(F33:DR)(F35:Y9):Bg (zX F32 F33 F35)=u4 (tf F32 F33 F35):=funext fun _=>by kernel_rfl
noncomputable def wR:=tf P32 P33 P35
noncomputable def wS:Pn:=aa (u4 wR)
theorem v11_1:l11_1 (zX P32 P33 P35)=wS:=congrArg aa (Hb P32 P33 P35)
theorem Me:L.Fn Try.prog 11 85 [(.t 2)] (erase G9):=oA Try.func11
def rS:FSh:=⟨⟨A7,[]⟩,[aB],0,⟨⟨oj,[]⟩,[y12],[],0⟩,true⟩
noncomputable def Hc (F32:Y7)(F33:DR)(F35:Y9)(l11_0:Pm)(l11_1:Pn)(a0:aK×aT):Option Int:=
cond (decide (8 < (↑a0.1.length:Int))) (
some 70) (
cond (decide (6 < (↑a0.2.length:Int))) (
some 70) (
(l11_0 (a0.1,(↑a0.1.length:Int),0,a0)).bind (fun y4=>Sum.elim (fun y5=>(
some y5.1)) (fun y6=>(
(l11_1 (y6.2,(↑y6.2.length:Int),0,y6)).bind (fun y12=>Sum.elim (fun y13=>(
some y13.1)) (fun y14=>(
some 0)) y12))) y4)))
theorem g11 (F32:Y7)(F33:DR)(F35:Y9)(a0:aK×aT):bH (zX F32 F33 F35) rS [(.t 2)] G9 a0=Hc F32 F33 F35 (l11_0 (zX F32 F33 F35)) (l11_1 (zX F32 F33 F35)) a0:=by kernel_rfl
noncomputable def K3:=Hc P32 P33 P35 wQ wS
noncomputable def P11:fP:=fun x=>K3 x
theorem PU:bH (zX P32 P33 P35) rS [(.t 2)] G9=P11:=funext fun x=>(g11 P32 P33 P35 x).trans (by rw[v11_0,v11_1] <;> rfl)
theorem K4:DC Try.prog 11 rS P11:=dD PU PT Me
noncomputable def Gg:List FEnt:=[]
theorem PV:aw Try.prog Gg:=am
def Bh:LSh:=⟨[3,11,12,13],⟨j9,k8⟩,[bC,y12,y12,bX,bC,iR,bg],3,[0,1]⟩
def Bi:List XSh:=[⟨(.exit 0),[3],⟨⟨Gc,k8⟩,z6,[0,1],3⟩⟩]
noncomputable def K5:=ef Try.prog [] Try.f37 (.s .n (.s (.r [.a 1 false y12]) (.s (.s .n (.b (.l Bh Bi (.s .n (.s .n (.s (.b (.s .n (.r [.a 7 false y12,.a 8 false y12]))) .n)))))) .n)))
noncomputable def Bj (T:List FEnt):=aN (xs:=Bi) Bh (bW T (sb [1,1,0,1,2,2] K5))
noncomputable def l37_0 (T:List FEnt):=aa (Bj T)
noncomputable def tg (a0:List Y2)(a1 a2:Int)(a3:List Y1)(a4:List Y2)(a5:List Y5)(a6:List Int):Option ((aT×Int×Int×aK×aT×fW×Y6)⊕JE):=
cond (decide (a2 < a1)) (
au (aZ a2 a0.length) (
au (bN 8 (List.length a6+List.length ([(ix a0 a2).2.1]:List Int))) (
au (aq .i64 (a2+1)) (
some (Sum.inl (a0,a1,(a2+1),a3,a4,a5,(a6++([(ix a0 a2).2.1]:List Int)))))))) (
some (Sum.inr (a3,a4,a5,a6)))
theorem Hd:Bj Gg=u7 tg:=funext fun _=>by kernel_rfl
noncomputable def wT:=tg
noncomputable def wU:Pf:=aa (u7 wT)
theorem v37_0:l37_0 Gg=wU:=congrArg aa Hd
theorem Mf:L.Fn Try.prog 37 30 [(.t 2)] (erase K5):=oA Try.func37
def uW:FSh:=⟨⟨A7,[]⟩,[aB],0,⟨⟨Gc,k8⟩,z6,[],3⟩,false⟩
noncomputable def Mg (l37_0:Pf)(a0:aK×aT):Option JE:=
(l37_0 (a0.2,(↑a0.2.length:Int),0,a0.1,a0.2,([]:List Y5),([]:List Int))).bind fun y1=>(
some (y1.1,y1.2.1,y1.2.2.1,y1.2.2.2))
theorem g37 (a0:aK×aT):bH Gg uW [(.t 2)] K5 a0=Mg (l37_0 Gg) a0:=by kernel_rfl
noncomputable def OB:=Mg wU
noncomputable def P37:pG:=fun x=>OB x
theorem PW:bH Gg uW [(.t 2)] K5=P37:=funext fun x=>(g37 x).trans (by rw[v37_0] <;> rfl)
theorem Mh:DC Try.prog 37 uW P37:=dD PW PV Mf
noncomputable def Mi:List FEnt:=[]
theorem PX:aw Try.prog Mi:=am
noncomputable def Mj:=ef Try.prog [] Try.f52 .n
theorem Ml:L.Fn Try.prog 52 10 [(.t 4)] (erase Mj):=oA Try.func52
def zY:FSh:=⟨⟨[(.v y13),(.v y12)],[]⟩,[y13,y12],0,⟨⟨jP,[]⟩,[.bool],[],0⟩,true⟩
noncomputable def Mm (a0 a1:Int):Option Bool:=
au (decide (0≤a1)) (
some (decide ((vI .u64 (G3 .u64 a0 a1) 1)=1)))
theorem PY:bH Mi zY [(.t 4)] Mj=u2 Mm:=funext fun _=>by kernel_rfl
noncomputable def OC:=Mm
noncomputable def qD:yE:=u2 OC
theorem PZ:bH Mi zY [(.t 4)] Mj=qD:=PY
theorem P0:DC Try.prog 52 zY qD:=dD PZ PX Ml
noncomputable def Mn (F32:Y7):List FEnt:=[⟨32,px,F32⟩]
theorem P1:aw Try.prog (Mn P32):=dK am Ge
noncomputable def Mo:=ef Try.prog [(1,{ch:=[0,0,0,0,1,0,0,1,0,0,0,0,1,0,0,1,0,0,0,0],rs:=[0] })] Try.f57 .n
theorem Mp:L.Fn Try.prog 57 54 [(.t 6)] (erase Mo):=oA Try.func57
def uX:FSh:=⟨⟨[(.ptr 0 0),(.v y12),(.v y12)],k8⟩,[y12,y12,bX,bC,iR,bg],3,⟨⟨jP,k8⟩,[.bool,bX,bC,iR,bg],[0,1,2],3⟩,false⟩
noncomputable def Mq (F32:Y7)(a0 a1:Int)(a2:List Y1)(a3:List Y2)(a4:List Y5)(a5:List Int):Option GD:=
au (aZ a0 a3.length) (
au (aZ a1 a2.length) (
(F32 ((ix a2 a1).2.1,(ix a3 a0).2.2.1,(ix a3 a0).2.2.2.1)).bind fun r1=>(
cond r1 (
(F32 ((ix a2 a1).1,(ix a3 a0).2.2.2.2.1,(ix a3 a0).2.2.2.2.2)).bind fun r2=>(
cond r2 (
some (decide ((fp (aU a4 [a0,a1]) 0)=0),a2,a3,a4,a5)) (
some (false,a2,a3,a4,a5)))) (
some (false,a2,a3,a4,a5)))))
theorem P2 (F32:Y7):bH (Mn F32) uX [(.t 6)] Mo=u6 (Mq F32):=funext fun _=>by kernel_rfl
noncomputable def OD:=Mq P32
noncomputable def hU:nl:=u6 OD
theorem P7:bH (Mn P32) uX [(.t 6)] Mo=hU:=P2 P32
theorem Mr:DC Try.prog 57 uX hU:=dD P7 P1 Mp
noncomputable def vt (F52:yE)(F57:nl):List FEnt:=[⟨52,zY,F52⟩,⟨57,uX,F57⟩]
theorem P8:aw Try.prog (vt qD hU):=dK (dK am Mr) P0
def Bk:LSh:=⟨[0,1,4,14,15,16],⟨[(.ptr 0 0),(.v y13),(.v y12),(.slc 1),(.v y12),(.v y12)],k9⟩,[y13,y12,y12,y12,bX,bC,bg,iR],3,[0,1,2]⟩
def Bl:List XSh:=[⟨(.exit 0),[0,1,4],⟨⟨[(.ptr 0 0),(.v y13),(.v y12)],k9⟩,[y13,y12,bX,bC,bg,iR],[0,1,2],3⟩⟩]
def Bm:LSh:=⟨[0,1,4,7,8,9,33,34,35,45,46],⟨[(.ptr 0 0),(.v y13),(.v y12),(.v y12),(.ptr 1 0),(.v y12),(.v bX),(.v y12),(.v y12),(.v y12),(.v y12)],k6⟩,[y13,y12,y12,y12,bX,y12,y12,y12,y12,bX,bC,fX,iR,bg],4,[0,1,2,3]⟩
def Bn:List XSh:=[⟨(.exit 4),[0,1,4,8,9,33,34,35],⟨⟨[(.ptr 0 0),(.v y13),(.v y12),(.ptr 1 0),(.v y12),(.v bX),(.v y12),(.v y12)],k6⟩,[y13,y12,y12,bX,y12,y12,bX,bC,fX,iR,bg],[0,1,2,3],4⟩⟩]
def Bo:LSh:=⟨[0,1,4,33,34,35],⟨[(.ptr 0 0),(.v y13),(.v y12),(.v bX),(.v y12),(.v y12)],k8⟩,[y13,y12,bX,y12,y12,bX,bC,iR,bg],3,[0,1,2]⟩
def Bp:List XSh:=[⟨(.exit 2),[4],⟨⟨oj,k8⟩,z4,[0,1,2],3⟩⟩]
noncomputable def Gh:=ef Try.prog [] Try.f59 (.s .n (.s (.s .n (.b (.l Bk Bl .n))) (.s (.s .n (.b (.l Bo Bp (.s .n (.s .n (.s (.b (.s .n (.s .n (.s (.s .n (.b (.l Bm Bn .n))) .n)))) .n)))))) .n)))
noncomputable def Bq (T:List FEnt):=aN (xs:=Bl) Bk (bW T (sb [1,0,1,2,2] Gh))
noncomputable def l59_0 (T:List FEnt):=aa (Bq T)
noncomputable def th (F52:yE)(F57:nl)(a0 a1 a2 a3:Int)(a4:List Y1)(a5:List Y2)(a6:List Int)(a7:List Y5):Option ((Int×Int×Int×Int×aK×aT×Y6×fW)⊕Pd):=
cond (decide (a3 < a2)) (
au (aZ a3 a6.length) (
(F52 (a0,a3)).bind fun r1=>(
cond (!r1) (
au (aq .i64 (a1+(ix a6 a3))) (
au (aq .i64 (a3+1)) (
some (Sum.inl (a0,(a1+(ix a6 a3)),a2,(a3+1),a4,a5,a6,a7))))) (
au (aq .i64 (a3+1)) (
some (Sum.inl (a0,a1,a2,(a3+1),a4,a5,a6,a7))))))) (
some (Sum.inr (a0,a1,a4,a5,a6,a7)))
theorem He (F52:yE)(F57:nl):Bq (vt F52 F57)=u8 (th F52 F57):=funext fun _=>by kernel_rfl
noncomputable def wV:=th qD hU
noncomputable def wW:Pg:=aa (u8 wV)
theorem Hf:l59_0 (vt qD hU)=wW:=congrArg aa (He qD hU)
noncomputable def Br (T:List FEnt):=aN (xs:=Bn) Bm (bW T (sb [1,1,0,1,2,2,1,1,0,2,1,1,0,1,2,2] Gh))
noncomputable def l59_2 (T:List FEnt):=aa (Br T)
noncomputable def ti (F52:yE)(F57:nl)(a0 a1 a2 a3:Int)(a4:List Y1)(a5 a6 a7 a8:Int)(a9:List Y1)(a10:List Y2)(a11:Y1)(a12:List Y5)(a13:List Int):Option ((Int×Int×Int×Int×aK×Int×Int×Int×Int×aK×aT×Y1×fW×Y6)⊕Pc):=
cond (decide (a8 < a7)) (
(F52 (a0,a8)).bind fun r3=>(
cond r3 (
(F57 (a8,a2,a9,a10,a12,a13)).bind fun r4=>(
cond r4.1 (
au (aq .i64 (a3+1)) (
au (aq .i64 (a8+1)) (
some (Sum.inl (a0,a1,a2,(a3+1),a4,a5,a6,a7,(a8+1),r4.2.1,r4.2.2.1,a11,r4.2.2.2.1,r4.2.2.2.2))))) (
au (aq .i64 (a8+1)) (
some (Sum.inl (a0,a1,a2,a3,a4,a5,a6,a7,(a8+1),r4.2.1,r4.2.2.1,a11,r4.2.2.2.1,r4.2.2.2.2)))))) (
au (aq .i64 (a8+1)) (
some (Sum.inl (a0,a1,a2,a3,a4,a5,a6,a7,(a8+1),a9,a10,a11,a12,a13)))))) (
some (Sum.inr (a0,a1,a3,a4,a5,a6,a9,a10,a11,a12,a13)))
theorem Hg (F52:yE)(F57:nl):Br (vt F52 F57)=Lv (ti F52 F57):=funext fun _=>by kernel_rfl
noncomputable def wX:=ti qD hU
noncomputable def wY:Ph:=aa (Lv wX)
theorem Hh:l59_2 (vt qD hU)=wY:=congrArg aa (Hg qD hU)
noncomputable def Bs (T:List FEnt):=aN (xs:=Bp) Bo (bW T (sb [1,1,0,1,2,2] Gh))
noncomputable def l59_1 (T:List FEnt):=aa (Bs T)
noncomputable def tj (F52:yE)(F57:nl)(l59_2:Ph)(a0 a1:Int)(a2:List Y1)(a3 a4:Int)(a5:List Y1)(a6:List Y2)(a7:List Y5)(a8:List Int):Option ((Int×Int×aK×Int×Int×aK×aT×fW×Y6)⊕GE):=
cond (decide (a4 < a3)) (
au (aZ a4 a2.length) (
(l59_2 (a0,a1,a4,0,a2,a3,a4,(↑a6.length:Int),0,a5,a6,(ix a2 a4),a7,a8)).bind fun y5=>(
au (aq .i64 (y5.2.1+(min y5.2.2.2.2.2.2.2.2.1.2.2 y5.2.2.1))) (
au (aq .i64 (y5.2.2.2.2.2.1+1)) (
some (Sum.inl (y5.1,(y5.2.1+(min y5.2.2.2.2.2.2.2.2.1.2.2 y5.2.2.1)),y5.2.2.2.1,y5.2.2.2.2.1,(y5.2.2.2.2.2.1+1),y5.2.2.2.2.2.2.1,y5.2.2.2.2.2.2.2.1,y5.2.2.2.2.2.2.2.2.2.1,y5.2.2.2.2.2.2.2.2.2.2))))))) (
some (Sum.inr (a1,a5,a6,a7,a8)))
theorem Hi (F52:yE)(F57:nl):Bs (vt F52 F57)=u9 (tj F52 F57 (l59_2 (vt F52 F57))):=funext fun _=>by kernel_rfl
noncomputable def wZ:=tj qD hU wY
noncomputable def qE:Pj:=aa (u9 wZ)
theorem Hj:l59_1 (vt qD hU)=qE:=congrArg aa ((Hi qD hU).trans (by rw[Hh] <;> rfl))
theorem Ms:L.Fn Try.prog 59 69 [(.t 4)] (erase Gh):=oA Try.func59
def zZ:FSh:=⟨⟨[(.ptr 0 0),(.v y13)],k8⟩,[y13,bX,bC,iR,bg],3,⟨⟨oj,k8⟩,z4,[0,1,2],3⟩,false⟩
noncomputable def Mu (F52:yE)(F57:nl)(l59_0:Pg)(l59_1:Pj)(a0:Int)(a1:List Y1)(a2:List Y2)(a3:List Y5)(a4:List Int):Option GE:=
(l59_0 (a0,0,(↑a4.length:Int),0,a1,a2,a4,a3)).bind fun y2=>(
(l59_1 (y2.1,y2.2.1,y2.2.2.1,(↑y2.2.2.1.length:Int),0,y2.2.2.1,y2.2.2.2.1,y2.2.2.2.2.2,y2.2.2.2.2.1)).bind fun y6=>(
some (y6.1,y6.2.1,y6.2.2.1,y6.2.2.2.1,y6.2.2.2.2)))
theorem Qa (F52:yE)(F57:nl):bH (vt F52 F57) zZ [(.t 4)] Gh=u5 (Mu F52 F57 (l59_0 (vt F52 F57)) (l59_1 (vt F52 F57))):=funext fun _=>by kernel_rfl
noncomputable def OE:=Mu qD hU wW qE
noncomputable def w6:GG:=u5 OE
theorem Qb:bH (vt qD hU) zZ [(.t 4)] Gh=w6:=(Qa qD hU).trans (by rw[Hf,Hj] <;> rfl)
theorem Qc:DC Try.prog 59 zZ w6:=dD Qb P8 Ms
noncomputable def Gi (F59:GG):List FEnt:=[⟨59,zZ,F59⟩]
theorem Qd:aw Try.prog (Gi w6):=dK am Qc
def Bt:LSh:=⟨[0,2,3,14,15],⟨[(.ptr 0 0),(.v y13),(.v y12),(.v y13),(.v y13)],k8⟩,[y13,y12,y13,y13,bX,bC,iR,bg],3,[0,1,2]⟩
def Bu:List XSh:=[⟨(.exit 0),[2,3],⟨⟨[(.v y13),(.v y12)],k8⟩,[y13,y12,bX,bC,iR,bg],[0,1,2],3⟩⟩]
noncomputable def K6:=ef Try.prog [] Try.f45 (.s .n (.s .n (.s (.s .n (.b (.l Bt Bu .n))) .n)))
noncomputable def Bv (T:List FEnt):=aN (xs:=Bu) Bt (bW T (sb [1,1,0,1,2,2] K6))
noncomputable def l45_0 (T:List FEnt):=aa (Bv T)
noncomputable def tm (F59:GG)(a0 a1 a2 a3:Int)(a4:List Y1)(a5:List Y2)(a6:List Y5)(a7:List Int):Option ((Int×Int×Int×Int×aK×aT×fW×Y6)⊕Ls):=
cond (decide (a3 < a2)) (
(F59 (a3,a4,a5,a6,a7)).bind fun r2=>(
cond (decide (r2.1 < a1)) (
au (aq .u64 (a3+1)) (
some (Sum.inl (a3,r2.1,a2,(a3+1),r2.2.1,r2.2.2.1,r2.2.2.2.1,r2.2.2.2.2)))) (
au (aq .u64 (a3+1)) (
some (Sum.inl (a0,a1,a2,(a3+1),r2.2.1,r2.2.2.1,r2.2.2.2.1,r2.2.2.2.2)))))) (
some (Sum.inr (a0,a1,a4,a5,a6,a7)))
theorem Hk (F59:GG):Bv (Gi F59)=u8 (tm F59):=funext fun _=>by kernel_rfl
noncomputable def w7:=tm w6
noncomputable def xa:Pk:=aa (u8 w7)
theorem Hl:l45_0 (Gi w6)=xa:=congrArg aa (Hk w6)
theorem Mw:L.Fn Try.prog 45 29 [(.t 2),(.t 3)] (erase K6):=oA Try.func45
def xb:FSh:=⟨⟨Gc,k8⟩,z6,3,⟨⟨[(.tup [(.v y13),(.v y12)])],k8⟩,[y13,y12,bX,bC,iR,bg],[0,1,2],3⟩,false⟩
noncomputable def Mx (F59:GG)(l45_0:Pk)(a0:List Y1)(a1:List Y2)(a2:List Y5)(a3:List Int):Option Ls:=
(F59 (0,a0,a1,a2,a3)).bind fun r1=>(
au (decide (0≤(↑r1.2.2.1.length:Int))) (
(l45_0 (0,r1.1,(G2 .u64 1 (↑r1.2.2.1.length:Int)),0,r1.2.1,r1.2.2.1,r1.2.2.2.1,r1.2.2.2.2)).bind fun y3=>(
some (y3.1,y3.2.1,y3.2.2.1,y3.2.2.2.1,y3.2.2.2.2.1,y3.2.2.2.2.2))))
theorem Qe (F59:GG):bH (Gi F59) xb [(.t 2),(.t 3)] K6=u4 (Mx F59 (l45_0 (Gi F59))):=funext fun _=>by kernel_rfl
noncomputable def OF:=Mx w6 xa
noncomputable def P45:Ax:=u4 OF
theorem Qf:bH (Gi w6) xb [(.t 2),(.t 3)] K6=P45:=(Qe w6).trans (by rw[Hl] <;> rfl)
theorem OG:DC Try.prog 45 xb P45:=dD Qf Qd Mw
noncomputable def My (F11:fP)(F37:pG)(F45:Ax):List FEnt:=[⟨11,rS,F11⟩,⟨37,uW,F37⟩,⟨45,xb,F45⟩]
theorem Qg:aw Try.prog (My P11 P37 P45):=dK (dK (dK am OG) Mh) K4
noncomputable def Mz:=ef Try.prog [] Try.f22 .n
theorem MA:L.Fn Try.prog 22 19 [(.t 2),(.t 3)] (erase Mz):=oA Try.func22
def uY:FSh:=⟨⟨A7,[]⟩,[aB],0,⟨⟨LI,[]⟩,[y12,y12],[],0⟩,true⟩
noncomputable def OH (F11:fP)(F37:pG)(F45:Ax)(a0:aK×aT):Option Y4:=
(F11 a0).bind fun r1=>(
cond (!decide (r1=0)) (
some (0,r1)) (
(F37 a0).bind fun r2=>(
(F45 (r2.1,r2.2.1,r2.2.2.1,r2.2.2.2)).bind fun r3=>(
some (r3.2.1,0)))))
theorem g22 (F11:fP)(F37:pG)(F45:Ax)(a0:aK×aT):bH (My F11 F37 F45) uY [(.t 2),(.t 3)] Mz a0=OH F11 F37 F45 a0:=by kernel_rfl
noncomputable def Qh:=OH P11 P37 P45
noncomputable def P22:lj:=fun x=>Qh x
theorem Qi:bH (My P11 P37 P45) uY [(.t 2),(.t 3)] Mz=P22:=funext fun x=>(g22 P11 P37 P45 x)
theorem MB:DC Try.prog 22 uY P22:=dD Qi Qg MA
noncomputable def Gj (F11:fP)(F32:Y7):List FEnt:=[⟨11,rS,F11⟩,⟨32,px,F32⟩]
theorem Qj:aw Try.prog (Gj P11 P32):=dK (dK am Ge) K4
def Bw:LSh:=⟨[2,6,20,21,22],⟨[(.ptr 0 0),(.mp 1),(.v bX),(.v y12),(.v y12)],LJ⟩,[bX,y12,y12,aB,Om],2,[0,1]⟩
def Bx:List XSh:=[⟨.ret,[4],⟨⟨oj,LJ⟩,[y12,aB,Om],[0,1],2⟩⟩,⟨(.exit 0),[],⟨⟨[],LJ⟩,[aB,Om],[0,1],2⟩⟩]
noncomputable def K7:=ef Try.prog [] Try.f40 (.s .n (.s .n (.s .n (.s (.r [.a 0 true fX]) (.s (.s .n (.b (.l Bw Bx .n))) .n)))))
noncomputable def By (T:List FEnt):=aN (xs:=Bx) Bw (bW T (sb [1,1,1,1,0,1,2,2] K7))
noncomputable def l40_0 (T:List FEnt):=aa (By T)
noncomputable def ol (F11:fP)(F32:Y7)(a0:List Y1)(a1 a2:Int)(a3:aK×aT)(a4:List Oj):Option ((aK×Int×Int×cf×Lt)⊕Pq):=
cond (decide (a2 < a1)) (
au (aZ a2 a0.length) (
cond (Option.isSome (aU a4 [(ix a0 a2).1])) (
cond (!((decide ((fp (aU a4 [(ix a0 a2).1]) (0,(0,0))).1=(ix a0 a2).1)&&decide ((fp (aU a4 [(ix a0 a2).1]) (0,(0,0))).2.1=(ix a0 a2).2.1))&&decide ((fp (aU a4 [(ix a0 a2).1]) (0,(0,0))).2.2=(ix a0 a2).2.2))) (
some (Sum.inr (Sum.inl (72,a3,a4)))) (
(F32 ((ix a0 a2).1,0,99)).bind fun r2=>(
cond (!r2) (
some (Sum.inr (Sum.inl (72,a3,a4)))) (
(F32 ((ix a0 a2).2.2,0,99)).bind fun r3=>(
cond (!r3) (
some (Sum.inr (Sum.inl (72,a3,a4)))) (
au (aq .i64 ((↑a3.1.length:Int)-1)) (
(F32 ((ix a0 a2).2.1,0,((↑a3.1.length:Int)-1))).bind fun r4=>(
cond (!r4) (
some (Sum.inr (Sum.inl (72,a3,a4)))) (
au (aq .i64 (a2+1)) (
some (Sum.inl (a0,a1,(a2+1),a3,(cI a4 [(ix a0 a2).1] (ix a0 a2)))))))))))))) (
(F32 ((ix a0 a2).1,0,99)).bind fun r5=>(
cond (!r5) (
some (Sum.inr (Sum.inl (72,a3,a4)))) (
(F32 ((ix a0 a2).2.2,0,99)).bind fun r6=>(
cond (!r6) (
some (Sum.inr (Sum.inl (72,a3,a4)))) (
au (aq .i64 ((↑a3.1.length:Int)-1)) (
(F32 ((ix a0 a2).2.1,0,((↑a3.1.length:Int)-1))).bind fun r7=>(
cond (!r7) (
some (Sum.inr (Sum.inl (72,a3,a4)))) (
au (aq .i64 (a2+1)) (
some (Sum.inl (a0,a1,(a2+1),a3,(cI a4 [(ix a0 a2).1] (ix a0 a2))))))))))))))) (
some (Sum.inr (Sum.inr (a3,a4))))
theorem Hm (F11:fP)(F32:Y7):By (Gj F11 F32)=u5 (ol F11 F32):=funext fun _=>by kernel_rfl
noncomputable def qF:=ol P11 P32
noncomputable def L40_0:Pr:=aa (u5 qF)
theorem Hn:l40_0 (Gj P11 P32)=L40_0:=congrArg aa (Hm P11 P32)
theorem MC:L.Fn Try.prog 40 66 [(.t 4)] (erase K7):=oA Try.func40
def xd:FSh:=⟨⟨A8,[]⟩,z8,0,⟨⟨oj,[]⟩,[y12],[],0⟩,true⟩
noncomputable def Ho (F11:fP)(F32:Y7)(l40_0:Pr)(a0:aK×aT)(a1:List Y1):Option Int:=
(F11 a0).bind fun r1=>(
cond (!decide (r1=0)) (
some r1) (
cond (decide (30 < (↑a1.length:Int))) (
some 72) (
(l40_0 (a1,(↑a1.length:Int),0,a0,([]:List Oj))).bind (fun y8=>Sum.elim (fun y9=>(
some y9.1)) (fun y10=>(
some 0)) y8))))
theorem Qk (F11:fP)(F32:Y7):bH (Gj F11 F32) xd [(.t 4)] K7=u2 (Ho F11 F32 (l40_0 (Gj F11 F32))):=funext fun _=>by kernel_rfl
noncomputable def K8:=Ho P11 P32 L40_0
noncomputable def nk:jl:=u2 K8
theorem Ql:bH (Gj P11 P32) xd [(.t 4)] K7=nk:=(Qk P11 P32).trans (by rw[Hn] <;> rfl)
theorem OI:DC Try.prog 40 xd nk:=dD Ql Qj MC
noncomputable def MD:List FEnt:=[]
theorem Qm:aw Try.prog MD:=am
noncomputable def ME:=ef Try.prog [] Try.f58 .n
theorem MF:L.Fn Try.prog 58 9 [(.t 3)] (erase ME):=oA Try.func58
def z0:FSh:=⟨⟨[(.st lk),(.elm fX)],[]⟩,[lk,fX],0,⟨⟨jP,[]⟩,[.bool],[],0⟩,true⟩
noncomputable def MG (a0:Y2)(a1:Y1):Option Bool:=
some (decide (a0.1=a1.2.2))
theorem Qn:bH MD z0 [(.t 3)] ME=u2 MG:=funext fun _=>by kernel_rfl
noncomputable def OJ:=MG
noncomputable def yz:jo:=u2 OJ
theorem Qo:bH MD z0 [(.t 3)] ME=yz:=Qn
theorem Qp:DC Try.prog 58 z0 yz:=dD Qo Qm MF
noncomputable def om (F58:jo):List FEnt:=[⟨58,z0,F58⟩]
theorem Hp:aw Try.prog (om yz):=dK am Qp
def tn:LSh:=⟨[0,1,7,8],⟨[(.v bC),(.fn 58 [(.elm fX)]),(.v y12),(.v y12)],[]⟩,[bC,fX,y12,y12],0,[]⟩
noncomputable def tp:=ef Try.prog [] Try.f56 (.s .n (.s (.s .n (.b (.l tn s6 .n))) .n))
noncomputable def tq (T:List FEnt):=aN (xs:=s6) tn (bW T (sb [1,0,1,2,2] tp))
noncomputable def l56v1_0 (T:List FEnt):=aa (tq T)
noncomputable def lT (F58:jo)(a0:List Y2)(a1:Y1)(a2 a3:Int):Option ((aT×Y1×Int×Int)⊕Y3):=
cond (decide (a3 < a2)) (
au (aZ a3 a0.length) (
(F58 ((ix a0 a3),a1)).bind fun r1=>(
cond r1 (
some (Sum.inr (Sum.inl a3))) (
au (aq .i64 (a3+1)) (
some (Sum.inl (a0,a1,a2,(a3+1)))))))) (
some (Sum.inr (Sum.inr ())))
theorem z9 (F58:jo):tq (om F58)=u4 (lT F58):=funext fun _=>by kernel_rfl
noncomputable def jQ:=lT yz
noncomputable def lU:Pe:=aa (u4 jQ)
theorem Aa:l56v1_0 (om yz)=lU:=congrArg aa (z9 yz)
theorem Fp:L.Fn Try.prog 56 19 [(.t 4)] (erase tp):=oA Try.func56
def py:FSh:=⟨⟨[(.v bC),(.fn 58 [(.elm fX)])],[]⟩,[bC,fX],0,⟨⟨oj,[]⟩,[y12],[],0⟩,true⟩
noncomputable def tr (F58:jo)(l56v1_0:Pe)(a0:List Y2)(a1:Y1):Option Int:=
(l56v1_0 (a0,a1,(↑a0.length:Int),0)).bind (fun y2=>Sum.elim (fun y3=>(
some y3)) (fun y4=>(
some (-1))) y2)
theorem Hq (F58:jo):bH (om F58) py [(.t 4)] tp=u2 (tr F58 (l56v1_0 (om F58))):=funext fun _=>by kernel_rfl
noncomputable def xe:=tr yz lU
noncomputable def fO:GF:=u2 xe
theorem Hr:bH (om yz) py [(.t 4)] tp=fO:=(Hq yz).trans (by rw[Aa] <;> rfl)
theorem Hs:DC Try.prog 56 py fO:=dD Hr Hp Fp
noncomputable def Gk (F37:pG)(F56v1:GF)(F57:nl):List FEnt:=[⟨37,uW,F37⟩,⟨56,py,F56v1⟩,⟨57,uX,F57⟩]
theorem Qq:aw Try.prog (Gk P37 fO hU):=dK (dK (dK am Mr) Hs) Mh
def Bz:LSh:=⟨[2,4,5,6,13,14,15],⟨[(.ptr 0 0),(.ptr 1 0),(.v y12),(.mp 2),(.v bX),(.v y12),(.v y12)],k1⟩,[y12,bX,y12,y12,aB,bX,bC,iR,iR,bg],5,[0,1,2,3,4]⟩
def BA:List XSh:=[⟨(.exit 0),[4,5],⟨⟨[(.ptr 1 0),(.v y12)],k1⟩,[y12,aB,bX,bC,iR,iR,bg],[0,1,2,3,4],5⟩⟩]
noncomputable def K9:=ef Try.prog [] Try.f41 (.s .n (.s .n (.s (.r [.a 0 false y12]) (.s (.s .n (.b (.l Bz BA .n))) .n))))
noncomputable def BB (T:List FEnt):=aN (xs:=BA) Bz (bW T (sb [1,1,1,0,1,2,2] K9))
noncomputable def l41_0 (T:List FEnt):=aa (BB T)
noncomputable def lh (F37:pG)(F56v1:GF)(F57:nl)(a0:Int)(a1:List Y1)(a2 a3:Int)(a4:aK×aT)(a5:List Y1)(a6:List Y2)(a7 a8:List Y5)(a9:List Int):Option ((Int×aK×Int×Int×cf×aK×aT×fW×fW×Y6)⊕Pl):=
cond (decide (a3 < a2)) (
au (aZ a3 a1.length) (
au (aq .i64 ((fp (aU a7 [(ix a1 a3).2.2,(ix a1 a3).2.1]) 0)+1)) (
cond (decide (1 < (fp (aU (cI a7 [(ix a1 a3).2.2,(ix a1 a3).2.1] ((fp (aU a7 [(ix a1 a3).2.2,(ix a1 a3).2.1]) 0)+1)) [(ix a1 a3).2.2,(ix a1 a3).2.1]) 0))) (
au (aq .i64 (a3+1)) (
some (Sum.inl (a0,a1,a2,(a3+1),a4,a5,a6,(cI a7 [(ix a1 a3).2.2,(ix a1 a3).2.1] ((fp (aU a7 [(ix a1 a3).2.2,(ix a1 a3).2.1]) 0)+1)),a8,a9)))) (
(F56v1 (a4.2,(ix a1 a3))).bind fun r2=>(
cond (decide (r2 < 0)) (
au (aq .i64 (a0+1)) (
au (aq .i64 (a3+1)) (
some (Sum.inl ((a0+1),a1,a2,(a3+1),a4,a5,a6,(cI a7 [(ix a1 a3).2.2,(ix a1 a3).2.1] ((fp (aU a7 [(ix a1 a3).2.2,(ix a1 a3).2.1]) 0)+1)),a8,a9))))) (
(F57 (r2,(ix a1 a3).2.1,a5,a6,a8,a9)).bind fun r3=>(
cond (!r3.1) (
au (aq .i64 (a0+1)) (
au (aq .i64 (a3+1)) (
some (Sum.inl ((a0+1),a1,a2,(a3+1),a4,r3.2.1,r3.2.2.1,(cI a7 [(ix a1 a3).2.2,(ix a1 a3).2.1] ((fp (aU a7 [(ix a1 a3).2.2,(ix a1 a3).2.1]) 0)+1)),r3.2.2.2.1,r3.2.2.2.2))))) (
au (aZ r2 r3.2.2.2.2.length) (
cond (decide ((ix r3.2.2.2.2 r2)=0)) (
au (aq .i64 (a0+1)) (
au (aq .i64 ((fp (aU r3.2.2.2.1 [r2,(ix a1 a3).2.1]) 0)+1)) (
au (aq .i64 (a3+1)) (
some (Sum.inl ((a0+1),a1,a2,(a3+1),a4,r3.2.1,r3.2.2.1,(cI a7 [(ix a1 a3).2.2,(ix a1 a3).2.1] ((fp (aU a7 [(ix a1 a3).2.2,(ix a1 a3).2.1]) 0)+1)),(cI r3.2.2.2.1 [r2,(ix a1 a3).2.1] ((fp (aU r3.2.2.2.1 [r2,(ix a1 a3).2.1]) 0)+1)),r3.2.2.2.2)))))) (
au (aZ r2 r3.2.2.2.2.length) (
au (aq .i64 ((ix r3.2.2.2.2 r2)-1)) (
au (aZ r2 r3.2.2.2.2.length) (
au (aq .i64 ((fp (aU r3.2.2.2.1 [r2,(ix a1 a3).2.1]) 0)+1)) (
au (aq .i64 (a3+1)) (
some (Sum.inl (a0,a1,a2,(a3+1),a4,r3.2.1,r3.2.2.1,(cI a7 [(ix a1 a3).2.2,(ix a1 a3).2.1] ((fp (aU a7 [(ix a1 a3).2.2,(ix a1 a3).2.1]) 0)+1)),(cI r3.2.2.2.1 [r2,(ix a1 a3).2.1] ((fp (aU r3.2.2.2.1 [r2,(ix a1 a3).2.1]) 0)+1)),(List.set r3.2.2.2.2 r2.toNat ((ix r3.2.2.2.2 r2)-1))))))))))))))))))) (
some (Sum.inr (a0,a4,a5,a6,a7,a8,a9)))
theorem Ht (F37:pG)(F56v1:GF)(F57:nl):BB (Gk F37 F56v1 F57)=yF (lh F37 F56v1 F57):=funext fun _=>by kernel_rfl
noncomputable def jR:=lh P37 fO hU
noncomputable def xf:Po:=aa (yF jR)
theorem Hu:l41_0 (Gk P37 fO hU)=xf:=congrArg aa (Ht P37 fO hU)
theorem MH:L.Fn Try.prog 41 89 [(.t 4),(.t 5)] (erase K9):=oA Try.func41
def xg:FSh:=⟨⟨A8,[]⟩,z8,0,⟨⟨[(.tup [(.ptr 0 0),(.v y12)])],k8⟩,z4,[],3⟩,false⟩
noncomputable def MI (F37:pG)(F56v1:GF)(F57:nl)(l41_0:Po)(a0:aK×aT)(a1:List Y1):Option GE:=
(F37 a0).bind fun r1=>(
(l41_0 (0,a1,(↑a1.length:Int),0,a0,r1.1,r1.2.1,([]:List Y5),r1.2.2.1,r1.2.2.2)).bind fun y4=>(
some (y4.1,y4.2.2.1,y4.2.2.2.1,y4.2.2.2.2.2.1,y4.2.2.2.2.2.2)))
theorem Qr (F37:pG)(F56v1:GF)(F57:nl):bH (Gk F37 F56v1 F57) xg [(.t 4),(.t 5)] K9=u2 (MI F37 F56v1 F57 (l41_0 (Gk F37 F56v1 F57))):=funext fun _=>by kernel_rfl
noncomputable def OK:=MI P37 fO hU xf
noncomputable def P41:Ay:=u2 OK
theorem Qs:bH (Gk P37 fO hU) xg [(.t 4),(.t 5)] K9=P41:=(Qr P37 fO hU).trans (by rw[Hu] <;> rfl)
theorem OL:DC Try.prog 41 xg P41:=dD Qs Qq MH
noncomputable def MJ (F40:jl)(F41:Ay):List FEnt:=[⟨40,xd,F40⟩,⟨41,xg,F41⟩]
theorem Qt:aw Try.prog (MJ nk P41):=dK (dK am OL) OI
noncomputable def MK:=ef Try.prog [] Try.f17 .n
theorem ML:L.Fn Try.prog 17 26 [(.t 4),(.t 5),(.t 6)] (erase MK):=oA Try.func17
def uZ:FSh:=⟨⟨A8,[]⟩,z8,0,⟨⟨KZ,Gd⟩,[y12,y12,bg],[],1⟩,true⟩
noncomputable def Fq (F40:jl)(F41:Ay)(a0:aK×aT)(a1:List Y1):Option GC:=
(F40 (a0,a1)).bind fun r1=>(
cond (!decide (r1=0)) (
some (0,r1,([]:List Int))) (
(F41 (a0,a1)).bind fun r2=>(
some (r2.1,0,r2.2.2.2.2))))
theorem Qu (F40:jl)(F41:Ay):bH (MJ F40 F41) uZ [(.t 4),(.t 5),(.t 6)] MK=u2 (Fq F40 F41):=funext fun _=>by kernel_rfl
noncomputable def OM:=Fq nk P41
noncomputable def P17:oD:=u2 OM
theorem Qv:bH (MJ nk P41) uZ [(.t 4),(.t 5),(.t 6)] MK=P17:=Qu nk P41
theorem MM:DC Try.prog 17 uZ P17:=dD Qv Qt ML
end Go.Proofs.Ytjoncejabdjekaa.D
