import Derived.Test.YtjoncejabdjekaaG1t
import Derived.Test.YtjoncejabdjekaaProg
set_option linter.unusedVariables false
set_option maxRecDepth 100000
namespace Go.Proofs.Ytjoncejabdjekaa.D
open Go Go.Proofs Go.Proofs.Ytjoncejabdjekaa.L
def z2:List Ty:=[y11,y11,y11,aW,aH,bM,aH,aH,aH]
def z5:List Ty:=[y11,y11,y11,y11,aH]
def j4:List RSh:=[(.slc 0),(.v y11),(.slr 1),(.ptr 2 0),(.slc 3),(.v y11),(.v y11)]
def j1:List RSh:=[(.slc 0),(.v y11),(.slr 1),(.ptr 2 0),(.slc 3),(.v y11),(.slc 4),(.slc 5),(.v y11)]
def VL:List RSh:=[(.slc 0),(.v y11),(.v y11)]
def s4:List (Nat×OSh):=[(0,(.rows 28 3 y11))]
def Tr:List (Nat×OSh):=[(0,(.rows 28 3 y11)),(1,(.boxT bM)),(2,(.row 28 aW))]
def Kx:List (Nat×OSh):=[(0,(.row 28 aW)),(1,(.row 3 y11))]
def Ms:List (Nat×OSh):=[(0,(.row 28 aW))]
def PX:List (Nat×OSh):=[(0,(.row 3 y11)),(1,(.rows 28 3 y11)),(2,(.boxT bM)),(3,(.row 28 aW))]
def k4:List (Nat×OSh):=[(0,(.row 3 y11)),(1,(.rows 28 3 y11)),(2,(.boxT bM)),(3,(.row 28 aW)),(4,(.row 28 aW)),(5,(.row 28 aW)),(6,(.row 3 y11))]
def k6:List (Nat×OSh):=[(0,(.row 3 y11)),(1,(.rows 28 3 y11)),(2,(.boxT bM)),(3,(.row 28 aW)),(4,(.row 28 aW)),(5,(.row 28 aW))]
noncomputable def Ky:List FEnt:=[]
theorem VM:ay Try.prog Ky:=an
def F5:LSh:=⟨[1,3,4],⟨[(.ptr 0 0),(.slr 1),(.v y11)],[(0,(.boxT bM)),(1,(.rows 28 3 y11))]⟩,[y11,bM,aH],2,[0]⟩
def F6:List XSh:=[⟨(.exit 0),[3],⟨⟨[(.slr 1)],[(0,(.boxT bM)),(1,(.rows 28 3 y11))]⟩,[bM,aH],[0],2⟩⟩]
noncomputable def PY:=dv Try.prog [] Try.f49 (.s .n (.s .n (.s (.s .n (.b (.l F5 F6 (.s .n (.s (.b (.r [.a 4 false y11,.a 5 true aW,.a 6 true aW])) .n))))) .n)))
noncomputable def F7 (T:List FEnt):=aK (xs:=F6) F5 (b6 T (sb [1,1,0,1,2,2] PY))
noncomputable def l49_0 (T:List FEnt):=af (F7 T)
noncomputable def pB (a0:Int)(a1:aO×aT)(a2:List Y6):Option ((Int×dA×aB)⊕Oy):=
cond (decide (a0 < (↑a1.1.length:Int))) (
aA (decide (0≤(↑a1.2.length:Int))) (
aA (decide (8*(↑a1.2.length:Int)≤140737488355328)) (
aA (cf 24 (List.length a2+List.length ([(cP (Int.toNat (↑a1.2.length:Int)) 0:List Int)]:List Y6))) (
aA (aw .i64 (a0+1)) (
some (Sum.inl ((a0+1),a1,(a2++([(cP (Int.toNat (↑a1.2.length:Int)) 0:List Int)]:List Y6))))))))) (
some (Sum.inr (a1,a2)))
theorem Mu:F7 Ky=u3 pB:=funext fun _=>by kernel_rfl
noncomputable def F8:=pB
noncomputable def vP:OA:=af (u3 F8)
theorem v49_0:l49_0 Ky=vP:=congrArg af Mu
theorem RR:L.Fn Try.prog 49 20 [(.t 2)] (erase PY):=oA Try.func49
def Dn:FSh:=⟨⟨xS,[]⟩,[bM],0,⟨⟨[(.slr 0)],s4⟩,[aH],[],1⟩,false⟩
noncomputable def PZ (l49_0:OA)(a0:aO×aT):Option aB:=
(l49_0 (0,a0,([]:List Y6))).bind fun y1=>(
some y1.2)
theorem g49 (a0:aO×aT):bx Ky Dn [(.t 2)] PY a0=PZ (l49_0 Ky) a0:=by kernel_rfl
noncomputable def VN:=PZ vP
noncomputable def P49:Ed:=fun x=>VN x
theorem VO:bx Ky Dn [(.t 2)] PY=P49:=funext fun x=>(g49 x).trans (by rw[v49_0] <;> rfl)
theorem VP:DC Try.prog 49 Dn P49:=dD VO VM RR
noncomputable def RS (F36:Y7):List FEnt:=[⟨36,tY,F36⟩]
theorem VQ:ay Try.prog (RS P36):=dK an PB
noncomputable def RT:=dv Try.prog [] Try.f55 .n
theorem RU:L.Fn Try.prog 55 23 [(.t 4)] (erase RT):=oA Try.func55
def xX:FSh:=⟨⟨[(.st n5),(.st mf)],[]⟩,[n5,mf],0,⟨⟨ju,[]⟩,[.bool],[],0⟩,true⟩
noncomputable def RW (F36:Y7)(a0:Y2)(a1:Y1):Option Bool:=
(F36 (a1.2.1,a0.2.2.1,a0.2.2.2.1)).bind fun r1=>(
cond r1 (
(F36 (a1.1,a0.2.2.2.2.1,a0.2.2.2.2.2)).bind fun r2=>(
some r2)) (
some false))
theorem VR (F36:Y7):bx (RS F36) xX [(.t 4)] RT=u2 (RW F36):=funext fun _=>by kernel_rfl
noncomputable def Ts:=RW P36
noncomputable def P55:kU:=u2 Ts
theorem VS:bx (RS P36) xX [(.t 4)] RT=P55:=VR P36
theorem RX:DC Try.prog 55 xX P55:=dD VS VQ RU
def gQ:FSh:=⟨⟨[(.st bM),(.v y11),(.v y11),(.v y11),(.irow 0)],s4⟩,[bM,y11,y11,y11,y11,aH],1,⟨⟨[(.slc 1)],[(0,(.rows 28 3 y11)),(1,(.row 28 aW))]⟩,[aH,aH],[0],2⟩,false⟩
noncomputable def kL (F55:kU)(F60v1:dc):List FEnt:=[⟨55,xX,F55⟩,⟨60,gQ,F60v1⟩]
theorem Mw (F60v1:dc)(h:DC Try.prog 60 gQ F60v1):ay Try.prog (kL P55 F60v1):=(cj RX (by kernel_rfl) (cj h (by kernel_rfl) an))
def vQ:LSh:=⟨[1,3,4,5,11,12,13,14],⟨[(.v y11),(.v y11),(.irow 0),(.ptr 1 0),(.slc 2),(.v y11),(.slc 3),(.v y11)],[(0,(.rows 28 3 y11)),(1,(.boxT bM)),(2,(.row 28 aW)),(3,(.row 28 aW))]⟩,[y11,y11,y11,y11,y11,aH,bM,aH,aH],4,[0,1,3]⟩
def vR:List XSh:=[⟨(.exit 2),[1,3,4,5,11,12],⟨⟨[(.v y11),(.v y11),(.irow 0),(.ptr 1 0),(.slc 4),(.v y11)],[(0,(.rows 28 3 y11)),(1,(.boxT bM)),(3,(.row 28 aW)),(4,(.row 28 aW))]⟩,[y11,y11,y11,y11,aH,bM,aH,aH],[0,1,3],5⟩⟩]
def vS:LSh:=⟨[1,3,4,5,11,12],⟨[(.v y11),(.v y11),(.irow 0),(.ptr 1 0),(.slc 2),(.v y11)],Tr⟩,[y11,y11,y11,y11,aH,bM,aH],3,[0,1]⟩
def vT:List XSh:=[⟨(.exit 0),[11],⟨⟨[(.slc 2)],Tr⟩,[aH,bM,aH],[0,1],3⟩⟩]
noncomputable def sf:=dv Try.prog [] Try.f60 (.s .n (.s (.r [.a 0 false aW]) (.s (.s .n (.b (.l vS vT (.s .n (.s (.b (.s .n (.s .n (.s .n (.b (.l vQ vR (.s .n (.s (.b (.r [.a 2 false y11,.a 7 false y11,.f 8 68 [],.a 8 false aW,.a 9 false aW])) .n)))))))) .n))))) .n)))
noncomputable def vU (T:List FEnt):=aK (xs:=vR) vQ (b6 T (sb [1,1,0,1,2,2,1,0,2,1,1,1,2,2] sf))
noncomputable def l60v1_1 (T:List FEnt):=af (vU T)
noncomputable def iX (F55:kU)(F60v1:dc)(a0 a1 a2 a3 a4:Int)(a5:List Y6)(a6:aO×aT)(a7 a8:List Y6):Option ((Int×Int×Int×Int×Int×aB×dA×aB×aB)⊕Om):=
cond (decide (a4 < (↑a8.length:Int))) (
aA (aU a4 a8.length) (
aA (cf 8 (List.length ([a3]:List Int)+List.length (ix a8 a4))) (
aA (cf 24 (List.length a7+List.length ([(([a3]:List Int)++(ix a8 a4))]:List Y6))) (
aA (aw .i64 (a4+1)) (
some (Sum.inl (a0,a1,(↑a2.toNat:Int),a3,(a4+1),a5,a6,(a7++([(([a3]:List Int)++(ix a8 a4))]:List Y6)),a8))))))) (
some (Sum.inr (a0,a1,(↑a2.toNat:Int),a3,a5,a6,a8,a7)))
theorem Do (F55:kU)(F60v1:dc):vU (kL F55 F60v1)=u9 (iX F55 F60v1):=funext fun _=>by kernel_rfl
noncomputable def vV (F60v1:dc):=iX P55 F60v1
noncomputable def L60v1_1 (F60v1:dc):OB:=af (u9 (vV F60v1))
theorem Dp (F60v1:dc):l60v1_1 (kL P55 F60v1)=L60v1_1 F60v1:=congrArg af (Do P55 F60v1)
noncomputable def vW (T:List FEnt):=aK (xs:=vT) vS (b6 T (sb [1,1,0,1,2,2] sf))
noncomputable def l60v1_0 (T:List FEnt):=af (vW T)
noncomputable def q60v1_0 (F55:kU)(F60v1:dc)(l60v1_1:OB)(a0 a1 a2 a3:Int)(a4:List Y6)(a5:aO×aT)(a6:List Y6):Option ((Int×Int×Int×Int×aB×dA×aB)⊕On):=
cond (decide (a3 < (↑a5.2.length:Int))) (
cond (decide (0 < a1)) (
aA (aU a3 a5.2.length) (
aA (aU a0 a5.1.length) (
(F55 ((ix a5.2 a3),(ix a5.1 a0))).bind fun r1=>(
cond (!r1) (
aA (aw .i64 (a3+1)) (
some (Sum.inl (a0,a1,(↑a2.toNat:Int),(a3+1),a4,a5,a6)))) (
aA (aU a3 (List.length (ix a4 a2))) (
cond (decide ((ix (ix a4 a2) a3)=1)) (
aA (aw .i64 (a3+1)) (
some (Sum.inl (a0,a1,(↑a2.toNat:Int),(a3+1),a4,a5,a6)))) (
aA (aw .i64 (a3+1)) (
aA (aw .i64 (a1-1)) (
(F60v1 (a5,a0,(a3+1),(a1-1),(↑a2.toNat:Int),a4)).bind fun r2=>(
(l60v1_1 (a0,a1,(↑a2.toNat:Int),a3,0,r2.1,a5,a6,r2.2)).bind fun y3=>(
aA (aw .i64 (y3.2.2.2.1+1)) (
some (Sum.inl (y3.1,y3.2.1,(↑y3.2.2.1.toNat:Int),(y3.2.2.2.1+1),y3.2.2.2.2.1,y3.2.2.2.2.2.1,y3.2.2.2.2.2.2.2)))))))))))))) (
some (Sum.inr (a4,a5,a6)))) (
some (Sum.inr (a4,a5,a6)))
theorem Dq (F55:kU)(F60v1:dc):vW (kL F55 F60v1)=u7 (q60v1_0 F55 F60v1 (l60v1_1 (kL F55 F60v1))):=funext fun _=>by kernel_rfl
noncomputable def qM (F60v1:dc):=q60v1_0 P55 F60v1 (L60v1_1 F60v1)
noncomputable def kM (F60v1:dc):OC:=af (u7 (qM F60v1))
theorem Dr (F60v1:dc):l60v1_0 (kL P55 F60v1)=kM F60v1:=congrArg af ((Dq P55 F60v1).trans (by rw[Dp F60v1] <;> rfl))
theorem AB:L.Fn Try.prog 60 72 [(.t 10)] (erase sf):=oA Try.func60
noncomputable def vX (F55:kU)(F60v1:dc)(l60v1_0:OC)(a0:aO×aT)(a1 a2 a3 a4:Int)(a5:List Y6):Option JA:=
(l60v1_0 (a1,a3,(↑a4.toNat:Int),a2,a5,a0,([([]:List Int)]:List Y6))).bind fun y4=>(
some (y4.1,y4.2.2))
theorem Mx (F55:kU)(F60v1:dc):bx (kL F55 F60v1) gQ [(.t 10)] sf=u6 (vX F55 F60v1 (l60v1_0 (kL F55 F60v1))):=funext fun _=>by kernel_rfl
noncomputable def Ga (F60v1:dc):=vX P55 F60v1 (kM F60v1)
noncomputable def R60v1:Nat→dA×Int×Int×Int×Int×aB→Option JA
  | 0=>fun _=>none
  | n+1=>fun x=>Ga (R60v1 n) x.1 x.2.1 x.2.2.1 x.2.2.2.1 x.2.2.2.2.1 x.2.2.2.2.2
noncomputable def P60v1:dc:=R60v1 18446744073709551616
theorem My (F60v1:dc):bx (kL P55 F60v1) gQ [(.t 10)] sf=fun x=>Ga F60v1 x.1 x.2.1 x.2.2.1 x.2.2.2.1 x.2.2.2.2.1 x.2.2.2.2.2:=(Mx P55 F60v1).trans (by rw[Dr F60v1] <;> rfl)
theorem Gb:∀ n,DC Try.prog 60 gQ (R60v1 n)
  | 0=>qJ (er (sh:=gQ) an AB (by kernel_rfl)).1
  | n+1=>u0 (My (R60v1 n)) (er (sh:=gQ) (Mw (R60v1 n) (Gb n)) AB (by kernel_rfl))
theorem Mz:DC Try.prog 60 gQ P60v1:=Gb _
noncomputable def Ds:List FEnt:=[]
theorem VT:ay Try.prog Ds:=an
def Gc:LSh:=⟨[0,1,5,6,7],⟨[(.slc 0),(.slc 1),(.v y11),(.v .bool),(.v y11)],Kx⟩,[y11,.bool,y11,aH,aW],2,[0,1]⟩
def Gd:List XSh:=[⟨(.exit 2),[0,1,5,6],⟨⟨[(.slc 0),(.slc 1),(.v y11),(.v .bool)],Kx⟩,[y11,.bool,aH,aW],[0,1],2⟩⟩]
def Ge:LSh:=⟨[0,1,5],⟨[(.slc 0),(.slc 1),(.v y11)],Kx⟩,[y11,aH,aW],2,[0,1]⟩
def Gf:List XSh:=[⟨.ret,[4],⟨⟨[(.slc 0)],Kx⟩,[aH,aW],[0,1],2⟩⟩,⟨(.exit 0),[0,1],⟨⟨PA,Kx⟩,[aH,aW],[0,1],2⟩⟩]
noncomputable def MB:=dv Try.prog [] Try.f61 (.s .n (.s (.s .n (.b (.l Ge Gf (.s .n (.s (.b (.s .n (.s (.s .n (.b (.l Gc Gd .n))) .n))) .n))))) (.s (.r [.f 2 1 [],.a 2 false aW,.a 3 false aW]) .n)))
noncomputable def Gg (T:List FEnt):=aK (xs:=Gd) Gc (b6 T (sb [1,0,1,2,2,1,0,2,1,0,1,2,2] MB))
noncomputable def l61_1 (T:List FEnt):=af (Gg T)
noncomputable def pC (a0:Int)(a1:Bool)(a2:Int)(a3:List Y6)(a4:List Int):Option ((Int×Bool×Int×aB×Y6)⊕Og):=
cond (decide (a2 < (↑a4.length:Int))) (
cond a1 (
aA (aU a0 a3.length) (
aA (aU a2 (List.length (ix a3 a0))) (
aA (aU a2 a4.length) (
aA (aw .i64 (a2+1)) (
some (Sum.inl (a0,decide ((ix (ix a3 a0) a2)=(ix a4 a2)),(a2+1),a3,a4))))))) (
aA (aw .i64 (a2+1)) (
some (Sum.inl (a0,false,(a2+1),a3,a4))))) (
some (Sum.inr (a0,a1,a3,a4)))
theorem MC:Gg Ds=u5 pC:=funext fun _=>by kernel_rfl
noncomputable def Gh:=pC
noncomputable def sg:Oo:=af (u5 Gh)
theorem MD:l61_1 Ds=sg:=congrArg af MC
noncomputable def Gi (T:List FEnt):=aK (xs:=Gf) Ge (b6 T (sb [1,0,1,2,2] MB))
noncomputable def l61_0 (T:List FEnt):=af (Gi T)
noncomputable def pD (l61_1:Oo)(a0:Int)(a1:List Y6)(a2:List Int):Option ((Int×aB×Y6)⊕Oz):=
cond (decide (a0 < (↑a1.length:Int))) (
(l61_1 (a0,true,0,a1,a2)).bind fun y1=>(
cond y1.2.1 (
some (Sum.inr (Sum.inl (y1.2.2.1,y1.2.2.2)))) (
aA (aw .i64 (y1.1+1)) (
some (Sum.inl ((y1.1+1),y1.2.2.1,y1.2.2.2)))))) (
some (Sum.inr (Sum.inr (a1,a2))))
theorem g61_0:Gi Ds=u3 (pD (l61_1 Ds)):=funext fun _=>by kernel_rfl
noncomputable def Gj:=pD sg
noncomputable def pE:OD:=af (u3 Gj)
theorem ME:l61_0 Ds=pE:=congrArg af (g61_0.trans (by rw[MD] <;> rfl))
theorem RY:L.Fn Try.prog 61 41 [(.t 4)] (erase MB):=oA Try.func61
def Dt:FSh:=⟨⟨PA,Kx⟩,[aH,aW],2,⟨⟨[(.slc 0)],Ms⟩,[aH],[],2⟩,false⟩
noncomputable def Kz (l61_0:OD)(a0:List Y6)(a1:List Int):Option aB:=
(l61_0 (0,a0,a1)).bind (fun y2=>Sum.elim (fun y3=>(
some y3.1)) (fun y4=>(
aA (cf 24 (List.length y4.1+List.length ([y4.2]:List Y6))) (
some (y4.1++([y4.2]:List Y6))))) y2)
theorem g61:bx Ds Dt [(.t 4)] MB=u2 (Kz (l61_0 Ds)):=funext fun _=>by kernel_rfl
noncomputable def VU:=Kz pE
noncomputable def P61:gZ:=u2 VU
theorem VV:bx Ds Dt [(.t 4)] MB=P61:=g61.trans (by rw[ME] <;> rfl)
theorem VW:DC Try.prog 61 Dt P61:=dD VV VT RY
noncomputable def mQ (F60v1:dc)(F61:gZ):List FEnt:=[⟨60,gQ,F60v1⟩,⟨61,Dt,F61⟩]
theorem VX:ay Try.prog (mQ P60v1 P61):=dK (dK an VW) Mz
def Gk:LSh:=⟨[1,2,3,4,9,10,11],⟨j4,PX⟩,[y11,y11,y11,aW,aH,bM,aH],4,[0,1,2,3]⟩
def Gl:List XSh:=[⟨.normal,[1,2,3,4,9,10,11],⟨⟨j4,PX⟩,[y11,y11,y11,aW,aH,bM,aH],[0,1,2,3],4⟩⟩]
def Gm:LSh:=⟨[1,2,3,4,9,10,12,13,14,15,16,17],⟨[(.slc 0),(.v y11),(.slr 1),(.ptr 2 0),(.slc 3),(.v y11),(.slc 4),(.slc 5),(.v y11),(.v y11),(.slc 6),(.v y11)],k4⟩,[y11,y11,y11,y11,y11,aW,aH,bM,aH,aH,aH,aW],7,[0,1,2,3,4,5,6]⟩
def Gn:List XSh:=[⟨(.exit 6),[1,2,3,4,9,10,12,13,14,15,16],⟨⟨[(.slc 0),(.v y11),(.slr 1),(.ptr 2 0),(.slc 3),(.v y11),(.slc 4),(.slc 5),(.v y11),(.v y11),(.slc 6)],k4⟩,[y11,y11,y11,y11,aW,aH,bM,aH,aH,aH,aW],[0,1,2,3,4,5,6],7⟩⟩]
def Gp:LSh:=⟨[1,2,3,4,9,10,12,13,14,15],⟨[(.slc 0),(.v y11),(.slr 1),(.ptr 2 0),(.slc 3),(.v y11),(.slc 4),(.slc 5),(.v y11),(.v y11)],k6⟩,[y11,y11,y11,y11,aW,aH,bM,aH,aH,aH],6,[0,1,2,3,4]⟩
def Gq:List XSh:=[⟨(.exit 4),[1,2,3,4,9,10,12,13,14],⟨⟨j1,k6⟩,z2,[0,1,2,3,4],6⟩⟩]
def Gr:LSh:=⟨[1,2,3,4,9,10,12,13,14],⟨j1,k6⟩,z2,6,[0,1,2,3,4]⟩
def Gs:List XSh:=[⟨(.exit 2),[1,2,3,4,10,13],⟨⟨[(.slc 0),(.v y11),(.slr 1),(.ptr 2 0),(.v y11),(.slc 5)],k6⟩,[y11,y11,aW,aH,bM,aH,aH,aH],[0,1,2,3,4],6⟩⟩]
def Gt:LSh:=⟨[1,2,3,4,9,10],⟨[(.slc 0),(.v y11),(.slr 1),(.ptr 2 0),(.slc 3),(.v y11)],PX⟩,[y11,y11,aW,aH,bM,aH],4,[0,1,2]⟩
def Gu:List XSh:=[⟨(.exit 0),[9],⟨⟨[(.slc 3)],PX⟩,[aW,aH,bM,aH],[0,1,2],4⟩⟩]
def Gv:LSh:=⟨[9,18,19,20,21],⟨[(.slc 0),(.v y11),(.v y11),(.v y11),(.v y11)],Ms⟩,z5,1,[0]⟩
def Gw:List XSh:=[⟨(.exit 10),[9,18,19,20],⟨⟨[(.slc 0),(.v y11),(.v y11),(.v y11)],Ms⟩,[y11,y11,y11,aH],[0],1⟩⟩]
def Gx:LSh:=⟨[9,18,19],⟨VL,Ms⟩,[y11,y11,aH],1,[0]⟩
def Gy:List XSh:=[⟨(.exit 8),[18],⟨⟨oF,Ms⟩,[y11,aH],[0],1⟩⟩]
noncomputable def BV:=dv Try.prog [] Try.f47 (.s .n (.s (.r [.a 3 false y11,.f 4 25 [],.a 4 false aW]) (.s (.s .n (.b (.l Gt Gu (.s .n (.s (.b (.s .n (.s (.o Gk Gl .n) (.s .n (.s .n (.s (.s .n (.b (.l Gr Gs (.s .n (.s (.b (.s .n (.b (.l Gp Gq (.s .n (.s (.b (.s (.r [.a 0 false y11,.a 5 false y11]) (.s (.s .n (.b (.l Gm Gn .n))) .n))) .n)))))) .n))))) .n)))))) .n))))) (.s .n (.s (.s .n (.b (.l Gx Gy (.s .n (.s (.b (.s .n (.s (.s .n (.b (.l Gv Gw .n))) .n))) .n))))) .n)))))
noncomputable def l47_1 (T:List FEnt):=pb (xs:=Gl) Gk (b6 T (sb [1,1,0,1,2,2,1,0,2,1,0,2] BV))
noncomputable def vY (F60v1:dc)(F61:gZ)(a0 a1 a2:Int)(a3:List Int)(a4:List Y6)(a5:aO×aT)(a6:List Y6):Option Ot:=
aA (aU a1 a5.1.length) (
cond (decide ((ix a5.1 a1).1 < a0)) (
some (a0,a1,0,a3,a4,a5,a6)) (
some (a0,a1,a2,a3,a4,a5,a6)))
theorem MF (F60v1:dc)(F61:gZ):l47_1 (mQ F60v1 F61)=u7 (vY F60v1 F61):=funext fun _=>by kernel_rfl
noncomputable def MG:=vY P60v1 P61
noncomputable def L47_1:OE:=fun x=>MG x.1 x.2.1 x.2.2.1 x.2.2.2.1 x.2.2.2.2.1 x.2.2.2.2.2.1 x.2.2.2.2.2.2
theorem MH:l47_1 (mQ P60v1 P61)=L47_1:=MF P60v1 P61
noncomputable def Gz (T:List FEnt):=aK (xs:=Gn) Gm (b6 T (sb [1,1,0,1,2,2,1,0,2,1,1,1,1,0,1,2,2,1,0,2,1,2,2,1,0,2,1,0,1,2,2] BV))
noncomputable def l47_4 (T:List FEnt):=af (Gz T)
noncomputable def pF (F60v1:dc)(F61:gZ)(a0 a1 a2 a3 a4:Int)(a5:List Int)(a6:List Y6)(a7:aO×aT)(a8 a9 a10:List Y6)(a11:List Int):Option ((Int×Int×Int×Int×Int×Y6×aB×dA×aB×aB×aB×Y6)⊕Oq):=
aA (aU a3 a9.length) (
cond (decide (a4 < (↑(List.length (ix a9 a3)):Int))) (
aA (aU a3 a9.length) (
aA (aU a4 (List.length (ix a9 a3))) (
aA (aU a3 a9.length) (
aA (aU a4 (List.length (ix a9 a3))) (
aA (aU (ix (ix a9 a3) a4) a5.length) (
aA (aU a3 a9.length) (
aA (aU a4 (List.length (ix a9 a3))) (
aA (aU (ix (ix a9 a3) a4) a11.length) (
aA (aw .i64 ((ix a11 (ix (ix a9 a3) a4))+1)) (
aA (aU (ix (ix a9 a3) a4) a11.length) (
aA (aw .i64 (a4+1)) (
some (Sum.inl (a0,a1,a2,a3,(a4+1),a5,a6,a7,a8,a9,a10,(List.set a11 (Int.toNat (ix (ix a9 a3) a4)) (min (ix a5 (ix (ix a9 a3) a4)) ((ix a11 (ix (ix a9 a3) a4))+1))))))))))))))))) (
some (Sum.inr (a0,a1,a2,a3,a5,a6,a7,a8,a9,a10,a11))))
theorem MI (F60v1:dc)(F61:gZ):Gz (mQ F60v1 F61)=BX (pF F60v1 F61):=funext fun _=>by kernel_rfl
noncomputable def GA:=pF P60v1 P61
noncomputable def L47_4:OF:=af (BX GA)
theorem MJ:l47_4 (mQ P60v1 P61)=L47_4:=congrArg af (MI P60v1 P61)
noncomputable def GB (T:List FEnt):=aK (xs:=Gq) Gp (b6 T (sb [1,1,0,1,2,2,1,0,2,1,1,1,1,0,1,2,2,1,0,2,1,2,2] BV))
noncomputable def l47_3 (T:List FEnt):=af (GB T)
noncomputable def q47_3 (F60v1:dc)(F61:gZ)(l47_4:OF)(a0 a1 a2 a3:Int)(a4:List Int)(a5:List Y6)(a6:aO×aT)(a7 a8 a9:List Y6):Option ((Int×Int×Int×Int×Y6×aB×dA×aB×aB×aB)⊕JB):=
cond (decide (a3 < (↑a8.length:Int))) (
aA (aU a2 a7.length) (
aA (cf 8 (List.length ([]:List Int)+List.length (ix a7 a2))) (
(l47_4 (a0,a1,a2,a3,0,a4,a5,a6,a7,a8,a9,(([]:List Int)++(ix a7 a2)))).bind fun y3=>(
(F61 (y3.2.2.2.2.2.2.2.2.2.1,y3.2.2.2.2.2.2.2.2.2.2)).bind fun r4=>(
aA (aw .i64 (y3.2.2.2.1+1)) (
some (Sum.inl (y3.1,y3.2.1,y3.2.2.1,(y3.2.2.2.1+1),y3.2.2.2.2.1,y3.2.2.2.2.2.1,y3.2.2.2.2.2.2.1,y3.2.2.2.2.2.2.2.1,y3.2.2.2.2.2.2.2.2.1,r4)))))))) (
some (Sum.inr (a0,a1,a2,a4,a5,a6,a7,a8,a9)))
theorem MK (F60v1:dc)(F61:gZ):GB (mQ F60v1 F61)=BW (q47_3 F60v1 F61 (l47_4 (mQ F60v1 F61))):=funext fun _=>by kernel_rfl
noncomputable def GC:=q47_3 P60v1 P61 L47_4
noncomputable def L47_3:OG:=af (BW GC)
theorem ML:l47_3 (mQ P60v1 P61)=L47_3:=congrArg af ((MK P60v1 P61).trans (by rw[MJ] <;> rfl))
noncomputable def GD (T:List FEnt):=aK (xs:=Gs) Gr (b6 T (sb [1,1,0,1,2,2,1,0,2,1,1,1,1,0,1,2,2] BV))
noncomputable def l47_2 (T:List FEnt):=af (GD T)
noncomputable def q47_2 (F60v1:dc)(F61:gZ)(l47_3:OG)(a0 a1 a2:Int)(a3:List Int)(a4:List Y6)(a5:aO×aT)(a6 a7 a8:List Y6):Option (JB⊕Ou):=
cond (decide (a2 < (↑a6.length:Int))) (
(l47_3 (a0,a1,a2,0,a3,a4,a5,a6,a7,a8)).bind fun y5=>(
aA (aw .i64 (y5.2.2.1+1)) (
some (Sum.inl (y5.1,y5.2.1,(y5.2.2.1+1),y5.2.2.2.1,y5.2.2.2.2.1,y5.2.2.2.2.2.1,y5.2.2.2.2.2.2.1,y5.2.2.2.2.2.2.2.1,y5.2.2.2.2.2.2.2.2))))) (
some (Sum.inr (a0,a1,a3,a4,a5,a6,a7,a8)))
theorem MM (F60v1:dc)(F61:gZ):GD (mQ F60v1 F61)=u9 (q47_2 F60v1 F61 (l47_3 (mQ F60v1 F61))):=funext fun _=>by kernel_rfl
noncomputable def GE:=q47_2 P60v1 P61 L47_3
noncomputable def L47_2:OH:=af (u9 GE)
theorem MN:l47_2 (mQ P60v1 P61)=L47_2:=congrArg af ((MM P60v1 P61).trans (by rw[ML] <;> rfl))
noncomputable def GF (T:List FEnt):=aK (xs:=Gu) Gt (b6 T (sb [1,1,0,1,2,2] BV))
noncomputable def l47_0 (T:List FEnt):=af (GF T)
noncomputable def q47_0 (F60v1:dc)(F61:gZ)(l47_1:OE)(l47_2:OH)(a0 a1:Int)(a2:List Int)(a3:List Y6)(a4:aO×aT)(a5:List Y6):Option ((Int×Int×Y6×aB×dA×aB)⊕Ox):=
cond (decide (a1 < (↑a4.1.length:Int))) (
aA (aU a1 a4.1.length) (
(l47_1 (a0,a1,(ix a4.1 a1).2.2,a2,a3,a4,a5)).bind fun y1=>(
aA (aU y1.2.1 y1.2.2.2.2.1.length) (
(F60v1 (y1.2.2.2.2.2.1,y1.2.1,0,y1.2.2.1,(↑y1.2.1.toNat:Int),y1.2.2.2.2.1)).bind fun r2=>(
(l47_2 (y1.1,y1.2.1,0,y1.2.2.2.1,r2.1,y1.2.2.2.2.2.1,y1.2.2.2.2.2.2,r2.2,([]:List Y6))).bind fun y6=>(
aA (aw .i64 (y6.2.1+1)) (
some (Sum.inl (y6.1,(y6.2.1+1),y6.2.2.1,y6.2.2.2.1,y6.2.2.2.2.1,y6.2.2.2.2.2.2.2))))))))) (
some (Sum.inr (a2,a3,a4,a5)))
theorem MO (F60v1:dc)(F61:gZ):GF (mQ F60v1 F61)=u6 (q47_0 F60v1 F61 (l47_1 (mQ F60v1 F61)) (l47_2 (mQ F60v1 F61))):=funext fun _=>by kernel_rfl
noncomputable def GG:=q47_0 P60v1 P61 L47_1 L47_2
noncomputable def vZ:OI:=af (u6 GG)
theorem MP:l47_0 (mQ P60v1 P61)=vZ:=congrArg af ((MO P60v1 P61).trans (by rw[MH,MN] <;> rfl))
noncomputable def GH (T:List FEnt):=aK (xs:=Gw) Gv (b6 T (sb [1,1,1,1,0,1,2,2,1,0,2,1,0,1,2,2] BV))
noncomputable def l47_6 (T:List FEnt):=af (GH T)
noncomputable def pG (F60v1:dc)(F61:gZ)(a0 a1 a2 a3:Int)(a4:List Y6):Option (Ee⊕Oh):=
aA (aU a1 a4.length) (
cond (decide (a3 < (↑(List.length (ix a4 a1)):Int))) (
aA (aU a1 a4.length) (
aA (aU a3 (List.length (ix a4 a1))) (
aA (aw .i64 (a2+(ix (ix a4 a1) a3))) (
aA (aw .i64 (a3+1)) (
some (Sum.inl (a0,a1,(a2+(ix (ix a4 a1) a3)),(a3+1),a4))))))) (
some (Sum.inr (a0,a1,a2,a4))))
theorem MQ (F60v1:dc)(F61:gZ):GH (mQ F60v1 F61)=u5 (pG F60v1 F61):=funext fun _=>by kernel_rfl
noncomputable def GI:=pG P60v1 P61
noncomputable def L47_6:Ov:=af (u5 GI)
theorem MS:l47_6 (mQ P60v1 P61)=L47_6:=congrArg af (MQ P60v1 P61)
noncomputable def GJ (T:List FEnt):=aK (xs:=Gy) Gx (b6 T (sb [1,1,1,1,0,1,2,2] BV))
noncomputable def l47_5 (T:List FEnt):=af (GJ T)
noncomputable def q47_5 (F60v1:dc)(F61:gZ)(l47_6:Ov)(a0 a1:Int)(a2:List Y6):Option (Ok⊕Ol):=
cond (decide (a1 < (↑a2.length:Int))) (
(l47_6 (a0,a1,0,0,a2)).bind fun y8=>(
aA (aw .i64 (y8.2.1+1)) (
some (Sum.inl ((max y8.1 y8.2.2.1),(y8.2.1+1),y8.2.2.2))))) (
some (Sum.inr (a0,a2)))
theorem MT (F60v1:dc)(F61:gZ):GJ (mQ F60v1 F61)=u3 (q47_5 F60v1 F61 (l47_6 (mQ F60v1 F61))):=funext fun _=>by kernel_rfl
noncomputable def GK:=q47_5 P60v1 P61 L47_6
noncomputable def v5:Ow:=af (u3 GK)
theorem MU:l47_5 (mQ P60v1 P61)=v5:=congrArg af ((MT P60v1 P61).trans (by rw[MS] <;> rfl))
theorem RZ:L.Fn Try.prog 47 146 [(.t 8)] (erase BV):=oA Try.func47
def Du:FSh:=⟨⟨[(.st bM),(.slc 0),(.v y11),(.slr 1)],[(0,(.row 3 y11)),(1,(.rows 28 3 y11))]⟩,[bM,y11,aW,aH],2,⟨⟨oF,[(0,(.row 3 y11)),(1,(.rows 28 3 y11))]⟩,[y11,aW,aH],[0,1],2⟩,false⟩
noncomputable def P0 (F60v1:dc)(F61:gZ)(l47_0:OI)(l47_5:Ow)(a0:aO×aT)(a1:Int)(a2:List Int)(a3:List Y6):Option Oi:=
aA (decide (0≤(↑a0.2.length:Int))) (
aA (decide (8*(↑a0.2.length:Int)≤140737488355328)) (
(l47_0 (a1,0,a2,a3,a0,([(cP (Int.toNat (↑a0.2.length:Int)) 0:List Int)]:List Y6))).bind fun y7=>(
(l47_5 (0,0,y7.2.2.2)).bind fun y9=>(
some (y9.1,y7.1,y7.2.1)))))
theorem VY (F60v1:dc)(F61:gZ):bx (mQ F60v1 F61) Du [(.t 8)] BV=u4 (P0 F60v1 F61 (l47_0 (mQ F60v1 F61)) (l47_5 (mQ F60v1 F61))):=funext fun _=>by kernel_rfl
noncomputable def VZ:=P0 P60v1 P61 vZ v5
noncomputable def P47:Ef:=u4 VZ
theorem V0:bx (mQ P60v1 P61) Du [(.t 8)] BV=P47:=(VY P60v1 P61).trans (by rw[MP,MU] <;> rfl)
theorem V1:DC Try.prog 47 Du P47:=dD V0 VX RZ
noncomputable def R0 (F12:fD)(F48:DW)(F49:Ed)(F47:Ef):List FEnt:=[⟨12,tZ,F12⟩,⟨48,Dm,F48⟩,⟨49,Dn,F49⟩,⟨47,Du,F47⟩]
theorem V2:ay Try.prog (R0 P12 P48 P49 P47):=dK (dK (dK (dK an V1) VP) VK) PD
noncomputable def R1:=dv Try.prog [(3,{ch:=[1,1,0,1,0,0,0,0],rs:=[1],ord:=[0,1,3,2,4,5,6,7] })] Try.f25 .n
theorem R2:L.Fn Try.prog 25 13 [(.t 2),(.t 3)] (erase R1):=oA Try.func25
def Dv:FSh:=⟨⟨xS,[]⟩,[bM],0,⟨⟨QF,[]⟩,[y11,y11],[],0⟩,true⟩
noncomputable def KA (F12:fD)(F48:DW)(F49:Ed)(F47:Ef)(a0:aO×aT):Option Y4:=
(F12 a0).bind fun r1=>(
cond (!decide (r1=0)) (
some (0,70)) (
(F48 a0).bind fun r2=>(
(F49 a0).bind fun r3=>(
(F47 (a0,0,r2,r3)).bind fun r4=>(
some (r4.1,0))))))
theorem g25 (F12:fD)(F48:DW)(F49:Ed)(F47:Ef)(a0:aO×aT):bx (R0 F12 F48 F49 F47) Dv [(.t 2),(.t 3)] R1 a0=KA F12 F48 F49 F47 a0:=by kernel_rfl
noncomputable def V3:=KA P12 P48 P49 P47
noncomputable def P25:wC:=fun x=>V3 x
theorem V4:bx (R0 P12 P48 P49 P47) Dv [(.t 2),(.t 3)] R1=P25:=funext fun x=>(g25 P12 P48 P49 P47 x)
theorem V5:DC Try.prog 25 Dv P25:=dD V4 V2 R2
noncomputable def KB:List FEnt:=[]
theorem V6:ay Try.prog KB:=an
def GL:LSh:=⟨[0,1,7,8],⟨[(.v aW),(.v y11),(.v y11),(.v y11)],[]⟩,[aW,y11,y11,y11],0,[]⟩
noncomputable def P1:=dv Try.prog [] Try.f65 (.s .n (.s (.s .n (.b (.l GL py .n))) .n))
noncomputable def GM (T:List FEnt):=aK (xs:=py) GL (b6 T (sb [1,0,1,2,2] P1))
noncomputable def l65_0 (T:List FEnt):=af (GM T)
noncomputable def pH (a0:List Int)(a1 a2 a3:Int):Option ((Y6×Int×Int×Int)⊕Y3):=
cond (decide (a3 < a2)) (
aA (aU a3 a0.length) (
cond (decide (a1=(ix a0 a3))) (
some (Sum.inr (Sum.inl a3))) (
aA (aw .i64 (a3+1)) (
some (Sum.inl (a0,a1,a2,(a3+1))))))) (
some (Sum.inr (Sum.inr ())))
theorem MV:GM KB=u4 pH:=funext fun _=>by kernel_rfl
noncomputable def GN:=pH
noncomputable def pI:Of:=af (u4 GN)
theorem MW:l65_0 KB=pI:=congrArg af MV
theorem R3:L.Fn Try.prog 65 19 [(.t 4)] (erase P1):=oA Try.func65
def Dw:FSh:=⟨⟨[(.v aW),(.v y11)],[]⟩,[aW,y11],0,⟨⟨oF,[]⟩,[y11],[],0⟩,true⟩
noncomputable def KC (l65_0:Of)(a0:List Int)(a1:Int):Option Int:=
(l65_0 (a0,a1,(↑a0.length:Int),0)).bind (fun y1=>Sum.elim (fun y2=>(
some y2)) (fun y3=>(
some (-1))) y1)
theorem g65:bx KB Dw [(.t 4)] P1=u2 (KC (l65_0 KB)):=funext fun _=>by kernel_rfl
noncomputable def V7:=KC pI
noncomputable def P65:Ec:=u2 V7
theorem V8:bx KB Dw [(.t 4)] P1=P65:=g65.trans (by rw[MW] <;> rfl)
theorem V9:DC Try.prog 65 Dw P65:=dD V8 V6 R3
noncomputable def R4 (F65:Ec):List FEnt:=[⟨65,Dw,F65⟩]
theorem Wb:ay Try.prog (R4 P65):=dK an V9
noncomputable def R5:=dv Try.prog [] Try.f62 .n
theorem R6:L.Fn Try.prog 62 9 [(.t 4)] (erase R5):=oA Try.func62
def AD:FSh:=⟨⟨[(.v aW),(.v y11)],[]⟩,[aW,y11],0,⟨⟨ju,[]⟩,[.bool],[],0⟩,true⟩
noncomputable def P2 (F65:Ec)(a0:List Int)(a1:Int):Option Bool:=
(F65 (a0,a1)).bind fun r1=>(
some (decide (0≤r1)))
theorem Wc (F65:Ec):bx (R4 F65) AD [(.t 4)] R5=u2 (P2 F65):=funext fun _=>by kernel_rfl
noncomputable def Wd:=P2 P65
noncomputable def ga:fY:=u2 Wd
theorem We:bx (R4 P65) AD [(.t 4)] R5=ga:=Wc P65
theorem Tt:DC Try.prog 62 AD ga:=dD We Wb R6
end Go.Proofs.Ytjoncejabdjekaa.D
