import Derived.Test.YtjoncejabdjekaaG3o
import Derived.Test.YtjoncejabdjekaaProg
set_option linter.unusedVariables false
set_option maxRecDepth 100000
namespace Go.Proofs.Ytjoncejabdjekaa.D
open Go Go.Proofs Go.Proofs.Ytjoncejabdjekaa.L
def z1:List Ty:=[y12,y12,y12,bg,aF,aB,aF,aF,aF]
def j3:List RSh:=[(.slc 0),(.v y12),(.slr 1),(.ptr 2 0),(.slc 3),(.v y12),(.v y12)]
def j1:List RSh:=[(.slc 0),(.v y12),(.slr 1),(.ptr 2 0),(.slc 3),(.v y12),(.slc 4),(.slc 5),(.v y12)]
def RQ:List RSh:=[(.slc 0),(.v y12),(.v y12)]
def GA:List (Nat×OSh):=[(0,(.row 28 bg)),(1,(.row 3 y12))]
def Jk:List (Nat×OSh):=[(0,(.row 28 bg))]
def Lo:List (Nat×OSh):=[(0,(.row 3 y12)),(1,(.rows 28 3 y12)),(2,(.boxT aB)),(3,(.row 28 bg))]
def k2:List (Nat×OSh):=[(0,(.row 3 y12)),(1,(.rows 28 3 y12)),(2,(.boxT aB)),(3,(.row 28 bg)),(4,(.row 28 bg)),(5,(.row 28 bg)),(6,(.row 3 y12))]
def k3:List (Nat×OSh):=[(0,(.row 3 y12)),(1,(.rows 28 3 y12)),(2,(.boxT aB)),(3,(.row 28 bg)),(4,(.row 28 bg)),(5,(.row 28 bg))]
noncomputable def At:List FEnt:=[]
theorem RR:aw Try.prog At:=am
def Di:LSh:=⟨[0,1,5,6,7],⟨[(.slc 0),(.slc 1),(.v y12),(.v .bool),(.v y12)],GA⟩,[y12,.bool,y12,aF,bg],2,[0,1]⟩
def Dj:List XSh:=[⟨(.exit 2),[0,1,5,6],⟨⟨[(.slc 0),(.slc 1),(.v y12),(.v .bool)],GA⟩,[y12,.bool,aF,bg],[0,1],2⟩⟩]
def Dk:LSh:=⟨[0,1,5],⟨[(.slc 0),(.slc 1),(.v y12)],GA⟩,[y12,aF,bg],2,[0,1]⟩
def Dl:List XSh:=[⟨.ret,[4],⟨⟨[(.slc 0)],GA⟩,[aF,bg],[0,1],2⟩⟩,⟨(.exit 0),[0,1],⟨⟨KY,GA⟩,[aF,bg],[0,1],2⟩⟩]
noncomputable def Jl:=ef Try.prog [] Try.f61 (.s .n (.s (.s .n (.b (.l Dk Dl (.s .n (.s (.b (.s .n (.s (.s .n (.b (.l Di Dj .n))) .n))) .n))))) (.s (.r [.f 2 1 [],.a 2 false bg,.a 3 false bg]) .n)))
noncomputable def Dm (T:List FEnt):=aN (xs:=Dj) Di (bW T (sb [1,0,1,2,2,1,0,2,1,0,1,2,2] Jl))
noncomputable def l61_1 (T:List FEnt):=aa (Dm T)
noncomputable def ox (a0:Int)(a1:Bool)(a2:Int)(a3:List Y6)(a4:List Int):Option ((Int×Bool×Int×az×Y6)⊕Kx):=
cond (decide (a2 < (↑a4.length:Int))) (
cond a1 (
au (aZ a0 a3.length) (
au (aZ a2 (List.length (ix a3 a0))) (
au (aZ a2 a4.length) (
au (aq .i64 (a2+1)) (
some (Sum.inl (a0,decide ((ix (ix a3 a0) a2)=(ix a4 a2)),(a2+1),a3,a4))))))) (
au (aq .i64 (a2+1)) (
some (Sum.inl (a0,false,(a2+1),a3,a4))))) (
some (Sum.inr (a0,a1,a3,a4)))
theorem Jm:Dm At=u5 ox:=funext fun _=>by kernel_rfl
noncomputable def Dn:=ox
noncomputable def qK:KB:=aa (u5 Dn)
theorem Jn:l61_1 At=qK:=congrArg aa Jm
noncomputable def Do (T:List FEnt):=aN (xs:=Dl) Dk (bW T (sb [1,0,1,2,2] Jl))
noncomputable def l61_0 (T:List FEnt):=aa (Do T)
noncomputable def oy (l61_1:KB)(a0:Int)(a1:List Y6)(a2:List Int):Option ((Int×az×Y6)⊕KI):=
cond (decide (a0 < (↑a1.length:Int))) (
(l61_1 (a0,true,0,a1,a2)).bind fun y1=>(
cond y1.2.1 (
some (Sum.inr (Sum.inl (y1.2.2.1,y1.2.2.2)))) (
au (aq .i64 (y1.1+1)) (
some (Sum.inl ((y1.1+1),y1.2.2.1,y1.2.2.2)))))) (
some (Sum.inr (Sum.inr (a1,a2))))
theorem g61_0:Do At=u3 (oy (l61_1 At)):=funext fun _=>by kernel_rfl
noncomputable def Dp:=oy qK
noncomputable def oz:KJ:=aa (u3 Dp)
theorem Jo:l61_0 At=oz:=congrArg aa (g61_0.trans (by rw[Jn] <;> rfl))
theorem Od:L.Fn Try.prog 61 41 [(.t 4)] (erase Jl):=oA Try.func61
def Au:FSh:=⟨⟨KY,GA⟩,[aF,bg],2,⟨⟨[(.slc 0)],Jk⟩,[aF],[],2⟩,false⟩
noncomputable def GB (l61_0:KJ)(a0:List Y6)(a1:List Int):Option az:=
(l61_0 (0,a0,a1)).bind (fun y2=>Sum.elim (fun y3=>(
some y3.1)) (fun y4=>(
au (bN 24 (List.length y4.1+List.length ([y4.2]:List Y6))) (
some (y4.1++([y4.2]:List Y6))))) y2)
theorem g61:bH At Au [(.t 4)] Jl=u2 (GB (l61_0 At)):=funext fun _=>by kernel_rfl
noncomputable def RS:=GB oz
noncomputable def P61:gE:=u2 RS
theorem RT:bH At Au [(.t 4)] Jl=P61:=g61.trans (by rw[Jo] <;> rfl)
theorem RU:DC Try.prog 61 Au P61:=dD RT RR Od
noncomputable def lV (F60v1:cP)(F61:gE):List FEnt:=[⟨60,gx,F60v1⟩,⟨61,Au,F61⟩]
theorem RW:aw Try.prog (lV P60v1 P61):=dK (dK am RU) Jj
def Dq:LSh:=⟨[1,2,3,4,9,10,11],⟨j3,Lo⟩,[y12,y12,y12,bg,aF,aB,aF],4,[0,1,2,3]⟩
def Dr:List XSh:=[⟨.normal,[1,2,3,4,9,10,11],⟨⟨j3,Lo⟩,[y12,y12,y12,bg,aF,aB,aF],[0,1,2,3],4⟩⟩]
def Ds:LSh:=⟨[1,2,3,4,9,10,12,13,14,15,16,17],⟨[(.slc 0),(.v y12),(.slr 1),(.ptr 2 0),(.slc 3),(.v y12),(.slc 4),(.slc 5),(.v y12),(.v y12),(.slc 6),(.v y12)],k2⟩,[y12,y12,y12,y12,y12,bg,aF,aB,aF,aF,aF,bg],7,[0,1,2,3,4,5,6]⟩
def Dt:List XSh:=[⟨(.exit 6),[1,2,3,4,9,10,12,13,14,15,16],⟨⟨[(.slc 0),(.v y12),(.slr 1),(.ptr 2 0),(.slc 3),(.v y12),(.slc 4),(.slc 5),(.v y12),(.v y12),(.slc 6)],k2⟩,[y12,y12,y12,y12,bg,aF,aB,aF,aF,aF,bg],[0,1,2,3,4,5,6],7⟩⟩]
def Du:LSh:=⟨[1,2,3,4,9,10,12,13,14,15],⟨[(.slc 0),(.v y12),(.slr 1),(.ptr 2 0),(.slc 3),(.v y12),(.slc 4),(.slc 5),(.v y12),(.v y12)],k3⟩,[y12,y12,y12,y12,bg,aF,aB,aF,aF,aF],6,[0,1,2,3,4]⟩
def Dv:List XSh:=[⟨(.exit 4),[1,2,3,4,9,10,12,13,14],⟨⟨j1,k3⟩,z1,[0,1,2,3,4],6⟩⟩]
def Dw:LSh:=⟨[1,2,3,4,9,10,12,13,14],⟨j1,k3⟩,z1,6,[0,1,2,3,4]⟩
def Dx:List XSh:=[⟨(.exit 2),[1,2,3,4,10,13],⟨⟨[(.slc 0),(.v y12),(.slr 1),(.ptr 2 0),(.v y12),(.slc 5)],k3⟩,[y12,y12,bg,aF,aB,aF,aF,aF],[0,1,2,3,4],6⟩⟩]
def Dy:LSh:=⟨[1,2,3,4,9,10],⟨[(.slc 0),(.v y12),(.slr 1),(.ptr 2 0),(.slc 3),(.v y12)],Lo⟩,[y12,y12,bg,aF,aB,aF],4,[0,1,2]⟩
def Dz:List XSh:=[⟨(.exit 0),[9],⟨⟨[(.slc 3)],Lo⟩,[bg,aF,aB,aF],[0,1,2],4⟩⟩]
def DA:LSh:=⟨[9,18,19,20,21],⟨[(.slc 0),(.v y12),(.v y12),(.v y12),(.v y12)],Jk⟩,[y12,y12,y12,y12,aF],1,[0]⟩
def DB:List XSh:=[⟨(.exit 10),[9,18,19,20],⟨⟨[(.slc 0),(.v y12),(.v y12),(.v y12)],Jk⟩,[y12,y12,y12,aF],[0],1⟩⟩]
def DD:LSh:=⟨[9,18,19],⟨RQ,Jk⟩,[y12,y12,aF],1,[0]⟩
def DE:List XSh:=[⟨(.exit 8),[18],⟨⟨oj,Jk⟩,[y12,aF],[0],1⟩⟩]
noncomputable def yB:=ef Try.prog [] Try.f47 (.s .n (.s (.r [.a 3 false y12,.f 4 25 [],.a 4 false bg]) (.s (.s .n (.b (.l Dy Dz (.s .n (.s (.b (.s .n (.s (.o Dq Dr .n) (.s .n (.s .n (.s (.s .n (.b (.l Dw Dx (.s .n (.s (.b (.s .n (.b (.l Du Dv (.s .n (.s (.b (.s (.r [.a 0 false y12,.a 5 false y12]) (.s (.s .n (.b (.l Ds Dt .n))) .n))) .n)))))) .n))))) .n)))))) .n))))) (.s .n (.s (.s .n (.b (.l DD DE (.s .n (.s (.b (.s .n (.s (.s .n (.b (.l DA DB .n))) .n))) .n))))) .n)))))
noncomputable def l47_1 (T:List FEnt):=jE (xs:=Dr) Dq (bW T (sb [1,1,0,1,2,2,1,0,2,1,0,2] yB))
noncomputable def tP (F60v1:cP)(F61:gE)(a0 a1 a2:Int)(a3:List Int)(a4:List Y6)(a5:aK×aT)(a6:List Y6):Option KD:=
au (aZ a1 a5.1.length) (
cond (decide ((ix a5.1 a1).1 < a0)) (
some (a0,a1,0,a3,a4,a5,a6)) (
some (a0,a1,a2,a3,a4,a5,a6)))
theorem Jp (F60v1:cP)(F61:gE):l47_1 (lV F60v1 F61)=u7 (tP F60v1 F61):=funext fun _=>by kernel_rfl
noncomputable def Jq:=tP P60v1 P61
noncomputable def L47_1:KK:=fun x=>Jq x.1 x.2.1 x.2.2.1 x.2.2.2.1 x.2.2.2.2.1 x.2.2.2.2.2.1 x.2.2.2.2.2.2
theorem Jr:l47_1 (lV P60v1 P61)=L47_1:=Jp P60v1 P61
noncomputable def DF (T:List FEnt):=aN (xs:=Dt) Ds (bW T (sb [1,1,0,1,2,2,1,0,2,1,1,1,1,0,1,2,2,1,0,2,1,2,2,1,0,2,1,0,1,2,2] yB))
noncomputable def l47_4 (T:List FEnt):=aa (DF T)
noncomputable def oB (F60v1:cP)(F61:gE)(a0 a1 a2 a3 a4:Int)(a5:List Int)(a6:List Y6)(a7:aK×aT)(a8 a9 a10:List Y6)(a11:List Int):Option ((Int×Int×Int×Int×Int×Y6×az×cf×az×az×az×Y6)⊕KC):=
au (aZ a3 a9.length) (
cond (decide (a4 < (↑(List.length (ix a9 a3)):Int))) (
au (aZ a3 a9.length) (
au (aZ a4 (List.length (ix a9 a3))) (
au (aZ a3 a9.length) (
au (aZ a4 (List.length (ix a9 a3))) (
au (aZ (ix (ix a9 a3) a4) a5.length) (
au (aZ a3 a9.length) (
au (aZ a4 (List.length (ix a9 a3))) (
au (aZ (ix (ix a9 a3) a4) a11.length) (
au (aq .i64 ((ix a11 (ix (ix a9 a3) a4))+1)) (
au (aZ (ix (ix a9 a3) a4) a11.length) (
au (aq .i64 (a4+1)) (
some (Sum.inl (a0,a1,a2,a3,(a4+1),a5,a6,a7,a8,a9,a10,(List.set a11 (Int.toNat (ix (ix a9 a3) a4)) (min (ix a5 (ix (ix a9 a3) a4)) ((ix a11 (ix (ix a9 a3) a4))+1))))))))))))))))) (
some (Sum.inr (a0,a1,a2,a3,a5,a6,a7,a8,a9,a10,a11))))
theorem Js (F60v1:cP)(F61:gE):DF (lV F60v1 F61)=GH (oB F60v1 F61):=funext fun _=>by kernel_rfl
noncomputable def DG:=oB P60v1 P61
noncomputable def L47_4:KL:=aa (GH DG)
theorem Jt:l47_4 (lV P60v1 P61)=L47_4:=congrArg aa (Js P60v1 P61)
noncomputable def DH (T:List FEnt):=aN (xs:=Dv) Du (bW T (sb [1,1,0,1,2,2,1,0,2,1,1,1,1,0,1,2,2,1,0,2,1,2,2] yB))
noncomputable def l47_3 (T:List FEnt):=aa (DH T)
noncomputable def q47_3 (F60v1:cP)(F61:gE)(l47_4:KL)(a0 a1 a2 a3:Int)(a4:List Int)(a5:List Y6)(a6:aK×aT)(a7 a8 a9:List Y6):Option ((Int×Int×Int×Int×Y6×az×cf×az×az×az)⊕FD):=
cond (decide (a3 < (↑a8.length:Int))) (
au (aZ a2 a7.length) (
au (bN 8 (List.length ([]:List Int)+List.length (ix a7 a2))) (
(l47_4 (a0,a1,a2,a3,0,a4,a5,a6,a7,a8,a9,(([]:List Int)++(ix a7 a2)))).bind fun y3=>(
(F61 (y3.2.2.2.2.2.2.2.2.2.1,y3.2.2.2.2.2.2.2.2.2.2)).bind fun r4=>(
au (aq .i64 (y3.2.2.2.1+1)) (
some (Sum.inl (y3.1,y3.2.1,y3.2.2.1,(y3.2.2.2.1+1),y3.2.2.2.2.1,y3.2.2.2.2.2.1,y3.2.2.2.2.2.2.1,y3.2.2.2.2.2.2.2.1,y3.2.2.2.2.2.2.2.2.1,r4)))))))) (
some (Sum.inr (a0,a1,a2,a4,a5,a6,a7,a8,a9)))
theorem Ju (F60v1:cP)(F61:gE):DH (lV F60v1 F61)=yF (q47_3 F60v1 F61 (l47_4 (lV F60v1 F61))):=funext fun _=>by kernel_rfl
noncomputable def DI:=q47_3 P60v1 P61 L47_4
noncomputable def L47_3:KM:=aa (yF DI)
theorem Jv:l47_3 (lV P60v1 P61)=L47_3:=congrArg aa ((Ju P60v1 P61).trans (by rw[Jt] <;> rfl))
noncomputable def DJ (T:List FEnt):=aN (xs:=Dx) Dw (bW T (sb [1,1,0,1,2,2,1,0,2,1,1,1,1,0,1,2,2] yB))
noncomputable def l47_2 (T:List FEnt):=aa (DJ T)
noncomputable def q47_2 (F60v1:cP)(F61:gE)(l47_3:KM)(a0 a1 a2:Int)(a3:List Int)(a4:List Y6)(a5:aK×aT)(a6 a7 a8:List Y6):Option (FD⊕KE):=
cond (decide (a2 < (↑a6.length:Int))) (
(l47_3 (a0,a1,a2,0,a3,a4,a5,a6,a7,a8)).bind fun y5=>(
au (aq .i64 (y5.2.2.1+1)) (
some (Sum.inl (y5.1,y5.2.1,(y5.2.2.1+1),y5.2.2.2.1,y5.2.2.2.2.1,y5.2.2.2.2.2.1,y5.2.2.2.2.2.2.1,y5.2.2.2.2.2.2.2.1,y5.2.2.2.2.2.2.2.2))))) (
some (Sum.inr (a0,a1,a3,a4,a5,a6,a7,a8)))
theorem Jw (F60v1:cP)(F61:gE):DJ (lV F60v1 F61)=u9 (q47_2 F60v1 F61 (l47_3 (lV F60v1 F61))):=funext fun _=>by kernel_rfl
noncomputable def DK:=q47_2 P60v1 P61 L47_3
noncomputable def L47_2:KN:=aa (u9 DK)
theorem Jx:l47_2 (lV P60v1 P61)=L47_2:=congrArg aa ((Jw P60v1 P61).trans (by rw[Jv] <;> rfl))
noncomputable def DL (T:List FEnt):=aN (xs:=Dz) Dy (bW T (sb [1,1,0,1,2,2] yB))
noncomputable def l47_0 (T:List FEnt):=aa (DL T)
noncomputable def q47_0 (F60v1:cP)(F61:gE)(l47_1:KK)(l47_2:KN)(a0 a1:Int)(a2:List Int)(a3:List Y6)(a4:aK×aT)(a5:List Y6):Option ((Int×Int×Y6×az×cf×az)⊕KH):=
cond (decide (a1 < (↑a4.1.length:Int))) (
au (aZ a1 a4.1.length) (
(l47_1 (a0,a1,(ix a4.1 a1).2.2,a2,a3,a4,a5)).bind fun y1=>(
au (aZ y1.2.1 y1.2.2.2.2.1.length) (
(F60v1 (y1.2.2.2.2.2.1,y1.2.1,0,y1.2.2.1,(↑y1.2.1.toNat:Int),y1.2.2.2.2.1)).bind fun r2=>(
(l47_2 (y1.1,y1.2.1,0,y1.2.2.2.1,r2.1,y1.2.2.2.2.2.1,y1.2.2.2.2.2.2,r2.2,([]:List Y6))).bind fun y6=>(
au (aq .i64 (y6.2.1+1)) (
some (Sum.inl (y6.1,(y6.2.1+1),y6.2.2.1,y6.2.2.2.1,y6.2.2.2.2.1,y6.2.2.2.2.2.2.2))))))))) (
some (Sum.inr (a2,a3,a4,a5)))
theorem Jy (F60v1:cP)(F61:gE):DL (lV F60v1 F61)=u6 (q47_0 F60v1 F61 (l47_1 (lV F60v1 F61)) (l47_2 (lV F60v1 F61))):=funext fun _=>by kernel_rfl
noncomputable def DM:=q47_0 P60v1 P61 L47_1 L47_2
noncomputable def tQ:KO:=aa (u6 DM)
theorem Jz:l47_0 (lV P60v1 P61)=tQ:=congrArg aa ((Jy P60v1 P61).trans (by rw[Jr,Jx] <;> rfl))
noncomputable def DN (T:List FEnt):=aN (xs:=DB) DA (bW T (sb [1,1,1,1,0,1,2,2,1,0,2,1,0,1,2,2] yB))
noncomputable def l47_6 (T:List FEnt):=aa (DN T)
noncomputable def oC (F60v1:cP)(F61:gE)(a0 a1 a2 a3:Int)(a4:List Y6):Option ((Int×Int×Int×Int×az)⊕Ky):=
au (aZ a1 a4.length) (
cond (decide (a3 < (↑(List.length (ix a4 a1)):Int))) (
au (aZ a1 a4.length) (
au (aZ a3 (List.length (ix a4 a1))) (
au (aq .i64 (a2+(ix (ix a4 a1) a3))) (
au (aq .i64 (a3+1)) (
some (Sum.inl (a0,a1,(a2+(ix (ix a4 a1) a3)),(a3+1),a4))))))) (
some (Sum.inr (a0,a1,a2,a4))))
theorem JA (F60v1:cP)(F61:gE):DN (lV F60v1 F61)=u5 (oC F60v1 F61):=funext fun _=>by kernel_rfl
noncomputable def DO:=oC P60v1 P61
noncomputable def L47_6:KF:=aa (u5 DO)
theorem JB:l47_6 (lV P60v1 P61)=L47_6:=congrArg aa (JA P60v1 P61)
noncomputable def DP (T:List FEnt):=aN (xs:=DE) DD (bW T (sb [1,1,1,1,0,1,2,2] yB))
noncomputable def l47_5 (T:List FEnt):=aa (DP T)
noncomputable def q47_5 (F60v1:cP)(F61:gE)(l47_6:KF)(a0 a1:Int)(a2:List Y6):Option ((Int×Int×az)⊕AF):=
cond (decide (a1 < (↑a2.length:Int))) (
(l47_6 (a0,a1,0,0,a2)).bind fun y8=>(
au (aq .i64 (y8.2.1+1)) (
some (Sum.inl ((max y8.1 y8.2.2.1),(y8.2.1+1),y8.2.2.2))))) (
some (Sum.inr (a0,a2)))
theorem JC (F60v1:cP)(F61:gE):DP (lV F60v1 F61)=u3 (q47_5 F60v1 F61 (l47_6 (lV F60v1 F61))):=funext fun _=>by kernel_rfl
noncomputable def DQ:=q47_5 P60v1 P61 L47_6
noncomputable def tR:KG:=aa (u3 DQ)
theorem JD:l47_5 (lV P60v1 P61)=tR:=congrArg aa ((JC P60v1 P61).trans (by rw[JB] <;> rfl))
theorem Oe:L.Fn Try.prog 47 146 [(.t 8)] (erase yB):=oA Try.func47
def Av:FSh:=⟨⟨[(.st aB),(.slc 0),(.v y12),(.slr 1)],[(0,(.row 3 y12)),(1,(.rows 28 3 y12))]⟩,[aB,y12,bg,aF],2,⟨⟨oj,[(0,(.row 3 y12)),(1,(.rows 28 3 y12))]⟩,[y12,bg,aF],[0,1],2⟩,false⟩
noncomputable def Lp (F60v1:cP)(F61:gE)(l47_0:KO)(l47_5:KG)(a0:aK×aT)(a1:Int)(a2:List Int)(a3:List Y6):Option Kz:=
au (decide (0≤(↑a0.2.length:Int))) (
au (decide (8*(↑a0.2.length:Int)≤140737488355328)) (
(l47_0 (a1,0,a2,a3,a0,([(gj (Int.toNat (↑a0.2.length:Int)) 0:List Int)]:List Y6))).bind fun y7=>(
(l47_5 (0,0,y7.2.2.2)).bind fun y9=>(
some (y9.1,y7.1,y7.2.1)))))
theorem RX (F60v1:cP)(F61:gE):bH (lV F60v1 F61) Av [(.t 8)] yB=u4 (Lp F60v1 F61 (l47_0 (lV F60v1 F61)) (l47_5 (lV F60v1 F61))):=funext fun _=>by kernel_rfl
noncomputable def RY:=Lp P60v1 P61 tQ tR
noncomputable def P47:AH:=u4 RY
theorem RZ:bH (lV P60v1 P61) Av [(.t 8)] yB=P47:=(RX P60v1 P61).trans (by rw[Jz,JD] <;> rfl)
theorem R0:DC Try.prog 47 Av P47:=dD RZ RW Oe
noncomputable def Of (F42:jl)(F36:Y7)(F43:rW)(F46:mY)(F47:AH):List FEnt:=[⟨42,xE,F42⟩,⟨36,qG,F36⟩,⟨43,xG,F43⟩,⟨46,xF,F46⟩,⟨47,Av,F47⟩]
theorem R1:aw Try.prog (Of pz P36 pF P46 P47):=dK (dK (dK (dK (dK am R0) O9) Pa) HQ) O8
noncomputable def Og:=ef Try.prog [] Try.f20 .n
theorem Oh:L.Fn Try.prog 20 39 [(.t 6),(.t 7)] (erase Og):=oA Try.func20
def Aw:FSh:=⟨⟨MN,[]⟩,[aB,bX,y12],0,⟨⟨LI,[]⟩,[y12,y12],[],0⟩,true⟩
noncomputable def yC (F42:jl)(F36:Y7)(F43:rW)(F46:mY)(F47:AH)(a0:aK×aT)(a1:List Y1)(a2:Int):Option Y4:=
(F42 (a0,a1)).bind fun r1=>(
cond (!decide (r1=0)) (
some (0,r1)) (
(F36 (a2,0,99)).bind fun r2=>(
cond (!r2) (
some (0,1)) (
(F43 (a0,a1)).bind fun r3=>(
(F46 (a0,a1)).bind fun r4=>(
(F47 (a0,a2,r3.2,r4.2)).bind fun r5=>(
some (r5.1,0))))))))
theorem R2 (F42:jl)(F36:Y7)(F43:rW)(F46:mY)(F47:AH):bH (Of F42 F36 F43 F46 F47) Aw [(.t 6),(.t 7)] Og=u3 (yC F42 F36 F43 F46 F47):=funext fun _=>by kernel_rfl
noncomputable def R3:=yC pz P36 pF P46 P47
noncomputable def yD:fQ:=u3 R3
theorem R4:bH (Of pz P36 pF P46 P47) Aw [(.t 6),(.t 7)] Og=yD:=R2 pz P36 pF P46 P47
theorem R5:DC Try.prog 20 Aw yD:=dD R4 R1 Oh
noncomputable def T4 (F16:di)(F9:cS)(F10:eU)(F17:oD)(F18:oD)(F19:fQ)(F20:fQ)(F15:el):List FEnt:=[⟨16,xy,F16⟩,⟨9,Fs,F9⟩,⟨10,vc,F10⟩,⟨17,uZ,F17⟩,⟨18,Ao,F18⟩,⟨19,u0,F19⟩,⟨20,Aw,F20⟩,⟨15,rU,F15⟩]
theorem t4:aw Try.prog (T4 P16 P9 hX P17 yA P19 yD P15):=dK (dK (dK (dK (dK (dK (dK (dK am Lc) R5) MV) RP) MM) M5) d9) O0
noncomputable def c4:=ef Try.prog [] Try.f4 (.s .n (.s .n (.s (.r [.a 2 true fX,.a 4 true fX]) .n)))
theorem R6:L.Fn Try.prog 4 86 [(.t 6)] (erase c4):=oA Try.func4
def Oi:FSh:=⟨⟨MN,[]⟩,[aB,bX,y12],0,⟨⟨jP,[]⟩,[.bool],[],0⟩,true⟩
noncomputable def q4 (F16:di)(F9:cS)(F10:eU)(F17 F18:oD)(F19 F20:fQ)(F15:el)(a0:aK×aT)(a1:List Y1)(a2:Int):Option Bool:=
(F16 a0).bind fun r1=>(
cond r1 (
(F9 ()).bind fun r2=>(
some r2)) (
cond (decide (60 < (↑a1.length:Int))) (
(F9 ()).bind fun r3=>(
some r3)) (
(F10 a0).bind fun r4=>(
au (bN 24 (List.length ([]:List Y1)+List.length a1)) (
(F17 (r4,(([]:List Y1)++a1))).bind fun r5=>(
(F18 (a0,a1)).bind fun r6=>(
(F19 (r4,(([]:List Y1)++a1),a2)).bind fun r7=>(
(F20 (a0,a1,a2)).bind fun r8=>(
(F15 (r5.2.2,r6.2.2)).bind fun r9=>(
cond r9 (
cond (decide (r5.1=r6.1)) (
cond (decide (r5.2.1=r6.2.1)) (
cond (decide (r7.1=r8.1)) (
cond (decide (r7.2=r8.2)) (
(F9 ()).bind fun r10=>(
some r10)) (
some false)) (
some false)) (
some false)) (
some false)) (
some false)))))))))))
theorem g4 (F16:di)(F9:cS)(F10:eU)(F17 F18:oD)(F19 F20:fQ)(F15:el):bH (T4 F16 F9 F10 F17 F18 F19 F20 F15) Oi [(.t 6)] c4=u3 (q4 F16 F9 F10 F17 F18 F19 F20 F15):=funext fun _=>by kernel_rfl
noncomputable def p4:=q4 P16 P9 hX P17 yA P19 yD P15
noncomputable def P4:cf×aK×Int→Option Bool:=u3 p4
theorem v4:bH (T4 P16 P9 hX P17 yA P19 yD P15) Oi [(.t 6)] c4=P4:=g4 P16 P9 hX P17 yA P19 yD P15
theorem d4:DC Try.prog 4 Oi P4:=dD v4 t4 R6
end Go.Proofs.Ytjoncejabdjekaa.D
