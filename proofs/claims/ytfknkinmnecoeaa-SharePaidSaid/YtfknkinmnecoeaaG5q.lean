import Derived.Test.YtfknkinmnecoeaaG4q
import Derived.Test.YtfknkinmnecoeaaProg
set_option linter.unusedVariables false
set_option maxRecDepth 100000
namespace Go.Proofs.Ytfknkinmnecoeaa.D
open Go Go.Proofs Go.Proofs.Ytfknkinmnecoeaa.L
def j5:List RSh:=[(.v y3),(.v y3),(.ptr 0 0),(.v y3),(.aptr 1 1),(.v y3)]
def k6:List (Nat×OSh):=[(0,(.boxT bx)),(1,(.row 114 y3))]
def k3:List (Nat×OSh):=[(0,(.boxT bx)),(1,(.row 69 y6)),(2,(.row 69 y6))]
noncomputable def JP (F16:fh)(F48:cS):List FEnt:=[⟨16,wU,F16⟩,⟨48,rz,F48⟩]
theorem W6:aq Try.prog (JP gq P48):=dK (dK ai LJ) RH
def Gg:LSh:=⟨[1,2,5],⟨[(.v y8),(.ptr 0 0),(.v y3)],rk⟩,[y8,y3,bx],1,[0]⟩
def Gh:List XSh:=[⟨.ret,[4],⟨⟨jp,rk⟩,[.bool,bx],[0],1⟩⟩,⟨(.exit 0),[1],⟨⟨[(.v y8)],rk⟩,[y8,bx],[0],1⟩⟩]
noncomputable def Ox:=cN Try.prog [(4,{ch:=[1,0,0,0,0,1,0,0,0,0,0,0,0],rs:=[2,1] })] Try.f34 (.s .n (.s (.s .n (.b (.l Gg Gh .n))) .n))
noncomputable def Gi (T:List FEnt):=aI (xs:=Gh) Gg (bG T (sb [1,0,1,2,2] Ox))
noncomputable def l34_0 (T:List FEnt):=af (Gi T)
noncomputable def o6 (F16:fh)(F48:cS)(a0:List Y2)(a1:Int)(a2:bg):Option ((Y4×Int×Int×dc×cA)⊕Nq):=
cond (decide (a1 < (↑a0.length:Int))) (
an (aZ a1 a0.length) (
(F16 (a2,(ix a0 a1).1)).bind fun r1=>(
cond (!r1.2) (
some (Sum.inr (Sum.inl (false,a2)))) (
an (aZ a1 a0.length) (
(F48 ((ix a0 a1).2,0,1000000000)).bind fun r2=>(
cond (!r2) (
some (Sum.inr (Sum.inl (false,a2)))) (
an (ah .i64 (a1+1)) (
some (Sum.inl (a0,(a1+1),a2)))))))))) (
some (Sum.inr (Sum.inr (a0,a2))))
theorem LY (F16:fh)(F48:cS):Gi (JP F16 F48)=u3 (o6 F16 F48):=funext fun _=>by kernel_rfl
noncomputable def Gj:=o6 gq P48
noncomputable def vE:Ns:=af (u3 Gj)
theorem LZ:l34_0 (JP gq P48)=vE:=congrArg af (LY gq P48)
theorem RO:L.Fn Try.prog 34 38 [(.t 4)] (erase Ox):=oA Try.func34
def Aj:FSh:=⟨⟨[(.st bx),(.v y8)],[]⟩,[bx,y8],0,⟨⟨jp,[]⟩,[.bool],[],0⟩,true⟩
noncomputable def Oy (F16:fh)(F48:cS)(l34_0:Ns)(a0:bg)(a1:List Y2):Option Bool:=
(l34_0 (a1,0,a0)).bind (fun y3=>Sum.elim (fun y4=>(
some y4.1)) (fun y5=>(
some (decide ((↑y5.1.length:Int)≤100)))) y3)
theorem W7 (F16:fh)(F48:cS):aX (JP F16 F48) Aj [(.t 4)] Ox=u2 (Oy F16 F48 (l34_0 (JP F16 F48))):=funext fun _=>by kernel_rfl
noncomputable def W8:=Oy gq P48 vE
noncomputable def gD:ia:=u2 W8
theorem W9:aX (JP gq P48) Aj [(.t 4)] Ox=gD:=(W7 gq P48).trans (by rw[LZ] <;> rfl)
theorem TF:DC Try.prog 34 Aj gD:=dD W9 W6 RO
noncomputable def xm:List FEnt:=[]
theorem Xa:aq Try.prog xm:=ai
def Gk:LSh:=⟨[1,2,3,7,8,9],⟨j5,k6⟩,[y3,y3,y3,y3,bx,y5],2,[0,1]⟩
def Gl:List XSh:=[⟨(.exit 0),[1,2,3,7,8],⟨⟨[(.v y3),(.v y3),(.ptr 0 0),(.v y3),(.aptr 1 1)],k6⟩,[y3,y3,y3,bx,y5],[0,1],2⟩⟩]
def Gm:LSh:=⟨[1,2,3,7,8,10],⟨j5,k6⟩,[y3,y3,y3,y3,bx,y5],2,[0,1]⟩
def Gn:List XSh:=[⟨(.exit 2),[3,7,8],⟨⟨[(.ptr 0 0),(.v y3),(.aptr 1 1)],k6⟩,[y3,bx,y5],[0,1],2⟩⟩]
def Gp:LSh:=⟨[3,8,12,13],⟨[(.ptr 0 0),(.aptr 1 1),(.v y3),(.v y3)],k6⟩,[y3,y3,bx,y5],2,[0,1]⟩
def Gq:List XSh:=[⟨(.exit 4),[12],⟨⟨lE,k6⟩,[y3,bx,y5],[0,1],2⟩⟩]
noncomputable def JQ:=cN Try.prog [] Try.f76 (.s .n (.s .n (.s (.r [.a 0 false y3]) (.s (.s .n (.b (.l Gk Gl .n))) (.s (.s .n (.b (.l Gm Gn .n))) (.s .n (.s .n (.s (.s .n (.b (.l Gp Gq .n))) .n))))))))
noncomputable def Gr (T:List FEnt):=aI (xs:=Gl) Gk (bG T (sb [1,1,1,0,1,2,2] JQ))
noncomputable def l76_0 (T:List FEnt):=af (Gr T)
noncomputable def Ak (a0 a1 a2 a3:Int)(a4:bg)(a5:List Int):Option (Nr⊕Nn):=
cond (decide (a3 < 10)) (
an (aZ a3 a5.length) (
an (aZ a3 10) (
an (ah .i64 (a3+1)) (
some (Sum.inl (a0,a1,a2,(a3+1),a4,(List.set a5 a3.toNat (-1)))))))) (
some (Sum.inr (a0,a1,a2,a4,a5)))
theorem Ma:Gr xm=u6 Ak:=funext fun _=>by kernel_rfl
noncomputable def Gs:=Ak
noncomputable def L76_0:Nt:=af (u6 Gs)
theorem Mb:l76_0 xm=L76_0:=congrArg af Ma
noncomputable def Gt (T:List FEnt):=aI (xs:=Gn) Gm (bG T (sb [1,1,1,1,0,1,2,2] JQ))
noncomputable def l76_1 (T:List FEnt):=af (Gt T)
noncomputable def vF (a0 a1 a2 a3:Int)(a4:bg)(a5:List Int):Option (Nr⊕Du):=
cond (decide (a3 < (↑a4.2.2.length:Int))) (
an (aZ a3 a4.2.2.length) (
cond (!decide ((ix a4.2.2 a3).2.2.1=a0)) (
an (ah .i64 (a3+1)) (
some (Sum.inl (a0,a1,a2,(a3+1),a4,a5)))) (
cond (!decide ((ix a4.2.2 a3).2.2.2.1=a1)) (
an (ah .i64 (a3+1)) (
some (Sum.inl (a0,a1,a2,(a3+1),a4,a5)))) (
cond (decide ((ix a4.2.2 a3).2.1=2)) (
cond (decide (a2 < 0)) (
an (ah .i64 (a3+1)) (
some (Sum.inl (a0,a1,a3,(a3+1),a4,a5)))) (
an (aZ a2 a4.2.2.length) (
cond (decide ((ix a4.2.2 a2).1 < (ix a4.2.2 a3).1)) (
an (ah .i64 (a3+1)) (
some (Sum.inl (a0,a1,a3,(a3+1),a4,a5)))) (
an (ah .i64 (a3+1)) (
some (Sum.inl (a0,a1,a2,(a3+1),a4,a5))))))) (
an (aZ ((ix a4.2.2 a3).2.2.2.2.1) a5.length) (
an (aZ ((ix a4.2.2 a3).2.2.2.2.1) 10) (
cond (decide ((ix a5 ((ix a4.2.2 a3).2.2.2.2.1)) < 0)) (
an (aZ ((ix a4.2.2 a3).2.2.2.2.1) a5.length) (
an (aZ ((ix a4.2.2 a3).2.2.2.2.1) 10) (
an (ah .i64 (a3+1)) (
some (Sum.inl (a0,a1,a2,(a3+1),a4,(List.set a5 (Int.toNat ((ix a4.2.2 a3).2.2.2.2.1)) a3))))))) (
an (aZ ((ix a4.2.2 a3).2.2.2.2.1) a5.length) (
an (aZ ((ix a4.2.2 a3).2.2.2.2.1) 10) (
an (aZ (ix a5 ((ix a4.2.2 a3).2.2.2.2.1)) a4.2.2.length) (
cond (decide ((ix a4.2.2 (ix a5 ((ix a4.2.2 a3).2.2.2.2.1))).1 < (ix a4.2.2 a3).1)) (
an (aZ ((ix a4.2.2 a3).2.2.2.2.1) a5.length) (
an (aZ ((ix a4.2.2 a3).2.2.2.2.1) 10) (
an (ah .i64 (a3+1)) (
some (Sum.inl (a0,a1,a2,(a3+1),a4,(List.set a5 (Int.toNat ((ix a4.2.2 a3).2.2.2.2.1)) a3))))))) (
an (ah .i64 (a3+1)) (
some (Sum.inl (a0,a1,a2,(a3+1),a4,a5))))))))))))))) (
some (Sum.inr (a2,a4,a5)))
theorem Mc:Gt xm=u6 vF:=funext fun _=>by kernel_rfl
noncomputable def Al:=vF
noncomputable def L76_1:Nu:=af (u6 Al)
theorem Md:l76_1 xm=L76_1:=congrArg af Mc
noncomputable def Gu (T:List FEnt):=aI (xs:=Gq) Gp (bG T (sb [1,1,1,1,1,1,1,0,1,2,2] JQ))
noncomputable def l76_2 (T:List FEnt):=af (Gu T)
noncomputable def Am (a0 a1:Int)(a2:bg)(a3:List Int):Option ((Int×Int×bg×Y1)⊕Du):=
cond (decide (a1 < 10)) (
an (aZ a1 a3.length) (
an (aZ a1 10) (
cond (decide (0≤(ix a3 a1))) (
an (aZ a1 a3.length) (
an (aZ a1 10) (
an (aZ (ix a3 a1) a2.2.2.length) (
an (ah .i64 (a0+(ix a2.2.2 (ix a3 a1)).2.2.2.2.2)) (
an (ah .i64 (a1+1)) (
some (Sum.inl ((a0+(ix a2.2.2 (ix a3 a1)).2.2.2.2.2),(a1+1),a2,a3)))))))) (
an (ah .i64 (a1+1)) (
some (Sum.inl (a0,(a1+1),a2,a3))))))) (
some (Sum.inr (a0,a2,a3)))
theorem Me:Gu xm=u4 Am:=funext fun _=>by kernel_rfl
noncomputable def Gv:=Am
noncomputable def An:Nv:=af (u4 Gv)
theorem Mf:l76_2 xm=An:=congrArg af Me
theorem RP:L.Fn Try.prog 76 109 [(.t 6)] (erase JQ):=oA Try.func76
def Df:FSh:=⟨⟨Ob,[]⟩,[bx,y3,y3],0,⟨⟨lE,[]⟩,[y3],[],0⟩,true⟩
noncomputable def RR (l76_0:Nt)(l76_1:Nu)(l76_2:Nv)(a0:bg)(a1 a2:Int):Option Int:=
(l76_0 (a1,a2,(-1),0,a0,(gB 10 0:List Int))).bind fun y1=>(
(l76_1 (y1.1,y1.2.1,y1.2.2.1,0,y1.2.2.2.1,y1.2.2.2.2)).bind fun y2=>(
cond (decide (0≤y2.1)) (
an (aZ y2.1 y2.2.1.2.2.length) (
some ((ix y2.2.1.2.2 y2.1).2.2.2.2.2))) (
(l76_2 (0,0,y2.2.1,y2.2.2)).bind fun y3=>(
some y3.1))))
theorem g76:aX xm Df [(.t 6)] JQ=u3 (RR (l76_0 xm) (l76_1 xm) (l76_2 xm)):=funext fun _=>by kernel_rfl
noncomputable def TG:=RR L76_0 L76_1 An
noncomputable def Gw:kW:=u3 TG
theorem Xb:aX xm Df [(.t 6)] JQ=Gw:=g76.trans (by rw[Mb,Md,Mf] <;> rfl)
theorem Xc:DC Try.prog 76 Df Gw:=dD Xb Xa RP
noncomputable def JR:List FEnt:=[]
theorem Xd:aq Try.prog JR:=ai
def Gx:LSh:=⟨[5,8,9,10,11],⟨[(.ptr 0 0),(.ptr 1 0),(.ptr 2 0),(.v y3),(.v y3)],k4⟩,[y3,y3,dE,ej,ej],3,[0,1,2]⟩
noncomputable def Oz:=cN Try.prog [] Try.f49 (.s .n (.s .n (.s .n (.s .n (.s (.s .n (.b (.l Gx u0 .n))) .n)))))
noncomputable def Gy (T:List FEnt):=aI (xs:=u0) Gx (bG T (sb [1,1,1,1,0,1,2,2] Oz))
noncomputable def l49_0 (T:List FEnt):=af (Gy T)
noncomputable def vG (a0 a1:Int)(a2:Y7)(a3 a4:cH):Option ((Int×Int×Y7×cH×Int×Int×Int×Int×Int×Int)⊕Dm):=
cond (decide (a1 < (↑a2.2.2.2.2.1.length:Int))) (
an (aZ a1 a2.2.2.2.2.1.length) (
cond (decide ((ix a2.2.2.2.2.1 a1).1≤a4.2.2.1)) (
an (aZ a1 a2.2.2.2.2.1.length) (
an (ah .i64 (a1+1)) (
some (Sum.inl ((max a0 ((ix a2.2.2.2.2.1 a1).2)),(a1+1),a2,a3,a4))))) (
an (ah .i64 (a1+1)) (
some (Sum.inl (a0,(a1+1),a2,a3,a4)))))) (
some (Sum.inr (a0,a2,a3,a4)))
theorem Mg:Gy JR=u5 vG:=funext fun _=>by kernel_rfl
noncomputable def vH:=vG
noncomputable def Ao:Nl:=af (u5 vH)
theorem Mh:l49_0 JR=Ao:=congrArg af Mg
theorem RS:L.Fn Try.prog 49 106 [(.cell 8 true 6)] (erase Oz):=oA Try.func49
def Dg:FSh:=⟨⟨[(.v y3),(.st dE),(.v y3),(.v y3)],[]⟩,[y3,dE,y3,y3],0,⟨⟨[(.st ej)],[]⟩,[ej],[],0⟩,true⟩
noncomputable def RU (l49_0:Nl)(a0:Int)(a1:Y7)(a2 a3:Int):Option cH:=
an (ah .i64 (a3*a0)) (
an (ah .i64 (Int.tdiv (a3*a0) 1000)) (
an (ah .i64 (a3-(Int.tdiv (a3*a0) 1000))) (
an (ah .i64 (a2-a1.2.1)) (
an (ah .i64 ((↑a1.2.2.2.1.length:Int)-1)) (
an (aZ (min (a2-a1.2.1) ((↑a1.2.2.2.1.length:Int)-1)) a1.2.2.2.1.length) (
(l49_0 ((ix a1.2.2.2.1 (min (a2-a1.2.1) ((↑a1.2.2.2.1.length:Int)-1))),0,a1,(0,(0,(0,(0,(0,0))))),(a3,((Int.tdiv (a3*a0) 1000),((a3-(Int.tdiv (a3*a0) 1000)),(0,(0,0))))))).bind fun y1=>(
an (ah .i64 (y1.2.2.2.2.2.1*y1.1)) (
an (ah .i64 (Int.tdiv (y1.2.2.2.2.2.1*y1.1) 1000)) (
an (ah .i64 (y1.2.2.2.2.2.1-y1.2.1.2.2.2.2.2.1)) (
an (ah .i64 ((max 0 (y1.2.2.2.2.2.1-y1.2.1.2.2.2.2.2.1))*y1.2.1.2.2.2.2.2.2.1)) (
an (ah .i64 (Int.tdiv ((max 0 (y1.2.2.2.2.2.1-y1.2.1.2.2.2.2.2.1))*y1.2.1.2.2.2.2.2.2.1) 1000)) (
cond (decide ((max (max (Int.tdiv (y1.2.2.2.2.2.1*y1.1) 1000) (Int.tdiv ((max 0 (y1.2.2.2.2.2.1-y1.2.1.2.2.2.2.2.1))*y1.2.1.2.2.2.2.2.2.1) 1000)) y1.2.1.2.2.2.2.2.2.2.1)=(Int.tdiv (y1.2.2.2.2.2.1*y1.1) 1000))) (
an (ah .i64 (y1.2.2.2.2.2.1-(min y1.2.2.2.2.2.1 (max (max (Int.tdiv (y1.2.2.2.2.2.1*y1.1) 1000) (Int.tdiv ((max 0 (y1.2.2.2.2.2.1-y1.2.1.2.2.2.2.2.1))*y1.2.1.2.2.2.2.2.2.1) 1000)) y1.2.1.2.2.2.2.2.2.2.1)))) (
some (y1.2.2.2.1,(y1.2.2.2.2.1,(y1.2.2.2.2.2.1,((min y1.2.2.2.2.2.1 (max (max (Int.tdiv (y1.2.2.2.2.2.1*y1.1) 1000) (Int.tdiv ((max 0 (y1.2.2.2.2.2.1-y1.2.1.2.2.2.2.2.1))*y1.2.1.2.2.2.2.2.2.1) 1000)) y1.2.1.2.2.2.2.2.2.2.1)),((y1.2.2.2.2.2.1-(min y1.2.2.2.2.2.1 (max (max (Int.tdiv (y1.2.2.2.2.2.1*y1.1) 1000) (Int.tdiv ((max 0 (y1.2.2.2.2.2.1-y1.2.1.2.2.2.2.2.1))*y1.2.1.2.2.2.2.2.2.1) 1000)) y1.2.1.2.2.2.2.2.2.2.1))),1))))))) (
cond (decide ((max (max (Int.tdiv (y1.2.2.2.2.2.1*y1.1) 1000) (Int.tdiv ((max 0 (y1.2.2.2.2.2.1-y1.2.1.2.2.2.2.2.1))*y1.2.1.2.2.2.2.2.2.1) 1000)) y1.2.1.2.2.2.2.2.2.2.1)=(Int.tdiv ((max 0 (y1.2.2.2.2.2.1-y1.2.1.2.2.2.2.2.1))*y1.2.1.2.2.2.2.2.2.1) 1000))) (
an (ah .i64 (y1.2.2.2.2.2.1-(min y1.2.2.2.2.2.1 (max (max (Int.tdiv (y1.2.2.2.2.2.1*y1.1) 1000) (Int.tdiv ((max 0 (y1.2.2.2.2.2.1-y1.2.1.2.2.2.2.2.1))*y1.2.1.2.2.2.2.2.2.1) 1000)) y1.2.1.2.2.2.2.2.2.2.1)))) (
some (y1.2.2.2.1,(y1.2.2.2.2.1,(y1.2.2.2.2.2.1,((min y1.2.2.2.2.2.1 (max (max (Int.tdiv (y1.2.2.2.2.2.1*y1.1) 1000) (Int.tdiv ((max 0 (y1.2.2.2.2.2.1-y1.2.1.2.2.2.2.2.1))*y1.2.1.2.2.2.2.2.2.1) 1000)) y1.2.1.2.2.2.2.2.2.2.1)),((y1.2.2.2.2.2.1-(min y1.2.2.2.2.2.1 (max (max (Int.tdiv (y1.2.2.2.2.2.1*y1.1) 1000) (Int.tdiv ((max 0 (y1.2.2.2.2.2.1-y1.2.1.2.2.2.2.2.1))*y1.2.1.2.2.2.2.2.2.1) 1000)) y1.2.1.2.2.2.2.2.2.2.1))),2))))))) (
an (ah .i64 (y1.2.2.2.2.2.1-(min y1.2.2.2.2.2.1 (max (max (Int.tdiv (y1.2.2.2.2.2.1*y1.1) 1000) (Int.tdiv ((max 0 (y1.2.2.2.2.2.1-y1.2.1.2.2.2.2.2.1))*y1.2.1.2.2.2.2.2.2.1) 1000)) y1.2.1.2.2.2.2.2.2.2.1)))) (
some (y1.2.2.2.1,(y1.2.2.2.2.1,(y1.2.2.2.2.2.1,((min y1.2.2.2.2.2.1 (max (max (Int.tdiv (y1.2.2.2.2.2.1*y1.1) 1000) (Int.tdiv ((max 0 (y1.2.2.2.2.2.1-y1.2.1.2.2.2.2.2.1))*y1.2.1.2.2.2.2.2.2.1) 1000)) y1.2.1.2.2.2.2.2.2.2.1)),((y1.2.2.2.2.2.1-(min y1.2.2.2.2.2.1 (max (max (Int.tdiv (y1.2.2.2.2.2.1*y1.1) 1000) (Int.tdiv ((max 0 (y1.2.2.2.2.2.1-y1.2.1.2.2.2.2.2.1))*y1.2.1.2.2.2.2.2.2.1) 1000)) y1.2.1.2.2.2.2.2.2.2.1))),3))))))))))))))))))))
theorem g49:aX JR Dg [(.cell 8 true 6)] Oz=u4 (RU (l49_0 JR)):=funext fun _=>by kernel_rfl
noncomputable def TH:=RU Ao
noncomputable def Gz:gE:=u4 TH
theorem Xe:aX JR Dg [(.cell 8 true 6)] Oz=Gz:=g49.trans (by rw[Mh] <;> rfl)
theorem Xf:DC Try.prog 49 Dg Gz:=dD Xe Xd RS
noncomputable def RW (F76:kW)(F49:gE):List FEnt:=[⟨76,Df,F76⟩,⟨49,Dg,F49⟩]
theorem Xg:aq Try.prog (RW Gw Gz):=dK (dK ai Xf) Xc
noncomputable def RX:=cN Try.prog [(1,{ch:=[0,1,1,0,0,0,0,0,0,0,0],rs:=[3,4] })] Try.f52 .n
theorem RY:L.Fn Try.prog 52 17 [(.cell 6 true 6)] (erase RX):=oA Try.func52
def Dh:FSh:=⟨⟨P7,[]⟩,[bx,dE,y3],0,⟨⟨[(.st ej)],[]⟩,[ej],[],0⟩,true⟩
noncomputable def RZ (F76:kW)(F49:gE)(a0:bg)(a1:Y7)(a2:Int):Option cH:=
(F76 (a0,a1.1,a2)).bind fun r1=>(
(F49 (a0.1,a1,a2,r1)).bind fun r2=>(
some r2))
theorem Xh (F76:kW)(F49:gE):aX (RW F76 F49) Dh [(.cell 6 true 6)] RX=u3 (RZ F76 F49):=funext fun _=>by kernel_rfl
noncomputable def TI:=RZ Gw Gz
noncomputable def Ap:w7:=u3 TI
theorem Xi:aX (RW Gw Gz) Dh [(.cell 6 true 6)] RX=Ap:=Xh Gw Gz
theorem Xj:DC Try.prog 52 Dh Ap:=dD Xi Xg RY
noncomputable def JS (F52:w7):List FEnt:=[⟨52,Dh,F52⟩]
theorem Xk:aq Try.prog (JS Ap):=dK ai Xj
noncomputable def OA:=cN Try.prog [] Try.f53 (.s .n (.s .n (.s (.s .n (.b (.l ve vg .n))) .n)))
noncomputable def GA (T:List FEnt):=aI (xs:=vg) ve (bG T (sb [1,1,0,1,2,2] OA))
noncomputable def l53_0 (T:List FEnt):=af (GA T)
noncomputable def vI (F52:w7)(a0 a1 a2:Int)(a3:bg)(a4:Y7):Option MU:=
cond (decide (a2≤(min a0 a4.2.2.1))) (
(F52 (a3,a4,a2)).bind fun r1=>(
an (ah .i64 (a1+r1.2.2.2.1)) (
an (ah .i64 (a2+1)) (
some (Sum.inl (a0,(a1+r1.2.2.2.1),(a2+1),a3,a4)))))) (
some (Sum.inr (a0,a1,a3,a4)))
theorem Mi (F52:w7):GA (JS F52)=u5 (vI F52):=funext fun _=>by kernel_rfl
noncomputable def Aq:=vI Ap
noncomputable def Ar:Dq:=af (u5 Aq)
theorem Mj:l53_0 (JS Ap)=Ar:=congrArg af (Mi Ap)
theorem R0:L.Fn Try.prog 53 35 [(.t 6)] (erase OA):=oA Try.func53
def Di:FSh:=⟨⟨P7,[]⟩,[bx,dE,y3],0,⟨⟨lE,[]⟩,[y3],[],0⟩,true⟩
noncomputable def R1 (F52:w7)(l53_0:Dq)(a0:bg)(a1:Y7)(a2:Int):Option Int:=
(l53_0 (a2,0,a1.2.1,a0,a1)).bind fun y2=>(
cond (decide (y2.2.2.2.2.2.1≤y2.1)) (
some (max y2.2.1 y2.2.2.2.2.2.2.2.2.2.2.2)) (
some y2.2.1))
theorem Xl (F52:w7):aX (JS F52) Di [(.t 6)] OA=u3 (R1 F52 (l53_0 (JS F52))):=funext fun _=>by kernel_rfl
noncomputable def TJ:=R1 Ap Ar
noncomputable def pZ:gr:=u3 TJ
theorem Xm:aX (JS Ap) Di [(.t 6)] OA=pZ:=(Xl Ap).trans (by rw[Mj] <;> rfl)
theorem Xn:DC Try.prog 53 Di pZ:=dD Xm Xk R0
noncomputable def Dj (F20:dG)(F48:cS)(F34:ia)(F16:fh)(F53:gr):List FEnt:=[⟨20,Ai,F20⟩,⟨48,rz,F48⟩,⟨34,Aj,F34⟩,⟨16,wU,F16⟩,⟨53,Di,F53⟩]
theorem Xo:aq Try.prog (Dj gz P48 gD gq pZ):=dK (dK (dK (dK (dK ai Xn) RH) TF) LJ) TE
def GB:LSh:=⟨[1,2,3,6,7,10,13,14],⟨[(.v y3),(.v y8),(.ptr 0 0),(.slc 1),(.slc 2),(.v y3),(.v y3),(.v y3)],k3⟩,[y3,y8,y3,y3,y3,bx,y8,y8],3,[0,1,2]⟩
def GC:List XSh:=[⟨(.exit 2),[1,2,3,6,7,10,13],⟨⟨[(.v y3),(.v y8),(.ptr 0 0),(.slc 1),(.slc 2),(.v y3),(.v y3)],k3⟩,[y3,y8,y3,y3,bx,y8,y8],[0,1,2],3⟩⟩]
def GD:LSh:=⟨[1,2,3,6,7,10],⟨[(.v y3),(.v y8),(.ptr 0 0),(.slc 1),(.slc 2),(.v y3)],k3⟩,[y3,y8,y3,bx,y8,y8],3,[0]⟩
def GE:List XSh:=[⟨(.exit 0),[6,7],⟨⟨[(.slc 1),(.slc 2)],k3⟩,[bx,y8,y8],[0],3⟩⟩]
noncomputable def Ml:=cN Try.prog [] Try.f37 (.s .n (.s .n (.s .n (.s .n (.s (.s .n (.b (.l GD GE (.s .n (.s (.b (.s .n (.s .n (.s .n (.s (.s .n (.b (.l GB GC .n))) (.s (.s .n (.s (.r [.a 4 true y6,.a 5 true y6]) .n)) (.s .n (.s (.r [.a 5 true y6,.a 6 true y6]) .n)))))))) .n))))) .n)))))
noncomputable def GF (T:List FEnt):=aI (xs:=GC) GB (bG T (sb [1,1,1,1,0,1,2,2,1,0,2,1,1,1,0,1,2,2] Ml))
noncomputable def l37_1 (T:List FEnt):=af (GF T)
noncomputable def o7 (F20:dG)(F48:cS)(F34:ia)(F16:fh)(F53:gr)(a0:Int)(a1:List Y2)(a2 a3 a4:Int)(a5:bg)(a6 a7:List Y2):Option ((Int×Y4×Int×Int×Int×bg×Y4×Y4)⊕No):=
cond (decide (a4 < (↑a1.length:Int))) (
an (aZ a4 a1.length) (
cond (decide ((ix a1 a4).1=a2)) (
an (aZ a4 a1.length) (
an (ah .i64 (a3-(ix a1 a4).2)) (
an (ah .i64 (a4+1)) (
some (Sum.inl (a0,a1,a2,(a3-(ix a1 a4).2),(a4+1),a5,a6,a7)))))) (
an (ah .i64 (a4+1)) (
some (Sum.inl (a0,a1,a2,a3,(a4+1),a5,a6,a7)))))) (
some (Sum.inr (a0,a1,a2,a3,a5,a6,a7)))
theorem Mm (F20:dG)(F48:cS)(F34:ia)(F16:fh)(F53:gr):GF (Dj F20 F48 F34 F16 F53)=u8 (o7 F20 F48 F34 F16 F53):=funext fun _=>by kernel_rfl
noncomputable def GG:=o7 gz P48 gD gq pZ
noncomputable def vJ:Nw:=af (u8 GG)
theorem Mn:l37_1 (Dj gz P48 gD gq pZ)=vJ:=congrArg af (Mm gz P48 gD gq pZ)
noncomputable def GH (T:List FEnt):=aI (xs:=GE) GD (bG T (sb [1,1,1,1,0,1,2,2] Ml))
noncomputable def l37_0 (T:List FEnt):=af (GH T)
noncomputable def vK (F20:dG)(F48:cS)(F34:ia)(F16:fh)(F53:gr)(l37_1:Nw)(a0:Int)(a1:List Y2)(a2:Int)(a3:bg)(a4 a5:List Y2):Option ((Int×Y4×Int×bg×Y4×Y4)⊕II):=
cond (decide (a2≤99)) (
(F16 (a3,a2)).bind fun r4=>(
cond (!r4.2) (
an (ah .i64 (a2+1)) (
some (Sum.inl (a0,a1,(a2+1),a3,a4,a5)))) (
(F53 (a3,r4.1,a0)).bind fun r5=>(
(l37_1 (a0,a1,a2,r5,0,a3,a4,a5)).bind fun y6=>(
cond (decide (0 < y6.2.2.2.1)) (
an (bD 16 (List.length y6.2.2.2.2.2.1+List.length ([(y6.2.2.1,y6.2.2.2.1)]:List Y2))) (
cond (decide (y6.2.2.2.1 < 0)) (
an (ah .i64 (0-y6.2.2.2.1)) (
an (bD 16 (List.length y6.2.2.2.2.2.2+List.length ([(y6.2.2.1,(0-y6.2.2.2.1))]:List Y2))) (
an (ah .i64 (y6.2.2.1+1)) (
some (Sum.inl (y6.1,y6.2.1,(y6.2.2.1+1),y6.2.2.2.2.1,(y6.2.2.2.2.2.1++([(y6.2.2.1,y6.2.2.2.1)]:List Y2)),(y6.2.2.2.2.2.2++([(y6.2.2.1,(0-y6.2.2.2.1))]:List Y2)))))))) (
an (ah .i64 (y6.2.2.1+1)) (
some (Sum.inl (y6.1,y6.2.1,(y6.2.2.1+1),y6.2.2.2.2.1,(y6.2.2.2.2.2.1++([(y6.2.2.1,y6.2.2.2.1)]:List Y2)),y6.2.2.2.2.2.2)))))) (
cond (decide (y6.2.2.2.1 < 0)) (
an (ah .i64 (0-y6.2.2.2.1)) (
an (bD 16 (List.length y6.2.2.2.2.2.2+List.length ([(y6.2.2.1,(0-y6.2.2.2.1))]:List Y2))) (
an (ah .i64 (y6.2.2.1+1)) (
some (Sum.inl (y6.1,y6.2.1,(y6.2.2.1+1),y6.2.2.2.2.1,y6.2.2.2.2.2.1,(y6.2.2.2.2.2.2++([(y6.2.2.1,(0-y6.2.2.2.1))]:List Y2)))))))) (
an (ah .i64 (y6.2.2.1+1)) (
some (Sum.inl (y6.1,y6.2.1,(y6.2.2.1+1),y6.2.2.2.2.1,y6.2.2.2.2.2.1,y6.2.2.2.2.2.2)))))))))) (
some (Sum.inr (a3,a4,a5)))
theorem Mo (F20:dG)(F48:cS)(F34:ia)(F16:fh)(F53:gr):GH (Dj F20 F48 F34 F16 F53)=u6 (vK F20 F48 F34 F16 F53 (l37_1 (Dj F20 F48 F34 F16 F53))):=funext fun _=>by kernel_rfl
noncomputable def GI:=vK gz P48 gD gq pZ vJ
noncomputable def vL:Nx:=af (u6 GI)
theorem Mp:l37_0 (Dj gz P48 gD gq pZ)=vL:=congrArg af ((Mo gz P48 gD gq pZ).trans (by rw[Mn] <;> rfl))
theorem R2:L.Fn Try.prog 37 82 [(.t 6),(.t 7),(.t 8)] (erase Ml):=oA Try.func37
def Dk:FSh:=⟨⟨Ot,[]⟩,[bx,y3,y8],0,⟨⟨[(.tup [(.slc 0),(.slc 1),(.v y3)])],[(0,(.row 69 y6)),(1,(.row 69 y6))]⟩,[y3,y8,y8],[],2⟩,true⟩
noncomputable def OB (F20:dG)(F48:cS)(F34:ia)(F16:fh)(F53:gr)(l37_0:Nx)(a0:bg)(a1:Int)(a2:List Y2):Option IG:=
(F20 a0).bind fun r1=>(
cond (!decide (r1=0)) (
some (r1,([]:List Y2),([]:List Y2))) (
(F48 (a1,0,99)).bind fun r2=>(
cond (!r2) (
some (1,([]:List Y2),([]:List Y2))) (
(F34 (a0,a2)).bind fun r3=>(
cond (!r3) (
some (82,([]:List Y2),([]:List Y2))) (
(l37_0 (a1,a2,0,a0,([]:List Y2),([]:List Y2))).bind fun y7=>(
some (0,y7.2.1,y7.2.2))))))))
theorem Xp (F20:dG)(F48:cS)(F34:ia)(F16:fh)(F53:gr):aX (Dj F20 F48 F34 F16 F53) Dk [(.t 6),(.t 7),(.t 8)] Ml=u3 (OB F20 F48 F34 F16 F53 (l37_0 (Dj F20 F48 F34 F16 F53))):=funext fun _=>by kernel_rfl
noncomputable def Xq:=OB gz P48 gD gq pZ vL
noncomputable def GJ:jq:=u3 Xq
theorem Xr:aX (Dj gz P48 gD gq pZ) Dk [(.t 6),(.t 7),(.t 8)] Ml=GJ:=(Xp gz P48 gD gq pZ).trans (by rw[Mp] <;> rfl)
theorem Xs:DC Try.prog 37 Dk GJ:=dD Xr Xo R2
noncomputable def JT:List FEnt:=[]
theorem Xt:aq Try.prog JT:=ai
def GK:LSh:=⟨[0,1,5],⟨[(.v y8),(.v y8),(.v y3)],[]⟩,[y8,y8,y3],0,[]⟩
def GL:List XSh:=[⟨.ret,[4],⟨⟨jp,[]⟩,[.bool],[],0⟩⟩,⟨(.exit 0),[],⟨⟨[],[]⟩,[],[],0⟩⟩]
noncomputable def OC:=cN Try.prog [] Try.f36 (.s .n (.s .n (.s (.s .n (.b (.l GK GL .n))) .n)))
noncomputable def GM (T:List FEnt):=aI (xs:=GL) GK (bG T (sb [1,1,0,1,2,2] OC))
noncomputable def l36_0 (T:List FEnt):=af (GM T)
noncomputable def o8 (a0 a1:List Y2)(a2:Int):Option ((Y4×Y4×Int)⊕Nj):=
cond (decide (a2 < (↑a0.length:Int))) (
an (aZ a2 a0.length) (
an (aZ a2 a1.length) (
cond (!(decide ((ix a0 a2).1=(ix a1 a2).1)&&decide ((ix a0 a2).2=(ix a1 a2).2))) (
some (Sum.inr (Sum.inl false))) (
an (ah .i64 (a2+1)) (
some (Sum.inl (a0,a1,(a2+1)))))))) (
some (Sum.inr (Sum.inr ())))
theorem Mq:GM JT=u3 o8:=funext fun _=>by kernel_rfl
noncomputable def GN:=o8
noncomputable def vM:Nk:=af (u3 GN)
theorem Mr:l36_0 JT=vM:=congrArg af Mq
theorem R3:L.Fn Try.prog 36 26 [(.t 4)] (erase OC):=oA Try.func36
def As:FSh:=⟨⟨[(.v y8),(.v y8)],[]⟩,[y8,y8],0,⟨⟨jp,[]⟩,[.bool],[],0⟩,true⟩
noncomputable def OD (l36_0:Nk)(a0 a1:List Y2):Option Bool:=
cond (!decide ((↑a0.length:Int)=(↑a1.length:Int))) (
some false) (
(l36_0 (a0,a1,0)).bind (fun y1=>Sum.elim (fun y2=>(
some y2)) (fun y3=>(
some true)) y1))
theorem g36:aX JT As [(.t 4)] OC=u2 (OD (l36_0 JT)):=funext fun _=>by kernel_rfl
noncomputable def Xu:=OD vM
noncomputable def kj:kZ:=u2 Xu
theorem Xv:aX JT As [(.t 4)] OC=kj:=g36.trans (by rw[Mr] <;> rfl)
theorem TK:DC Try.prog 36 As kj:=dD Xv Xt R3
noncomputable def R4 (F23:rC)(F15:kY)(F24:Ds)(F35:jq)(F37:jq)(F36:kZ):List FEnt:=[⟨23,yN,F23⟩,⟨15,zP,F15⟩,⟨24,CV,F24⟩,⟨35,z5,F35⟩,⟨37,Dk,F37⟩,⟨36,As,F36⟩]
theorem Xw:aq Try.prog (R4 jY jv CW kh GJ kj):=dK (dK (dK (dK (dK (dK ai TK) Xs) Tx) V9) Tq) SH
noncomputable def R5:=cN Try.prog [] Try.f13 (.s .n (.s .n (.s (.r [.a 3 true y6,.a 5 true y6]) .n)))
theorem R6:L.Fn Try.prog 13 56 [(.t 6)] (erase R5):=oA Try.func13
def Iz:FSh:=⟨⟨Ot,[]⟩,[bx,y3,y8],0,⟨⟨jp,[]⟩,[.bool],[],0⟩,true⟩
noncomputable def OE (F23:rC)(F15:kY)(F24:Ds)(F35 F37:jq)(F36:kZ)(a0:bg)(a1:Int)(a2:List Y2):Option Bool:=
(F23 a0).bind fun r1=>(
cond r1 (
(F15 ()).bind fun r2=>(
some r2)) (
cond (decide (150 < (↑a2.length:Int))) (
(F15 ()).bind fun r3=>(
some r3)) (
(F24 a0).bind fun r4=>(
an (bD 16 (List.length ([]:List Y2)+List.length a2)) (
(F35 (r4,a1,(([]:List Y2)++a2))).bind fun r5=>(
(F37 (a0,a1,a2)).bind fun r6=>(
(F36 (r5.2.1,r6.2.1)).bind fun r7=>(
cond r7 (
(F36 (r5.2.2,r6.2.2)).bind fun r8=>(
cond r8 (
cond (decide (r5.1=r6.1)) (
(F15 ()).bind fun r9=>(
some r9)) (
some false)) (
some false))) (
some false)))))))))
theorem Xx (F23:rC)(F15:kY)(F24:Ds)(F35 F37:jq)(F36:kZ):aX (R4 F23 F15 F24 F35 F37 F36) Iz [(.t 6)] R5=u3 (OE F23 F15 F24 F35 F37 F36):=funext fun _=>by kernel_rfl
noncomputable def Xy:=OE jY jv CW kh GJ kj
noncomputable def OF:Np:=u3 Xy
theorem Xz:aX (R4 jY jv CW kh GJ kj) Iz [(.t 6)] R5=OF:=Xx jY jv CW kh GJ kj
theorem d13:DC Try.prog 13 Iz OF:=dD Xz Xw R6
end Go.Proofs.Ytfknkinmnecoeaa.D
