import Derived.Test.YtdkaijofmigmbaaY0p
import Derived.Test.YtdkaijofmigmbaaGYp
import Derived.Test.YtdkaijofmigmbaaProg
set_option linter.unusedVariables false
set_option maxRecDepth 100000
namespace Go.Proofs.Ytdkaijofmigmbaa.D
open Go Go.Proofs Go.Proofs.Ytdkaijofmigmbaa.L
def z1:List Ty:=[y7,y7,y7,y7,y7,y7,y7,mh,.bool,y7,y32,y19,y7,y19,y53]
def z2:List Ty:=[y7,y7,y7,mh,.bool,y7,y32,y19,y7,y19,y53]
def z3:List Ty:=[y7,mh,.bool,y7,y32,y19,y7,y19,y53]
def z4:List Ty:=[y7,mh,.bool,y7,y19,y7,y32,y19,y53]
def z8:List Ty:=[y7,y19,y7,y32,y19,y53]
def pT:List RSh:=[(.tup [])]
def Ke:List RSh:=[(.v y7),(.v y7),(.v y7)]
def lf:List RSh:=[(.v .bool)]
def yC:List RSh:=[(.v y19),(.v y7),(.slr 5),(.mp 7),(.slc 8)]
def Kf:List RSh:=[(.ptr 0 0),(.ptr 1 0),(.ptr 2 0)]
def yD:List RSh:=[(.ptr 6 0)]
def j1:List RSh:=[(.fn 1048576 [(.ptr 0 0),(.ptr 1 0),(.ptr 2 0)]),(.ptr 3 0),(.ptr 4 0),(.v y7),(.irow 5),(.slr 5),(.v y7),(.v y7),(.v y7),(.v y7)]
def j2:List RSh:=[(.fn 1048576 [(.ptr 0 0),(.ptr 1 0),(.ptr 2 0)]),(.ptr 3 0),(.ptr 4 0),(.slr 5),(.v y7),(.v y7)]
def NA:List RSh:=[(.v y19),(.v y7),(.slr 6),(.mp 7),(.slc 8)]
def FI:List RSh:=[(.ptr 0 0),(.v y7)]
def At:List RSh:=[(.ptr 0 0)]
def k9:List (Nat×OSh):=[(0,(.boxT di)),(1,.raw),(2,(.box [(.slc 3)])),(3,(.row 40 eI))]
def k4:List (Nat×OSh):=[(0,(.box [(.v y19),(.v y7),(.slr 1),(.mp 2),(.slc 3)])),(1,(.rows 22 3 y7)),(2,(.pmap 4)),(3,(.row 3 y7)),(4,(.pool eI))]
set_option linter.unusedSectionVars false
variable [YP]
theorem me:Try.prog.follows .mixedOrders=true:=by kernel_rfl
theorem oA {f:FuncId}{fn:Func}(hf:Try.prog.funcs[f]?=some fn){cs:List (Nat×RCh)}{n:Nat}{rs:List Res}{H:HT}(h:(Fy Try.prog cs fn).map (fun x=>(x.1,x.2.1))=some (n,rs):=by kernel_rfl)(e:Nat.beq f YB=false:=by rfl):L.Fn Try.prog f n rs (erase (cI Try.prog cs fn H)):=Fn.ofA me hf cs H h e
noncomputable def tQ (FYa:t6):List FEnt:=[⟨1048576,shYa,FYa⟩]
theorem Kg (FYa:t6)(h:DC Try.prog 1048576 shYa FYa):am Try.prog (tQ FYa):=(ca h (by kernel_rfl) aa)
def vO:LSh:=⟨[0,5,6,7],⟨[(.fn 1048576 [(.ptr 0 0),(.ptr 1 0)]),(.v di),(.v y7),(.v y7)],[(0,.raw),(1,(.box [(.slc 2)])),(2,(.row 40 eI))]⟩,[di,y7,y7,y7,di],3,[0,1]⟩
def vP:List XSh:=[⟨.ret,[],⟨⟨[],[(0,.raw),(1,(.box [(.slc 2)])),(2,(.row 40 eI))]⟩,[y7,di],[0,1],3⟩⟩,⟨(.exit 0),[],⟨⟨[],[(0,.raw),(1,(.box [(.slc 2)])),(2,(.row 40 eI))]⟩,[y7,di],[0,1],3⟩⟩]
noncomputable def yE:=cI Try.prog [] Try.f110 (.s .n (.b (.l vO vP .n)))
noncomputable def vQ (T:List FEnt):=aV (xs:=vP) vO (bR T (sb [1,2,2] yE))
noncomputable def l110_0 (T:List FEnt):=ah (vQ T)
noncomputable def vR (FYa:t6)(a0:List Y1)(a1 a2 a3:Int)(a4:List Y1):Option ((Y8×Int×Int×Int×Y8)⊕Oh):=
cond (decide (a2 < a1)) (
au (bF a2 a0.length) (
(FYa ((ix a0 a2),a3,a4)).bind fun r1=>(
cond (!r1.1) (
some (Sum.inr (Sum.inl (r1.2.1,r1.2.2)))) (
au (an .i64 (a2+1)) (
some (Sum.inl (a0,a1,(a2+1),r1.2.1,r1.2.2))))))) (
some (Sum.inr (Sum.inr (a3,a4))))
theorem DZ (FYa:t6):vQ (tQ FYa)=u5 (vR FYa):=funext fun _=>by kernel_rfl
noncomputable def Ea (FYa:t6):=vR FYa
noncomputable def vS (FYa:t6):Ol:=ah (u5 (Ea FYa))
theorem Eb (FYa:t6):l110_0 (tQ FYa)=vS FYa:=congrArg ah (DZ FYa)
theorem Gw:L.Fn Try.prog 110 16 [] (erase yE):=oA Try.func110
def nl:FSh:=⟨⟨[(.fn 1048576 [(.ptr 1 0),(.ptr 2 0)]),(.ptr 0 0)],k9⟩,[di,y7,di],4,⟨⟨pT,k9⟩,[di,y7,di],[0,1,2],4⟩,false⟩
noncomputable def Gx (FYa:t6)(l110_0:Ol)(a0:List Y1)(a1:Int)(a2:List Y1):Option Oe:=
(l110_0 (a0,(↑a0.length:Int),0,a1,a2)).bind (fun y2=>Sum.elim (fun y3=>(
some (a0,y3.1,y3.2))) (fun y4=>(
some (a0,y4.1,y4.2))) y2)
theorem Kh (FYa:t6):aQ (tQ FYa) nl [] yE=u3 (Gx FYa (l110_0 (tQ FYa))):=funext fun _=>by kernel_rfl
noncomputable def Ki (FYa:t6):=Gx FYa (vS FYa)
noncomputable def qN (FYa:t6):Y8×Int×Y8→Option Oe:=fun x=>Ki FYa x.1 x.2.1 x.2.2
theorem Kj (FYa:t6):aQ (tQ FYa) nl [] yE=qN FYa:=(Kh FYa).trans (by rw[Eb FYa] <;> rfl)
theorem Kk (FYa:t6)(h:DC Try.prog 1048576 shYa FYa):DC Try.prog 110 nl (qN FYa):=rP (Kj FYa) (fi (Kg FYa h) Gw (by kernel_rfl))
noncomputable def Kl:List FEnt:=[]
theorem ON:am Try.prog Kl:=aa
noncomputable def Km:=cI Try.prog [] Try.f60 .n
theorem Kn:L.Fn Try.prog 60 15 [(.t 6)] (erase Km):=oA Try.func60
def mu:FSh:=⟨⟨Ke,[]⟩,[y7,y7,y7],0,⟨⟨lf,[]⟩,[.bool],[],0⟩,true⟩
noncomputable def NB (a0 a1 a2:Int):Option Bool:=
cond (decide (a1≤a0)) (
some (decide (a0≤a2))) (
some false)
theorem OO:aQ Kl mu [(.t 6)] Km=u3 NB:=funext fun _=>by kernel_rfl
noncomputable def OP:=NB
noncomputable def P60:Y5:=u3 OP
theorem OQ:aQ Kl mu [(.t 6)] Km=P60:=OO
theorem Ec:DC Try.prog 60 mu P60:=dD OQ ON Kn
noncomputable def Ko (F60:Y5):List FEnt:=[⟨60,mu,F60⟩]
theorem OR:am Try.prog (Ko P60):=dK aa Ec
noncomputable def Kp:=cI Try.prog [] Try.f97 .n
theorem Kq:L.Fn Try.prog 97 31 [(.t 6)] (erase Kp):=oA Try.func97
def yF:FSh:=⟨⟨[(.ptr 0 0),(.v y7),(.v y7)],k4⟩,[y7,y7,y19,y7,y32,y19,y53],5,⟨⟨lf,k4⟩,[.bool,y19,y7,y32,y19,y53],[0,1,2,3,4],5⟩,false⟩
noncomputable def NC (F60:Y5)(a0 a1:Int)(a2:List Int)(a3:Int)(a4:List Y2)(a5:List Int)(a6:List Y3):Option Oc:=
au (bF a0 a4.length) (
au (an .i64 ((↑(List.length (ix a4 a0)):Int)-1)) (
(F60 (a1,0,((↑(List.length (ix a4 a0)):Int)-1))).bind fun r1=>(
cond r1 (
au (bF a0 a4.length) (
au (bF a1 (List.length (ix a4 a0))) (
some (decide ((ix (ix a4 a0) a1)=(-1)),a2,a3,a4,a5,a6)))) (
some (false,a2,a3,a4,a5,a6)))))
theorem OS (F60:Y5):aQ (Ko F60) yF [(.t 6)] Kp=u7 (NC F60):=funext fun _=>by kernel_rfl
noncomputable def OT:=NC P60
noncomputable def qO:xt:=u7 OT
theorem OU:aQ (Ko P60) yF [(.t 6)] Kp=qO:=OS P60
theorem OV:DC Try.prog 97 yF qO:=dD OU OR Kq
noncomputable def uo (F97:xt)(FYb:mg):List FEnt:=[⟨97,yF,F97⟩,⟨1048576,shYb,FYb⟩]
theorem OW (FYb:mg)(h:DC Try.prog 1048576 shYb FYb):am Try.prog (uo qO FYb):=(ca OV (by kernel_rfl) (ca h (by kernel_rfl) aa))
def Au:LSh:=⟨[0,1,2,4,5,6,13,14,15,24,25,28,29],⟨[(.fn 1048576 Kf),(.ptr 3 0),(.ptr 4 0),(.v y7),(.irow 5),(.v y7),(.slr 5),(.v y7),(.v y7),(.v y7),(.v y7),(.v y7),(.v y7)],[(0,.raw),(1,(.boxT mh)),(2,(.boxT .bool)),(3,(.box yD)),(4,(.boxT y7)),(5,(.rows 22 3 y7)),(6,(.box yC)),(7,(.pmap 9)),(8,(.row 3 y7)),(9,(.pool eI))]⟩,[y7,y7,y7,y7,y7,y7,y7,y7,y7,y7,mh,.bool,y7,y32,y19,y7,y19,y53],10,[0,1,2,3,4,5,6,7,8,9]⟩
def Av:List XSh:=[⟨(.exit 3),[0,1,2,4,5,13,14,15,24,25],⟨⟨j1,[(0,.raw),(1,(.boxT mh)),(2,(.boxT .bool)),(3,(.box yD)),(4,(.boxT y7)),(5,(.rows 22 3 y7)),(6,(.box yC)),(7,(.pmap 9)),(8,(.row 3 y7)),(9,(.pool eI))]⟩,z1,[0,1,2,3,4,5,6,7,8,9],10⟩⟩,⟨(.exit 4),[0,1,2,4,5,6,13,14,15,24,25],⟨⟨[(.fn 1048576 Kf),(.ptr 3 0),(.ptr 4 0),(.v y7),(.irow 5),(.v y7),(.slr 5),(.v y7),(.v y7),(.v y7),(.v y7)],[(0,.raw),(1,(.boxT mh)),(2,(.boxT .bool)),(3,(.box yD)),(4,(.boxT y7)),(5,(.rows 22 3 y7)),(6,(.box yC)),(7,(.pmap 9)),(8,(.row 3 y7)),(9,(.pool eI))]⟩,[y7,y7,y7,y7,y7,y7,y7,y7,mh,.bool,y7,y32,y19,y7,y19,y53],[0,1,2,3,4,5,6,7,8,9],10⟩⟩]
def Aw:LSh:=⟨[0,1,2,4,5,13,14,15,24,25],⟨j1,[(0,.raw),(1,(.boxT mh)),(2,(.boxT .bool)),(3,(.box yD)),(4,(.boxT y7)),(5,(.rows 22 3 y7)),(6,(.box yC)),(7,(.pmap 9)),(8,(.row 3 y7)),(9,(.pool eI))]⟩,z1,10,[0,1,2,3,4,5,6,7,8,9]⟩
def Ax:List XSh:=[⟨.ret,[],⟨⟨[],[(0,.raw),(1,(.boxT mh)),(2,(.boxT .bool)),(3,(.box yD)),(4,(.boxT y7)),(5,(.rows 22 3 y7)),(6,(.box yC)),(7,(.pmap 9)),(8,(.row 3 y7)),(9,(.pool eI))]⟩,z3,[0,1,2,3,4,5,6,7,8,9],10⟩⟩,⟨(.exit 2),[0,1,2,13,14,15],⟨⟨j2,[(0,.raw),(1,(.boxT mh)),(2,(.boxT .bool)),(3,(.box yD)),(4,(.boxT y7)),(5,(.rows 22 3 y7)),(6,(.box yC)),(7,(.pmap 9)),(8,(.row 3 y7)),(9,(.pool eI))]⟩,z2,[0,1,2,3,4,5,6,7,8,9],10⟩⟩]
def Ay:LSh:=⟨[0,1,2,13,14,15],⟨j2,[(0,.raw),(1,(.boxT mh)),(2,(.boxT .bool)),(3,(.box yD)),(4,(.boxT y7)),(5,(.rows 22 3 y7)),(6,(.box yC)),(7,(.pmap 9)),(8,(.row 3 y7)),(9,(.pool eI))]⟩,z2,10,[0,1,2,3,4,5,6,7,8,9]⟩
def Az:List XSh:=[⟨.ret,[],⟨⟨[],[(0,.raw),(1,(.boxT mh)),(2,(.boxT .bool)),(3,(.box yD)),(4,(.boxT y7)),(5,(.rows 22 3 y7)),(6,(.box yC)),(7,(.pmap 9)),(8,(.row 3 y7)),(9,(.pool eI))]⟩,z3,[0,1,2,3,4,5,6,7,8,9],10⟩⟩,⟨(.exit 0),[],⟨⟨[],[(0,.raw),(1,(.boxT mh)),(2,(.boxT .bool)),(3,(.box yD)),(4,(.boxT y7)),(5,(.rows 22 3 y7)),(6,(.box yC)),(7,(.pmap 9)),(8,(.row 3 y7)),(9,(.pool eI))]⟩,z3,[0,1,2,3,4,5,6,7,8,9],10⟩⟩]
noncomputable def FJ:=cI Try.prog [] Try.f96 (.s .n (.b (.l Ay Az (.s .n (.s .n (.s (.b (.s .n (.s .n (.s .n (.b (.l Aw Ax (.s .n (.s .n (.s (.b (.s .n (.s (.s .n (.b (.l Au Av .n))) .n))) .n))))))))) .n))))))
noncomputable def AA (T:List FEnt):=aV (xs:=Av) Au (bR T (sb [1,2,2,1,1,0,2,1,1,1,2,2,1,1,0,2,1,0,1,2,2] FJ))
noncomputable def l96_2 (T:List FEnt):=ah (AA T)
noncomputable def AB (F97:xt)(FYb:mg)(a0 a1 a2 a3 a4 a5 a6 a7 a8 a9:Int)(a10:Y4)(a11:Bool)(a12:Int)(a13:List Y2)(a14:List Int)(a15:Int)(a16:List Int)(a17:List Y3):Option ((Int×Int×Int×Int×Int×Int×Int×Int×Int×Int×Y4×Bool×Int×Y9×Y2×Int×Y2×fV)⊕Oi):=
cond (decide (a8 < a7)) (
au (an .i64 (a2+a8)) (
au (bF (a2+a8) (List.length (ix a13 a1))) (
cond (!decide ((ix (ix a13 a1) (a2+a8))=(-1))) (
some (Sum.inr (Sum.inl (a0,(↑a1.toNat:Int),a3,a4,a5,a6,a9,a10,a11,a12,a13,a14,a15,a16,a17)))) (
au (an .i64 (a8+1)) (
some (Sum.inl (a0,(↑a1.toNat:Int),a2,a3,a4,a5,a6,a7,(a8+1),a9,a10,a11,a12,a13,a14,a15,a16,a17))))))) (
some (Sum.inr (Sum.inr (a0,(↑a1.toNat:Int),a2,a3,a4,a5,a6,a9,a10,a11,a12,a13,a14,a15,a16,a17))))
theorem Gy (F97:xt)(FYb:mg):AA (uo F97 FYb)=OH (AB F97 FYb):=funext fun _=>by kernel_rfl
noncomputable def Gz (FYb:mg):=AB qO FYb
noncomputable def AD (FYb:mg):Om:=ah (OH (Gz FYb))
theorem GA (FYb:mg):l96_2 (uo qO FYb)=AD FYb:=congrArg ah (Gy qO FYb)
noncomputable def AE (T:List FEnt):=aV (xs:=Ax) Aw (bR T (sb [1,2,2,1,1,0,2,1,1,1,2,2] FJ))
noncomputable def l96_1 (T:List FEnt):=ah (AE T)
noncomputable def AF (F97:xt)(FYb:mg)(l96_2:Om)(a0 a1 a2 a3 a4 a5 a6:Int)(a7:Y4)(a8:Bool)(a9:Int)(a10:List Y2)(a11:List Int)(a12:Int)(a13:List Int)(a14:List Y3):Option (Ob⊕Oj):=
cond (decide (a5 < a4)) (
(l96_2 (a0,(↑a1.toNat:Int),a5,a2,a3,a4,a5,a9,0,a6,a7,a8,a9,a10,a11,a12,a13,a14)).bind (fun y1=>Sum.elim (fun y2=>(
au (an .i64 (y2.2.2.2.2.2.1+1)) (
some (Sum.inl (y2.1,(↑y2.2.1.toNat:Int),y2.2.2.1,y2.2.2.2.1,y2.2.2.2.2.1,(y2.2.2.2.2.2.1+1),y2.2.2.2.2.2.2.1,y2.2.2.2.2.2.2.2.1,y2.2.2.2.2.2.2.2.2.1,y2.2.2.2.2.2.2.2.2.2.1,y2.2.2.2.2.2.2.2.2.2.2.1,y2.2.2.2.2.2.2.2.2.2.2.2.1,y2.2.2.2.2.2.2.2.2.2.2.2.2.1,y2.2.2.2.2.2.2.2.2.2.2.2.2.2.1,y2.2.2.2.2.2.2.2.2.2.2.2.2.2.2))))) (fun y3=>(
au (an .i64 (y3.2.2.1+y3.2.2.2.2.2.2.2.2.2.2.1)) (
au (an .i64 (y3.2.2.1-1)) (
(F97 (y3.1,(y3.2.2.1-1),y3.2.2.2.2.2.2.2.2.2.2.2.2.1,y3.2.2.2.2.2.2.2.2.2.2.2.2.2.1,y3.2.2.2.2.2.2.2.2.2.2.2.1,y3.2.2.2.2.2.2.2.2.2.2.2.2.2.2.1,y3.2.2.2.2.2.2.2.2.2.2.2.2.2.2.2)).bind fun r4=>(
cond r4.1 (
au (an .i64 (y3.2.2.1-2)) (
(F97 (y3.1,(y3.2.2.1-2),r4.2.1,r4.2.2.1,r4.2.2.2.1,r4.2.2.2.2.1,r4.2.2.2.2.2)).bind fun r5=>(
cond (!r5.1) (
(FYb ((0,(y3.1,(y3.2.2.1,y3.2.2.2.2.2.2.2.2.2.2.1))),true,y3.2.2.2.2.2.2.2.1,y3.2.2.2.2.2.2.2.2.1,y3.2.2.2.2.2.2.2.2.2.1)).bind fun r6=>(
cond (!r6.1) (
some (Sum.inr (Sum.inl (r6.2.1,r6.2.2.1,r6.2.2.2,y3.2.2.2.2.2.2.2.2.2.2.1,r5.2.2.2.1,r5.2.1,r5.2.2.1,r5.2.2.2.2.1,r5.2.2.2.2.2)))) (
au (an .i64 (y3.2.2.2.2.2.2.1+1)) (
some (Sum.inl (y3.1,(↑y3.2.1.toNat:Int),y3.2.2.2.1,y3.2.2.2.2.1,y3.2.2.2.2.2.1,(y3.2.2.2.2.2.2.1+1),r6.2.1,r6.2.2.1,r6.2.2.2,y3.2.2.2.2.2.2.2.2.2.2.1,r5.2.2.2.1,r5.2.1,r5.2.2.1,r5.2.2.2.2.1,r5.2.2.2.2.2)))))) (
(F97 (y3.1,(y3.2.2.1+y3.2.2.2.2.2.2.2.2.2.2.1),r5.2.1,r5.2.2.1,r5.2.2.2.1,r5.2.2.2.2.1,r5.2.2.2.2.2)).bind fun r7=>(
cond r7.1 (
au (an .i64 ((y3.2.2.1+y3.2.2.2.2.2.2.2.2.2.2.1)+1)) (
(F97 (y3.1,((y3.2.2.1+y3.2.2.2.2.2.2.2.2.2.2.1)+1),r7.2.1,r7.2.2.1,r7.2.2.2.1,r7.2.2.2.2.1,r7.2.2.2.2.2)).bind fun r8=>(
(FYb ((0,(y3.1,(y3.2.2.1,y3.2.2.2.2.2.2.2.2.2.2.1))),(!r8.1),y3.2.2.2.2.2.2.2.1,y3.2.2.2.2.2.2.2.2.1,y3.2.2.2.2.2.2.2.2.2.1)).bind fun r9=>(
cond (!r9.1) (
some (Sum.inr (Sum.inl (r9.2.1,r9.2.2.1,r9.2.2.2,y3.2.2.2.2.2.2.2.2.2.2.1,r8.2.2.2.1,r8.2.1,r8.2.2.1,r8.2.2.2.2.1,r8.2.2.2.2.2)))) (
au (an .i64 (y3.2.2.2.2.2.2.1+1)) (
some (Sum.inl (y3.1,(↑y3.2.1.toNat:Int),y3.2.2.2.1,y3.2.2.2.2.1,y3.2.2.2.2.2.1,(y3.2.2.2.2.2.2.1+1),r9.2.1,r9.2.2.1,r9.2.2.2,y3.2.2.2.2.2.2.2.2.2.2.1,r8.2.2.2.1,r8.2.1,r8.2.2.1,r8.2.2.2.2.1,r8.2.2.2.2.2)))))))) (
(FYb ((0,(y3.1,(y3.2.2.1,y3.2.2.2.2.2.2.2.2.2.2.1))),false,y3.2.2.2.2.2.2.2.1,y3.2.2.2.2.2.2.2.2.1,y3.2.2.2.2.2.2.2.2.2.1)).bind fun r10=>(
cond (!r10.1) (
some (Sum.inr (Sum.inl (r10.2.1,r10.2.2.1,r10.2.2.2,y3.2.2.2.2.2.2.2.2.2.2.1,r7.2.2.2.1,r7.2.1,r7.2.2.1,r7.2.2.2.2.1,r7.2.2.2.2.2)))) (
au (an .i64 (y3.2.2.2.2.2.2.1+1)) (
some (Sum.inl (y3.1,(↑y3.2.1.toNat:Int),y3.2.2.2.1,y3.2.2.2.2.1,y3.2.2.2.2.2.1,(y3.2.2.2.2.2.2.1+1),r10.2.1,r10.2.2.1,r10.2.2.2,y3.2.2.2.2.2.2.2.2.2.2.1,r7.2.2.2.1,r7.2.1,r7.2.2.1,r7.2.2.2.2.1,r7.2.2.2.2.2))))))))))) (
(F97 (y3.1,(y3.2.2.1+y3.2.2.2.2.2.2.2.2.2.2.1),r4.2.1,r4.2.2.1,r4.2.2.2.1,r4.2.2.2.2.1,r4.2.2.2.2.2)).bind fun r11=>(
cond r11.1 (
au (an .i64 ((y3.2.2.1+y3.2.2.2.2.2.2.2.2.2.2.1)+1)) (
(F97 (y3.1,((y3.2.2.1+y3.2.2.2.2.2.2.2.2.2.2.1)+1),r11.2.1,r11.2.2.1,r11.2.2.2.1,r11.2.2.2.2.1,r11.2.2.2.2.2)).bind fun r12=>(
(FYb ((0,(y3.1,(y3.2.2.1,y3.2.2.2.2.2.2.2.2.2.2.1))),(!r12.1),y3.2.2.2.2.2.2.2.1,y3.2.2.2.2.2.2.2.2.1,y3.2.2.2.2.2.2.2.2.2.1)).bind fun r13=>(
cond (!r13.1) (
some (Sum.inr (Sum.inl (r13.2.1,r13.2.2.1,r13.2.2.2,y3.2.2.2.2.2.2.2.2.2.2.1,r12.2.2.2.1,r12.2.1,r12.2.2.1,r12.2.2.2.2.1,r12.2.2.2.2.2)))) (
au (an .i64 (y3.2.2.2.2.2.2.1+1)) (
some (Sum.inl (y3.1,(↑y3.2.1.toNat:Int),y3.2.2.2.1,y3.2.2.2.2.1,y3.2.2.2.2.2.1,(y3.2.2.2.2.2.2.1+1),r13.2.1,r13.2.2.1,r13.2.2.2,y3.2.2.2.2.2.2.2.2.2.2.1,r12.2.2.2.1,r12.2.1,r12.2.2.1,r12.2.2.2.2.1,r12.2.2.2.2.2)))))))) (
(FYb ((0,(y3.1,(y3.2.2.1,y3.2.2.2.2.2.2.2.2.2.2.1))),false,y3.2.2.2.2.2.2.2.1,y3.2.2.2.2.2.2.2.2.1,y3.2.2.2.2.2.2.2.2.2.1)).bind fun r14=>(
cond (!r14.1) (
some (Sum.inr (Sum.inl (r14.2.1,r14.2.2.1,r14.2.2.2,y3.2.2.2.2.2.2.2.2.2.2.1,r11.2.2.2.1,r11.2.1,r11.2.2.1,r11.2.2.2.2.1,r11.2.2.2.2.2)))) (
au (an .i64 (y3.2.2.2.2.2.2.1+1)) (
some (Sum.inl (y3.1,(↑y3.2.1.toNat:Int),y3.2.2.2.1,y3.2.2.2.2.1,y3.2.2.2.2.2.1,(y3.2.2.2.2.2.2.1+1),r14.2.1,r14.2.2.1,r14.2.2.2,y3.2.2.2.2.2.2.2.2.2.2.1,r11.2.2.2.1,r11.2.1,r11.2.2.1,r11.2.2.2.2.1,r11.2.2.2.2.2))))))))))))) y1)) (
some (Sum.inr (Sum.inr (a2,a3,a6,a7,a8,a9,a10,a11,a12,a13,a14))))
theorem GB (F97:xt)(FYb:mg):AE (uo F97 FYb)=OG (AF F97 FYb (l96_2 (uo F97 FYb))):=funext fun _=>by kernel_rfl
noncomputable def GC (FYb:mg):=AF qO FYb (AD FYb)
noncomputable def AG (FYb:mg):On:=ah (OG (GC FYb))
theorem GD (FYb:mg):l96_1 (uo qO FYb)=AG FYb:=congrArg ah ((GB qO FYb).trans (by rw[GA FYb] <;> rfl))
noncomputable def AH (T:List FEnt):=aV (xs:=Az) Ay (bR T (sb [1,2,2] FJ))
noncomputable def l96_0 (T:List FEnt):=ah (AH T)
noncomputable def AI (F97:xt)(FYb:mg)(l96_1:On)(a0 a1 a2:Int)(a3:Y4)(a4:Bool)(a5:Int)(a6:List Y2)(a7:List Int)(a8:Int)(a9:List Int)(a10:List Y3):Option (Od⊕Ok):=
cond (decide (a1 < a0)) (
au (bF a1 a6.length) (
au (an .i64 ((↑(List.length (ix a6 a1)):Int)-a5)) (
au (an .i64 (((↑(List.length (ix a6 a1)):Int)-a5)+1)) (
(l96_1 (a1,(↑a1.toNat:Int),a0,a1,(((↑(List.length (ix a6 a1)):Int)-a5)+1),0,a2,a3,a4,a5,a6,a7,a8,a9,a10)).bind (fun y15=>Sum.elim (fun y16=>(
some (Sum.inr (Sum.inl (y16.1,y16.2.1,y16.2.2.1,y16.2.2.2.1,y16.2.2.2.2.1,y16.2.2.2.2.2.1,y16.2.2.2.2.2.2.1,y16.2.2.2.2.2.2.2.1,y16.2.2.2.2.2.2.2.2))))) (fun y17=>(
au (an .i64 (y17.2.1+1)) (
some (Sum.inl (y17.1,(y17.2.1+1),y17.2.2.1,y17.2.2.2.1,y17.2.2.2.2.1,y17.2.2.2.2.2.1,y17.2.2.2.2.2.2.1,y17.2.2.2.2.2.2.2.1,y17.2.2.2.2.2.2.2.2.1,y17.2.2.2.2.2.2.2.2.2.1,y17.2.2.2.2.2.2.2.2.2.2))))) y15))))) (
some (Sum.inr (Sum.inr (a2,a3,a4,a5,a6,a7,a8,a9,a10))))
theorem GE (F97:xt)(FYb:mg):AH (uo F97 FYb)=OF (AI F97 FYb (l96_1 (uo F97 FYb))):=funext fun _=>by kernel_rfl
noncomputable def GF (FYb:mg):=AI qO FYb (AG FYb)
noncomputable def AJ (FYb:mg):Oo:=ah (OF (GF FYb))
theorem GG (FYb:mg):l96_0 (uo qO FYb)=AJ FYb:=congrArg ah ((GE qO FYb).trans (by rw[GD FYb] <;> rfl))
theorem Kr:L.Fn Try.prog 96 80 [] (erase FJ):=oA Try.func96
def tR:FSh:=⟨⟨[(.fn 1048576 Kf),(.ptr 3 0),(.ptr 4 0)],[(0,.raw),(1,(.boxT mh)),(2,(.boxT .bool)),(3,(.box [(.ptr 5 0)])),(4,(.boxT y7)),(5,(.box NA)),(6,(.rows 22 3 y7)),(7,(.pmap 9)),(8,(.row 3 y7)),(9,(.pool eI))]⟩,z4,10,⟨⟨pT,[(0,.raw),(1,(.boxT mh)),(2,(.boxT .bool)),(3,(.box [(.ptr 5 0)])),(4,(.boxT y7)),(5,(.box NA)),(6,(.rows 22 3 y7)),(7,(.pmap 9)),(8,(.row 3 y7)),(9,(.pool eI))]⟩,z4,[0,1,2,3,4,5,6,7,8,9],10⟩,false⟩
noncomputable def ND (F97:xt)(FYb:mg)(l96_0:Oo)(a0:Int)(a1:Y4)(a2:Bool)(a3:Int)(a4:List Int)(a5:Int)(a6:List Y2)(a7:List Int)(a8:List Y3):Option Of:=
(l96_0 ((↑a6.length:Int),0,a0,a1,a2,a3,a6,a4,a5,a7,a8)).bind (fun y18=>Sum.elim (fun y19=>(
some (y19.1,y19.2.1,y19.2.2.1,y19.2.2.2.1,y19.2.2.2.2.2.1,y19.2.2.2.2.2.2.1,y19.2.2.2.2.1,y19.2.2.2.2.2.2.2.1,y19.2.2.2.2.2.2.2.2))) (fun y20=>(
some (y20.1,y20.2.1,y20.2.2.1,y20.2.2.2.1,y20.2.2.2.2.2.1,y20.2.2.2.2.2.2.1,y20.2.2.2.2.1,y20.2.2.2.2.2.2.2.1,y20.2.2.2.2.2.2.2.2))) y18)
theorem OX (F97:xt)(FYb:mg):aQ (uo F97 FYb) tR [] FJ=u9 (ND F97 FYb (l96_0 (uo F97 FYb))):=funext fun _=>by kernel_rfl
noncomputable def OY (FYb:mg):=ND qO FYb (AJ FYb)
noncomputable def Ed (FYb:mg):Int×Y4×Bool×Int×Y2×Int×Y9×Y2×fV→Option Of:=fun x=>OY FYb x.1 x.2.1 x.2.2.1 x.2.2.2.1 x.2.2.2.2.1 x.2.2.2.2.2.1 x.2.2.2.2.2.2.1 x.2.2.2.2.2.2.2.1 x.2.2.2.2.2.2.2.2
theorem OZ (FYb:mg):aQ (uo qO FYb) tR [] FJ=Ed FYb:=(OX qO FYb).trans (by rw[GG FYb] <;> rfl)
theorem O0 (FYb:mg)(h:DC Try.prog 1048576 shYb FYb):DC Try.prog 96 tR (Ed FYb):=rP (OZ FYb) (fi (OW FYb h) Kr (by kernel_rfl))
noncomputable def Ks:List FEnt:=[]
theorem O3:am Try.prog Ks:=aa
noncomputable def Kt:=cI Try.prog [] Try.f68 .n
theorem Ku:L.Fn Try.prog 68 6 [(.t 4)] (erase Kt):=oA Try.func68
def vT:FSh:=⟨⟨FI,k4⟩,z8,5,⟨⟨[(.fn 96 [(.ptr 5 0),(.ptr 6 0)])],[(0,(.box [(.v y19),(.v y7),(.slr 1),(.mp 2),(.slc 3)])),(1,(.rows 22 3 y7)),(2,(.pmap 4)),(3,(.row 3 y7)),(4,(.pool eI)),(5,(.box At)),(6,(.boxT y7))]⟩,[y19,y7,y32,y19,y53,y7],[0,1,2,3,4],7⟩,false⟩
noncomputable def NE (a0:Int)(a1:List Int)(a2:Int)(a3:List Y2)(a4:List Int)(a5:List Y3):Option Og:=
some (a1,a2,a3,a4,a5,a0)
theorem O4:aQ Ks vT [(.t 4)] Kt=u6 NE:=funext fun _=>by kernel_rfl
noncomputable def O5:=NE
noncomputable def Jq:Int×Y2×Int×Y9×Y2×fV→Option Og:=u6 O5
theorem O6:aQ Ks vT [(.t 4)] Kt=Jq:=O4
theorem O7:DC Try.prog 68 vT Jq:=dD O6 O3 Ku
end Go.Proofs.Ytdkaijofmigmbaa.D
