import Derived.Test.YtdkaijofmigmbaaGreatY0z
import Derived.Test.YtdkaijofmigmbaaGreatGYz
import Derived.Test.YtdkaijofmigmbaaGreatProg
set_option linter.unusedVariables false
set_option maxRecDepth 100000
namespace Go.Proofs.YtdkaijofmigmbaaGreat.D
open Go Go.Proofs Go.Proofs.YtdkaijofmigmbaaGreat.L
def z1:List Ty:=[y7,y7,y7,y7,y7,y7,y7,ms,.bool,y7,y32,y19,y7,y19,y53]
def z2:List Ty:=[y7,y7,y7,ms,.bool,y7,y32,y19,y7,y19,y53]
def z3:List Ty:=[y7,ms,.bool,y7,y32,y19,y7,y19,y53]
def z4:List Ty:=[y7,ms,.bool,y7,y19,y7,y32,y19,y53]
def z8:List Ty:=[y7,y19,y7,y32,y19,y53]
def qe:List RSh:=[(.tup [])]
def Ku:List RSh:=[(.v y7),(.v y7),(.v y7)]
def kH:List RSh:=[(.v .bool)]
def xK:List RSh:=[(.v y19),(.v y7),(.slr 5),(.mp 7),(.slc 8)]
def Kv:List RSh:=[(.ptr 0 0),(.ptr 1 0),(.ptr 2 0)]
def xL:List RSh:=[(.ptr 6 0)]
def j1:List RSh:=[(.fn 1048576 [(.ptr 0 0),(.ptr 1 0),(.ptr 2 0)]),(.ptr 3 0),(.ptr 4 0),(.v y7),(.irow 5),(.slr 5),(.v y7),(.v y7),(.v y7),(.v y7)]
def j2:List RSh:=[(.fn 1048576 [(.ptr 0 0),(.ptr 1 0),(.ptr 2 0)]),(.ptr 3 0),(.ptr 4 0),(.slr 5),(.v y7),(.v y7)]
def Nc:List RSh:=[(.v y19),(.v y7),(.slr 6),(.mp 7),(.slc 8)]
def E3:List RSh:=[(.ptr 0 0),(.v y7)]
def zK:List RSh:=[(.ptr 0 0)]
def k9:List (Nat×OSh):=[(0,(.boxT cR)),(1,.raw),(2,(.box [(.slc 3)])),(3,(.row 56 eJ))]
def k4:List (Nat×OSh):=[(0,(.box [(.v y19),(.v y7),(.slr 1),(.mp 2),(.slc 3)])),(1,(.rows 22 3 y7)),(2,(.pmap 4)),(3,(.row 3 y7)),(4,(.pool eJ))]
set_option linter.unusedSectionVars false
variable [YP]
theorem mo:Tryz.prog.follows .mixedOrders=true:=by kernel_rfl
theorem oA {f:FuncId}{fn:Func}(hf:Tryz.prog.funcs[f]?=some fn){cs:List (Nat×RCh)}{n:Nat}{rs:List Res}{H:HT}(h:(ER Tryz.prog cs fn).map (fun x=>(x.1,x.2.1))=some (n,rs):=by kernel_rfl)(e:Nat.beq f YB=false:=by rfl):L.Fn Tryz.prog f n rs (erase (cz Tryz.prog cs fn H)):=Fn.ofA mo hf cs H h e
noncomputable def E4 (FYa:tX):List FEnt:=[⟨1048576,shYa,FYa⟩]
theorem OD (FYa:tX)(h:DC Tryz.prog 1048576 shYa FYa):am Tryz.prog (E4 FYa):=(bG h (by kernel_rfl) aa)
def zL:LSh:=⟨[0,5,6,7],⟨[(.fn 1048576 [(.ptr 0 0),(.ptr 1 0)]),(.v cR),(.v y7),(.v y7)],[(0,.raw),(1,(.box [(.slc 2)])),(2,(.row 56 eJ))]⟩,[cR,y7,y7,y7,cR],3,[0,1]⟩
def zM:List XSh:=[⟨.ret,[],⟨⟨[],[(0,.raw),(1,(.box [(.slc 2)])),(2,(.row 56 eJ))]⟩,[y7,cR],[0,1],3⟩⟩,⟨(.exit 0),[],⟨⟨[],[(0,.raw),(1,(.box [(.slc 2)])),(2,(.row 56 eJ))]⟩,[y7,cR],[0,1],3⟩⟩]
noncomputable def Jx:=cz Tryz.prog [] Tryz.f80 (.s .n (.b (.l zL zM .n)))
noncomputable def zN (T:List FEnt):=aU (xs:=zM) zL (bT T (sb [1,2,2] Jx))
noncomputable def l80_0 (T:List FEnt):=af (zN T)
noncomputable def zO (FYa:tX)(a0:List Y1)(a1 a2 a3:Int)(a4:List Y1):Option ((Y8×Int×Int×Int×Y8)⊕N7):=
cond (decide (a2 < a1)) (
aq (bv a2 a0.length) (
(FYa ((ix a0 a2),a3,a4)).bind fun r1=>(
cond (!r1.1) (
some (Sum.inr (Sum.inl (r1.2.1,r1.2.2)))) (
aq (au .i64 (a2+1)) (
some (Sum.inl (a0,a1,(a2+1),r1.2.1,r1.2.2))))))) (
some (Sum.inr (Sum.inr (a3,a4))))
theorem FZ (FYa:tX):zN (E4 FYa)=u5 (zO FYa):=funext fun _=>by kernel_rfl
noncomputable def F0 (FYa:tX):=zO FYa
noncomputable def zP (FYa:tX):Ob:=af (u5 (F0 FYa))
theorem F1 (FYa:tX):l80_0 (E4 FYa)=zP FYa:=congrArg af (FZ FYa)
theorem Kw:L.Fn Tryz.prog 80 16 [] (erase Jx):=oA Tryz.func80
def tQ:FSh:=⟨⟨[(.fn 1048576 [(.ptr 1 0),(.ptr 2 0)]),(.ptr 0 0)],k9⟩,[cR,y7,cR],4,⟨⟨qe,k9⟩,[cR,y7,cR],[0,1,2],4⟩,false⟩
noncomputable def Nd (FYa:tX)(l80_0:Ob)(a0:List Y1)(a1:Int)(a2:List Y1):Option N4:=
(l80_0 (a0,(↑a0.length:Int),0,a1,a2)).bind (fun y2=>Sum.elim (fun y3=>(
some (a0,y3.1,y3.2))) (fun y4=>(
some (a0,y4.1,y4.2))) y2)
theorem OE (FYa:tX):aO (E4 FYa) tQ [] Jx=u3 (Nd FYa (l80_0 (E4 FYa))):=funext fun _=>by kernel_rfl
noncomputable def OF (FYa:tX):=Nd FYa (zP FYa)
noncomputable def Ee (FYa:tX):Y8×Int×Y8→Option N4:=fun x=>OF FYa x.1 x.2.1 x.2.2
theorem OG (FYa:tX):aO (E4 FYa) tQ [] Jx=Ee FYa:=(OE FYa).trans (by rw[F1 FYa] <;> rfl)
theorem OH (FYa:tX)(h:DC Tryz.prog 1048576 shYa FYa):DC Tryz.prog 80 tQ (Ee FYa):=pH (OG FYa) (dx (OD FYa h) Kw (by kernel_rfl))
noncomputable def Kx:List FEnt:=[]
theorem OI:am Tryz.prog Kx:=aa
noncomputable def Ky:=cz Tryz.prog [] Tryz.f17 .n
theorem Kz:L.Fn Tryz.prog 17 15 [(.t 6)] (erase Ky):=oA Tryz.func17
def mF:FSh:=⟨⟨Ku,[]⟩,[y7,y7,y7],0,⟨⟨kH,[]⟩,[.bool],[],0⟩,true⟩
noncomputable def Nf (a0 a1 a2:Int):Option Bool:=
cond (decide (a1≤a0)) (
some (decide (a0≤a2))) (
some false)
theorem OJ:aO Kx mF [(.t 6)] Ky=u3 Nf:=funext fun _=>by kernel_rfl
noncomputable def OK:=Nf
noncomputable def P17:Y5:=u3 OK
theorem OL:aO Kx mF [(.t 6)] Ky=P17:=OJ
theorem Ef:DC Tryz.prog 17 mF P17:=dD OL OI Kz
noncomputable def KA (F17:Y5):List FEnt:=[⟨17,mF,F17⟩]
theorem OM:am Tryz.prog (KA P17):=dK aa Ef
noncomputable def KB:=cz Tryz.prog [] Tryz.f62 .n
theorem KC:L.Fn Tryz.prog 62 31 [(.t 6)] (erase KB):=oA Tryz.func62
def xM:FSh:=⟨⟨[(.ptr 0 0),(.v y7),(.v y7)],k4⟩,[y7,y7,y19,y7,y32,y19,y53],5,⟨⟨kH,k4⟩,[.bool,y19,y7,y32,y19,y53],[0,1,2,3,4],5⟩,false⟩
noncomputable def Ng (F17:Y5)(a0 a1:Int)(a2:List Int)(a3:Int)(a4:List Y2)(a5:List Int)(a6:List Y3):Option N2:=
aq (bv a0 a4.length) (
aq (au .i64 ((↑(List.length (ix a4 a0)):Int)-1)) (
(F17 (a1,0,((↑(List.length (ix a4 a0)):Int)-1))).bind fun r1=>(
cond r1 (
aq (bv a0 a4.length) (
aq (bv a1 (List.length (ix a4 a0))) (
some (decide ((ix (ix a4 a0) a1)=(-1)),a2,a3,a4,a5,a6)))) (
some (false,a2,a3,a4,a5,a6)))))
theorem ON (F17:Y5):aO (KA F17) xM [(.t 6)] KB=u7 (Ng F17):=funext fun _=>by kernel_rfl
noncomputable def OO:=Ng P17
noncomputable def qV:wu:=u7 OO
theorem OP:aO (KA P17) xM [(.t 6)] KB=qV:=ON P17
theorem OQ:DC Tryz.prog 62 xM qV:=dD OP OM KC
noncomputable def up (F62:wu)(FYb:mr):List FEnt:=[⟨62,xM,F62⟩,⟨1048576,shYb,FYb⟩]
theorem OR (FYb:mr)(h:DC Tryz.prog 1048576 shYb FYb):am Tryz.prog (up qV FYb):=(bG OQ (by kernel_rfl) (bG h (by kernel_rfl) aa))
def zQ:LSh:=⟨[0,1,2,4,5,6,13,14,15,24,25,28,29],⟨[(.fn 1048576 Kv),(.ptr 3 0),(.ptr 4 0),(.v y7),(.irow 5),(.v y7),(.slr 5),(.v y7),(.v y7),(.v y7),(.v y7),(.v y7),(.v y7)],[(0,.raw),(1,(.boxT ms)),(2,(.boxT .bool)),(3,(.box xL)),(4,(.boxT y7)),(5,(.rows 22 3 y7)),(6,(.box xK)),(7,(.pmap 9)),(8,(.row 3 y7)),(9,(.pool eJ))]⟩,[y7,y7,y7,y7,y7,y7,y7,y7,y7,y7,ms,.bool,y7,y32,y19,y7,y19,y53],10,[0,1,2,3,4,5,6,7,8,9]⟩
def zR:List XSh:=[⟨(.exit 3),[0,1,2,4,5,13,14,15,24,25],⟨⟨j1,[(0,.raw),(1,(.boxT ms)),(2,(.boxT .bool)),(3,(.box xL)),(4,(.boxT y7)),(5,(.rows 22 3 y7)),(6,(.box xK)),(7,(.pmap 9)),(8,(.row 3 y7)),(9,(.pool eJ))]⟩,z1,[0,1,2,3,4,5,6,7,8,9],10⟩⟩,⟨(.exit 4),[0,1,2,4,5,6,13,14,15,24,25],⟨⟨[(.fn 1048576 Kv),(.ptr 3 0),(.ptr 4 0),(.v y7),(.irow 5),(.v y7),(.slr 5),(.v y7),(.v y7),(.v y7),(.v y7)],[(0,.raw),(1,(.boxT ms)),(2,(.boxT .bool)),(3,(.box xL)),(4,(.boxT y7)),(5,(.rows 22 3 y7)),(6,(.box xK)),(7,(.pmap 9)),(8,(.row 3 y7)),(9,(.pool eJ))]⟩,[y7,y7,y7,y7,y7,y7,y7,y7,ms,.bool,y7,y32,y19,y7,y19,y53],[0,1,2,3,4,5,6,7,8,9],10⟩⟩]
def zS:LSh:=⟨[0,1,2,4,5,13,14,15,24,25],⟨j1,[(0,.raw),(1,(.boxT ms)),(2,(.boxT .bool)),(3,(.box xL)),(4,(.boxT y7)),(5,(.rows 22 3 y7)),(6,(.box xK)),(7,(.pmap 9)),(8,(.row 3 y7)),(9,(.pool eJ))]⟩,z1,10,[0,1,2,3,4,5,6,7,8,9]⟩
def zT:List XSh:=[⟨.ret,[],⟨⟨[],[(0,.raw),(1,(.boxT ms)),(2,(.boxT .bool)),(3,(.box xL)),(4,(.boxT y7)),(5,(.rows 22 3 y7)),(6,(.box xK)),(7,(.pmap 9)),(8,(.row 3 y7)),(9,(.pool eJ))]⟩,z3,[0,1,2,3,4,5,6,7,8,9],10⟩⟩,⟨(.exit 2),[0,1,2,13,14,15],⟨⟨j2,[(0,.raw),(1,(.boxT ms)),(2,(.boxT .bool)),(3,(.box xL)),(4,(.boxT y7)),(5,(.rows 22 3 y7)),(6,(.box xK)),(7,(.pmap 9)),(8,(.row 3 y7)),(9,(.pool eJ))]⟩,z2,[0,1,2,3,4,5,6,7,8,9],10⟩⟩]
def zU:LSh:=⟨[0,1,2,13,14,15],⟨j2,[(0,.raw),(1,(.boxT ms)),(2,(.boxT .bool)),(3,(.box xL)),(4,(.boxT y7)),(5,(.rows 22 3 y7)),(6,(.box xK)),(7,(.pmap 9)),(8,(.row 3 y7)),(9,(.pool eJ))]⟩,z2,10,[0,1,2,3,4,5,6,7,8,9]⟩
def zV:List XSh:=[⟨.ret,[],⟨⟨[],[(0,.raw),(1,(.boxT ms)),(2,(.boxT .bool)),(3,(.box xL)),(4,(.boxT y7)),(5,(.rows 22 3 y7)),(6,(.box xK)),(7,(.pmap 9)),(8,(.row 3 y7)),(9,(.pool eJ))]⟩,z3,[0,1,2,3,4,5,6,7,8,9],10⟩⟩,⟨(.exit 0),[],⟨⟨[],[(0,.raw),(1,(.boxT ms)),(2,(.boxT .bool)),(3,(.box xL)),(4,(.boxT y7)),(5,(.rows 22 3 y7)),(6,(.box xK)),(7,(.pmap 9)),(8,(.row 3 y7)),(9,(.pool eJ))]⟩,z3,[0,1,2,3,4,5,6,7,8,9],10⟩⟩]
noncomputable def E5:=cz Tryz.prog [] Tryz.f61 (.s .n (.b (.l zU zV (.s .n (.s .n (.s (.b (.s .n (.s .n (.s .n (.b (.l zS zT (.s .n (.s .n (.s (.b (.s .n (.s (.s .n (.b (.l zQ zR .n))) .n))) .n))))))))) .n))))))
noncomputable def zW (T:List FEnt):=aU (xs:=zR) zQ (bT T (sb [1,2,2,1,1,0,2,1,1,1,2,2,1,1,0,2,1,0,1,2,2] E5))
noncomputable def l61_2 (T:List FEnt):=af (zW T)
noncomputable def zX (F62:wu)(FYb:mr)(a0 a1 a2 a3 a4 a5 a6 a7 a8 a9:Int)(a10:Y4)(a11:Bool)(a12:Int)(a13:List Y2)(a14:List Int)(a15:Int)(a16:List Int)(a17:List Y3):Option ((Int×Int×Int×Int×Int×Int×Int×Int×Int×Int×Y4×Bool×Int×Y9×Y2×Int×Y2×gi)⊕N8):=
cond (decide (a8 < a7)) (
aq (au .i64 (a2+a8)) (
aq (bv (a2+a8) (List.length (ix a13 a1))) (
cond (!decide ((ix (ix a13 a1) (a2+a8))=(-1))) (
some (Sum.inr (Sum.inl (a0,(↑a1.toNat:Int),a3,a4,a5,a6,a9,a10,a11,a12,a13,a14,a15,a16,a17)))) (
aq (au .i64 (a8+1)) (
some (Sum.inl (a0,(↑a1.toNat:Int),a2,a3,a4,a5,a6,a7,(a8+1),a9,a10,a11,a12,a13,a14,a15,a16,a17))))))) (
some (Sum.inr (Sum.inr (a0,(↑a1.toNat:Int),a2,a3,a4,a5,a6,a9,a10,a11,a12,a13,a14,a15,a16,a17))))
theorem F2 (F62:wu)(FYb:mr):zW (up F62 FYb)=Ox (zX F62 FYb):=funext fun _=>by kernel_rfl
noncomputable def F3 (FYb:mr):=zX qV FYb
noncomputable def zY (FYb:mr):Oc:=af (Ox (F3 FYb))
theorem Ga (FYb:mr):l61_2 (up qV FYb)=zY FYb:=congrArg af (F2 qV FYb)
noncomputable def zZ (T:List FEnt):=aU (xs:=zT) zS (bT T (sb [1,2,2,1,1,0,2,1,1,1,2,2] E5))
noncomputable def l61_1 (T:List FEnt):=af (zZ T)
noncomputable def z0 (F62:wu)(FYb:mr)(l61_2:Oc)(a0 a1 a2 a3 a4 a5 a6:Int)(a7:Y4)(a8:Bool)(a9:Int)(a10:List Y2)(a11:List Int)(a12:Int)(a13:List Int)(a14:List Y3):Option (N1⊕N9):=
cond (decide (a5 < a4)) (
(l61_2 (a0,(↑a1.toNat:Int),a5,a2,a3,a4,a5,a9,0,a6,a7,a8,a9,a10,a11,a12,a13,a14)).bind (fun y1=>Sum.elim (fun y2=>(
aq (au .i64 (y2.2.2.2.2.2.1+1)) (
some (Sum.inl (y2.1,(↑y2.2.1.toNat:Int),y2.2.2.1,y2.2.2.2.1,y2.2.2.2.2.1,(y2.2.2.2.2.2.1+1),y2.2.2.2.2.2.2.1,y2.2.2.2.2.2.2.2.1,y2.2.2.2.2.2.2.2.2.1,y2.2.2.2.2.2.2.2.2.2.1,y2.2.2.2.2.2.2.2.2.2.2.1,y2.2.2.2.2.2.2.2.2.2.2.2.1,y2.2.2.2.2.2.2.2.2.2.2.2.2.1,y2.2.2.2.2.2.2.2.2.2.2.2.2.2.1,y2.2.2.2.2.2.2.2.2.2.2.2.2.2.2))))) (fun y3=>(
aq (au .i64 (y3.2.2.1+y3.2.2.2.2.2.2.2.2.2.2.1)) (
aq (au .i64 (y3.2.2.1-1)) (
(F62 (y3.1,(y3.2.2.1-1),y3.2.2.2.2.2.2.2.2.2.2.2.2.1,y3.2.2.2.2.2.2.2.2.2.2.2.2.2.1,y3.2.2.2.2.2.2.2.2.2.2.2.1,y3.2.2.2.2.2.2.2.2.2.2.2.2.2.2.1,y3.2.2.2.2.2.2.2.2.2.2.2.2.2.2.2)).bind fun r4=>(
cond r4.1 (
aq (au .i64 (y3.2.2.1-2)) (
(F62 (y3.1,(y3.2.2.1-2),r4.2.1,r4.2.2.1,r4.2.2.2.1,r4.2.2.2.2.1,r4.2.2.2.2.2)).bind fun r5=>(
cond (!r5.1) (
(FYb ((0,(y3.1,(y3.2.2.1,y3.2.2.2.2.2.2.2.2.2.2.1))),true,y3.2.2.2.2.2.2.2.1,y3.2.2.2.2.2.2.2.2.1,y3.2.2.2.2.2.2.2.2.2.1)).bind fun r6=>(
cond (!r6.1) (
some (Sum.inr (Sum.inl (r6.2.1,r6.2.2.1,r6.2.2.2,y3.2.2.2.2.2.2.2.2.2.2.1,r5.2.2.2.1,r5.2.1,r5.2.2.1,r5.2.2.2.2.1,r5.2.2.2.2.2)))) (
aq (au .i64 (y3.2.2.2.2.2.2.1+1)) (
some (Sum.inl (y3.1,(↑y3.2.1.toNat:Int),y3.2.2.2.1,y3.2.2.2.2.1,y3.2.2.2.2.2.1,(y3.2.2.2.2.2.2.1+1),r6.2.1,r6.2.2.1,r6.2.2.2,y3.2.2.2.2.2.2.2.2.2.2.1,r5.2.2.2.1,r5.2.1,r5.2.2.1,r5.2.2.2.2.1,r5.2.2.2.2.2)))))) (
(F62 (y3.1,(y3.2.2.1+y3.2.2.2.2.2.2.2.2.2.2.1),r5.2.1,r5.2.2.1,r5.2.2.2.1,r5.2.2.2.2.1,r5.2.2.2.2.2)).bind fun r7=>(
cond r7.1 (
aq (au .i64 ((y3.2.2.1+y3.2.2.2.2.2.2.2.2.2.2.1)+1)) (
(F62 (y3.1,((y3.2.2.1+y3.2.2.2.2.2.2.2.2.2.2.1)+1),r7.2.1,r7.2.2.1,r7.2.2.2.1,r7.2.2.2.2.1,r7.2.2.2.2.2)).bind fun r8=>(
(FYb ((0,(y3.1,(y3.2.2.1,y3.2.2.2.2.2.2.2.2.2.2.1))),(!r8.1),y3.2.2.2.2.2.2.2.1,y3.2.2.2.2.2.2.2.2.1,y3.2.2.2.2.2.2.2.2.2.1)).bind fun r9=>(
cond (!r9.1) (
some (Sum.inr (Sum.inl (r9.2.1,r9.2.2.1,r9.2.2.2,y3.2.2.2.2.2.2.2.2.2.2.1,r8.2.2.2.1,r8.2.1,r8.2.2.1,r8.2.2.2.2.1,r8.2.2.2.2.2)))) (
aq (au .i64 (y3.2.2.2.2.2.2.1+1)) (
some (Sum.inl (y3.1,(↑y3.2.1.toNat:Int),y3.2.2.2.1,y3.2.2.2.2.1,y3.2.2.2.2.2.1,(y3.2.2.2.2.2.2.1+1),r9.2.1,r9.2.2.1,r9.2.2.2,y3.2.2.2.2.2.2.2.2.2.2.1,r8.2.2.2.1,r8.2.1,r8.2.2.1,r8.2.2.2.2.1,r8.2.2.2.2.2)))))))) (
(FYb ((0,(y3.1,(y3.2.2.1,y3.2.2.2.2.2.2.2.2.2.2.1))),false,y3.2.2.2.2.2.2.2.1,y3.2.2.2.2.2.2.2.2.1,y3.2.2.2.2.2.2.2.2.2.1)).bind fun r10=>(
cond (!r10.1) (
some (Sum.inr (Sum.inl (r10.2.1,r10.2.2.1,r10.2.2.2,y3.2.2.2.2.2.2.2.2.2.2.1,r7.2.2.2.1,r7.2.1,r7.2.2.1,r7.2.2.2.2.1,r7.2.2.2.2.2)))) (
aq (au .i64 (y3.2.2.2.2.2.2.1+1)) (
some (Sum.inl (y3.1,(↑y3.2.1.toNat:Int),y3.2.2.2.1,y3.2.2.2.2.1,y3.2.2.2.2.2.1,(y3.2.2.2.2.2.2.1+1),r10.2.1,r10.2.2.1,r10.2.2.2,y3.2.2.2.2.2.2.2.2.2.2.1,r7.2.2.2.1,r7.2.1,r7.2.2.1,r7.2.2.2.2.1,r7.2.2.2.2.2))))))))))) (
(F62 (y3.1,(y3.2.2.1+y3.2.2.2.2.2.2.2.2.2.2.1),r4.2.1,r4.2.2.1,r4.2.2.2.1,r4.2.2.2.2.1,r4.2.2.2.2.2)).bind fun r11=>(
cond r11.1 (
aq (au .i64 ((y3.2.2.1+y3.2.2.2.2.2.2.2.2.2.2.1)+1)) (
(F62 (y3.1,((y3.2.2.1+y3.2.2.2.2.2.2.2.2.2.2.1)+1),r11.2.1,r11.2.2.1,r11.2.2.2.1,r11.2.2.2.2.1,r11.2.2.2.2.2)).bind fun r12=>(
(FYb ((0,(y3.1,(y3.2.2.1,y3.2.2.2.2.2.2.2.2.2.2.1))),(!r12.1),y3.2.2.2.2.2.2.2.1,y3.2.2.2.2.2.2.2.2.1,y3.2.2.2.2.2.2.2.2.2.1)).bind fun r13=>(
cond (!r13.1) (
some (Sum.inr (Sum.inl (r13.2.1,r13.2.2.1,r13.2.2.2,y3.2.2.2.2.2.2.2.2.2.2.1,r12.2.2.2.1,r12.2.1,r12.2.2.1,r12.2.2.2.2.1,r12.2.2.2.2.2)))) (
aq (au .i64 (y3.2.2.2.2.2.2.1+1)) (
some (Sum.inl (y3.1,(↑y3.2.1.toNat:Int),y3.2.2.2.1,y3.2.2.2.2.1,y3.2.2.2.2.2.1,(y3.2.2.2.2.2.2.1+1),r13.2.1,r13.2.2.1,r13.2.2.2,y3.2.2.2.2.2.2.2.2.2.2.1,r12.2.2.2.1,r12.2.1,r12.2.2.1,r12.2.2.2.2.1,r12.2.2.2.2.2)))))))) (
(FYb ((0,(y3.1,(y3.2.2.1,y3.2.2.2.2.2.2.2.2.2.2.1))),false,y3.2.2.2.2.2.2.2.1,y3.2.2.2.2.2.2.2.2.1,y3.2.2.2.2.2.2.2.2.2.1)).bind fun r14=>(
cond (!r14.1) (
some (Sum.inr (Sum.inl (r14.2.1,r14.2.2.1,r14.2.2.2,y3.2.2.2.2.2.2.2.2.2.2.1,r11.2.2.2.1,r11.2.1,r11.2.2.1,r11.2.2.2.2.1,r11.2.2.2.2.2)))) (
aq (au .i64 (y3.2.2.2.2.2.2.1+1)) (
some (Sum.inl (y3.1,(↑y3.2.1.toNat:Int),y3.2.2.2.1,y3.2.2.2.2.1,y3.2.2.2.2.2.1,(y3.2.2.2.2.2.2.1+1),r14.2.1,r14.2.2.1,r14.2.2.2,y3.2.2.2.2.2.2.2.2.2.2.1,r11.2.2.2.1,r11.2.1,r11.2.2.1,r11.2.2.2.2.1,r11.2.2.2.2.2))))))))))))) y1)) (
some (Sum.inr (Sum.inr (a2,a3,a6,a7,a8,a9,a10,a11,a12,a13,a14))))
theorem Gb (F62:wu)(FYb:mr):zZ (up F62 FYb)=Ow (z0 F62 FYb (l61_2 (up F62 FYb))):=funext fun _=>by kernel_rfl
noncomputable def Gc (FYb:mr):=z0 qV FYb (zY FYb)
noncomputable def Aa (FYb:mr):Od:=af (Ow (Gc FYb))
theorem Gd (FYb:mr):l61_1 (up qV FYb)=Aa FYb:=congrArg af ((Gb qV FYb).trans (by rw[Ga FYb] <;> rfl))
noncomputable def Ab (T:List FEnt):=aU (xs:=zV) zU (bT T (sb [1,2,2] E5))
noncomputable def l61_0 (T:List FEnt):=af (Ab T)
noncomputable def Ac (F62:wu)(FYb:mr)(l61_1:Od)(a0 a1 a2:Int)(a3:Y4)(a4:Bool)(a5:Int)(a6:List Y2)(a7:List Int)(a8:Int)(a9:List Int)(a10:List Y3):Option (N3⊕Oa):=
cond (decide (a1 < a0)) (
aq (bv a1 a6.length) (
aq (au .i64 ((↑(List.length (ix a6 a1)):Int)-a5)) (
aq (au .i64 (((↑(List.length (ix a6 a1)):Int)-a5)+1)) (
(l61_1 (a1,(↑a1.toNat:Int),a0,a1,(((↑(List.length (ix a6 a1)):Int)-a5)+1),0,a2,a3,a4,a5,a6,a7,a8,a9,a10)).bind (fun y15=>Sum.elim (fun y16=>(
some (Sum.inr (Sum.inl (y16.1,y16.2.1,y16.2.2.1,y16.2.2.2.1,y16.2.2.2.2.1,y16.2.2.2.2.2.1,y16.2.2.2.2.2.2.1,y16.2.2.2.2.2.2.2.1,y16.2.2.2.2.2.2.2.2))))) (fun y17=>(
aq (au .i64 (y17.2.1+1)) (
some (Sum.inl (y17.1,(y17.2.1+1),y17.2.2.1,y17.2.2.2.1,y17.2.2.2.2.1,y17.2.2.2.2.2.1,y17.2.2.2.2.2.2.1,y17.2.2.2.2.2.2.2.1,y17.2.2.2.2.2.2.2.2.1,y17.2.2.2.2.2.2.2.2.2.1,y17.2.2.2.2.2.2.2.2.2.2))))) y15))))) (
some (Sum.inr (Sum.inr (a2,a3,a4,a5,a6,a7,a8,a9,a10))))
theorem Ge (F62:wu)(FYb:mr):Ab (up F62 FYb)=Ov (Ac F62 FYb (l61_1 (up F62 FYb))):=funext fun _=>by kernel_rfl
noncomputable def Gf (FYb:mr):=Ac qV FYb (Aa FYb)
noncomputable def Ad (FYb:mr):Oe:=af (Ov (Gf FYb))
theorem Gg (FYb:mr):l61_0 (up qV FYb)=Ad FYb:=congrArg af ((Ge qV FYb).trans (by rw[Gd FYb] <;> rfl))
theorem KD:L.Fn Tryz.prog 61 80 [] (erase E5):=oA Tryz.func61
def tR:FSh:=⟨⟨[(.fn 1048576 Kv),(.ptr 3 0),(.ptr 4 0)],[(0,.raw),(1,(.boxT ms)),(2,(.boxT .bool)),(3,(.box [(.ptr 5 0)])),(4,(.boxT y7)),(5,(.box Nc)),(6,(.rows 22 3 y7)),(7,(.pmap 9)),(8,(.row 3 y7)),(9,(.pool eJ))]⟩,z4,10,⟨⟨qe,[(0,.raw),(1,(.boxT ms)),(2,(.boxT .bool)),(3,(.box [(.ptr 5 0)])),(4,(.boxT y7)),(5,(.box Nc)),(6,(.rows 22 3 y7)),(7,(.pmap 9)),(8,(.row 3 y7)),(9,(.pool eJ))]⟩,z4,[0,1,2,3,4,5,6,7,8,9],10⟩,false⟩
noncomputable def Nh (F62:wu)(FYb:mr)(l61_0:Oe)(a0:Int)(a1:Y4)(a2:Bool)(a3:Int)(a4:List Int)(a5:Int)(a6:List Y2)(a7:List Int)(a8:List Y3):Option N5:=
(l61_0 ((↑a6.length:Int),0,a0,a1,a2,a3,a6,a4,a5,a7,a8)).bind (fun y18=>Sum.elim (fun y19=>(
some (y19.1,y19.2.1,y19.2.2.1,y19.2.2.2.1,y19.2.2.2.2.2.1,y19.2.2.2.2.2.2.1,y19.2.2.2.2.1,y19.2.2.2.2.2.2.2.1,y19.2.2.2.2.2.2.2.2))) (fun y20=>(
some (y20.1,y20.2.1,y20.2.2.1,y20.2.2.2.1,y20.2.2.2.2.2.1,y20.2.2.2.2.2.2.1,y20.2.2.2.2.1,y20.2.2.2.2.2.2.2.1,y20.2.2.2.2.2.2.2.2))) y18)
theorem OS (F62:wu)(FYb:mr):aO (up F62 FYb) tR [] E5=u9 (Nh F62 FYb (l61_0 (up F62 FYb))):=funext fun _=>by kernel_rfl
noncomputable def OT (FYb:mr):=Nh qV FYb (Ad FYb)
noncomputable def Eg (FYb:mr):Int×Y4×Bool×Int×Y2×Int×Y9×Y2×gi→Option N5:=fun x=>OT FYb x.1 x.2.1 x.2.2.1 x.2.2.2.1 x.2.2.2.2.1 x.2.2.2.2.2.1 x.2.2.2.2.2.2.1 x.2.2.2.2.2.2.2.1 x.2.2.2.2.2.2.2.2
theorem OU (FYb:mr):aO (up qV FYb) tR [] E5=Eg FYb:=(OS qV FYb).trans (by rw[Gg FYb] <;> rfl)
theorem OV (FYb:mr)(h:DC Tryz.prog 1048576 shYb FYb):DC Tryz.prog 61 tR (Eg FYb):=pH (OU FYb) (dx (OR FYb h) KD (by kernel_rfl))
noncomputable def KE:List FEnt:=[]
theorem OW:am Tryz.prog KE:=aa
noncomputable def KF:=cz Tryz.prog [] Tryz.f39 .n
theorem KG:L.Fn Tryz.prog 39 6 [(.t 4)] (erase KF):=oA Tryz.func39
def vR:FSh:=⟨⟨E3,k4⟩,z8,5,⟨⟨[(.fn 61 [(.ptr 5 0),(.ptr 6 0)])],[(0,(.box [(.v y19),(.v y7),(.slr 1),(.mp 2),(.slc 3)])),(1,(.rows 22 3 y7)),(2,(.pmap 4)),(3,(.row 3 y7)),(4,(.pool eJ)),(5,(.box zK)),(6,(.boxT y7))]⟩,[y19,y7,y32,y19,y53,y7],[0,1,2,3,4],7⟩,false⟩
noncomputable def Ni (a0:Int)(a1:List Int)(a2:Int)(a3:List Y2)(a4:List Int)(a5:List Y3):Option N6:=
some (a1,a2,a3,a4,a5,a0)
theorem OX:aO KE vR [(.t 4)] KF=u6 Ni:=funext fun _=>by kernel_rfl
noncomputable def OY:=Ni
noncomputable def Jy:Int×Y2×Int×Y9×Y2×gi→Option N6:=u6 OY
theorem OZ:aO KE vR [(.t 4)] KF=Jy:=OX
theorem O0:DC Tryz.prog 39 vR Jy:=dD OZ OW KG
end Go.Proofs.YtdkaijofmigmbaaGreat.D
