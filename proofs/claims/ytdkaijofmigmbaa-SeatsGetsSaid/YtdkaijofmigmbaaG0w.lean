import Derived.Test.YtdkaijofmigmbaaY0w
import Derived.Test.YtdkaijofmigmbaaGYw
import Derived.Test.YtdkaijofmigmbaaProg
set_option linter.unusedVariables false
set_option maxRecDepth 100000
namespace Go.Proofs.Ytdkaijofmigmbaa.D
open Go Go.Proofs Go.Proofs.Ytdkaijofmigmbaa.L
def z1:List Ty:=[y7,y7,y7,y7,y7,y7,y7,fq,.bool,y7,cG,y19,y7,y19,n5]
def z2:List Ty:=[y7,y7,y7,fq,.bool,y7,cG,y19,y7,y19,n5]
def z4:List Ty:=[y7,fq,.bool,y7,cG,y19,y7,y19,n5]
def z5:List Ty:=[y7,fq,.bool,y7,y19,y7,cG,y19,n5]
def Vv:List Ty:=[y7,y19,y7,cG,y19,n5]
def pR:List RSh:=[(.tup [])]
def j37:List RSh:=[(.v y7),(.v y7),(.v y7)]
def fG:List RSh:=[(.v .bool)]
def Jv:List RSh:=[(.v y19),(.v y7),(.slr 5),(.mp 7),(.slc 8)]
def j31:List RSh:=[(.ptr 0 0),(.ptr 1 0),(.ptr 2 0)]
def Jw:List RSh:=[(.ptr 6 0)]
def j1:List RSh:=[(.fn 1048576 [(.ptr 0 0),(.ptr 1 0),(.ptr 2 0)]),(.ptr 3 0),(.ptr 4 0),(.v y7),(.irow 5),(.slr 5),(.v y7),(.v y7),(.v y7),(.v y7)]
def j3:List RSh:=[(.fn 1048576 [(.ptr 0 0),(.ptr 1 0),(.ptr 2 0)]),(.ptr 3 0),(.ptr 4 0),(.slr 5),(.v y7),(.v y7)]
def j22:List RSh:=[(.v y19),(.v y7),(.slr 6),(.mp 7),(.slc 8)]
def j23:List RSh:=[(.v y19),(.v y7),(.slr 1),(.mp 2),(.slc 3)]
def Vw:List RSh:=[(.ptr 0 0),(.v y7)]
def Iq:List RSh:=[(.ptr 0 0)]
def k17:List (Nat×OSh):=[(0,(.boxT aZ)),(1,.raw),(2,(.box [(.slc 3)])),(3,(.row 40 cZ))]
def k9:List (Nat×OSh):=[(0,(.box [(.v y19),(.v y7),(.slr 1),(.mp 2),(.slc 3)])),(1,(.rows 22 3 y7)),(2,(.pmap 4)),(3,(.row 3 y7)),(4,(.pool cZ))]
set_option linter.unusedSectionVars false
variable [YP]
theorem pS:Try.prog.follows .mixedOrders=true:=by kernel_rfl
theorem oA {f:FuncId}{fn:Func}(hf:Try.prog.funcs[f]?=some fn){cs:List (Nat×RCh)}{n:Nat}{rs:List Res}{H:HT}(h:(Vm Try.prog cs fn).map (fun x=>(x.1,x.2.1))=some (n,rs):=by kernel_rfl)(e:Nat.beq f YB=false:=by rfl):L.Fn Try.prog f n rs (erase (bK Try.prog cs fn H)):=Fn.ofA pS hf cs H h e
noncomputable def B7 (FYa:CC):List FEnt:=[⟨1048576,shYa,FYa⟩]
theorem t110 (FYa:CC)(h:DC Try.prog 1048576 shYa FYa):ak Try.prog (B7 FYa):=(aJ h (by kernel_rfl) ai)
def En:LSh:=⟨[0,5,6,7],⟨[(.fn 1048576 [(.ptr 0 0),(.ptr 1 0)]),(.v aZ),(.v y7),(.v y7)],[(0,.raw),(1,(.box [(.slc 2)])),(2,(.row 40 cZ))]⟩,[aZ,y7,y7,y7,aZ],3,[0,1]⟩
def Eo:List XSh:=[⟨.ret,[],⟨⟨[],[(0,.raw),(1,(.box [(.slc 2)])),(2,(.row 40 cZ))]⟩,[y7,aZ],[0,1],3⟩⟩,⟨(.exit 0),[],⟨⟨[],[(0,.raw),(1,(.box [(.slc 2)])),(2,(.row 40 cZ))]⟩,[y7,aZ],[0,1],3⟩⟩]
noncomputable def Jx:=bK Try.prog [] Try.f110 (.s .n (.b (.l En Eo .n)))
noncomputable def Ep (T:List FEnt):=aB (xs:=Eo) En (bc T (sb [1,2,2] Jx))
noncomputable def l110_0 (T:List FEnt):=aa (Ep T)
noncomputable def mZ (FYa:CC)(a0:List Y1)(a1 a2 a3:Int)(a4:List Y1):Option ((Y8×Int×Int×Int×Y8)⊕Y33):=
cond (decide (a2 < a1)) (
ah (aA a2 a0.length) (
(FYa ((ix a0 a2),a3,a4)).bind fun r1=>(
cond (!r1.1) (
some (Sum.inr (Sum.inl (r1.2.1,r1.2.2)))) (
ah (af .i64 (a2+1)) (
some (Sum.inl (a0,a1,(a2+1),r1.2.1,r1.2.2))))))) (
some (Sum.inr (Sum.inr (a3,a4))))
theorem RI (FYa:CC):Ep (B7 FYa)=u5 (mZ FYa):=funext fun _=>by kernel_rfl
noncomputable def Er (FYa:CC):=mZ FYa
noncomputable def tr (FYa:CC):Y37:=aa (u5 (Er FYa))
theorem RJ (FYa:CC):l110_0 (B7 FYa)=tr FYa:=congrArg aa (RI FYa)
theorem WF:L.Fn Try.prog 110 16 [] (erase Jx):=oA Try.func110
def rG:FSh:=⟨⟨[(.fn 1048576 [(.ptr 1 0),(.ptr 2 0)]),(.ptr 0 0)],k17⟩,[aZ,y7,aZ],4,⟨⟨pR,k17⟩,[aZ,y7,aZ],[0,1,2],4⟩,false⟩
noncomputable def Jy (FYa:CC)(l110_0:Y37)(a0:List Y1)(a1:Int)(a2:List Y1):Option Y22:=
(l110_0 (a0,(↑a0.length:Int),0,a1,a2)).bind (fun y2=>Sum.elim (fun y3=>(
some (a0,y3.1,y3.2))) (fun y4=>(
some (a0,y4.1,y4.2))) y2)
theorem g110 (FYa:CC):aK (B7 FYa) rG [] Jx=u3 (Jy FYa (l110_0 (B7 FYa))):=funext fun _=>by kernel_rfl
noncomputable def p110 (FYa:CC):=Jy FYa (tr FYa)
noncomputable def vw (FYa:CC):Y8×Int×Y8→Option Y22:=fun x=>p110 FYa x.1 x.2.1 x.2.2
theorem v110 (FYa:CC):aK (B7 FYa) rG [] Jx=vw FYa:=(g110 FYa).trans (by rw[RJ FYa] <;> rfl)
theorem d110 (FYa:CC)(h:DC Try.prog 1048576 shYa FYa):DC Try.prog 110 rG (vw FYa):=vl (v110 FYa) (eW (t110 FYa h) WF (by kernel_rfl))
noncomputable def T60:List FEnt:=[]
theorem t60:ak Try.prog T60:=ai
noncomputable def c60:=bK Try.prog [] Try.f60 .n
theorem ok60:L.Fn Try.prog 60 15 [(.t 6)] (erase c60):=oA Try.func60
def tt:FSh:=⟨⟨j37,[]⟩,[y7,y7,y7],0,⟨⟨fG,[]⟩,[.bool],[],0⟩,true⟩
noncomputable def q60 (a0 a1 a2:Int):Option Bool:=
cond (decide (a1≤a0)) (
some (decide (a0≤a2))) (
some false)
theorem g60:aK T60 tt [(.t 6)] c60=u3 q60:=funext fun _=>by kernel_rfl
noncomputable def p60:=q60
noncomputable def P60:Y5:=u3 p60
theorem v60:aK T60 tt [(.t 6)] c60=P60:=g60
theorem Vx:DC Try.prog 60 tt P60:=dD v60 t60 ok60
noncomputable def T97 (F60:Y5):List FEnt:=[⟨60,tt,F60⟩]
theorem t97:ak Try.prog (T97 P60):=dK ai Vx
noncomputable def c97:=bK Try.prog [] Try.f97 .n
theorem ok97:L.Fn Try.prog 97 31 [(.t 6)] (erase c97):=oA Try.func97
def Jz:FSh:=⟨⟨[(.ptr 0 0),(.v y7),(.v y7)],k9⟩,[y7,y7,y19,y7,cG,y19,n5],5,⟨⟨fG,k9⟩,[.bool,y19,y7,cG,y19,n5],[0,1,2,3,4],5⟩,false⟩
noncomputable def q97 (F60:Y5)(a0 a1:Int)(a2:List Int)(a3:Int)(a4:List Y2)(a5:List Int)(a6:List Y3):Option Y15:=
ah (aA a0 a4.length) (
ah (af .i64 ((↑(List.length (ix a4 a0)):Int)-1)) (
(F60 (a1,0,((↑(List.length (ix a4 a0)):Int)-1))).bind fun r1=>(
cond r1 (
ah (aA a0 a4.length) (
ah (aA a1 (List.length (ix a4 a0))) (
some (decide ((ix (ix a4 a0) a1)=(-1)),a2,a3,a4,a5,a6)))) (
some (false,a2,a3,a4,a5,a6)))))
theorem g97 (F60:Y5):aK (T97 F60) Jz [(.t 6)] c97=u7 (q97 F60):=funext fun _=>by kernel_rfl
noncomputable def p97:=q97 P60
noncomputable def P97:Is:=u7 p97
theorem v97:aK (T97 P60) Jz [(.t 6)] c97=P97:=g97 P60
theorem d97:DC Try.prog 97 Jz P97:=dD v97 t97 ok97
noncomputable def C1 (F97:Is)(FYb:pZ):List FEnt:=[⟨97,Jz,F97⟩,⟨1048576,shYb,FYb⟩]
theorem t96 (FYb:pZ)(h:DC Try.prog 1048576 shYb FYb):ak Try.prog (C1 P97 FYb):=(aJ d97 (by kernel_rfl) (aJ h (by kernel_rfl) ai))
def Mc:LSh:=⟨[0,1,2,4,5,6,13,14,15,24,25,28,29],⟨[(.fn 1048576 j31),(.ptr 3 0),(.ptr 4 0),(.v y7),(.irow 5),(.v y7),(.slr 5),(.v y7),(.v y7),(.v y7),(.v y7),(.v y7),(.v y7)],[(0,.raw),(1,(.boxT fq)),(2,(.boxT .bool)),(3,(.box Jw)),(4,(.boxT y7)),(5,(.rows 22 3 y7)),(6,(.box Jv)),(7,(.pmap 9)),(8,(.row 3 y7)),(9,(.pool cZ))]⟩,[y7,y7,y7,y7,y7,y7,y7,y7,y7,y7,fq,.bool,y7,cG,y19,y7,y19,n5],10,[0,1,2,3,4,5,6,7,8,9]⟩
def Md:List XSh:=[⟨(.exit 3),[0,1,2,4,5,13,14,15,24,25],⟨⟨j1,[(0,.raw),(1,(.boxT fq)),(2,(.boxT .bool)),(3,(.box Jw)),(4,(.boxT y7)),(5,(.rows 22 3 y7)),(6,(.box Jv)),(7,(.pmap 9)),(8,(.row 3 y7)),(9,(.pool cZ))]⟩,z1,[0,1,2,3,4,5,6,7,8,9],10⟩⟩,⟨(.exit 4),[0,1,2,4,5,6,13,14,15,24,25],⟨⟨[(.fn 1048576 j31),(.ptr 3 0),(.ptr 4 0),(.v y7),(.irow 5),(.v y7),(.slr 5),(.v y7),(.v y7),(.v y7),(.v y7)],[(0,.raw),(1,(.boxT fq)),(2,(.boxT .bool)),(3,(.box Jw)),(4,(.boxT y7)),(5,(.rows 22 3 y7)),(6,(.box Jv)),(7,(.pmap 9)),(8,(.row 3 y7)),(9,(.pool cZ))]⟩,[y7,y7,y7,y7,y7,y7,y7,y7,fq,.bool,y7,cG,y19,y7,y19,n5],[0,1,2,3,4,5,6,7,8,9],10⟩⟩]
def Me:LSh:=⟨[0,1,2,4,5,13,14,15,24,25],⟨j1,[(0,.raw),(1,(.boxT fq)),(2,(.boxT .bool)),(3,(.box Jw)),(4,(.boxT y7)),(5,(.rows 22 3 y7)),(6,(.box Jv)),(7,(.pmap 9)),(8,(.row 3 y7)),(9,(.pool cZ))]⟩,z1,10,[0,1,2,3,4,5,6,7,8,9]⟩
def Mf:List XSh:=[⟨.ret,[],⟨⟨[],[(0,.raw),(1,(.boxT fq)),(2,(.boxT .bool)),(3,(.box Jw)),(4,(.boxT y7)),(5,(.rows 22 3 y7)),(6,(.box Jv)),(7,(.pmap 9)),(8,(.row 3 y7)),(9,(.pool cZ))]⟩,z4,[0,1,2,3,4,5,6,7,8,9],10⟩⟩,⟨(.exit 2),[0,1,2,13,14,15],⟨⟨j3,[(0,.raw),(1,(.boxT fq)),(2,(.boxT .bool)),(3,(.box Jw)),(4,(.boxT y7)),(5,(.rows 22 3 y7)),(6,(.box Jv)),(7,(.pmap 9)),(8,(.row 3 y7)),(9,(.pool cZ))]⟩,z2,[0,1,2,3,4,5,6,7,8,9],10⟩⟩]
def Mg:LSh:=⟨[0,1,2,13,14,15],⟨j3,[(0,.raw),(1,(.boxT fq)),(2,(.boxT .bool)),(3,(.box Jw)),(4,(.boxT y7)),(5,(.rows 22 3 y7)),(6,(.box Jv)),(7,(.pmap 9)),(8,(.row 3 y7)),(9,(.pool cZ))]⟩,z2,10,[0,1,2,3,4,5,6,7,8,9]⟩
def Mh:List XSh:=[⟨.ret,[],⟨⟨[],[(0,.raw),(1,(.boxT fq)),(2,(.boxT .bool)),(3,(.box Jw)),(4,(.boxT y7)),(5,(.rows 22 3 y7)),(6,(.box Jv)),(7,(.pmap 9)),(8,(.row 3 y7)),(9,(.pool cZ))]⟩,z4,[0,1,2,3,4,5,6,7,8,9],10⟩⟩,⟨(.exit 0),[],⟨⟨[],[(0,.raw),(1,(.boxT fq)),(2,(.boxT .bool)),(3,(.box Jw)),(4,(.boxT y7)),(5,(.rows 22 3 y7)),(6,(.box Jv)),(7,(.pmap 9)),(8,(.row 3 y7)),(9,(.pool cZ))]⟩,z4,[0,1,2,3,4,5,6,7,8,9],10⟩⟩]
noncomputable def Vy:=bK Try.prog [] Try.f96 (.s .n (.b (.l Mg Mh (.s .n (.s .n (.s (.b (.s .n (.s .n (.s .n (.b (.l Me Mf (.s .n (.s .n (.s (.b (.s .n (.s (.s .n (.b (.l Mc Md .n))) .n))) .n))))))))) .n))))))
noncomputable def Mi (T:List FEnt):=aB (xs:=Md) Mc (bc T (sb [1,2,2,1,1,0,2,1,1,1,2,2,1,1,0,2,1,0,1,2,2] Vy))
noncomputable def l96_2 (T:List FEnt):=aa (Mi T)
noncomputable def rH (F97:Is)(FYb:pZ)(a0 a1 a2 a3 a4 a5 a6 a7 a8 a9:Int)(a10:Y4)(a11:Bool)(a12:Int)(a13:List Y2)(a14:List Int)(a15:Int)(a16:List Int)(a17:List Y3):Option ((Int×Int×Int×Int×Int×Int×Int×Int×Int×Int×Y4×Bool×Int×Y9×Y2×Int×Y2×iT)⊕Y34):=
cond (decide (a8 < a7)) (
ah (af .i64 (a2+a8)) (
ah (aA (a2+a8) (List.length (ix a13 a1))) (
cond (!decide ((ix (ix a13 a1) (a2+a8))=(-1))) (
some (Sum.inr (Sum.inl (a0,(↑a1.toNat:Int),a3,a4,a5,a6,a9,a10,a11,a12,a13,a14,a15,a16,a17)))) (
ah (af .i64 (a8+1)) (
some (Sum.inl (a0,(↑a1.toNat:Int),a2,a3,a4,a5,a6,a7,(a8+1),a9,a10,a11,a12,a13,a14,a15,a16,a17))))))) (
some (Sum.inr (Sum.inr (a0,(↑a1.toNat:Int),a2,a3,a4,a5,a6,a9,a10,a11,a12,a13,a14,a15,a16,a17))))
theorem WG (F97:Is)(FYb:pZ):Mi (C1 F97 FYb)=u18 (rH F97 FYb):=funext fun _=>by kernel_rfl
noncomputable def Mj (FYb:pZ):=rH P97 FYb
noncomputable def L96_2 (FYb:pZ):Y38:=aa (u18 (Mj FYb))
theorem WH (FYb:pZ):l96_2 (C1 P97 FYb)=L96_2 FYb:=congrArg aa (WG P97 FYb)
noncomputable def Ml (T:List FEnt):=aB (xs:=Mf) Me (bc T (sb [1,2,2,1,1,0,2,1,1,1,2,2] Vy))
noncomputable def l96_1 (T:List FEnt):=aa (Ml T)
noncomputable def q96_1 (F97:Is)(FYb:pZ)(l96_2:Y38)(a0 a1 a2 a3 a4 a5 a6:Int)(a7:Y4)(a8:Bool)(a9:Int)(a10:List Y2)(a11:List Int)(a12:Int)(a13:List Int)(a14:List Y3):Option (Y13⊕Y35):=
cond (decide (a5 < a4)) (
(l96_2 (a0,(↑a1.toNat:Int),a5,a2,a3,a4,a5,a9,0,a6,a7,a8,a9,a10,a11,a12,a13,a14)).bind (fun y1=>Sum.elim (fun y2=>(
ah (af .i64 (y2.2.2.2.2.2.1+1)) (
some (Sum.inl (y2.1,(↑y2.2.1.toNat:Int),y2.2.2.1,y2.2.2.2.1,y2.2.2.2.2.1,(y2.2.2.2.2.2.1+1),y2.2.2.2.2.2.2.1,y2.2.2.2.2.2.2.2.1,y2.2.2.2.2.2.2.2.2.1,y2.2.2.2.2.2.2.2.2.2.1,y2.2.2.2.2.2.2.2.2.2.2.1,y2.2.2.2.2.2.2.2.2.2.2.2.1,y2.2.2.2.2.2.2.2.2.2.2.2.2.1,y2.2.2.2.2.2.2.2.2.2.2.2.2.2.1,y2.2.2.2.2.2.2.2.2.2.2.2.2.2.2))))) (fun y3=>(
ah (af .i64 (y3.2.2.1+y3.2.2.2.2.2.2.2.2.2.2.1)) (
ah (af .i64 (y3.2.2.1-1)) (
(F97 (y3.1,(y3.2.2.1-1),y3.2.2.2.2.2.2.2.2.2.2.2.2.1,y3.2.2.2.2.2.2.2.2.2.2.2.2.2.1,y3.2.2.2.2.2.2.2.2.2.2.2.1,y3.2.2.2.2.2.2.2.2.2.2.2.2.2.2.1,y3.2.2.2.2.2.2.2.2.2.2.2.2.2.2.2)).bind fun r4=>(
cond r4.1 (
ah (af .i64 (y3.2.2.1-2)) (
(F97 (y3.1,(y3.2.2.1-2),r4.2.1,r4.2.2.1,r4.2.2.2.1,r4.2.2.2.2.1,r4.2.2.2.2.2)).bind fun r5=>(
cond (!r5.1) (
(FYb ((0,(y3.1,(y3.2.2.1,y3.2.2.2.2.2.2.2.2.2.2.1))),true,y3.2.2.2.2.2.2.2.1,y3.2.2.2.2.2.2.2.2.1,y3.2.2.2.2.2.2.2.2.2.1)).bind fun r6=>(
cond (!r6.1) (
some (Sum.inr (Sum.inl (r6.2.1,r6.2.2.1,r6.2.2.2,y3.2.2.2.2.2.2.2.2.2.2.1,r5.2.2.2.1,r5.2.1,r5.2.2.1,r5.2.2.2.2.1,r5.2.2.2.2.2)))) (
ah (af .i64 (y3.2.2.2.2.2.2.1+1)) (
some (Sum.inl (y3.1,(↑y3.2.1.toNat:Int),y3.2.2.2.1,y3.2.2.2.2.1,y3.2.2.2.2.2.1,(y3.2.2.2.2.2.2.1+1),r6.2.1,r6.2.2.1,r6.2.2.2,y3.2.2.2.2.2.2.2.2.2.2.1,r5.2.2.2.1,r5.2.1,r5.2.2.1,r5.2.2.2.2.1,r5.2.2.2.2.2)))))) (
(F97 (y3.1,(y3.2.2.1+y3.2.2.2.2.2.2.2.2.2.2.1),r5.2.1,r5.2.2.1,r5.2.2.2.1,r5.2.2.2.2.1,r5.2.2.2.2.2)).bind fun r7=>(
cond r7.1 (
ah (af .i64 ((y3.2.2.1+y3.2.2.2.2.2.2.2.2.2.2.1)+1)) (
(F97 (y3.1,((y3.2.2.1+y3.2.2.2.2.2.2.2.2.2.2.1)+1),r7.2.1,r7.2.2.1,r7.2.2.2.1,r7.2.2.2.2.1,r7.2.2.2.2.2)).bind fun r8=>(
(FYb ((0,(y3.1,(y3.2.2.1,y3.2.2.2.2.2.2.2.2.2.2.1))),(!r8.1),y3.2.2.2.2.2.2.2.1,y3.2.2.2.2.2.2.2.2.1,y3.2.2.2.2.2.2.2.2.2.1)).bind fun r9=>(
cond (!r9.1) (
some (Sum.inr (Sum.inl (r9.2.1,r9.2.2.1,r9.2.2.2,y3.2.2.2.2.2.2.2.2.2.2.1,r8.2.2.2.1,r8.2.1,r8.2.2.1,r8.2.2.2.2.1,r8.2.2.2.2.2)))) (
ah (af .i64 (y3.2.2.2.2.2.2.1+1)) (
some (Sum.inl (y3.1,(↑y3.2.1.toNat:Int),y3.2.2.2.1,y3.2.2.2.2.1,y3.2.2.2.2.2.1,(y3.2.2.2.2.2.2.1+1),r9.2.1,r9.2.2.1,r9.2.2.2,y3.2.2.2.2.2.2.2.2.2.2.1,r8.2.2.2.1,r8.2.1,r8.2.2.1,r8.2.2.2.2.1,r8.2.2.2.2.2)))))))) (
(FYb ((0,(y3.1,(y3.2.2.1,y3.2.2.2.2.2.2.2.2.2.2.1))),false,y3.2.2.2.2.2.2.2.1,y3.2.2.2.2.2.2.2.2.1,y3.2.2.2.2.2.2.2.2.2.1)).bind fun r10=>(
cond (!r10.1) (
some (Sum.inr (Sum.inl (r10.2.1,r10.2.2.1,r10.2.2.2,y3.2.2.2.2.2.2.2.2.2.2.1,r7.2.2.2.1,r7.2.1,r7.2.2.1,r7.2.2.2.2.1,r7.2.2.2.2.2)))) (
ah (af .i64 (y3.2.2.2.2.2.2.1+1)) (
some (Sum.inl (y3.1,(↑y3.2.1.toNat:Int),y3.2.2.2.1,y3.2.2.2.2.1,y3.2.2.2.2.2.1,(y3.2.2.2.2.2.2.1+1),r10.2.1,r10.2.2.1,r10.2.2.2,y3.2.2.2.2.2.2.2.2.2.2.1,r7.2.2.2.1,r7.2.1,r7.2.2.1,r7.2.2.2.2.1,r7.2.2.2.2.2))))))))))) (
(F97 (y3.1,(y3.2.2.1+y3.2.2.2.2.2.2.2.2.2.2.1),r4.2.1,r4.2.2.1,r4.2.2.2.1,r4.2.2.2.2.1,r4.2.2.2.2.2)).bind fun r11=>(
cond r11.1 (
ah (af .i64 ((y3.2.2.1+y3.2.2.2.2.2.2.2.2.2.2.1)+1)) (
(F97 (y3.1,((y3.2.2.1+y3.2.2.2.2.2.2.2.2.2.2.1)+1),r11.2.1,r11.2.2.1,r11.2.2.2.1,r11.2.2.2.2.1,r11.2.2.2.2.2)).bind fun r12=>(
(FYb ((0,(y3.1,(y3.2.2.1,y3.2.2.2.2.2.2.2.2.2.2.1))),(!r12.1),y3.2.2.2.2.2.2.2.1,y3.2.2.2.2.2.2.2.2.1,y3.2.2.2.2.2.2.2.2.2.1)).bind fun r13=>(
cond (!r13.1) (
some (Sum.inr (Sum.inl (r13.2.1,r13.2.2.1,r13.2.2.2,y3.2.2.2.2.2.2.2.2.2.2.1,r12.2.2.2.1,r12.2.1,r12.2.2.1,r12.2.2.2.2.1,r12.2.2.2.2.2)))) (
ah (af .i64 (y3.2.2.2.2.2.2.1+1)) (
some (Sum.inl (y3.1,(↑y3.2.1.toNat:Int),y3.2.2.2.1,y3.2.2.2.2.1,y3.2.2.2.2.2.1,(y3.2.2.2.2.2.2.1+1),r13.2.1,r13.2.2.1,r13.2.2.2,y3.2.2.2.2.2.2.2.2.2.2.1,r12.2.2.2.1,r12.2.1,r12.2.2.1,r12.2.2.2.2.1,r12.2.2.2.2.2)))))))) (
(FYb ((0,(y3.1,(y3.2.2.1,y3.2.2.2.2.2.2.2.2.2.2.1))),false,y3.2.2.2.2.2.2.2.1,y3.2.2.2.2.2.2.2.2.1,y3.2.2.2.2.2.2.2.2.2.1)).bind fun r14=>(
cond (!r14.1) (
some (Sum.inr (Sum.inl (r14.2.1,r14.2.2.1,r14.2.2.2,y3.2.2.2.2.2.2.2.2.2.2.1,r11.2.2.2.1,r11.2.1,r11.2.2.1,r11.2.2.2.2.1,r11.2.2.2.2.2)))) (
ah (af .i64 (y3.2.2.2.2.2.2.1+1)) (
some (Sum.inl (y3.1,(↑y3.2.1.toNat:Int),y3.2.2.2.1,y3.2.2.2.2.1,y3.2.2.2.2.2.1,(y3.2.2.2.2.2.2.1+1),r14.2.1,r14.2.2.1,r14.2.2.2,y3.2.2.2.2.2.2.2.2.2.2.1,r11.2.2.2.1,r11.2.1,r11.2.2.1,r11.2.2.2.2.1,r11.2.2.2.2.2))))))))))))) y1)) (
some (Sum.inr (Sum.inr (a2,a3,a6,a7,a8,a9,a10,a11,a12,a13,a14))))
theorem WI (F97:Is)(FYb:pZ):Ml (C1 F97 FYb)=u15 (q96_1 F97 FYb (l96_2 (C1 F97 FYb))):=funext fun _=>by kernel_rfl
noncomputable def Mm (FYb:pZ):=q96_1 P97 FYb (L96_2 FYb)
noncomputable def vz (FYb:pZ):Y39:=aa (u15 (Mm FYb))
theorem WJ (FYb:pZ):l96_1 (C1 P97 FYb)=vz FYb:=congrArg aa ((WI P97 FYb).trans (by rw[WH FYb] <;> rfl))
noncomputable def Mn (T:List FEnt):=aB (xs:=Mh) Mg (bc T (sb [1,2,2] Vy))
noncomputable def l96_0 (T:List FEnt):=aa (Mn T)
noncomputable def rI (F97:Is)(FYb:pZ)(l96_1:Y39)(a0 a1 a2:Int)(a3:Y4)(a4:Bool)(a5:Int)(a6:List Y2)(a7:List Int)(a8:Int)(a9:List Int)(a10:List Y3):Option (Y17⊕Y36):=
cond (decide (a1 < a0)) (
ah (aA a1 a6.length) (
ah (af .i64 ((↑(List.length (ix a6 a1)):Int)-a5)) (
ah (af .i64 (((↑(List.length (ix a6 a1)):Int)-a5)+1)) (
(l96_1 (a1,(↑a1.toNat:Int),a0,a1,(((↑(List.length (ix a6 a1)):Int)-a5)+1),0,a2,a3,a4,a5,a6,a7,a8,a9,a10)).bind (fun y15=>Sum.elim (fun y16=>(
some (Sum.inr (Sum.inl (y16.1,y16.2.1,y16.2.2.1,y16.2.2.2.1,y16.2.2.2.2.1,y16.2.2.2.2.2.1,y16.2.2.2.2.2.2.1,y16.2.2.2.2.2.2.2.1,y16.2.2.2.2.2.2.2.2))))) (fun y17=>(
ah (af .i64 (y17.2.1+1)) (
some (Sum.inl (y17.1,(y17.2.1+1),y17.2.2.1,y17.2.2.2.1,y17.2.2.2.2.1,y17.2.2.2.2.2.1,y17.2.2.2.2.2.2.1,y17.2.2.2.2.2.2.2.1,y17.2.2.2.2.2.2.2.2.1,y17.2.2.2.2.2.2.2.2.2.1,y17.2.2.2.2.2.2.2.2.2.2))))) y15))))) (
some (Sum.inr (Sum.inr (a2,a3,a4,a5,a6,a7,a8,a9,a10))))
theorem WK (F97:Is)(FYb:pZ):Mn (C1 F97 FYb)=u11 (rI F97 FYb (l96_1 (C1 F97 FYb))):=funext fun _=>by kernel_rfl
noncomputable def Mo (FYb:pZ):=rI P97 FYb (vz FYb)
noncomputable def zO (FYb:pZ):Y40:=aa (u11 (Mo FYb))
theorem WL (FYb:pZ):l96_0 (C1 P97 FYb)=zO FYb:=congrArg aa ((WK P97 FYb).trans (by rw[WJ FYb] <;> rfl))
theorem ok96:L.Fn Try.prog 96 80 [] (erase Vy):=oA Try.func96
def B8:FSh:=⟨⟨[(.fn 1048576 j31),(.ptr 3 0),(.ptr 4 0)],[(0,.raw),(1,(.boxT fq)),(2,(.boxT .bool)),(3,(.box [(.ptr 5 0)])),(4,(.boxT y7)),(5,(.box j22)),(6,(.rows 22 3 y7)),(7,(.pmap 9)),(8,(.row 3 y7)),(9,(.pool cZ))]⟩,z5,10,⟨⟨pR,[(0,.raw),(1,(.boxT fq)),(2,(.boxT .bool)),(3,(.box [(.ptr 5 0)])),(4,(.boxT y7)),(5,(.box j22)),(6,(.rows 22 3 y7)),(7,(.pmap 9)),(8,(.row 3 y7)),(9,(.pool cZ))]⟩,z5,[0,1,2,3,4,5,6,7,8,9],10⟩,false⟩
noncomputable def q96 (F97:Is)(FYb:pZ)(l96_0:Y40)(a0:Int)(a1:Y4)(a2:Bool)(a3:Int)(a4:List Int)(a5:Int)(a6:List Y2)(a7:List Int)(a8:List Y3):Option Y24:=
(l96_0 ((↑a6.length:Int),0,a0,a1,a2,a3,a6,a4,a5,a7,a8)).bind (fun y18=>Sum.elim (fun y19=>(
some (y19.1,y19.2.1,y19.2.2.1,y19.2.2.2.1,y19.2.2.2.2.2.1,y19.2.2.2.2.2.2.1,y19.2.2.2.2.1,y19.2.2.2.2.2.2.2.1,y19.2.2.2.2.2.2.2.2))) (fun y20=>(
some (y20.1,y20.2.1,y20.2.2.1,y20.2.2.2.1,y20.2.2.2.2.2.1,y20.2.2.2.2.2.2.1,y20.2.2.2.2.1,y20.2.2.2.2.2.2.2.1,y20.2.2.2.2.2.2.2.2))) y18)
theorem g96 (F97:Is)(FYb:pZ):aK (C1 F97 FYb) B8 [] Vy=u9 (q96 F97 FYb (l96_0 (C1 F97 FYb))):=funext fun _=>by kernel_rfl
noncomputable def p96 (FYb:pZ):=q96 P97 FYb (zO FYb)
noncomputable def Mp (FYb:pZ):Int×Y4×Bool×Int×Y2×Int×Y9×Y2×iT→Option Y24:=fun x=>p96 FYb x.1 x.2.1 x.2.2.1 x.2.2.2.1 x.2.2.2.2.1 x.2.2.2.2.2.1 x.2.2.2.2.2.2.1 x.2.2.2.2.2.2.2.1 x.2.2.2.2.2.2.2.2
theorem v96 (FYb:pZ):aK (C1 P97 FYb) B8 [] Vy=Mp FYb:=(g96 P97 FYb).trans (by rw[WL FYb] <;> rfl)
theorem d96 (FYb:pZ)(h:DC Try.prog 1048576 shYb FYb):DC Try.prog 96 B8 (Mp FYb):=vl (v96 FYb) (eW (t96 FYb h) ok96 (by kernel_rfl))
noncomputable def T68:List FEnt:=[]
theorem t68:ak Try.prog T68:=ai
noncomputable def c68:=bK Try.prog [] Try.f68 .n
theorem ok68:L.Fn Try.prog 68 6 [(.t 4)] (erase c68):=oA Try.func68
def Es:FSh:=⟨⟨Vw,k9⟩,Vv,5,⟨⟨[(.fn 96 [(.ptr 5 0),(.ptr 6 0)])],[(0,(.box j23)),(1,(.rows 22 3 y7)),(2,(.pmap 4)),(3,(.row 3 y7)),(4,(.pool cZ)),(5,(.box Iq)),(6,(.boxT y7))]⟩,[y19,y7,cG,y19,n5,y7],[0,1,2,3,4],7⟩,false⟩
noncomputable def q68 (a0:Int)(a1:List Int)(a2:Int)(a3:List Y2)(a4:List Int)(a5:List Y3):Option Y25:=
some (a1,a2,a3,a4,a5,a0)
theorem g68:aK T68 Es [(.t 4)] c68=u6 q68:=funext fun _=>by kernel_rfl
noncomputable def p68:=q68
noncomputable def P68:Int×Y2×Int×Y9×Y2×iT→Option Y25:=u6 p68
theorem v68:aK T68 Es [(.t 4)] c68=P68:=g68
theorem d68:DC Try.prog 68 Es P68:=dD v68 t68 ok68
end Go.Proofs.Ytdkaijofmigmbaa.D
