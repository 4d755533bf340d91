import Derived.Test.YtdkaijofmigmbaaY0m
import Derived.Test.YtdkaijofmigmbaaGYm
import Derived.Test.YtdkaijofmigmbaaProg
set_option linter.unusedVariables false
set_option maxRecDepth 100000
namespace Go.Proofs.Ytdkaijofmigmbaa.D
open Go Go.Proofs Go.Proofs.Ytdkaijofmigmbaa.L
def z1:List Ty:=[y7,y7,y7,y7,y7,y7,y7,eX,.bool,y7,cI,y19,y7,y19,oz]
def z2:List Ty:=[y7,y7,y7,eX,.bool,y7,cI,y19,y7,y19,oz]
def z4:List Ty:=[y7,eX,.bool,y7,cI,y19,y7,y19,oz]
def z5:List Ty:=[y7,eX,.bool,y7,y19,y7,cI,y19,oz]
def Tv:List Ty:=[y7,y19,y7,cI,y19,oz]
def pG:List RSh:=[(.tup [])]
def j36:List RSh:=[(.v y7),(.v y7),(.v y7)]
def ft:List RSh:=[(.v .bool)]
def Iw:List RSh:=[(.v y19),(.v y7),(.slr 5),(.mp 7),(.slc 8)]
def j30:List RSh:=[(.ptr 0 0),(.ptr 1 0),(.ptr 2 0)]
def Ix:List RSh:=[(.ptr 6 0)]
def j1:List RSh:=[(.fn 1048576 [(.ptr 0 0),(.ptr 1 0),(.ptr 2 0)]),(.ptr 3 0),(.ptr 4 0),(.v y7),(.irow 5),(.slr 5),(.v y7),(.v y7),(.v y7),(.v y7)]
def j3:List RSh:=[(.fn 1048576 [(.ptr 0 0),(.ptr 1 0),(.ptr 2 0)]),(.ptr 3 0),(.ptr 4 0),(.slr 5),(.v y7),(.v y7)]
def j22:List RSh:=[(.v y19),(.v y7),(.slr 6),(.mp 7),(.slc 8)]
def Tw:List RSh:=[(.ptr 0 0),(.v y7)]
def Iy:List RSh:=[(.ptr 0 0)]
def k17:List (Nat×OSh):=[(0,(.boxT bd)),(1,.raw),(2,(.box [(.slc 3)])),(3,(.row 40 da))]
def k9:List (Nat×OSh):=[(0,(.box [(.v y19),(.v y7),(.slr 1),(.mp 2),(.slc 3)])),(1,(.rows 22 3 y7)),(2,(.pmap 4)),(3,(.row 3 y7)),(4,(.pool da))]
set_option linter.unusedSectionVars false
variable [YP]
theorem aN:Try.prog.follows .mixedOrders=true:=by kernel_rfl
noncomputable def By (FYa:BX):List FEnt:=[⟨1048576,shYa,FYa⟩]
theorem t110 (FYa:BX)(h:DC Try.prog 1048576 shYa FYa):aq Try.prog (By FYa):=(af h (by kernel_rfl) al)
def Dx:LSh:=⟨[0,5,6,7],⟨[(.fn 1048576 [(.ptr 0 0),(.ptr 1 0)]),(.v bd),(.v y7),(.v y7)],[(0,.raw),(1,(.box [(.slc 2)])),(2,(.row 40 da))]⟩,[bd,y7,y7,y7,bd],3,[0,1]⟩
def Dy:List XSh:=[⟨.ret,[],⟨⟨[],[(0,.raw),(1,(.box [(.slc 2)])),(2,(.row 40 da))]⟩,[y7,bd],[0,1],3⟩⟩,⟨(.exit 0),[],⟨⟨[],[(0,.raw),(1,(.box [(.slc 2)])),(2,(.row 40 da))]⟩,[y7,bd],[0,1],3⟩⟩]
noncomputable def Iz:=bU Try.prog [] Try.f110 (.s .n (.b (.l Dx Dy .n)))
noncomputable def Dz (T:List FEnt):=aG (xs:=Dy) Dx (bg T (sb [1,2,2] Iz))
noncomputable def l110_0 (T:List FEnt):=ah (Dz T)
noncomputable def mM (FYa:BX)(a0:List Y1)(a1 a2 a3:Int)(a4:List Y1):Option Y42:=
cond (decide (a2 < a1)) (
aj (aC a2 a0.length) (
(FYa ((ix a0 a2),a3,a4)).bind fun r1=>(
cond (!r1.1) (
some (Sum.inr (Sum.inl (r1.2.1,r1.2.2)))) (
aj (ai .i64 (a2+1)) (
some (Sum.inl (a0,a1,(a2+1),r1.2.1,r1.2.2))))))) (
some (Sum.inr (Sum.inr (a3,a4))))
theorem PJ (FYa:BX):Dz (By FYa)=u5 (mM FYa):=funext fun _=>by kernel_rfl
noncomputable def DA (FYa:BX):=mM FYa
noncomputable def sY (FYa:BX):Y37:=ah (fun x=>DA FYa x.1 x.2.1 x.2.2.1 x.2.2.2.1 x.2.2.2.2)
theorem PL (FYa:BX):l110_0 (By FYa)=sY FYa:=congrArg ah (PJ FYa)
theorem UF:L.Fn Try.prog 110 16 [] (erase Iz):=Fn.ofA aN Try.func110 _ _ (by kernel_rfl)
def rm:FSh:=⟨⟨[(.fn 1048576 [(.ptr 1 0),(.ptr 2 0)]),(.ptr 0 0)],k17⟩,[bd,y7,bd],4,⟨⟨pG,k17⟩,[bd,y7,bd],[0,1,2],4⟩,false⟩
noncomputable def IA (FYa:BX)(l110_0:Y37)(a0:List Y1)(a1:Int)(a2:List Y1):Option Y22:=
(l110_0 (a0,(↑a0.length:Int),0,a1,a2)).bind (fun y2=>Sum.elim (fun y3=>(
some (a0,y3.1,y3.2))) (fun y4=>(
some (a0,y4.1,y4.2))) y2)
theorem g110 (FYa:BX):aO (By FYa) rm [] Iz=u3 (IA FYa (l110_0 (By FYa))):=funext fun _=>by kernel_rfl
noncomputable def p110 (FYa:BX):=IA FYa (sY FYa)
noncomputable def uS (FYa:BX):Y27:=fun x=>p110 FYa x.1 x.2.1 x.2.2
theorem v110 (FYa:BX):aO (By FYa) rm [] Iz=uS FYa:=(g110 FYa).trans (by rw[PL FYa] <;> rfl)
theorem d110 (FYa:BX)(h:DC Try.prog 1048576 shYa FYa):DC Try.prog 110 rm (uS FYa):=aF (v110 FYa) (ak (t110 FYa h) UF (by kernel_rfl))
noncomputable def T60:List FEnt:=[]
theorem t60:aq Try.prog T60:=al
noncomputable def c60:=bU Try.prog [] Try.f60 .n
theorem ok60:L.Fn Try.prog 60 15 [(.t 6)] (erase c60):=Fn.ofA aN Try.func60 _ _ (by kernel_rfl)
def sZ:FSh:=⟨⟨j36,[]⟩,[y7,y7,y7],0,⟨⟨ft,[]⟩,[.bool],[],0⟩,true⟩
noncomputable def q60 (a0 a1 a2:Int):Option Bool:=
cond (decide (a1≤a0)) (
some (decide (a0≤a2))) (
some false)
theorem g60:aO T60 sZ [(.t 6)] c60=u3 q60:=funext fun _=>by kernel_rfl
noncomputable def p60:=q60
noncomputable def P60:Y5:=fun x=>p60 x.1 x.2.1 x.2.2
theorem v60:aO T60 sZ [(.t 6)] c60=P60:=g60
theorem Tx:DC Try.prog 60 sZ P60:=aF v60 (ak t60 ok60 (by kernel_rfl))
noncomputable def T97 (F60:Y5):List FEnt:=[⟨60,sZ,F60⟩]
theorem t97:aq Try.prog (T97 P60):=(af Tx (by kernel_rfl) al)
noncomputable def c97:=bU Try.prog [] Try.f97 .n
theorem ok97:L.Fn Try.prog 97 31 [(.t 6)] (erase c97):=Fn.ofA aN Try.func97 _ _ (by kernel_rfl)
def IB:FSh:=⟨⟨[(.ptr 0 0),(.v y7),(.v y7)],k9⟩,[y7,y7,y19,y7,cI,y19,oz],5,⟨⟨ft,k9⟩,[.bool,y19,y7,cI,y19,oz],[0,1,2,3,4],5⟩,false⟩
noncomputable def q97 (F60:Y5)(a0 a1:Int)(a2:List Int)(a3:Int)(a4:List Y2)(a5:List Int)(a6:List Y3):Option Y15:=
aj (aC a0 a4.length) (
aj (ai .i64 ((↑(List.length (ix a4 a0)):Int)-1)) (
(F60 (a1,0,((↑(List.length (ix a4 a0)):Int)-1))).bind fun r1=>(
cond r1 (
aj (aC a0 a4.length) (
aj (aC a1 (List.length (ix a4 a0))) (
some (decide ((ix (ix a4 a0) a1)=(-1)),a2,a3,a4,a5,a6)))) (
some (false,a2,a3,a4,a5,a6)))))
theorem g97 (F60:Y5):aO (T97 F60) IB [(.t 6)] c97=u7 (q97 F60):=funext fun _=>by kernel_rfl
noncomputable def p97:=q97 P60
noncomputable def P97:Hp:=fun x=>p97 x.1 x.2.1 x.2.2.1 x.2.2.2.1 x.2.2.2.2.1 x.2.2.2.2.2.1 x.2.2.2.2.2.2
theorem v97:aO (T97 P60) IB [(.t 6)] c97=P97:=g97 P60
theorem d97:DC Try.prog 97 IB P97:=aF v97 (ak t97 ok97 (by kernel_rfl))
noncomputable def Cm (F97:Hp)(FYb:pN):List FEnt:=[⟨97,IB,F97⟩,⟨1048576,shYb,FYb⟩]
theorem t96 (FYb:pN)(h:DC Try.prog 1048576 shYb FYb):aq Try.prog (Cm P97 FYb):=(af d97 (by kernel_rfl) (af h (by kernel_rfl) al))
def KC:LSh:=⟨[0,1,2,4,5,6,13,14,15,24,25,28,29],⟨[(.fn 1048576 j30),(.ptr 3 0),(.ptr 4 0),(.v y7),(.irow 5),(.v y7),(.slr 5),(.v y7),(.v y7),(.v y7),(.v y7),(.v y7),(.v y7)],[(0,.raw),(1,(.boxT eX)),(2,(.boxT .bool)),(3,(.box Ix)),(4,(.boxT y7)),(5,(.rows 22 3 y7)),(6,(.box Iw)),(7,(.pmap 9)),(8,(.row 3 y7)),(9,(.pool da))]⟩,[y7,y7,y7,y7,y7,y7,y7,y7,y7,y7,eX,.bool,y7,cI,y19,y7,y19,oz],10,[0,1,2,3,4,5,6,7,8,9]⟩
def KD:List XSh:=[⟨(.exit 3),[0,1,2,4,5,13,14,15,24,25],⟨⟨j1,[(0,.raw),(1,(.boxT eX)),(2,(.boxT .bool)),(3,(.box Ix)),(4,(.boxT y7)),(5,(.rows 22 3 y7)),(6,(.box Iw)),(7,(.pmap 9)),(8,(.row 3 y7)),(9,(.pool da))]⟩,z1,[0,1,2,3,4,5,6,7,8,9],10⟩⟩,⟨(.exit 4),[0,1,2,4,5,6,13,14,15,24,25],⟨⟨[(.fn 1048576 j30),(.ptr 3 0),(.ptr 4 0),(.v y7),(.irow 5),(.v y7),(.slr 5),(.v y7),(.v y7),(.v y7),(.v y7)],[(0,.raw),(1,(.boxT eX)),(2,(.boxT .bool)),(3,(.box Ix)),(4,(.boxT y7)),(5,(.rows 22 3 y7)),(6,(.box Iw)),(7,(.pmap 9)),(8,(.row 3 y7)),(9,(.pool da))]⟩,[y7,y7,y7,y7,y7,y7,y7,y7,eX,.bool,y7,cI,y19,y7,y19,oz],[0,1,2,3,4,5,6,7,8,9],10⟩⟩]
def KE:LSh:=⟨[0,1,2,4,5,13,14,15,24,25],⟨j1,[(0,.raw),(1,(.boxT eX)),(2,(.boxT .bool)),(3,(.box Ix)),(4,(.boxT y7)),(5,(.rows 22 3 y7)),(6,(.box Iw)),(7,(.pmap 9)),(8,(.row 3 y7)),(9,(.pool da))]⟩,z1,10,[0,1,2,3,4,5,6,7,8,9]⟩
def KF:List XSh:=[⟨.ret,[],⟨⟨[],[(0,.raw),(1,(.boxT eX)),(2,(.boxT .bool)),(3,(.box Ix)),(4,(.boxT y7)),(5,(.rows 22 3 y7)),(6,(.box Iw)),(7,(.pmap 9)),(8,(.row 3 y7)),(9,(.pool da))]⟩,z4,[0,1,2,3,4,5,6,7,8,9],10⟩⟩,⟨(.exit 2),[0,1,2,13,14,15],⟨⟨j3,[(0,.raw),(1,(.boxT eX)),(2,(.boxT .bool)),(3,(.box Ix)),(4,(.boxT y7)),(5,(.rows 22 3 y7)),(6,(.box Iw)),(7,(.pmap 9)),(8,(.row 3 y7)),(9,(.pool da))]⟩,z2,[0,1,2,3,4,5,6,7,8,9],10⟩⟩]
def KG:LSh:=⟨[0,1,2,13,14,15],⟨j3,[(0,.raw),(1,(.boxT eX)),(2,(.boxT .bool)),(3,(.box Ix)),(4,(.boxT y7)),(5,(.rows 22 3 y7)),(6,(.box Iw)),(7,(.pmap 9)),(8,(.row 3 y7)),(9,(.pool da))]⟩,z2,10,[0,1,2,3,4,5,6,7,8,9]⟩
def KH:List XSh:=[⟨.ret,[],⟨⟨[],[(0,.raw),(1,(.boxT eX)),(2,(.boxT .bool)),(3,(.box Ix)),(4,(.boxT y7)),(5,(.rows 22 3 y7)),(6,(.box Iw)),(7,(.pmap 9)),(8,(.row 3 y7)),(9,(.pool da))]⟩,z4,[0,1,2,3,4,5,6,7,8,9],10⟩⟩,⟨(.exit 0),[],⟨⟨[],[(0,.raw),(1,(.boxT eX)),(2,(.boxT .bool)),(3,(.box Ix)),(4,(.boxT y7)),(5,(.rows 22 3 y7)),(6,(.box Iw)),(7,(.pmap 9)),(8,(.row 3 y7)),(9,(.pool da))]⟩,z4,[0,1,2,3,4,5,6,7,8,9],10⟩⟩]
noncomputable def Tz:=bU Try.prog [] Try.f96 (.s .n (.b (.l KG KH (.s .n (.s .n (.s (.b (.s .n (.s .n (.s .n (.b (.l KE KF (.s .n (.s .n (.s (.b (.s .n (.s (.s .n (.b (.l KC KD .n))) .n))) .n))))))))) .n))))))
noncomputable def KI (T:List FEnt):=aG (xs:=KD) KC (bg T (sb [1,2,2,1,1,0,2,1,1,1,2,2,1,1,0,2,1,0,1,2,2] Tz))
noncomputable def l96_2 (T:List FEnt):=ah (KI T)
noncomputable def rn (F97:Hp)(FYb:pN)(a0 a1 a2 a3 a4 a5 a6 a7 a8 a9:Int)(a10:Y4)(a11:Bool)(a12:Int)(a13:List Y2)(a14:List Int)(a15:Int)(a16:List Int)(a17:List Y3):Option Y43:=
cond (decide (a8 < a7)) (
aj (ai .i64 (a2+a8)) (
aj (aC (a2+a8) (List.length (ix a13 a1))) (
cond (!decide ((ix (ix a13 a1) (a2+a8))=(-1))) (
some (Sum.inr (Sum.inl (a0,(↑a1.toNat:Int),a3,a4,a5,a6,a9,a10,a11,a12,a13,a14,a15,a16,a17)))) (
aj (ai .i64 (a8+1)) (
some (Sum.inl (a0,(↑a1.toNat:Int),a2,a3,a4,a5,a6,a7,(a8+1),a9,a10,a11,a12,a13,a14,a15,a16,a17))))))) (
some (Sum.inr (Sum.inr (a0,(↑a1.toNat:Int),a2,a3,a4,a5,a6,a9,a10,a11,a12,a13,a14,a15,a16,a17))))
theorem UG (F97:Hp)(FYb:pN):KI (Cm F97 FYb)=u18 (rn F97 FYb):=funext fun _=>by kernel_rfl
noncomputable def KJ (FYb:pN):=rn P97 FYb
noncomputable def L96_2 (FYb:pN):Y38:=ah (fun x=>KJ FYb x.1 x.2.1 x.2.2.1 x.2.2.2.1 x.2.2.2.2.1 x.2.2.2.2.2.1 x.2.2.2.2.2.2.1 x.2.2.2.2.2.2.2.1 x.2.2.2.2.2.2.2.2.1 x.2.2.2.2.2.2.2.2.2.1 x.2.2.2.2.2.2.2.2.2.2.1 x.2.2.2.2.2.2.2.2.2.2.2.1 x.2.2.2.2.2.2.2.2.2.2.2.2.1 x.2.2.2.2.2.2.2.2.2.2.2.2.2.1 x.2.2.2.2.2.2.2.2.2.2.2.2.2.2.1 x.2.2.2.2.2.2.2.2.2.2.2.2.2.2.2.1 x.2.2.2.2.2.2.2.2.2.2.2.2.2.2.2.2.1 x.2.2.2.2.2.2.2.2.2.2.2.2.2.2.2.2.2)
theorem UH (FYb:pN):l96_2 (Cm P97 FYb)=L96_2 FYb:=congrArg ah (UG P97 FYb)
noncomputable def KK (T:List FEnt):=aG (xs:=KF) KE (bg T (sb [1,2,2,1,1,0,2,1,1,1,2,2] Tz))
noncomputable def l96_1 (T:List FEnt):=ah (KK T)
noncomputable def q96_1 (F97:Hp)(FYb:pN)(l96_2:Y38)(a0 a1 a2 a3 a4 a5 a6:Int)(a7:Y4)(a8:Bool)(a9:Int)(a10:List Y2)(a11:List Int)(a12:Int)(a13:List Int)(a14:List Y3):Option Y44:=
cond (decide (a5 < a4)) (
(l96_2 (a0,(↑a1.toNat:Int),a5,a2,a3,a4,a5,a9,0,a6,a7,a8,a9,a10,a11,a12,a13,a14)).bind (fun y1=>Sum.elim (fun y2=>(
aj (ai .i64 (y2.2.2.2.2.2.1+1)) (
some (Sum.inl (y2.1,(↑y2.2.1.toNat:Int),y2.2.2.1,y2.2.2.2.1,y2.2.2.2.2.1,(y2.2.2.2.2.2.1+1),y2.2.2.2.2.2.2.1,y2.2.2.2.2.2.2.2.1,y2.2.2.2.2.2.2.2.2.1,y2.2.2.2.2.2.2.2.2.2.1,y2.2.2.2.2.2.2.2.2.2.2.1,y2.2.2.2.2.2.2.2.2.2.2.2.1,y2.2.2.2.2.2.2.2.2.2.2.2.2.1,y2.2.2.2.2.2.2.2.2.2.2.2.2.2.1,y2.2.2.2.2.2.2.2.2.2.2.2.2.2.2))))) (fun y3=>(
aj (ai .i64 (y3.2.2.1+y3.2.2.2.2.2.2.2.2.2.2.1)) (
aj (ai .i64 (y3.2.2.1-1)) (
(F97 (y3.1,(y3.2.2.1-1),y3.2.2.2.2.2.2.2.2.2.2.2.2.1,y3.2.2.2.2.2.2.2.2.2.2.2.2.2.1,y3.2.2.2.2.2.2.2.2.2.2.2.1,y3.2.2.2.2.2.2.2.2.2.2.2.2.2.2.1,y3.2.2.2.2.2.2.2.2.2.2.2.2.2.2.2)).bind fun r4=>(
cond r4.1 (
aj (ai .i64 (y3.2.2.1-2)) (
(F97 (y3.1,(y3.2.2.1-2),r4.2.1,r4.2.2.1,r4.2.2.2.1,r4.2.2.2.2.1,r4.2.2.2.2.2)).bind fun r5=>(
cond (!r5.1) (
(FYb ((0,(y3.1,(y3.2.2.1,y3.2.2.2.2.2.2.2.2.2.2.1))),true,y3.2.2.2.2.2.2.2.1,y3.2.2.2.2.2.2.2.2.1,y3.2.2.2.2.2.2.2.2.2.1)).bind fun r6=>(
cond (!r6.1) (
some (Sum.inr (Sum.inl (r6.2.1,r6.2.2.1,r6.2.2.2,y3.2.2.2.2.2.2.2.2.2.2.1,r5.2.2.2.1,r5.2.1,r5.2.2.1,r5.2.2.2.2.1,r5.2.2.2.2.2)))) (
aj (ai .i64 (y3.2.2.2.2.2.2.1+1)) (
some (Sum.inl (y3.1,(↑y3.2.1.toNat:Int),y3.2.2.2.1,y3.2.2.2.2.1,y3.2.2.2.2.2.1,(y3.2.2.2.2.2.2.1+1),r6.2.1,r6.2.2.1,r6.2.2.2,y3.2.2.2.2.2.2.2.2.2.2.1,r5.2.2.2.1,r5.2.1,r5.2.2.1,r5.2.2.2.2.1,r5.2.2.2.2.2)))))) (
(F97 (y3.1,(y3.2.2.1+y3.2.2.2.2.2.2.2.2.2.2.1),r5.2.1,r5.2.2.1,r5.2.2.2.1,r5.2.2.2.2.1,r5.2.2.2.2.2)).bind fun r7=>(
cond r7.1 (
aj (ai .i64 ((y3.2.2.1+y3.2.2.2.2.2.2.2.2.2.2.1)+1)) (
(F97 (y3.1,((y3.2.2.1+y3.2.2.2.2.2.2.2.2.2.2.1)+1),r7.2.1,r7.2.2.1,r7.2.2.2.1,r7.2.2.2.2.1,r7.2.2.2.2.2)).bind fun r8=>(
(FYb ((0,(y3.1,(y3.2.2.1,y3.2.2.2.2.2.2.2.2.2.2.1))),(!r8.1),y3.2.2.2.2.2.2.2.1,y3.2.2.2.2.2.2.2.2.1,y3.2.2.2.2.2.2.2.2.2.1)).bind fun r9=>(
cond (!r9.1) (
some (Sum.inr (Sum.inl (r9.2.1,r9.2.2.1,r9.2.2.2,y3.2.2.2.2.2.2.2.2.2.2.1,r8.2.2.2.1,r8.2.1,r8.2.2.1,r8.2.2.2.2.1,r8.2.2.2.2.2)))) (
aj (ai .i64 (y3.2.2.2.2.2.2.1+1)) (
some (Sum.inl (y3.1,(↑y3.2.1.toNat:Int),y3.2.2.2.1,y3.2.2.2.2.1,y3.2.2.2.2.2.1,(y3.2.2.2.2.2.2.1+1),r9.2.1,r9.2.2.1,r9.2.2.2,y3.2.2.2.2.2.2.2.2.2.2.1,r8.2.2.2.1,r8.2.1,r8.2.2.1,r8.2.2.2.2.1,r8.2.2.2.2.2)))))))) (
(FYb ((0,(y3.1,(y3.2.2.1,y3.2.2.2.2.2.2.2.2.2.2.1))),false,y3.2.2.2.2.2.2.2.1,y3.2.2.2.2.2.2.2.2.1,y3.2.2.2.2.2.2.2.2.2.1)).bind fun r10=>(
cond (!r10.1) (
some (Sum.inr (Sum.inl (r10.2.1,r10.2.2.1,r10.2.2.2,y3.2.2.2.2.2.2.2.2.2.2.1,r7.2.2.2.1,r7.2.1,r7.2.2.1,r7.2.2.2.2.1,r7.2.2.2.2.2)))) (
aj (ai .i64 (y3.2.2.2.2.2.2.1+1)) (
some (Sum.inl (y3.1,(↑y3.2.1.toNat:Int),y3.2.2.2.1,y3.2.2.2.2.1,y3.2.2.2.2.2.1,(y3.2.2.2.2.2.2.1+1),r10.2.1,r10.2.2.1,r10.2.2.2,y3.2.2.2.2.2.2.2.2.2.2.1,r7.2.2.2.1,r7.2.1,r7.2.2.1,r7.2.2.2.2.1,r7.2.2.2.2.2))))))))))) (
(F97 (y3.1,(y3.2.2.1+y3.2.2.2.2.2.2.2.2.2.2.1),r4.2.1,r4.2.2.1,r4.2.2.2.1,r4.2.2.2.2.1,r4.2.2.2.2.2)).bind fun r11=>(
cond r11.1 (
aj (ai .i64 ((y3.2.2.1+y3.2.2.2.2.2.2.2.2.2.2.1)+1)) (
(F97 (y3.1,((y3.2.2.1+y3.2.2.2.2.2.2.2.2.2.2.1)+1),r11.2.1,r11.2.2.1,r11.2.2.2.1,r11.2.2.2.2.1,r11.2.2.2.2.2)).bind fun r12=>(
(FYb ((0,(y3.1,(y3.2.2.1,y3.2.2.2.2.2.2.2.2.2.2.1))),(!r12.1),y3.2.2.2.2.2.2.2.1,y3.2.2.2.2.2.2.2.2.1,y3.2.2.2.2.2.2.2.2.2.1)).bind fun r13=>(
cond (!r13.1) (
some (Sum.inr (Sum.inl (r13.2.1,r13.2.2.1,r13.2.2.2,y3.2.2.2.2.2.2.2.2.2.2.1,r12.2.2.2.1,r12.2.1,r12.2.2.1,r12.2.2.2.2.1,r12.2.2.2.2.2)))) (
aj (ai .i64 (y3.2.2.2.2.2.2.1+1)) (
some (Sum.inl (y3.1,(↑y3.2.1.toNat:Int),y3.2.2.2.1,y3.2.2.2.2.1,y3.2.2.2.2.2.1,(y3.2.2.2.2.2.2.1+1),r13.2.1,r13.2.2.1,r13.2.2.2,y3.2.2.2.2.2.2.2.2.2.2.1,r12.2.2.2.1,r12.2.1,r12.2.2.1,r12.2.2.2.2.1,r12.2.2.2.2.2)))))))) (
(FYb ((0,(y3.1,(y3.2.2.1,y3.2.2.2.2.2.2.2.2.2.2.1))),false,y3.2.2.2.2.2.2.2.1,y3.2.2.2.2.2.2.2.2.1,y3.2.2.2.2.2.2.2.2.2.1)).bind fun r14=>(
cond (!r14.1) (
some (Sum.inr (Sum.inl (r14.2.1,r14.2.2.1,r14.2.2.2,y3.2.2.2.2.2.2.2.2.2.2.1,r11.2.2.2.1,r11.2.1,r11.2.2.1,r11.2.2.2.2.1,r11.2.2.2.2.2)))) (
aj (ai .i64 (y3.2.2.2.2.2.2.1+1)) (
some (Sum.inl (y3.1,(↑y3.2.1.toNat:Int),y3.2.2.2.1,y3.2.2.2.2.1,y3.2.2.2.2.2.1,(y3.2.2.2.2.2.2.1+1),r14.2.1,r14.2.2.1,r14.2.2.2,y3.2.2.2.2.2.2.2.2.2.2.1,r11.2.2.2.1,r11.2.1,r11.2.2.1,r11.2.2.2.2.1,r11.2.2.2.2.2))))))))))))) y1)) (
some (Sum.inr (Sum.inr (a2,a3,a6,a7,a8,a9,a10,a11,a12,a13,a14))))
theorem UI (F97:Hp)(FYb:pN):KK (Cm F97 FYb)=u15 (q96_1 F97 FYb (l96_2 (Cm F97 FYb))):=funext fun _=>by kernel_rfl
noncomputable def KL (FYb:pN):=q96_1 P97 FYb (L96_2 FYb)
noncomputable def uT (FYb:pN):Y39:=ah (fun x=>KL FYb x.1 x.2.1 x.2.2.1 x.2.2.2.1 x.2.2.2.2.1 x.2.2.2.2.2.1 x.2.2.2.2.2.2.1 x.2.2.2.2.2.2.2.1 x.2.2.2.2.2.2.2.2.1 x.2.2.2.2.2.2.2.2.2.1 x.2.2.2.2.2.2.2.2.2.2.1 x.2.2.2.2.2.2.2.2.2.2.2.1 x.2.2.2.2.2.2.2.2.2.2.2.2.1 x.2.2.2.2.2.2.2.2.2.2.2.2.2.1 x.2.2.2.2.2.2.2.2.2.2.2.2.2.2)
theorem UJ (FYb:pN):l96_1 (Cm P97 FYb)=uT FYb:=congrArg ah ((UI P97 FYb).trans (by rw[UH FYb] <;> rfl))
noncomputable def KM (T:List FEnt):=aG (xs:=KH) KG (bg T (sb [1,2,2] Tz))
noncomputable def l96_0 (T:List FEnt):=ah (KM T)
noncomputable def rq (F97:Hp)(FYb:pN)(l96_1:Y39)(a0 a1 a2:Int)(a3:Y4)(a4:Bool)(a5:Int)(a6:List Y2)(a7:List Int)(a8:Int)(a9:List Int)(a10:List Y3):Option Y45:=
cond (decide (a1 < a0)) (
aj (aC a1 a6.length) (
aj (ai .i64 ((↑(List.length (ix a6 a1)):Int)-a5)) (
aj (ai .i64 (((↑(List.length (ix a6 a1)):Int)-a5)+1)) (
(l96_1 (a1,(↑a1.toNat:Int),a0,a1,(((↑(List.length (ix a6 a1)):Int)-a5)+1),0,a2,a3,a4,a5,a6,a7,a8,a9,a10)).bind (fun y15=>Sum.elim (fun y16=>(
some (Sum.inr (Sum.inl (y16.1,y16.2.1,y16.2.2.1,y16.2.2.2.1,y16.2.2.2.2.1,y16.2.2.2.2.2.1,y16.2.2.2.2.2.2.1,y16.2.2.2.2.2.2.2.1,y16.2.2.2.2.2.2.2.2))))) (fun y17=>(
aj (ai .i64 (y17.2.1+1)) (
some (Sum.inl (y17.1,(y17.2.1+1),y17.2.2.1,y17.2.2.2.1,y17.2.2.2.2.1,y17.2.2.2.2.2.1,y17.2.2.2.2.2.2.1,y17.2.2.2.2.2.2.2.1,y17.2.2.2.2.2.2.2.2.1,y17.2.2.2.2.2.2.2.2.2.1,y17.2.2.2.2.2.2.2.2.2.2))))) y15))))) (
some (Sum.inr (Sum.inr (a2,a3,a4,a5,a6,a7,a8,a9,a10))))
theorem UK (F97:Hp)(FYb:pN):KM (Cm F97 FYb)=u11 (rq F97 FYb (l96_1 (Cm F97 FYb))):=funext fun _=>by kernel_rfl
noncomputable def KN (FYb:pN):=rq P97 FYb (uT FYb)
noncomputable def zg (FYb:pN):Y40:=ah (fun x=>KN FYb x.1 x.2.1 x.2.2.1 x.2.2.2.1 x.2.2.2.2.1 x.2.2.2.2.2.1 x.2.2.2.2.2.2.1 x.2.2.2.2.2.2.2.1 x.2.2.2.2.2.2.2.2.1 x.2.2.2.2.2.2.2.2.2.1 x.2.2.2.2.2.2.2.2.2.2)
theorem UL (FYb:pN):l96_0 (Cm P97 FYb)=zg FYb:=congrArg ah ((UK P97 FYb).trans (by rw[UJ FYb] <;> rfl))
theorem ok96:L.Fn Try.prog 96 80 [] (erase Tz):=Fn.ofA aN Try.func96 _ _ (by kernel_rfl)
def Bz:FSh:=⟨⟨[(.fn 1048576 j30),(.ptr 3 0),(.ptr 4 0)],[(0,.raw),(1,(.boxT eX)),(2,(.boxT .bool)),(3,(.box [(.ptr 5 0)])),(4,(.boxT y7)),(5,(.box j22)),(6,(.rows 22 3 y7)),(7,(.pmap 9)),(8,(.row 3 y7)),(9,(.pool da))]⟩,z5,10,⟨⟨pG,[(0,.raw),(1,(.boxT eX)),(2,(.boxT .bool)),(3,(.box [(.ptr 5 0)])),(4,(.boxT y7)),(5,(.box j22)),(6,(.rows 22 3 y7)),(7,(.pmap 9)),(8,(.row 3 y7)),(9,(.pool da))]⟩,z5,[0,1,2,3,4,5,6,7,8,9],10⟩,false⟩
noncomputable def q96 (F97:Hp)(FYb:pN)(l96_0:Y40)(a0:Int)(a1:Y4)(a2:Bool)(a3:Int)(a4:List Int)(a5:Int)(a6:List Y2)(a7:List Int)(a8:List Y3):Option Y24:=
(l96_0 ((↑a6.length:Int),0,a0,a1,a2,a3,a6,a4,a5,a7,a8)).bind (fun y18=>Sum.elim (fun y19=>(
some (y19.1,y19.2.1,y19.2.2.1,y19.2.2.2.1,y19.2.2.2.2.2.1,y19.2.2.2.2.2.2.1,y19.2.2.2.2.1,y19.2.2.2.2.2.2.2.1,y19.2.2.2.2.2.2.2.2))) (fun y20=>(
some (y20.1,y20.2.1,y20.2.2.1,y20.2.2.2.1,y20.2.2.2.2.2.1,y20.2.2.2.2.2.2.1,y20.2.2.2.2.1,y20.2.2.2.2.2.2.2.1,y20.2.2.2.2.2.2.2.2))) y18)
theorem g96 (F97:Hp)(FYb:pN):aO (Cm F97 FYb) Bz [] Tz=u9 (q96 F97 FYb (l96_0 (Cm F97 FYb))):=funext fun _=>by kernel_rfl
noncomputable def p96 (FYb:pN):=q96 P97 FYb (zg FYb)
noncomputable def KO (FYb:pN):Y29:=fun x=>p96 FYb x.1 x.2.1 x.2.2.1 x.2.2.2.1 x.2.2.2.2.1 x.2.2.2.2.2.1 x.2.2.2.2.2.2.1 x.2.2.2.2.2.2.2.1 x.2.2.2.2.2.2.2.2
theorem v96 (FYb:pN):aO (Cm P97 FYb) Bz [] Tz=KO FYb:=(g96 P97 FYb).trans (by rw[UL FYb] <;> rfl)
theorem d96 (FYb:pN)(h:DC Try.prog 1048576 shYb FYb):DC Try.prog 96 Bz (KO FYb):=aF (v96 FYb) (ak (t96 FYb h) ok96 (by kernel_rfl))
noncomputable def T68:List FEnt:=[]
theorem t68:aq Try.prog T68:=al
noncomputable def c68:=bU Try.prog [] Try.f68 .n
theorem ok68:L.Fn Try.prog 68 6 [(.t 4)] (erase c68):=Fn.ofA aN Try.func68 _ _ (by kernel_rfl)
def DB:FSh:=⟨⟨Tw,k9⟩,Tv,5,⟨⟨[(.fn 96 [(.ptr 5 0),(.ptr 6 0)])],[(0,(.box [(.v y19),(.v y7),(.slr 1),(.mp 2),(.slc 3)])),(1,(.rows 22 3 y7)),(2,(.pmap 4)),(3,(.row 3 y7)),(4,(.pool da)),(5,(.box Iy)),(6,(.boxT y7))]⟩,[y19,y7,cI,y19,oz,y7],[0,1,2,3,4],7⟩,false⟩
noncomputable def q68 (a0:Int)(a1:List Int)(a2:Int)(a3:List Y2)(a4:List Int)(a5:List Y3):Option Y25:=
some (a1,a2,a3,a4,a5,a0)
theorem g68:aO T68 DB [(.t 4)] c68=u6 q68:=funext fun _=>by kernel_rfl
noncomputable def p68:=q68
noncomputable def P68:Y30:=fun x=>p68 x.1 x.2.1 x.2.2.1 x.2.2.2.1 x.2.2.2.2.1 x.2.2.2.2.2
theorem v68:aO T68 DB [(.t 4)] c68=P68:=g68
theorem d68:DC Try.prog 68 DB P68:=aF v68 (ak t68 ok68 (by kernel_rfl))
end Go.Proofs.Ytdkaijofmigmbaa.D
