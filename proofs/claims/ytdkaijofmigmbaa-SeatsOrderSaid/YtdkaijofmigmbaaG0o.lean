import Derived.Test.YtdkaijofmigmbaaY0o
import Derived.Test.YtdkaijofmigmbaaGYo
import Derived.Test.YtdkaijofmigmbaaProg
set_option linter.unusedVariables false
set_option maxRecDepth 100000
namespace Go.Proofs.Ytdkaijofmigmbaa.D
open Go Go.Proofs Go.Proofs.Ytdkaijofmigmbaa.L
def z1:List Ty:=[y7,y7,y7,y7,y7,y7,y7,eV,.bool,y7,cG,y19,y7,y19,n6]
def z2:List Ty:=[y7,y7,y7,eV,.bool,y7,cG,y19,y7,y19,n6]
def z4:List Ty:=[y7,eV,.bool,y7,cG,y19,y7,y19,n6]
def z5:List Ty:=[y7,eV,.bool,y7,y19,y7,cG,y19,n6]
def Tn:List Ty:=[y7,y19,y7,cG,y19,n6]
def pc:List RSh:=[(.tup [])]
def j36:List RSh:=[(.v y7),(.v y7),(.v y7)]
def fk:List RSh:=[(.v .bool)]
def Ic:List RSh:=[(.v y19),(.v y7),(.slr 5),(.mp 7),(.slc 8)]
def j30:List RSh:=[(.ptr 0 0),(.ptr 1 0),(.ptr 2 0)]
def Id:List RSh:=[(.ptr 6 0)]
def j1:List RSh:=[(.fn 1048576 [(.ptr 0 0),(.ptr 1 0),(.ptr 2 0)]),(.ptr 3 0),(.ptr 4 0),(.v y7),(.irow 5),(.slr 5),(.v y7),(.v y7),(.v y7),(.v y7)]
def j3:List RSh:=[(.fn 1048576 [(.ptr 0 0),(.ptr 1 0),(.ptr 2 0)]),(.ptr 3 0),(.ptr 4 0),(.slr 5),(.v y7),(.v y7)]
def j22:List RSh:=[(.v y19),(.v y7),(.slr 6),(.mp 7),(.slc 8)]
def To:List RSh:=[(.ptr 0 0),(.v y7)]
def Ie:List RSh:=[(.ptr 0 0)]
def k17:List (Nat×OSh):=[(0,(.boxT bc)),(1,.raw),(2,(.box [(.slc 3)])),(3,(.row 40 cW))]
def k9:List (Nat×OSh):=[(0,(.box [(.v y19),(.v y7),(.slr 1),(.mp 2),(.slc 3)])),(1,(.rows 22 3 y7)),(2,(.pmap 4)),(3,(.row 3 y7)),(4,(.pool cW))]
set_option linter.unusedSectionVars false
variable [YP]
theorem aM:Try.prog.follows .mixedOrders=true:=by kernel_rfl
noncomputable def Bg (FYa:BI):List FEnt:=[⟨1048576,shYa,FYa⟩]
theorem t110 (FYa:BI)(h:DC Try.prog 1048576 shYa FYa):al Try.prog (Bg FYa):=(aa h (by kernel_rfl) ak)
def Di:LSh:=⟨[0,5,6,7],⟨[(.fn 1048576 [(.ptr 0 0),(.ptr 1 0)]),(.v bc),(.v y7),(.v y7)],[(0,.raw),(1,(.box [(.slc 2)])),(2,(.row 40 cW))]⟩,[bc,y7,y7,y7,bc],3,[0,1]⟩
def Dj:List XSh:=[⟨.ret,[],⟨⟨[],[(0,.raw),(1,(.box [(.slc 2)])),(2,(.row 40 cW))]⟩,[y7,bc],[0,1],3⟩⟩,⟨(.exit 0),[],⟨⟨[],[(0,.raw),(1,(.box [(.slc 2)])),(2,(.row 40 cW))]⟩,[y7,bc],[0,1],3⟩⟩]
noncomputable def If:=bU Try.prog [] Try.f110 (.s .n (.b (.l Di Dj .n)))
noncomputable def Dk (T:List FEnt):=aG (xs:=Dj) Di (bf T (sb [1,2,2] If))
noncomputable def l110_0 (T:List FEnt):=af (Dk T)
noncomputable def mC (FYa:BI)(a0:List Y1)(a1 a2 a3:Int)(a4:List Y1):Option Y42:=
cond (decide (a2 < a1)) (
ai (aC a2 a0.length) (
(FYa ((ix a0 a2),a3,a4)).bind fun r1=>(
cond (!r1.1) (
some (Sum.inr (Sum.inl (r1.2.1,r1.2.2)))) (
ai (ah .i64 (a2+1)) (
some (Sum.inl (a0,a1,(a2+1),r1.2.1,r1.2.2))))))) (
some (Sum.inr (Sum.inr (a3,a4))))
theorem PI (FYa:BI):Dk (Bg FYa)=u5 (mC FYa):=funext fun _=>by kernel_rfl
noncomputable def Dl (FYa:BI):=mC FYa
noncomputable def su (FYa:BI):Y37:=af (fun x=>Dl FYa x.1 x.2.1 x.2.2.1 x.2.2.2.1 x.2.2.2.2)
theorem PJ (FYa:BI):l110_0 (Bg FYa)=su FYa:=congrArg af (PI FYa)
theorem UC:L.Fn Try.prog 110 16 [] (erase If):=Fn.ofA aM Try.func110 _ _ (by kernel_rfl)
def qM:FSh:=⟨⟨[(.fn 1048576 [(.ptr 1 0),(.ptr 2 0)]),(.ptr 0 0)],k17⟩,[bc,y7,bc],4,⟨⟨pc,k17⟩,[bc,y7,bc],[0,1,2],4⟩,false⟩
noncomputable def Ig (FYa:BI)(l110_0:Y37)(a0:List Y1)(a1:Int)(a2:List Y1):Option Y22:=
(l110_0 (a0,(↑a0.length:Int),0,a1,a2)).bind (fun y2=>Sum.elim (fun y3=>(
some (a0,y3.1,y3.2))) (fun y4=>(
some (a0,y4.1,y4.2))) y2)
theorem g110 (FYa:BI):aO (Bg FYa) qM [] If=u3 (Ig FYa (l110_0 (Bg FYa))):=funext fun _=>by kernel_rfl
noncomputable def p110 (FYa:BI):=Ig FYa (su FYa)
noncomputable def ur (FYa:BI):Y27:=fun x=>p110 FYa x.1 x.2.1 x.2.2
theorem v110 (FYa:BI):aO (Bg FYa) qM [] If=ur FYa:=(g110 FYa).trans (by rw[PJ FYa] <;> rfl)
theorem d110 (FYa:BI)(h:DC Try.prog 1048576 shYa FYa):DC Try.prog 110 qM (ur FYa):=aD (v110 FYa) (aj (t110 FYa h) UC (by kernel_rfl))
noncomputable def T60:List FEnt:=[]
theorem t60:al Try.prog T60:=ak
noncomputable def c60:=bU Try.prog [] Try.f60 .n
theorem ok60:L.Fn Try.prog 60 15 [(.t 6)] (erase c60):=Fn.ofA aM Try.func60 _ _ (by kernel_rfl)
def sw:FSh:=⟨⟨j36,[]⟩,[y7,y7,y7],0,⟨⟨fk,[]⟩,[.bool],[],0⟩,true⟩
noncomputable def q60 (a0 a1 a2:Int):Option Bool:=
cond (decide (a1≤a0)) (
some (decide (a0≤a2))) (
some false)
theorem g60:aO T60 sw [(.t 6)] c60=u3 q60:=funext fun _=>by kernel_rfl
noncomputable def p60:=q60
noncomputable def P60:Y5:=fun x=>p60 x.1 x.2.1 x.2.2
theorem v60:aO T60 sw [(.t 6)] c60=P60:=g60
theorem Tp:DC Try.prog 60 sw P60:=aD v60 (aj t60 ok60 (by kernel_rfl))
noncomputable def T97 (F60:Y5):List FEnt:=[⟨60,sw,F60⟩]
theorem t97:al Try.prog (T97 P60):=(aa Tp (by kernel_rfl) ak)
noncomputable def c97:=bU Try.prog [] Try.f97 .n
theorem ok97:L.Fn Try.prog 97 31 [(.t 6)] (erase c97):=Fn.ofA aM Try.func97 _ _ (by kernel_rfl)
def Ih:FSh:=⟨⟨[(.ptr 0 0),(.v y7),(.v y7)],k9⟩,[y7,y7,y19,y7,cG,y19,n6],5,⟨⟨fk,k9⟩,[.bool,y19,y7,cG,y19,n6],[0,1,2,3,4],5⟩,false⟩
noncomputable def q97 (F60:Y5)(a0 a1:Int)(a2:List Int)(a3:Int)(a4:List Y2)(a5:List Int)(a6:List Y3):Option Y15:=
ai (aC a0 a4.length) (
ai (ah .i64 ((↑(List.length (ix a4 a0)):Int)-1)) (
(F60 (a1,0,((↑(List.length (ix a4 a0)):Int)-1))).bind fun r1=>(
cond r1 (
ai (aC a0 a4.length) (
ai (aC a1 (List.length (ix a4 a0))) (
some (decide ((ix (ix a4 a0) a1)=(-1)),a2,a3,a4,a5,a6)))) (
some (false,a2,a3,a4,a5,a6)))))
theorem g97 (F60:Y5):aO (T97 F60) Ih [(.t 6)] c97=u7 (q97 F60):=funext fun _=>by kernel_rfl
noncomputable def p97:=q97 P60
noncomputable def P97:G8:=fun x=>p97 x.1 x.2.1 x.2.2.1 x.2.2.2.1 x.2.2.2.2.1 x.2.2.2.2.2.1 x.2.2.2.2.2.2
theorem v97:aO (T97 P60) Ih [(.t 6)] c97=P97:=g97 P60
theorem d97:DC Try.prog 97 Ih P97:=aD v97 (aj t97 ok97 (by kernel_rfl))
noncomputable def B7 (F97:G8)(FYb:pm):List FEnt:=[⟨97,Ih,F97⟩,⟨1048576,shYb,FYb⟩]
theorem t96 (FYb:pm)(h:DC Try.prog 1048576 shYb FYb):al Try.prog (B7 P97 FYb):=(aa d97 (by kernel_rfl) (aa h (by kernel_rfl) ak))
def Kr:LSh:=⟨[0,1,2,4,5,6,13,14,15,24,25,28,29],⟨[(.fn 1048576 j30),(.ptr 3 0),(.ptr 4 0),(.v y7),(.irow 5),(.v y7),(.slr 5),(.v y7),(.v y7),(.v y7),(.v y7),(.v y7),(.v y7)],[(0,.raw),(1,(.boxT eV)),(2,(.boxT .bool)),(3,(.box Id)),(4,(.boxT y7)),(5,(.rows 22 3 y7)),(6,(.box Ic)),(7,(.pmap 9)),(8,(.row 3 y7)),(9,(.pool cW))]⟩,[y7,y7,y7,y7,y7,y7,y7,y7,y7,y7,eV,.bool,y7,cG,y19,y7,y19,n6],10,[0,1,2,3,4,5,6,7,8,9]⟩
def Ks:List XSh:=[⟨(.exit 3),[0,1,2,4,5,13,14,15,24,25],⟨⟨j1,[(0,.raw),(1,(.boxT eV)),(2,(.boxT .bool)),(3,(.box Id)),(4,(.boxT y7)),(5,(.rows 22 3 y7)),(6,(.box Ic)),(7,(.pmap 9)),(8,(.row 3 y7)),(9,(.pool cW))]⟩,z1,[0,1,2,3,4,5,6,7,8,9],10⟩⟩,⟨(.exit 4),[0,1,2,4,5,6,13,14,15,24,25],⟨⟨[(.fn 1048576 j30),(.ptr 3 0),(.ptr 4 0),(.v y7),(.irow 5),(.v y7),(.slr 5),(.v y7),(.v y7),(.v y7),(.v y7)],[(0,.raw),(1,(.boxT eV)),(2,(.boxT .bool)),(3,(.box Id)),(4,(.boxT y7)),(5,(.rows 22 3 y7)),(6,(.box Ic)),(7,(.pmap 9)),(8,(.row 3 y7)),(9,(.pool cW))]⟩,[y7,y7,y7,y7,y7,y7,y7,y7,eV,.bool,y7,cG,y19,y7,y19,n6],[0,1,2,3,4,5,6,7,8,9],10⟩⟩]
def Kt:LSh:=⟨[0,1,2,4,5,13,14,15,24,25],⟨j1,[(0,.raw),(1,(.boxT eV)),(2,(.boxT .bool)),(3,(.box Id)),(4,(.boxT y7)),(5,(.rows 22 3 y7)),(6,(.box Ic)),(7,(.pmap 9)),(8,(.row 3 y7)),(9,(.pool cW))]⟩,z1,10,[0,1,2,3,4,5,6,7,8,9]⟩
def Ku:List XSh:=[⟨.ret,[],⟨⟨[],[(0,.raw),(1,(.boxT eV)),(2,(.boxT .bool)),(3,(.box Id)),(4,(.boxT y7)),(5,(.rows 22 3 y7)),(6,(.box Ic)),(7,(.pmap 9)),(8,(.row 3 y7)),(9,(.pool cW))]⟩,z4,[0,1,2,3,4,5,6,7,8,9],10⟩⟩,⟨(.exit 2),[0,1,2,13,14,15],⟨⟨j3,[(0,.raw),(1,(.boxT eV)),(2,(.boxT .bool)),(3,(.box Id)),(4,(.boxT y7)),(5,(.rows 22 3 y7)),(6,(.box Ic)),(7,(.pmap 9)),(8,(.row 3 y7)),(9,(.pool cW))]⟩,z2,[0,1,2,3,4,5,6,7,8,9],10⟩⟩]
def Kv:LSh:=⟨[0,1,2,13,14,15],⟨j3,[(0,.raw),(1,(.boxT eV)),(2,(.boxT .bool)),(3,(.box Id)),(4,(.boxT y7)),(5,(.rows 22 3 y7)),(6,(.box Ic)),(7,(.pmap 9)),(8,(.row 3 y7)),(9,(.pool cW))]⟩,z2,10,[0,1,2,3,4,5,6,7,8,9]⟩
def Kw:List XSh:=[⟨.ret,[],⟨⟨[],[(0,.raw),(1,(.boxT eV)),(2,(.boxT .bool)),(3,(.box Id)),(4,(.boxT y7)),(5,(.rows 22 3 y7)),(6,(.box Ic)),(7,(.pmap 9)),(8,(.row 3 y7)),(9,(.pool cW))]⟩,z4,[0,1,2,3,4,5,6,7,8,9],10⟩⟩,⟨(.exit 0),[],⟨⟨[],[(0,.raw),(1,(.boxT eV)),(2,(.boxT .bool)),(3,(.box Id)),(4,(.boxT y7)),(5,(.rows 22 3 y7)),(6,(.box Ic)),(7,(.pmap 9)),(8,(.row 3 y7)),(9,(.pool cW))]⟩,z4,[0,1,2,3,4,5,6,7,8,9],10⟩⟩]
noncomputable def Tq:=bU Try.prog [] Try.f96 (.s .n (.b (.l Kv Kw (.s .n (.s .n (.s (.b (.s .n (.s .n (.s .n (.b (.l Kt Ku (.s .n (.s .n (.s (.b (.s .n (.s (.s .n (.b (.l Kr Ks .n))) .n))) .n))))))))) .n))))))
noncomputable def Kx (T:List FEnt):=aG (xs:=Ks) Kr (bf T (sb [1,2,2,1,1,0,2,1,1,1,2,2,1,1,0,2,1,0,1,2,2] Tq))
noncomputable def l96_2 (T:List FEnt):=af (Kx T)
noncomputable def qN (F97:G8)(FYb:pm)(a0 a1 a2 a3 a4 a5 a6 a7 a8 a9:Int)(a10:Y4)(a11:Bool)(a12:Int)(a13:List Y2)(a14:List Int)(a15:Int)(a16:List Int)(a17:List Y3):Option Y43:=
cond (decide (a8 < a7)) (
ai (ah .i64 (a2+a8)) (
ai (aC (a2+a8) (List.length (ix a13 a1))) (
cond (!decide ((ix (ix a13 a1) (a2+a8))=(-1))) (
some (Sum.inr (Sum.inl (a0,(↑a1.toNat:Int),a3,a4,a5,a6,a9,a10,a11,a12,a13,a14,a15,a16,a17)))) (
ai (ah .i64 (a8+1)) (
some (Sum.inl (a0,(↑a1.toNat:Int),a2,a3,a4,a5,a6,a7,(a8+1),a9,a10,a11,a12,a13,a14,a15,a16,a17))))))) (
some (Sum.inr (Sum.inr (a0,(↑a1.toNat:Int),a2,a3,a4,a5,a6,a9,a10,a11,a12,a13,a14,a15,a16,a17))))
theorem UD (F97:G8)(FYb:pm):Kx (B7 F97 FYb)=u18 (qN F97 FYb):=funext fun _=>by kernel_rfl
noncomputable def Ky (FYb:pm):=qN P97 FYb
noncomputable def L96_2 (FYb:pm):Y38:=af (fun x=>Ky FYb x.1 x.2.1 x.2.2.1 x.2.2.2.1 x.2.2.2.2.1 x.2.2.2.2.2.1 x.2.2.2.2.2.2.1 x.2.2.2.2.2.2.2.1 x.2.2.2.2.2.2.2.2.1 x.2.2.2.2.2.2.2.2.2.1 x.2.2.2.2.2.2.2.2.2.2.1 x.2.2.2.2.2.2.2.2.2.2.2.1 x.2.2.2.2.2.2.2.2.2.2.2.2.1 x.2.2.2.2.2.2.2.2.2.2.2.2.2.1 x.2.2.2.2.2.2.2.2.2.2.2.2.2.2.1 x.2.2.2.2.2.2.2.2.2.2.2.2.2.2.2.1 x.2.2.2.2.2.2.2.2.2.2.2.2.2.2.2.2.1 x.2.2.2.2.2.2.2.2.2.2.2.2.2.2.2.2.2)
theorem UE (FYb:pm):l96_2 (B7 P97 FYb)=L96_2 FYb:=congrArg af (UD P97 FYb)
noncomputable def Kz (T:List FEnt):=aG (xs:=Ku) Kt (bf T (sb [1,2,2,1,1,0,2,1,1,1,2,2] Tq))
noncomputable def l96_1 (T:List FEnt):=af (Kz T)
noncomputable def q96_1 (F97:G8)(FYb:pm)(l96_2:Y38)(a0 a1 a2 a3 a4 a5 a6:Int)(a7:Y4)(a8:Bool)(a9:Int)(a10:List Y2)(a11:List Int)(a12:Int)(a13:List Int)(a14:List Y3):Option Y44:=
cond (decide (a5 < a4)) (
(l96_2 (a0,(↑a1.toNat:Int),a5,a2,a3,a4,a5,a9,0,a6,a7,a8,a9,a10,a11,a12,a13,a14)).bind (fun y1=>Sum.elim (fun y2=>(
ai (ah .i64 (y2.2.2.2.2.2.1+1)) (
some (Sum.inl (y2.1,(↑y2.2.1.toNat:Int),y2.2.2.1,y2.2.2.2.1,y2.2.2.2.2.1,(y2.2.2.2.2.2.1+1),y2.2.2.2.2.2.2.1,y2.2.2.2.2.2.2.2.1,y2.2.2.2.2.2.2.2.2.1,y2.2.2.2.2.2.2.2.2.2.1,y2.2.2.2.2.2.2.2.2.2.2.1,y2.2.2.2.2.2.2.2.2.2.2.2.1,y2.2.2.2.2.2.2.2.2.2.2.2.2.1,y2.2.2.2.2.2.2.2.2.2.2.2.2.2.1,y2.2.2.2.2.2.2.2.2.2.2.2.2.2.2))))) (fun y3=>(
ai (ah .i64 (y3.2.2.1+y3.2.2.2.2.2.2.2.2.2.2.1)) (
ai (ah .i64 (y3.2.2.1-1)) (
(F97 (y3.1,(y3.2.2.1-1),y3.2.2.2.2.2.2.2.2.2.2.2.2.1,y3.2.2.2.2.2.2.2.2.2.2.2.2.2.1,y3.2.2.2.2.2.2.2.2.2.2.2.1,y3.2.2.2.2.2.2.2.2.2.2.2.2.2.2.1,y3.2.2.2.2.2.2.2.2.2.2.2.2.2.2.2)).bind fun r4=>(
cond r4.1 (
ai (ah .i64 (y3.2.2.1-2)) (
(F97 (y3.1,(y3.2.2.1-2),r4.2.1,r4.2.2.1,r4.2.2.2.1,r4.2.2.2.2.1,r4.2.2.2.2.2)).bind fun r5=>(
cond (!r5.1) (
(FYb ((0,(y3.1,(y3.2.2.1,y3.2.2.2.2.2.2.2.2.2.2.1))),true,y3.2.2.2.2.2.2.2.1,y3.2.2.2.2.2.2.2.2.1,y3.2.2.2.2.2.2.2.2.2.1)).bind fun r6=>(
cond (!r6.1) (
some (Sum.inr (Sum.inl (r6.2.1,r6.2.2.1,r6.2.2.2,y3.2.2.2.2.2.2.2.2.2.2.1,r5.2.2.2.1,r5.2.1,r5.2.2.1,r5.2.2.2.2.1,r5.2.2.2.2.2)))) (
ai (ah .i64 (y3.2.2.2.2.2.2.1+1)) (
some (Sum.inl (y3.1,(↑y3.2.1.toNat:Int),y3.2.2.2.1,y3.2.2.2.2.1,y3.2.2.2.2.2.1,(y3.2.2.2.2.2.2.1+1),r6.2.1,r6.2.2.1,r6.2.2.2,y3.2.2.2.2.2.2.2.2.2.2.1,r5.2.2.2.1,r5.2.1,r5.2.2.1,r5.2.2.2.2.1,r5.2.2.2.2.2)))))) (
(F97 (y3.1,(y3.2.2.1+y3.2.2.2.2.2.2.2.2.2.2.1),r5.2.1,r5.2.2.1,r5.2.2.2.1,r5.2.2.2.2.1,r5.2.2.2.2.2)).bind fun r7=>(
cond r7.1 (
ai (ah .i64 ((y3.2.2.1+y3.2.2.2.2.2.2.2.2.2.2.1)+1)) (
(F97 (y3.1,((y3.2.2.1+y3.2.2.2.2.2.2.2.2.2.2.1)+1),r7.2.1,r7.2.2.1,r7.2.2.2.1,r7.2.2.2.2.1,r7.2.2.2.2.2)).bind fun r8=>(
(FYb ((0,(y3.1,(y3.2.2.1,y3.2.2.2.2.2.2.2.2.2.2.1))),(!r8.1),y3.2.2.2.2.2.2.2.1,y3.2.2.2.2.2.2.2.2.1,y3.2.2.2.2.2.2.2.2.2.1)).bind fun r9=>(
cond (!r9.1) (
some (Sum.inr (Sum.inl (r9.2.1,r9.2.2.1,r9.2.2.2,y3.2.2.2.2.2.2.2.2.2.2.1,r8.2.2.2.1,r8.2.1,r8.2.2.1,r8.2.2.2.2.1,r8.2.2.2.2.2)))) (
ai (ah .i64 (y3.2.2.2.2.2.2.1+1)) (
some (Sum.inl (y3.1,(↑y3.2.1.toNat:Int),y3.2.2.2.1,y3.2.2.2.2.1,y3.2.2.2.2.2.1,(y3.2.2.2.2.2.2.1+1),r9.2.1,r9.2.2.1,r9.2.2.2,y3.2.2.2.2.2.2.2.2.2.2.1,r8.2.2.2.1,r8.2.1,r8.2.2.1,r8.2.2.2.2.1,r8.2.2.2.2.2)))))))) (
(FYb ((0,(y3.1,(y3.2.2.1,y3.2.2.2.2.2.2.2.2.2.2.1))),false,y3.2.2.2.2.2.2.2.1,y3.2.2.2.2.2.2.2.2.1,y3.2.2.2.2.2.2.2.2.2.1)).bind fun r10=>(
cond (!r10.1) (
some (Sum.inr (Sum.inl (r10.2.1,r10.2.2.1,r10.2.2.2,y3.2.2.2.2.2.2.2.2.2.2.1,r7.2.2.2.1,r7.2.1,r7.2.2.1,r7.2.2.2.2.1,r7.2.2.2.2.2)))) (
ai (ah .i64 (y3.2.2.2.2.2.2.1+1)) (
some (Sum.inl (y3.1,(↑y3.2.1.toNat:Int),y3.2.2.2.1,y3.2.2.2.2.1,y3.2.2.2.2.2.1,(y3.2.2.2.2.2.2.1+1),r10.2.1,r10.2.2.1,r10.2.2.2,y3.2.2.2.2.2.2.2.2.2.2.1,r7.2.2.2.1,r7.2.1,r7.2.2.1,r7.2.2.2.2.1,r7.2.2.2.2.2))))))))))) (
(F97 (y3.1,(y3.2.2.1+y3.2.2.2.2.2.2.2.2.2.2.1),r4.2.1,r4.2.2.1,r4.2.2.2.1,r4.2.2.2.2.1,r4.2.2.2.2.2)).bind fun r11=>(
cond r11.1 (
ai (ah .i64 ((y3.2.2.1+y3.2.2.2.2.2.2.2.2.2.2.1)+1)) (
(F97 (y3.1,((y3.2.2.1+y3.2.2.2.2.2.2.2.2.2.2.1)+1),r11.2.1,r11.2.2.1,r11.2.2.2.1,r11.2.2.2.2.1,r11.2.2.2.2.2)).bind fun r12=>(
(FYb ((0,(y3.1,(y3.2.2.1,y3.2.2.2.2.2.2.2.2.2.2.1))),(!r12.1),y3.2.2.2.2.2.2.2.1,y3.2.2.2.2.2.2.2.2.1,y3.2.2.2.2.2.2.2.2.2.1)).bind fun r13=>(
cond (!r13.1) (
some (Sum.inr (Sum.inl (r13.2.1,r13.2.2.1,r13.2.2.2,y3.2.2.2.2.2.2.2.2.2.2.1,r12.2.2.2.1,r12.2.1,r12.2.2.1,r12.2.2.2.2.1,r12.2.2.2.2.2)))) (
ai (ah .i64 (y3.2.2.2.2.2.2.1+1)) (
some (Sum.inl (y3.1,(↑y3.2.1.toNat:Int),y3.2.2.2.1,y3.2.2.2.2.1,y3.2.2.2.2.2.1,(y3.2.2.2.2.2.2.1+1),r13.2.1,r13.2.2.1,r13.2.2.2,y3.2.2.2.2.2.2.2.2.2.2.1,r12.2.2.2.1,r12.2.1,r12.2.2.1,r12.2.2.2.2.1,r12.2.2.2.2.2)))))))) (
(FYb ((0,(y3.1,(y3.2.2.1,y3.2.2.2.2.2.2.2.2.2.2.1))),false,y3.2.2.2.2.2.2.2.1,y3.2.2.2.2.2.2.2.2.1,y3.2.2.2.2.2.2.2.2.2.1)).bind fun r14=>(
cond (!r14.1) (
some (Sum.inr (Sum.inl (r14.2.1,r14.2.2.1,r14.2.2.2,y3.2.2.2.2.2.2.2.2.2.2.1,r11.2.2.2.1,r11.2.1,r11.2.2.1,r11.2.2.2.2.1,r11.2.2.2.2.2)))) (
ai (ah .i64 (y3.2.2.2.2.2.2.1+1)) (
some (Sum.inl (y3.1,(↑y3.2.1.toNat:Int),y3.2.2.2.1,y3.2.2.2.2.1,y3.2.2.2.2.2.1,(y3.2.2.2.2.2.2.1+1),r14.2.1,r14.2.2.1,r14.2.2.2,y3.2.2.2.2.2.2.2.2.2.2.1,r11.2.2.2.1,r11.2.1,r11.2.2.1,r11.2.2.2.2.1,r11.2.2.2.2.2))))))))))))) y1)) (
some (Sum.inr (Sum.inr (a2,a3,a6,a7,a8,a9,a10,a11,a12,a13,a14))))
theorem UF (F97:G8)(FYb:pm):Kz (B7 F97 FYb)=u15 (q96_1 F97 FYb (l96_2 (B7 F97 FYb))):=funext fun _=>by kernel_rfl
noncomputable def KA (FYb:pm):=q96_1 P97 FYb (L96_2 FYb)
noncomputable def ut (FYb:pm):Y39:=af (fun x=>KA FYb x.1 x.2.1 x.2.2.1 x.2.2.2.1 x.2.2.2.2.1 x.2.2.2.2.2.1 x.2.2.2.2.2.2.1 x.2.2.2.2.2.2.2.1 x.2.2.2.2.2.2.2.2.1 x.2.2.2.2.2.2.2.2.2.1 x.2.2.2.2.2.2.2.2.2.2.1 x.2.2.2.2.2.2.2.2.2.2.2.1 x.2.2.2.2.2.2.2.2.2.2.2.2.1 x.2.2.2.2.2.2.2.2.2.2.2.2.2.1 x.2.2.2.2.2.2.2.2.2.2.2.2.2.2)
theorem UG (FYb:pm):l96_1 (B7 P97 FYb)=ut FYb:=congrArg af ((UF P97 FYb).trans (by rw[UE FYb] <;> rfl))
noncomputable def KB (T:List FEnt):=aG (xs:=Kw) Kv (bf T (sb [1,2,2] Tq))
noncomputable def l96_0 (T:List FEnt):=af (KB T)
noncomputable def qO (F97:G8)(FYb:pm)(l96_1:Y39)(a0 a1 a2:Int)(a3:Y4)(a4:Bool)(a5:Int)(a6:List Y2)(a7:List Int)(a8:Int)(a9:List Int)(a10:List Y3):Option Y45:=
cond (decide (a1 < a0)) (
ai (aC a1 a6.length) (
ai (ah .i64 ((↑(List.length (ix a6 a1)):Int)-a5)) (
ai (ah .i64 (((↑(List.length (ix a6 a1)):Int)-a5)+1)) (
(l96_1 (a1,(↑a1.toNat:Int),a0,a1,(((↑(List.length (ix a6 a1)):Int)-a5)+1),0,a2,a3,a4,a5,a6,a7,a8,a9,a10)).bind (fun y15=>Sum.elim (fun y16=>(
some (Sum.inr (Sum.inl (y16.1,y16.2.1,y16.2.2.1,y16.2.2.2.1,y16.2.2.2.2.1,y16.2.2.2.2.2.1,y16.2.2.2.2.2.2.1,y16.2.2.2.2.2.2.2.1,y16.2.2.2.2.2.2.2.2))))) (fun y17=>(
ai (ah .i64 (y17.2.1+1)) (
some (Sum.inl (y17.1,(y17.2.1+1),y17.2.2.1,y17.2.2.2.1,y17.2.2.2.2.1,y17.2.2.2.2.2.1,y17.2.2.2.2.2.2.1,y17.2.2.2.2.2.2.2.1,y17.2.2.2.2.2.2.2.2.1,y17.2.2.2.2.2.2.2.2.2.1,y17.2.2.2.2.2.2.2.2.2.2))))) y15))))) (
some (Sum.inr (Sum.inr (a2,a3,a4,a5,a6,a7,a8,a9,a10))))
theorem UH (F97:G8)(FYb:pm):KB (B7 F97 FYb)=u11 (qO F97 FYb (l96_1 (B7 F97 FYb))):=funext fun _=>by kernel_rfl
noncomputable def KC (FYb:pm):=qO P97 FYb (ut FYb)
noncomputable def yV (FYb:pm):Y40:=af (fun x=>KC FYb x.1 x.2.1 x.2.2.1 x.2.2.2.1 x.2.2.2.2.1 x.2.2.2.2.2.1 x.2.2.2.2.2.2.1 x.2.2.2.2.2.2.2.1 x.2.2.2.2.2.2.2.2.1 x.2.2.2.2.2.2.2.2.2.1 x.2.2.2.2.2.2.2.2.2.2)
theorem UI (FYb:pm):l96_0 (B7 P97 FYb)=yV FYb:=congrArg af ((UH P97 FYb).trans (by rw[UG FYb] <;> rfl))
theorem ok96:L.Fn Try.prog 96 80 [] (erase Tq):=Fn.ofA aM Try.func96 _ _ (by kernel_rfl)
def Bh:FSh:=⟨⟨[(.fn 1048576 j30),(.ptr 3 0),(.ptr 4 0)],[(0,.raw),(1,(.boxT eV)),(2,(.boxT .bool)),(3,(.box [(.ptr 5 0)])),(4,(.boxT y7)),(5,(.box j22)),(6,(.rows 22 3 y7)),(7,(.pmap 9)),(8,(.row 3 y7)),(9,(.pool cW))]⟩,z5,10,⟨⟨pc,[(0,.raw),(1,(.boxT eV)),(2,(.boxT .bool)),(3,(.box [(.ptr 5 0)])),(4,(.boxT y7)),(5,(.box j22)),(6,(.rows 22 3 y7)),(7,(.pmap 9)),(8,(.row 3 y7)),(9,(.pool cW))]⟩,z5,[0,1,2,3,4,5,6,7,8,9],10⟩,false⟩
noncomputable def q96 (F97:G8)(FYb:pm)(l96_0:Y40)(a0:Int)(a1:Y4)(a2:Bool)(a3:Int)(a4:List Int)(a5:Int)(a6:List Y2)(a7:List Int)(a8:List Y3):Option Y24:=
(l96_0 ((↑a6.length:Int),0,a0,a1,a2,a3,a6,a4,a5,a7,a8)).bind (fun y18=>Sum.elim (fun y19=>(
some (y19.1,y19.2.1,y19.2.2.1,y19.2.2.2.1,y19.2.2.2.2.2.1,y19.2.2.2.2.2.2.1,y19.2.2.2.2.1,y19.2.2.2.2.2.2.2.1,y19.2.2.2.2.2.2.2.2))) (fun y20=>(
some (y20.1,y20.2.1,y20.2.2.1,y20.2.2.2.1,y20.2.2.2.2.2.1,y20.2.2.2.2.2.2.1,y20.2.2.2.2.1,y20.2.2.2.2.2.2.2.1,y20.2.2.2.2.2.2.2.2))) y18)
theorem g96 (F97:G8)(FYb:pm):aO (B7 F97 FYb) Bh [] Tq=u9 (q96 F97 FYb (l96_0 (B7 F97 FYb))):=funext fun _=>by kernel_rfl
noncomputable def p96 (FYb:pm):=q96 P97 FYb (yV FYb)
noncomputable def KD (FYb:pm):Y29:=fun x=>p96 FYb x.1 x.2.1 x.2.2.1 x.2.2.2.1 x.2.2.2.2.1 x.2.2.2.2.2.1 x.2.2.2.2.2.2.1 x.2.2.2.2.2.2.2.1 x.2.2.2.2.2.2.2.2
theorem v96 (FYb:pm):aO (B7 P97 FYb) Bh [] Tq=KD FYb:=(g96 P97 FYb).trans (by rw[UI FYb] <;> rfl)
theorem d96 (FYb:pm)(h:DC Try.prog 1048576 shYb FYb):DC Try.prog 96 Bh (KD FYb):=aD (v96 FYb) (aj (t96 FYb h) ok96 (by kernel_rfl))
noncomputable def T68:List FEnt:=[]
theorem t68:al Try.prog T68:=ak
noncomputable def c68:=bU Try.prog [] Try.f68 .n
theorem ok68:L.Fn Try.prog 68 6 [(.t 4)] (erase c68):=Fn.ofA aM Try.func68 _ _ (by kernel_rfl)
def Dm:FSh:=⟨⟨To,k9⟩,Tn,5,⟨⟨[(.fn 96 [(.ptr 5 0),(.ptr 6 0)])],[(0,(.box [(.v y19),(.v y7),(.slr 1),(.mp 2),(.slc 3)])),(1,(.rows 22 3 y7)),(2,(.pmap 4)),(3,(.row 3 y7)),(4,(.pool cW)),(5,(.box Ie)),(6,(.boxT y7))]⟩,[y19,y7,cG,y19,n6,y7],[0,1,2,3,4],7⟩,false⟩
noncomputable def q68 (a0:Int)(a1:List Int)(a2:Int)(a3:List Y2)(a4:List Int)(a5:List Y3):Option Y25:=
some (a1,a2,a3,a4,a5,a0)
theorem g68:aO T68 Dm [(.t 4)] c68=u6 q68:=funext fun _=>by kernel_rfl
noncomputable def p68:=q68
noncomputable def P68:Y30:=fun x=>p68 x.1 x.2.1 x.2.2.1 x.2.2.2.1 x.2.2.2.2.1 x.2.2.2.2.2
theorem v68:aO T68 Dm [(.t 4)] c68=P68:=g68
theorem d68:DC Try.prog 68 Dm P68:=aD v68 (aj t68 ok68 (by kernel_rfl))
end Go.Proofs.Ytdkaijofmigmbaa.D
