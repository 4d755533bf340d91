import Derived.Test.YtdkaijofmigmbaaG5w
import Derived.Test.YtdkaijofmigmbaaProg
set_option linter.unusedVariables false
set_option maxRecDepth 100000
namespace Go.Proofs.Ytdkaijofmigmbaa.D
open Go Go.Proofs Go.Proofs.Ytdkaijofmigmbaa.L
def z7:List Ty:=[y7,y7,y7,.bool,.bool,y7,y7,y7,y19]
def j8:List RSh:=[(.slc 0),(.v y7),(.v y7),(.v y7),(.v .bool),(.v .bool),(.v y7)]
def j5:List RSh:=[(.slc 0),(.v y7),(.v y7),(.v y7),(.v .bool),(.v .bool),(.v y7),(.v y7),(.v y7)]
def k7:List (Nat×OSh):=[(0,(.boxT aU)),(1,(.box [.emp,.emp,.emp,.emp])),(2,(.box [(.slr 4),.emp,.emp,.emp])),(3,(.row 3 y7)),(4,(.rows 22 3 y7))]
def k12:List (Nat×OSh):=[(0,(.boxT aU)),(1,(.box [.emp,.emp,.emp,.emp])),(2,(.box [(.slr 3),.emp,.emp,.emp])),(3,(.rows 22 3 y7))]
def k6:List (Nat×OSh):=[(0,(.box [.emp,.emp,.emp,.emp])),(1,(.box [(.slr 2),(.slc 3),(.slc 4),.emp])),(2,(.rows 22 3 y7)),(3,(.row 32 fq)),(4,(.row 3 y7))]
noncomputable def um (F91:bH):List FEnt:=[⟨91,qG,F91⟩]
theorem t93:ak Try.prog (um P91):=dK ai TA
def kG:LSh:=⟨[0,1,10,11],⟨vL,di⟩,vK,1,[0]⟩
def NQ:List XSh:=[⟨(.exit 0),[0,1,10,11],⟨⟨vL,di⟩,vK,[0],1⟩⟩]
def NR:List XSh:=[⟨(.exit 2),[0,1,10,11],⟨⟨vL,di⟩,vK,[0],1⟩⟩]
def NT:List XSh:=[⟨(.exit 6),[0,1,10,11],⟨⟨vL,di⟩,vK,[0],1⟩⟩]
def NU:List XSh:=[⟨(.exit 8),[0,1,10,11],⟨⟨vL,di⟩,vK,[0],1⟩⟩]
def NV:List XSh:=[⟨(.exit 4),[0,1,11],⟨⟨Ir,di⟩,J2,[0],1⟩⟩]
noncomputable def NW:=bK Try.prog [] Try.f93 (.s .n (.s .n (.s .n (.s (.b (.l kG NQ .n)) (.s (.b (.l kG NR .n)) (.s .n (.s .n (.s .n (.s .n (.s (.b (.l kG NV (.b (.s (.b (.l kG NT .n)) (.s (.b (.l kG NU .n)) .n))))) .n))))))))))
noncomputable def NX (T:List FEnt):=aB (xs:=NQ) kG (bc T (sb [1,1,1,0,2,2] NW))
noncomputable def l93_0 (T:List FEnt):=aa (NX T)
noncomputable def GN (F91:bH)(a0 a1 a2:Int)(a3:List Int):Option CH:=
cond (decide (a1≤a2)) (
ah (aA a1 a3.length) (
ah (aA a0 a3.length) (
(F91 ((ix a3 a1),(ix a3 a0))).bind fun r1=>(
cond r1 (
ah (af .i64 (a1+1)) (
some (Sum.inl (a0,(a1+1),a2,a3)))) (
some (Sum.inr (a0,a1,a2,a3))))))) (
some (Sum.inr (a0,a1,a2,a3)))
theorem Yt (F91:bH):NX (um F91)=u4 (GN F91):=funext fun _=>by kernel_rfl
noncomputable def NY:=GN P91
noncomputable def GO:tR:=aa (u4 NY)
theorem Yu:l93_0 (um P91)=GO:=congrArg aa (Yt P91)
noncomputable def NZ (T:List FEnt):=aB (xs:=NR) kG (bc T (sb [1,1,1,1,0,2,2] NW))
noncomputable def l93_1 (T:List FEnt):=aa (NZ T)
noncomputable def GP (F91:bH)(a0 a1 a2:Int)(a3:List Int):Option CH:=
cond (decide (a1≤a2)) (
ah (aA a2 a3.length) (
ah (aA a0 a3.length) (
(F91 ((ix a3 a2),(ix a3 a0))).bind fun r3=>(
cond (!r3) (
ah (af .i64 (a2-1)) (
some (Sum.inl (a0,a1,(a2-1),a3)))) (
some (Sum.inr (a0,a1,a2,a3))))))) (
some (Sum.inr (a0,a1,a2,a3)))
theorem Yv (F91:bH):NZ (um F91)=u4 (GP F91):=funext fun _=>by kernel_rfl
noncomputable def N0:=GP P91
noncomputable def GQ:tR:=aa (u4 N0)
theorem Yw:l93_1 (um P91)=GQ:=congrArg aa (Yv P91)
noncomputable def N1 (T:List FEnt):=aB (xs:=NT) kG (bc T (sb [1,1,1,1,1,1,1,1,1,0,2,2,2,0,2,2] NW))
noncomputable def l93_3 (T:List FEnt):=aa (N1 T)
noncomputable def GR (F91:bH)(a0 a1 a2:Int)(a3:List Int):Option CH:=
cond (decide (a1≤a2)) (
ah (aA a1 a3.length) (
ah (aA a0 a3.length) (
(F91 ((ix a3 a1),(ix a3 a0))).bind fun r5=>(
cond r5 (
ah (af .i64 (a1+1)) (
some (Sum.inl (a0,(a1+1),a2,a3)))) (
some (Sum.inr (a0,a1,a2,a3))))))) (
some (Sum.inr (a0,a1,a2,a3)))
theorem Yx (F91:bH):N1 (um F91)=u4 (GR F91):=funext fun _=>by kernel_rfl
noncomputable def N2:=GR P91
noncomputable def GS:tR:=aa (u4 N2)
theorem Yy:l93_3 (um P91)=GS:=congrArg aa (Yx P91)
noncomputable def N3 (T:List FEnt):=aB (xs:=NU) kG (bc T (sb [1,1,1,1,1,1,1,1,1,0,2,2,2,1,0,2,2] NW))
noncomputable def l93_4 (T:List FEnt):=aa (N3 T)
noncomputable def GT (F91:bH)(a0 a1 a2:Int)(a3:List Int):Option CH:=
cond (decide (a1≤a2)) (
ah (aA a2 a3.length) (
ah (aA a0 a3.length) (
(F91 ((ix a3 a2),(ix a3 a0))).bind fun r7=>(
cond (!r7) (
ah (af .i64 (a2-1)) (
some (Sum.inl (a0,a1,(a2-1),a3)))) (
some (Sum.inr (a0,a1,a2,a3))))))) (
some (Sum.inr (a0,a1,a2,a3)))
theorem Yz (F91:bH):N3 (um F91)=u4 (GT F91):=funext fun _=>by kernel_rfl
noncomputable def N4:=GT P91
noncomputable def GU:tR:=aa (u4 N4)
theorem YA:l93_4 (um P91)=GU:=congrArg aa (Yz P91)
noncomputable def N5 (T:List FEnt):=aB (xs:=NV) kG (bc T (sb [1,1,1,1,1,1,1,1,1,0,2,2] NW))
noncomputable def l93_2 (T:List FEnt):=aa (N5 T)
noncomputable def GV (F91:bH)(l93_3 l93_4:tR)(a0 a1 a2:Int)(a3:List Int):Option (tP⊕Hi):=
(l93_3 (a0,a1,a2,a3)).bind fun y6=>(
(l93_4 (y6.1,y6.2.1,y6.2.2.1,y6.2.2.2)).bind fun y8=>(
cond (decide (y8.2.2.1 < y8.2.1)) (
some (Sum.inr (y8.1,y8.2.2.1,y8.2.2.2))) (
ah (aA y8.2.2.1 y8.2.2.2.length) (
ah (aA y8.2.1 y8.2.2.2.length) (
ah (aA y8.2.1 y8.2.2.2.length) (
ah (aA y8.2.2.1 (List.length (List.set y8.2.2.2 y8.2.1.toNat (ix y8.2.2.2 y8.2.2.1)))) (
ah (af .i64 (y8.2.1+1)) (
ah (af .i64 (y8.2.2.1-1)) (
some (Sum.inl (y8.1,(y8.2.1+1),(y8.2.2.1-1),(List.set (List.set y8.2.2.2 y8.2.1.toNat (ix y8.2.2.2 y8.2.2.1)) y8.2.2.1.toNat (ix y8.2.2.2 y8.2.1)))))))))))))
theorem YC (F91:bH):N5 (um F91)=u4 (GV F91 (l93_3 (um F91)) (l93_4 (um F91))):=funext fun _=>by kernel_rfl
noncomputable def N6:=GV P91 GS GU
noncomputable def GW:Y266:=aa (u4 N6)
theorem YD:l93_2 (um P91)=GW:=congrArg aa ((YC P91).trans (by rw[Yy,YA] <;> rfl))
theorem ok93:L.Fn Try.prog 93 168 [(.t 8),(.t 9)] (erase NW):=oA Try.func93
def Kg:FSh:=⟨⟨vL,di⟩,vK,1,⟨⟨[(.tup [(.v y7),(.v .bool)])],di⟩,[y7,.bool,y19],[0],1⟩,false⟩
noncomputable def q93 (F91:bH)(l93_0 l93_1:tR)(l93_2:Y266)(a0 a1 a2:Int)(a3:List Int):Option Y257:=
ah (aA a2 a3.length) (
ah (aA a0 a3.length) (
ah (aA a0 a3.length) (
ah (aA a2 (List.length (List.set a3 a0.toNat (ix a3 a2)))) (
ah (af .i64 (a0+1)) (
ah (af .i64 (a1-1)) (
(l93_0 (a0,(a0+1),(a1-1),(List.set (List.set a3 a0.toNat (ix a3 a2)) a2.toNat (ix a3 a0)))).bind fun y2=>(
(l93_1 (y2.1,y2.2.1,y2.2.2.1,y2.2.2.2)).bind fun y4=>(
cond (decide (y4.2.2.1 < y4.2.1)) (
ah (aA y4.1 y4.2.2.2.length) (
ah (aA y4.2.2.1 y4.2.2.2.length) (
ah (aA y4.2.2.1 y4.2.2.2.length) (
ah (aA y4.1 (List.length (List.set y4.2.2.2 y4.2.2.1.toNat (ix y4.2.2.2 y4.1)))) (
some (y4.2.2.1,true,(List.set (List.set y4.2.2.2 y4.2.2.1.toNat (ix y4.2.2.2 y4.1)) y4.1.toNat (ix y4.2.2.2 y4.2.2.1)))))))) (
ah (aA y4.2.2.1 y4.2.2.2.length) (
ah (aA y4.2.1 y4.2.2.2.length) (
ah (aA y4.2.1 y4.2.2.2.length) (
ah (aA y4.2.2.1 (List.length (List.set y4.2.2.2 y4.2.1.toNat (ix y4.2.2.2 y4.2.2.1)))) (
ah (af .i64 (y4.2.1+1)) (
ah (af .i64 (y4.2.2.1-1)) (
(l93_2 (y4.1,(y4.2.1+1),(y4.2.2.1-1),(List.set (List.set y4.2.2.2 y4.2.1.toNat (ix y4.2.2.2 y4.2.2.1)) y4.2.2.1.toNat (ix y4.2.2.2 y4.2.1)))).bind fun y9=>(
ah (aA y9.1 y9.2.2.length) (
ah (aA y9.2.1 y9.2.2.length) (
ah (aA y9.2.1 y9.2.2.length) (
ah (aA y9.1 (List.length (List.set y9.2.2 y9.2.1.toNat (ix y9.2.2 y9.1)))) (
some (y9.2.1,false,(List.set (List.set y9.2.2 y9.2.1.toNat (ix y9.2.2 y9.1)) y9.1.toNat (ix y9.2.2 y9.2.1)))))))))))))))))))))))
theorem g93 (F91:bH):aK (um F91) Kg [(.t 8),(.t 9)] NW=u4 (q93 F91 (l93_0 (um F91)) (l93_1 (um F91)) (l93_2 (um F91))):=funext fun _=>by kernel_rfl
noncomputable def p93:=q93 P91 GO GQ GW
noncomputable def qJ:og:=u4 p93
theorem v93:aK (um P91) Kg [(.t 8),(.t 9)] NW=qJ:=(g93 P91).trans (by rw[Yu,Yw,YD] <;> rfl)
theorem d93:DC Try.prog 93 Kg qJ:=dD v93 t93 ok93
def tL:FSh:=⟨⟨vL,di⟩,vK,1,⟨⟨pR,di⟩,[y19],[0],1⟩,false⟩
noncomputable def yt (F85:dX)(F86:dX)(F87:dX)(F88:od)(F89:dX)(F90:oe)(F91:bH)(F92:l6)(F93:og)(F66:cL):List FEnt:=[⟨85,J7,F85⟩,⟨86,Ka,F86⟩,⟨87,Kb,F87⟩,⟨88,Kc,F88⟩,⟨89,Kd,F89⟩,⟨90,Ke,F90⟩,⟨91,qG,F91⟩,⟨92,Kf,F92⟩,⟨93,Kg,F93⟩,⟨66,tL,F66⟩]
theorem t66 (F66:cL)(h:DC Try.prog 66 tL F66):ak Try.prog (yt rP rQ qH rR rS rU P91 rW qJ F66):=(aJ d85 (by kernel_rfl) (aJ d86 (by kernel_rfl) (aJ d87 (by kernel_rfl) (aJ d88 (by kernel_rfl) (aJ d89 (by kernel_rfl) (aJ d90 (by kernel_rfl) (aJ TA (by kernel_rfl) (aJ d92 (by kernel_rfl) (aJ d93 (by kernel_rfl) (aJ h (by kernel_rfl) ai))))))))))
def N7:LSh:=⟨[0,1,2,3,8,9,10],⟨j8,di⟩,[y7,y7,y7,.bool,.bool,y7,y19],1,[0]⟩
def N8:List XSh:=[⟨.normal,[0,1,2,3,8,9,10],⟨⟨j8,di⟩,[y7,y7,y7,.bool,.bool,y7,y19],[0],1⟩⟩]
def AD:LSh:=⟨[0,1,2,3,8,9,10,11,12],⟨j5,di⟩,z7,1,[0]⟩
def N9:List XSh:=[⟨.normal,[0,1,2,3,8,9,10,11,12],⟨⟨j5,di⟩,z7,[0],1⟩⟩]
def Oa:List XSh:=[⟨.ret,[],⟨⟨[],di⟩,[y19],[0],1⟩⟩,⟨.normal,[0,1,2,3,8,9,10,11],⟨⟨[(.slc 0),(.v y7),(.v y7),(.v y7),(.v .bool),(.v .bool),(.v y7),(.v y7)],di⟩,[y7,y7,y7,.bool,.bool,y7,y7,y19],[0],1⟩⟩]
def Ob:LSh:=⟨[0,1,2,3,8,9],⟨[(.slc 0),(.v y7),(.v y7),(.v y7),(.v .bool),(.v .bool)],di⟩,[y7,y7,y7,.bool,.bool,y19],1,[0]⟩
def Oc:List XSh:=[⟨.ret,[],⟨⟨[],di⟩,[y19],[0],1⟩⟩]
noncomputable def TN:=bK Try.prog [] Try.f66 (.s .n (.s .n (.b (.l Ob Oc (.b (.s .n (.s .n (.s .n (.s (.o N7 N8 .n) (.s .n (.s (.o AD N9 .n) (.s (.o AD Oa .n) .n))))))))))))
noncomputable def l66_1 (T:List FEnt):=fw (xs:=N8) N7 (bc T (sb [1,1,2,2,2,1,1,1,0,2] TN))
noncomputable def AE (F85 F86 F87:dX)(F88:od)(F89:dX)(F90:oe)(F91:bH)(F92:l6)(F93:og)(F66:cL)(a0 a1 a2:Int)(a3 a4:Bool)(a5:Int)(a6:List Int):Option Y254:=
cond (!a3) (
(F87 (a0,a1,a6)).bind fun r3=>(
ah (af .i64 (a2-1)) (
some (a0,a1,(a2-1),a3,a4,a5,r3)))) (
some (a0,a1,a2,a3,a4,a5,a6))
theorem YE (F85 F86 F87:dX)(F88:od)(F89:dX)(F90:oe)(F91:bH)(F92:l6)(F93:og)(F66:cL):l66_1 (yt F85 F86 F87 F88 F89 F90 F91 F92 F93 F66)=u7 (AE F85 F86 F87 F88 F89 F90 F91 F92 F93 F66):=funext fun _=>by kernel_rfl
noncomputable def GX (F66:cL):=AE rP rQ qH rR rS rU P91 rW qJ F66
noncomputable def vT (F66:cL):Y268:=fun x=>GX F66 x.1 x.2.1 x.2.2.1 x.2.2.2.1 x.2.2.2.2.1 x.2.2.2.2.2.1 x.2.2.2.2.2.2
theorem YF (F66:cL):l66_1 (yt rP rQ qH rR rS rU P91 rW qJ F66)=vT F66:=YE rP rQ qH rR rS rU P91 rW qJ F66
noncomputable def l66_2 (T:List FEnt):=fw (xs:=N9) AD (bc T (sb [1,1,2,2,2,1,1,1,1,1,0,2] TN))
noncomputable def GY (F85 F86 F87:dX)(F88:od)(F89:dX)(F90:oe)(F91:bH)(F92:l6)(F93:og)(F66:cL)(a0 a1 a2:Int)(a3 a4:Bool)(a5 a6 a7:Int)(a8:List Int):Option Y255:=
cond (decide (a7=2)) (
(F89 (a0,a1,a8)).bind fun r6=>(
ah (af .i64 (a1-1)) (
ah (af .i64 (a6-a0)) (
ah (af .i64 ((a1-1)-(a6-a0))) (
some (a0,a1,a2,a3,a4,a5,((a1-1)-(a6-a0)),1,r6)))))) (
some (a0,a1,a2,a3,a4,a5,a6,a7,a8))
theorem YG (F85 F86 F87:dX)(F88:od)(F89:dX)(F90:oe)(F91:bH)(F92:l6)(F93:og)(F66:cL):l66_2 (yt F85 F86 F87 F88 F89 F90 F91 F92 F93 F66)=u9 (GY F85 F86 F87 F88 F89 F90 F91 F92 F93 F66):=funext fun _=>by kernel_rfl
noncomputable def Od (F66:cL):=GY rP rQ qH rR rS rU P91 rW qJ F66
noncomputable def AF (F66:cL):Y269:=fun x=>Od F66 x.1 x.2.1 x.2.2.1 x.2.2.2.1 x.2.2.2.2.1 x.2.2.2.2.2.1 x.2.2.2.2.2.2.1 x.2.2.2.2.2.2.2.1 x.2.2.2.2.2.2.2.2
theorem YH (F66:cL):l66_2 (yt rP rQ qH rR rS rU P91 rW qJ F66)=AF F66:=YG rP rQ qH rR rS rU P91 rW qJ F66
noncomputable def l66_3 (T:List FEnt):=fw (xs:=Oa) AD (bc T (sb [1,1,2,2,2,1,1,1,1,1,1,0,2] TN))
noncomputable def GZ (F85 F86 F87:dX)(F88:od)(F89:dX)(F90:oe)(F91:bH)(F92:l6)(F93:og)(F66:cL)(a0 a1 a2:Int)(a3 a4:Bool)(a5 a6 a7:Int)(a8:List Int):Option Y282:=
cond a3 (
cond a4 (
cond (decide (a7=1)) (
(F90 (a0,a1,a8)).bind fun r8=>(
cond r8.1 (
some (Sum.inl r8.2)) (
some (Sum.inr (a0,a1,a2,a3,a4,a5,a6,r8.2))))) (
some (Sum.inr (a0,a1,a2,a3,a4,a5,a6,a8)))) (
some (Sum.inr (a0,a1,a2,a3,a4,a5,a6,a8)))) (
some (Sum.inr (a0,a1,a2,a3,a4,a5,a6,a8)))
theorem YI (F85 F86 F87:dX)(F88:od)(F89:dX)(F90:oe)(F91:bH)(F92:l6)(F93:og)(F66:cL):l66_3 (yt F85 F86 F87 F88 F89 F90 F91 F92 F93 F66)=u9 (GZ F85 F86 F87 F88 F89 F90 F91 F92 F93 F66):=funext fun _=>by kernel_rfl
noncomputable def Oe (F66:cL):=GZ rP rQ qH rR rS rU P91 rW qJ F66
noncomputable def AG (F66:cL):Y298:=fun x=>Oe F66 x.1 x.2.1 x.2.2.1 x.2.2.2.1 x.2.2.2.2.1 x.2.2.2.2.2.1 x.2.2.2.2.2.2.1 x.2.2.2.2.2.2.2.1 x.2.2.2.2.2.2.2.2
theorem YJ (F66:cL):l66_3 (yt rP rQ qH rR rS rU P91 rW qJ F66)=AG F66:=YI rP rQ qH rR rS rU P91 rW qJ F66
noncomputable def Of (T:List FEnt):=aB (xs:=Oc) Ob (bc T (sb [1,1,2,2] TN))
noncomputable def l66_0 (T:List FEnt):=aa (Of T)
noncomputable def vU (F85 F86 F87:dX)(F88:od)(F89:dX)(F90:oe)(F91:bH)(F92:l6)(F93:og)(F66:cL)(l66_1:Y268)(l66_2:Y269)(l66_3:Y298)(a0 a1 a2:Int)(a3 a4:Bool)(a5:List Int):Option ((Int×Int×Int×Bool×Bool×Y2)⊕Y2):=
ah (af .i64 (a1-a0)) (
cond (decide ((a1-a0)≤12)) (
(F85 (a0,a1,a5)).bind fun r1=>(
some (Sum.inr r1))) (
cond (decide (a2=0)) (
(F86 (a0,a1,a5)).bind fun r2=>(
some (Sum.inr r2))) (
(l66_1 (a0,a1,a2,a3,a4,(a1-a0),a5)).bind fun y4=>(
(F88 (y4.1,y4.2.1,y4.2.2.2.2.2.2)).bind fun r5=>(
(l66_2 (y4.1,y4.2.1,y4.2.2.1,y4.2.2.2.1,y4.2.2.2.2.1,y4.2.2.2.2.2.1,r5.1,r5.2.1,r5.2.2)).bind fun y7=>(
(l66_3 (y7.1,y7.2.1,y7.2.2.1,y7.2.2.2.1,y7.2.2.2.2.1,y7.2.2.2.2.2.1,y7.2.2.2.2.2.2.1,y7.2.2.2.2.2.2.2.1,y7.2.2.2.2.2.2.2.2)).bind (fun y9=>Sum.elim (fun y10=>(
some (Sum.inr y10))) (fun y11=>(
cond (decide (0 < y11.1)) (
ah (af .i64 (y11.1-1)) (
ah (aA (y11.1-1) y11.2.2.2.2.2.2.2.length) (
ah (aA y11.2.2.2.2.2.2.1 y11.2.2.2.2.2.2.2.length) (
(F91 ((ix y11.2.2.2.2.2.2.2 (y11.1-1)),(ix y11.2.2.2.2.2.2.2 y11.2.2.2.2.2.2.1))).bind fun r12=>(
cond (!r12) (
(F92 (y11.1,y11.2.1,y11.2.2.2.2.2.2.1,y11.2.2.2.2.2.2.2)).bind fun r13=>(
some (Sum.inl (r13.1,y11.2.1,y11.2.2.1,y11.2.2.2.1,y11.2.2.2.2.1,r13.2)))) (
(F93 (y11.1,y11.2.1,y11.2.2.2.2.2.2.1,y11.2.2.2.2.2.2.2)).bind fun r14=>(
ah (af .i64 (r14.1-y11.1)) (
ah (af .i64 (y11.2.1-r14.1)) (
ah (af .i64 (Int.tdiv y11.2.2.2.2.2.1 8)) (
cond (decide ((r14.1-y11.1) < (y11.2.1-r14.1))) (
(F66 (y11.1,r14.1,y11.2.2.1,r14.2.2)).bind fun r15=>(
ah (af .i64 (r14.1+1)) (
some (Sum.inl ((r14.1+1),y11.2.1,y11.2.2.1,decide ((Int.tdiv y11.2.2.2.2.2.1 8)≤(r14.1-y11.1)),r14.2.1,r15))))) (
ah (af .i64 (r14.1+1)) (
(F66 ((r14.1+1),y11.2.1,y11.2.2.1,r14.2.2)).bind fun r16=>(
some (Sum.inl (y11.1,r14.1,y11.2.2.1,decide ((Int.tdiv y11.2.2.2.2.2.1 8)≤(y11.2.1-r14.1)),r14.2.1,r16))))))))))))))) (
(F93 (y11.1,y11.2.1,y11.2.2.2.2.2.2.1,y11.2.2.2.2.2.2.2)).bind fun r17=>(
ah (af .i64 (r17.1-y11.1)) (
ah (af .i64 (y11.2.1-r17.1)) (
ah (af .i64 (Int.tdiv y11.2.2.2.2.2.1 8)) (
cond (decide ((r17.1-y11.1) < (y11.2.1-r17.1))) (
(F66 (y11.1,r17.1,y11.2.2.1,r17.2.2)).bind fun r18=>(
ah (af .i64 (r17.1+1)) (
some (Sum.inl ((r17.1+1),y11.2.1,y11.2.2.1,decide ((Int.tdiv y11.2.2.2.2.2.1 8)≤(r17.1-y11.1)),r17.2.1,r18))))) (
ah (af .i64 (r17.1+1)) (
(F66 ((r17.1+1),y11.2.1,y11.2.2.1,r17.2.2)).bind fun r19=>(
some (Sum.inl (y11.1,r17.1,y11.2.2.1,decide ((Int.tdiv y11.2.2.2.2.2.1 8)≤(y11.2.1-r17.1)),r17.2.1,r19)))))))))))) y9)))))))
theorem YK (F85 F86 F87:dX)(F88:od)(F89:dX)(F90:oe)(F91:bH)(F92:l6)(F93:og)(F66:cL):Of (yt F85 F86 F87 F88 F89 F90 F91 F92 F93 F66)=u6 (vU F85 F86 F87 F88 F89 F90 F91 F92 F93 F66 (l66_1 (yt F85 F86 F87 F88 F89 F90 F91 F92 F93 F66)) (l66_2 (yt F85 F86 F87 F88 F89 F90 F91 F92 F93 F66)) (l66_3 (yt F85 F86 F87 F88 F89 F90 F91 F92 F93 F66))):=funext fun _=>by kernel_rfl
noncomputable def pV (F66:cL):=vU rP rQ qH rR rS rU P91 rW qJ F66 (vT F66) (AF F66) (AG F66)
noncomputable def AH (F66:cL):Y253:=aa (u6 (pV F66))
theorem YL (F66:cL):l66_0 (yt rP rQ qH rR rS rU P91 rW qJ F66)=AH F66:=congrArg aa ((YK rP rQ qH rR rS rU P91 rW qJ F66).trans (by rw[YF F66,YH F66,YJ F66] <;> rfl))
theorem YM:L.Fn Try.prog 66 134 [] (erase TN):=oA Try.func66
noncomputable def q66 (F85 F86 F87:dX)(F88:od)(F89:dX)(F90:oe)(F91:bH)(F92:l6)(F93:og)(F66:cL)(l66_0:Y253)(a0 a1 a2:Int)(a3:List Int):Option Y2:=
(l66_0 (a0,a1,a2,true,true,a3)).bind fun y20=>(
some y20)
theorem g66 (F85 F86 F87:dX)(F88:od)(F89:dX)(F90:oe)(F91:bH)(F92:l6)(F93:og)(F66:cL):aK (yt F85 F86 F87 F88 F89 F90 F91 F92 F93 F66) tL [] TN=u4 (q66 F85 F86 F87 F88 F89 F90 F91 F92 F93 F66 (l66_0 (yt F85 F86 F87 F88 F89 F90 F91 F92 F93 F66))):=funext fun _=>by kernel_rfl
noncomputable def VR (F66:cL):=q66 rP rQ qH rR rS rU P91 rW qJ F66 (AH F66)
noncomputable def un:Nat→Int×Int×Int×Y2→Option Y2
  | 0=>fun _=>none
  | n+1=>fun x=>VR (un n) x.1 x.2.1 x.2.2.1 x.2.2.2
noncomputable def P66:cL:=un 18446744073709551616
theorem v66 (F66:cL):aK (yt rP rQ qH rR rS rU P91 rW qJ F66) tL [] TN=fun x=>VR F66 x.1 x.2.1 x.2.2.1 x.2.2.2:=(g66 rP rQ qH rR rS rU P91 rW qJ F66).trans (by rw[YL F66] <;> rfl)
theorem D66:∀ n,DC Try.prog 66 tL (un n)
  | 0=>zH (eW (sh:=tL) ai YM (by kernel_rfl)).1
  | n+1=>vl (v66 (un n)) (eW (sh:=tL) (t66 (un n) (D66 n)) YM (by kernel_rfl))
theorem d66:DC Try.prog 66 tL P66:=D66 _
noncomputable def T44 (F67:n6)(F66:cL):List FEnt:=[⟨67,Cg,F67⟩,⟨66,tL,F66⟩]
theorem t44:ak Try.prog (T44 P67 P66):=dK (dK ai d66) d67
noncomputable def c44:=bK Try.prog [] Try.f44 .n
theorem ok44:L.Fn Try.prog 44 11 [] (erase c44):=oA Try.func44
def Kh:FSh:=⟨⟨zP,di⟩,[y19],1,⟨⟨pR,di⟩,[y19],[0],1⟩,false⟩
noncomputable def q44 (F67:n6)(F66:cL)(a0:List Int):Option Y2:=
ah (af .u64 (↑a0.length:Int)) (
(F67 (↑a0.length:Int)).bind fun r1=>(
(F66 (0,(↑a0.length:Int),r1,a0)).bind fun r2=>(
some r2)))
theorem g44 (F67:n6)(F66:cL)(a0:List Int):aK (T44 F67 F66) Kh [] c44 a0=q44 F67 F66 a0:=by kernel_rfl
noncomputable def p44:=q44 P67 P66
noncomputable def G0:l7:=fun x=>p44 x
theorem v44:aK (T44 P67 P66) Kh [] c44=G0:=funext fun x=>(g44 P67 P66 x)
theorem d44:DC Try.prog 44 Kh G0:=dD v44 t44 ok44
noncomputable def Ki:List FEnt:=[]
theorem t45:ak Try.prog Ki:=ai
def Og:LSh:=⟨[0,3,4,5],⟨[(.slc 0),(.v y7),(.slo 0 1),(.v y7)],di⟩,J1,1,[0]⟩
def Oh:List XSh:=[⟨(.exit 2),[0,3],⟨⟨RL,di⟩,[y7,y19],[0],1⟩⟩]
def Oi:LSh:=⟨[0,3],⟨RL,di⟩,[y7,y19],1,[]⟩
def Oj:List XSh:=[⟨.ret,[2],⟨⟨zP,di⟩,[y19],[],1⟩⟩,⟨(.exit 0),[0],⟨⟨zP,di⟩,[y19],[],1⟩⟩]
noncomputable def YN:=bK Try.prog [(7,{ch:=[0,0,1,0] }),(14,{ch:=[0,0,1,0] }),(15,{ch:=[0,0,2,0] })] Try.f45 (.s .n (.s .n (.s (.s .n (.b (.l Oi Oj (.s .n (.s (.b (.s .n (.s (.s .n (.s (.s .n (.b (.l Og Oh .n))) .n)) .n))) .n))))) .n)))
noncomputable def Ok (T:List FEnt):=aB (xs:=Oh) Og (bc T (sb [1,1,0,1,2,2,1,0,2,1,0,1,0,1,2,2] YN))
noncomputable def l45_1 (T:List FEnt):=aa (Ok T)
noncomputable def AI (a0 a1 a2 a3:Int)(a4:List Int):Option Y284:=
cond (decide (a3 < (↑a2.toNat:Int))) (
ah (aA a3 a2.toNat) (
ah (af .i64 (a3-1)) (
ah (aA (a3-1) a2.toNat) (
cond (!decide ((xj a4 (a1.toNat+Int.toNat a3))=(xj a4 (a1.toNat+Int.toNat (a3-1))))) (
ah (aA a3 a2.toNat) (
ah (aA a0 a4.length) (
ah (af .i64 (a0+1)) (
ah (af .i64 (a3+1)) (
some (Sum.inl ((a0+1),(↑a1.toNat:Int),(↑a2.toNat:Int),(a3+1),(List.set a4 a0.toNat (xj a4 (a1.toNat+Int.toNat a3)))))))))) (
ah (af .i64 (a3+1)) (
some (Sum.inl (a0,(↑a1.toNat:Int),(↑a2.toNat:Int),(a3+1),a4)))))))) (
some (Sum.inr (a0,a4)))
theorem YO:Ok Ki=u5 AI:=funext fun _=>by kernel_rfl
noncomputable def G1:=AI
noncomputable def G2:K8:=aa (u5 G1)
theorem YQ:l45_1 Ki=G2:=congrArg aa YO
noncomputable def Ol (T:List FEnt):=aB (xs:=Oj) Oi (bc T (sb [1,1,0,1,2,2] YN))
noncomputable def l45_0 (T:List FEnt):=aa (Ol T)
noncomputable def AJ (l45_1:K8)(a0:Int)(a1:List Int):Option (It⊕K3):=
cond (decide (a0 < (↑a1.length:Int))) (
ah (aA a0 a1.length) (
ah (af .i64 (a0-1)) (
ah (aA (a0-1) a1.length) (
cond (decide ((ix a1 a0)=(ix a1 (a0-1)))) (
ah (decide (0≤a0)) (
ah (decide (a0≤(↑a1.length:Int))) (
ah (decide ((↑a1.length:Int)≤(↑a1.length:Int))) (
ah (decide (0 < List.length a1)) (
(l45_1 (a0,(↑a0.toNat:Int),(↑(Int.toNat ((↑a1.length:Int)-a0)):Int),1,a1)).bind fun y1=>(
ah (decide (0≤y1.1)) (
ah (decide (y1.1≤(↑y1.2.length:Int))) (
ah (decide ((↑y1.2.length:Int)≤(↑y1.2.length:Int))) (
ah (decide (0 < List.length y1.2)) (
ah (decide (0≤y1.1)) (
ah (decide (y1.1≤(↑(List.length (cA y1.2 y1.1.toNat (Int.toNat ((↑y1.2.length:Int)-y1.1)) 0)):Int))) (
ah (decide (0 < List.length (cA y1.2 y1.1.toNat (Int.toNat ((↑y1.2.length:Int)-y1.1)) 0))) (
some (Sum.inr (Sum.inl (List.take y1.1.toNat (cA y1.2 y1.1.toNat (Int.toNat ((↑y1.2.length:Int)-y1.1)) 0))))))))))))))))) (
ah (af .i64 (a0+1)) (
some (Sum.inl ((a0+1),a1)))))))) (
some (Sum.inr (Sum.inr a1)))
theorem g45_0:Ol Ki=u2 (AJ (l45_1 Ki)):=funext fun _=>by kernel_rfl
noncomputable def AK:=AJ G2
noncomputable def AL:Y271:=aa (u2 AK)
theorem v45_0:l45_0 Ki=AL:=congrArg aa (g45_0.trans (by rw[YQ] <;> rfl))
theorem ok45:L.Fn Try.prog 45 61 [(.t 2)] (erase YN):=oA Try.func45
def Kj:FSh:=⟨⟨zP,di⟩,[y19],1,⟨⟨zP,di⟩,[y19],[],1⟩,false⟩
noncomputable def YR (l45_0:Y271)(a0:List Int):Option Y2:=
cond (decide ((↑a0.length:Int) < 2)) (
some a0) (
(l45_0 (1,a0)).bind (fun y2=>Sum.elim (fun y3=>(
some y3)) (fun y4=>(
some y4)) y2))
theorem g45 (a0:List Int):aK Ki Kj [(.t 2)] YN a0=YR (l45_0 Ki) a0:=by kernel_rfl
noncomputable def p45:=YR AL
noncomputable def C4:l7:=fun x=>p45 x
theorem v45:aK Ki Kj [(.t 2)] YN=C4:=funext fun x=>(g45 x).trans (by rw[v45_0] <;> rfl)
theorem d45:DC Try.prog 45 Kj C4:=dD v45 t45 ok45
noncomputable def T16 (F42:dH)(F42v1:gH)(F44:l7)(F45:l7):List FEnt:=[⟨42,tJ,F42⟩,⟨42,iS,F42v1⟩,⟨44,Kh,F44⟩,⟨45,Kj,F45⟩]
theorem t16:ak Try.prog (T16 i6 P42v1 G0 C4):=dK (dK (dK (dK ai d45) d44) rO) VN
noncomputable def c16:=bK Try.prog [] Try.f16 .n
theorem ok16:L.Fn Try.prog 16 30 [(.t 6),(.t 7)] (erase c16):=oA Try.func16
def yu:FSh:=⟨⟨J3,[]⟩,J0,0,⟨⟨[(.tup RL)],di⟩,[y7,y19],[],1⟩,true⟩
noncomputable def q16 (F42:dH)(F42v1:gH)(F44 F45:l7)(a0:Y2×Int)(a1:List Y1)(a2:Int):Option It:=
Io (F42 (a0,a1,a2,0,1)) (fun r1=>(
cond (!decide (r1=0)) (
some (r1,([]:List Int))) (
none))) (
(F42v1 (a0,a1,a2,0,1)).bind fun r2=>(
cond (!decide (r2.1=0)) (
some (r2.1,([]:List Int))) (
(F44 r2.2.2.2.2.1).bind fun r3=>(
(F45 r3).bind fun r4=>(
some (0,r4))))))
theorem g16 (F42:dH)(F42v1:gH)(F44 F45:l7):aK (T16 F42 F42v1 F44 F45) yu [(.t 6),(.t 7)] c16=u3 (q16 F42 F42v1 F44 F45):=funext fun _=>by kernel_rfl
noncomputable def p16:=q16 i6 P42v1 G0 C4
noncomputable def P16:gI:=u3 p16
theorem v16:aK (T16 i6 P42v1 G0 C4) yu [(.t 6),(.t 7)] c16=P16:=g16 i6 P42v1 G0 C4
theorem d16:DC Try.prog 16 yu P16:=dD v16 t16 ok16
noncomputable def VS:List FEnt:=[]
theorem t20:ak Try.prog VS:=ai
def Om:LSh:=⟨[0,1,5],⟨[(.v y19),(.v y19),(.v y7)],[]⟩,[y19,y19,y7],0,[]⟩
def rX:List XSh:=[⟨.ret,[4],⟨⟨fG,[]⟩,[.bool],[],0⟩⟩,⟨(.exit 0),[],⟨⟨[],[]⟩,[],[],0⟩⟩]
noncomputable def c20:=bK Try.prog [] Try.f20 (.s .n (.s .n (.s (.s .n (.b (.l Om rX .n))) .n)))
noncomputable def On (T:List FEnt):=aB (xs:=rX) Om (bc T (sb [1,1,0,1,2,2] c20))
noncomputable def l20_0 (T:List FEnt):=aa (On T)
noncomputable def rY (a0 a1:List Int)(a2:Int):Option ((Y2×Y2×Int)⊕we):=
cond (decide (a2 < (↑a0.length:Int))) (
ah (aA a2 a0.length) (
ah (aA a2 a1.length) (
cond (!decide ((ix a0 a2)=(ix a1 a2))) (
some (Sum.inr (Sum.inl false))) (
ah (af .i64 (a2+1)) (
some (Sum.inl (a0,a1,(a2+1)))))))) (
some (Sum.inr (Sum.inr ())))
theorem YS:On VS=u3 rY:=funext fun _=>by kernel_rfl
noncomputable def Oo:=rY
noncomputable def AM:Y259:=aa (u3 Oo)
theorem YT:l20_0 VS=AM:=congrArg aa YS
theorem ok20:L.Fn Try.prog 20 26 [(.t 4)] (erase c20):=oA Try.func20
def yv:FSh:=⟨⟨[(.v y19),(.v y19)],[]⟩,[y19,y19],0,⟨⟨fG,[]⟩,[.bool],[],0⟩,true⟩
noncomputable def q20 (l20_0:Y259)(a0 a1:List Int):Option Bool:=
cond (!decide ((↑a0.length:Int)=(↑a1.length:Int))) (
some false) (
(l20_0 (a0,a1,0)).bind (fun y1=>Sum.elim (fun y2=>(
some y2)) (fun y3=>(
some true)) y1))
theorem g20:aK VS yv [(.t 4)] c20=u2 (q20 (l20_0 VS)):=funext fun _=>by kernel_rfl
noncomputable def p20:=q20 AM
noncomputable def P20:jI:=u2 p20
theorem v20:aK VS yv [(.t 4)] c20=P20:=g20.trans (by rw[YT] <;> rfl)
theorem d20:DC Try.prog 20 yv P20:=dD v20 t20 ok20
noncomputable def T14 (F41:Y98)(F15:bZ)(F21:dL)(F16:gI)(F20:jI):List FEnt:=[⟨41,JB,F41⟩,⟨15,qF,F15⟩,⟨21,yp,F21⟩,⟨16,yu,F16⟩,⟨20,yv,F20⟩]
theorem t14:ak Try.prog (T14 P41 P15 P21 P16 P20):=dK (dK (dK (dK (dK ai d20) d16) d21) Tw) d41
noncomputable def c14:=bK Try.prog [] Try.f14 (.s .n (.s .n (.s .n (.s .n (.s .n (.s (.r [.a 25 false y7]) .n))))))
theorem ok14:L.Fn Try.prog 14 61 [(.t 0)] (erase c14):=oA Try.func14
def pX:FSh:=⟨⟨[],[]⟩,[],0,⟨⟨fG,[]⟩,[.bool],[],0⟩,true⟩
noncomputable def q14 (F41:Y98)(F15:bZ)(F21:dL)(F16:gI)(F20:jI):Option Bool:=
(F41 ()).bind fun r1=>(
(F15 ((r1.2.1,r1.1),r1.2.2,12,2)).bind fun r2=>(
(F21 ((r1.2.1,r1.1),r1.2.2,1,1)).bind fun r3=>(
(F16 ((r1.2.1,r1.1),r1.2.2,12)).bind fun r4=>(
cond (decide (r2.2=0)) (
cond (decide (r3.2.2=0)) (
cond (decide (r4.1=0)) (
cond (((decide (r2.1.1=4)&&decide (r2.1.2.1=(-1)))&&decide (r2.1.2.2.1=(-1)))&&decide (r2.1.2.2.2=2)) (
cond (decide (r3.1=0)) (
cond (decide (r3.2.1=4)) (
(F20 (r4.2,([2]:List Int))).bind fun r5=>(
some r5)) (
some false)) (
some false)) (
some false)) (
some false)) (
some false)) (
some false)))))
theorem g14 (F41:Y98)(F15:bZ)(F21:dL)(F16:gI)(F20:jI):aK (T14 F41 F15 F21 F16 F20) pX [(.t 0)] c14 ()=q14 F41 F15 F21 F16 F20:=by kernel_rfl
noncomputable def p14:Option Bool:=q14 P41 P15 P21 P16 P20
noncomputable def P14:bS:=fun x=>p14
theorem v14:aK (T14 P41 P15 P21 P16 P20) pX [(.t 0)] c14=P14:=funext fun x=>(g14 P41 P15 P21 P16 P20)
theorem TO:DC Try.prog 14 pX P14:=dD v14 t14 ok14
noncomputable def T25:List FEnt:=[]
theorem t25:ak Try.prog T25:=ai
noncomputable def c25:=bK Try.prog [(2,{ch:=[1,1,0,0,0,0],rs:=[2] })] Try.f25 (.s .n (.s (.r [.a 0 false y7,.a 3 false y7]) (.s (.r [.a 3 true cZ]) .n)))
theorem ok25:L.Fn Try.prog 25 15 [(.cell 4 true 2),(.t 5)] (erase c25):=oA Try.func25
def G3:FSh:=⟨⟨j39,[]⟩,[aU,aZ],0,⟨⟨j24,[(0,(.row 3 y7)),(1,(.row 40 cZ))]⟩,[y7,y19,aZ],[],2⟩,true⟩
noncomputable def q25 (a0:Y2×Int)(a1:List Y1):Option Y86:=
ah (bC 8 (List.length ([]:List Int)+List.length a0.1)) (
ah (bC 40 a1.length) (
some (a0.2,(([]:List Int)++a0.1),a1)))
theorem g25:aK T25 G3 [(.cell 4 true 2),(.t 5)] c25=u2 q25:=funext fun _=>by kernel_rfl
noncomputable def p25:=q25
noncomputable def VT:yD:=u2 p25
theorem v25:aK T25 G3 [(.cell 4 true 2),(.t 5)] c25=VT:=g25
theorem d25:DC Try.prog 25 G3 VT:=dD v25 t25 ok25
noncomputable def T57:List FEnt:=[]
theorem t57:ak Try.prog T57:=ai
noncomputable def c57:=bK Try.prog [] Try.f57 .n
theorem ok57:L.Fn Try.prog 57 15 [(.t 6)] (erase c57):=oA Try.func57
def Cq:FSh:=⟨⟨j37,[]⟩,[y7,y7,y7],0,⟨⟨fG,[]⟩,[.bool],[],0⟩,true⟩
noncomputable def q57 (a0 a1 a2:Int):Option Bool:=
cond (decide (a1≤a0)) (
some (decide (a0≤a2))) (
some false)
theorem g57:aK T57 Cq [(.t 6)] c57=u3 q57:=funext fun _=>by kernel_rfl
noncomputable def p57:=q57
noncomputable def P57:Y5:=u3 p57
theorem v57:aK T57 Cq [(.t 6)] c57=P57:=g57
theorem d57:DC Try.prog 57 Cq P57:=dD v57 t57 ok57
noncomputable def VU (F57:Y5):List FEnt:=[⟨57,Cq,F57⟩]
theorem t37:ak Try.prog (VU P57):=dK ai d57
def Oq:LSh:=⟨[1,3],⟨Vw,[(0,(.boxT aU))]⟩,[y7,aU],1,[0]⟩
def Ot:List XSh:=[⟨.ret,[2],⟨⟨fG,[(0,(.boxT aU))]⟩,[.bool,aU],[0],1⟩⟩,⟨(.exit 0),[1],⟨⟨Iq,[(0,(.boxT aU))]⟩,[aU],[0],1⟩⟩]
noncomputable def c37:=bK Try.prog [] Try.f37 (.s .n (.s (.s .n (.b (.l Oq Ot .n))) .n))
noncomputable def Ou (T:List FEnt):=aB (xs:=Ot) Oq (bc T (sb [1,0,1,2,2] c37))
noncomputable def l37_0 (T:List FEnt):=aa (Ou T)
noncomputable def rZ (F57:Y5)(a0:Int)(a1:Y2×Int):Option (Hh⊕Y287):=
cond (decide (a0 < (↑a1.1.length:Int))) (
ah (aA a0 a1.1.length) (
(F57 ((ix a1.1 a0),1,12)).bind fun r1=>(
cond (!r1) (
some (Sum.inr (Sum.inl (false,a1)))) (
ah (af .i64 (a0+1)) (
some (Sum.inl ((a0+1),a1))))))) (
some (Sum.inr (Sum.inr a1)))
theorem YU (F57:Y5):Ou (VU F57)=u2 (rZ F57):=funext fun _=>by kernel_rfl
noncomputable def Ov:=rZ P57
noncomputable def AN:Y304:=aa (u2 Ov)
theorem v37_0:l37_0 (VU P57)=AN:=congrArg aa (YU P57)
theorem ok37:L.Fn Try.prog 37 27 [(.t 2)] (erase c37):=oA Try.func37
def Kk:FSh:=⟨⟨[(.st aU)],[]⟩,[aU],0,⟨⟨fG,[]⟩,[.bool],[],0⟩,true⟩
noncomputable def q37 (F57:Y5)(l37_0:Y304)(a0:Y2×Int):Option Bool:=
(l37_0 (0,a0)).bind (fun y2=>Sum.elim (fun y3=>(
some y3.1)) (fun y4=>(
(F57 ((↑y4.1.length:Int),1,6)).bind fun r5=>(
cond r5 (
(F57 (y4.2,1,600)).bind fun r6=>(
some r6)) (
some false)))) y2)
theorem g37 (F57:Y5)(a0:Y2×Int):aK (VU F57) Kk [(.t 2)] c37 a0=q37 F57 (l37_0 (VU F57)) a0:=by kernel_rfl
noncomputable def p37:=q37 P57 AN
noncomputable def P37:lY:=fun x=>p37 x
theorem v37:aK (VU P57) Kk [(.t 2)] c37=P37:=funext fun x=>(g37 P57 x).trans (by rw[v37_0] <;> rfl)
theorem d37:DC Try.prog 37 Kk P37:=dD v37 t37 ok37
noncomputable def T50 (F57:Y5):List FEnt:=[⟨57,Cq,F57⟩]
theorem t50:ak Try.prog (T50 P57):=dK ai d57
noncomputable def c50:=bK Try.prog [] Try.f50 .n
theorem ok50:L.Fn Try.prog 50 38 [(.t 2)] (erase c50):=oA Try.func50
def Kl:FSh:=⟨⟨[(.st cZ)],[]⟩,[cZ],0,⟨⟨fG,[]⟩,[.bool],[],0⟩,true⟩
noncomputable def q50 (F57:Y5)(a0:Y1):Option Bool:=
(F57 (a0.1,0,99)).bind fun r1=>(
cond (!r1) (
some false) (
(F57 (a0.2.1,0,9999)).bind fun r2=>(
cond (!r2) (
some false) (
(F57 (a0.2.2.2.1,0,99)).bind fun r3=>(
cond (!r3) (
some false) (
cond (decide (a0.2.2.1=1)) (
(F57 (a0.2.2.2.2,1,12)).bind fun r4=>(
some r4)) (
cond (decide (a0.2.2.1=2)) (
some (decide (a0.2.2.2.2=0))) (
cond (decide (a0.2.2.1=3)) (
some (decide (a0.2.2.2.2=0))) (
some false)))))))))
theorem g50 (F57:Y5)(a0:Y1):aK (T50 F57) Kl [(.t 2)] c50 a0=q50 F57 a0:=by kernel_rfl
noncomputable def p50:=q50 P57
noncomputable def P50:A9:=fun x=>p50 x
theorem v50:aK (T50 P57) Kl [(.t 2)] c50=P50:=funext fun x=>(g50 P57 x)
theorem d50:DC Try.prog 50 Kl P50:=dD v50 t50 ok50
noncomputable def Km (F37:lY)(F50:A9):List FEnt:=[⟨37,Kk,F37⟩,⟨50,Kl,F50⟩]
theorem t27:ak Try.prog (Km P37 P50):=dK (dK ai d50) d37
def Ow:LSh:=⟨[1,5,6],⟨[(.v aZ),(.v y7),(.v y7)],[]⟩,[aZ,y7,y7],0,[]⟩
def Ox:List XSh:=[⟨.ret,[4],⟨⟨mh,[]⟩,[y7],[],0⟩⟩,⟨(.exit 2),[1,5],⟨⟨[(.v aZ),(.v y7)],[]⟩,[aZ,y7],[],0⟩⟩]
def Oy:LSh:=⟨[1,5],⟨[(.v aZ),(.v y7)],[]⟩,[aZ,y7],0,[]⟩
noncomputable def YV:=bK Try.prog [] Try.f27 (.s .n (.s .n (.s .n (.s (.s .n (.b (.l Oy zQ (.s .n (.s (.b (.s .n (.s .n (.b (.l Ow Ox .n))))) .n))))) .n))))
noncomputable def Oz (T:List FEnt):=aB (xs:=Ox) Ow (bc T (sb [1,1,1,0,1,2,2,1,0,2,1,1,2,2] YV))
noncomputable def l27_1 (T:List FEnt):=aa (Oz T)
noncomputable def sa (F37:lY)(F50:A9)(a0:List Y1)(a1 a2:Int):Option ((Y8×Int×Int)⊕Y316):=
cond (decide (a2 < a1)) (
ah (aA a2 a0.length) (
ah (aA a1 a0.length) (
cond (decide ((ix a0 a2).1=(ix a0 a1).1)) (
ah (aA a2 a0.length) (
ah (aA a1 a0.length) (
cond (!((((decide ((ix a0 a2).1=(ix a0 a1).1)&&decide ((ix a0 a2).2.1=(ix a0 a1).2.1))&&decide ((ix a0 a2).2.2.1=(ix a0 a1).2.2.1))&&decide ((ix a0 a2).2.2.2.1=(ix a0 a1).2.2.2.1))&&decide ((ix a0 a2).2.2.2.2=(ix a0 a1).2.2.2.2))) (
some (Sum.inr (Sum.inl 41))) (
ah (af .i64 (a2+1)) (
some (Sum.inl (a0,a1,(a2+1)))))))) (
ah (af .i64 (a2+1)) (
some (Sum.inl (a0,a1,(a2+1)))))))) (
some (Sum.inr (Sum.inr (a0,a1))))
theorem YX (F37:lY)(F50:A9):Oz (Km F37 F50)=u3 (sa F37 F50):=funext fun _=>by kernel_rfl
noncomputable def OA:=sa P37 P50
noncomputable def L27_1:Y327:=aa (u3 OA)
theorem YY:l27_1 (Km P37 P50)=L27_1:=congrArg aa (YX P37 P50)
noncomputable def OB (T:List FEnt):=aB (xs:=zQ) Oy (bc T (sb [1,1,1,0,1,2,2] YV))
noncomputable def l27_0 (T:List FEnt):=aa (OB T)
noncomputable def q27_0 (F37:lY)(F50:A9)(l27_1:Y327)(a0:List Y1)(a1:Int):Option (Y96⊕Y54):=
cond (decide (a1 < (↑a0.length:Int))) (
ah (aA a1 a0.length) (
(F50 (ix a0 a1)).bind fun r2=>(
cond (!r2) (
some (Sum.inr (Sum.inl 41))) (
(l27_1 (a0,a1,0)).bind (fun y3=>Sum.elim (fun y4=>(
some (Sum.inr (Sum.inl y4)))) (fun y5=>(
ah (af .i64 (y5.2+1)) (
some (Sum.inl (y5.1,(y5.2+1)))))) y3))))) (
some (Sum.inr (Sum.inr ())))
theorem YZ (F37:lY)(F50:A9):OB (Km F37 F50)=u2 (q27_0 F37 F50 (l27_1 (Km F37 F50))):=funext fun _=>by kernel_rfl
noncomputable def OC:=q27_0 P37 P50 L27_1
noncomputable def vV:Y273:=aa (u2 OC)
theorem Y0:l27_0 (Km P37 P50)=vV:=congrArg aa ((YZ P37 P50).trans (by rw[YY] <;> rfl))
theorem ok27:L.Fn Try.prog 27 52 [(.t 4)] (erase YV):=oA Try.func27
def Cr:FSh:=⟨⟨j39,[]⟩,[aU,aZ],0,⟨⟨mh,[]⟩,[y7],[],0⟩,true⟩
noncomputable def q27 (F37:lY)(F50:A9)(l27_0:Y273)(a0:Y2×Int)(a1:List Y1):Option Int:=
(F37 a0).bind fun r1=>(
cond (!r1) (
some 40) (
cond (decide (40 < (↑a1.length:Int))) (
some 41) (
(l27_0 (a1,0)).bind (fun y6=>Sum.elim (fun y7=>(
some y7)) (fun y8=>(
some 0)) y6))))
theorem g27 (F37:lY)(F50:A9):aK (Km F37 F50) Cr [(.t 4)] YV=u2 (q27 F37 F50 (l27_0 (Km F37 F50))):=funext fun _=>by kernel_rfl
noncomputable def p27:=q27 P37 P50 vV
noncomputable def wO:ur:=u2 p27
theorem v27:aK (Km P37 P50) Cr [(.t 4)] YV=wO:=(g27 P37 P50).trans (by rw[Y0] <;> rfl)
theorem d27:DC Try.prog 27 Cr wO:=dD v27 t27 ok27
noncomputable def T51 (F27:ur)(F57:Y5):List FEnt:=[⟨27,Cr,F27⟩,⟨57,Cq,F57⟩]
theorem t51:ak Try.prog (T51 wO P57):=dK (dK ai d57) d27
noncomputable def c51:=bK Try.prog [] Try.f51 .n
theorem ok51:L.Fn Try.prog 51 31 [(.t 10)] (erase c51):=oA Try.func51
def Cs:FSh:=⟨⟨j20,[]⟩,z14,0,⟨⟨mh,[]⟩,[y7],[],0⟩,true⟩
noncomputable def q51 (F27:ur)(F57:Y5)(a0:Y2×Int)(a1:List Y1)(a2 a3 a4:Int):Option Int:=
(F27 (a0,a1)).bind fun r1=>(
cond (!decide (r1=0)) (
some r1) (
(F57 (a2,0,9999)).bind fun r2=>(
cond (!r2) (
some 1) (
(F57 (a3,0,99)).bind fun r3=>(
cond (!r3) (
some 1) (
(F57 (a4,1,12)).bind fun r4=>(
cond (!r4) (
some 1) (
some 0))))))))
theorem g51 (F27:ur)(F57:Y5):aK (T51 F27 F57) Cs [(.t 10)] c51=u5 (q51 F27 F57):=funext fun _=>by kernel_rfl
noncomputable def p51:=q51 wO P57
noncomputable def vW:dH:=u5 p51
theorem v51:aK (T51 wO P57) Cs [(.t 10)] c51=vW:=g51 wO P57
theorem d51:DC Try.prog 51 Cs vW:=dD v51 t51 ok51
noncomputable def C5:List FEnt:=[]
theorem t70:ak Try.prog C5:=ai
def OD:LSh:=⟨[1,2,3,4,5,6],⟨[(.ptr 0 0),(.ptr 1 0),(.ptr 2 0),(.v y7),(.slc 3),(.v y7)],k7⟩,[y7,y7,aU,y19,cG],5,[0,1,2,3,4]⟩
def OE:List XSh:=[⟨(.exit 2),[1,2,3,4,5],⟨⟨[(.ptr 0 0),(.ptr 1 0),(.ptr 2 0),(.v y7),(.slc 3)],k7⟩,[y7,aU,y19,cG],[0,1,2,3,4],5⟩⟩]
def OF:LSh:=⟨[1,2,3,4],⟨[(.ptr 0 0),(.ptr 1 0),(.ptr 2 0),(.v y7)],k12⟩,[y7,aU,cG],4,[0,1,2]⟩
def OG:List XSh:=[⟨(.exit 0),[2,3],⟨⟨[(.ptr 1 0),(.ptr 2 0)],k12⟩,[aU,cG],[0,1,2],4⟩⟩]
def OH:LSh:=⟨[2,3,7],⟨[(.ptr 0 0),(.ptr 1 0),(.v y7)],k6⟩,[y7,cG,ij,y19],5,[0,1,2]⟩
def OI:List XSh:=[⟨(.exit 4),[2,3],⟨⟨[(.ptr 0 0),(.ptr 1 0)],k6⟩,[cG,ij,y19],[0,1,2],5⟩⟩]
noncomputable def VV:=bK Try.prog [] Try.f70 (.s .n (.s .n (.s (.s .n (.b (.l OF OG (.s .n (.s (.b (.s (.r [.a 5 false y7]) (.s (.s .n (.b (.l OD OE .n))) (.r [.a 3 true y19,.a 4 true y19])))) .n))))) (.s (.s .n (.b (.l OH OI (.s .n (.s (.b (.s (.r [.a 3 true fq,.a 4 true fq]) (.r [.a 2 false y7,.a 3 false y7]))) .n))))) .n))))
noncomputable def OJ (T:List FEnt):=aB (xs:=OE) OD (bc T (sb [1,1,0,1,2,2,1,0,2,1,0,1,2,2] VV))
noncomputable def l70_1 (T:List FEnt):=aa (OJ T)
noncomputable def OK (a0 a1:Int)(a2:Y2×Int)(a3:List Int)(a4:List Y2):Option ((Int×Int×dC×Y2×Y9)⊕Y274):=
cond (decide (a1 < (↑a3.length:Int))) (
ah (aA a1 a3.length) (
ah (af .i64 (a1+1)) (
some (Sum.inl (a0,(a1+1),a2,(List.set a3 a1.toNat (-1)),a4))))) (
some (Sum.inr (a0,a2,a3,a4)))
theorem Y6:OJ C5=u5 OK:=funext fun _=>by kernel_rfl
noncomputable def Y7:=OK
noncomputable def OL:Y305:=aa (u5 Y7)
theorem Za:l70_1 C5=OL:=congrArg aa Y6
noncomputable def OM (T:List FEnt):=aB (xs:=OG) OF (bc T (sb [1,1,0,1,2,2] VV))
noncomputable def l70_0 (T:List FEnt):=aa (OM T)
noncomputable def ON (l70_1:Y305)(a0:Int)(a1:Y2×Int)(a2:List Y2):Option ((Int×dC×Y9)⊕Y291):=
cond (decide (a0 < (↑a1.1.length:Int))) (
ah (aA a0 a1.1.length) (
ah (decide (0≤(ix a1.1 a0))) (
ah (decide (8*(ix a1.1 a0)≤140737488355328)) (
(l70_1 (a0,0,a1,(jv (Int.toNat (ix a1.1 a0)) 0:List Int),a2)).bind fun y1=>(
ah (bC 24 (List.length y1.2.2.2+List.length ([y1.2.2.1]:List Y2))) (
ah (af .i64 (y1.1+1)) (
some (Sum.inl ((y1.1+1),y1.2.1,(y1.2.2.2++([y1.2.2.1]:List Y2))))))))))) (
some (Sum.inr (a1,a2)))
theorem g70_0:OM C5=u3 (ON (l70_1 C5)):=funext fun _=>by kernel_rfl
noncomputable def Zb:=ON OL
noncomputable def OO:Y306:=aa (u3 Zb)
theorem v70_0:l70_0 C5=OO:=congrArg aa (g70_0.trans (by rw[Za] <;> rfl))
noncomputable def OP (T:List FEnt):=aB (xs:=OI) OH (bc T (sb [1,1,1,0,1,2,2] VV))
noncomputable def l70_2 (T:List FEnt):=aa (OP T)
noncomputable def OQ (a0:Int)(a1:List Y2)(a2:List Y4)(a3:List Int):Option ((Int×Y9×fY×Y2)⊕K9):=
cond (decide (a0≤99)) (
ah (bC 32 (List.length a2+List.length ([(0,((-1),((-1),0)))]:List Y4))) (
ah (bC 8 (List.length a3+List.length ([0]:List Int))) (
ah (af .i64 (a0+1)) (
some (Sum.inl ((a0+1),a1,(a2++([(0,((-1),((-1),0)))]:List Y4)),(a3++([0]:List Int)))))))) (
some (Sum.inr (a1,a2,a3)))
theorem Zc:OP C5=u4 OQ:=funext fun _=>by kernel_rfl
noncomputable def Zd:=OQ
noncomputable def OR:Y307:=aa (u4 Zd)
theorem v70_2:l70_2 C5=OR:=congrArg aa Zc
theorem ok70:L.Fn Try.prog 70 52 [(.cell 2 true 4)] (erase VV):=oA Try.func70
def Kn:FSh:=⟨⟨[(.st aU)],[]⟩,[aU],0,⟨⟨[(.agg [(.slr 0),(.slc 1),(.slc 2),.emp])],[(0,(.rows 22 3 y7)),(1,(.row 32 fq)),(2,(.row 3 y7))]⟩,[cG,ij,y19],[],3⟩,false⟩
noncomputable def q70 (l70_0:Y306)(l70_2:Y307)(a0:Y2×Int):Option K9:=
(l70_0 (0,a0,([]:List Y2))).bind fun y2=>(
(l70_2 (0,y2.2,([]:List Y4),([]:List Int))).bind fun y3=>(
some (y3.1,y3.2.1,y3.2.2)))
theorem g70 (a0:Y2×Int):aK C5 Kn [(.cell 2 true 4)] VV a0=q70 (l70_0 C5) (l70_2 C5) a0:=by kernel_rfl
noncomputable def p70:=q70 OO OR
noncomputable def C6:wg:=fun x=>p70 x
theorem v70:aK C5 Kn [(.cell 2 true 4)] VV=C6:=funext fun x=>(g70 x).trans (by rw[v70_0,v70_2] <;> rfl)
theorem d70:DC Try.prog 70 Kn C6:=dD v70 t70 ok70
noncomputable def Ko:List FEnt:=[]
theorem t71:ak Try.prog Ko:=ai
def OS:LSh:=⟨[0,3,4,5,6,7],⟨[(.v aZ),(.v aZ),(.v y7),(.v y7),(.v .bool),(.v y7)],[]⟩,[aZ,aZ,y7,y7,.bool,y7],0,[]⟩
def OT:List XSh:=[⟨(.exit 2),[0,3,4,5,6],⟨⟨[(.v aZ),(.v aZ),(.v y7),(.v y7),(.v .bool)],[]⟩,[aZ,aZ,y7,y7,.bool],[],0⟩⟩]
def OU:LSh:=⟨[0,3,4],⟨[(.v aZ),(.v aZ),(.v y7)],[]⟩,[aZ,aZ,y7],0,[]⟩
def OV:List XSh:=[⟨(.exit 0),[3],⟨⟨[(.v aZ)],[]⟩,[aZ],[],0⟩⟩]
noncomputable def Ze:=bK Try.prog [(13,{ch:=[0,0,0,0,0,0,0,0,0,0],rs:=[],ord:=[0,1,2,3,5,6,7,4,8,9] })] Try.f71 (.s .n (.s .n (.s (.s .n (.b (.l OU OV (.s .n (.s (.b (.s .n (.s (.s .n (.b (.l OS OT .n))) (.s (.r [.f 2 3 []]) (.s (.s (.r [.a 6 false cZ,.a 7 true cZ,.a 8 true cZ]) (.r [.a 0 true cZ,.a 3 false cZ,.a 4 true cZ,.a 6 true cZ])) .n))))) (.r [.f 3 3 []])))))) .n)))
noncomputable def OW (T:List FEnt):=aB (xs:=OT) OS (bc T (sb [1,1,0,1,2,2,1,0,2,1,0,1,2,2] Ze))
noncomputable def l71_1 (T:List FEnt):=aa (OW T)
noncomputable def sc (a0 a1:List Y1)(a2 a3:Int)(a4:Bool)(a5:Int):Option ((Y8×Y8×Int×Int×Bool×Int)⊕Y277):=
cond (decide (a5 < (↑a1.length:Int))) (
cond a4 (
ah (aA a5 a1.length) (
ah (aA a2 a0.length) (
cond (decide ((ix a1 a5).2.1 < (ix a0 a2).2.1)) (
ah (af .i64 (a5+1)) (
ah (af .i64 (a5+1)) (
some (Sum.inl (a0,a1,a2,(a5+1),true,(a5+1)))))) (
ah (aA a5 a1.length) (
ah (aA a2 a0.length) (
cond (decide ((ix a1 a5).2.1=(ix a0 a2).2.1)) (
ah (aA a5 a1.length) (
ah (aA a2 a0.length) (
cond (decide ((ix a1 a5).1 < (ix a0 a2).1)) (
ah (af .i64 (a5+1)) (
ah (af .i64 (a5+1)) (
some (Sum.inl (a0,a1,a2,(a5+1),true,(a5+1)))))) (
ah (af .i64 (a5+1)) (
some (Sum.inl (a0,a1,a2,a3,true,(a5+1)))))))) (
ah (af .i64 (a5+1)) (
some (Sum.inl (a0,a1,a2,a3,true,(a5+1))))))))))) (
ah (aA a5 a1.length) (
ah (aA a2 a0.length) (
ah (aA a5 a1.length) (
ah (aA a2 a0.length) (
cond (decide ((ix a1 a5).2.1 < (ix a0 a2).2.1)) (
ah (af .i64 (a5+1)) (
ah (af .i64 (a5+1)) (
some (Sum.inl (a0,a1,a2,(a5+1),((((decide ((ix a1 a5).1=(ix a0 a2).1)&&decide ((ix a1 a5).2.1=(ix a0 a2).2.1))&&decide ((ix a1 a5).2.2.1=(ix a0 a2).2.2.1))&&decide ((ix a1 a5).2.2.2.1=(ix a0 a2).2.2.2.1))&&decide ((ix a1 a5).2.2.2.2=(ix a0 a2).2.2.2.2)),(a5+1)))))) (
ah (aA a5 a1.length) (
ah (aA a2 a0.length) (
cond (decide ((ix a1 a5).2.1=(ix a0 a2).2.1)) (
ah (aA a5 a1.length) (
ah (aA a2 a0.length) (
cond (decide ((ix a1 a5).1 < (ix a0 a2).1)) (
ah (af .i64 (a5+1)) (
ah (af .i64 (a5+1)) (
some (Sum.inl (a0,a1,a2,(a5+1),((((decide ((ix a1 a5).1=(ix a0 a2).1)&&decide ((ix a1 a5).2.1=(ix a0 a2).2.1))&&decide ((ix a1 a5).2.2.1=(ix a0 a2).2.2.1))&&decide ((ix a1 a5).2.2.2.1=(ix a0 a2).2.2.2.1))&&decide ((ix a1 a5).2.2.2.2=(ix a0 a2).2.2.2.2)),(a5+1)))))) (
ah (af .i64 (a5+1)) (
some (Sum.inl (a0,a1,a2,a3,((((decide ((ix a1 a5).1=(ix a0 a2).1)&&decide ((ix a1 a5).2.1=(ix a0 a2).2.1))&&decide ((ix a1 a5).2.2.1=(ix a0 a2).2.2.1))&&decide ((ix a1 a5).2.2.2.1=(ix a0 a2).2.2.2.1))&&decide ((ix a1 a5).2.2.2.2=(ix a0 a2).2.2.2.2)),(a5+1)))))))) (
ah (af .i64 (a5+1)) (
some (Sum.inl (a0,a1,a2,a3,((((decide ((ix a1 a5).1=(ix a0 a2).1)&&decide ((ix a1 a5).2.1=(ix a0 a2).2.1))&&decide ((ix a1 a5).2.2.1=(ix a0 a2).2.2.1))&&decide ((ix a1 a5).2.2.2.1=(ix a0 a2).2.2.2.1))&&decide ((ix a1 a5).2.2.2.2=(ix a0 a2).2.2.2.2)),(a5+1)))))))))))))) (
some (Sum.inr (a0,a1,a2,a3,a4)))
theorem Zf:OW Ko=u6 sc:=funext fun _=>by kernel_rfl
noncomputable def OX:=sc
noncomputable def L71_1:Y309:=aa (u6 OX)
theorem Zg:l71_1 Ko=L71_1:=congrArg aa Zf
noncomputable def OY (T:List FEnt):=aB (xs:=OV) OU (bc T (sb [1,1,0,1,2,2] Ze))
noncomputable def l71_0 (T:List FEnt):=aa (OY T)
noncomputable def q71_0 (l71_1:Y309)(a0 a1:List Y1)(a2:Int):Option (Y294⊕Y8):=
cond (decide (a2 < (↑a0.length:Int))) (
(l71_1 (a0,a1,a2,0,false,0)).bind fun y1=>(
cond (!y1.2.2.2.2) (
ah (aA y1.2.2.1 y1.1.length) (
ah (decide (0≤y1.2.2.2.1)) (
ah (decide (y1.2.2.2.1≤(↑y1.2.1.length:Int))) (
ah (decide ((↑y1.2.1.length:Int)≤(↑y1.2.1.length:Int))) (
ah (bC 40 (List.length ([(ix y1.1 y1.2.2.1)]:List Y1)+List.length (pp y1.2.1 y1.2.2.2.1 (↑y1.2.1.length:Int)))) (
ah (decide ((0:Int)≤0)) (
ah (decide (0≤y1.2.2.2.1)) (
ah (decide (y1.2.2.2.1≤(↑y1.2.1.length:Int))) (
ah (bC 40 (List.length ([]:List Y1)+List.length (pp y1.2.1 0 y1.2.2.2.1))) (
ah (bC 40 (List.length (([]:List Y1)++(pp y1.2.1 0 y1.2.2.2.1))+List.length (([(ix y1.1 y1.2.2.1)]:List Y1)++(pp y1.2.1 y1.2.2.2.1 (↑y1.2.1.length:Int))))) (
ah (af .i64 (y1.2.2.1+1)) (
some (Sum.inl (y1.1,((([]:List Y1)++(pp y1.2.1 0 y1.2.2.2.1))++(([(ix y1.1 y1.2.2.1)]:List Y1)++(pp y1.2.1 y1.2.2.2.1 (↑y1.2.1.length:Int)))),(y1.2.2.1+1))))))))))))))) (
ah (af .i64 (y1.2.2.1+1)) (
some (Sum.inl (y1.1,y1.2.1,(y1.2.2.1+1))))))) (
some (Sum.inr a1))
theorem g71_0:OY Ko=u3 (q71_0 (l71_1 Ko)):=funext fun _=>by kernel_rfl
noncomputable def OZ:=q71_0 L71_1
noncomputable def AO:Y276:=aa (u3 OZ)
theorem v71_0:l71_0 Ko=AO:=congrArg aa (g71_0.trans (by rw[Zg] <;> rfl))
theorem ok71:L.Fn Try.prog 71 91 [(.t 2)] (erase Ze):=oA Try.func71
def Kp:FSh:=⟨⟨[(.v aZ)],[]⟩,[aZ],0,⟨⟨[(.v aZ)],[]⟩,[aZ],[],0⟩,false⟩
noncomputable def q71 (l71_0:Y276)(a0:List Y1):Option Y8:=
(l71_0 (a0,([]:List Y1),0)).bind fun y2=>(
some y2)
theorem g71 (a0:List Y1):aK Ko Kp [(.t 2)] Ze a0=q71 (l71_0 Ko) a0:=by kernel_rfl
noncomputable def p71:=q71 AO
noncomputable def yw:nj:=fun x=>p71 x
theorem v71:aK Ko Kp [(.t 2)] Ze=yw:=funext fun x=>(g71 x).trans (by rw[v71_0] <;> rfl)
theorem d71:DC Try.prog 71 Kp yw:=dD v71 t71 ok71
end Go.Proofs.Ytdkaijofmigmbaa.D
