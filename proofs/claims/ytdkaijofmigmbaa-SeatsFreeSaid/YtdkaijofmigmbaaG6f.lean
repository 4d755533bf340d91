import Derived.Test.YtdkaijofmigmbaaG5f
import Derived.Test.YtdkaijofmigmbaaProg
set_option linter.unusedVariables false
set_option maxRecDepth 100000
namespace Go.Proofs.Ytdkaijofmigmbaa.D
open Go Go.Proofs Go.Proofs.Ytdkaijofmigmbaa.L
def z7:List Ty:=[y7,y7,y7,.bool,.bool,y7,y7,y7,y19]
def j8:List RSh:=[(.slc 0),(.v y7),(.v y7),(.v y7),(.v .bool),(.v .bool),(.v y7)]
def j5:List RSh:=[(.slc 0),(.v y7),(.v y7),(.v y7),(.v .bool),(.v .bool),(.v y7),(.v y7),(.v y7)]
def k7:List (Nat×OSh):=[(0,(.boxT aY)),(1,(.box [.emp,.emp,.emp,.emp])),(2,(.box [(.slr 4),.emp,.emp,.emp])),(3,(.row 3 y7)),(4,(.rows 22 3 y7))]
def k12:List (Nat×OSh):=[(0,(.boxT aY)),(1,(.box [.emp,.emp,.emp,.emp])),(2,(.box [(.slr 3),.emp,.emp,.emp])),(3,(.rows 22 3 y7))]
def k6:List (Nat×OSh):=[(0,(.box [.emp,.emp,.emp,.emp])),(1,(.box [(.slr 2),(.slc 3),(.slc 4),.emp])),(2,(.rows 22 3 y7)),(3,(.row 32 fj)),(4,(.row 3 y7))]
noncomputable def ut (F91:bJ):List FEnt:=[⟨91,qK,F91⟩]
theorem t93:al Try.prog (ut P91):=dK aj Tf
def kL:LSh:=⟨[0,1,10,11],⟨vQ,dg⟩,vP,1,[0]⟩
def Nt:List XSh:=[⟨(.exit 0),[0,1,10,11],⟨⟨vQ,dg⟩,vP,[0],1⟩⟩]
def Nu:List XSh:=[⟨(.exit 2),[0,1,10,11],⟨⟨vQ,dg⟩,vP,[0],1⟩⟩]
def Nv:List XSh:=[⟨(.exit 6),[0,1,10,11],⟨⟨vQ,dg⟩,vP,[0],1⟩⟩]
def Nw:List XSh:=[⟨(.exit 8),[0,1,10,11],⟨⟨vQ,dg⟩,vP,[0],1⟩⟩]
def Nx:List XSh:=[⟨(.exit 4),[0,1,11],⟨⟨Ig,dg⟩,JU,[0],1⟩⟩]
noncomputable def Ny:=bK Try.prog [] Try.f93 (.s .n (.s .n (.s .n (.s (.b (.l kL Nt .n)) (.s (.b (.l kL Nu .n)) (.s .n (.s .n (.s .n (.s .n (.s (.b (.l kL Nx (.b (.s (.b (.l kL Nv .n)) (.s (.b (.l kL Nw .n)) .n))))) .n))))))))))
noncomputable def Nz (T:List FEnt):=aD (xs:=Nt) kL (bd T (sb [1,1,1,0,2,2] Ny))
noncomputable def l93_0 (T:List FEnt):=af (Nz T)
noncomputable def GE (F91:bJ)(a0 a1 a2:Int)(a3:List Int):Option CC:=
cond (decide (a1≤a2)) (
ai (aA a1 a3.length) (
ai (aA a0 a3.length) (
(F91 ((ix a3 a1),(ix a3 a0))).bind fun r1=>(
cond r1 (
ai (ah .i64 (a1+1)) (
some (Sum.inl (a0,(a1+1),a2,a3)))) (
some (Sum.inr (a0,a1,a2,a3))))))) (
some (Sum.inr (a0,a1,a2,a3)))
theorem X8 (F91:bJ):Nz (ut F91)=u4 (GE F91):=funext fun _=>by kernel_rfl
noncomputable def NA:=GE P91
noncomputable def GF:ua:=af (u4 NA)
theorem X9:l93_0 (ut P91)=GF:=congrArg af (X8 P91)
noncomputable def NB (T:List FEnt):=aD (xs:=Nu) kL (bd T (sb [1,1,1,1,0,2,2] Ny))
noncomputable def l93_1 (T:List FEnt):=af (NB T)
noncomputable def GG (F91:bJ)(a0 a1 a2:Int)(a3:List Int):Option CC:=
cond (decide (a1≤a2)) (
ai (aA a2 a3.length) (
ai (aA a0 a3.length) (
(F91 ((ix a3 a2),(ix a3 a0))).bind fun r3=>(
cond (!r3) (
ai (ah .i64 (a2-1)) (
some (Sum.inl (a0,a1,(a2-1),a3)))) (
some (Sum.inr (a0,a1,a2,a3))))))) (
some (Sum.inr (a0,a1,a2,a3)))
theorem Ya (F91:bJ):NB (ut F91)=u4 (GG F91):=funext fun _=>by kernel_rfl
noncomputable def NC:=GG P91
noncomputable def GH:ua:=af (u4 NC)
theorem Yb:l93_1 (ut P91)=GH:=congrArg af (Ya P91)
noncomputable def ND (T:List FEnt):=aD (xs:=Nv) kL (bd T (sb [1,1,1,1,1,1,1,1,1,0,2,2,2,0,2,2] Ny))
noncomputable def l93_3 (T:List FEnt):=af (ND T)
noncomputable def GI (F91:bJ)(a0 a1 a2:Int)(a3:List Int):Option CC:=
cond (decide (a1≤a2)) (
ai (aA a1 a3.length) (
ai (aA a0 a3.length) (
(F91 ((ix a3 a1),(ix a3 a0))).bind fun r5=>(
cond r5 (
ai (ah .i64 (a1+1)) (
some (Sum.inl (a0,(a1+1),a2,a3)))) (
some (Sum.inr (a0,a1,a2,a3))))))) (
some (Sum.inr (a0,a1,a2,a3)))
theorem Yc (F91:bJ):ND (ut F91)=u4 (GI F91):=funext fun _=>by kernel_rfl
noncomputable def NE:=GI P91
noncomputable def GJ:ua:=af (u4 NE)
theorem Yd:l93_3 (ut P91)=GJ:=congrArg af (Yc P91)
noncomputable def NF (T:List FEnt):=aD (xs:=Nw) kL (bd T (sb [1,1,1,1,1,1,1,1,1,0,2,2,2,1,0,2,2] Ny))
noncomputable def l93_4 (T:List FEnt):=af (NF T)
noncomputable def GK (F91:bJ)(a0 a1 a2:Int)(a3:List Int):Option CC:=
cond (decide (a1≤a2)) (
ai (aA a2 a3.length) (
ai (aA a0 a3.length) (
(F91 ((ix a3 a2),(ix a3 a0))).bind fun r7=>(
cond (!r7) (
ai (ah .i64 (a2-1)) (
some (Sum.inl (a0,a1,(a2-1),a3)))) (
some (Sum.inr (a0,a1,a2,a3))))))) (
some (Sum.inr (a0,a1,a2,a3)))
theorem Ye (F91:bJ):NF (ut F91)=u4 (GK F91):=funext fun _=>by kernel_rfl
noncomputable def NG:=GK P91
noncomputable def GL:ua:=af (u4 NG)
theorem Yf:l93_4 (ut P91)=GL:=congrArg af (Ye P91)
noncomputable def NH (T:List FEnt):=aD (xs:=Nx) kL (bd T (sb [1,1,1,1,1,1,1,1,1,0,2,2] Ny))
noncomputable def l93_2 (T:List FEnt):=af (NH T)
noncomputable def GM (F91:bJ)(l93_3 l93_4:ua)(a0 a1 a2:Int)(a3:List Int):Option (t7⊕G6):=
(l93_3 (a0,a1,a2,a3)).bind fun y6=>(
(l93_4 (y6.1,y6.2.1,y6.2.2.1,y6.2.2.2)).bind fun y8=>(
cond (decide (y8.2.2.1 < y8.2.1)) (
some (Sum.inr (y8.1,y8.2.2.1,y8.2.2.2))) (
ai (aA y8.2.2.1 y8.2.2.2.length) (
ai (aA y8.2.1 y8.2.2.2.length) (
ai (aA y8.2.1 y8.2.2.2.length) (
ai (aA y8.2.2.1 (List.length (List.set y8.2.2.2 y8.2.1.toNat (ix y8.2.2.2 y8.2.2.1)))) (
ai (ah .i64 (y8.2.1+1)) (
ai (ah .i64 (y8.2.2.1-1)) (
some (Sum.inl (y8.1,(y8.2.1+1),(y8.2.2.1-1),(List.set (List.set y8.2.2.2 y8.2.1.toNat (ix y8.2.2.2 y8.2.2.1)) y8.2.2.1.toNat (ix y8.2.2.2 y8.2.1)))))))))))))
theorem Yg (F91:bJ):NH (ut F91)=u4 (GM F91 (l93_3 (ut F91)) (l93_4 (ut F91))):=funext fun _=>by kernel_rfl
noncomputable def NI:=GM P91 GJ GL
noncomputable def GN:Y266:=af (u4 NI)
theorem Yh:l93_2 (ut P91)=GN:=congrArg af ((Yg P91).trans (by rw[Yd,Yf] <;> rfl))
theorem ok93:L.Fn Try.prog 93 168 [(.t 8),(.t 9)] (erase Ny):=oA Try.func93
def J8:FSh:=⟨⟨vQ,dg⟩,vP,1,⟨⟨[(.tup [(.v y7),(.v .bool)])],dg⟩,[y7,.bool,y19],[0],1⟩,false⟩
noncomputable def q93 (F91:bJ)(l93_0 l93_1:ua)(l93_2:Y266)(a0 a1 a2:Int)(a3:List Int):Option Y257:=
ai (aA a2 a3.length) (
ai (aA a0 a3.length) (
ai (aA a0 a3.length) (
ai (aA a2 (List.length (List.set a3 a0.toNat (ix a3 a2)))) (
ai (ah .i64 (a0+1)) (
ai (ah .i64 (a1-1)) (
(l93_0 (a0,(a0+1),(a1-1),(List.set (List.set a3 a0.toNat (ix a3 a2)) a2.toNat (ix a3 a0)))).bind fun y2=>(
(l93_1 (y2.1,y2.2.1,y2.2.2.1,y2.2.2.2)).bind fun y4=>(
cond (decide (y4.2.2.1 < y4.2.1)) (
ai (aA y4.1 y4.2.2.2.length) (
ai (aA y4.2.2.1 y4.2.2.2.length) (
ai (aA y4.2.2.1 y4.2.2.2.length) (
ai (aA y4.1 (List.length (List.set y4.2.2.2 y4.2.2.1.toNat (ix y4.2.2.2 y4.1)))) (
some (y4.2.2.1,true,(List.set (List.set y4.2.2.2 y4.2.2.1.toNat (ix y4.2.2.2 y4.1)) y4.1.toNat (ix y4.2.2.2 y4.2.2.1)))))))) (
ai (aA y4.2.2.1 y4.2.2.2.length) (
ai (aA y4.2.1 y4.2.2.2.length) (
ai (aA y4.2.1 y4.2.2.2.length) (
ai (aA y4.2.2.1 (List.length (List.set y4.2.2.2 y4.2.1.toNat (ix y4.2.2.2 y4.2.2.1)))) (
ai (ah .i64 (y4.2.1+1)) (
ai (ah .i64 (y4.2.2.1-1)) (
(l93_2 (y4.1,(y4.2.1+1),(y4.2.2.1-1),(List.set (List.set y4.2.2.2 y4.2.1.toNat (ix y4.2.2.2 y4.2.2.1)) y4.2.2.1.toNat (ix y4.2.2.2 y4.2.1)))).bind fun y9=>(
ai (aA y9.1 y9.2.2.length) (
ai (aA y9.2.1 y9.2.2.length) (
ai (aA y9.2.1 y9.2.2.length) (
ai (aA y9.1 (List.length (List.set y9.2.2 y9.2.1.toNat (ix y9.2.2 y9.1)))) (
some (y9.2.1,false,(List.set (List.set y9.2.2 y9.2.1.toNat (ix y9.2.2 y9.1)) y9.1.toNat (ix y9.2.2 y9.2.1)))))))))))))))))))))))
theorem g93 (F91:bJ):aK (ut F91) J8 [(.t 8),(.t 9)] Ny=u4 (q93 F91 (l93_0 (ut F91)) (l93_1 (ut F91)) (l93_2 (ut F91))):=funext fun _=>by kernel_rfl
noncomputable def p93:=q93 P91 GF GH GN
noncomputable def qN:om:=u4 p93
theorem v93:aK (ut P91) J8 [(.t 8),(.t 9)] Ny=qN:=(g93 P91).trans (by rw[X9,Yb,Yh] <;> rfl)
theorem d93:DC Try.prog 93 J8 qN:=dD v93 t93 ok93
def tT:FSh:=⟨⟨vQ,dg⟩,vP,1,⟨⟨pX,dg⟩,[y19],[0],1⟩,false⟩
noncomputable def yt (F85:dY)(F86:dY)(F87:dY)(F88:oj)(F89:dY)(F90:ol)(F91:bJ)(F92:mb)(F93:om)(F66:cJ):List FEnt:=[⟨85,JZ,F85⟩,⟨86,J2,F86⟩,⟨87,J3,F87⟩,⟨88,J4,F88⟩,⟨89,J5,F89⟩,⟨90,J6,F90⟩,⟨91,qK,F91⟩,⟨92,J7,F92⟩,⟨93,J8,F93⟩,⟨66,tT,F66⟩]
theorem t66 (F66:cJ)(h:DC Try.prog 66 tT F66):al Try.prog (yt rU rV qL rW rX rZ P91 sc qN F66):=(aL d85 (by kernel_rfl) (aL d86 (by kernel_rfl) (aL d87 (by kernel_rfl) (aL d88 (by kernel_rfl) (aL d89 (by kernel_rfl) (aL d90 (by kernel_rfl) (aL Tf (by kernel_rfl) (aL d92 (by kernel_rfl) (aL d93 (by kernel_rfl) (aL h (by kernel_rfl) aj))))))))))
def NJ:LSh:=⟨[0,1,2,3,8,9,10],⟨j8,dg⟩,[y7,y7,y7,.bool,.bool,y7,y19],1,[0]⟩
def NK:List XSh:=[⟨.normal,[0,1,2,3,8,9,10],⟨⟨j8,dg⟩,[y7,y7,y7,.bool,.bool,y7,y19],[0],1⟩⟩]
def AG:LSh:=⟨[0,1,2,3,8,9,10,11,12],⟨j5,dg⟩,z7,1,[0]⟩
def NL:List XSh:=[⟨.normal,[0,1,2,3,8,9,10,11,12],⟨⟨j5,dg⟩,z7,[0],1⟩⟩]
def NM:List XSh:=[⟨.ret,[],⟨⟨[],dg⟩,[y19],[0],1⟩⟩,⟨.normal,[0,1,2,3,8,9,10,11],⟨⟨[(.slc 0),(.v y7),(.v y7),(.v y7),(.v .bool),(.v .bool),(.v y7),(.v y7)],dg⟩,[y7,y7,y7,.bool,.bool,y7,y7,y19],[0],1⟩⟩]
def NN:LSh:=⟨[0,1,2,3,8,9],⟨[(.slc 0),(.v y7),(.v y7),(.v y7),(.v .bool),(.v .bool)],dg⟩,[y7,y7,y7,.bool,.bool,y19],1,[0]⟩
def NO:List XSh:=[⟨.ret,[],⟨⟨[],dg⟩,[y19],[0],1⟩⟩]
noncomputable def Ts:=bK Try.prog [] Try.f66 (.s .n (.s .n (.b (.l NN NO (.b (.s .n (.s .n (.s .n (.s (.o NJ NK .n) (.s .n (.s (.o AG NL .n) (.s (.o AG NM .n) .n))))))))))))
noncomputable def l66_1 (T:List FEnt):=fp (xs:=NK) NJ (bd T (sb [1,1,2,2,2,1,1,1,0,2] Ts))
noncomputable def AH (F85 F86 F87:dY)(F88:oj)(F89:dY)(F90:ol)(F91:bJ)(F92:mb)(F93:om)(F66:cJ)(a0 a1 a2:Int)(a3 a4:Bool)(a5:Int)(a6:List Int):Option Y254:=
cond (!a3) (
(F87 (a0,a1,a6)).bind fun r3=>(
ai (ah .i64 (a2-1)) (
some (a0,a1,(a2-1),a3,a4,a5,r3)))) (
some (a0,a1,a2,a3,a4,a5,a6))
theorem Yi (F85 F86 F87:dY)(F88:oj)(F89:dY)(F90:ol)(F91:bJ)(F92:mb)(F93:om)(F66:cJ):l66_1 (yt F85 F86 F87 F88 F89 F90 F91 F92 F93 F66)=u7 (AH F85 F86 F87 F88 F89 F90 F91 F92 F93 F66):=funext fun _=>by kernel_rfl
noncomputable def GO (F66:cJ):=AH rU rV qL rW rX rZ P91 sc qN F66
noncomputable def vY (F66:cJ):Y268:=fun x=>GO F66 x.1 x.2.1 x.2.2.1 x.2.2.2.1 x.2.2.2.2.1 x.2.2.2.2.2.1 x.2.2.2.2.2.2
theorem Yj (F66:cJ):l66_1 (yt rU rV qL rW rX rZ P91 sc qN F66)=vY F66:=Yi rU rV qL rW rX rZ P91 sc qN F66
noncomputable def l66_2 (T:List FEnt):=fp (xs:=NL) AG (bd T (sb [1,1,2,2,2,1,1,1,1,1,0,2] Ts))
noncomputable def GP (F85 F86 F87:dY)(F88:oj)(F89:dY)(F90:ol)(F91:bJ)(F92:mb)(F93:om)(F66:cJ)(a0 a1 a2:Int)(a3 a4:Bool)(a5 a6 a7:Int)(a8:List Int):Option Y255:=
cond (decide (a7=2)) (
(F89 (a0,a1,a8)).bind fun r6=>(
ai (ah .i64 (a1-1)) (
ai (ah .i64 (a6-a0)) (
ai (ah .i64 ((a1-1)-(a6-a0))) (
some (a0,a1,a2,a3,a4,a5,((a1-1)-(a6-a0)),1,r6)))))) (
some (a0,a1,a2,a3,a4,a5,a6,a7,a8))
theorem Yk (F85 F86 F87:dY)(F88:oj)(F89:dY)(F90:ol)(F91:bJ)(F92:mb)(F93:om)(F66:cJ):l66_2 (yt F85 F86 F87 F88 F89 F90 F91 F92 F93 F66)=u9 (GP F85 F86 F87 F88 F89 F90 F91 F92 F93 F66):=funext fun _=>by kernel_rfl
noncomputable def NP (F66:cJ):=GP rU rV qL rW rX rZ P91 sc qN F66
noncomputable def AI (F66:cJ):Y269:=fun x=>NP F66 x.1 x.2.1 x.2.2.1 x.2.2.2.1 x.2.2.2.2.1 x.2.2.2.2.2.1 x.2.2.2.2.2.2.1 x.2.2.2.2.2.2.2.1 x.2.2.2.2.2.2.2.2
theorem Yl (F66:cJ):l66_2 (yt rU rV qL rW rX rZ P91 sc qN F66)=AI F66:=Yk rU rV qL rW rX rZ P91 sc qN F66
noncomputable def l66_3 (T:List FEnt):=fp (xs:=NM) AG (bd T (sb [1,1,2,2,2,1,1,1,1,1,1,0,2] Ts))
noncomputable def GQ (F85 F86 F87:dY)(F88:oj)(F89:dY)(F90:ol)(F91:bJ)(F92:mb)(F93:om)(F66:cJ)(a0 a1 a2:Int)(a3 a4:Bool)(a5 a6 a7:Int)(a8:List Int):Option Y282:=
cond a3 (
cond a4 (
cond (decide (a7=1)) (
(F90 (a0,a1,a8)).bind fun r8=>(
cond r8.1 (
some (Sum.inl r8.2)) (
some (Sum.inr (a0,a1,a2,a3,a4,a5,a6,r8.2))))) (
some (Sum.inr (a0,a1,a2,a3,a4,a5,a6,a8)))) (
some (Sum.inr (a0,a1,a2,a3,a4,a5,a6,a8)))) (
some (Sum.inr (a0,a1,a2,a3,a4,a5,a6,a8)))
theorem Ym (F85 F86 F87:dY)(F88:oj)(F89:dY)(F90:ol)(F91:bJ)(F92:mb)(F93:om)(F66:cJ):l66_3 (yt F85 F86 F87 F88 F89 F90 F91 F92 F93 F66)=u9 (GQ F85 F86 F87 F88 F89 F90 F91 F92 F93 F66):=funext fun _=>by kernel_rfl
noncomputable def NQ (F66:cJ):=GQ rU rV qL rW rX rZ P91 sc qN F66
noncomputable def AJ (F66:cJ):Y298:=fun x=>NQ F66 x.1 x.2.1 x.2.2.1 x.2.2.2.1 x.2.2.2.2.1 x.2.2.2.2.2.1 x.2.2.2.2.2.2.1 x.2.2.2.2.2.2.2.1 x.2.2.2.2.2.2.2.2
theorem Yn (F66:cJ):l66_3 (yt rU rV qL rW rX rZ P91 sc qN F66)=AJ F66:=Ym rU rV qL rW rX rZ P91 sc qN F66
noncomputable def NR (T:List FEnt):=aD (xs:=NO) NN (bd T (sb [1,1,2,2] Ts))
noncomputable def l66_0 (T:List FEnt):=af (NR T)
noncomputable def vZ (F85 F86 F87:dY)(F88:oj)(F89:dY)(F90:ol)(F91:bJ)(F92:mb)(F93:om)(F66:cJ)(l66_1:Y268)(l66_2:Y269)(l66_3:Y298)(a0 a1 a2:Int)(a3 a4:Bool)(a5:List Int):Option ((Int×Int×Int×Bool×Bool×Y2)⊕Y2):=
ai (ah .i64 (a1-a0)) (
cond (decide ((a1-a0)≤12)) (
(F85 (a0,a1,a5)).bind fun r1=>(
some (Sum.inr r1))) (
cond (decide (a2=0)) (
(F86 (a0,a1,a5)).bind fun r2=>(
some (Sum.inr r2))) (
(l66_1 (a0,a1,a2,a3,a4,(a1-a0),a5)).bind fun y4=>(
(F88 (y4.1,y4.2.1,y4.2.2.2.2.2.2)).bind fun r5=>(
(l66_2 (y4.1,y4.2.1,y4.2.2.1,y4.2.2.2.1,y4.2.2.2.2.1,y4.2.2.2.2.2.1,r5.1,r5.2.1,r5.2.2)).bind fun y7=>(
(l66_3 (y7.1,y7.2.1,y7.2.2.1,y7.2.2.2.1,y7.2.2.2.2.1,y7.2.2.2.2.2.1,y7.2.2.2.2.2.2.1,y7.2.2.2.2.2.2.2.1,y7.2.2.2.2.2.2.2.2)).bind (fun y9=>Sum.elim (fun y10=>(
some (Sum.inr y10))) (fun y11=>(
cond (decide (0 < y11.1)) (
ai (ah .i64 (y11.1-1)) (
ai (aA (y11.1-1) y11.2.2.2.2.2.2.2.length) (
ai (aA y11.2.2.2.2.2.2.1 y11.2.2.2.2.2.2.2.length) (
(F91 ((ix y11.2.2.2.2.2.2.2 (y11.1-1)),(ix y11.2.2.2.2.2.2.2 y11.2.2.2.2.2.2.1))).bind fun r12=>(
cond (!r12) (
(F92 (y11.1,y11.2.1,y11.2.2.2.2.2.2.1,y11.2.2.2.2.2.2.2)).bind fun r13=>(
some (Sum.inl (r13.1,y11.2.1,y11.2.2.1,y11.2.2.2.1,y11.2.2.2.2.1,r13.2)))) (
(F93 (y11.1,y11.2.1,y11.2.2.2.2.2.2.1,y11.2.2.2.2.2.2.2)).bind fun r14=>(
ai (ah .i64 (r14.1-y11.1)) (
ai (ah .i64 (y11.2.1-r14.1)) (
ai (ah .i64 (Int.tdiv y11.2.2.2.2.2.1 8)) (
cond (decide ((r14.1-y11.1) < (y11.2.1-r14.1))) (
(F66 (y11.1,r14.1,y11.2.2.1,r14.2.2)).bind fun r15=>(
ai (ah .i64 (r14.1+1)) (
some (Sum.inl ((r14.1+1),y11.2.1,y11.2.2.1,decide ((Int.tdiv y11.2.2.2.2.2.1 8)≤(r14.1-y11.1)),r14.2.1,r15))))) (
ai (ah .i64 (r14.1+1)) (
(F66 ((r14.1+1),y11.2.1,y11.2.2.1,r14.2.2)).bind fun r16=>(
some (Sum.inl (y11.1,r14.1,y11.2.2.1,decide ((Int.tdiv y11.2.2.2.2.2.1 8)≤(y11.2.1-r14.1)),r14.2.1,r16))))))))))))))) (
(F93 (y11.1,y11.2.1,y11.2.2.2.2.2.2.1,y11.2.2.2.2.2.2.2)).bind fun r17=>(
ai (ah .i64 (r17.1-y11.1)) (
ai (ah .i64 (y11.2.1-r17.1)) (
ai (ah .i64 (Int.tdiv y11.2.2.2.2.2.1 8)) (
cond (decide ((r17.1-y11.1) < (y11.2.1-r17.1))) (
(F66 (y11.1,r17.1,y11.2.2.1,r17.2.2)).bind fun r18=>(
ai (ah .i64 (r17.1+1)) (
some (Sum.inl ((r17.1+1),y11.2.1,y11.2.2.1,decide ((Int.tdiv y11.2.2.2.2.2.1 8)≤(r17.1-y11.1)),r17.2.1,r18))))) (
ai (ah .i64 (r17.1+1)) (
(F66 ((r17.1+1),y11.2.1,y11.2.2.1,r17.2.2)).bind fun r19=>(
some (Sum.inl (y11.1,r17.1,y11.2.2.1,decide ((Int.tdiv y11.2.2.2.2.2.1 8)≤(y11.2.1-r17.1)),r17.2.1,r19)))))))))))) y9)))))))
theorem Yo (F85 F86 F87:dY)(F88:oj)(F89:dY)(F90:ol)(F91:bJ)(F92:mb)(F93:om)(F66:cJ):NR (yt F85 F86 F87 F88 F89 F90 F91 F92 F93 F66)=u6 (vZ F85 F86 F87 F88 F89 F90 F91 F92 F93 F66 (l66_1 (yt F85 F86 F87 F88 F89 F90 F91 F92 F93 F66)) (l66_2 (yt F85 F86 F87 F88 F89 F90 F91 F92 F93 F66)) (l66_3 (yt F85 F86 F87 F88 F89 F90 F91 F92 F93 F66))):=funext fun _=>by kernel_rfl
noncomputable def qc (F66:cJ):=vZ rU rV qL rW rX rZ P91 sc qN F66 (vY F66) (AI F66) (AJ F66)
noncomputable def AK (F66:cJ):Y253:=af (u6 (qc F66))
theorem Yp (F66:cJ):l66_0 (yt rU rV qL rW rX rZ P91 sc qN F66)=AK F66:=congrArg af ((Yo rU rV qL rW rX rZ P91 sc qN F66).trans (by rw[Yj F66,Yl F66,Yn F66] <;> rfl))
theorem Yq:L.Fn Try.prog 66 134 [] (erase Ts):=oA Try.func66
noncomputable def q66 (F85 F86 F87:dY)(F88:oj)(F89:dY)(F90:ol)(F91:bJ)(F92:mb)(F93:om)(F66:cJ)(l66_0:Y253)(a0 a1 a2:Int)(a3:List Int):Option Y2:=
(l66_0 (a0,a1,a2,true,true,a3)).bind fun y20=>(
some y20)
theorem g66 (F85 F86 F87:dY)(F88:oj)(F89:dY)(F90:ol)(F91:bJ)(F92:mb)(F93:om)(F66:cJ):aK (yt F85 F86 F87 F88 F89 F90 F91 F92 F93 F66) tT [] Ts=u4 (q66 F85 F86 F87 F88 F89 F90 F91 F92 F93 F66 (l66_0 (yt F85 F86 F87 F88 F89 F90 F91 F92 F93 F66))):=funext fun _=>by kernel_rfl
noncomputable def Vt (F66:cJ):=q66 rU rV qL rW rX rZ P91 sc qN F66 (AK F66)
noncomputable def uu:Nat→Int×Int×Int×Y2→Option Y2
  | 0=>fun _=>none
  | n+1=>fun x=>Vt (uu n) x.1 x.2.1 x.2.2.1 x.2.2.2
noncomputable def P66:cJ:=uu 18446744073709551616
theorem v66 (F66:cJ):aK (yt rU rV qL rW rX rZ P91 sc qN F66) tT [] Ts=fun x=>Vt F66 x.1 x.2.1 x.2.2.1 x.2.2.2:=(g66 rU rV qL rW rX rZ P91 sc qN F66).trans (by rw[Yp F66] <;> rfl)
theorem D66:∀ n,DC Try.prog 66 tT (uu n)
  | 0=>zK (eL (sh:=tT) aj Yq (by kernel_rfl)).1
  | n+1=>vt (v66 (uu n)) (eL (sh:=tT) (t66 (uu n) (D66 n)) Yq (by kernel_rfl))
theorem d66:DC Try.prog 66 tT P66:=D66 _
noncomputable def T44 (F67:oc)(F66:cJ):List FEnt:=[⟨67,Ci,F67⟩,⟨66,tT,F66⟩]
theorem t44:al Try.prog (T44 P67 P66):=dK (dK aj d66) d67
noncomputable def c44:=bK Try.prog [] Try.f44 .n
theorem ok44:L.Fn Try.prog 44 11 [] (erase c44):=oA Try.func44
def J9:FSh:=⟨⟨zS,dg⟩,[y19],1,⟨⟨pX,dg⟩,[y19],[0],1⟩,false⟩
noncomputable def q44 (F67:oc)(F66:cJ)(a0:List Int):Option Y2:=
ai (ah .u64 (↑a0.length:Int)) (
(F67 (↑a0.length:Int)).bind fun r1=>(
(F66 (0,(↑a0.length:Int),r1,a0)).bind fun r2=>(
some r2)))
theorem g44 (F67:oc)(F66:cJ)(a0:List Int):aK (T44 F67 F66) J9 [] c44 a0=q44 F67 F66 a0:=by kernel_rfl
noncomputable def p44:=q44 P67 P66
noncomputable def GR:mc:=fun x=>p44 x
theorem v44:aK (T44 P67 P66) J9 [] c44=GR:=funext fun x=>(g44 P67 P66 x)
theorem d44:DC Try.prog 44 J9 GR:=dD v44 t44 ok44
noncomputable def Ka:List FEnt:=[]
theorem t45:al Try.prog Ka:=aj
def NT:LSh:=⟨[0,3,4,5],⟨[(.slc 0),(.v y7),(.slo 0 1),(.v y7)],dg⟩,JT,1,[0]⟩
def NU:List XSh:=[⟨(.exit 2),[0,3],⟨⟨Rp,dg⟩,[y7,y19],[0],1⟩⟩]
def NV:LSh:=⟨[0,3],⟨Rp,dg⟩,[y7,y19],1,[]⟩
def NW:List XSh:=[⟨.ret,[2],⟨⟨zS,dg⟩,[y19],[],1⟩⟩,⟨(.exit 0),[0],⟨⟨zS,dg⟩,[y19],[],1⟩⟩]
noncomputable def Yr:=bK Try.prog [(7,{ch:=[0,0,1,0] }),(14,{ch:=[0,0,1,0] }),(15,{ch:=[0,0,2,0] })] Try.f45 (.s .n (.s .n (.s (.s .n (.b (.l NV NW (.s .n (.s (.b (.s .n (.s (.s .n (.s (.s .n (.b (.l NT NU .n))) .n)) .n))) .n))))) .n)))
noncomputable def NX (T:List FEnt):=aD (xs:=NU) NT (bd T (sb [1,1,0,1,2,2,1,0,2,1,0,1,0,1,2,2] Yr))
noncomputable def l45_1 (T:List FEnt):=af (NX T)
noncomputable def AL (a0 a1 a2 a3:Int)(a4:List Int):Option Y284:=
cond (decide (a3 < (↑a2.toNat:Int))) (
ai (aA a3 a2.toNat) (
ai (ah .i64 (a3-1)) (
ai (aA (a3-1) a2.toNat) (
cond (!decide ((xj a4 (a1.toNat+Int.toNat a3))=(xj a4 (a1.toNat+Int.toNat (a3-1))))) (
ai (aA a3 a2.toNat) (
ai (aA a0 a4.length) (
ai (ah .i64 (a0+1)) (
ai (ah .i64 (a3+1)) (
some (Sum.inl ((a0+1),(↑a1.toNat:Int),(↑a2.toNat:Int),(a3+1),(List.set a4 a0.toNat (xj a4 (a1.toNat+Int.toNat a3)))))))))) (
ai (ah .i64 (a3+1)) (
some (Sum.inl (a0,(↑a1.toNat:Int),(↑a2.toNat:Int),(a3+1),a4)))))))) (
some (Sum.inr (a0,a4)))
theorem Ys:NX Ka=u5 AL:=funext fun _=>by kernel_rfl
noncomputable def GS:=AL
noncomputable def GT:KR:=af (u5 GS)
theorem Yt:l45_1 Ka=GT:=congrArg af Ys
noncomputable def NY (T:List FEnt):=aD (xs:=NW) NV (bd T (sb [1,1,0,1,2,2] Yr))
noncomputable def l45_0 (T:List FEnt):=af (NY T)
noncomputable def AM (l45_1:KR)(a0:Int)(a1:List Int):Option (Ii⊕KM):=
cond (decide (a0 < (↑a1.length:Int))) (
ai (aA a0 a1.length) (
ai (ah .i64 (a0-1)) (
ai (aA (a0-1) a1.length) (
cond (decide ((ix a1 a0)=(ix a1 (a0-1)))) (
ai (decide (0≤a0)) (
ai (decide (a0≤(↑a1.length:Int))) (
ai (decide ((↑a1.length:Int)≤(↑a1.length:Int))) (
ai (decide (0 < List.length a1)) (
(l45_1 (a0,(↑a0.toNat:Int),(↑(Int.toNat ((↑a1.length:Int)-a0)):Int),1,a1)).bind fun y1=>(
ai (decide (0≤y1.1)) (
ai (decide (y1.1≤(↑y1.2.length:Int))) (
ai (decide ((↑y1.2.length:Int)≤(↑y1.2.length:Int))) (
ai (decide (0 < List.length y1.2)) (
ai (decide (0≤y1.1)) (
ai (decide (y1.1≤(↑(List.length (ct y1.2 y1.1.toNat (Int.toNat ((↑y1.2.length:Int)-y1.1)) 0)):Int))) (
ai (decide (0 < List.length (ct y1.2 y1.1.toNat (Int.toNat ((↑y1.2.length:Int)-y1.1)) 0))) (
some (Sum.inr (Sum.inl (List.take y1.1.toNat (ct y1.2 y1.1.toNat (Int.toNat ((↑y1.2.length:Int)-y1.1)) 0))))))))))))))))) (
ai (ah .i64 (a0+1)) (
some (Sum.inl ((a0+1),a1)))))))) (
some (Sum.inr (Sum.inr a1)))
theorem g45_0:NY Ka=u2 (AM (l45_1 Ka)):=funext fun _=>by kernel_rfl
noncomputable def AN:=AM GT
noncomputable def AO:Y271:=af (u2 AN)
theorem v45_0:l45_0 Ka=AO:=congrArg af (g45_0.trans (by rw[Yt] <;> rfl))
theorem ok45:L.Fn Try.prog 45 61 [(.t 2)] (erase Yr):=oA Try.func45
def Kb:FSh:=⟨⟨zS,dg⟩,[y19],1,⟨⟨zS,dg⟩,[y19],[],1⟩,false⟩
noncomputable def Yu (l45_0:Y271)(a0:List Int):Option Y2:=
cond (decide ((↑a0.length:Int) < 2)) (
some a0) (
(l45_0 (1,a0)).bind (fun y2=>Sum.elim (fun y3=>(
some y3)) (fun y4=>(
some y4)) y2))
theorem g45 (a0:List Int):aK Ka Kb [(.t 2)] Yr a0=Yu (l45_0 Ka) a0:=by kernel_rfl
noncomputable def p45:=Yu AO
noncomputable def CX:mc:=fun x=>p45 x
theorem v45:aK Ka Kb [(.t 2)] Yr=CX:=funext fun x=>(g45 x).trans (by rw[v45_0] <;> rfl)
theorem d45:DC Try.prog 45 Kb CX:=dD v45 t45 ok45
noncomputable def T16 (F42:ca)(F42v1:gE)(F44:mc)(F45:mc):List FEnt:=[⟨42,tR,F42⟩,⟨42,iP,F42v1⟩,⟨44,J9,F44⟩,⟨45,Kb,F45⟩]
theorem t16:al Try.prog (T16 ja P42v1 GR CX):=dK (dK (dK (dK aj d45) d44) rT) Vp
noncomputable def c16:=bK Try.prog [] Try.f16 .n
theorem ok16:L.Fn Try.prog 16 30 [(.t 6),(.t 7)] (erase c16):=oA Try.func16
def yu:FSh:=⟨⟨JV,[]⟩,JS,0,⟨⟨[(.tup Rp)],dg⟩,[y7,y19],[],1⟩,true⟩
noncomputable def q16 (F42:ca)(F42v1:gE)(F44 F45:mc)(a0:Y2×Int)(a1:List Y1)(a2:Int):Option Ii:=
Id (F42 (a0,a1,a2,0,1)) (fun r1=>(
cond (!decide (r1=0)) (
some (r1,([]:List Int))) (
none))) (
(F42v1 (a0,a1,a2,0,1)).bind fun r2=>(
cond (!decide (r2.1=0)) (
some (r2.1,([]:List Int))) (
(F44 r2.2.2.2.2.1).bind fun r3=>(
(F45 r3).bind fun r4=>(
some (0,r4))))))
theorem g16 (F42:ca)(F42v1:gE)(F44 F45:mc):aK (T16 F42 F42v1 F44 F45) yu [(.t 6),(.t 7)] c16=u3 (q16 F42 F42v1 F44 F45):=funext fun _=>by kernel_rfl
noncomputable def p16:=q16 ja P42v1 GR CX
noncomputable def P16:gF:=u3 p16
theorem v16:aK (T16 ja P42v1 GR CX) yu [(.t 6),(.t 7)] c16=P16:=g16 ja P42v1 GR CX
theorem d16:DC Try.prog 16 yu P16:=dD v16 t16 ok16
noncomputable def Vu:List FEnt:=[]
theorem t20:al Try.prog Vu:=aj
def NZ:LSh:=⟨[0,1,5],⟨[(.v y19),(.v y19),(.v y7)],[]⟩,[y19,y19,y7],0,[]⟩
def sd:List XSh:=[⟨.ret,[4],⟨⟨fE,[]⟩,[.bool],[],0⟩⟩,⟨(.exit 0),[],⟨⟨[],[]⟩,[],[],0⟩⟩]
noncomputable def c20:=bK Try.prog [] Try.f20 (.s .n (.s .n (.s (.s .n (.b (.l NZ sd .n))) .n)))
noncomputable def N0 (T:List FEnt):=aD (xs:=sd) NZ (bd T (sb [1,1,0,1,2,2] c20))
noncomputable def l20_0 (T:List FEnt):=af (N0 T)
noncomputable def se (a0 a1:List Int)(a2:Int):Option ((Y2×Y2×Int)⊕wm):=
cond (decide (a2 < (↑a0.length:Int))) (
ai (aA a2 a0.length) (
ai (aA a2 a1.length) (
cond (!decide ((ix a0 a2)=(ix a1 a2))) (
some (Sum.inr (Sum.inl false))) (
ai (ah .i64 (a2+1)) (
some (Sum.inl (a0,a1,(a2+1)))))))) (
some (Sum.inr (Sum.inr ())))
theorem Yv:N0 Vu=u3 se:=funext fun _=>by kernel_rfl
noncomputable def N1:=se
noncomputable def AP:Y259:=af (u3 N1)
theorem Yw:l20_0 Vu=AP:=congrArg af Yv
theorem ok20:L.Fn Try.prog 20 26 [(.t 4)] (erase c20):=oA Try.func20
def yv:FSh:=⟨⟨[(.v y19),(.v y19)],[]⟩,[y19,y19],0,⟨⟨fE,[]⟩,[.bool],[],0⟩,true⟩
noncomputable def q20 (l20_0:Y259)(a0 a1:List Int):Option Bool:=
cond (!decide ((↑a0.length:Int)=(↑a1.length:Int))) (
some false) (
(l20_0 (a0,a1,0)).bind (fun y1=>Sum.elim (fun y2=>(
some y2)) (fun y3=>(
some true)) y1))
theorem g20:aK Vu yv [(.t 4)] c20=u2 (q20 (l20_0 Vu)):=funext fun _=>by kernel_rfl
noncomputable def p20:=q20 AP
noncomputable def P20:jF:=u2 p20
theorem v20:aK Vu yv [(.t 4)] c20=P20:=g20.trans (by rw[Yw] <;> rfl)
theorem d20:DC Try.prog 20 yv P20:=dD v20 t20 ok20
noncomputable def T14 (F41:Y98)(F15:dp)(F21:iR)(F16:gF)(F20:jF):List FEnt:=[⟨41,Jt,F41⟩,⟨15,qJ,F15⟩,⟨21,yp,F21⟩,⟨16,yu,F16⟩,⟨20,yv,F20⟩]
theorem t14:al Try.prog (T14 P41 P15 P21 P16 P20):=dK (dK (dK (dK (dK aj d20) d16) d21) Xr) d41
noncomputable def c14:=bK Try.prog [] Try.f14 (.s .n (.s .n (.s .n (.s .n (.s .n (.s (.r [.a 25 false y7]) .n))))))
theorem ok14:L.Fn Try.prog 14 61 [(.t 0)] (erase c14):=oA Try.func14
def qd:FSh:=⟨⟨[],[]⟩,[],0,⟨⟨fE,[]⟩,[.bool],[],0⟩,true⟩
noncomputable def q14 (F41:Y98)(F15:dp)(F21:iR)(F16:gF)(F20:jF):Option Bool:=
(F41 ()).bind fun r1=>(
(F15 ((r1.2.1,r1.1),r1.2.2,12,2)).bind fun r2=>(
(F21 ((r1.2.1,r1.1),r1.2.2,1,1)).bind fun r3=>(
(F16 ((r1.2.1,r1.1),r1.2.2,12)).bind fun r4=>(
cond (decide (r2.2=0)) (
cond (decide (r3.2.2=0)) (
cond (decide (r4.1=0)) (
cond (((decide (r2.1.1=4)&&decide (r2.1.2.1=(-1)))&&decide (r2.1.2.2.1=(-1)))&&decide (r2.1.2.2.2=2)) (
cond (decide (r3.1=0)) (
cond (decide (r3.2.1=4)) (
(F20 (r4.2,([2]:List Int))).bind fun r5=>(
some r5)) (
some false)) (
some false)) (
some false)) (
some false)) (
some false)) (
some false)))))
theorem g14 (F41:Y98)(F15:dp)(F21:iR)(F16:gF)(F20:jF):aK (T14 F41 F15 F21 F16 F20) qd [(.t 0)] c14 ()=q14 F41 F15 F21 F16 F20:=by kernel_rfl
noncomputable def p14:Option Bool:=q14 P41 P15 P21 P16 P20
noncomputable def fJ:cX:=fun x=>p14
theorem v14:aK (T14 P41 P15 P21 P16 P20) qd [(.t 0)] c14=fJ:=funext fun x=>(g14 P41 P15 P21 P16 P20)
theorem Vv:DC Try.prog 14 qd fJ:=dD v14 t14 ok14
noncomputable def T25:List FEnt:=[]
theorem t25:al Try.prog T25:=aj
noncomputable def c25:=bK Try.prog [(2,{ch:=[1,1,0,0,0,0],rs:=[2] })] Try.f25 (.s .n (.s (.r [.a 0 false y7,.a 3 false y7]) (.s (.r [.a 3 true cW]) .n)))
theorem ok25:L.Fn Try.prog 25 15 [(.cell 4 true 2),(.t 5)] (erase c25):=oA Try.func25
def GU:FSh:=⟨⟨j39,[]⟩,[aY,bc],0,⟨⟨j24,[(0,(.row 3 y7)),(1,(.row 40 cW))]⟩,[y7,y19,bc],[],2⟩,true⟩
noncomputable def q25 (a0:Y2×Int)(a1:List Y1):Option Y86:=
ai (bC 8 (List.length ([]:List Int)+List.length a0.1)) (
ai (bC 40 a1.length) (
some (a0.2,(([]:List Int)++a0.1),a1)))
theorem g25:aK T25 GU [(.cell 4 true 2),(.t 5)] c25=u2 q25:=funext fun _=>by kernel_rfl
noncomputable def p25:=q25
noncomputable def CY:yD:=u2 p25
theorem v25:aK T25 GU [(.cell 4 true 2),(.t 5)] c25=CY:=g25
theorem d25:DC Try.prog 25 GU CY:=dD v25 t25 ok25
noncomputable def T57:List FEnt:=[]
theorem t57:al Try.prog T57:=aj
noncomputable def c57:=bK Try.prog [] Try.f57 .n
theorem ok57:L.Fn Try.prog 57 15 [(.t 6)] (erase c57):=oA Try.func57
def Cs:FSh:=⟨⟨j37,[]⟩,[y7,y7,y7],0,⟨⟨fE,[]⟩,[.bool],[],0⟩,true⟩
noncomputable def q57 (a0 a1 a2:Int):Option Bool:=
cond (decide (a1≤a0)) (
some (decide (a0≤a2))) (
some false)
theorem g57:aK T57 Cs [(.t 6)] c57=u3 q57:=funext fun _=>by kernel_rfl
noncomputable def p57:=q57
noncomputable def P57:Y5:=u3 p57
theorem v57:aK T57 Cs [(.t 6)] c57=P57:=g57
theorem d57:DC Try.prog 57 Cs P57:=dD v57 t57 ok57
noncomputable def Vw (F57:Y5):List FEnt:=[⟨57,Cs,F57⟩]
theorem t37:al Try.prog (Vw P57):=dK aj d57
def N2:LSh:=⟨[1,3],⟨Rm,[(0,(.boxT aY))]⟩,[y7,aY],1,[0]⟩
def N3:List XSh:=[⟨.ret,[2],⟨⟨fE,[(0,(.boxT aY))]⟩,[.bool,aY],[0],1⟩⟩,⟨(.exit 0),[1],⟨⟨If,[(0,(.boxT aY))]⟩,[aY],[0],1⟩⟩]
noncomputable def c37:=bK Try.prog [] Try.f37 (.s .n (.s (.s .n (.b (.l N2 N3 .n))) .n))
noncomputable def N4 (T:List FEnt):=aD (xs:=N3) N2 (bd T (sb [1,0,1,2,2] c37))
noncomputable def l37_0 (T:List FEnt):=af (N4 T)
noncomputable def sf (F57:Y5)(a0:Int)(a1:Y2×Int):Option (G5⊕Y287):=
cond (decide (a0 < (↑a1.1.length:Int))) (
ai (aA a0 a1.1.length) (
(F57 ((ix a1.1 a0),1,12)).bind fun r1=>(
cond (!r1) (
some (Sum.inr (Sum.inl (false,a1)))) (
ai (ah .i64 (a0+1)) (
some (Sum.inl ((a0+1),a1))))))) (
some (Sum.inr (Sum.inr a1)))
theorem Yx (F57:Y5):N4 (Vw F57)=u2 (sf F57):=funext fun _=>by kernel_rfl
noncomputable def N5:=sf P57
noncomputable def AQ:Y304:=af (u2 N5)
theorem v37_0:l37_0 (Vw P57)=AQ:=congrArg af (Yx P57)
theorem ok37:L.Fn Try.prog 37 27 [(.t 2)] (erase c37):=oA Try.func37
def Kc:FSh:=⟨⟨[(.st aY)],[]⟩,[aY],0,⟨⟨fE,[]⟩,[.bool],[],0⟩,true⟩
noncomputable def q37 (F57:Y5)(l37_0:Y304)(a0:Y2×Int):Option Bool:=
(l37_0 (0,a0)).bind (fun y2=>Sum.elim (fun y3=>(
some y3.1)) (fun y4=>(
(F57 ((↑y4.1.length:Int),1,6)).bind fun r5=>(
cond r5 (
(F57 (y4.2,1,600)).bind fun r6=>(
some r6)) (
some false)))) y2)
theorem g37 (F57:Y5)(a0:Y2×Int):aK (Vw F57) Kc [(.t 2)] c37 a0=q37 F57 (l37_0 (Vw F57)) a0:=by kernel_rfl
noncomputable def p37:=q37 P57 AQ
noncomputable def P37:l9:=fun x=>p37 x
theorem v37:aK (Vw P57) Kc [(.t 2)] c37=P37:=funext fun x=>(g37 P57 x).trans (by rw[v37_0] <;> rfl)
theorem d37:DC Try.prog 37 Kc P37:=dD v37 t37 ok37
noncomputable def T50 (F57:Y5):List FEnt:=[⟨57,Cs,F57⟩]
theorem t50:al Try.prog (T50 P57):=dK aj d57
noncomputable def c50:=bK Try.prog [] Try.f50 .n
theorem ok50:L.Fn Try.prog 50 38 [(.t 2)] (erase c50):=oA Try.func50
def Kd:FSh:=⟨⟨[(.st cW)],[]⟩,[cW],0,⟨⟨fE,[]⟩,[.bool],[],0⟩,true⟩
noncomputable def q50 (F57:Y5)(a0:Y1):Option Bool:=
(F57 (a0.1,0,99)).bind fun r1=>(
cond (!r1) (
some false) (
(F57 (a0.2.1,0,9999)).bind fun r2=>(
cond (!r2) (
some false) (
(F57 (a0.2.2.2.1,0,99)).bind fun r3=>(
cond (!r3) (
some false) (
cond (decide (a0.2.2.1=1)) (
(F57 (a0.2.2.2.2,1,12)).bind fun r4=>(
some r4)) (
cond (decide (a0.2.2.1=2)) (
some (decide (a0.2.2.2.2=0))) (
cond (decide (a0.2.2.1=3)) (
some (decide (a0.2.2.2.2=0))) (
some false)))))))))
theorem g50 (F57:Y5)(a0:Y1):aK (T50 F57) Kd [(.t 2)] c50 a0=q50 F57 a0:=by kernel_rfl
noncomputable def p50:=q50 P57
noncomputable def P50:Bh:=fun x=>p50 x
theorem v50:aK (T50 P57) Kd [(.t 2)] c50=P50:=funext fun x=>(g50 P57 x)
theorem d50:DC Try.prog 50 Kd P50:=dD v50 t50 ok50
noncomputable def Ke (F37:l9)(F50:Bh):List FEnt:=[⟨37,Kc,F37⟩,⟨50,Kd,F50⟩]
theorem t27:al Try.prog (Ke P37 P50):=dK (dK aj d50) d37
def N6:LSh:=⟨[1,5,6],⟨[(.v bc),(.v y7),(.v y7)],[]⟩,[bc,y7,y7],0,[]⟩
def N7:List XSh:=[⟨.ret,[4],⟨⟨lZ,[]⟩,[y7],[],0⟩⟩,⟨(.exit 2),[1,5],⟨⟨[(.v bc),(.v y7)],[]⟩,[bc,y7],[],0⟩⟩]
def N8:LSh:=⟨[1,5],⟨[(.v bc),(.v y7)],[]⟩,[bc,y7],0,[]⟩
noncomputable def Yy:=bK Try.prog [] Try.f27 (.s .n (.s .n (.s .n (.s (.s .n (.b (.l N8 zT (.s .n (.s (.b (.s .n (.s .n (.b (.l N6 N7 .n))))) .n))))) .n))))
noncomputable def N9 (T:List FEnt):=aD (xs:=N7) N6 (bd T (sb [1,1,1,0,1,2,2,1,0,2,1,1,2,2] Yy))
noncomputable def l27_1 (T:List FEnt):=af (N9 T)
noncomputable def sg (F37:l9)(F50:Bh)(a0:List Y1)(a1 a2:Int):Option ((Y8×Int×Int)⊕Y316):=
cond (decide (a2 < a1)) (
ai (aA a2 a0.length) (
ai (aA a1 a0.length) (
cond (decide ((ix a0 a2).1=(ix a0 a1).1)) (
ai (aA a2 a0.length) (
ai (aA a1 a0.length) (
cond (!((((decide ((ix a0 a2).1=(ix a0 a1).1)&&decide ((ix a0 a2).2.1=(ix a0 a1).2.1))&&decide ((ix a0 a2).2.2.1=(ix a0 a1).2.2.1))&&decide ((ix a0 a2).2.2.2.1=(ix a0 a1).2.2.2.1))&&decide ((ix a0 a2).2.2.2.2=(ix a0 a1).2.2.2.2))) (
some (Sum.inr (Sum.inl 41))) (
ai (ah .i64 (a2+1)) (
some (Sum.inl (a0,a1,(a2+1)))))))) (
ai (ah .i64 (a2+1)) (
some (Sum.inl (a0,a1,(a2+1)))))))) (
some (Sum.inr (Sum.inr (a0,a1))))
theorem Yz (F37:l9)(F50:Bh):N9 (Ke F37 F50)=u3 (sg F37 F50):=funext fun _=>by kernel_rfl
noncomputable def Oa:=sg P37 P50
noncomputable def L27_1:Y327:=af (u3 Oa)
theorem YA:l27_1 (Ke P37 P50)=L27_1:=congrArg af (Yz P37 P50)
noncomputable def Ob (T:List FEnt):=aD (xs:=zT) N8 (bd T (sb [1,1,1,0,1,2,2] Yy))
noncomputable def l27_0 (T:List FEnt):=af (Ob T)
noncomputable def q27_0 (F37:l9)(F50:Bh)(l27_1:Y327)(a0:List Y1)(a1:Int):Option (Y96⊕Y54):=
cond (decide (a1 < (↑a0.length:Int))) (
ai (aA a1 a0.length) (
(F50 (ix a0 a1)).bind fun r2=>(
cond (!r2) (
some (Sum.inr (Sum.inl 41))) (
(l27_1 (a0,a1,0)).bind (fun y3=>Sum.elim (fun y4=>(
some (Sum.inr (Sum.inl y4)))) (fun y5=>(
ai (ah .i64 (y5.2+1)) (
some (Sum.inl (y5.1,(y5.2+1)))))) y3))))) (
some (Sum.inr (Sum.inr ())))
theorem YC (F37:l9)(F50:Bh):Ob (Ke F37 F50)=u2 (q27_0 F37 F50 (l27_1 (Ke F37 F50))):=funext fun _=>by kernel_rfl
noncomputable def Oc:=q27_0 P37 P50 L27_1
noncomputable def v7:Y273:=af (u2 Oc)
theorem YD:l27_0 (Ke P37 P50)=v7:=congrArg af ((YC P37 P50).trans (by rw[YA] <;> rfl))
theorem ok27:L.Fn Try.prog 27 52 [(.t 4)] (erase Yy):=oA Try.func27
def Ct:FSh:=⟨⟨j39,[]⟩,[aY,bc],0,⟨⟨lZ,[]⟩,[y7],[],0⟩,true⟩
noncomputable def q27 (F37:l9)(F50:Bh)(l27_0:Y273)(a0:Y2×Int)(a1:List Y1):Option Int:=
(F37 a0).bind fun r1=>(
cond (!r1) (
some 40) (
cond (decide (40 < (↑a1.length:Int))) (
some 41) (
(l27_0 (a1,0)).bind (fun y6=>Sum.elim (fun y7=>(
some y7)) (fun y8=>(
some 0)) y6))))
theorem g27 (F37:l9)(F50:Bh):aK (Ke F37 F50) Ct [(.t 4)] Yy=u2 (q27 F37 F50 (l27_0 (Ke F37 F50))):=funext fun _=>by kernel_rfl
noncomputable def p27:=q27 P37 P50 v7
noncomputable def wO:ux:=u2 p27
theorem v27:aK (Ke P37 P50) Ct [(.t 4)] Yy=wO:=(g27 P37 P50).trans (by rw[YD] <;> rfl)
theorem d27:DC Try.prog 27 Ct wO:=dD v27 t27 ok27
noncomputable def T51 (F27:ux)(F57:Y5):List FEnt:=[⟨27,Ct,F27⟩,⟨57,Cs,F57⟩]
theorem t51:al Try.prog (T51 wO P57):=dK (dK aj d57) d27
noncomputable def c51:=bK Try.prog [] Try.f51 .n
theorem ok51:L.Fn Try.prog 51 31 [(.t 10)] (erase c51):=oA Try.func51
def tU:FSh:=⟨⟨j20,[]⟩,z16,0,⟨⟨lZ,[]⟩,[y7],[],0⟩,true⟩
noncomputable def q51 (F27:ux)(F57:Y5)(a0:Y2×Int)(a1:List Y1)(a2 a3 a4:Int):Option Int:=
(F27 (a0,a1)).bind fun r1=>(
cond (!decide (r1=0)) (
some r1) (
(F57 (a2,0,9999)).bind fun r2=>(
cond (!r2) (
some 1) (
(F57 (a3,0,99)).bind fun r3=>(
cond (!r3) (
some 1) (
(F57 (a4,1,12)).bind fun r4=>(
cond (!r4) (
some 1) (
some 0))))))))
theorem g51 (F27:ux)(F57:Y5):aK (T51 F27 F57) tU [(.t 10)] c51=u5 (q51 F27 F57):=funext fun _=>by kernel_rfl
noncomputable def p51:=q51 wO P57
noncomputable def P51:ca:=u5 p51
theorem v51:aK (T51 wO P57) tU [(.t 10)] c51=P51:=g51 wO P57
theorem Vx:DC Try.prog 51 tU P51:=dD v51 t51 ok51
noncomputable def CZ:List FEnt:=[]
theorem t70:al Try.prog CZ:=aj
def Od:LSh:=⟨[1,2,3,4,5,6],⟨[(.ptr 0 0),(.ptr 1 0),(.ptr 2 0),(.v y7),(.slc 3),(.v y7)],k7⟩,[y7,y7,aY,y19,cD],5,[0,1,2,3,4]⟩
def Oe:List XSh:=[⟨(.exit 2),[1,2,3,4,5],⟨⟨[(.ptr 0 0),(.ptr 1 0),(.ptr 2 0),(.v y7),(.slc 3)],k7⟩,[y7,aY,y19,cD],[0,1,2,3,4],5⟩⟩]
def Of:LSh:=⟨[1,2,3,4],⟨[(.ptr 0 0),(.ptr 1 0),(.ptr 2 0),(.v y7)],k12⟩,[y7,aY,cD],4,[0,1,2]⟩
def Og:List XSh:=[⟨(.exit 0),[2,3],⟨⟨[(.ptr 1 0),(.ptr 2 0)],k12⟩,[aY,cD],[0,1,2],4⟩⟩]
def Oh:LSh:=⟨[2,3,7],⟨[(.ptr 0 0),(.ptr 1 0),(.v y7)],k6⟩,[y7,cD,iS,y19],5,[0,1,2]⟩
def Oi:List XSh:=[⟨(.exit 4),[2,3],⟨⟨[(.ptr 0 0),(.ptr 1 0)],k6⟩,[cD,iS,y19],[0,1,2],5⟩⟩]
noncomputable def Vy:=bK Try.prog [] Try.f70 (.s .n (.s .n (.s (.s .n (.b (.l Of Og (.s .n (.s (.b (.s (.r [.a 5 false y7]) (.s (.s .n (.b (.l Od Oe .n))) (.r [.a 3 true y19,.a 4 true y19])))) .n))))) (.s (.s .n (.b (.l Oh Oi (.s .n (.s (.b (.s (.r [.a 3 true fj,.a 4 true fj]) (.r [.a 2 false y7,.a 3 false y7]))) .n))))) .n))))
noncomputable def Oj (T:List FEnt):=aD (xs:=Oe) Od (bd T (sb [1,1,0,1,2,2,1,0,2,1,0,1,2,2] Vy))
noncomputable def l70_1 (T:List FEnt):=af (Oj T)
noncomputable def si (a0 a1:Int)(a2:Y2×Int)(a3:List Int)(a4:List Y2):Option ((Int×Int×dE×Y2×Y9)⊕Y274):=
cond (decide (a1 < (↑a3.length:Int))) (
ai (aA a1 a3.length) (
ai (ah .i64 (a1+1)) (
some (Sum.inl (a0,(a1+1),a2,(List.set a3 a1.toNat (-1)),a4))))) (
some (Sum.inr (a0,a2,a3,a4)))
theorem YE:Oj CZ=u5 si:=funext fun _=>by kernel_rfl
noncomputable def Ok:=si
noncomputable def sj:Y305:=af (u5 Ok)
theorem YF:l70_1 CZ=sj:=congrArg af YE
noncomputable def Ol (T:List FEnt):=aD (xs:=Og) Of (bd T (sb [1,1,0,1,2,2] Vy))
noncomputable def l70_0 (T:List FEnt):=af (Ol T)
noncomputable def so (l70_1:Y305)(a0:Int)(a1:Y2×Int)(a2:List Y2):Option ((Int×dE×Y9)⊕Y291):=
cond (decide (a0 < (↑a1.1.length:Int))) (
ai (aA a0 a1.1.length) (
ai (decide (0≤(ix a1.1 a0))) (
ai (decide (8*(ix a1.1 a0)≤140737488355328)) (
(l70_1 (a0,0,a1,(gN (Int.toNat (ix a1.1 a0)) 0:List Int),a2)).bind fun y1=>(
ai (bC 24 (List.length y1.2.2.2+List.length ([y1.2.2.1]:List Y2))) (
ai (ah .i64 (y1.1+1)) (
some (Sum.inl ((y1.1+1),y1.2.1,(y1.2.2.2++([y1.2.2.1]:List Y2))))))))))) (
some (Sum.inr (a1,a2)))
theorem g70_0:Ol CZ=u3 (so (l70_1 CZ)):=funext fun _=>by kernel_rfl
noncomputable def Om:=so sj
noncomputable def AR:Y306:=af (u3 Om)
theorem v70_0:l70_0 CZ=AR:=congrArg af (g70_0.trans (by rw[YF] <;> rfl))
noncomputable def On (T:List FEnt):=aD (xs:=Oi) Oh (bd T (sb [1,1,1,0,1,2,2] Vy))
noncomputable def l70_2 (T:List FEnt):=af (On T)
noncomputable def AS (a0:Int)(a1:List Y2)(a2:List Y4)(a3:List Int):Option ((Int×Y9×eZ×Y2)⊕KS):=
cond (decide (a0≤99)) (
ai (bC 32 (List.length a2+List.length ([(0,((-1),((-1),0)))]:List Y4))) (
ai (bC 8 (List.length a3+List.length ([0]:List Int))) (
ai (ah .i64 (a0+1)) (
some (Sum.inl ((a0+1),a1,(a2++([(0,((-1),((-1),0)))]:List Y4)),(a3++([0]:List Int)))))))) (
some (Sum.inr (a1,a2,a3)))
theorem YG:On CZ=u4 AS:=funext fun _=>by kernel_rfl
noncomputable def Oo:=AS
noncomputable def AT:Y307:=af (u4 Oo)
theorem v70_2:l70_2 CZ=AT:=congrArg af YG
theorem ok70:L.Fn Try.prog 70 52 [(.cell 2 true 4)] (erase Vy):=oA Try.func70
def Kf:FSh:=⟨⟨[(.st aY)],[]⟩,[aY],0,⟨⟨[(.agg [(.slr 0),(.slc 1),(.slc 2),.emp])],[(0,(.rows 22 3 y7)),(1,(.row 32 fj)),(2,(.row 3 y7))]⟩,[cD,iS,y19],[],3⟩,false⟩
noncomputable def q70 (l70_0:Y306)(l70_2:Y307)(a0:Y2×Int):Option KS:=
(l70_0 (0,a0,([]:List Y2))).bind fun y2=>(
(l70_2 (0,y2.2,([]:List Y4),([]:List Int))).bind fun y3=>(
some (y3.1,y3.2.1,y3.2.2)))
theorem g70 (a0:Y2×Int):aK CZ Kf [(.cell 2 true 4)] Vy a0=q70 (l70_0 CZ) (l70_2 CZ) a0:=by kernel_rfl
noncomputable def p70:=q70 AR AT
noncomputable def tV:wn:=fun x=>p70 x
theorem v70:aK CZ Kf [(.cell 2 true 4)] Vy=tV:=funext fun x=>(g70 x).trans (by rw[v70_0,v70_2] <;> rfl)
theorem d70:DC Try.prog 70 Kf tV:=dD v70 t70 ok70
noncomputable def Kg:List FEnt:=[]
theorem t71:al Try.prog Kg:=aj
def Oq:LSh:=⟨[0,3,4,5,6,7],⟨[(.v bc),(.v bc),(.v y7),(.v y7),(.v .bool),(.v y7)],[]⟩,[bc,bc,y7,y7,.bool,y7],0,[]⟩
def Ot:List XSh:=[⟨(.exit 2),[0,3,4,5,6],⟨⟨[(.v bc),(.v bc),(.v y7),(.v y7),(.v .bool)],[]⟩,[bc,bc,y7,y7,.bool],[],0⟩⟩]
def Ou:LSh:=⟨[0,3,4],⟨[(.v bc),(.v bc),(.v y7)],[]⟩,[bc,bc,y7],0,[]⟩
def Ov:List XSh:=[⟨(.exit 0),[3],⟨⟨[(.v bc)],[]⟩,[bc],[],0⟩⟩]
noncomputable def YH:=bK Try.prog [(13,{ch:=[0,0,0,0,0,0,0,0,0,0],rs:=[],ord:=[0,1,2,3,5,6,7,4,8,9] })] Try.f71 (.s .n (.s .n (.s (.s .n (.b (.l Ou Ov (.s .n (.s (.b (.s .n (.s (.s .n (.b (.l Oq Ot .n))) (.s (.r [.f 2 3 []]) (.s (.s (.r [.a 6 false cW,.a 7 true cW,.a 8 true cW]) (.r [.a 0 true cW,.a 3 false cW,.a 4 true cW,.a 6 true cW])) .n))))) (.r [.f 3 3 []])))))) .n)))
noncomputable def Ow (T:List FEnt):=aD (xs:=Ot) Oq (bd T (sb [1,1,0,1,2,2,1,0,2,1,0,1,2,2] YH))
noncomputable def l71_1 (T:List FEnt):=af (Ow T)
noncomputable def sr (a0 a1:List Y1)(a2 a3:Int)(a4:Bool)(a5:Int):Option ((Y8×Y8×Int×Int×Bool×Int)⊕Y277):=
cond (decide (a5 < (↑a1.length:Int))) (
cond a4 (
ai (aA a5 a1.length) (
ai (aA a2 a0.length) (
cond (decide ((ix a1 a5).2.1 < (ix a0 a2).2.1)) (
ai (ah .i64 (a5+1)) (
ai (ah .i64 (a5+1)) (
some (Sum.inl (a0,a1,a2,(a5+1),true,(a5+1)))))) (
ai (aA a5 a1.length) (
ai (aA a2 a0.length) (
cond (decide ((ix a1 a5).2.1=(ix a0 a2).2.1)) (
ai (aA a5 a1.length) (
ai (aA a2 a0.length) (
cond (decide ((ix a1 a5).1 < (ix a0 a2).1)) (
ai (ah .i64 (a5+1)) (
ai (ah .i64 (a5+1)) (
some (Sum.inl (a0,a1,a2,(a5+1),true,(a5+1)))))) (
ai (ah .i64 (a5+1)) (
some (Sum.inl (a0,a1,a2,a3,true,(a5+1)))))))) (
ai (ah .i64 (a5+1)) (
some (Sum.inl (a0,a1,a2,a3,true,(a5+1))))))))))) (
ai (aA a5 a1.length) (
ai (aA a2 a0.length) (
ai (aA a5 a1.length) (
ai (aA a2 a0.length) (
cond (decide ((ix a1 a5).2.1 < (ix a0 a2).2.1)) (
ai (ah .i64 (a5+1)) (
ai (ah .i64 (a5+1)) (
some (Sum.inl (a0,a1,a2,(a5+1),((((decide ((ix a1 a5).1=(ix a0 a2).1)&&decide ((ix a1 a5).2.1=(ix a0 a2).2.1))&&decide ((ix a1 a5).2.2.1=(ix a0 a2).2.2.1))&&decide ((ix a1 a5).2.2.2.1=(ix a0 a2).2.2.2.1))&&decide ((ix a1 a5).2.2.2.2=(ix a0 a2).2.2.2.2)),(a5+1)))))) (
ai (aA a5 a1.length) (
ai (aA a2 a0.length) (
cond (decide ((ix a1 a5).2.1=(ix a0 a2).2.1)) (
ai (aA a5 a1.length) (
ai (aA a2 a0.length) (
cond (decide ((ix a1 a5).1 < (ix a0 a2).1)) (
ai (ah .i64 (a5+1)) (
ai (ah .i64 (a5+1)) (
some (Sum.inl (a0,a1,a2,(a5+1),((((decide ((ix a1 a5).1=(ix a0 a2).1)&&decide ((ix a1 a5).2.1=(ix a0 a2).2.1))&&decide ((ix a1 a5).2.2.1=(ix a0 a2).2.2.1))&&decide ((ix a1 a5).2.2.2.1=(ix a0 a2).2.2.2.1))&&decide ((ix a1 a5).2.2.2.2=(ix a0 a2).2.2.2.2)),(a5+1)))))) (
ai (ah .i64 (a5+1)) (
some (Sum.inl (a0,a1,a2,a3,((((decide ((ix a1 a5).1=(ix a0 a2).1)&&decide ((ix a1 a5).2.1=(ix a0 a2).2.1))&&decide ((ix a1 a5).2.2.1=(ix a0 a2).2.2.1))&&decide ((ix a1 a5).2.2.2.1=(ix a0 a2).2.2.2.1))&&decide ((ix a1 a5).2.2.2.2=(ix a0 a2).2.2.2.2)),(a5+1)))))))) (
ai (ah .i64 (a5+1)) (
some (Sum.inl (a0,a1,a2,a3,((((decide ((ix a1 a5).1=(ix a0 a2).1)&&decide ((ix a1 a5).2.1=(ix a0 a2).2.1))&&decide ((ix a1 a5).2.2.1=(ix a0 a2).2.2.1))&&decide ((ix a1 a5).2.2.2.1=(ix a0 a2).2.2.2.1))&&decide ((ix a1 a5).2.2.2.2=(ix a0 a2).2.2.2.2)),(a5+1)))))))))))))) (
some (Sum.inr (a0,a1,a2,a3,a4)))
theorem YI:Ow Kg=u6 sr:=funext fun _=>by kernel_rfl
noncomputable def Ox:=sr
noncomputable def L71_1:Y309:=af (u6 Ox)
theorem YJ:l71_1 Kg=L71_1:=congrArg af YI
noncomputable def Oy (T:List FEnt):=aD (xs:=Ov) Ou (bd T (sb [1,1,0,1,2,2] YH))
noncomputable def l71_0 (T:List FEnt):=af (Oy T)
noncomputable def q71_0 (l71_1:Y309)(a0 a1:List Y1)(a2:Int):Option (Y294⊕Y8):=
cond (decide (a2 < (↑a0.length:Int))) (
(l71_1 (a0,a1,a2,0,false,0)).bind fun y1=>(
cond (!y1.2.2.2.2) (
ai (aA y1.2.2.1 y1.1.length) (
ai (decide (0≤y1.2.2.2.1)) (
ai (decide (y1.2.2.2.1≤(↑y1.2.1.length:Int))) (
ai (decide ((↑y1.2.1.length:Int)≤(↑y1.2.1.length:Int))) (
ai (bC 40 (List.length ([(ix y1.1 y1.2.2.1)]:List Y1)+List.length (pC y1.2.1 y1.2.2.2.1 (↑y1.2.1.length:Int)))) (
ai (decide ((0:Int)≤0)) (
ai (decide (0≤y1.2.2.2.1)) (
ai (decide (y1.2.2.2.1≤(↑y1.2.1.length:Int))) (
ai (bC 40 (List.length ([]:List Y1)+List.length (pC y1.2.1 0 y1.2.2.2.1))) (
ai (bC 40 (List.length (([]:List Y1)++(pC y1.2.1 0 y1.2.2.2.1))+List.length (([(ix y1.1 y1.2.2.1)]:List Y1)++(pC y1.2.1 y1.2.2.2.1 (↑y1.2.1.length:Int))))) (
ai (ah .i64 (y1.2.2.1+1)) (
some (Sum.inl (y1.1,((([]:List Y1)++(pC y1.2.1 0 y1.2.2.2.1))++(([(ix y1.1 y1.2.2.1)]:List Y1)++(pC y1.2.1 y1.2.2.2.1 (↑y1.2.1.length:Int)))),(y1.2.2.1+1))))))))))))))) (
ai (ah .i64 (y1.2.2.1+1)) (
some (Sum.inl (y1.1,y1.2.1,(y1.2.2.1+1))))))) (
some (Sum.inr a1))
theorem g71_0:Oy Kg=u3 (q71_0 (l71_1 Kg)):=funext fun _=>by kernel_rfl
noncomputable def Oz:=q71_0 L71_1
noncomputable def AU:Y276:=af (u3 Oz)
theorem v71_0:l71_0 Kg=AU:=congrArg af (g71_0.trans (by rw[YJ] <;> rfl))
theorem ok71:L.Fn Try.prog 71 91 [(.t 2)] (erase YH):=oA Try.func71
def Kh:FSh:=⟨⟨[(.v bc)],[]⟩,[bc],0,⟨⟨[(.v bc)],[]⟩,[bc],[],0⟩,false⟩
noncomputable def q71 (l71_0:Y276)(a0:List Y1):Option Y8:=
(l71_0 (a0,([]:List Y1),0)).bind fun y2=>(
some y2)
theorem g71 (a0:List Y1):aK Kg Kh [(.t 2)] YH a0=q71 (l71_0 Kg) a0:=by kernel_rfl
noncomputable def p71:=q71 AU
noncomputable def qO:nl:=fun x=>p71 x
theorem v71:aK Kg Kh [(.t 2)] YH=qO:=funext fun x=>(g71 x).trans (by rw[v71_0] <;> rfl)
theorem d71:DC Try.prog 71 Kh qO:=dD v71 t71 ok71
end Go.Proofs.Ytdkaijofmigmbaa.D
