import Derived.Test.YtdkaijofmigmbaaG4w
import Derived.Test.YtdkaijofmigmbaaProg
set_option linter.unusedVariables false
set_option maxRecDepth 100000
namespace Go.Proofs.Ytdkaijofmigmbaa.D
open Go Go.Proofs Go.Proofs.Ytdkaijofmigmbaa.L
def J0:List Ty:=[aU,aZ,y7]
def z14:List Ty:=[aU,aZ,y7,y7,y7]
def VJ:List Ty:=[aU,aZ,y7,y7]
def J1:List Ty:=[y7,y7,y7,y7,y19]
def vK:List Ty:=[y7,y7,y7,y19]
def J2:List Ty:=[y7,y7,y19]
def J3:List RSh:=[(.st aU),(.v aZ),(.v y7)]
def j20:List RSh:=[(.st aU),(.v aZ),(.v y7),(.v y7),(.v y7)]
def VK:List RSh:=[(.st aU),(.v aZ),(.v y7),(.v y7)]
def j44:List RSh:=[(.v y7),(.v y7)]
def Tr:List RSh:=[(.slc 0),(.v y7),(.v y7),(.v y7),(.v y7)]
def vL:List RSh:=[(.slc 0),(.v y7),(.v y7),(.v y7)]
def j12:List RSh:=[(.slc 0),(.v y7),(.v y7),(.v y7),(.v y7),(.v y7)]
def k10:List (Nat×OSh):=[(0,(.box [(.v y19),(.v y7),(.slr 2),(.mp 3),(.slc 4)])),(1,(.pool cZ)),(2,(.rows 22 3 y7)),(3,(.pmap 1)),(4,(.row 3 y7))]
def k3:List (Nat×OSh):=[(0,(.box [(.v y19),(.v y7),(.slr 2),(.mp 3),(.slc 4)])),(1,(.row 40 cZ)),(2,(.rows 22 3 y7)),(3,(.pmap 5)),(4,(.row 3 y7)),(5,(.pool cZ))]
def VL:List (Nat×OSh):=[(0,(.row 3 y7)),(1,(.boxT y7))]
noncomputable def ng:List FEnt:=[]
theorem Ts:ak Try.prog ng:=ai
def vM:LSh:=⟨[0,1,2,11,12],⟨j19,k10⟩,z9,5,[0,1,2,3,4]⟩
def vN:List XSh:=[⟨(.exit 0),[1,2],⟨⟨[(.pel 1),(.v y7)],k10⟩,z10,[0,1,2,3,4],5⟩⟩]
noncomputable def tI:=bK Try.prog [] Try.f111 (.s (.s .n (.b (.l vM vN .n))) .n)
noncomputable def vO (T:List FEnt):=aB (xs:=vN) vM (bc T (sb [0,1,2,2] tI))
noncomputable def l111v1_0 (T:List FEnt):=aa (vO T)
noncomputable def vP (a0 a1 a2 a3:Int)(a4:List Int)(a5:Int)(a6:List Y3)(a7:List Y2)(a8:List Int):Option Y165:=
cond (decide (a3 < a2)) (
ah (aA ((pd a6 a0).2.1) a7.length) (
ah (af .i64 ((pd a6 a0).2.2.1+a3)) (
ah (aA ((pd a6 a0).2.2.1+a3) (List.length (ix a7 ((pd a6 a0).2.1)))) (
ah (af .i64 (a3+1)) (
some (Sum.inl (a0,a1,a2,(a3+1),a4,a5,a6,(List.set a7 (Int.toNat ((pd a6 a0).2.1)) (List.set (ix a7 ((pd a6 a0).2.1)) (Int.toNat ((pd a6 a0).2.2.1+a3)) (-1))),a8))))))) (
some (Sum.inr (a0,a1,a4,a5,a6,a7,a8)))
theorem F8:vO ng=u9 vP:=funext fun _=>by kernel_rfl
noncomputable def F9:=vP
noncomputable def vQ:K1:=aa (u9 F9)
theorem Ga:l111v1_0 ng=vQ:=congrArg aa F8
theorem J4:L.Fn Try.prog 111 48 [] (erase tI):=oA Try.func111
def oK:FSh:=⟨⟨[(.ptr 0 0),(.pel 1),(.v y7)],k10⟩,z10,5,⟨⟨pR,k10⟩,[y19,y7,n5,cG,y19],[0,1,2,3,4],5⟩,false⟩
noncomputable def Gb (l111v1_0:K1)(a0 a1:Int)(a2:List Int)(a3:Int)(a4:List Y3)(a5:List Y2)(a6:List Int):Option TW:=
(l111v1_0 (a0,a1,(pd a4 a0).2.2.2.1,0,a2,a3,a4,a5,a6)).bind fun y1=>(
some (y1.2.2.1,y1.2.2.2.1,(Db (Da (yE y1.2.2.2.2.1 y1.1 y1.2.1) y1.1 (-1)) y1.1 (-1)),y1.2.2.2.2.2.1,y1.2.2.2.2.2.2))
theorem g111v1:aK ng oK [] tI=u7 (Gb (l111v1_0 ng)):=funext fun _=>by kernel_rfl
noncomputable def Gc:=Gb vQ
noncomputable def P111v1:qK:=u7 Gc
theorem Tt:aK ng oK [] tI=P111v1:=g111v1.trans (by rw[Ga] <;> rfl)
theorem Tu:DC Try.prog 111 oK P111v1:=dD Tt Ts J4
noncomputable def T84 (F43:oc)(F112:K2)(F111v1:qK):List FEnt:=[⟨43,Cn,F43⟩,⟨112,At,F112⟩,⟨111,oK,F111v1⟩]
theorem t84:ak Try.prog (T84 nZ qE P111v1):=dK (dK (dK ai Tu) d112) d43
noncomputable def c84:=bK Try.prog [] Try.f84 (.s .n (.s .n (.b (.s .n (.s .n (.s .n (.s .n (.s .n (.s (.r [.a 7 false y7,.a 8 false y7]) .n)))))))))
theorem ok84:L.Fn Try.prog 84 70 [] (erase c84):=oA Try.func84
def J5:FSh:=⟨⟨[(.ptr 0 0),(.st cZ)],k9⟩,[cZ,y19,y7,cG,y19,n5],5,⟨⟨pR,k9⟩,XE,[0,1,2],5⟩,false⟩
noncomputable def q84 (F43:oc)(F112:K2)(F111v1:qK)(a0:Y1)(a1:List Int)(a2:Int)(a3:List Y2)(a4:List Int)(a5:List Y3):Option wc:=
(F43 (a0.2.2.2.1,a1,a2,a3,a4,a5)).bind fun r1=>(
cond (decide (a0.2.2.1=1)) (
(F112 (a0.2.2.2.1,a0.2.2.2.2,a0.2.1,r1.2.1,r1.2.2.1,r1.2.2.2.1,r1.2.2.2.2.1,r1.2.2.2.2.2)).bind fun r2=>(
some (r2.1,r2.2.1,r2.2.2.1,r2.2.2.2.1,r2.2.2.2.2))) (
cond (decide (a0.2.2.1=2)) (
cond (decide ((pd r1.2.2.2.2.2 r1.1).1=2)) (
some (r1.2.1,r1.2.2.1,r1.2.2.2.1,r1.2.2.2.2.1,(yE r1.2.2.2.2.2 r1.1 3))) (
cond (decide (a0.2.2.1=2)) (
ah (bC 8 (List.length r1.2.2.2.2.1+List.length ([a0.2.2.2.1]:List Int))) (
some (r1.2.1,r1.2.2.1,r1.2.2.2.1,(r1.2.2.2.2.1++([a0.2.2.2.1]:List Int)),r1.2.2.2.2.2))) (
cond (decide ((pd r1.2.2.2.2.2 r1.1).1=2)) (
(F111v1 (r1.1,5,r1.2.1,r1.2.2.1,r1.2.2.2.2.2,r1.2.2.2.1,r1.2.2.2.2.1)).bind fun r3=>(
some (r3.1,r3.2.1,r3.2.2.2.1,r3.2.2.2.2,r3.2.2.1))) (
cond (decide ((pd r1.2.2.2.2.2 r1.1).1=3)) (
(F111v1 (r1.1,5,r1.2.1,r1.2.2.1,r1.2.2.2.2.2,r1.2.2.2.1,r1.2.2.2.2.1)).bind fun r4=>(
some (r4.1,r4.2.1,r4.2.2.2.1,r4.2.2.2.2,r4.2.2.1))) (
some (r1.2.1,r1.2.2.1,r1.2.2.2.1,r1.2.2.2.2.1,r1.2.2.2.2.2)))))) (
cond (decide (a0.2.2.1=2)) (
ah (bC 8 (List.length r1.2.2.2.2.1+List.length ([a0.2.2.2.1]:List Int))) (
some (r1.2.1,r1.2.2.1,r1.2.2.2.1,(r1.2.2.2.2.1++([a0.2.2.2.1]:List Int)),r1.2.2.2.2.2))) (
cond (decide ((pd r1.2.2.2.2.2 r1.1).1=2)) (
(F111v1 (r1.1,5,r1.2.1,r1.2.2.1,r1.2.2.2.2.2,r1.2.2.2.1,r1.2.2.2.2.1)).bind fun r5=>(
some (r5.1,r5.2.1,r5.2.2.2.1,r5.2.2.2.2,r5.2.2.1))) (
cond (decide ((pd r1.2.2.2.2.2 r1.1).1=3)) (
(F111v1 (r1.1,5,r1.2.1,r1.2.2.1,r1.2.2.2.2.2,r1.2.2.2.1,r1.2.2.2.2.1)).bind fun r6=>(
some (r6.1,r6.2.1,r6.2.2.2.1,r6.2.2.2.2,r6.2.2.1))) (
some (r1.2.1,r1.2.2.1,r1.2.2.2.1,r1.2.2.2.2.1,r1.2.2.2.2.2)))))))
theorem g84 (F43:oc)(F112:K2)(F111v1:qK):aK (T84 F43 F112 F111v1) J5 [] c84=u6 (q84 F43 F112 F111v1):=funext fun _=>by kernel_rfl
noncomputable def p84:=q84 nZ qE P111v1
noncomputable def P84:CI:=u6 p84
theorem v84:aK (T84 nZ qE P111v1) J5 [] c84=P84:=g84 nZ qE P111v1
theorem d84:DC Try.prog 84 J5 P84:=dD v84 t84 ok84
noncomputable def VM (F77:CE)(F79:nj)(F78:nj)(F82:nj)(F83:CG)(F84:CI):List FEnt:=[⟨77,JH,F77⟩,⟨79,JI,F79⟩,⟨78,JT,F78⟩,⟨82,JV,F82⟩,⟨83,JY,F83⟩,⟨84,J5,F84⟩]
theorem t65:ak Try.prog (VM Ce Cf Al uk P83 P84):=dK (dK (dK (dK (dK (dK ai d84) d83) d82) d78) d79) d77
def MY:LSh:=⟨[2,7,17,18,19],⟨[(.v y7),(.ptr 0 0),(.slc 1),(.v y7),(.v y7)],k3⟩,[y7,y7,y7,y19,y7,aZ,cG,y19,n5],6,[0,1,2,3]⟩
def MZ:List XSh:=[⟨(.exit 0),[2,7],⟨⟨[(.v y7),(.ptr 0 0)],k3⟩,[y7,y19,y7,aZ,cG,y19,n5],[0,1,2,3],6⟩⟩]
noncomputable def c65:=bK Try.prog [] Try.f65 (.s .n (.s .n (.s .n (.s (.s .n (.b (.l MY MZ .n))) .n))))
noncomputable def M0 (T:List FEnt):=aB (xs:=MZ) MY (bc T (sb [1,1,1,0,1,2,2] c65))
noncomputable def l65_0 (T:List FEnt):=aa (M0 T)
noncomputable def rN (F77:CE)(F79 F78 F82:nj)(F83:CG)(F84:CI)(a0 a1 a2:Int)(a3:List Int)(a4:Int)(a5:List Y1)(a6:List Y2)(a7:List Int)(a8:List Y3):Option ((Int×Int×Int×Y2×Int×Y8×Y9×Y2×iT)⊕Y207):=
cond (decide (a2 < a1)) (
ah (aA a2 a5.length) (
cond (decide (a0 < (ix a5 a2).2.1)) (
some (Sum.inr (a0,a3,a4,a5,a6,a7,a8))) (
(F83 ((ix a5 a2).2.1,a3,a4,a6,a7,a8)).bind fun r5=>(
(F84 ((ix a5 a2),r5.1,r5.2.1,r5.2.2.1,r5.2.2.2.1,r5.2.2.2.2)).bind fun r6=>(
ah (af .i64 (a2+1)) (
some (Sum.inl (a0,a1,(a2+1),r6.1,r6.2.1,a5,r6.2.2.1,r6.2.2.2.1,r6.2.2.2.2)))))))) (
some (Sum.inr (a0,a3,a4,a5,a6,a7,a8)))
theorem XI (F77:CE)(F79 F78 F82:nj)(F83:CG)(F84:CI):M0 (VM F77 F79 F78 F82 F83 F84)=u9 (rN F77 F79 F78 F82 F83 F84):=funext fun _=>by kernel_rfl
noncomputable def M1:=rN Ce Cf Al uk P83 P84
noncomputable def L65_0:Y235:=aa (u9 M1)
theorem XJ:l65_0 (VM Ce Cf Al uk P83 P84)=L65_0:=congrArg aa (XI Ce Cf Al uk P83 P84)
theorem ok65:L.Fn Try.prog 65 39 [(.t 6)] (erase c65):=oA Try.func65
def Ge:FSh:=⟨⟨J3,[]⟩,J0,0,⟨⟨Iq,k9⟩,XE,[],5⟩,false⟩
noncomputable def q65 (F77:CE)(F79 F78 F82:nj)(F83:CG)(F84:CI)(l65_0:Y235)(a0:Y2×Int)(a1:List Y1)(a2:Int):Option wc:=
(F77 a0).bind fun r1=>(
(F79 a1).bind fun r2=>(
(F78 r2).bind fun r3=>(
(F82 r3).bind fun r4=>(
(l65_0 (a2,(↑r4.length:Int),0,r1.1,r1.2.1,r4,r1.2.2.1,([]:List Int),r1.2.2.2)).bind fun y7=>(
(F83 (y7.1,y7.2.1,y7.2.2.1,y7.2.2.2.2.1,y7.2.2.2.2.2.1,y7.2.2.2.2.2.2)).bind fun r8=>(
some (r8.1,r8.2.1,r8.2.2.1,r8.2.2.2.1,r8.2.2.2.2)))))))
theorem g65 (F77:CE)(F79 F78 F82:nj)(F83:CG)(F84:CI):aK (VM F77 F79 F78 F82 F83 F84) Ge [(.t 6)] c65=u3 (q65 F77 F79 F78 F82 F83 F84 (l65_0 (VM F77 F79 F78 F82 F83 F84))):=funext fun _=>by kernel_rfl
noncomputable def p65:=q65 Ce Cf Al uk P83 P84 L65_0
noncomputable def P65:yC:=u3 p65
theorem v65:aK (VM Ce Cf Al uk P83 P84) Ge [(.t 6)] c65=P65:=(g65 Ce Cf Al uk P83 P84).trans (by rw[XJ] <;> rfl)
theorem d65:DC Try.prog 65 Ge P65:=dD v65 t65 ok65
noncomputable def T42 (F26:ur)(F60:Y5)(F65:yC):List FEnt:=[⟨26,Cc,F26⟩,⟨60,tt,F60⟩,⟨65,Ge,F65⟩]
theorem t42:ak Try.prog (T42 vC P60 P65):=dK (dK (dK ai d65) Vx) d26
noncomputable def c42:=bK Try.prog [] Try.f42 .n
theorem ok42:L.Fn Try.prog 42 36 [(.t 10),(.t 11)] (erase c42):=oA Try.func42
def tJ:FSh:=⟨⟨j20,[]⟩,z14,0,⟨⟨[(.tup [.nilp,(.v y7)])],[]⟩,[y7],[],0⟩,true⟩
noncomputable def q42 (F26:ur)(F60:Y5)(F65:yC)(a0:Y2×Int)(a1:List Y1)(a2 a3 a4:Int):Option Int:=
(F26 (a0,a1)).bind fun r1=>(
cond (!decide (r1=0)) (
some r1) (
(F60 (a2,0,9999)).bind fun r2=>(
cond (!r2) (
some 1) (
(F60 (a3,0,99)).bind fun r3=>(
cond (!r3) (
some 1) (
(F60 (a4,1,12)).bind fun r4=>(
cond (!r4) (
some 1) (
(F65 (a0,a1,a2)).bind fun r5=>(
none)))))))))
theorem g42 (F26:ur)(F60:Y5)(F65:yC):aK (T42 F26 F60 F65) tJ [(.t 10),(.t 11)] c42=u5 (q42 F26 F60 F65):=funext fun _=>by kernel_rfl
noncomputable def p42:=q42 vC P60 P65
noncomputable def i6:dH:=u5 p42
theorem v42:aK (T42 vC P60 P65) tJ [(.t 10),(.t 11)] c42=i6:=g42 vC P60 P65
theorem VN:DC Try.prog 42 tJ i6:=dD v42 t42 ok42
noncomputable def Gf (F26:ur)(F60:Y5)(F65:yC):List FEnt:=[⟨26,Cc,F26⟩,⟨60,tt,F60⟩,⟨65,Ge,F65⟩]
theorem XK:ak Try.prog (Gf vC P60 P65):=dK (dK (dK ai d65) Vx) d26
noncomputable def Gg:=bK Try.prog [] Try.f42 .n
theorem Tv:L.Fn Try.prog 42 36 [(.t 10),(.t 11)] (erase Gg):=oA Try.func42
def iS:FSh:=⟨⟨j20,[]⟩,z14,0,⟨⟨[(.tup Vw)],k9⟩,Vv,[],5⟩,false⟩
noncomputable def Au (F26:ur)(F60:Y5)(F65:yC)(a0:Y2×Int)(a1:List Y1)(a2 a3 a4:Int):Option oa:=
(F26 (a0,a1)).bind fun r1=>(
cond (!decide (r1=0)) (
none) (
(F60 (a2,0,9999)).bind fun r2=>(
cond (!r2) (
none) (
(F60 (a3,0,99)).bind fun r3=>(
cond (!r3) (
none) (
(F60 (a4,1,12)).bind fun r4=>(
cond (!r4) (
none) (
(F65 (a0,a1,a2)).bind fun r5=>(
some (0,r5.1,r5.2.1,r5.2.2.1,r5.2.2.2.1,r5.2.2.2.2))))))))))
theorem XL (F26:ur)(F60:Y5)(F65:yC):aK (Gf F26 F60 F65) iS [(.t 10),(.t 11)] Gg=u5 (Au F26 F60 F65):=funext fun _=>by kernel_rfl
noncomputable def XM:=Au vC P60 P65
noncomputable def P42v1:gH:=u5 XM
theorem XN:aK (Gf vC P60 P65) iS [(.t 10),(.t 11)] Gg=P42v1:=XL vC P60 P65
theorem rO:DC Try.prog 42 iS P42v1:=dD XN XK Tv
noncomputable def T15 (F42:dH)(F42v1:gH)(F43:oc):List FEnt:=[⟨42,tJ,F42⟩,⟨42,iS,F42v1⟩,⟨43,Cn,F43⟩]
theorem t15:ak Try.prog (T15 i6 P42v1 nZ):=dK (dK (dK ai d43) rO) VN
noncomputable def c15:=bK Try.prog [] Try.f15 .n
theorem ok15:L.Fn Try.prog 15 30 [(.cell 8 true 4),(.t 9)] (erase c15):=oA Try.func15
def qF:FSh:=⟨⟨VK,[]⟩,VJ,0,⟨⟨[(.tup [(.st fq),(.v y7)])],[]⟩,[fq,y7],[],0⟩,true⟩
noncomputable def q15 (F42:dH)(F42v1:gH)(F43:oc)(a0:Y2×Int)(a1:List Y1)(a2 a3:Int):Option TY:=
Io (F42 (a0,a1,a2,a3,1)) (fun r1=>(
cond (!decide (r1=0)) (
some ((0,(0,(0,0))),r1)) (
none))) (
(F42v1 (a0,a1,a2,a3,1)).bind fun r2=>(
cond (!decide (r2.1=0)) (
some ((0,(0,(0,0))),r2.1)) (
(F43 (a3,r2.2.1,r2.2.2.1,r2.2.2.2.1,r2.2.2.2.2.1,r2.2.2.2.2.2)).bind fun r3=>(
some (((pd r3.2.2.2.2.2 r3.1).1,((pd r3.2.2.2.2.2 r3.1).2.1,((pd r3.2.2.2.2.2 r3.1).2.2.1,(pd r3.2.2.2.2.2 r3.1).2.2.2.1))),0)))))
theorem g15 (F42:dH)(F42v1:gH)(F43:oc):aK (T15 F42 F42v1 F43) qF [(.cell 8 true 4),(.t 9)] c15=u4 (q15 F42 F42v1 F43):=funext fun _=>by kernel_rfl
noncomputable def p15:=q15 i6 P42v1 nZ
noncomputable def P15:bZ:=u4 p15
theorem v15:aK (T15 i6 P42v1 nZ) qF [(.cell 8 true 4),(.t 9)] c15=P15:=g15 i6 P42v1 nZ
theorem Tw:DC Try.prog 15 qF P15:=dD v15 t15 ok15
noncomputable def T21 (F42:dH)(F42v1:gH)(F46:wd):List FEnt:=[⟨42,tJ,F42⟩,⟨42,iS,F42v1⟩,⟨46,sh46,F46⟩]
theorem t21:ak Try.prog (T21 i6 P42v1 qL):=dK (dK (dK ai d46) rO) VN
noncomputable def c21:=bK Try.prog [] Try.f21 .n
theorem ok21:L.Fn Try.prog 21 37 [(.t 8),(.t 9),(.t 10)] (erase c21):=oA Try.func21
def yp:FSh:=⟨⟨VK,[]⟩,VJ,0,⟨⟨[(.tup j37)],[]⟩,[y7,y7,y7],[],0⟩,true⟩
noncomputable def q21 (F42:dH)(F42v1:gH)(F46:wd)(a0:Y2×Int)(a1:List Y1)(a2 a3:Int):Option cw:=
Io (F42 (a0,a1,a2,0,a3)) (fun r1=>(
cond (!decide (r1=0)) (
some (0,0,r1)) (
none))) (
(F42v1 (a0,a1,a2,0,a3)).bind fun r2=>(
cond (!decide (r2.1=0)) (
some (0,0,r2.1)) (
(F46 (a3,r2.2.1,r2.2.2.1,r2.2.2.2.1,r2.2.2.2.2.1,r2.2.2.2.2.2)).bind fun r3=>(
cond (!r3.2.1) (
some (0,0,3)) (
some (r3.1.2.1,r3.1.2.2.1,0))))))
theorem g21 (F42:dH)(F42v1:gH)(F46:wd):aK (T21 F42 F42v1 F46) yp [(.t 8),(.t 9),(.t 10)] c21=u4 (q21 F42 F42v1 F46):=funext fun _=>by kernel_rfl
noncomputable def p21:=q21 i6 P42v1 qL
noncomputable def P21:dL:=u4 p21
theorem v21:aK (T21 i6 P42v1 qL) yp [(.t 8),(.t 9),(.t 10)] c21=P21:=g21 i6 P42v1 qL
theorem d21:DC Try.prog 21 yp P21:=dD v21 t21 ok21
noncomputable def Tx:List FEnt:=[]
theorem t118:ak Try.prog Tx:=ai
noncomputable def Tz:=bK Try.prog [] Try.f118 .n
theorem XO:L.Fn Try.prog 118 6 [(.t 2)] (erase Tz):=oA Try.func118
def Av:FSh:=⟨⟨mh,[]⟩,[y7],0,⟨⟨fG,[]⟩,[.bool],[],0⟩,true⟩
noncomputable def XP (a0:Int):Option Bool:=
some (!decide (a0=a0))
theorem g118 (a0:Int):aK Tx Av [(.t 2)] Tz a0=XP a0:=by kernel_rfl
noncomputable def p118:=XP
noncomputable def vR:mj:=fun x=>p118 x
theorem v118:aK Tx Av [(.t 2)] Tz=vR:=funext fun x=>(g118 x)
theorem d118:DC Try.prog 118 Av vR:=dD v118 t118 XO
noncomputable def T91 (F118:mj):List FEnt:=[⟨118,Av,F118⟩]
theorem t91:ak Try.prog (T91 vR):=dK ai d118
noncomputable def c91:=bK Try.prog [] Try.f91 .n
theorem ok91:L.Fn Try.prog 91 17 [(.t 4)] (erase c91):=oA Try.func91
def qG:FSh:=⟨⟨j44,[]⟩,[y7,y7],0,⟨⟨fG,[]⟩,[.bool],[],0⟩,true⟩
noncomputable def q91 (F118:mj)(a0 a1:Int):Option Bool:=
(F118 a0).bind fun r1=>(
cond r1 (
(F118 a1).bind fun r2=>(
cond (!r2) (
some true) (
some (decide (a0 < a1))))) (
some (decide (a0 < a1))))
theorem g91 (F118:mj):aK (T91 F118) qG [(.t 4)] c91=u2 (q91 F118):=funext fun _=>by kernel_rfl
noncomputable def p91:=q91 vR
noncomputable def P91:bH:=u2 p91
theorem v91:aK (T91 vR) qG [(.t 4)] c91=P91:=g91 vR
theorem TA:DC Try.prog 91 qG P91:=dD v91 t91 ok91
noncomputable def J6 (F91:bH):List FEnt:=[⟨91,qG,F91⟩]
theorem t85:ak Try.prog (J6 P91):=dK ai TA
def M2:LSh:=⟨[0,1,2,6,7],⟨Tr,di⟩,J1,1,[0]⟩
def M3:List XSh:=[⟨(.exit 2),[0,1,2,6],⟨⟨vL,di⟩,vK,[0],1⟩⟩]
def M4:LSh:=⟨[0,1,2,6],⟨vL,di⟩,vK,1,[0]⟩
def Aw:List XSh:=[⟨(.exit 0),[],⟨⟨[],di⟩,[y19],[0],1⟩⟩]
noncomputable def XQ:=bK Try.prog [] Try.f85 (.s .n (.b (.l M4 Aw (.s .n (.s (.b (.s .n (.b (.l M2 M3 .n)))) .n)))))
noncomputable def M5 (T:List FEnt):=aB (xs:=M3) M2 (bc T (sb [1,2,2,1,0,2,1,2,2] XQ))
noncomputable def l85_1 (T:List FEnt):=aa (M5 T)
noncomputable def Gh (F91:bH)(a0 a1 a2 a3:Int)(a4:List Int):Option Y224:=
cond (decide (a0 < a3)) (
ah (aA a3 a4.length) (
ah (af .i64 (a3-1)) (
ah (aA (a3-1) a4.length) (
(F91 ((ix a4 a3),(ix a4 (a3-1)))).bind fun r1=>(
cond r1 (
ah (af .i64 (a3-1)) (
ah (af .i64 (a3-1)) (
ah (aA (a3-1) a4.length) (
ah (aA a3 a4.length) (
ah (aA a3 a4.length) (
ah (aA (a3-1) (List.length (List.set a4 a3.toNat (ix a4 (a3-1))))) (
ah (af .i64 (a3-1)) (
some (Sum.inl (a0,a1,a2,(a3-1),(List.set (List.set a4 a3.toNat (ix a4 (a3-1))) (Int.toNat (a3-1)) (ix a4 a3)))))))))))) (
some (Sum.inr (a0,a1,a2,a4)))))))) (
some (Sum.inr (a0,a1,a2,a4)))
theorem XR (F91:bH):M5 (J6 F91)=u5 (Gh F91):=funext fun _=>by kernel_rfl
noncomputable def M6:=Gh P91
noncomputable def Gi:K4:=aa (u5 M6)
theorem XS:l85_1 (J6 P91)=Gi:=congrArg aa (XR P91)
noncomputable def M7 (T:List FEnt):=aB (xs:=Aw) M4 (bc T (sb [1,2,2] XQ))
noncomputable def l85_0 (T:List FEnt):=aa (M7 T)
noncomputable def Gj (F91:bH)(l85_1:K4)(a0 a1 a2:Int)(a3:List Int):Option Y225:=
cond (decide (a2 < a1)) (
(l85_1 (a0,a1,a2,a2,a3)).bind fun y2=>(
ah (af .i64 (y2.2.2.1+1)) (
some (Sum.inl (y2.1,y2.2.1,(y2.2.2.1+1),y2.2.2.2))))) (
some (Sum.inr a3))
theorem XT (F91:bH):M7 (J6 F91)=u4 (Gj F91 (l85_1 (J6 F91))):=funext fun _=>by kernel_rfl
noncomputable def M8:=Gj P91 Gi
noncomputable def Gk:cL:=aa (u4 M8)
theorem XU:l85_0 (J6 P91)=Gk:=congrArg aa ((XT P91).trans (by rw[XS] <;> rfl))
theorem ok85:L.Fn Try.prog 85 49 [] (erase XQ):=oA Try.func85
def J7:FSh:=⟨⟨Ir,di⟩,J2,1,⟨⟨pR,di⟩,[y19],[0],1⟩,false⟩
noncomputable def q85 (F91:bH)(l85_0:cL)(a0 a1:Int)(a2:List Int):Option Y2:=
ah (af .i64 (a0+1)) (
(l85_0 (a0,a1,(a0+1),a2)).bind fun y3=>(
some y3))
theorem g85 (F91:bH):aK (J6 F91) J7 [] XQ=u3 (q85 F91 (l85_0 (J6 F91))):=funext fun _=>by kernel_rfl
noncomputable def p85:=q85 P91 Gk
noncomputable def rP:dX:=u3 p85
theorem v85:aK (J6 P91) J7 [] XQ=rP:=(g85 P91).trans (by rw[XU] <;> rfl)
theorem d85:DC Try.prog 85 J7 rP:=dD v85 t85 ok85
noncomputable def Cp (F91:bH):List FEnt:=[⟨91,qG,F91⟩]
theorem t113:ak Try.prog (Cp P91):=dK ai TA
def Gl:LSh:=⟨[0,2,3,8],⟨vL,di⟩,vK,1,[0]⟩
def Gm:List XSh:=[⟨(.exit 0),[],⟨⟨[],di⟩,[y19],[0],1⟩⟩,⟨.ret,[],⟨⟨[],di⟩,[y19],[0],1⟩⟩]
noncomputable def J8:=bK Try.prog [] Try.f113 (.s .n (.b (.l Gl Gm .n)))
noncomputable def Gn (T:List FEnt):=aB (xs:=Gm) Gl (bc T (sb [1,2,2] J8))
noncomputable def l113_0 (T:List FEnt):=aa (Gn T)
noncomputable def yq (F91:bH)(a0 a1 a2:Int)(a3:List Int):Option (tP⊕K3):=
ah (af .i64 (2*a2)) (
ah (af .i64 ((2*a2)+1)) (
cond (decide (a0≤((2*a2)+1))) (
some (Sum.inr (Sum.inl a3))) (
ah (af .i64 (((2*a2)+1)+1)) (
cond (decide ((((2*a2)+1)+1) < a0)) (
ah (af .i64 (a1+((2*a2)+1))) (
ah (aA (a1+((2*a2)+1)) a3.length) (
ah (af .i64 (a1+((2*a2)+1))) (
ah (af .i64 ((a1+((2*a2)+1))+1)) (
ah (aA ((a1+((2*a2)+1))+1) a3.length) (
(F91 ((ix a3 (a1+((2*a2)+1))),(ix a3 ((a1+((2*a2)+1))+1)))).bind fun r1=>(
cond r1 (
ah (af .i64 (((2*a2)+1)+1)) (
ah (af .i64 (a1+a2)) (
ah (aA (a1+a2) a3.length) (
ah (af .i64 (a1+(((2*a2)+1)+1))) (
ah (aA (a1+(((2*a2)+1)+1)) a3.length) (
(F91 ((ix a3 (a1+a2)),(ix a3 (a1+(((2*a2)+1)+1))))).bind fun r2=>(
cond (!r2) (
some (Sum.inr (Sum.inr a3))) (
ah (af .i64 (a1+a2)) (
ah (af .i64 (a1+(((2*a2)+1)+1))) (
ah (af .i64 (a1+(((2*a2)+1)+1))) (
ah (aA (a1+(((2*a2)+1)+1)) a3.length) (
ah (af .i64 (a1+a2)) (
ah (aA (a1+a2) a3.length) (
ah (aA (a1+a2) a3.length) (
ah (aA (a1+(((2*a2)+1)+1)) (List.length (List.set a3 (Int.toNat (a1+a2)) (ix a3 (a1+(((2*a2)+1)+1)))))) (
some (Sum.inl (a0,a1,(((2*a2)+1)+1),(List.set (List.set a3 (Int.toNat (a1+a2)) (ix a3 (a1+(((2*a2)+1)+1)))) (Int.toNat (a1+(((2*a2)+1)+1))) (ix a3 (a1+a2))))))))))))))))))))) (
ah (af .i64 (a1+a2)) (
ah (aA (a1+a2) a3.length) (
ah (af .i64 (a1+((2*a2)+1))) (
ah (aA (a1+((2*a2)+1)) a3.length) (
(F91 ((ix a3 (a1+a2)),(ix a3 (a1+((2*a2)+1))))).bind fun r3=>(
cond (!r3) (
some (Sum.inr (Sum.inr a3))) (
ah (af .i64 (a1+a2)) (
ah (af .i64 (a1+((2*a2)+1))) (
ah (af .i64 (a1+((2*a2)+1))) (
ah (aA (a1+((2*a2)+1)) a3.length) (
ah (af .i64 (a1+a2)) (
ah (aA (a1+a2) a3.length) (
ah (aA (a1+a2) a3.length) (
ah (aA (a1+((2*a2)+1)) (List.length (List.set a3 (Int.toNat (a1+a2)) (ix a3 (a1+((2*a2)+1)))))) (
some (Sum.inl (a0,a1,((2*a2)+1),(List.set (List.set a3 (Int.toNat (a1+a2)) (ix a3 (a1+((2*a2)+1)))) (Int.toNat (a1+((2*a2)+1))) (ix a3 (a1+a2))))))))))))))))))))))))))) (
ah (af .i64 (a1+a2)) (
ah (aA (a1+a2) a3.length) (
ah (af .i64 (a1+((2*a2)+1))) (
ah (aA (a1+((2*a2)+1)) a3.length) (
(F91 ((ix a3 (a1+a2)),(ix a3 (a1+((2*a2)+1))))).bind fun r4=>(
cond (!r4) (
some (Sum.inr (Sum.inr a3))) (
ah (af .i64 (a1+a2)) (
ah (af .i64 (a1+((2*a2)+1))) (
ah (af .i64 (a1+((2*a2)+1))) (
ah (aA (a1+((2*a2)+1)) a3.length) (
ah (af .i64 (a1+a2)) (
ah (aA (a1+a2) a3.length) (
ah (aA (a1+a2) a3.length) (
ah (aA (a1+((2*a2)+1)) (List.length (List.set a3 (Int.toNat (a1+a2)) (ix a3 (a1+((2*a2)+1)))))) (
some (Sum.inl (a0,a1,((2*a2)+1),(List.set (List.set a3 (Int.toNat (a1+a2)) (ix a3 (a1+((2*a2)+1)))) (Int.toNat (a1+((2*a2)+1))) (ix a3 (a1+a2))))))))))))))))))))))))
theorem TB (F91:bH):Gn (Cp F91)=u4 (yq F91):=funext fun _=>by kernel_rfl
noncomputable def Gp:=yq P91
noncomputable def yr:Y212:=aa (u4 Gp)
theorem TC:l113_0 (Cp P91)=yr:=congrArg aa (TB P91)
theorem XV:L.Fn Try.prog 113 76 [] (erase J8):=oA Try.func113
def Ax:FSh:=⟨⟨vL,di⟩,vK,1,⟨⟨pR,di⟩,[y19],[0],1⟩,false⟩
noncomputable def TD (F91:bH)(l113_0:Y212)(a0 a1 a2:Int)(a3:List Int):Option Y2:=
(l113_0 (a1,a2,a0,a3)).bind (fun y5=>Sum.elim (fun y6=>(
some y6)) (fun y7=>(
some y7)) y5)
theorem g113 (F91:bH):aK (Cp F91) Ax [] J8=u4 (TD F91 (l113_0 (Cp F91))):=funext fun _=>by kernel_rfl
noncomputable def XW:=TD P91 yr
noncomputable def lm:cL:=u4 XW
theorem v113:aK (Cp P91) Ax [] J8=lm:=(g113 P91).trans (by rw[TC] <;> rfl)
theorem d113:DC Try.prog 113 Ax lm:=dD v113 t113 XV
noncomputable def J9 (F113:cL):List FEnt:=[⟨113,Ax,F113⟩]
theorem t86:ak Try.prog (J9 lm):=dK ai d113
def M9:LSh:=⟨[0,6,7,8,9],⟨Tr,di⟩,J1,1,[0]⟩
def Na:List XSh:=[⟨(.exit 0),[0,6,7,8],⟨⟨vL,di⟩,vK,[0],1⟩⟩]
def Nb:LSh:=⟨[0,6,7,10],⟨vL,di⟩,vK,1,[0]⟩
def Nc:List XSh:=[⟨(.exit 2),[],⟨⟨[],di⟩,[y19],[0],1⟩⟩]
noncomputable def XX:=bK Try.prog [] Try.f86 (.s .n (.s .n (.s .n (.s (.s .n (.b (.l M9 Na .n))) (.s .n (.b (.l Nb Nc .n)))))))
noncomputable def Nd (T:List FEnt):=aB (xs:=Na) M9 (bc T (sb [1,1,1,0,1,2,2] XX))
noncomputable def l86_0 (T:List FEnt):=aa (Nd T)
noncomputable def Gq (F113:cL)(a0 a1 a2 a3:Int)(a4:List Int):Option Y224:=
cond (decide (0≤a3)) (
(F113 (a3,a2,a0,a4)).bind fun r1=>(
ah (af .i64 (a3-1)) (
some (Sum.inl (a0,a1,a2,(a3-1),r1))))) (
some (Sum.inr (a0,a1,a2,a4)))
theorem XY (F113:cL):Nd (J9 F113)=u5 (Gq F113):=funext fun _=>by kernel_rfl
noncomputable def Nf:=Gq lm
noncomputable def Gr:K4:=aa (u5 Nf)
theorem XZ:l86_0 (J9 lm)=Gr:=congrArg aa (XY lm)
noncomputable def Ng (T:List FEnt):=aB (xs:=Nc) Nb (bc T (sb [1,1,1,1,1,2,2] XX))
noncomputable def l86_1 (T:List FEnt):=aa (Ng T)
noncomputable def Gs (F113:cL)(a0 a1 a2:Int)(a3:List Int):Option Y225:=
cond (decide (0≤a2)) (
ah (af .i64 (a0+a2)) (
ah (af .i64 (a0+a2)) (
ah (aA (a0+a2) a3.length) (
ah (aA a0 a3.length) (
ah (aA a0 a3.length) (
ah (aA (a0+a2) (List.length (List.set a3 a0.toNat (ix a3 (a0+a2))))) (
(F113 (a1,a2,a0,(List.set (List.set a3 a0.toNat (ix a3 (a0+a2))) (Int.toNat (a0+a2)) (ix a3 a0)))).bind fun r3=>(
ah (af .i64 (a2-1)) (
some (Sum.inl (a0,a1,(a2-1),r3))))))))))) (
some (Sum.inr a3))
theorem X0 (F113:cL):Ng (J9 F113)=u4 (Gs F113):=funext fun _=>by kernel_rfl
noncomputable def Nh:=Gs lm
noncomputable def Gt:cL:=aa (u4 Nh)
theorem X1:l86_1 (J9 lm)=Gt:=congrArg aa (X0 lm)
theorem ok86:L.Fn Try.prog 86 56 [] (erase XX):=oA Try.func86
def Ka:FSh:=⟨⟨Ir,di⟩,J2,1,⟨⟨pR,di⟩,[y19],[0],1⟩,false⟩
noncomputable def q86 (F113:cL)(l86_0:K4)(l86_1:cL)(a0 a1:Int)(a2:List Int):Option Y2:=
ah (af .i64 (a1-a0)) (
ah (af .i64 ((a1-a0)-1)) (
ah (af .i64 (Int.tdiv ((a1-a0)-1) 2)) (
(l86_0 (a0,0,(a1-a0),(Int.tdiv ((a1-a0)-1) 2),a2)).bind fun y2=>(
ah (af .i64 (y2.2.2.1-1)) (
(l86_1 (y2.1,y2.2.1,(y2.2.2.1-1),y2.2.2.2)).bind fun y4=>(
some y4))))))
theorem g86 (F113:cL):aK (J9 F113) Ka [] XX=u3 (q86 F113 (l86_0 (J9 F113)) (l86_1 (J9 F113))):=funext fun _=>by kernel_rfl
noncomputable def p86:=q86 lm Gr Gt
noncomputable def rQ:dX:=u3 p86
theorem v86:aK (J9 lm) Ka [] XX=rQ:=(g86 lm).trans (by rw[XZ,X1] <;> rfl)
theorem d86:DC Try.prog 86 Ka rQ:=dD v86 t86 ok86
noncomputable def VO (F114:n6)(F115:Hg):List FEnt:=[⟨114,vE,F114⟩,⟨115,vF,F115⟩]
theorem t87:ak Try.prog (VO h9 ia):=dK (dK ai Xb) W9
def Ni:LSh:=⟨[0,1,6,7,8,9],⟨j11,[(0,(.row 3 y7)),(1,(.boxT jd))]⟩,[y7,y7,jd,y7,y19,jd],2,[0,1]⟩
def Nj:List XSh:=[⟨(.exit 0),[],⟨⟨[],[(0,(.row 3 y7)),(1,(.boxT jd))]⟩,[y19,jd],[0,1],2⟩⟩]
noncomputable def c87:=bK Try.prog [] Try.f87 (.s .n (.s .n (.s (.s .n (.s .n (.s .n (.b (.l Ni Nj .n))))) .n)))
noncomputable def Nk (T:List FEnt):=aB (xs:=Nj) Ni (bc T (sb [1,1,0,1,1,1,2,2] c87))
noncomputable def l87_0 (T:List FEnt):=aa (Nk T)
noncomputable def Ay (F114:n6)(F115:Hg)(a0 a1 a2 a3:Int)(a4:List Int)(a5:Int):Option ((Int×Int×Int×Int×Y2×Int)⊕dC):=
ah (af .i64 (Int.tdiv a1 4)) (
ah (af .i64 ((Int.tdiv a1 4)*2)) (
ah (af .i64 (a0+((Int.tdiv a1 4)*2))) (
ah (af .i64 ((a0+((Int.tdiv a1 4)*2))+1)) (
cond (decide (a3≤((a0+((Int.tdiv a1 4)*2))+1))) (
(F115 a5).bind fun r2=>(
ah (af .u64 (a2-1)) (
ah (af .i64 (bk .u64 r2.1 (a2-1))) (
cond (decide (a1≤(bk .u64 r2.1 (a2-1)))) (
ah (af .i64 ((bk .u64 r2.1 (a2-1))-a1)) (
ah (af .i64 (a0+((bk .u64 r2.1 (a2-1))-a1))) (
ah (af .i64 (a0+((bk .u64 r2.1 (a2-1))-a1))) (
ah (aA (a0+((bk .u64 r2.1 (a2-1))-a1)) a4.length) (
ah (aA a3 a4.length) (
ah (aA a3 a4.length) (
ah (aA (a0+((bk .u64 r2.1 (a2-1))-a1)) (List.length (List.set a4 a3.toNat (ix a4 (a0+((bk .u64 r2.1 (a2-1))-a1)))))) (
ah (af .i64 (a3+1)) (
some (Sum.inl (a0,a1,a2,(a3+1),(List.set (List.set a4 a3.toNat (ix a4 (a0+((bk .u64 r2.1 (a2-1))-a1)))) (Int.toNat (a0+((bk .u64 r2.1 (a2-1))-a1))) (ix a4 a3)),r2.2))))))))))) (
ah (af .i64 (a0+(bk .u64 r2.1 (a2-1)))) (
ah (af .i64 (a0+(bk .u64 r2.1 (a2-1)))) (
ah (aA (a0+(bk .u64 r2.1 (a2-1))) a4.length) (
ah (aA a3 a4.length) (
ah (aA a3 a4.length) (
ah (aA (a0+(bk .u64 r2.1 (a2-1))) (List.length (List.set a4 a3.toNat (ix a4 (a0+(bk .u64 r2.1 (a2-1))))))) (
ah (af .i64 (a3+1)) (
some (Sum.inl (a0,a1,a2,(a3+1),(List.set (List.set a4 a3.toNat (ix a4 (a0+(bk .u64 r2.1 (a2-1))))) (Int.toNat (a0+(bk .u64 r2.1 (a2-1)))) (ix a4 a3)),r2.2)))))))))))))) (
some (Sum.inr (a4,a5)))))))
theorem X2 (F114:n6)(F115:Hg):Nk (VO F114 F115)=u6 (Ay F114 F115):=funext fun _=>by kernel_rfl
noncomputable def Gu:=Ay h9 ia
noncomputable def Gv:Y213:=aa (u6 Gu)
theorem X3:l87_0 (VO h9 ia)=Gv:=congrArg aa (X2 h9 ia)
theorem ok87:L.Fn Try.prog 87 65 [] (erase c87):=oA Try.func87
def Kb:FSh:=⟨⟨Ir,di⟩,J2,1,⟨⟨pR,di⟩,[y19],[0],1⟩,false⟩
noncomputable def q87 (F114:n6)(F115:Hg)(l87_0:Y213)(a0 a1:Int)(a2:List Int):Option Y2:=
ah (af .i64 (a1-a0)) (
cond (decide (8≤(a1-a0))) (
ah (af .u64 (a1-a0)) (
(F114 (a1-a0)).bind fun r1=>(
ah (af .i64 (Int.tdiv (a1-a0) 4)) (
ah (af .i64 ((Int.tdiv (a1-a0) 4)*2)) (
ah (af .i64 (a0+((Int.tdiv (a1-a0) 4)*2))) (
ah (af .i64 ((a0+((Int.tdiv (a1-a0) 4)*2))-1)) (
(l87_0 (a0,(a1-a0),r1,((a0+((Int.tdiv (a1-a0) 4)*2))-1),a2,(a1-a0))).bind fun y3=>(
some y3.1)))))))) (
some a2))
theorem g87 (F114:n6)(F115:Hg):aK (VO F114 F115) Kb [] c87=u3 (q87 F114 F115 (l87_0 (VO F114 F115))):=funext fun _=>by kernel_rfl
noncomputable def p87:=q87 h9 ia Gv
noncomputable def qH:dX:=u3 p87
theorem v87:aK (VO h9 ia) Kb [] c87=qH:=(g87 h9 ia).trans (by rw[X3] <;> rfl)
theorem d87:DC Try.prog 87 Kb qH:=dD v87 t87 ok87
noncomputable def TE (F91:bH):List FEnt:=[⟨91,qG,F91⟩]
theorem t125:ak Try.prog (TE P91):=dK ai TA
noncomputable def TF:=bK Try.prog [] Try.f125 .n
theorem X4:L.Fn Try.prog 125 28 [(.t 8),(.t 9)] (erase TF):=oA Try.func125
def Az:FSh:=⟨⟨[(.slc 0),(.v y7),(.v y7),(.ptr 1 0)],VL⟩,[y7,y7,y19,y7],2,⟨⟨Mr,VL⟩,[y7,y7,y19,y7],[0,1],2⟩,false⟩
noncomputable def TG (F91:bH)(a0 a1:Int)(a2:List Int)(a3:Int):Option Y198:=
ah (aA a1 a2.length) (
ah (aA a0 a2.length) (
(F91 ((ix a2 a1),(ix a2 a0))).bind fun r1=>(
cond r1 (
ah (af .i64 (a3+1)) (
some (a1,a0,a2,(a3+1)))) (
some (a0,a1,a2,a3)))))
theorem g125 (F91:bH):aK (TE F91) Az [(.t 8),(.t 9)] TF=u4 (TG F91):=funext fun _=>by kernel_rfl
noncomputable def X5:=TG P91
noncomputable def qI:K5:=u4 X5
theorem v125:aK (TE P91) Az [(.t 8),(.t 9)] TF=qI:=g125 P91
theorem d125:DC Try.prog 125 Az qI:=dD v125 t125 X4
noncomputable def TH (F125:K5):List FEnt:=[⟨125,Az,F125⟩]
theorem t117:ak Try.prog (TH qI):=dK ai d125
noncomputable def TI:=bK Try.prog [] Try.f117 .n
theorem X6:L.Fn Try.prog 117 36 [(.t 10)] (erase TI):=oA Try.func117
def vS:FSh:=⟨⟨[(.slc 0),(.v y7),(.v y7),(.v y7),(.ptr 1 0)],VL⟩,[y7,y7,y7,y19,y7],2,⟨⟨mh,VL⟩,[y7,y19,y7],[0,1],2⟩,false⟩
noncomputable def TJ (F125:K5)(a0 a1 a2:Int)(a3:List Int)(a4:Int):Option Hh:=
(F125 (a0,a1,a3,a4)).bind fun r1=>(
(F125 (r1.2.1,a2,r1.2.2.1,r1.2.2.2)).bind fun r2=>(
(F125 (r1.1,r2.1,r2.2.2.1,r2.2.2.2)).bind fun r3=>(
some (r3.2.1,r3.2.2.1,r3.2.2.2))))
theorem g117 (F125:K5):aK (TH F125) vS [(.t 10)] TI=u5 (TJ F125):=funext fun _=>by kernel_rfl
noncomputable def X7:=TJ qI
noncomputable def ni:yB:=u5 X7
theorem v117:aK (TH qI) vS [(.t 10)] TI=ni:=g117 qI
theorem X8:DC Try.prog 117 vS ni:=dD v117 t117 X6
noncomputable def TK (F117:yB):List FEnt:=[⟨117,vS,F117⟩]
theorem t116:ak Try.prog (TK ni):=dK ai X8
noncomputable def TL:=bK Try.prog [] Try.f116 .n
theorem X9:L.Fn Try.prog 116 15 [(.t 6)] (erase TL):=oA Try.func116
def AA:FSh:=⟨⟨[(.slc 0),(.v y7),(.ptr 1 0)],VL⟩,[y7,y19,y7],2,⟨⟨mh,VL⟩,[y7,y19,y7],[0,1],2⟩,false⟩
noncomputable def TM (F117:yB)(a0:Int)(a1:List Int)(a2:Int):Option Hh:=
ah (af .i64 (a0-1)) (
ah (af .i64 (a0+1)) (
(F117 ((a0-1),a0,(a0+1),a1,a2)).bind fun r1=>(
some (r1.1,r1.2.1,r1.2.2))))
theorem g116 (F117:yB):aK (TK F117) AA [(.t 6)] TL=u3 (TM F117):=funext fun _=>by kernel_rfl
noncomputable def Ya:=TM ni
noncomputable def tK:K6:=u3 Ya
theorem v116:aK (TK ni) AA [(.t 6)] TL=tK:=g116 ni
theorem d116:DC Try.prog 116 AA tK:=dD v116 t116 X9
noncomputable def T88 (F116:K6)(F117:yB):List FEnt:=[⟨116,AA,F116⟩,⟨117,vS,F117⟩]
theorem t88:ak Try.prog (T88 tK ni):=dK (dK ai X8) d116
noncomputable def c88:=bK Try.prog [] Try.f88 .n
theorem ok88:L.Fn Try.prog 88 57 [(.t 6),(.t 7)] (erase c88):=oA Try.func88
def Kc:FSh:=⟨⟨Ir,di⟩,J2,1,⟨⟨Mr,di⟩,J2,[0],1⟩,false⟩
noncomputable def q88 (F116:K6)(F117:yB)(a0 a1:Int)(a2:List Int):Option Hi:=
ah (af .i64 (a1-a0)) (
ah (af .i64 (Int.tdiv (a1-a0) 4)) (
ah (af .i64 ((Int.tdiv (a1-a0) 4)*1)) (
ah (af .i64 (a0+((Int.tdiv (a1-a0) 4)*1))) (
ah (af .i64 (Int.tdiv (a1-a0) 4)) (
ah (af .i64 ((Int.tdiv (a1-a0) 4)*2)) (
ah (af .i64 (a0+((Int.tdiv (a1-a0) 4)*2))) (
ah (af .i64 (Int.tdiv (a1-a0) 4)) (
ah (af .i64 ((Int.tdiv (a1-a0) 4)*3)) (
ah (af .i64 (a0+((Int.tdiv (a1-a0) 4)*3))) (
cond (decide (8≤(a1-a0))) (
cond (decide (50≤(a1-a0))) (
(F116 ((a0+((Int.tdiv (a1-a0) 4)*1)),a2,0)).bind fun r1=>(
(F116 ((a0+((Int.tdiv (a1-a0) 4)*2)),r1.2.1,r1.2.2)).bind fun r2=>(
(F116 ((a0+((Int.tdiv (a1-a0) 4)*3)),r2.2.1,r2.2.2)).bind fun r3=>(
(F117 (r1.1,r2.1,r3.1,r3.2.1,r3.2.2)).bind fun r4=>(
cond (decide (r4.2.2=0)) (
some (r4.1,1,r4.2.1)) (
cond (decide (r4.2.2=12)) (
some (r4.1,2,r4.2.1)) (
some (r4.1,0,r4.2.1)))))))) (
(F117 ((a0+((Int.tdiv (a1-a0) 4)*1)),(a0+((Int.tdiv (a1-a0) 4)*2)),(a0+((Int.tdiv (a1-a0) 4)*3)),a2,0)).bind fun r5=>(
cond (decide (r5.2.2=0)) (
some (r5.1,1,r5.2.1)) (
cond (decide (r5.2.2=12)) (
some (r5.1,2,r5.2.1)) (
some (r5.1,0,r5.2.1)))))) (
cond (decide ((0:Int)=0)) (
some ((a0+((Int.tdiv (a1-a0) 4)*2)),1,a2)) (
cond (decide ((0:Int)=12)) (
some ((a0+((Int.tdiv (a1-a0) 4)*2)),2,a2)) (
some ((a0+((Int.tdiv (a1-a0) 4)*2)),0,a2))))))))))))))
theorem g88 (F116:K6)(F117:yB):aK (T88 F116 F117) Kc [(.t 6),(.t 7)] c88=u3 (q88 F116 F117):=funext fun _=>by kernel_rfl
noncomputable def p88:=q88 tK ni
noncomputable def rR:od:=u3 p88
theorem v88:aK (T88 tK ni) Kc [(.t 6),(.t 7)] c88=rR:=g88 tK ni
theorem d88:DC Try.prog 88 Kc rR:=dD v88 t88 ok88
noncomputable def VP:List FEnt:=[]
theorem t89:ak Try.prog VP:=ai
def Nl:LSh:=⟨[0,6,7],⟨Ir,di⟩,J2,1,[0]⟩
noncomputable def c89:=bK Try.prog [] Try.f89 (.s .n (.s .n (.b (.l Nl Aw .n))))
noncomputable def Nn (T:List FEnt):=aB (xs:=Aw) Nl (bc T (sb [1,1,2,2] c89))
noncomputable def l89_0 (T:List FEnt):=aa (Nn T)
noncomputable def Gw (a0 a1:Int)(a2:List Int):Option (Hi⊕Y2):=
cond (decide (a0 < a1)) (
ah (aA a1 a2.length) (
ah (aA a0 a2.length) (
ah (aA a0 a2.length) (
ah (aA a1 (List.length (List.set a2 a0.toNat (ix a2 a1)))) (
ah (af .i64 (a0+1)) (
ah (af .i64 (a1-1)) (
some (Sum.inl ((a0+1),(a1-1),(List.set (List.set a2 a0.toNat (ix a2 a1)) a1.toNat (ix a2 a0))))))))))) (
some (Sum.inr a2))
theorem Yb:Nn VP=u3 Gw:=funext fun _=>by kernel_rfl
noncomputable def No:=Gw
noncomputable def Gx:dX:=aa (u3 No)
theorem Yc:l89_0 VP=Gx:=congrArg aa Yb
theorem ok89:L.Fn Try.prog 89 32 [] (erase c89):=oA Try.func89
def Kd:FSh:=⟨⟨Ir,di⟩,J2,1,⟨⟨pR,di⟩,[y19],[0],1⟩,false⟩
noncomputable def q89 (l89_0:dX)(a0 a1:Int)(a2:List Int):Option Y2:=
ah (af .i64 (a1-1)) (
(l89_0 (a0,(a1-1),a2)).bind fun y1=>(
some y1))
theorem g89:aK VP Kd [] c89=u3 (q89 (l89_0 VP)):=funext fun _=>by kernel_rfl
noncomputable def p89:=q89 Gx
noncomputable def rS:dX:=u3 p89
theorem v89:aK VP Kd [] c89=rS:=g89.trans (by rw[Yc] <;> rfl)
theorem d89:DC Try.prog 89 Kd rS:=dD v89 t89 ok89
noncomputable def ul (F91:bH):List FEnt:=[⟨91,qG,F91⟩]
theorem t90:ak Try.prog (ul P91):=dK ai TA
def rT:LSh:=⟨[0,1,2,7,8],⟨Tr,di⟩,J1,1,[0]⟩
def Np:List XSh:=[⟨(.exit 2),[0,1,2,7,8],⟨⟨Tr,di⟩,J1,[0],1⟩⟩]
def Nq:LSh:=⟨[0,1,2,7,8,9],⟨j12,di⟩,[y7,y7,y7,y7,y7,y19],1,[0]⟩
def Nr:List XSh:=[⟨(.exit 4),[0,1,2,7,8],⟨⟨Tr,di⟩,J1,[0],1⟩⟩]
def Ns:List XSh:=[⟨.normal,[0,1,2,7,8],⟨⟨Tr,di⟩,J1,[0],1⟩⟩]
def Nt:LSh:=⟨[0,1,2,7,8,10],⟨j12,di⟩,[y7,y7,y7,y7,y7,y19],1,[0]⟩
def Nu:List XSh:=[⟨(.exit 6),[0,1,2,7,8],⟨⟨Tr,di⟩,J1,[0],1⟩⟩]
def Nv:List XSh:=[⟨.ret,[6],⟨⟨fG,di⟩,[.bool,y19],[0],1⟩⟩,⟨(.exit 0),[],⟨⟨[],di⟩,[y19],[0],1⟩⟩]
noncomputable def Nw:=bK Try.prog [] Try.f90 (.s .n (.s .n (.s (.s .n (.b (.l rT Nv (.s .n (.s (.b (.s (.b (.l rT Np .n)) (.s .n (.s .n (.s .n (.s (.o rT Ns (.s .n (.s (.s .n (.b (.l Nq Nr .n))) .n))) (.s .n (.s (.s .n (.b (.l Nt Nu .n))) .n)))))))) .n))))) .n)))
noncomputable def Nx (T:List FEnt):=aB (xs:=Np) rT (bc T (sb [1,1,0,1,2,2,1,0,2,0,2,2] Nw))
noncomputable def l90_1 (T:List FEnt):=aa (Nx T)
noncomputable def Gy (F91:bH)(a0 a1 a2 a3:Int)(a4:List Int):Option (tQ⊕tQ):=
cond (decide (a2 < a1)) (
ah (aA a2 a4.length) (
ah (af .i64 (a2-1)) (
ah (aA (a2-1) a4.length) (
(F91 ((ix a4 a2),(ix a4 (a2-1)))).bind fun r1=>(
cond (!r1) (
ah (af .i64 (a2+1)) (
some (Sum.inl (a0,a1,(a2+1),a3,a4)))) (
some (Sum.inr (a0,a1,a2,a3,a4)))))))) (
some (Sum.inr (a0,a1,a2,a3,a4)))
theorem Yd (F91:bH):Nx (ul F91)=u5 (Gy F91):=funext fun _=>by kernel_rfl
noncomputable def Ny:=Gy P91
noncomputable def Gz:Ua:=aa (u5 Ny)
theorem Ye:l90_1 (ul P91)=Gz:=congrArg aa (Yd P91)
noncomputable def Nz (T:List FEnt):=aB (xs:=Nr) Nq (bc T (sb [1,1,0,1,2,2,1,0,2,1,1,1,1,0,2,1,0,1,2,2] Nw))
noncomputable def l90_3 (T:List FEnt):=aa (Nz T)
noncomputable def GA (F91:bH)(a0 a1 a2 a3 a4:Int)(a5:List Int):Option Y230:=
cond (decide (1≤a4)) (
ah (aA a4 a5.length) (
ah (af .i64 (a4-1)) (
ah (aA (a4-1) a5.length) (
(F91 ((ix a5 a4),(ix a5 (a4-1)))).bind fun r3=>(
cond (!r3) (
some (Sum.inr (a0,a1,a2,a3,a5))) (
ah (af .i64 (a4-1)) (
ah (af .i64 (a4-1)) (
ah (aA (a4-1) a5.length) (
ah (aA a4 a5.length) (
ah (aA a4 a5.length) (
ah (aA (a4-1) (List.length (List.set a5 a4.toNat (ix a5 (a4-1))))) (
ah (af .i64 (a4-1)) (
some (Sum.inl (a0,a1,a2,a3,(a4-1),(List.set (List.set a5 a4.toNat (ix a5 (a4-1))) (Int.toNat (a4-1)) (ix a5 a4))))))))))))))))) (
some (Sum.inr (a0,a1,a2,a3,a5)))
theorem Yf (F91:bH):Nz (ul F91)=u6 (GA F91):=funext fun _=>by kernel_rfl
noncomputable def NA:=GA P91
noncomputable def GB:K7:=aa (u6 NA)
theorem Yg:l90_3 (ul P91)=GB:=congrArg aa (Yf P91)
noncomputable def l90_2 (T:List FEnt):=fw (xs:=Ns) rT (bc T (sb [1,1,0,1,2,2,1,0,2,1,1,1,1,0,2] Nw))
noncomputable def GC (F91:bH)(l90_3:K7)(a0 a1 a2 a3:Int)(a4:List Int):Option tQ:=
ah (af .i64 (a2-a0)) (
cond (decide (2≤(a2-a0))) (
ah (af .i64 (a2-1)) (
(l90_3 (a0,a1,a2,a3,(a2-1),a4)).bind fun y4=>(
some (y4.1,y4.2.1,y4.2.2.1,y4.2.2.2.1,y4.2.2.2.2)))) (
some (a0,a1,a2,a3,a4)))
theorem Yh (F91:bH):l90_2 (ul F91)=u5 (GC F91 (l90_3 (ul F91))):=funext fun _=>by kernel_rfl
noncomputable def NB:=GC P91 GB
noncomputable def AB:Ua:=fun x=>NB x.1 x.2.1 x.2.2.1 x.2.2.2.1 x.2.2.2.2
theorem Yi:l90_2 (ul P91)=AB:=(Yh P91).trans (by rw[Yg] <;> rfl)
noncomputable def NC (T:List FEnt):=aB (xs:=Nu) Nt (bc T (sb [1,1,0,1,2,2,1,0,2,1,1,1,1,1,1,0,1,2,2] Nw))
noncomputable def l90_4 (T:List FEnt):=aa (NC T)
noncomputable def GD (F91:bH)(a0 a1 a2 a3 a4:Int)(a5:List Int):Option Y230:=
cond (decide (a4 < a1)) (
ah (aA a4 a5.length) (
ah (af .i64 (a4-1)) (
ah (aA (a4-1) a5.length) (
(F91 ((ix a5 a4),(ix a5 (a4-1)))).bind fun r6=>(
cond (!r6) (
some (Sum.inr (a0,a1,a2,a3,a5))) (
ah (af .i64 (a4-1)) (
ah (af .i64 (a4-1)) (
ah (aA (a4-1) a5.length) (
ah (aA a4 a5.length) (
ah (aA a4 a5.length) (
ah (aA (a4-1) (List.length (List.set a5 a4.toNat (ix a5 (a4-1))))) (
ah (af .i64 (a4+1)) (
some (Sum.inl (a0,a1,a2,a3,(a4+1),(List.set (List.set a5 a4.toNat (ix a5 (a4-1))) (Int.toNat (a4-1)) (ix a5 a4))))))))))))))))) (
some (Sum.inr (a0,a1,a2,a3,a5)))
theorem Yj (F91:bH):NC (ul F91)=u6 (GD F91):=funext fun _=>by kernel_rfl
noncomputable def NE:=GD P91
noncomputable def GE:K7:=aa (u6 NE)
theorem Yk:l90_4 (ul P91)=GE:=congrArg aa (Yj P91)
noncomputable def NF (T:List FEnt):=aB (xs:=Nv) rT (bc T (sb [1,1,0,1,2,2] Nw))
noncomputable def l90_0 (T:List FEnt):=aa (NF T)
noncomputable def GF (F91:bH)(l90_1 l90_2:Ua)(l90_4:K7)(a0 a1 a2 a3:Int)(a4:List Int):Option (tQ⊕Y231):=
cond (decide (a3 < 5)) (
(l90_1 (a0,a1,a2,a3,a4)).bind fun y2=>(
cond (decide (y2.2.2.1=y2.2.1)) (
some (Sum.inr (Sum.inl (true,y2.2.2.2.2)))) (
ah (af .i64 (y2.2.1-y2.1)) (
cond (decide ((y2.2.1-y2.1) < 50)) (
some (Sum.inr (Sum.inl (false,y2.2.2.2.2)))) (
ah (af .i64 (y2.2.2.1-1)) (
ah (af .i64 (y2.2.2.1-1)) (
ah (aA (y2.2.2.1-1) y2.2.2.2.2.length) (
ah (aA y2.2.2.1 y2.2.2.2.2.length) (
ah (aA y2.2.2.1 y2.2.2.2.2.length) (
ah (aA (y2.2.2.1-1) (List.length (List.set y2.2.2.2.2 y2.2.2.1.toNat (ix y2.2.2.2.2 (y2.2.2.1-1))))) (
(l90_2 (y2.1,y2.2.1,y2.2.2.1,y2.2.2.2.1,(List.set (List.set y2.2.2.2.2 y2.2.2.1.toNat (ix y2.2.2.2.2 (y2.2.2.1-1))) (Int.toNat (y2.2.2.1-1)) (ix y2.2.2.2.2 y2.2.2.1)))).bind fun y5=>(
ah (af .i64 (y5.2.1-y5.2.2.1)) (
cond (decide (2≤(y5.2.1-y5.2.2.1))) (
ah (af .i64 (y5.2.2.1+1)) (
(l90_4 (y5.1,y5.2.1,y5.2.2.1,y5.2.2.2.1,(y5.2.2.1+1),y5.2.2.2.2)).bind fun y7=>(
ah (af .i64 (y7.2.2.2.1+1)) (
some (Sum.inl (y7.1,y7.2.1,y7.2.2.1,(y7.2.2.2.1+1),y7.2.2.2.2)))))) (
ah (af .i64 (y5.2.2.2.1+1)) (
some (Sum.inl (y5.1,y5.2.1,y5.2.2.1,(y5.2.2.2.1+1),y5.2.2.2.2))))))))))))))))) (
some (Sum.inr (Sum.inr a4)))
theorem Yl (F91:bH):NF (ul F91)=u5 (GF F91 (l90_1 (ul F91)) (l90_2 (ul F91)) (l90_4 (ul F91))):=funext fun _=>by kernel_rfl
noncomputable def NG:=GF P91 Gz AB GE
noncomputable def GG:Y245:=aa (u5 NG)
theorem Ym:l90_0 (ul P91)=GG:=congrArg aa ((Yl P91).trans (by rw[Ye,Yi,Yk] <;> rfl))
theorem ok90:L.Fn Try.prog 90 133 [(.t 6)] (erase Nw):=oA Try.func90
def Ke:FSh:=⟨⟨Ir,di⟩,J2,1,⟨⟨fG,di⟩,[.bool,y19],[0],1⟩,false⟩
noncomputable def q90 (F91:bH)(l90_0:Y245)(a0 a1:Int)(a2:List Int):Option TZ:=
ah (af .i64 (a0+1)) (
(l90_0 (a0,a1,(a0+1),0,a2)).bind (fun y8=>Sum.elim (fun y9=>(
some (y9.1,y9.2))) (fun y10=>(
some (false,y10))) y8))
theorem g90 (F91:bH):aK (ul F91) Ke [(.t 6)] Nw=u3 (q90 F91 (l90_0 (ul F91))):=funext fun _=>by kernel_rfl
noncomputable def p90:=q90 P91 GG
noncomputable def rU:oe:=u3 p90
theorem v90:aK (ul P91) Ke [(.t 6)] Nw=rU:=(g90 P91).trans (by rw[Ym] <;> rfl)
theorem d90:DC Try.prog 90 Ke rU:=dD v90 t90 ok90
noncomputable def C3 (F91:bH):List FEnt:=[⟨91,qG,F91⟩]
theorem t92:ak Try.prog (C3 P91):=dK ai TA
def rV:LSh:=⟨[0,1,9,10],⟨vL,di⟩,vK,1,[0]⟩
def NH:List XSh:=[⟨(.exit 2),[0,1,9,10],⟨⟨vL,di⟩,vK,[0],1⟩⟩]
def NI:List XSh:=[⟨(.exit 4),[0,1,9,10],⟨⟨vL,di⟩,vK,[0],1⟩⟩]
def NJ:List XSh:=[⟨(.exit 0),[9],⟨⟨mh,di⟩,[y7,y19],[0],1⟩⟩]
noncomputable def VQ:=bK Try.prog [] Try.f92 (.s .n (.s .n (.s .n (.s (.b (.l rV NJ (.b (.s (.b (.l rV NH .n)) (.s (.b (.l rV NI .n)) .n))))) .n))))
noncomputable def NK (T:List FEnt):=aB (xs:=NH) rV (bc T (sb [1,1,1,0,2,2,2,0,2,2] VQ))
noncomputable def l92_1 (T:List FEnt):=aa (NK T)
noncomputable def GH (F91:bH)(a0 a1 a2:Int)(a3:List Int):Option CH:=
cond (decide (a1≤a2)) (
ah (aA a0 a3.length) (
ah (aA a1 a3.length) (
(F91 ((ix a3 a0),(ix a3 a1))).bind fun r1=>(
cond (!r1) (
ah (af .i64 (a1+1)) (
some (Sum.inl (a0,(a1+1),a2,a3)))) (
some (Sum.inr (a0,a1,a2,a3))))))) (
some (Sum.inr (a0,a1,a2,a3)))
theorem Yn (F91:bH):NK (C3 F91)=u4 (GH F91):=funext fun _=>by kernel_rfl
noncomputable def NL:=GH P91
noncomputable def GI:tR:=aa (u4 NL)
theorem Yo:l92_1 (C3 P91)=GI:=congrArg aa (Yn P91)
noncomputable def NM (T:List FEnt):=aB (xs:=NI) rV (bc T (sb [1,1,1,0,2,2,2,1,0,2,2] VQ))
noncomputable def l92_2 (T:List FEnt):=aa (NM T)
noncomputable def GJ (F91:bH)(a0 a1 a2:Int)(a3:List Int):Option CH:=
cond (decide (a1≤a2)) (
ah (aA a0 a3.length) (
ah (aA a2 a3.length) (
(F91 ((ix a3 a0),(ix a3 a2))).bind fun r3=>(
cond r3 (
ah (af .i64 (a2-1)) (
some (Sum.inl (a0,a1,(a2-1),a3)))) (
some (Sum.inr (a0,a1,a2,a3))))))) (
some (Sum.inr (a0,a1,a2,a3)))
theorem Yp (F91:bH):NM (C3 F91)=u4 (GJ F91):=funext fun _=>by kernel_rfl
noncomputable def NN:=GJ P91
noncomputable def GK:tR:=aa (u4 NN)
theorem Yq:l92_2 (C3 P91)=GK:=congrArg aa (Yp P91)
noncomputable def NO (T:List FEnt):=aB (xs:=NJ) rV (bc T (sb [1,1,1,0,2,2] VQ))
noncomputable def l92_0 (T:List FEnt):=aa (NO T)
noncomputable def GL (F91:bH)(l92_1 l92_2:tR)(a0 a1 a2:Int)(a3:List Int):Option (tP⊕It):=
(l92_1 (a0,a1,a2,a3)).bind fun y2=>(
(l92_2 (y2.1,y2.2.1,y2.2.2.1,y2.2.2.2)).bind fun y4=>(
cond (decide (y4.2.2.1 < y4.2.1)) (
some (Sum.inr (y4.2.1,y4.2.2.2))) (
ah (aA y4.2.2.1 y4.2.2.2.length) (
ah (aA y4.2.1 y4.2.2.2.length) (
ah (aA y4.2.1 y4.2.2.2.length) (
ah (aA y4.2.2.1 (List.length (List.set y4.2.2.2 y4.2.1.toNat (ix y4.2.2.2 y4.2.2.1)))) (
ah (af .i64 (y4.2.1+1)) (
ah (af .i64 (y4.2.2.1-1)) (
some (Sum.inl (y4.1,(y4.2.1+1),(y4.2.2.1-1),(List.set (List.set y4.2.2.2 y4.2.1.toNat (ix y4.2.2.2 y4.2.2.1)) y4.2.2.1.toNat (ix y4.2.2.2 y4.2.1)))))))))))))
theorem Yr (F91:bH):NO (C3 F91)=u4 (GL F91 (l92_1 (C3 F91)) (l92_2 (C3 F91))):=funext fun _=>by kernel_rfl
noncomputable def NP:=GL P91 GI GK
noncomputable def GM:l6:=aa (u4 NP)
theorem Ys:l92_0 (C3 P91)=GM:=congrArg aa ((Yr P91).trans (by rw[Yo,Yq] <;> rfl))
theorem ok92:L.Fn Try.prog 92 84 [(.t 8)] (erase VQ):=oA Try.func92
def Kf:FSh:=⟨⟨vL,di⟩,vK,1,⟨⟨mh,di⟩,[y7,y19],[0],1⟩,false⟩
noncomputable def q92 (F91:bH)(l92_0:l6)(a0 a1 a2:Int)(a3:List Int):Option It:=
ah (aA a2 a3.length) (
ah (aA a0 a3.length) (
ah (aA a0 a3.length) (
ah (aA a2 (List.length (List.set a3 a0.toNat (ix a3 a2)))) (
ah (af .i64 (a0+1)) (
ah (af .i64 (a1-1)) (
(l92_0 (a0,(a0+1),(a1-1),(List.set (List.set a3 a0.toNat (ix a3 a2)) a2.toNat (ix a3 a0)))).bind fun y5=>(
some (y5.1,y5.2))))))))
theorem g92 (F91:bH):aK (C3 F91) Kf [(.t 8)] VQ=u4 (q92 F91 (l92_0 (C3 F91))):=funext fun _=>by kernel_rfl
noncomputable def p92:=q92 P91 GM
noncomputable def rW:l6:=u4 p92
theorem v92:aK (C3 P91) Kf [(.t 8)] VQ=rW:=(g92 P91).trans (by rw[Ys] <;> rfl)
theorem d92:DC Try.prog 92 Kf rW:=dD v92 t92 ok92
end Go.Proofs.Ytdkaijofmigmbaa.D
