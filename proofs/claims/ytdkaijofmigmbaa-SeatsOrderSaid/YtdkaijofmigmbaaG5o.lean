import Derived.Test.YtdkaijofmigmbaaG4o
import Derived.Test.YtdkaijofmigmbaaProg
set_option linter.unusedVariables false
set_option maxRecDepth 100000
namespace Go.Proofs.Ytdkaijofmigmbaa.D
open Go Go.Proofs Go.Proofs.Ytdkaijofmigmbaa.L
def IJ:List Ty:=[aW,bc,y7]
def z14:List Ty:=[aW,bc,y7,y7,y7]
def TC:List Ty:=[aW,bc,y7,y7]
def K8:List Ty:=[y7,y7,y7,y7,y19]
def uE:List Ty:=[y7,y7,y7,y19]
def IK:List Ty:=[y7,y7,y19]
def IL:List RSh:=[(.st aW),(.v bc),(.v y7)]
def j20:List RSh:=[(.st aW),(.v bc),(.v y7),(.v y7),(.v y7)]
def TD:List RSh:=[(.st aW),(.v bc),(.v y7),(.v y7)]
def j43:List RSh:=[(.v y7),(.v y7)]
def Ro:List RSh:=[(.slc 0),(.v y7),(.v y7),(.v y7),(.v y7)]
def uF:List RSh:=[(.slc 0),(.v y7),(.v y7),(.v y7)]
def j12:List RSh:=[(.slc 0),(.v y7),(.v y7),(.v y7),(.v y7),(.v y7)]
def k10:List (Nat×OSh):=[(0,(.box [(.v y19),(.v y7),(.slr 2),(.mp 3),(.slc 4)])),(1,(.pool cW)),(2,(.rows 22 3 y7)),(3,(.pmap 1)),(4,(.row 3 y7))]
def k3:List (Nat×OSh):=[(0,(.box [(.v y19),(.v y7),(.slr 2),(.mp 3),(.slc 4)])),(1,(.row 40 cW)),(2,(.rows 22 3 y7)),(3,(.pmap 5)),(4,(.row 3 y7)),(5,(.pool cW))]
def TE:List (Nat×OSh):=[(0,(.row 3 y7)),(1,(.boxT y7))]
noncomputable def mJ:List FEnt:=[]
theorem Rp:al Try.prog mJ:=ak
def uG:LSh:=⟨[0,1,2,11,12],⟨j19,k10⟩,z9,5,[0,1,2,3,4]⟩
def uH:List XSh:=[⟨(.exit 0),[1,2],⟨⟨[(.pel 1),(.v y7)],k10⟩,z10,[0,1,2,3,4],5⟩⟩]
noncomputable def sL:=bU Try.prog [] Try.f111 (.s (.s .n (.b (.l uG uH .n))) .n)
noncomputable def uI (T:List FEnt):=aG (xs:=uH) uG (bf T (sb [0,1,2,2] sL))
noncomputable def l111v1_0 (T:List FEnt):=af (uI T)
noncomputable def uJ (a0 a1 a2 a3:Int)(a4:List Int)(a5:Int)(a6:List Y3)(a7:List Y2)(a8:List Int):Option RZ:=
cond (decide (a3 < a2)) (
ai (aC ((pd a6 a0).2.1) a7.length) (
ai (ah .i64 ((pd a6 a0).2.2.1+a3)) (
ai (aC ((pd a6 a0).2.2.1+a3) (List.length (ix a7 ((pd a6 a0).2.1)))) (
ai (ah .i64 (a3+1)) (
some (Sum.inl (a0,a1,a2,(a3+1),a4,a5,a6,(List.set a7 (Int.toNat ((pd a6 a0).2.1)) (List.set (ix a7 ((pd a6 a0).2.1)) (Int.toNat ((pd a6 a0).2.2.1+a3)) (-1))),a8))))))) (
some (Sum.inr (a0,a1,a4,a5,a6,a7,a8)))
theorem Fb:uI mJ=u9 uJ:=funext fun _=>by kernel_rfl
noncomputable def Fc:=uJ
noncomputable def uK:JC:=af (fun x=>Fc x.1 x.2.1 x.2.2.1 x.2.2.2.1 x.2.2.2.2.1 x.2.2.2.2.2.1 x.2.2.2.2.2.2.1 x.2.2.2.2.2.2.2.1 x.2.2.2.2.2.2.2.2)
theorem Fd:l111v1_0 mJ=uK:=congrArg af Fb
theorem IN:L.Fn Try.prog 111 48 [] (erase sL):=Fn.ofA aM Try.func111 _ _ (by kernel_rfl)
def n5:FSh:=⟨⟨[(.ptr 0 0),(.pel 1),(.v y7)],k10⟩,z10,5,⟨⟨pc,k10⟩,[y19,y7,n6,cG,y19],[0,1,2,3,4],5⟩,false⟩
noncomputable def Fe (l111v1_0:JC)(a0 a1:Int)(a2:List Int)(a3:Int)(a4:List Y3)(a5:List Y2)(a6:List Int):Option RW:=
(l111v1_0 (a0,a1,(pd a4 a0).2.2.2.1,0,a2,a3,a4,a5,a6)).bind fun y1=>(
some (y1.2.2.1,y1.2.2.2.1,(Ch (Cg (xQ y1.2.2.2.2.1 y1.1 y1.2.1) y1.1 (-1)) y1.1 (-1)),y1.2.2.2.2.2.1,y1.2.2.2.2.2.2))
theorem g111v1:aO mJ n5 [] sL=u7 (Fe (l111v1_0 mJ)):=funext fun _=>by kernel_rfl
noncomputable def Ff:=Fe uK
noncomputable def P111v1:pX:=fun x=>Ff x.1 x.2.1 x.2.2.1 x.2.2.2.1 x.2.2.2.2.1 x.2.2.2.2.2.1 x.2.2.2.2.2.2
theorem Rq:aO mJ n5 [] sL=P111v1:=g111v1.trans (by rw[Fd] <;> rfl)
theorem Rr:DC Try.prog 111 n5 P111v1:=aD Rq (aj Rp IN (by kernel_rfl))
noncomputable def T84 (F43:nA)(F112:JD)(F111v1:pX):List FEnt:=[⟨43,Bx,F43⟩,⟨112,zC,F112⟩,⟨111,n5,F111v1⟩]
theorem t84:al Try.prog (T84 nu pR P111v1):=(aa d43 (by kernel_rfl) (aa d112 (by kernel_rfl) (aa Rr (by kernel_rfl) ak)))
noncomputable def c84:=bU Try.prog [] Try.f84 (.s .n (.s .n (.b (.s .n (.s .n (.s .n (.s .n (.s .n (.s (.r [.a 7 false y7,.a 8 false y7]) .n)))))))))
theorem ok84:L.Fn Try.prog 84 70 [] (erase c84):=Fn.ofA aM Try.func84 _ _ (by kernel_rfl)
def IP:FSh:=⟨⟨[(.ptr 0 0),(.st cW)],k9⟩,[cW,y19,y7,cG,y19,n6],5,⟨⟨pc,k9⟩,z12,[0,1,2],5⟩,false⟩
noncomputable def q84 (F43:nA)(F112:JD)(F111v1:pX)(a0:Y1)(a1:List Int)(a2:Int)(a3:List Y2)(a4:List Int)(a5:List Y3):Option uU:=
(F43 (a0.2.2.2.1,a1,a2,a3,a4,a5)).bind fun r1=>(
cond (decide (a0.2.2.1=1)) (
(F112 (a0.2.2.2.1,a0.2.2.2.2,a0.2.1,r1.2.1,r1.2.2.1,r1.2.2.2.1,r1.2.2.2.2.1,r1.2.2.2.2.2)).bind fun r2=>(
some (r2.1,r2.2.1,r2.2.2.1,r2.2.2.2.1,r2.2.2.2.2))) (
cond (decide (a0.2.2.1=2)) (
cond (decide ((pd r1.2.2.2.2.2 r1.1).1=2)) (
some (r1.2.1,r1.2.2.1,r1.2.2.2.1,r1.2.2.2.2.1,(xQ r1.2.2.2.2.2 r1.1 3))) (
cond (decide (a0.2.2.1=2)) (
ai (bM 8 (List.length r1.2.2.2.2.1+List.length ([a0.2.2.2.1]:List Int))) (
some (r1.2.1,r1.2.2.1,r1.2.2.2.1,(r1.2.2.2.2.1++([a0.2.2.2.1]:List Int)),r1.2.2.2.2.2))) (
cond (decide ((pd r1.2.2.2.2.2 r1.1).1=2)) (
(F111v1 (r1.1,5,r1.2.1,r1.2.2.1,r1.2.2.2.2.2,r1.2.2.2.1,r1.2.2.2.2.1)).bind fun r3=>(
some (r3.1,r3.2.1,r3.2.2.2.1,r3.2.2.2.2,r3.2.2.1))) (
cond (decide ((pd r1.2.2.2.2.2 r1.1).1=3)) (
(F111v1 (r1.1,5,r1.2.1,r1.2.2.1,r1.2.2.2.2.2,r1.2.2.2.1,r1.2.2.2.2.1)).bind fun r4=>(
some (r4.1,r4.2.1,r4.2.2.2.1,r4.2.2.2.2,r4.2.2.1))) (
some (r1.2.1,r1.2.2.1,r1.2.2.2.1,r1.2.2.2.2.1,r1.2.2.2.2.2)))))) (
cond (decide (a0.2.2.1=2)) (
ai (bM 8 (List.length r1.2.2.2.2.1+List.length ([a0.2.2.2.1]:List Int))) (
some (r1.2.1,r1.2.2.1,r1.2.2.2.1,(r1.2.2.2.2.1++([a0.2.2.2.1]:List Int)),r1.2.2.2.2.2))) (
cond (decide ((pd r1.2.2.2.2.2 r1.1).1=2)) (
(F111v1 (r1.1,5,r1.2.1,r1.2.2.1,r1.2.2.2.2.2,r1.2.2.2.1,r1.2.2.2.2.1)).bind fun r5=>(
some (r5.1,r5.2.1,r5.2.2.2.1,r5.2.2.2.2,r5.2.2.1))) (
cond (decide ((pd r1.2.2.2.2.2 r1.1).1=3)) (
(F111v1 (r1.1,5,r1.2.1,r1.2.2.1,r1.2.2.2.2.2,r1.2.2.2.1,r1.2.2.2.2.1)).bind fun r6=>(
some (r6.1,r6.2.1,r6.2.2.2.1,r6.2.2.2.2,r6.2.2.1))) (
some (r1.2.1,r1.2.2.1,r1.2.2.2.1,r1.2.2.2.2.1,r1.2.2.2.2.2)))))))
theorem g84 (F43:nA)(F112:JD)(F111v1:pX):aO (T84 F43 F112 F111v1) IP [] c84=u6 (q84 F43 F112 F111v1):=funext fun _=>by kernel_rfl
noncomputable def p84:=q84 nu pR P111v1
noncomputable def P84:BL:=fun x=>p84 x.1 x.2.1 x.2.2.1 x.2.2.2.1 x.2.2.2.2.1 x.2.2.2.2.2
theorem v84:aO (T84 nu pR P111v1) IP [] c84=P84:=g84 nu pR P111v1
theorem d84:DC Try.prog 84 IP P84:=aD v84 (aj t84 ok84 (by kernel_rfl))
noncomputable def TF (F77:BJ)(F79:mL)(F78:mL)(F82:mL)(F83:BK)(F84:BL):List FEnt:=[⟨77,Iq,F77⟩,⟨79,Ir,F79⟩,⟨78,IC,F78⟩,⟨82,IE,F82⟩,⟨83,IH,F83⟩,⟨84,IP,F84⟩]
theorem t65:al Try.prog (TF Bo Bp zt tj P83 P84):=(aa d77 (by kernel_rfl) (aa d79 (by kernel_rfl) (aa d78 (by kernel_rfl) (aa d82 (by kernel_rfl) (aa d83 (by kernel_rfl) (aa d84 (by kernel_rfl) ak))))))
def K9:LSh:=⟨[2,7,17,18,19],⟨[(.v y7),(.ptr 0 0),(.slc 1),(.v y7),(.v y7)],k3⟩,[y7,y7,y7,y19,y7,bc,cG,y19,n6],6,[0,1,2,3]⟩
def La:List XSh:=[⟨(.exit 0),[2,7],⟨⟨[(.v y7),(.ptr 0 0)],k3⟩,[y7,y19,y7,bc,cG,y19,n6],[0,1,2,3],6⟩⟩]
noncomputable def c65:=bU Try.prog [] Try.f65 (.s .n (.s .n (.s .n (.s (.s .n (.b (.l K9 La .n))) .n))))
noncomputable def Lb (T:List FEnt):=aG (xs:=La) K9 (bf T (sb [1,1,1,0,1,2,2] c65))
noncomputable def l65_0 (T:List FEnt):=af (Lb T)
noncomputable def qT (F77:BJ)(F79 F78 F82:mL)(F83:BK)(F84:BL)(a0 a1 a2:Int)(a3:List Int)(a4:Int)(a5:List Y1)(a6:List Y2)(a7:List Int)(a8:List Y3):Option Zn:=
cond (decide (a2 < a1)) (
ai (aC a2 a5.length) (
cond (decide (a0 < (ix a5 a2).2.1)) (
some (Sum.inr (a0,a3,a4,a5,a6,a7,a8))) (
(F83 ((ix a5 a2).2.1,a3,a4,a6,a7,a8)).bind fun r5=>(
(F84 ((ix a5 a2),r5.1,r5.2.1,r5.2.2.1,r5.2.2.2.1,r5.2.2.2.2)).bind fun r6=>(
ai (ah .i64 (a2+1)) (
some (Sum.inl (a0,a1,(a2+1),r6.1,r6.2.1,a5,r6.2.2.1,r6.2.2.2.1,r6.2.2.2.2)))))))) (
some (Sum.inr (a0,a3,a4,a5,a6,a7,a8)))
theorem VB (F77:BJ)(F79 F78 F82:mL)(F83:BK)(F84:BL):Lb (TF F77 F79 F78 F82 F83 F84)=u9 (qT F77 F79 F78 F82 F83 F84):=funext fun _=>by kernel_rfl
noncomputable def Lc:=qT Bo Bp zt tj P83 P84
noncomputable def L65_0:Zl:=af (fun x=>Lc x.1 x.2.1 x.2.2.1 x.2.2.2.1 x.2.2.2.2.1 x.2.2.2.2.2.1 x.2.2.2.2.2.2.1 x.2.2.2.2.2.2.2.1 x.2.2.2.2.2.2.2.2)
theorem VC:l65_0 (TF Bo Bp zt tj P83 P84)=L65_0:=congrArg af (VB Bo Bp zt tj P83 P84)
theorem ok65:L.Fn Try.prog 65 39 [(.t 6)] (erase c65):=Fn.ofA aM Try.func65 _ _ (by kernel_rfl)
def Fg:FSh:=⟨⟨IL,[]⟩,IJ,0,⟨⟨Ie,k9⟩,z12,[],5⟩,false⟩
noncomputable def q65 (F77:BJ)(F79 F78 F82:mL)(F83:BK)(F84:BL)(l65_0:Zl)(a0:Y2×Int)(a1:List Y1)(a2:Int):Option uU:=
(F77 a0).bind fun r1=>(
(F79 a1).bind fun r2=>(
(F78 r2).bind fun r3=>(
(F82 r3).bind fun r4=>(
(l65_0 (a2,(↑r4.length:Int),0,r1.1,r1.2.1,r4,r1.2.2.1,([]:List Int),r1.2.2.2)).bind fun y7=>(
(F83 (y7.1,y7.2.1,y7.2.2.1,y7.2.2.2.2.1,y7.2.2.2.2.2.1,y7.2.2.2.2.2.2)).bind fun r8=>(
some (r8.1,r8.2.1,r8.2.2.1,r8.2.2.2.1,r8.2.2.2.2)))))))
theorem g65 (F77:BJ)(F79 F78 F82:mL)(F83:BK)(F84:BL):aO (TF F77 F79 F78 F82 F83 F84) Fg [(.t 6)] c65=u3 (q65 F77 F79 F78 F82 F83 F84 (l65_0 (TF F77 F79 F78 F82 F83 F84))):=funext fun _=>by kernel_rfl
noncomputable def p65:=q65 Bo Bp zt tj P83 P84 L65_0
noncomputable def P65:xM:=fun x=>p65 x.1 x.2.1 x.2.2
theorem v65:aO (TF Bo Bp zt tj P83 P84) Fg [(.t 6)] c65=P65:=(g65 Bo Bp zt tj P83 P84).trans (by rw[VC] <;> rfl)
theorem d65:DC Try.prog 65 Fg P65:=aD v65 (aj t65 ok65 (by kernel_rfl))
noncomputable def T42 (F26:tt)(F60:Y5)(F65:xM):List FEnt:=[⟨26,Bm,F26⟩,⟨60,sw,F60⟩,⟨65,Fg,F65⟩]
theorem t42:al Try.prog (T42 uw P60 P65):=(aa d26 (by kernel_rfl) (aa Tp (by kernel_rfl) (aa d65 (by kernel_rfl) ak)))
noncomputable def c42:=bU Try.prog [] Try.f42 .n
theorem ok42:L.Fn Try.prog 42 36 [(.t 10),(.t 11)] (erase c42):=Fn.ofA aM Try.func42 _ _ (by kernel_rfl)
def xy:FSh:=⟨⟨j20,[]⟩,z14,0,⟨⟨[(.tup [.nilp,(.v y7)])],[]⟩,[y7],[],0⟩,true⟩
noncomputable def q42 (F26:tt)(F60:Y5)(F65:xM)(a0:Y2×Int)(a1:List Y1)(a2 a3 a4:Int):Option Int:=
(F26 (a0,a1)).bind fun r1=>(
cond (!decide (r1=0)) (
some r1) (
(F60 (a2,0,9999)).bind fun r2=>(
cond (!r2) (
some 1) (
(F60 (a3,0,99)).bind fun r3=>(
cond (!r3) (
some 1) (
(F60 (a4,1,12)).bind fun r4=>(
cond (!r4) (
some 1) (
(F65 (a0,a1,a2)).bind fun r5=>(
none)))))))))
theorem g42 (F26:tt)(F60:Y5)(F65:xM):aO (T42 F26 F60 F65) xy [(.t 10),(.t 11)] c42=u5 (q42 F26 F60 F65):=funext fun _=>by kernel_rfl
noncomputable def p42:=q42 uw P60 P65
noncomputable def pg:eW:=fun x=>p42 x.1 x.2.1 x.2.2.1 x.2.2.2.1 x.2.2.2.2
theorem v42:aO (T42 uw P60 P65) xy [(.t 10),(.t 11)] c42=pg:=g42 uw P60 P65
theorem d42:DC Try.prog 42 xy pg:=aD v42 (aj t42 ok42 (by kernel_rfl))
noncomputable def Fh (F26:tt)(F60:Y5)(F65:xM):List FEnt:=[⟨26,Bm,F26⟩,⟨60,sw,F60⟩,⟨65,Fg,F65⟩]
theorem VD:al Try.prog (Fh uw P60 P65):=(aa d26 (by kernel_rfl) (aa Tp (by kernel_rfl) (aa d65 (by kernel_rfl) ak)))
noncomputable def Fi:=bU Try.prog [] Try.f42 .n
theorem Rs:L.Fn Try.prog 42 36 [(.t 10),(.t 11)] (erase Fi):=Fn.ofA aM Try.func42 _ _ (by kernel_rfl)
def kK:FSh:=⟨⟨j20,[]⟩,z14,0,⟨⟨[(.tup To)],k9⟩,Tn,[],5⟩,false⟩
noncomputable def zD (F26:tt)(F60:Y5)(F65:xM)(a0:Y2×Int)(a1:List Y1)(a2 a3 a4:Int):Option lE:=
(F26 (a0,a1)).bind fun r1=>(
cond (!decide (r1=0)) (
none) (
(F60 (a2,0,9999)).bind fun r2=>(
cond (!r2) (
none) (
(F60 (a3,0,99)).bind fun r3=>(
cond (!r3) (
none) (
(F60 (a4,1,12)).bind fun r4=>(
cond (!r4) (
none) (
(F65 (a0,a1,a2)).bind fun r5=>(
some (0,r5.1,r5.2.1,r5.2.2.1,r5.2.2.2.1,r5.2.2.2.2))))))))))
theorem VE (F26:tt)(F60:Y5)(F65:xM):aO (Fh F26 F60 F65) kK [(.t 10),(.t 11)] Fi=u5 (zD F26 F60 F65):=funext fun _=>by kernel_rfl
noncomputable def VF:=zD uw P60 P65
noncomputable def P42v1:mM:=fun x=>VF x.1 x.2.1 x.2.2.1 x.2.2.2.1 x.2.2.2.2
theorem VG:aO (Fh uw P60 P65) kK [(.t 10),(.t 11)] Fi=P42v1:=VE uw P60 P65
theorem zE:DC Try.prog 42 kK P42v1:=aD VG (aj VD Rs (by kernel_rfl))
noncomputable def T15 (F42:eW)(F42v1:mM)(F43:nA):List FEnt:=[⟨42,xy,F42⟩,⟨42,kK,F42v1⟩,⟨43,Bx,F43⟩]
theorem t15:al Try.prog (T15 pg P42v1 nu):=(aa d42 (by kernel_rfl) (aa zE (by kernel_rfl) (aa d43 (by kernel_rfl) ak)))
noncomputable def c15:=bU Try.prog [] Try.f15 .n
theorem ok15:L.Fn Try.prog 15 30 [(.cell 8 true 4),(.t 9)] (erase c15):=Fn.ofA aM Try.func15 _ _ (by kernel_rfl)
def pS:FSh:=⟨⟨TD,[]⟩,TC,0,⟨⟨[(.tup [(.st eV),(.v y7)])],[]⟩,[eV,y7],[],0⟩,true⟩
noncomputable def q15 (F42:eW)(F42v1:mM)(F43:nA)(a0:Y2×Int)(a1:List Y1)(a2 a3:Int):Option R0:=
Kk (F42 (a0,a1,a2,a3,1)) (fun r1=>(
cond (!decide (r1=0)) (
some ((0,(0,(0,0))),r1)) (
none))) (
(F42v1 (a0,a1,a2,a3,1)).bind fun r2=>(
cond (!decide (r2.1=0)) (
some ((0,(0,(0,0))),r2.1)) (
(F43 (a3,r2.2.1,r2.2.2.1,r2.2.2.2.1,r2.2.2.2.2.1,r2.2.2.2.2.2)).bind fun r3=>(
some (((pd r3.2.2.2.2.2 r3.1).1,((pd r3.2.2.2.2.2 r3.1).2.1,((pd r3.2.2.2.2.2 r3.1).2.2.1,(pd r3.2.2.2.2.2 r3.1).2.2.2.1))),0)))))
theorem g15 (F42:eW)(F42v1:mM)(F43:nA):aO (T15 F42 F42v1 F43) pS [(.cell 8 true 4),(.t 9)] c15=u4 (q15 F42 F42v1 F43):=funext fun _=>by kernel_rfl
noncomputable def p15:=q15 pg P42v1 nu
noncomputable def P15:dn:=fun x=>p15 x.1 x.2.1 x.2.2.1 x.2.2.2
theorem v15:aO (T15 pg P42v1 nu) pS [(.cell 8 true 4),(.t 9)] c15=P15:=g15 pg P42v1 nu
theorem VH:DC Try.prog 15 pS P15:=aD v15 (aj t15 ok15 (by kernel_rfl))
noncomputable def T21 (F42:eW)(F42v1:mM)(F46:uV):List FEnt:=[⟨42,xy,F42⟩,⟨42,kK,F42v1⟩,⟨46,sh46,F46⟩]
theorem t21:al Try.prog (T21 pg P42v1 pY):=(aa d42 (by kernel_rfl) (aa zE (by kernel_rfl) (aa d46 (by kernel_rfl) ak)))
noncomputable def c21:=bU Try.prog [] Try.f21 .n
theorem ok21:L.Fn Try.prog 21 37 [(.t 8),(.t 9),(.t 10)] (erase c21):=Fn.ofA aM Try.func21 _ _ (by kernel_rfl)
def xz:FSh:=⟨⟨TD,[]⟩,TC,0,⟨⟨[(.tup j36)],[]⟩,[y7,y7,y7],[],0⟩,true⟩
noncomputable def q21 (F42:eW)(F42v1:mM)(F46:uV)(a0:Y2×Int)(a1:List Y1)(a2 a3:Int):Option cj:=
Kk (F42 (a0,a1,a2,0,a3)) (fun r1=>(
cond (!decide (r1=0)) (
some (0,0,r1)) (
none))) (
(F42v1 (a0,a1,a2,0,a3)).bind fun r2=>(
cond (!decide (r2.1=0)) (
some (0,0,r2.1)) (
(F46 (a3,r2.2.1,r2.2.2.1,r2.2.2.2.1,r2.2.2.2.2.1,r2.2.2.2.2.2)).bind fun r3=>(
cond (!r3.2.1) (
some (0,0,3)) (
some (r3.1.2.1,r3.1.2.2.1,0))))))
theorem g21 (F42:eW)(F42v1:mM)(F46:uV):aO (T21 F42 F42v1 F46) xz [(.t 8),(.t 9),(.t 10)] c21=u4 (q21 F42 F42v1 F46):=funext fun _=>by kernel_rfl
noncomputable def p21:=q21 pg P42v1 pY
noncomputable def P21:iQ:=fun x=>p21 x.1 x.2.1 x.2.2.1 x.2.2.2
theorem v21:aO (T21 pg P42v1 pY) xz [(.t 8),(.t 9),(.t 10)] c21=P21:=g21 pg P42v1 pY
theorem d21:DC Try.prog 21 xz P21:=aD v21 (aj t21 ok21 (by kernel_rfl))
noncomputable def Rt:List FEnt:=[]
theorem t118:al Try.prog Rt:=ak
noncomputable def Ru:=bU Try.prog [] Try.f118 .n
theorem VI:L.Fn Try.prog 118 6 [(.t 2)] (erase Ru):=Fn.ofA aM Try.func118 _ _ (by kernel_rfl)
def zF:FSh:=⟨⟨nr,[]⟩,[y7],0,⟨⟨fk,[]⟩,[.bool],[],0⟩,true⟩
noncomputable def VJ (a0:Int):Option Bool:=
some (!decide (a0=a0))
theorem g118 (a0:Int):aO Rt zF [(.t 2)] Ru a0=VJ a0:=by kernel_rfl
noncomputable def p118:=VJ
noncomputable def uL:lP:=fun x=>p118 x
theorem v118:aO Rt zF [(.t 2)] Ru=uL:=funext fun x=>(g118 x)
theorem d118:DC Try.prog 118 zF uL:=aD v118 (aj t118 VI (by kernel_rfl))
noncomputable def T91 (F118:lP):List FEnt:=[⟨118,zF,F118⟩]
theorem t91:al Try.prog (T91 uL):=(aa d118 (by kernel_rfl) ak)
noncomputable def c91:=bU Try.prog [] Try.f91 .n
theorem ok91:L.Fn Try.prog 91 17 [(.t 4)] (erase c91):=Fn.ofA aM Try.func91 _ _ (by kernel_rfl)
def pT:FSh:=⟨⟨j43,[]⟩,[y7,y7],0,⟨⟨fk,[]⟩,[.bool],[],0⟩,true⟩
noncomputable def q91 (F118:lP)(a0 a1:Int):Option Bool:=
(F118 a0).bind fun r1=>(
cond r1 (
(F118 a1).bind fun r2=>(
cond (!r2) (
some true) (
some (decide (a0 < a1))))) (
some (decide (a0 < a1))))
theorem g91 (F118:lP):aO (T91 F118) pT [(.t 4)] c91=u2 (q91 F118):=funext fun _=>by kernel_rfl
noncomputable def p91:=q91 uL
noncomputable def P91:bJ:=fun x=>p91 x.1 x.2
theorem v91:aO (T91 uL) pT [(.t 4)] c91=P91:=g91 uL
theorem Rv:DC Try.prog 91 pT P91:=aD v91 (aj t91 ok91 (by kernel_rfl))
noncomputable def IQ (F91:bJ):List FEnt:=[⟨91,pT,F91⟩]
theorem t85:al Try.prog (IQ P91):=(aa Rv (by kernel_rfl) ak)
def Ld:LSh:=⟨[0,1,2,6,7],⟨Ro,dm⟩,K8,1,[0]⟩
def Lf:List XSh:=[⟨(.exit 2),[0,1,2,6],⟨⟨uF,dm⟩,uE,[0],1⟩⟩]
def Lg:LSh:=⟨[0,1,2,6],⟨uF,dm⟩,uE,1,[0]⟩
def zG:List XSh:=[⟨(.exit 0),[],⟨⟨[],dm⟩,[y19],[0],1⟩⟩]
noncomputable def VK:=bU Try.prog [] Try.f85 (.s .n (.b (.l Lg zG (.s .n (.s (.b (.s .n (.b (.l Ld Lf .n)))) .n)))))
noncomputable def Lh (T:List FEnt):=aG (xs:=Lf) Ld (bf T (sb [1,2,2,1,0,2,1,2,2] VK))
noncomputable def l85_1 (T:List FEnt):=af (Lh T)
noncomputable def Fj (F91:bJ)(a0 a1 a2 a3:Int)(a4:List Int):Option R3:=
cond (decide (a0 < a3)) (
ai (aC a3 a4.length) (
ai (ah .i64 (a3-1)) (
ai (aC (a3-1) a4.length) (
(F91 ((ix a4 a3),(ix a4 (a3-1)))).bind fun r1=>(
cond r1 (
ai (ah .i64 (a3-1)) (
ai (ah .i64 (a3-1)) (
ai (aC (a3-1) a4.length) (
ai (aC a3 a4.length) (
ai (aC a3 a4.length) (
ai (aC (a3-1) (List.length (List.set a4 a3.toNat (ix a4 (a3-1))))) (
ai (ah .i64 (a3-1)) (
some (Sum.inl (a0,a1,a2,(a3-1),(List.set (List.set a4 a3.toNat (ix a4 (a3-1))) (Int.toNat (a3-1)) (ix a4 a3)))))))))))) (
some (Sum.inr (a0,a1,a2,a4)))))))) (
some (Sum.inr (a0,a1,a2,a4)))
theorem VL (F91:bJ):Lh (IQ F91)=u5 (Fj F91):=funext fun _=>by kernel_rfl
noncomputable def Li:=Fj P91
noncomputable def Fk:JF:=af (fun x=>Li x.1 x.2.1 x.2.2.1 x.2.2.2.1 x.2.2.2.2)
theorem VM:l85_1 (IQ P91)=Fk:=congrArg af (VL P91)
noncomputable def Lj (T:List FEnt):=aG (xs:=zG) Lg (bf T (sb [1,2,2] VK))
noncomputable def l85_0 (T:List FEnt):=af (Lj T)
noncomputable def Fl (F91:bJ)(l85_1:JF)(a0 a1 a2:Int)(a3:List Int):Option R4:=
cond (decide (a2 < a1)) (
(l85_1 (a0,a1,a2,a2,a3)).bind fun y2=>(
ai (ah .i64 (y2.2.2.1+1)) (
some (Sum.inl (y2.1,y2.2.1,(y2.2.2.1+1),y2.2.2.2))))) (
some (Sum.inr a3))
theorem VN (F91:bJ):Lj (IQ F91)=u4 (Fl F91 (l85_1 (IQ F91))):=funext fun _=>by kernel_rfl
noncomputable def Lk:=Fl P91 Fk
noncomputable def Fm:cE:=af (fun x=>Lk x.1 x.2.1 x.2.2.1 x.2.2.2)
theorem VO:l85_0 (IQ P91)=Fm:=congrArg af ((VN P91).trans (by rw[VM] <;> rfl))
theorem ok85:L.Fn Try.prog 85 49 [] (erase VK):=Fn.ofA aM Try.func85 _ _ (by kernel_rfl)
def IS:FSh:=⟨⟨G7,dm⟩,IK,1,⟨⟨pc,dm⟩,[y19],[0],1⟩,false⟩
noncomputable def q85 (F91:bJ)(l85_0:cE)(a0 a1:Int)(a2:List Int):Option Y2:=
ai (ah .i64 (a0+1)) (
(l85_0 (a0,a1,(a0+1),a2)).bind fun y3=>(
some y3))
theorem g85 (F91:bJ):aO (IQ F91) IS [] VK=u3 (q85 F91 (l85_0 (IQ F91))):=funext fun _=>by kernel_rfl
noncomputable def p85:=q85 P91 Fm
noncomputable def qU:dP:=fun x=>p85 x.1 x.2.1 x.2.2
theorem v85:aO (IQ P91) IS [] VK=qU:=(g85 P91).trans (by rw[VO] <;> rfl)
theorem d85:DC Try.prog 85 IS qU:=aD v85 (aj t85 ok85 (by kernel_rfl))
noncomputable def Bz (F91:bJ):List FEnt:=[⟨91,pT,F91⟩]
theorem t113:al Try.prog (Bz P91):=(aa Rv (by kernel_rfl) ak)
def Fo:LSh:=⟨[0,2,3,8],⟨uF,dm⟩,uE,1,[0]⟩
def Fp:List XSh:=[⟨(.exit 0),[],⟨⟨[],dm⟩,[y19],[0],1⟩⟩,⟨.ret,[],⟨⟨[],dm⟩,[y19],[0],1⟩⟩]
noncomputable def IT:=bU Try.prog [] Try.f113 (.s .n (.b (.l Fo Fp .n)))
noncomputable def Fq (T:List FEnt):=aG (xs:=Fp) Fo (bf T (sb [1,2,2] IT))
noncomputable def l113_0 (T:List FEnt):=af (Fq T)
noncomputable def xA (F91:bJ)(a0 a1 a2:Int)(a3:List Int):Option Zf:=
ai (ah .i64 (2*a2)) (
ai (ah .i64 ((2*a2)+1)) (
cond (decide (a0≤((2*a2)+1))) (
some (Sum.inr (Sum.inl a3))) (
ai (ah .i64 (((2*a2)+1)+1)) (
cond (decide ((((2*a2)+1)+1) < a0)) (
ai (ah .i64 (a1+((2*a2)+1))) (
ai (aC (a1+((2*a2)+1)) a3.length) (
ai (ah .i64 (a1+((2*a2)+1))) (
ai (ah .i64 ((a1+((2*a2)+1))+1)) (
ai (aC ((a1+((2*a2)+1))+1) a3.length) (
(F91 ((ix a3 (a1+((2*a2)+1))),(ix a3 ((a1+((2*a2)+1))+1)))).bind fun r1=>(
cond r1 (
ai (ah .i64 (((2*a2)+1)+1)) (
ai (ah .i64 (a1+a2)) (
ai (aC (a1+a2) a3.length) (
ai (ah .i64 (a1+(((2*a2)+1)+1))) (
ai (aC (a1+(((2*a2)+1)+1)) a3.length) (
(F91 ((ix a3 (a1+a2)),(ix a3 (a1+(((2*a2)+1)+1))))).bind fun r2=>(
cond (!r2) (
some (Sum.inr (Sum.inr a3))) (
ai (ah .i64 (a1+a2)) (
ai (ah .i64 (a1+(((2*a2)+1)+1))) (
ai (ah .i64 (a1+(((2*a2)+1)+1))) (
ai (aC (a1+(((2*a2)+1)+1)) a3.length) (
ai (ah .i64 (a1+a2)) (
ai (aC (a1+a2) a3.length) (
ai (aC (a1+a2) a3.length) (
ai (aC (a1+(((2*a2)+1)+1)) (List.length (List.set a3 (Int.toNat (a1+a2)) (ix a3 (a1+(((2*a2)+1)+1)))))) (
some (Sum.inl (a0,a1,(((2*a2)+1)+1),(List.set (List.set a3 (Int.toNat (a1+a2)) (ix a3 (a1+(((2*a2)+1)+1)))) (Int.toNat (a1+(((2*a2)+1)+1))) (ix a3 (a1+a2))))))))))))))))))))) (
ai (ah .i64 (a1+a2)) (
ai (aC (a1+a2) a3.length) (
ai (ah .i64 (a1+((2*a2)+1))) (
ai (aC (a1+((2*a2)+1)) a3.length) (
(F91 ((ix a3 (a1+a2)),(ix a3 (a1+((2*a2)+1))))).bind fun r3=>(
cond (!r3) (
some (Sum.inr (Sum.inr a3))) (
ai (ah .i64 (a1+a2)) (
ai (ah .i64 (a1+((2*a2)+1))) (
ai (ah .i64 (a1+((2*a2)+1))) (
ai (aC (a1+((2*a2)+1)) a3.length) (
ai (ah .i64 (a1+a2)) (
ai (aC (a1+a2) a3.length) (
ai (aC (a1+a2) a3.length) (
ai (aC (a1+((2*a2)+1)) (List.length (List.set a3 (Int.toNat (a1+a2)) (ix a3 (a1+((2*a2)+1)))))) (
some (Sum.inl (a0,a1,((2*a2)+1),(List.set (List.set a3 (Int.toNat (a1+a2)) (ix a3 (a1+((2*a2)+1)))) (Int.toNat (a1+((2*a2)+1))) (ix a3 (a1+a2))))))))))))))))))))))))))) (
ai (ah .i64 (a1+a2)) (
ai (aC (a1+a2) a3.length) (
ai (ah .i64 (a1+((2*a2)+1))) (
ai (aC (a1+((2*a2)+1)) a3.length) (
(F91 ((ix a3 (a1+a2)),(ix a3 (a1+((2*a2)+1))))).bind fun r4=>(
cond (!r4) (
some (Sum.inr (Sum.inr a3))) (
ai (ah .i64 (a1+a2)) (
ai (ah .i64 (a1+((2*a2)+1))) (
ai (ah .i64 (a1+((2*a2)+1))) (
ai (aC (a1+((2*a2)+1)) a3.length) (
ai (ah .i64 (a1+a2)) (
ai (aC (a1+a2) a3.length) (
ai (aC (a1+a2) a3.length) (
ai (aC (a1+((2*a2)+1)) (List.length (List.set a3 (Int.toNat (a1+a2)) (ix a3 (a1+((2*a2)+1)))))) (
some (Sum.inl (a0,a1,((2*a2)+1),(List.set (List.set a3 (Int.toNat (a1+a2)) (ix a3 (a1+((2*a2)+1)))) (Int.toNat (a1+((2*a2)+1))) (ix a3 (a1+a2))))))))))))))))))))))))
theorem Rw (F91:bJ):Fq (Bz F91)=u4 (xA F91):=funext fun _=>by kernel_rfl
noncomputable def Fs:=xA P91
noncomputable def xB:Zd:=af (fun x=>Fs x.1 x.2.1 x.2.2.1 x.2.2.2)
theorem Rx:l113_0 (Bz P91)=xB:=congrArg af (Rw P91)
theorem VP:L.Fn Try.prog 113 76 [] (erase IT):=Fn.ofA aM Try.func113 _ _ (by kernel_rfl)
def zH:FSh:=⟨⟨uF,dm⟩,uE,1,⟨⟨pc,dm⟩,[y19],[0],1⟩,false⟩
noncomputable def Ry (F91:bJ)(l113_0:Zd)(a0 a1 a2:Int)(a3:List Int):Option Y2:=
(l113_0 (a1,a2,a0,a3)).bind (fun y5=>Sum.elim (fun y6=>(
some y6)) (fun y7=>(
some y7)) y5)
theorem g113 (F91:bJ):aO (Bz F91) zH [] IT=u4 (Ry F91 (l113_0 (Bz F91))):=funext fun _=>by kernel_rfl
noncomputable def VQ:=Ry P91 xB
noncomputable def kL:cE:=fun x=>VQ x.1 x.2.1 x.2.2.1 x.2.2.2
theorem v113:aO (Bz P91) zH [] IT=kL:=(g113 P91).trans (by rw[Rx] <;> rfl)
theorem d113:DC Try.prog 113 zH kL:=aD v113 (aj t113 VP (by kernel_rfl))
noncomputable def IU (F113:cE):List FEnt:=[⟨113,zH,F113⟩]
theorem t86:al Try.prog (IU kL):=(aa d113 (by kernel_rfl) ak)
def Ll:LSh:=⟨[0,6,7,8,9],⟨Ro,dm⟩,K8,1,[0]⟩
def Lm:List XSh:=[⟨(.exit 0),[0,6,7,8],⟨⟨uF,dm⟩,uE,[0],1⟩⟩]
def Ln:LSh:=⟨[0,6,7,10],⟨uF,dm⟩,uE,1,[0]⟩
def Lo:List XSh:=[⟨(.exit 2),[],⟨⟨[],dm⟩,[y19],[0],1⟩⟩]
noncomputable def VR:=bU Try.prog [] Try.f86 (.s .n (.s .n (.s .n (.s (.s .n (.b (.l Ll Lm .n))) (.s .n (.b (.l Ln Lo .n)))))))
noncomputable def Lp (T:List FEnt):=aG (xs:=Lm) Ll (bf T (sb [1,1,1,0,1,2,2] VR))
noncomputable def l86_0 (T:List FEnt):=af (Lp T)
noncomputable def Ft (F113:cE)(a0 a1 a2 a3:Int)(a4:List Int):Option R3:=
cond (decide (0≤a3)) (
(F113 (a3,a2,a0,a4)).bind fun r1=>(
ai (ah .i64 (a3-1)) (
some (Sum.inl (a0,a1,a2,(a3-1),r1))))) (
some (Sum.inr (a0,a1,a2,a4)))
theorem VS (F113:cE):Lp (IU F113)=u5 (Ft F113):=funext fun _=>by kernel_rfl
noncomputable def Lq:=Ft kL
noncomputable def Fu:JF:=af (fun x=>Lq x.1 x.2.1 x.2.2.1 x.2.2.2.1 x.2.2.2.2)
theorem VT:l86_0 (IU kL)=Fu:=congrArg af (VS kL)
noncomputable def Lr (T:List FEnt):=aG (xs:=Lo) Ln (bf T (sb [1,1,1,1,1,2,2] VR))
noncomputable def l86_1 (T:List FEnt):=af (Lr T)
noncomputable def Fv (F113:cE)(a0 a1 a2:Int)(a3:List Int):Option R4:=
cond (decide (0≤a2)) (
ai (ah .i64 (a0+a2)) (
ai (ah .i64 (a0+a2)) (
ai (aC (a0+a2) a3.length) (
ai (aC a0 a3.length) (
ai (aC a0 a3.length) (
ai (aC (a0+a2) (List.length (List.set a3 a0.toNat (ix a3 (a0+a2))))) (
(F113 (a1,a2,a0,(List.set (List.set a3 a0.toNat (ix a3 (a0+a2))) (Int.toNat (a0+a2)) (ix a3 a0)))).bind fun r3=>(
ai (ah .i64 (a2-1)) (
some (Sum.inl (a0,a1,(a2-1),r3))))))))))) (
some (Sum.inr a3))
theorem VU (F113:cE):Lr (IU F113)=u4 (Fv F113):=funext fun _=>by kernel_rfl
noncomputable def Ls:=Fv kL
noncomputable def Fw:cE:=af (fun x=>Ls x.1 x.2.1 x.2.2.1 x.2.2.2)
theorem VV:l86_1 (IU kL)=Fw:=congrArg af (VU kL)
theorem ok86:L.Fn Try.prog 86 56 [] (erase VR):=Fn.ofA aM Try.func86 _ _ (by kernel_rfl)
def IV:FSh:=⟨⟨G7,dm⟩,IK,1,⟨⟨pc,dm⟩,[y19],[0],1⟩,false⟩
noncomputable def q86 (F113:cE)(l86_0:JF)(l86_1:cE)(a0 a1:Int)(a2:List Int):Option Y2:=
ai (ah .i64 (a1-a0)) (
ai (ah .i64 ((a1-a0)-1)) (
ai (ah .i64 (Int.tdiv ((a1-a0)-1) 2)) (
(l86_0 (a0,0,(a1-a0),(Int.tdiv ((a1-a0)-1) 2),a2)).bind fun y2=>(
ai (ah .i64 (y2.2.2.1-1)) (
(l86_1 (y2.1,y2.2.1,(y2.2.2.1-1),y2.2.2.2)).bind fun y4=>(
some y4))))))
theorem g86 (F113:cE):aO (IU F113) IV [] VR=u3 (q86 F113 (l86_0 (IU F113)) (l86_1 (IU F113))):=funext fun _=>by kernel_rfl
noncomputable def p86:=q86 kL Fu Fw
noncomputable def qV:dP:=fun x=>p86 x.1 x.2.1 x.2.2
theorem v86:aO (IU kL) IV [] VR=qV:=(g86 kL).trans (by rw[VT,VV] <;> rfl)
theorem d86:DC Try.prog 86 IV qV:=aD v86 (aj t86 ok86 (by kernel_rfl))
noncomputable def TG (F114:nv)(F115:Gf):List FEnt:=[⟨114,uy,F114⟩,⟨115,uz,F115⟩]
theorem t87:al Try.prog (TG gL gM):=(aa U4 (by kernel_rfl) (aa U6 (by kernel_rfl) ak))
def Lt:LSh:=⟨[0,1,6,7,8,9],⟨j11,[(0,(.row 3 y7)),(1,(.boxT iP))]⟩,[y7,y7,iP,y7,y19,iP],2,[0,1]⟩
def Lu:List XSh:=[⟨(.exit 0),[],⟨⟨[],[(0,(.row 3 y7)),(1,(.boxT iP))]⟩,[y19,iP],[0,1],2⟩⟩]
noncomputable def c87:=bU Try.prog [] Try.f87 (.s .n (.s .n (.s (.s .n (.s .n (.s .n (.b (.l Lt Lu .n))))) .n)))
noncomputable def Lv (T:List FEnt):=aG (xs:=Lu) Lt (bf T (sb [1,1,0,1,1,1,2,2] c87))
noncomputable def l87_0 (T:List FEnt):=af (Lv T)
noncomputable def zI (F114:nv)(F115:Gf)(a0 a1 a2 a3:Int)(a4:List Int)(a5:Int):Option Zg:=
ai (ah .i64 (Int.tdiv a1 4)) (
ai (ah .i64 ((Int.tdiv a1 4)*2)) (
ai (ah .i64 (a0+((Int.tdiv a1 4)*2))) (
ai (ah .i64 ((a0+((Int.tdiv a1 4)*2))+1)) (
cond (decide (a3≤((a0+((Int.tdiv a1 4)*2))+1))) (
(F115 a5).bind fun r2=>(
ai (ah .u64 (a2-1)) (
ai (ah .i64 (bu .u64 r2.1 (a2-1))) (
cond (decide (a1≤(bu .u64 r2.1 (a2-1)))) (
ai (ah .i64 ((bu .u64 r2.1 (a2-1))-a1)) (
ai (ah .i64 (a0+((bu .u64 r2.1 (a2-1))-a1))) (
ai (ah .i64 (a0+((bu .u64 r2.1 (a2-1))-a1))) (
ai (aC (a0+((bu .u64 r2.1 (a2-1))-a1)) a4.length) (
ai (aC a3 a4.length) (
ai (aC a3 a4.length) (
ai (aC (a0+((bu .u64 r2.1 (a2-1))-a1)) (List.length (List.set a4 a3.toNat (ix a4 (a0+((bu .u64 r2.1 (a2-1))-a1)))))) (
ai (ah .i64 (a3+1)) (
some (Sum.inl (a0,a1,a2,(a3+1),(List.set (List.set a4 a3.toNat (ix a4 (a0+((bu .u64 r2.1 (a2-1))-a1)))) (Int.toNat (a0+((bu .u64 r2.1 (a2-1))-a1))) (ix a4 a3)),r2.2))))))))))) (
ai (ah .i64 (a0+(bu .u64 r2.1 (a2-1)))) (
ai (ah .i64 (a0+(bu .u64 r2.1 (a2-1)))) (
ai (aC (a0+(bu .u64 r2.1 (a2-1))) a4.length) (
ai (aC a3 a4.length) (
ai (aC a3 a4.length) (
ai (aC (a0+(bu .u64 r2.1 (a2-1))) (List.length (List.set a4 a3.toNat (ix a4 (a0+(bu .u64 r2.1 (a2-1))))))) (
ai (ah .i64 (a3+1)) (
some (Sum.inl (a0,a1,a2,(a3+1),(List.set (List.set a4 a3.toNat (ix a4 (a0+(bu .u64 r2.1 (a2-1))))) (Int.toNat (a0+(bu .u64 r2.1 (a2-1)))) (ix a4 a3)),r2.2)))))))))))))) (
some (Sum.inr (a4,a5)))))))
theorem VW (F114:nv)(F115:Gf):Lv (TG F114 F115)=u6 (zI F114 F115):=funext fun _=>by kernel_rfl
noncomputable def Fx:=zI gL gM
noncomputable def Fy:Ze:=af (fun x=>Fx x.1 x.2.1 x.2.2.1 x.2.2.2.1 x.2.2.2.2.1 x.2.2.2.2.2)
theorem VX:l87_0 (TG gL gM)=Fy:=congrArg af (VW gL gM)
theorem ok87:L.Fn Try.prog 87 65 [] (erase c87):=Fn.ofA aM Try.func87 _ _ (by kernel_rfl)
def IW:FSh:=⟨⟨G7,dm⟩,IK,1,⟨⟨pc,dm⟩,[y19],[0],1⟩,false⟩
noncomputable def q87 (F114:nv)(F115:Gf)(l87_0:Ze)(a0 a1:Int)(a2:List Int):Option Y2:=
ai (ah .i64 (a1-a0)) (
cond (decide (8≤(a1-a0))) (
ai (ah .u64 (a1-a0)) (
(F114 (a1-a0)).bind fun r1=>(
ai (ah .i64 (Int.tdiv (a1-a0) 4)) (
ai (ah .i64 ((Int.tdiv (a1-a0) 4)*2)) (
ai (ah .i64 (a0+((Int.tdiv (a1-a0) 4)*2))) (
ai (ah .i64 ((a0+((Int.tdiv (a1-a0) 4)*2))-1)) (
(l87_0 (a0,(a1-a0),r1,((a0+((Int.tdiv (a1-a0) 4)*2))-1),a2,(a1-a0))).bind fun y3=>(
some y3.1)))))))) (
some a2))
theorem g87 (F114:nv)(F115:Gf):aO (TG F114 F115) IW [] c87=u3 (q87 F114 F115 (l87_0 (TG F114 F115))):=funext fun _=>by kernel_rfl
noncomputable def p87:=q87 gL gM Fy
noncomputable def pU:dP:=fun x=>p87 x.1 x.2.1 x.2.2
theorem v87:aO (TG gL gM) IW [] c87=pU:=(g87 gL gM).trans (by rw[VX] <;> rfl)
theorem d87:DC Try.prog 87 IW pU:=aD v87 (aj t87 ok87 (by kernel_rfl))
noncomputable def Rz (F91:bJ):List FEnt:=[⟨91,pT,F91⟩]
theorem t125:al Try.prog (Rz P91):=(aa Rv (by kernel_rfl) ak)
noncomputable def RA:=bU Try.prog [] Try.f125 .n
theorem VY:L.Fn Try.prog 125 28 [(.t 8),(.t 9)] (erase RA):=Fn.ofA aM Try.func125 _ _ (by kernel_rfl)
def zJ:FSh:=⟨⟨[(.slc 0),(.v y7),(.v y7),(.ptr 1 0)],TE⟩,[y7,y7,y19,y7],2,⟨⟨KF,TE⟩,[y7,y7,y19,y7],[0,1],2⟩,false⟩
noncomputable def RB (F91:bJ)(a0 a1:Int)(a2:List Int)(a3:Int):Option Zb:=
ai (aC a1 a2.length) (
ai (aC a0 a2.length) (
(F91 ((ix a2 a1),(ix a2 a0))).bind fun r1=>(
cond r1 (
ai (ah .i64 (a3+1)) (
some (a1,a0,a2,(a3+1)))) (
some (a0,a1,a2,a3)))))
theorem g125 (F91:bJ):aO (Rz F91) zJ [(.t 8),(.t 9)] RA=u4 (RB F91):=funext fun _=>by kernel_rfl
noncomputable def VZ:=RB P91
noncomputable def pV:JG:=fun x=>VZ x.1 x.2.1 x.2.2.1 x.2.2.2
theorem v125:aO (Rz P91) zJ [(.t 8),(.t 9)] RA=pV:=g125 P91
theorem d125:DC Try.prog 125 zJ pV:=aD v125 (aj t125 VY (by kernel_rfl))
noncomputable def RE (F125:JG):List FEnt:=[⟨125,zJ,F125⟩]
theorem t117:al Try.prog (RE pV):=(aa d125 (by kernel_rfl) ak)
noncomputable def RF:=bU Try.prog [] Try.f117 .n
theorem V0:L.Fn Try.prog 117 36 [(.t 10)] (erase RF):=Fn.ofA aM Try.func117 _ _ (by kernel_rfl)
def uM:FSh:=⟨⟨[(.slc 0),(.v y7),(.v y7),(.v y7),(.ptr 1 0)],TE⟩,[y7,y7,y7,y19,y7],2,⟨⟨nr,TE⟩,[y7,y19,y7],[0,1],2⟩,false⟩
noncomputable def RG (F125:JG)(a0 a1 a2:Int)(a3:List Int)(a4:Int):Option Gg:=
(F125 (a0,a1,a3,a4)).bind fun r1=>(
(F125 (r1.2.1,a2,r1.2.2.1,r1.2.2.2)).bind fun r2=>(
(F125 (r1.1,r2.1,r2.2.2.1,r2.2.2.2)).bind fun r3=>(
some (r3.2.1,r3.2.2.1,r3.2.2.2))))
theorem g117 (F125:JG):aO (RE F125) uM [(.t 10)] RF=u5 (RG F125):=funext fun _=>by kernel_rfl
noncomputable def V1:=RG pV
noncomputable def mK:xK:=fun x=>V1 x.1 x.2.1 x.2.2.1 x.2.2.2.1 x.2.2.2.2
theorem v117:aO (RE pV) uM [(.t 10)] RF=mK:=g117 pV
theorem V2:DC Try.prog 117 uM mK:=aD v117 (aj t117 V0 (by kernel_rfl))
noncomputable def RH (F117:xK):List FEnt:=[⟨117,uM,F117⟩]
theorem t116:al Try.prog (RH mK):=(aa V2 (by kernel_rfl) ak)
noncomputable def RI:=bU Try.prog [] Try.f116 .n
theorem V3:L.Fn Try.prog 116 15 [(.t 6)] (erase RI):=Fn.ofA aM Try.func116 _ _ (by kernel_rfl)
def zK:FSh:=⟨⟨[(.slc 0),(.v y7),(.ptr 1 0)],TE⟩,[y7,y19,y7],2,⟨⟨nr,TE⟩,[y7,y19,y7],[0,1],2⟩,false⟩
noncomputable def RJ (F117:xK)(a0:Int)(a1:List Int)(a2:Int):Option Gg:=
ai (ah .i64 (a0-1)) (
ai (ah .i64 (a0+1)) (
(F117 ((a0-1),a0,(a0+1),a1,a2)).bind fun r1=>(
some (r1.1,r1.2.1,r1.2.2))))
theorem g116 (F117:xK):aO (RH F117) zK [(.t 6)] RI=u3 (RJ F117):=funext fun _=>by kernel_rfl
noncomputable def V4:=RJ mK
noncomputable def sM:JH:=fun x=>V4 x.1 x.2.1 x.2.2
theorem v116:aO (RH mK) zK [(.t 6)] RI=sM:=g116 mK
theorem d116:DC Try.prog 116 zK sM:=aD v116 (aj t116 V3 (by kernel_rfl))
noncomputable def T88 (F116:JH)(F117:xK):List FEnt:=[⟨116,zK,F116⟩,⟨117,uM,F117⟩]
theorem t88:al Try.prog (T88 sM mK):=(aa d116 (by kernel_rfl) (aa V2 (by kernel_rfl) ak))
noncomputable def c88:=bU Try.prog [] Try.f88 .n
theorem ok88:L.Fn Try.prog 88 57 [(.t 6),(.t 7)] (erase c88):=Fn.ofA aM Try.func88 _ _ (by kernel_rfl)
def IX:FSh:=⟨⟨G7,dm⟩,IK,1,⟨⟨KF,dm⟩,IK,[0],1⟩,false⟩
noncomputable def q88 (F116:JH)(F117:xK)(a0 a1:Int)(a2:List Int):Option Gh:=
ai (ah .i64 (a1-a0)) (
ai (ah .i64 (Int.tdiv (a1-a0) 4)) (
ai (ah .i64 ((Int.tdiv (a1-a0) 4)*1)) (
ai (ah .i64 (a0+((Int.tdiv (a1-a0) 4)*1))) (
ai (ah .i64 (Int.tdiv (a1-a0) 4)) (
ai (ah .i64 ((Int.tdiv (a1-a0) 4)*2)) (
ai (ah .i64 (a0+((Int.tdiv (a1-a0) 4)*2))) (
ai (ah .i64 (Int.tdiv (a1-a0) 4)) (
ai (ah .i64 ((Int.tdiv (a1-a0) 4)*3)) (
ai (ah .i64 (a0+((Int.tdiv (a1-a0) 4)*3))) (
cond (decide (8≤(a1-a0))) (
cond (decide (50≤(a1-a0))) (
(F116 ((a0+((Int.tdiv (a1-a0) 4)*1)),a2,0)).bind fun r1=>(
(F116 ((a0+((Int.tdiv (a1-a0) 4)*2)),r1.2.1,r1.2.2)).bind fun r2=>(
(F116 ((a0+((Int.tdiv (a1-a0) 4)*3)),r2.2.1,r2.2.2)).bind fun r3=>(
(F117 (r1.1,r2.1,r3.1,r3.2.1,r3.2.2)).bind fun r4=>(
cond (decide (r4.2.2=0)) (
some (r4.1,1,r4.2.1)) (
cond (decide (r4.2.2=12)) (
some (r4.1,2,r4.2.1)) (
some (r4.1,0,r4.2.1)))))))) (
(F117 ((a0+((Int.tdiv (a1-a0) 4)*1)),(a0+((Int.tdiv (a1-a0) 4)*2)),(a0+((Int.tdiv (a1-a0) 4)*3)),a2,0)).bind fun r5=>(
cond (decide (r5.2.2=0)) (
some (r5.1,1,r5.2.1)) (
cond (decide (r5.2.2=12)) (
some (r5.1,2,r5.2.1)) (
some (r5.1,0,r5.2.1)))))) (
cond (decide ((0:Int)=0)) (
some ((a0+((Int.tdiv (a1-a0) 4)*2)),1,a2)) (
cond (decide ((0:Int)=12)) (
some ((a0+((Int.tdiv (a1-a0) 4)*2)),2,a2)) (
some ((a0+((Int.tdiv (a1-a0) 4)*2)),0,a2))))))))))))))
theorem g88 (F116:JH)(F117:xK):aO (T88 F116 F117) IX [(.t 6),(.t 7)] c88=u3 (q88 F116 F117):=funext fun _=>by kernel_rfl
noncomputable def p88:=q88 sM mK
noncomputable def qW:nB:=fun x=>p88 x.1 x.2.1 x.2.2
theorem v88:aO (T88 sM mK) IX [(.t 6),(.t 7)] c88=qW:=g88 sM mK
theorem d88:DC Try.prog 88 IX qW:=aD v88 (aj t88 ok88 (by kernel_rfl))
noncomputable def TH:List FEnt:=[]
theorem t89:al Try.prog TH:=ak
def Lw:LSh:=⟨[0,6,7],⟨G7,dm⟩,IK,1,[0]⟩
noncomputable def c89:=bU Try.prog [] Try.f89 (.s .n (.s .n (.b (.l Lw zG .n))))
noncomputable def Lx (T:List FEnt):=aG (xs:=zG) Lw (bf T (sb [1,1,2,2] c89))
noncomputable def l89_0 (T:List FEnt):=af (Lx T)
noncomputable def Fz (a0 a1:Int)(a2:List Int):Option Zh:=
cond (decide (a0 < a1)) (
ai (aC a1 a2.length) (
ai (aC a0 a2.length) (
ai (aC a0 a2.length) (
ai (aC a1 (List.length (List.set a2 a0.toNat (ix a2 a1)))) (
ai (ah .i64 (a0+1)) (
ai (ah .i64 (a1-1)) (
some (Sum.inl ((a0+1),(a1-1),(List.set (List.set a2 a0.toNat (ix a2 a1)) a1.toNat (ix a2 a0))))))))))) (
some (Sum.inr a2))
theorem V5:Lx TH=u3 Fz:=funext fun _=>by kernel_rfl
noncomputable def Ly:=Fz
noncomputable def FA:dP:=af (fun x=>Ly x.1 x.2.1 x.2.2)
theorem V6:l89_0 TH=FA:=congrArg af V5
theorem ok89:L.Fn Try.prog 89 32 [] (erase c89):=Fn.ofA aM Try.func89 _ _ (by kernel_rfl)
def IY:FSh:=⟨⟨G7,dm⟩,IK,1,⟨⟨pc,dm⟩,[y19],[0],1⟩,false⟩
noncomputable def q89 (l89_0:dP)(a0 a1:Int)(a2:List Int):Option Y2:=
ai (ah .i64 (a1-1)) (
(l89_0 (a0,(a1-1),a2)).bind fun y1=>(
some y1))
theorem g89:aO TH IY [] c89=u3 (q89 (l89_0 TH)):=funext fun _=>by kernel_rfl
noncomputable def p89:=q89 FA
noncomputable def qX:dP:=fun x=>p89 x.1 x.2.1 x.2.2
theorem v89:aO TH IY [] c89=qX:=g89.trans (by rw[V6] <;> rfl)
theorem d89:DC Try.prog 89 IY qX:=aD v89 (aj t89 ok89 (by kernel_rfl))
noncomputable def tn (F91:bJ):List FEnt:=[⟨91,pT,F91⟩]
theorem t90:al Try.prog (tn P91):=(aa Rv (by kernel_rfl) ak)
def qY:LSh:=⟨[0,1,2,7,8],⟨Ro,dm⟩,K8,1,[0]⟩
def Lz:List XSh:=[⟨(.exit 2),[0,1,2,7,8],⟨⟨Ro,dm⟩,K8,[0],1⟩⟩]
def LA:LSh:=⟨[0,1,2,7,8,9],⟨j12,dm⟩,[y7,y7,y7,y7,y7,y19],1,[0]⟩
def LB:List XSh:=[⟨(.exit 4),[0,1,2,7,8],⟨⟨Ro,dm⟩,K8,[0],1⟩⟩]
def LC:List XSh:=[⟨.normal,[0,1,2,7,8],⟨⟨Ro,dm⟩,K8,[0],1⟩⟩]
def LD:LSh:=⟨[0,1,2,7,8,10],⟨j12,dm⟩,[y7,y7,y7,y7,y7,y19],1,[0]⟩
def LE:List XSh:=[⟨(.exit 6),[0,1,2,7,8],⟨⟨Ro,dm⟩,K8,[0],1⟩⟩]
def LF:List XSh:=[⟨.ret,[6],⟨⟨fk,dm⟩,[.bool,y19],[0],1⟩⟩,⟨(.exit 0),[],⟨⟨[],dm⟩,[y19],[0],1⟩⟩]
noncomputable def LG:=bU Try.prog [] Try.f90 (.s .n (.s .n (.s (.s .n (.b (.l qY LF (.s .n (.s (.b (.s (.b (.l qY Lz .n)) (.s .n (.s .n (.s .n (.s (.o qY LC (.s .n (.s (.s .n (.b (.l LA LB .n))) .n))) (.s .n (.s (.s .n (.b (.l LD LE .n))) .n)))))))) .n))))) .n)))
noncomputable def LH (T:List FEnt):=aG (xs:=Lz) qY (bf T (sb [1,1,0,1,2,2,1,0,2,0,2,2] LG))
noncomputable def l90_1 (T:List FEnt):=af (LH T)
noncomputable def FB (F91:bJ)(a0 a1 a2 a3:Int)(a4:List Int):Option Zi:=
cond (decide (a2 < a1)) (
ai (aC a2 a4.length) (
ai (ah .i64 (a2-1)) (
ai (aC (a2-1) a4.length) (
(F91 ((ix a4 a2),(ix a4 (a2-1)))).bind fun r1=>(
cond (!r1) (
ai (ah .i64 (a2+1)) (
some (Sum.inl (a0,a1,(a2+1),a3,a4)))) (
some (Sum.inr (a0,a1,a2,a3,a4)))))))) (
some (Sum.inr (a0,a1,a2,a3,a4)))
theorem V7 (F91:bJ):LH (tn F91)=u5 (FB F91):=funext fun _=>by kernel_rfl
noncomputable def LI:=FB P91
noncomputable def FC:R2:=af (fun x=>LI x.1 x.2.1 x.2.2.1 x.2.2.2.1 x.2.2.2.2)
theorem V8:l90_1 (tn P91)=FC:=congrArg af (V7 P91)
noncomputable def LJ (T:List FEnt):=aG (xs:=LB) LA (bf T (sb [1,1,0,1,2,2,1,0,2,1,1,1,1,0,2,1,0,1,2,2] LG))
noncomputable def l90_3 (T:List FEnt):=af (LJ T)
noncomputable def FD (F91:bJ)(a0 a1 a2 a3 a4:Int)(a5:List Int):Option R5:=
cond (decide (1≤a4)) (
ai (aC a4 a5.length) (
ai (ah .i64 (a4-1)) (
ai (aC (a4-1) a5.length) (
(F91 ((ix a5 a4),(ix a5 (a4-1)))).bind fun r3=>(
cond (!r3) (
some (Sum.inr (a0,a1,a2,a3,a5))) (
ai (ah .i64 (a4-1)) (
ai (ah .i64 (a4-1)) (
ai (aC (a4-1) a5.length) (
ai (aC a4 a5.length) (
ai (aC a4 a5.length) (
ai (aC (a4-1) (List.length (List.set a5 a4.toNat (ix a5 (a4-1))))) (
ai (ah .i64 (a4-1)) (
some (Sum.inl (a0,a1,a2,a3,(a4-1),(List.set (List.set a5 a4.toNat (ix a5 (a4-1))) (Int.toNat (a4-1)) (ix a5 a4))))))))))))))))) (
some (Sum.inr (a0,a1,a2,a3,a5)))
theorem V9 (F91:bJ):LJ (tn F91)=u6 (FD F91):=funext fun _=>by kernel_rfl
noncomputable def LK:=FD P91
noncomputable def FE:JI:=af (fun x=>LK x.1 x.2.1 x.2.2.1 x.2.2.2.1 x.2.2.2.2.1 x.2.2.2.2.2)
theorem Wb:l90_3 (tn P91)=FE:=congrArg af (V9 P91)
noncomputable def l90_2 (T:List FEnt):=eZ (xs:=LC) qY (bf T (sb [1,1,0,1,2,2,1,0,2,1,1,1,1,0,2] LG))
noncomputable def FF (F91:bJ)(l90_3:JI)(a0 a1 a2 a3:Int)(a4:List Int):Option sS:=
ai (ah .i64 (a2-a0)) (
cond (decide (2≤(a2-a0))) (
ai (ah .i64 (a2-1)) (
(l90_3 (a0,a1,a2,a3,(a2-1),a4)).bind fun y4=>(
some (y4.1,y4.2.1,y4.2.2.1,y4.2.2.2.1,y4.2.2.2.2)))) (
some (a0,a1,a2,a3,a4)))
theorem Wc (F91:bJ):l90_2 (tn F91)=u5 (FF F91 (l90_3 (tn F91))):=funext fun _=>by kernel_rfl
noncomputable def LL:=FF P91 FE
noncomputable def zL:R2:=fun x=>LL x.1 x.2.1 x.2.2.1 x.2.2.2.1 x.2.2.2.2
theorem Wd:l90_2 (tn P91)=zL:=(Wc P91).trans (by rw[Wb] <;> rfl)
noncomputable def LM (T:List FEnt):=aG (xs:=LE) LD (bf T (sb [1,1,0,1,2,2,1,0,2,1,1,1,1,1,1,0,1,2,2] LG))
noncomputable def l90_4 (T:List FEnt):=af (LM T)
noncomputable def FG (F91:bJ)(a0 a1 a2 a3 a4:Int)(a5:List Int):Option R5:=
cond (decide (a4 < a1)) (
ai (aC a4 a5.length) (
ai (ah .i64 (a4-1)) (
ai (aC (a4-1) a5.length) (
(F91 ((ix a5 a4),(ix a5 (a4-1)))).bind fun r6=>(
cond (!r6) (
some (Sum.inr (a0,a1,a2,a3,a5))) (
ai (ah .i64 (a4-1)) (
ai (ah .i64 (a4-1)) (
ai (aC (a4-1) a5.length) (
ai (aC a4 a5.length) (
ai (aC a4 a5.length) (
ai (aC (a4-1) (List.length (List.set a5 a4.toNat (ix a5 (a4-1))))) (
ai (ah .i64 (a4+1)) (
some (Sum.inl (a0,a1,a2,a3,(a4+1),(List.set (List.set a5 a4.toNat (ix a5 (a4-1))) (Int.toNat (a4-1)) (ix a5 a4))))))))))))))))) (
some (Sum.inr (a0,a1,a2,a3,a5)))
theorem We (F91:bJ):LM (tn F91)=u6 (FG F91):=funext fun _=>by kernel_rfl
noncomputable def LN:=FG P91
noncomputable def FH:JI:=af (fun x=>LN x.1 x.2.1 x.2.2.1 x.2.2.2.1 x.2.2.2.2.1 x.2.2.2.2.2)
theorem Wg:l90_4 (tn P91)=FH:=congrArg af (We P91)
noncomputable def LO (T:List FEnt):=aG (xs:=LF) qY (bf T (sb [1,1,0,1,2,2] LG))
noncomputable def l90_0 (T:List FEnt):=af (LO T)
noncomputable def FI (F91:bJ)(l90_1 l90_2:R2)(l90_4:JI)(a0 a1 a2 a3:Int)(a4:List Int):Option Zo:=
cond (decide (a3 < 5)) (
(l90_1 (a0,a1,a2,a3,a4)).bind fun y2=>(
cond (decide (y2.2.2.1=y2.2.1)) (
some (Sum.inr (Sum.inl (true,y2.2.2.2.2)))) (
ai (ah .i64 (y2.2.1-y2.1)) (
cond (decide ((y2.2.1-y2.1) < 50)) (
some (Sum.inr (Sum.inl (false,y2.2.2.2.2)))) (
ai (ah .i64 (y2.2.2.1-1)) (
ai (ah .i64 (y2.2.2.1-1)) (
ai (aC (y2.2.2.1-1) y2.2.2.2.2.length) (
ai (aC y2.2.2.1 y2.2.2.2.2.length) (
ai (aC y2.2.2.1 y2.2.2.2.2.length) (
ai (aC (y2.2.2.1-1) (List.length (List.set y2.2.2.2.2 y2.2.2.1.toNat (ix y2.2.2.2.2 (y2.2.2.1-1))))) (
(l90_2 (y2.1,y2.2.1,y2.2.2.1,y2.2.2.2.1,(List.set (List.set y2.2.2.2.2 y2.2.2.1.toNat (ix y2.2.2.2.2 (y2.2.2.1-1))) (Int.toNat (y2.2.2.1-1)) (ix y2.2.2.2.2 y2.2.2.1)))).bind fun y5=>(
ai (ah .i64 (y5.2.1-y5.2.2.1)) (
cond (decide (2≤(y5.2.1-y5.2.2.1))) (
ai (ah .i64 (y5.2.2.1+1)) (
(l90_4 (y5.1,y5.2.1,y5.2.2.1,y5.2.2.2.1,(y5.2.2.1+1),y5.2.2.2.2)).bind fun y7=>(
ai (ah .i64 (y7.2.2.2.1+1)) (
some (Sum.inl (y7.1,y7.2.1,y7.2.2.1,(y7.2.2.2.1+1),y7.2.2.2.2)))))) (
ai (ah .i64 (y5.2.2.2.1+1)) (
some (Sum.inl (y5.1,y5.2.1,y5.2.2.1,(y5.2.2.2.1+1),y5.2.2.2.2))))))))))))))))) (
some (Sum.inr (Sum.inr a4)))
theorem Wh (F91:bJ):LO (tn F91)=u5 (FI F91 (l90_1 (tn F91)) (l90_2 (tn F91)) (l90_4 (tn F91))):=funext fun _=>by kernel_rfl
noncomputable def LP:=FI P91 FC zL FH
noncomputable def FJ:Zm:=af (fun x=>LP x.1 x.2.1 x.2.2.1 x.2.2.2.1 x.2.2.2.2)
theorem Wi:l90_0 (tn P91)=FJ:=congrArg af ((Wh P91).trans (by rw[V8,Wd,Wg] <;> rfl))
theorem ok90:L.Fn Try.prog 90 133 [(.t 6)] (erase LG):=Fn.ofA aM Try.func90 _ _ (by kernel_rfl)
def IZ:FSh:=⟨⟨G7,dm⟩,IK,1,⟨⟨fk,dm⟩,[.bool,y19],[0],1⟩,false⟩
noncomputable def q90 (F91:bJ)(l90_0:Zm)(a0 a1:Int)(a2:List Int):Option R1:=
ai (ah .i64 (a0+1)) (
(l90_0 (a0,a1,(a0+1),0,a2)).bind (fun y8=>Sum.elim (fun y9=>(
some (y9.1,y9.2))) (fun y10=>(
some (false,y10))) y8))
theorem g90 (F91:bJ):aO (tn F91) IZ [(.t 6)] LG=u3 (q90 F91 (l90_0 (tn F91))):=funext fun _=>by kernel_rfl
noncomputable def p90:=q90 P91 FJ
noncomputable def qZ:nC:=fun x=>p90 x.1 x.2.1 x.2.2
theorem v90:aO (tn P91) IZ [(.t 6)] LG=qZ:=(g90 P91).trans (by rw[Wi] <;> rfl)
theorem d90:DC Try.prog 90 IZ qZ:=aD v90 (aj t90 ok90 (by kernel_rfl))
noncomputable def B9 (F91:bJ):List FEnt:=[⟨91,pT,F91⟩]
theorem t92:al Try.prog (B9 P91):=(aa Rv (by kernel_rfl) ak)
def rd:LSh:=⟨[0,1,9,10],⟨uF,dm⟩,uE,1,[0]⟩
def LQ:List XSh:=[⟨(.exit 2),[0,1,9,10],⟨⟨uF,dm⟩,uE,[0],1⟩⟩]
def LR:List XSh:=[⟨(.exit 4),[0,1,9,10],⟨⟨uF,dm⟩,uE,[0],1⟩⟩]
def LS:List XSh:=[⟨(.exit 0),[9],⟨⟨nr,dm⟩,[y7,y19],[0],1⟩⟩]
noncomputable def TI:=bU Try.prog [] Try.f92 (.s .n (.s .n (.s .n (.s (.b (.l rd LS (.b (.s (.b (.l rd LQ .n)) (.s (.b (.l rd LR .n)) .n))))) .n))))
noncomputable def LT (T:List FEnt):=aG (xs:=LQ) rd (bf T (sb [1,1,1,0,2,2,2,0,2,2] TI))
noncomputable def l92_1 (T:List FEnt):=af (LT T)
noncomputable def FK (F91:bJ)(a0 a1 a2:Int)(a3:List Int):Option xL:=
cond (decide (a1≤a2)) (
ai (aC a0 a3.length) (
ai (aC a1 a3.length) (
(F91 ((ix a3 a0),(ix a3 a1))).bind fun r1=>(
cond (!r1) (
ai (ah .i64 (a1+1)) (
some (Sum.inl (a0,(a1+1),a2,a3)))) (
some (Sum.inr (a0,a1,a2,a3))))))) (
some (Sum.inr (a0,a1,a2,a3)))
theorem Wj (F91:bJ):LT (B9 F91)=u4 (FK F91):=funext fun _=>by kernel_rfl
noncomputable def LU:=FK P91
noncomputable def FL:sT:=af (fun x=>LU x.1 x.2.1 x.2.2.1 x.2.2.2)
theorem Wl:l92_1 (B9 P91)=FL:=congrArg af (Wj P91)
noncomputable def LV (T:List FEnt):=aG (xs:=LR) rd (bf T (sb [1,1,1,0,2,2,2,1,0,2,2] TI))
noncomputable def l92_2 (T:List FEnt):=af (LV T)
noncomputable def FM (F91:bJ)(a0 a1 a2:Int)(a3:List Int):Option xL:=
cond (decide (a1≤a2)) (
ai (aC a0 a3.length) (
ai (aC a2 a3.length) (
(F91 ((ix a3 a0),(ix a3 a2))).bind fun r3=>(
cond r3 (
ai (ah .i64 (a2-1)) (
some (Sum.inl (a0,a1,(a2-1),a3)))) (
some (Sum.inr (a0,a1,a2,a3))))))) (
some (Sum.inr (a0,a1,a2,a3)))
theorem Wm (F91:bJ):LV (B9 F91)=u4 (FM F91):=funext fun _=>by kernel_rfl
noncomputable def LW:=FM P91
noncomputable def FN:sT:=af (fun x=>LW x.1 x.2.1 x.2.2.1 x.2.2.2)
theorem Wn:l92_2 (B9 P91)=FN:=congrArg af (Wm P91)
noncomputable def LX (T:List FEnt):=aG (xs:=LS) rd (bf T (sb [1,1,1,0,2,2] TI))
noncomputable def l92_0 (T:List FEnt):=af (LX T)
noncomputable def FO (F91:bJ)(l92_1 l92_2:sT)(a0 a1 a2:Int)(a3:List Int):Option Zk:=
(l92_1 (a0,a1,a2,a3)).bind fun y2=>(
(l92_2 (y2.1,y2.2.1,y2.2.2.1,y2.2.2.2)).bind fun y4=>(
cond (decide (y4.2.2.1 < y4.2.1)) (
some (Sum.inr (y4.2.1,y4.2.2.2))) (
ai (aC y4.2.2.1 y4.2.2.2.length) (
ai (aC y4.2.1 y4.2.2.2.length) (
ai (aC y4.2.1 y4.2.2.2.length) (
ai (aC y4.2.2.1 (List.length (List.set y4.2.2.2 y4.2.1.toNat (ix y4.2.2.2 y4.2.2.1)))) (
ai (ah .i64 (y4.2.1+1)) (
ai (ah .i64 (y4.2.2.1-1)) (
some (Sum.inl (y4.1,(y4.2.1+1),(y4.2.2.1-1),(List.set (List.set y4.2.2.2 y4.2.1.toNat (ix y4.2.2.2 y4.2.2.1)) y4.2.2.1.toNat (ix y4.2.2.2 y4.2.1)))))))))))))
theorem Wo (F91:bJ):LX (B9 F91)=u4 (FO F91 (l92_1 (B9 F91)) (l92_2 (B9 F91))):=funext fun _=>by kernel_rfl
noncomputable def LY:=FO P91 FL FN
noncomputable def FP:lF:=af (fun x=>LY x.1 x.2.1 x.2.2.1 x.2.2.2)
theorem Wp:l92_0 (B9 P91)=FP:=congrArg af ((Wo P91).trans (by rw[Wl,Wn] <;> rfl))
theorem ok92:L.Fn Try.prog 92 84 [(.t 8)] (erase TI):=Fn.ofA aM Try.func92 _ _ (by kernel_rfl)
def I0:FSh:=⟨⟨uF,dm⟩,uE,1,⟨⟨nr,dm⟩,[y7,y19],[0],1⟩,false⟩
noncomputable def q92 (F91:bJ)(l92_0:lF)(a0 a1 a2:Int)(a3:List Int):Option G9:=
ai (aC a2 a3.length) (
ai (aC a0 a3.length) (
ai (aC a0 a3.length) (
ai (aC a2 (List.length (List.set a3 a0.toNat (ix a3 a2)))) (
ai (ah .i64 (a0+1)) (
ai (ah .i64 (a1-1)) (
(l92_0 (a0,(a0+1),(a1-1),(List.set (List.set a3 a0.toNat (ix a3 a2)) a2.toNat (ix a3 a0)))).bind fun y5=>(
some (y5.1,y5.2))))))))
theorem g92 (F91:bJ):aO (B9 F91) I0 [(.t 8)] TI=u4 (q92 F91 (l92_0 (B9 F91))):=funext fun _=>by kernel_rfl
noncomputable def p92:=q92 P91 FP
noncomputable def re:lF:=fun x=>p92 x.1 x.2.1 x.2.2.1 x.2.2.2
theorem v92:aO (B9 P91) I0 [(.t 8)] TI=re:=(g92 P91).trans (by rw[Wp] <;> rfl)
theorem d92:DC Try.prog 92 I0 re:=aD v92 (aj t92 ok92 (by kernel_rfl))
end Go.Proofs.Ytdkaijofmigmbaa.D
