import Derived.Test.YtdkaijofmigmbaaG4m
import Derived.Test.YtdkaijofmigmbaaProg
set_option linter.unusedVariables false
set_option maxRecDepth 100000
namespace Go.Proofs.Ytdkaijofmigmbaa.D
open Go Go.Proofs Go.Proofs.Ytdkaijofmigmbaa.L
def I5:List Ty:=[aY,bd,y7]
def z14:List Ty:=[aY,bd,y7,y7,y7]
def TK:List Ty:=[aY,bd,y7,y7]
def Lk:List Ty:=[y7,y7,y7,y7,y19]
def ve:List Ty:=[y7,y7,y7,y19]
def I6:List Ty:=[y7,y7,y19]
def I7:List RSh:=[(.st aY),(.v bd),(.v y7)]
def j20:List RSh:=[(.st aY),(.v bd),(.v y7),(.v y7),(.v y7)]
def TL:List RSh:=[(.st aY),(.v bd),(.v y7),(.v y7)]
def j43:List RSh:=[(.v y7),(.v y7)]
def Rp:List RSh:=[(.slc 0),(.v y7),(.v y7),(.v y7),(.v y7)]
def vg:List RSh:=[(.slc 0),(.v y7),(.v y7),(.v y7)]
def j12:List RSh:=[(.slc 0),(.v y7),(.v y7),(.v y7),(.v y7),(.v y7)]
def k10:List (Nat×OSh):=[(0,(.box [(.v y19),(.v y7),(.slr 2),(.mp 3),(.slc 4)])),(1,(.pool da)),(2,(.rows 22 3 y7)),(3,(.pmap 1)),(4,(.row 3 y7))]
def k3:List (Nat×OSh):=[(0,(.box [(.v y19),(.v y7),(.slr 2),(.mp 3),(.slc 4)])),(1,(.row 40 da)),(2,(.rows 22 3 y7)),(3,(.pmap 5)),(4,(.row 3 y7)),(5,(.pool da))]
def TM:List (Nat×OSh):=[(0,(.row 3 y7)),(1,(.boxT y7))]
noncomputable def mT:List FEnt:=[]
theorem Rq:aq Try.prog mT:=al
def vh:LSh:=⟨[0,1,2,11,12],⟨j19,k10⟩,z9,5,[0,1,2,3,4]⟩
def vi:List XSh:=[⟨(.exit 0),[1,2],⟨⟨[(.pel 1),(.v y7)],k10⟩,z10,[0,1,2,3,4],5⟩⟩]
noncomputable def tr:=bU Try.prog [] Try.f111 (.s (.s .n (.b (.l vh vi .n))) .n)
noncomputable def vj (T:List FEnt):=aG (xs:=vi) vh (bg T (sb [0,1,2,2] tr))
noncomputable def l111v1_0 (T:List FEnt):=ah (vj T)
noncomputable def vk (a0 a1 a2 a3:Int)(a4:List Int)(a5:Int)(a6:List Y3)(a7:List Y2)(a8:List Int):Option R0:=
cond (decide (a3 < a2)) (
aj (aC ((pd a6 a0).2.1) a7.length) (
aj (ai .i64 ((pd a6 a0).2.2.1+a3)) (
aj (aC ((pd a6 a0).2.2.1+a3) (List.length (ix a7 ((pd a6 a0).2.1)))) (
aj (ai .i64 (a3+1)) (
some (Sum.inl (a0,a1,a2,(a3+1),a4,a5,a6,(List.set a7 (Int.toNat ((pd a6 a0).2.1)) (List.set (ix a7 ((pd a6 a0).2.1)) (Int.toNat ((pd a6 a0).2.2.1+a3)) (-1))),a8))))))) (
some (Sum.inr (a0,a1,a4,a5,a6,a7,a8)))
theorem Fs:vj mT=u9 vk:=funext fun _=>by kernel_rfl
noncomputable def Ft:=vk
noncomputable def vl:JP:=ah (fun x=>Ft x.1 x.2.1 x.2.2.1 x.2.2.2.1 x.2.2.2.2.1 x.2.2.2.2.2.1 x.2.2.2.2.2.2.1 x.2.2.2.2.2.2.2.1 x.2.2.2.2.2.2.2.2)
theorem Fu:l111v1_0 mT=vl:=congrArg ah Fs
theorem I8:L.Fn Try.prog 111 48 [] (erase tr):=Fn.ofA aN Try.func111 _ _ (by kernel_rfl)
def ow:FSh:=⟨⟨[(.ptr 0 0),(.pel 1),(.v y7)],k10⟩,z10,5,⟨⟨pG,k10⟩,[y19,y7,oz,cI,y19],[0,1,2,3,4],5⟩,false⟩
noncomputable def Fv (l111v1_0:JP)(a0 a1:Int)(a2:List Int)(a3:Int)(a4:List Y3)(a5:List Y2)(a6:List Int):Option RX:=
(l111v1_0 (a0,a1,(pd a4 a0).2.2.2.1,0,a2,a3,a4,a5,a6)).bind fun y1=>(
some (y1.2.2.1,y1.2.2.2.1,(Cv (Cu (x7 y1.2.2.2.2.1 y1.1 y1.2.1) y1.1 (-1)) y1.1 (-1)),y1.2.2.2.2.2.1,y1.2.2.2.2.2.2))
theorem g111v1:aO mT ow [] tr=u7 (Fv (l111v1_0 mT)):=funext fun _=>by kernel_rfl
noncomputable def Fw:=Fv vl
noncomputable def P111v1:qx:=fun x=>Fw x.1 x.2.1 x.2.2.1 x.2.2.2.1 x.2.2.2.2.1 x.2.2.2.2.2.1 x.2.2.2.2.2.2
theorem Rr:aO mT ow [] tr=P111v1:=g111v1.trans (by rw[Fu] <;> rfl)
theorem Rs:DC Try.prog 111 ow P111v1:=aF Rr (ak Rq I8 (by kernel_rfl))
noncomputable def T84 (F43:nS)(F112:JQ)(F111v1:qx):List FEnt:=[⟨43,BP,F43⟩,⟨112,zN,F112⟩,⟨111,ow,F111v1⟩]
theorem t84:aq Try.prog (T84 nN qq P111v1):=(af d43 (by kernel_rfl) (af d112 (by kernel_rfl) (af Rs (by kernel_rfl) al)))
noncomputable def c84:=bU Try.prog [] Try.f84 (.s .n (.s .n (.b (.s .n (.s .n (.s .n (.s .n (.s .n (.s (.r [.a 7 false y7,.a 8 false y7]) .n)))))))))
theorem ok84:L.Fn Try.prog 84 70 [] (erase c84):=Fn.ofA aN Try.func84 _ _ (by kernel_rfl)
def I9:FSh:=⟨⟨[(.ptr 0 0),(.st da)],k9⟩,[da,y19,y7,cI,y19,oz],5,⟨⟨pG,k9⟩,z12,[0,1,2],5⟩,false⟩
noncomputable def q84 (F43:nS)(F112:JQ)(F111v1:qx)(a0:Y1)(a1:List Int)(a2:Int)(a3:List Y2)(a4:List Int)(a5:List Y3):Option vD:=
(F43 (a0.2.2.2.1,a1,a2,a3,a4,a5)).bind fun r1=>(
cond (decide (a0.2.2.1=1)) (
(F112 (a0.2.2.2.1,a0.2.2.2.2,a0.2.1,r1.2.1,r1.2.2.1,r1.2.2.2.1,r1.2.2.2.2.1,r1.2.2.2.2.2)).bind fun r2=>(
some (r2.1,r2.2.1,r2.2.2.1,r2.2.2.2.1,r2.2.2.2.2))) (
cond (decide (a0.2.2.1=2)) (
cond (decide ((pd r1.2.2.2.2.2 r1.1).1=2)) (
some (r1.2.1,r1.2.2.1,r1.2.2.2.1,r1.2.2.2.2.1,(x7 r1.2.2.2.2.2 r1.1 3))) (
cond (decide (a0.2.2.1=2)) (
aj (bM 8 (List.length r1.2.2.2.2.1+List.length ([a0.2.2.2.1]:List Int))) (
some (r1.2.1,r1.2.2.1,r1.2.2.2.1,(r1.2.2.2.2.1++([a0.2.2.2.1]:List Int)),r1.2.2.2.2.2))) (
cond (decide ((pd r1.2.2.2.2.2 r1.1).1=2)) (
(F111v1 (r1.1,5,r1.2.1,r1.2.2.1,r1.2.2.2.2.2,r1.2.2.2.1,r1.2.2.2.2.1)).bind fun r3=>(
some (r3.1,r3.2.1,r3.2.2.2.1,r3.2.2.2.2,r3.2.2.1))) (
cond (decide ((pd r1.2.2.2.2.2 r1.1).1=3)) (
(F111v1 (r1.1,5,r1.2.1,r1.2.2.1,r1.2.2.2.2.2,r1.2.2.2.1,r1.2.2.2.2.1)).bind fun r4=>(
some (r4.1,r4.2.1,r4.2.2.2.1,r4.2.2.2.2,r4.2.2.1))) (
some (r1.2.1,r1.2.2.1,r1.2.2.2.1,r1.2.2.2.2.1,r1.2.2.2.2.2)))))) (
cond (decide (a0.2.2.1=2)) (
aj (bM 8 (List.length r1.2.2.2.2.1+List.length ([a0.2.2.2.1]:List Int))) (
some (r1.2.1,r1.2.2.1,r1.2.2.2.1,(r1.2.2.2.2.1++([a0.2.2.2.1]:List Int)),r1.2.2.2.2.2))) (
cond (decide ((pd r1.2.2.2.2.2 r1.1).1=2)) (
(F111v1 (r1.1,5,r1.2.1,r1.2.2.1,r1.2.2.2.2.2,r1.2.2.2.1,r1.2.2.2.2.1)).bind fun r5=>(
some (r5.1,r5.2.1,r5.2.2.2.1,r5.2.2.2.2,r5.2.2.1))) (
cond (decide ((pd r1.2.2.2.2.2 r1.1).1=3)) (
(F111v1 (r1.1,5,r1.2.1,r1.2.2.1,r1.2.2.2.2.2,r1.2.2.2.1,r1.2.2.2.2.1)).bind fun r6=>(
some (r6.1,r6.2.1,r6.2.2.2.1,r6.2.2.2.2,r6.2.2.1))) (
some (r1.2.1,r1.2.2.1,r1.2.2.2.1,r1.2.2.2.2.1,r1.2.2.2.2.2)))))))
theorem g84 (F43:nS)(F112:JQ)(F111v1:qx):aO (T84 F43 F112 F111v1) I9 [] c84=u6 (q84 F43 F112 F111v1):=funext fun _=>by kernel_rfl
noncomputable def p84:=q84 nN qq P111v1
noncomputable def P84:B0:=fun x=>p84 x.1 x.2.1 x.2.2.1 x.2.2.2.1 x.2.2.2.2.1 x.2.2.2.2.2
theorem v84:aO (T84 nN qq P111v1) I9 [] c84=P84:=g84 nN qq P111v1
theorem d84:DC Try.prog 84 I9 P84:=aF v84 (ak t84 ok84 (by kernel_rfl))
noncomputable def TN (F77:BY)(F79:mV)(F78:mV)(F82:mV)(F83:BZ)(F84:B0):List FEnt:=[⟨77,IJ,F77⟩,⟨79,IK,F79⟩,⟨78,IY,F78⟩,⟨82,I0,F82⟩,⟨83,I3,F83⟩,⟨84,I9,F84⟩]
theorem t65:aq Try.prog (TN BG BH zF tR P83 P84):=(af d77 (by kernel_rfl) (af d79 (by kernel_rfl) (af d78 (by kernel_rfl) (af d82 (by kernel_rfl) (af d83 (by kernel_rfl) (af d84 (by kernel_rfl) al))))))
def Ll:LSh:=⟨[2,7,17,18,19],⟨[(.v y7),(.ptr 0 0),(.slc 1),(.v y7),(.v y7)],k3⟩,[y7,y7,y7,y19,y7,bd,cI,y19,oz],6,[0,1,2,3]⟩
def Lm:List XSh:=[⟨(.exit 0),[2,7],⟨⟨[(.v y7),(.ptr 0 0)],k3⟩,[y7,y19,y7,bd,cI,y19,oz],[0,1,2,3],6⟩⟩]
noncomputable def c65:=bU Try.prog [] Try.f65 (.s .n (.s .n (.s .n (.s (.s .n (.b (.l Ll Lm .n))) .n))))
noncomputable def Ln (T:List FEnt):=aG (xs:=Lm) Ll (bg T (sb [1,1,1,0,1,2,2] c65))
noncomputable def l65_0 (T:List FEnt):=ah (Ln T)
noncomputable def rA (F77:BY)(F79 F78 F82:mV)(F83:BZ)(F84:B0)(a0 a1 a2:Int)(a3:List Int)(a4:Int)(a5:List Y1)(a6:List Y2)(a7:List Int)(a8:List Y3):Option Zh:=
cond (decide (a2 < a1)) (
aj (aC a2 a5.length) (
cond (decide (a0 < (ix a5 a2).2.1)) (
some (Sum.inr (a0,a3,a4,a5,a6,a7,a8))) (
(F83 ((ix a5 a2).2.1,a3,a4,a6,a7,a8)).bind fun r5=>(
(F84 ((ix a5 a2),r5.1,r5.2.1,r5.2.2.1,r5.2.2.2.1,r5.2.2.2.2)).bind fun r6=>(
aj (ai .i64 (a2+1)) (
some (Sum.inl (a0,a1,(a2+1),r6.1,r6.2.1,a5,r6.2.2.1,r6.2.2.2.1,r6.2.2.2.2)))))))) (
some (Sum.inr (a0,a3,a4,a5,a6,a7,a8)))
theorem VE (F77:BY)(F79 F78 F82:mV)(F83:BZ)(F84:B0):Ln (TN F77 F79 F78 F82 F83 F84)=u9 (rA F77 F79 F78 F82 F83 F84):=funext fun _=>by kernel_rfl
noncomputable def Lo:=rA BG BH zF tR P83 P84
noncomputable def L65_0:Zf:=ah (fun x=>Lo x.1 x.2.1 x.2.2.1 x.2.2.2.1 x.2.2.2.2.1 x.2.2.2.2.2.1 x.2.2.2.2.2.2.1 x.2.2.2.2.2.2.2.1 x.2.2.2.2.2.2.2.2)
theorem VF:l65_0 (TN BG BH zF tR P83 P84)=L65_0:=congrArg ah (VE BG BH zF tR P83 P84)
theorem ok65:L.Fn Try.prog 65 39 [(.t 6)] (erase c65):=Fn.ofA aN Try.func65 _ _ (by kernel_rfl)
def Fx:FSh:=⟨⟨I7,[]⟩,I5,0,⟨⟨Iy,k9⟩,z12,[],5⟩,false⟩
noncomputable def q65 (F77:BY)(F79 F78 F82:mV)(F83:BZ)(F84:B0)(l65_0:Zf)(a0:Y2×Int)(a1:List Y1)(a2:Int):Option vD:=
(F77 a0).bind fun r1=>(
(F79 a1).bind fun r2=>(
(F78 r2).bind fun r3=>(
(F82 r3).bind fun r4=>(
(l65_0 (a2,(↑r4.length:Int),0,r1.1,r1.2.1,r4,r1.2.2.1,([]:List Int),r1.2.2.2)).bind fun y7=>(
(F83 (y7.1,y7.2.1,y7.2.2.1,y7.2.2.2.2.1,y7.2.2.2.2.2.1,y7.2.2.2.2.2.2)).bind fun r8=>(
some (r8.1,r8.2.1,r8.2.2.1,r8.2.2.2.1,r8.2.2.2.2)))))))
theorem g65 (F77:BY)(F79 F78 F82:mV)(F83:BZ)(F84:B0):aO (TN F77 F79 F78 F82 F83 F84) Fx [(.t 6)] c65=u3 (q65 F77 F79 F78 F82 F83 F84 (l65_0 (TN F77 F79 F78 F82 F83 F84))):=funext fun _=>by kernel_rfl
noncomputable def p65:=q65 BG BH zF tR P83 P84 L65_0
noncomputable def P65:xZ:=fun x=>p65 x.1 x.2.1 x.2.2
theorem v65:aO (TN BG BH zF tR P83 P84) Fx [(.t 6)] c65=P65:=(g65 BG BH zF tR P83 P84).trans (by rw[VF] <;> rfl)
theorem d65:DC Try.prog 65 Fx P65:=aF v65 (ak t65 ok65 (by kernel_rfl))
noncomputable def T42 (F26:tW)(F60:Y5)(F65:xZ):List FEnt:=[⟨26,BE,F26⟩,⟨60,sZ,F60⟩,⟨65,Fx,F65⟩]
theorem t42:aq Try.prog (T42 tQ P60 P65):=(af d26 (by kernel_rfl) (af Tx (by kernel_rfl) (af d65 (by kernel_rfl) al)))
noncomputable def c42:=bU Try.prog [] Try.f42 .n
theorem ok42:L.Fn Try.prog 42 36 [(.t 10),(.t 11)] (erase c42):=Fn.ofA aN Try.func42 _ _ (by kernel_rfl)
def xL:FSh:=⟨⟨j20,[]⟩,z14,0,⟨⟨[(.tup [.nilp,(.v y7)])],[]⟩,[y7],[],0⟩,true⟩
noncomputable def q42 (F26:tW)(F60:Y5)(F65:xZ)(a0:Y2×Int)(a1:List Y1)(a2 a3 a4:Int):Option Int:=
(F26 (a0,a1)).bind fun r1=>(
cond (!decide (r1=0)) (
some r1) (
(F60 (a2,0,9999)).bind fun r2=>(
cond (!r2) (
some 1) (
(F60 (a3,0,99)).bind fun r3=>(
cond (!r3) (
some 1) (
(F60 (a4,1,12)).bind fun r4=>(
cond (!r4) (
some 1) (
(F65 (a0,a1,a2)).bind fun r5=>(
none)))))))))
theorem g42 (F26:tW)(F60:Y5)(F65:xZ):aO (T42 F26 F60 F65) xL [(.t 10),(.t 11)] c42=u5 (q42 F26 F60 F65):=funext fun _=>by kernel_rfl
noncomputable def p42:=q42 tQ P60 P65
noncomputable def pJ:eY:=fun x=>p42 x.1 x.2.1 x.2.2.1 x.2.2.2.1 x.2.2.2.2
theorem v42:aO (T42 tQ P60 P65) xL [(.t 10),(.t 11)] c42=pJ:=g42 tQ P60 P65
theorem d42:DC Try.prog 42 xL pJ:=aF v42 (ak t42 ok42 (by kernel_rfl))
noncomputable def Fy (F26:tW)(F60:Y5)(F65:xZ):List FEnt:=[⟨26,BE,F26⟩,⟨60,sZ,F60⟩,⟨65,Fx,F65⟩]
theorem VG:aq Try.prog (Fy tQ P60 P65):=(af d26 (by kernel_rfl) (af Tx (by kernel_rfl) (af d65 (by kernel_rfl) al)))
noncomputable def Fz:=bU Try.prog [] Try.f42 .n
theorem Rt:L.Fn Try.prog 42 36 [(.t 10),(.t 11)] (erase Fz):=Fn.ofA aN Try.func42 _ _ (by kernel_rfl)
def kW:FSh:=⟨⟨j20,[]⟩,z14,0,⟨⟨[(.tup Tw)],k9⟩,Tv,[],5⟩,false⟩
noncomputable def zO (F26:tW)(F60:Y5)(F65:xZ)(a0:Y2×Int)(a1:List Y1)(a2 a3 a4:Int):Option lP:=
(F26 (a0,a1)).bind fun r1=>(
cond (!decide (r1=0)) (
none) (
(F60 (a2,0,9999)).bind fun r2=>(
cond (!r2) (
none) (
(F60 (a3,0,99)).bind fun r3=>(
cond (!r3) (
none) (
(F60 (a4,1,12)).bind fun r4=>(
cond (!r4) (
none) (
(F65 (a0,a1,a2)).bind fun r5=>(
some (0,r5.1,r5.2.1,r5.2.2.1,r5.2.2.2.1,r5.2.2.2.2))))))))))
theorem VH (F26:tW)(F60:Y5)(F65:xZ):aO (Fy F26 F60 F65) kW [(.t 10),(.t 11)] Fz=u5 (zO F26 F60 F65):=funext fun _=>by kernel_rfl
noncomputable def VI:=zO tQ P60 P65
noncomputable def P42v1:mW:=fun x=>VI x.1 x.2.1 x.2.2.1 x.2.2.2.1 x.2.2.2.2
theorem VJ:aO (Fy tQ P60 P65) kW [(.t 10),(.t 11)] Fz=P42v1:=VH tQ P60 P65
theorem zP:DC Try.prog 42 kW P42v1:=aF VJ (ak VG Rt (by kernel_rfl))
noncomputable def T15 (F42:eY)(F42v1:mW)(F43:nS):List FEnt:=[⟨42,xL,F42⟩,⟨42,kW,F42v1⟩,⟨43,BP,F43⟩]
theorem t15:aq Try.prog (T15 pJ P42v1 nN):=(af d42 (by kernel_rfl) (af zP (by kernel_rfl) (af d43 (by kernel_rfl) al)))
noncomputable def c15:=bU Try.prog [] Try.f15 .n
theorem ok15:L.Fn Try.prog 15 30 [(.cell 8 true 4),(.t 9)] (erase c15):=Fn.ofA aN Try.func15 _ _ (by kernel_rfl)
def qr:FSh:=⟨⟨TL,[]⟩,TK,0,⟨⟨[(.tup [(.st eX),(.v y7)])],[]⟩,[eX,y7],[],0⟩,true⟩
noncomputable def q15 (F42:eY)(F42v1:mW)(F43:nS)(a0:Y2×Int)(a1:List Y1)(a2 a3:Int):Option R1:=
Kv (F42 (a0,a1,a2,a3,1)) (fun r1=>(
cond (!decide (r1=0)) (
some ((0,(0,(0,0))),r1)) (
none))) (
(F42v1 (a0,a1,a2,a3,1)).bind fun r2=>(
cond (!decide (r2.1=0)) (
some ((0,(0,(0,0))),r2.1)) (
(F43 (a3,r2.2.1,r2.2.2.1,r2.2.2.2.1,r2.2.2.2.2.1,r2.2.2.2.2.2)).bind fun r3=>(
some (((pd r3.2.2.2.2.2 r3.1).1,((pd r3.2.2.2.2.2 r3.1).2.1,((pd r3.2.2.2.2.2 r3.1).2.2.1,(pd r3.2.2.2.2.2 r3.1).2.2.2.1))),0)))))
theorem g15 (F42:eY)(F42v1:mW)(F43:nS):aO (T15 F42 F42v1 F43) qr [(.cell 8 true 4),(.t 9)] c15=u4 (q15 F42 F42v1 F43):=funext fun _=>by kernel_rfl
noncomputable def p15:=q15 pJ P42v1 nN
noncomputable def P15:dq:=fun x=>p15 x.1 x.2.1 x.2.2.1 x.2.2.2
theorem v15:aO (T15 pJ P42v1 nN) qr [(.cell 8 true 4),(.t 9)] c15=P15:=g15 pJ P42v1 nN
theorem VK:DC Try.prog 15 qr P15:=aF v15 (ak t15 ok15 (by kernel_rfl))
noncomputable def T21 (F42:eY)(F42v1:mW)(F46:vE):List FEnt:=[⟨42,xL,F42⟩,⟨42,kW,F42v1⟩,⟨46,sh46,F46⟩]
theorem t21:aq Try.prog (T21 pJ P42v1 qy):=(af d42 (by kernel_rfl) (af zP (by kernel_rfl) (af d46 (by kernel_rfl) al)))
noncomputable def c21:=bU Try.prog [] Try.f21 .n
theorem ok21:L.Fn Try.prog 21 37 [(.t 8),(.t 9),(.t 10)] (erase c21):=Fn.ofA aN Try.func21 _ _ (by kernel_rfl)
def xM:FSh:=⟨⟨TL,[]⟩,TK,0,⟨⟨[(.tup j36)],[]⟩,[y7,y7,y7],[],0⟩,true⟩
noncomputable def q21 (F42:eY)(F42v1:mW)(F46:vE)(a0:Y2×Int)(a1:List Y1)(a2 a3:Int):Option ci:=
Kv (F42 (a0,a1,a2,0,a3)) (fun r1=>(
cond (!decide (r1=0)) (
some (0,0,r1)) (
none))) (
(F42v1 (a0,a1,a2,0,a3)).bind fun r2=>(
cond (!decide (r2.1=0)) (
some (0,0,r2.1)) (
(F46 (a3,r2.2.1,r2.2.2.1,r2.2.2.2.1,r2.2.2.2.2.1,r2.2.2.2.2.2)).bind fun r3=>(
cond (!r3.2.1) (
some (0,0,3)) (
some (r3.1.2.1,r3.1.2.2.1,0))))))
theorem g21 (F42:eY)(F42v1:mW)(F46:vE):aO (T21 F42 F42v1 F46) xM [(.t 8),(.t 9),(.t 10)] c21=u4 (q21 F42 F42v1 F46):=funext fun _=>by kernel_rfl
noncomputable def p21:=q21 pJ P42v1 qy
noncomputable def P21:iU:=fun x=>p21 x.1 x.2.1 x.2.2.1 x.2.2.2
theorem v21:aO (T21 pJ P42v1 qy) xM [(.t 8),(.t 9),(.t 10)] c21=P21:=g21 pJ P42v1 qy
theorem d21:DC Try.prog 21 xM P21:=aF v21 (ak t21 ok21 (by kernel_rfl))
noncomputable def Ru:List FEnt:=[]
theorem t118:aq Try.prog Ru:=al
noncomputable def Rv:=bU Try.prog [] Try.f118 .n
theorem VL:L.Fn Try.prog 118 6 [(.t 2)] (erase Rv):=Fn.ofA aN Try.func118 _ _ (by kernel_rfl)
def zQ:FSh:=⟨⟨nK,[]⟩,[y7],0,⟨⟨ft,[]⟩,[.bool],[],0⟩,true⟩
noncomputable def VM (a0:Int):Option Bool:=
some (!decide (a0=a0))
theorem g118 (a0:Int):aO Ru zQ [(.t 2)] Rv a0=VM a0:=by kernel_rfl
noncomputable def p118:=VM
noncomputable def vo:l6:=fun x=>p118 x
theorem v118:aO Ru zQ [(.t 2)] Rv=vo:=funext fun x=>(g118 x)
theorem d118:DC Try.prog 118 zQ vo:=aF v118 (ak t118 VL (by kernel_rfl))
noncomputable def T91 (F118:l6):List FEnt:=[⟨118,zQ,F118⟩]
theorem t91:aq Try.prog (T91 vo):=(af d118 (by kernel_rfl) al)
noncomputable def c91:=bU Try.prog [] Try.f91 .n
theorem ok91:L.Fn Try.prog 91 17 [(.t 4)] (erase c91):=Fn.ofA aN Try.func91 _ _ (by kernel_rfl)
def qs:FSh:=⟨⟨j43,[]⟩,[y7,y7],0,⟨⟨ft,[]⟩,[.bool],[],0⟩,true⟩
noncomputable def q91 (F118:l6)(a0 a1:Int):Option Bool:=
(F118 a0).bind fun r1=>(
cond r1 (
(F118 a1).bind fun r2=>(
cond (!r2) (
some true) (
some (decide (a0 < a1))))) (
some (decide (a0 < a1))))
theorem g91 (F118:l6):aO (T91 F118) qs [(.t 4)] c91=u2 (q91 F118):=funext fun _=>by kernel_rfl
noncomputable def p91:=q91 vo
noncomputable def P91:bK:=fun x=>p91 x.1 x.2
theorem v91:aO (T91 vo) qs [(.t 4)] c91=P91:=g91 vo
theorem Rw:DC Try.prog 91 qs P91:=aF v91 (ak t91 ok91 (by kernel_rfl))
noncomputable def Ja (F91:bK):List FEnt:=[⟨91,qs,F91⟩]
theorem t85:aq Try.prog (Ja P91):=(af Rw (by kernel_rfl) al)
def Lp:LSh:=⟨[0,1,2,6,7],⟨Rp,dp⟩,Lk,1,[0]⟩
def Lq:List XSh:=[⟨(.exit 2),[0,1,2,6],⟨⟨vg,dp⟩,ve,[0],1⟩⟩]
def Lr:LSh:=⟨[0,1,2,6],⟨vg,dp⟩,ve,1,[0]⟩
def zR:List XSh:=[⟨(.exit 0),[],⟨⟨[],dp⟩,[y19],[0],1⟩⟩]
noncomputable def VN:=bU Try.prog [] Try.f85 (.s .n (.b (.l Lr zR (.s .n (.s (.b (.s .n (.b (.l Lp Lq .n)))) .n)))))
noncomputable def Ls (T:List FEnt):=aG (xs:=Lq) Lp (bg T (sb [1,2,2,1,0,2,1,2,2] VN))
noncomputable def l85_1 (T:List FEnt):=ah (Ls T)
noncomputable def FA (F91:bK)(a0 a1 a2 a3:Int)(a4:List Int):Option R4:=
cond (decide (a0 < a3)) (
aj (aC a3 a4.length) (
aj (ai .i64 (a3-1)) (
aj (aC (a3-1) a4.length) (
(F91 ((ix a4 a3),(ix a4 (a3-1)))).bind fun r1=>(
cond r1 (
aj (ai .i64 (a3-1)) (
aj (ai .i64 (a3-1)) (
aj (aC (a3-1) a4.length) (
aj (aC a3 a4.length) (
aj (aC a3 a4.length) (
aj (aC (a3-1) (List.length (List.set a4 a3.toNat (ix a4 (a3-1))))) (
aj (ai .i64 (a3-1)) (
some (Sum.inl (a0,a1,a2,(a3-1),(List.set (List.set a4 a3.toNat (ix a4 (a3-1))) (Int.toNat (a3-1)) (ix a4 a3)))))))))))) (
some (Sum.inr (a0,a1,a2,a4)))))))) (
some (Sum.inr (a0,a1,a2,a4)))
theorem VO (F91:bK):Ls (Ja F91)=u5 (FA F91):=funext fun _=>by kernel_rfl
noncomputable def Lt:=FA P91
noncomputable def FB:JS:=ah (fun x=>Lt x.1 x.2.1 x.2.2.1 x.2.2.2.1 x.2.2.2.2)
theorem VP:l85_1 (Ja P91)=FB:=congrArg ah (VO P91)
noncomputable def Lu (T:List FEnt):=aG (xs:=zR) Lr (bg T (sb [1,2,2] VN))
noncomputable def l85_0 (T:List FEnt):=ah (Lu T)
noncomputable def FC (F91:bK)(l85_1:JS)(a0 a1 a2:Int)(a3:List Int):Option R5:=
cond (decide (a2 < a1)) (
(l85_1 (a0,a1,a2,a2,a3)).bind fun y2=>(
aj (ai .i64 (y2.2.2.1+1)) (
some (Sum.inl (y2.1,y2.2.1,(y2.2.2.1+1),y2.2.2.2))))) (
some (Sum.inr a3))
theorem VQ (F91:bK):Lu (Ja F91)=u4 (FC F91 (l85_1 (Ja F91))):=funext fun _=>by kernel_rfl
noncomputable def Lv:=FC P91 FB
noncomputable def FD:cG:=ah (fun x=>Lv x.1 x.2.1 x.2.2.1 x.2.2.2)
theorem VR:l85_0 (Ja P91)=FD:=congrArg ah ((VQ P91).trans (by rw[VP] <;> rfl))
theorem ok85:L.Fn Try.prog 85 49 [] (erase VN):=Fn.ofA aN Try.func85 _ _ (by kernel_rfl)
def Jb:FSh:=⟨⟨Ho,dp⟩,I6,1,⟨⟨pG,dp⟩,[y19],[0],1⟩,false⟩
noncomputable def q85 (F91:bK)(l85_0:cG)(a0 a1:Int)(a2:List Int):Option Y2:=
aj (ai .i64 (a0+1)) (
(l85_0 (a0,a1,(a0+1),a2)).bind fun y3=>(
some y3))
theorem g85 (F91:bK):aO (Ja F91) Jb [] VN=u3 (q85 F91 (l85_0 (Ja F91))):=funext fun _=>by kernel_rfl
noncomputable def p85:=q85 P91 FD
noncomputable def rB:dV:=fun x=>p85 x.1 x.2.1 x.2.2
theorem v85:aO (Ja P91) Jb [] VN=rB:=(g85 P91).trans (by rw[VR] <;> rfl)
theorem d85:DC Try.prog 85 Jb rB:=aF v85 (ak t85 ok85 (by kernel_rfl))
noncomputable def BR (F91:bK):List FEnt:=[⟨91,qs,F91⟩]
theorem t113:aq Try.prog (BR P91):=(af Rw (by kernel_rfl) al)
def FE:LSh:=⟨[0,2,3,8],⟨vg,dp⟩,ve,1,[0]⟩
def FF:List XSh:=[⟨(.exit 0),[],⟨⟨[],dp⟩,[y19],[0],1⟩⟩,⟨.ret,[],⟨⟨[],dp⟩,[y19],[0],1⟩⟩]
noncomputable def Jc:=bU Try.prog [] Try.f113 (.s .n (.b (.l FE FF .n)))
noncomputable def FG (T:List FEnt):=aG (xs:=FF) FE (bg T (sb [1,2,2] Jc))
noncomputable def l113_0 (T:List FEnt):=ah (FG T)
noncomputable def xN (F91:bK)(a0 a1 a2:Int)(a3:List Int):Option Y7:=
aj (ai .i64 (2*a2)) (
aj (ai .i64 ((2*a2)+1)) (
cond (decide (a0≤((2*a2)+1))) (
some (Sum.inr (Sum.inl a3))) (
aj (ai .i64 (((2*a2)+1)+1)) (
cond (decide ((((2*a2)+1)+1) < a0)) (
aj (ai .i64 (a1+((2*a2)+1))) (
aj (aC (a1+((2*a2)+1)) a3.length) (
aj (ai .i64 (a1+((2*a2)+1))) (
aj (ai .i64 ((a1+((2*a2)+1))+1)) (
aj (aC ((a1+((2*a2)+1))+1) a3.length) (
(F91 ((ix a3 (a1+((2*a2)+1))),(ix a3 ((a1+((2*a2)+1))+1)))).bind fun r1=>(
cond r1 (
aj (ai .i64 (((2*a2)+1)+1)) (
aj (ai .i64 (a1+a2)) (
aj (aC (a1+a2) a3.length) (
aj (ai .i64 (a1+(((2*a2)+1)+1))) (
aj (aC (a1+(((2*a2)+1)+1)) a3.length) (
(F91 ((ix a3 (a1+a2)),(ix a3 (a1+(((2*a2)+1)+1))))).bind fun r2=>(
cond (!r2) (
some (Sum.inr (Sum.inr a3))) (
aj (ai .i64 (a1+a2)) (
aj (ai .i64 (a1+(((2*a2)+1)+1))) (
aj (ai .i64 (a1+(((2*a2)+1)+1))) (
aj (aC (a1+(((2*a2)+1)+1)) a3.length) (
aj (ai .i64 (a1+a2)) (
aj (aC (a1+a2) a3.length) (
aj (aC (a1+a2) a3.length) (
aj (aC (a1+(((2*a2)+1)+1)) (List.length (List.set a3 (Int.toNat (a1+a2)) (ix a3 (a1+(((2*a2)+1)+1)))))) (
some (Sum.inl (a0,a1,(((2*a2)+1)+1),(List.set (List.set a3 (Int.toNat (a1+a2)) (ix a3 (a1+(((2*a2)+1)+1)))) (Int.toNat (a1+(((2*a2)+1)+1))) (ix a3 (a1+a2))))))))))))))))))))) (
aj (ai .i64 (a1+a2)) (
aj (aC (a1+a2) a3.length) (
aj (ai .i64 (a1+((2*a2)+1))) (
aj (aC (a1+((2*a2)+1)) a3.length) (
(F91 ((ix a3 (a1+a2)),(ix a3 (a1+((2*a2)+1))))).bind fun r3=>(
cond (!r3) (
some (Sum.inr (Sum.inr a3))) (
aj (ai .i64 (a1+a2)) (
aj (ai .i64 (a1+((2*a2)+1))) (
aj (ai .i64 (a1+((2*a2)+1))) (
aj (aC (a1+((2*a2)+1)) a3.length) (
aj (ai .i64 (a1+a2)) (
aj (aC (a1+a2) a3.length) (
aj (aC (a1+a2) a3.length) (
aj (aC (a1+((2*a2)+1)) (List.length (List.set a3 (Int.toNat (a1+a2)) (ix a3 (a1+((2*a2)+1)))))) (
some (Sum.inl (a0,a1,((2*a2)+1),(List.set (List.set a3 (Int.toNat (a1+a2)) (ix a3 (a1+((2*a2)+1)))) (Int.toNat (a1+((2*a2)+1))) (ix a3 (a1+a2))))))))))))))))))))))))))) (
aj (ai .i64 (a1+a2)) (
aj (aC (a1+a2) a3.length) (
aj (ai .i64 (a1+((2*a2)+1))) (
aj (aC (a1+((2*a2)+1)) a3.length) (
(F91 ((ix a3 (a1+a2)),(ix a3 (a1+((2*a2)+1))))).bind fun r4=>(
cond (!r4) (
some (Sum.inr (Sum.inr a3))) (
aj (ai .i64 (a1+a2)) (
aj (ai .i64 (a1+((2*a2)+1))) (
aj (ai .i64 (a1+((2*a2)+1))) (
aj (aC (a1+((2*a2)+1)) a3.length) (
aj (ai .i64 (a1+a2)) (
aj (aC (a1+a2) a3.length) (
aj (aC (a1+a2) a3.length) (
aj (aC (a1+((2*a2)+1)) (List.length (List.set a3 (Int.toNat (a1+a2)) (ix a3 (a1+((2*a2)+1)))))) (
some (Sum.inl (a0,a1,((2*a2)+1),(List.set (List.set a3 (Int.toNat (a1+a2)) (ix a3 (a1+((2*a2)+1)))) (Int.toNat (a1+((2*a2)+1))) (ix a3 (a1+a2))))))))))))))))))))))))
theorem Rx (F91:bK):FG (BR F91)=u4 (xN F91):=funext fun _=>by kernel_rfl
noncomputable def FH:=xN P91
noncomputable def xO:YZ:=ah (fun x=>FH x.1 x.2.1 x.2.2.1 x.2.2.2)
theorem Ry:l113_0 (BR P91)=xO:=congrArg ah (Rx P91)
theorem VS:L.Fn Try.prog 113 76 [] (erase Jc):=Fn.ofA aN Try.func113 _ _ (by kernel_rfl)
def zS:FSh:=⟨⟨vg,dp⟩,ve,1,⟨⟨pG,dp⟩,[y19],[0],1⟩,false⟩
noncomputable def Rz (F91:bK)(l113_0:YZ)(a0 a1 a2:Int)(a3:List Int):Option Y2:=
(l113_0 (a1,a2,a0,a3)).bind (fun y5=>Sum.elim (fun y6=>(
some y6)) (fun y7=>(
some y7)) y5)
theorem g113 (F91:bK):aO (BR F91) zS [] Jc=u4 (Rz F91 (l113_0 (BR F91))):=funext fun _=>by kernel_rfl
noncomputable def VT:=Rz P91 xO
noncomputable def kX:cG:=fun x=>VT x.1 x.2.1 x.2.2.1 x.2.2.2
theorem v113:aO (BR P91) zS [] Jc=kX:=(g113 P91).trans (by rw[Ry] <;> rfl)
theorem d113:DC Try.prog 113 zS kX:=aF v113 (ak t113 VS (by kernel_rfl))
noncomputable def Jd (F113:cG):List FEnt:=[⟨113,zS,F113⟩]
theorem t86:aq Try.prog (Jd kX):=(af d113 (by kernel_rfl) al)
def Lw:LSh:=⟨[0,6,7,8,9],⟨Rp,dp⟩,Lk,1,[0]⟩
def Lx:List XSh:=[⟨(.exit 0),[0,6,7,8],⟨⟨vg,dp⟩,ve,[0],1⟩⟩]
def Ly:LSh:=⟨[0,6,7,10],⟨vg,dp⟩,ve,1,[0]⟩
def Lz:List XSh:=[⟨(.exit 2),[],⟨⟨[],dp⟩,[y19],[0],1⟩⟩]
noncomputable def VU:=bU Try.prog [] Try.f86 (.s .n (.s .n (.s .n (.s (.s .n (.b (.l Lw Lx .n))) (.s .n (.b (.l Ly Lz .n)))))))
noncomputable def LA (T:List FEnt):=aG (xs:=Lx) Lw (bg T (sb [1,1,1,0,1,2,2] VU))
noncomputable def l86_0 (T:List FEnt):=ah (LA T)
noncomputable def FI (F113:cG)(a0 a1 a2 a3:Int)(a4:List Int):Option R4:=
cond (decide (0≤a3)) (
(F113 (a3,a2,a0,a4)).bind fun r1=>(
aj (ai .i64 (a3-1)) (
some (Sum.inl (a0,a1,a2,(a3-1),r1))))) (
some (Sum.inr (a0,a1,a2,a4)))
theorem VV (F113:cG):LA (Jd F113)=u5 (FI F113):=funext fun _=>by kernel_rfl
noncomputable def LB:=FI kX
noncomputable def FJ:JS:=ah (fun x=>LB x.1 x.2.1 x.2.2.1 x.2.2.2.1 x.2.2.2.2)
theorem VW:l86_0 (Jd kX)=FJ:=congrArg ah (VV kX)
noncomputable def LC (T:List FEnt):=aG (xs:=Lz) Ly (bg T (sb [1,1,1,1,1,2,2] VU))
noncomputable def l86_1 (T:List FEnt):=ah (LC T)
noncomputable def FK (F113:cG)(a0 a1 a2:Int)(a3:List Int):Option R5:=
cond (decide (0≤a2)) (
aj (ai .i64 (a0+a2)) (
aj (ai .i64 (a0+a2)) (
aj (aC (a0+a2) a3.length) (
aj (aC a0 a3.length) (
aj (aC a0 a3.length) (
aj (aC (a0+a2) (List.length (List.set a3 a0.toNat (ix a3 (a0+a2))))) (
(F113 (a1,a2,a0,(List.set (List.set a3 a0.toNat (ix a3 (a0+a2))) (Int.toNat (a0+a2)) (ix a3 a0)))).bind fun r3=>(
aj (ai .i64 (a2-1)) (
some (Sum.inl (a0,a1,(a2-1),r3))))))))))) (
some (Sum.inr a3))
theorem VX (F113:cG):LC (Jd F113)=u4 (FK F113):=funext fun _=>by kernel_rfl
noncomputable def LD:=FK kX
noncomputable def FL:cG:=ah (fun x=>LD x.1 x.2.1 x.2.2.1 x.2.2.2)
theorem VY:l86_1 (Jd kX)=FL:=congrArg ah (VX kX)
theorem ok86:L.Fn Try.prog 86 56 [] (erase VU):=Fn.ofA aN Try.func86 _ _ (by kernel_rfl)
def Je:FSh:=⟨⟨Ho,dp⟩,I6,1,⟨⟨pG,dp⟩,[y19],[0],1⟩,false⟩
noncomputable def q86 (F113:cG)(l86_0:JS)(l86_1:cG)(a0 a1:Int)(a2:List Int):Option Y2:=
aj (ai .i64 (a1-a0)) (
aj (ai .i64 ((a1-a0)-1)) (
aj (ai .i64 (Int.tdiv ((a1-a0)-1) 2)) (
(l86_0 (a0,0,(a1-a0),(Int.tdiv ((a1-a0)-1) 2),a2)).bind fun y2=>(
aj (ai .i64 (y2.2.2.1-1)) (
(l86_1 (y2.1,y2.2.1,(y2.2.2.1-1),y2.2.2.2)).bind fun y4=>(
some y4))))))
theorem g86 (F113:cG):aO (Jd F113) Je [] VU=u3 (q86 F113 (l86_0 (Jd F113)) (l86_1 (Jd F113))):=funext fun _=>by kernel_rfl
noncomputable def p86:=q86 kX FJ FL
noncomputable def rC:dV:=fun x=>p86 x.1 x.2.1 x.2.2
theorem v86:aO (Jd kX) Je [] VU=rC:=(g86 kX).trans (by rw[VW,VY] <;> rfl)
theorem d86:DC Try.prog 86 Je rC:=aF v86 (ak t86 ok86 (by kernel_rfl))
noncomputable def TO (F114:nO)(F115:Gv):List FEnt:=[⟨114,uX,F114⟩,⟨115,uY,F115⟩]
theorem t87:aq Try.prog (TO gS gT):=(af U7 (by kernel_rfl) (af U9 (by kernel_rfl) al))
def LE:LSh:=⟨[0,1,6,7,8,9],⟨j11,[(0,(.row 3 y7)),(1,(.boxT iT))]⟩,[y7,y7,iT,y7,y19,iT],2,[0,1]⟩
def LF:List XSh:=[⟨(.exit 0),[],⟨⟨[],[(0,(.row 3 y7)),(1,(.boxT iT))]⟩,[y19,iT],[0,1],2⟩⟩]
noncomputable def c87:=bU Try.prog [] Try.f87 (.s .n (.s .n (.s (.s .n (.s .n (.s .n (.b (.l LE LF .n))))) .n)))
noncomputable def LG (T:List FEnt):=aG (xs:=LF) LE (bg T (sb [1,1,0,1,1,1,2,2] c87))
noncomputable def l87_0 (T:List FEnt):=ah (LG T)
noncomputable def zT (F114:nO)(F115:Gv)(a0 a1 a2 a3:Int)(a4:List Int)(a5:Int):Option Za:=
aj (ai .i64 (Int.tdiv a1 4)) (
aj (ai .i64 ((Int.tdiv a1 4)*2)) (
aj (ai .i64 (a0+((Int.tdiv a1 4)*2))) (
aj (ai .i64 ((a0+((Int.tdiv a1 4)*2))+1)) (
cond (decide (a3≤((a0+((Int.tdiv a1 4)*2))+1))) (
(F115 a5).bind fun r2=>(
aj (ai .u64 (a2-1)) (
aj (ai .i64 (bA .u64 r2.1 (a2-1))) (
cond (decide (a1≤(bA .u64 r2.1 (a2-1)))) (
aj (ai .i64 ((bA .u64 r2.1 (a2-1))-a1)) (
aj (ai .i64 (a0+((bA .u64 r2.1 (a2-1))-a1))) (
aj (ai .i64 (a0+((bA .u64 r2.1 (a2-1))-a1))) (
aj (aC (a0+((bA .u64 r2.1 (a2-1))-a1)) a4.length) (
aj (aC a3 a4.length) (
aj (aC a3 a4.length) (
aj (aC (a0+((bA .u64 r2.1 (a2-1))-a1)) (List.length (List.set a4 a3.toNat (ix a4 (a0+((bA .u64 r2.1 (a2-1))-a1)))))) (
aj (ai .i64 (a3+1)) (
some (Sum.inl (a0,a1,a2,(a3+1),(List.set (List.set a4 a3.toNat (ix a4 (a0+((bA .u64 r2.1 (a2-1))-a1)))) (Int.toNat (a0+((bA .u64 r2.1 (a2-1))-a1))) (ix a4 a3)),r2.2))))))))))) (
aj (ai .i64 (a0+(bA .u64 r2.1 (a2-1)))) (
aj (ai .i64 (a0+(bA .u64 r2.1 (a2-1)))) (
aj (aC (a0+(bA .u64 r2.1 (a2-1))) a4.length) (
aj (aC a3 a4.length) (
aj (aC a3 a4.length) (
aj (aC (a0+(bA .u64 r2.1 (a2-1))) (List.length (List.set a4 a3.toNat (ix a4 (a0+(bA .u64 r2.1 (a2-1))))))) (
aj (ai .i64 (a3+1)) (
some (Sum.inl (a0,a1,a2,(a3+1),(List.set (List.set a4 a3.toNat (ix a4 (a0+(bA .u64 r2.1 (a2-1))))) (Int.toNat (a0+(bA .u64 r2.1 (a2-1)))) (ix a4 a3)),r2.2)))))))))))))) (
some (Sum.inr (a4,a5)))))))
theorem VZ (F114:nO)(F115:Gv):LG (TO F114 F115)=u6 (zT F114 F115):=funext fun _=>by kernel_rfl
noncomputable def FM:=zT gS gT
noncomputable def FN:Y0:=ah (fun x=>FM x.1 x.2.1 x.2.2.1 x.2.2.2.1 x.2.2.2.2.1 x.2.2.2.2.2)
theorem V0:l87_0 (TO gS gT)=FN:=congrArg ah (VZ gS gT)
theorem ok87:L.Fn Try.prog 87 65 [] (erase c87):=Fn.ofA aN Try.func87 _ _ (by kernel_rfl)
def Jf:FSh:=⟨⟨Ho,dp⟩,I6,1,⟨⟨pG,dp⟩,[y19],[0],1⟩,false⟩
noncomputable def q87 (F114:nO)(F115:Gv)(l87_0:Y0)(a0 a1:Int)(a2:List Int):Option Y2:=
aj (ai .i64 (a1-a0)) (
cond (decide (8≤(a1-a0))) (
aj (ai .u64 (a1-a0)) (
(F114 (a1-a0)).bind fun r1=>(
aj (ai .i64 (Int.tdiv (a1-a0) 4)) (
aj (ai .i64 ((Int.tdiv (a1-a0) 4)*2)) (
aj (ai .i64 (a0+((Int.tdiv (a1-a0) 4)*2))) (
aj (ai .i64 ((a0+((Int.tdiv (a1-a0) 4)*2))-1)) (
(l87_0 (a0,(a1-a0),r1,((a0+((Int.tdiv (a1-a0) 4)*2))-1),a2,(a1-a0))).bind fun y3=>(
some y3.1)))))))) (
some a2))
theorem g87 (F114:nO)(F115:Gv):aO (TO F114 F115) Jf [] c87=u3 (q87 F114 F115 (l87_0 (TO F114 F115))):=funext fun _=>by kernel_rfl
noncomputable def p87:=q87 gS gT FN
noncomputable def qt:dV:=fun x=>p87 x.1 x.2.1 x.2.2
theorem v87:aO (TO gS gT) Jf [] c87=qt:=(g87 gS gT).trans (by rw[V0] <;> rfl)
theorem d87:DC Try.prog 87 Jf qt:=aF v87 (ak t87 ok87 (by kernel_rfl))
noncomputable def RA (F91:bK):List FEnt:=[⟨91,qs,F91⟩]
theorem t125:aq Try.prog (RA P91):=(af Rw (by kernel_rfl) al)
noncomputable def RB:=bU Try.prog [] Try.f125 .n
theorem V1:L.Fn Try.prog 125 28 [(.t 8),(.t 9)] (erase RB):=Fn.ofA aN Try.func125 _ _ (by kernel_rfl)
def zU:FSh:=⟨⟨[(.slc 0),(.v y7),(.v y7),(.ptr 1 0)],TM⟩,[y7,y7,y19,y7],2,⟨⟨KQ,TM⟩,[y7,y7,y19,y7],[0,1],2⟩,false⟩
noncomputable def RE (F91:bK)(a0 a1:Int)(a2:List Int)(a3:Int):Option YX:=
aj (aC a1 a2.length) (
aj (aC a0 a2.length) (
(F91 ((ix a2 a1),(ix a2 a0))).bind fun r1=>(
cond r1 (
aj (ai .i64 (a3+1)) (
some (a1,a0,a2,(a3+1)))) (
some (a0,a1,a2,a3)))))
theorem g125 (F91:bK):aO (RA F91) zU [(.t 8),(.t 9)] RB=u4 (RE F91):=funext fun _=>by kernel_rfl
noncomputable def V2:=RE P91
noncomputable def qu:JT:=fun x=>V2 x.1 x.2.1 x.2.2.1 x.2.2.2
theorem v125:aO (RA P91) zU [(.t 8),(.t 9)] RB=qu:=g125 P91
theorem d125:DC Try.prog 125 zU qu:=aF v125 (ak t125 V1 (by kernel_rfl))
noncomputable def RF (F125:JT):List FEnt:=[⟨125,zU,F125⟩]
theorem t117:aq Try.prog (RF qu):=(af d125 (by kernel_rfl) al)
noncomputable def RG:=bU Try.prog [] Try.f117 .n
theorem V3:L.Fn Try.prog 117 36 [(.t 10)] (erase RG):=Fn.ofA aN Try.func117 _ _ (by kernel_rfl)
def vq:FSh:=⟨⟨[(.slc 0),(.v y7),(.v y7),(.v y7),(.ptr 1 0)],TM⟩,[y7,y7,y7,y19,y7],2,⟨⟨nK,TM⟩,[y7,y19,y7],[0,1],2⟩,false⟩
noncomputable def RH (F125:JT)(a0 a1 a2:Int)(a3:List Int)(a4:Int):Option Gw:=
(F125 (a0,a1,a3,a4)).bind fun r1=>(
(F125 (r1.2.1,a2,r1.2.2.1,r1.2.2.2)).bind fun r2=>(
(F125 (r1.1,r2.1,r2.2.2.1,r2.2.2.2)).bind fun r3=>(
some (r3.2.1,r3.2.2.1,r3.2.2.2))))
theorem g117 (F125:JT):aO (RF F125) vq [(.t 10)] RG=u5 (RH F125):=funext fun _=>by kernel_rfl
noncomputable def V4:=RH qu
noncomputable def mU:xX:=fun x=>V4 x.1 x.2.1 x.2.2.1 x.2.2.2.1 x.2.2.2.2
theorem v117:aO (RF qu) vq [(.t 10)] RG=mU:=g117 qu
theorem V5:DC Try.prog 117 vq mU:=aF v117 (ak t117 V3 (by kernel_rfl))
noncomputable def RI (F117:xX):List FEnt:=[⟨117,vq,F117⟩]
theorem t116:aq Try.prog (RI mU):=(af V5 (by kernel_rfl) al)
noncomputable def RJ:=bU Try.prog [] Try.f116 .n
theorem V6:L.Fn Try.prog 116 15 [(.t 6)] (erase RJ):=Fn.ofA aN Try.func116 _ _ (by kernel_rfl)
def zV:FSh:=⟨⟨[(.slc 0),(.v y7),(.ptr 1 0)],TM⟩,[y7,y19,y7],2,⟨⟨nK,TM⟩,[y7,y19,y7],[0,1],2⟩,false⟩
noncomputable def RL (F117:xX)(a0:Int)(a1:List Int)(a2:Int):Option Gw:=
aj (ai .i64 (a0-1)) (
aj (ai .i64 (a0+1)) (
(F117 ((a0-1),a0,(a0+1),a1,a2)).bind fun r1=>(
some (r1.1,r1.2.1,r1.2.2))))
theorem g116 (F117:xX):aO (RI F117) zV [(.t 6)] RJ=u3 (RL F117):=funext fun _=>by kernel_rfl
noncomputable def V7:=RL mU
noncomputable def tt:JU:=fun x=>V7 x.1 x.2.1 x.2.2
theorem v116:aO (RI mU) zV [(.t 6)] RJ=tt:=g116 mU
theorem d116:DC Try.prog 116 zV tt:=aF v116 (ak t116 V6 (by kernel_rfl))
noncomputable def T88 (F116:JU)(F117:xX):List FEnt:=[⟨116,zV,F116⟩,⟨117,vq,F117⟩]
theorem t88:aq Try.prog (T88 tt mU):=(af d116 (by kernel_rfl) (af V5 (by kernel_rfl) al))
noncomputable def c88:=bU Try.prog [] Try.f88 .n
theorem ok88:L.Fn Try.prog 88 57 [(.t 6),(.t 7)] (erase c88):=Fn.ofA aN Try.func88 _ _ (by kernel_rfl)
def Jg:FSh:=⟨⟨Ho,dp⟩,I6,1,⟨⟨KQ,dp⟩,I6,[0],1⟩,false⟩
noncomputable def q88 (F116:JU)(F117:xX)(a0 a1:Int)(a2:List Int):Option Gx:=
aj (ai .i64 (a1-a0)) (
aj (ai .i64 (Int.tdiv (a1-a0) 4)) (
aj (ai .i64 ((Int.tdiv (a1-a0) 4)*1)) (
aj (ai .i64 (a0+((Int.tdiv (a1-a0) 4)*1))) (
aj (ai .i64 (Int.tdiv (a1-a0) 4)) (
aj (ai .i64 ((Int.tdiv (a1-a0) 4)*2)) (
aj (ai .i64 (a0+((Int.tdiv (a1-a0) 4)*2))) (
aj (ai .i64 (Int.tdiv (a1-a0) 4)) (
aj (ai .i64 ((Int.tdiv (a1-a0) 4)*3)) (
aj (ai .i64 (a0+((Int.tdiv (a1-a0) 4)*3))) (
cond (decide (8≤(a1-a0))) (
cond (decide (50≤(a1-a0))) (
(F116 ((a0+((Int.tdiv (a1-a0) 4)*1)),a2,0)).bind fun r1=>(
(F116 ((a0+((Int.tdiv (a1-a0) 4)*2)),r1.2.1,r1.2.2)).bind fun r2=>(
(F116 ((a0+((Int.tdiv (a1-a0) 4)*3)),r2.2.1,r2.2.2)).bind fun r3=>(
(F117 (r1.1,r2.1,r3.1,r3.2.1,r3.2.2)).bind fun r4=>(
cond (decide (r4.2.2=0)) (
some (r4.1,1,r4.2.1)) (
cond (decide (r4.2.2=12)) (
some (r4.1,2,r4.2.1)) (
some (r4.1,0,r4.2.1)))))))) (
(F117 ((a0+((Int.tdiv (a1-a0) 4)*1)),(a0+((Int.tdiv (a1-a0) 4)*2)),(a0+((Int.tdiv (a1-a0) 4)*3)),a2,0)).bind fun r5=>(
cond (decide (r5.2.2=0)) (
some (r5.1,1,r5.2.1)) (
cond (decide (r5.2.2=12)) (
some (r5.1,2,r5.2.1)) (
some (r5.1,0,r5.2.1)))))) (
cond (decide ((0:Int)=0)) (
some ((a0+((Int.tdiv (a1-a0) 4)*2)),1,a2)) (
cond (decide ((0:Int)=12)) (
some ((a0+((Int.tdiv (a1-a0) 4)*2)),2,a2)) (
some ((a0+((Int.tdiv (a1-a0) 4)*2)),0,a2))))))))))))))
theorem g88 (F116:JU)(F117:xX):aO (T88 F116 F117) Jg [(.t 6),(.t 7)] c88=u3 (q88 F116 F117):=funext fun _=>by kernel_rfl
noncomputable def p88:=q88 tt mU
noncomputable def rD:nT:=fun x=>p88 x.1 x.2.1 x.2.2
theorem v88:aO (T88 tt mU) Jg [(.t 6),(.t 7)] c88=rD:=g88 tt mU
theorem d88:DC Try.prog 88 Jg rD:=aF v88 (ak t88 ok88 (by kernel_rfl))
noncomputable def TP:List FEnt:=[]
theorem t89:aq Try.prog TP:=al
def LH:LSh:=⟨[0,6,7],⟨Ho,dp⟩,I6,1,[0]⟩
noncomputable def c89:=bU Try.prog [] Try.f89 (.s .n (.s .n (.b (.l LH zR .n))))
noncomputable def LI (T:List FEnt):=aG (xs:=zR) LH (bg T (sb [1,1,2,2] c89))
noncomputable def l89_0 (T:List FEnt):=ah (LI T)
noncomputable def FO (a0 a1:Int)(a2:List Int):Option Zb:=
cond (decide (a0 < a1)) (
aj (aC a1 a2.length) (
aj (aC a0 a2.length) (
aj (aC a0 a2.length) (
aj (aC a1 (List.length (List.set a2 a0.toNat (ix a2 a1)))) (
aj (ai .i64 (a0+1)) (
aj (ai .i64 (a1-1)) (
some (Sum.inl ((a0+1),(a1-1),(List.set (List.set a2 a0.toNat (ix a2 a1)) a1.toNat (ix a2 a0))))))))))) (
some (Sum.inr a2))
theorem V8:LI TP=u3 FO:=funext fun _=>by kernel_rfl
noncomputable def LJ:=FO
noncomputable def FP:dV:=ah (fun x=>LJ x.1 x.2.1 x.2.2)
theorem V9:l89_0 TP=FP:=congrArg ah V8
theorem ok89:L.Fn Try.prog 89 32 [] (erase c89):=Fn.ofA aN Try.func89 _ _ (by kernel_rfl)
def Jh:FSh:=⟨⟨Ho,dp⟩,I6,1,⟨⟨pG,dp⟩,[y19],[0],1⟩,false⟩
noncomputable def q89 (l89_0:dV)(a0 a1:Int)(a2:List Int):Option Y2:=
aj (ai .i64 (a1-1)) (
(l89_0 (a0,(a1-1),a2)).bind fun y1=>(
some y1))
theorem g89:aO TP Jh [] c89=u3 (q89 (l89_0 TP)):=funext fun _=>by kernel_rfl
noncomputable def p89:=q89 FP
noncomputable def rE:dV:=fun x=>p89 x.1 x.2.1 x.2.2
theorem v89:aO TP Jh [] c89=rE:=g89.trans (by rw[V9] <;> rfl)
theorem d89:DC Try.prog 89 Jh rE:=aF v89 (ak t89 ok89 (by kernel_rfl))
noncomputable def tS (F91:bK):List FEnt:=[⟨91,qs,F91⟩]
theorem t90:aq Try.prog (tS P91):=(af Rw (by kernel_rfl) al)
def rF:LSh:=⟨[0,1,2,7,8],⟨Rp,dp⟩,Lk,1,[0]⟩
def LK:List XSh:=[⟨(.exit 2),[0,1,2,7,8],⟨⟨Rp,dp⟩,Lk,[0],1⟩⟩]
def LL:LSh:=⟨[0,1,2,7,8,9],⟨j12,dp⟩,[y7,y7,y7,y7,y7,y19],1,[0]⟩
def LM:List XSh:=[⟨(.exit 4),[0,1,2,7,8],⟨⟨Rp,dp⟩,Lk,[0],1⟩⟩]
def LN:List XSh:=[⟨.normal,[0,1,2,7,8],⟨⟨Rp,dp⟩,Lk,[0],1⟩⟩]
def LO:LSh:=⟨[0,1,2,7,8,10],⟨j12,dp⟩,[y7,y7,y7,y7,y7,y19],1,[0]⟩
def LP:List XSh:=[⟨(.exit 6),[0,1,2,7,8],⟨⟨Rp,dp⟩,Lk,[0],1⟩⟩]
def LQ:List XSh:=[⟨.ret,[6],⟨⟨ft,dp⟩,[.bool,y19],[0],1⟩⟩,⟨(.exit 0),[],⟨⟨[],dp⟩,[y19],[0],1⟩⟩]
noncomputable def LR:=bU Try.prog [] Try.f90 (.s .n (.s .n (.s (.s .n (.b (.l rF LQ (.s .n (.s (.b (.s (.b (.l rF LK .n)) (.s .n (.s .n (.s .n (.s (.o rF LN (.s .n (.s (.s .n (.b (.l LL LM .n))) .n))) (.s .n (.s (.s .n (.b (.l LO LP .n))) .n)))))))) .n))))) .n)))
noncomputable def LS (T:List FEnt):=aG (xs:=LK) rF (bg T (sb [1,1,0,1,2,2,1,0,2,0,2,2] LR))
noncomputable def l90_1 (T:List FEnt):=ah (LS T)
noncomputable def FQ (F91:bK)(a0 a1 a2 a3:Int)(a4:List Int):Option Zc:=
cond (decide (a2 < a1)) (
aj (aC a2 a4.length) (
aj (ai .i64 (a2-1)) (
aj (aC (a2-1) a4.length) (
(F91 ((ix a4 a2),(ix a4 (a2-1)))).bind fun r1=>(
cond (!r1) (
aj (ai .i64 (a2+1)) (
some (Sum.inl (a0,a1,(a2+1),a3,a4)))) (
some (Sum.inr (a0,a1,a2,a3,a4)))))))) (
some (Sum.inr (a0,a1,a2,a3,a4)))
theorem Wb (F91:bK):LS (tS F91)=u5 (FQ F91):=funext fun _=>by kernel_rfl
noncomputable def LT:=FQ P91
noncomputable def FR:R3:=ah (fun x=>LT x.1 x.2.1 x.2.2.1 x.2.2.2.1 x.2.2.2.2)
theorem Wc:l90_1 (tS P91)=FR:=congrArg ah (Wb P91)
noncomputable def LU (T:List FEnt):=aG (xs:=LM) LL (bg T (sb [1,1,0,1,2,2,1,0,2,1,1,1,1,0,2,1,0,1,2,2] LR))
noncomputable def l90_3 (T:List FEnt):=ah (LU T)
noncomputable def FS (F91:bK)(a0 a1 a2 a3 a4:Int)(a5:List Int):Option R6:=
cond (decide (1≤a4)) (
aj (aC a4 a5.length) (
aj (ai .i64 (a4-1)) (
aj (aC (a4-1) a5.length) (
(F91 ((ix a5 a4),(ix a5 (a4-1)))).bind fun r3=>(
cond (!r3) (
some (Sum.inr (a0,a1,a2,a3,a5))) (
aj (ai .i64 (a4-1)) (
aj (ai .i64 (a4-1)) (
aj (aC (a4-1) a5.length) (
aj (aC a4 a5.length) (
aj (aC a4 a5.length) (
aj (aC (a4-1) (List.length (List.set a5 a4.toNat (ix a5 (a4-1))))) (
aj (ai .i64 (a4-1)) (
some (Sum.inl (a0,a1,a2,a3,(a4-1),(List.set (List.set a5 a4.toNat (ix a5 (a4-1))) (Int.toNat (a4-1)) (ix a5 a4))))))))))))))))) (
some (Sum.inr (a0,a1,a2,a3,a5)))
theorem Wd (F91:bK):LU (tS F91)=u6 (FS F91):=funext fun _=>by kernel_rfl
noncomputable def LV:=FS P91
noncomputable def FT:JV:=ah (fun x=>LV x.1 x.2.1 x.2.2.1 x.2.2.2.1 x.2.2.2.2.1 x.2.2.2.2.2)
theorem We:l90_3 (tS P91)=FT:=congrArg ah (Wd P91)
noncomputable def l90_2 (T:List FEnt):=fg (xs:=LN) rF (bg T (sb [1,1,0,1,2,2,1,0,2,1,1,1,1,0,2] LR))
noncomputable def FU (F91:bK)(l90_3:JV)(a0 a1 a2 a3:Int)(a4:List Int):Option tB:=
aj (ai .i64 (a2-a0)) (
cond (decide (2≤(a2-a0))) (
aj (ai .i64 (a2-1)) (
(l90_3 (a0,a1,a2,a3,(a2-1),a4)).bind fun y4=>(
some (y4.1,y4.2.1,y4.2.2.1,y4.2.2.2.1,y4.2.2.2.2)))) (
some (a0,a1,a2,a3,a4)))
theorem Wg (F91:bK):l90_2 (tS F91)=u5 (FU F91 (l90_3 (tS F91))):=funext fun _=>by kernel_rfl
noncomputable def LW:=FU P91 FT
noncomputable def zW:R3:=fun x=>LW x.1 x.2.1 x.2.2.1 x.2.2.2.1 x.2.2.2.2
theorem Wh:l90_2 (tS P91)=zW:=(Wg P91).trans (by rw[We] <;> rfl)
noncomputable def LX (T:List FEnt):=aG (xs:=LP) LO (bg T (sb [1,1,0,1,2,2,1,0,2,1,1,1,1,1,1,0,1,2,2] LR))
noncomputable def l90_4 (T:List FEnt):=ah (LX T)
noncomputable def FX (F91:bK)(a0 a1 a2 a3 a4:Int)(a5:List Int):Option R6:=
cond (decide (a4 < a1)) (
aj (aC a4 a5.length) (
aj (ai .i64 (a4-1)) (
aj (aC (a4-1) a5.length) (
(F91 ((ix a5 a4),(ix a5 (a4-1)))).bind fun r6=>(
cond (!r6) (
some (Sum.inr (a0,a1,a2,a3,a5))) (
aj (ai .i64 (a4-1)) (
aj (ai .i64 (a4-1)) (
aj (aC (a4-1) a5.length) (
aj (aC a4 a5.length) (
aj (aC a4 a5.length) (
aj (aC (a4-1) (List.length (List.set a5 a4.toNat (ix a5 (a4-1))))) (
aj (ai .i64 (a4+1)) (
some (Sum.inl (a0,a1,a2,a3,(a4+1),(List.set (List.set a5 a4.toNat (ix a5 (a4-1))) (Int.toNat (a4-1)) (ix a5 a4))))))))))))))))) (
some (Sum.inr (a0,a1,a2,a3,a5)))
theorem Wi (F91:bK):LX (tS F91)=u6 (FX F91):=funext fun _=>by kernel_rfl
noncomputable def LY:=FX P91
noncomputable def FY:JV:=ah (fun x=>LY x.1 x.2.1 x.2.2.1 x.2.2.2.1 x.2.2.2.2.1 x.2.2.2.2.2)
theorem Wj:l90_4 (tS P91)=FY:=congrArg ah (Wi P91)
noncomputable def LZ (T:List FEnt):=aG (xs:=LQ) rF (bg T (sb [1,1,0,1,2,2] LR))
noncomputable def l90_0 (T:List FEnt):=ah (LZ T)
noncomputable def FZ (F91:bK)(l90_1 l90_2:R3)(l90_4:JV)(a0 a1 a2 a3:Int)(a4:List Int):Option Zi:=
cond (decide (a3 < 5)) (
(l90_1 (a0,a1,a2,a3,a4)).bind fun y2=>(
cond (decide (y2.2.2.1=y2.2.1)) (
some (Sum.inr (Sum.inl (true,y2.2.2.2.2)))) (
aj (ai .i64 (y2.2.1-y2.1)) (
cond (decide ((y2.2.1-y2.1) < 50)) (
some (Sum.inr (Sum.inl (false,y2.2.2.2.2)))) (
aj (ai .i64 (y2.2.2.1-1)) (
aj (ai .i64 (y2.2.2.1-1)) (
aj (aC (y2.2.2.1-1) y2.2.2.2.2.length) (
aj (aC y2.2.2.1 y2.2.2.2.2.length) (
aj (aC y2.2.2.1 y2.2.2.2.2.length) (
aj (aC (y2.2.2.1-1) (List.length (List.set y2.2.2.2.2 y2.2.2.1.toNat (ix y2.2.2.2.2 (y2.2.2.1-1))))) (
(l90_2 (y2.1,y2.2.1,y2.2.2.1,y2.2.2.2.1,(List.set (List.set y2.2.2.2.2 y2.2.2.1.toNat (ix y2.2.2.2.2 (y2.2.2.1-1))) (Int.toNat (y2.2.2.1-1)) (ix y2.2.2.2.2 y2.2.2.1)))).bind fun y5=>(
aj (ai .i64 (y5.2.1-y5.2.2.1)) (
cond (decide (2≤(y5.2.1-y5.2.2.1))) (
aj (ai .i64 (y5.2.2.1+1)) (
(l90_4 (y5.1,y5.2.1,y5.2.2.1,y5.2.2.2.1,(y5.2.2.1+1),y5.2.2.2.2)).bind fun y7=>(
aj (ai .i64 (y7.2.2.2.1+1)) (
some (Sum.inl (y7.1,y7.2.1,y7.2.2.1,(y7.2.2.2.1+1),y7.2.2.2.2)))))) (
aj (ai .i64 (y5.2.2.2.1+1)) (
some (Sum.inl (y5.1,y5.2.1,y5.2.2.1,(y5.2.2.2.1+1),y5.2.2.2.2))))))))))))))))) (
some (Sum.inr (Sum.inr a4)))
theorem Wl (F91:bK):LZ (tS F91)=u5 (FZ F91 (l90_1 (tS F91)) (l90_2 (tS F91)) (l90_4 (tS F91))):=funext fun _=>by kernel_rfl
noncomputable def Ma:=FZ P91 FR zW FY
noncomputable def F0:Zg:=ah (fun x=>Ma x.1 x.2.1 x.2.2.1 x.2.2.2.1 x.2.2.2.2)
theorem Wm:l90_0 (tS P91)=F0:=congrArg ah ((Wl P91).trans (by rw[Wc,Wh,Wj] <;> rfl))
theorem ok90:L.Fn Try.prog 90 133 [(.t 6)] (erase LR):=Fn.ofA aN Try.func90 _ _ (by kernel_rfl)
def Ji:FSh:=⟨⟨Ho,dp⟩,I6,1,⟨⟨ft,dp⟩,[.bool,y19],[0],1⟩,false⟩
noncomputable def q90 (F91:bK)(l90_0:Zg)(a0 a1:Int)(a2:List Int):Option R2:=
aj (ai .i64 (a0+1)) (
(l90_0 (a0,a1,(a0+1),0,a2)).bind (fun y8=>Sum.elim (fun y9=>(
some (y9.1,y9.2))) (fun y10=>(
some (false,y10))) y8))
theorem g90 (F91:bK):aO (tS F91) Ji [(.t 6)] LR=u3 (q90 F91 (l90_0 (tS F91))):=funext fun _=>by kernel_rfl
noncomputable def p90:=q90 P91 F0
noncomputable def rG:nU:=fun x=>p90 x.1 x.2.1 x.2.2
theorem v90:aO (tS P91) Ji [(.t 6)] LR=rG:=(g90 P91).trans (by rw[Wm] <;> rfl)
theorem d90:DC Try.prog 90 Ji rG:=aF v90 (ak t90 ok90 (by kernel_rfl))
noncomputable def Co (F91:bK):List FEnt:=[⟨91,qs,F91⟩]
theorem t92:aq Try.prog (Co P91):=(af Rw (by kernel_rfl) al)
def rH:LSh:=⟨[0,1,9,10],⟨vg,dp⟩,ve,1,[0]⟩
def Mb:List XSh:=[⟨(.exit 2),[0,1,9,10],⟨⟨vg,dp⟩,ve,[0],1⟩⟩]
def Mc:List XSh:=[⟨(.exit 4),[0,1,9,10],⟨⟨vg,dp⟩,ve,[0],1⟩⟩]
def Md:List XSh:=[⟨(.exit 0),[9],⟨⟨nK,dp⟩,[y7,y19],[0],1⟩⟩]
noncomputable def TQ:=bU Try.prog [] Try.f92 (.s .n (.s .n (.s .n (.s (.b (.l rH Md (.b (.s (.b (.l rH Mb .n)) (.s (.b (.l rH Mc .n)) .n))))) .n))))
noncomputable def Me (T:List FEnt):=aG (xs:=Mb) rH (bg T (sb [1,1,1,0,2,2,2,0,2,2] TQ))
noncomputable def l92_1 (T:List FEnt):=ah (Me T)
noncomputable def F1 (F91:bK)(a0 a1 a2:Int)(a3:List Int):Option xY:=
cond (decide (a1≤a2)) (
aj (aC a0 a3.length) (
aj (aC a1 a3.length) (
(F91 ((ix a3 a0),(ix a3 a1))).bind fun r1=>(
cond (!r1) (
aj (ai .i64 (a1+1)) (
some (Sum.inl (a0,(a1+1),a2,a3)))) (
some (Sum.inr (a0,a1,a2,a3))))))) (
some (Sum.inr (a0,a1,a2,a3)))
theorem Wn (F91:bK):Me (Co F91)=u4 (F1 F91):=funext fun _=>by kernel_rfl
noncomputable def Mf:=F1 P91
noncomputable def F2:tC:=ah (fun x=>Mf x.1 x.2.1 x.2.2.1 x.2.2.2)
theorem Wo:l92_1 (Co P91)=F2:=congrArg ah (Wn P91)
noncomputable def Mg (T:List FEnt):=aG (xs:=Mc) rH (bg T (sb [1,1,1,0,2,2,2,1,0,2,2] TQ))
noncomputable def l92_2 (T:List FEnt):=ah (Mg T)
noncomputable def F3 (F91:bK)(a0 a1 a2:Int)(a3:List Int):Option xY:=
cond (decide (a1≤a2)) (
aj (aC a0 a3.length) (
aj (aC a2 a3.length) (
(F91 ((ix a3 a0),(ix a3 a2))).bind fun r3=>(
cond r3 (
aj (ai .i64 (a2-1)) (
some (Sum.inl (a0,a1,(a2-1),a3)))) (
some (Sum.inr (a0,a1,a2,a3))))))) (
some (Sum.inr (a0,a1,a2,a3)))
theorem Wp (F91:bK):Mg (Co F91)=u4 (F3 F91):=funext fun _=>by kernel_rfl
noncomputable def Mh:=F3 P91
noncomputable def F4:tC:=ah (fun x=>Mh x.1 x.2.1 x.2.2.1 x.2.2.2)
theorem Wq:l92_2 (Co P91)=F4:=congrArg ah (Wp P91)
noncomputable def Mi (T:List FEnt):=aG (xs:=Md) rH (bg T (sb [1,1,1,0,2,2] TQ))
noncomputable def l92_0 (T:List FEnt):=ah (Mi T)
noncomputable def F5 (F91:bK)(l92_1 l92_2:tC)(a0 a1 a2:Int)(a3:List Int):Option Ze:=
(l92_1 (a0,a1,a2,a3)).bind fun y2=>(
(l92_2 (y2.1,y2.2.1,y2.2.2.1,y2.2.2.2)).bind fun y4=>(
cond (decide (y4.2.2.1 < y4.2.1)) (
some (Sum.inr (y4.2.1,y4.2.2.2))) (
aj (aC y4.2.2.1 y4.2.2.2.length) (
aj (aC y4.2.1 y4.2.2.2.length) (
aj (aC y4.2.1 y4.2.2.2.length) (
aj (aC y4.2.2.1 (List.length (List.set y4.2.2.2 y4.2.1.toNat (ix y4.2.2.2 y4.2.2.1)))) (
aj (ai .i64 (y4.2.1+1)) (
aj (ai .i64 (y4.2.2.1-1)) (
some (Sum.inl (y4.1,(y4.2.1+1),(y4.2.2.1-1),(List.set (List.set y4.2.2.2 y4.2.1.toNat (ix y4.2.2.2 y4.2.2.1)) y4.2.2.1.toNat (ix y4.2.2.2 y4.2.1)))))))))))))
theorem Wr (F91:bK):Mi (Co F91)=u4 (F5 F91 (l92_1 (Co F91)) (l92_2 (Co F91))):=funext fun _=>by kernel_rfl
noncomputable def Mj:=F5 P91 F2 F4
noncomputable def F6:lQ:=ah (fun x=>Mj x.1 x.2.1 x.2.2.1 x.2.2.2)
theorem Ws:l92_0 (Co P91)=F6:=congrArg ah ((Wr P91).trans (by rw[Wo,Wq] <;> rfl))
theorem ok92:L.Fn Try.prog 92 84 [(.t 8)] (erase TQ):=Fn.ofA aN Try.func92 _ _ (by kernel_rfl)
def Jj:FSh:=⟨⟨vg,dp⟩,ve,1,⟨⟨nK,dp⟩,[y7,y19],[0],1⟩,false⟩
noncomputable def q92 (F91:bK)(l92_0:lQ)(a0 a1 a2:Int)(a3:List Int):Option Hq:=
aj (aC a2 a3.length) (
aj (aC a0 a3.length) (
aj (aC a0 a3.length) (
aj (aC a2 (List.length (List.set a3 a0.toNat (ix a3 a2)))) (
aj (ai .i64 (a0+1)) (
aj (ai .i64 (a1-1)) (
(l92_0 (a0,(a0+1),(a1-1),(List.set (List.set a3 a0.toNat (ix a3 a2)) a2.toNat (ix a3 a0)))).bind fun y5=>(
some (y5.1,y5.2))))))))
theorem g92 (F91:bK):aO (Co F91) Jj [(.t 8)] TQ=u4 (q92 F91 (l92_0 (Co F91))):=funext fun _=>by kernel_rfl
noncomputable def p92:=q92 P91 F6
noncomputable def rI:lQ:=fun x=>p92 x.1 x.2.1 x.2.2.1 x.2.2.2
theorem v92:aO (Co P91) Jj [(.t 8)] TQ=rI:=(g92 P91).trans (by rw[Ws] <;> rfl)
theorem d92:DC Try.prog 92 Jj rI:=aF v92 (ak t92 ok92 (by kernel_rfl))
end Go.Proofs.Ytdkaijofmigmbaa.D
