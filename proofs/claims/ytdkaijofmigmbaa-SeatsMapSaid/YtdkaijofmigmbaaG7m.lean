import Derived.Test.YtdkaijofmigmbaaG6m
import Derived.Test.YtdkaijofmigmbaaProg
set_option linter.unusedVariables false
set_option maxRecDepth 100000
namespace Go.Proofs.Ytdkaijofmigmbaa.D
open Go Go.Proofs Go.Proofs.Ytdkaijofmigmbaa.L
def z17:List Ty:=[y7,y7,.bool,cI]
def RN:List Ty:=[aY,bd,iX]
def j35:List RSh:=[(.v y19),(.v y7),(.v y7)]
def j33:List RSh:=[(.v y7),(.v y7),(.v .bool)]
def j28:List RSh:=[(.slr 0),(.slc 1),(.slc 2),(.slc 3)]
def RO:List RSh:=[(.st aY),(.v bd),(.st iX)]
def xS:List (Nat×OSh):=[(0,(.rows 22 3 y7))]
def k11:List (Nat×OSh):=[(0,(.box [(.slr 1),(.slc 2),(.slc 3),(.slc 4)])),(1,(.rows 22 3 y7)),(2,(.row 32 eX)),(3,(.row 3 y7)),(4,(.row 3 y7))]
def W6:List (Nat×OSh):=[(0,(.rows 22 3 y7)),(1,(.row 32 eX)),(2,(.row 3 y7)),(3,(.row 3 y7))]
def k5:List (Nat×OSh):=[(0,(.boxT aY)),(1,(.box [(.slr 2),(.slc 3),(.slc 4),(.slc 5)])),(2,(.rows 22 3 y7)),(3,(.row 32 eX)),(4,(.row 3 y7)),(5,(.row 3 y7))]
def k1:List (Nat×OSh):=[(0,(.boxT aY)),(1,(.box [.emp,.emp,.emp,.emp])),(2,(.box [(.slr 4),(.slc 5),(.slc 6),(.slc 7)])),(3,(.boxT da)),(4,(.rows 22 3 y7)),(5,(.row 32 eX)),(6,(.row 3 y7)),(7,(.row 3 y7))]
def k2:List (Nat×OSh):=[(0,(.boxT aY)),(1,(.box [.emp,.emp,.emp,.emp])),(2,(.box [(.slr 3),(.slc 4),(.slc 5),(.slc 6)])),(3,(.rows 22 3 y7)),(4,(.row 32 eX)),(5,(.row 3 y7)),(6,(.row 3 y7))]
def W7:List (Nat×OSh):=[(0,(.rows 22 3 y7)),(1,(.rows 22 3 y7))]
noncomputable def T47:List FEnt:=[]
theorem t47:aq Try.prog T47:=al
noncomputable def c47:=bU Try.prog [] Try.f47 .n
theorem ok47:L.Fn Try.prog 47 20 [(.t 4)] (erase c47):=Fn.ofA aN Try.func47 _ _ (by kernel_rfl)
def Gp:FSh:=⟨⟨UM,[]⟩,[y19,y7],0,⟨⟨ft,[]⟩,[.bool],[],0⟩,true⟩
noncomputable def q47 (a0:List Int)(a1:Int):Option Bool:=
cond (decide (0≤a1)) (
cond (decide (a1 < (↑a0.length:Int))) (
aj (aC a1 a0.length) (
some (decide ((ix a0 a1)=(-1))))) (
some false)) (
some false)
theorem g47:aO T47 Gp [(.t 4)] c47=u2 q47:=funext fun _=>by kernel_rfl
noncomputable def p47:=q47
noncomputable def tV:lN:=fun x=>p47 x.1 x.2
theorem v47:aO T47 Gp [(.t 4)] c47=tV:=g47
theorem d47:DC Try.prog 47 Gp tV:=aF v47 (ak t47 ok47 (by kernel_rfl))
noncomputable def TV (F47:lN):List FEnt:=[⟨47,Gp,F47⟩]
theorem t22:aq Try.prog (TV tV):=(af d47 (by kernel_rfl) al)
def Nv:LSh:=⟨[0,1,2,7],⟨[(.v y19),(.v y7),(.v y7),(.v y7)],[]⟩,[y19,y7,y7,y7],0,[]⟩
def Nw:List XSh:=[⟨.ret,[6],⟨⟨ft,[]⟩,[.bool],[],0⟩⟩,⟨(.exit 0),[],⟨⟨[],[]⟩,[],[],0⟩⟩]
noncomputable def c22:=bU Try.prog [] Try.f22 (.s .n (.s (.s .n (.b (.l Nv Nw .n))) .n))
noncomputable def Nx (T:List FEnt):=aG (xs:=Nw) Nv (bg T (sb [1,0,1,2,2] c22))
noncomputable def l22_0 (T:List FEnt):=ah (Nx T)
noncomputable def rR (F47:lN)(a0:List Int)(a1 a2 a3:Int):Option aab:=
aj (ai .i64 (a1+a2)) (
cond (decide (a3 < (a1+a2))) (
(F47 (a0,a3)).bind fun r1=>(
cond (!r1) (
some (Sum.inr (Sum.inl false))) (
aj (ai .i64 (a3+1)) (
some (Sum.inl (a0,a1,a2,(a3+1))))))) (
some (Sum.inr (Sum.inr ()))))
theorem W8 (F47:lN):Nx (TV F47)=u4 (rR F47):=funext fun _=>by kernel_rfl
noncomputable def Ny:=rR tV
noncomputable def Am:ZX:=ah (fun x=>Ny x.1 x.2.1 x.2.2.1 x.2.2.2)
theorem W9:l22_0 (TV tV)=Am:=congrArg ah (W8 tV)
theorem ok22:L.Fn Try.prog 22 20 [(.t 6)] (erase c22):=Fn.ofA aN Try.func22 _ _ (by kernel_rfl)
def Gq:FSh:=⟨⟨j35,[]⟩,[y19,y7,y7],0,⟨⟨ft,[]⟩,[.bool],[],0⟩,true⟩
noncomputable def q22 (F47:lN)(l22_0:ZX)(a0:List Int)(a1 a2:Int):Option Bool:=
(l22_0 (a0,a1,a2,a1)).bind (fun y2=>Sum.elim (fun y3=>(
some y3)) (fun y4=>(
some true)) y2)
theorem g22 (F47:lN):aO (TV F47) Gq [(.t 6)] c22=u3 (q22 F47 (l22_0 (TV F47))):=funext fun _=>by kernel_rfl
noncomputable def p22:=q22 tV Am
noncomputable def P22:gZ:=fun x=>p22 x.1 x.2.1 x.2.2
theorem v22:aO (TV tV) Gq [(.t 6)] c22=P22:=(g22 tV).trans (by rw[W9] <;> rfl)
theorem d22:DC Try.prog 22 Gq P22:=aF v22 (ak t22 ok22 (by kernel_rfl))
noncomputable def T23 (F47:lN):List FEnt:=[⟨47,Gp,F47⟩]
theorem t23:aq Try.prog (T23 tV):=(af d47 (by kernel_rfl) al)
noncomputable def c23:=bU Try.prog [] Try.f23 .n
theorem ok23:L.Fn Try.prog 23 36 [(.t 6)] (erase c23):=Fn.ofA aN Try.func23 _ _ (by kernel_rfl)
def Gr:FSh:=⟨⟨j35,[]⟩,[y19,y7,y7],0,⟨⟨ft,[]⟩,[.bool],[],0⟩,true⟩
noncomputable def q23 (F47:lN)(a0:List Int)(a1 a2:Int):Option Bool:=
aj (ai .i64 (a1-1)) (
aj (ai .i64 (a1+a2)) (
(F47 (a0,(a1-1))).bind fun r1=>(
cond r1 (
aj (ai .i64 ((a1-1)-1)) (
(F47 (a0,((a1-1)-1))).bind fun r2=>(
cond (!r2) (
some true) (
(F47 (a0,(a1+a2))).bind fun r3=>(
cond r3 (
aj (ai .i64 ((a1+a2)+1)) (
(F47 (a0,((a1+a2)+1))).bind fun r4=>(
some (!r4)))) (
some false)))))) (
(F47 (a0,(a1+a2))).bind fun r5=>(
cond r5 (
aj (ai .i64 ((a1+a2)+1)) (
(F47 (a0,((a1+a2)+1))).bind fun r6=>(
some (!r6)))) (
some false))))))
theorem g23 (F47:lN):aO (T23 F47) Gr [(.t 6)] c23=u3 (q23 F47):=funext fun _=>by kernel_rfl
noncomputable def p23:=q23 tV
noncomputable def P23:gZ:=fun x=>p23 x.1 x.2.1 x.2.2
theorem v23:aO (T23 tV) Gr [(.t 6)] c23=P23:=g23 tV
theorem d23:DC Try.prog 23 Gr P23:=aF v23 (ak t23 ok23 (by kernel_rfl))
noncomputable def Cr (F22:gZ)(F23:gZ):List FEnt:=[⟨22,Gq,F22⟩,⟨23,Gr,F23⟩]
theorem t56:aq Try.prog (Cr P22 P23):=(af d22 (by kernel_rfl) (af d23 (by kernel_rfl) al))
def Nz:LSh:=⟨[0,1,7,8,9],⟨[(.slr 0),(.v y7),(.v y7),(.v y7),(.v y7)],xS⟩,[y7,y7,y7,y7,cI],1,[0]⟩
def NA:List XSh:=[⟨.ret,[4,5,6],⟨⟨j33,xS⟩,z17,[0],1⟩⟩,⟨(.exit 4),[0,1,7,8],⟨⟨[(.slr 0),(.v y7),(.v y7),(.v y7)],xS⟩,[y7,y7,y7,cI],[0],1⟩⟩]
def NB:LSh:=⟨[0,1,7,8],⟨[(.slr 0),(.v y7),(.v y7),(.v y7)],xS⟩,[y7,y7,y7,cI],1,[0]⟩
def NC:List XSh:=[⟨.ret,[4,5,6],⟨⟨j33,xS⟩,z17,[0],1⟩⟩,⟨(.exit 2),[0,1,7],⟨⟨[(.slr 0),(.v y7),(.v y7)],xS⟩,[y7,y7,cI],[0],1⟩⟩]
def ND:LSh:=⟨[0,1,7],⟨[(.slr 0),(.v y7),(.v y7)],xS⟩,[y7,y7,cI],1,[0]⟩
def NE:List XSh:=[⟨.ret,[4,5,6],⟨⟨j33,xS⟩,z17,[0],1⟩⟩,⟨(.exit 0),[],⟨⟨[],xS⟩,[cI],[0],1⟩⟩]
noncomputable def TW:=bU Try.prog [] Try.f56 (.s .n (.s (.s .n (.b (.l ND NE (.s .n (.s (.b (.s .n (.b (.l NB NC (.s .n (.s (.b (.s .n (.b (.l Nz NA .n)))) .n)))))) .n))))) .n))
noncomputable def NF (T:List FEnt):=aG (xs:=NA) Nz (bg T (sb [1,0,1,2,2,1,0,2,1,2,2,1,0,2,1,2,2] TW))
noncomputable def l56_2 (T:List FEnt):=ah (NF T)
noncomputable def rS (F22 F23:gZ)(a0 a1 a2 a3:Int)(a4:List Y2):Option aay:=
aj (ai .i64 (a3+a0)) (
aj (aC a2 a4.length) (
cond (decide ((a3+a0)≤(↑(List.length (ix a4 a2)):Int))) (
aj (aC a2 a4.length) (
(F22 ((ix a4 a2),a3,a0)).bind fun r1=>(
cond r1 (
cond (decide (a1=1)) (
some (Sum.inr (Sum.inl (a2,a3,true,a4)))) (
aj (aC a2 a4.length) (
(F23 ((ix a4 a2),a3,a0)).bind fun r2=>(
cond (!r2) (
some (Sum.inr (Sum.inl (a2,a3,true,a4)))) (
aj (ai .i64 (a3+1)) (
some (Sum.inl (a0,a1,a2,(a3+1),a4)))))))) (
aj (ai .i64 (a3+1)) (
some (Sum.inl (a0,a1,a2,(a3+1),a4))))))) (
some (Sum.inr (Sum.inr (a0,a1,a2,a4))))))
theorem Xa (F22 F23:gZ):NF (Cr F22 F23)=u5 (rS F22 F23):=funext fun _=>by kernel_rfl
noncomputable def NG:=rS P22 P23
noncomputable def L56_2:aau:=ah (fun x=>NG x.1 x.2.1 x.2.2.1 x.2.2.2.1 x.2.2.2.2)
theorem Xb:l56_2 (Cr P22 P23)=L56_2:=congrArg ah (Xa P22 P23)
noncomputable def NH (T:List FEnt):=aG (xs:=NC) NB (bg T (sb [1,0,1,2,2,1,0,2,1,2,2] TW))
noncomputable def l56_1 (T:List FEnt):=ah (NH T)
noncomputable def q56_1 (F22 F23:gZ)(l56_2:aau)(a0 a1 a2:Int)(a3:List Y2):Option aaz:=
cond (decide (a2 < (↑a3.length:Int))) (
(l56_2 (a0,a1,a2,0,a3)).bind (fun y3=>Sum.elim (fun y4=>(
some (Sum.inr (Sum.inl (y4.1,y4.2.1,y4.2.2.1,y4.2.2.2))))) (fun y5=>(
aj (ai .i64 (y5.2.2.1+1)) (
some (Sum.inl (y5.1,y5.2.1,(y5.2.2.1+1),y5.2.2.2))))) y3)) (
some (Sum.inr (Sum.inr (a0,a1,a3))))
theorem Xc (F22 F23:gZ):NH (Cr F22 F23)=u4 (q56_1 F22 F23 (l56_2 (Cr F22 F23))):=funext fun _=>by kernel_rfl
noncomputable def NI:=q56_1 P22 P23 L56_2
noncomputable def An:aav:=ah (fun x=>NI x.1 x.2.1 x.2.2.1 x.2.2.2)
theorem Xd:l56_1 (Cr P22 P23)=An:=congrArg ah ((Xc P22 P23).trans (by rw[Xb] <;> rfl))
noncomputable def NJ (T:List FEnt):=aG (xs:=NE) ND (bg T (sb [1,0,1,2,2] TW))
noncomputable def l56_0 (T:List FEnt):=ah (NJ T)
noncomputable def Ao (F22 F23:gZ)(l56_1:aav)(a0 a1:Int)(a2:List Y2):Option aaA:=
cond (decide (a1 < 2)) (
(l56_1 (a0,a1,0,a2)).bind (fun y6=>Sum.elim (fun y7=>(
some (Sum.inr (Sum.inl (y7.1,y7.2.1,y7.2.2.1,y7.2.2.2))))) (fun y8=>(
aj (ai .i64 (y8.2.1+1)) (
some (Sum.inl (y8.1,(y8.2.1+1),y8.2.2))))) y6)) (
some (Sum.inr (Sum.inr a2)))
theorem Xe (F22 F23:gZ):NJ (Cr F22 F23)=u3 (Ao F22 F23 (l56_1 (Cr F22 F23))):=funext fun _=>by kernel_rfl
noncomputable def vz:=Ao P22 P23 An
noncomputable def Ap:aaw:=ah (fun x=>vz x.1 x.2.1 x.2.2)
theorem Xf:l56_0 (Cr P22 P23)=Ap:=congrArg ah ((Xe P22 P23).trans (by rw[Xd] <;> rfl))
theorem ok56:L.Fn Try.prog 56 54 [(.t 4),(.t 5),(.t 6)] (erase TW):=Fn.ofA aN Try.func56 _ _ (by kernel_rfl)
def Ju:FSh:=⟨⟨[(.slr 0),(.v y7)],xS⟩,[y7,cI],1,⟨⟨[(.tup j33)],xS⟩,z17,[0],1⟩,false⟩
noncomputable def q56 (F22 F23:gZ)(l56_0:aaw)(a0:Int)(a1:List Y2):Option Gy:=
(l56_0 (a0,0,a1)).bind (fun y9=>Sum.elim (fun y10=>(
some (y10.1,y10.2.1,y10.2.2.1,y10.2.2.2))) (fun y11=>(
some (0,0,false,y11))) y9)
theorem g56 (F22 F23:gZ):aO (Cr F22 F23) Ju [(.t 4),(.t 5),(.t 6)] TW=u2 (q56 F22 F23 (l56_0 (Cr F22 F23))):=funext fun _=>by kernel_rfl
noncomputable def p56:=q56 P22 P23 Ap
noncomputable def rT:vH:=fun x=>p56 x.1 x.2
theorem v56:aO (Cr P22 P23) Ju [(.t 4),(.t 5),(.t 6)] TW=rT:=(g56 P22 P23).trans (by rw[Xf] <;> rfl)
theorem d56:DC Try.prog 56 Ju rT:=aF v56 (ak t56 ok56 (by kernel_rfl))
noncomputable def lL:List FEnt:=[]
theorem Xg:aq Try.prog lL:=al
def Aq:LSh:=⟨[1,2,3,6,7],⟨[(.v y7),(.v y7),(.ptr 0 0),(.v y7),(.v y7)],k11⟩,[y7,y7,y7,y7,cI,gY,y19,y19],5,[0,1,2,3,4]⟩
def Ar:List XSh:=[⟨(.exit 2),[1,2,3,6],⟨⟨[(.v y7),(.v y7),(.ptr 0 0),(.v y7)],k11⟩,[y7,y7,y7,cI,gY,y19,y19],[0,1,2,3,4],5⟩⟩]
def As:LSh:=⟨[1,2,3,6],⟨[(.v y7),(.v y7),(.ptr 0 0),(.v y7)],k11⟩,[y7,y7,y7,cI,gY,y19,y19],5,[0,1,2,3,4]⟩
def At:List XSh:=[⟨(.exit 0),[1,2,3],⟨⟨[(.v y7),(.v y7),(.ptr 0 0)],k11⟩,[y7,y7,cI,gY,y19,y19],[0,1,2,3,4],5⟩⟩]
noncomputable def vA:=bU Try.prog [] Try.f73 (.s .n (.s (.s .n (.b (.l As At (.s .n (.s (.b (.s .n (.b (.l Aq Ar .n)))) .n))))) .n))
noncomputable def Au (T:List FEnt):=aG (xs:=Ar) Aq (bg T (sb [1,0,1,2,2,1,0,2,1,2,2] vA))
noncomputable def l73v1_1 (T:List FEnt):=ah (Au T)
noncomputable def jP (a0 a1 a2 a3:Int)(a4:List Y2)(a5:List Y4)(a6 a7:List Int):Option aam:=
aj (aC a2 a4.length) (
cond (decide (a3 < (↑(List.length (ix a4 a2)):Int))) (
aj (aC a2 a4.length) (
aj (aC a3 (List.length (ix a4 a2))) (
cond (decide ((ix (ix a4 a2) a3)=a0)) (
aj (aC a2 a4.length) (
aj (aC a3 (List.length (ix a4 a2))) (
aj (ai .i64 (a3+1)) (
some (Sum.inl (a0,a1,a2,(a3+1),(List.set a4 a2.toNat (List.set (ix a4 a2) a3.toNat (-1))),a5,a6,a7)))))) (
aj (ai .i64 (a3+1)) (
some (Sum.inl (a0,a1,a2,(a3+1),a4,a5,a6,a7))))))) (
some (Sum.inr (a0,a1,a2,a4,a5,a6,a7))))
theorem Jv:Au lL=u8 jP:=funext fun _=>by kernel_rfl
noncomputable def Av:=jP
noncomputable def lM:aad:=ah (fun x=>Av x.1 x.2.1 x.2.2.1 x.2.2.2.1 x.2.2.2.2.1 x.2.2.2.2.2.1 x.2.2.2.2.2.2.1 x.2.2.2.2.2.2.2)
theorem Jw:l73v1_1 lL=lM:=congrArg ah Jv
noncomputable def Aw (T:List FEnt):=aG (xs:=At) As (bg T (sb [1,0,1,2,2] vA))
noncomputable def l73v1_0 (T:List FEnt):=ah (Aw T)
noncomputable def jQ (l73v1_1:aad)(a0 a1 a2:Int)(a3:List Y2)(a4:List Y4)(a5 a6:List Int):Option aan:=
cond (decide (a2 < (↑a3.length:Int))) (
(l73v1_1 (a0,a1,a2,0,a3,a4,a5,a6)).bind fun y1=>(
aj (ai .i64 (y1.2.2.1+1)) (
some (Sum.inl (y1.1,y1.2.1,(y1.2.2.1+1),y1.2.2.2.1,y1.2.2.2.2.1,y1.2.2.2.2.2.1,y1.2.2.2.2.2.2))))) (
some (Sum.inr (a0,a1,a3,a4,a5,a6)))
theorem g73v1_0:Aw lL=u7 (jQ (l73v1_1 lL)):=funext fun _=>by kernel_rfl
noncomputable def Ax:=jQ lM
noncomputable def ox:aae:=ah (fun x=>Ax x.1 x.2.1 x.2.2.1 x.2.2.2.1 x.2.2.2.2.1 x.2.2.2.2.2.1 x.2.2.2.2.2.2)
theorem Jx:l73v1_0 lL=ox:=congrArg ah (g73v1_0.trans (by rw[Jw] <;> rfl))
theorem RP:L.Fn Try.prog 73 54 [] (erase vA):=Fn.ofA aN Try.func73 _ _ (by kernel_rfl)
def pM:FSh:=⟨⟨[(.agg j28),(.v y7),(.v y7)],W6⟩,[y7,y7,cI,gY,y19,y19],4,⟨⟨pG,W6⟩,[cI,gY,y19,y19],[0,1,2,3],4⟩,false⟩
noncomputable def Ay (l73v1_0:aae)(a0 a1:Int)(a2:List Y2)(a3:List Y4)(a4 a5:List Int):Option B4:=
(l73v1_0 (a0,a1,0,a2,a3,a4,a5)).bind fun y2=>(
aj (aC y2.1 y2.2.2.2.1.length) (
aj (aC y2.1 y2.2.2.2.1.length) (
some (y2.2.2.1,(List.set y2.2.2.2.1 y2.1.toNat (y2.2.1,((-1),((-1),(ix y2.2.2.2.1 y2.1).2.2.2)))),y2.2.2.2.2.1,y2.2.2.2.2.2))))
theorem g73v1:aO lL pM [] vA=u6 (Ay (l73v1_0 lL)):=funext fun _=>by kernel_rfl
noncomputable def Xh:=Ay ox
noncomputable def cn:mX:=fun x=>Xh x.1 x.2.1 x.2.2.1 x.2.2.2.1 x.2.2.2.2.1 x.2.2.2.2.2
theorem Xi:aO lL pM [] vA=cn:=g73v1.trans (by rw[Jx] <;> rfl)
theorem NK:DC Try.prog 73 pM cn:=aF Xi (ak Xg RP (by kernel_rfl))
noncomputable def rU (F73v1:mX):List FEnt:=[⟨73,pM,F73v1⟩]
theorem Xj:aq Try.prog (rU cn):=(af NK (by kernel_rfl) al)
def Az:LSh:=⟨[2,3,4,6],⟨[(.v y7),(.ptr 0 0),(.ptr 1 0),(.v y7)],k5⟩,[y7,y7,aY,cI,gY,y19,y19],6,[0,1,2,3,4,5]⟩
def AA:List XSh:=[⟨(.exit 0),[],⟨⟨[],k5⟩,[aY,cI,gY,y19,y19],[0,1,2,3,4,5],6⟩⟩]
noncomputable def AB:=bU Try.prog [] Try.f72 (.s .n (.s .n (.b (.l Az AA .n))))
noncomputable def AD (T:List FEnt):=aG (xs:=AA) Az (bg T (sb [1,1,2,2] AB))
noncomputable def l72v1_0 (T:List FEnt):=ah (AD T)
noncomputable def jR (F73v1:mX)(a0 a1:Int)(a2:Y2×Int)(a3:List Y2)(a4:List Y4)(a5 a6:List Int):Option aao:=
cond (decide (a1 < (↑a4.length:Int))) (
aj (aC a1 a4.length) (
cond (decide ((ix a4 a1).1=2)) (
aj (aC a1 a5.length) (
aj (ai .i64 ((ix a5 a1)+a2.2)) (
cond (decide (((ix a5 a1)+a2.2)≤a0)) (
(F73v1 (a1,4,a3,a4,a5,a6)).bind fun r1=>(
aj (ai .i64 (a1+1)) (
some (Sum.inl (a0,(a1+1),a2,r1.1,r1.2.1,r1.2.2.1,r1.2.2.2))))) (
aj (ai .i64 (a1+1)) (
some (Sum.inl (a0,(a1+1),a2,a3,a4,a5,a6))))))) (
aj (ai .i64 (a1+1)) (
some (Sum.inl (a0,(a1+1),a2,a3,a4,a5,a6)))))) (
some (Sum.inr (a2,a3,a4,a5,a6)))
theorem Jy (F73v1:mX):AD (rU F73v1)=u7 (jR F73v1):=funext fun _=>by kernel_rfl
noncomputable def AE:=jR cn
noncomputable def oy:aaf:=ah (fun x=>AE x.1 x.2.1 x.2.2.1 x.2.2.2.1 x.2.2.2.2.1 x.2.2.2.2.2.1 x.2.2.2.2.2.2)
theorem Jz:l72v1_0 (rU cn)=oy:=congrArg ah (Jy cn)
theorem RQ:L.Fn Try.prog 72 36 [] (erase AB):=Fn.ofA aN Try.func72 _ _ (by kernel_rfl)
def tw:FSh:=⟨⟨[(.st aY),(.agg j28),(.v y7)],W6⟩,[aY,y7,cI,gY,y19,y19],4,⟨⟨pG,W6⟩,[cI,gY,y19,y19],[0,1,2,3],4⟩,false⟩
noncomputable def AF (F73v1:mX)(l72v1_0:aaf)(a0:Y2×Int)(a1:Int)(a2:List Y2)(a3:List Y4)(a4 a5:List Int):Option B4:=
(l72v1_0 (a1,0,a0,a2,a3,a4,a5)).bind fun y2=>(
some (y2.2.1,y2.2.2.1,y2.2.2.2.1,y2.2.2.2.2))
theorem Xk (F73v1:mX):aO (rU F73v1) tw [] AB=u6 (AF F73v1 (l72v1_0 (rU F73v1))):=funext fun _=>by kernel_rfl
noncomputable def Xl:=AF cn oy
noncomputable def dR:vI:=fun x=>Xl x.1 x.2.1 x.2.2.1 x.2.2.2.1 x.2.2.2.2.1 x.2.2.2.2.2
theorem Xm:aO (rU cn) tw [] AB=dR:=(Xk cn).trans (by rw[Jz] <;> rfl)
theorem Xn:DC Try.prog 72 tw dR:=aF Xm (ak Xj RQ (by kernel_rfl))
noncomputable def JA (F70:vG)(F71:mV)(F72v1:vI)(F56:vH)(F73v1:mX):List FEnt:=[⟨70,Jr,F70⟩,⟨71,Jt,F71⟩,⟨72,tw,F72v1⟩,⟨56,Ju,F56⟩,⟨73,pM,F73v1⟩]
theorem t52:aq Try.prog (JA tv qw dR rT cn):=(af d70 (by kernel_rfl) (af d71 (by kernel_rfl) (af Xn (by kernel_rfl) (af d56 (by kernel_rfl) (af NK (by kernel_rfl) al)))))
def NL:LSh:=⟨[2,3,6,7,8,9,10,12,13,15],⟨[(.v y7),(.ptr 0 0),(.ptr 1 0),(.ptr 2 0),(.v bd),(.v y7),(.ptr 3 0),(.v y7),(.v y7),(.v y7)],k1⟩,[y7,bd,y7,y7,y7,y7,aY,da,cI,gY,y19,y19],8,[0,1,2,3,4,5,6,7]⟩
def NM:List XSh:=[⟨(.exit 3),[2,3,6,7,8,9,10,12,13],⟨⟨[(.v y7),(.ptr 0 0),(.ptr 1 0),(.ptr 2 0),(.v bd),(.v y7),(.ptr 3 0),(.v y7),(.v y7)],k1⟩,[y7,bd,y7,y7,y7,aY,da,cI,gY,y19,y19],[0,1,2,3,4,5,6,7],8⟩⟩]
def NN:LSh:=⟨[2,3,6,7,8,9],⟨[(.v y7),(.ptr 0 0),(.ptr 1 0),(.ptr 2 0),(.v bd),(.v y7)],k2⟩,[y7,bd,y7,aY,cI,gY,y19,y19],7,[0,1,2,3,4,5]⟩
def NO:List XSh:=[⟨(.exit 0),[2,3,6,7],⟨⟨[(.v y7),(.ptr 0 0),(.ptr 1 0),(.ptr 2 0)],k2⟩,[y7,aY,cI,gY,y19,y19],[0,1,2,3,4,5],7⟩⟩]
noncomputable def Xo:=bU Try.prog [] Try.f52 (.s .n (.s .n (.s .n (.s (.s .n (.b (.l NN NO (.s .n (.s (.b (.s .n (.s .n (.s .n (.s .n (.s .n (.b (.s .n (.s (.s .n (.s .n (.s .n (.s (.s .n (.b (.l NL NM .n))) .n)))) (.s .n (.s (.s .n (.s .n (.r [.a 4 false y7,.a 5 false y7]))) .n))))))))))) .n))))) .n))))
noncomputable def NP (T:List FEnt):=aG (xs:=NM) NL (bg T (sb [1,1,1,0,1,2,2,1,0,2,1,1,1,1,1,2,1,0,1,1,1,0,1,2,2] Xo))
noncomputable def l52_1 (T:List FEnt):=ah (NP T)
noncomputable def rV (F70:vG)(F71:mV)(F72v1:vI)(F56:vH)(F73v1:mX)(a0:Int)(a1:List Y1)(a2 a3 a4 a5:Int)(a6:Y2×Int)(a7:Y1)(a8:List Y2)(a9:List Y4)(a10 a11:List Int):Option aap:=
aj (ai .i64 (a4+a7.2.2.2.2)) (
cond (decide (a5 < (a4+a7.2.2.2.2))) (
aj (aC a3 a8.length) (
aj (aC a5 (List.length (ix a8 a3))) (
aj (ai .i64 (a5+1)) (
some (Sum.inl (a0,a1,a2,a3,a4,(a5+1),a6,a7,(List.set a8 a3.toNat (List.set (ix a8 a3) a5.toNat a7.2.2.2.1)),a9,a10,a11)))))) (
some (Sum.inr (a0,a1,a2,a3,a4,a6,a7,a8,a9,a10,a11))))
theorem Xp (F70:vG)(F71:mV)(F72v1:vI)(F56:vH)(F73v1:mX):NP (JA F70 F71 F72v1 F56 F73v1)=u12 (rV F70 F71 F72v1 F56 F73v1):=funext fun _=>by kernel_rfl
noncomputable def NQ:=rV tv qw dR rT cn
noncomputable def rW:aag:=ah (fun x=>NQ x.1 x.2.1 x.2.2.1 x.2.2.2.1 x.2.2.2.2.1 x.2.2.2.2.2.1 x.2.2.2.2.2.2.1 x.2.2.2.2.2.2.2.1 x.2.2.2.2.2.2.2.2.1 x.2.2.2.2.2.2.2.2.2.1 x.2.2.2.2.2.2.2.2.2.2.1 x.2.2.2.2.2.2.2.2.2.2.2)
theorem Xq:l52_1 (JA tv qw dR rT cn)=rW:=congrArg ah (Xp tv qw dR rT cn)
noncomputable def NR (T:List FEnt):=aG (xs:=NO) NN (bg T (sb [1,1,1,0,1,2,2] Xo))
noncomputable def l52_0 (T:List FEnt):=ah (NR T)
noncomputable def nv (F70:vG)(F71:mV)(F72v1:vI)(F56:vH)(F73v1:mX)(l52_1:aag)(a0:Int)(a1:List Y1)(a2:Int)(a3:Y2×Int)(a4:List Y2)(a5:List Y4)(a6 a7:List Int):Option aaq:=
cond (decide (a2 < (↑a1.length:Int))) (
aj (aC a2 a1.length) (
cond (decide (a0 < (ix a1 a2).2.1)) (
some (Sum.inr (a0,a3,a4,a5,a6,a7))) (
(F72v1 (a3,(ix a1 a2).2.1,a4,a5,a6,a7)).bind fun r3=>(
aj (aC ((ix a1 a2).2.2.2.1) r3.2.1.length) (
cond (decide ((ix a1 a2).2.2.1=1)) (
cond (!decide ((ix r3.2.1 ((ix a1 a2).2.2.2.1)).1=0)) (
aj (ai .i64 (a2+1)) (
some (Sum.inl (a0,a1,(a2+1),a3,r3.1,r3.2.1,r3.2.2.1,r3.2.2.2)))) (
(F56 ((ix a1 a2).2.2.2.2,r3.1)).bind fun r4=>(
cond (!r4.2.2.1) (
aj (aC ((ix a1 a2).2.2.2.1) r3.2.1.length) (
aj (ai .i64 (a2+1)) (
some (Sum.inl (a0,a1,(a2+1),a3,r4.2.2.2,(List.set r3.2.1 (Int.toNat ((ix a1 a2).2.2.2.1)) (1,((-1),((-1),(ix a1 a2).2.2.2.2)))),r3.2.2.1,r3.2.2.2))))) (
(l52_1 (a0,a1,a2,r4.1,r4.2.1,r4.2.1,a3,(ix a1 a2),r4.2.2.2,r3.2.1,r3.2.2.1,r3.2.2.2)).bind fun y5=>(
aj (aC y5.2.2.2.2.2.2.1.2.2.2.1 y5.2.2.2.2.2.2.2.2.1.length) (
aj (aC y5.2.2.2.2.2.2.1.2.2.2.1 y5.2.2.2.2.2.2.2.2.2.1.length) (
aj (ai .i64 (y5.2.2.1+1)) (
some (Sum.inl (y5.1,y5.2.1,(y5.2.2.1+1),y5.2.2.2.2.2.1,y5.2.2.2.2.2.2.2.1,(List.set y5.2.2.2.2.2.2.2.2.1 y5.2.2.2.2.2.2.1.2.2.2.1.toNat (2,(y5.2.2.2.1,(y5.2.2.2.2.1,y5.2.2.2.2.2.2.1.2.2.2.2)))),(List.set y5.2.2.2.2.2.2.2.2.2.1 y5.2.2.2.2.2.2.1.2.2.2.1.toNat y5.2.2.2.2.2.2.1.2.1),y5.2.2.2.2.2.2.2.2.2.2)))))))))) (
cond (decide ((ix a1 a2).2.2.1=2)) (
cond (decide ((ix r3.2.1 ((ix a1 a2).2.2.2.1)).1=2)) (
aj (aC ((ix a1 a2).2.2.2.1) r3.2.1.length) (
aj (ai .i64 (a2+1)) (
some (Sum.inl (a0,a1,(a2+1),a3,r3.1,(List.set r3.2.1 (Int.toNat ((ix a1 a2).2.2.2.1)) (3,(ix r3.2.1 ((ix a1 a2).2.2.2.1)).2)),r3.2.2.1,r3.2.2.2))))) (
aj (bM 8 (List.length r3.2.2.2+List.length ([(ix a1 a2).2.2.2.1]:List Int))) (
aj (ai .i64 (a2+1)) (
some (Sum.inl (a0,a1,(a2+1),a3,r3.1,r3.2.1,r3.2.2.1,(r3.2.2.2++([(ix a1 a2).2.2.2.1]:List Int)))))))) (
cond (decide ((ix a1 a2).2.2.1=3)) (
cond (decide ((ix r3.2.1 ((ix a1 a2).2.2.2.1)).1=2)) (
(F73v1 ((ix a1 a2).2.2.2.1,5,r3.1,r3.2.1,r3.2.2.1,r3.2.2.2)).bind fun r6=>(
aj (ai .i64 (a2+1)) (
some (Sum.inl (a0,a1,(a2+1),a3,r6.1,r6.2.1,r6.2.2.1,r6.2.2.2))))) (
cond (decide ((ix r3.2.1 ((ix a1 a2).2.2.2.1)).1=3)) (
(F73v1 ((ix a1 a2).2.2.2.1,5,r3.1,r3.2.1,r3.2.2.1,r3.2.2.2)).bind fun r7=>(
aj (ai .i64 (a2+1)) (
some (Sum.inl (a0,a1,(a2+1),a3,r7.1,r7.2.1,r7.2.2.1,r7.2.2.2))))) (
aj (ai .i64 (a2+1)) (
some (Sum.inl (a0,a1,(a2+1),a3,r3.1,r3.2.1,r3.2.2.1,r3.2.2.2)))))) (
aj (ai .i64 (a2+1)) (
some (Sum.inl (a0,a1,(a2+1),a3,r3.1,r3.2.1,r3.2.2.1,r3.2.2.2))))))))))) (
some (Sum.inr (a0,a3,a4,a5,a6,a7)))
theorem Xr (F70:vG)(F71:mV)(F72v1:vI)(F56:vH)(F73v1:mX):NR (JA F70 F71 F72v1 F56 F73v1)=u8 (nv F70 F71 F72v1 F56 F73v1 (l52_1 (JA F70 F71 F72v1 F56 F73v1))):=funext fun _=>by kernel_rfl
noncomputable def p52_0:=nv tv qw dR rT cn rW
noncomputable def L52_0:aah:=ah (fun x=>p52_0 x.1 x.2.1 x.2.2.1 x.2.2.2.1 x.2.2.2.2.1 x.2.2.2.2.2.1 x.2.2.2.2.2.2.1 x.2.2.2.2.2.2.2)
theorem Xs:l52_0 (JA tv qw dR rT cn)=L52_0:=congrArg ah ((Xr tv qw dR rT cn).trans (by rw[Xq] <;> rfl))
theorem ok52:L.Fn Try.prog 52 143 [(.cell 6 true 4)] (erase Xo):=Fn.ofA aN Try.func52 _ _ (by kernel_rfl)
def BV:FSh:=⟨⟨I7,[]⟩,I5,0,⟨⟨[(.agg j28)],W6⟩,[cI,gY,y19,y19],[],4⟩,false⟩
noncomputable def q52 (F70:vG)(F71:mV)(F72v1:vI)(F56:vH)(F73v1:mX)(l52_0:aah)(a0:Y2×Int)(a1:List Y1)(a2:Int):Option B4:=
(F70 a0).bind fun r1=>(
(F71 a1).bind fun r2=>(
(l52_0 (a2,r2,0,a0,r1.1,r1.2.1,r1.2.2,([]:List Int))).bind fun y8=>(
(F72v1 (y8.2.1,y8.1,y8.2.2.1,y8.2.2.2.1,y8.2.2.2.2.1,y8.2.2.2.2.2)).bind fun r9=>(
some (r9.1,r9.2.1,r9.2.2.1,r9.2.2.2)))))
theorem g52 (F70:vG)(F71:mV)(F72v1:vI)(F56:vH)(F73v1:mX):aO (JA F70 F71 F72v1 F56 F73v1) BV [(.cell 6 true 4)] Xo=u3 (q52 F70 F71 F72v1 F56 F73v1 (l52_0 (JA F70 F71 F72v1 F56 F73v1))):=funext fun _=>by kernel_rfl
noncomputable def p52:=q52 tv qw dR rT cn L52_0
noncomputable def P52:nW:=fun x=>p52 x.1 x.2.1 x.2.2
theorem v52:aO (JA tv qw dR rT cn) BV [(.cell 6 true 4)] Xo=P52:=(g52 tv qw dR rT cn).trans (by rw[Xs] <;> rfl)
theorem d52:DC Try.prog 52 BV P52:=aF v52 (ak t52 ok52 (by kernel_rfl))
noncomputable def T28 (F51:eY)(F52:nW):List FEnt:=[⟨51,BU,F51⟩,⟨52,BV,F52⟩]
theorem t28:aq Try.prog (T28 qe P52):=(af d51 (by kernel_rfl) (af d52 (by kernel_rfl) al))
noncomputable def c28:=bU Try.prog [] Try.f28 .n
theorem ok28:L.Fn Try.prog 28 28 [(.cell 8 true 4),(.t 9)] (erase c28):=Fn.ofA aN Try.func28 _ _ (by kernel_rfl)
def JB:FSh:=⟨⟨TL,[]⟩,TK,0,⟨⟨[(.tup [(.st eX),(.v y7)])],[]⟩,[eX,y7],[],0⟩,true⟩
noncomputable def q28 (F51:eY)(F52:nW)(a0:Y2×Int)(a1:List Y1)(a2 a3:Int):Option R1:=
(F51 (a0,a1,a2,a3,1)).bind fun r1=>(
cond (!decide (r1=0)) (
some ((0,(0,(0,0))),r1)) (
(F52 (a0,a1,a2)).bind fun r2=>(
aj (aC a3 r2.2.1.length) (
some ((ix r2.2.1 a3),0)))))
theorem g28 (F51:eY)(F52:nW):aO (T28 F51 F52) JB [(.cell 8 true 4),(.t 9)] c28=u4 (q28 F51 F52):=funext fun _=>by kernel_rfl
noncomputable def p28:=q28 qe P52
noncomputable def NT:dq:=fun x=>p28 x.1 x.2.1 x.2.2.1 x.2.2.2
theorem v28:aO (T28 qe P52) JB [(.cell 8 true 4),(.t 9)] c28=NT:=g28 qe P52
theorem d28:DC Try.prog 28 JB NT:=aF v28 (ak t28 ok28 (by kernel_rfl))
noncomputable def T17 (F42:eY)(F42v1:mW):List FEnt:=[⟨42,xL,F42⟩,⟨42,kW,F42v1⟩]
theorem t17:aq Try.prog (T17 pJ P42v1):=(af d42 (by kernel_rfl) (af zP (by kernel_rfl) al))
noncomputable def c17:=bU Try.prog [] Try.f17 .n
theorem ok17:L.Fn Try.prog 17 24 [(.t 6),(.t 7)] (erase c17):=Fn.ofA aN Try.func17 _ _ (by kernel_rfl)
def xT:FSh:=⟨⟨I7,[]⟩,I5,0,⟨⟨[(.tup [(.slr 0),(.v y7)])],xS⟩,[y7,cI],[],1⟩,false⟩
noncomputable def q17 (F42:eY)(F42v1:mW)(a0:Y2×Int)(a1:List Y1)(a2:Int):Option R9:=
Kv (F42 (a0,a1,a2,0,1)) (fun r1=>(
cond (!decide (r1=0)) (
some (r1,([]:List Y2))) (
none))) (
(F42v1 (a0,a1,a2,0,1)).bind fun r2=>(
cond (!decide (r2.1=0)) (
some (r2.1,([]:List Y2))) (
some (0,r2.2.2.2.1))))
theorem g17 (F42:eY)(F42v1:mW):aO (T17 F42 F42v1) xT [(.t 6),(.t 7)] c17=u3 (q17 F42 F42v1):=funext fun _=>by kernel_rfl
noncomputable def p17:=q17 pJ P42v1
noncomputable def lb:eZ:=fun x=>p17 x.1 x.2.1 x.2.2
theorem v17:aO (T17 pJ P42v1) xT [(.t 6),(.t 7)] c17=lb:=g17 pJ P42v1
theorem d17:DC Try.prog 17 xT lb:=aF v17 (ak t17 ok17 (by kernel_rfl))
noncomputable def T29 (F51:eY)(F52:nW):List FEnt:=[⟨51,BU,F51⟩,⟨52,BV,F52⟩]
theorem t29:aq Try.prog (T29 qe P52):=(af d51 (by kernel_rfl) (af d52 (by kernel_rfl) al))
noncomputable def c29:=bU Try.prog [] Try.f29 .n
theorem ok29:L.Fn Try.prog 29 21 [(.t 6),(.t 7)] (erase c29):=Fn.ofA aN Try.func29 _ _ (by kernel_rfl)
def JC:FSh:=⟨⟨I7,[]⟩,I5,0,⟨⟨[(.tup [(.slr 0),(.v y7)])],xS⟩,[y7,cI],[],1⟩,false⟩
noncomputable def q29 (F51:eY)(F52:nW)(a0:Y2×Int)(a1:List Y1)(a2:Int):Option R9:=
(F51 (a0,a1,a2,0,1)).bind fun r1=>(
cond (!decide (r1=0)) (
some (r1,([]:List Y2))) (
(F52 (a0,a1,a2)).bind fun r2=>(
some (0,r2.1))))
theorem g29 (F51:eY)(F52:nW):aO (T29 F51 F52) JC [(.t 6),(.t 7)] c29=u3 (q29 F51 F52):=funext fun _=>by kernel_rfl
noncomputable def p29:=q29 qe P52
noncomputable def NU:eZ:=fun x=>p29 x.1 x.2.1 x.2.2
theorem v29:aO (T29 qe P52) JC [(.t 6),(.t 7)] c29=NU:=g29 qe P52
theorem d29:DC Try.prog 29 JC NU:=aF v29 (ak t29 ok29 (by kernel_rfl))
noncomputable def TX (F20:jt):List FEnt:=[⟨20,xR,F20⟩]
theorem t19:aq Try.prog (TX P20):=(af d20 (by kernel_rfl) al)
def NV:LSh:=⟨[0,1,5],⟨[(.slr 0),(.slr 1),(.v y7)],W7⟩,[y7,cI,cI],2,[0,1]⟩
def NW:List XSh:=[⟨.ret,[4],⟨⟨ft,W7⟩,[.bool,cI,cI],[0,1],2⟩⟩,⟨(.exit 0),[],⟨⟨[],W7⟩,[cI,cI],[0,1],2⟩⟩]
noncomputable def c19:=bU Try.prog [] Try.f19 (.s .n (.s .n (.s (.s .n (.b (.l NV NW .n))) .n)))
noncomputable def NX (T:List FEnt):=aG (xs:=NW) NV (bg T (sb [1,1,0,1,2,2] c19))
noncomputable def l19_0 (T:List FEnt):=ah (NX T)
noncomputable def rX (F20:jt)(a0:Int)(a1 a2:List Y2):Option aaB:=
cond (decide (a0 < (↑a1.length:Int))) (
aj (aC a0 a1.length) (
aj (aC a0 a2.length) (
(F20 ((ix a1 a0),(ix a2 a0))).bind fun r1=>(
cond (!r1) (
some (Sum.inr (Sum.inl (false,a1,a2)))) (
aj (ai .i64 (a0+1)) (
some (Sum.inl ((a0+1),a1,a2)))))))) (
some (Sum.inr (Sum.inr (a1,a2))))
theorem Xt (F20:jt):NX (TX F20)=u3 (rX F20):=funext fun _=>by kernel_rfl
noncomputable def NY:=rX P20
noncomputable def AG:aax:=ah (fun x=>NY x.1 x.2.1 x.2.2)
theorem Xu:l19_0 (TX P20)=AG:=congrArg ah (Xt P20)
theorem ok19:L.Fn Try.prog 19 27 [(.t 4)] (erase c19):=Fn.ofA aN Try.func19 _ _ (by kernel_rfl)
def Gs:FSh:=⟨⟨[(.slr 0),(.slr 1)],W7⟩,[cI,cI],2,⟨⟨ft,W7⟩,[.bool,cI,cI],[0,1],2⟩,false⟩
noncomputable def q19 (F20:jt)(l19_0:aax)(a0 a1:List Y2):Option R8:=
cond (!decide ((↑a0.length:Int)=(↑a1.length:Int))) (
some (false,a0,a1)) (
(l19_0 (0,a0,a1)).bind (fun y2=>Sum.elim (fun y3=>(
some (y3.1,y3.2.1,y3.2.2))) (fun y4=>(
some (true,y4.1,y4.2))) y2))
theorem g19 (F20:jt):aO (TX F20) Gs [(.t 4)] c19=u2 (q19 F20 (l19_0 (TX F20))):=funext fun _=>by kernel_rfl
noncomputable def p19:=q19 P20 AG
noncomputable def xU:tD:=fun x=>p19 x.1 x.2
theorem v19:aO (TX P20) Gs [(.t 4)] c19=xU:=(g19 P20).trans (by rw[Xu] <;> rfl)
theorem d19:DC Try.prog 19 Gs xU:=aF v19 (ak t19 ok19 (by kernel_rfl))
noncomputable def TY:List FEnt:=[]
theorem t53:aq Try.prog TY:=al
def NZ:LSh:=⟨[0,1,5],⟨j35,[]⟩,[y19,y7,y7],0,[]⟩
noncomputable def c53:=bU Try.prog [] Try.f53 (.s .n (.s (.s .n (.b (.l NZ rJ .n))) .n))
noncomputable def N0 (T:List FEnt):=aG (xs:=rJ) NZ (bg T (sb [1,0,1,2,2] c53))
noncomputable def l53_0 (T:List FEnt):=ah (N0 T)
noncomputable def rY (a0:List Int)(a1 a2:Int):Option aac:=
cond (decide (a2 < (↑a0.length:Int))) (
aj (aC a2 a0.length) (
cond (decide ((ix a0 a2)=a1)) (
some (Sum.inr (Sum.inl true))) (
aj (ai .i64 (a2+1)) (
some (Sum.inl (a0,a1,(a2+1))))))) (
some (Sum.inr (Sum.inr ())))
theorem Xv:N0 TY=u3 rY:=funext fun _=>by kernel_rfl
noncomputable def N1:=rY
noncomputable def vB:ZY:=ah (fun x=>N1 x.1 x.2.1 x.2.2)
theorem Xw:l53_0 TY=vB:=congrArg ah Xv
theorem ok53:L.Fn Try.prog 53 18 [(.t 4)] (erase c53):=Fn.ofA aN Try.func53 _ _ (by kernel_rfl)
def JD:FSh:=⟨⟨UM,[]⟩,[y19,y7],0,⟨⟨ft,[]⟩,[.bool],[],0⟩,true⟩
noncomputable def q53 (l53_0:ZY)(a0:List Int)(a1:Int):Option Bool:=
(l53_0 (a0,a1,0)).bind (fun y1=>Sum.elim (fun y2=>(
some y2)) (fun y3=>(
some false)) y1)
theorem g53:aO TY JD [(.t 4)] c53=u2 (q53 (l53_0 TY)):=funext fun _=>by kernel_rfl
noncomputable def p53:=q53 vB
noncomputable def Cs:lN:=fun x=>p53 x.1 x.2
theorem v53:aO TY JD [(.t 4)] c53=Cs:=g53.trans (by rw[Xw] <;> rfl)
theorem d53:DC Try.prog 53 JD Cs:=aF v53 (ak t53 ok53 (by kernel_rfl))
noncomputable def TZ (F51:eY)(F52:nW)(F53:lN):List FEnt:=[⟨51,BU,F51⟩,⟨52,BV,F52⟩,⟨53,JD,F53⟩]
theorem t30:aq Try.prog (TZ qe P52 Cs):=(af d51 (by kernel_rfl) (af d52 (by kernel_rfl) (af d53 (by kernel_rfl) al)))
def N2:LSh:=⟨[9,10,11],⟨[(.ptr 0 0),(.slc 1),(.v y7)],[(0,(.box [(.slr 2),(.slc 3),(.slc 4),(.slc 5)])),(1,(.row 3 y7)),(2,(.rows 22 3 y7)),(3,(.row 32 eX)),(4,(.row 3 y7)),(5,(.row 3 y7))]⟩,[y7,y19,cI,gY,y19,y19],6,[0,2,3,4,5]⟩
def N3:List XSh:=[⟨(.exit 0),[10],⟨⟨[(.slc 6)],[(0,(.box [(.slr 2),(.slc 3),(.slc 4),(.slc 5)])),(2,(.rows 22 3 y7)),(3,(.row 32 eX)),(4,(.row 3 y7)),(5,(.row 3 y7)),(6,(.row 3 y7))]⟩,[cI,gY,y19,y19,y19],[0,2,3,4,5],7⟩⟩]
noncomputable def c30:=bU Try.prog [] Try.f30 (.s .n (.s .n (.s .n (.s .n (.s (.s .n (.b (.l N2 N3 (.s .n (.s (.b (.s .n (.s (.r [.a 2 false y7,.a 3 false y7]) .n))) .n))))) .n)))))
noncomputable def N4 (T:List FEnt):=aG (xs:=N3) N2 (bg T (sb [1,1,1,1,0,1,2,2] c30))
noncomputable def l30_0 (T:List FEnt):=ah (N4 T)
noncomputable def AH (F51:eY)(F52:nW)(F53:lN)(a0:Int)(a1:List Int)(a2:List Y2)(a3:List Y4)(a4 a5:List Int):Option aas:=
cond (decide (a0≤99)) (
(F53 (a5,a0)).bind fun r3=>(
cond r3 (
aj (bM 8 (List.length a1+List.length ([a0]:List Int))) (
aj (ai .i64 (a0+1)) (
some (Sum.inl ((a0+1),(a1++([a0]:List Int)),a2,a3,a4,a5))))) (
aj (ai .i64 (a0+1)) (
some (Sum.inl ((a0+1),a1,a2,a3,a4,a5)))))) (
some (Sum.inr (a2,a3,a4,a5,a1)))
theorem Xx (F51:eY)(F52:nW)(F53:lN):N4 (TZ F51 F52 F53)=u6 (AH F51 F52 F53):=funext fun _=>by kernel_rfl
noncomputable def N5:=AH qe P52 Cs
noncomputable def AI:aai:=ah (fun x=>N5 x.1 x.2.1 x.2.2.1 x.2.2.2.1 x.2.2.2.2.1 x.2.2.2.2.2)
theorem Xy:l30_0 (TZ qe P52 Cs)=AI:=congrArg ah (Xx qe P52 Cs)
theorem ok30:L.Fn Try.prog 30 36 [(.t 6),(.t 7)] (erase c30):=Fn.ofA aN Try.func30 _ _ (by kernel_rfl)
def JE:FSh:=⟨⟨I7,[]⟩,I5,0,⟨⟨[(.tup PM)],dp⟩,[y7,y19],[],1⟩,true⟩
noncomputable def q30 (F51:eY)(F52:nW)(F53:lN)(l30_0:aai)(a0:Y2×Int)(a1:List Y1)(a2:Int):Option Hq:=
(F51 (a0,a1,a2,0,1)).bind fun r1=>(
cond (!decide (r1=0)) (
some (r1,([]:List Int))) (
(F52 (a0,a1,a2)).bind fun r2=>(
(l30_0 (0,([]:List Int),r2.1,r2.2.1,r2.2.2.1,r2.2.2.2)).bind fun y4=>(
some (0,y4.2.2.2.2)))))
theorem g30 (F51:eY)(F52:nW)(F53:lN):aO (TZ F51 F52 F53) JE [(.t 6),(.t 7)] c30=u3 (q30 F51 F52 F53 (l30_0 (TZ F51 F52 F53))):=funext fun _=>by kernel_rfl
noncomputable def p30:=q30 qe P52 Cs AI
noncomputable def N6:gx:=fun x=>p30 x.1 x.2.1 x.2.2
theorem v30:aO (TZ qe P52 Cs) JE [(.t 6),(.t 7)] c30=N6:=(g30 qe P52 Cs).trans (by rw[Xy] <;> rfl)
theorem d30:DC Try.prog 30 JE N6:=aF v30 (ak t30 ok30 (by kernel_rfl))
noncomputable def Ua:List FEnt:=[]
theorem t31:aq Try.prog Ua:=al
def N7:LSh:=⟨[0,1,5],⟨[(.v bd),(.v bd),(.v y7)],[]⟩,[bd,bd,y7],0,[]⟩
noncomputable def c31:=bU Try.prog [] Try.f31 (.s .n (.s .n (.s (.s .n (.b (.l N7 rJ .n))) .n)))
noncomputable def N8 (T:List FEnt):=aG (xs:=rJ) N7 (bg T (sb [1,1,0,1,2,2] c31))
noncomputable def l31_0 (T:List FEnt):=ah (N8 T)
noncomputable def rZ (a0 a1:List Y1)(a2:Int):Option aat:=
cond (decide (a2 < (↑a0.length:Int))) (
aj (aC a2 a0.length) (
aj (aC a2 a1.length) (
cond (!((((decide ((ix a0 a2).1=(ix a1 a2).1)&&decide ((ix a0 a2).2.1=(ix a1 a2).2.1))&&decide ((ix a0 a2).2.2.1=(ix a1 a2).2.2.1))&&decide ((ix a0 a2).2.2.2.1=(ix a1 a2).2.2.2.1))&&decide ((ix a0 a2).2.2.2.2=(ix a1 a2).2.2.2.2))) (
some (Sum.inr (Sum.inl false))) (
aj (ai .i64 (a2+1)) (
some (Sum.inl (a0,a1,(a2+1)))))))) (
some (Sum.inr (Sum.inr ())))
theorem Xz:N8 Ua=u3 rZ:=funext fun _=>by kernel_rfl
noncomputable def N9:=rZ
noncomputable def AJ:aaa:=ah (fun x=>N9 x.1 x.2.1 x.2.2)
theorem XA:l31_0 Ua=AJ:=congrArg ah Xz
theorem ok31:L.Fn Try.prog 31 26 [(.t 4)] (erase c31):=Fn.ofA aN Try.func31 _ _ (by kernel_rfl)
def JF:FSh:=⟨⟨[(.v bd),(.v bd)],[]⟩,[bd,bd],0,⟨⟨ft,[]⟩,[.bool],[],0⟩,true⟩
noncomputable def q31 (l31_0:aaa)(a0 a1:List Y1):Option Bool:=
cond (!decide ((↑a0.length:Int)=(↑a1.length:Int))) (
some false) (
(l31_0 (a0,a1,0)).bind (fun y1=>Sum.elim (fun y2=>(
some y2)) (fun y3=>(
some true)) y1))
theorem g31:aO Ua JF [(.t 4)] c31=u2 (q31 (l31_0 Ua)):=funext fun _=>by kernel_rfl
noncomputable def p31:=q31 AJ
noncomputable def Oa:JX:=fun x=>p31 x.1 x.2
theorem v31:aO Ua JF [(.t 4)] c31=Oa:=g31.trans (by rw[XA] <;> rfl)
theorem d31:DC Try.prog 31 JF Oa:=aF v31 (ak t31 ok31 (by kernel_rfl))
noncomputable def T8 (F24:Hr)(F14:cX)(F25:x4)(F26:tW)(F27:tW)(F15:dq)(F28:dq)(F17:eZ)(F29:eZ)(F19:tD)(F16:gx)(F30:gx)(F20:jt)(F31:JX):List FEnt:=[⟨24,BB,F24⟩,⟨14,pL,F14⟩,⟨25,Gn,F25⟩,⟨26,BE,F26⟩,⟨27,BT,F27⟩,⟨15,qr,F15⟩,⟨28,JB,F28⟩,⟨17,xT,F17⟩,⟨29,JC,F29⟩,⟨19,Gs,F19⟩,⟨16,xQ,F16⟩,⟨30,JE,F30⟩,⟨20,xR,F20⟩,⟨31,JF,F31⟩]
theorem t8:aq Try.prog (T8 Cn ge MX tQ vw P15 NT lb NU xU P16 N6 P20 Oa):=(af d24 (by kernel_rfl) (af WS (by kernel_rfl) (af d25 (by kernel_rfl) (af d26 (by kernel_rfl) (af d27 (by kernel_rfl) (af VK (by kernel_rfl) (af d28 (by kernel_rfl) (af d17 (by kernel_rfl) (af d29 (by kernel_rfl) (af d19 (by kernel_rfl) (af d16 (by kernel_rfl) (af d30 (by kernel_rfl) (af d20 (by kernel_rfl) (af d31 (by kernel_rfl) al))))))))))))))
noncomputable def c8:=bU Try.prog [(4,{ch:=[0,0,0,1,0,0,0],rs:=[3],ord:=[0,1,3,4,2,5,6] })] Try.f8 (.s .n (.s .n (.s .n (.s .n (.s .n (.s .n (.s (.r [.f 4 25 [0,0],.f 4 8 []]) .n)))))))
theorem ok8:L.Fn Try.prog 8 132 [(.t 6)] (erase c8):=Fn.ofA aN Try.func8 _ _ (by kernel_rfl)
def sh8:FSh:=⟨⟨RO,[]⟩,RN,0,⟨⟨ft,[]⟩,[.bool],[],0⟩,true⟩
noncomputable def q8 (F24:Hr)(F14:cX)(F25:x4)(F26 F27:tW)(F15 F28:dq)(F17 F29:eZ)(F19:tD)(F16 F30:gx)(F20:jt)(F31:JX)(a0:Y2×Int)(a1:List Y1)(a2:ci):Option Bool:=
(F24 (a0,a1)).bind fun r1=>(
cond r1 (
(F14 ()).bind fun r2=>(
some r2)) (
(F25 (a0,a1)).bind fun r3=>(
(F26 ((r3.2.1,r3.1),r3.2.2)).bind fun r4=>(
(F27 (a0,a1)).bind fun r5=>(
cond (!decide (r4=r5)) (
some false) (
(F15 ((r3.2.1,r3.1),r3.2.2,a2.1,a2.2.1)).bind fun r6=>(
(F28 (a0,a1,a2.1,a2.2.1)).bind fun r7=>(
(F17 ((r3.2.1,r3.1),r3.2.2,a2.1)).bind fun r8=>(
(F29 (a0,a1,a2.1)).bind fun r9=>(
cond (!(((decide (r6.1.1=r7.1.1)&&decide (r6.1.2.1=r7.1.2.1))&&decide (r6.1.2.2.1=r7.1.2.2.1))&&decide (r6.1.2.2.2=r7.1.2.2.2))) (
some false) (
cond (!decide (r6.2=r7.2)) (
some false) (
(F19 (r8.2,r9.2)).bind fun r10=>(
cond (!r10.1) (
some false) (
cond (!decide (r8.1=r9.1)) (
some false) (
(F16 ((r3.2.1,r3.1),r3.2.2,a2.1)).bind fun r11=>(
(F30 (a0,a1,a2.1)).bind fun r12=>(
(F20 (r11.2,r12.2)).bind fun r13=>(
cond r13 (
cond (decide (r11.1=r12.1)) (
(F20 (r3.2.1,a0.1)).bind fun r14=>(
cond r14 (
(F31 (r3.2.2,a1)).bind fun r15=>(
cond r15 (
(F14 ()).bind fun r16=>(
some r16)) (
some false))) (
some false))) (
some false)) (
some false)))))))))))))))))))
theorem g8 (F24:Hr)(F14:cX)(F25:x4)(F26 F27:tW)(F15 F28:dq)(F17 F29:eZ)(F19:tD)(F16 F30:gx)(F20:jt)(F31:JX):aO (T8 F24 F14 F25 F26 F27 F15 F28 F17 F29 F19 F16 F30 F20 F31) sh8 [(.t 6)] c8=u3 (q8 F24 F14 F25 F26 F27 F15 F28 F17 F29 F19 F16 F30 F20 F31):=funext fun _=>by kernel_rfl
noncomputable def p8:=q8 Cn ge MX tQ vw P15 NT lb NU xU P16 N6 P20 Oa
noncomputable def P8:JY:=fun x=>p8 x.1 x.2.1 x.2.2
theorem v8:aO (T8 Cn ge MX tQ vw P15 NT lb NU xU P16 N6 P20 Oa) sh8 [(.t 6)] c8=P8:=g8 Cn ge MX tQ vw P15 NT lb NU xU P16 N6 P20 Oa
theorem d8:DC Try.prog 8 sh8 P8:=aF v8 (ak t8 ok8 (by kernel_rfl))
noncomputable def T12 (F24:Hr)(F27:tW):List FEnt:=[⟨24,BB,F24⟩,⟨27,BT,F27⟩]
theorem t12:aq Try.prog (T12 Cn vw):=(af d24 (by kernel_rfl) (af d27 (by kernel_rfl) al))
noncomputable def c12:=bU Try.prog [] Try.f12 .n
theorem ok12:L.Fn Try.prog 12 25 [(.t 6)] (erase c12):=Fn.ofA aN Try.func12 _ _ (by kernel_rfl)
def tx:FSh:=⟨⟨I7,[]⟩,I5,0,⟨⟨ft,[]⟩,[.bool],[],0⟩,true⟩
noncomputable def q12 (F24:Hr)(F27:tW)(a0:Y2×Int)(a1:List Y1)(a2:Int):Option Bool:=
(F24 (a0,a1)).bind fun r1=>(
cond (!r1) (
(F27 (a0,a1)).bind fun r2=>(
cond (decide (r2=0)) (
cond (decide (0≤a2)) (
some (decide (a2≤9999))) (
some false)) (
some false))) (
some false))
theorem g12 (F24:Hr)(F27:tW):aO (T12 F24 F27) tx [(.t 6)] c12=u3 (q12 F24 F27):=funext fun _=>by kernel_rfl
noncomputable def p12:=q12 Cn vw
noncomputable def iN:dD:=fun x=>p12 x.1 x.2.1 x.2.2
theorem v12:aO (T12 Cn vw) tx [(.t 6)] c12=iN:=g12 Cn vw
theorem d12:DC Try.prog 12 tx iN:=aF v12 (ak t12 ok12 (by kernel_rfl))
noncomputable def T13:List FEnt:=[]
theorem t13:aq Try.prog T13:=al
noncomputable def c13:=bU Try.prog [] Try.f13 .n
theorem ok13:L.Fn Try.prog 13 9 [(.t 2)] (erase c13):=Fn.ofA aN Try.func13 _ _ (by kernel_rfl)
def BW:FSh:=⟨⟨nK,[]⟩,[y7],0,⟨⟨ft,[]⟩,[.bool],[],0⟩,true⟩
noncomputable def q13 (a0:Int):Option Bool:=
cond (decide (0≤a0)) (
some (decide (a0≤99))) (
some false)
theorem g13 (a0:Int):aO T13 BW [(.t 2)] c13 a0=q13 a0:=by kernel_rfl
noncomputable def p13:=q13
noncomputable def nw:l6:=fun x=>p13 x
theorem v13:aO T13 BW [(.t 2)] c13=nw:=funext fun x=>(g13 x)
theorem d13:DC Try.prog 13 BW nw:=aF v13 (ak t13 ok13 (by kernel_rfl))
noncomputable def T3 (F12:dD)(F14:cX)(F13:l6)(F15:dq):List FEnt:=[⟨12,tx,F12⟩,⟨14,pL,F14⟩,⟨13,BW,F13⟩,⟨15,qr,F15⟩]
theorem t3:aq Try.prog (T3 iN ge nw P15):=(af d12 (by kernel_rfl) (af WS (by kernel_rfl) (af d13 (by kernel_rfl) (af VK (by kernel_rfl) al))))
noncomputable def c3:=bU Try.prog [] Try.f3 .n
theorem ok3:L.Fn Try.prog 3 129 [(.t 6)] (erase c3):=Fn.ofA aN Try.func3 _ _ (by kernel_rfl)
def sh3:FSh:=⟨⟨RO,[]⟩,RN,0,⟨⟨ft,[]⟩,[.bool],[],0⟩,true⟩
noncomputable def q3 (F12:dD)(F14:cX)(F13:l6)(F15:dq)(a0:Y2×Int)(a1:List Y1)(a2:ci):Option Bool:=
(F12 (a0,a1,a2.1)).bind fun r1=>(
cond (!r1) (
(F14 ()).bind fun r2=>(
some r2)) (
(F13 a2.2.1).bind fun r3=>(
cond (!r3) (
(F14 ()).bind fun r4=>(
some r4)) (
cond (decide (a2.2.2 < a2.1)) (
(F14 ()).bind fun r5=>(
some r5)) (
cond (decide (9999 < a2.2.2)) (
(F14 ()).bind fun r6=>(
some r6)) (
(F15 (a0,a1,a2.1,a2.2.1)).bind fun r7=>(
(F15 (a0,a1,a2.2.2,a2.2.1)).bind fun r8=>(
cond (!decide (r7.2=0)) (
some false) (
cond (!decide (r8.2=0)) (
some false) (
cond (decide (r7.1.1=2)) (
aj (ai .i64 (a2.1+a0.2)) (
cond (decide (a2.2.2 < (a2.1+a0.2))) (
cond (!decide (r8.1.1=0)) (
cond (!decide (r8.1.1=1)) (
cond (decide (r8.1.2.2.2=r7.1.2.2.2)) (
(F14 ()).bind fun r9=>(
some r9)) (
some false)) (
some false)) (
some false)) (
cond (!decide (r8.1.1=2)) (
cond (!decide (r8.1.1=0)) (
cond (!decide (r8.1.1=1)) (
cond (decide (r8.1.2.2.2=r7.1.2.2.2)) (
(F14 ()).bind fun r10=>(
some r10)) (
some false)) (
some false)) (
some false)) (
some false)))) (
cond (decide (r7.1.1=3)) (
cond (((decide (r8.1.1=r7.1.1)&&decide (r8.1.2.1=r7.1.2.1))&&decide (r8.1.2.2.1=r7.1.2.2.1))&&decide (r8.1.2.2.2=r7.1.2.2.2)) (
(F14 ()).bind fun r11=>(
some r11)) (
cond (((decide (r8.1.1=5)&&decide (r8.1.2.1=(-1)))&&decide (r8.1.2.2.1=(-1)))&&decide (r8.1.2.2.2=r7.1.2.2.2)) (
(F14 ()).bind fun r12=>(
some r12)) (
some false))) (
cond (decide (r7.1.1=1)) (
cond (decide (r7.1.1=1)) (
cond (((decide (r8.1.1=r7.1.1)&&decide (r8.1.2.1=r7.1.2.1))&&decide (r8.1.2.2.1=r7.1.2.2.1))&&decide (r8.1.2.2.2=r7.1.2.2.2)) (
(F14 ()).bind fun r13=>(
some r13)) (
some false)) (
cond (((decide (r7.1.1=0)&&decide (r7.1.2.1=(-1)))&&decide (r7.1.2.2.1=(-1)))&&decide (r7.1.2.2.2=0)) (
(F14 ()).bind fun r14=>(
some r14)) (
some false))) (
cond (decide (r7.1.1=4)) (
cond (decide (r7.1.1=4)) (
cond (((decide (r8.1.1=r7.1.1)&&decide (r8.1.2.1=r7.1.2.1))&&decide (r8.1.2.2.1=r7.1.2.2.1))&&decide (r8.1.2.2.2=r7.1.2.2.2)) (
(F14 ()).bind fun r15=>(
some r15)) (
some false)) (
cond (((decide (r7.1.1=0)&&decide (r7.1.2.1=(-1)))&&decide (r7.1.2.2.1=(-1)))&&decide (r7.1.2.2.2=0)) (
(F14 ()).bind fun r16=>(
some r16)) (
some false))) (
cond (decide (r7.1.1=5)) (
cond (((decide (r8.1.1=r7.1.1)&&decide (r8.1.2.1=r7.1.2.1))&&decide (r8.1.2.2.1=r7.1.2.2.1))&&decide (r8.1.2.2.2=r7.1.2.2.2)) (
(F14 ()).bind fun r17=>(
some r17)) (
some false)) (
cond (((decide (r7.1.1=0)&&decide (r7.1.2.1=(-1)))&&decide (r7.1.2.2.1=(-1)))&&decide (r7.1.2.2.2=0)) (
(F14 ()).bind fun r18=>(
some r18)) (
some false))))))))))))))))
theorem g3 (F12:dD)(F14:cX)(F13:l6)(F15:dq):aO (T3 F12 F14 F13 F15) sh3 [(.t 6)] c3=u3 (q3 F12 F14 F13 F15):=funext fun _=>by kernel_rfl
noncomputable def p3:=q3 iN ge nw P15
noncomputable def P3:JY:=fun x=>p3 x.1 x.2.1 x.2.2
theorem v3:aO (T3 iN ge nw P15) sh3 [(.t 6)] c3=P3:=g3 iN ge nw P15
theorem d3:DC Try.prog 3 sh3 P3:=aF v3 (ak t3 ok3 (by kernel_rfl))
end Go.Proofs.Ytdkaijofmigmbaa.D
