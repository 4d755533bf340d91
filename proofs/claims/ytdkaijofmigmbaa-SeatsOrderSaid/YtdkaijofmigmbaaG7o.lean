import Derived.Test.YtdkaijofmigmbaaG6o
import Derived.Test.YtdkaijofmigmbaaProg
set_option linter.unusedVariables false
set_option maxRecDepth 100000
namespace Go.Proofs.Ytdkaijofmigmbaa.D
open Go Go.Proofs Go.Proofs.Ytdkaijofmigmbaa.L
def z17:List Ty:=[y7,y7,.bool,cG]
def RM:List Ty:=[aW,bc,iR]
def j35:List RSh:=[(.v y19),(.v y7),(.v y7)]
def j33:List RSh:=[(.v y7),(.v y7),(.v .bool)]
def j28:List RSh:=[(.slr 0),(.slc 1),(.slc 2),(.slc 3)]
def RN:List RSh:=[(.st aW),(.v bc),(.st iR)]
def xG:List (Nat×OSh):=[(0,(.rows 22 3 y7))]
def k11:List (Nat×OSh):=[(0,(.box [(.slr 1),(.slc 2),(.slc 3),(.slc 4)])),(1,(.rows 22 3 y7)),(2,(.row 32 eV)),(3,(.row 3 y7)),(4,(.row 3 y7))]
def W6:List (Nat×OSh):=[(0,(.rows 22 3 y7)),(1,(.row 32 eV)),(2,(.row 3 y7)),(3,(.row 3 y7))]
def k5:List (Nat×OSh):=[(0,(.boxT aW)),(1,(.box [(.slr 2),(.slc 3),(.slc 4),(.slc 5)])),(2,(.rows 22 3 y7)),(3,(.row 32 eV)),(4,(.row 3 y7)),(5,(.row 3 y7))]
def k1:List (Nat×OSh):=[(0,(.boxT aW)),(1,(.box [.emp,.emp,.emp,.emp])),(2,(.box [(.slr 4),(.slc 5),(.slc 6),(.slc 7)])),(3,(.boxT cW)),(4,(.rows 22 3 y7)),(5,(.row 32 eV)),(6,(.row 3 y7)),(7,(.row 3 y7))]
def k2:List (Nat×OSh):=[(0,(.boxT aW)),(1,(.box [.emp,.emp,.emp,.emp])),(2,(.box [(.slr 3),(.slc 4),(.slc 5),(.slc 6)])),(3,(.rows 22 3 y7)),(4,(.row 32 eV)),(5,(.row 3 y7)),(6,(.row 3 y7))]
def W7:List (Nat×OSh):=[(0,(.rows 22 3 y7)),(1,(.rows 22 3 y7))]
noncomputable def T47:List FEnt:=[]
theorem t47:al Try.prog T47:=ak
noncomputable def c47:=bU Try.prog [] Try.f47 .n
theorem ok47:L.Fn Try.prog 47 20 [(.t 4)] (erase c47):=Fn.ofA aM Try.func47 _ _ (by kernel_rfl)
def F9:FSh:=⟨⟨UJ,[]⟩,[y19,y7],0,⟨⟨fk,[]⟩,[.bool],[],0⟩,true⟩
noncomputable def q47 (a0:List Int)(a1:Int):Option Bool:=
cond (decide (0≤a1)) (
cond (decide (a1 < (↑a0.length:Int))) (
ai (aC a1 a0.length) (
some (decide ((ix a0 a1)=(-1))))) (
some false)) (
some false)
theorem g47:aO T47 F9 [(.t 4)] c47=u2 q47:=funext fun _=>by kernel_rfl
noncomputable def p47:=q47
noncomputable def BD:lC:=fun x=>p47 x.1 x.2
theorem v47:aO T47 F9 [(.t 4)] c47=BD:=g47
theorem d47:DC Try.prog 47 F9 BD:=aD v47 (aj t47 ok47 (by kernel_rfl))
noncomputable def TO (F47:lC):List FEnt:=[⟨47,F9,F47⟩]
theorem t22:al Try.prog (TO BD):=(aa d47 (by kernel_rfl) ak)
def Nl:LSh:=⟨[0,1,2,7],⟨[(.v y19),(.v y7),(.v y7),(.v y7)],[]⟩,[y19,y7,y7,y7],0,[]⟩
def Nn:List XSh:=[⟨.ret,[6],⟨⟨fk,[]⟩,[.bool],[],0⟩⟩,⟨(.exit 0),[],⟨⟨[],[]⟩,[],[],0⟩⟩]
noncomputable def c22:=bU Try.prog [] Try.f22 (.s .n (.s (.s .n (.b (.l Nl Nn .n))) .n))
noncomputable def No (T:List FEnt):=aG (xs:=Nn) Nl (bf T (sb [1,0,1,2,2] c22))
noncomputable def l22_0 (T:List FEnt):=af (No T)
noncomputable def Np (F47:lC)(a0:List Int)(a1 a2 a3:Int):Option aah:=
ai (ah .i64 (a1+a2)) (
cond (decide (a3 < (a1+a2))) (
(F47 (a0,a3)).bind fun r1=>(
cond (!r1) (
some (Sum.inr (Sum.inl false))) (
ai (ah .i64 (a3+1)) (
some (Sum.inl (a0,a1,a2,(a3+1))))))) (
some (Sum.inr (Sum.inr ()))))
theorem W8 (F47:lC):No (TO F47)=u4 (Np F47):=funext fun _=>by kernel_rfl
noncomputable def W9:=Np BD
noncomputable def Nq:Z7:=af (fun x=>W9 x.1 x.2.1 x.2.2.1 x.2.2.2)
theorem Xa:l22_0 (TO BD)=Nq:=congrArg af (W8 BD)
theorem ok22:L.Fn Try.prog 22 20 [(.t 6)] (erase c22):=Fn.ofA aM Try.func22 _ _ (by kernel_rfl)
def Ga:FSh:=⟨⟨j35,[]⟩,[y19,y7,y7],0,⟨⟨fk,[]⟩,[.bool],[],0⟩,true⟩
noncomputable def q22 (F47:lC)(l22_0:Z7)(a0:List Int)(a1 a2:Int):Option Bool:=
(l22_0 (a0,a1,a2,a1)).bind (fun y2=>Sum.elim (fun y3=>(
some y3)) (fun y4=>(
some true)) y2)
theorem g22 (F47:lC):aO (TO F47) Ga [(.t 6)] c22=u3 (q22 F47 (l22_0 (TO F47))):=funext fun _=>by kernel_rfl
noncomputable def p22:=q22 BD Nq
noncomputable def rk:gT:=fun x=>p22 x.1 x.2.1 x.2.2
theorem v22:aO (TO BD) Ga [(.t 6)] c22=rk:=(g22 BD).trans (by rw[Xa] <;> rfl)
theorem d22:DC Try.prog 22 Ga rk:=aD v22 (aj t22 ok22 (by kernel_rfl))
noncomputable def T23 (F47:lC):List FEnt:=[⟨47,F9,F47⟩]
theorem t23:al Try.prog (T23 BD):=(aa d47 (by kernel_rfl) ak)
noncomputable def c23:=bU Try.prog [] Try.f23 .n
theorem ok23:L.Fn Try.prog 23 36 [(.t 6)] (erase c23):=Fn.ofA aM Try.func23 _ _ (by kernel_rfl)
def Gb:FSh:=⟨⟨j35,[]⟩,[y19,y7,y7],0,⟨⟨fk,[]⟩,[.bool],[],0⟩,true⟩
noncomputable def q23 (F47:lC)(a0:List Int)(a1 a2:Int):Option Bool:=
ai (ah .i64 (a1-1)) (
ai (ah .i64 (a1+a2)) (
(F47 (a0,(a1-1))).bind fun r1=>(
cond r1 (
ai (ah .i64 ((a1-1)-1)) (
(F47 (a0,((a1-1)-1))).bind fun r2=>(
cond (!r2) (
some true) (
(F47 (a0,(a1+a2))).bind fun r3=>(
cond r3 (
ai (ah .i64 ((a1+a2)+1)) (
(F47 (a0,((a1+a2)+1))).bind fun r4=>(
some (!r4)))) (
some false)))))) (
(F47 (a0,(a1+a2))).bind fun r5=>(
cond r5 (
ai (ah .i64 ((a1+a2)+1)) (
(F47 (a0,((a1+a2)+1))).bind fun r6=>(
some (!r6)))) (
some false))))))
theorem g23 (F47:lC):aO (T23 F47) Gb [(.t 6)] c23=u3 (q23 F47):=funext fun _=>by kernel_rfl
noncomputable def p23:=q23 BD
noncomputable def rl:gT:=fun x=>p23 x.1 x.2.1 x.2.2
theorem v23:aO (T23 BD) Gb [(.t 6)] c23=rl:=g23 BD
theorem d23:DC Try.prog 23 Gb rl:=aD v23 (aj t23 ok23 (by kernel_rfl))
noncomputable def Cd (F22:gT)(F23:gT):List FEnt:=[⟨22,Ga,F22⟩,⟨23,Gb,F23⟩]
theorem t56:al Try.prog (Cd rk rl):=(aa d22 (by kernel_rfl) (aa d23 (by kernel_rfl) ak))
def Nr:LSh:=⟨[0,1,7,8,9],⟨[(.slr 0),(.v y7),(.v y7),(.v y7),(.v y7)],xG⟩,[y7,y7,y7,y7,cG],1,[0]⟩
def Ns:List XSh:=[⟨.ret,[4,5,6],⟨⟨j33,xG⟩,z17,[0],1⟩⟩,⟨(.exit 4),[0,1,7,8],⟨⟨[(.slr 0),(.v y7),(.v y7),(.v y7)],xG⟩,[y7,y7,y7,cG],[0],1⟩⟩]
def Nt:LSh:=⟨[0,1,7,8],⟨[(.slr 0),(.v y7),(.v y7),(.v y7)],xG⟩,[y7,y7,y7,cG],1,[0]⟩
def Nu:List XSh:=[⟨.ret,[4,5,6],⟨⟨j33,xG⟩,z17,[0],1⟩⟩,⟨(.exit 2),[0,1,7],⟨⟨[(.slr 0),(.v y7),(.v y7)],xG⟩,[y7,y7,cG],[0],1⟩⟩]
def Nv:LSh:=⟨[0,1,7],⟨[(.slr 0),(.v y7),(.v y7)],xG⟩,[y7,y7,cG],1,[0]⟩
def Nw:List XSh:=[⟨.ret,[4,5,6],⟨⟨j33,xG⟩,z17,[0],1⟩⟩,⟨(.exit 0),[],⟨⟨[],xG⟩,[cG],[0],1⟩⟩]
noncomputable def TP:=bU Try.prog [] Try.f56 (.s .n (.s (.s .n (.b (.l Nv Nw (.s .n (.s (.b (.s .n (.b (.l Nt Nu (.s .n (.s (.b (.s .n (.b (.l Nr Ns .n)))) .n)))))) .n))))) .n))
noncomputable def Nx (T:List FEnt):=aG (xs:=Ns) Nr (bf T (sb [1,0,1,2,2,1,0,2,1,2,2,1,0,2,1,2,2] TP))
noncomputable def l56_2 (T:List FEnt):=af (Nx T)
noncomputable def Ny (F22 F23:gT)(a0 a1 a2 a3:Int)(a4:List Y2):Option aaE:=
ai (ah .i64 (a3+a0)) (
ai (aC a2 a4.length) (
cond (decide ((a3+a0)≤(↑(List.length (ix a4 a2)):Int))) (
ai (aC a2 a4.length) (
(F22 ((ix a4 a2),a3,a0)).bind fun r1=>(
cond r1 (
cond (decide (a1=1)) (
some (Sum.inr (Sum.inl (a2,a3,true,a4)))) (
ai (aC a2 a4.length) (
(F23 ((ix a4 a2),a3,a0)).bind fun r2=>(
cond (!r2) (
some (Sum.inr (Sum.inl (a2,a3,true,a4)))) (
ai (ah .i64 (a3+1)) (
some (Sum.inl (a0,a1,a2,(a3+1),a4)))))))) (
ai (ah .i64 (a3+1)) (
some (Sum.inl (a0,a1,a2,(a3+1),a4))))))) (
some (Sum.inr (Sum.inr (a0,a1,a2,a4))))))
theorem Xb (F22 F23:gT):Nx (Cd F22 F23)=u5 (Ny F22 F23):=funext fun _=>by kernel_rfl
noncomputable def Xc:=Ny rk rl
noncomputable def Nz:aaA:=af (fun x=>Xc x.1 x.2.1 x.2.2.1 x.2.2.2.1 x.2.2.2.2)
theorem Xd:l56_2 (Cd rk rl)=Nz:=congrArg af (Xb rk rl)
noncomputable def NA (T:List FEnt):=aG (xs:=Nu) Nt (bf T (sb [1,0,1,2,2,1,0,2,1,2,2] TP))
noncomputable def l56_1 (T:List FEnt):=af (NA T)
noncomputable def NB (F22 F23:gT)(l56_2:aaA)(a0 a1 a2:Int)(a3:List Y2):Option aaF:=
cond (decide (a2 < (↑a3.length:Int))) (
(l56_2 (a0,a1,a2,0,a3)).bind (fun y3=>Sum.elim (fun y4=>(
some (Sum.inr (Sum.inl (y4.1,y4.2.1,y4.2.2.1,y4.2.2.2))))) (fun y5=>(
ai (ah .i64 (y5.2.2.1+1)) (
some (Sum.inl (y5.1,y5.2.1,(y5.2.2.1+1),y5.2.2.2))))) y3)) (
some (Sum.inr (Sum.inr (a0,a1,a3))))
theorem Xe (F22 F23:gT):NA (Cd F22 F23)=u4 (NB F22 F23 (l56_2 (Cd F22 F23))):=funext fun _=>by kernel_rfl
noncomputable def Xf:=NB rk rl Nz
noncomputable def NC:aaB:=af (fun x=>Xf x.1 x.2.1 x.2.2.1 x.2.2.2)
theorem Xg:l56_1 (Cd rk rl)=NC:=congrArg af ((Xe rk rl).trans (by rw[Xd] <;> rfl))
noncomputable def NE (T:List FEnt):=aG (xs:=Nw) Nv (bf T (sb [1,0,1,2,2] TP))
noncomputable def l56_0 (T:List FEnt):=af (NE T)
noncomputable def NF (F22 F23:gT)(l56_1:aaB)(a0 a1:Int)(a2:List Y2):Option aaG:=
cond (decide (a1 < 2)) (
(l56_1 (a0,a1,0,a2)).bind (fun y6=>Sum.elim (fun y7=>(
some (Sum.inr (Sum.inl (y7.1,y7.2.1,y7.2.2.1,y7.2.2.2))))) (fun y8=>(
ai (ah .i64 (y8.2.1+1)) (
some (Sum.inl (y8.1,(y8.2.1+1),y8.2.2))))) y6)) (
some (Sum.inr (Sum.inr a2)))
theorem Xh (F22 F23:gT):NE (Cd F22 F23)=u3 (NF F22 F23 (l56_1 (Cd F22 F23))):=funext fun _=>by kernel_rfl
noncomputable def Xi:=NF rk rl NC
noncomputable def NG:aaC:=af (fun x=>Xi x.1 x.2.1 x.2.2)
theorem Xj:l56_0 (Cd rk rl)=NG:=congrArg af ((Xh rk rl).trans (by rw[Xg] <;> rfl))
theorem ok56:L.Fn Try.prog 56 54 [(.t 4),(.t 5),(.t 6)] (erase TP):=Fn.ofA aM Try.func56 _ _ (by kernel_rfl)
def Jb:FSh:=⟨⟨[(.slr 0),(.v y7)],xG⟩,[y7,cG],1,⟨⟨[(.tup j33)],xG⟩,z17,[0],1⟩,false⟩
noncomputable def q56 (F22 F23:gT)(l56_0:aaC)(a0:Int)(a1:List Y2):Option Gi:=
(l56_0 (a0,0,a1)).bind (fun y9=>Sum.elim (fun y10=>(
some (y10.1,y10.2.1,y10.2.2.1,y10.2.2.2))) (fun y11=>(
some (0,0,false,y11))) y9)
theorem g56 (F22 F23:gT):aO (Cd F22 F23) Jb [(.t 4),(.t 5),(.t 6)] TP=u2 (q56 F22 F23 (l56_0 (Cd F22 F23))):=funext fun _=>by kernel_rfl
noncomputable def p56:=q56 rk rl NG
noncomputable def Ce:uY:=fun x=>p56 x.1 x.2
theorem v56:aO (Cd rk rl) Jb [(.t 4),(.t 5),(.t 6)] TP=Ce:=(g56 rk rl).trans (by rw[Xj] <;> rfl)
theorem d56:DC Try.prog 56 Jb Ce:=aD v56 (aj t56 ok56 (by kernel_rfl))
noncomputable def lB:List FEnt:=[]
theorem Xk:al Try.prog lB:=ak
def zY:LSh:=⟨[1,2,3,6,7],⟨[(.v y7),(.v y7),(.ptr 0 0),(.v y7),(.v y7)],k11⟩,[y7,y7,y7,y7,cG,gS,y19,y19],5,[0,1,2,3,4]⟩
def zZ:List XSh:=[⟨(.exit 2),[1,2,3,6],⟨⟨[(.v y7),(.v y7),(.ptr 0 0),(.v y7)],k11⟩,[y7,y7,y7,cG,gS,y19,y19],[0,1,2,3,4],5⟩⟩]
def Aa:LSh:=⟨[1,2,3,6],⟨[(.v y7),(.v y7),(.ptr 0 0),(.v y7)],k11⟩,[y7,y7,y7,cG,gS,y19,y19],5,[0,1,2,3,4]⟩
def Ab:List XSh:=[⟨(.exit 0),[1,2,3],⟨⟨[(.v y7),(.v y7),(.ptr 0 0)],k11⟩,[y7,y7,cG,gS,y19,y19],[0,1,2,3,4],5⟩⟩]
noncomputable def uR:=bU Try.prog [] Try.f73 (.s .n (.s (.s .n (.b (.l Aa Ab (.s .n (.s (.b (.s .n (.b (.l zY zZ .n)))) .n))))) .n))
noncomputable def Ac (T:List FEnt):=aG (xs:=zZ) zY (bf T (sb [1,0,1,2,2,1,0,2,1,2,2] uR))
noncomputable def l73v1_1 (T:List FEnt):=af (Ac T)
noncomputable def Ad (a0 a1 a2 a3:Int)(a4:List Y2)(a5:List Y4)(a6 a7:List Int):Option aas:=
ai (aC a2 a4.length) (
cond (decide (a3 < (↑(List.length (ix a4 a2)):Int))) (
ai (aC a2 a4.length) (
ai (aC a3 (List.length (ix a4 a2))) (
cond (decide ((ix (ix a4 a2) a3)=a0)) (
ai (aC a2 a4.length) (
ai (aC a3 (List.length (ix a4 a2))) (
ai (ah .i64 (a3+1)) (
some (Sum.inl (a0,a1,a2,(a3+1),(List.set a4 a2.toNat (List.set (ix a4 a2) a3.toNat (-1))),a5,a6,a7)))))) (
ai (ah .i64 (a3+1)) (
some (Sum.inl (a0,a1,a2,(a3+1),a4,a5,a6,a7))))))) (
some (Sum.inr (a0,a1,a2,a4,a5,a6,a7))))
theorem Jc:Ac lB=u8 Ad:=funext fun _=>by kernel_rfl
noncomputable def Jd:=Ad
noncomputable def Ae:aaj:=af (fun x=>Jd x.1 x.2.1 x.2.2.1 x.2.2.2.1 x.2.2.2.2.1 x.2.2.2.2.2.1 x.2.2.2.2.2.2.1 x.2.2.2.2.2.2.2)
theorem Je:l73v1_1 lB=Ae:=congrArg af Jc
noncomputable def Af (T:List FEnt):=aG (xs:=Ab) Aa (bf T (sb [1,0,1,2,2] uR))
noncomputable def l73v1_0 (T:List FEnt):=af (Af T)
noncomputable def Ag (l73v1_1:aaj)(a0 a1 a2:Int)(a3:List Y2)(a4:List Y4)(a5 a6:List Int):Option aat:=
cond (decide (a2 < (↑a3.length:Int))) (
(l73v1_1 (a0,a1,a2,0,a3,a4,a5,a6)).bind fun y1=>(
ai (ah .i64 (y1.2.2.1+1)) (
some (Sum.inl (y1.1,y1.2.1,(y1.2.2.1+1),y1.2.2.2.1,y1.2.2.2.2.1,y1.2.2.2.2.2.1,y1.2.2.2.2.2.2))))) (
some (Sum.inr (a0,a1,a3,a4,a5,a6)))
theorem g73v1_0:Af lB=u7 (Ag (l73v1_1 lB)):=funext fun _=>by kernel_rfl
noncomputable def Jf:=Ag Ae
noncomputable def Ah:aak:=af (fun x=>Jf x.1 x.2.1 x.2.2.1 x.2.2.2.1 x.2.2.2.2.1 x.2.2.2.2.2.1 x.2.2.2.2.2.2)
theorem Jg:l73v1_0 lB=Ah:=congrArg af (g73v1_0.trans (by rw[Je] <;> rfl))
theorem RO:L.Fn Try.prog 73 54 [] (erase uR):=Fn.ofA aM Try.func73 _ _ (by kernel_rfl)
def pk:FSh:=⟨⟨[(.agg j28),(.v y7),(.v y7)],W6⟩,[y7,y7,cG,gS,y19,y19],4,⟨⟨pc,W6⟩,[cG,gS,y19,y19],[0,1,2,3],4⟩,false⟩
noncomputable def NH (l73v1_0:aak)(a0 a1:Int)(a2:List Y2)(a3:List Y4)(a4 a5:List Int):Option BN:=
(l73v1_0 (a0,a1,0,a2,a3,a4,a5)).bind fun y2=>(
ai (aC y2.1 y2.2.2.2.1.length) (
ai (aC y2.1 y2.2.2.2.1.length) (
some (y2.2.2.1,(List.set y2.2.2.2.1 y2.1.toNat (y2.2.1,((-1),((-1),(ix y2.2.2.2.1 y2.1).2.2.2)))),y2.2.2.2.2.1,y2.2.2.2.2.2))))
theorem g73v1:aO lB pk [] uR=u6 (NH (l73v1_0 lB)):=funext fun _=>by kernel_rfl
noncomputable def Xl:=NH Ah
noncomputable def er:mN:=fun x=>Xl x.1 x.2.1 x.2.2.1 x.2.2.2.1 x.2.2.2.2.1 x.2.2.2.2.2
theorem Xm:aO lB pk [] uR=er:=g73v1.trans (by rw[Jg] <;> rfl)
theorem NI:DC Try.prog 73 pk er:=aD Xm (aj Xk RO (by kernel_rfl))
noncomputable def rm (F73v1:mN):List FEnt:=[⟨73,pk,F73v1⟩]
theorem Xn:al Try.prog (rm er):=(aa NI (by kernel_rfl) ak)
def Ai:LSh:=⟨[2,3,4,6],⟨[(.v y7),(.ptr 0 0),(.ptr 1 0),(.v y7)],k5⟩,[y7,y7,aW,cG,gS,y19,y19],6,[0,1,2,3,4,5]⟩
def Aj:List XSh:=[⟨(.exit 0),[],⟨⟨[],k5⟩,[aW,cG,gS,y19,y19],[0,1,2,3,4,5],6⟩⟩]
noncomputable def Ak:=bU Try.prog [] Try.f72 (.s .n (.s .n (.b (.l Ai Aj .n))))
noncomputable def Al (T:List FEnt):=aG (xs:=Aj) Ai (bf T (sb [1,1,2,2] Ak))
noncomputable def l72v1_0 (T:List FEnt):=af (Al T)
noncomputable def Am (F73v1:mN)(a0 a1:Int)(a2:Y2×Int)(a3:List Y2)(a4:List Y4)(a5 a6:List Int):Option aau:=
cond (decide (a1 < (↑a4.length:Int))) (
ai (aC a1 a4.length) (
cond (decide ((ix a4 a1).1=2)) (
ai (aC a1 a5.length) (
ai (ah .i64 ((ix a5 a1)+a2.2)) (
cond (decide (((ix a5 a1)+a2.2)≤a0)) (
(F73v1 (a1,4,a3,a4,a5,a6)).bind fun r1=>(
ai (ah .i64 (a1+1)) (
some (Sum.inl (a0,(a1+1),a2,r1.1,r1.2.1,r1.2.2.1,r1.2.2.2))))) (
ai (ah .i64 (a1+1)) (
some (Sum.inl (a0,(a1+1),a2,a3,a4,a5,a6))))))) (
ai (ah .i64 (a1+1)) (
some (Sum.inl (a0,(a1+1),a2,a3,a4,a5,a6)))))) (
some (Sum.inr (a2,a3,a4,a5,a6)))
theorem Jh (F73v1:mN):Al (rm F73v1)=u7 (Am F73v1):=funext fun _=>by kernel_rfl
noncomputable def Ji:=Am er
noncomputable def An:aal:=af (fun x=>Ji x.1 x.2.1 x.2.2.1 x.2.2.2.1 x.2.2.2.2.1 x.2.2.2.2.2.1 x.2.2.2.2.2.2)
theorem Jj:l72v1_0 (rm er)=An:=congrArg af (Jh er)
theorem RP:L.Fn Try.prog 72 36 [] (erase Ak):=Fn.ofA aM Try.func72 _ _ (by kernel_rfl)
def sO:FSh:=⟨⟨[(.st aW),(.agg j28),(.v y7)],W6⟩,[aW,y7,cG,gS,y19,y19],4,⟨⟨pc,W6⟩,[cG,gS,y19,y19],[0,1,2,3],4⟩,false⟩
noncomputable def NJ (F73v1:mN)(l72v1_0:aal)(a0:Y2×Int)(a1:Int)(a2:List Y2)(a3:List Y4)(a4 a5:List Int):Option BN:=
(l72v1_0 (a1,0,a0,a2,a3,a4,a5)).bind fun y2=>(
some (y2.2.1,y2.2.2.1,y2.2.2.2.1,y2.2.2.2.2))
theorem Xo (F73v1:mN):aO (rm F73v1) sO [] Ak=u6 (NJ F73v1 (l72v1_0 (rm F73v1))):=funext fun _=>by kernel_rfl
noncomputable def Xp:=NJ er An
noncomputable def iI:uZ:=fun x=>Xp x.1 x.2.1 x.2.2.1 x.2.2.2.1 x.2.2.2.2.1 x.2.2.2.2.2
theorem Xq:aO (rm er) sO [] Ak=iI:=(Xo er).trans (by rw[Jj] <;> rfl)
theorem Xr:DC Try.prog 72 sO iI:=aD Xq (aj Xn RP (by kernel_rfl))
noncomputable def Jk (F70:uX)(F71:mL)(F72v1:uZ)(F56:uY)(F73v1:mN):List FEnt:=[⟨70,I8,F70⟩,⟨71,Ja,F71⟩,⟨72,sO,F72v1⟩,⟨56,Jb,F56⟩,⟨73,pk,F73v1⟩]
theorem t52:al Try.prog (Jk Cc xF iI Ce er):=(aa d70 (by kernel_rfl) (aa d71 (by kernel_rfl) (aa Xr (by kernel_rfl) (aa d56 (by kernel_rfl) (aa NI (by kernel_rfl) ak)))))
def NK:LSh:=⟨[2,3,6,7,8,9,10,12,13,15],⟨[(.v y7),(.ptr 0 0),(.ptr 1 0),(.ptr 2 0),(.v bc),(.v y7),(.ptr 3 0),(.v y7),(.v y7),(.v y7)],k1⟩,[y7,bc,y7,y7,y7,y7,aW,cW,cG,gS,y19,y19],8,[0,1,2,3,4,5,6,7]⟩
def NL:List XSh:=[⟨(.exit 3),[2,3,6,7,8,9,10,12,13],⟨⟨[(.v y7),(.ptr 0 0),(.ptr 1 0),(.ptr 2 0),(.v bc),(.v y7),(.ptr 3 0),(.v y7),(.v y7)],k1⟩,[y7,bc,y7,y7,y7,aW,cW,cG,gS,y19,y19],[0,1,2,3,4,5,6,7],8⟩⟩]
def NM:LSh:=⟨[2,3,6,7,8,9],⟨[(.v y7),(.ptr 0 0),(.ptr 1 0),(.ptr 2 0),(.v bc),(.v y7)],k2⟩,[y7,bc,y7,aW,cG,gS,y19,y19],7,[0,1,2,3,4,5]⟩
def NN:List XSh:=[⟨(.exit 0),[2,3,6,7],⟨⟨[(.v y7),(.ptr 0 0),(.ptr 1 0),(.ptr 2 0)],k2⟩,[y7,aW,cG,gS,y19,y19],[0,1,2,3,4,5],7⟩⟩]
noncomputable def Xs:=bU Try.prog [] Try.f52 (.s .n (.s .n (.s .n (.s (.s .n (.b (.l NM NN (.s .n (.s (.b (.s .n (.s .n (.s .n (.s .n (.s .n (.b (.s .n (.s (.s .n (.s .n (.s .n (.s (.s .n (.b (.l NK NL .n))) .n)))) (.s .n (.s (.s .n (.s .n (.r [.a 4 false y7,.a 5 false y7]))) .n))))))))))) .n))))) .n))))
noncomputable def NO (T:List FEnt):=aG (xs:=NL) NK (bf T (sb [1,1,1,0,1,2,2,1,0,2,1,1,1,1,1,2,1,0,1,1,1,0,1,2,2] Xs))
noncomputable def l52_1 (T:List FEnt):=af (NO T)
noncomputable def NP (F70:uX)(F71:mL)(F72v1:uZ)(F56:uY)(F73v1:mN)(a0:Int)(a1:List Y1)(a2 a3 a4 a5:Int)(a6:Y2×Int)(a7:Y1)(a8:List Y2)(a9:List Y4)(a10 a11:List Int):Option aav:=
ai (ah .i64 (a4+a7.2.2.2.2)) (
cond (decide (a5 < (a4+a7.2.2.2.2))) (
ai (aC a3 a8.length) (
ai (aC a5 (List.length (ix a8 a3))) (
ai (ah .i64 (a5+1)) (
some (Sum.inl (a0,a1,a2,a3,a4,(a5+1),a6,a7,(List.set a8 a3.toNat (List.set (ix a8 a3) a5.toNat a7.2.2.2.1)),a9,a10,a11)))))) (
some (Sum.inr (a0,a1,a2,a3,a4,a6,a7,a8,a9,a10,a11))))
theorem Xt (F70:uX)(F71:mL)(F72v1:uZ)(F56:uY)(F73v1:mN):NO (Jk F70 F71 F72v1 F56 F73v1)=u12 (NP F70 F71 F72v1 F56 F73v1):=funext fun _=>by kernel_rfl
noncomputable def Xu:=NP Cc xF iI Ce er
noncomputable def NQ:aam:=af (fun x=>Xu x.1 x.2.1 x.2.2.1 x.2.2.2.1 x.2.2.2.2.1 x.2.2.2.2.2.1 x.2.2.2.2.2.2.1 x.2.2.2.2.2.2.2.1 x.2.2.2.2.2.2.2.2.1 x.2.2.2.2.2.2.2.2.2.1 x.2.2.2.2.2.2.2.2.2.2.1 x.2.2.2.2.2.2.2.2.2.2.2)
theorem Xv:l52_1 (Jk Cc xF iI Ce er)=NQ:=congrArg af (Xt Cc xF iI Ce er)
noncomputable def NR (T:List FEnt):=aG (xs:=NN) NM (bf T (sb [1,1,1,0,1,2,2] Xs))
noncomputable def l52_0 (T:List FEnt):=af (NR T)
noncomputable def NT (F70:uX)(F71:mL)(F72v1:uZ)(F56:uY)(F73v1:mN)(l52_1:aam)(a0:Int)(a1:List Y1)(a2:Int)(a3:Y2×Int)(a4:List Y2)(a5:List Y4)(a6 a7:List Int):Option aaw:=
cond (decide (a2 < (↑a1.length:Int))) (
ai (aC a2 a1.length) (
cond (decide (a0 < (ix a1 a2).2.1)) (
some (Sum.inr (a0,a3,a4,a5,a6,a7))) (
(F72v1 (a3,(ix a1 a2).2.1,a4,a5,a6,a7)).bind fun r3=>(
ai (aC ((ix a1 a2).2.2.2.1) r3.2.1.length) (
cond (decide ((ix a1 a2).2.2.1=1)) (
cond (!decide ((ix r3.2.1 ((ix a1 a2).2.2.2.1)).1=0)) (
ai (ah .i64 (a2+1)) (
some (Sum.inl (a0,a1,(a2+1),a3,r3.1,r3.2.1,r3.2.2.1,r3.2.2.2)))) (
(F56 ((ix a1 a2).2.2.2.2,r3.1)).bind fun r4=>(
cond (!r4.2.2.1) (
ai (aC ((ix a1 a2).2.2.2.1) r3.2.1.length) (
ai (ah .i64 (a2+1)) (
some (Sum.inl (a0,a1,(a2+1),a3,r4.2.2.2,(List.set r3.2.1 (Int.toNat ((ix a1 a2).2.2.2.1)) (1,((-1),((-1),(ix a1 a2).2.2.2.2)))),r3.2.2.1,r3.2.2.2))))) (
(l52_1 (a0,a1,a2,r4.1,r4.2.1,r4.2.1,a3,(ix a1 a2),r4.2.2.2,r3.2.1,r3.2.2.1,r3.2.2.2)).bind fun y5=>(
ai (aC y5.2.2.2.2.2.2.1.2.2.2.1 y5.2.2.2.2.2.2.2.2.1.length) (
ai (aC y5.2.2.2.2.2.2.1.2.2.2.1 y5.2.2.2.2.2.2.2.2.2.1.length) (
ai (ah .i64 (y5.2.2.1+1)) (
some (Sum.inl (y5.1,y5.2.1,(y5.2.2.1+1),y5.2.2.2.2.2.1,y5.2.2.2.2.2.2.2.1,(List.set y5.2.2.2.2.2.2.2.2.1 y5.2.2.2.2.2.2.1.2.2.2.1.toNat (2,(y5.2.2.2.1,(y5.2.2.2.2.1,y5.2.2.2.2.2.2.1.2.2.2.2)))),(List.set y5.2.2.2.2.2.2.2.2.2.1 y5.2.2.2.2.2.2.1.2.2.2.1.toNat y5.2.2.2.2.2.2.1.2.1),y5.2.2.2.2.2.2.2.2.2.2)))))))))) (
cond (decide ((ix a1 a2).2.2.1=2)) (
cond (decide ((ix r3.2.1 ((ix a1 a2).2.2.2.1)).1=2)) (
ai (aC ((ix a1 a2).2.2.2.1) r3.2.1.length) (
ai (ah .i64 (a2+1)) (
some (Sum.inl (a0,a1,(a2+1),a3,r3.1,(List.set r3.2.1 (Int.toNat ((ix a1 a2).2.2.2.1)) (3,(ix r3.2.1 ((ix a1 a2).2.2.2.1)).2)),r3.2.2.1,r3.2.2.2))))) (
ai (bM 8 (List.length r3.2.2.2+List.length ([(ix a1 a2).2.2.2.1]:List Int))) (
ai (ah .i64 (a2+1)) (
some (Sum.inl (a0,a1,(a2+1),a3,r3.1,r3.2.1,r3.2.2.1,(r3.2.2.2++([(ix a1 a2).2.2.2.1]:List Int)))))))) (
cond (decide ((ix a1 a2).2.2.1=3)) (
cond (decide ((ix r3.2.1 ((ix a1 a2).2.2.2.1)).1=2)) (
(F73v1 ((ix a1 a2).2.2.2.1,5,r3.1,r3.2.1,r3.2.2.1,r3.2.2.2)).bind fun r6=>(
ai (ah .i64 (a2+1)) (
some (Sum.inl (a0,a1,(a2+1),a3,r6.1,r6.2.1,r6.2.2.1,r6.2.2.2))))) (
cond (decide ((ix r3.2.1 ((ix a1 a2).2.2.2.1)).1=3)) (
(F73v1 ((ix a1 a2).2.2.2.1,5,r3.1,r3.2.1,r3.2.2.1,r3.2.2.2)).bind fun r7=>(
ai (ah .i64 (a2+1)) (
some (Sum.inl (a0,a1,(a2+1),a3,r7.1,r7.2.1,r7.2.2.1,r7.2.2.2))))) (
ai (ah .i64 (a2+1)) (
some (Sum.inl (a0,a1,(a2+1),a3,r3.1,r3.2.1,r3.2.2.1,r3.2.2.2)))))) (
ai (ah .i64 (a2+1)) (
some (Sum.inl (a0,a1,(a2+1),a3,r3.1,r3.2.1,r3.2.2.1,r3.2.2.2))))))))))) (
some (Sum.inr (a0,a3,a4,a5,a6,a7)))
theorem Xw (F70:uX)(F71:mL)(F72v1:uZ)(F56:uY)(F73v1:mN):NR (Jk F70 F71 F72v1 F56 F73v1)=u8 (NT F70 F71 F72v1 F56 F73v1 (l52_1 (Jk F70 F71 F72v1 F56 F73v1))):=funext fun _=>by kernel_rfl
noncomputable def Xx:=NT Cc xF iI Ce er NQ
noncomputable def NU:aan:=af (fun x=>Xx x.1 x.2.1 x.2.2.1 x.2.2.2.1 x.2.2.2.2.1 x.2.2.2.2.2.1 x.2.2.2.2.2.2.1 x.2.2.2.2.2.2.2)
theorem Xy:l52_0 (Jk Cc xF iI Ce er)=NU:=congrArg af ((Xw Cc xF iI Ce er).trans (by rw[Xv] <;> rfl))
theorem ok52:L.Fn Try.prog 52 143 [(.cell 6 true 4)] (erase Xs):=Fn.ofA aM Try.func52 _ _ (by kernel_rfl)
def BE:FSh:=⟨⟨IL,[]⟩,IJ,0,⟨⟨[(.agg j28)],W6⟩,[cG,gS,y19,y19],[],4⟩,false⟩
noncomputable def q52 (F70:uX)(F71:mL)(F72v1:uZ)(F56:uY)(F73v1:mN)(l52_0:aan)(a0:Y2×Int)(a1:List Y1)(a2:Int):Option BN:=
(F70 a0).bind fun r1=>(
(F71 a1).bind fun r2=>(
(l52_0 (a2,r2,0,a0,r1.1,r1.2.1,r1.2.2,([]:List Int))).bind fun y8=>(
(F72v1 (y8.2.1,y8.1,y8.2.2.1,y8.2.2.2.1,y8.2.2.2.2.1,y8.2.2.2.2.2)).bind fun r9=>(
some (r9.1,r9.2.1,r9.2.2.1,r9.2.2.2)))))
theorem g52 (F70:uX)(F71:mL)(F72v1:uZ)(F56:uY)(F73v1:mN):aO (Jk F70 F71 F72v1 F56 F73v1) BE [(.cell 6 true 4)] Xs=u3 (q52 F70 F71 F72v1 F56 F73v1 (l52_0 (Jk F70 F71 F72v1 F56 F73v1))):=funext fun _=>by kernel_rfl
noncomputable def p52:=q52 Cc xF iI Ce er NU
noncomputable def uS:nE:=fun x=>p52 x.1 x.2.1 x.2.2
theorem v52:aO (Jk Cc xF iI Ce er) BE [(.cell 6 true 4)] Xs=uS:=(g52 Cc xF iI Ce er).trans (by rw[Xy] <;> rfl)
theorem d52:DC Try.prog 52 BE uS:=aD v52 (aj t52 ok52 (by kernel_rfl))
noncomputable def T28 (F51:eW)(F52:nE):List FEnt:=[⟨51,BC,F51⟩,⟨52,BE,F52⟩]
theorem t28:al Try.prog (T28 uQ uS):=(aa d51 (by kernel_rfl) (aa d52 (by kernel_rfl) ak))
noncomputable def c28:=bU Try.prog [] Try.f28 .n
theorem ok28:L.Fn Try.prog 28 28 [(.cell 8 true 4),(.t 9)] (erase c28):=Fn.ofA aM Try.func28 _ _ (by kernel_rfl)
def Jl:FSh:=⟨⟨TD,[]⟩,TC,0,⟨⟨[(.tup [(.st eV),(.v y7)])],[]⟩,[eV,y7],[],0⟩,true⟩
noncomputable def q28 (F51:eW)(F52:nE)(a0:Y2×Int)(a1:List Y1)(a2 a3:Int):Option R0:=
(F51 (a0,a1,a2,a3,1)).bind fun r1=>(
cond (!decide (r1=0)) (
some ((0,(0,(0,0))),r1)) (
(F52 (a0,a1,a2)).bind fun r2=>(
ai (aC a3 r2.2.1.length) (
some ((ix r2.2.1 a3),0)))))
theorem g28 (F51:eW)(F52:nE):aO (T28 F51 F52) Jl [(.cell 8 true 4),(.t 9)] c28=u4 (q28 F51 F52):=funext fun _=>by kernel_rfl
noncomputable def p28:=q28 uQ uS
noncomputable def TQ:dn:=fun x=>p28 x.1 x.2.1 x.2.2.1 x.2.2.2
theorem v28:aO (T28 uQ uS) Jl [(.cell 8 true 4),(.t 9)] c28=TQ:=g28 uQ uS
theorem d28:DC Try.prog 28 Jl TQ:=aD v28 (aj t28 ok28 (by kernel_rfl))
noncomputable def T17 (F42:eW)(F42v1:mM):List FEnt:=[⟨42,xy,F42⟩,⟨42,kK,F42v1⟩]
theorem t17:al Try.prog (T17 pg P42v1):=(aa d42 (by kernel_rfl) (aa zE (by kernel_rfl) ak))
noncomputable def c17:=bU Try.prog [] Try.f17 .n
theorem ok17:L.Fn Try.prog 17 24 [(.t 6),(.t 7)] (erase c17):=Fn.ofA aM Try.func17 _ _ (by kernel_rfl)
def xH:FSh:=⟨⟨IL,[]⟩,IJ,0,⟨⟨[(.tup [(.slr 0),(.v y7)])],xG⟩,[y7,cG],[],1⟩,false⟩
noncomputable def q17 (F42:eW)(F42v1:mM)(a0:Y2×Int)(a1:List Y1)(a2:Int):Option R8:=
Kk (F42 (a0,a1,a2,0,1)) (fun r1=>(
cond (!decide (r1=0)) (
some (r1,([]:List Y2))) (
none))) (
(F42v1 (a0,a1,a2,0,1)).bind fun r2=>(
cond (!decide (r2.1=0)) (
some (r2.1,([]:List Y2))) (
some (0,r2.2.2.2.1))))
theorem g17 (F42:eW)(F42v1:mM):aO (T17 F42 F42v1) xH [(.t 6),(.t 7)] c17=u3 (q17 F42 F42v1):=funext fun _=>by kernel_rfl
noncomputable def p17:=q17 pg P42v1
noncomputable def jQ:eX:=fun x=>p17 x.1 x.2.1 x.2.2
theorem v17:aO (T17 pg P42v1) xH [(.t 6),(.t 7)] c17=jQ:=g17 pg P42v1
theorem d17:DC Try.prog 17 xH jQ:=aD v17 (aj t17 ok17 (by kernel_rfl))
noncomputable def T29 (F51:eW)(F52:nE):List FEnt:=[⟨51,BC,F51⟩,⟨52,BE,F52⟩]
theorem t29:al Try.prog (T29 uQ uS):=(aa d51 (by kernel_rfl) (aa d52 (by kernel_rfl) ak))
noncomputable def c29:=bU Try.prog [] Try.f29 .n
theorem ok29:L.Fn Try.prog 29 21 [(.t 6),(.t 7)] (erase c29):=Fn.ofA aM Try.func29 _ _ (by kernel_rfl)
def Jm:FSh:=⟨⟨IL,[]⟩,IJ,0,⟨⟨[(.tup [(.slr 0),(.v y7)])],xG⟩,[y7,cG],[],1⟩,false⟩
noncomputable def q29 (F51:eW)(F52:nE)(a0:Y2×Int)(a1:List Y1)(a2:Int):Option R8:=
(F51 (a0,a1,a2,0,1)).bind fun r1=>(
cond (!decide (r1=0)) (
some (r1,([]:List Y2))) (
(F52 (a0,a1,a2)).bind fun r2=>(
some (0,r2.1))))
theorem g29 (F51:eW)(F52:nE):aO (T29 F51 F52) Jm [(.t 6),(.t 7)] c29=u3 (q29 F51 F52):=funext fun _=>by kernel_rfl
noncomputable def p29:=q29 uQ uS
noncomputable def TR:eX:=fun x=>p29 x.1 x.2.1 x.2.2
theorem v29:aO (T29 uQ uS) Jm [(.t 6),(.t 7)] c29=TR:=g29 uQ uS
theorem d29:DC Try.prog 29 Jm TR:=aD v29 (aj t29 ok29 (by kernel_rfl))
noncomputable def TS (F20:jn):List FEnt:=[⟨20,xE,F20⟩]
theorem t19:al Try.prog (TS P20):=(aa d20 (by kernel_rfl) ak)
def NV:LSh:=⟨[0,1,5],⟨[(.slr 0),(.slr 1),(.v y7)],W7⟩,[y7,cG,cG],2,[0,1]⟩
def NW:List XSh:=[⟨.ret,[4],⟨⟨fk,W7⟩,[.bool,cG,cG],[0,1],2⟩⟩,⟨(.exit 0),[],⟨⟨[],W7⟩,[cG,cG],[0,1],2⟩⟩]
noncomputable def c19:=bU Try.prog [] Try.f19 (.s .n (.s .n (.s (.s .n (.b (.l NV NW .n))) .n)))
noncomputable def NX (T:List FEnt):=aG (xs:=NW) NV (bf T (sb [1,1,0,1,2,2] c19))
noncomputable def l19_0 (T:List FEnt):=af (NX T)
noncomputable def rn (F20:jn)(a0:Int)(a1 a2:List Y2):Option aaH:=
cond (decide (a0 < (↑a1.length:Int))) (
ai (aC a0 a1.length) (
ai (aC a0 a2.length) (
(F20 ((ix a1 a0),(ix a2 a0))).bind fun r1=>(
cond (!r1) (
some (Sum.inr (Sum.inl (false,a1,a2)))) (
ai (ah .i64 (a0+1)) (
some (Sum.inl ((a0+1),a1,a2)))))))) (
some (Sum.inr (Sum.inr (a1,a2))))
theorem Xz (F20:jn):NX (TS F20)=u3 (rn F20):=funext fun _=>by kernel_rfl
noncomputable def NY:=rn P20
noncomputable def Ao:aaD:=af (fun x=>NY x.1 x.2.1 x.2.2)
theorem XA:l19_0 (TS P20)=Ao:=congrArg af (Xz P20)
theorem ok19:L.Fn Try.prog 19 27 [(.t 4)] (erase c19):=Fn.ofA aM Try.func19 _ _ (by kernel_rfl)
def Gc:FSh:=⟨⟨[(.slr 0),(.slr 1)],W7⟩,[cG,cG],2,⟨⟨fk,W7⟩,[.bool,cG,cG],[0,1],2⟩,false⟩
noncomputable def q19 (F20:jn)(l19_0:aaD)(a0 a1:List Y2):Option R7:=
cond (!decide ((↑a0.length:Int)=(↑a1.length:Int))) (
some (false,a0,a1)) (
(l19_0 (0,a0,a1)).bind (fun y2=>Sum.elim (fun y3=>(
some (y3.1,y3.2.1,y3.2.2))) (fun y4=>(
some (true,y4.1,y4.2))) y2))
theorem g19 (F20:jn):aO (TS F20) Gc [(.t 4)] c19=u2 (q19 F20 (l19_0 (TS F20))):=funext fun _=>by kernel_rfl
noncomputable def p19:=q19 P20 Ao
noncomputable def tr:sU:=fun x=>p19 x.1 x.2
theorem v19:aO (TS P20) Gc [(.t 4)] c19=tr:=(g19 P20).trans (by rw[XA] <;> rfl)
theorem d19:DC Try.prog 19 Gc tr:=aD v19 (aj t19 ok19 (by kernel_rfl))
noncomputable def TT:List FEnt:=[]
theorem t53:al Try.prog TT:=ak
def NZ:LSh:=⟨[0,1,5],⟨j35,[]⟩,[y19,y7,y7],0,[]⟩
noncomputable def c53:=bU Try.prog [] Try.f53 (.s .n (.s (.s .n (.b (.l NZ rf .n))) .n))
noncomputable def N0 (T:List FEnt):=aG (xs:=rf) NZ (bf T (sb [1,0,1,2,2] c53))
noncomputable def l53_0 (T:List FEnt):=af (N0 T)
noncomputable def N1 (a0:List Int)(a1 a2:Int):Option aai:=
cond (decide (a2 < (↑a0.length:Int))) (
ai (aC a2 a0.length) (
cond (decide ((ix a0 a2)=a1)) (
some (Sum.inr (Sum.inl true))) (
ai (ah .i64 (a2+1)) (
some (Sum.inl (a0,a1,(a2+1))))))) (
some (Sum.inr (Sum.inr ())))
theorem XB:N0 TT=u3 N1:=funext fun _=>by kernel_rfl
noncomputable def XC:=N1
noncomputable def N2:Z8:=af (fun x=>XC x.1 x.2.1 x.2.2)
theorem XE:l53_0 TT=N2:=congrArg af XB
theorem ok53:L.Fn Try.prog 53 18 [(.t 4)] (erase c53):=Fn.ofA aM Try.func53 _ _ (by kernel_rfl)
def Jn:FSh:=⟨⟨UJ,[]⟩,[y19,y7],0,⟨⟨fk,[]⟩,[.bool],[],0⟩,true⟩
noncomputable def q53 (l53_0:Z8)(a0:List Int)(a1:Int):Option Bool:=
(l53_0 (a0,a1,0)).bind (fun y1=>Sum.elim (fun y2=>(
some y2)) (fun y3=>(
some false)) y1)
theorem g53:aO TT Jn [(.t 4)] c53=u2 (q53 (l53_0 TT)):=funext fun _=>by kernel_rfl
noncomputable def p53:=q53 N2
noncomputable def Jo:lC:=fun x=>p53 x.1 x.2
theorem v53:aO TT Jn [(.t 4)] c53=Jo:=g53.trans (by rw[XE] <;> rfl)
theorem d53:DC Try.prog 53 Jn Jo:=aD v53 (aj t53 ok53 (by kernel_rfl))
noncomputable def TU (F51:eW)(F52:nE)(F53:lC):List FEnt:=[⟨51,BC,F51⟩,⟨52,BE,F52⟩,⟨53,Jn,F53⟩]
theorem t30:al Try.prog (TU uQ uS Jo):=(aa d51 (by kernel_rfl) (aa d52 (by kernel_rfl) (aa d53 (by kernel_rfl) ak)))
def N3:LSh:=⟨[9,10,11],⟨[(.ptr 0 0),(.slc 1),(.v y7)],[(0,(.box [(.slr 2),(.slc 3),(.slc 4),(.slc 5)])),(1,(.row 3 y7)),(2,(.rows 22 3 y7)),(3,(.row 32 eV)),(4,(.row 3 y7)),(5,(.row 3 y7))]⟩,[y7,y19,cG,gS,y19,y19],6,[0,2,3,4,5]⟩
def N4:List XSh:=[⟨(.exit 0),[10],⟨⟨[(.slc 6)],[(0,(.box [(.slr 2),(.slc 3),(.slc 4),(.slc 5)])),(2,(.rows 22 3 y7)),(3,(.row 32 eV)),(4,(.row 3 y7)),(5,(.row 3 y7)),(6,(.row 3 y7))]⟩,[cG,gS,y19,y19,y19],[0,2,3,4,5],7⟩⟩]
noncomputable def c30:=bU Try.prog [] Try.f30 (.s .n (.s .n (.s .n (.s .n (.s (.s .n (.b (.l N3 N4 (.s .n (.s (.b (.s .n (.s (.r [.a 2 false y7,.a 3 false y7]) .n))) .n))))) .n)))))
noncomputable def N5 (T:List FEnt):=aG (xs:=N4) N3 (bf T (sb [1,1,1,1,0,1,2,2] c30))
noncomputable def l30_0 (T:List FEnt):=af (N5 T)
noncomputable def N6 (F51:eW)(F52:nE)(F53:lC)(a0:Int)(a1:List Int)(a2:List Y2)(a3:List Y4)(a4 a5:List Int):Option aay:=
cond (decide (a0≤99)) (
(F53 (a5,a0)).bind fun r3=>(
cond r3 (
ai (bM 8 (List.length a1+List.length ([a0]:List Int))) (
ai (ah .i64 (a0+1)) (
some (Sum.inl ((a0+1),(a1++([a0]:List Int)),a2,a3,a4,a5))))) (
ai (ah .i64 (a0+1)) (
some (Sum.inl ((a0+1),a1,a2,a3,a4,a5)))))) (
some (Sum.inr (a2,a3,a4,a5,a1)))
theorem XF (F51:eW)(F52:nE)(F53:lC):N5 (TU F51 F52 F53)=u6 (N6 F51 F52 F53):=funext fun _=>by kernel_rfl
noncomputable def XG:=N6 uQ uS Jo
noncomputable def N7:aao:=af (fun x=>XG x.1 x.2.1 x.2.2.1 x.2.2.2.1 x.2.2.2.2.1 x.2.2.2.2.2)
theorem XH:l30_0 (TU uQ uS Jo)=N7:=congrArg af (XF uQ uS Jo)
theorem ok30:L.Fn Try.prog 30 36 [(.t 6),(.t 7)] (erase c30):=Fn.ofA aM Try.func30 _ _ (by kernel_rfl)
def Jp:FSh:=⟨⟨IL,[]⟩,IJ,0,⟨⟨[(.tup PL)],dm⟩,[y7,y19],[],1⟩,true⟩
noncomputable def q30 (F51:eW)(F52:nE)(F53:lC)(l30_0:aao)(a0:Y2×Int)(a1:List Y1)(a2:Int):Option G9:=
(F51 (a0,a1,a2,0,1)).bind fun r1=>(
cond (!decide (r1=0)) (
some (r1,([]:List Int))) (
(F52 (a0,a1,a2)).bind fun r2=>(
(l30_0 (0,([]:List Int),r2.1,r2.2.1,r2.2.2.1,r2.2.2.2)).bind fun y4=>(
some (0,y4.2.2.2.2)))))
theorem g30 (F51:eW)(F52:nE)(F53:lC):aO (TU F51 F52 F53) Jp [(.t 6),(.t 7)] c30=u3 (q30 F51 F52 F53 (l30_0 (TU F51 F52 F53))):=funext fun _=>by kernel_rfl
noncomputable def p30:=q30 uQ uS Jo N7
noncomputable def TV:gq:=fun x=>p30 x.1 x.2.1 x.2.2
theorem v30:aO (TU uQ uS Jo) Jp [(.t 6),(.t 7)] c30=TV:=(g30 uQ uS Jo).trans (by rw[XH] <;> rfl)
theorem d30:DC Try.prog 30 Jp TV:=aD v30 (aj t30 ok30 (by kernel_rfl))
noncomputable def TW:List FEnt:=[]
theorem t31:al Try.prog TW:=ak
def N8:LSh:=⟨[0,1,5],⟨[(.v bc),(.v bc),(.v y7)],[]⟩,[bc,bc,y7],0,[]⟩
noncomputable def c31:=bU Try.prog [] Try.f31 (.s .n (.s .n (.s (.s .n (.b (.l N8 rf .n))) .n)))
noncomputable def N9 (T:List FEnt):=aG (xs:=rf) N8 (bf T (sb [1,1,0,1,2,2] c31))
noncomputable def l31_0 (T:List FEnt):=af (N9 T)
noncomputable def Oa (a0 a1:List Y1)(a2:Int):Option aaz:=
cond (decide (a2 < (↑a0.length:Int))) (
ai (aC a2 a0.length) (
ai (aC a2 a1.length) (
cond (!((((decide ((ix a0 a2).1=(ix a1 a2).1)&&decide ((ix a0 a2).2.1=(ix a1 a2).2.1))&&decide ((ix a0 a2).2.2.1=(ix a1 a2).2.2.1))&&decide ((ix a0 a2).2.2.2.1=(ix a1 a2).2.2.2.1))&&decide ((ix a0 a2).2.2.2.2=(ix a1 a2).2.2.2.2))) (
some (Sum.inr (Sum.inl false))) (
ai (ah .i64 (a2+1)) (
some (Sum.inl (a0,a1,(a2+1)))))))) (
some (Sum.inr (Sum.inr ())))
theorem XI:N9 TW=u3 Oa:=funext fun _=>by kernel_rfl
noncomputable def XJ:=Oa
noncomputable def Ob:aag:=af (fun x=>XJ x.1 x.2.1 x.2.2)
theorem XK:l31_0 TW=Ob:=congrArg af XI
theorem ok31:L.Fn Try.prog 31 26 [(.t 4)] (erase c31):=Fn.ofA aM Try.func31 _ _ (by kernel_rfl)
def Jq:FSh:=⟨⟨[(.v bc),(.v bc)],[]⟩,[bc,bc],0,⟨⟨fk,[]⟩,[.bool],[],0⟩,true⟩
noncomputable def q31 (l31_0:aag)(a0 a1:List Y1):Option Bool:=
cond (!decide ((↑a0.length:Int)=(↑a1.length:Int))) (
some false) (
(l31_0 (a0,a1,0)).bind (fun y1=>Sum.elim (fun y2=>(
some y2)) (fun y3=>(
some true)) y1))
theorem g31:aO TW Jq [(.t 4)] c31=u2 (q31 (l31_0 TW)):=funext fun _=>by kernel_rfl
noncomputable def p31:=q31 Ob
noncomputable def TX:JK:=fun x=>p31 x.1 x.2
theorem v31:aO TW Jq [(.t 4)] c31=TX:=g31.trans (by rw[XK] <;> rfl)
theorem d31:DC Try.prog 31 Jq TX:=aD v31 (aj t31 ok31 (by kernel_rfl))
noncomputable def T8 (F24:Ha)(F14:cV)(F25:xN)(F26:tt)(F27:tt)(F15:dn)(F28:dn)(F17:eX)(F29:eX)(F19:sU)(F16:gq)(F30:gq)(F20:jn)(F31:JK):List FEnt:=[⟨24,Bj,F24⟩,⟨14,pj,F14⟩,⟨25,F8,F25⟩,⟨26,Bm,F26⟩,⟨27,BB,F27⟩,⟨15,pS,F15⟩,⟨28,Jl,F28⟩,⟨17,xH,F17⟩,⟨29,Jm,F29⟩,⟨19,Gc,F19⟩,⟨16,xD,F16⟩,⟨30,Jp,F30⟩,⟨20,xE,F20⟩,⟨31,Jq,F31⟩]
theorem t8:al Try.prog (T8 B8 P14 TL uw vN P15 TQ jQ TR tr P16 TV P20 TX):=(aa d24 (by kernel_rfl) (aa WP (by kernel_rfl) (aa d25 (by kernel_rfl) (aa d26 (by kernel_rfl) (aa d27 (by kernel_rfl) (aa VH (by kernel_rfl) (aa d28 (by kernel_rfl) (aa d17 (by kernel_rfl) (aa d29 (by kernel_rfl) (aa d19 (by kernel_rfl) (aa d16 (by kernel_rfl) (aa d30 (by kernel_rfl) (aa d20 (by kernel_rfl) (aa d31 (by kernel_rfl) ak))))))))))))))
noncomputable def c8:=bU Try.prog [(4,{ch:=[0,0,0,1,0,0,0],rs:=[3],ord:=[0,1,3,4,2,5,6] })] Try.f8 (.s .n (.s .n (.s .n (.s .n (.s .n (.s .n (.s (.r [.f 4 25 [0,0],.f 4 8 []]) .n)))))))
theorem ok8:L.Fn Try.prog 8 132 [(.t 6)] (erase c8):=Fn.ofA aM Try.func8 _ _ (by kernel_rfl)
def sh8:FSh:=⟨⟨RN,[]⟩,RM,0,⟨⟨fk,[]⟩,[.bool],[],0⟩,true⟩
noncomputable def q8 (F24:Ha)(F14:cV)(F25:xN)(F26 F27:tt)(F15 F28:dn)(F17 F29:eX)(F19:sU)(F16 F30:gq)(F20:jn)(F31:JK)(a0:Y2×Int)(a1:List Y1)(a2:cj):Option Bool:=
(F24 (a0,a1)).bind fun r1=>(
cond r1 (
(F14 ()).bind fun r2=>(
some r2)) (
(F25 (a0,a1)).bind fun r3=>(
(F26 ((r3.2.1,r3.1),r3.2.2)).bind fun r4=>(
(F27 (a0,a1)).bind fun r5=>(
cond (!decide (r4=r5)) (
some false) (
(F15 ((r3.2.1,r3.1),r3.2.2,a2.1,a2.2.1)).bind fun r6=>(
(F28 (a0,a1,a2.1,a2.2.1)).bind fun r7=>(
(F17 ((r3.2.1,r3.1),r3.2.2,a2.1)).bind fun r8=>(
(F29 (a0,a1,a2.1)).bind fun r9=>(
cond (!(((decide (r6.1.1=r7.1.1)&&decide (r6.1.2.1=r7.1.2.1))&&decide (r6.1.2.2.1=r7.1.2.2.1))&&decide (r6.1.2.2.2=r7.1.2.2.2))) (
some false) (
cond (!decide (r6.2=r7.2)) (
some false) (
(F19 (r8.2,r9.2)).bind fun r10=>(
cond (!r10.1) (
some false) (
cond (!decide (r8.1=r9.1)) (
some false) (
(F16 ((r3.2.1,r3.1),r3.2.2,a2.1)).bind fun r11=>(
(F30 (a0,a1,a2.1)).bind fun r12=>(
(F20 (r11.2,r12.2)).bind fun r13=>(
cond r13 (
cond (decide (r11.1=r12.1)) (
(F20 (r3.2.1,a0.1)).bind fun r14=>(
cond r14 (
(F31 (r3.2.2,a1)).bind fun r15=>(
cond r15 (
(F14 ()).bind fun r16=>(
some r16)) (
some false))) (
some false))) (
some false)) (
some false)))))))))))))))))))
theorem g8 (F24:Ha)(F14:cV)(F25:xN)(F26 F27:tt)(F15 F28:dn)(F17 F29:eX)(F19:sU)(F16 F30:gq)(F20:jn)(F31:JK):aO (T8 F24 F14 F25 F26 F27 F15 F28 F17 F29 F19 F16 F30 F20 F31) sh8 [(.t 6)] c8=u3 (q8 F24 F14 F25 F26 F27 F15 F28 F17 F29 F19 F16 F30 F20 F31):=funext fun _=>by kernel_rfl
noncomputable def p8:=q8 B8 P14 TL uw vN P15 TQ jQ TR tr P16 TV P20 TX
noncomputable def P8:JL:=fun x=>p8 x.1 x.2.1 x.2.2
theorem v8:aO (T8 B8 P14 TL uw vN P15 TQ jQ TR tr P16 TV P20 TX) sh8 [(.t 6)] c8=P8:=g8 B8 P14 TL uw vN P15 TQ jQ TR tr P16 TV P20 TX
theorem d8:DC Try.prog 8 sh8 P8:=aD v8 (aj t8 ok8 (by kernel_rfl))
noncomputable def T12 (F24:Ha)(F27:tt):List FEnt:=[⟨24,Bj,F24⟩,⟨27,BB,F27⟩]
theorem t12:al Try.prog (T12 B8 vN):=(aa d24 (by kernel_rfl) (aa d27 (by kernel_rfl) ak))
noncomputable def c12:=bU Try.prog [] Try.f12 .n
theorem ok12:L.Fn Try.prog 12 25 [(.t 6)] (erase c12):=Fn.ofA aM Try.func12 _ _ (by kernel_rfl)
def sP:FSh:=⟨⟨IL,[]⟩,IJ,0,⟨⟨fk,[]⟩,[.bool],[],0⟩,true⟩
noncomputable def q12 (F24:Ha)(F27:tt)(a0:Y2×Int)(a1:List Y1)(a2:Int):Option Bool:=
(F24 (a0,a1)).bind fun r1=>(
cond (!r1) (
(F27 (a0,a1)).bind fun r2=>(
cond (decide (r2=0)) (
cond (decide (0≤a2)) (
some (decide (a2≤9999))) (
some false)) (
some false))) (
some false))
theorem g12 (F24:Ha)(F27:tt):aO (T12 F24 F27) sP [(.t 6)] c12=u3 (q12 F24 F27):=funext fun _=>by kernel_rfl
noncomputable def p12:=q12 B8 vN
noncomputable def P12:dz:=fun x=>p12 x.1 x.2.1 x.2.2
theorem v12:aO (T12 B8 vN) sP [(.t 6)] c12=P12:=g12 B8 vN
theorem d12:DC Try.prog 12 sP P12:=aD v12 (aj t12 ok12 (by kernel_rfl))
noncomputable def T13:List FEnt:=[]
theorem t13:al Try.prog T13:=ak
noncomputable def c13:=bU Try.prog [] Try.f13 .n
theorem ok13:L.Fn Try.prog 13 9 [(.t 2)] (erase c13):=Fn.ofA aM Try.func13 _ _ (by kernel_rfl)
def BF:FSh:=⟨⟨nr,[]⟩,[y7],0,⟨⟨fk,[]⟩,[.bool],[],0⟩,true⟩
noncomputable def q13 (a0:Int):Option Bool:=
cond (decide (0≤a0)) (
some (decide (a0≤99))) (
some false)
theorem g13 (a0:Int):aO T13 BF [(.t 2)] c13 a0=q13 a0:=by kernel_rfl
noncomputable def p13:=q13
noncomputable def P13:lP:=fun x=>p13 x
theorem v13:aO T13 BF [(.t 2)] c13=P13:=funext fun x=>(g13 x)
theorem d13:DC Try.prog 13 BF P13:=aD v13 (aj t13 ok13 (by kernel_rfl))
noncomputable def T3 (F12:dz)(F14:cV)(F13:lP)(F15:dn):List FEnt:=[⟨12,sP,F12⟩,⟨14,pj,F14⟩,⟨13,BF,F13⟩,⟨15,pS,F15⟩]
theorem t3:al Try.prog (T3 P12 P14 P13 P15):=(aa d12 (by kernel_rfl) (aa WP (by kernel_rfl) (aa d13 (by kernel_rfl) (aa VH (by kernel_rfl) ak))))
noncomputable def c3:=bU Try.prog [] Try.f3 .n
theorem ok3:L.Fn Try.prog 3 129 [(.t 6)] (erase c3):=Fn.ofA aM Try.func3 _ _ (by kernel_rfl)
def sh3:FSh:=⟨⟨RN,[]⟩,RM,0,⟨⟨fk,[]⟩,[.bool],[],0⟩,true⟩
noncomputable def q3 (F12:dz)(F14:cV)(F13:lP)(F15:dn)(a0:Y2×Int)(a1:List Y1)(a2:cj):Option Bool:=
(F12 (a0,a1,a2.1)).bind fun r1=>(
cond (!r1) (
(F14 ()).bind fun r2=>(
some r2)) (
(F13 a2.2.1).bind fun r3=>(
cond (!r3) (
(F14 ()).bind fun r4=>(
some r4)) (
cond (decide (a2.2.2 < a2.1)) (
(F14 ()).bind fun r5=>(
some r5)) (
cond (decide (9999 < a2.2.2)) (
(F14 ()).bind fun r6=>(
some r6)) (
(F15 (a0,a1,a2.1,a2.2.1)).bind fun r7=>(
(F15 (a0,a1,a2.2.2,a2.2.1)).bind fun r8=>(
cond (!decide (r7.2=0)) (
some false) (
cond (!decide (r8.2=0)) (
some false) (
cond (decide (r7.1.1=2)) (
ai (ah .i64 (a2.1+a0.2)) (
cond (decide (a2.2.2 < (a2.1+a0.2))) (
cond (!decide (r8.1.1=0)) (
cond (!decide (r8.1.1=1)) (
cond (decide (r8.1.2.2.2=r7.1.2.2.2)) (
(F14 ()).bind fun r9=>(
some r9)) (
some false)) (
some false)) (
some false)) (
cond (!decide (r8.1.1=2)) (
cond (!decide (r8.1.1=0)) (
cond (!decide (r8.1.1=1)) (
cond (decide (r8.1.2.2.2=r7.1.2.2.2)) (
(F14 ()).bind fun r10=>(
some r10)) (
some false)) (
some false)) (
some false)) (
some false)))) (
cond (decide (r7.1.1=3)) (
cond (((decide (r8.1.1=r7.1.1)&&decide (r8.1.2.1=r7.1.2.1))&&decide (r8.1.2.2.1=r7.1.2.2.1))&&decide (r8.1.2.2.2=r7.1.2.2.2)) (
(F14 ()).bind fun r11=>(
some r11)) (
cond (((decide (r8.1.1=5)&&decide (r8.1.2.1=(-1)))&&decide (r8.1.2.2.1=(-1)))&&decide (r8.1.2.2.2=r7.1.2.2.2)) (
(F14 ()).bind fun r12=>(
some r12)) (
some false))) (
cond (decide (r7.1.1=1)) (
cond (decide (r7.1.1=1)) (
cond (((decide (r8.1.1=r7.1.1)&&decide (r8.1.2.1=r7.1.2.1))&&decide (r8.1.2.2.1=r7.1.2.2.1))&&decide (r8.1.2.2.2=r7.1.2.2.2)) (
(F14 ()).bind fun r13=>(
some r13)) (
some false)) (
cond (((decide (r7.1.1=0)&&decide (r7.1.2.1=(-1)))&&decide (r7.1.2.2.1=(-1)))&&decide (r7.1.2.2.2=0)) (
(F14 ()).bind fun r14=>(
some r14)) (
some false))) (
cond (decide (r7.1.1=4)) (
cond (decide (r7.1.1=4)) (
cond (((decide (r8.1.1=r7.1.1)&&decide (r8.1.2.1=r7.1.2.1))&&decide (r8.1.2.2.1=r7.1.2.2.1))&&decide (r8.1.2.2.2=r7.1.2.2.2)) (
(F14 ()).bind fun r15=>(
some r15)) (
some false)) (
cond (((decide (r7.1.1=0)&&decide (r7.1.2.1=(-1)))&&decide (r7.1.2.2.1=(-1)))&&decide (r7.1.2.2.2=0)) (
(F14 ()).bind fun r16=>(
some r16)) (
some false))) (
cond (decide (r7.1.1=5)) (
cond (((decide (r8.1.1=r7.1.1)&&decide (r8.1.2.1=r7.1.2.1))&&decide (r8.1.2.2.1=r7.1.2.2.1))&&decide (r8.1.2.2.2=r7.1.2.2.2)) (
(F14 ()).bind fun r17=>(
some r17)) (
some false)) (
cond (((decide (r7.1.1=0)&&decide (r7.1.2.1=(-1)))&&decide (r7.1.2.2.1=(-1)))&&decide (r7.1.2.2.2=0)) (
(F14 ()).bind fun r18=>(
some r18)) (
some false))))))))))))))))
theorem g3 (F12:dz)(F14:cV)(F13:lP)(F15:dn):aO (T3 F12 F14 F13 F15) sh3 [(.t 6)] c3=u3 (q3 F12 F14 F13 F15):=funext fun _=>by kernel_rfl
noncomputable def p3:=q3 P12 P14 P13 P15
noncomputable def P3:JL:=fun x=>p3 x.1 x.2.1 x.2.2
theorem v3:aO (T3 P12 P14 P13 P15) sh3 [(.t 6)] c3=P3:=g3 P12 P14 P13 P15
theorem d3:DC Try.prog 3 sh3 P3:=aD v3 (aj t3 ok3 (by kernel_rfl))
end Go.Proofs.Ytdkaijofmigmbaa.D
