import Derived.Test.YtdkaijofmigmbaaG6f
import Derived.Test.YtdkaijofmigmbaaProg
set_option linter.unusedVariables false
set_option maxRecDepth 100000
namespace Go.Proofs.Ytdkaijofmigmbaa.D
open Go Go.Proofs Go.Proofs.Ytdkaijofmigmbaa.L
def z20:List Ty:=[y7,y7,.bool,cD]
def z10:List Ty:=[y7,y7,y7,cD,iS,y19,y19]
def z12:List Ty:=[y7,y7,cD,iS,y19,y19]
def z19:List Ty:=[cD,iS,y19,y19]
def Tt:List Ty:=[aY,bc,je]
def j36:List RSh:=[(.v y19),(.v y7),(.v y7)]
def j34:List RSh:=[(.v y7),(.v y7),(.v .bool)]
def j29:List RSh:=[(.slr 0),(.slc 1),(.slc 2),(.slc 3)]
def Tu:List RSh:=[(.st aY),(.v bc),(.st je)]
def yw:List (Nat×OSh):=[(0,(.rows 22 3 y7))]
def GV:List (Nat×OSh):=[(0,(.box [(.slr 1),(.slc 2),(.slc 3),(.slc 4)])),(1,(.rows 22 3 y7)),(2,(.row 32 fj)),(3,(.row 3 y7)),(4,(.row 3 y7))]
def YK:List (Nat×OSh):=[(0,(.rows 22 3 y7)),(1,(.row 32 fj)),(2,(.row 3 y7)),(3,(.row 3 y7))]
def k5:List (Nat×OSh):=[(0,(.boxT aY)),(1,(.box [(.slr 2),(.slc 3),(.slc 4),(.slc 5)])),(2,(.rows 22 3 y7)),(3,(.row 32 fj)),(4,(.row 3 y7)),(5,(.row 3 y7))]
def k1:List (Nat×OSh):=[(0,(.boxT aY)),(1,(.box [.emp,.emp,.emp,.emp])),(2,(.box [(.slr 4),(.slc 5),(.slc 6),(.slc 7)])),(3,(.boxT cW)),(4,(.rows 22 3 y7)),(5,(.row 32 fj)),(6,(.row 3 y7)),(7,(.row 3 y7))]
def k2:List (Nat×OSh):=[(0,(.boxT aY)),(1,(.box [.emp,.emp,.emp,.emp])),(2,(.box [(.slr 3),(.slc 4),(.slc 5),(.slc 6)])),(3,(.rows 22 3 y7)),(4,(.row 32 fj)),(5,(.row 3 y7)),(6,(.row 3 y7))]
def YL:List (Nat×OSh):=[(0,(.rows 22 3 y7)),(1,(.rows 22 3 y7))]
noncomputable def T47:List FEnt:=[]
theorem t47:al Try.prog T47:=aj
noncomputable def c47:=bK Try.prog [] Try.f47 .n
theorem ok47:L.Fn Try.prog 47 20 [(.t 4)] (erase c47):=oA Try.func47
def GW:FSh:=⟨⟨Wr,[]⟩,[y19,y7],0,⟨⟨fE,[]⟩,[.bool],[],0⟩,true⟩
noncomputable def q47 (a0:List Int)(a1:Int):Option Bool:=
cond (decide (0≤a1)) (
cond (decide (a1 < (↑a0.length:Int))) (
ai (aA a1 a0.length) (
some (decide ((ix a0 a1)=(-1))))) (
some false)) (
some false)
theorem g47:aK T47 GW [(.t 4)] c47=u2 q47:=funext fun _=>by kernel_rfl
noncomputable def p47:=q47
noncomputable def uv:l9:=u2 p47
theorem v47:aK T47 GW [(.t 4)] c47=uv:=g47
theorem d47:DC Try.prog 47 GW uv:=dD v47 t47 ok47
noncomputable def Vz (F47:l9):List FEnt:=[⟨47,GW,F47⟩]
theorem t22:al Try.prog (Vz uv):=dK aj d47
def OA:LSh:=⟨[0,1,2,7],⟨[(.v y19),(.v y7),(.v y7),(.v y7)],[]⟩,[y19,y7,y7,y7],0,[]⟩
def OB:List XSh:=[⟨.ret,[6],⟨⟨fE,[]⟩,[.bool],[],0⟩⟩,⟨(.exit 0),[],⟨⟨[],[]⟩,[],[],0⟩⟩]
noncomputable def c22:=bK Try.prog [] Try.f22 (.s .n (.s (.s .n (.b (.l OA OB .n))) .n))
noncomputable def OC (T:List FEnt):=aD (xs:=OB) OA (bd T (sb [1,0,1,2,2] c22))
noncomputable def l22_0 (T:List FEnt):=af (OC T)
noncomputable def ss (F47:l9)(a0:List Int)(a1 a2 a3:Int):Option ((Y2×Int×Int×Int)⊕wm):=
ai (ah .i64 (a1+a2)) (
cond (decide (a3 < (a1+a2))) (
(F47 (a0,a3)).bind fun r1=>(
cond (!r1) (
some (Sum.inr (Sum.inl false))) (
ai (ah .i64 (a3+1)) (
some (Sum.inl (a0,a1,a2,(a3+1))))))) (
some (Sum.inr (Sum.inr ()))))
theorem YM (F47:l9):OC (Vz F47)=u4 (ss F47):=funext fun _=>by kernel_rfl
noncomputable def OD:=ss uv
noncomputable def AW:Y340:=af (u4 OD)
theorem YN:l22_0 (Vz uv)=AW:=congrArg af (YM uv)
theorem ok22:L.Fn Try.prog 22 20 [(.t 6)] (erase c22):=oA Try.func22
def Cu:FSh:=⟨⟨j36,[]⟩,Wq,0,⟨⟨fE,[]⟩,[.bool],[],0⟩,true⟩
noncomputable def q22 (F47:l9)(l22_0:Y340)(a0:List Int)(a1 a2:Int):Option Bool:=
(l22_0 (a0,a1,a2,a1)).bind (fun y2=>Sum.elim (fun y3=>(
some y3)) (fun y4=>(
some true)) y2)
theorem g22 (F47:l9):aK (Vz F47) Cu [(.t 6)] c22=u3 (q22 F47 (l22_0 (Vz F47))):=funext fun _=>by kernel_rfl
noncomputable def p22:=q22 uv AW
noncomputable def P22:eM:=u3 p22
theorem v22:aK (Vz uv) Cu [(.t 6)] c22=P22:=(g22 uv).trans (by rw[YN] <;> rfl)
theorem d22:DC Try.prog 22 Cu P22:=dD v22 t22 ok22
noncomputable def T23 (F47:l9):List FEnt:=[⟨47,GW,F47⟩]
theorem t23:al Try.prog (T23 uv):=dK aj d47
noncomputable def c23:=bK Try.prog [] Try.f23 .n
theorem ok23:L.Fn Try.prog 23 36 [(.t 6)] (erase c23):=oA Try.func23
def GX:FSh:=⟨⟨j36,[]⟩,Wq,0,⟨⟨fE,[]⟩,[.bool],[],0⟩,true⟩
noncomputable def q23 (F47:l9)(a0:List Int)(a1 a2:Int):Option Bool:=
ai (ah .i64 (a1-1)) (
ai (ah .i64 (a1+a2)) (
(F47 (a0,(a1-1))).bind fun r1=>(
cond r1 (
ai (ah .i64 ((a1-1)-1)) (
(F47 (a0,((a1-1)-1))).bind fun r2=>(
cond (!r2) (
some true) (
(F47 (a0,(a1+a2))).bind fun r3=>(
cond r3 (
ai (ah .i64 ((a1+a2)+1)) (
(F47 (a0,((a1+a2)+1))).bind fun r4=>(
some (!r4)))) (
some false)))))) (
(F47 (a0,(a1+a2))).bind fun r5=>(
cond r5 (
ai (ah .i64 ((a1+a2)+1)) (
(F47 (a0,((a1+a2)+1))).bind fun r6=>(
some (!r6)))) (
some false))))))
theorem g23 (F47:l9):aK (T23 F47) GX [(.t 6)] c23=u3 (q23 F47):=funext fun _=>by kernel_rfl
noncomputable def p23:=q23 uv
noncomputable def P23:eM:=u3 p23
theorem v23:aK (T23 uv) GX [(.t 6)] c23=P23:=g23 uv
theorem d23:DC Try.prog 23 GX P23:=dD v23 t23 ok23
noncomputable def C0 (F22:eM)(F23:eM):List FEnt:=[⟨22,Cu,F22⟩,⟨23,GX,F23⟩]
theorem t56:al Try.prog (C0 P22 P23):=dK (dK aj d23) d22
def OE:LSh:=⟨[0,1,7,8,9],⟨[(.slr 0),(.v y7),(.v y7),(.v y7),(.v y7)],yw⟩,[y7,y7,y7,y7,cD],1,[0]⟩
def OF:List XSh:=[⟨.ret,[4,5,6],⟨⟨j34,yw⟩,z20,[0],1⟩⟩,⟨(.exit 4),[0,1,7,8],⟨⟨[(.slr 0),(.v y7),(.v y7),(.v y7)],yw⟩,[y7,y7,y7,cD],[0],1⟩⟩]
def OG:LSh:=⟨[0,1,7,8],⟨[(.slr 0),(.v y7),(.v y7),(.v y7)],yw⟩,[y7,y7,y7,cD],1,[0]⟩
def OH:List XSh:=[⟨.ret,[4,5,6],⟨⟨j34,yw⟩,z20,[0],1⟩⟩,⟨(.exit 2),[0,1,7],⟨⟨[(.slr 0),(.v y7),(.v y7)],yw⟩,[y7,y7,cD],[0],1⟩⟩]
def OI:LSh:=⟨[0,1,7],⟨[(.slr 0),(.v y7),(.v y7)],yw⟩,[y7,y7,cD],1,[0]⟩
def OJ:List XSh:=[⟨.ret,[4,5,6],⟨⟨j34,yw⟩,z20,[0],1⟩⟩,⟨(.exit 0),[],⟨⟨[],yw⟩,[cD],[0],1⟩⟩]
noncomputable def VA:=bK Try.prog [] Try.f56 (.s .n (.s (.s .n (.b (.l OI OJ (.s .n (.s (.b (.s .n (.b (.l OG OH (.s .n (.s (.b (.s .n (.b (.l OE OF .n)))) .n)))))) .n))))) .n))
noncomputable def OK (T:List FEnt):=aD (xs:=OF) OE (bd T (sb [1,0,1,2,2,1,0,2,1,2,2,1,0,2,1,2,2] VA))
noncomputable def l56_2 (T:List FEnt):=af (OK T)
noncomputable def su (F22 F23:eM)(a0 a1 a2 a3:Int)(a4:List Y2):Option ((Int×Int×Int×Int×Y9)⊕Y384):=
ai (ah .i64 (a3+a0)) (
ai (aA a2 a4.length) (
cond (decide ((a3+a0)≤(↑(List.length (ix a4 a2)):Int))) (
ai (aA a2 a4.length) (
(F22 ((ix a4 a2),a3,a0)).bind fun r1=>(
cond r1 (
cond (decide (a1=1)) (
some (Sum.inr (Sum.inl (a2,a3,true,a4)))) (
ai (aA a2 a4.length) (
(F23 ((ix a4 a2),a3,a0)).bind fun r2=>(
cond (!r2) (
some (Sum.inr (Sum.inl (a2,a3,true,a4)))) (
ai (ah .i64 (a3+1)) (
some (Sum.inl (a0,a1,a2,(a3+1),a4)))))))) (
ai (ah .i64 (a3+1)) (
some (Sum.inl (a0,a1,a2,(a3+1),a4))))))) (
some (Sum.inr (Sum.inr (a0,a1,a2,a4))))))
theorem YO (F22 F23:eM):OK (C0 F22 F23)=u5 (su F22 F23):=funext fun _=>by kernel_rfl
noncomputable def OL:=su P22 P23
noncomputable def L56_2:Y395:=af (u5 OL)
theorem YQ:l56_2 (C0 P22 P23)=L56_2:=congrArg af (YO P22 P23)
noncomputable def OM (T:List FEnt):=aD (xs:=OH) OG (bd T (sb [1,0,1,2,2,1,0,2,1,2,2] VA))
noncomputable def l56_1 (T:List FEnt):=af (OM T)
noncomputable def q56_1 (F22 F23:eM)(l56_2:Y395)(a0 a1 a2:Int)(a3:List Y2):Option (Y345⊕Y385):=
cond (decide (a2 < (↑a3.length:Int))) (
(l56_2 (a0,a1,a2,0,a3)).bind (fun y3=>Sum.elim (fun y4=>(
some (Sum.inr (Sum.inl (y4.1,y4.2.1,y4.2.2.1,y4.2.2.2))))) (fun y5=>(
ai (ah .i64 (y5.2.2.1+1)) (
some (Sum.inl (y5.1,y5.2.1,(y5.2.2.1+1),y5.2.2.2))))) y3)) (
some (Sum.inr (Sum.inr (a0,a1,a3))))
theorem YR (F22 F23:eM):OM (C0 F22 F23)=u4 (q56_1 F22 F23 (l56_2 (C0 F22 F23))):=funext fun _=>by kernel_rfl
noncomputable def ON:=q56_1 P22 P23 L56_2
noncomputable def AX:Y396:=af (u4 ON)
theorem YS:l56_1 (C0 P22 P23)=AX:=congrArg af ((YR P22 P23).trans (by rw[YQ] <;> rfl))
noncomputable def OO (T:List FEnt):=aD (xs:=OJ) OI (bd T (sb [1,0,1,2,2] VA))
noncomputable def l56_0 (T:List FEnt):=af (OO T)
noncomputable def AY (F22 F23:eM)(l56_1:Y396)(a0 a1:Int)(a2:List Y2):Option (Y346⊕Y386):=
cond (decide (a1 < 2)) (
(l56_1 (a0,a1,0,a2)).bind (fun y6=>Sum.elim (fun y7=>(
some (Sum.inr (Sum.inl (y7.1,y7.2.1,y7.2.2.1,y7.2.2.2))))) (fun y8=>(
ai (ah .i64 (y8.2.1+1)) (
some (Sum.inl (y8.1,(y8.2.1+1),y8.2.2))))) y6)) (
some (Sum.inr (Sum.inr a2)))
theorem YT (F22 F23:eM):OO (C0 F22 F23)=u3 (AY F22 F23 (l56_1 (C0 F22 F23))):=funext fun _=>by kernel_rfl
noncomputable def v9:=AY P22 P23 AX
noncomputable def AZ:Y397:=af (u3 v9)
theorem YU:l56_0 (C0 P22 P23)=AZ:=congrArg af ((YT P22 P23).trans (by rw[YS] <;> rfl))
theorem ok56:L.Fn Try.prog 56 54 [(.t 4),(.t 5),(.t 6)] (erase VA):=oA Try.func56
def Cv:FSh:=⟨⟨[(.slr 0),(.v y7)],yw⟩,[y7,cD],1,⟨⟨[(.tup j34)],yw⟩,z20,[0],1⟩,false⟩
noncomputable def q56 (F22 F23:eM)(l56_0:Y397)(a0:Int)(a1:List Y2):Option G7:=
(l56_0 (a0,0,a1)).bind (fun y9=>Sum.elim (fun y10=>(
some (y10.1,y10.2.1,y10.2.2.1,y10.2.2.2))) (fun y11=>(
some (0,0,false,y11))) y9)
theorem g56 (F22 F23:eM):aK (C0 F22 F23) Cv [(.t 4),(.t 5),(.t 6)] VA=u2 (q56 F22 F23 (l56_0 (C0 F22 F23))):=funext fun _=>by kernel_rfl
noncomputable def p56:=q56 P22 P23 AZ
noncomputable def P56:kz:=u2 p56
theorem v56:aK (C0 P22 P23) Cv [(.t 4),(.t 5),(.t 6)] VA=P56:=(g56 P22 P23).trans (by rw[YU] <;> rfl)
theorem d56:DC Try.prog 56 Cv P56:=dD v56 t56 ok56
noncomputable def l7:List FEnt:=[]
theorem YV:al Try.prog l7:=aj
def A0:LSh:=⟨[1,2,3,6,7],⟨[(.v y7),(.v y7),(.ptr 0 0),(.v y7),(.v y7)],GV⟩,[y7,y7,y7,y7,cD,iS,y19,y19],5,[0,1,2,3,4]⟩
def A1:List XSh:=[⟨(.exit 2),[1,2,3,6],⟨⟨[(.v y7),(.v y7),(.ptr 0 0),(.v y7)],GV⟩,z10,[0,1,2,3,4],5⟩⟩]
def A2:LSh:=⟨[1,2,3,6],⟨[(.v y7),(.v y7),(.ptr 0 0),(.v y7)],GV⟩,z10,5,[0,1,2,3,4]⟩
def A3:List XSh:=[⟨(.exit 0),[1,2,3],⟨⟨[(.v y7),(.v y7),(.ptr 0 0)],GV⟩,z12,[0,1,2,3,4],5⟩⟩]
noncomputable def wa:=bK Try.prog [] Try.f73 (.s .n (.s (.s .n (.b (.l A2 A3 (.s .n (.s (.b (.s .n (.b (.l A0 A1 .n)))) .n))))) .n))
noncomputable def A4 (T:List FEnt):=aD (xs:=A1) A0 (bd T (sb [1,0,1,2,2,1,0,2,1,2,2] wa))
noncomputable def l73v1_1 (T:List FEnt):=af (A4 T)
noncomputable def kh (a0 a1 a2 a3:Int)(a4:List Y2)(a5:List Y4)(a6 a7:List Int):Option Y387:=
ai (aA a2 a4.length) (
cond (decide (a3 < (↑(List.length (ix a4 a2)):Int))) (
ai (aA a2 a4.length) (
ai (aA a3 (List.length (ix a4 a2))) (
cond (decide ((ix (ix a4 a2) a3)=a0)) (
ai (aA a2 a4.length) (
ai (aA a3 (List.length (ix a4 a2))) (
ai (ah .i64 (a3+1)) (
some (Sum.inl (a0,a1,a2,(a3+1),(List.set a4 a2.toNat (List.set (ix a4 a2) a3.toNat (-1))),a5,a6,a7)))))) (
ai (ah .i64 (a3+1)) (
some (Sum.inl (a0,a1,a2,(a3+1),a4,a5,a6,a7))))))) (
some (Sum.inr (a0,a1,a2,a4,a5,a6,a7))))
theorem Ki:A4 l7=u8 kh:=funext fun _=>by kernel_rfl
noncomputable def A5:=kh
noncomputable def l8:KV:=af (u8 A5)
theorem Kj:l73v1_1 l7=l8:=congrArg af Ki
noncomputable def A6 (T:List FEnt):=aD (xs:=A3) A2 (bd T (sb [1,0,1,2,2] wa))
noncomputable def l73v1_0 (T:List FEnt):=af (A6 T)
noncomputable def kj (l73v1_1:KV)(a0 a1 a2:Int)(a3:List Y2)(a4:List Y4)(a5 a6:List Int):Option (KT⊕TH):=
cond (decide (a2 < (↑a3.length:Int))) (
(l73v1_1 (a0,a1,a2,0,a3,a4,a5,a6)).bind fun y1=>(
ai (ah .i64 (y1.2.2.1+1)) (
some (Sum.inl (y1.1,y1.2.1,(y1.2.2.1+1),y1.2.2.2.1,y1.2.2.2.2.1,y1.2.2.2.2.2.1,y1.2.2.2.2.2.2))))) (
some (Sum.inr (a0,a1,a3,a4,a5,a6)))
theorem g73v1_0:A6 l7=u7 (kj (l73v1_1 l7)):=funext fun _=>by kernel_rfl
noncomputable def A7:=kj l8
noncomputable def oP:Y373:=af (u7 A7)
theorem Kk:l73v1_0 l7=oP:=congrArg af (g73v1_0.trans (by rw[Kj] <;> rfl))
theorem Tv:L.Fn Try.prog 73 54 [] (erase wa):=oA Try.func73
def qe:FSh:=⟨⟨[(.agg j29),(.v y7),(.v y7)],YK⟩,z12,4,⟨⟨pX,YK⟩,z19,[0,1,2,3],4⟩,false⟩
noncomputable def A8 (l73v1_0:Y373)(a0 a1:Int)(a2:List Y2)(a3:List Y4)(a4 a5:List Int):Option yE:=
(l73v1_0 (a0,a1,0,a2,a3,a4,a5)).bind fun y2=>(
ai (aA y2.1 y2.2.2.2.1.length) (
ai (aA y2.1 y2.2.2.2.1.length) (
some (y2.2.2.1,(List.set y2.2.2.2.1 y2.1.toNat (y2.2.1,((-1),((-1),(ix y2.2.2.2.1 y2.1).2.2.2)))),y2.2.2.2.2.1,y2.2.2.2.2.2))))
theorem g73v1:aK l7 qe [] wa=u6 (A8 (l73v1_0 l7)):=funext fun _=>by kernel_rfl
noncomputable def YX:=A8 oP
noncomputable def cp:np:=u6 YX
theorem YY:aK l7 qe [] wa=cp:=g73v1.trans (by rw[Kk] <;> rfl)
theorem OP:DC Try.prog 73 qe cp:=dD YY YV Tv
noncomputable def sw (F73v1:np):List FEnt:=[⟨73,qe,F73v1⟩]
theorem YZ:al Try.prog (sw cp):=dK aj OP
def A9:LSh:=⟨[2,3,4,6],⟨[(.v y7),(.ptr 0 0),(.ptr 1 0),(.v y7)],k5⟩,[y7,y7,aY,cD,iS,y19,y19],6,[0,1,2,3,4,5]⟩
def Ba:List XSh:=[⟨(.exit 0),[],⟨⟨[],k5⟩,[aY,cD,iS,y19,y19],[0,1,2,3,4,5],6⟩⟩]
noncomputable def Bb:=bK Try.prog [] Try.f72 (.s .n (.s .n (.b (.l A9 Ba .n))))
noncomputable def Bc (T:List FEnt):=aD (xs:=Ba) A9 (bd T (sb [1,1,2,2] Bb))
noncomputable def l72v1_0 (T:List FEnt):=af (Bc T)
noncomputable def kl (F73v1:np)(a0 a1:Int)(a2:Y2×Int)(a3:List Y2)(a4:List Y4)(a5 a6:List Int):Option ((Int×Int×dE×Y9×eZ×Y2×Y2)⊕Y350):=
cond (decide (a1 < (↑a4.length:Int))) (
ai (aA a1 a4.length) (
cond (decide ((ix a4 a1).1=2)) (
ai (aA a1 a5.length) (
ai (ah .i64 ((ix a5 a1)+a2.2)) (
cond (decide (((ix a5 a1)+a2.2)≤a0)) (
(F73v1 (a1,4,a3,a4,a5,a6)).bind fun r1=>(
ai (ah .i64 (a1+1)) (
some (Sum.inl (a0,(a1+1),a2,r1.1,r1.2.1,r1.2.2.1,r1.2.2.2))))) (
ai (ah .i64 (a1+1)) (
some (Sum.inl (a0,(a1+1),a2,a3,a4,a5,a6))))))) (
ai (ah .i64 (a1+1)) (
some (Sum.inl (a0,(a1+1),a2,a3,a4,a5,a6)))))) (
some (Sum.inr (a2,a3,a4,a5,a6)))
theorem Kl (F73v1:np):Bc (sw F73v1)=u7 (kl F73v1):=funext fun _=>by kernel_rfl
noncomputable def Bd:=kl cp
noncomputable def oQ:Y375:=af (u7 Bd)
theorem Km:l72v1_0 (sw cp)=oQ:=congrArg af (Kl cp)
theorem Tw:L.Fn Try.prog 72 36 [] (erase Bb):=oA Try.func72
def tW:FSh:=⟨⟨[(.st aY),(.agg j29),(.v y7)],YK⟩,[aY,y7,cD,iS,y19,y19],4,⟨⟨pX,YK⟩,z19,[0,1,2,3],4⟩,false⟩
noncomputable def Be (F73v1:np)(l72v1_0:Y375)(a0:Y2×Int)(a1:Int)(a2:List Y2)(a3:List Y4)(a4 a5:List Int):Option yE:=
(l72v1_0 (a1,0,a0,a2,a3,a4,a5)).bind fun y2=>(
some (y2.2.1,y2.2.2.1,y2.2.2.2.1,y2.2.2.2.2))
theorem Y0 (F73v1:np):aK (sw F73v1) tW [] Bb=u6 (Be F73v1 (l72v1_0 (sw F73v1))):=funext fun _=>by kernel_rfl
noncomputable def Y6:=Be cp oQ
noncomputable def dV:wo:=u6 Y6
theorem Y7:aK (sw cp) tW [] Bb=dV:=(Y0 cp).trans (by rw[Km] <;> rfl)
theorem Za:DC Try.prog 72 tW dV:=dD Y7 YZ Tw
noncomputable def Kn (F70:wn)(F71:nl)(F72v1:wo)(F56:kz)(F73v1:np):List FEnt:=[⟨70,Kf,F70⟩,⟨71,Kh,F71⟩,⟨72,tW,F72v1⟩,⟨56,Cv,F56⟩,⟨73,qe,F73v1⟩]
theorem t52:al Try.prog (Kn tV qO dV P56 cp):=dK (dK (dK (dK (dK aj OP) d56) Za) d71) d70
def OQ:LSh:=⟨[2,3,6,7,8,9,10,12,13,15],⟨[(.v y7),(.ptr 0 0),(.ptr 1 0),(.ptr 2 0),(.v bc),(.v y7),(.ptr 3 0),(.v y7),(.v y7),(.v y7)],k1⟩,[y7,bc,y7,y7,y7,y7,aY,cW,cD,iS,y19,y19],8,[0,1,2,3,4,5,6,7]⟩
def OR:List XSh:=[⟨(.exit 3),[2,3,6,7,8,9,10,12,13],⟨⟨[(.v y7),(.ptr 0 0),(.ptr 1 0),(.ptr 2 0),(.v bc),(.v y7),(.ptr 3 0),(.v y7),(.v y7)],k1⟩,[y7,bc,y7,y7,y7,aY,cW,cD,iS,y19,y19],[0,1,2,3,4,5,6,7],8⟩⟩]
def OS:LSh:=⟨[2,3,6,7,8,9],⟨[(.v y7),(.ptr 0 0),(.ptr 1 0),(.ptr 2 0),(.v bc),(.v y7)],k2⟩,[y7,bc,y7,aY,cD,iS,y19,y19],7,[0,1,2,3,4,5]⟩
def OT:List XSh:=[⟨(.exit 0),[2,3,6,7],⟨⟨[(.v y7),(.ptr 0 0),(.ptr 1 0),(.ptr 2 0)],k2⟩,[y7,aY,cD,iS,y19,y19],[0,1,2,3,4,5],7⟩⟩]
noncomputable def Zb:=bK Try.prog [] Try.f52 (.s .n (.s .n (.s .n (.s (.s .n (.b (.l OS OT (.s .n (.s (.b (.s .n (.s .n (.s .n (.s .n (.s .n (.b (.s .n (.s (.s .n (.s .n (.s .n (.s (.s .n (.b (.l OQ OR .n))) .n)))) (.s .n (.s (.s .n (.s .n (.r [.a 4 false y7,.a 5 false y7]))) .n))))))))))) .n))))) .n))))
noncomputable def OU (T:List FEnt):=aD (xs:=OR) OQ (bd T (sb [1,1,1,0,1,2,2,1,0,2,1,1,1,1,1,2,1,0,1,1,1,0,1,2,2] Zb))
noncomputable def l52_1 (T:List FEnt):=af (OU T)
noncomputable def sx (F70:wn)(F71:nl)(F72v1:wo)(F56:kz)(F73v1:np)(a0:Int)(a1:List Y1)(a2 a3 a4 a5:Int)(a6:Y2×Int)(a7:Y1)(a8:List Y2)(a9:List Y4)(a10 a11:List Int):Option ((Int×Y8×Int×Int×Int×Int×dE×Y1×Y9×eZ×Y2×Y2)⊕Y351):=
ai (ah .i64 (a4+a7.2.2.2.2)) (
cond (decide (a5 < (a4+a7.2.2.2.2))) (
ai (aA a3 a8.length) (
ai (aA a5 (List.length (ix a8 a3))) (
ai (ah .i64 (a5+1)) (
some (Sum.inl (a0,a1,a2,a3,a4,(a5+1),a6,a7,(List.set a8 a3.toNat (List.set (ix a8 a3) a5.toNat a7.2.2.2.1)),a9,a10,a11)))))) (
some (Sum.inr (a0,a1,a2,a3,a4,a6,a7,a8,a9,a10,a11))))
theorem Zc (F70:wn)(F71:nl)(F72v1:wo)(F56:kz)(F73v1:np):OU (Kn F70 F71 F72v1 F56 F73v1)=u12 (sx F70 F71 F72v1 F56 F73v1):=funext fun _=>by kernel_rfl
noncomputable def OV:=sx tV qO dV P56 cp
noncomputable def sy:Y377:=af (u12 OV)
theorem Zd:l52_1 (Kn tV qO dV P56 cp)=sy:=congrArg af (Zc tV qO dV P56 cp)
noncomputable def OW (T:List FEnt):=aD (xs:=OT) OS (bd T (sb [1,1,1,0,1,2,2] Zb))
noncomputable def l52_0 (T:List FEnt):=af (OW T)
noncomputable def nM (F70:wn)(F71:nl)(F72v1:wo)(F56:kz)(F73v1:np)(l52_1:Y377)(a0:Int)(a1:List Y1)(a2:Int)(a3:Y2×Int)(a4:List Y2)(a5:List Y4)(a6 a7:List Int):Option ((Int×Y8×Int×dE×Y9×eZ×Y2×Y2)⊕Y352):=
cond (decide (a2 < (↑a1.length:Int))) (
ai (aA a2 a1.length) (
cond (decide (a0 < (ix a1 a2).2.1)) (
some (Sum.inr (a0,a3,a4,a5,a6,a7))) (
(F72v1 (a3,(ix a1 a2).2.1,a4,a5,a6,a7)).bind fun r3=>(
ai (aA ((ix a1 a2).2.2.2.1) r3.2.1.length) (
cond (decide ((ix a1 a2).2.2.1=1)) (
cond (!decide ((ix r3.2.1 ((ix a1 a2).2.2.2.1)).1=0)) (
ai (ah .i64 (a2+1)) (
some (Sum.inl (a0,a1,(a2+1),a3,r3.1,r3.2.1,r3.2.2.1,r3.2.2.2)))) (
(F56 ((ix a1 a2).2.2.2.2,r3.1)).bind fun r4=>(
cond (!r4.2.2.1) (
ai (aA ((ix a1 a2).2.2.2.1) r3.2.1.length) (
ai (ah .i64 (a2+1)) (
some (Sum.inl (a0,a1,(a2+1),a3,r4.2.2.2,(List.set r3.2.1 (Int.toNat ((ix a1 a2).2.2.2.1)) (1,((-1),((-1),(ix a1 a2).2.2.2.2)))),r3.2.2.1,r3.2.2.2))))) (
(l52_1 (a0,a1,a2,r4.1,r4.2.1,r4.2.1,a3,(ix a1 a2),r4.2.2.2,r3.2.1,r3.2.2.1,r3.2.2.2)).bind fun y5=>(
ai (aA y5.2.2.2.2.2.2.1.2.2.2.1 y5.2.2.2.2.2.2.2.2.1.length) (
ai (aA y5.2.2.2.2.2.2.1.2.2.2.1 y5.2.2.2.2.2.2.2.2.2.1.length) (
ai (ah .i64 (y5.2.2.1+1)) (
some (Sum.inl (y5.1,y5.2.1,(y5.2.2.1+1),y5.2.2.2.2.2.1,y5.2.2.2.2.2.2.2.1,(List.set y5.2.2.2.2.2.2.2.2.1 y5.2.2.2.2.2.2.1.2.2.2.1.toNat (2,(y5.2.2.2.1,(y5.2.2.2.2.1,y5.2.2.2.2.2.2.1.2.2.2.2)))),(List.set y5.2.2.2.2.2.2.2.2.2.1 y5.2.2.2.2.2.2.1.2.2.2.1.toNat y5.2.2.2.2.2.2.1.2.1),y5.2.2.2.2.2.2.2.2.2.2)))))))))) (
cond (decide ((ix a1 a2).2.2.1=2)) (
cond (decide ((ix r3.2.1 ((ix a1 a2).2.2.2.1)).1=2)) (
ai (aA ((ix a1 a2).2.2.2.1) r3.2.1.length) (
ai (ah .i64 (a2+1)) (
some (Sum.inl (a0,a1,(a2+1),a3,r3.1,(List.set r3.2.1 (Int.toNat ((ix a1 a2).2.2.2.1)) (3,(ix r3.2.1 ((ix a1 a2).2.2.2.1)).2)),r3.2.2.1,r3.2.2.2))))) (
ai (bC 8 (List.length r3.2.2.2+List.length ([(ix a1 a2).2.2.2.1]:List Int))) (
ai (ah .i64 (a2+1)) (
some (Sum.inl (a0,a1,(a2+1),a3,r3.1,r3.2.1,r3.2.2.1,(r3.2.2.2++([(ix a1 a2).2.2.2.1]:List Int)))))))) (
cond (decide ((ix a1 a2).2.2.1=3)) (
cond (decide ((ix r3.2.1 ((ix a1 a2).2.2.2.1)).1=2)) (
(F73v1 ((ix a1 a2).2.2.2.1,5,r3.1,r3.2.1,r3.2.2.1,r3.2.2.2)).bind fun r6=>(
ai (ah .i64 (a2+1)) (
some (Sum.inl (a0,a1,(a2+1),a3,r6.1,r6.2.1,r6.2.2.1,r6.2.2.2))))) (
cond (decide ((ix r3.2.1 ((ix a1 a2).2.2.2.1)).1=3)) (
(F73v1 ((ix a1 a2).2.2.2.1,5,r3.1,r3.2.1,r3.2.2.1,r3.2.2.2)).bind fun r7=>(
ai (ah .i64 (a2+1)) (
some (Sum.inl (a0,a1,(a2+1),a3,r7.1,r7.2.1,r7.2.2.1,r7.2.2.2))))) (
ai (ah .i64 (a2+1)) (
some (Sum.inl (a0,a1,(a2+1),a3,r3.1,r3.2.1,r3.2.2.1,r3.2.2.2)))))) (
ai (ah .i64 (a2+1)) (
some (Sum.inl (a0,a1,(a2+1),a3,r3.1,r3.2.1,r3.2.2.1,r3.2.2.2))))))))))) (
some (Sum.inr (a0,a3,a4,a5,a6,a7)))
theorem Ze (F70:wn)(F71:nl)(F72v1:wo)(F56:kz)(F73v1:np):OW (Kn F70 F71 F72v1 F56 F73v1)=u8 (nM F70 F71 F72v1 F56 F73v1 (l52_1 (Kn F70 F71 F72v1 F56 F73v1))):=funext fun _=>by kernel_rfl
noncomputable def p52_0:=nM tV qO dV P56 cp sy
noncomputable def L52_0:Y378:=af (u8 p52_0)
theorem Zf:l52_0 (Kn tV qO dV P56 cp)=L52_0:=congrArg af ((Ze tV qO dV P56 cp).trans (by rw[Zd] <;> rfl))
theorem ok52:L.Fn Try.prog 52 143 [(.cell 6 true 4)] (erase Zb):=oA Try.func52
def tX:FSh:=⟨⟨JV,[]⟩,JS,0,⟨⟨[(.agg j29)],YK⟩,z19,[],4⟩,false⟩
noncomputable def q52 (F70:wn)(F71:nl)(F72v1:wo)(F56:kz)(F73v1:np)(l52_0:Y378)(a0:Y2×Int)(a1:List Y1)(a2:Int):Option yE:=
(F70 a0).bind fun r1=>(
(F71 a1).bind fun r2=>(
(l52_0 (a2,r2,0,a0,r1.1,r1.2.1,r1.2.2,([]:List Int))).bind fun y8=>(
(F72v1 (y8.2.1,y8.1,y8.2.2.1,y8.2.2.2.1,y8.2.2.2.2.1,y8.2.2.2.2.2)).bind fun r9=>(
some (r9.1,r9.2.1,r9.2.2.1,r9.2.2.2)))))
theorem g52 (F70:wn)(F71:nl)(F72v1:wo)(F56:kz)(F73v1:np):aK (Kn F70 F71 F72v1 F56 F73v1) tX [(.cell 6 true 4)] Zb=u3 (q52 F70 F71 F72v1 F56 F73v1 (l52_0 (Kn F70 F71 F72v1 F56 F73v1))):=funext fun _=>by kernel_rfl
noncomputable def p52:=q52 tV qO dV P56 cp L52_0
noncomputable def P52:eN:=u3 p52
theorem v52:aK (Kn tV qO dV P56 cp) tX [(.cell 6 true 4)] Zb=P52:=(g52 tV qO dV P56 cp).trans (by rw[Zf] <;> rfl)
theorem VB:DC Try.prog 52 tX P52:=dD v52 t52 ok52
noncomputable def T28 (F51:ca)(F52:eN):List FEnt:=[⟨51,tU,F51⟩,⟨52,tX,F52⟩]
theorem t28:al Try.prog (T28 P51 P52):=dK (dK aj VB) Vx
noncomputable def c28:=bK Try.prog [] Try.f28 .n
theorem ok28:L.Fn Try.prog 28 28 [(.cell 8 true 4),(.t 9)] (erase c28):=oA Try.func28
def Ko:FSh:=⟨⟨Vm,[]⟩,Vl,0,⟨⟨[(.tup [(.st fj),(.v y7)])],[]⟩,[fj,y7],[],0⟩,true⟩
noncomputable def q28 (F51:ca)(F52:eN)(a0:Y2×Int)(a1:List Y1)(a2 a3:Int):Option TE:=
(F51 (a0,a1,a2,a3,1)).bind fun r1=>(
cond (!decide (r1=0)) (
some ((0,(0,(0,0))),r1)) (
(F52 (a0,a1,a2)).bind fun r2=>(
ai (aA a3 r2.2.1.length) (
some ((ix r2.2.1 a3),0)))))
theorem g28 (F51:ca)(F52:eN):aK (T28 F51 F52) Ko [(.cell 8 true 4),(.t 9)] c28=u4 (q28 F51 F52):=funext fun _=>by kernel_rfl
noncomputable def p28:=q28 P51 P52
noncomputable def VC:dp:=u4 p28
theorem v28:aK (T28 P51 P52) Ko [(.cell 8 true 4),(.t 9)] c28=VC:=g28 P51 P52
theorem d28:DC Try.prog 28 Ko VC:=dD v28 t28 ok28
noncomputable def T17 (F42:ca)(F42v1:gE):List FEnt:=[⟨42,tR,F42⟩,⟨42,iP,F42v1⟩]
theorem t17:al Try.prog (T17 ja P42v1):=dK (dK aj rT) Vp
noncomputable def c17:=bK Try.prog [] Try.f17 .n
theorem ok17:L.Fn Try.prog 17 24 [(.t 6),(.t 7)] (erase c17):=oA Try.func17
def yx:FSh:=⟨⟨JV,[]⟩,JS,0,⟨⟨[(.tup [(.slr 0),(.v y7)])],yw⟩,[y7,cD],[],1⟩,false⟩
noncomputable def q17 (F42:ca)(F42v1:gE)(a0:Y2×Int)(a1:List Y1)(a2:Int):Option TJ:=
Id (F42 (a0,a1,a2,0,1)) (fun r1=>(
cond (!decide (r1=0)) (
some (r1,([]:List Y2))) (
none))) (
(F42v1 (a0,a1,a2,0,1)).bind fun r2=>(
cond (!decide (r2.1=0)) (
some (r2.1,([]:List Y2))) (
some (0,r2.2.2.2.1))))
theorem g17 (F42:ca)(F42v1:gE):aK (T17 F42 F42v1) yx [(.t 6),(.t 7)] c17=u3 (q17 F42 F42v1):=funext fun _=>by kernel_rfl
noncomputable def p17:=q17 ja P42v1
noncomputable def ml:fo:=u3 p17
theorem v17:aK (T17 ja P42v1) yx [(.t 6),(.t 7)] c17=ml:=g17 ja P42v1
theorem d17:DC Try.prog 17 yx ml:=dD v17 t17 ok17
noncomputable def T29 (F51:ca)(F52:eN):List FEnt:=[⟨51,tU,F51⟩,⟨52,tX,F52⟩]
theorem t29:al Try.prog (T29 P51 P52):=dK (dK aj VB) Vx
noncomputable def c29:=bK Try.prog [] Try.f29 .n
theorem ok29:L.Fn Try.prog 29 21 [(.t 6),(.t 7)] (erase c29):=oA Try.func29
def Kp:FSh:=⟨⟨JV,[]⟩,JS,0,⟨⟨[(.tup [(.slr 0),(.v y7)])],yw⟩,[y7,cD],[],1⟩,false⟩
noncomputable def q29 (F51:ca)(F52:eN)(a0:Y2×Int)(a1:List Y1)(a2:Int):Option TJ:=
(F51 (a0,a1,a2,0,1)).bind fun r1=>(
cond (!decide (r1=0)) (
some (r1,([]:List Y2))) (
(F52 (a0,a1,a2)).bind fun r2=>(
some (0,r2.1))))
theorem g29 (F51:ca)(F52:eN):aK (T29 F51 F52) Kp [(.t 6),(.t 7)] c29=u3 (q29 F51 F52):=funext fun _=>by kernel_rfl
noncomputable def p29:=q29 P51 P52
noncomputable def VD:fo:=u3 p29
theorem v29:aK (T29 P51 P52) Kp [(.t 6),(.t 7)] c29=VD:=g29 P51 P52
theorem d29:DC Try.prog 29 Kp VD:=dD v29 t29 ok29
noncomputable def VE (F20:jF):List FEnt:=[⟨20,yv,F20⟩]
theorem t19:al Try.prog (VE P20):=dK aj d20
def OX:LSh:=⟨[0,1,5],⟨[(.slr 0),(.slr 1),(.v y7)],YL⟩,[y7,cD,cD],2,[0,1]⟩
def OY:List XSh:=[⟨.ret,[4],⟨⟨fE,YL⟩,[.bool,cD,cD],[0,1],2⟩⟩,⟨(.exit 0),[],⟨⟨[],YL⟩,[cD,cD],[0,1],2⟩⟩]
noncomputable def c19:=bK Try.prog [] Try.f19 (.s .n (.s .n (.s (.s .n (.b (.l OX OY .n))) .n)))
noncomputable def OZ (T:List FEnt):=aD (xs:=OY) OX (bd T (sb [1,1,0,1,2,2] c19))
noncomputable def l19_0 (T:List FEnt):=af (OZ T)
noncomputable def O0 (F20:jF)(a0:Int)(a1 a2:List Y2):Option ((Int×Y9×Y9)⊕Y392):=
cond (decide (a0 < (↑a1.length:Int))) (
ai (aA a0 a1.length) (
ai (aA a0 a2.length) (
(F20 ((ix a1 a0),(ix a2 a0))).bind fun r1=>(
cond (!r1) (
some (Sum.inr (Sum.inl (false,a1,a2)))) (
ai (ah .i64 (a0+1)) (
some (Sum.inl ((a0+1),a1,a2)))))))) (
some (Sum.inr (Sum.inr (a1,a2))))
theorem Zg (F20:jF):OZ (VE F20)=u3 (O0 F20):=funext fun _=>by kernel_rfl
noncomputable def Zh:=O0 P20
noncomputable def O3:Y403:=af (u3 Zh)
theorem Zi:l19_0 (VE P20)=O3:=congrArg af (Zg P20)
theorem ok19:L.Fn Try.prog 19 27 [(.t 4)] (erase c19):=oA Try.func19
def GY:FSh:=⟨⟨[(.slr 0),(.slr 1)],YL⟩,[cD,cD],2,⟨⟨fE,YL⟩,[.bool,cD,cD],[0,1],2⟩,false⟩
noncomputable def q19 (F20:jF)(l19_0:Y403)(a0 a1:List Y2):Option TI:=
cond (!decide ((↑a0.length:Int)=(↑a1.length:Int))) (
some (false,a0,a1)) (
(l19_0 (0,a0,a1)).bind (fun y2=>Sum.elim (fun y3=>(
some (y3.1,y3.2.1,y3.2.2))) (fun y4=>(
some (true,y4.1,y4.2))) y2))
theorem g19 (F20:jF):aK (VE F20) GY [(.t 4)] c19=u2 (q19 F20 (l19_0 (VE F20))):=funext fun _=>by kernel_rfl
noncomputable def p19:=q19 P20 O3
noncomputable def Cw:ub:=u2 p19
theorem v19:aK (VE P20) GY [(.t 4)] c19=Cw:=(g19 P20).trans (by rw[Zi] <;> rfl)
theorem d19:DC Try.prog 19 GY Cw:=dD v19 t19 ok19
noncomputable def VF:List FEnt:=[]
theorem t53:al Try.prog VF:=aj
def O4:LSh:=⟨[0,1,5],⟨j36,[]⟩,Wq,0,[]⟩
noncomputable def c53:=bK Try.prog [] Try.f53 (.s .n (.s (.s .n (.b (.l O4 sd .n))) .n))
noncomputable def O5 (T:List FEnt):=aD (xs:=sd) O4 (bd T (sb [1,0,1,2,2] c53))
noncomputable def l53_0 (T:List FEnt):=af (O5 T)
noncomputable def O6 (a0:List Int)(a1 a2:Int):Option (Y72⊕wm):=
cond (decide (a2 < (↑a0.length:Int))) (
ai (aA a2 a0.length) (
cond (decide ((ix a0 a2)=a1)) (
some (Sum.inr (Sum.inl true))) (
ai (ah .i64 (a2+1)) (
some (Sum.inl (a0,a1,(a2+1))))))) (
some (Sum.inr (Sum.inr ())))
theorem Zj:O5 VF=u3 O6:=funext fun _=>by kernel_rfl
noncomputable def Zk:=O6
noncomputable def O7:Y342:=af (u3 Zk)
theorem Zl:l53_0 VF=O7:=congrArg af Zj
theorem ok53:L.Fn Try.prog 53 18 [(.t 4)] (erase c53):=oA Try.func53
def Kq:FSh:=⟨⟨Wr,[]⟩,[y19,y7],0,⟨⟨fE,[]⟩,[.bool],[],0⟩,true⟩
noncomputable def q53 (l53_0:Y342)(a0:List Int)(a1:Int):Option Bool:=
(l53_0 (a0,a1,0)).bind (fun y1=>Sum.elim (fun y2=>(
some y2)) (fun y3=>(
some false)) y1)
theorem g53:aK VF Kq [(.t 4)] c53=u2 (q53 (l53_0 VF)):=funext fun _=>by kernel_rfl
noncomputable def p53:=q53 O7
noncomputable def Kr:l9:=u2 p53
theorem v53:aK VF Kq [(.t 4)] c53=Kr:=g53.trans (by rw[Zl] <;> rfl)
theorem d53:DC Try.prog 53 Kq Kr:=dD v53 t53 ok53
noncomputable def VG (F51:ca)(F52:eN)(F53:l9):List FEnt:=[⟨51,tU,F51⟩,⟨52,tX,F52⟩,⟨53,Kq,F53⟩]
theorem t30:al Try.prog (VG P51 P52 Kr):=dK (dK (dK aj d53) VB) Vx
def O8:LSh:=⟨[9,10,11],⟨[(.ptr 0 0),(.slc 1),(.v y7)],[(0,(.box [(.slr 2),(.slc 3),(.slc 4),(.slc 5)])),(1,(.row 3 y7)),(2,(.rows 22 3 y7)),(3,(.row 32 fj)),(4,(.row 3 y7)),(5,(.row 3 y7))]⟩,[y7,y19,cD,iS,y19,y19],6,[0,2,3,4,5]⟩
def O9:List XSh:=[⟨(.exit 0),[10],⟨⟨[(.slc 6)],[(0,(.box [(.slr 2),(.slc 3),(.slc 4),(.slc 5)])),(2,(.rows 22 3 y7)),(3,(.row 32 fj)),(4,(.row 3 y7)),(5,(.row 3 y7)),(6,(.row 3 y7))]⟩,[cD,iS,y19,y19,y19],[0,2,3,4,5],7⟩⟩]
noncomputable def c30:=bK Try.prog [] Try.f30 (.s .n (.s .n (.s .n (.s .n (.s (.s .n (.b (.l O8 O9 (.s .n (.s (.b (.s .n (.s (.r [.a 2 false y7,.a 3 false y7]) .n))) .n))))) .n)))))
noncomputable def Pa (T:List FEnt):=aD (xs:=O9) O8 (bd T (sb [1,1,1,1,0,1,2,2] c30))
noncomputable def l30_0 (T:List FEnt):=af (Pa T)
noncomputable def Pb (F51:ca)(F52:eN)(F53:l9)(a0:Int)(a1:List Int)(a2:List Y2)(a3:List Y4)(a4 a5:List Int):Option ((Int×Y2×Y9×eZ×Y2×Y2)⊕Y354):=
cond (decide (a0≤99)) (
(F53 (a5,a0)).bind fun r3=>(
cond r3 (
ai (bC 8 (List.length a1+List.length ([a0]:List Int))) (
ai (ah .i64 (a0+1)) (
some (Sum.inl ((a0+1),(a1++([a0]:List Int)),a2,a3,a4,a5))))) (
ai (ah .i64 (a0+1)) (
some (Sum.inl ((a0+1),a1,a2,a3,a4,a5)))))) (
some (Sum.inr (a2,a3,a4,a5,a1)))
theorem Zm (F51:ca)(F52:eN)(F53:l9):Pa (VG F51 F52 F53)=u6 (Pb F51 F52 F53):=funext fun _=>by kernel_rfl
noncomputable def Zn:=Pb P51 P52 Kr
noncomputable def Pc:Y383:=af (u6 Zn)
theorem Zo:l30_0 (VG P51 P52 Kr)=Pc:=congrArg af (Zm P51 P52 Kr)
theorem ok30:L.Fn Try.prog 30 36 [(.t 6),(.t 7)] (erase c30):=oA Try.func30
def Ks:FSh:=⟨⟨JV,[]⟩,JS,0,⟨⟨[(.tup Rp)],dg⟩,[y7,y19],[],1⟩,true⟩
noncomputable def q30 (F51:ca)(F52:eN)(F53:l9)(l30_0:Y383)(a0:Y2×Int)(a1:List Y1)(a2:Int):Option Ii:=
(F51 (a0,a1,a2,0,1)).bind fun r1=>(
cond (!decide (r1=0)) (
some (r1,([]:List Int))) (
(F52 (a0,a1,a2)).bind fun r2=>(
(l30_0 (0,([]:List Int),r2.1,r2.2.1,r2.2.2.1,r2.2.2.2)).bind fun y4=>(
some (0,y4.2.2.2.2)))))
theorem g30 (F51:ca)(F52:eN)(F53:l9):aK (VG F51 F52 F53) Ks [(.t 6),(.t 7)] c30=u3 (q30 F51 F52 F53 (l30_0 (VG F51 F52 F53))):=funext fun _=>by kernel_rfl
noncomputable def p30:=q30 P51 P52 Kr Pc
noncomputable def VH:gF:=u3 p30
theorem v30:aK (VG P51 P52 Kr) Ks [(.t 6),(.t 7)] c30=VH:=(g30 P51 P52 Kr).trans (by rw[Zo] <;> rfl)
theorem d30:DC Try.prog 30 Ks VH:=dD v30 t30 ok30
noncomputable def VI:List FEnt:=[]
theorem t31:al Try.prog VI:=aj
def Pd:LSh:=⟨[0,1,5],⟨[(.v bc),(.v bc),(.v y7)],[]⟩,[bc,bc,y7],0,[]⟩
noncomputable def c31:=bK Try.prog [] Try.f31 (.s .n (.s .n (.s (.s .n (.b (.l Pd sd .n))) .n)))
noncomputable def Pe (T:List FEnt):=aD (xs:=sd) Pd (bd T (sb [1,1,0,1,2,2] c31))
noncomputable def l31_0 (T:List FEnt):=af (Pe T)
noncomputable def Pf (a0 a1:List Y1)(a2:Int):Option (Y294⊕wm):=
cond (decide (a2 < (↑a0.length:Int))) (
ai (aA a2 a0.length) (
ai (aA a2 a1.length) (
cond (!((((decide ((ix a0 a2).1=(ix a1 a2).1)&&decide ((ix a0 a2).2.1=(ix a1 a2).2.1))&&decide ((ix a0 a2).2.2.1=(ix a1 a2).2.2.1))&&decide ((ix a0 a2).2.2.2.1=(ix a1 a2).2.2.2.1))&&decide ((ix a0 a2).2.2.2.2=(ix a1 a2).2.2.2.2))) (
some (Sum.inr (Sum.inl false))) (
ai (ah .i64 (a2+1)) (
some (Sum.inl (a0,a1,(a2+1)))))))) (
some (Sum.inr (Sum.inr ())))
theorem Zp:Pe VI=u3 Pf:=funext fun _=>by kernel_rfl
noncomputable def Zq:=Pf
noncomputable def Pg:Y355:=af (u3 Zq)
theorem Zr:l31_0 VI=Pg:=congrArg af Zp
theorem ok31:L.Fn Try.prog 31 26 [(.t 4)] (erase c31):=oA Try.func31
def Kt:FSh:=⟨⟨[(.v bc),(.v bc)],[]⟩,[bc,bc],0,⟨⟨fE,[]⟩,[.bool],[],0⟩,true⟩
noncomputable def q31 (l31_0:Y355)(a0 a1:List Y1):Option Bool:=
cond (!decide ((↑a0.length:Int)=(↑a1.length:Int))) (
some false) (
(l31_0 (a0,a1,0)).bind (fun y1=>Sum.elim (fun y2=>(
some y2)) (fun y3=>(
some true)) y1))
theorem g31:aK VI Kt [(.t 4)] c31=u2 (q31 (l31_0 VI)):=funext fun _=>by kernel_rfl
noncomputable def p31:=q31 Pg
noncomputable def VJ:KU:=u2 p31
theorem v31:aK VI Kt [(.t 4)] c31=VJ:=g31.trans (by rw[Zr] <;> rfl)
theorem d31:DC Try.prog 31 Kt VJ:=dD v31 t31 ok31
noncomputable def T8 (F24:Ij)(F14:cX)(F25:yD)(F26:ux)(F27:ux)(F15:dp)(F28:dp)(F17:fo)(F29:fo)(F19:ub)(F16:gF)(F30:gF)(F20:jF)(F31:KU):List FEnt:=[⟨24,Cb,F24⟩,⟨14,qd,F14⟩,⟨25,GU,F25⟩,⟨26,Ce,F26⟩,⟨27,Ct,F27⟩,⟨15,qJ,F15⟩,⟨28,Ko,F28⟩,⟨17,yx,F17⟩,⟨29,Kp,F29⟩,⟨19,GY,F19⟩,⟨16,yu,F16⟩,⟨30,Ks,F30⟩,⟨20,yv,F20⟩,⟨31,Kt,F31⟩]
theorem t8:al Try.prog (T8 wN fJ CY vH wO P15 VC ml VD Cw P16 VH P20 VJ):=dK (dK (dK (dK (dK (dK (dK (dK (dK (dK (dK (dK (dK (dK aj d31) d20) d30) d16) d19) d29) d17) d28) Xr) d27) d26) d25) Vv) d24
noncomputable def c8:=bK Try.prog [(4,{ch:=[0,0,0,1,0,0,0],rs:=[3],ord:=[0,1,3,4,2,5,6] })] Try.f8 (.s .n (.s .n (.s .n (.s .n (.s .n (.s .n (.s (.r [.f 4 25 [0,0],.f 4 8 []]) .n)))))))
theorem ok8:L.Fn Try.prog 8 132 [(.t 6)] (erase c8):=oA Try.func8
def sh8:FSh:=⟨⟨Tu,[]⟩,Tt,0,⟨⟨fE,[]⟩,[.bool],[],0⟩,true⟩
noncomputable def q8 (F24:Ij)(F14:cX)(F25:yD)(F26 F27:ux)(F15 F28:dp)(F17 F29:fo)(F19:ub)(F16 F30:gF)(F20:jF)(F31:KU)(a0:Y2×Int)(a1:List Y1)(a2:cR):Option Bool:=
(F24 (a0,a1)).bind fun r1=>(
cond r1 (
(F14 ()).bind fun r2=>(
some r2)) (
(F25 (a0,a1)).bind fun r3=>(
(F26 ((r3.2.1,r3.1),r3.2.2)).bind fun r4=>(
(F27 (a0,a1)).bind fun r5=>(
cond (!decide (r4=r5)) (
some false) (
(F15 ((r3.2.1,r3.1),r3.2.2,a2.1,a2.2.1)).bind fun r6=>(
(F28 (a0,a1,a2.1,a2.2.1)).bind fun r7=>(
(F17 ((r3.2.1,r3.1),r3.2.2,a2.1)).bind fun r8=>(
(F29 (a0,a1,a2.1)).bind fun r9=>(
cond (!(((decide (r6.1.1=r7.1.1)&&decide (r6.1.2.1=r7.1.2.1))&&decide (r6.1.2.2.1=r7.1.2.2.1))&&decide (r6.1.2.2.2=r7.1.2.2.2))) (
some false) (
cond (!decide (r6.2=r7.2)) (
some false) (
(F19 (r8.2,r9.2)).bind fun r10=>(
cond (!r10.1) (
some false) (
cond (!decide (r8.1=r9.1)) (
some false) (
(F16 ((r3.2.1,r3.1),r3.2.2,a2.1)).bind fun r11=>(
(F30 (a0,a1,a2.1)).bind fun r12=>(
(F20 (r11.2,r12.2)).bind fun r13=>(
cond r13 (
cond (decide (r11.1=r12.1)) (
(F20 (r3.2.1,a0.1)).bind fun r14=>(
cond r14 (
(F31 (r3.2.2,a1)).bind fun r15=>(
cond r15 (
(F14 ()).bind fun r16=>(
some r16)) (
some false))) (
some false))) (
some false)) (
some false)))))))))))))))))))
theorem g8 (F24:Ij)(F14:cX)(F25:yD)(F26 F27:ux)(F15 F28:dp)(F17 F29:fo)(F19:ub)(F16 F30:gF)(F20:jF)(F31:KU):aK (T8 F24 F14 F25 F26 F27 F15 F28 F17 F29 F19 F16 F30 F20 F31) sh8 [(.t 6)] c8=u3 (q8 F24 F14 F25 F26 F27 F15 F28 F17 F29 F19 F16 F30 F20 F31):=funext fun _=>by kernel_rfl
noncomputable def p8:=q8 wN fJ CY vH wO P15 VC ml VD Cw P16 VH P20 VJ
noncomputable def P8:G8:=u3 p8
theorem v8:aK (T8 wN fJ CY vH wO P15 VC ml VD Cw P16 VH P20 VJ) sh8 [(.t 6)] c8=P8:=g8 wN fJ CY vH wO P15 VC ml VD Cw P16 VH P20 VJ
theorem d8:DC Try.prog 8 sh8 P8:=dD v8 t8 ok8
noncomputable def T12 (F24:Ij)(F27:ux):List FEnt:=[⟨24,Cb,F24⟩,⟨27,Ct,F27⟩]
theorem t12:al Try.prog (T12 wN wO):=dK (dK aj d27) d24
noncomputable def c12:=bK Try.prog [] Try.f12 .n
theorem ok12:L.Fn Try.prog 12 25 [(.t 6)] (erase c12):=oA Try.func12
def tY:FSh:=⟨⟨JV,[]⟩,JS,0,⟨⟨fE,[]⟩,[.bool],[],0⟩,true⟩
noncomputable def q12 (F24:Ij)(F27:ux)(a0:Y2×Int)(a1:List Y1)(a2:Int):Option Bool:=
(F24 (a0,a1)).bind fun r1=>(
cond (!r1) (
(F27 (a0,a1)).bind fun r2=>(
cond (decide (r2=0)) (
cond (decide (0≤a2)) (
some (decide (a2≤9999))) (
some false)) (
some false))) (
some false))
theorem g12 (F24:Ij)(F27:ux):aK (T12 F24 F27) tY [(.t 6)] c12=u3 (q12 F24 F27):=funext fun _=>by kernel_rfl
noncomputable def p12:=q12 wN wO
noncomputable def iZ:dG:=u3 p12
theorem v12:aK (T12 wN wO) tY [(.t 6)] c12=iZ:=g12 wN wO
theorem d12:DC Try.prog 12 tY iZ:=dD v12 t12 ok12
noncomputable def T13:List FEnt:=[]
theorem t13:al Try.prog T13:=aj
noncomputable def c13:=bK Try.prog [] Try.f13 .n
theorem ok13:L.Fn Try.prog 13 9 [(.t 2)] (erase c13):=oA Try.func13
def Cx:FSh:=⟨⟨lZ,[]⟩,[y7],0,⟨⟨fE,[]⟩,[.bool],[],0⟩,true⟩
noncomputable def q13 (a0:Int):Option Bool:=
cond (decide (0≤a0)) (
some (decide (a0≤99))) (
some false)
theorem g13 (a0:Int):aK T13 Cx [(.t 2)] c13 a0=q13 a0:=by kernel_rfl
noncomputable def p13:=q13
noncomputable def nN:mm:=fun x=>p13 x
theorem v13:aK T13 Cx [(.t 2)] c13=nN:=funext fun x=>(g13 x)
theorem d13:DC Try.prog 13 Cx nN:=dD v13 t13 ok13
noncomputable def T3 (F12:dG)(F14:cX)(F13:mm)(F15:dp):List FEnt:=[⟨12,tY,F12⟩,⟨14,qd,F14⟩,⟨13,Cx,F13⟩,⟨15,qJ,F15⟩]
theorem t3:al Try.prog (T3 iZ fJ nN P15):=dK (dK (dK (dK aj Xr) d13) Vv) d12
noncomputable def c3:=bK Try.prog [] Try.f3 .n
theorem ok3:L.Fn Try.prog 3 129 [(.t 6)] (erase c3):=oA Try.func3
def sh3:FSh:=⟨⟨Tu,[]⟩,Tt,0,⟨⟨fE,[]⟩,[.bool],[],0⟩,true⟩
noncomputable def q3 (F12:dG)(F14:cX)(F13:mm)(F15:dp)(a0:Y2×Int)(a1:List Y1)(a2:cR):Option Bool:=
(F12 (a0,a1,a2.1)).bind fun r1=>(
cond (!r1) (
(F14 ()).bind fun r2=>(
some r2)) (
(F13 a2.2.1).bind fun r3=>(
cond (!r3) (
(F14 ()).bind fun r4=>(
some r4)) (
cond (decide (a2.2.2 < a2.1)) (
(F14 ()).bind fun r5=>(
some r5)) (
cond (decide (9999 < a2.2.2)) (
(F14 ()).bind fun r6=>(
some r6)) (
(F15 (a0,a1,a2.1,a2.2.1)).bind fun r7=>(
(F15 (a0,a1,a2.2.2,a2.2.1)).bind fun r8=>(
cond (!decide (r7.2=0)) (
some false) (
cond (!decide (r8.2=0)) (
some false) (
cond (decide (r7.1.1=2)) (
ai (ah .i64 (a2.1+a0.2)) (
cond (decide (a2.2.2 < (a2.1+a0.2))) (
cond (!decide (r8.1.1=0)) (
cond (!decide (r8.1.1=1)) (
cond (decide (r8.1.2.2.2=r7.1.2.2.2)) (
(F14 ()).bind fun r9=>(
some r9)) (
some false)) (
some false)) (
some false)) (
cond (!decide (r8.1.1=2)) (
cond (!decide (r8.1.1=0)) (
cond (!decide (r8.1.1=1)) (
cond (decide (r8.1.2.2.2=r7.1.2.2.2)) (
(F14 ()).bind fun r10=>(
some r10)) (
some false)) (
some false)) (
some false)) (
some false)))) (
cond (decide (r7.1.1=3)) (
cond (((decide (r8.1.1=r7.1.1)&&decide (r8.1.2.1=r7.1.2.1))&&decide (r8.1.2.2.1=r7.1.2.2.1))&&decide (r8.1.2.2.2=r7.1.2.2.2)) (
(F14 ()).bind fun r11=>(
some r11)) (
cond (((decide (r8.1.1=5)&&decide (r8.1.2.1=(-1)))&&decide (r8.1.2.2.1=(-1)))&&decide (r8.1.2.2.2=r7.1.2.2.2)) (
(F14 ()).bind fun r12=>(
some r12)) (
some false))) (
cond (decide (r7.1.1=1)) (
cond (decide (r7.1.1=1)) (
cond (((decide (r8.1.1=r7.1.1)&&decide (r8.1.2.1=r7.1.2.1))&&decide (r8.1.2.2.1=r7.1.2.2.1))&&decide (r8.1.2.2.2=r7.1.2.2.2)) (
(F14 ()).bind fun r13=>(
some r13)) (
some false)) (
cond (((decide (r7.1.1=0)&&decide (r7.1.2.1=(-1)))&&decide (r7.1.2.2.1=(-1)))&&decide (r7.1.2.2.2=0)) (
(F14 ()).bind fun r14=>(
some r14)) (
some false))) (
cond (decide (r7.1.1=4)) (
cond (decide (r7.1.1=4)) (
cond (((decide (r8.1.1=r7.1.1)&&decide (r8.1.2.1=r7.1.2.1))&&decide (r8.1.2.2.1=r7.1.2.2.1))&&decide (r8.1.2.2.2=r7.1.2.2.2)) (
(F14 ()).bind fun r15=>(
some r15)) (
some false)) (
cond (((decide (r7.1.1=0)&&decide (r7.1.2.1=(-1)))&&decide (r7.1.2.2.1=(-1)))&&decide (r7.1.2.2.2=0)) (
(F14 ()).bind fun r16=>(
some r16)) (
some false))) (
cond (decide (r7.1.1=5)) (
cond (((decide (r8.1.1=r7.1.1)&&decide (r8.1.2.1=r7.1.2.1))&&decide (r8.1.2.2.1=r7.1.2.2.1))&&decide (r8.1.2.2.2=r7.1.2.2.2)) (
(F14 ()).bind fun r17=>(
some r17)) (
some false)) (
cond (((decide (r7.1.1=0)&&decide (r7.1.2.1=(-1)))&&decide (r7.1.2.2.1=(-1)))&&decide (r7.1.2.2.2=0)) (
(F14 ()).bind fun r18=>(
some r18)) (
some false))))))))))))))))
theorem g3 (F12:dG)(F14:cX)(F13:mm)(F15:dp):aK (T3 F12 F14 F13 F15) sh3 [(.t 6)] c3=u3 (q3 F12 F14 F13 F15):=funext fun _=>by kernel_rfl
noncomputable def p3:=q3 iZ fJ nN P15
noncomputable def P3:G8:=u3 p3
theorem v3:aK (T3 iZ fJ nN P15) sh3 [(.t 6)] c3=P3:=g3 iZ fJ nN P15
theorem d3:DC Try.prog 3 sh3 P3:=dD v3 t3 ok3
end Go.Proofs.Ytdkaijofmigmbaa.D
