import Derived.Test.YtdkaijofmigmbaaG5m
import Derived.Test.YtdkaijofmigmbaaProg
set_option linter.unusedVariables false
set_option maxRecDepth 100000
namespace Go.Proofs.Ytdkaijofmigmbaa.D
open Go Go.Proofs Go.Proofs.Ytdkaijofmigmbaa.L
def z7:List Ty:=[y7,y7,y7,.bool,.bool,y7,y7,y7,y19]
def j8:List RSh:=[(.slc 0),(.v y7),(.v y7),(.v y7),(.v .bool),(.v .bool),(.v y7)]
def j5:List RSh:=[(.slc 0),(.v y7),(.v y7),(.v y7),(.v .bool),(.v .bool),(.v y7),(.v y7),(.v y7)]
def k7:List (Nat×OSh):=[(0,(.boxT aY)),(1,(.box [.emp,.emp,.emp,.emp])),(2,(.box [(.slr 4),.emp,.emp,.emp])),(3,(.row 3 y7)),(4,(.rows 22 3 y7))]
def k12:List (Nat×OSh):=[(0,(.boxT aY)),(1,(.box [.emp,.emp,.emp,.emp])),(2,(.box [(.slr 3),.emp,.emp,.emp])),(3,(.rows 22 3 y7))]
def k6:List (Nat×OSh):=[(0,(.box [.emp,.emp,.emp,.emp])),(1,(.box [(.slr 2),(.slc 3),(.slc 4),.emp])),(2,(.rows 22 3 y7)),(3,(.row 32 eX)),(4,(.row 3 y7))]
noncomputable def tT (F91:bK):List FEnt:=[⟨91,qs,F91⟩]
theorem t93:aq Try.prog (tT P91):=(af Rw (by kernel_rfl) al)
def kr:LSh:=⟨[0,1,10,11],⟨vg,dp⟩,ve,1,[0]⟩
def Ml:List XSh:=[⟨(.exit 0),[0,1,10,11],⟨⟨vg,dp⟩,ve,[0],1⟩⟩]
def Mm:List XSh:=[⟨(.exit 2),[0,1,10,11],⟨⟨vg,dp⟩,ve,[0],1⟩⟩]
def Mn:List XSh:=[⟨(.exit 6),[0,1,10,11],⟨⟨vg,dp⟩,ve,[0],1⟩⟩]
def Mo:List XSh:=[⟨(.exit 8),[0,1,10,11],⟨⟨vg,dp⟩,ve,[0],1⟩⟩]
def Mp:List XSh:=[⟨(.exit 4),[0,1,11],⟨⟨Ho,dp⟩,I6,[0],1⟩⟩]
noncomputable def Mq:=bU Try.prog [] Try.f93 (.s .n (.s .n (.s .n (.s (.b (.l kr Ml .n)) (.s (.b (.l kr Mm .n)) (.s .n (.s .n (.s .n (.s .n (.s (.b (.l kr Mp (.b (.s (.b (.l kr Mn .n)) (.s (.b (.l kr Mo .n)) .n))))) .n))))))))))
noncomputable def Mr (T:List FEnt):=aG (xs:=Ml) kr (bg T (sb [1,1,1,0,2,2] Mq))
noncomputable def l93_0 (T:List FEnt):=ah (Mr T)
noncomputable def F7 (F91:bK)(a0 a1 a2:Int)(a3:List Int):Option xY:=
cond (decide (a1≤a2)) (
aj (aC a1 a3.length) (
aj (aC a0 a3.length) (
(F91 ((ix a3 a1),(ix a3 a0))).bind fun r1=>(
cond r1 (
aj (ai .i64 (a1+1)) (
some (Sum.inl (a0,(a1+1),a2,a3)))) (
some (Sum.inr (a0,a1,a2,a3))))))) (
some (Sum.inr (a0,a1,a2,a3)))
theorem Wt (F91:bK):Mr (tT F91)=u4 (F7 F91):=funext fun _=>by kernel_rfl
noncomputable def Ms:=F7 P91
noncomputable def F8:tC:=ah (fun x=>Ms x.1 x.2.1 x.2.2.1 x.2.2.2)
theorem Wu:l93_0 (tT P91)=F8:=congrArg ah (Wt P91)
noncomputable def Mu (T:List FEnt):=aG (xs:=Mm) kr (bg T (sb [1,1,1,1,0,2,2] Mq))
noncomputable def l93_1 (T:List FEnt):=ah (Mu T)
noncomputable def F9 (F91:bK)(a0 a1 a2:Int)(a3:List Int):Option xY:=
cond (decide (a1≤a2)) (
aj (aC a2 a3.length) (
aj (aC a0 a3.length) (
(F91 ((ix a3 a2),(ix a3 a0))).bind fun r3=>(
cond (!r3) (
aj (ai .i64 (a2-1)) (
some (Sum.inl (a0,a1,(a2-1),a3)))) (
some (Sum.inr (a0,a1,a2,a3))))))) (
some (Sum.inr (a0,a1,a2,a3)))
theorem Wv (F91:bK):Mu (tT F91)=u4 (F9 F91):=funext fun _=>by kernel_rfl
noncomputable def Mw:=F9 P91
noncomputable def Ga:tC:=ah (fun x=>Mw x.1 x.2.1 x.2.2.1 x.2.2.2)
theorem Ww:l93_1 (tT P91)=Ga:=congrArg ah (Wv P91)
noncomputable def Mx (T:List FEnt):=aG (xs:=Mn) kr (bg T (sb [1,1,1,1,1,1,1,1,1,0,2,2,2,0,2,2] Mq))
noncomputable def l93_3 (T:List FEnt):=ah (Mx T)
noncomputable def Gb (F91:bK)(a0 a1 a2:Int)(a3:List Int):Option xY:=
cond (decide (a1≤a2)) (
aj (aC a1 a3.length) (
aj (aC a0 a3.length) (
(F91 ((ix a3 a1),(ix a3 a0))).bind fun r5=>(
cond r5 (
aj (ai .i64 (a1+1)) (
some (Sum.inl (a0,(a1+1),a2,a3)))) (
some (Sum.inr (a0,a1,a2,a3))))))) (
some (Sum.inr (a0,a1,a2,a3)))
theorem Wx (F91:bK):Mx (tT F91)=u4 (Gb F91):=funext fun _=>by kernel_rfl
noncomputable def My:=Gb P91
noncomputable def Gc:tC:=ah (fun x=>My x.1 x.2.1 x.2.2.1 x.2.2.2)
theorem Wy:l93_3 (tT P91)=Gc:=congrArg ah (Wx P91)
noncomputable def Mz (T:List FEnt):=aG (xs:=Mo) kr (bg T (sb [1,1,1,1,1,1,1,1,1,0,2,2,2,1,0,2,2] Mq))
noncomputable def l93_4 (T:List FEnt):=ah (Mz T)
noncomputable def Gd (F91:bK)(a0 a1 a2:Int)(a3:List Int):Option xY:=
cond (decide (a1≤a2)) (
aj (aC a2 a3.length) (
aj (aC a0 a3.length) (
(F91 ((ix a3 a2),(ix a3 a0))).bind fun r7=>(
cond (!r7) (
aj (ai .i64 (a2-1)) (
some (Sum.inl (a0,a1,(a2-1),a3)))) (
some (Sum.inr (a0,a1,a2,a3))))))) (
some (Sum.inr (a0,a1,a2,a3)))
theorem Wz (F91:bK):Mz (tT F91)=u4 (Gd F91):=funext fun _=>by kernel_rfl
noncomputable def MB:=Gd P91
noncomputable def Ge:tC:=ah (fun x=>MB x.1 x.2.1 x.2.2.1 x.2.2.2)
theorem WA:l93_4 (tT P91)=Ge:=congrArg ah (Wz P91)
noncomputable def MC (T:List FEnt):=aG (xs:=Mp) kr (bg T (sb [1,1,1,1,1,1,1,1,1,0,2,2] Mq))
noncomputable def l93_2 (T:List FEnt):=ah (MC T)
noncomputable def Gf (F91:bK)(l93_3 l93_4:tC)(a0 a1 a2:Int)(a3:List Int):Option Zx:=
(l93_3 (a0,a1,a2,a3)).bind fun y6=>(
(l93_4 (y6.1,y6.2.1,y6.2.2.1,y6.2.2.2)).bind fun y8=>(
cond (decide (y8.2.2.1 < y8.2.1)) (
some (Sum.inr (y8.1,y8.2.2.1,y8.2.2.2))) (
aj (aC y8.2.2.1 y8.2.2.2.length) (
aj (aC y8.2.1 y8.2.2.2.length) (
aj (aC y8.2.1 y8.2.2.2.length) (
aj (aC y8.2.2.1 (List.length (List.set y8.2.2.2 y8.2.1.toNat (ix y8.2.2.2 y8.2.2.1)))) (
aj (ai .i64 (y8.2.1+1)) (
aj (ai .i64 (y8.2.2.1-1)) (
some (Sum.inl (y8.1,(y8.2.1+1),(y8.2.2.1-1),(List.set (List.set y8.2.2.2 y8.2.1.toNat (ix y8.2.2.2 y8.2.2.1)) y8.2.2.1.toNat (ix y8.2.2.2 y8.2.1)))))))))))))
theorem WB (F91:bK):MC (tT F91)=u4 (Gf F91 (l93_3 (tT F91)) (l93_4 (tT F91))):=funext fun _=>by kernel_rfl
noncomputable def MD:=Gf P91 Gc Ge
noncomputable def Gg:Zo:=ah (fun x=>MD x.1 x.2.1 x.2.2.1 x.2.2.2)
theorem WC:l93_2 (tT P91)=Gg:=congrArg ah ((WB P91).trans (by rw[Wy,WA] <;> rfl))
theorem ok93:L.Fn Try.prog 93 168 [(.t 8),(.t 9)] (erase Mq):=Fn.ofA aN Try.func93 _ _ (by kernel_rfl)
def Jk:FSh:=⟨⟨vg,dp⟩,ve,1,⟨⟨[(.tup [(.v y7),(.v .bool)])],dp⟩,[y7,.bool,y19],[0],1⟩,false⟩
noncomputable def q93 (F91:bK)(l93_0 l93_1:tC)(l93_2:Zo)(a0 a1 a2:Int)(a3:List Int):Option Zm:=
aj (aC a2 a3.length) (
aj (aC a0 a3.length) (
aj (aC a0 a3.length) (
aj (aC a2 (List.length (List.set a3 a0.toNat (ix a3 a2)))) (
aj (ai .i64 (a0+1)) (
aj (ai .i64 (a1-1)) (
(l93_0 (a0,(a0+1),(a1-1),(List.set (List.set a3 a0.toNat (ix a3 a2)) a2.toNat (ix a3 a0)))).bind fun y2=>(
(l93_1 (y2.1,y2.2.1,y2.2.2.1,y2.2.2.2)).bind fun y4=>(
cond (decide (y4.2.2.1 < y4.2.1)) (
aj (aC y4.1 y4.2.2.2.length) (
aj (aC y4.2.2.1 y4.2.2.2.length) (
aj (aC y4.2.2.1 y4.2.2.2.length) (
aj (aC y4.1 (List.length (List.set y4.2.2.2 y4.2.2.1.toNat (ix y4.2.2.2 y4.1)))) (
some (y4.2.2.1,true,(List.set (List.set y4.2.2.2 y4.2.2.1.toNat (ix y4.2.2.2 y4.1)) y4.1.toNat (ix y4.2.2.2 y4.2.2.1)))))))) (
aj (aC y4.2.2.1 y4.2.2.2.length) (
aj (aC y4.2.1 y4.2.2.2.length) (
aj (aC y4.2.1 y4.2.2.2.length) (
aj (aC y4.2.2.1 (List.length (List.set y4.2.2.2 y4.2.1.toNat (ix y4.2.2.2 y4.2.2.1)))) (
aj (ai .i64 (y4.2.1+1)) (
aj (ai .i64 (y4.2.2.1-1)) (
(l93_2 (y4.1,(y4.2.1+1),(y4.2.2.1-1),(List.set (List.set y4.2.2.2 y4.2.1.toNat (ix y4.2.2.2 y4.2.2.1)) y4.2.2.1.toNat (ix y4.2.2.2 y4.2.1)))).bind fun y9=>(
aj (aC y9.1 y9.2.2.length) (
aj (aC y9.2.1 y9.2.2.length) (
aj (aC y9.2.1 y9.2.2.length) (
aj (aC y9.1 (List.length (List.set y9.2.2 y9.2.1.toNat (ix y9.2.2 y9.1)))) (
some (y9.2.1,false,(List.set (List.set y9.2.2 y9.2.1.toNat (ix y9.2.2 y9.1)) y9.1.toNat (ix y9.2.2 y9.2.1)))))))))))))))))))))))
theorem g93 (F91:bK):aO (tT F91) Jk [(.t 8),(.t 9)] Mq=u4 (q93 F91 (l93_0 (tT F91)) (l93_1 (tT F91)) (l93_2 (tT F91))):=funext fun _=>by kernel_rfl
noncomputable def p93:=q93 P91 F8 Ga Gg
noncomputable def qv:nV:=fun x=>p93 x.1 x.2.1 x.2.2.1 x.2.2.2
theorem v93:aO (tT P91) Jk [(.t 8),(.t 9)] Mq=qv:=(g93 P91).trans (by rw[Wu,Ww,WC] <;> rfl)
theorem d93:DC Try.prog 93 Jk qv:=aF v93 (ak t93 ok93 (by kernel_rfl))
def tu:FSh:=⟨⟨vg,dp⟩,ve,1,⟨⟨pG,dp⟩,[y19],[0],1⟩,false⟩
noncomputable def xP (F85:dV)(F86:dV)(F87:dV)(F88:nT)(F89:dV)(F90:nU)(F91:bK)(F92:lQ)(F93:nV)(F66:cG):List FEnt:=[⟨85,Jb,F85⟩,⟨86,Je,F86⟩,⟨87,Jf,F87⟩,⟨88,Jg,F88⟩,⟨89,Jh,F89⟩,⟨90,Ji,F90⟩,⟨91,qs,F91⟩,⟨92,Jj,F92⟩,⟨93,Jk,F93⟩,⟨66,tu,F66⟩]
theorem t66 (F66:cG)(h:DC Try.prog 66 tu F66):aq Try.prog (xP rB rC qt rD rE rG P91 rI qv F66):=(af d85 (by kernel_rfl) (af d86 (by kernel_rfl) (af d87 (by kernel_rfl) (af d88 (by kernel_rfl) (af d89 (by kernel_rfl) (af d90 (by kernel_rfl) (af Rw (by kernel_rfl) (af d92 (by kernel_rfl) (af d93 (by kernel_rfl) (af h (by kernel_rfl) al))))))))))
def ME:LSh:=⟨[0,1,2,3,8,9,10],⟨j8,dp⟩,[y7,y7,y7,.bool,.bool,y7,y19],1,[0]⟩
def MF:List XSh:=[⟨.normal,[0,1,2,3,8,9,10],⟨⟨j8,dp⟩,[y7,y7,y7,.bool,.bool,y7,y19],[0],1⟩⟩]
def zX:LSh:=⟨[0,1,2,3,8,9,10,11,12],⟨j5,dp⟩,z7,1,[0]⟩
def MG:List XSh:=[⟨.normal,[0,1,2,3,8,9,10,11,12],⟨⟨j5,dp⟩,z7,[0],1⟩⟩]
def MH:List XSh:=[⟨.ret,[],⟨⟨[],dp⟩,[y19],[0],1⟩⟩,⟨.normal,[0,1,2,3,8,9,10,11],⟨⟨[(.slc 0),(.v y7),(.v y7),(.v y7),(.v .bool),(.v .bool),(.v y7),(.v y7)],dp⟩,[y7,y7,y7,.bool,.bool,y7,y7,y19],[0],1⟩⟩]
def MI:LSh:=⟨[0,1,2,3,8,9],⟨[(.slc 0),(.v y7),(.v y7),(.v y7),(.v .bool),(.v .bool)],dp⟩,[y7,y7,y7,.bool,.bool,y19],1,[0]⟩
def MJ:List XSh:=[⟨.ret,[],⟨⟨[],dp⟩,[y19],[0],1⟩⟩]
noncomputable def RM:=bU Try.prog [] Try.f66 (.s .n (.s .n (.b (.l MI MJ (.b (.s .n (.s .n (.s .n (.s (.o ME MF .n) (.s .n (.s (.o zX MG .n) (.s (.o zX MH .n) .n))))))))))))
noncomputable def l66_1 (T:List FEnt):=fg (xs:=MF) ME (bg T (sb [1,1,2,2,2,1,1,1,0,2] RM))
noncomputable def zY (F85 F86 F87:dV)(F88:nT)(F89:dV)(F90:nU)(F91:bK)(F92:lQ)(F93:nV)(F66:cG)(a0 a1 a2:Int)(a3 a4:Bool)(a5:Int)(a6:List Int):Option Zk:=
cond (!a3) (
(F87 (a0,a1,a6)).bind fun r3=>(
aj (ai .i64 (a2-1)) (
some (a0,a1,(a2-1),a3,a4,a5,r3)))) (
some (a0,a1,a2,a3,a4,a5,a6))
theorem WD (F85 F86 F87:dV)(F88:nT)(F89:dV)(F90:nU)(F91:bK)(F92:lQ)(F93:nV)(F66:cG):l66_1 (xP F85 F86 F87 F88 F89 F90 F91 F92 F93 F66)=u7 (zY F85 F86 F87 F88 F89 F90 F91 F92 F93 F66):=funext fun _=>by kernel_rfl
noncomputable def Gh (F66:cG):=zY rB rC qt rD rE rG P91 rI qv F66
noncomputable def vr (F66:cG):Zp:=fun x=>Gh F66 x.1 x.2.1 x.2.2.1 x.2.2.2.1 x.2.2.2.2.1 x.2.2.2.2.2.1 x.2.2.2.2.2.2
theorem WE (F66:cG):l66_1 (xP rB rC qt rD rE rG P91 rI qv F66)=vr F66:=WD rB rC qt rD rE rG P91 rI qv F66
noncomputable def l66_2 (T:List FEnt):=fg (xs:=MG) zX (bg T (sb [1,1,2,2,2,1,1,1,1,1,0,2] RM))
noncomputable def Gi (F85 F86 F87:dV)(F88:nT)(F89:dV)(F90:nU)(F91:bK)(F92:lQ)(F93:nV)(F66:cG)(a0 a1 a2:Int)(a3 a4:Bool)(a5 a6 a7:Int)(a8:List Int):Option Zl:=
cond (decide (a7=2)) (
(F89 (a0,a1,a8)).bind fun r6=>(
aj (ai .i64 (a1-1)) (
aj (ai .i64 (a6-a0)) (
aj (ai .i64 ((a1-1)-(a6-a0))) (
some (a0,a1,a2,a3,a4,a5,((a1-1)-(a6-a0)),1,r6)))))) (
some (a0,a1,a2,a3,a4,a5,a6,a7,a8))
theorem WF (F85 F86 F87:dV)(F88:nT)(F89:dV)(F90:nU)(F91:bK)(F92:lQ)(F93:nV)(F66:cG):l66_2 (xP F85 F86 F87 F88 F89 F90 F91 F92 F93 F66)=u9 (Gi F85 F86 F87 F88 F89 F90 F91 F92 F93 F66):=funext fun _=>by kernel_rfl
noncomputable def MK (F66:cG):=Gi rB rC qt rD rE rG P91 rI qv F66
noncomputable def zZ (F66:cG):Zq:=fun x=>MK F66 x.1 x.2.1 x.2.2.1 x.2.2.2.1 x.2.2.2.2.1 x.2.2.2.2.2.1 x.2.2.2.2.2.2.1 x.2.2.2.2.2.2.2.1 x.2.2.2.2.2.2.2.2
theorem WG (F66:cG):l66_2 (xP rB rC qt rD rE rG P91 rI qv F66)=zZ F66:=WF rB rC qt rD rE rG P91 rI qv F66
noncomputable def l66_3 (T:List FEnt):=fg (xs:=MH) zX (bg T (sb [1,1,2,2,2,1,1,1,1,1,1,0,2] RM))
noncomputable def Gj (F85 F86 F87:dV)(F88:nT)(F89:dV)(F90:nU)(F91:bK)(F92:lQ)(F93:nV)(F66:cG)(a0 a1 a2:Int)(a3 a4:Bool)(a5 a6 a7:Int)(a8:List Int):Option Zy:=
cond a3 (
cond a4 (
cond (decide (a7=1)) (
(F90 (a0,a1,a8)).bind fun r8=>(
cond r8.1 (
some (Sum.inl r8.2)) (
some (Sum.inr (a0,a1,a2,a3,a4,a5,a6,r8.2))))) (
some (Sum.inr (a0,a1,a2,a3,a4,a5,a6,a8)))) (
some (Sum.inr (a0,a1,a2,a3,a4,a5,a6,a8)))) (
some (Sum.inr (a0,a1,a2,a3,a4,a5,a6,a8)))
theorem WH (F85 F86 F87:dV)(F88:nT)(F89:dV)(F90:nU)(F91:bK)(F92:lQ)(F93:nV)(F66:cG):l66_3 (xP F85 F86 F87 F88 F89 F90 F91 F92 F93 F66)=u9 (Gj F85 F86 F87 F88 F89 F90 F91 F92 F93 F66):=funext fun _=>by kernel_rfl
noncomputable def ML (F66:cG):=Gj rB rC qt rD rE rG P91 rI qv F66
noncomputable def Aa (F66:cG):ZG:=fun x=>ML F66 x.1 x.2.1 x.2.2.1 x.2.2.2.1 x.2.2.2.2.1 x.2.2.2.2.2.1 x.2.2.2.2.2.2.1 x.2.2.2.2.2.2.2.1 x.2.2.2.2.2.2.2.2
theorem WI (F66:cG):l66_3 (xP rB rC qt rD rE rG P91 rI qv F66)=Aa F66:=WH rB rC qt rD rE rG P91 rI qv F66
noncomputable def MM (T:List FEnt):=aG (xs:=MJ) MI (bg T (sb [1,1,2,2] RM))
noncomputable def l66_0 (T:List FEnt):=ah (MM T)
noncomputable def vt (F85 F86 F87:dV)(F88:nT)(F89:dV)(F90:nU)(F91:bK)(F92:lQ)(F93:nV)(F66:cG)(l66_1:Zp)(l66_2:Zq)(l66_3:ZG)(a0 a1 a2:Int)(a3 a4:Bool)(a5:List Int):Option Zz:=
aj (ai .i64 (a1-a0)) (
cond (decide ((a1-a0)≤12)) (
(F85 (a0,a1,a5)).bind fun r1=>(
some (Sum.inr r1))) (
cond (decide (a2=0)) (
(F86 (a0,a1,a5)).bind fun r2=>(
some (Sum.inr r2))) (
(l66_1 (a0,a1,a2,a3,a4,(a1-a0),a5)).bind fun y4=>(
(F88 (y4.1,y4.2.1,y4.2.2.2.2.2.2)).bind fun r5=>(
(l66_2 (y4.1,y4.2.1,y4.2.2.1,y4.2.2.2.1,y4.2.2.2.2.1,y4.2.2.2.2.2.1,r5.1,r5.2.1,r5.2.2)).bind fun y7=>(
(l66_3 (y7.1,y7.2.1,y7.2.2.1,y7.2.2.2.1,y7.2.2.2.2.1,y7.2.2.2.2.2.1,y7.2.2.2.2.2.2.1,y7.2.2.2.2.2.2.2.1,y7.2.2.2.2.2.2.2.2)).bind (fun y9=>Sum.elim (fun y10=>(
some (Sum.inr y10))) (fun y11=>(
cond (decide (0 < y11.1)) (
aj (ai .i64 (y11.1-1)) (
aj (aC (y11.1-1) y11.2.2.2.2.2.2.2.length) (
aj (aC y11.2.2.2.2.2.2.1 y11.2.2.2.2.2.2.2.length) (
(F91 ((ix y11.2.2.2.2.2.2.2 (y11.1-1)),(ix y11.2.2.2.2.2.2.2 y11.2.2.2.2.2.2.1))).bind fun r12=>(
cond (!r12) (
(F92 (y11.1,y11.2.1,y11.2.2.2.2.2.2.1,y11.2.2.2.2.2.2.2)).bind fun r13=>(
some (Sum.inl (r13.1,y11.2.1,y11.2.2.1,y11.2.2.2.1,y11.2.2.2.2.1,r13.2)))) (
(F93 (y11.1,y11.2.1,y11.2.2.2.2.2.2.1,y11.2.2.2.2.2.2.2)).bind fun r14=>(
aj (ai .i64 (r14.1-y11.1)) (
aj (ai .i64 (y11.2.1-r14.1)) (
aj (ai .i64 (Int.tdiv y11.2.2.2.2.2.1 8)) (
cond (decide ((r14.1-y11.1) < (y11.2.1-r14.1))) (
(F66 (y11.1,r14.1,y11.2.2.1,r14.2.2)).bind fun r15=>(
aj (ai .i64 (r14.1+1)) (
some (Sum.inl ((r14.1+1),y11.2.1,y11.2.2.1,decide ((Int.tdiv y11.2.2.2.2.2.1 8)≤(r14.1-y11.1)),r14.2.1,r15))))) (
aj (ai .i64 (r14.1+1)) (
(F66 ((r14.1+1),y11.2.1,y11.2.2.1,r14.2.2)).bind fun r16=>(
some (Sum.inl (y11.1,r14.1,y11.2.2.1,decide ((Int.tdiv y11.2.2.2.2.2.1 8)≤(y11.2.1-r14.1)),r14.2.1,r16))))))))))))))) (
(F93 (y11.1,y11.2.1,y11.2.2.2.2.2.2.1,y11.2.2.2.2.2.2.2)).bind fun r17=>(
aj (ai .i64 (r17.1-y11.1)) (
aj (ai .i64 (y11.2.1-r17.1)) (
aj (ai .i64 (Int.tdiv y11.2.2.2.2.2.1 8)) (
cond (decide ((r17.1-y11.1) < (y11.2.1-r17.1))) (
(F66 (y11.1,r17.1,y11.2.2.1,r17.2.2)).bind fun r18=>(
aj (ai .i64 (r17.1+1)) (
some (Sum.inl ((r17.1+1),y11.2.1,y11.2.2.1,decide ((Int.tdiv y11.2.2.2.2.2.1 8)≤(r17.1-y11.1)),r17.2.1,r18))))) (
aj (ai .i64 (r17.1+1)) (
(F66 ((r17.1+1),y11.2.1,y11.2.2.1,r17.2.2)).bind fun r19=>(
some (Sum.inl (y11.1,r17.1,y11.2.2.1,decide ((Int.tdiv y11.2.2.2.2.2.1 8)≤(y11.2.1-r17.1)),r17.2.1,r19)))))))))))) y9)))))))
theorem WJ (F85 F86 F87:dV)(F88:nT)(F89:dV)(F90:nU)(F91:bK)(F92:lQ)(F93:nV)(F66:cG):MM (xP F85 F86 F87 F88 F89 F90 F91 F92 F93 F66)=u6 (vt F85 F86 F87 F88 F89 F90 F91 F92 F93 F66 (l66_1 (xP F85 F86 F87 F88 F89 F90 F91 F92 F93 F66)) (l66_2 (xP F85 F86 F87 F88 F89 F90 F91 F92 F93 F66)) (l66_3 (xP F85 F86 F87 F88 F89 F90 F91 F92 F93 F66))):=funext fun _=>by kernel_rfl
noncomputable def pK (F66:cG):=vt rB rC qt rD rE rG P91 rI qv F66 (vr F66) (zZ F66) (Aa F66)
noncomputable def Ab (F66:cG):Zj:=ah (fun x=>pK F66 x.1 x.2.1 x.2.2.1 x.2.2.2.1 x.2.2.2.2.1 x.2.2.2.2.2)
theorem WK (F66:cG):l66_0 (xP rB rC qt rD rE rG P91 rI qv F66)=Ab F66:=congrArg ah ((WJ rB rC qt rD rE rG P91 rI qv F66).trans (by rw[WE F66,WG F66,WI F66] <;> rfl))
theorem WL:L.Fn Try.prog 66 134 [] (erase RM):=Fn.ofA aN Try.func66 _ _ (by kernel_rfl)
noncomputable def q66 (F85 F86 F87:dV)(F88:nT)(F89:dV)(F90:nU)(F91:bK)(F92:lQ)(F93:nV)(F66:cG)(l66_0:Zj)(a0 a1 a2:Int)(a3:List Int):Option Y2:=
(l66_0 (a0,a1,a2,true,true,a3)).bind fun y20=>(
some y20)
theorem g66 (F85 F86 F87:dV)(F88:nT)(F89:dV)(F90:nU)(F91:bK)(F92:lQ)(F93:nV)(F66:cG):aO (xP F85 F86 F87 F88 F89 F90 F91 F92 F93 F66) tu [] RM=u4 (q66 F85 F86 F87 F88 F89 F90 F91 F92 F93 F66 (l66_0 (xP F85 F86 F87 F88 F89 F90 F91 F92 F93 F66))):=funext fun _=>by kernel_rfl
noncomputable def TR (F66:cG):=q66 rB rC qt rD rE rG P91 rI qv F66 (Ab F66)
noncomputable def tU:Nat→Int×Int×Int×Y2→Option Y2
  | 0=>fun _=>none
  | n+1=>fun x=>TR (tU n) x.1 x.2.1 x.2.2.1 x.2.2.2
noncomputable def P66:cG:=tU 18446744073709551616
theorem v66 (F66:cG):aO (xP rB rC qt rD rE rG P91 rI qv F66) tu [] RM=fun x=>TR F66 x.1 x.2.1 x.2.2.1 x.2.2.2:=(g66 rB rC qt rD rE rG P91 rI qv F66).trans (by rw[WK F66] <;> rfl)
theorem D66:∀ n,DC Try.prog 66 tu (tU n)
  | 0=>za (ak (sh:=tu) al WL (by kernel_rfl)).1
  | n+1=>aF (v66 (tU n)) (ak (sh:=tu) (t66 (tU n) (D66 n)) WL (by kernel_rfl))
theorem d66:DC Try.prog 66 tu P66:=D66 _
noncomputable def T44 (F67:nO)(F66:cG):List FEnt:=[⟨67,BI,F67⟩,⟨66,tu,F66⟩]
theorem t44:aq Try.prog (T44 P67 P66):=(af d67 (by kernel_rfl) (af d66 (by kernel_rfl) al))
noncomputable def c44:=bU Try.prog [] Try.f44 .n
theorem ok44:L.Fn Try.prog 44 11 [] (erase c44):=Fn.ofA aN Try.func44 _ _ (by kernel_rfl)
def Jl:FSh:=⟨⟨BA,dp⟩,[y19],1,⟨⟨pG,dp⟩,[y19],[0],1⟩,false⟩
noncomputable def q44 (F67:nO)(F66:cG)(a0:List Int):Option Y2:=
aj (ai .u64 (↑a0.length:Int)) (
(F67 (↑a0.length:Int)).bind fun r1=>(
(F66 (0,(↑a0.length:Int),r1,a0)).bind fun r2=>(
some r2)))
theorem g44 (F67:nO)(F66:cG)(a0:List Int):aO (T44 F67 F66) Jl [] c44 a0=q44 F67 F66 a0:=by kernel_rfl
noncomputable def p44:=q44 P67 P66
noncomputable def Gk:B1:=fun x=>p44 x
theorem v44:aO (T44 P67 P66) Jl [] c44=Gk:=funext fun x=>(g44 P67 P66 x)
theorem d44:DC Try.prog 44 Jl Gk:=aF v44 (ak t44 ok44 (by kernel_rfl))
noncomputable def Jm:List FEnt:=[]
theorem t45:aq Try.prog Jm:=al
def MN:LSh:=⟨[0,3,4,5],⟨[(.slc 0),(.v y7),(.slo 0 1),(.v y7)],dp⟩,Lk,1,[0]⟩
def MO:List XSh:=[⟨(.exit 2),[0,3],⟨⟨PM,dp⟩,[y7,y19],[0],1⟩⟩]
def MP:LSh:=⟨[0,3],⟨PM,dp⟩,[y7,y19],1,[]⟩
def MQ:List XSh:=[⟨.ret,[2],⟨⟨BA,dp⟩,[y19],[],1⟩⟩,⟨(.exit 0),[0],⟨⟨BA,dp⟩,[y19],[],1⟩⟩]
noncomputable def WM:=bU Try.prog [(7,{ch:=[0,0,1,0] }),(14,{ch:=[0,0,1,0] }),(15,{ch:=[0,0,2,0] })] Try.f45 (.s .n (.s .n (.s (.s .n (.b (.l MP MQ (.s .n (.s (.b (.s .n (.s (.s .n (.s (.s .n (.b (.l MN MO .n))) .n)) .n))) .n))))) .n)))
noncomputable def MS (T:List FEnt):=aG (xs:=MO) MN (bg T (sb [1,1,0,1,2,2,1,0,2,1,0,1,0,1,2,2] WM))
noncomputable def l45_1 (T:List FEnt):=ah (MS T)
noncomputable def Ac (a0 a1 a2 a3:Int)(a4:List Int):Option ZA:=
cond (decide (a3 < (↑a2.toNat:Int))) (
aj (aC a3 a2.toNat) (
aj (ai .i64 (a3-1)) (
aj (aC (a3-1) a2.toNat) (
cond (!decide ((wB a4 (a1.toNat+Int.toNat a3))=(wB a4 (a1.toNat+Int.toNat (a3-1))))) (
aj (aC a3 a2.toNat) (
aj (aC a0 a4.length) (
aj (ai .i64 (a0+1)) (
aj (ai .i64 (a3+1)) (
some (Sum.inl ((a0+1),(↑a1.toNat:Int),(↑a2.toNat:Int),(a3+1),(List.set a4 a0.toNat (wB a4 (a1.toNat+Int.toNat a3)))))))))) (
aj (ai .i64 (a3+1)) (
some (Sum.inl (a0,(↑a1.toNat:Int),(↑a2.toNat:Int),(a3+1),a4)))))))) (
some (Sum.inr (a0,a4)))
theorem WN:MS Jm=u5 Ac:=funext fun _=>by kernel_rfl
noncomputable def Gl:=Ac
noncomputable def Gm:Zr:=ah (fun x=>Gl x.1 x.2.1 x.2.2.1 x.2.2.2.1 x.2.2.2.2)
theorem WO:l45_1 Jm=Gm:=congrArg ah WN
noncomputable def MT (T:List FEnt):=aG (xs:=MQ) MP (bg T (sb [1,1,0,1,2,2] WM))
noncomputable def l45_0 (T:List FEnt):=ah (MT T)
noncomputable def Ad (l45_1:Zr)(a0:Int)(a1:List Int):Option ZB:=
cond (decide (a0 < (↑a1.length:Int))) (
aj (aC a0 a1.length) (
aj (ai .i64 (a0-1)) (
aj (aC (a0-1) a1.length) (
cond (decide ((ix a1 a0)=(ix a1 (a0-1)))) (
aj (decide (0≤a0)) (
aj (decide (a0≤(↑a1.length:Int))) (
aj (decide ((↑a1.length:Int)≤(↑a1.length:Int))) (
aj (decide (0 < List.length a1)) (
(l45_1 (a0,(↑a0.toNat:Int),(↑(Int.toNat ((↑a1.length:Int)-a0)):Int),1,a1)).bind fun y1=>(
aj (decide (0≤y1.1)) (
aj (decide (y1.1≤(↑y1.2.length:Int))) (
aj (decide ((↑y1.2.length:Int)≤(↑y1.2.length:Int))) (
aj (decide (0 < List.length y1.2)) (
aj (decide (0≤y1.1)) (
aj (decide (y1.1≤(↑(List.length (cq y1.2 y1.1.toNat (Int.toNat ((↑y1.2.length:Int)-y1.1)) 0)):Int))) (
aj (decide (0 < List.length (cq y1.2 y1.1.toNat (Int.toNat ((↑y1.2.length:Int)-y1.1)) 0))) (
some (Sum.inr (Sum.inl (List.take y1.1.toNat (cq y1.2 y1.1.toNat (Int.toNat ((↑y1.2.length:Int)-y1.1)) 0))))))))))))))))) (
aj (ai .i64 (a0+1)) (
some (Sum.inl ((a0+1),a1)))))))) (
some (Sum.inr (Sum.inr a1)))
theorem g45_0:MT Jm=u2 (Ad (l45_1 Jm)):=funext fun _=>by kernel_rfl
noncomputable def Ae:=Ad Gm
noncomputable def Af:Zs:=ah (fun x=>Ae x.1 x.2)
theorem v45_0:l45_0 Jm=Af:=congrArg ah (g45_0.trans (by rw[WO] <;> rfl))
theorem ok45:L.Fn Try.prog 45 61 [(.t 2)] (erase WM):=Fn.ofA aN Try.func45 _ _ (by kernel_rfl)
def Jn:FSh:=⟨⟨BA,dp⟩,[y19],1,⟨⟨BA,dp⟩,[y19],[],1⟩,false⟩
noncomputable def WP (l45_0:Zs)(a0:List Int):Option Y2:=
cond (decide ((↑a0.length:Int) < 2)) (
some a0) (
(l45_0 (1,a0)).bind (fun y2=>Sum.elim (fun y3=>(
some y3)) (fun y4=>(
some y4)) y2))
theorem g45 (a0:List Int):aO Jm Jn [(.t 2)] WM a0=WP (l45_0 Jm) a0:=by kernel_rfl
noncomputable def p45:=WP Af
noncomputable def Cp:B1:=fun x=>p45 x
theorem v45:aO Jm Jn [(.t 2)] WM=Cp:=funext fun x=>(g45 x).trans (by rw[v45_0] <;> rfl)
theorem d45:DC Try.prog 45 Jn Cp:=aF v45 (ak t45 ok45 (by kernel_rfl))
noncomputable def T16 (F42:eY)(F42v1:mW)(F44:B1)(F45:B1):List FEnt:=[⟨42,xL,F42⟩,⟨42,kW,F42v1⟩,⟨44,Jl,F44⟩,⟨45,Jn,F45⟩]
theorem t16:aq Try.prog (T16 pJ P42v1 Gk Cp):=(af d42 (by kernel_rfl) (af zP (by kernel_rfl) (af d44 (by kernel_rfl) (af d45 (by kernel_rfl) al))))
noncomputable def c16:=bU Try.prog [] Try.f16 .n
theorem ok16:L.Fn Try.prog 16 30 [(.t 6),(.t 7)] (erase c16):=Fn.ofA aN Try.func16 _ _ (by kernel_rfl)
def xQ:FSh:=⟨⟨I7,[]⟩,I5,0,⟨⟨[(.tup PM)],dp⟩,[y7,y19],[],1⟩,true⟩
noncomputable def q16 (F42:eY)(F42v1:mW)(F44 F45:B1)(a0:Y2×Int)(a1:List Y1)(a2:Int):Option Hq:=
Kv (F42 (a0,a1,a2,0,1)) (fun r1=>(
cond (!decide (r1=0)) (
some (r1,([]:List Int))) (
none))) (
(F42v1 (a0,a1,a2,0,1)).bind fun r2=>(
cond (!decide (r2.1=0)) (
some (r2.1,([]:List Int))) (
(F44 r2.2.2.2.2.1).bind fun r3=>(
(F45 r3).bind fun r4=>(
some (0,r4))))))
theorem g16 (F42:eY)(F42v1:mW)(F44 F45:B1):aO (T16 F42 F42v1 F44 F45) xQ [(.t 6),(.t 7)] c16=u3 (q16 F42 F42v1 F44 F45):=funext fun _=>by kernel_rfl
noncomputable def p16:=q16 pJ P42v1 Gk Cp
noncomputable def P16:gx:=fun x=>p16 x.1 x.2.1 x.2.2
theorem v16:aO (T16 pJ P42v1 Gk Cp) xQ [(.t 6),(.t 7)] c16=P16:=g16 pJ P42v1 Gk Cp
theorem d16:DC Try.prog 16 xQ P16:=aF v16 (ak t16 ok16 (by kernel_rfl))
noncomputable def TS:List FEnt:=[]
theorem t20:aq Try.prog TS:=al
def MU:LSh:=⟨[0,1,5],⟨[(.v y19),(.v y19),(.v y7)],[]⟩,[y19,y19,y7],0,[]⟩
def rJ:List XSh:=[⟨.ret,[4],⟨⟨ft,[]⟩,[.bool],[],0⟩⟩,⟨(.exit 0),[],⟨⟨[],[]⟩,[],[],0⟩⟩]
noncomputable def c20:=bU Try.prog [] Try.f20 (.s .n (.s .n (.s (.s .n (.b (.l MU rJ .n))) .n)))
noncomputable def MV (T:List FEnt):=aG (xs:=rJ) MU (bg T (sb [1,1,0,1,2,2] c20))
noncomputable def l20_0 (T:List FEnt):=ah (MV T)
noncomputable def rK (a0 a1:List Int)(a2:Int):Option ZC:=
cond (decide (a2 < (↑a0.length:Int))) (
aj (aC a2 a0.length) (
aj (aC a2 a1.length) (
cond (!decide ((ix a0 a2)=(ix a1 a2))) (
some (Sum.inr (Sum.inl false))) (
aj (ai .i64 (a2+1)) (
some (Sum.inl (a0,a1,(a2+1)))))))) (
some (Sum.inr (Sum.inr ())))
theorem WQ:MV TS=u3 rK:=funext fun _=>by kernel_rfl
noncomputable def MW:=rK
noncomputable def Ag:Zn:=ah (fun x=>MW x.1 x.2.1 x.2.2)
theorem WR:l20_0 TS=Ag:=congrArg ah WQ
theorem ok20:L.Fn Try.prog 20 26 [(.t 4)] (erase c20):=Fn.ofA aN Try.func20 _ _ (by kernel_rfl)
def xR:FSh:=⟨⟨[(.v y19),(.v y19)],[]⟩,[y19,y19],0,⟨⟨ft,[]⟩,[.bool],[],0⟩,true⟩
noncomputable def q20 (l20_0:Zn)(a0 a1:List Int):Option Bool:=
cond (!decide ((↑a0.length:Int)=(↑a1.length:Int))) (
some false) (
(l20_0 (a0,a1,0)).bind (fun y1=>Sum.elim (fun y2=>(
some y2)) (fun y3=>(
some true)) y1))
theorem g20:aO TS xR [(.t 4)] c20=u2 (q20 (l20_0 TS)):=funext fun _=>by kernel_rfl
noncomputable def p20:=q20 Ag
noncomputable def P20:jt:=fun x=>p20 x.1 x.2
theorem v20:aO TS xR [(.t 4)] c20=P20:=g20.trans (by rw[WR] <;> rfl)
theorem d20:DC Try.prog 20 xR P20:=aF v20 (ak t20 ok20 (by kernel_rfl))
noncomputable def T14 (F41:Y98)(F15:dq)(F21:iU)(F16:gx)(F20:jt):List FEnt:=[⟨41,ID,F41⟩,⟨15,qr,F15⟩,⟨21,xM,F21⟩,⟨16,xQ,F16⟩,⟨20,xR,F20⟩]
theorem t14:aq Try.prog (T14 P41 P15 P21 P16 P20):=(af d41 (by kernel_rfl) (af VK (by kernel_rfl) (af d21 (by kernel_rfl) (af d16 (by kernel_rfl) (af d20 (by kernel_rfl) al)))))
noncomputable def c14:=bU Try.prog [] Try.f14 (.s .n (.s .n (.s .n (.s .n (.s .n (.s (.r [.a 25 false y7]) .n))))))
theorem ok14:L.Fn Try.prog 14 61 [(.t 0)] (erase c14):=Fn.ofA aN Try.func14 _ _ (by kernel_rfl)
def pL:FSh:=⟨⟨[],[]⟩,[],0,⟨⟨ft,[]⟩,[.bool],[],0⟩,true⟩
noncomputable def q14 (F41:Y98)(F15:dq)(F21:iU)(F16:gx)(F20:jt):Option Bool:=
(F41 ()).bind fun r1=>(
(F15 ((r1.2.1,r1.1),r1.2.2,12,2)).bind fun r2=>(
(F21 ((r1.2.1,r1.1),r1.2.2,1,1)).bind fun r3=>(
(F16 ((r1.2.1,r1.1),r1.2.2,12)).bind fun r4=>(
cond (decide (r2.2=0)) (
cond (decide (r3.2.2=0)) (
cond (decide (r4.1=0)) (
cond (((decide (r2.1.1=4)&&decide (r2.1.2.1=(-1)))&&decide (r2.1.2.2.1=(-1)))&&decide (r2.1.2.2.2=2)) (
cond (decide (r3.1=0)) (
cond (decide (r3.2.1=4)) (
(F20 (r4.2,([2]:List Int))).bind fun r5=>(
some r5)) (
some false)) (
some false)) (
some false)) (
some false)) (
some false)) (
some false)))))
theorem g14 (F41:Y98)(F15:dq)(F21:iU)(F16:gx)(F20:jt):aO (T14 F41 F15 F21 F16 F20) pL [(.t 0)] c14 ()=q14 F41 F15 F21 F16 F20:=by kernel_rfl
noncomputable def p14:Option Bool:=q14 P41 P15 P21 P16 P20
noncomputable def ge:cX:=fun x=>p14
theorem v14:aO (T14 P41 P15 P21 P16 P20) pL [(.t 0)] c14=ge:=funext fun x=>(g14 P41 P15 P21 P16 P20)
theorem WS:DC Try.prog 14 pL ge:=aF v14 (ak t14 ok14 (by kernel_rfl))
noncomputable def T25:List FEnt:=[]
theorem t25:aq Try.prog T25:=al
noncomputable def c25:=bU Try.prog [(2,{ch:=[1,1,0,0,0,0],rs:=[2] })] Try.f25 (.s .n (.s (.r [.a 0 false y7,.a 3 false y7]) (.s (.r [.a 3 true da]) .n)))
theorem ok25:L.Fn Try.prog 25 15 [(.cell 4 true 2),(.t 5)] (erase c25):=Fn.ofA aN Try.func25 _ _ (by kernel_rfl)
def Gn:FSh:=⟨⟨j38,[]⟩,[aY,bd],0,⟨⟨j23,[(0,(.row 3 y7)),(1,(.row 40 da))]⟩,[y7,y19,bd],[],2⟩,true⟩
noncomputable def q25 (a0:Y2×Int)(a1:List Y1):Option Yj:=
aj (bM 8 (List.length ([]:List Int)+List.length a0.1)) (
aj (bM 40 a1.length) (
some (a0.2,(([]:List Int)++a0.1),a1)))
theorem g25:aO T25 Gn [(.cell 4 true 2),(.t 5)] c25=u2 q25:=funext fun _=>by kernel_rfl
noncomputable def p25:=q25
noncomputable def MX:x4:=fun x=>p25 x.1 x.2
theorem v25:aO T25 Gn [(.cell 4 true 2),(.t 5)] c25=MX:=g25
theorem d25:DC Try.prog 25 Gn MX:=aF v25 (ak t25 ok25 (by kernel_rfl))
noncomputable def T57:List FEnt:=[]
theorem t57:aq Try.prog T57:=al
noncomputable def c57:=bU Try.prog [] Try.f57 .n
theorem ok57:L.Fn Try.prog 57 15 [(.t 6)] (erase c57):=Fn.ofA aN Try.func57 _ _ (by kernel_rfl)
def BS:FSh:=⟨⟨j36,[]⟩,[y7,y7,y7],0,⟨⟨ft,[]⟩,[.bool],[],0⟩,true⟩
noncomputable def q57 (a0 a1 a2:Int):Option Bool:=
cond (decide (a1≤a0)) (
some (decide (a0≤a2))) (
some false)
theorem g57:aO T57 BS [(.t 6)] c57=u3 q57:=funext fun _=>by kernel_rfl
noncomputable def p57:=q57
noncomputable def P57:Y5:=fun x=>p57 x.1 x.2.1 x.2.2
theorem v57:aO T57 BS [(.t 6)] c57=P57:=g57
theorem d57:DC Try.prog 57 BS P57:=aF v57 (ak t57 ok57 (by kernel_rfl))
noncomputable def TT (F57:Y5):List FEnt:=[⟨57,BS,F57⟩]
theorem t37:aq Try.prog (TT P57):=(af d57 (by kernel_rfl) al)
def MY:LSh:=⟨[1,3],⟨Tw,[(0,(.boxT aY))]⟩,[y7,aY],1,[0]⟩
def MZ:List XSh:=[⟨.ret,[2],⟨⟨ft,[(0,(.boxT aY))]⟩,[.bool,aY],[0],1⟩⟩,⟨(.exit 0),[1],⟨⟨Iy,[(0,(.boxT aY))]⟩,[aY],[0],1⟩⟩]
noncomputable def c37:=bU Try.prog [] Try.f37 (.s .n (.s (.s .n (.b (.l MY MZ .n))) .n))
noncomputable def M0 (T:List FEnt):=aG (xs:=MZ) MY (bg T (sb [1,0,1,2,2] c37))
noncomputable def l37_0 (T:List FEnt):=ah (M0 T)
noncomputable def rL (F57:Y5)(a0:Int)(a1:Y2×Int):Option ZM:=
cond (decide (a0 < (↑a1.1.length:Int))) (
aj (aC a0 a1.1.length) (
(F57 ((ix a1.1 a0),1,12)).bind fun r1=>(
cond (!r1) (
some (Sum.inr (Sum.inl (false,a1)))) (
aj (ai .i64 (a0+1)) (
some (Sum.inl ((a0+1),a1))))))) (
some (Sum.inr (Sum.inr a1)))
theorem WT (F57:Y5):M0 (TT F57)=u2 (rL F57):=funext fun _=>by kernel_rfl
noncomputable def M1:=rL P57
noncomputable def Ah:ZH:=ah (fun x=>M1 x.1 x.2)
theorem v37_0:l37_0 (TT P57)=Ah:=congrArg ah (WT P57)
theorem ok37:L.Fn Try.prog 37 27 [(.t 2)] (erase c37):=Fn.ofA aN Try.func37 _ _ (by kernel_rfl)
def Jo:FSh:=⟨⟨[(.st aY)],[]⟩,[aY],0,⟨⟨ft,[]⟩,[.bool],[],0⟩,true⟩
noncomputable def q37 (F57:Y5)(l37_0:ZH)(a0:Y2×Int):Option Bool:=
(l37_0 (0,a0)).bind (fun y2=>Sum.elim (fun y3=>(
some y3.1)) (fun y4=>(
(F57 ((↑y4.1.length:Int),1,6)).bind fun r5=>(
cond r5 (
(F57 (y4.2,1,600)).bind fun r6=>(
some r6)) (
some false)))) y2)
theorem g37 (F57:Y5)(a0:Y2×Int):aO (TT F57) Jo [(.t 2)] c37 a0=q37 F57 (l37_0 (TT F57)) a0:=by kernel_rfl
noncomputable def p37:=q37 P57 Ah
noncomputable def P37:lN:=fun x=>p37 x
theorem v37:aO (TT P57) Jo [(.t 2)] c37=P37:=funext fun x=>(g37 P57 x).trans (by rw[v37_0] <;> rfl)
theorem d37:DC Try.prog 37 Jo P37:=aF v37 (ak t37 ok37 (by kernel_rfl))
noncomputable def T50 (F57:Y5):List FEnt:=[⟨57,BS,F57⟩]
theorem t50:aq Try.prog (T50 P57):=(af d57 (by kernel_rfl) al)
noncomputable def c50:=bU Try.prog [] Try.f50 .n
theorem ok50:L.Fn Try.prog 50 38 [(.t 2)] (erase c50):=Fn.ofA aN Try.func50 _ _ (by kernel_rfl)
def Jp:FSh:=⟨⟨[(.st da)],[]⟩,[da],0,⟨⟨ft,[]⟩,[.bool],[],0⟩,true⟩
noncomputable def q50 (F57:Y5)(a0:Y1):Option Bool:=
(F57 (a0.1,0,99)).bind fun r1=>(
cond (!r1) (
some false) (
(F57 (a0.2.1,0,9999)).bind fun r2=>(
cond (!r2) (
some false) (
(F57 (a0.2.2.2.1,0,99)).bind fun r3=>(
cond (!r3) (
some false) (
cond (decide (a0.2.2.1=1)) (
(F57 (a0.2.2.2.2,1,12)).bind fun r4=>(
some r4)) (
cond (decide (a0.2.2.1=2)) (
some (decide (a0.2.2.2.2=0))) (
cond (decide (a0.2.2.1=3)) (
some (decide (a0.2.2.2.2=0))) (
some false)))))))))
theorem g50 (F57:Y5)(a0:Y1):aO (T50 F57) Jp [(.t 2)] c50 a0=q50 F57 a0:=by kernel_rfl
noncomputable def p50:=q50 P57
noncomputable def P50:AK:=fun x=>p50 x
theorem v50:aO (T50 P57) Jp [(.t 2)] c50=P50:=funext fun x=>(g50 P57 x)
theorem d50:DC Try.prog 50 Jp P50:=aF v50 (ak t50 ok50 (by kernel_rfl))
noncomputable def Jq (F37:lN)(F50:AK):List FEnt:=[⟨37,Jo,F37⟩,⟨50,Jp,F50⟩]
theorem t27:aq Try.prog (Jq P37 P50):=(af d37 (by kernel_rfl) (af d50 (by kernel_rfl) al))
def M2:LSh:=⟨[1,5,6],⟨[(.v bd),(.v y7),(.v y7)],[]⟩,[bd,y7,y7],0,[]⟩
def M3:List XSh:=[⟨.ret,[4],⟨⟨nK,[]⟩,[y7],[],0⟩⟩,⟨(.exit 2),[1,5],⟨⟨[(.v bd),(.v y7)],[]⟩,[bd,y7],[],0⟩⟩]
def M4:LSh:=⟨[1,5],⟨[(.v bd),(.v y7)],[]⟩,[bd,y7],0,[]⟩
noncomputable def WU:=bU Try.prog [] Try.f27 (.s .n (.s .n (.s .n (.s (.s .n (.b (.l M4 zh (.s .n (.s (.b (.s .n (.s .n (.b (.l M2 M3 .n))))) .n))))) .n))))
noncomputable def M5 (T:List FEnt):=aG (xs:=M3) M2 (bg T (sb [1,1,1,0,1,2,2,1,0,2,1,1,2,2] WU))
noncomputable def l27_1 (T:List FEnt):=ah (M5 T)
noncomputable def rM (F37:lN)(F50:AK)(a0:List Y1)(a1 a2:Int):Option ZW:=
cond (decide (a2 < a1)) (
aj (aC a2 a0.length) (
aj (aC a1 a0.length) (
cond (decide ((ix a0 a2).1=(ix a0 a1).1)) (
aj (aC a2 a0.length) (
aj (aC a1 a0.length) (
cond (!((((decide ((ix a0 a2).1=(ix a0 a1).1)&&decide ((ix a0 a2).2.1=(ix a0 a1).2.1))&&decide ((ix a0 a2).2.2.1=(ix a0 a1).2.2.1))&&decide ((ix a0 a2).2.2.2.1=(ix a0 a1).2.2.2.1))&&decide ((ix a0 a2).2.2.2.2=(ix a0 a1).2.2.2.2))) (
some (Sum.inr (Sum.inl 41))) (
aj (ai .i64 (a2+1)) (
some (Sum.inl (a0,a1,(a2+1)))))))) (
aj (ai .i64 (a2+1)) (
some (Sum.inl (a0,a1,(a2+1)))))))) (
some (Sum.inr (Sum.inr (a0,a1))))
theorem WV (F37:lN)(F50:AK):M5 (Jq F37 F50)=u3 (rM F37 F50):=funext fun _=>by kernel_rfl
noncomputable def M6:=rM P37 P50
noncomputable def L27_1:ZV:=ah (fun x=>M6 x.1 x.2.1 x.2.2)
theorem WW:l27_1 (Jq P37 P50)=L27_1:=congrArg ah (WV P37 P50)
noncomputable def M7 (T:List FEnt):=aG (xs:=zh) M4 (bg T (sb [1,1,1,0,1,2,2] WU))
noncomputable def l27_0 (T:List FEnt):=ah (M7 T)
noncomputable def q27_0 (F37:lN)(F50:AK)(l27_1:ZV)(a0:List Y1)(a1:Int):Option ZO:=
cond (decide (a1 < (↑a0.length:Int))) (
aj (aC a1 a0.length) (
(F50 (ix a0 a1)).bind fun r2=>(
cond (!r2) (
some (Sum.inr (Sum.inl 41))) (
(l27_1 (a0,a1,0)).bind (fun y3=>Sum.elim (fun y4=>(
some (Sum.inr (Sum.inl y4)))) (fun y5=>(
aj (ai .i64 (y5.2+1)) (
some (Sum.inl (y5.1,(y5.2+1)))))) y3))))) (
some (Sum.inr (Sum.inr ())))
theorem WX (F37:lN)(F50:AK):M7 (Jq F37 F50)=u2 (q27_0 F37 F50 (l27_1 (Jq F37 F50))):=funext fun _=>by kernel_rfl
noncomputable def M8:=q27_0 P37 P50 L27_1
noncomputable def vu:Zt:=ah (fun x=>M8 x.1 x.2)
theorem WY:l27_0 (Jq P37 P50)=vu:=congrArg ah ((WX P37 P50).trans (by rw[WW] <;> rfl))
theorem ok27:L.Fn Try.prog 27 52 [(.t 4)] (erase WU):=Fn.ofA aN Try.func27 _ _ (by kernel_rfl)
def BT:FSh:=⟨⟨j38,[]⟩,[aY,bd],0,⟨⟨nK,[]⟩,[y7],[],0⟩,true⟩
noncomputable def q27 (F37:lN)(F50:AK)(l27_0:Zt)(a0:Y2×Int)(a1:List Y1):Option Int:=
(F37 a0).bind fun r1=>(
cond (!r1) (
some 40) (
cond (decide (40 < (↑a1.length:Int))) (
some 41) (
(l27_0 (a1,0)).bind (fun y6=>Sum.elim (fun y7=>(
some y7)) (fun y8=>(
some 0)) y6))))
theorem g27 (F37:lN)(F50:AK):aO (Jq F37 F50) BT [(.t 4)] WU=u2 (q27 F37 F50 (l27_0 (Jq F37 F50))):=funext fun _=>by kernel_rfl
noncomputable def p27:=q27 P37 P50 vu
noncomputable def vw:tW:=fun x=>p27 x.1 x.2
theorem v27:aO (Jq P37 P50) BT [(.t 4)] WU=vw:=(g27 P37 P50).trans (by rw[WY] <;> rfl)
theorem d27:DC Try.prog 27 BT vw:=aF v27 (ak t27 ok27 (by kernel_rfl))
noncomputable def T51 (F27:tW)(F57:Y5):List FEnt:=[⟨27,BT,F27⟩,⟨57,BS,F57⟩]
theorem t51:aq Try.prog (T51 vw P57):=(af d27 (by kernel_rfl) (af d57 (by kernel_rfl) al))
noncomputable def c51:=bU Try.prog [] Try.f51 .n
theorem ok51:L.Fn Try.prog 51 31 [(.t 10)] (erase c51):=Fn.ofA aN Try.func51 _ _ (by kernel_rfl)
def BU:FSh:=⟨⟨j20,[]⟩,z14,0,⟨⟨nK,[]⟩,[y7],[],0⟩,true⟩
noncomputable def q51 (F27:tW)(F57:Y5)(a0:Y2×Int)(a1:List Y1)(a2 a3 a4:Int):Option Int:=
(F27 (a0,a1)).bind fun r1=>(
cond (!decide (r1=0)) (
some r1) (
(F57 (a2,0,9999)).bind fun r2=>(
cond (!r2) (
some 1) (
(F57 (a3,0,99)).bind fun r3=>(
cond (!r3) (
some 1) (
(F57 (a4,1,12)).bind fun r4=>(
cond (!r4) (
some 1) (
some 0))))))))
theorem g51 (F27:tW)(F57:Y5):aO (T51 F27 F57) BU [(.t 10)] c51=u5 (q51 F27 F57):=funext fun _=>by kernel_rfl
noncomputable def p51:=q51 vw P57
noncomputable def qe:eY:=fun x=>p51 x.1 x.2.1 x.2.2.1 x.2.2.2.1 x.2.2.2.2
theorem v51:aO (T51 vw P57) BU [(.t 10)] c51=qe:=g51 vw P57
theorem d51:DC Try.prog 51 BU qe:=aF v51 (ak t51 ok51 (by kernel_rfl))
noncomputable def Cq:List FEnt:=[]
theorem t70:aq Try.prog Cq:=al
def M9:LSh:=⟨[1,2,3,4,5,6],⟨[(.ptr 0 0),(.ptr 1 0),(.ptr 2 0),(.v y7),(.slc 3),(.v y7)],k7⟩,[y7,y7,aY,y19,cI],5,[0,1,2,3,4]⟩
def Na:List XSh:=[⟨(.exit 2),[1,2,3,4,5],⟨⟨[(.ptr 0 0),(.ptr 1 0),(.ptr 2 0),(.v y7),(.slc 3)],k7⟩,[y7,aY,y19,cI],[0,1,2,3,4],5⟩⟩]
def Nb:LSh:=⟨[1,2,3,4],⟨[(.ptr 0 0),(.ptr 1 0),(.ptr 2 0),(.v y7)],k12⟩,[y7,aY,cI],4,[0,1,2]⟩
def Nc:List XSh:=[⟨(.exit 0),[2,3],⟨⟨[(.ptr 1 0),(.ptr 2 0)],k12⟩,[aY,cI],[0,1,2],4⟩⟩]
def Nd:LSh:=⟨[2,3,7],⟨[(.ptr 0 0),(.ptr 1 0),(.v y7)],k6⟩,[y7,cI,gY,y19],5,[0,1,2]⟩
def Nf:List XSh:=[⟨(.exit 4),[2,3],⟨⟨[(.ptr 0 0),(.ptr 1 0)],k6⟩,[cI,gY,y19],[0,1,2],5⟩⟩]
noncomputable def TU:=bU Try.prog [] Try.f70 (.s .n (.s .n (.s (.s .n (.b (.l Nb Nc (.s .n (.s (.b (.s (.r [.a 5 false y7]) (.s (.s .n (.b (.l M9 Na .n))) (.r [.a 3 true y19,.a 4 true y19])))) .n))))) (.s (.s .n (.b (.l Nd Nf (.s .n (.s (.b (.s (.r [.a 3 true eX,.a 4 true eX]) (.r [.a 2 false y7,.a 3 false y7]))) .n))))) .n))))
noncomputable def Ng (T:List FEnt):=aG (xs:=Na) M9 (bg T (sb [1,1,0,1,2,2,1,0,2,1,0,1,2,2] TU))
noncomputable def l70_1 (T:List FEnt):=ah (Ng T)
noncomputable def rN (a0 a1:Int)(a2:Y2×Int)(a3:List Int)(a4:List Y2):Option ZP:=
cond (decide (a1 < (↑a3.length:Int))) (
aj (aC a1 a3.length) (
aj (ai .i64 (a1+1)) (
some (Sum.inl (a0,(a1+1),a2,(List.set a3 a1.toNat (-1)),a4))))) (
some (Sum.inr (a0,a2,a3,a4)))
theorem WZ:Ng Cq=u5 rN:=funext fun _=>by kernel_rfl
noncomputable def Nh:=rN
noncomputable def rO:ZI:=ah (fun x=>Nh x.1 x.2.1 x.2.2.1 x.2.2.2.1 x.2.2.2.2)
theorem W0:l70_1 Cq=rO:=congrArg ah WZ
noncomputable def Ni (T:List FEnt):=aG (xs:=Nc) Nb (bg T (sb [1,1,0,1,2,2] TU))
noncomputable def l70_0 (T:List FEnt):=ah (Ni T)
noncomputable def rP (l70_1:ZI)(a0:Int)(a1:Y2×Int)(a2:List Y2):Option ZQ:=
cond (decide (a0 < (↑a1.1.length:Int))) (
aj (aC a0 a1.1.length) (
aj (decide (0≤(ix a1.1 a0))) (
aj (decide (8*(ix a1.1 a0)≤140737488355328)) (
(l70_1 (a0,0,a1,(gF (Int.toNat (ix a1.1 a0)) 0:List Int),a2)).bind fun y1=>(
aj (bM 24 (List.length y1.2.2.2+List.length ([y1.2.2.1]:List Y2))) (
aj (ai .i64 (y1.1+1)) (
some (Sum.inl ((y1.1+1),y1.2.1,(y1.2.2.2++([y1.2.2.1]:List Y2))))))))))) (
some (Sum.inr (a1,a2)))
theorem g70_0:Ni Cq=u3 (rP (l70_1 Cq)):=funext fun _=>by kernel_rfl
noncomputable def Nj:=rP rO
noncomputable def Ai:ZJ:=ah (fun x=>Nj x.1 x.2.1 x.2.2)
theorem v70_0:l70_0 Cq=Ai:=congrArg ah (g70_0.trans (by rw[W0] <;> rfl))
noncomputable def Nk (T:List FEnt):=aG (xs:=Nf) Nd (bg T (sb [1,1,1,0,1,2,2] TU))
noncomputable def l70_2 (T:List FEnt):=ah (Nk T)
noncomputable def Aj (a0:Int)(a1:List Y2)(a2:List Y4)(a3:List Int):Option ZS:=
cond (decide (a0≤99)) (
aj (bM 32 (List.length a2+List.length ([(0,((-1),((-1),0)))]:List Y4))) (
aj (bM 8 (List.length a3+List.length ([0]:List Int))) (
aj (ai .i64 (a0+1)) (
some (Sum.inl ((a0+1),a1,(a2++([(0,((-1),((-1),0)))]:List Y4)),(a3++([0]:List Int)))))))) (
some (Sum.inr (a1,a2,a3)))
theorem W1:Nk Cq=u4 Aj:=funext fun _=>by kernel_rfl
noncomputable def Nl:=Aj
noncomputable def Ak:ZK:=ah (fun x=>Nl x.1 x.2.1 x.2.2.1 x.2.2.2)
theorem v70_2:l70_2 Cq=Ak:=congrArg ah W1
theorem ok70:L.Fn Try.prog 70 52 [(.cell 2 true 4)] (erase TU):=Fn.ofA aN Try.func70 _ _ (by kernel_rfl)
def Jr:FSh:=⟨⟨[(.st aY)],[]⟩,[aY],0,⟨⟨[(.agg [(.slr 0),(.slc 1),(.slc 2),.emp])],[(0,(.rows 22 3 y7)),(1,(.row 32 eX)),(2,(.row 3 y7))]⟩,[cI,gY,y19],[],3⟩,false⟩
noncomputable def q70 (l70_0:ZJ)(l70_2:ZK)(a0:Y2×Int):Option JW:=
(l70_0 (0,a0,([]:List Y2))).bind fun y2=>(
(l70_2 (0,y2.2,([]:List Y4),([]:List Int))).bind fun y3=>(
some (y3.1,y3.2.1,y3.2.2)))
theorem g70 (a0:Y2×Int):aO Cq Jr [(.cell 2 true 4)] TU a0=q70 (l70_0 Cq) (l70_2 Cq) a0:=by kernel_rfl
noncomputable def p70:=q70 Ai Ak
noncomputable def tv:vG:=fun x=>p70 x
theorem v70:aO Cq Jr [(.cell 2 true 4)] TU=tv:=funext fun x=>(g70 x).trans (by rw[v70_0,v70_2] <;> rfl)
theorem d70:DC Try.prog 70 Jr tv:=aF v70 (ak t70 ok70 (by kernel_rfl))
noncomputable def Js:List FEnt:=[]
theorem t71:aq Try.prog Js:=al
def Nn:LSh:=⟨[0,3,4,5,6,7],⟨[(.v bd),(.v bd),(.v y7),(.v y7),(.v .bool),(.v y7)],[]⟩,[bd,bd,y7,y7,.bool,y7],0,[]⟩
def No:List XSh:=[⟨(.exit 2),[0,3,4,5,6],⟨⟨[(.v bd),(.v bd),(.v y7),(.v y7),(.v .bool)],[]⟩,[bd,bd,y7,y7,.bool],[],0⟩⟩]
def Np:LSh:=⟨[0,3,4],⟨[(.v bd),(.v bd),(.v y7)],[]⟩,[bd,bd,y7],0,[]⟩
def Nq:List XSh:=[⟨(.exit 0),[3],⟨⟨[(.v bd)],[]⟩,[bd],[],0⟩⟩]
noncomputable def W2:=bU Try.prog [(13,{ch:=[0,0,0,0,0,0,0,0,0,0],rs:=[],ord:=[0,1,2,3,5,6,7,4,8,9] })] Try.f71 (.s .n (.s .n (.s (.s .n (.b (.l Np Nq (.s .n (.s (.b (.s .n (.s (.s .n (.b (.l Nn No .n))) (.s (.r [.f 2 3 []]) (.s (.s (.r [.a 6 false da,.a 7 true da,.a 8 true da]) (.r [.a 0 true da,.a 3 false da,.a 4 true da,.a 6 true da])) .n))))) (.r [.f 3 3 []])))))) .n)))
noncomputable def Nr (T:List FEnt):=aG (xs:=No) Nn (bg T (sb [1,1,0,1,2,2,1,0,2,1,0,1,2,2] W2))
noncomputable def l71_1 (T:List FEnt):=ah (Nr T)
noncomputable def rQ (a0 a1:List Y1)(a2 a3:Int)(a4:Bool)(a5:Int):Option ZT:=
cond (decide (a5 < (↑a1.length:Int))) (
cond a4 (
aj (aC a5 a1.length) (
aj (aC a2 a0.length) (
cond (decide ((ix a1 a5).2.1 < (ix a0 a2).2.1)) (
aj (ai .i64 (a5+1)) (
aj (ai .i64 (a5+1)) (
some (Sum.inl (a0,a1,a2,(a5+1),true,(a5+1)))))) (
aj (aC a5 a1.length) (
aj (aC a2 a0.length) (
cond (decide ((ix a1 a5).2.1=(ix a0 a2).2.1)) (
aj (aC a5 a1.length) (
aj (aC a2 a0.length) (
cond (decide ((ix a1 a5).1 < (ix a0 a2).1)) (
aj (ai .i64 (a5+1)) (
aj (ai .i64 (a5+1)) (
some (Sum.inl (a0,a1,a2,(a5+1),true,(a5+1)))))) (
aj (ai .i64 (a5+1)) (
some (Sum.inl (a0,a1,a2,a3,true,(a5+1)))))))) (
aj (ai .i64 (a5+1)) (
some (Sum.inl (a0,a1,a2,a3,true,(a5+1))))))))))) (
aj (aC a5 a1.length) (
aj (aC a2 a0.length) (
aj (aC a5 a1.length) (
aj (aC a2 a0.length) (
cond (decide ((ix a1 a5).2.1 < (ix a0 a2).2.1)) (
aj (ai .i64 (a5+1)) (
aj (ai .i64 (a5+1)) (
some (Sum.inl (a0,a1,a2,(a5+1),((((decide ((ix a1 a5).1=(ix a0 a2).1)&&decide ((ix a1 a5).2.1=(ix a0 a2).2.1))&&decide ((ix a1 a5).2.2.1=(ix a0 a2).2.2.1))&&decide ((ix a1 a5).2.2.2.1=(ix a0 a2).2.2.2.1))&&decide ((ix a1 a5).2.2.2.2=(ix a0 a2).2.2.2.2)),(a5+1)))))) (
aj (aC a5 a1.length) (
aj (aC a2 a0.length) (
cond (decide ((ix a1 a5).2.1=(ix a0 a2).2.1)) (
aj (aC a5 a1.length) (
aj (aC a2 a0.length) (
cond (decide ((ix a1 a5).1 < (ix a0 a2).1)) (
aj (ai .i64 (a5+1)) (
aj (ai .i64 (a5+1)) (
some (Sum.inl (a0,a1,a2,(a5+1),((((decide ((ix a1 a5).1=(ix a0 a2).1)&&decide ((ix a1 a5).2.1=(ix a0 a2).2.1))&&decide ((ix a1 a5).2.2.1=(ix a0 a2).2.2.1))&&decide ((ix a1 a5).2.2.2.1=(ix a0 a2).2.2.2.1))&&decide ((ix a1 a5).2.2.2.2=(ix a0 a2).2.2.2.2)),(a5+1)))))) (
aj (ai .i64 (a5+1)) (
some (Sum.inl (a0,a1,a2,a3,((((decide ((ix a1 a5).1=(ix a0 a2).1)&&decide ((ix a1 a5).2.1=(ix a0 a2).2.1))&&decide ((ix a1 a5).2.2.1=(ix a0 a2).2.2.1))&&decide ((ix a1 a5).2.2.2.1=(ix a0 a2).2.2.2.1))&&decide ((ix a1 a5).2.2.2.2=(ix a0 a2).2.2.2.2)),(a5+1)))))))) (
aj (ai .i64 (a5+1)) (
some (Sum.inl (a0,a1,a2,a3,((((decide ((ix a1 a5).1=(ix a0 a2).1)&&decide ((ix a1 a5).2.1=(ix a0 a2).2.1))&&decide ((ix a1 a5).2.2.1=(ix a0 a2).2.2.1))&&decide ((ix a1 a5).2.2.2.1=(ix a0 a2).2.2.2.1))&&decide ((ix a1 a5).2.2.2.2=(ix a0 a2).2.2.2.2)),(a5+1)))))))))))))) (
some (Sum.inr (a0,a1,a2,a3,a4)))
theorem W3:Nr Js=u6 rQ:=funext fun _=>by kernel_rfl
noncomputable def Ns:=rQ
noncomputable def L71_1:ZL:=ah (fun x=>Ns x.1 x.2.1 x.2.2.1 x.2.2.2.1 x.2.2.2.2.1 x.2.2.2.2.2)
theorem W5:l71_1 Js=L71_1:=congrArg ah W3
noncomputable def Nt (T:List FEnt):=aG (xs:=Nq) Np (bg T (sb [1,1,0,1,2,2] W2))
noncomputable def l71_0 (T:List FEnt):=ah (Nt T)
noncomputable def q71_0 (l71_1:ZL)(a0 a1:List Y1)(a2:Int):Option ZU:=
cond (decide (a2 < (↑a0.length:Int))) (
(l71_1 (a0,a1,a2,0,false,0)).bind fun y1=>(
cond (!y1.2.2.2.2) (
aj (aC y1.2.2.1 y1.1.length) (
aj (decide (0≤y1.2.2.2.1)) (
aj (decide (y1.2.2.2.1≤(↑y1.2.1.length:Int))) (
aj (decide ((↑y1.2.1.length:Int)≤(↑y1.2.1.length:Int))) (
aj (bM 40 (List.length ([(ix y1.1 y1.2.2.1)]:List Y1)+List.length (pb y1.2.1 y1.2.2.2.1 (↑y1.2.1.length:Int)))) (
aj (decide ((0:Int)≤0)) (
aj (decide (0≤y1.2.2.2.1)) (
aj (decide (y1.2.2.2.1≤(↑y1.2.1.length:Int))) (
aj (bM 40 (List.length ([]:List Y1)+List.length (pb y1.2.1 0 y1.2.2.2.1))) (
aj (bM 40 (List.length (([]:List Y1)++(pb y1.2.1 0 y1.2.2.2.1))+List.length (([(ix y1.1 y1.2.2.1)]:List Y1)++(pb y1.2.1 y1.2.2.2.1 (↑y1.2.1.length:Int))))) (
aj (ai .i64 (y1.2.2.1+1)) (
some (Sum.inl (y1.1,((([]:List Y1)++(pb y1.2.1 0 y1.2.2.2.1))++(([(ix y1.1 y1.2.2.1)]:List Y1)++(pb y1.2.1 y1.2.2.2.1 (↑y1.2.1.length:Int)))),(y1.2.2.1+1))))))))))))))) (
aj (ai .i64 (y1.2.2.1+1)) (
some (Sum.inl (y1.1,y1.2.1,(y1.2.2.1+1))))))) (
some (Sum.inr a1))
theorem g71_0:Nt Js=u3 (q71_0 (l71_1 Js)):=funext fun _=>by kernel_rfl
noncomputable def Nu:=q71_0 L71_1
noncomputable def Al:Zv:=ah (fun x=>Nu x.1 x.2.1 x.2.2)
theorem v71_0:l71_0 Js=Al:=congrArg ah (g71_0.trans (by rw[W5] <;> rfl))
theorem ok71:L.Fn Try.prog 71 91 [(.t 2)] (erase W2):=Fn.ofA aN Try.func71 _ _ (by kernel_rfl)
def Jt:FSh:=⟨⟨[(.v bd)],[]⟩,[bd],0,⟨⟨[(.v bd)],[]⟩,[bd],[],0⟩,false⟩
noncomputable def q71 (l71_0:Zv)(a0:List Y1):Option Y8:=
(l71_0 (a0,([]:List Y1),0)).bind fun y2=>(
some y2)
theorem g71 (a0:List Y1):aO Js Jt [(.t 2)] W2 a0=q71 (l71_0 Js) a0:=by kernel_rfl
noncomputable def p71:=q71 Al
noncomputable def qw:mV:=fun x=>p71 x
theorem v71:aO Js Jt [(.t 2)] W2=qw:=funext fun x=>(g71 x).trans (by rw[v71_0] <;> rfl)
theorem d71:DC Try.prog 71 Jt qw:=aF v71 (ak t71 ok71 (by kernel_rfl))
end Go.Proofs.Ytdkaijofmigmbaa.D
