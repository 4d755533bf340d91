import Derived.Test.YtdkaijofmigmbaaG5o
import Derived.Test.YtdkaijofmigmbaaProg
set_option linter.unusedVariables false
set_option maxRecDepth 100000
namespace Go.Proofs.Ytdkaijofmigmbaa.D
open Go Go.Proofs Go.Proofs.Ytdkaijofmigmbaa.L
def z7:List Ty:=[y7,y7,y7,.bool,.bool,y7,y7,y7,y19]
def j8:List RSh:=[(.slc 0),(.v y7),(.v y7),(.v y7),(.v .bool),(.v .bool),(.v y7)]
def j5:List RSh:=[(.slc 0),(.v y7),(.v y7),(.v y7),(.v .bool),(.v .bool),(.v y7),(.v y7),(.v y7)]
def k7:List (Nat×OSh):=[(0,(.boxT aW)),(1,(.box [.emp,.emp,.emp,.emp])),(2,(.box [(.slr 4),.emp,.emp,.emp])),(3,(.row 3 y7)),(4,(.rows 22 3 y7))]
def k12:List (Nat×OSh):=[(0,(.boxT aW)),(1,(.box [.emp,.emp,.emp,.emp])),(2,(.box [(.slr 3),.emp,.emp,.emp])),(3,(.rows 22 3 y7))]
def k6:List (Nat×OSh):=[(0,(.box [.emp,.emp,.emp,.emp])),(1,(.box [(.slr 2),(.slc 3),(.slc 4),.emp])),(2,(.rows 22 3 y7)),(3,(.row 32 eV)),(4,(.row 3 y7))]
noncomputable def tp (F91:bJ):List FEnt:=[⟨91,pT,F91⟩]
theorem t93:al Try.prog (tp P91):=(aa Rv (by kernel_rfl) ak)
def ka:LSh:=⟨[0,1,10,11],⟨uF,dm⟩,uE,1,[0]⟩
def LZ:List XSh:=[⟨(.exit 0),[0,1,10,11],⟨⟨uF,dm⟩,uE,[0],1⟩⟩]
def Ma:List XSh:=[⟨(.exit 2),[0,1,10,11],⟨⟨uF,dm⟩,uE,[0],1⟩⟩]
def Mb:List XSh:=[⟨(.exit 6),[0,1,10,11],⟨⟨uF,dm⟩,uE,[0],1⟩⟩]
def Mc:List XSh:=[⟨(.exit 8),[0,1,10,11],⟨⟨uF,dm⟩,uE,[0],1⟩⟩]
def Md:List XSh:=[⟨(.exit 4),[0,1,11],⟨⟨G7,dm⟩,IK,[0],1⟩⟩]
noncomputable def Me:=bU Try.prog [] Try.f93 (.s .n (.s .n (.s .n (.s (.b (.l ka LZ .n)) (.s (.b (.l ka Ma .n)) (.s .n (.s .n (.s .n (.s .n (.s (.b (.l ka Md (.b (.s (.b (.l ka Mb .n)) (.s (.b (.l ka Mc .n)) .n))))) .n))))))))))
noncomputable def Mf (T:List FEnt):=aG (xs:=LZ) ka (bf T (sb [1,1,1,0,2,2] Me))
noncomputable def l93_0 (T:List FEnt):=af (Mf T)
noncomputable def FQ (F91:bJ)(a0 a1 a2:Int)(a3:List Int):Option xL:=
cond (decide (a1≤a2)) (
ai (aC a1 a3.length) (
ai (aC a0 a3.length) (
(F91 ((ix a3 a1),(ix a3 a0))).bind fun r1=>(
cond r1 (
ai (ah .i64 (a1+1)) (
some (Sum.inl (a0,(a1+1),a2,a3)))) (
some (Sum.inr (a0,a1,a2,a3))))))) (
some (Sum.inr (a0,a1,a2,a3)))
theorem Wq (F91:bJ):Mf (tp F91)=u4 (FQ F91):=funext fun _=>by kernel_rfl
noncomputable def Mg:=FQ P91
noncomputable def FR:sT:=af (fun x=>Mg x.1 x.2.1 x.2.2.1 x.2.2.2)
theorem Wr:l93_0 (tp P91)=FR:=congrArg af (Wq P91)
noncomputable def Mh (T:List FEnt):=aG (xs:=Ma) ka (bf T (sb [1,1,1,1,0,2,2] Me))
noncomputable def l93_1 (T:List FEnt):=af (Mh T)
noncomputable def FS (F91:bJ)(a0 a1 a2:Int)(a3:List Int):Option xL:=
cond (decide (a1≤a2)) (
ai (aC a2 a3.length) (
ai (aC a0 a3.length) (
(F91 ((ix a3 a2),(ix a3 a0))).bind fun r3=>(
cond (!r3) (
ai (ah .i64 (a2-1)) (
some (Sum.inl (a0,a1,(a2-1),a3)))) (
some (Sum.inr (a0,a1,a2,a3))))))) (
some (Sum.inr (a0,a1,a2,a3)))
theorem Ws (F91:bJ):Mh (tp F91)=u4 (FS F91):=funext fun _=>by kernel_rfl
noncomputable def Mi:=FS P91
noncomputable def FT:sT:=af (fun x=>Mi x.1 x.2.1 x.2.2.1 x.2.2.2)
theorem Wt:l93_1 (tp P91)=FT:=congrArg af (Ws P91)
noncomputable def Mj (T:List FEnt):=aG (xs:=Mb) ka (bf T (sb [1,1,1,1,1,1,1,1,1,0,2,2,2,0,2,2] Me))
noncomputable def l93_3 (T:List FEnt):=af (Mj T)
noncomputable def FU (F91:bJ)(a0 a1 a2:Int)(a3:List Int):Option xL:=
cond (decide (a1≤a2)) (
ai (aC a1 a3.length) (
ai (aC a0 a3.length) (
(F91 ((ix a3 a1),(ix a3 a0))).bind fun r5=>(
cond r5 (
ai (ah .i64 (a1+1)) (
some (Sum.inl (a0,(a1+1),a2,a3)))) (
some (Sum.inr (a0,a1,a2,a3))))))) (
some (Sum.inr (a0,a1,a2,a3)))
theorem Wu (F91:bJ):Mj (tp F91)=u4 (FU F91):=funext fun _=>by kernel_rfl
noncomputable def Ml:=FU P91
noncomputable def FX:sT:=af (fun x=>Ml x.1 x.2.1 x.2.2.1 x.2.2.2)
theorem Wv:l93_3 (tp P91)=FX:=congrArg af (Wu P91)
noncomputable def Mm (T:List FEnt):=aG (xs:=Mc) ka (bf T (sb [1,1,1,1,1,1,1,1,1,0,2,2,2,1,0,2,2] Me))
noncomputable def l93_4 (T:List FEnt):=af (Mm T)
noncomputable def FY (F91:bJ)(a0 a1 a2:Int)(a3:List Int):Option xL:=
cond (decide (a1≤a2)) (
ai (aC a2 a3.length) (
ai (aC a0 a3.length) (
(F91 ((ix a3 a2),(ix a3 a0))).bind fun r7=>(
cond (!r7) (
ai (ah .i64 (a2-1)) (
some (Sum.inl (a0,a1,(a2-1),a3)))) (
some (Sum.inr (a0,a1,a2,a3))))))) (
some (Sum.inr (a0,a1,a2,a3)))
theorem Ww (F91:bJ):Mm (tp F91)=u4 (FY F91):=funext fun _=>by kernel_rfl
noncomputable def Mn:=FY P91
noncomputable def FZ:sT:=af (fun x=>Mn x.1 x.2.1 x.2.2.1 x.2.2.2)
theorem Wx:l93_4 (tp P91)=FZ:=congrArg af (Ww P91)
noncomputable def Mo (T:List FEnt):=aG (xs:=Md) ka (bf T (sb [1,1,1,1,1,1,1,1,1,0,2,2] Me))
noncomputable def l93_2 (T:List FEnt):=af (Mo T)
noncomputable def F0 (F91:bJ)(l93_3 l93_4:sT)(a0 a1 a2:Int)(a3:List Int):Option ZD:=
(l93_3 (a0,a1,a2,a3)).bind fun y6=>(
(l93_4 (y6.1,y6.2.1,y6.2.2.1,y6.2.2.2)).bind fun y8=>(
cond (decide (y8.2.2.1 < y8.2.1)) (
some (Sum.inr (y8.1,y8.2.2.1,y8.2.2.2))) (
ai (aC y8.2.2.1 y8.2.2.2.length) (
ai (aC y8.2.1 y8.2.2.2.length) (
ai (aC y8.2.1 y8.2.2.2.length) (
ai (aC y8.2.2.1 (List.length (List.set y8.2.2.2 y8.2.1.toNat (ix y8.2.2.2 y8.2.2.1)))) (
ai (ah .i64 (y8.2.1+1)) (
ai (ah .i64 (y8.2.2.1-1)) (
some (Sum.inl (y8.1,(y8.2.1+1),(y8.2.2.1-1),(List.set (List.set y8.2.2.2 y8.2.1.toNat (ix y8.2.2.2 y8.2.2.1)) y8.2.2.1.toNat (ix y8.2.2.2 y8.2.1)))))))))))))
theorem Wy (F91:bJ):Mo (tp F91)=u4 (F0 F91 (l93_3 (tp F91)) (l93_4 (tp F91))):=funext fun _=>by kernel_rfl
noncomputable def Mp:=F0 P91 FX FZ
noncomputable def F1:Zu:=af (fun x=>Mp x.1 x.2.1 x.2.2.1 x.2.2.2)
theorem Wz:l93_2 (tp P91)=F1:=congrArg af ((Wy P91).trans (by rw[Wv,Wx] <;> rfl))
theorem ok93:L.Fn Try.prog 93 168 [(.t 8),(.t 9)] (erase Me):=Fn.ofA aM Try.func93 _ _ (by kernel_rfl)
def I1:FSh:=⟨⟨uF,dm⟩,uE,1,⟨⟨[(.tup [(.v y7),(.v .bool)])],dm⟩,[y7,.bool,y19],[0],1⟩,false⟩
noncomputable def q93 (F91:bJ)(l93_0 l93_1:sT)(l93_2:Zu)(a0 a1 a2:Int)(a3:List Int):Option Zs:=
ai (aC a2 a3.length) (
ai (aC a0 a3.length) (
ai (aC a0 a3.length) (
ai (aC a2 (List.length (List.set a3 a0.toNat (ix a3 a2)))) (
ai (ah .i64 (a0+1)) (
ai (ah .i64 (a1-1)) (
(l93_0 (a0,(a0+1),(a1-1),(List.set (List.set a3 a0.toNat (ix a3 a2)) a2.toNat (ix a3 a0)))).bind fun y2=>(
(l93_1 (y2.1,y2.2.1,y2.2.2.1,y2.2.2.2)).bind fun y4=>(
cond (decide (y4.2.2.1 < y4.2.1)) (
ai (aC y4.1 y4.2.2.2.length) (
ai (aC y4.2.2.1 y4.2.2.2.length) (
ai (aC y4.2.2.1 y4.2.2.2.length) (
ai (aC y4.1 (List.length (List.set y4.2.2.2 y4.2.2.1.toNat (ix y4.2.2.2 y4.1)))) (
some (y4.2.2.1,true,(List.set (List.set y4.2.2.2 y4.2.2.1.toNat (ix y4.2.2.2 y4.1)) y4.1.toNat (ix y4.2.2.2 y4.2.2.1)))))))) (
ai (aC y4.2.2.1 y4.2.2.2.length) (
ai (aC y4.2.1 y4.2.2.2.length) (
ai (aC y4.2.1 y4.2.2.2.length) (
ai (aC y4.2.2.1 (List.length (List.set y4.2.2.2 y4.2.1.toNat (ix y4.2.2.2 y4.2.2.1)))) (
ai (ah .i64 (y4.2.1+1)) (
ai (ah .i64 (y4.2.2.1-1)) (
(l93_2 (y4.1,(y4.2.1+1),(y4.2.2.1-1),(List.set (List.set y4.2.2.2 y4.2.1.toNat (ix y4.2.2.2 y4.2.2.1)) y4.2.2.1.toNat (ix y4.2.2.2 y4.2.1)))).bind fun y9=>(
ai (aC y9.1 y9.2.2.length) (
ai (aC y9.2.1 y9.2.2.length) (
ai (aC y9.2.1 y9.2.2.length) (
ai (aC y9.1 (List.length (List.set y9.2.2 y9.2.1.toNat (ix y9.2.2 y9.1)))) (
some (y9.2.1,false,(List.set (List.set y9.2.2 y9.2.1.toNat (ix y9.2.2 y9.1)) y9.1.toNat (ix y9.2.2 y9.2.1)))))))))))))))))))))))
theorem g93 (F91:bJ):aO (tp F91) I1 [(.t 8),(.t 9)] Me=u4 (q93 F91 (l93_0 (tp F91)) (l93_1 (tp F91)) (l93_2 (tp F91))):=funext fun _=>by kernel_rfl
noncomputable def p93:=q93 P91 FR FT F1
noncomputable def pW:nD:=fun x=>p93 x.1 x.2.1 x.2.2.1 x.2.2.2
theorem v93:aO (tp P91) I1 [(.t 8),(.t 9)] Me=pW:=(g93 P91).trans (by rw[Wr,Wt,Wz] <;> rfl)
theorem d93:DC Try.prog 93 I1 pW:=aD v93 (aj t93 ok93 (by kernel_rfl))
def sN:FSh:=⟨⟨uF,dm⟩,uE,1,⟨⟨pc,dm⟩,[y19],[0],1⟩,false⟩
noncomputable def xC (F85:dP)(F86:dP)(F87:dP)(F88:nB)(F89:dP)(F90:nC)(F91:bJ)(F92:lF)(F93:nD)(F66:cE):List FEnt:=[⟨85,IS,F85⟩,⟨86,IV,F86⟩,⟨87,IW,F87⟩,⟨88,IX,F88⟩,⟨89,IY,F89⟩,⟨90,IZ,F90⟩,⟨91,pT,F91⟩,⟨92,I0,F92⟩,⟨93,I1,F93⟩,⟨66,sN,F66⟩]
theorem t66 (F66:cE)(h:DC Try.prog 66 sN F66):al Try.prog (xC qU qV pU qW qX qZ P91 re pW F66):=(aa d85 (by kernel_rfl) (aa d86 (by kernel_rfl) (aa d87 (by kernel_rfl) (aa d88 (by kernel_rfl) (aa d89 (by kernel_rfl) (aa d90 (by kernel_rfl) (aa Rv (by kernel_rfl) (aa d92 (by kernel_rfl) (aa d93 (by kernel_rfl) (aa h (by kernel_rfl) ak))))))))))
def Mq:LSh:=⟨[0,1,2,3,8,9,10],⟨j8,dm⟩,[y7,y7,y7,.bool,.bool,y7,y19],1,[0]⟩
def Mr:List XSh:=[⟨.normal,[0,1,2,3,8,9,10],⟨⟨j8,dm⟩,[y7,y7,y7,.bool,.bool,y7,y19],[0],1⟩⟩]
def zM:LSh:=⟨[0,1,2,3,8,9,10,11,12],⟨j5,dm⟩,z7,1,[0]⟩
def Ms:List XSh:=[⟨.normal,[0,1,2,3,8,9,10,11,12],⟨⟨j5,dm⟩,z7,[0],1⟩⟩]
def Mu:List XSh:=[⟨.ret,[],⟨⟨[],dm⟩,[y19],[0],1⟩⟩,⟨.normal,[0,1,2,3,8,9,10,11],⟨⟨[(.slc 0),(.v y7),(.v y7),(.v y7),(.v .bool),(.v .bool),(.v y7),(.v y7)],dm⟩,[y7,y7,y7,.bool,.bool,y7,y7,y19],[0],1⟩⟩]
def Mw:LSh:=⟨[0,1,2,3,8,9],⟨[(.slc 0),(.v y7),(.v y7),(.v y7),(.v .bool),(.v .bool)],dm⟩,[y7,y7,y7,.bool,.bool,y19],1,[0]⟩
def Mx:List XSh:=[⟨.ret,[],⟨⟨[],dm⟩,[y19],[0],1⟩⟩]
noncomputable def RL:=bU Try.prog [] Try.f66 (.s .n (.s .n (.b (.l Mw Mx (.b (.s .n (.s .n (.s .n (.s (.o Mq Mr .n) (.s .n (.s (.o zM Ms .n) (.s (.o zM Mu .n) .n))))))))))))
noncomputable def l66_1 (T:List FEnt):=eZ (xs:=Mr) Mq (bf T (sb [1,1,2,2,2,1,1,1,0,2] RL))
noncomputable def zN (F85 F86 F87:dP)(F88:nB)(F89:dP)(F90:nC)(F91:bJ)(F92:lF)(F93:nD)(F66:cE)(a0 a1 a2:Int)(a3 a4:Bool)(a5:Int)(a6:List Int):Option Zq:=
cond (!a3) (
(F87 (a0,a1,a6)).bind fun r3=>(
ai (ah .i64 (a2-1)) (
some (a0,a1,(a2-1),a3,a4,a5,r3)))) (
some (a0,a1,a2,a3,a4,a5,a6))
theorem WA (F85 F86 F87:dP)(F88:nB)(F89:dP)(F90:nC)(F91:bJ)(F92:lF)(F93:nD)(F66:cE):l66_1 (xC F85 F86 F87 F88 F89 F90 F91 F92 F93 F66)=u7 (zN F85 F86 F87 F88 F89 F90 F91 F92 F93 F66):=funext fun _=>by kernel_rfl
noncomputable def F2 (F66:cE):=zN qU qV pU qW qX qZ P91 re pW F66
noncomputable def uN (F66:cE):Zv:=fun x=>F2 F66 x.1 x.2.1 x.2.2.1 x.2.2.2.1 x.2.2.2.2.1 x.2.2.2.2.2.1 x.2.2.2.2.2.2
theorem WB (F66:cE):l66_1 (xC qU qV pU qW qX qZ P91 re pW F66)=uN F66:=WA qU qV pU qW qX qZ P91 re pW F66
noncomputable def l66_2 (T:List FEnt):=eZ (xs:=Ms) zM (bf T (sb [1,1,2,2,2,1,1,1,1,1,0,2] RL))
noncomputable def F3 (F85 F86 F87:dP)(F88:nB)(F89:dP)(F90:nC)(F91:bJ)(F92:lF)(F93:nD)(F66:cE)(a0 a1 a2:Int)(a3 a4:Bool)(a5 a6 a7:Int)(a8:List Int):Option Zr:=
cond (decide (a7=2)) (
(F89 (a0,a1,a8)).bind fun r6=>(
ai (ah .i64 (a1-1)) (
ai (ah .i64 (a6-a0)) (
ai (ah .i64 ((a1-1)-(a6-a0))) (
some (a0,a1,a2,a3,a4,a5,((a1-1)-(a6-a0)),1,r6)))))) (
some (a0,a1,a2,a3,a4,a5,a6,a7,a8))
theorem WC (F85 F86 F87:dP)(F88:nB)(F89:dP)(F90:nC)(F91:bJ)(F92:lF)(F93:nD)(F66:cE):l66_2 (xC F85 F86 F87 F88 F89 F90 F91 F92 F93 F66)=u9 (F3 F85 F86 F87 F88 F89 F90 F91 F92 F93 F66):=funext fun _=>by kernel_rfl
noncomputable def My (F66:cE):=F3 qU qV pU qW qX qZ P91 re pW F66
noncomputable def zO (F66:cE):Zw:=fun x=>My F66 x.1 x.2.1 x.2.2.1 x.2.2.2.1 x.2.2.2.2.1 x.2.2.2.2.2.1 x.2.2.2.2.2.2.1 x.2.2.2.2.2.2.2.1 x.2.2.2.2.2.2.2.2
theorem WD (F66:cE):l66_2 (xC qU qV pU qW qX qZ P91 re pW F66)=zO F66:=WC qU qV pU qW qX qZ P91 re pW F66
noncomputable def l66_3 (T:List FEnt):=eZ (xs:=Mu) zM (bf T (sb [1,1,2,2,2,1,1,1,1,1,1,0,2] RL))
noncomputable def F4 (F85 F86 F87:dP)(F88:nB)(F89:dP)(F90:nC)(F91:bJ)(F92:lF)(F93:nD)(F66:cE)(a0 a1 a2:Int)(a3 a4:Bool)(a5 a6 a7:Int)(a8:List Int):Option ZE:=
cond a3 (
cond a4 (
cond (decide (a7=1)) (
(F90 (a0,a1,a8)).bind fun r8=>(
cond r8.1 (
some (Sum.inl r8.2)) (
some (Sum.inr (a0,a1,a2,a3,a4,a5,a6,r8.2))))) (
some (Sum.inr (a0,a1,a2,a3,a4,a5,a6,a8)))) (
some (Sum.inr (a0,a1,a2,a3,a4,a5,a6,a8)))) (
some (Sum.inr (a0,a1,a2,a3,a4,a5,a6,a8)))
theorem WE (F85 F86 F87:dP)(F88:nB)(F89:dP)(F90:nC)(F91:bJ)(F92:lF)(F93:nD)(F66:cE):l66_3 (xC F85 F86 F87 F88 F89 F90 F91 F92 F93 F66)=u9 (F4 F85 F86 F87 F88 F89 F90 F91 F92 F93 F66):=funext fun _=>by kernel_rfl
noncomputable def Mz (F66:cE):=F4 qU qV pU qW qX qZ P91 re pW F66
noncomputable def zP (F66:cE):ZM:=fun x=>Mz F66 x.1 x.2.1 x.2.2.1 x.2.2.2.1 x.2.2.2.2.1 x.2.2.2.2.2.1 x.2.2.2.2.2.2.1 x.2.2.2.2.2.2.2.1 x.2.2.2.2.2.2.2.2
theorem WF (F66:cE):l66_3 (xC qU qV pU qW qX qZ P91 re pW F66)=zP F66:=WE qU qV pU qW qX qZ P91 re pW F66
noncomputable def MB (T:List FEnt):=aG (xs:=Mx) Mw (bf T (sb [1,1,2,2] RL))
noncomputable def l66_0 (T:List FEnt):=af (MB T)
noncomputable def uO (F85 F86 F87:dP)(F88:nB)(F89:dP)(F90:nC)(F91:bJ)(F92:lF)(F93:nD)(F66:cE)(l66_1:Zv)(l66_2:Zw)(l66_3:ZM)(a0 a1 a2:Int)(a3 a4:Bool)(a5:List Int):Option ZF:=
ai (ah .i64 (a1-a0)) (
cond (decide ((a1-a0)≤12)) (
(F85 (a0,a1,a5)).bind fun r1=>(
some (Sum.inr r1))) (
cond (decide (a2=0)) (
(F86 (a0,a1,a5)).bind fun r2=>(
some (Sum.inr r2))) (
(l66_1 (a0,a1,a2,a3,a4,(a1-a0),a5)).bind fun y4=>(
(F88 (y4.1,y4.2.1,y4.2.2.2.2.2.2)).bind fun r5=>(
(l66_2 (y4.1,y4.2.1,y4.2.2.1,y4.2.2.2.1,y4.2.2.2.2.1,y4.2.2.2.2.2.1,r5.1,r5.2.1,r5.2.2)).bind fun y7=>(
(l66_3 (y7.1,y7.2.1,y7.2.2.1,y7.2.2.2.1,y7.2.2.2.2.1,y7.2.2.2.2.2.1,y7.2.2.2.2.2.2.1,y7.2.2.2.2.2.2.2.1,y7.2.2.2.2.2.2.2.2)).bind (fun y9=>Sum.elim (fun y10=>(
some (Sum.inr y10))) (fun y11=>(
cond (decide (0 < y11.1)) (
ai (ah .i64 (y11.1-1)) (
ai (aC (y11.1-1) y11.2.2.2.2.2.2.2.length) (
ai (aC y11.2.2.2.2.2.2.1 y11.2.2.2.2.2.2.2.length) (
(F91 ((ix y11.2.2.2.2.2.2.2 (y11.1-1)),(ix y11.2.2.2.2.2.2.2 y11.2.2.2.2.2.2.1))).bind fun r12=>(
cond (!r12) (
(F92 (y11.1,y11.2.1,y11.2.2.2.2.2.2.1,y11.2.2.2.2.2.2.2)).bind fun r13=>(
some (Sum.inl (r13.1,y11.2.1,y11.2.2.1,y11.2.2.2.1,y11.2.2.2.2.1,r13.2)))) (
(F93 (y11.1,y11.2.1,y11.2.2.2.2.2.2.1,y11.2.2.2.2.2.2.2)).bind fun r14=>(
ai (ah .i64 (r14.1-y11.1)) (
ai (ah .i64 (y11.2.1-r14.1)) (
ai (ah .i64 (Int.tdiv y11.2.2.2.2.2.1 8)) (
cond (decide ((r14.1-y11.1) < (y11.2.1-r14.1))) (
(F66 (y11.1,r14.1,y11.2.2.1,r14.2.2)).bind fun r15=>(
ai (ah .i64 (r14.1+1)) (
some (Sum.inl ((r14.1+1),y11.2.1,y11.2.2.1,decide ((Int.tdiv y11.2.2.2.2.2.1 8)≤(r14.1-y11.1)),r14.2.1,r15))))) (
ai (ah .i64 (r14.1+1)) (
(F66 ((r14.1+1),y11.2.1,y11.2.2.1,r14.2.2)).bind fun r16=>(
some (Sum.inl (y11.1,r14.1,y11.2.2.1,decide ((Int.tdiv y11.2.2.2.2.2.1 8)≤(y11.2.1-r14.1)),r14.2.1,r16))))))))))))))) (
(F93 (y11.1,y11.2.1,y11.2.2.2.2.2.2.1,y11.2.2.2.2.2.2.2)).bind fun r17=>(
ai (ah .i64 (r17.1-y11.1)) (
ai (ah .i64 (y11.2.1-r17.1)) (
ai (ah .i64 (Int.tdiv y11.2.2.2.2.2.1 8)) (
cond (decide ((r17.1-y11.1) < (y11.2.1-r17.1))) (
(F66 (y11.1,r17.1,y11.2.2.1,r17.2.2)).bind fun r18=>(
ai (ah .i64 (r17.1+1)) (
some (Sum.inl ((r17.1+1),y11.2.1,y11.2.2.1,decide ((Int.tdiv y11.2.2.2.2.2.1 8)≤(r17.1-y11.1)),r17.2.1,r18))))) (
ai (ah .i64 (r17.1+1)) (
(F66 ((r17.1+1),y11.2.1,y11.2.2.1,r17.2.2)).bind fun r19=>(
some (Sum.inl (y11.1,r17.1,y11.2.2.1,decide ((Int.tdiv y11.2.2.2.2.2.1 8)≤(y11.2.1-r17.1)),r17.2.1,r19)))))))))))) y9)))))))
theorem WG (F85 F86 F87:dP)(F88:nB)(F89:dP)(F90:nC)(F91:bJ)(F92:lF)(F93:nD)(F66:cE):MB (xC F85 F86 F87 F88 F89 F90 F91 F92 F93 F66)=u6 (uO F85 F86 F87 F88 F89 F90 F91 F92 F93 F66 (l66_1 (xC F85 F86 F87 F88 F89 F90 F91 F92 F93 F66)) (l66_2 (xC F85 F86 F87 F88 F89 F90 F91 F92 F93 F66)) (l66_3 (xC F85 F86 F87 F88 F89 F90 F91 F92 F93 F66))):=funext fun _=>by kernel_rfl
noncomputable def ph (F66:cE):=uO qU qV pU qW qX qZ P91 re pW F66 (uN F66) (zO F66) (zP F66)
noncomputable def zQ (F66:cE):Zp:=af (fun x=>ph F66 x.1 x.2.1 x.2.2.1 x.2.2.2.1 x.2.2.2.2.1 x.2.2.2.2.2)
theorem WH (F66:cE):l66_0 (xC qU qV pU qW qX qZ P91 re pW F66)=zQ F66:=congrArg af ((WG qU qV pU qW qX qZ P91 re pW F66).trans (by rw[WB F66,WD F66,WF F66] <;> rfl))
theorem WI:L.Fn Try.prog 66 134 [] (erase RL):=Fn.ofA aM Try.func66 _ _ (by kernel_rfl)
noncomputable def q66 (F85 F86 F87:dP)(F88:nB)(F89:dP)(F90:nC)(F91:bJ)(F92:lF)(F93:nD)(F66:cE)(l66_0:Zp)(a0 a1 a2:Int)(a3:List Int):Option Y2:=
(l66_0 (a0,a1,a2,true,true,a3)).bind fun y20=>(
some y20)
theorem g66 (F85 F86 F87:dP)(F88:nB)(F89:dP)(F90:nC)(F91:bJ)(F92:lF)(F93:nD)(F66:cE):aO (xC F85 F86 F87 F88 F89 F90 F91 F92 F93 F66) sN [] RL=u4 (q66 F85 F86 F87 F88 F89 F90 F91 F92 F93 F66 (l66_0 (xC F85 F86 F87 F88 F89 F90 F91 F92 F93 F66))):=funext fun _=>by kernel_rfl
noncomputable def TJ (F66:cE):=q66 qU qV pU qW qX qZ P91 re pW F66 (zQ F66)
noncomputable def tq:Nat→Int×Int×Int×Y2→Option Y2
  | 0=>fun _=>none
  | n+1=>fun x=>TJ (tq n) x.1 x.2.1 x.2.2.1 x.2.2.2
noncomputable def P66:cE:=tq 18446744073709551616
theorem v66 (F66:cE):aO (xC qU qV pU qW qX qZ P91 re pW F66) sN [] RL=fun x=>TJ F66 x.1 x.2.1 x.2.2.1 x.2.2.2:=(g66 qU qV pU qW qX qZ P91 re pW F66).trans (by rw[WH F66] <;> rfl)
theorem D66:∀ n,DC Try.prog 66 sN (tq n)
  | 0=>yP (aj (sh:=sN) ak WI (by kernel_rfl)).1
  | n+1=>aD (v66 (tq n)) (aj (sh:=sN) (t66 (tq n) (D66 n)) WI (by kernel_rfl))
theorem d66:DC Try.prog 66 sN P66:=D66 _
noncomputable def T44 (F67:nv)(F66:cE):List FEnt:=[⟨67,Bq,F67⟩,⟨66,sN,F66⟩]
theorem t44:al Try.prog (T44 P67 P66):=(aa d67 (by kernel_rfl) (aa d66 (by kernel_rfl) ak))
noncomputable def c44:=bU Try.prog [] Try.f44 .n
theorem ok44:L.Fn Try.prog 44 11 [] (erase c44):=Fn.ofA aM Try.func44 _ _ (by kernel_rfl)
def I2:FSh:=⟨⟨Bi,dm⟩,[y19],1,⟨⟨pc,dm⟩,[y19],[0],1⟩,false⟩
noncomputable def q44 (F67:nv)(F66:cE)(a0:List Int):Option Y2:=
ai (ah .u64 (↑a0.length:Int)) (
(F67 (↑a0.length:Int)).bind fun r1=>(
(F66 (0,(↑a0.length:Int),r1,a0)).bind fun r2=>(
some r2)))
theorem g44 (F67:nv)(F66:cE)(a0:List Int):aO (T44 F67 F66) I2 [] c44 a0=q44 F67 F66 a0:=by kernel_rfl
noncomputable def p44:=q44 P67 P66
noncomputable def F5:BM:=fun x=>p44 x
theorem v44:aO (T44 P67 P66) I2 [] c44=F5:=funext fun x=>(g44 P67 P66 x)
theorem d44:DC Try.prog 44 I2 F5:=aD v44 (aj t44 ok44 (by kernel_rfl))
noncomputable def I3:List FEnt:=[]
theorem t45:al Try.prog I3:=ak
def MC:LSh:=⟨[0,3,4,5],⟨[(.slc 0),(.v y7),(.slo 0 1),(.v y7)],dm⟩,K8,1,[0]⟩
def MD:List XSh:=[⟨(.exit 2),[0,3],⟨⟨PL,dm⟩,[y7,y19],[0],1⟩⟩]
def ME:LSh:=⟨[0,3],⟨PL,dm⟩,[y7,y19],1,[]⟩
def MF:List XSh:=[⟨.ret,[2],⟨⟨Bi,dm⟩,[y19],[],1⟩⟩,⟨(.exit 0),[0],⟨⟨Bi,dm⟩,[y19],[],1⟩⟩]
noncomputable def WJ:=bU Try.prog [(7,{ch:=[0,0,1,0] }),(14,{ch:=[0,0,1,0] }),(15,{ch:=[0,0,2,0] })] Try.f45 (.s .n (.s .n (.s (.s .n (.b (.l ME MF (.s .n (.s (.b (.s .n (.s (.s .n (.s (.s .n (.b (.l MC MD .n))) .n)) .n))) .n))))) .n)))
noncomputable def MG (T:List FEnt):=aG (xs:=MD) MC (bf T (sb [1,1,0,1,2,2,1,0,2,1,0,1,0,1,2,2] WJ))
noncomputable def l45_1 (T:List FEnt):=af (MG T)
noncomputable def zR (a0 a1 a2 a3:Int)(a4:List Int):Option ZG:=
cond (decide (a3 < (↑a2.toNat:Int))) (
ai (aC a3 a2.toNat) (
ai (ah .i64 (a3-1)) (
ai (aC (a3-1) a2.toNat) (
cond (!decide ((wm a4 (a1.toNat+Int.toNat a3))=(wm a4 (a1.toNat+Int.toNat (a3-1))))) (
ai (aC a3 a2.toNat) (
ai (aC a0 a4.length) (
ai (ah .i64 (a0+1)) (
ai (ah .i64 (a3+1)) (
some (Sum.inl ((a0+1),(↑a1.toNat:Int),(↑a2.toNat:Int),(a3+1),(List.set a4 a0.toNat (wm a4 (a1.toNat+Int.toNat a3)))))))))) (
ai (ah .i64 (a3+1)) (
some (Sum.inl (a0,(↑a1.toNat:Int),(↑a2.toNat:Int),(a3+1),a4)))))))) (
some (Sum.inr (a0,a4)))
theorem WK:MG I3=u5 zR:=funext fun _=>by kernel_rfl
noncomputable def F6:=zR
noncomputable def F7:Zx:=af (fun x=>F6 x.1 x.2.1 x.2.2.1 x.2.2.2.1 x.2.2.2.2)
theorem WL:l45_1 I3=F7:=congrArg af WK
noncomputable def MH (T:List FEnt):=aG (xs:=MF) ME (bf T (sb [1,1,0,1,2,2] WJ))
noncomputable def l45_0 (T:List FEnt):=af (MH T)
noncomputable def zS (l45_1:Zx)(a0:Int)(a1:List Int):Option ZH:=
cond (decide (a0 < (↑a1.length:Int))) (
ai (aC a0 a1.length) (
ai (ah .i64 (a0-1)) (
ai (aC (a0-1) a1.length) (
cond (decide ((ix a1 a0)=(ix a1 (a0-1)))) (
ai (decide (0≤a0)) (
ai (decide (a0≤(↑a1.length:Int))) (
ai (decide ((↑a1.length:Int)≤(↑a1.length:Int))) (
ai (decide (0 < List.length a1)) (
(l45_1 (a0,(↑a0.toNat:Int),(↑(Int.toNat ((↑a1.length:Int)-a0)):Int),1,a1)).bind fun y1=>(
ai (decide (0≤y1.1)) (
ai (decide (y1.1≤(↑y1.2.length:Int))) (
ai (decide ((↑y1.2.length:Int)≤(↑y1.2.length:Int))) (
ai (decide (0 < List.length y1.2)) (
ai (decide (0≤y1.1)) (
ai (decide (y1.1≤(↑(List.length (cS y1.2 y1.1.toNat (Int.toNat ((↑y1.2.length:Int)-y1.1)) 0)):Int))) (
ai (decide (0 < List.length (cS y1.2 y1.1.toNat (Int.toNat ((↑y1.2.length:Int)-y1.1)) 0))) (
some (Sum.inr (Sum.inl (List.take y1.1.toNat (cS y1.2 y1.1.toNat (Int.toNat ((↑y1.2.length:Int)-y1.1)) 0))))))))))))))))) (
ai (ah .i64 (a0+1)) (
some (Sum.inl ((a0+1),a1)))))))) (
some (Sum.inr (Sum.inr a1)))
theorem g45_0:MH I3=u2 (zS (l45_1 I3)):=funext fun _=>by kernel_rfl
noncomputable def zT:=zS F7
noncomputable def zU:Zy:=af (fun x=>zT x.1 x.2)
theorem v45_0:l45_0 I3=zU:=congrArg af (g45_0.trans (by rw[WL] <;> rfl))
theorem ok45:L.Fn Try.prog 45 61 [(.t 2)] (erase WJ):=Fn.ofA aM Try.func45 _ _ (by kernel_rfl)
def I4:FSh:=⟨⟨Bi,dm⟩,[y19],1,⟨⟨Bi,dm⟩,[y19],[],1⟩,false⟩
noncomputable def WM (l45_0:Zy)(a0:List Int):Option Y2:=
cond (decide ((↑a0.length:Int) < 2)) (
some a0) (
(l45_0 (1,a0)).bind (fun y2=>Sum.elim (fun y3=>(
some y3)) (fun y4=>(
some y4)) y2))
theorem g45 (a0:List Int):aO I3 I4 [(.t 2)] WJ a0=WM (l45_0 I3) a0:=by kernel_rfl
noncomputable def p45:=WM zU
noncomputable def Ca:BM:=fun x=>p45 x
theorem v45:aO I3 I4 [(.t 2)] WJ=Ca:=funext fun x=>(g45 x).trans (by rw[v45_0] <;> rfl)
theorem d45:DC Try.prog 45 I4 Ca:=aD v45 (aj t45 ok45 (by kernel_rfl))
noncomputable def T16 (F42:eW)(F42v1:mM)(F44:BM)(F45:BM):List FEnt:=[⟨42,xy,F42⟩,⟨42,kK,F42v1⟩,⟨44,I2,F44⟩,⟨45,I4,F45⟩]
theorem t16:al Try.prog (T16 pg P42v1 F5 Ca):=(aa d42 (by kernel_rfl) (aa zE (by kernel_rfl) (aa d44 (by kernel_rfl) (aa d45 (by kernel_rfl) ak))))
noncomputable def c16:=bU Try.prog [] Try.f16 .n
theorem ok16:L.Fn Try.prog 16 30 [(.t 6),(.t 7)] (erase c16):=Fn.ofA aM Try.func16 _ _ (by kernel_rfl)
def xD:FSh:=⟨⟨IL,[]⟩,IJ,0,⟨⟨[(.tup PL)],dm⟩,[y7,y19],[],1⟩,true⟩
noncomputable def q16 (F42:eW)(F42v1:mM)(F44 F45:BM)(a0:Y2×Int)(a1:List Y1)(a2:Int):Option G9:=
Kk (F42 (a0,a1,a2,0,1)) (fun r1=>(
cond (!decide (r1=0)) (
some (r1,([]:List Int))) (
none))) (
(F42v1 (a0,a1,a2,0,1)).bind fun r2=>(
cond (!decide (r2.1=0)) (
some (r2.1,([]:List Int))) (
(F44 r2.2.2.2.2.1).bind fun r3=>(
(F45 r3).bind fun r4=>(
some (0,r4))))))
theorem g16 (F42:eW)(F42v1:mM)(F44 F45:BM):aO (T16 F42 F42v1 F44 F45) xD [(.t 6),(.t 7)] c16=u3 (q16 F42 F42v1 F44 F45):=funext fun _=>by kernel_rfl
noncomputable def p16:=q16 pg P42v1 F5 Ca
noncomputable def P16:gq:=fun x=>p16 x.1 x.2.1 x.2.2
theorem v16:aO (T16 pg P42v1 F5 Ca) xD [(.t 6),(.t 7)] c16=P16:=g16 pg P42v1 F5 Ca
theorem d16:DC Try.prog 16 xD P16:=aD v16 (aj t16 ok16 (by kernel_rfl))
noncomputable def TK:List FEnt:=[]
theorem t20:al Try.prog TK:=ak
def MI:LSh:=⟨[0,1,5],⟨[(.v y19),(.v y19),(.v y7)],[]⟩,[y19,y19,y7],0,[]⟩
def rf:List XSh:=[⟨.ret,[4],⟨⟨fk,[]⟩,[.bool],[],0⟩⟩,⟨(.exit 0),[],⟨⟨[],[]⟩,[],[],0⟩⟩]
noncomputable def c20:=bU Try.prog [] Try.f20 (.s .n (.s .n (.s (.s .n (.b (.l MI rf .n))) .n)))
noncomputable def MJ (T:List FEnt):=aG (xs:=rf) MI (bf T (sb [1,1,0,1,2,2] c20))
noncomputable def l20_0 (T:List FEnt):=af (MJ T)
noncomputable def rg (a0 a1:List Int)(a2:Int):Option ZI:=
cond (decide (a2 < (↑a0.length:Int))) (
ai (aC a2 a0.length) (
ai (aC a2 a1.length) (
cond (!decide ((ix a0 a2)=(ix a1 a2))) (
some (Sum.inr (Sum.inl false))) (
ai (ah .i64 (a2+1)) (
some (Sum.inl (a0,a1,(a2+1)))))))) (
some (Sum.inr (Sum.inr ())))
theorem WN:MJ TK=u3 rg:=funext fun _=>by kernel_rfl
noncomputable def MK:=rg
noncomputable def zV:Zt:=af (fun x=>MK x.1 x.2.1 x.2.2)
theorem WO:l20_0 TK=zV:=congrArg af WN
theorem ok20:L.Fn Try.prog 20 26 [(.t 4)] (erase c20):=Fn.ofA aM Try.func20 _ _ (by kernel_rfl)
def xE:FSh:=⟨⟨[(.v y19),(.v y19)],[]⟩,[y19,y19],0,⟨⟨fk,[]⟩,[.bool],[],0⟩,true⟩
noncomputable def q20 (l20_0:Zt)(a0 a1:List Int):Option Bool:=
cond (!decide ((↑a0.length:Int)=(↑a1.length:Int))) (
some false) (
(l20_0 (a0,a1,0)).bind (fun y1=>Sum.elim (fun y2=>(
some y2)) (fun y3=>(
some true)) y1))
theorem g20:aO TK xE [(.t 4)] c20=u2 (q20 (l20_0 TK)):=funext fun _=>by kernel_rfl
noncomputable def p20:=q20 zV
noncomputable def P20:jn:=fun x=>p20 x.1 x.2
theorem v20:aO TK xE [(.t 4)] c20=P20:=g20.trans (by rw[WO] <;> rfl)
theorem d20:DC Try.prog 20 xE P20:=aD v20 (aj t20 ok20 (by kernel_rfl))
noncomputable def T14 (F41:Y98)(F15:dn)(F21:iQ)(F16:gq)(F20:jn):List FEnt:=[⟨41,Ij,F41⟩,⟨15,pS,F15⟩,⟨21,xz,F21⟩,⟨16,xD,F16⟩,⟨20,xE,F20⟩]
theorem t14:al Try.prog (T14 P41 P15 P21 P16 P20):=(aa d41 (by kernel_rfl) (aa VH (by kernel_rfl) (aa d21 (by kernel_rfl) (aa d16 (by kernel_rfl) (aa d20 (by kernel_rfl) ak)))))
noncomputable def c14:=bU Try.prog [] Try.f14 (.s .n (.s .n (.s .n (.s .n (.s .n (.s (.r [.a 25 false y7]) .n))))))
theorem ok14:L.Fn Try.prog 14 61 [(.t 0)] (erase c14):=Fn.ofA aM Try.func14 _ _ (by kernel_rfl)
def pj:FSh:=⟨⟨[],[]⟩,[],0,⟨⟨fk,[]⟩,[.bool],[],0⟩,true⟩
noncomputable def q14 (F41:Y98)(F15:dn)(F21:iQ)(F16:gq)(F20:jn):Option Bool:=
(F41 ()).bind fun r1=>(
(F15 ((r1.2.1,r1.1),r1.2.2,12,2)).bind fun r2=>(
(F21 ((r1.2.1,r1.1),r1.2.2,1,1)).bind fun r3=>(
(F16 ((r1.2.1,r1.1),r1.2.2,12)).bind fun r4=>(
cond (decide (r2.2=0)) (
cond (decide (r3.2.2=0)) (
cond (decide (r4.1=0)) (
cond (((decide (r2.1.1=4)&&decide (r2.1.2.1=(-1)))&&decide (r2.1.2.2.1=(-1)))&&decide (r2.1.2.2.2=2)) (
cond (decide (r3.1=0)) (
cond (decide (r3.2.1=4)) (
(F20 (r4.2,([2]:List Int))).bind fun r5=>(
some r5)) (
some false)) (
some false)) (
some false)) (
some false)) (
some false)) (
some false)))))
theorem g14 (F41:Y98)(F15:dn)(F21:iQ)(F16:gq)(F20:jn):aO (T14 F41 F15 F21 F16 F20) pj [(.t 0)] c14 ()=q14 F41 F15 F21 F16 F20:=by kernel_rfl
noncomputable def p14:Option Bool:=q14 P41 P15 P21 P16 P20
noncomputable def P14:cV:=fun x=>p14
theorem v14:aO (T14 P41 P15 P21 P16 P20) pj [(.t 0)] c14=P14:=funext fun x=>(g14 P41 P15 P21 P16 P20)
theorem WP:DC Try.prog 14 pj P14:=aD v14 (aj t14 ok14 (by kernel_rfl))
noncomputable def T25:List FEnt:=[]
theorem t25:al Try.prog T25:=ak
noncomputable def c25:=bU Try.prog [(2,{ch:=[1,1,0,0,0,0],rs:=[2] })] Try.f25 (.s .n (.s (.r [.a 0 false y7,.a 3 false y7]) (.s (.r [.a 3 true cW]) .n)))
theorem ok25:L.Fn Try.prog 25 15 [(.cell 4 true 2),(.t 5)] (erase c25):=Fn.ofA aM Try.func25 _ _ (by kernel_rfl)
def F8:FSh:=⟨⟨j38,[]⟩,[aW,bc],0,⟨⟨j23,[(0,(.row 3 y7)),(1,(.row 40 cW))]⟩,[y7,y19,bc],[],2⟩,true⟩
noncomputable def q25 (a0:Y2×Int)(a1:List Y1):Option Yp:=
ai (bM 8 (List.length ([]:List Int)+List.length a0.1)) (
ai (bM 40 a1.length) (
some (a0.2,(([]:List Int)++a0.1),a1)))
theorem g25:aO T25 F8 [(.cell 4 true 2),(.t 5)] c25=u2 q25:=funext fun _=>by kernel_rfl
noncomputable def p25:=q25
noncomputable def TL:xN:=fun x=>p25 x.1 x.2
theorem v25:aO T25 F8 [(.cell 4 true 2),(.t 5)] c25=TL:=g25
theorem d25:DC Try.prog 25 F8 TL:=aD v25 (aj t25 ok25 (by kernel_rfl))
noncomputable def T57:List FEnt:=[]
theorem t57:al Try.prog T57:=ak
noncomputable def c57:=bU Try.prog [] Try.f57 .n
theorem ok57:L.Fn Try.prog 57 15 [(.t 6)] (erase c57):=Fn.ofA aM Try.func57 _ _ (by kernel_rfl)
def BA:FSh:=⟨⟨j36,[]⟩,[y7,y7,y7],0,⟨⟨fk,[]⟩,[.bool],[],0⟩,true⟩
noncomputable def q57 (a0 a1 a2:Int):Option Bool:=
cond (decide (a1≤a0)) (
some (decide (a0≤a2))) (
some false)
theorem g57:aO T57 BA [(.t 6)] c57=u3 q57:=funext fun _=>by kernel_rfl
noncomputable def p57:=q57
noncomputable def P57:Y5:=fun x=>p57 x.1 x.2.1 x.2.2
theorem v57:aO T57 BA [(.t 6)] c57=P57:=g57
theorem d57:DC Try.prog 57 BA P57:=aD v57 (aj t57 ok57 (by kernel_rfl))
noncomputable def TM (F57:Y5):List FEnt:=[⟨57,BA,F57⟩]
theorem t37:al Try.prog (TM P57):=(aa d57 (by kernel_rfl) ak)
def ML:LSh:=⟨[1,3],⟨To,[(0,(.boxT aW))]⟩,[y7,aW],1,[0]⟩
def MM:List XSh:=[⟨.ret,[2],⟨⟨fk,[(0,(.boxT aW))]⟩,[.bool,aW],[0],1⟩⟩,⟨(.exit 0),[1],⟨⟨Ie,[(0,(.boxT aW))]⟩,[aW],[0],1⟩⟩]
noncomputable def c37:=bU Try.prog [] Try.f37 (.s .n (.s (.s .n (.b (.l ML MM .n))) .n))
noncomputable def MN (T:List FEnt):=aG (xs:=MM) ML (bf T (sb [1,0,1,2,2] c37))
noncomputable def l37_0 (T:List FEnt):=af (MN T)
noncomputable def rh (F57:Y5)(a0:Int)(a1:Y2×Int):Option ZT:=
cond (decide (a0 < (↑a1.1.length:Int))) (
ai (aC a0 a1.1.length) (
(F57 ((ix a1.1 a0),1,12)).bind fun r1=>(
cond (!r1) (
some (Sum.inr (Sum.inl (false,a1)))) (
ai (ah .i64 (a0+1)) (
some (Sum.inl ((a0+1),a1))))))) (
some (Sum.inr (Sum.inr a1)))
theorem WQ (F57:Y5):MN (TM F57)=u2 (rh F57):=funext fun _=>by kernel_rfl
noncomputable def MO:=rh P57
noncomputable def zW:ZN:=af (fun x=>MO x.1 x.2)
theorem v37_0:l37_0 (TM P57)=zW:=congrArg af (WQ P57)
theorem ok37:L.Fn Try.prog 37 27 [(.t 2)] (erase c37):=Fn.ofA aM Try.func37 _ _ (by kernel_rfl)
def I5:FSh:=⟨⟨[(.st aW)],[]⟩,[aW],0,⟨⟨fk,[]⟩,[.bool],[],0⟩,true⟩
noncomputable def q37 (F57:Y5)(l37_0:ZN)(a0:Y2×Int):Option Bool:=
(l37_0 (0,a0)).bind (fun y2=>Sum.elim (fun y3=>(
some y3.1)) (fun y4=>(
(F57 ((↑y4.1.length:Int),1,6)).bind fun r5=>(
cond r5 (
(F57 (y4.2,1,600)).bind fun r6=>(
some r6)) (
some false)))) y2)
theorem g37 (F57:Y5)(a0:Y2×Int):aO (TM F57) I5 [(.t 2)] c37 a0=q37 F57 (l37_0 (TM F57)) a0:=by kernel_rfl
noncomputable def p37:=q37 P57 zW
noncomputable def P37:lC:=fun x=>p37 x
theorem v37:aO (TM P57) I5 [(.t 2)] c37=P37:=funext fun x=>(g37 P57 x).trans (by rw[v37_0] <;> rfl)
theorem d37:DC Try.prog 37 I5 P37:=aD v37 (aj t37 ok37 (by kernel_rfl))
noncomputable def T50 (F57:Y5):List FEnt:=[⟨57,BA,F57⟩]
theorem t50:al Try.prog (T50 P57):=(aa d57 (by kernel_rfl) ak)
noncomputable def c50:=bU Try.prog [] Try.f50 .n
theorem ok50:L.Fn Try.prog 50 38 [(.t 2)] (erase c50):=Fn.ofA aM Try.func50 _ _ (by kernel_rfl)
def I6:FSh:=⟨⟨[(.st cW)],[]⟩,[cW],0,⟨⟨fk,[]⟩,[.bool],[],0⟩,true⟩
noncomputable def q50 (F57:Y5)(a0:Y1):Option Bool:=
(F57 (a0.1,0,99)).bind fun r1=>(
cond (!r1) (
some false) (
(F57 (a0.2.1,0,9999)).bind fun r2=>(
cond (!r2) (
some false) (
(F57 (a0.2.2.2.1,0,99)).bind fun r3=>(
cond (!r3) (
some false) (
cond (decide (a0.2.2.1=1)) (
(F57 (a0.2.2.2.2,1,12)).bind fun r4=>(
some r4)) (
cond (decide (a0.2.2.1=2)) (
some (decide (a0.2.2.2.2=0))) (
cond (decide (a0.2.2.1=3)) (
some (decide (a0.2.2.2.2=0))) (
some false)))))))))
theorem g50 (F57:Y5)(a0:Y1):aO (T50 F57) I6 [(.t 2)] c50 a0=q50 F57 a0:=by kernel_rfl
noncomputable def p50:=q50 P57
noncomputable def P50:Ap:=fun x=>p50 x
theorem v50:aO (T50 P57) I6 [(.t 2)] c50=P50:=funext fun x=>(g50 P57 x)
theorem d50:DC Try.prog 50 I6 P50:=aD v50 (aj t50 ok50 (by kernel_rfl))
noncomputable def I7 (F37:lC)(F50:Ap):List FEnt:=[⟨37,I5,F37⟩,⟨50,I6,F50⟩]
theorem t27:al Try.prog (I7 P37 P50):=(aa d37 (by kernel_rfl) (aa d50 (by kernel_rfl) ak))
def MP:LSh:=⟨[1,5,6],⟨[(.v bc),(.v y7),(.v y7)],[]⟩,[bc,y7,y7],0,[]⟩
def MQ:List XSh:=[⟨.ret,[4],⟨⟨nr,[]⟩,[y7],[],0⟩⟩,⟨(.exit 2),[1,5],⟨⟨[(.v bc),(.v y7)],[]⟩,[bc,y7],[],0⟩⟩]
def MS:LSh:=⟨[1,5],⟨[(.v bc),(.v y7)],[]⟩,[bc,y7],0,[]⟩
noncomputable def WR:=bU Try.prog [] Try.f27 (.s .n (.s .n (.s .n (.s (.s .n (.b (.l MS yW (.s .n (.s (.b (.s .n (.s .n (.b (.l MP MQ .n))))) .n))))) .n))))
noncomputable def MT (T:List FEnt):=aG (xs:=MQ) MP (bf T (sb [1,1,1,0,1,2,2,1,0,2,1,1,2,2] WR))
noncomputable def l27_1 (T:List FEnt):=af (MT T)
noncomputable def ri (F37:lC)(F50:Ap)(a0:List Y1)(a1 a2:Int):Option Z6:=
cond (decide (a2 < a1)) (
ai (aC a2 a0.length) (
ai (aC a1 a0.length) (
cond (decide ((ix a0 a2).1=(ix a0 a1).1)) (
ai (aC a2 a0.length) (
ai (aC a1 a0.length) (
cond (!((((decide ((ix a0 a2).1=(ix a0 a1).1)&&decide ((ix a0 a2).2.1=(ix a0 a1).2.1))&&decide ((ix a0 a2).2.2.1=(ix a0 a1).2.2.1))&&decide ((ix a0 a2).2.2.2.1=(ix a0 a1).2.2.2.1))&&decide ((ix a0 a2).2.2.2.2=(ix a0 a1).2.2.2.2))) (
some (Sum.inr (Sum.inl 41))) (
ai (ah .i64 (a2+1)) (
some (Sum.inl (a0,a1,(a2+1)))))))) (
ai (ah .i64 (a2+1)) (
some (Sum.inl (a0,a1,(a2+1)))))))) (
some (Sum.inr (Sum.inr (a0,a1))))
theorem WS (F37:lC)(F50:Ap):MT (I7 F37 F50)=u3 (ri F37 F50):=funext fun _=>by kernel_rfl
noncomputable def MU:=ri P37 P50
noncomputable def L27_1:Z5:=af (fun x=>MU x.1 x.2.1 x.2.2)
theorem WT:l27_1 (I7 P37 P50)=L27_1:=congrArg af (WS P37 P50)
noncomputable def MV (T:List FEnt):=aG (xs:=yW) MS (bf T (sb [1,1,1,0,1,2,2] WR))
noncomputable def l27_0 (T:List FEnt):=af (MV T)
noncomputable def q27_0 (F37:lC)(F50:Ap)(l27_1:Z5)(a0:List Y1)(a1:Int):Option ZV:=
cond (decide (a1 < (↑a0.length:Int))) (
ai (aC a1 a0.length) (
(F50 (ix a0 a1)).bind fun r2=>(
cond (!r2) (
some (Sum.inr (Sum.inl 41))) (
(l27_1 (a0,a1,0)).bind (fun y3=>Sum.elim (fun y4=>(
some (Sum.inr (Sum.inl y4)))) (fun y5=>(
ai (ah .i64 (y5.2+1)) (
some (Sum.inl (y5.1,(y5.2+1)))))) y3))))) (
some (Sum.inr (Sum.inr ())))
theorem WU (F37:lC)(F50:Ap):MV (I7 F37 F50)=u2 (q27_0 F37 F50 (l27_1 (I7 F37 F50))):=funext fun _=>by kernel_rfl
noncomputable def MW:=q27_0 P37 P50 L27_1
noncomputable def uP:Zz:=af (fun x=>MW x.1 x.2)
theorem WV:l27_0 (I7 P37 P50)=uP:=congrArg af ((WU P37 P50).trans (by rw[WT] <;> rfl))
theorem ok27:L.Fn Try.prog 27 52 [(.t 4)] (erase WR):=Fn.ofA aM Try.func27 _ _ (by kernel_rfl)
def BB:FSh:=⟨⟨j38,[]⟩,[aW,bc],0,⟨⟨nr,[]⟩,[y7],[],0⟩,true⟩
noncomputable def q27 (F37:lC)(F50:Ap)(l27_0:Zz)(a0:Y2×Int)(a1:List Y1):Option Int:=
(F37 a0).bind fun r1=>(
cond (!r1) (
some 40) (
cond (decide (40 < (↑a1.length:Int))) (
some 41) (
(l27_0 (a1,0)).bind (fun y6=>Sum.elim (fun y7=>(
some y7)) (fun y8=>(
some 0)) y6))))
theorem g27 (F37:lC)(F50:Ap):aO (I7 F37 F50) BB [(.t 4)] WR=u2 (q27 F37 F50 (l27_0 (I7 F37 F50))):=funext fun _=>by kernel_rfl
noncomputable def p27:=q27 P37 P50 uP
noncomputable def vN:tt:=fun x=>p27 x.1 x.2
theorem v27:aO (I7 P37 P50) BB [(.t 4)] WR=vN:=(g27 P37 P50).trans (by rw[WV] <;> rfl)
theorem d27:DC Try.prog 27 BB vN:=aD v27 (aj t27 ok27 (by kernel_rfl))
noncomputable def T51 (F27:tt)(F57:Y5):List FEnt:=[⟨27,BB,F27⟩,⟨57,BA,F57⟩]
theorem t51:al Try.prog (T51 vN P57):=(aa d27 (by kernel_rfl) (aa d57 (by kernel_rfl) ak))
noncomputable def c51:=bU Try.prog [] Try.f51 .n
theorem ok51:L.Fn Try.prog 51 31 [(.t 10)] (erase c51):=Fn.ofA aM Try.func51 _ _ (by kernel_rfl)
def BC:FSh:=⟨⟨j20,[]⟩,z14,0,⟨⟨nr,[]⟩,[y7],[],0⟩,true⟩
noncomputable def q51 (F27:tt)(F57:Y5)(a0:Y2×Int)(a1:List Y1)(a2 a3 a4:Int):Option Int:=
(F27 (a0,a1)).bind fun r1=>(
cond (!decide (r1=0)) (
some r1) (
(F57 (a2,0,9999)).bind fun r2=>(
cond (!r2) (
some 1) (
(F57 (a3,0,99)).bind fun r3=>(
cond (!r3) (
some 1) (
(F57 (a4,1,12)).bind fun r4=>(
cond (!r4) (
some 1) (
some 0))))))))
theorem g51 (F27:tt)(F57:Y5):aO (T51 F27 F57) BC [(.t 10)] c51=u5 (q51 F27 F57):=funext fun _=>by kernel_rfl
noncomputable def p51:=q51 vN P57
noncomputable def uQ:eW:=fun x=>p51 x.1 x.2.1 x.2.2.1 x.2.2.2.1 x.2.2.2.2
theorem v51:aO (T51 vN P57) BC [(.t 10)] c51=uQ:=g51 vN P57
theorem d51:DC Try.prog 51 BC uQ:=aD v51 (aj t51 ok51 (by kernel_rfl))
noncomputable def Cb:List FEnt:=[]
theorem t70:al Try.prog Cb:=ak
def MX:LSh:=⟨[1,2,3,4,5,6],⟨[(.ptr 0 0),(.ptr 1 0),(.ptr 2 0),(.v y7),(.slc 3),(.v y7)],k7⟩,[y7,y7,aW,y19,cG],5,[0,1,2,3,4]⟩
def MY:List XSh:=[⟨(.exit 2),[1,2,3,4,5],⟨⟨[(.ptr 0 0),(.ptr 1 0),(.ptr 2 0),(.v y7),(.slc 3)],k7⟩,[y7,aW,y19,cG],[0,1,2,3,4],5⟩⟩]
def MZ:LSh:=⟨[1,2,3,4],⟨[(.ptr 0 0),(.ptr 1 0),(.ptr 2 0),(.v y7)],k12⟩,[y7,aW,cG],4,[0,1,2]⟩
def M0:List XSh:=[⟨(.exit 0),[2,3],⟨⟨[(.ptr 1 0),(.ptr 2 0)],k12⟩,[aW,cG],[0,1,2],4⟩⟩]
def M1:LSh:=⟨[2,3,7],⟨[(.ptr 0 0),(.ptr 1 0),(.v y7)],k6⟩,[y7,cG,gS,y19],5,[0,1,2]⟩
def M2:List XSh:=[⟨(.exit 4),[2,3],⟨⟨[(.ptr 0 0),(.ptr 1 0)],k6⟩,[cG,gS,y19],[0,1,2],5⟩⟩]
noncomputable def TN:=bU Try.prog [] Try.f70 (.s .n (.s .n (.s (.s .n (.b (.l MZ M0 (.s .n (.s (.b (.s (.r [.a 5 false y7]) (.s (.s .n (.b (.l MX MY .n))) (.r [.a 3 true y19,.a 4 true y19])))) .n))))) (.s (.s .n (.b (.l M1 M2 (.s .n (.s (.b (.s (.r [.a 3 true eV,.a 4 true eV]) (.r [.a 2 false y7,.a 3 false y7]))) .n))))) .n))))
noncomputable def M3 (T:List FEnt):=aG (xs:=MY) MX (bf T (sb [1,1,0,1,2,2,1,0,2,1,0,1,2,2] TN))
noncomputable def l70_1 (T:List FEnt):=af (M3 T)
noncomputable def M4 (a0 a1:Int)(a2:Y2×Int)(a3:List Int)(a4:List Y2):Option ZW:=
cond (decide (a1 < (↑a3.length:Int))) (
ai (aC a1 a3.length) (
ai (ah .i64 (a1+1)) (
some (Sum.inl (a0,(a1+1),a2,(List.set a3 a1.toNat (-1)),a4))))) (
some (Sum.inr (a0,a2,a3,a4)))
theorem WW:M3 Cb=u5 M4:=funext fun _=>by kernel_rfl
noncomputable def WX:=M4
noncomputable def M5:ZO:=af (fun x=>WX x.1 x.2.1 x.2.2.1 x.2.2.2.1 x.2.2.2.2)
theorem WY:l70_1 Cb=M5:=congrArg af WW
noncomputable def M6 (T:List FEnt):=aG (xs:=M0) MZ (bf T (sb [1,1,0,1,2,2] TN))
noncomputable def l70_0 (T:List FEnt):=af (M6 T)
noncomputable def M7 (l70_1:ZO)(a0:Int)(a1:Y2×Int)(a2:List Y2):Option ZX:=
cond (decide (a0 < (↑a1.1.length:Int))) (
ai (aC a0 a1.1.length) (
ai (decide (0≤(ix a1.1 a0))) (
ai (decide (8*(ix a1.1 a0)≤140737488355328)) (
(l70_1 (a0,0,a1,(ja (Int.toNat (ix a1.1 a0)) 0:List Int),a2)).bind fun y1=>(
ai (bM 24 (List.length y1.2.2.2+List.length ([y1.2.2.1]:List Y2))) (
ai (ah .i64 (y1.1+1)) (
some (Sum.inl ((y1.1+1),y1.2.1,(y1.2.2.2++([y1.2.2.1]:List Y2))))))))))) (
some (Sum.inr (a1,a2)))
theorem g70_0:M6 Cb=u3 (M7 (l70_1 Cb)):=funext fun _=>by kernel_rfl
noncomputable def WZ:=M7 M5
noncomputable def M8:ZP:=af (fun x=>WZ x.1 x.2.1 x.2.2)
theorem v70_0:l70_0 Cb=M8:=congrArg af (g70_0.trans (by rw[WY] <;> rfl))
noncomputable def M9 (T:List FEnt):=aG (xs:=M2) M1 (bf T (sb [1,1,1,0,1,2,2] TN))
noncomputable def l70_2 (T:List FEnt):=af (M9 T)
noncomputable def Na (a0:Int)(a1:List Y2)(a2:List Y4)(a3:List Int):Option ZY:=
cond (decide (a0≤99)) (
ai (bM 32 (List.length a2+List.length ([(0,((-1),((-1),0)))]:List Y4))) (
ai (bM 8 (List.length a3+List.length ([0]:List Int))) (
ai (ah .i64 (a0+1)) (
some (Sum.inl ((a0+1),a1,(a2++([(0,((-1),((-1),0)))]:List Y4)),(a3++([0]:List Int)))))))) (
some (Sum.inr (a1,a2,a3)))
theorem W0:M9 Cb=u4 Na:=funext fun _=>by kernel_rfl
noncomputable def W1:=Na
noncomputable def Nb:ZQ:=af (fun x=>W1 x.1 x.2.1 x.2.2.1 x.2.2.2)
theorem v70_2:l70_2 Cb=Nb:=congrArg af W0
theorem ok70:L.Fn Try.prog 70 52 [(.cell 2 true 4)] (erase TN):=Fn.ofA aM Try.func70 _ _ (by kernel_rfl)
def I8:FSh:=⟨⟨[(.st aW)],[]⟩,[aW],0,⟨⟨[(.agg [(.slr 0),(.slc 1),(.slc 2),.emp])],[(0,(.rows 22 3 y7)),(1,(.row 32 eV)),(2,(.row 3 y7))]⟩,[cG,gS,y19],[],3⟩,false⟩
noncomputable def q70 (l70_0:ZP)(l70_2:ZQ)(a0:Y2×Int):Option JJ:=
(l70_0 (0,a0,([]:List Y2))).bind fun y2=>(
(l70_2 (0,y2.2,([]:List Y4),([]:List Int))).bind fun y3=>(
some (y3.1,y3.2.1,y3.2.2)))
theorem g70 (a0:Y2×Int):aO Cb I8 [(.cell 2 true 4)] TN a0=q70 (l70_0 Cb) (l70_2 Cb) a0:=by kernel_rfl
noncomputable def p70:=q70 M8 Nb
noncomputable def Cc:uX:=fun x=>p70 x
theorem v70:aO Cb I8 [(.cell 2 true 4)] TN=Cc:=funext fun x=>(g70 x).trans (by rw[v70_0,v70_2] <;> rfl)
theorem d70:DC Try.prog 70 I8 Cc:=aD v70 (aj t70 ok70 (by kernel_rfl))
noncomputable def I9:List FEnt:=[]
theorem t71:al Try.prog I9:=ak
def Nc:LSh:=⟨[0,3,4,5,6,7],⟨[(.v bc),(.v bc),(.v y7),(.v y7),(.v .bool),(.v y7)],[]⟩,[bc,bc,y7,y7,.bool,y7],0,[]⟩
def Nd:List XSh:=[⟨(.exit 2),[0,3,4,5,6],⟨⟨[(.v bc),(.v bc),(.v y7),(.v y7),(.v .bool)],[]⟩,[bc,bc,y7,y7,.bool],[],0⟩⟩]
def Nf:LSh:=⟨[0,3,4],⟨[(.v bc),(.v bc),(.v y7)],[]⟩,[bc,bc,y7],0,[]⟩
def Ng:List XSh:=[⟨(.exit 0),[3],⟨⟨[(.v bc)],[]⟩,[bc],[],0⟩⟩]
noncomputable def W2:=bU Try.prog [(13,{ch:=[0,0,0,0,0,0,0,0,0,0],rs:=[],ord:=[0,1,2,3,5,6,7,4,8,9] })] Try.f71 (.s .n (.s .n (.s (.s .n (.b (.l Nf Ng (.s .n (.s (.b (.s .n (.s (.s .n (.b (.l Nc Nd .n))) (.s (.r [.f 2 3 []]) (.s (.s (.r [.a 6 false cW,.a 7 true cW,.a 8 true cW]) (.r [.a 0 true cW,.a 3 false cW,.a 4 true cW,.a 6 true cW])) .n))))) (.r [.f 3 3 []])))))) .n)))
noncomputable def Nh (T:List FEnt):=aG (xs:=Nd) Nc (bf T (sb [1,1,0,1,2,2,1,0,2,1,0,1,2,2] W2))
noncomputable def l71_1 (T:List FEnt):=af (Nh T)
noncomputable def rj (a0 a1:List Y1)(a2 a3:Int)(a4:Bool)(a5:Int):Option ZZ:=
cond (decide (a5 < (↑a1.length:Int))) (
cond a4 (
ai (aC a5 a1.length) (
ai (aC a2 a0.length) (
cond (decide ((ix a1 a5).2.1 < (ix a0 a2).2.1)) (
ai (ah .i64 (a5+1)) (
ai (ah .i64 (a5+1)) (
some (Sum.inl (a0,a1,a2,(a5+1),true,(a5+1)))))) (
ai (aC a5 a1.length) (
ai (aC a2 a0.length) (
cond (decide ((ix a1 a5).2.1=(ix a0 a2).2.1)) (
ai (aC a5 a1.length) (
ai (aC a2 a0.length) (
cond (decide ((ix a1 a5).1 < (ix a0 a2).1)) (
ai (ah .i64 (a5+1)) (
ai (ah .i64 (a5+1)) (
some (Sum.inl (a0,a1,a2,(a5+1),true,(a5+1)))))) (
ai (ah .i64 (a5+1)) (
some (Sum.inl (a0,a1,a2,a3,true,(a5+1)))))))) (
ai (ah .i64 (a5+1)) (
some (Sum.inl (a0,a1,a2,a3,true,(a5+1))))))))))) (
ai (aC a5 a1.length) (
ai (aC a2 a0.length) (
ai (aC a5 a1.length) (
ai (aC a2 a0.length) (
cond (decide ((ix a1 a5).2.1 < (ix a0 a2).2.1)) (
ai (ah .i64 (a5+1)) (
ai (ah .i64 (a5+1)) (
some (Sum.inl (a0,a1,a2,(a5+1),((((decide ((ix a1 a5).1=(ix a0 a2).1)&&decide ((ix a1 a5).2.1=(ix a0 a2).2.1))&&decide ((ix a1 a5).2.2.1=(ix a0 a2).2.2.1))&&decide ((ix a1 a5).2.2.2.1=(ix a0 a2).2.2.2.1))&&decide ((ix a1 a5).2.2.2.2=(ix a0 a2).2.2.2.2)),(a5+1)))))) (
ai (aC a5 a1.length) (
ai (aC a2 a0.length) (
cond (decide ((ix a1 a5).2.1=(ix a0 a2).2.1)) (
ai (aC a5 a1.length) (
ai (aC a2 a0.length) (
cond (decide ((ix a1 a5).1 < (ix a0 a2).1)) (
ai (ah .i64 (a5+1)) (
ai (ah .i64 (a5+1)) (
some (Sum.inl (a0,a1,a2,(a5+1),((((decide ((ix a1 a5).1=(ix a0 a2).1)&&decide ((ix a1 a5).2.1=(ix a0 a2).2.1))&&decide ((ix a1 a5).2.2.1=(ix a0 a2).2.2.1))&&decide ((ix a1 a5).2.2.2.1=(ix a0 a2).2.2.2.1))&&decide ((ix a1 a5).2.2.2.2=(ix a0 a2).2.2.2.2)),(a5+1)))))) (
ai (ah .i64 (a5+1)) (
some (Sum.inl (a0,a1,a2,a3,((((decide ((ix a1 a5).1=(ix a0 a2).1)&&decide ((ix a1 a5).2.1=(ix a0 a2).2.1))&&decide ((ix a1 a5).2.2.1=(ix a0 a2).2.2.1))&&decide ((ix a1 a5).2.2.2.1=(ix a0 a2).2.2.2.1))&&decide ((ix a1 a5).2.2.2.2=(ix a0 a2).2.2.2.2)),(a5+1)))))))) (
ai (ah .i64 (a5+1)) (
some (Sum.inl (a0,a1,a2,a3,((((decide ((ix a1 a5).1=(ix a0 a2).1)&&decide ((ix a1 a5).2.1=(ix a0 a2).2.1))&&decide ((ix a1 a5).2.2.1=(ix a0 a2).2.2.1))&&decide ((ix a1 a5).2.2.2.1=(ix a0 a2).2.2.2.1))&&decide ((ix a1 a5).2.2.2.2=(ix a0 a2).2.2.2.2)),(a5+1)))))))))))))) (
some (Sum.inr (a0,a1,a2,a3,a4)))
theorem W3:Nh I9=u6 rj:=funext fun _=>by kernel_rfl
noncomputable def Ni:=rj
noncomputable def L71_1:ZS:=af (fun x=>Ni x.1 x.2.1 x.2.2.1 x.2.2.2.1 x.2.2.2.2.1 x.2.2.2.2.2)
theorem W5:l71_1 I9=L71_1:=congrArg af W3
noncomputable def Nj (T:List FEnt):=aG (xs:=Ng) Nf (bf T (sb [1,1,0,1,2,2] W2))
noncomputable def l71_0 (T:List FEnt):=af (Nj T)
noncomputable def q71_0 (l71_1:ZS)(a0 a1:List Y1)(a2:Int):Option Z4:=
cond (decide (a2 < (↑a0.length:Int))) (
(l71_1 (a0,a1,a2,0,false,0)).bind fun y1=>(
cond (!y1.2.2.2.2) (
ai (aC y1.2.2.1 y1.1.length) (
ai (decide (0≤y1.2.2.2.1)) (
ai (decide (y1.2.2.2.1≤(↑y1.2.1.length:Int))) (
ai (decide ((↑y1.2.1.length:Int)≤(↑y1.2.1.length:Int))) (
ai (bM 40 (List.length ([(ix y1.1 y1.2.2.1)]:List Y1)+List.length (oL y1.2.1 y1.2.2.2.1 (↑y1.2.1.length:Int)))) (
ai (decide ((0:Int)≤0)) (
ai (decide (0≤y1.2.2.2.1)) (
ai (decide (y1.2.2.2.1≤(↑y1.2.1.length:Int))) (
ai (bM 40 (List.length ([]:List Y1)+List.length (oL y1.2.1 0 y1.2.2.2.1))) (
ai (bM 40 (List.length (([]:List Y1)++(oL y1.2.1 0 y1.2.2.2.1))+List.length (([(ix y1.1 y1.2.2.1)]:List Y1)++(oL y1.2.1 y1.2.2.2.1 (↑y1.2.1.length:Int))))) (
ai (ah .i64 (y1.2.2.1+1)) (
some (Sum.inl (y1.1,((([]:List Y1)++(oL y1.2.1 0 y1.2.2.2.1))++(([(ix y1.1 y1.2.2.1)]:List Y1)++(oL y1.2.1 y1.2.2.2.1 (↑y1.2.1.length:Int)))),(y1.2.2.1+1))))))))))))))) (
ai (ah .i64 (y1.2.2.1+1)) (
some (Sum.inl (y1.1,y1.2.1,(y1.2.2.1+1))))))) (
some (Sum.inr a1))
theorem g71_0:Nj I9=u3 (q71_0 (l71_1 I9)):=funext fun _=>by kernel_rfl
noncomputable def Nk:=q71_0 L71_1
noncomputable def zX:ZB:=af (fun x=>Nk x.1 x.2.1 x.2.2)
theorem v71_0:l71_0 I9=zX:=congrArg af (g71_0.trans (by rw[W5] <;> rfl))
theorem ok71:L.Fn Try.prog 71 91 [(.t 2)] (erase W2):=Fn.ofA aM Try.func71 _ _ (by kernel_rfl)
def Ja:FSh:=⟨⟨[(.v bc)],[]⟩,[bc],0,⟨⟨[(.v bc)],[]⟩,[bc],[],0⟩,false⟩
noncomputable def q71 (l71_0:ZB)(a0:List Y1):Option Y8:=
(l71_0 (a0,([]:List Y1),0)).bind fun y2=>(
some y2)
theorem g71 (a0:List Y1):aO I9 Ja [(.t 2)] W2 a0=q71 (l71_0 I9) a0:=by kernel_rfl
noncomputable def p71:=q71 zX
noncomputable def xF:mL:=fun x=>p71 x
theorem v71:aO I9 Ja [(.t 2)] W2=xF:=funext fun x=>(g71 x).trans (by rw[v71_0] <;> rfl)
theorem d71:DC Try.prog 71 Ja xF:=aD v71 (aj t71 ok71 (by kernel_rfl))
end Go.Proofs.Ytdkaijofmigmbaa.D
