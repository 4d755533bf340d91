import Derived.Test.YtdkaijofmigmbaaG4p
import Derived.Test.YtdkaijofmigmbaaProg
set_option linter.unusedVariables false
set_option maxRecDepth 100000
namespace Go.Proofs.Ytdkaijofmigmbaa.D
open Go Go.Proofs Go.Proofs.Ytdkaijofmigmbaa.L
def k7:List (Nat×OSh):=[(0,(.box [(.v y19),(.slc 1),(.slc 2)])),(1,(.row 3 y7)),(2,(.row 3 y7))]
def k8:List (Nat×OSh):=[(0,(.box [(.v y19),(.slc 2),(.slc 3)])),(2,(.row 3 y7)),(3,(.row 3 y7))]
def Oa:List (Nat×OSh):=[(0,(.boxT cH)),(1,(.boxT y19)),(2,(.row 3 y7))]
def fO:FSh:=⟨⟨[(.ptr 0 0),(.v y19)],k7⟩,[y19,y19,y19,y19],3,⟨⟨lf,k7⟩,[.bool,y19,y19,y19],[0,1,2],3⟩,false⟩
noncomputable def ny (F76:mw)(F64v1:gy):List FEnt:=[⟨76,zF,F76⟩,⟨64,fO,F64v1⟩]
theorem Id (F64v1:gy)(h:DC Try.prog 64 fO F64v1):am Try.prog (ny P76 F64v1):=(ca RY (by kernel_rfl) (ca h (by kernel_rfl) aa))
def sF:LSh:=⟨[0,1,5,6,18,19,20],⟨[(.ptr 0 0),(.v y19),(.v y7),(.slc 1),(.slc 2),(.v y7),(.v y7)],[(0,(.box [(.v y19),(.slc 2),(.slc 3)])),(1,(.row 3 y7)),(2,(.row 3 y7)),(3,(.row 3 y7))]⟩,[y19,y7,y7,y7,y19,y19,y19,y19],4,[0,2,3]⟩
def sG:List XSh:=[⟨.ret,[4],⟨⟨lf,k8⟩,[.bool,y19,y19,y19],[0,2,3],4⟩⟩,⟨(.exit 0),[],⟨⟨[],k8⟩,[y19,y19,y19],[0,2,3],4⟩⟩]
noncomputable def sH:=cI Try.prog [] Try.f64 (.s .n (.s .n (.s .n (.s .n (.s (.s .n (.b (.l sF sG (.s .n (.s .n (.s (.b (.s .n (.s .n (.s (.r [.a 2 false y7,.a 3 false y7]) .n)))) .n)))))) .n)))))
noncomputable def sI (T:List FEnt):=aV (xs:=sG) sF (bR T (sb [1,1,1,1,0,1,2,2] sH))
noncomputable def l64v1_0 (T:List FEnt):=ah (sI T)
noncomputable def q64v1_0 (F76:mw)(F64v1:gy)(a0:List Int)(a1 a2 a3:Int)(a4 a5 a6 a7:List Int):Option ((Y2×Int×Int×Int×Y2×Y2×Y2×Y2)⊕IX):=
cond (decide (a3 < a2)) (
au (bF a3 a6.length) (
au (bF a1 a4.length) (
cond (decide ((ix a6 a3) < (ix a4 a1))) (
au (an .i64 (a3+1)) (
some (Sum.inl (a0,a1,a2,(a3+1),a4,a5,a6,a7)))) (
(F76 (a5,(ix a6 a3))).bind fun r1=>(
cond r1 (
au (an .i64 (a3+1)) (
some (Sum.inl (a0,a1,a2,(a3+1),a4,a5,a6,a7)))) (
au (cp 8 (List.length a5+List.length ([(ix a6 a3)]:List Int))) (
au (bF a3 a6.length) (
au (bF a1 a4.length) (
au (an .i64 ((ix a6 a3)-(ix a4 a1))) (
au (bF a3 a6.length) (
au (bF a1 a7.length) (
au (decide ((0:Int)≤1)) (
au (decide (1≤(↑a0.length:Int))) (
au (decide ((↑a0.length:Int)≤(↑a0.length:Int))) (
(F64v1 ((yi a0 1 (↑a0.length:Int)),a4,(List.set a6 a3.toNat ((ix a6 a3)-(ix a4 a1))),(List.set a7 a1.toNat a3))).bind fun r2=>(
cond r2.1 (
some (Sum.inr (Sum.inl (true,r2.2.1,r2.2.2.1,r2.2.2.2)))) (
au (bF a3 r2.2.2.1.length) (
au (an .i64 (a3+1)) (
some (Sum.inl (a0,a1,a2,(a3+1),r2.2.1,(a5++([(ix a6 a3)]:List Int)),(List.set r2.2.2.1 a3.toNat (ix a6 a3)),r2.2.2.2))))))))))))))))))))) (
some (Sum.inr (Sum.inr (a4,a6,a7))))
theorem zG (F76:mw)(F64v1:gy):sI (ny F76 F64v1)=u8 (q64v1_0 F76 F64v1):=funext fun _=>by kernel_rfl
noncomputable def sJ (F64v1:gy):=q64v1_0 P76 F64v1
noncomputable def L64v1_0 (F64v1:gy):IZ:=ah (u8 (sJ F64v1))
theorem zH (F64v1:gy):l64v1_0 (ny P76 F64v1)=L64v1_0 F64v1:=congrArg ah (zG P76 F64v1)
theorem wY:L.Fn Try.prog 64 78 [(.t 4)] (erase sH):=oA Try.func64
noncomputable def q64v1 (F76:mw)(F64v1:gy)(l64v1_0:IZ)(a0 a1 a2 a3:List Int):Option zT:=
cond (decide ((↑a0.length:Int)=0)) (
some (true,a1,a2,a3)) (
au (bF 0 a0.length) (
(l64v1_0 (a0,(ix a0 0),(↑a2.length:Int),0,a1,([]:List Int),a2,a3)).bind (fun y3=>Sum.elim (fun y4=>(
some (y4.1,y4.2.1,y4.2.2.1,y4.2.2.2))) (fun y5=>(
some (false,y5.1,y5.2.1,y5.2.2))) y3)))
theorem Ie (F76:mw)(F64v1:gy):aQ (ny F76 F64v1) fO [(.t 4)] sH=u4 (q64v1 F76 F64v1 (l64v1_0 (ny F76 F64v1))):=funext fun _=>by kernel_rfl
noncomputable def Cq (F64v1:gy):=q64v1 P76 F64v1 (L64v1_0 F64v1)
noncomputable def R64v1:Nat→Y2×Y2×Y2×Y2→Option zT
  | 0=>fun _=>none
  | n+1=>fun x=>Cq (R64v1 n) x.1 x.2.1 x.2.2.1 x.2.2.2
noncomputable def fl:gy:=R64v1 18446744073709551616
theorem If (F64v1:gy):aQ (ny P76 F64v1) fO [(.t 4)] sH=fun x=>Cq F64v1 x.1 x.2.1 x.2.2.1 x.2.2.2:=(Ie P76 F64v1).trans (by rw[zH F64v1] <;> rfl)
theorem Cr:∀ n,DC Try.prog 64 fO (R64v1 n)
  | 0=>yu (fi (sh:=fO) aa wY (by kernel_rfl)).1
  | n+1=>rP (If (R64v1 n)) (fi (sh:=fO) (Id (R64v1 n) (Cr n)) wY (by kernel_rfl))
theorem Ig:DC Try.prog 64 fO fl:=Cr _
noncomputable def F1 (F48:mw)(F58v1:sM)(F61:ub)(F63:kI)(F64v1:gy):List FEnt:=[⟨48,vU,F48⟩,⟨58,ov,F58v1⟩,⟨61,zC,F61⟩,⟨63,zD,F63⟩,⟨64,fO,F64v1⟩]
theorem RZ:am Try.prog (F1 nt fk P61 sD fl):=dK (dK (dK (dK (dK aa Ig) RS) RO) HZ) NH
def Cs:LSh:=⟨[2,3,6,20,21],⟨[(.ptr 0 0),(.ptr 1 0),(.slc 2),(.v y7),(.v y7)],Oa⟩,[y7,y7,cH,y19,y19],3,[0,1]⟩
def Ct:List XSh:=[⟨(.exit 0),[2,3,6],⟨⟨[(.ptr 0 0),(.ptr 1 0),(.slc 2)],Oa⟩,[cH,y19,y19],[0,1],3⟩⟩]
noncomputable def JO:=cI Try.prog [(12,{ch:=[1,0,1,0,1,0,0,0,0,0],rs:=[3,2],ord:=[0,1,2,4,5,65573,3,6,7,8,9] })] Try.f39 (.s .n (.s .n (.s .n (.s .n (.s (.s .n (.b (.l Cs Ct (.s .n (.s .n (.s (.b (.s .n (.r [.a 2 false y7,.a 3 false y7]))) .n)))))) (.s .n (.s (.r [.a 7 false y7]) (.s (.s (.r [.f 2 6 []]) .n) .n))))))))
noncomputable def Cu (T:List FEnt):=aV (xs:=Ct) Cs (bR T (sb [1,1,1,1,0,1,2,2] JO))
noncomputable def l39_0 (T:List FEnt):=ah (Cu T)
noncomputable def nz (F48:mw)(F58v1:sM)(F61:ub)(F63:kI)(F64v1:gy)(a0 a1:Int)(a2:Y2×Int)(a3 a4:List Int):Option ((Int×Int×pW×Y2×Y2)⊕IW):=
cond (decide (a1 < a0)) (
au (cp 8 (List.length a4+List.length ([a1]:List Int))) (
au (an .i64 (a1+1)) (
some (Sum.inl (a0,(a1+1),a2,a3,(a4++([a1]:List Int))))))) (
some (Sum.inr (a2,a3,a4)))
theorem Ih (F48:mw)(F58v1:sM)(F61:ub)(F63:kI)(F64v1:gy):Cu (F1 F48 F58v1 F61 F63 F64v1)=u5 (nz F48 F58v1 F61 F63 F64v1):=funext fun _=>by kernel_rfl
noncomputable def Cv:=nz nt fk P61 sD fl
noncomputable def sK:I0:=ah (u5 Cv)
theorem Ii:l39_0 (F1 nt fk P61 sD fl)=sK:=congrArg ah (Ih nt fk P61 sD fl)
theorem M4:L.Fn Try.prog 39 49 [(.t 4),(.t 5)] (erase JO):=oA Try.func39
def zI:FSh:=⟨⟨[(.st cH),(.v y19)],[]⟩,[cH,y19],0,⟨⟨[(.tup AK)],iH⟩,[y7,y19],[],1⟩,true⟩
noncomputable def JP (F48:mw)(F58v1:sM)(F61:ub)(F63:kI)(F64v1:gy)(l39_0:I0)(a0:Y2×Int)(a1:List Int):Option CB:=
(F48 a0).bind fun r1=>(
cond (!r1) (
some (40,([]:List Int))) (
cond (decide (12 < (↑a1.length:Int))) (
some (1,([]:List Int))) (
(F58v1 a1).bind fun r2=>(
cond r2 (
some (1,([]:List Int))) (
(l39_0 ((↑a1.length:Int),0,a0,a1,([]:List Int))).bind fun y3=>(
(F61 (y3.2.2,y3.2.1)).bind fun r4=>(
au (decide (0≤(↑r4.2.length:Int))) (
au (decide (8*(↑r4.2.length:Int)≤140737488355328)) (
(F63 y3.1.1).bind fun r5=>(
au (decide (0≤(↑r4.2.length:Int))) (
au (decide (8*(↑r4.2.length:Int)≤140737488355328)) (
(F64v1 (r4.1,r4.2,r5,(dz (Int.toNat (↑r4.2.length:Int)) 0:List Int))).bind fun r6=>(
cond (!r6.1) (
some (3,([]:List Int))) (
some (0,r6.2.2.2)))))))))))))))
theorem R0 (F48:mw)(F58v1:sM)(F61:ub)(F63:kI)(F64v1:gy):aQ (F1 F48 F58v1 F61 F63 F64v1) zI [(.t 4),(.t 5)] JO=u2 (JP F48 F58v1 F61 F63 F64v1 (l39_0 (F1 F48 F58v1 F61 F63 F64v1))):=funext fun _=>by kernel_rfl
noncomputable def R1:=JP nt fk P61 sD fl sK
noncomputable def P39:zU:=u2 R1
theorem R2:aQ (F1 nt fk P61 sD fl) zI [(.t 4),(.t 5)] JO=P39:=(R0 nt fk P61 sD fl).trans (by rw[Ii] <;> rfl)
theorem R3:DC Try.prog 39 zI P39:=dD R2 RZ M4
noncomputable def F2 (F57:Y5):List FEnt:=[⟨57,tS,F57⟩]
theorem R4:am Try.prog (F2 P57):=dK aa Ky
def Cw:LSh:=⟨[1,2,7,8],⟨[(.v y19),(.v y19),(.slc 0),(.v y7)],iH⟩,[y19,y19,y7,y19],1,[0]⟩
def Cx:List XSh:=[⟨.ret,[6],⟨⟨lf,iH⟩,[.bool,y19],[0],1⟩⟩,⟨(.exit 0),[1,2],⟨⟨[(.v y19),(.v y19)],iH⟩,[y19,y19,y19],[0],1⟩⟩]
noncomputable def JQ:=cI Try.prog [] Try.f40 (.s .n (.s (.r [.a 0 false y7,.a 3 false y7]) (.s (.s .n (.b (.l Cw Cx .n))) .n)))
noncomputable def Cy (T:List FEnt):=aV (xs:=Cx) Cw (bR T (sb [1,1,0,1,2,2] JQ))
noncomputable def l40_0 (T:List FEnt):=ah (Cy T)
noncomputable def q40_0 (F57:Y5)(a0 a1:List Int)(a2:Int)(a3:List Int):Option ((Y2×Y2×Int×Y2)⊕IY):=
cond (decide (a2 < (↑a1.length:Int))) (
cond (decide (a2 < (↑a0.length:Int))) (
au (bF a2 a1.length) (
au (an .i64 ((↑a3.length:Int)-1)) (
(F57 ((ix a1 a2),0,((↑a3.length:Int)-1))).bind fun r1=>(
cond (!r1) (
some (Sum.inr (Sum.inl (false,a3)))) (
au (bF a2 a1.length) (
au (bF (ix a1 a2) a3.length) (
au (bF a2 a0.length) (
au (an .i64 ((ix a3 (ix a1 a2))-(ix a0 a2))) (
au (bF (ix a1 a2) a3.length) (
au (bF a2 a1.length) (
au (bF (ix a1 a2) (List.length (List.set a3 (Int.toNat (ix a1 a2)) ((ix a3 (ix a1 a2))-(ix a0 a2))))) (
cond (decide ((ix (List.set a3 (Int.toNat (ix a1 a2)) ((ix a3 (ix a1 a2))-(ix a0 a2))) (ix a1 a2)) < 0)) (
some (Sum.inr (Sum.inl (false,(List.set a3 (Int.toNat (ix a1 a2)) ((ix a3 (ix a1 a2))-(ix a0 a2))))))) (
au (an .i64 (a2+1)) (
some (Sum.inl (a0,a1,(a2+1),(List.set a3 (Int.toNat (ix a1 a2)) ((ix a3 (ix a1 a2))-(ix a0 a2))))))))))))))))))) (
some (Sum.inr (Sum.inr (a0,a1,a3))))) (
some (Sum.inr (Sum.inr (a0,a1,a3))))
theorem Ij (F57:Y5):Cy (F2 F57)=u4 (q40_0 F57):=funext fun _=>by kernel_rfl
noncomputable def Cz:=q40_0 P57
noncomputable def sL:I1:=ah (u4 Cz)
theorem Ik:l40_0 (F2 P57)=sL:=congrArg ah (Ij P57)
theorem M5:L.Fn Try.prog 40 60 [(.t 6)] (erase JQ):=oA Try.func40
def zJ:FSh:=⟨⟨[(.st cH),(.v y19),(.v y19)],[]⟩,[cH,y19,y19],0,⟨⟨lf,[]⟩,[.bool],[],0⟩,true⟩
noncomputable def JR (F57:Y5)(l40_0:I1)(a0:Y2×Int)(a1 a2:List Int):Option Bool:=
au (cp 8 (List.length ([]:List Int)+List.length a0.1)) (
(l40_0 (a1,a2,0,(([]:List Int)++a0.1))).bind (fun y2=>Sum.elim (fun y3=>(
some y3.1)) (fun y4=>(
some (decide ((↑y4.2.1.length:Int)=(↑y4.1.length:Int))))) y2))
theorem R5 (F57:Y5):aQ (F2 F57) zJ [(.t 6)] JQ=u3 (JR F57 (l40_0 (F2 F57))):=funext fun _=>by kernel_rfl
noncomputable def R6:=JR P57 sL
noncomputable def P40:wZ:=u3 R6
theorem R7:aQ (F2 P57) zJ [(.t 6)] JQ=P40:=(R5 P57).trans (by rw[Ik] <;> rfl)
theorem R8:DC Try.prog 40 zJ P40:=dD R7 R4 M5
noncomputable def M6 (F37:mw)(F14:zO)(F38:sM)(F39:zU)(F40:wZ):List FEnt:=[⟨37,yG,F37⟩,⟨14,zq,F14⟩,⟨38,zt,F38⟩,⟨39,zI,F39⟩,⟨40,zJ,F40⟩]
theorem R9:am Try.prog (M6 AP B5 Ca P39 P40):=dK (dK (dK (dK (dK aa R8) R3) Ro) Rk) Pf
noncomputable def M7:=cI Try.prog [] Try.f11 .n
theorem M8:L.Fn Try.prog 11 55 [(.t 6)] (erase M7):=oA Try.func11
def EX:FSh:=⟨⟨[(.st cH),(.v y19),(.v y19)],[]⟩,[cH,y19,y19],0,⟨⟨lf,[]⟩,[.bool],[],0⟩,true⟩
noncomputable def JS (F37:mw)(F14:zO)(F38:sM)(F39:zU)(F40:wZ)(a0:Y2×Int)(a1 a2:List Int):Option Bool:=
(F37 a0).bind fun r1=>(
cond (!r1) (
(F14 ()).bind fun r2=>(
some r2)) (
(F38 a1).bind fun r3=>(
cond (!r3) (
(F14 ()).bind fun r4=>(
some r4)) (
cond (decide (7 < (↑a1.length:Int))) (
(F14 ()).bind fun r5=>(
some r5)) (
cond (decide (20 < (↑a2.length:Int))) (
(F14 ()).bind fun r6=>(
some r6)) (
(F39 (a0,a1)).bind fun r7=>(
cond (!decide (r7.1=0)) (
cond (decide (r7.1=3)) (
(F40 (a0,a1,a2)).bind fun r8=>(
cond (!r8) (
(F14 ()).bind fun r9=>(
some r9)) (
some false))) (
some false)) (
(F40 (a0,a1,r7.2)).bind fun r10=>(
cond r10 (
(F14 ()).bind fun r11=>(
some r11)) (
some false))))))))))
theorem Sa (F37:mw)(F14:zO)(F38:sM)(F39:zU)(F40:wZ):aQ (M6 F37 F14 F38 F39 F40) EX [(.t 6)] M7=u3 (JS F37 F14 F38 F39 F40):=funext fun _=>by kernel_rfl
noncomputable def Sb:=JS AP B5 Ca P39 P40
noncomputable def JT:wZ:=u3 Sb
theorem Sc:aQ (M6 AP B5 Ca P39 P40) EX [(.t 6)] M7=JT:=Sa AP B5 Ca P39 P40
theorem d11:DC Try.prog 11 EX JT:=dD Sc R9 M8
end Go.Proofs.Ytdkaijofmigmbaa.D
