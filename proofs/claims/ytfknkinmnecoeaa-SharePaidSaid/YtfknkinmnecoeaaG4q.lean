import Derived.Test.YtfknkinmnecoeaaG3q
import Derived.Test.YtfknkinmnecoeaaProg
set_option linter.unusedVariables false
set_option maxRecDepth 100000
namespace Go.Proofs.Ytfknkinmnecoeaa.D
open Go Go.Proofs Go.Proofs.Ytfknkinmnecoeaa.L
def Ot:List RSh:=[(.st bx),(.v y3),(.v y8)]
def k5:List (Nat×OSh):=[(0,(.boxT bx)),(1,(.imap 0 false y3))]
def k1:List (Nat×OSh):=[(0,(.boxT bx)),(1,(.box [(.v y3),(.v y3),(.v y3),.emp,.emp,(.v y3),(.v y3),(.v y3),(.v y3)]))]
def k8:List (Nat×OSh):=[(0,(.boxT bx)),(1,(.boxT ej))]
noncomputable def C8 (F27:dG)(F40:cS)(F47:fh)(F63:gu)(F62:gu)(F45:gr):List FEnt:=[⟨27,zz,F27⟩,⟨40,nl,F40⟩,⟨47,rl,F47⟩,⟨63,CX,F63⟩,⟨62,C7,F62⟩,⟨45,zN,F45⟩]
theorem WJ:aq Try.prog (C8 nr P40 P47 qm qn ns):=dK (dK (dK (dK (dK (dK ai Tl) WI) We) Ku) Ee) Ta
def FM:LSh:=⟨[1,2,3,6,7,10,28,29,30],⟨[(.v y3),(.v y8),(.ptr 0 0),.emp,.emp,(.mp 1),(.v y8),(.v y3),(.v y3)],k5⟩,[y3,y8,y8,y3,y3,bx,At],2,[0,1]⟩
def FN:List XSh:=[⟨.ret,[6,7,8],⟨⟨[.emp,.emp,(.v y3)],k5⟩,[y3,bx,At],[0,1],2⟩⟩,⟨(.exit 0),[1,3,6,7,10],⟨⟨[(.v y3),(.ptr 0 0),.emp,.emp,(.mp 1)],k5⟩,[y3,bx,At],[0,1],2⟩⟩]
def FO:LSh:=⟨[1,3,6,7,10,66,67,68],⟨[(.v y3),(.ptr 0 0),(.slc 1),(.slc 2),(.mp 3),(.slc 4),(.v y3),(.v y3)],[(0,(.boxT bx)),(1,(.row 69 y6)),(2,(.row 69 y6)),(3,(.imap 0 false y3)),(4,(.row 33 dE))]⟩,[y3,y3,y3,bx,y8,y8,At,eP],5,[0,3,4]⟩
def FP:List XSh:=[⟨(.exit 2),[6,7],⟨⟨[(.slc 5),(.slc 6)],[(0,(.boxT bx)),(3,(.imap 0 false y3)),(4,(.row 33 dE)),(5,(.row 69 y6)),(6,(.row 69 y6))]⟩,[bx,At,eP,y8,y8],[0,3,4],7⟩⟩]
noncomputable def LE:=cN Try.prog [(19,{ch:=[0,0,0,0,0,0,1,1,0,0],rs:=[17,10],ord:=[0,1,2,4,5,6,7,3,8,9] })] Try.f35 (.s .n (.s .n (.s .n (.s (.r [.a 0 false y3]) (.s (.s .n (.b (.l FM FN .n))) (.s .n (.s (.s .n (.b (.l FO FP (.s .n (.s .n (.s (.b (.s .n (.s .n (.b (.s .n (.s (.r [.a 5 true y6,.a 6 true y6]) (.s .n (.s (.r [.a 6 true y6,.a 7 true y6]) .n)))))))) .n)))))) .n)))))))
noncomputable def FQ (T:List FEnt):=aI (xs:=FN) FM (bG T (sb [1,1,1,1,0,1,2,2] LE))
noncomputable def l35_0 (T:List FEnt):=af (FQ T)
noncomputable def oY (F27:dG)(F40:cS)(F47:fh)(F63 F62:gu)(F45:gr)(a0:Int)(a1 a2:List Y2)(a3 a4:Int)(a5:bg)(a6:List Dt):Option ((Int×Y4×Y4×Int×Int×bg×w6)⊕Nc):=
cond (decide (a4 < a3)) (
an (aZ a4 a2.length) (
(F47 (a5,(ix a2 a4).1)).bind fun r3=>(
cond (!r3.2) (
some (Sum.inr (Sum.inl (82,a5,a6)))) (
(F40 ((ix a2 a4).2,0,1000000000)).bind fun r4=>(
cond (!r4) (
some (Sum.inr (Sum.inl (82,a5,a6)))) (
cond (decide (100 < (↑a1.length:Int))) (
some (Sum.inr (Sum.inl (82,a5,a6)))) (
an (ah .i64 ((sc (bi a6 [(ix a2 a4).1]) 0)+(ix a2 a4).2)) (
an (ah .i64 (a4+1)) (
some (Sum.inl (a0,a1,a2,a3,(a4+1),a5,(cK a6 [(ix a2 a4).1] ((sc (bi a6 [(ix a2 a4).1]) 0)+(ix a2 a4).2))))))))))))) (
some (Sum.inr (Sum.inr (a0,a5,a6))))
theorem LF (F27:dG)(F40:cS)(F47:fh)(F63 F62:gu)(F45:gr):FQ (C8 F27 F40 F47 F63 F62 F45)=u7 (oY F27 F40 F47 F63 F62 F45):=funext fun _=>by kernel_rfl
noncomputable def FR:=oY nr P40 P47 qm qn ns
noncomputable def L35_0:Ng:=af (u7 FR)
theorem LG:l35_0 (C8 nr P40 P47 qm qn ns)=L35_0:=congrArg af (LF nr P40 P47 qm qn ns)
noncomputable def FS (T:List FEnt):=aI (xs:=FP) FO (bG T (sb [1,1,1,1,1,1,0,1,2,2] LE))
noncomputable def l35_1 (T:List FEnt):=af (FS T)
noncomputable def oZ (F27:dG)(F40:cS)(F47:fh)(F63 F62:gu)(F45:gr)(a0 a1 a2:Int)(a3:bg)(a4 a5:List Y2)(a6:List Dt)(a7:List Y7):Option ((Int×Int×Int×bg×Y4×Y4×w6×dc)⊕M7):=
cond (decide (a2 < a1)) (
an (aZ a2 a7.length) (
(F45 (a3,(ix a7 a2),a0)).bind fun r10=>(
an (ah .i64 (r10-(sc (bi a6 [(ix a7 a2).1]) 0))) (
cond (decide (0 < (r10-(sc (bi a6 [(ix a7 a2).1]) 0)))) (
an (bD 16 (List.length a4+List.length ([((ix a7 a2).1,(r10-(sc (bi a6 [(ix a7 a2).1]) 0)))]:List Y2))) (
an (ah .i64 (a2+1)) (
some (Sum.inl (a0,a1,(a2+1),a3,(a4++([((ix a7 a2).1,(r10-(sc (bi a6 [(ix a7 a2).1]) 0)))]:List Y2)),a5,a6,a7))))) (
cond (decide ((r10-(sc (bi a6 [(ix a7 a2).1]) 0)) < 0)) (
an (ah .i64 (0-(r10-(sc (bi a6 [(ix a7 a2).1]) 0)))) (
an (bD 16 (List.length a5+List.length ([((ix a7 a2).1,(0-(r10-(sc (bi a6 [(ix a7 a2).1]) 0))))]:List Y2))) (
an (ah .i64 (a2+1)) (
some (Sum.inl (a0,a1,(a2+1),a3,a4,(a5++([((ix a7 a2).1,(0-(r10-(sc (bi a6 [(ix a7 a2).1]) 0))))]:List Y2)),a6,a7)))))) (
an (ah .i64 (a2+1)) (
some (Sum.inl (a0,a1,(a2+1),a3,a4,a5,a6,a7))))))))) (
some (Sum.inr (a3,a6,a7,a4,a5)))
theorem LH (F27:dG)(F40:cS)(F47:fh)(F63 F62:gu)(F45:gr):FS (C8 F27 F40 F47 F63 F62 F45)=u8 (oZ F27 F40 F47 F63 F62 F45):=funext fun _=>by kernel_rfl
noncomputable def FT:=oZ nr P40 P47 qm qn ns
noncomputable def ry:M9:=af (u8 FT)
theorem LI:l35_1 (C8 nr P40 P47 qm qn ns)=ry:=congrArg af (LH nr P40 P47 qm qn ns)
theorem Rv:L.Fn Try.prog 35 105 [(.t 6),(.t 7),(.t 8)] (erase LE):=oA Try.func35
def z5:FSh:=⟨⟨Ot,[]⟩,[bx,y3,y8],0,⟨⟨[(.tup [(.slc 0),(.slc 1),(.v y3)])],[(0,(.row 69 y6)),(1,(.row 69 y6))]⟩,[y3,y8,y8],[],2⟩,true⟩
noncomputable def Ou (F27:dG)(F40:cS)(F47:fh)(F63 F62:gu)(F45:gr)(l35_0:Ng)(l35_1:M9)(a0:bg)(a1:Int)(a2:List Y2):Option IG:=
(F27 a0).bind fun r1=>(
cond (!decide (r1=0)) (
some (r1,([]:List Y2),([]:List Y2))) (
(F40 (a1,0,99)).bind fun r2=>(
cond (!r2) (
some (1,([]:List Y2),([]:List Y2))) (
(l35_0 (a1,a2,a2,(↑a2.length:Int),0,a0,([]:List Dt))).bind (fun y5=>Sum.elim (fun y6=>(
some (y6.1,([]:List Y2),([]:List Y2)))) (fun y7=>(
(F63 y7.2.1.2.1).bind fun r8=>(
(F62 r8).bind fun r9=>(
(l35_1 (y7.1,(↑r9.length:Int),0,y7.2.1,([]:List Y2),([]:List Y2),y7.2.2,r9)).bind fun y11=>(
some (0,y11.2.2.2.1,y11.2.2.2.2)))))) y5)))))
theorem WK (F27:dG)(F40:cS)(F47:fh)(F63 F62:gu)(F45:gr):aX (C8 F27 F40 F47 F63 F62 F45) z5 [(.t 6),(.t 7),(.t 8)] LE=u3 (Ou F27 F40 F47 F63 F62 F45 (l35_0 (C8 F27 F40 F47 F63 F62 F45)) (l35_1 (C8 F27 F40 F47 F63 F62 F45))):=funext fun _=>by kernel_rfl
noncomputable def WL:=Ou nr P40 P47 qm qn ns L35_0 ry
noncomputable def kh:jq:=u3 WL
theorem WM:aX (C8 nr P40 P47 qm qn ns) z5 [(.t 6),(.t 7),(.t 8)] LE=kh:=(WK nr P40 P47 qm qn ns).trans (by rw[LG,LI] <;> rfl)
theorem Tx:DC Try.prog 35 z5 kh:=dD WM WJ Rv
noncomputable def Rw:List FEnt:=[]
theorem WN:aq Try.prog Rw:=ai
noncomputable def Rx:=cN Try.prog [] Try.f48 .n
theorem Ry:L.Fn Try.prog 48 15 [(.t 6)] (erase Rx):=oA Try.func48
def rz:FSh:=⟨⟨[(.v y3),(.v y3),(.v y3)],[]⟩,[y3,y3,y3],0,⟨⟨jp,[]⟩,[.bool],[],0⟩,true⟩
noncomputable def Tz (a0 a1 a2:Int):Option Bool:=
cond (decide (a1≤a0)) (
some (decide (a0≤a2))) (
some false)
theorem WO:aX Rw rz [(.t 6)] Rx=u3 Tz:=funext fun _=>by kernel_rfl
noncomputable def WP:=Tz
noncomputable def P48:cS:=u3 WP
theorem WQ:aX Rw rz [(.t 6)] Rx=P48:=WO
theorem LJ:DC Try.prog 48 rz P48:=dD WQ WN Ry
noncomputable def C9 (F48:cS):List FEnt:=[⟨48,rz,F48⟩]
theorem WR:aq Try.prog (C9 P48):=dK ai LJ
def FU:LSh:=⟨[1,3],⟨N1,Iq⟩,[y3,dE],1,[0]⟩
def FX:LSh:=⟨[1,4],⟨N1,Iq⟩,[y3,dE],1,[0]⟩
def FY:List XSh:=[⟨.ret,[2],⟨⟨jp,Iq⟩,[.bool,dE],[0],1⟩⟩,⟨(.exit 2),[],⟨⟨[],Iq⟩,[dE],[0],1⟩⟩]
noncomputable def LK:=cN Try.prog [] Try.f67 (.s .n (.s .n (.s (.s .n (.b (.l FU uu .n))) (.s (.s .n (.b (.l FX FY .n))) .n))))
noncomputable def FZ (T:List FEnt):=aI (xs:=uu) FU (bG T (sb [1,1,0,1,2,2] LK))
noncomputable def l67_0 (T:List FEnt):=af (FZ T)
noncomputable def vr (F48:cS)(a0:Int)(a1:Y7):Option M5:=
cond (decide (a0 < (↑a1.2.2.2.1.length:Int))) (
an (aZ a0 a1.2.2.2.1.length) (
(F48 ((ix a1.2.2.2.1 a0),0,1000)).bind fun r7=>(
cond (!r7) (
some (Sum.inr (Sum.inl (false,a1)))) (
an (ah .i64 (a0+1)) (
some (Sum.inl ((a0+1),a1))))))) (
some (Sum.inr (Sum.inr a1)))
theorem LL (F48:cS):FZ (C9 F48)=u2 (vr F48):=funext fun _=>by kernel_rfl
noncomputable def z6:=vr P48
noncomputable def z7:IH:=af (u2 z6)
theorem v67_0:l67_0 (C9 P48)=z7:=congrArg af (LL P48)
noncomputable def F0 (T:List FEnt):=aI (xs:=FY) FX (bG T (sb [1,1,1,0,1,2,2] LK))
noncomputable def l67_1 (T:List FEnt):=af (F0 T)
noncomputable def vt (F48:cS)(a0:Int)(a1:Y7):Option M5:=
cond (decide (a0 < (↑a1.2.2.2.2.1.length:Int))) (
an (aZ a0 a1.2.2.2.2.1.length) (
(F48 ((ix a1.2.2.2.2.1 a0).1,0,10000000)).bind fun r11=>(
cond (!r11) (
some (Sum.inr (Sum.inl (false,a1)))) (
an (aZ a0 a1.2.2.2.2.1.length) (
(F48 ((ix a1.2.2.2.2.1 a0).2,0,1000)).bind fun r12=>(
cond (!r12) (
some (Sum.inr (Sum.inl (false,a1)))) (
cond (decide (0 < a0)) (
an (aZ a0 a1.2.2.2.2.1.length) (
an (ah .i64 (a0-1)) (
an (aZ (a0-1) a1.2.2.2.2.1.length) (
cond (decide ((ix a1.2.2.2.2.1 a0).1≤(ix a1.2.2.2.2.1 (a0-1)).1)) (
some (Sum.inr (Sum.inl (false,a1)))) (
an (ah .i64 (a0+1)) (
some (Sum.inl ((a0+1),a1)))))))) (
an (ah .i64 (a0+1)) (
some (Sum.inl ((a0+1),a1))))))))))) (
some (Sum.inr (Sum.inr a1)))
theorem LM (F48:cS):F0 (C9 F48)=u2 (vt F48):=funext fun _=>by kernel_rfl
noncomputable def z8:=vt P48
noncomputable def z9:IH:=af (u2 z8)
theorem v67_1:l67_1 (C9 P48)=z9:=congrArg af (LM P48)
theorem Rz:L.Fn Try.prog 67 122 [(.t 2)] (erase LK):=oA Try.func67
def Da:FSh:=⟨⟨[(.st dE)],[]⟩,[dE],0,⟨⟨jp,[]⟩,[.bool],[],0⟩,true⟩
noncomputable def RA (F48:cS)(l67_0 l67_1:IH)(a0:Y7):Option Bool:=
(F48 (a0.1,0,99)).bind fun r1=>(
cond (!r1) (
some false) (
cond (decide (a0.2.1 < 0)) (
some false) (
cond (decide (a0.2.2.1 < a0.2.1)) (
some false) (
cond (decide (99 < a0.2.2.1)) (
some false) (
(F48 ((↑a0.2.2.2.1.length:Int),1,6)).bind fun r2=>(
cond (!r2) (
some false) (
cond (decide (4 < (↑a0.2.2.2.2.1.length:Int))) (
some false) (
(F48 (a0.2.2.2.2.2.1,0,10000000)).bind fun r3=>(
cond (!r3) (
some false) (
(F48 (a0.2.2.2.2.2.2.2.1,0,10000000)).bind fun r4=>(
cond (!r4) (
some false) (
(F48 (a0.2.2.2.2.2.2.1,0,1000)).bind fun r5=>(
cond (!r5) (
some false) (
(F48 (a0.2.2.2.2.2.2.2.2,0,100000000)).bind fun r6=>(
cond (!r6) (
some false) (
(l67_0 (0,a0)).bind (fun y8=>Sum.elim (fun y9=>(
some y9.1)) (fun y10=>(
(l67_1 (0,y10)).bind (fun y13=>Sum.elim (fun y14=>(
some y14.1)) (fun y15=>(
some true)) y13))) y8)))))))))))))))))
theorem g67 (F48:cS)(a0:Y7):aX (C9 F48) Da [(.t 2)] LK a0=RA F48 (l67_0 (C9 F48)) (l67_1 (C9 F48)) a0:=by kernel_rfl
noncomputable def TA:=RA P48 z7 z9
noncomputable def P67:vO:=fun x=>TA x
theorem WS:aX (C9 P48) Da [(.t 2)] LK=P67:=funext fun x=>(g67 P48 x).trans (by rw[v67_0,v67_1] <;> rfl)
theorem WT:DC Try.prog 67 Da P67:=dD WS WR Rz
noncomputable def Db (F67:vO)(F48:cS):List FEnt:=[⟨67,Da,F67⟩,⟨48,rz,F48⟩]
theorem WU:aq Try.prog (Db P67 P48):=dK (dK ai LJ) WT
def F1:LSh:=⟨[1,3,4],⟨[(.ptr 0 0),(.v y3),(.v y3)],rk⟩,[y3,y3,bx],1,[0]⟩
def F2:List XSh:=[⟨.ret,[2],⟨⟨jp,rk⟩,[.bool,bx],[0],1⟩⟩,⟨(.exit 2),[1,3],⟨⟨N1,rk⟩,[y3,bx],[0],1⟩⟩]
def F3:List XSh:=[⟨.ret,[2],⟨⟨jp,rk⟩,[.bool,bx],[0],1⟩⟩,⟨(.exit 0),[1],⟨⟨Jz,rk⟩,[bx],[0],1⟩⟩]
noncomputable def LN:=cN Try.prog [] Try.f43 (.s .n (.s (.s .n (.b (.l ul F3 (.s .n (.s (.b (.s .n (.s .n (.b (.l F1 F2 .n))))) .n))))) .n))
noncomputable def F4 (T:List FEnt):=aI (xs:=F2) F1 (bG T (sb [1,0,1,2,2,1,0,2,1,1,2,2] LN))
noncomputable def l43_1 (T:List FEnt):=af (F4 T)
noncomputable def vu (F67:vO)(F48:cS)(a0 a1:Int)(a2:bg):Option ((Int×Int×Int×dc×cA)⊕M8):=
cond (decide (a1 < a0)) (
an (aZ a1 a2.2.1.length) (
an (aZ a0 a2.2.1.length) (
cond (decide ((ix a2.2.1 a1).1=(ix a2.2.1 a0).1)) (
some (Sum.inr (Sum.inl (false,a2)))) (
an (ah .i64 (a1+1)) (
some (Sum.inl (a0,(a1+1),a2))))))) (
some (Sum.inr (Sum.inr (a0,a2))))
theorem LO (F67:vO)(F48:cS):F4 (Db F67 F48)=u3 (vu F67 F48):=funext fun _=>by kernel_rfl
noncomputable def Aa:=vu P67 P48
noncomputable def Ab:Na:=af (u3 Aa)
theorem LP:l43_1 (Db P67 P48)=Ab:=congrArg af (LO P67 P48)
noncomputable def F5 (T:List FEnt):=aI (xs:=F3) ul (bG T (sb [1,0,1,2,2] LN))
noncomputable def l43_0 (T:List FEnt):=af (F5 T)
noncomputable def vw (F67:vO)(F48:cS)(l43_1:Na)(a0:Int)(a1:bg):Option TZ:=
cond (decide (a0 < (↑a1.2.1.length:Int))) (
an (aZ a0 a1.2.1.length) (
(F67 (ix a1.2.1 a0)).bind fun r1=>(
cond (!r1) (
some (Sum.inr (Sum.inl (false,a1)))) (
(l43_1 (a0,0,a1)).bind (fun y2=>Sum.elim (fun y3=>(
some (Sum.inr (Sum.inl (y3.1,y3.2))))) (fun y4=>(
an (ah .i64 (y4.1+1)) (
some (Sum.inl ((y4.1+1),y4.2))))) y2))))) (
some (Sum.inr (Sum.inr a1)))
theorem LQ (F67:vO)(F48:cS):F5 (Db F67 F48)=u2 (vw F67 F48 (l43_1 (Db F67 F48))):=funext fun _=>by kernel_rfl
noncomputable def Ac:=vw P67 P48 Ab
noncomputable def Ad:OP:=af (u2 Ac)
theorem v43_0:l43_0 (Db P67 P48)=Ad:=congrArg af ((LQ P67 P48).trans (by rw[LP] <;> rfl))
theorem RB:L.Fn Try.prog 43 46 [(.t 2)] (erase LN):=oA Try.func43
def Dc:FSh:=⟨⟨[(.st bx)],[]⟩,[bx],0,⟨⟨jp,[]⟩,[.bool],[],0⟩,true⟩
noncomputable def RE (F67:vO)(F48:cS)(l43_0:OP)(a0:bg):Option Bool:=
(l43_0 (0,a0)).bind (fun y5=>Sum.elim (fun y6=>(
some y6.1)) (fun y7=>(
(F48 (y7.1,0,500)).bind fun r8=>(
cond r8 (
some (decide ((↑y7.2.1.length:Int)≤6))) (
some false)))) y5)
theorem g43 (F67:vO)(F48:cS)(a0:bg):aX (Db F67 F48) Dc [(.t 2)] LN a0=RE F67 F48 (l43_0 (Db F67 F48)) a0:=by kernel_rfl
noncomputable def TB:=RE P67 P48 Ad
noncomputable def P43:rC:=fun x=>TB x
theorem WV:aX (Db P67 P48) Dc [(.t 2)] LN=P43:=funext fun x=>(g43 P67 P48 x).trans (by rw[v43_0] <;> rfl)
theorem WW:DC Try.prog 43 Dc P43:=dD WV WU RB
noncomputable def JO:List FEnt:=[]
theorem WX:aq Try.prog JO:=ai
def F6:LSh:=⟨[1,2,4,6],⟨[(.v y3),(.ptr 0 0),(.ptr 1 0),(.v y3)],k1⟩,[y3,y3,bx,y3,y3,y3,y3,y3,y3,y3],2,[0,1]⟩
def F7:List XSh:=[⟨.ret,[4,5],⟨⟨[(.ptr 1 0),(.v .bool)],k7⟩,[.bool,bx,dE],[0,1],2⟩⟩,⟨(.exit 0),[4],⟨⟨[(.ptr 1 0)],k1⟩,[bx,y3,y3,y3,y3,y3,y3,y3],[0,1],2⟩⟩]
noncomputable def Ov:=cN Try.prog [] Try.f16 (.s .n (.s (.s .n (.b (.l F6 F7 .n))) .n))
noncomputable def F8 (T:List FEnt):=aI (xs:=F7) F6 (bG T (sb [1,0,1,2,2] Ov))
noncomputable def l16_0 (T:List FEnt):=af (F8 T)
noncomputable def vz (a0 a1:Int)(a2:bg)(a3 a4 a5 a6 a7 a8 a9:Int):Option ((Int×Int×bg×Int×Int×Int×Int×Int×Int×Int)⊕Nd):=
cond (decide (a1 < (↑a2.2.1.length:Int))) (
an (aZ a1 a2.2.1.length) (
cond (decide ((ix a2.2.1 a1).1=a0)) (
an (aZ a1 a2.2.1.length) (
some (Sum.inr (Sum.inl (true,a2,(ix a2.2.1 a1)))))) (
an (ah .i64 (a1+1)) (
some (Sum.inl (a0,(a1+1),a2,a3,a4,a5,a6,a7,a8,a9)))))) (
some (Sum.inr (Sum.inr (a2,a3,a4,a5,a6,a7,a8,a9))))
theorem LR:F8 JO=OQ vz:=funext fun _=>by kernel_rfl
noncomputable def vA:=vz
noncomputable def vB:Nh:=af (OQ vA)
theorem LS:l16_0 JO=vB:=congrArg af LR
theorem RF:L.Fn Try.prog 16 28 [(.cell 4 true 9),(.t 5)] (erase Ov):=oA Try.func16
def wU:FSh:=⟨⟨[(.st bx),(.v y3)],[]⟩,[bx,y3],0,⟨⟨[(.tup [(.st dE),(.v .bool)])],[]⟩,[dE,.bool],[],0⟩,false⟩
noncomputable def Ow (l16_0:Nh)(a0:bg)(a1:Int):Option Sa:=
(l16_0 (a1,0,a0,0,0,0,0,0,0,0)).bind (fun y1=>Sum.elim (fun y2=>(
some (y2.2.2,y2.1))) (fun y3=>(
some ((0,(0,(0,(([]:List Int),(([]:List Y2),(0,(0,(0,0)))))))),false))) y1)
theorem g16:aX JO wU [(.cell 4 true 9),(.t 5)] Ov=u2 (Ow (l16_0 JO)):=funext fun _=>by kernel_rfl
noncomputable def RG:=Ow vB
noncomputable def gq:fh:=u2 RG
theorem WY:aX JO wU [(.cell 4 true 9),(.t 5)] Ov=gq:=g16.trans (by rw[LS] <;> rfl)
theorem RH:DC Try.prog 16 wU gq:=dD WY WX RF
noncomputable def Dd (F16:fh)(F48:cS):List FEnt:=[⟨16,wU,F16⟩,⟨48,rz,F48⟩]
theorem WZ:aq Try.prog (Dd gq P48):=dK (dK ai LJ) RH
def F9:LSh:=⟨[1,2,5,6,9,32,52,58,64],⟨[(.v dB),(.ptr 0 0),(.v y3),(.ptr 1 0),(.v y3),(.v .bool),(.v .bool),(.v .bool),(.v .bool)],k8⟩,[dB,y3,y3,.bool,.bool,.bool,.bool,bx,ej],2,[0,1]⟩
def Ga:List XSh:=[⟨.ret,[4],⟨⟨jp,k8⟩,[.bool,bx,ej],[0,1],2⟩⟩,⟨(.exit 2),[1,2,5,32,52,58,64],⟨⟨[(.v dB),(.ptr 0 0),(.v y3),(.v .bool),(.v .bool),(.v .bool),(.v .bool)],k8⟩,[dB,y3,.bool,.bool,.bool,.bool,bx,ej],[0,1],2⟩⟩]
def Gb:LSh:=⟨[1,2,5],⟨[(.v dB),(.ptr 0 0),(.v y3)],rk⟩,[dB,y3,bx],1,[0]⟩
def Gc:List XSh:=[⟨.ret,[4],⟨⟨jp,rk⟩,[.bool,bx],[0],1⟩⟩,⟨(.exit 0),[],⟨⟨[],rk⟩,[bx],[0],1⟩⟩]
noncomputable def LT:=cN Try.prog [] Try.f44 (.s .n (.s (.s .n (.b (.l Gb Gc (.s .n (.s (.b (.s .n (.s .n (.s .n (.s .n (.b (.l F9 Ga .n))))))) .n))))) .n))
noncomputable def Ge (T:List FEnt):=aI (xs:=Ga) F9 (bG T (sb [1,0,1,2,2,1,0,2,1,1,1,1,2,2] LT))
noncomputable def l44_1 (T:List FEnt):=af (Ge T)
noncomputable def vC (F16:fh)(F48:cS)(a0:List cH)(a1 a2:Int)(a3 a4 a5 a6:Bool)(a7:bg)(a8:cH):Option ((cA×Int×Int×Bool×Bool×Bool×Bool×bg×Int×Int×Int×Int×Int×Int)⊕Nf):=
cond (decide (a2 < a1)) (
an (aZ a2 a0.length) (
cond (decide ((ix a0 a2).1=a8.1)) (
an (aZ a2 a0.length) (
cond (!(((((decide ((ix a0 a2).1=a8.1)&&decide ((ix a0 a2).2.1=a8.2.1))&&decide ((ix a0 a2).2.2.1=a8.2.2.1))&&decide ((ix a0 a2).2.2.2.1=a8.2.2.2.1))&&decide ((ix a0 a2).2.2.2.2.1=a8.2.2.2.2.1))&&decide ((ix a0 a2).2.2.2.2.2=a8.2.2.2.2.2))) (
some (Sum.inr (Sum.inl (false,a7,a8)))) (
an (ah .i64 (a2+1)) (
some (Sum.inl (a0,a1,(a2+1),a3,a4,a5,a6,a7,a8)))))) (
an (ah .i64 (a2+1)) (
some (Sum.inl (a0,a1,(a2+1),a3,a4,a5,a6,a7,a8)))))) (
some (Sum.inr (Sum.inr (a0,a1,a3,a4,a5,a6,a7,a8))))
theorem LU (F16:fh)(F48:cS):Ge (Dd F16 F48)=u9 (vC F16 F48):=funext fun _=>by kernel_rfl
noncomputable def Ae:=vC gq P48
noncomputable def Af:Ni:=af (u9 Ae)
theorem LV:l44_1 (Dd gq P48)=Af:=congrArg af (LU gq P48)
noncomputable def Gf (T:List FEnt):=aI (xs:=Gc) Gb (bG T (sb [1,0,1,2,2] LT))
noncomputable def l44_0 (T:List FEnt):=af (Gf T)
noncomputable def vD (F16:fh)(F48:cS)(l44_1:Ni)(a0:List cH)(a1:Int)(a2:bg):Option ((cA×Int×Int×dc×cA)⊕OO):=
cond (decide (a1 < (↑a0.length:Int))) (
an (aZ a1 a0.length) (
(F16 (a2,(ix a0 a1).2.2.1)).bind fun r1=>(
cond (!r1.2) (
some (Sum.inr (Sum.inl (false,a2)))) (
(F48 ((ix a0 a1).1,0,99)).bind fun r2=>(
cond (!r2) (
some (Sum.inr (Sum.inl (false,a2)))) (
cond (!decide ((ix a0 a1).2.1=1)) (
cond (!decide ((ix a0 a1).2.1=2)) (
some (Sum.inr (Sum.inl (false,a2)))) (
(F48 ((ix a0 a1).2.2.2.1,r1.1.2.1,r1.1.2.2.1)).bind fun r3=>(
cond (!r3) (
some (Sum.inr (Sum.inl (false,a2)))) (
(F48 ((ix a0 a1).2.2.2.2.1,0,9)).bind fun r4=>(
cond (!r4) (
some (Sum.inr (Sum.inl (false,a2)))) (
(F48 ((ix a0 a1).2.2.2.2.2,0,10000000)).bind fun r5=>(
cond (!r5) (
some (Sum.inr (Sum.inl (false,a2)))) (
(l44_1 (a0,a1,0,r2,r3,r4,r5,a2,(ix a0 a1))).bind (fun y6=>Sum.elim (fun y7=>(
some (Sum.inr (Sum.inl (y7.1,y7.2.1))))) (fun y8=>(
an (ah .i64 (y8.2.1+1)) (
some (Sum.inl (y8.1,(y8.2.1+1),y8.2.2.2.2.2.2.1))))) y6))))))))) (
(F48 ((ix a0 a1).2.2.2.1,r1.1.2.1,r1.1.2.2.1)).bind fun r9=>(
cond (!r9) (
some (Sum.inr (Sum.inl (false,a2)))) (
(F48 ((ix a0 a1).2.2.2.2.1,0,9)).bind fun r10=>(
cond (!r10) (
some (Sum.inr (Sum.inl (false,a2)))) (
(F48 ((ix a0 a1).2.2.2.2.2,0,10000000)).bind fun r11=>(
cond (!r11) (
some (Sum.inr (Sum.inl (false,a2)))) (
(l44_1 (a0,a1,0,r2,r9,r10,r11,a2,(ix a0 a1))).bind (fun y12=>Sum.elim (fun y13=>(
some (Sum.inr (Sum.inl (y13.1,y13.2.1))))) (fun y14=>(
an (ah .i64 (y14.2.1+1)) (
some (Sum.inl (y14.1,(y14.2.1+1),y14.2.2.2.2.2.2.1))))) y12)))))))))))))) (
some (Sum.inr (Sum.inr a2)))
theorem LW (F16:fh)(F48:cS):Gf (Dd F16 F48)=u3 (vD F16 F48 (l44_1 (Dd F16 F48))):=funext fun _=>by kernel_rfl
noncomputable def Ag:=vD gq P48 Af
noncomputable def Ah:Nb:=af (u3 Ag)
theorem LX:l44_0 (Dd gq P48)=Ah:=congrArg af ((LW gq P48).trans (by rw[LV] <;> rfl))
theorem RI:L.Fn Try.prog 44 88 [(.t 4)] (erase LT):=oA Try.func44
def De:FSh:=⟨⟨[(.st bx),(.v dB)],[]⟩,[bx,dB],0,⟨⟨jp,[]⟩,[.bool],[],0⟩,true⟩
noncomputable def RJ (F16:fh)(F48:cS)(l44_0:Nb)(a0:bg)(a1:List cH):Option Bool:=
(l44_0 (a1,0,a0)).bind (fun y15=>Sum.elim (fun y16=>(
some y16.1)) (fun y17=>(
some true)) y15)
theorem W0 (F16:fh)(F48:cS):aX (Dd F16 F48) De [(.t 4)] LT=u2 (RJ F16 F48 (l44_0 (Dd F16 F48))):=funext fun _=>by kernel_rfl
noncomputable def TC:=RJ gq P48 Ah
noncomputable def P44:nX:=u2 TC
theorem W1:aX (Dd gq P48) De [(.t 4)] LT=P44:=(W0 gq P48).trans (by rw[LX] <;> rfl)
theorem W2:DC Try.prog 44 De P44:=dD W1 WZ RI
noncomputable def RK (F43:rC)(F44:nX):List FEnt:=[⟨43,Dc,F43⟩,⟨44,De,F44⟩]
theorem W3:aq Try.prog (RK P43 P44):=dK (dK ai W2) WW
noncomputable def RL:=cN Try.prog [] Try.f20 .n
theorem RM:L.Fn Try.prog 20 17 [(.t 2)] (erase RL):=oA Try.func20
def Ai:FSh:=⟨⟨[(.st bx)],[]⟩,[bx],0,⟨⟨lE,[]⟩,[y3],[],0⟩,true⟩
noncomputable def RN (F43:rC)(F44:nX)(a0:bg):Option Int:=
(F43 a0).bind fun r1=>(
cond (!r1) (
some 80) (
cond (decide (40 < (↑a0.2.2.length:Int))) (
some 81) (
(F44 (a0,a0.2.2)).bind fun r2=>(
cond (!r2) (
some 81) (
some 0)))))
theorem g20 (F43:rC)(F44:nX)(a0:bg):aX (RK F43 F44) Ai [(.t 2)] RL a0=RN F43 F44 a0:=by kernel_rfl
noncomputable def TD:=RN P43 P44
noncomputable def gz:dG:=fun x=>TD x
theorem W5:aX (RK P43 P44) Ai [(.t 2)] RL=gz:=funext fun x=>(g20 P43 P44 x)
theorem TE:DC Try.prog 20 Ai gz:=dD W5 W3 RM
end Go.Proofs.Ytfknkinmnecoeaa.D
