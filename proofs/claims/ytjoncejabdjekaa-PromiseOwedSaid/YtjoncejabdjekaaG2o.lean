import Derived.Test.YtjoncejabdjekaaG1o
import Derived.Test.YtjoncejabdjekaaProg
set_option linter.unusedVariables false
set_option maxRecDepth 100000
namespace Go.Proofs.Ytjoncejabdjekaa.D
open Go Go.Proofs Go.Proofs.Ytjoncejabdjekaa.L
def z3:List Ty:=[y12,aB,rV,bX,bC]
def Nh:List RSh:=[(.v aF),(.ptr 0 0),(.slc 1),(.v y12)]
def j7:List RSh:=[(.ptr 0 0),(.ptr 1 0),(.v y12),(.ptr 2 0)]
def Gr:List (Nat×OSh):=[(0,(.boxT aB)),(1,(.row 3 y12))]
def Ni:List (Nat×OSh):=[(0,(.row 28 bg)),(1,(.row 3 y12)),(2,(.row 3 y12))]
def k7:List (Nat×OSh):=[(0,(.boxT aB)),(1,(.boxT rV)),(2,(.box [(.slc 3),(.slc 4)])),(3,(.row 43 fX)),(4,(.row 50 lk))]
noncomputable def vz:List FEnt:=[]
theorem Q4:aw Try.prog vz:=am
def Cn:LSh:=⟨[1,2,6,7,8],⟨[(.v aF),(.ptr 0 0),(.slc 1),(.v y12),(.v y12)],Gr⟩,[aF,y12,y12,aB,bg],2,[0,1]⟩
def Co:List XSh:=[⟨(.exit 2),[1,2,6,7],⟨⟨Nh,Gr⟩,[aF,y12,aB,bg],[0,1],2⟩⟩]
def Cp:LSh:=⟨[1,2,6,7],⟨Nh,Gr⟩,[aF,y12,aB,bg],2,[0,1]⟩
def Cq:List XSh:=[⟨(.exit 0),[2,6],⟨⟨[(.ptr 0 0),(.slc 1)],Gr⟩,[aB,bg],[0,1],2⟩⟩]
def Cr:LSh:=⟨[2,6,9,10],⟨[(.ptr 0 0),(.slc 1),(.v y12),(.v y12)],Gr⟩,[y12,y12,aB,bg],2,[0,1]⟩
def Cs:List XSh:=[⟨(.exit 4),[6,9],⟨⟨[(.slc 1),(.v y12)],Gr⟩,[y12,aB,bg],[0,1],2⟩⟩]
noncomputable def Gs:=ef Try.prog [] Try.f39 (.s .n (.s (.r [.a 3 false y12]) (.s (.s .n (.b (.l Cp Cq (.s .n (.s (.b (.s .n (.b (.l Cn Co .n)))) .n))))) (.s .n (.s (.s .n (.b (.l Cr Cs .n))) .n)))))
noncomputable def Ct (T:List FEnt):=aN (xs:=Co) Cn (bW T (sb [1,1,0,1,2,2,1,0,2,1,2,2] Gs))
noncomputable def l39_1 (T:List FEnt):=aa (Ct T)
noncomputable def Cu (a0:List Y6)(a1 a2:Int)(a3:aK×aT)(a4:List Int):Option ((az×Int×Int×cf×Y6)⊕Fw):=
au (aZ a1 a0.length) (
cond (decide (a2 < (↑(List.length (ix a0 a1)):Int))) (
au (aZ a1 a0.length) (
au (aZ a2 (List.length (ix a0 a1))) (
au (aZ (ix (ix a0 a1) a2) a4.length) (
au (aq .i64 ((ix a4 (ix (ix a0 a1) a2))+1)) (
au (aZ (ix (ix a0 a1) a2) a4.length) (
au (aq .i64 (a2+1)) (
some (Sum.inl (a0,a1,(a2+1),a3,(List.set a4 (Int.toNat (ix (ix a0 a1) a2)) ((ix a4 (ix (ix a0 a1) a2))+1))))))))))) (
some (Sum.inr (a0,a1,a3,a4))))
theorem H6:Ct vz=u5 Cu:=funext fun _=>by kernel_rfl
noncomputable def H7:=Cu
noncomputable def Cv:J4:=aa (u5 H7)
theorem H8:l39_1 vz=Cv:=congrArg aa H6
noncomputable def Cw (T:List FEnt):=aN (xs:=Cq) Cp (bW T (sb [1,1,0,1,2,2] Gs))
noncomputable def l39_0 (T:List FEnt):=aa (Cw T)
noncomputable def Cx (l39_1:J4)(a0:List Y6)(a1:Int)(a2:aK×aT)(a3:List Int):Option (Fw⊕J1):=
cond (decide (a1 < (↑a0.length:Int))) (
(l39_1 (a0,a1,0,a2,a3)).bind fun y1=>(
au (aq .i64 (y1.2.1+1)) (
some (Sum.inl (y1.1,(y1.2.1+1),y1.2.2.1,y1.2.2.2))))) (
some (Sum.inr (a2,a3)))
theorem g39_0:Cw vz=u4 (Cx (l39_1 vz)):=funext fun _=>by kernel_rfl
noncomputable def H9:=Cx Cv
noncomputable def Cy:J5:=aa (u4 H9)
theorem Ia:l39_0 vz=Cy:=congrArg aa (g39_0.trans (by rw[H8] <;> rfl))
noncomputable def Cz (T:List FEnt):=aN (xs:=Cs) Cr (bW T (sb [1,1,1,1,0,1,2,2] Gs))
noncomputable def l39_2 (T:List FEnt):=aa (Cz T)
noncomputable def CA (a0 a1:Int)(a2:aK×aT)(a3:List Int):Option ((Int×Int×cf×Y6)⊕JZ):=
cond (decide (a1 < (↑a3.length:Int))) (
au (aZ a1 a3.length) (
au (aZ a1 a2.2.length) (
au (aq .i64 (a0+(min (ix a3 a1) ((ix a2.2 a1).2.1)))) (
au (aq .i64 (a1+1)) (
some (Sum.inl ((a0+(min (ix a3 a1) ((ix a2.2 a1).2.1))),(a1+1),a2,a3))))))) (
some (Sum.inr (a0,a2,a3)))
theorem Ib:Cz vz=u4 CA:=funext fun _=>by kernel_rfl
noncomputable def Ic:=CA
noncomputable def CB:J6:=aa (u4 Ic)
theorem Id:l39_2 vz=CB:=congrArg aa Ib
theorem Nj:L.Fn Try.prog 39 63 [(.t 4),(.t 5)] (erase Gs):=oA Try.func39
def Ah:FSh:=⟨⟨Hv,[]⟩,z7,0,⟨⟨[(.tup [(.slc 0),(.v y12)])],Gd⟩,[y12,bg],[],1⟩,true⟩
noncomputable def OY (l39_0:J5)(l39_2:J6)(a0:aK×aT)(a1:List Y6):Option AB:=
au (decide (0≤(↑a0.2.length:Int))) (
au (decide (8*(↑a0.2.length:Int)≤140737488355328)) (
(l39_0 (a1,0,a0,(gj (Int.toNat (↑a0.2.length:Int)) 0:List Int))).bind fun y2=>(
(l39_2 (0,0,y2.1,y2.2)).bind fun y3=>(
some (y3.1,y3.2.2)))))
theorem g39:bH vz Ah [(.t 4),(.t 5)] Gs=u2 (OY (l39_0 vz) (l39_2 vz)):=funext fun _=>by kernel_rfl
noncomputable def Q5:=OY Cy CB
noncomputable def Gt:AD:=u2 Q5
theorem Q6:bH vz Ah [(.t 4),(.t 5)] Gs=Gt:=g39.trans (by rw[Ia,Id] <;> rfl)
theorem Q7:DC Try.prog 39 Ah Gt:=dD Q6 Q4 Nj
noncomputable def Nk (F12:fP)(F30:xI)(F39:AD):List FEnt:=[⟨12,qH,F12⟩,⟨30,Ag,F30⟩,⟨39,Ah,F39⟩]
theorem Q8:aw Try.prog (Nk P12 Gq Gt):=dK (dK (dK am Q7) Q3) HY
noncomputable def Nl:=ef Try.prog [] Try.f14 .n
theorem Nn:L.Fn Try.prog 14 24 [(.t 4),(.t 5),(.t 6)] (erase Nl):=oA Try.func14
def Ai:FSh:=⟨⟨Hv,[]⟩,z7,0,⟨⟨KZ,Gd⟩,[y12,y12,bg],[],1⟩,true⟩
noncomputable def OZ (F12:fP)(F30:xI)(F39:AD)(a0:aK×aT)(a1:List Y6):Option GC:=
(F12 a0).bind fun r1=>(
cond (!decide (r1=0)) (
some (0,70,([]:List Int))) (
(F30 (a0,a1)).bind fun r2=>(
cond (!r2) (
some (0,71,([]:List Int))) (
(F39 (a0,a1)).bind fun r3=>(
some (r3.1,0,r3.2))))))
theorem Q9 (F12:fP)(F30:xI)(F39:AD):bH (Nk F12 F30 F39) Ai [(.t 4),(.t 5),(.t 6)] Nl=u2 (OZ F12 F30 F39):=funext fun _=>by kernel_rfl
noncomputable def Ra:=OZ P12 Gq Gt
noncomputable def vA:kN:=u2 Ra
theorem Rb:bH (Nk P12 Gq Gt) Ai [(.t 4),(.t 5),(.t 6)] Nl=vA:=Q9 P12 Gq Gt
theorem Rc:DC Try.prog 14 Ai vA:=dD Rb Q8 Nn
noncomputable def T3 (F9:cS)(F10:eU)(F11:fP)(F12:fP)(F13:kN)(F14:kN)(F15:el):List FEnt:=[⟨9,Fs,F9⟩,⟨10,vc,F10⟩,⟨11,rS,F11⟩,⟨12,qH,F12⟩,⟨13,xi,F13⟩,⟨14,Ai,F14⟩,⟨15,rU,F15⟩]
theorem t3:aw Try.prog (T3 P9 hX P11 P12 P13 vA P15):=dK (dK (dK (dK (dK (dK (dK am Lc) Rc) OS) HY) K4) M5) d9
def Ie:LSh:=⟨[1,2,5,6],⟨Nh,[(0,(.boxT aB)),(1,(.row 28 bg))]⟩,[aF,y12,aB,aF],2,[0]⟩
def If:List XSh:=[⟨.ret,[4],⟨⟨jP,mW⟩,[.bool,aB],[0],2⟩⟩,⟨(.exit 0),[1,2,5],⟨⟨[(.v aF),(.ptr 0 0),(.slc 1)],[(0,(.boxT aB)),(1,(.row 28 bg))]⟩,[aF,aB,aF],[0],2⟩⟩]
def Ig:LSh:=⟨[1,5,8,9,10,11,12,13,14],⟨[(.v aF),(.slc 0),(.slc 1),(.v y12),(.v y12),(.slc 2),(.v y12),(.v y12),(.v y12)],Ni⟩,[aF,y12,y12,y12,y12,y12,aF,bg,bg],3,[0,1,2]⟩
def Ih:List XSh:=[⟨.ret,[4],⟨⟨jP,Ni⟩,[.bool,aF,bg,bg],[0,1,2],3⟩⟩,⟨(.exit 2),[8,9,10,11,12,13],⟨⟨[(.slc 1),(.v y12),(.v y12),(.slc 2),(.v y12),(.v y12)],Ni⟩,[y12,y12,y12,y12,aF,bg,bg],[0,1,2],3⟩⟩]
noncomputable def c3:=ef Try.prog [(11,{ch:=[1,0,1,0,0],rs:=[7,2],ord:=[0,2,1,3,4] })] Try.f3 (.s .n (.s .n (.s .n (.s (.s .n (.b (.l Ie If (.s .n (.s (.b (.s .n (.r [.a 1 false y12,.a 6 false y12,.f 7 50 [],.a 7 false bg,.a 8 false bg]))) .n))))) (.s .n (.s .n (.s .n (.s .n (.s (.s .n (.b (.l Ig Ih .n))) .n)))))))))
noncomputable def Ii (T:List FEnt):=aN (xs:=If) Ie (bW T (sb [1,1,1,0,1,2,2] c3))
noncomputable def l3_0 (T:List FEnt):=aa (Ii T)
noncomputable def Ij (F9:cS)(F10:eU)(F11 F12:fP)(F13 F14:kN)(F15:el)(a0:List Y6)(a1:Int)(a2:aK×aT)(a3:List Y6):Option ((az×Int×cf×az)⊕Kc):=
cond (decide (a1 < (↑a0.length:Int))) (
au (aZ a1 a0.length) (
cond (decide (40 < (↑(List.length (ix a0 a1)):Int))) (
(F9 ()).bind fun r4=>(
some (Sum.inr (Sum.inl (r4,a2))))) (
au (aZ a1 a0.length) (
au (bN 8 (List.length ([]:List Int)+List.length (ix a0 a1))) (
au (bN 24 (List.length a3+List.length ([(([]:List Int)++(ix a0 a1))]:List Y6))) (
au (aq .i64 (a1+1)) (
some (Sum.inl (a0,(a1+1),a2,(a3++([(([]:List Int)++(ix a0 a1))]:List Y6))))))))))) (
some (Sum.inr (Sum.inr (a0,a2,a3))))
theorem No (F9:cS)(F10:eU)(F11 F12:fP)(F13 F14:kN)(F15:el):Ii (T3 F9 F10 F11 F12 F13 F14 F15)=u4 (Ij F9 F10 F11 F12 F13 F14 F15):=funext fun _=>by kernel_rfl
noncomputable def Np:=Ij P9 hX P11 P12 P13 vA P15
noncomputable def Ik:Ke:=aa (u4 Np)
theorem Nq:l3_0 (T3 P9 hX P11 P12 P13 vA P15)=Ik:=congrArg aa (No P9 hX P11 P12 P13 vA P15)
noncomputable def Il (T:List FEnt):=aN (xs:=Ih) Ig (bW T (sb [1,1,1,1,1,1,1,1,0,1,2,2] c3))
noncomputable def l3_1 (T:List FEnt):=aa (Il T)
noncomputable def Im (F9:cS)(F10:eU)(F11 F12:fP)(F13 F14:kN)(F15:el)(a0:List Y6)(a1 a2 a3 a4 a5:Int)(a6:List Y6)(a7 a8:List Int):Option ((az×Int×Int×Int×Int×Int×az×Y6×Y6)⊕J2):=
cond (decide (a5 < (↑a0.length:Int))) (
au (aZ a5 a6.length) (
au (aZ a5 a0.length) (
(F15 ((ix a6 a5),(ix a0 a5))).bind fun r13=>(
cond (!r13) (
some (Sum.inr (Sum.inl (false,a6,a7,a8)))) (
au (aq .i64 (a5+1)) (
some (Sum.inl (a0,a1,a2,a3,a4,(a5+1),a6,a7,a8)))))))) (
some (Sum.inr (Sum.inr (a1,a2,a3,a4,a6,a7,a8))))
theorem Nr (F9:cS)(F10:eU)(F11 F12:fP)(F13 F14:kN)(F15:el):Il (T3 F9 F10 F11 F12 F13 F14 F15)=u9 (Im F9 F10 F11 F12 F13 F14 F15):=funext fun _=>by kernel_rfl
noncomputable def Ns:=Im P9 hX P11 P12 P13 vA P15
noncomputable def Io:J7:=aa (u9 Ns)
theorem Nt:l3_1 (T3 P9 hX P11 P12 P13 vA P15)=Io:=congrArg aa (Nr P9 hX P11 P12 P13 vA P15)
theorem Rd:L.Fn Try.prog 3 106 [(.t 4)] (erase c3):=oA Try.func3
def Nu:FSh:=⟨⟨Hv,[]⟩,z7,0,⟨⟨jP,[]⟩,[.bool],[],0⟩,true⟩
noncomputable def q3 (F9:cS)(F10:eU)(F11 F12:fP)(F13 F14:kN)(F15:el)(l3_0:Ke)(l3_1:J7)(a0:aK×aT)(a1:List Y6):Option Bool:=
cond (decide (40 < (↑a0.1.length:Int))) (
(F9 ()).bind fun r1=>(
some r1)) (
cond (decide (40 < (↑a0.2.length:Int))) (
(F9 ()).bind fun r2=>(
some r2)) (
cond (decide (40 < (↑a1.length:Int))) (
(F9 ()).bind fun r3=>(
some r3)) (
(l3_0 (a1,0,a0,([]:List Y6))).bind (fun y5=>Sum.elim (fun y6=>(
some y6.1)) (fun y7=>(
(F10 y7.2.1).bind fun r8=>(
(F11 r8).bind fun r9=>(
(F12 y7.2.1).bind fun r10=>(
cond (!decide (r9=r10)) (
some false) (
(F13 (r8,y7.2.2)).bind fun r11=>(
(F14 (y7.2.1,y7.1)).bind fun r12=>(
(l3_1 (y7.1,r11.1,r11.2.1,r12.1,r12.2.1,0,y7.2.2,r11.2.2,r12.2.2)).bind (fun y14=>Sum.elim (fun y15=>(
some y15.1)) (fun y16=>(
(F15 (y16.2.2.2.2.2.1,y16.2.2.2.2.2.2)).bind fun r17=>(
cond r17 (
cond (decide (y16.1=y16.2.2.1)) (
cond (decide (y16.2.1=y16.2.2.2.1)) (
(F9 ()).bind fun r18=>(
some r18)) (
some false)) (
some false)) (
some false)))) y14))))))))) y5))))
theorem g3 (F9:cS)(F10:eU)(F11 F12:fP)(F13 F14:kN)(F15:el):bH (T3 F9 F10 F11 F12 F13 F14 F15) Nu [(.t 4)] c3=u2 (q3 F9 F10 F11 F12 F13 F14 F15 (l3_0 (T3 F9 F10 F11 F12 F13 F14 F15)) (l3_1 (T3 F9 F10 F11 F12 F13 F14 F15))):=funext fun _=>by kernel_rfl
noncomputable def p3:=q3 P9 hX P11 P12 P13 vA P15 Ik Io
noncomputable def P3:xI:=u2 p3
theorem v3:bH (T3 P9 hX P11 P12 P13 vA P15) Nu [(.t 4)] c3=P3:=(g3 P9 hX P11 P12 P13 vA P15).trans (by rw[Nq,Nt] <;> rfl)
theorem d3:DC Try.prog 3 Nu P3:=dD v3 t3 Rd
noncomputable def Gu (F12:fP):List FEnt:=[⟨12,qH,F12⟩]
theorem Re:aw Try.prog (Gu P12):=dK am HY
def CC:List XSh:=[⟨.ret,[2],⟨⟨jP,mW⟩,[.bool,aB],[0],1⟩⟩,⟨(.exit 0),[1],⟨⟨Gc,mW⟩,[aB],[0],1⟩⟩]
noncomputable def Lf:=ef Try.prog [] Try.f16 (.s .n (.s .n (.s .n (.s (.s .n (.b (.l tw CC .n))) .n))))
noncomputable def CD (T:List FEnt):=aN (xs:=CC) tw (bW T (sb [1,1,1,0,1,2,2] Lf))
noncomputable def l16_0 (T:List FEnt):=aa (CD T)
noncomputable def tB (F12:fP)(a0:Int)(a1:aK×aT):Option (Lr⊕AA):=
cond (decide (a0 < (↑a1.2.length:Int))) (
au (aZ a0 a1.2.length) (
cond (decide (3 < (ix a1.2 a0).2.1)) (
some (Sum.inr (Sum.inl (true,a1)))) (
au (aq .i64 (a0+1)) (
some (Sum.inl ((a0+1),a1)))))) (
some (Sum.inr (Sum.inr a1)))
theorem Ip (F12:fP):CD (Gu F12)=u2 (tB F12):=funext fun _=>by kernel_rfl
noncomputable def xw:=tB P12
noncomputable def xx:J8:=aa (u2 xw)
theorem v16_0:l16_0 (Gu P12)=xx:=congrArg aa (Ip P12)
theorem Nv:L.Fn Try.prog 16 41 [(.t 2)] (erase Lf):=oA Try.func16
def xy:FSh:=⟨⟨A7,[]⟩,[aB],0,⟨⟨jP,[]⟩,[.bool],[],0⟩,true⟩
noncomputable def Iq (F12:fP)(l16_0:J8)(a0:aK×aT):Option Bool:=
cond (decide (40 < (↑a0.1.length:Int))) (
some true) (
cond (decide (40 < (↑a0.2.length:Int))) (
some true) (
(F12 a0).bind fun r1=>(
cond (!decide (r1=0)) (
some false) (
(l16_0 (0,a0)).bind (fun y2=>Sum.elim (fun y3=>(
some y3.1)) (fun y4=>(
cond (decide (5 < (↑y4.1.length:Int))) (
some true) (
some (decide (4 < (↑y4.2.length:Int)))))) y2)))))
theorem g16 (F12:fP)(a0:aK×aT):bH (Gu F12) xy [(.t 2)] Lf a0=Iq F12 (l16_0 (Gu F12)) a0:=by kernel_rfl
noncomputable def Lg:=Iq P12 xx
noncomputable def P16:di:=fun x=>Lg x
theorem Rf:bH (Gu P12) xy [(.t 2)] Lf=P16:=funext fun x=>(g16 P12 x).trans (by rw[v16_0] <;> rfl)
theorem O0:DC Try.prog 16 xy P16:=dD Rf Re Nv
noncomputable def Nw (F16:di)(F12:fP):List FEnt:=[⟨16,xy,F16⟩,⟨12,qH,F12⟩]
theorem Rh:aw Try.prog (Nw P16 P12):=dK (dK am HY) O0
noncomputable def Nx:=ef Try.prog [] Try.f21 .n
theorem Ny:L.Fn Try.prog 21 11 [(.t 2)] (erase Nx):=oA Try.func21
def xz:FSh:=⟨⟨A7,[]⟩,[aB],0,⟨⟨jP,[]⟩,[.bool],[],0⟩,true⟩
noncomputable def O3 (F16:di)(F12:fP)(a0:aK×aT):Option Bool:=
(F16 a0).bind fun r1=>(
cond (!r1) (
(F12 a0).bind fun r2=>(
some (decide (r2=0)))) (
some false))
theorem g21 (F16:di)(F12:fP)(a0:aK×aT):bH (Nw F16 F12) xz [(.t 2)] Nx a0=O3 F16 F12 a0:=by kernel_rfl
noncomputable def Ri:=O3 P16 P12
noncomputable def iw:di:=fun x=>Ri x
theorem Rj:bH (Nw P16 P12) xz [(.t 2)] Nx=iw:=funext fun x=>(g21 P16 P12 x)
theorem O4:DC Try.prog 21 xz iw:=dD Rj Rh Ny
noncomputable def T5 (F21:di)(F9:cS)(F22:lj)(F10:eU):List FEnt:=[⟨21,xz,F21⟩,⟨9,Fs,F9⟩,⟨22,uY,F22⟩,⟨10,vc,F10⟩]
theorem t5:aw Try.prog (T5 iw P9 P22 hX):=dK (dK (dK (dK am M5) MB) d9) O4
def ve:LSh:=⟨[2,3,5,7],⟨j7,k7⟩,z3,5,[0,1,2,3,4]⟩
def Aj:List XSh:=[⟨.normal,[2,3,5,7],⟨⟨j7,k7⟩,z3,[0,1,2,3,4],5⟩⟩]
def Ir:LSh:=⟨[2,3,5,7],⟨j7,k7⟩,z3,5,[0,1,2,4]⟩
def Is:List XSh:=[⟨.normal,[2,3,5,7],⟨⟨j7,[(0,(.boxT aB)),(1,(.boxT rV)),(2,(.box [(.slc 5),(.slc 4)])),(4,(.row 50 lk)),(5,(.row 43 fX))]⟩,[y12,aB,rV,bC,bX],[0,1,2,4],6⟩⟩]
def It:List XSh:=[⟨.ret,[4],⟨⟨jP,k7⟩,[.bool,aB,rV,bX,bC],[0,1,2,3,4],5⟩⟩,⟨.normal,[2,3,5],⟨⟨[(.ptr 0 0),(.ptr 1 0),(.v y12)],k7⟩,z3,[0,1,2,3,4],5⟩⟩]
noncomputable def c5:=ef Try.prog [(12,{ch:=[0,0,0,1,0,0,0,0,0,1,0,0,0,0,0,0],rs:=[3] })] Try.f5 (.s .n (.s .n (.s .n (.s .n (.s .n (.s (.o ve Aj .n) (.s (.o ve Aj .n) (.s (.o Ir Is (.s .n (.s (.r [.a 4 true fX,.a 5 true fX]) .n))) (.s (.o ve It .n) .n)))))))))
noncomputable def l5_0 (T:List FEnt):=jE (xs:=Aj) ve (bW T (sb [1,1,1,1,1,0,2] c5))
noncomputable def Iu (F21:di)(F9:cS)(F22:lj)(F10:eU)(a0:Int)(a1:aK×aT)(a2:mX)(a3:List Y1)(a4:List Y2):Option AE:=
cond (decide (0≤a2.1)) (
cond (decide (a2.1 < (↑a3.length:Int))) (
au (aZ a2.1 a3.length) (
au (aq .i64 ((ix a3 a2.1).2.2+a2.2.1)) (
au (aZ a2.1 a3.length) (
some (a0,a1,a2,(List.set a3 a2.1.toNat ((ix a3 a2.1).1,((ix a3 a2.1).2.1,(min 6 ((ix a3 a2.1).2.2+a2.2.1))))),a4))))) (
some (a0,a1,a2,a3,a4))) (
some (a0,a1,a2,a3,a4))
theorem Nz (F21:di)(F9:cS)(F22:lj)(F10:eU):l5_0 (T5 F21 F9 F22 F10)=u5 (Iu F21 F9 F22 F10):=funext fun _=>by kernel_rfl
noncomputable def NA:=Iu iw P9 P22 hX
noncomputable def Iv:Fy:=fun x=>NA x.1 x.2.1 x.2.2.1 x.2.2.2.1 x.2.2.2.2
theorem NB:l5_0 (T5 iw P9 P22 hX)=Iv:=Nz iw P9 P22 hX
noncomputable def l5_1 (T:List FEnt):=jE (xs:=Aj) ve (bW T (sb [1,1,1,1,1,1,0,2] c5))
noncomputable def Iw (F21:di)(F9:cS)(F22:lj)(F10:eU)(a0:Int)(a1:aK×aT)(a2:mX)(a3:List Y1)(a4:List Y2):Option AE:=
cond (decide (0≤a2.2.2.1)) (
cond (decide (a2.2.2.1 < (↑a4.length:Int))) (
au (aZ a2.2.2.1 a4.length) (
au (aq .i64 ((ix a4 a2.2.2.1).2.2.1-a2.2.2.2.1)) (
au (aq .i64 ((ix a4 a2.2.2.1).2.2.2.1+a2.2.2.2.1)) (
au (aq .i64 ((ix a4 a2.2.2.1).2.2.2.2.1-a2.2.2.2.2.1)) (
au (aq .i64 ((ix a4 a2.2.2.1).2.2.2.2.2+a2.2.2.2.2.1)) (
au (aZ a2.2.2.1 a4.length) (
some (a0,a1,a2,a3,(List.set a4 a2.2.2.1.toNat ((ix a4 a2.2.2.1).1,((ix a4 a2.2.2.1).2.1,((max 0 ((ix a4 a2.2.2.1).2.2.1-a2.2.2.2.1)),((min 9 ((ix a4 a2.2.2.1).2.2.2.1+a2.2.2.2.1)),((max 0 ((ix a4 a2.2.2.1).2.2.2.2.1-a2.2.2.2.2.1)),(min 99 ((ix a4 a2.2.2.1).2.2.2.2.2+a2.2.2.2.2.1)))))))))))))))) (
some (a0,a1,a2,a3,a4))) (
some (a0,a1,a2,a3,a4))
theorem NC (F21:di)(F9:cS)(F22:lj)(F10:eU):l5_1 (T5 F21 F9 F22 F10)=u5 (Iw F21 F9 F22 F10):=funext fun _=>by kernel_rfl
noncomputable def ND:=Iw iw P9 P22 hX
noncomputable def Ix:Fy:=fun x=>ND x.1 x.2.1 x.2.2.1 x.2.2.2.1 x.2.2.2.2
theorem NE:l5_1 (T5 iw P9 P22 hX)=Ix:=NC iw P9 P22 hX
noncomputable def l5_2 (T:List FEnt):=jE (xs:=Is) Ir (bW T (sb [1,1,1,1,1,1,1,0,2] c5))
noncomputable def Iy (F21:di)(F9:cS)(F22:lj)(F10:eU)(a0:Int)(a1:aK×aT)(a2:mX)(a3:List Y1)(a4:List Y2):Option J0:=
cond (decide ((↑a3.length:Int) < 5)) (
au (bN 24 (List.length a3+List.length ([a2.2.2.2.2.2]:List Y1))) (
some (a0,a1,a2,a4,(a3++([a2.2.2.2.2.2]:List Y1))))) (
some (a0,a1,a2,a4,a3))
theorem NF (F21:di)(F9:cS)(F22:lj)(F10:eU):l5_2 (T5 F21 F9 F22 F10)=u5 (Iy F21 F9 F22 F10):=funext fun _=>by kernel_rfl
noncomputable def NG:=Iy iw P9 P22 hX
noncomputable def Iz:J9:=fun x=>NG x.1 x.2.1 x.2.2.1 x.2.2.2.1 x.2.2.2.2
theorem NH:l5_2 (T5 iw P9 P22 hX)=Iz:=NF iw P9 P22 hX
noncomputable def l5_3 (T:List FEnt):=jE (xs:=It) ve (bW T (sb [1,1,1,1,1,1,1,1,0,2] c5))
noncomputable def IA (F21:di)(F9:cS)(F22:lj)(F10:eU)(a0:Int)(a1:aK×aT)(a2:mX)(a3:List Y1)(a4:List Y2):Option Kd:=
(F21 (a3,a4)).bind fun r14=>(
cond r14 (
(F22 (a3,a4)).bind fun r15=>(
cond (!decide (r15.2=0)) (
some (Sum.inl (false,a1,a2,a3,a4))) (
cond (decide (r15.1 < a0)) (
some (Sum.inl (false,a1,a2,a3,a4))) (
some (Sum.inr (a0,a1,a2,a3,a4)))))) (
some (Sum.inr (a0,a1,a2,a3,a4))))
theorem NI (F21:di)(F9:cS)(F22:lj)(F10:eU):l5_3 (T5 F21 F9 F22 F10)=u5 (IA F21 F9 F22 F10):=funext fun _=>by kernel_rfl
noncomputable def NJ:=IA iw P9 P22 hX
noncomputable def IB:Kf:=fun x=>NJ x.1 x.2.1 x.2.2.1 x.2.2.2.1 x.2.2.2.2
theorem NK:l5_3 (T5 iw P9 P22 hX)=IB:=NI iw P9 P22 hX
theorem Rk:L.Fn Try.prog 5 212 [(.t 4)] (erase c5):=oA Try.func5
def NL:FSh:=⟨⟨[(.st aB),(.st rV)],[]⟩,[aB,rV],0,⟨⟨jP,[]⟩,[.bool],[],0⟩,true⟩
noncomputable def q5 (F21:di)(F9:cS)(F22:lj)(F10:eU)(l5_0 l5_1:Fy)(l5_2:J9)(l5_3:Kf)(a0:aK×aT)(a1:mX):Option Bool:=
(F21 a0).bind fun r1=>(
cond (!r1) (
(F9 ()).bind fun r2=>(
some r2)) (
cond (decide (a1.2.1 < 0)) (
(F9 ()).bind fun r3=>(
some r3)) (
cond (decide (9 < a1.2.1)) (
(F9 ()).bind fun r4=>(
some r4)) (
cond (decide (a1.2.2.2.1 < 0)) (
(F9 ()).bind fun r5=>(
some r5)) (
cond (decide (9 < a1.2.2.2.1)) (
(F9 ()).bind fun r6=>(
some r6)) (
cond (decide (a1.2.2.2.2.1 < 0)) (
(F9 ()).bind fun r7=>(
some r7)) (
cond (decide (99 < a1.2.2.2.2.1)) (
(F9 ()).bind fun r8=>(
some r8)) (
(F22 a0).bind fun r9=>(
cond (!decide (r9.2=0)) (
some false) (
(F10 a0).bind fun r10=>(
(l5_0 (r9.1,a0,a1,r10.1,r10.2)).bind fun y11=>(
(l5_1 (y11.1,y11.2.1,y11.2.2.1,y11.2.2.2.1,y11.2.2.2.2)).bind fun y12=>(
(l5_2 (y12.1,y12.2.1,y12.2.2.1,y12.2.2.2.1,y12.2.2.2.2)).bind fun y13=>(
(l5_3 (y13.1,y13.2.1,y13.2.2.1,y13.2.2.2.2,y13.2.2.2.1)).bind (fun y16=>Sum.elim (fun y17=>(
some y17.1)) (fun y18=>(
cond (decide (y18.2.2.1.2.2.1 < 0)) (
(F9 ()).bind fun r19=>(
some r19)) (
cond (decide ((↑y18.2.1.2.length:Int)≤y18.2.2.1.2.2.1)) (
(F9 ()).bind fun r20=>(
some r20)) (
(F10 y18.2.1).bind fun r21=>(
au (aZ y18.2.2.1.2.2.1 r21.2.length) (
au (aq .i64 ((ix r21.2 y18.2.2.1.2.2.1).2.1+1)) (
au (aZ y18.2.2.1.2.2.1 r21.2.length) (
(F21 (r21.1,(List.set r21.2 y18.2.2.1.2.2.1.toNat ((ix r21.2 y18.2.2.1.2.2.1).1,(((ix r21.2 y18.2.2.1.2.2.1).2.1+1),(ix r21.2 y18.2.2.1.2.2.1).2.2))))).bind fun r22=>(
cond (!r22) (
(F9 ()).bind fun r23=>(
some r23)) (
(F22 (r21.1,(List.set r21.2 y18.2.2.1.2.2.1.toNat ((ix r21.2 y18.2.2.1.2.2.1).1,(((ix r21.2 y18.2.2.1.2.2.1).2.1+1),(ix r21.2 y18.2.2.1.2.2.1).2.2))))).bind fun r24=>(
cond (decide (r24.2=0)) (
cond (decide (r24.1=y18.1)) (
(F9 ()).bind fun r25=>(
some r25)) (
au (aq .i64 (y18.1+1)) (
cond (decide (r24.1=(y18.1+1))) (
(F9 ()).bind fun r26=>(
some r26)) (
some false)))) (
some false)))))))))))) y16)))))))))))))))
theorem g5 (F21:di)(F9:cS)(F22:lj)(F10:eU):bH (T5 F21 F9 F22 F10) NL [(.t 4)] c5=u2 (q5 F21 F9 F22 F10 (l5_0 (T5 F21 F9 F22 F10)) (l5_1 (T5 F21 F9 F22 F10)) (l5_2 (T5 F21 F9 F22 F10)) (l5_3 (T5 F21 F9 F22 F10))):=funext fun _=>by kernel_rfl
noncomputable def p5:=q5 iw P9 P22 hX Iv Ix Iz IB
noncomputable def P5:cf×Int×Int×Int×Int×Int×Int×Int×Int→Option Bool:=u2 p5
theorem v5:bH (T5 iw P9 P22 hX) NL [(.t 4)] c5=P5:=(g5 iw P9 P22 hX).trans (by rw[NB,NE,NH,NK] <;> rfl)
theorem d5:DC Try.prog 5 NL P5:=dD v5 t5 Rk
noncomputable def Ak (F36:Y7):List FEnt:=[⟨36,qG,F36⟩]
theorem Rl:aw Try.prog (Ak P36):=dK am HQ
def CE:LSh:=⟨[1,2,5,6,33,42],⟨[(.v bX),(.ptr 0 0),(.v y12),(.v y12),(.v .bool),(.v .bool)],mW⟩,[bX,y12,y12,.bool,.bool,aB],1,[0]⟩
def CF:List XSh:=[⟨.ret,[4],⟨⟨oj,mW⟩,[y12,aB],[0],1⟩⟩,⟨(.exit 2),[1,2,5,33,42],⟨⟨[(.v bX),(.ptr 0 0),(.v y12),(.v .bool),(.v .bool)],mW⟩,[bX,y12,.bool,.bool,aB],[0],1⟩⟩]
def CG:LSh:=⟨[1,2,5],⟨[(.v bX),(.ptr 0 0),(.v y12)],mW⟩,[bX,y12,aB],1,[0]⟩
def CH:List XSh:=[⟨.ret,[4],⟨⟨oj,mW⟩,[y12,aB],[0],1⟩⟩,⟨(.exit 0),[],⟨⟨[],mW⟩,[aB],[0],1⟩⟩]
noncomputable def IC:=ef Try.prog [] Try.f23 (.s .n (.s .n (.s (.s .n (.b (.l CG CH (.s .n (.s (.b (.s .n (.s .n (.b (.l CE CF .n))))) .n))))) .n)))
noncomputable def CI (T:List FEnt):=aN (xs:=CF) CE (bW T (sb [1,1,0,1,2,2,1,0,2,1,1,2,2] IC))
noncomputable def l23_1 (T:List FEnt):=aa (CI T)
noncomputable def tC (F36:Y7)(a0:List Y1)(a1 a2:Int)(a3 a4:Bool)(a5:aK×aT):Option ((aK×Int×Int×Bool×Bool×aK×aT)⊕J3):=
cond (decide (a2 < a1)) (
au (aZ a2 a0.length) (
au (aZ a1 a0.length) (
cond (decide ((ix a0 a2).1=(ix a0 a1).1)) (
au (aZ a2 a0.length) (
au (aZ a1 a0.length) (
cond (!((decide ((ix a0 a2).1=(ix a0 a1).1)&&decide ((ix a0 a2).2.1=(ix a0 a1).2.1))&&decide ((ix a0 a2).2.2=(ix a0 a1).2.2))) (
some (Sum.inr (Sum.inl (72,a5)))) (
au (aq .i64 (a2+1)) (
some (Sum.inl (a0,a1,(a2+1),a3,a4,a5))))))) (
au (aq .i64 (a2+1)) (
some (Sum.inl (a0,a1,(a2+1),a3,a4,a5))))))) (
some (Sum.inr (Sum.inr (a0,a1,a3,a4,a5))))
theorem ID (F36:Y7):CI (Ak F36)=u6 (tC F36):=funext fun _=>by kernel_rfl
noncomputable def xA:=tC P36
noncomputable def L23_1:Ka:=aa (u6 xA)
theorem IE:l23_1 (Ak P36)=L23_1:=congrArg aa (ID P36)
noncomputable def CJ (T:List FEnt):=aN (xs:=CH) CG (bW T (sb [1,1,0,1,2,2] IC))
noncomputable def l23_0 (T:List FEnt):=aa (CJ T)
noncomputable def tD (F36:Y7)(l23_1:Ka)(a0:List Y1)(a1:Int)(a2:aK×aT):Option ((aK×Int×aK×aT)⊕DS):=
cond (decide (a1 < (↑a0.length:Int))) (
au (aZ a1 a0.length) (
(F36 ((ix a0 a1).1,0,99)).bind fun r1=>(
cond (!r1) (
some (Sum.inr (Sum.inl (72,a2)))) (
au (aZ a1 a0.length) (
au (aq .i64 ((↑a2.1.length:Int)-1)) (
(F36 ((ix a0 a1).2.1,0,((↑a2.1.length:Int)-1))).bind fun r2=>(
cond (!r2) (
some (Sum.inr (Sum.inl (72,a2)))) (
au (aZ a1 a0.length) (
(F36 ((ix a0 a1).2.2,0,99)).bind fun r3=>(
cond (!r3) (
some (Sum.inr (Sum.inl (72,a2)))) (
(l23_1 (a0,a1,0,r2,r3,a2)).bind (fun y4=>Sum.elim (fun y5=>(
some (Sum.inr (Sum.inl (y5.1,y5.2))))) (fun y6=>(
au (aq .i64 (y6.2.1+1)) (
some (Sum.inl (y6.1,(y6.2.1+1),y6.2.2.2.2))))) y4)))))))))))) (
some (Sum.inr (Sum.inr a2)))
theorem IF (F36:Y7):CJ (Ak F36)=u3 (tD F36 (l23_1 (Ak F36))):=funext fun _=>by kernel_rfl
noncomputable def xB:=tD P36 L23_1
noncomputable def xC:Kb:=aa (u3 xB)
theorem IG:l23_0 (Ak P36)=xC:=congrArg aa ((IF P36).trans (by rw[IE] <;> rfl))
theorem NM:L.Fn Try.prog 23 72 [(.t 4)] (erase IC):=oA Try.func23
def xD:FSh:=⟨⟨A8,[]⟩,z8,0,⟨⟨oj,[]⟩,[y12],[],0⟩,true⟩
noncomputable def Lh (F36:Y7)(l23_0:Kb)(a0:aK×aT)(a1:List Y1):Option Int:=
cond (decide (30 < (↑a1.length:Int))) (
some 72) (
(l23_0 (a1,0,a0)).bind (fun y7=>Sum.elim (fun y8=>(
some y8.1)) (fun y9=>(
some 0)) y7))
theorem Rm (F36:Y7):bH (Ak F36) xD [(.t 4)] IC=u2 (Lh F36 (l23_0 (Ak F36))):=funext fun _=>by kernel_rfl
noncomputable def NN:=Lh P36 xC
noncomputable def kM:jl:=u2 NN
theorem Rn:bH (Ak P36) xD [(.t 4)] IC=kM:=(Rm P36).trans (by rw[IG] <;> rfl)
theorem O5:DC Try.prog 23 xD kM:=dD Rn Rl NM
noncomputable def Gv:List FEnt:=[]
theorem Ro:aw Try.prog Gv:=am
def CK:LSh:=⟨[0,3,4],⟨[(.v bg),(.v y12),(.v y12)],[]⟩,[bg,y12,y12],0,[]⟩
def CL:List XSh:=[⟨(.exit 0),[3],⟨⟨oj,[]⟩,[y12],[],0⟩⟩]
noncomputable def Li:=ef Try.prog [] Try.f24 (.s .n (.s .n (.s (.s .n (.b (.l CK CL .n))) .n)))
noncomputable def CM (T:List FEnt):=aN (xs:=CL) CK (bW T (sb [1,1,0,1,2,2] Li))
noncomputable def l24_0 (T:List FEnt):=aa (CM T)
noncomputable def CN (a0:List Int)(a1 a2:Int):Option ((Y6×Int×Int)⊕Int):=
cond (decide (a2 < (↑a0.length:Int))) (
au (aZ a2 a0.length) (
au (aq .i64 (a1+(ix a0 a2))) (
au (aq .i64 (a2+1)) (
some (Sum.inl (a0,(a1+(ix a0 a2)),(a2+1))))))) (
some (Sum.inr a1))
theorem IH:CM Gv=u3 CN:=funext fun _=>by kernel_rfl
noncomputable def II:=CN
noncomputable def CO:JY:=aa (u3 II)
theorem v24_0:l24_0 Gv=CO:=congrArg aa IH
theorem NO:L.Fn Try.prog 24 18 [(.t 2)] (erase Li):=oA Try.func24
def Al:FSh:=⟨⟨[(.v bg)],[]⟩,[bg],0,⟨⟨oj,[]⟩,[y12],[],0⟩,true⟩
noncomputable def O6 (l24_0:JY)(a0:List Int):Option Int:=
(l24_0 (a0,0,0)).bind fun y1=>(
some y1)
theorem g24 (a0:List Int):bH Gv Al [(.t 2)] Li a0=O6 (l24_0 Gv) a0:=by kernel_rfl
noncomputable def Rp:=O6 CO
noncomputable def pE:lx:=fun x=>Rp x
theorem Rq:bH Gv Al [(.t 2)] Li=pE:=funext fun x=>(g24 x).trans (by rw[v24_0] <;> rfl)
theorem Rr:DC Try.prog 24 Al pE:=dD Rq Ro NO
end Go.Proofs.Ytjoncejabdjekaa.D
