import Derived.Test.YtjoncejabdjekaaG2o
import Derived.Test.YtjoncejabdjekaaProg
set_option linter.unusedVariables false
set_option maxRecDepth 100000
namespace Go.Proofs.Ytjoncejabdjekaa.D
open Go Go.Proofs Go.Proofs.Ytjoncejabdjekaa.L
def z5:List Ty:=[bX,aB,rX,bX]
def j6:List RSh:=[(.v bX),(.ptr 0 0),(.ptr 1 0),(.slc 2),(.v y12)]
def j8:List RSh:=[(.v bX),(.ptr 0 0),(.ptr 1 0),(.slc 2)]
def j2:List RSh:=[(.v bX),(.ptr 0 0),(.slr 1),(.v y12),(.v y12),(.v .bool),(.v y12)]
def j4:List RSh:=[(.v bX),(.ptr 0 0),(.slr 1),(.v y12),(.v y12),(.v .bool)]
def Gw:List (Nat×OSh):=[(0,(.boxT aB)),(1,(.boxT rX)),(2,(.row 53 fX))]
def NP:List (Nat×OSh):=[(0,(.row 3 y12)),(1,(.row 3 y12))]
def CP:List (Nat×OSh):=[(0,(.boxT aB)),(1,(.rows 28 3 y12))]
def Lj:List (Nat×OSh):=[(0,(.boxT aB)),(1,(.rows 28 3 y12)),(2,(.row 3 y12))]
def O7:List (Nat×OSh):=[(0,(.rows 28 3 y12)),(1,(.boxT aB)),(2,(.row 28 bg))]
noncomputable def T6 (F21:di)(F9:cS)(F23:jl)(F17:oD)(F15:el)(F24:lx)(F19:fQ)(F22:lj):List FEnt:=[⟨21,xz,F21⟩,⟨9,Fs,F9⟩,⟨23,xD,F23⟩,⟨17,uZ,F17⟩,⟨15,rU,F15⟩,⟨24,Al,F24⟩,⟨19,u0,F19⟩,⟨22,uY,F22⟩]
theorem t6:aw Try.prog (T6 iw P9 kM P17 P15 pE P19 P22):=dK (dK (dK (dK (dK (dK (dK (dK am MB) MV) Rr) Lc) MM) O5) d9) O4
def IJ:LSh:=⟨[1,3,5,7,8,9],⟨[(.v bX),(.ptr 0 0),(.ptr 1 0),(.slc 2),(.v y12),(.v y12)],Gw⟩,[bX,y12,y12,aB,rX,bX],3,[0,1,2]⟩
def IK:List XSh:=[⟨(.exit 2),[1,3,5,7,8],⟨⟨j6,Gw⟩,[bX,y12,aB,rX,bX],[0,1,2],3⟩⟩]
def IL:LSh:=⟨[1,3,5,7,8],⟨j6,Gw⟩,[bX,y12,aB,rX,bX],3,[0,1,2]⟩
def IM:List XSh:=[⟨(.exit 0),[1,3,5,7],⟨⟨j8,Gw⟩,z5,[0,1,2],3⟩⟩]
def IN:LSh:=⟨[1,3,5,7],⟨j8,Gw⟩,z5,3,[0,1]⟩
def IP:List XSh:=[⟨.normal,[1,3,5,7],⟨⟨j8,Gw⟩,z5,[0,1],3⟩⟩]
def IQ:LSh:=⟨[10,25,28],⟨[(.slc 0),(.slc 1),(.v y12)],NP⟩,[y12,bg,bg],2,[0,1]⟩
def IS:List XSh:=[⟨.ret,[6],⟨⟨jP,NP⟩,[.bool,bg,bg],[0,1],2⟩⟩,⟨(.exit 4),[],⟨⟨[],NP⟩,[bg,bg],[0,1],2⟩⟩]
noncomputable def c6:=ef Try.prog [(8,{ch:=[0,0,0,0,0,0,0,0,0,0,1] }),(23,{ch:=[1,0,0,0,1,1,0,0],rs:=[5],ord:=[0,1,3,4,5,2,6,7] })] Try.f6 (.s .n (.s .n (.s (.r [.a 0 true fX,.a 2 true fX]) (.s (.s .n (.b (.l IL IM (.s .n (.s (.b (.s .n (.b (.l IJ IK .n)))) .n))))) (.s (.o IN IP (.s .n (.s (.r [.a 7 true fX,.a 8 true fX]) .n))) (.s .n (.s .n (.s .n (.s .n (.s .n (.s .n (.s .n (.s .n (.s (.r [.a 4 true fX,.a 5 true fX,.a 6 true fX]) (.s .n (.s .n (.s .n (.s (.s .n (.b (.l IQ IS .n))) .n))))))))))))))))))
noncomputable def IT (T:List FEnt):=aN (xs:=IK) IJ (bW T (sb [1,1,1,0,1,2,2,1,0,2,1,2,2] c6))
noncomputable def l6_1 (T:List FEnt):=aa (IT T)
noncomputable def IU (F21:di)(F9:cS)(F23:jl)(F17:oD)(F15:el)(F24:lx)(F19:fQ)(F22:lj)(a0:List Y1)(a1 a2:Int)(a3:aK×aT)(a4:nB)(a5:List Y1):Option ((aK×Int×Int×cf×nB×aK)⊕FA):=
cond (decide (0 < a2)) (
au (aZ a1 a4.1.length) (
cond (decide ((IntKind.wrap .i64 (a1-(ix a4.1 a1))) < a2)) (
au (aq .i64 (a2-1)) (
au (aq .i64 (a2-1)) (
au (aZ (a2-1) a5.length) (
au (aZ a2 a5.length) (
au (aZ a2 a5.length) (
au (aZ (a2-1) (List.length (List.set a5 a2.toNat (ix a5 (a2-1))))) (
au (aq .i64 (a2-1)) (
some (Sum.inl (a0,a1,(a2-1),a3,a4,(List.set (List.set a5 a2.toNat (ix a5 (a2-1))) (Int.toNat (a2-1)) (ix a5 a2)))))))))))) (
some (Sum.inr (a0,a1,a3,a4,a5))))) (
some (Sum.inr (a0,a1,a3,a4,a5)))
theorem NQ (F21:di)(F9:cS)(F23:jl)(F17:oD)(F15:el)(F24:lx)(F19:fQ)(F22:lj):IT (T6 F21 F9 F23 F17 F15 F24 F19 F22)=u6 (IU F21 F9 F23 F17 F15 F24 F19 F22):=funext fun _=>by kernel_rfl
noncomputable def NR:=IU iw P9 kM P17 P15 pE P19 P22
noncomputable def IV:Kn:=aa (u6 NR)
theorem NT:l6_1 (T6 iw P9 kM P17 P15 pE P19 P22)=IV:=congrArg aa (NQ iw P9 kM P17 P15 pE P19 P22)
noncomputable def IW (T:List FEnt):=aN (xs:=IM) IL (bW T (sb [1,1,1,0,1,2,2] c6))
noncomputable def l6_0 (T:List FEnt):=aa (IW T)
noncomputable def IX (F21:di)(F9:cS)(F23:jl)(F17:oD)(F15:el)(F24:lx)(F19:fQ)(F22:lj)(l6_1:Kn)(a0:List Y1)(a1:Int)(a2:aK×aT)(a3:nB)(a4:List Y1):Option (FA⊕AG):=
cond (decide (a1 < (↑a4.length:Int))) (
cond (decide (a1 < (↑a3.1.length:Int))) (
(l6_1 (a0,a1,a1,a2,a3,a4)).bind fun y9=>(
au (aq .i64 (y9.2.1+1)) (
some (Sum.inl (y9.1,(y9.2.1+1),y9.2.2.1,y9.2.2.2.1,y9.2.2.2.2))))) (
some (Sum.inr (a0,a2,a3,a4)))) (
some (Sum.inr (a0,a2,a3,a4)))
theorem NU (F21:di)(F9:cS)(F23:jl)(F17:oD)(F15:el)(F24:lx)(F19:fQ)(F22:lj):IW (T6 F21 F9 F23 F17 F15 F24 F19 F22)=u5 (IX F21 F9 F23 F17 F15 F24 F19 F22 (l6_1 (T6 F21 F9 F23 F17 F15 F24 F19 F22))):=funext fun _=>by kernel_rfl
noncomputable def NV:=IX iw P9 kM P17 P15 pE P19 P22 IV
noncomputable def IY:Ko:=aa (u5 NV)
theorem NW:l6_0 (T6 iw P9 kM P17 P15 pE P19 P22)=IY:=congrArg aa ((NU iw P9 kM P17 P15 pE P19 P22).trans (by rw[NT] <;> rfl))
noncomputable def l6_2 (T:List FEnt):=jE (xs:=IP) IN (bW T (sb [1,1,1,1,0,2] c6))
noncomputable def IZ (F21:di)(F9:cS)(F23:jl)(F17:oD)(F15:el)(F24:lx)(F19:fQ)(F22:lj)(a0:List Y1)(a1:aK×aT)(a2:nB)(a3:List Y1):Option AG:=
cond (decide (0 < (↑a0.length:Int))) (
au (aq .i64 ((↑a0.length:Int)-1)) (
au (aZ ((↑a0.length:Int)-1) a0.length) (
au (bN 24 (List.length a3+List.length ([(ix a0 ((↑a0.length:Int)-1))]:List Y1))) (
some (a0,a1,a2,(a3++([(ix a0 ((↑a0.length:Int)-1))]:List Y1))))))) (
some (a0,a1,a2,a3))
theorem NX (F21:di)(F9:cS)(F23:jl)(F17:oD)(F15:el)(F24:lx)(F19:fQ)(F22:lj):l6_2 (T6 F21 F9 F23 F17 F15 F24 F19 F22)=u4 (IZ F21 F9 F23 F17 F15 F24 F19 F22):=funext fun _=>by kernel_rfl
noncomputable def NY:=IZ iw P9 kM P17 P15 pE P19 P22
noncomputable def I0:Kp:=fun x=>NY x.1 x.2.1 x.2.2.1 x.2.2.2
theorem NZ:l6_2 (T6 iw P9 kM P17 P15 pE P19 P22)=I0:=NX iw P9 kM P17 P15 pE P19 P22
noncomputable def I1 (T:List FEnt):=aN (xs:=IS) IQ (bW T (sb [1,1,1,1,1,1,1,1,1,1,1,1,1,1,1,1,1,0,1,2,2] c6))
noncomputable def l6_3 (T:List FEnt):=aa (I1 T)
noncomputable def I2 (F21:di)(F9:cS)(F23:jl)(F17:oD)(F15:el)(F24:lx)(F19:fQ)(F22:lj)(a0:Int)(a1 a2:List Int):Option ((Int×Y6×Y6)⊕Kg):=
cond (decide (a0 < (↑a2.length:Int))) (
au (aZ a0 a2.length) (
au (aZ a0 a1.length) (
cond (decide ((ix a1 a0) < (ix a2 a0))) (
some (Sum.inr (Sum.inl (false,a1,a2)))) (
au (aZ a0 a2.length) (
au (aZ a0 a1.length) (
au (aq .i64 ((ix a1 a0)-1)) (
cond (decide ((ix a2 a0) < ((ix a1 a0)-1))) (
some (Sum.inr (Sum.inl (false,a1,a2)))) (
au (aq .i64 (a0+1)) (
some (Sum.inl ((a0+1),a1,a2))))))))))) (
some (Sum.inr (Sum.inr (a1,a2))))
theorem N0 (F21:di)(F9:cS)(F23:jl)(F17:oD)(F15:el)(F24:lx)(F19:fQ)(F22:lj):I1 (T6 F21 F9 F23 F17 F15 F24 F19 F22)=u3 (I2 F21 F9 F23 F17 F15 F24 F19 F22):=funext fun _=>by kernel_rfl
noncomputable def N1:=I2 iw P9 kM P17 P15 pE P19 P22
noncomputable def I3:Kh:=aa (u3 N1)
theorem N2:l6_3 (T6 iw P9 kM P17 P15 pE P19 P22)=I3:=congrArg aa (N0 iw P9 kM P17 P15 pE P19 P22)
theorem Rs:L.Fn Try.prog 6 286 [(.t 6)] (erase c6):=oA Try.func6
def N3:FSh:=⟨⟨[(.st aB),(.v bX),(.st rX)],[]⟩,[aB,bX,rX],0,⟨⟨jP,[]⟩,[.bool],[],0⟩,true⟩
noncomputable def q6 (F21:di)(F9:cS)(F23:jl)(F17:oD)(F15:el)(F24:lx)(F19:fQ)(F22:lj)(l6_0:Ko)(l6_2:Kp)(l6_3:Kh)(a0:aK×aT)(a1:List Y1)(a2:nB):Option Bool:=
(F21 a0).bind fun r1=>(
cond (!r1) (
(F9 ()).bind fun r2=>(
some r2)) (
cond (decide (28 < (↑a1.length:Int))) (
(F9 ()).bind fun r3=>(
some r3)) (
cond (decide (40 < (↑a2.1.length:Int))) (
(F9 ()).bind fun r4=>(
some r4)) (
(F23 (a0,a1)).bind fun r5=>(
cond (!decide (r5=0)) (
(F9 ()).bind fun r6=>(
some r6)) (
cond (decide (a2.2.2.2.2 < 0)) (
(F9 ()).bind fun r7=>(
some r7)) (
cond (decide (99≤a2.2.2.2.2)) (
(F9 ()).bind fun r8=>(
some r8)) (
au (bN 24 (List.length ([]:List Y1)+List.length a1)) (
(l6_0 (a1,0,a0,a2,(([]:List Y1)++a1))).bind fun y10=>(
(l6_2 (y10.1,y10.2.1,y10.2.2.1,y10.2.2.2)).bind fun y11=>(
(F17 (y11.2.1,y11.1)).bind fun r12=>(
(F17 (y11.2.1,y11.2.2.2)).bind fun r13=>(
cond (!decide (r12.2.1=0)) (
some false) (
cond (!decide (r13.2.1=0)) (
some false) (
cond (!decide (r12.1=r13.1)) (
some false) (
(F15 (r12.2.2,r13.2.2)).bind fun r14=>(
cond (!r14) (
some false) (
cond (!decide ((↑r12.2.2.length:Int)=(↑y11.2.1.2.length:Int))) (
some false) (
(F24 r12.2.2).bind fun r15=>(
cond (decide (100 < r15)) (
some false) (
(F19 (y11.2.1,y11.1,y11.2.2.1.2.2.2.2)).bind fun r16=>(
au (aq .i64 (y11.2.2.1.2.2.2.2+1)) (
(F19 (y11.2.1,y11.2.2.2,(y11.2.2.1.2.2.2.2+1))).bind fun r17=>(
(F19 (y11.2.1,([]:List Y1),0)).bind fun r18=>(
(F22 y11.2.1).bind fun r19=>(
cond (!decide (r16.2=0)) (
some false) (
cond (!decide (r17.2=0)) (
some false) (
cond (!decide (r18.2=0)) (
some false) (
cond (!decide (r19.2=0)) (
some false) (
(F24 r12.2.2).bind fun r20=>(
cond (decide (r20 < r16.1)) (
some false) (
cond (decide (r16.1 < r17.1)) (
some false) (
cond (decide (r17.1 < 0)) (
some false) (
cond (!decide (r18.1=r19.1)) (
some false) (
au (bN 24 y11.1.length) (
au (bN 24 (List.length y11.1+List.length ([(y11.2.2.1.2.1,(y11.2.2.1.2.2.1,y11.2.2.1.2.2.2.1))]:List Y1))) (
(F23 (y11.2.1,(y11.1++([(y11.2.2.1.2.1,(y11.2.2.1.2.2.1,y11.2.2.1.2.2.2.1))]:List Y1)))).bind fun r21=>(
cond (!decide (r21=0)) (
(F9 ()).bind fun r22=>(
some r22)) (
(F17 (y11.2.1,(y11.1++([(y11.2.2.1.2.1,(y11.2.2.1.2.2.1,y11.2.2.1.2.2.2.1))]:List Y1)))).bind fun r23=>(
cond (!decide (r23.2.1=0)) (
some false) (
cond (!decide ((↑r23.2.2.length:Int)=(↑r12.2.2.length:Int))) (
some false) (
cond (decide (r23.1 < r12.1)) (
some false) (
(l6_3 (0,r12.2.2,r23.2.2)).bind (fun y24=>Sum.elim (fun y25=>(
some y25.1)) (fun y26=>(
(F9 ()).bind fun r27=>(
some r27))) y24))))))))))))))))))))))))))))))))))))))))))))
theorem g6 (F21:di)(F9:cS)(F23:jl)(F17:oD)(F15:el)(F24:lx)(F19:fQ)(F22:lj):bH (T6 F21 F9 F23 F17 F15 F24 F19 F22) N3 [(.t 6)] c6=u3 (q6 F21 F9 F23 F17 F15 F24 F19 F22 (l6_0 (T6 F21 F9 F23 F17 F15 F24 F19 F22)) (l6_2 (T6 F21 F9 F23 F17 F15 F24 F19 F22)) (l6_3 (T6 F21 F9 F23 F17 F15 F24 F19 F22))):=funext fun _=>by kernel_rfl
noncomputable def p6:=q6 iw P9 kM P17 P15 pE P19 P22 IY I0 I3
noncomputable def P6:cf×aK×Y6×Int×Int×Int×Int→Option Bool:=u3 p6
theorem v6:bH (T6 iw P9 kM P17 P15 pE P19 P22) N3 [(.t 6)] c6=P6:=(g6 iw P9 kM P17 P15 pE P19 P22).trans (by rw[NW,NZ,N2] <;> rfl)
theorem d6:DC Try.prog 6 N3 P6:=dD v6 t6 Rs
noncomputable def N4 (F12:fP)(F23:jl):List FEnt:=[⟨12,qH,F12⟩,⟨23,xD,F23⟩]
theorem Rt:aw Try.prog (N4 P12 kM):=dK (dK am O5) HY
noncomputable def N5:=ef Try.prog [] Try.f42 .n
theorem N6:L.Fn Try.prog 42 11 [(.t 4)] (erase N5):=oA Try.func42
def xE:FSh:=⟨⟨A8,[]⟩,z8,0,⟨⟨oj,[]⟩,[y12],[],0⟩,true⟩
noncomputable def Gx (F12:fP)(F23:jl)(a0:aK×aT)(a1:List Y1):Option Int:=
(F12 a0).bind fun r1=>(
cond (!decide (r1=0)) (
some 70) (
(F23 (a0,a1)).bind fun r2=>(
some r2)))
theorem Ru (F12:fP)(F23:jl):bH (N4 F12 F23) xE [(.t 4)] N5=u2 (Gx F12 F23):=funext fun _=>by kernel_rfl
noncomputable def Rv:=Gx P12 kM
noncomputable def pz:jl:=u2 Rv
theorem Rw:bH (N4 P12 kM) xE [(.t 4)] N5=pz:=Ru P12 kM
theorem O8:DC Try.prog 42 xE pz:=dD Rw Rt N6
noncomputable def Gy:List FEnt:=[]
theorem Rx:aw Try.prog Gy:=am
def CQ:LSh:=⟨[1,3,4],⟨[(.ptr 0 0),(.slr 1),(.v y12)],CP⟩,[y12,aB,aF],2,[0]⟩
def CS:List XSh:=[⟨(.exit 0),[3],⟨⟨[(.slr 1)],CP⟩,z7,[0],2⟩⟩]
noncomputable def Lk:=ef Try.prog [] Try.f49 (.s .n (.s .n (.s (.s .n (.b (.l CQ CS (.s .n (.s (.b (.r [.a 4 false y12,.a 5 true bg,.a 6 true bg])) .n))))) .n)))
noncomputable def CT (T:List FEnt):=aN (xs:=CS) CQ (bW T (sb [1,1,0,1,2,2] Lk))
noncomputable def l49_0 (T:List FEnt):=aa (CT T)
noncomputable def ot (a0:Int)(a1:aK×aT)(a2:List Y6):Option (FB⊕Km):=
cond (decide (a0 < (↑a1.1.length:Int))) (
au (decide (0≤(↑a1.2.length:Int))) (
au (decide (8*(↑a1.2.length:Int)≤140737488355328)) (
au (bN 24 (List.length a2+List.length ([(gj (Int.toNat (↑a1.2.length:Int)) 0:List Int)]:List Y6))) (
au (aq .i64 (a0+1)) (
some (Sum.inl ((a0+1),a1,(a2++([(gj (Int.toNat (↑a1.2.length:Int)) 0:List Int)]:List Y6))))))))) (
some (Sum.inr (a1,a2)))
theorem I4:CT Gy=u3 ot:=funext fun _=>by kernel_rfl
noncomputable def CU:=ot
noncomputable def tE:Kq:=aa (u3 CU)
theorem v49_0:l49_0 Gy=tE:=congrArg aa I4
theorem N7:L.Fn Try.prog 49 20 [(.t 2)] (erase Lk):=oA Try.func49
def Am:FSh:=⟨⟨A7,[]⟩,[aB],0,⟨⟨[(.slr 0)],[(0,(.rows 28 3 y12))]⟩,[aF],[],1⟩,false⟩
noncomputable def Ll (l49_0:Kq)(a0:aK×aT):Option az:=
(l49_0 (0,a0,([]:List Y6))).bind fun y1=>(
some y1.2)
theorem g49 (a0:aK×aT):bH Gy Am [(.t 2)] Lk a0=Ll (l49_0 Gy) a0:=by kernel_rfl
noncomputable def Ry:=Ll tE
noncomputable def P49:nC:=fun x=>Ry x
theorem Rz:bH Gy Am [(.t 2)] Lk=P49:=funext fun x=>(g49 x).trans (by rw[v49_0] <;> rfl)
theorem RA:DC Try.prog 49 Am P49:=dD Rz Rx N7
noncomputable def vB (F49:nC)(F55:jo):List FEnt:=[⟨49,Am,F49⟩,⟨55,vd,F55⟩]
theorem RB:aw Try.prog (vB P49 P55):=dK (dK am Nf) RA
def CV:LSh:=⟨[1,2,4,5,6,7,8],⟨j2,CP⟩,[bX,y12,y12,.bool,y12,aB,aF],2,[0,1]⟩
def CW:List XSh:=[⟨(.exit 2),[1,2,4,5,6,7],⟨⟨j4,CP⟩,[bX,y12,y12,.bool,aB,aF],[0,1],2⟩⟩]
def CX:LSh:=⟨[1,2,4,5,6,9,10],⟨j2,CP⟩,[bX,y12,y12,.bool,y12,aB,aF],2,[0,1]⟩
def CY:List XSh:=[⟨(.exit 4),[1,2,4,5,6,9],⟨⟨j4,CP⟩,[bX,y12,y12,.bool,aB,aF],[0,1],2⟩⟩]
def CZ:LSh:=⟨[1,2,4,5,6],⟨[(.v bX),(.ptr 0 0),(.slr 1),(.v y12),(.v y12)],CP⟩,[bX,y12,y12,aB,aF],2,[0,1]⟩
def C0:List XSh:=[⟨(.exit 0),[4,5],⟨⟨[(.slr 1),(.v y12)],CP⟩,[y12,aB,aF],[0,1],2⟩⟩]
noncomputable def Gz:=ef Try.prog [] Try.f46 (.s .n (.s .n (.s (.s .n (.b (.l CZ C0 (.s .n (.s (.b (.s .n (.s (.s .n (.b (.l CV CW .n))) (.s .n (.s .n (.s (.s .n (.b (.l CX CY .n))) .n)))))) .n))))) .n)))
noncomputable def C1 (T:List FEnt):=aN (xs:=CW) CV (bW T (sb [1,1,0,1,2,2,1,0,2,1,0,1,2,2] Gz))
noncomputable def l46_1 (T:List FEnt):=aa (C1 T)
noncomputable def ou (F49:nC)(F55:jo)(a0:List Y1)(a1 a2:Int)(a3:Bool)(a4:Int)(a5:aK×aT)(a6:List Y6):Option Kw:=
cond (decide (a4 < a2)) (
cond a3 (
au (aq .i64 (a4+1)) (
some (Sum.inl (a0,a1,a2,true,(a4+1),a5,a6)))) (
au (aZ a4 a0.length) (
au (aZ a2 a0.length) (
cond (decide ((ix a0 a4).2.1=(ix a0 a2).2.1)) (
au (aZ a4 a0.length) (
au (aZ a2 a0.length) (
au (aq .i64 (a4+1)) (
some (Sum.inl (a0,a1,a2,decide ((ix a0 a4).2.2=(ix a0 a2).2.2),(a4+1),a5,a6)))))) (
au (aq .i64 (a4+1)) (
some (Sum.inl (a0,a1,a2,false,(a4+1),a5,a6)))))))) (
some (Sum.inr (a0,a1,a2,a3,a5,a6)))
theorem I5 (F49:nC)(F55:jo):C1 (vB F49 F55)=u7 (ou F49 F55):=funext fun _=>by kernel_rfl
noncomputable def C2:=ou P49 P55
noncomputable def L46_1:FC:=aa (u7 C2)
theorem I6:l46_1 (vB P49 P55)=L46_1:=congrArg aa (I5 P49 P55)
noncomputable def C3 (T:List FEnt):=aN (xs:=CY) CX (bW T (sb [1,1,0,1,2,2,1,0,2,1,1,1,1,0,1,2,2] Gz))
noncomputable def l46_2 (T:List FEnt):=aa (C3 T)
noncomputable def q46_2 (F49:nC)(F55:jo)(a0:List Y1)(a1 a2:Int)(a3:Bool)(a4:Int)(a5:aK×aT)(a6:List Y6):Option Kw:=
cond (decide (a4 < (↑a5.2.length:Int))) (
au (aZ a4 a5.2.length) (
au (aZ a2 a0.length) (
cond (decide ((ix a5.2 a4).1=(ix a0 a2).2.2)) (
au (aZ a4 a5.2.length) (
au (aZ a2 a0.length) (
au (aZ ((ix a0 a2).2.1) a5.1.length) (
(F55 ((ix a5.2 a4),(ix a5.1 ((ix a0 a2).2.1)))).bind fun r3=>(
cond r3 (
au (aZ a2 a0.length) (
au (aZ ((ix a0 a2).2.1) a6.length) (
au (aZ a4 (List.length (ix a6 ((ix a0 a2).2.1)))) (
au (aq .i64 (a4+1)) (
some (Sum.inl (a0,a1,a2,true,(a4+1),a5,(List.set a6 (Int.toNat ((ix a0 a2).2.1)) (List.set (ix a6 ((ix a0 a2).2.1)) a4.toNat 1))))))))) (
au (aq .i64 (a4+1)) (
some (Sum.inl (a0,a1,a2,a3,(a4+1),a5,a6))))))))) (
au (aq .i64 (a4+1)) (
some (Sum.inl (a0,a1,a2,a3,(a4+1),a5,a6))))))) (
some (Sum.inr (a0,a1,a2,a3,a5,a6)))
theorem I7 (F49:nC)(F55:jo):C3 (vB F49 F55)=u7 (q46_2 F49 F55):=funext fun _=>by kernel_rfl
noncomputable def C4:=q46_2 P49 P55
noncomputable def L46_2:FC:=aa (u7 C4)
theorem I8:l46_2 (vB P49 P55)=L46_2:=congrArg aa (I7 P49 P55)
noncomputable def C5 (T:List FEnt):=aN (xs:=C0) CZ (bW T (sb [1,1,0,1,2,2] Gz))
noncomputable def l46_0 (T:List FEnt):=aa (C5 T)
noncomputable def q46_0 (F49:nC)(F55:jo)(l46_1 l46_2:FC)(a0:List Y1)(a1 a2:Int)(a3:aK×aT)(a4:List Y6):Option ((aK×Int×Int×cf×az)⊕FB):=
cond (decide (a2 < (↑a0.length:Int))) (
(l46_1 (a0,a1,a2,false,0,a3,a4)).bind fun y2=>(
cond y2.2.2.2.1 (
au (aq .i64 (y2.2.2.1+1)) (
some (Sum.inl (y2.1,y2.2.1,(y2.2.2.1+1),y2.2.2.2.2.1,y2.2.2.2.2.2)))) (
(l46_2 (y2.1,y2.2.1,y2.2.2.1,false,0,y2.2.2.2.2.1,y2.2.2.2.2.2)).bind fun y4=>(
cond (!y4.2.2.2.1) (
au (aq .i64 (y4.2.1+1)) (
au (aq .i64 (y4.2.2.1+1)) (
some (Sum.inl (y4.1,(y4.2.1+1),(y4.2.2.1+1),y4.2.2.2.2.1,y4.2.2.2.2.2))))) (
au (aq .i64 (y4.2.2.1+1)) (
some (Sum.inl (y4.1,y4.2.1,(y4.2.2.1+1),y4.2.2.2.2.1,y4.2.2.2.2.2)))))))) (
some (Sum.inr (a1,a3,a4)))
theorem I9 (F49:nC)(F55:jo):C5 (vB F49 F55)=u5 (q46_0 F49 F55 (l46_1 (vB F49 F55)) (l46_2 (vB F49 F55))):=funext fun _=>by kernel_rfl
noncomputable def C6:=q46_0 P49 P55 L46_1 L46_2
noncomputable def tF:Kr:=aa (u5 C6)
theorem Ja:l46_0 (vB P49 P55)=tF:=congrArg aa ((I9 P49 P55).trans (by rw[I6,I8] <;> rfl))
theorem N8:L.Fn Try.prog 46 104 [(.t 4),(.t 5)] (erase Gz):=oA Try.func46
def xF:FSh:=⟨⟨A8,[]⟩,z8,0,⟨⟨[(.tup [(.slr 0),(.v y12)])],[(0,(.rows 28 3 y12))]⟩,[y12,aF],[],1⟩,false⟩
noncomputable def Lm (F49:nC)(F55:jo)(l46_0:Kr)(a0:aK×aT)(a1:List Y1):Option AF:=
(F49 a0).bind fun r1=>(
(l46_0 (a1,0,0,a0,r1)).bind fun y5=>(
some (y5.1,y5.2.2)))
theorem RE (F49:nC)(F55:jo):bH (vB F49 F55) xF [(.t 4),(.t 5)] Gz=u2 (Lm F49 F55 (l46_0 (vB F49 F55))):=funext fun _=>by kernel_rfl
noncomputable def RF:=Lm P49 P55 tF
noncomputable def P46:mY:=u2 RF
theorem RG:bH (vB P49 P55) xF [(.t 4),(.t 5)] Gz=P46:=(RE P49 P55).trans (by rw[Ja] <;> rfl)
theorem O9:DC Try.prog 46 xF P46:=dD RG RB N8
noncomputable def An (F46:mY):List FEnt:=[⟨46,xF,F46⟩]
theorem RH:aw Try.prog (An P46):=dK am O9
def C7:LSh:=⟨[2,6,7,8,9,10,11],⟨[(.ptr 0 0),(.slr 1),(.v y12),(.slc 2),(.v y12),(.v y12),(.v y12)],Lj⟩,[y12,y12,y12,y12,aB,aF,bg],3,[0,1,2]⟩
def C8:List XSh:=[⟨(.exit 2),[2,6,7,8,9,10],⟨⟨[(.ptr 0 0),(.slr 1),(.v y12),(.slc 2),(.v y12),(.v y12)],Lj⟩,[y12,y12,y12,aB,aF,bg],[0,1,2],3⟩⟩]
def C9:LSh:=⟨[2,6,7,8,9],⟨[(.ptr 0 0),(.slr 1),(.v y12),(.slc 2),(.v y12)],Lj⟩,[y12,y12,aB,aF,bg],3,[0,1]⟩
def Da:List XSh:=[⟨(.exit 0),[7,8],⟨⟨[(.v y12),(.slc 2)],Lj⟩,[y12,aB,aF,bg],[0,1],3⟩⟩]
noncomputable def Jb:=ef Try.prog [] Try.f43 (.s .n (.s .n (.s .n (.s (.s .n (.b (.l C9 Da (.s .n (.s (.b (.s .n (.s (.s .n (.b (.l C7 C8 .n))) (.s (.r [.a 3 false y12,.a 4 false y12]) .n)))) .n))))) .n))))
noncomputable def Db (T:List FEnt):=aN (xs:=C8) C7 (bW T (sb [1,1,1,0,1,2,2,1,0,2,1,0,1,2,2] Jb))
noncomputable def l43_1 (T:List FEnt):=aa (Db T)
noncomputable def ov (F46:mY)(a0 a1 a2 a3:Int)(a4:aK×aT)(a5:List Y6)(a6:List Int):Option ((Int×Int×Int×Int×cf×az×Y6)⊕Kj):=
cond (decide (a3 < (↑a5.length:Int))) (
au (aZ a3 a5.length) (
au (aZ a1 (List.length (ix a5 a3))) (
au (aq .i64 (a2-(ix (ix a5 a3) a1))) (
au (aq .i64 (a3+1)) (
some (Sum.inl (a0,a1,(a2-(ix (ix a5 a3) a1)),(a3+1),a4,a5,a6))))))) (
some (Sum.inr (a0,a1,a2,a4,a5,a6)))
theorem Jc (F46:mY):Db (An F46)=u7 (ov F46):=funext fun _=>by kernel_rfl
noncomputable def Dc:=ov P46
noncomputable def qI:Ks:=aa (u7 Dc)
theorem Jd:l43_1 (An P46)=qI:=congrArg aa (Jc P46)
noncomputable def Dd (T:List FEnt):=aN (xs:=Da) C9 (bW T (sb [1,1,1,0,1,2,2] Jb))
noncomputable def l43_0 (T:List FEnt):=aa (Dd T)
noncomputable def ow (F46:mY)(l43_1:Ks)(a0 a1:Int)(a2:aK×aT)(a3:List Y6)(a4:List Int):Option ((Int×Int×cf×az×Y6)⊕Kk):=
cond (decide (a1 < (↑a2.2.length:Int))) (
au (aZ a1 a2.2.length) (
(l43_1 (a0,a1,(ix a2.2 a1).2.1,0,a2,a3,a4)).bind fun y2=>(
au (bN 8 (List.length y2.2.2.2.2.2+List.length ([(max 0 y2.2.2.1)]:List Int))) (
au (aq .i64 (0-y2.2.2.1)) (
au (aq .i64 (y2.1+(max 0 (0-y2.2.2.1)))) (
au (aq .i64 (y2.2.1+1)) (
some (Sum.inl ((y2.1+(max 0 (0-y2.2.2.1))),(y2.2.1+1),y2.2.2.2.1,y2.2.2.2.2.1,(y2.2.2.2.2.2++([(max 0 y2.2.2.1)]:List Int))))))))))) (
some (Sum.inr (a0,a2,a3,a4)))
theorem Je (F46:mY):Dd (An F46)=u5 (ow F46 (l43_1 (An F46))):=funext fun _=>by kernel_rfl
noncomputable def De:=ow P46 qI
noncomputable def tG:Kt:=aa (u5 De)
theorem Jf:l43_0 (An P46)=tG:=congrArg aa ((Je P46).trans (by rw[Jd] <;> rfl))
theorem N9:L.Fn Try.prog 43 58 [(.t 4),(.t 5)] (erase Jb):=oA Try.func43
def xG:FSh:=⟨⟨A8,[]⟩,z8,0,⟨⟨[(.tup [(.slc 0),(.v y12)])],Gd⟩,[y12,bg],[],1⟩,true⟩
noncomputable def Ln (F46:mY)(l43_0:Kt)(a0:aK×aT)(a1:List Y1):Option AB:=
(F46 (a0,a1)).bind fun r1=>(
(l43_0 (r1.1,0,a0,r1.2,([]:List Int))).bind fun y3=>(
some (y3.1,y3.2.2.2)))
theorem RI (F46:mY):bH (An F46) xG [(.t 4),(.t 5)] Jb=u2 (Ln F46 (l43_0 (An F46))):=funext fun _=>by kernel_rfl
noncomputable def RJ:=Ln P46 tG
noncomputable def pF:rW:=u2 RJ
theorem RK:bH (An P46) xG [(.t 4),(.t 5)] Jb=pF:=(RI P46).trans (by rw[Jf] <;> rfl)
theorem Pa:DC Try.prog 43 xG pF:=dD RK RH N9
noncomputable def Oa (F42:jl)(F43:rW):List FEnt:=[⟨42,xE,F42⟩,⟨43,xG,F43⟩]
theorem RL:aw Try.prog (Oa pz pF):=dK (dK am Pa) O8
noncomputable def Ob:=ef Try.prog [] Try.f18 .n
theorem Oc:L.Fn Try.prog 18 24 [(.t 4),(.t 5),(.t 6)] (erase Ob):=oA Try.func18
def Ao:FSh:=⟨⟨A8,[]⟩,z8,0,⟨⟨KZ,Gd⟩,[y12,y12,bg],[],1⟩,true⟩
noncomputable def Df (F42:jl)(F43:rW)(a0:aK×aT)(a1:List Y1):Option GC:=
(F42 (a0,a1)).bind fun r1=>(
cond (!decide (r1=0)) (
some (0,r1,([]:List Int))) (
(F43 (a0,a1)).bind fun r2=>(
some (r2.1,0,r2.2))))
theorem RM (F42:jl)(F43:rW):bH (Oa F42 F43) Ao [(.t 4),(.t 5),(.t 6)] Ob=u2 (Df F42 F43):=funext fun _=>by kernel_rfl
noncomputable def RN:=Df pz pF
noncomputable def yA:oD:=u2 RN
theorem RO:bH (Oa pz pF) Ao [(.t 4),(.t 5),(.t 6)] Ob=yA:=RM pz pF
theorem RP:DC Try.prog 18 Ao yA:=dD RO RL Oc
def gx:FSh:=⟨⟨[(.st aB),(.v y12),(.v y12),(.v y12),(.irow 0)],[(0,(.rows 28 3 y12))]⟩,[aB,y12,y12,y12,y12,aF],1,⟨⟨[(.slc 1)],[(0,(.rows 28 3 y12)),(1,(.row 28 bg))]⟩,[aF,aF],[0],2⟩,false⟩
noncomputable def jS (F55:jo)(F60v1:cP):List FEnt:=[⟨55,vd,F55⟩,⟨60,gx,F60v1⟩]
theorem Jg (F60v1:cP)(h:DC Try.prog 60 gx F60v1):aw Try.prog (jS P55 F60v1):=(jh Nf (by kernel_rfl) (jh h (by kernel_rfl) am))
def tH:LSh:=⟨[1,3,4,5,11,12,13,14],⟨[(.v y12),(.v y12),(.irow 0),(.ptr 1 0),(.slc 2),(.v y12),(.slc 3),(.v y12)],[(0,(.rows 28 3 y12)),(1,(.boxT aB)),(2,(.row 28 bg)),(3,(.row 28 bg))]⟩,[y12,y12,y12,y12,y12,aF,aB,aF,aF],4,[0,1,3]⟩
def tI:List XSh:=[⟨(.exit 2),[1,3,4,5,11,12],⟨⟨[(.v y12),(.v y12),(.irow 0),(.ptr 1 0),(.slc 4),(.v y12)],[(0,(.rows 28 3 y12)),(1,(.boxT aB)),(3,(.row 28 bg)),(4,(.row 28 bg))]⟩,[y12,y12,y12,y12,aF,aB,aF,aF],[0,1,3],5⟩⟩]
def tJ:LSh:=⟨[1,3,4,5,11,12],⟨[(.v y12),(.v y12),(.irow 0),(.ptr 1 0),(.slc 2),(.v y12)],O7⟩,[y12,y12,y12,y12,aF,aB,aF],3,[0,1]⟩
def tK:List XSh:=[⟨(.exit 0),[11],⟨⟨[(.slc 2)],O7⟩,[aF,aB,aF],[0,1],3⟩⟩]
noncomputable def qJ:=ef Try.prog [] Try.f60 (.s .n (.s (.r [.a 0 false bg]) (.s (.s .n (.b (.l tJ tK (.s .n (.s (.b (.s .n (.s .n (.s .n (.b (.l tH tI (.s .n (.s (.b (.r [.a 2 false y12,.a 7 false y12,.f 8 68 [],.a 8 false bg,.a 9 false bg])) .n)))))))) .n))))) .n)))
noncomputable def tL (T:List FEnt):=aN (xs:=tI) tH (bW T (sb [1,1,0,1,2,2,1,0,2,1,1,1,2,2] qJ))
noncomputable def l60v1_1 (T:List FEnt):=aa (tL T)
noncomputable def iy (F55:jo)(F60v1:cP)(a0 a1 a2 a3 a4:Int)(a5:List Y6)(a6:aK×aT)(a7 a8:List Y6):Option ((Int×Int×Int×Int×Int×az×cf×az×az)⊕Kl):=
cond (decide (a4 < (↑a8.length:Int))) (
au (aZ a4 a8.length) (
au (bN 8 (List.length ([a3]:List Int)+List.length (ix a8 a4))) (
au (bN 24 (List.length a7+List.length ([(([a3]:List Int)++(ix a8 a4))]:List Y6))) (
au (aq .i64 (a4+1)) (
some (Sum.inl (a0,a1,(↑a2.toNat:Int),a3,(a4+1),a5,a6,(a7++([(([a3]:List Int)++(ix a8 a4))]:List Y6)),a8))))))) (
some (Sum.inr (a0,a1,(↑a2.toNat:Int),a3,a5,a6,a8,a7)))
theorem Ap (F55:jo)(F60v1:cP):tL (jS F55 F60v1)=u9 (iy F55 F60v1):=funext fun _=>by kernel_rfl
noncomputable def tM (F60v1:cP):=iy P55 F60v1
noncomputable def L60v1_1 (F60v1:cP):Ku:=aa (u9 (tM F60v1))
theorem Aq (F60v1:cP):l60v1_1 (jS P55 F60v1)=L60v1_1 F60v1:=congrArg aa (Ap P55 F60v1)
noncomputable def tN (T:List FEnt):=aN (xs:=tK) tJ (bW T (sb [1,1,0,1,2,2] qJ))
noncomputable def l60v1_0 (T:List FEnt):=aa (tN T)
noncomputable def q60v1_0 (F55:jo)(F60v1:cP)(l60v1_1:Ku)(a0 a1 a2 a3:Int)(a4:List Y6)(a5:aK×aT)(a6:List Y6):Option ((Int×Int×Int×Int×az×cf×az)⊕Fx):=
cond (decide (a3 < (↑a5.2.length:Int))) (
cond (decide (0 < a1)) (
au (aZ a3 a5.2.length) (
au (aZ a0 a5.1.length) (
(F55 ((ix a5.2 a3),(ix a5.1 a0))).bind fun r1=>(
cond (!r1) (
au (aq .i64 (a3+1)) (
some (Sum.inl (a0,a1,(↑a2.toNat:Int),(a3+1),a4,a5,a6)))) (
au (aZ a3 (List.length (ix a4 a2))) (
cond (decide ((ix (ix a4 a2) a3)=1)) (
au (aq .i64 (a3+1)) (
some (Sum.inl (a0,a1,(↑a2.toNat:Int),(a3+1),a4,a5,a6)))) (
au (aq .i64 (a3+1)) (
au (aq .i64 (a1-1)) (
(F60v1 (a5,a0,(a3+1),(a1-1),(↑a2.toNat:Int),a4)).bind fun r2=>(
(l60v1_1 (a0,a1,(↑a2.toNat:Int),a3,0,r2.1,a5,a6,r2.2)).bind fun y3=>(
au (aq .i64 (y3.2.2.2.1+1)) (
some (Sum.inl (y3.1,y3.2.1,(↑y3.2.2.1.toNat:Int),(y3.2.2.2.1+1),y3.2.2.2.2.1,y3.2.2.2.2.2.1,y3.2.2.2.2.2.2.2)))))))))))))) (
some (Sum.inr (a4,a5,a6)))) (
some (Sum.inr (a4,a5,a6)))
theorem Ar (F55:jo)(F60v1:cP):tN (jS F55 F60v1)=u7 (q60v1_0 F55 F60v1 (l60v1_1 (jS F55 F60v1))):=funext fun _=>by kernel_rfl
noncomputable def pA (F60v1:cP):=q60v1_0 P55 F60v1 (L60v1_1 F60v1)
noncomputable def jT (F60v1:cP):Kv:=aa (u7 (pA F60v1))
theorem As (F60v1:cP):l60v1_0 (jS P55 F60v1)=jT F60v1:=congrArg aa ((Ar P55 F60v1).trans (by rw[Aq F60v1] <;> rfl))
theorem xH:L.Fn Try.prog 60 72 [(.t 10)] (erase qJ):=oA Try.func60
noncomputable def tO (F55:jo)(F60v1:cP)(l60v1_0:Kv)(a0:aK×aT)(a1 a2 a3 a4:Int)(a5:List Y6):Option Fz:=
(l60v1_0 (a1,a3,(↑a4.toNat:Int),a2,a5,a0,([([]:List Int)]:List Y6))).bind fun y4=>(
some (y4.1,y4.2.2))
theorem Jh (F55:jo)(F60v1:cP):bH (jS F55 F60v1) gx [(.t 10)] qJ=u6 (tO F55 F60v1 (l60v1_0 (jS F55 F60v1))):=funext fun _=>by kernel_rfl
noncomputable def Dg (F60v1:cP):=tO P55 F60v1 (jT F60v1)
noncomputable def R60v1:Nat→cf×Int×Int×Int×Int×az→Option Fz
  | 0=>fun _=>none
  | n+1=>fun x=>Dg (R60v1 n) x.1 x.2.1 x.2.2.1 x.2.2.2.1 x.2.2.2.2.1 x.2.2.2.2.2
noncomputable def P60v1:cP:=R60v1 18446744073709551616
theorem Ji (F60v1:cP):bH (jS P55 F60v1) gx [(.t 10)] qJ=fun x=>Dg F60v1 x.1 x.2.1 x.2.2.1 x.2.2.2.1 x.2.2.2.2.1 x.2.2.2.2.2:=(Jh P55 F60v1).trans (by rw[As F60v1] <;> rfl)
theorem Dh:∀ n,DC Try.prog 60 gx (R60v1 n)
  | 0=>zM (kL (sh:=gx) am xH (by kernel_rfl)).1
  | n+1=>A6 (Ji (R60v1 n)) (kL (sh:=gx) (Jg (R60v1 n) (Dh n)) xH (by kernel_rfl))
theorem Jj:DC Try.prog 60 gx P60v1:=Dh _
end Go.Proofs.Ytjoncejabdjekaa.D
