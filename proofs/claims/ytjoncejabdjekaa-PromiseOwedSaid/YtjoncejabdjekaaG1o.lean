import Derived.Test.YtjoncejabdjekaaG0o
import Derived.Test.YtjoncejabdjekaaProg
set_option linter.unusedVariables false
set_option maxRecDepth 100000
namespace Go.Proofs.Ytjoncejabdjekaa.D
open Go Go.Proofs Go.Proofs.Ytjoncejabdjekaa.L
def z2:List Ty:=[y12,aF,y12,y12,bg,bX,bC,iR,bg]
def z7:List Ty:=[aB,aF]
def MN:List RSh:=[(.st aB),(.v bX),(.v y12)]
def ON:List RSh:=[(.ptr 0 0),(.v aF),(.v y12),(.v y12)]
def j5:List RSh:=[(.slc 0),(.v y12),(.ptr 1 0),(.v aF),(.v y12),(.v y12)]
def Hv:List RSh:=[(.st aB),(.v aF)]
def k4:List (Nat×OSh):=[(0,(.box [(.slc 1),(.v bC),(.mp 2),(.slc 3)])),(1,(.row 43 fX)),(2,(.imap 2 false y12)),(3,(.row 3 y12))]
def k5:List (Nat×OSh):=[(0,(.row 3 y12)),(1,(.box [(.v bX),(.v bC),(.mp 2),(.slc 3)])),(2,(.imap 2 false y12)),(3,(.row 3 y12))]
def MO:List (Nat×OSh):=[(0,(.boxT aB)),(1,(.boxT lk))]
noncomputable def MP:List FEnt:=[]
theorem Qw:aw Try.prog MP:=am
noncomputable def MQ:=ef Try.prog [] Try.f44 (.s .n (.s .n (.s (.r [.a 0 true fX,.a 2 true fX]) .n)))
theorem MS:L.Fn Try.prog 44 8 [(.t 2)] (erase MQ):=oA Try.func44
def Ab:FSh:=⟨⟨[(.v bX)],[]⟩,[bX],0,⟨⟨[(.slc 0)],[(0,(.row 43 fX))]⟩,[bX],[],1⟩,true⟩
noncomputable def MT (a0:List Y1):Option aK:=
zw (decide (List.length a0=0)) (
some ([]:List Y1)) (
au (bN 24 (List.length ([]:List Y1)+List.length a0)) (
some (([]:List Y1)++a0)))
theorem g44 (a0:List Y1):bH MP Ab [(.t 2)] MQ a0=MT a0:=by kernel_rfl
noncomputable def OO:=MT
noncomputable def tt:vg:=fun x=>OO x
theorem Qx:bH MP Ab [(.t 2)] MQ=tt:=funext fun x=>(g44 x)
theorem Qy:DC Try.prog 44 Ab tt:=dD Qx Qw MS
noncomputable def Gl (F40:jl)(F32:Y7)(F41:Ay)(F44:vg)(F45:Ax):List FEnt:=[⟨40,xd,F40⟩,⟨32,px,F32⟩,⟨41,xg,F41⟩,⟨44,Ab,F44⟩,⟨45,xb,F45⟩]
theorem Qz:aw Try.prog (Gl nk P32 P41 tt P45):=dK (dK (dK (dK (dK am OG) Qy) OL) Ge) OI
def BC:LSh:=⟨[2,9,44,45],⟨[(.v y12),(.ptr 0 0),(.v y12),(.v y12)],k4⟩,[y12,y12,y12,bC,bX,iR,bg],4,[0,1,2,3]⟩
def BD:List XSh:=[⟨(.exit 0),[9],⟨⟨Gc,k4⟩,[bC,bX,iR,bg],[0,1,2,3],4⟩⟩]
noncomputable def La:=ef Try.prog [] Try.f19 (.s .n (.s .n (.s .n (.s .n (.s .n (.s (.s .n (.b (.l BC BD .n))) (.s (.r [.f 1 9 [0]]) .n)))))))
noncomputable def BE (T:List FEnt):=aN (xs:=BD) BC (bW T (sb [1,1,1,1,1,0,1,2,2] La))
noncomputable def l19_0 (T:List FEnt):=aa (BE T)
noncomputable def tu (F40:jl)(F32:Y7)(F41:Ay)(F44:vg)(F45:Ax)(a0 a1 a2:Int)(a3:List Y2)(a4:List Y1)(a5:List Y5)(a6:List Int):Option ((Int×Int×Int×aT×aK×fW×Y6)⊕JH):=
cond (decide (a2 < a1)) (
au (aZ a2 a4.length) (
cond (decide ((ix a4 a2).1 < a0)) (
au (aZ a2 a4.length) (
au (aq .i64 (a2+1)) (
some (Sum.inl (a0,a1,(a2+1),a3,(List.set a4 a2.toNat ((ix a4 a2).1,((ix a4 a2).2.1,0))),a5,a6))))) (
au (aq .i64 (a2+1)) (
some (Sum.inl (a0,a1,(a2+1),a3,a4,a5,a6)))))) (
some (Sum.inr (a3,a4,a5,a6)))
theorem Hw (F40:jl)(F32:Y7)(F41:Ay)(F44:vg)(F45:Ax):BE (Gl F40 F32 F41 F44 F45)=u7 (tu F40 F32 F41 F44 F45):=funext fun _=>by kernel_rfl
noncomputable def xh:=tu nk P32 P41 tt P45
noncomputable def oq:JK:=aa (u7 xh)
theorem Hx:l19_0 (Gl nk P32 P41 tt P45)=oq:=congrArg aa (Hw nk P32 P41 tt P45)
theorem MU:L.Fn Try.prog 19 74 [(.t 6),(.t 7)] (erase La):=oA Try.func19
def u0:FSh:=⟨⟨MN,[]⟩,[aB,bX,y12],0,⟨⟨LI,[]⟩,[y12,y12],[],0⟩,true⟩
noncomputable def Ac (F40:jl)(F32:Y7)(F41:Ay)(F44:vg)(F45:Ax)(l19_0:JK)(a0:aK×aT)(a1:List Y1)(a2:Int):Option Y4:=
(F40 (a0,a1)).bind fun r1=>(
cond (!decide (r1=0)) (
some (0,r1)) (
(F32 (a2,0,99)).bind fun r2=>(
cond (!r2) (
some (0,1)) (
(F41 (a0,a1)).bind fun r3=>(
(F44 r3.2.1).bind fun r4=>(
(l19_0 (a2,(↑r4.length:Int),0,r3.2.2.1,r4,r3.2.2.2.1,r3.2.2.2.2)).bind fun y5=>(
(F45 (y5.2.1,y5.1,y5.2.2.1,y5.2.2.2)).bind fun r6=>(
some (r6.2.1,0)))))))))
theorem QA (F40:jl)(F32:Y7)(F41:Ay)(F44:vg)(F45:Ax):bH (Gl F40 F32 F41 F44 F45) u0 [(.t 6),(.t 7)] La=u3 (Ac F40 F32 F41 F44 F45 (l19_0 (Gl F40 F32 F41 F44 F45))):=funext fun _=>by kernel_rfl
noncomputable def OP:=Ac nk P32 P41 tt P45 oq
noncomputable def P19:fQ:=u3 OP
theorem QB:bH (Gl nk P32 P41 tt P45) u0 [(.t 6),(.t 7)] La=P19:=(QA nk P32 P41 tt P45).trans (by rw[Hx] <;> rfl)
theorem MV:DC Try.prog 19 u0 P19:=dD QB Qz MU
noncomputable def Ad (F32:Y7)(F57:nl):List FEnt:=[⟨32,px,F32⟩,⟨57,uX,F57⟩]
theorem QC:aw Try.prog (Ad P32 hU):=dK (dK am Mr) Ge
def BF:LSh:=⟨[0,5,6,18,19,20,37,38,39],⟨[(.ptr 0 0),(.v y12),(.v bg),(.v aF),(.v y12),(.v y12),(.v bg),(.v y12),(.v y12)],k8⟩,[y12,bg,aF,y12,y12,bg,y12,y12,bX,bC,iR,bg],3,[0,1,2]⟩
def BG:List XSh:=[⟨.ret,[4],⟨⟨jP,k8⟩,[.bool,bX,bC,iR,bg],[0,1,2],3⟩⟩,⟨(.exit 2),[0,18,19,20],⟨⟨ON,k8⟩,[aF,y12,y12,bX,bC,iR,bg],[0,1,2],3⟩⟩]
def BH:LSh:=⟨[0,18,19,20],⟨ON,k8⟩,[aF,y12,y12,bX,bC,iR,bg],3,[0,1,2]⟩
def BI:List XSh:=[⟨.ret,[4],⟨⟨jP,k8⟩,[.bool,bX,bC,iR,bg],[0,1,2],3⟩⟩,⟨(.exit 0),[],⟨⟨[],k8⟩,z6,[0,1,2],3⟩⟩]
noncomputable def Hy:=ef Try.prog [] Try.f38 (.s .n (.s .n (.s (.s .n (.b (.l BH BI (.s .n (.s .n (.s (.b (.s .n (.s .n (.s .n (.b (.l BF BG .n)))))) .n)))))) .n)))
noncomputable def BJ (T:List FEnt):=aN (xs:=BG) BF (bW T (sb [1,1,0,1,2,2,1,1,0,2,1,1,1,2,2] Hy))
noncomputable def l38_1 (T:List FEnt):=aa (BJ T)
noncomputable def BK (F32:Y7)(F57:nl)(a0:Int)(a1:List Int)(a2:List Y6)(a3 a4:Int)(a5:List Int)(a6 a7:Int)(a8:List Y1)(a9:List Y2)(a10:List Y5)(a11:List Int):Option ((Int×Y6×az×Int×Int×Y6×Int×Int×aK×aT×fW×Y6)⊕JO):=
cond (decide (a7 < a6)) (
au (aZ a7 a5.length) (
au (aq .i64 ((↑a9.length:Int)-1)) (
(F32 ((ix a5 a7),0,((↑a9.length:Int)-1))).bind fun r1=>(
cond (!r1) (
some (Sum.inr (Sum.inl (false,a8,a9,a10,a11)))) (
cond (decide (0 < a7)) (
au (aq .i64 (a7-1)) (
au (aZ (a7-1) a1.length) (
cond (decide ((ix a5 a7)≤(ix a1 (a7-1)))) (
some (Sum.inr (Sum.inl (false,a8,a9,a10,a11)))) (
(F57 ((ix a5 a7),a0,a8,a9,a10,a11)).bind fun r2=>(
cond (!r2.1) (
some (Sum.inr (Sum.inl (false,r2.2.1,r2.2.2.1,r2.2.2.2.1,r2.2.2.2.2)))) (
au (aq .i64 (a7+1)) (
some (Sum.inl (a0,a1,a2,a3,a4,a5,a6,(a7+1),r2.2.1,r2.2.2.1,r2.2.2.2.1,r2.2.2.2.2))))))))) (
(F57 ((ix a5 a7),a0,a8,a9,a10,a11)).bind fun r3=>(
cond (!r3.1) (
some (Sum.inr (Sum.inl (false,r3.2.1,r3.2.2.1,r3.2.2.2.1,r3.2.2.2.2)))) (
au (aq .i64 (a7+1)) (
some (Sum.inl (a0,a1,a2,a3,a4,a5,a6,(a7+1),r3.2.1,r3.2.2.1,r3.2.2.2.1,r3.2.2.2.2))))))))))) (
some (Sum.inr (Sum.inr (a2,a3,a4,a8,a9,a10,a11))))
theorem Hz (F32:Y7)(F57:nl):BJ (Ad F32 F57)=GH (BK F32 F57):=funext fun _=>by kernel_rfl
noncomputable def HA:=BK P32 hU
noncomputable def BL:JR:=aa (GH HA)
theorem HB:l38_1 (Ad P32 hU)=BL:=congrArg aa (Hz P32 hU)
noncomputable def BM (T:List FEnt):=aN (xs:=BI) BH (bW T (sb [1,1,0,1,2,2] Hy))
noncomputable def l38_0 (T:List FEnt):=aa (BM T)
noncomputable def BN (F32:Y7)(F57:nl)(l38_1:JR)(a0:List Y6)(a1 a2:Int)(a3:List Y1)(a4:List Y2)(a5:List Y5)(a6:List Int):Option (JI⊕JP):=
cond (decide (a2 < a1)) (
au (aZ a2 a0.length) (
au (aZ a2 a3.length) (
cond (decide ((ix a3 a2).2.2 < (↑(List.length (ix a0 a2)):Int))) (
some (Sum.inr (Sum.inl (false,a3,a4,a5,a6)))) (
(l38_1 (a2,(ix a0 a2),a0,a1,a2,(ix a0 a2),(↑(List.length (ix a0 a2)):Int),0,a3,a4,a5,a6)).bind (fun y4=>Sum.elim (fun y5=>(
some (Sum.inr (Sum.inl (y5.1,y5.2.1,y5.2.2.1,y5.2.2.2.1,y5.2.2.2.2))))) (fun y6=>(
au (aq .i64 (y6.2.2.1+1)) (
some (Sum.inl (y6.1,y6.2.1,(y6.2.2.1+1),y6.2.2.2.1,y6.2.2.2.2.1,y6.2.2.2.2.2.1,y6.2.2.2.2.2.2))))) y4))))) (
some (Sum.inr (Sum.inr (a3,a4,a5,a6))))
theorem HC (F32:Y7)(F57:nl):BM (Ad F32 F57)=u7 (BN F32 F57 (l38_1 (Ad F32 F57))):=funext fun _=>by kernel_rfl
noncomputable def HD:=BN P32 hU BL
noncomputable def BO:JS:=aa (u7 HD)
theorem HE:l38_0 (Ad P32 hU)=BO:=congrArg aa ((HC P32 hU).trans (by rw[HB] <;> rfl))
theorem MW:L.Fn Try.prog 38 76 [(.t 4)] (erase Hy):=oA Try.func38
def Ae:FSh:=⟨⟨[(.ptr 0 0),(.v aF)],k8⟩,[aF,bX,bC,iR,bg],3,⟨⟨jP,k8⟩,[.bool,bX,bC,iR,bg],[0,1,2],3⟩,false⟩
noncomputable def OQ (F32:Y7)(F57:nl)(l38_0:JS)(a0:List Y6)(a1:List Y1)(a2:List Y2)(a3:List Y5)(a4:List Int):Option GD:=
cond (!decide ((↑a0.length:Int)=(↑a1.length:Int))) (
some (false,a1,a2,a3,a4)) (
(l38_0 (a0,(↑a0.length:Int),0,a1,a2,a3,a4)).bind (fun y7=>Sum.elim (fun y8=>(
some (y8.1,y8.2.1,y8.2.2.1,y8.2.2.2.1,y8.2.2.2.2))) (fun y9=>(
some (true,y9.1,y9.2.1,y9.2.2.1,y9.2.2.2))) y7))
theorem QD (F32:Y7)(F57:nl):bH (Ad F32 F57) Ae [(.t 4)] Hy=u5 (OQ F32 F57 (l38_0 (Ad F32 F57))):=funext fun _=>by kernel_rfl
noncomputable def QE:=OQ P32 hU BO
noncomputable def rT:nA:=u5 QE
theorem QF:bH (Ad P32 hU) Ae [(.t 4)] Hy=rT:=(QD P32 hU).trans (by rw[HE] <;> rfl)
theorem QG:DC Try.prog 38 Ae rT:=dD QF QC MW
noncomputable def vu (F11:fP)(F37:pG)(F38:nA):List FEnt:=[⟨11,rS,F11⟩,⟨37,uW,F37⟩,⟨38,Ae,F38⟩]
theorem QH:aw Try.prog (vu P11 P37 rT):=dK (dK (dK am QG) Mh) K4
def BP:LSh:=⟨[4,5,8,30,31,32,36,37,38],⟨[(.slc 0),(.v y12),(.ptr 1 0),(.v aF),(.v y12),(.v y12),(.v bg),(.v y12),(.v y12)],k5⟩,[y12,aF,y12,y12,bg,y12,y12,bg,bX,bC,iR,bg],4,[0,1,2,3]⟩
def BQ:List XSh:=[⟨(.exit 2),[4,5,8,30,31,32],⟨⟨j5,k5⟩,z2,[0,1,2,3],4⟩⟩]
def BR:LSh:=⟨[4,5,8,30,31,32],⟨j5,k5⟩,z2,4,[0,1,2,3]⟩
def BS:List XSh:=[⟨(.exit 0),[4,5,8],⟨⟨[(.slc 0),(.v y12),(.ptr 1 0)],k5⟩,[y12,bg,bX,bC,iR,bg],[0,1,2,3],4⟩⟩]
def BT:LSh:=⟨[4,5,8,50,51,52],⟨[(.slc 0),(.v y12),(.ptr 1 0),(.slc 0),(.v y12),(.v y12)],k5⟩,[y12,y12,y12,bg,bX,bC,iR,bg],4,[0,1,2,3]⟩
def BU:List XSh:=[⟨(.exit 4),[4,5],⟨⟨[(.slc 0),(.v y12)],k5⟩,[y12,bg,bX,bC,iR,bg],[0,1,2,3],4⟩⟩]
noncomputable def Gm:=ef Try.prog [] Try.f13 (.s .n (.s .n (.s .n (.s .n (.s (.r [.a 3 false y12]) (.s (.s .n (.b (.l BR BS (.s .n (.s .n (.s (.b (.s .n (.s .n (.b (.l BP BQ .n))))) .n)))))) (.s (.s .n (.b (.l BT BU .n))) .n)))))))
noncomputable def BV (T:List FEnt):=aN (xs:=BQ) BP (bW T (sb [1,1,1,1,1,0,1,2,2,1,1,0,2,1,1,2,2] Gm))
noncomputable def l13_1 (T:List FEnt):=aa (BV T)
noncomputable def BW (F11:fP)(F37:pG)(F38:nA)(a0:Int)(a1:List Y6)(a2 a3:Int)(a4:List Int)(a5 a6:Int)(a7:List Int)(a8:List Y1)(a9:List Y2)(a10:List Y5)(a11:List Int):Option ((Int×az×Int×Int×Y6×Int×Int×Y6×aK×aT×fW×Y6)⊕Ft):=
cond (decide (a6 < a5)) (
au (aZ a6 a4.length) (
au (aZ (ix a4 a6) a7.length) (
au (aq .i64 ((ix a7 (ix a4 a6))+1)) (
au (aZ (ix a4 a6) a7.length) (
au (aq .i64 (a6+1)) (
some (Sum.inl (a0,a1,a2,a3,a4,a5,(a6+1),(List.set a7 (Int.toNat (ix a4 a6)) ((ix a7 (ix a4 a6))+1)),a8,a9,a10,a11)))))))) (
some (Sum.inr (a0,a1,a2,a3,a7,a8,a9,a10,a11)))
theorem HF (F11:fP)(F37:pG)(F38:nA):BV (vu F11 F37 F38)=GH (BW F11 F37 F38):=funext fun _=>by kernel_rfl
noncomputable def HG:=BW P11 P37 rT
noncomputable def BX:JL:=aa (GH HG)
theorem HH:l13_1 (vu P11 P37 rT)=BX:=congrArg aa (HF P11 P37 rT)
noncomputable def BY (T:List FEnt):=aN (xs:=BS) BR (bW T (sb [1,1,1,1,1,0,1,2,2] Gm))
noncomputable def l13_0 (T:List FEnt):=aa (BY T)
noncomputable def BZ (F11:fP)(F37:pG)(F38:nA)(l13_1:JL)(a0:Int)(a1:List Y6)(a2 a3:Int)(a4:List Int)(a5:List Y1)(a6:List Y2)(a7:List Y5)(a8:List Int):Option (Ft⊕Az):=
cond (decide (a3 < a2)) (
au (aZ a3 a1.length) (
(l13_1 (a0,a1,a2,a3,(ix a1 a3),(↑(List.length (ix a1 a3)):Int),0,a4,a5,a6,a7,a8)).bind fun y4=>(
au (aq .i64 (y4.2.2.2.1+1)) (
some (Sum.inl (y4.1,y4.2.1,y4.2.2.1,(y4.2.2.2.1+1),y4.2.2.2.2.1,y4.2.2.2.2.2.1,y4.2.2.2.2.2.2.1,y4.2.2.2.2.2.2.2.1,y4.2.2.2.2.2.2.2.2)))))) (
some (Sum.inr (a0,a4,a5,a6,a7,a8)))
theorem HI (F11:fP)(F37:pG)(F38:nA):BY (vu F11 F37 F38)=u9 (BZ F11 F37 F38 (l13_1 (vu F11 F37 F38))):=funext fun _=>by kernel_rfl
noncomputable def HJ:=BZ P11 P37 rT BX
noncomputable def B0:JM:=aa (u9 HJ)
theorem HK:l13_0 (vu P11 P37 rT)=B0:=congrArg aa ((HI P11 P37 rT).trans (by rw[HH] <;> rfl))
noncomputable def B1 (T:List FEnt):=aN (xs:=BU) BT (bW T (sb [1,1,1,1,1,1,0,1,2,2] Gm))
noncomputable def l13_2 (T:List FEnt):=aa (B1 T)
noncomputable def B2 (F11:fP)(F37:pG)(F38:nA)(a0 a1 a2:Int)(a3:List Int)(a4:List Y1)(a5:List Y2)(a6:List Y5)(a7:List Int):Option ((Int×Int×Int×Y6×aK×aT×fW×Y6)⊕Az):=
cond (decide (a2 < a1)) (
au (aZ a2 a3.length) (
au (aZ a2 a7.length) (
au (aq .i64 (a0+(min (ix a3 a2) (ix a7 a2)))) (
au (aq .i64 (a2+1)) (
some (Sum.inl ((a0+(min (ix a3 a2) (ix a7 a2))),a1,(a2+1),a3,a4,a5,a6,a7))))))) (
some (Sum.inr (a0,a3,a4,a5,a6,a7)))
theorem HL (F11:fP)(F37:pG)(F38:nA):B1 (vu F11 F37 F38)=u8 (B2 F11 F37 F38):=funext fun _=>by kernel_rfl
noncomputable def HM:=B2 P11 P37 rT
noncomputable def B3:JN:=aa (u8 HM)
theorem HN:l13_2 (vu P11 P37 rT)=B3:=congrArg aa (HL P11 P37 rT)
theorem MX:L.Fn Try.prog 13 71 [(.t 4),(.t 5),(.t 6)] (erase Gm):=oA Try.func13
def xi:FSh:=⟨⟨Hv,[]⟩,z7,0,⟨⟨KZ,Gd⟩,[y12,y12,bg],[],1⟩,true⟩
noncomputable def OR (F11:fP)(F37:pG)(F38:nA)(l13_0:JM)(l13_2:JN)(a0:aK×aT)(a1:List Y6):Option GC:=
(F11 a0).bind fun r1=>(
cond (!decide (r1=0)) (
some (0,r1,([]:List Int))) (
(F37 a0).bind fun r2=>(
(F38 (a1,r2.1,r2.2.1,r2.2.2.1,r2.2.2.2)).bind fun r3=>(
cond (!r3.1) (
some (0,71,([]:List Int))) (
au (decide (0≤(↑a0.2.length:Int))) (
au (decide (8*(↑a0.2.length:Int)≤140737488355328)) (
(l13_0 (0,a1,(↑a1.length:Int),0,(gj (Int.toNat (↑a0.2.length:Int)) 0:List Int),r3.2.1,r3.2.2.1,r3.2.2.2.1,r3.2.2.2.2)).bind fun y5=>(
(l13_2 (y5.1,(↑y5.2.1.length:Int),0,y5.2.1,y5.2.2.1,y5.2.2.2.1,y5.2.2.2.2.1,y5.2.2.2.2.2)).bind fun y6=>(
some (y6.1,0,y6.2.1))))))))))
theorem QI (F11:fP)(F37:pG)(F38:nA):bH (vu F11 F37 F38) xi [(.t 4),(.t 5),(.t 6)] Gm=u2 (OR F11 F37 F38 (l13_0 (vu F11 F37 F38)) (l13_2 (vu F11 F37 F38))):=funext fun _=>by kernel_rfl
noncomputable def QJ:=OR P11 P37 rT B0 B3
noncomputable def P13:kN:=u2 QJ
theorem QK:bH (vu P11 P37 rT) xi [(.t 4),(.t 5),(.t 6)] Gm=P13:=(QI P11 P37 rT).trans (by rw[HK,HN] <;> rfl)
theorem OS:DC Try.prog 13 xi P13:=dD QK QH MX
noncomputable def Gn:List FEnt:=[]
theorem QL:aw Try.prog Gn:=am
def B4:LSh:=⟨[0,1,5],⟨[(.v bg),(.v bg),(.v y12)],[]⟩,[bg,bg,y12],0,[]⟩
def B5:List XSh:=[⟨.ret,[4],⟨⟨jP,[]⟩,[.bool],[],0⟩⟩,⟨(.exit 0),[],⟨⟨[],[]⟩,[],[],0⟩⟩]
noncomputable def Lb:=ef Try.prog [] Try.f15 (.s .n (.s .n (.s (.s .n (.b (.l B4 B5 .n))) .n)))
noncomputable def B6 (T:List FEnt):=aN (xs:=B5) B4 (bW T (sb [1,1,0,1,2,2] Lb))
noncomputable def l15_0 (T:List FEnt):=aa (B6 T)
noncomputable def tv (a0 a1:List Int)(a2:Int):Option ((Y6×Y6×Int)⊕JF):=
cond (decide (a2 < (↑a0.length:Int))) (
au (aZ a2 a0.length) (
au (aZ a2 a1.length) (
cond (!decide ((ix a0 a2)=(ix a1 a2))) (
some (Sum.inr (Sum.inl false))) (
au (aq .i64 (a2+1)) (
some (Sum.inl (a0,a1,(a2+1)))))))) (
some (Sum.inr (Sum.inr ())))
theorem HO:B6 Gn=u3 tv:=funext fun _=>by kernel_rfl
noncomputable def xj:=tv
noncomputable def xl:JG:=aa (u3 xj)
theorem HP:l15_0 Gn=xl:=congrArg aa HO
theorem MY:L.Fn Try.prog 15 26 [(.t 4)] (erase Lb):=oA Try.func15
def rU:FSh:=⟨⟨[(.v bg),(.v bg)],[]⟩,[bg,bg],0,⟨⟨jP,[]⟩,[.bool],[],0⟩,true⟩
noncomputable def MZ (l15_0:JG)(a0 a1:List Int):Option Bool:=
cond (!decide ((↑a0.length:Int)=(↑a1.length:Int))) (
some false) (
(l15_0 (a0,a1,0)).bind (fun y1=>Sum.elim (fun y2=>(
some y2)) (fun y3=>(
some true)) y1))
theorem g15:bH Gn rU [(.t 4)] Lb=u2 (MZ (l15_0 Gn)):=funext fun _=>by kernel_rfl
noncomputable def OT:=MZ xl
noncomputable def P15:el:=u2 OT
theorem QM:bH Gn rU [(.t 4)] Lb=P15:=g15.trans (by rw[HP] <;> rfl)
theorem Lc:DC Try.prog 15 rU P15:=dD QM QL MY
noncomputable def T9 (F31:Lu)(F22:lj)(F17:oD)(F19:fQ)(F13:kN)(F15:el):List FEnt:=[⟨31,zS,F31⟩,⟨22,uY,F22⟩,⟨17,uZ,F17⟩,⟨19,u0,F19⟩,⟨13,xi,F13⟩,⟨15,rU,F15⟩]
theorem t9:aw Try.prog (T9 P31 P22 P17 P19 P13 P15):=dK (dK (dK (dK (dK (dK am Lc) OS) MV) MM) MB) Px
noncomputable def c9:=ef Try.prog [] Try.f9 (.s .n (.s .n (.s .n (.s .n (.s .n (.s (.r [.a 1 false y12,.a 2 false y12,.a 3 false y12,.f 4 37 [],.f 4 38 [],.f 4 39 [],.a 4 false bg]) (.s (.r [.a 20 false y12,.a 33 false y12]) .n)))))))
theorem QN:L.Fn Try.prog 9 85 [(.t 0)] (erase c9):=oA Try.func9
def Fs:FSh:=⟨⟨[],[]⟩,[],0,⟨⟨jP,[]⟩,[.bool],[],0⟩,true⟩
noncomputable def q9 (F31:Lu)(F22:lj)(F17:oD)(F19:fQ)(F13:kN)(F15:el):Option Bool:=
(F31 ()).bind fun r1=>(
(F22 (r1.1,r1.2.1)).bind fun r2=>(
(F17 ((r1.1,r1.2.1),r1.2.2)).bind fun r3=>(
(F19 ((r1.1,r1.2.1),r1.2.2,2)).bind fun r4=>(
(F13 ((r1.1,r1.2.1),([([0]:List Int),([1,2]:List Int),([0]:List Int)]:List Y6))).bind fun r5=>(
cond (decide (r2.2=0)) (
cond (decide (r3.2.1=0)) (
cond (decide (r4.2=0)) (
cond (decide (r5.2.1=0)) (
cond (decide (r2.1=4)) (
(F15 (r3.2.2,([1,2,1]:List Int))).bind fun r6=>(
cond r6 (
cond (decide (r3.1=2)) (
cond (decide (r4.1=1)) (
(F15 (r5.2.2,([2,1,1]:List Int))).bind fun r7=>(
cond r7 (
some (decide (r5.1=4))) (
some false))) (
some false)) (
some false)) (
some false))) (
some false)) (
some false)) (
some false)) (
some false)) (
some false))))))
theorem g9 (F31:Lu)(F22:lj)(F17:oD)(F19:fQ)(F13:kN)(F15:el):bH (T9 F31 F22 F17 F19 F13 F15) Fs [(.t 0)] c9 ()=q9 F31 F22 F17 F19 F13 F15:=by kernel_rfl
noncomputable def p9:Option Bool:=q9 P31 P22 P17 P19 P13 P15
noncomputable def P9:cS:=fun x=>p9
theorem v9:bH (T9 P31 P22 P17 P19 P13 P15) Fs [(.t 0)] c9=P9:=funext fun x=>(g9 P31 P22 P17 P19 P13 P15)
theorem d9:DC Try.prog 9 Fs P9:=dD v9 t9 QN
noncomputable def M0:List FEnt:=[]
theorem QO:aw Try.prog M0:=am
noncomputable def M2:=ef Try.prog [(1,{ch:=[1,0,1,0,1,0,1,0,0,0],rs:=[1],ord:=[0,1,2,4,5,6,3,7,8,9] })] Try.f10 (.s .n (.s (.r [.a 6 true fX,.a 7 true lk]) .n))
theorem M3:L.Fn Try.prog 10 12 [(.cell 2 true 2)] (erase M2):=oA Try.func10
def vc:FSh:=⟨⟨A7,[]⟩,[aB],0,⟨⟨[(.agg KY)],[(0,(.row 43 fX)),(1,(.row 50 lk))]⟩,[bX,bC],[],2⟩,true⟩
noncomputable def M4 (a0:aK×aT):Option cf:=
au (bN 24 a0.1.length) (
au (bN 48 a0.2.length) (
some (a0.1,a0.2)))
theorem g10 (a0:aK×aT):bH M0 vc [(.cell 2 true 2)] M2 a0=M4 a0:=by kernel_rfl
noncomputable def OU:=M4
noncomputable def hX:eU:=fun x=>OU x
theorem QP:bH M0 vc [(.cell 2 true 2)] M2=hX:=funext fun x=>(g10 x)
theorem M5:DC Try.prog 10 vc hX:=dD QP QO M3
noncomputable def M6:List FEnt:=[]
theorem QQ:aw Try.prog M6:=am
noncomputable def M7:=ef Try.prog [] Try.f36 .n
theorem M8:L.Fn Try.prog 36 15 [(.t 6)] (erase M7):=oA Try.func36
def qG:FSh:=⟨⟨[(.v y12),(.v y12),(.v y12)],[]⟩,[y12,y12,y12],0,⟨⟨jP,[]⟩,[.bool],[],0⟩,true⟩
noncomputable def OV (a0 a1 a2:Int):Option Bool:=
cond (decide (a1≤a0)) (
some (decide (a0≤a2))) (
some false)
theorem QR:bH M6 qG [(.t 6)] M7=u3 OV:=funext fun _=>by kernel_rfl
noncomputable def QS:=OV
noncomputable def P36:Y7:=u3 QS
theorem QT:bH M6 qG [(.t 6)] M7=P36:=QR
theorem HQ:DC Try.prog 36 qG P36:=dD QT QQ M8
noncomputable def vw (F36:Y7):List FEnt:=[⟨36,qG,F36⟩]
theorem QU:aw Try.prog (vw P36):=dK am HQ
def tw:LSh:=⟨[1,3],⟨[(.ptr 0 0),(.v y12)],mW⟩,[y12,aB],1,[0]⟩
def B7:LSh:=⟨[1,5,6,7,65,75,89],⟨[(.ptr 0 0),(.v y12),(.ptr 1 0),(.v y12),(.v .bool),(.v .bool),(.v .bool)],MO⟩,[y12,y12,.bool,.bool,.bool,aB,lk],2,[0,1]⟩
def B8:List XSh:=[⟨.ret,[2],⟨⟨oj,MO⟩,[y12,aB,lk],[0,1],2⟩⟩,⟨(.exit 4),[1,5,65,75,89],⟨⟨[(.ptr 0 0),(.v y12),(.v .bool),(.v .bool),(.v .bool)],MO⟩,[y12,.bool,.bool,.bool,aB,lk],[0,1],2⟩⟩]
def B9:LSh:=⟨[1,5],⟨[(.ptr 0 0),(.v y12)],mW⟩,[y12,aB],1,[0]⟩
noncomputable def Gp:=ef Try.prog [] Try.f12 (.s .n (.s .n (.s (.s .n (.b (.l tw tc .n))) (.s (.s .n (.b (.l B9 td (.s .n (.s (.b (.s .n (.s .n (.s .n (.b (.l B7 B8 .n)))))) .n))))) .n))))
noncomputable def Ca (T:List FEnt):=aN (xs:=tc) tw (bW T (sb [1,1,0,1,2,2] Gp))
noncomputable def l12_0 (T:List FEnt):=aa (Ca T)
noncomputable def tx (F36:Y7)(a0:Int)(a1:aK×aT):Option JV:=
cond (decide (a0 < (↑a1.1.length:Int))) (
au (aZ a0 a1.1.length) (
(F36 ((ix a1.1 a0).1,0,99)).bind fun r1=>(
cond (!r1) (
some (Sum.inr (Sum.inl (70,a1)))) (
(F36 ((ix a1.1 a0).2.1,0,9)).bind fun r2=>(
cond (!r2) (
some (Sum.inr (Sum.inl (70,a1)))) (
(F36 ((ix a1.1 a0).2.2,0,6)).bind fun r3=>(
cond (!r3) (
some (Sum.inr (Sum.inl (70,a1)))) (
au (aq .i64 (a0+1)) (
some (Sum.inl ((a0+1),a1))))))))))) (
some (Sum.inr (Sum.inr a1)))
theorem HS (F36:Y7):Ca (vw F36)=u2 (tx F36):=funext fun _=>by kernel_rfl
noncomputable def xm:=tx P36
noncomputable def xn:Fv:=aa (u2 xm)
theorem v12_0:l12_0 (vw P36)=xn:=congrArg aa (HS P36)
noncomputable def Cb (T:List FEnt):=aN (xs:=B8) B7 (bW T (sb [1,1,1,0,1,2,2,1,0,2,1,1,1,2,2] Gp))
noncomputable def l12_2 (T:List FEnt):=aa (Cb T)
noncomputable def tz (F36:Y7)(a0 a1:Int)(a2 a3 a4:Bool)(a5:aK×aT)(a6:Y2):Option ((Int×Int×Bool×Bool×Bool×cf×Int×Int×Int×Int×Int×Int)⊕JW):=
cond (decide (a1 < a0)) (
au (aZ a1 a5.2.length) (
cond (decide ((ix a5.2 a1).1=a6.1)) (
some (Sum.inr (Sum.inl (70,a5,a6)))) (
au (aq .i64 (a1+1)) (
some (Sum.inl (a0,(a1+1),a2,a3,a4,a5,a6)))))) (
some (Sum.inr (Sum.inr (a0,a2,a3,a4,a5,a6))))
theorem HU (F36:Y7):Cb (vw F36)=u7 (tz F36):=funext fun _=>by kernel_rfl
noncomputable def xp:=tz P36
noncomputable def xq:JX:=aa (u7 xp)
theorem HV:l12_2 (vw P36)=xq:=congrArg aa (HU P36)
noncomputable def Cc (T:List FEnt):=aN (xs:=td) B9 (bW T (sb [1,1,1,0,1,2,2] Gp))
noncomputable def l12_1 (T:List FEnt):=aa (Cc T)
noncomputable def tA (F36:Y7)(l12_2:JX)(a0:Int)(a1:aK×aT):Option JV:=
cond (decide (a0 < (↑a1.2.length:Int))) (
au (aZ a0 a1.2.length) (
(F36 ((ix a1.2 a0).1,0,99)).bind fun r7=>(
cond (!r7) (
some (Sum.inr (Sum.inl (70,a1)))) (
(F36 ((ix a1.2 a0).2.1,0,8)).bind fun r8=>(
cond (!r8) (
some (Sum.inr (Sum.inl (70,a1)))) (
(F36 ((ix a1.2 a0).2.2.1,0,(ix a1.2 a0).2.2.2.1)).bind fun r9=>(
cond (!r9) (
some (Sum.inr (Sum.inl (70,a1)))) (
cond (decide (9 < (ix a1.2 a0).2.2.2.1)) (
some (Sum.inr (Sum.inl (70,a1)))) (
(F36 ((ix a1.2 a0).2.2.2.2.1,0,(ix a1.2 a0).2.2.2.2.2)).bind fun r10=>(
cond (!r10) (
some (Sum.inr (Sum.inl (70,a1)))) (
cond (decide (99 < (ix a1.2 a0).2.2.2.2.2)) (
some (Sum.inr (Sum.inl (70,a1)))) (
(l12_2 (a0,0,r8,r9,r10,a1,(ix a1.2 a0))).bind (fun y11=>Sum.elim (fun y12=>(
some (Sum.inr (Sum.inl (y12.1,y12.2.1))))) (fun y13=>(
au (aq .i64 (y13.1+1)) (
some (Sum.inl ((y13.1+1),y13.2.2.2.2.1))))) y11))))))))))))) (
some (Sum.inr (Sum.inr a1)))
theorem HW (F36:Y7):Cc (vw F36)=u2 (tA F36 (l12_2 (vw F36))):=funext fun _=>by kernel_rfl
noncomputable def xt:=tA P36 xq
noncomputable def xu:Fv:=aa (u2 xt)
theorem v12_1:l12_1 (vw P36)=xu:=congrArg aa ((HW P36).trans (by rw[HV] <;> rfl))
theorem M9:L.Fn Try.prog 12 111 [(.t 2)] (erase Gp):=oA Try.func12
def qH:FSh:=⟨⟨A7,[]⟩,[aB],0,⟨⟨oj,[]⟩,[y12],[],0⟩,true⟩
noncomputable def HX (F36:Y7)(l12_0 l12_1:Fv)(a0:aK×aT):Option Int:=
cond (decide (8 < (↑a0.1.length:Int))) (
some 70) (
cond (decide (6 < (↑a0.2.length:Int))) (
some 70) (
(l12_0 (0,a0)).bind (fun y4=>Sum.elim (fun y5=>(
some y5.1)) (fun y6=>(
(l12_1 (0,y6)).bind (fun y14=>Sum.elim (fun y15=>(
some y15.1)) (fun y16=>(
some 0)) y14))) y4)))
theorem g12 (F36:Y7)(a0:aK×aT):bH (vw F36) qH [(.t 2)] Gp a0=HX F36 (l12_0 (vw F36)) (l12_1 (vw F36)) a0:=by kernel_rfl
noncomputable def Ld:=HX P36 xn xu
noncomputable def P12:fP:=fun x=>Ld x
theorem QV:bH (vw P36) qH [(.t 2)] Gp=P12:=funext fun x=>(g12 P36 x).trans (by rw[v12_0,v12_1] <;> rfl)
theorem HY:DC Try.prog 12 qH P12:=dD QV QU M9
noncomputable def Na (F36:Y7):List FEnt:=[⟨36,qG,F36⟩]
theorem QW:aw Try.prog (Na P36):=dK am HQ
noncomputable def Nb:=ef Try.prog [] Try.f55 .n
theorem Nc:L.Fn Try.prog 55 23 [(.t 4)] (erase Nb):=oA Try.func55
def vd:FSh:=⟨⟨[(.st lk),(.st fX)],[]⟩,[lk,fX],0,⟨⟨jP,[]⟩,[.bool],[],0⟩,true⟩
noncomputable def Nd (F36:Y7)(a0:Y2)(a1:Y1):Option Bool:=
(F36 (a1.2.1,a0.2.2.1,a0.2.2.2.1)).bind fun r1=>(
cond r1 (
(F36 (a1.1,a0.2.2.2.2.1,a0.2.2.2.2.2)).bind fun r2=>(
some r2)) (
some false))
theorem QX (F36:Y7):bH (Na F36) vd [(.t 4)] Nb=u2 (Nd F36):=funext fun _=>by kernel_rfl
noncomputable def OW:=Nd P36
noncomputable def P55:jo:=u2 OW
theorem QY:bH (Na P36) vd [(.t 4)] Nb=P55:=QX P36
theorem Nf:DC Try.prog 55 vd P55:=dD QY QW Nc
noncomputable def Af (F36:Y7)(F55:jo):List FEnt:=[⟨36,qG,F36⟩,⟨55,vd,F55⟩]
theorem QZ:aw Try.prog (Af P36 P55):=dK (dK am Nf) HQ
def Cd:LSh:=⟨[1,2,5,6,7],⟨[(.v aF),(.ptr 0 0),(.v y12),(.v bg),(.v y12)],mW⟩,[aF,y12,bg,y12,aB],1,[0]⟩
def Ce:List XSh:=[⟨.ret,[4],⟨⟨jP,mW⟩,[.bool,aB],[0],1⟩⟩,⟨(.exit 2),[1,2,5],⟨⟨[(.v aF),(.ptr 0 0),(.v y12)],mW⟩,[aF,y12,aB],[0],1⟩⟩]
def Cf:LSh:=⟨[1,2,5],⟨[(.v aF),(.ptr 0 0),(.v y12)],mW⟩,[aF,y12,aB],1,[0]⟩
def Cg:List XSh:=[⟨.ret,[4],⟨⟨jP,mW⟩,[.bool,aB],[0],1⟩⟩,⟨(.exit 0),[],⟨⟨[],mW⟩,[aB],[0],1⟩⟩]
noncomputable def HZ:=ef Try.prog [] Try.f30 (.s .n (.s .n (.s (.s .n (.b (.l Cf Cg (.s .n (.s (.b (.s .n (.s .n (.s .n (.b (.l Cd Ce .n)))))) .n))))) .n)))
noncomputable def Ch (T:List FEnt):=aN (xs:=Ce) Cd (bW T (sb [1,1,0,1,2,2,1,0,2,1,1,1,2,2] HZ))
noncomputable def l30_1 (T:List FEnt):=aa (Ch T)
noncomputable def Ci (F36:Y7)(F55:jo)(a0:List Y6)(a1:Int)(a2:List Int)(a3:Int)(a4:aK×aT):Option ((az×Int×Y6×Int×aK×aT)⊕JQ):=
cond (decide (a3 < (↑a2.length:Int))) (
au (aZ a3 a2.length) (
au (aq .i64 ((↑a4.2.length:Int)-1)) (
(F36 ((ix a2 a3),0,((↑a4.2.length:Int)-1))).bind fun r1=>(
cond (!r1) (
some (Sum.inr (Sum.inl (false,a4)))) (
cond (decide (0 < a3)) (
au (aZ a3 a2.length) (
au (aq .i64 (a3-1)) (
au (aZ (a3-1) a2.length) (
cond (decide ((ix a2 a3)≤(ix a2 (a3-1)))) (
some (Sum.inr (Sum.inl (false,a4)))) (
au (aZ a3 a2.length) (
au (aZ (ix a2 a3) a4.2.length) (
au (aZ a1 a4.1.length) (
(F55 ((ix a4.2 (ix a2 a3)),(ix a4.1 a1))).bind fun r2=>(
cond (!r2) (
some (Sum.inr (Sum.inl (false,a4)))) (
au (aq .i64 (a3+1)) (
some (Sum.inl (a0,a1,a2,(a3+1),a4))))))))))))) (
au (aZ a3 a2.length) (
au (aZ (ix a2 a3) a4.2.length) (
au (aZ a1 a4.1.length) (
(F55 ((ix a4.2 (ix a2 a3)),(ix a4.1 a1))).bind fun r3=>(
cond (!r3) (
some (Sum.inr (Sum.inl (false,a4)))) (
au (aq .i64 (a3+1)) (
some (Sum.inl (a0,a1,a2,(a3+1),a4)))))))))))))) (
some (Sum.inr (Sum.inr (a0,a1,a4))))
theorem H0 (F36:Y7)(F55:jo):Ch (Af F36 F55)=u5 (Ci F36 F55):=funext fun _=>by kernel_rfl
noncomputable def H1:=Ci P36 P55
noncomputable def Cj:JT:=aa (u5 H1)
theorem H2:l30_1 (Af P36 P55)=Cj:=congrArg aa (H0 P36 P55)
noncomputable def Ck (T:List FEnt):=aN (xs:=Cg) Cf (bW T (sb [1,1,0,1,2,2] HZ))
noncomputable def l30_0 (T:List FEnt):=aa (Ck T)
noncomputable def Cl (F36:Y7)(F55:jo)(l30_1:JT)(a0:List Y6)(a1:Int)(a2:aK×aT):Option (JJ⊕AA):=
cond (decide (a1 < (↑a0.length:Int))) (
au (aZ a1 a0.length) (
au (aZ a1 a2.1.length) (
cond (decide ((ix a2.1 a1).2.2 < (↑(List.length (ix a0 a1)):Int))) (
some (Sum.inr (Sum.inl (false,a2)))) (
(l30_1 (a0,a1,(ix a0 a1),0,a2)).bind (fun y4=>Sum.elim (fun y5=>(
some (Sum.inr (Sum.inl (y5.1,y5.2))))) (fun y6=>(
au (aq .i64 (y6.2.1+1)) (
some (Sum.inl (y6.1,(y6.2.1+1),y6.2.2))))) y4))))) (
some (Sum.inr (Sum.inr a2)))
theorem H3 (F36:Y7)(F55:jo):Ck (Af F36 F55)=u3 (Cl F36 F55 (l30_1 (Af F36 F55))):=funext fun _=>by kernel_rfl
noncomputable def H4:=Cl P36 P55 Cj
noncomputable def Cm:JU:=aa (u3 H4)
theorem H5:l30_0 (Af P36 P55)=Cm:=congrArg aa ((H3 P36 P55).trans (by rw[H2] <;> rfl))
theorem Ng:L.Fn Try.prog 30 82 [(.t 4)] (erase HZ):=oA Try.func30
def Ag:FSh:=⟨⟨Hv,[]⟩,z7,0,⟨⟨jP,[]⟩,[.bool],[],0⟩,true⟩
noncomputable def OX (F36:Y7)(F55:jo)(l30_0:JU)(a0:aK×aT)(a1:List Y6):Option Bool:=
cond (!decide ((↑a1.length:Int)=(↑a0.1.length:Int))) (
some false) (
(l30_0 (a1,0,a0)).bind (fun y7=>Sum.elim (fun y8=>(
some y8.1)) (fun y9=>(
some true)) y7))
theorem Q0 (F36:Y7)(F55:jo):bH (Af F36 F55) Ag [(.t 4)] HZ=u2 (OX F36 F55 (l30_0 (Af F36 F55))):=funext fun _=>by kernel_rfl
noncomputable def Q1:=OX P36 P55 Cm
noncomputable def Gq:xI:=u2 Q1
theorem Q2:bH (Af P36 P55) Ag [(.t 4)] HZ=Gq:=(Q0 P36 P55).trans (by rw[H5] <;> rfl)
theorem Q3:DC Try.prog 30 Ag Gq:=dD Q2 QZ Ng
end Go.Proofs.Ytjoncejabdjekaa.D
