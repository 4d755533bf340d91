import Derived.Test.YtjoncejabdjekaaG3t
import Derived.Test.YtjoncejabdjekaaProg
set_option linter.unusedVariables false
set_option maxRecDepth 100000
namespace Go.Proofs.Ytjoncejabdjekaa.D
open Go Go.Proofs Go.Proofs.Ytjoncejabdjekaa.L
def j6:List RSh:=[(.ptr 0 0),(.slh 1),(.slc 2),(.v y11),(.v y11)]
def j8:List RSh:=[(.v aH),(.ptr 0 0),(.slc 1),(.v y11)]
def k5:List (Nat×OSh):=[(0,(.box [(.v cn),(.v cT),(.mp 3),(.slc 2)])),(1,(.hdl 4)),(2,(.row 3 y11)),(3,(.imap 2 false y11)),(4,(.rows 28 3 y11))]
noncomputable def yw (F11:fD)(F37:jv)(F50:b9)(F50v1:b9)(F51:oJ):List FEnt:=[⟨11,sa,F11⟩,⟨37,sc,F37⟩,⟨50,oH,F50⟩,⟨50,gR,F50v1⟩,⟨51,DL,F51⟩]
theorem WP:ay Try.prog (yw P11 P37 P50 P50v1 P51):=dK (dK (dK (dK (dK an WO) M8) Tz) LC) LA
def Hi:LSh:=⟨[5,6,7,25,26,27,32,33],⟨[(.ptr 0 0),(.slh 1),(.v y11),(.slc 2),(.v y11),(.v y11),(.v y11),(.v y11)],k5⟩,[y11,y11,y11,y11,y11,cn,cT,aW,dW,aH],5,[0,1,2,3]⟩
def Hj:List XSh:=[⟨(.exit 2),[5,6,25,26,27],⟨⟨j6,k5⟩,[y11,y11,cn,cT,aW,dW,aH],[0,1,2,3],5⟩⟩]
def Hk:LSh:=⟨[5,6,25,26,27],⟨j6,k5⟩,[y11,y11,cn,cT,aW,dW,aH],5,[0,1,2,3]⟩
def Hl:List XSh:=[⟨(.exit 0),[6],⟨⟨[(.slh 1)],k5⟩,[cn,cT,aW,dW,aH],[0,1,2,3],5⟩⟩]
def Hm:LSh:=⟨[6,43,44,45],⟨[(.slh 0),(.slh 0),(.v y11),(.v y11)],[(0,(.hdl 1)),(1,(.rows 28 3 y11))]⟩,[y11,y11,aH],2,[0,1]⟩
def Hn:List XSh:=[⟨(.exit 4),[6],⟨⟨[(.slh 0)],[(0,(.hdl 1)),(1,(.rows 28 3 y11))]⟩,[aH],[0,1],2⟩⟩]
noncomputable def KF:=dv Try.prog [] Try.f26 (.s .n (.s .n (.s .n (.s (.r [.a 3 true (.pair aW (.opt (.opt (.opt .bool))))]) (.s (.s .n (.b (.l Hk Hl (.s .n (.s .n (.s (.b (.s .n (.s .n (.b (.l Hi Hj (.s .n (.s .n (.s (.b (.s (.r [.a 3 false y11]) .n)) .n)))))))) .n)))))) (.s (.s .n (.b (.l Hm Hn .n))) (.s (.r [.f 3 2 [],.f 3 2 [],.f 3 2 []]) .n)))))))
noncomputable def Ho (T:List FEnt):=aK (xs:=Hj) Hi (b6 T (sb [1,1,1,1,0,1,2,2,1,1,0,2,1,1,2,2] KF))
noncomputable def l26_1 (T:List FEnt):=af (Ho T)
noncomputable def me (F11:fD)(F37:jv)(F50 F50v1:b9)(F51:oJ)(a0 a1 a2 a3 a4:Int)(a5:List Y1)(a6:List Y2)(a7:List Int)(a8:List Y5)(a9:List Y6):Option ((Int×Int×Int×Int×Int×aO×aT×Y6×db×aB)⊕JE):=
cond (decide (a4 < a3)) (
Je (F50 (a0,a5,a6,([]:List Y5),a8,a7,a9)) (fun r3=>(
cond (!r3.1) (
some (Sum.inr (a1,a2,r3.2.1,r3.2.2.1,r3.2.2.2.2.2.1,r3.2.2.2.2.1,r3.2.2.2.2.2.2))) (
aA (aw .i64 (a4+1)) (
some (Sum.inl (a0,a1,a2,a3,(a4+1),r3.2.1,r3.2.2.1,r3.2.2.2.2.2.1,r3.2.2.2.2.1,r3.2.2.2.2.2.2)))))) (
(F50v1 (a0,a5,a6,([]:List Y5),a8,a7,a9)).bind fun r4=>(
cond (!r4.1) (
some (Sum.inr (a1,a2,r4.2.1,r4.2.2.1,r4.2.2.2.2.2.1,r4.2.2.2.2.1,r4.2.2.2.2.2.2))) (
aA (aw .i64 (a4+1)) (
some (Sum.inl (a0,a1,a2,a3,(a4+1),r4.2.1,r4.2.2.1,r4.2.2.2.2.2.1,r4.2.2.2.2.1,r4.2.2.2.2.2.2))))))) (
some (Sum.inr (a1,a2,a5,a6,a7,a8,a9)))
theorem Np (F11:fD)(F37:jv)(F50 F50v1:b9)(F51:oJ):Ho (yw F11 F37 F50 F50v1 F51)=BW (me F11 F37 F50 F50v1 F51):=funext fun _=>by kernel_rfl
noncomputable def Hp:=me P11 P37 P50 P50v1 P51
noncomputable def pK:O5:=af (BW Hp)
theorem Nq:l26_1 (yw P11 P37 P50 P50v1 P51)=pK:=congrArg af (Np P11 P37 P50 P50v1 P51)
noncomputable def Hq (T:List FEnt):=aK (xs:=Hl) Hk (b6 T (sb [1,1,1,1,0,1,2,2] KF))
noncomputable def l26_0 (T:List FEnt):=af (Hq T)
noncomputable def pL (F11:fD)(F37:jv)(F50 F50v1:b9)(F51:oJ)(l26_1:O5)(a0 a1:Int)(a2:List Y1)(a3:List Y2)(a4:List Int)(a5:List Y5)(a6:List Y6):Option (JE⊕OZ):=
cond (decide (a1 < a0)) (
aA (aU a1 a4.length) (
(l26_1 (a1,a0,a1,(ix a4 a1),0,a2,a3,a4,a5,a6)).bind fun y5=>(
aA (aw .i64 (y5.2.1+1)) (
some (Sum.inl (y5.1,(y5.2.1+1),y5.2.2.1,y5.2.2.2.1,y5.2.2.2.2.1,y5.2.2.2.2.2.1,y5.2.2.2.2.2.2)))))) (
some (Sum.inr (a2,a3,a4,a5,a6)))
theorem Nr (F11:fD)(F37:jv)(F50 F50v1:b9)(F51:oJ):Hq (yw F11 F37 F50 F50v1 F51)=u7 (pL F11 F37 F50 F50v1 F51 (l26_1 (yw F11 F37 F50 F50v1 F51))):=funext fun _=>by kernel_rfl
noncomputable def Hr:=pL P11 P37 P50 P50v1 P51 pK
noncomputable def sm:O6:=af (u7 Hr)
theorem v26_0:l26_0 (yw P11 P37 P50 P50v1 P51)=sm:=congrArg af ((Nr P11 P37 P50 P50v1 P51).trans (by rw[Nq] <;> rfl))
noncomputable def Hs (T:List FEnt):=aK (xs:=Hn) Hm (b6 T (sb [1,1,1,1,1,0,1,2,2] KF))
noncomputable def l26_2 (T:List FEnt):=af (Hs T)
noncomputable def pM (F11:fD)(F37:jv)(F50 F50v1:b9)(F51:oJ)(a0 a1:Int)(a2:List Y6):Option (Ok⊕aB):=
cond (decide (a1 < a0)) (
aA (aU a1 a2.length) (
(F51 ((↑a1.toNat:Int),a2)).bind fun r7=>(
aA (aw .i64 (a1+1)) (
some (Sum.inl (a0,(a1+1),r7)))))) (
some (Sum.inr a2))
theorem Ns (F11:fD)(F37:jv)(F50 F50v1:b9)(F51:oJ):Hs (yw F11 F37 F50 F50v1 F51)=u3 (pM F11 F37 F50 F50v1 F51):=funext fun _=>by kernel_rfl
noncomputable def Ht:=pM P11 P37 P50 P50v1 P51
noncomputable def so:OY:=af (u3 Ht)
theorem v26_2:l26_2 (yw P11 P37 P50 P50v1 P51)=so:=congrArg af (Ns P11 P37 P50 P50v1 P51)
theorem Sp:L.Fn Try.prog 26 53 [(.t 2),(.t 3)] (erase KF):=oA Try.func26
def AK:FSh:=⟨⟨xS,[]⟩,[bM],0,⟨⟨[(.tup [(.v aH),(.v y11)])],[]⟩,[aH,y11],[],0⟩,false⟩
noncomputable def KG (F11:fD)(F37:jv)(F50 F50v1:b9)(F51:oJ)(l26_0:O6)(l26_2:OY)(a0:aO×aT):Option O4:=
(F11 a0).bind fun r1=>(
cond (!decide (r1=0)) (
some (([]:List Y6),r1)) (
(F37 a0).bind fun r2=>(
aA (decide (0≤(↑a0.1.length:Int))) (
aA (decide (24*(↑a0.1.length:Int)≤140737488355328)) (
(l26_0 ((↑r2.2.2.2.length:Int),0,r2.1,r2.2.1,r2.2.2.2,r2.2.2.1,(cP (Int.toNat (↑a0.1.length:Int)) []:List Y6))).bind fun y6=>(
(l26_2 ((↑y6.2.2.2.2.length:Int),0,y6.2.2.2.2)).bind fun y8=>(
some (y8,0))))))))
theorem g26 (F11:fD)(F37:jv)(F50 F50v1:b9)(F51:oJ)(a0:aO×aT):bx (yw F11 F37 F50 F50v1 F51) AK [(.t 2),(.t 3)] KF a0=KG F11 F37 F50 F50v1 F51 (l26_0 (yw F11 F37 F50 F50v1 F51)) (l26_2 (yw F11 F37 F50 F50v1 F51)) a0:=by kernel_rfl
noncomputable def WQ:=KG P11 P37 P50 P50v1 P51 sm so
noncomputable def P26:qQ:=fun x=>WQ x
theorem WR:bx (yw P11 P37 P50 P50v1 P51) AK [(.t 2),(.t 3)] KF=P26:=funext fun x=>(g26 P11 P37 P50 P50v1 P51 x).trans (by rw[v26_0,v26_2] <;> rfl)
theorem TE:DC Try.prog 26 AK P26:=dD WR WP Sp
noncomputable def KH (F11:fD)(F37:jv)(F45:wD)(F52:nZ):List FEnt:=[⟨11,sa,F11⟩,⟨37,sc,F37⟩,⟨45,xT,F45⟩,⟨52,Af,F52⟩]
theorem WS:ay Try.prog (KH P11 P37 P45 P52):=dK (dK (dK (dK an Tc) Rm) LC) LA
def Hu:LSh:=⟨[5,7,22,23],⟨[(.v y12),(.slc 0),(.v y11),(.v y11)],Fo⟩,[y12,y11,y11,aW],1,[]⟩
def Hv:List XSh:=[⟨(.exit 0),[7],⟨⟨[(.slc 0)],Fo⟩,[aW],[],1⟩⟩]
noncomputable def Qa:=dv Try.prog [] Try.f27 (.s .n (.s .n (.s .n (.s .n (.s (.s .n (.b (.l Hu Hv (.s .n (.s .n (.s (.b (.s .n (.s .n (.s (.r [.a 2 false y11,.a 3 false y11]) .n)))) .n)))))) .n)))))
noncomputable def Hw (T:List FEnt):=aK (xs:=Hv) Hu (b6 T (sb [1,1,1,1,0,1,2,2] Qa))
noncomputable def l27_0 (T:List FEnt):=af (Hw T)
noncomputable def pN (F11:fD)(F37:jv)(F45:wD)(F52:nZ)(a0 a1 a2:Int)(a3:List Int):Option ((Int×Int×Int×Y6)⊕Y6):=
cond (decide (a2 < a1)) (
(F52 (a0,a2)).bind fun r4=>(
cond r4 (
aA (cf 8 (List.length a3+List.length ([a2]:List Int))) (
aA (aw .i64 (a2+1)) (
some (Sum.inl (a0,a1,(a2+1),(a3++([a2]:List Int))))))) (
aA (aw .i64 (a2+1)) (
some (Sum.inl (a0,a1,(a2+1),a3)))))) (
some (Sum.inr a3))
theorem Nt (F11:fD)(F37:jv)(F45:wD)(F52:nZ):Hw (KH F11 F37 F45 F52)=u4 (pN F11 F37 F45 F52):=funext fun _=>by kernel_rfl
noncomputable def Hx:=pN P11 P37 P45 P52
noncomputable def pO:OW:=af (u4 Hx)
theorem v27_0:l27_0 (KH P11 P37 P45 P52)=pO:=congrArg af (Nt P11 P37 P45 P52)
theorem Sq:L.Fn Try.prog 27 35 [(.t 2),(.t 3)] (erase Qa):=oA Try.func27
def AL:FSh:=⟨⟨xS,[]⟩,[bM],0,⟨⟨[(.tup [(.slc 0),(.v y11)])],Fo⟩,[y11,aW],[],1⟩,true⟩
noncomputable def KI (F11:fD)(F37:jv)(F45:wD)(F52:nZ)(l27_0:OW)(a0:aO×aT):Option Eh:=
(F11 a0).bind fun r1=>(
cond (!decide (r1=0)) (
some (r1,([]:List Int))) (
(F37 a0).bind fun r2=>(
(F45 (r2.1,r2.2.1,r2.2.2.1,r2.2.2.2)).bind fun r3=>(
(l27_0 (r3.1,(↑a0.2.length:Int),0,([]:List Int))).bind fun y5=>(
some (0,y5))))))
theorem g27 (F11:fD)(F37:jv)(F45:wD)(F52:nZ)(a0:aO×aT):bx (KH F11 F37 F45 F52) AL [(.t 2),(.t 3)] Qa a0=KI F11 F37 F45 F52 (l27_0 (KH F11 F37 F45 F52)) a0:=by kernel_rfl
noncomputable def WT:=KI P11 P37 P45 P52 pO
noncomputable def P27:qP:=fun x=>WT x
theorem WU:bx (KH P11 P37 P45 P52) AL [(.t 2),(.t 3)] Qa=P27:=funext fun x=>(g27 P11 P37 P45 P52 x).trans (by rw[v27_0] <;> rfl)
theorem TF:DC Try.prog 27 AL P27:=dD WU WS Sq
noncomputable def DM (F36:Y7)(F55:kU):List FEnt:=[⟨36,tY,F36⟩,⟨55,xX,F55⟩]
theorem WV:ay Try.prog (DM P36 P55):=dK (dK an RX) PB
def Hy:LSh:=⟨[1,2,5,6,7],⟨[(.v aH),(.ptr 0 0),(.v y11),(.v aW),(.v y11)],oG⟩,[aH,y11,aW,y11,bM],1,[0]⟩
def Hz:List XSh:=[⟨.ret,[4],⟨⟨ju,oG⟩,[.bool,bM],[0],1⟩⟩,⟨(.exit 2),[1,2,5],⟨⟨[(.v aH),(.ptr 0 0),(.v y11)],oG⟩,[aH,y11,bM],[0],1⟩⟩]
def HA:LSh:=⟨[1,2,5],⟨[(.v aH),(.ptr 0 0),(.v y11)],oG⟩,[aH,y11,bM],1,[0]⟩
def wo:List XSh:=[⟨.ret,[4],⟨⟨ju,oG⟩,[.bool,bM],[0],1⟩⟩,⟨(.exit 0),[],⟨⟨[],oG⟩,[bM],[0],1⟩⟩]
noncomputable def Nu:=dv Try.prog [] Try.f30 (.s .n (.s .n (.s (.s .n (.b (.l HA wo (.s .n (.s (.b (.s .n (.s .n (.s .n (.b (.l Hy Hz .n)))))) .n))))) .n)))
noncomputable def HB (T:List FEnt):=aK (xs:=Hz) Hy (b6 T (sb [1,1,0,1,2,2,1,0,2,1,1,1,2,2] Nu))
noncomputable def l30_1 (T:List FEnt):=af (HB T)
noncomputable def wp (F36:Y7)(F55:kU)(a0:List Y6)(a1:Int)(a2:List Int)(a3:Int)(a4:aO×aT):Option ((aB×Int×Y6×Int×aO×aT)⊕O8):=
cond (decide (a3 < (↑a2.length:Int))) (
aA (aU a3 a2.length) (
aA (aw .i64 ((↑a4.2.length:Int)-1)) (
(F36 ((ix a2 a3),0,((↑a4.2.length:Int)-1))).bind fun r1=>(
cond (!r1) (
some (Sum.inr (Sum.inl (false,a4)))) (
cond (decide (0 < a3)) (
aA (aU a3 a2.length) (
aA (aw .i64 (a3-1)) (
aA (aU (a3-1) a2.length) (
cond (decide ((ix a2 a3)≤(ix a2 (a3-1)))) (
some (Sum.inr (Sum.inl (false,a4)))) (
aA (aU a3 a2.length) (
aA (aU (ix a2 a3) a4.2.length) (
aA (aU a1 a4.1.length) (
(F55 ((ix a4.2 (ix a2 a3)),(ix a4.1 a1))).bind fun r2=>(
cond (!r2) (
some (Sum.inr (Sum.inl (false,a4)))) (
aA (aw .i64 (a3+1)) (
some (Sum.inl (a0,a1,a2,(a3+1),a4))))))))))))) (
aA (aU a3 a2.length) (
aA (aU (ix a2 a3) a4.2.length) (
aA (aU a1 a4.1.length) (
(F55 ((ix a4.2 (ix a2 a3)),(ix a4.1 a1))).bind fun r3=>(
cond (!r3) (
some (Sum.inr (Sum.inl (false,a4)))) (
aA (aw .i64 (a3+1)) (
some (Sum.inl (a0,a1,a2,(a3+1),a4)))))))))))))) (
some (Sum.inr (Sum.inr (a0,a1,a4))))
theorem Nv (F36:Y7)(F55:kU):HB (DM F36 F55)=u5 (wp F36 F55):=funext fun _=>by kernel_rfl
noncomputable def AM:=wp P36 P55
noncomputable def AN:Pa:=af (u5 AM)
theorem Nw:l30_1 (DM P36 P55)=AN:=congrArg af (Nv P36 P55)
noncomputable def HC (T:List FEnt):=aK (xs:=wo) HA (b6 T (sb [1,1,0,1,2,2] Nu))
noncomputable def l30_0 (T:List FEnt):=af (HC T)
noncomputable def pP (F36:Y7)(F55:kU)(l30_1:Pa)(a0:List Y6)(a1:Int)(a2:aO×aT):Option (O0⊕KS):=
cond (decide (a1 < (↑a0.length:Int))) (
aA (aU a1 a0.length) (
aA (aU a1 a2.1.length) (
cond (decide ((ix a2.1 a1).2.2 < (↑(List.length (ix a0 a1)):Int))) (
some (Sum.inr (Sum.inl (false,a2)))) (
(l30_1 (a0,a1,(ix a0 a1),0,a2)).bind (fun y4=>Sum.elim (fun y5=>(
some (Sum.inr (Sum.inl (y5.1,y5.2))))) (fun y6=>(
aA (aw .i64 (y6.2.1+1)) (
some (Sum.inl (y6.1,(y6.2.1+1),y6.2.2))))) y4))))) (
some (Sum.inr (Sum.inr a2)))
theorem Nx (F36:Y7)(F55:kU):HC (DM F36 F55)=u3 (pP F36 F55 (l30_1 (DM F36 F55))):=funext fun _=>by kernel_rfl
noncomputable def sr:=pP P36 P55 AN
noncomputable def wq:Pb:=af (u3 sr)
theorem Ny:l30_0 (DM P36 P55)=wq:=congrArg af ((Nx P36 P55).trans (by rw[Nw] <;> rfl))
theorem Sr:L.Fn Try.prog 30 82 [(.t 4)] (erase Nu):=oA Try.func30
def AO:FSh:=⟨⟨PN,[]⟩,[bM,aH],0,⟨⟨ju,[]⟩,[.bool],[],0⟩,true⟩
noncomputable def KJ (F36:Y7)(F55:kU)(l30_0:Pb)(a0:aO×aT)(a1:List Y6):Option Bool:=
cond (!decide ((↑a1.length:Int)=(↑a0.1.length:Int))) (
some false) (
(l30_0 (a1,0,a0)).bind (fun y7=>Sum.elim (fun y8=>(
some y8.1)) (fun y9=>(
some true)) y7))
theorem WW (F36:Y7)(F55:kU):bx (DM F36 F55) AO [(.t 4)] Nu=u2 (KJ F36 F55 (l30_0 (DM F36 F55))):=funext fun _=>by kernel_rfl
noncomputable def Nz:=KJ P36 P55 wq
noncomputable def nY:qR:=u2 Nz
theorem WX:bx (DM P36 P55) AO [(.t 4)] Nu=nY:=(WW P36 P55).trans (by rw[Ny] <;> rfl)
theorem TG:DC Try.prog 30 AO nY:=dD WX WV Sr
noncomputable def yx:List FEnt:=[]
theorem WY:ay Try.prog yx:=an
def HD:LSh:=⟨[1,2,6,7,8],⟨[(.v aH),(.ptr 0 0),(.slc 1),(.v y11),(.v y11)],BU⟩,[aH,y11,y11,bM,aW],2,[0,1]⟩
def HE:List XSh:=[⟨(.exit 2),[1,2,6,7],⟨⟨j8,BU⟩,[aH,y11,bM,aW],[0,1],2⟩⟩]
def HF:LSh:=⟨[1,2,6,7],⟨j8,BU⟩,[aH,y11,bM,aW],2,[0,1]⟩
def HG:List XSh:=[⟨(.exit 0),[2,6],⟨⟨[(.ptr 0 0),(.slc 1)],BU⟩,[bM,aW],[0,1],2⟩⟩]
def HH:LSh:=⟨[2,6,9,10],⟨[(.ptr 0 0),(.slc 1),(.v y11),(.v y11)],BU⟩,[y11,y11,bM,aW],2,[0,1]⟩
def HI:List XSh:=[⟨(.exit 4),[6,9],⟨⟨[(.slc 1),(.v y11)],BU⟩,[y11,bM,aW],[0,1],2⟩⟩]
noncomputable def KK:=dv Try.prog [] Try.f39 (.s .n (.s (.r [.a 3 false y11]) (.s (.s .n (.b (.l HF HG (.s .n (.s (.b (.s .n (.b (.l HD HE .n)))) .n))))) (.s .n (.s (.s .n (.b (.l HH HI .n))) .n)))))
noncomputable def HJ (T:List FEnt):=aK (xs:=HE) HD (b6 T (sb [1,1,0,1,2,2,1,0,2,1,2,2] KK))
noncomputable def l39_1 (T:List FEnt):=af (HJ T)
noncomputable def wr (a0:List Y6)(a1 a2:Int)(a3:aO×aT)(a4:List Int):Option ((aB×Int×Int×dA×Y6)⊕JF):=
aA (aU a1 a0.length) (
cond (decide (a2 < (↑(List.length (ix a0 a1)):Int))) (
aA (aU a1 a0.length) (
aA (aU a2 (List.length (ix a0 a1))) (
aA (aU (ix (ix a0 a1) a2) a4.length) (
aA (aw .i64 ((ix a4 (ix (ix a0 a1) a2))+1)) (
aA (aU (ix (ix a0 a1) a2) a4.length) (
aA (aw .i64 (a2+1)) (
some (Sum.inl (a0,a1,(a2+1),a3,(List.set a4 (Int.toNat (ix (ix a0 a1) a2)) ((ix a4 (ix (ix a0 a1) a2))+1))))))))))) (
some (Sum.inr (a0,a1,a3,a4))))
theorem NA:HJ yx=u5 wr:=funext fun _=>by kernel_rfl
noncomputable def AP:=wr
noncomputable def AQ:Pc:=af (u5 AP)
theorem NB:l39_1 yx=AQ:=congrArg af NA
noncomputable def HK (T:List FEnt):=aK (xs:=HG) HF (b6 T (sb [1,1,0,1,2,2] KK))
noncomputable def l39_0 (T:List FEnt):=af (HK T)
noncomputable def ws (l39_1:Pc)(a0:List Y6)(a1:Int)(a2:aO×aT)(a3:List Int):Option (JF⊕Eb):=
cond (decide (a1 < (↑a0.length:Int))) (
(l39_1 (a0,a1,0,a2,a3)).bind fun y1=>(
aA (aw .i64 (y1.2.1+1)) (
some (Sum.inl (y1.1,(y1.2.1+1),y1.2.2.1,y1.2.2.2))))) (
some (Sum.inr (a2,a3)))
theorem g39_0:HK yx=u4 (ws (l39_1 yx)):=funext fun _=>by kernel_rfl
noncomputable def AR:=ws AQ
noncomputable def AS:Pd:=af (u4 AR)
theorem NC:l39_0 yx=AS:=congrArg af (g39_0.trans (by rw[NB] <;> rfl))
noncomputable def HL (T:List FEnt):=aK (xs:=HI) HH (b6 T (sb [1,1,1,1,0,1,2,2] KK))
noncomputable def l39_2 (T:List FEnt):=af (HL T)
noncomputable def wt (a0 a1:Int)(a2:aO×aT)(a3:List Int):Option (JG⊕Jy):=
cond (decide (a1 < (↑a3.length:Int))) (
aA (aU a1 a3.length) (
aA (aU a1 a2.2.length) (
aA (aw .i64 (a0+(min (ix a3 a1) ((ix a2.2 a1).2.1)))) (
aA (aw .i64 (a1+1)) (
some (Sum.inl ((a0+(min (ix a3 a1) ((ix a2.2 a1).2.1))),(a1+1),a2,a3))))))) (
some (Sum.inr (a0,a2,a3)))
theorem ND:HL yx=u4 wt:=funext fun _=>by kernel_rfl
noncomputable def AT:=wt
noncomputable def AU:Pe:=af (u4 AT)
theorem NE:l39_2 yx=AU:=congrArg af ND
theorem Ss:L.Fn Try.prog 39 63 [(.t 4),(.t 5)] (erase KK):=oA Try.func39
def DN:FSh:=⟨⟨PN,[]⟩,[bM,aH],0,⟨⟨[(.tup [(.slc 0),(.v y11)])],Fo⟩,[y11,aW],[],1⟩,true⟩
noncomputable def Su (l39_0:Pd)(l39_2:Pe)(a0:aO×aT)(a1:List Y6):Option Eh:=
aA (decide (0≤(↑a0.2.length:Int))) (
aA (decide (8*(↑a0.2.length:Int)≤140737488355328)) (
(l39_0 (a1,0,a0,(cP (Int.toNat (↑a0.2.length:Int)) 0:List Int))).bind fun y2=>(
(l39_2 (0,0,y2.1,y2.2)).bind fun y3=>(
some (y3.1,y3.2.2)))))
theorem g39:bx yx DN [(.t 4),(.t 5)] KK=u2 (Su (l39_0 yx) (l39_2 yx)):=funext fun _=>by kernel_rfl
noncomputable def TH:=Su AS AU
noncomputable def Jw:Ei:=u2 TH
theorem WZ:bx yx DN [(.t 4),(.t 5)] KK=Jw:=g39.trans (by rw[NC,NE] <;> rfl)
theorem W0:DC Try.prog 39 DN Jw:=dD WZ WY Ss
noncomputable def Sv (F12:fD)(F30:qR)(F39:Ei):List FEnt:=[⟨12,tZ,F12⟩,⟨30,AO,F30⟩,⟨39,DN,F39⟩]
theorem W1:ay Try.prog (Sv P12 nY Jw):=dK (dK (dK an W0) TG) PD
noncomputable def Sw:=dv Try.prog [] Try.f14 .n
theorem Sx:L.Fn Try.prog 14 24 [(.t 4),(.t 5),(.t 6)] (erase Sw):=oA Try.func14
def DO:FSh:=⟨⟨PN,[]⟩,[bM,aH],0,⟨⟨Rs,Fo⟩,[y11,y11,aW],[],1⟩,true⟩
noncomputable def NF (F12:fD)(F30:qR)(F39:Ei)(a0:aO×aT)(a1:List Y6):Option NY:=
(F12 a0).bind fun r1=>(
cond (!decide (r1=0)) (
some (0,70,([]:List Int))) (
(F30 (a0,a1)).bind fun r2=>(
cond (!r2) (
some (0,71,([]:List Int))) (
(F39 (a0,a1)).bind fun r3=>(
some (r3.1,0,r3.2))))))
theorem W2 (F12:fD)(F30:qR)(F39:Ei):bx (Sv F12 F30 F39) DO [(.t 4),(.t 5),(.t 6)] Sw=u2 (NF F12 F30 F39):=funext fun _=>by kernel_rfl
noncomputable def Qb:=NF P12 nY Jw
noncomputable def P14:lJ:=u2 Qb
theorem W3:bx (Sv P12 nY Jw) DO [(.t 4),(.t 5),(.t 6)] Sw=P14:=W2 P12 nY Jw
theorem W4:DC Try.prog 14 DO P14:=dD W3 W1 Sx
noncomputable def KL (F36:Y7):List FEnt:=[⟨36,tY,F36⟩]
theorem W5:ay Try.prog (KL P36):=dK an PB
def HM:LSh:=⟨[1,2,5],⟨[(.v aW),(.ptr 0 0),(.v y11)],oG⟩,[aW,y11,bM],1,[0]⟩
noncomputable def Qc:=dv Try.prog [] Try.f28 (.s .n (.s (.s .n (.b (.l HM wo .n))) .n))
noncomputable def HN (T:List FEnt):=aK (xs:=wo) HM (b6 T (sb [1,0,1,2,2] Qc))
noncomputable def l28_0 (T:List FEnt):=af (HN T)
noncomputable def pQ (F36:Y7)(a0:List Int)(a1:Int)(a2:aO×aT):Option ((Y6×Int×aO×aT)⊕KS):=
cond (decide (a1 < (↑a0.length:Int))) (
aA (aU a1 a0.length) (
aA (aw .i64 ((↑a2.2.length:Int)-1)) (
(F36 ((ix a0 a1),0,((↑a2.2.length:Int)-1))).bind fun r1=>(
cond (!r1) (
some (Sum.inr (Sum.inl (false,a2)))) (
cond (decide (0 < a1)) (
aA (aU a1 a0.length) (
aA (aw .i64 (a1-1)) (
aA (aU (a1-1) a0.length) (
cond (decide ((ix a0 a1)≤(ix a0 (a1-1)))) (
some (Sum.inr (Sum.inl (false,a2)))) (
aA (aw .i64 (a1+1)) (
some (Sum.inl (a0,(a1+1),a2)))))))) (
aA (aw .i64 (a1+1)) (
some (Sum.inl (a0,(a1+1),a2))))))))) (
some (Sum.inr (Sum.inr a2)))
theorem NG (F36:Y7):HN (KL F36)=u3 (pQ F36):=funext fun _=>by kernel_rfl
noncomputable def HO:=pQ P36
noncomputable def wu:Pf:=af (u3 HO)
theorem NH:l28_0 (KL P36)=wu:=congrArg af (NG P36)
theorem Sy:L.Fn Try.prog 28 38 [(.t 4)] (erase Qc):=oA Try.func28
def AW:FSh:=⟨⟨[(.st bM),(.v aW)],[]⟩,[bM,aW],0,⟨⟨ju,[]⟩,[.bool],[],0⟩,true⟩
noncomputable def Qd (F36:Y7)(l28_0:Pf)(a0:aO×aT)(a1:List Int):Option Bool:=
(l28_0 (a1,0,a0)).bind (fun y2=>Sum.elim (fun y3=>(
some y3.1)) (fun y4=>(
some true)) y2)
theorem W6 (F36:Y7):bx (KL F36) AW [(.t 4)] Qc=u2 (Qd F36 (l28_0 (KL F36))):=funext fun _=>by kernel_rfl
noncomputable def W7:=Qd P36 wu
noncomputable def P28:qS:=u2 W7
theorem W8:bx (KL P36) AW [(.t 4)] Qc=P28:=(W6 P36).trans (by rw[NH] <;> rfl)
theorem TI:DC Try.prog 28 AW P28:=dD W8 W5 Sy
noncomputable def DP (F55:kU):List FEnt:=[⟨55,xX,F55⟩]
theorem W9:ay Try.prog (DP P55):=dK an RX
def HP:LSh:=⟨[1,2,5,6,7,8],⟨[(.v aW),(.ptr 0 0),(.v y11),(.v y11),(.v y11),(.v y11)],oG⟩,[aW,y11,y11,y11,y11,bM],1,[0]⟩
def HQ:List XSh:=[⟨(.exit 2),[1,2,5,6,7],⟨⟨[(.v aW),(.ptr 0 0),(.v y11),(.v y11),(.v y11)],oG⟩,[aW,y11,y11,y11,bM],[0],1⟩⟩]
def ww:LSh:=⟨[1,2,5,6],⟨[(.v aW),(.ptr 0 0),(.v y11),(.v y11)],oG⟩,[aW,y11,y11,bM],1,[0]⟩
def wx:List XSh:=[⟨(.exit 0),[5],⟨⟨oF,oG⟩,[y11,bM],[0],1⟩⟩]
noncomputable def NI:=dv Try.prog [] Try.f53 (.s .n (.s .n (.s (.s .n (.b (.l ww wx (.s .n (.s (.b (.s .n (.s (.s .n (.b (.l HP HQ .n))) .n))) .n))))) .n)))
noncomputable def HS (T:List FEnt):=aK (xs:=HQ) HP (b6 T (sb [1,1,0,1,2,2,1,0,2,1,0,1,2,2] NI))
noncomputable def l53_1 (T:List FEnt):=af (HS T)
noncomputable def pR (F55:kU)(a0:List Int)(a1 a2 a3 a4:Int)(a5:aO×aT):Option ((Y6×Int×Int×Int×Int×aO×aT)⊕O3):=
cond (decide (a4 < (↑a0.length:Int))) (
aA (aU a4 a0.length) (
aA (aU (ix a0 a4) a5.2.length) (
aA (aU a2 a5.1.length) (
(F55 ((ix a5.2 (ix a0 a4)),(ix a5.1 a2))).bind fun r1=>(
cond r1 (
aA (aw .i64 (a3+1)) (
aA (aw .i64 (a4+1)) (
some (Sum.inl (a0,a1,a2,(a3+1),(a4+1),a5))))) (
aA (aw .i64 (a4+1)) (
some (Sum.inl (a0,a1,a2,a3,(a4+1),a5))))))))) (
some (Sum.inr (a0,a1,a2,a3,a5)))
theorem NJ (F55:kU):HS (DP F55)=u6 (pR F55):=funext fun _=>by kernel_rfl
noncomputable def HU:=pR P55
noncomputable def ss:O7:=af (u6 HU)
theorem NK:l53_1 (DP P55)=ss:=congrArg af (NJ P55)
noncomputable def HV (T:List FEnt):=aK (xs:=wx) ww (b6 T (sb [1,1,0,1,2,2] NI))
noncomputable def l53_0 (T:List FEnt):=af (HV T)
noncomputable def pS (F55:kU)(l53_1:O7)(a0:List Int)(a1 a2:Int)(a3:aO×aT):Option O9:=
cond (decide (a2 < (↑a3.1.length:Int))) (
(l53_1 (a0,a1,a2,0,0,a3)).bind fun y2=>(
aA (aU y2.2.2.1 y2.2.2.2.2.1.length) (
aA (aw .i64 (y2.2.1+(min y2.2.2.2.1 ((ix y2.2.2.2.2.1 y2.2.2.1).2.2)))) (
aA (aw .i64 (y2.2.2.1+1)) (
some (Sum.inl (y2.1,(y2.2.1+(min y2.2.2.2.1 ((ix y2.2.2.2.2.1 y2.2.2.1).2.2))),(y2.2.2.1+1),y2.2.2.2.2))))))) (
some (Sum.inr (a1,a3)))
theorem NL (F55:kU):HV (DP F55)=u4 (pS F55 (l53_1 (DP F55))):=funext fun _=>by kernel_rfl
noncomputable def HW:=pS P55 ss
noncomputable def wy:Ej:=af (u4 HW)
theorem NM:l53_0 (DP P55)=wy:=congrArg af ((NL P55).trans (by rw[NK] <;> rfl))
theorem Sz:L.Fn Try.prog 53 49 [(.t 4)] (erase NI):=oA Try.func53
def DQ:FSh:=⟨⟨[(.st bM),(.v aW)],[]⟩,[bM,aW],0,⟨⟨oF,[]⟩,[y11],[],0⟩,true⟩
noncomputable def Qe (F55:kU)(l53_0:Ej)(a0:aO×aT)(a1:List Int):Option Int:=
(l53_0 (a1,0,0,a0)).bind fun y3=>(
some y3.1)
theorem Xa (F55:kU):bx (DP F55) DQ [(.t 4)] NI=u2 (Qe F55 (l53_0 (DP F55))):=funext fun _=>by kernel_rfl
noncomputable def Xb:=Qe P55 wy
noncomputable def xZ:jW:=u2 Xb
theorem Xc:bx (DP P55) DQ [(.t 4)] NI=xZ:=(Xa P55).trans (by rw[NM] <;> rfl)
theorem Xd:DC Try.prog 53 DQ xZ:=dD Xc W9 Sz
noncomputable def KM:List FEnt:=[]
theorem Xe:ay Try.prog KM:=an
def HX:LSh:=⟨[0,1,5],⟨[(.v aW),(.v y11),(.v y11)],[]⟩,[aW,y11,y11],0,[]⟩
noncomputable def Qf:=dv Try.prog [] Try.f54 (.s .n (.s (.s .n (.b (.l HX vN .n))) .n))
noncomputable def HY (T:List FEnt):=aK (xs:=vN) HX (b6 T (sb [1,0,1,2,2] Qf))
noncomputable def l54_0 (T:List FEnt):=af (HY T)
noncomputable def pT (a0:List Int)(a1 a2:Int):Option ((Y6×Int×Int)⊕Qm):=
cond (decide (a2 < (↑a0.length:Int))) (
aA (aU a2 a0.length) (
cond (decide ((ix a0 a2)=a1)) (
some (Sum.inr (Sum.inl true))) (
aA (aw .i64 (a2+1)) (
some (Sum.inl (a0,a1,(a2+1))))))) (
some (Sum.inr (Sum.inr ())))
theorem NN:HY KM=u3 pT:=funext fun _=>by kernel_rfl
noncomputable def HZ:=pT
noncomputable def su:OX:=af (u3 HZ)
theorem NO:l54_0 KM=su:=congrArg af NN
theorem SA:L.Fn Try.prog 54 18 [(.t 4)] (erase Qf):=oA Try.func54
def DR:FSh:=⟨⟨[(.v aW),(.v y11)],[]⟩,[aW,y11],0,⟨⟨ju,[]⟩,[.bool],[],0⟩,true⟩
noncomputable def Qg (l54_0:OX)(a0:List Int)(a1:Int):Option Bool:=
(l54_0 (a0,a1,0)).bind (fun y1=>Sum.elim (fun y2=>(
some y2)) (fun y3=>(
some false)) y1)
theorem g54:bx KM DR [(.t 4)] Qf=u2 (Qg (l54_0 KM)):=funext fun _=>by kernel_rfl
noncomputable def Xf:=Qg su
noncomputable def x8:fY:=u2 Xf
theorem Xg:bx KM DR [(.t 4)] Qf=x8:=g54.trans (by rw[NO] <;> rfl)
theorem Xh:DC Try.prog 54 DR x8:=dD Xg Xe SA
noncomputable def KN (F53:jW)(F54:fY):List FEnt:=[⟨53,DQ,F53⟩,⟨54,DR,F54⟩]
theorem Xi:ay Try.prog (KN xZ x8):=dK (dK an Xh) Xd
noncomputable def Qh:=dv Try.prog [] Try.f29 (.s .n (.s .n (.s (.s .n (.b (.l ww wx .n))) .n)))
noncomputable def H0 (T:List FEnt):=aK (xs:=wx) ww (b6 T (sb [1,1,0,1,2,2] Qh))
noncomputable def l29_0 (T:List FEnt):=af (H0 T)
noncomputable def pU (F53:jW)(F54:fY)(a0:List Int)(a1 a2:Int)(a3:aO×aT):Option O9:=
cond (decide (a2 < (↑a3.2.length:Int))) (
(F54 (a0,a2)).bind fun r2=>(
cond (!r2) (
aA (aU a2 a3.2.length) (
aA (aw .i64 (a1+(ix a3.2 a2).2.1)) (
aA (aw .i64 (a2+1)) (
some (Sum.inl (a0,(a1+(ix a3.2 a2).2.1),(a2+1),a3)))))) (
aA (aw .i64 (a2+1)) (
some (Sum.inl (a0,a1,(a2+1),a3)))))) (
some (Sum.inr (a1,a3)))
theorem NP (F53:jW)(F54:fY):H0 (KN F53 F54)=u4 (pU F53 F54):=funext fun _=>by kernel_rfl
noncomputable def H1:=pU xZ x8
noncomputable def wz:Ej:=af (u4 H1)
theorem NQ:l29_0 (KN xZ x8)=wz:=congrArg af (NP xZ x8)
theorem SB:L.Fn Try.prog 29 30 [(.t 4)] (erase Qh):=oA Try.func29
def AX:FSh:=⟨⟨[(.st bM),(.v aW)],[]⟩,[bM,aW],0,⟨⟨oF,[]⟩,[y11],[],0⟩,true⟩
noncomputable def Qi (F53:jW)(F54:fY)(l29_0:Ej)(a0:aO×aT)(a1:List Int):Option Int:=
(F53 (a0,a1)).bind fun r1=>(
(l29_0 (a1,r1,0,a0)).bind fun y3=>(
some y3.1))
theorem Xj (F53:jW)(F54:fY):bx (KN F53 F54) AX [(.t 4)] Qh=u2 (Qi F53 F54 (l29_0 (KN F53 F54))):=funext fun _=>by kernel_rfl
noncomputable def Xk:=Qi xZ x8 wz
noncomputable def P29:jW:=u2 Xk
theorem Xl:bx (KN xZ x8) AX [(.t 4)] Qh=P29:=(Xj xZ x8).trans (by rw[NQ] <;> rfl)
theorem TJ:DC Try.prog 29 AX P29:=dD Xl Xi SB
noncomputable def T7 (F16:wB)(F9:DT)(F10:Ea)(F22:wC)(F25:wC)(F26:qQ)(F27:qP)(F14:lJ)(F28:qS)(F29:jW):List FEnt:=[⟨16,z8,F16⟩,⟨9,Mq,F9⟩,⟨10,Dl,F10⟩,⟨22,xU,F22⟩,⟨25,Dv,F25⟩,⟨26,AK,F26⟩,⟨27,AL,F27⟩,⟨14,DO,F14⟩,⟨28,AW,F28⟩,⟨29,AX,F29⟩]
theorem t7:ay Try.prog (T7 P16 P9 P10 P22 P25 P26 P27 P14 P28 P29):=dK (dK (dK (dK (dK (dK (dK (dK (dK (dK an TJ) TI) W4) TF) TE) V5) Rr) VG) d9) S5
noncomputable def c7:=dv Try.prog [] Try.f7 (.s .n (.s .n (.s .n (.s .n (.s .n (.s (.r [.f 1 19 [0],.f 1 19 [1]]) .n))))))
theorem Xm:L.Fn Try.prog 7 110 [(.t 2)] (erase c7):=oA Try.func7
def SC:FSh:=⟨⟨xS,[]⟩,[bM],0,⟨⟨ju,[]⟩,[.bool],[],0⟩,true⟩
noncomputable def q7 (F16:wB)(F9:DT)(F10:Ea)(F22 F25:wC)(F26:qQ)(F27:qP)(F14:lJ)(F28:qS)(F29:jW)(a0:aO×aT):Option Bool:=
(F16 a0).bind fun r1=>(
cond r1 (
(F9 ()).bind fun r2=>(
some r2)) (
(F10 a0).bind fun r3=>(
(F22 r3).bind fun r4=>(
(F25 a0).bind fun r5=>(
(F26 r3).bind fun r6=>(
(F27 r3).bind fun r7=>(
cond (!decide (r4.1=r5.1)) (
some false) (
cond (!decide (r4.2=r5.2)) (
some false) (
cond (!decide (r6.2=r5.2)) (
some false) (
cond (!decide (r7.1=r5.2)) (
some false) (
cond (decide (40 < (↑r6.1.length:Int))) (
some false) (
cond (decide (40 < (↑r7.2.length:Int))) (
some false) (
cond (!decide (r5.2=0)) (
cond (decide ((↑r6.1.length:Int)=0)) (
cond (decide ((↑r7.2.length:Int)=0)) (
(F9 ()).bind fun r8=>(
some r8)) (
some false)) (
some false)) (
(F14 (a0,r6.1)).bind fun r9=>(
cond (decide (r9.2.1=0)) (
cond (decide (r9.1=r5.1)) (
(F28 (a0,r7.2)).bind fun r10=>(
cond r10 (
(F29 (a0,r7.2)).bind fun r11=>(
cond (decide (r11=r5.1)) (
(F9 ()).bind fun r12=>(
some r12)) (
some false))) (
some false))) (
some false)) (
some false))))))))))))))))
theorem g7 (F16:wB)(F9:DT)(F10:Ea)(F22 F25:wC)(F26:qQ)(F27:qP)(F14:lJ)(F28:qS)(F29:jW)(a0:aO×aT):bx (T7 F16 F9 F10 F22 F25 F26 F27 F14 F28 F29) SC [(.t 2)] c7 a0=q7 F16 F9 F10 F22 F25 F26 F27 F14 F28 F29 a0:=by kernel_rfl
noncomputable def p7:=q7 P16 P9 P10 P22 P25 P26 P27 P14 P28 P29
noncomputable def P7:wB:=fun x=>p7 x
theorem v7:bx (T7 P16 P9 P10 P22 P25 P26 P27 P14 P28 P29) SC [(.t 2)] c7=P7:=funext fun x=>(g7 P16 P9 P10 P22 P25 P26 P27 P14 P28 P29 x)
theorem d7:DC Try.prog 7 SC P7:=dD v7 t7 Xm
noncomputable def SD (F16:wB)(F12:fD):List FEnt:=[⟨16,z8,F16⟩,⟨12,tZ,F12⟩]
theorem Xn:ay Try.prog (SD P16 P12):=dK (dK an PD) S5
noncomputable def SE:=dv Try.prog [] Try.f21 .n
theorem SF:L.Fn Try.prog 21 11 [(.t 2)] (erase SE):=oA Try.func21
def DS:FSh:=⟨⟨xS,[]⟩,[bM],0,⟨⟨ju,[]⟩,[.bool],[],0⟩,true⟩
noncomputable def SG (F16:wB)(F12:fD)(a0:aO×aT):Option Bool:=
(F16 a0).bind fun r1=>(
cond (!r1) (
(F12 a0).bind fun r2=>(
some (decide (r2=0)))) (
some false))
theorem g21 (F16:wB)(F12:fD)(a0:aO×aT):bx (SD F16 F12) DS [(.t 2)] SE a0=SG F16 F12 a0:=by kernel_rfl
noncomputable def TK:=SG P16 P12
noncomputable def wA:wB:=fun x=>TK x
theorem Xo:bx (SD P16 P12) DS [(.t 2)] SE=wA:=funext fun x=>(g21 P16 P12 x)
theorem Xp:DC Try.prog 21 DS wA:=dD Xo Xn SF
noncomputable def T8 (F21:wB)(F9:DT)(F22:wC)(F26:qQ)(F27:qP)(F30:qR)(F28:qS)(F13:lJ)(F29:jW):List FEnt:=[⟨21,DS,F21⟩,⟨9,Mq,F9⟩,⟨22,xU,F22⟩,⟨26,AK,F26⟩,⟨27,AL,F27⟩,⟨30,AO,F30⟩,⟨28,AW,F28⟩,⟨13,AA,F13⟩,⟨29,AX,F29⟩]
theorem t8:ay Try.prog (T8 wA P9 P22 P26 P27 nY P28 P13 P29):=dK (dK (dK (dK (dK (dK (dK (dK (dK an TJ) To) TI) TG) TF) TE) Rr) d9) Xp
def NR:LSh:=⟨[3,16,17,19,20],⟨[(.ptr 0 0),(.slc 1),(.v y11),(.v y11),(.v y11)],BU⟩,[y11,y11,y11,bM,aW],2,[0,1]⟩
def NT:List XSh:=[⟨(.exit 0),[17,19],⟨⟨Tv,BU⟩,[y11,y11,bM,aW],[0,1],2⟩⟩]
noncomputable def c8:=dv Try.prog [] Try.f8 (.s .n (.s .n (.s .n (.s .n (.s .n (.s .n (.s .n (.s .n (.s .n (.s .n (.s .n (.s .n (.s .n (.s (.s .n (.b (.l NR NT .n))) .n))))))))))))))
noncomputable def NU (T:List FEnt):=aK (xs:=NT) NR (b6 T (sb [1,1,1,1,1,1,1,1,1,1,1,1,1,0,1,2,2] c8))
noncomputable def l8_0 (T:List FEnt):=af (NU T)
noncomputable def x9 (F21:wB)(F9:DT)(F22:wC)(F26:qQ)(F27:qP)(F30:qR)(F28:qS)(F13:lJ)(F29:jW)(a0 a1 a2:Int)(a3:aO×aT)(a4:List Int):Option ((Int×Int×Int×dA×Y6)⊕JG):=
cond (decide (a2 < (↑a4.length:Int))) (
aA (aU a2 a4.length) (
aA (aU a2 a3.2.length) (
aA (aw .i64 (a1+(min (ix a4 a2) ((ix a3.2 a2).2.1)))) (
aA (aw .i64 (a2+1)) (
some (Sum.inl (a0,(a1+(min (ix a4 a2) ((ix a3.2 a2).2.1))),(a2+1),a3,a4))))))) (
some (Sum.inr (a0,a1,a3,a4)))
theorem SH (F21:wB)(F9:DT)(F22:wC)(F26:qQ)(F27:qP)(F30:qR)(F28:qS)(F13:lJ)(F29:jW):NU (T8 F21 F9 F22 F26 F27 F30 F28 F13 F29)=u5 (x9 F21 F9 F22 F26 F27 F30 F28 F13 F29):=funext fun _=>by kernel_rfl
noncomputable def NV:=x9 wA P9 P22 P26 P27 nY P28 P13 P29
noncomputable def AY:Pg:=af (u5 NV)
theorem SI:l8_0 (T8 wA P9 P22 P26 P27 nY P28 P13 P29)=AY:=congrArg af (SH wA P9 P22 P26 P27 nY P28 P13 P29)
theorem Xq:L.Fn Try.prog 8 155 [(.t 6)] (erase c8):=oA Try.func8
def SJ:FSh:=⟨⟨[(.st bM),(.v aH),(.v aW)],[]⟩,[bM,aH,aW],0,⟨⟨ju,[]⟩,[.bool],[],0⟩,true⟩
noncomputable def q8 (F21:wB)(F9:DT)(F22:wC)(F26:qQ)(F27:qP)(F30:qR)(F28:qS)(F13:lJ)(F29:jW)(l8_0:Pg)(a0:aO×aT)(a1:List Y6)(a2:List Int):Option Bool:=
(F21 a0).bind fun r1=>(
cond (!r1) (
(F9 ()).bind fun r2=>(
some r2)) (
(F22 a0).bind fun r3=>(
(F26 a0).bind fun r4=>(
(F27 a0).bind fun r5=>(
cond (!decide (r3.2=0)) (
some false) (
cond (!decide (r4.2=0)) (
some false) (
cond (!decide (r5.1=0)) (
some false) (
(F30 (a0,r4.1)).bind fun r6=>(
cond (!r6) (
some false) (
(F28 (a0,r5.2)).bind fun r7=>(
cond (!r7) (
some false) (
(F13 (a0,r4.1)).bind fun r8=>(
cond (!decide (r8.2.1=0)) (
some false) (
cond (!decide (r8.1=r3.1)) (
some false) (
(F29 (a0,r5.2)).bind fun r9=>(
cond (!decide (r9=r3.1)) (
some false) (
cond (decide ((↑a2.length:Int)≤40)) (
(F28 (a0,a2)).bind fun r10=>(
cond r10 (
(F29 (a0,a2)).bind fun r11=>(
cond (decide (r11 < r3.1)) (
some false) (
cond (decide (40 < (↑a1.length:Int))) (
(F9 ()).bind fun r12=>(
some r12)) (
(F30 (a0,a1)).bind fun r13=>(
cond (!r13) (
(F9 ()).bind fun r14=>(
some r14)) (
(F13 (a0,a1)).bind fun r15=>(
cond (!decide (r15.2.1=0)) (
some false) (
cond (decide (r3.1 < r15.1)) (
some false) (
cond (!decide ((↑r15.2.2.length:Int)=(↑a0.2.length:Int))) (
some false) (
(l8_0 (r15.1,0,0,a0,r15.2.2)).bind fun y16=>(
cond (decide (y16.2.1=y16.1)) (
(F9 ()).bind fun r17=>(
some r17)) (
some false)))))))))))) (
cond (decide (40 < (↑a1.length:Int))) (
(F9 ()).bind fun r18=>(
some r18)) (
(F30 (a0,a1)).bind fun r19=>(
cond (!r19) (
(F9 ()).bind fun r20=>(
some r20)) (
(F13 (a0,a1)).bind fun r21=>(
cond (!decide (r21.2.1=0)) (
some false) (
cond (decide (r3.1 < r21.1)) (
some false) (
cond (!decide ((↑r21.2.2.length:Int)=(↑a0.2.length:Int))) (
some false) (
(l8_0 (r21.1,0,0,a0,r21.2.2)).bind fun y22=>(
cond (decide (y22.2.1=y22.1)) (
(F9 ()).bind fun r23=>(
some r23)) (
some false)))))))))))) (
cond (decide (40 < (↑a1.length:Int))) (
(F9 ()).bind fun r24=>(
some r24)) (
(F30 (a0,a1)).bind fun r25=>(
cond (!r25) (
(F9 ()).bind fun r26=>(
some r26)) (
(F13 (a0,a1)).bind fun r27=>(
cond (!decide (r27.2.1=0)) (
some false) (
cond (decide (r3.1 < r27.1)) (
some false) (
cond (!decide ((↑r27.2.2.length:Int)=(↑a0.2.length:Int))) (
some false) (
(l8_0 (r27.1,0,0,a0,r27.2.2)).bind fun y28=>(
cond (decide (y28.2.1=y28.1)) (
(F9 ()).bind fun r29=>(
some r29)) (
some false)))))))))))))))))))))))))))
theorem g8 (F21:wB)(F9:DT)(F22:wC)(F26:qQ)(F27:qP)(F30:qR)(F28:qS)(F13:lJ)(F29:jW):bx (T8 F21 F9 F22 F26 F27 F30 F28 F13 F29) SJ [(.t 6)] c8=u3 (q8 F21 F9 F22 F26 F27 F30 F28 F13 F29 (l8_0 (T8 F21 F9 F22 F26 F27 F30 F28 F13 F29))):=funext fun _=>by kernel_rfl
noncomputable def p8:=q8 wA P9 P22 P26 P27 nY P28 P13 P29 AY
noncomputable def P8:dA×aB×Y6→Option Bool:=u3 p8
theorem v8:bx (T8 wA P9 P22 P26 P27 nY P28 P13 P29) SJ [(.t 6)] c8=P8:=(g8 wA P9 P22 P26 P27 nY P28 P13 P29).trans (by rw[SI] <;> rfl)
theorem d8:DC Try.prog 8 SJ P8:=dD v8 t8 Xq
end Go.Proofs.Ytjoncejabdjekaa.D
