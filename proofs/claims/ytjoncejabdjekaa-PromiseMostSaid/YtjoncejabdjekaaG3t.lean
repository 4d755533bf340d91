import Derived.Test.YtjoncejabdjekaaG2t
import Derived.Test.YtjoncejabdjekaaProg
set_option linter.unusedVariables false
set_option maxRecDepth 100000
namespace Go.Proofs.Ytjoncejabdjekaa.D
open Go Go.Proofs Go.Proofs.Ytjoncejabdjekaa.L
def z1:List Ty:=[y11,cn,y11,y11,.bool,cn,cT,dW,aH,dW,aW]
def z4:List Ty:=[y11,y11,y11,y11,.bool,.bool,y11,aH]
def Tu:List RSh:=[(.ptr 0 0),(.slh 1),(.v y11),(.mp 2)]
def j2:List RSh:=[(.ptr 0 0),(.slh 1),(.v y11),(.mp 2),(.v cn),(.v y11),(.v y11),(.v .bool)]
def Tv:List RSh:=[(.v y11),(.v y11)]
def R7:List RSh:=[(.irow 0),(.v y11),(.v y11),(.v y11)]
def j3:List RSh:=[(.irow 0),(.v y11),(.v y11),(.v y11),(.v .bool),(.v .bool),(.v y11)]
def k1:List (Nat×OSh):=[(0,(.box [(.v cn),(.v cT),(.mp 3),(.slc 4)])),(1,(.hdl 5)),(2,(.imap 0 false y11)),(3,(.imap 2 false y11)),(4,(.row 3 y11)),(5,(.rows 28 3 y11))]
def k2:List (Nat×OSh):=[(0,(.box [(.v cn),(.v cT),(.mp 4),(.slc 5)])),(1,(.hdl 3)),(2,(.imap 0 false y11)),(3,(.rows 28 3 y11)),(4,(.imap 2 false y11)),(5,(.row 3 y11))]
def oH:FSh:=⟨⟨Tu,k1⟩,[y11,cn,cT,dW,dW,aW,aH],6,⟨⟨ju,k1⟩,[.bool,cn,cT,dW,dW,aW,aH],[0,1,2,3,4,5],6⟩,false⟩
noncomputable def Dx (F57:hD)(F62:fY)(F50:b9):List FEnt:=[⟨57,sd,F57⟩,⟨62,AD,F62⟩,⟨50,oH,F50⟩]
theorem Wg (F50:b9)(h:DC Try.prog 50 oH F50):ay Try.prog (Dx cN ga F50):=(cj LD (by kernel_rfl) (cj Tt (by kernel_rfl) (cj h (by kernel_rfl) an)))
def v6:LSh:=⟨[0,1,2,3,9,17,18,19,41,68,69,70],⟨[(.ptr 0 0),(.slh 1),(.v y11),(.mp 2),(.v y11),(.v cn),(.v y11),(.v y11),(.v .bool),(.irow 3),(.v y11),(.v y11)],k2⟩,[y11,y11,cn,y11,y11,.bool,y11,y11,y11,cn,cT,dW,aH,dW,aW],6,[0,1,2,3,4,5]⟩
def GO:List XSh:=[⟨(.exit 2),[0,1,2,3,17,18,19,41],⟨⟨j2,k2⟩,z1,[0,1,2,3,4,5],6⟩⟩]
def wa:LSh:=⟨[0,1,2,3,17,18,19],⟨[(.ptr 0 0),(.slh 1),(.v y11),(.mp 2),(.v cn),(.v y11),(.v y11)],k1⟩,[y11,cn,y11,y11,cn,cT,dW,dW,aW,aH],6,[0,1,2,3,4,5]⟩
def GP:List XSh:=[⟨(.exit 0),[],⟨⟨[],k1⟩,[cn,cT,dW,dW,aW,aH],[0,1,2,3,4,5],6⟩⟩]
noncomputable def MX:=dv Try.prog [] Try.f50 (.s .n (.s (.s .n (.b (.l wa GP (.s .n (.s .n (.s (.b (.s .n (.s .n (.s .n (.s (.s .n (.s (.s (.r [.a 7 false y11,.a 8 false y11]) .n) .n)) (.s .n (.b (.l v6 GO .n)))))))) .n)))))) .n))
noncomputable def GQ (T:List FEnt):=aK (xs:=GO) v6 (b6 T (sb [1,0,1,2,2,1,1,0,2,1,1,1,1,1,2,2] MX))
noncomputable def l50_1 (T:List FEnt):=af (GQ T)
noncomputable def md (F57:hD)(F62:fY)(F50:b9)(a0 a1:Int)(a2:List Y1)(a3 a4:Int)(a5:Bool)(a6 a7 a8:Int)(a9:List Y1)(a10:List Y2)(a11:List Y5)(a12:List Y6)(a13:List Y5)(a14:List Int):Option (OM⊕JC):=
cond (decide (a8 < a7)) (
aA (aU a8 (List.length (ix a12 a6))) (
(F50 ((ix (ix a12 a6) a8),a9,a10,a11,a13,a14,a12)).bind fun r3=>(
cond r3.1 (
aA (aU a1 r3.2.2.2.2.2.2.length) (
aA (aU a8 (List.length (ix r3.2.2.2.2.2.2 a1))) (
none))) (
aA (aw .i64 (a8+1)) (
some (Sum.inl (a0,a1,a2,a3,a4,a5,(↑a6.toNat:Int),a7,(a8+1),r3.2.1,r3.2.2.1,r3.2.2.2.1,r3.2.2.2.2.2.2,r3.2.2.2.2.1,r3.2.2.2.2.2.1))))))) (
some (Sum.inr (a0,a2,a3,a4,a5,a9,a10,a11,a12,a13,a14)))
theorem MY (F57:hD)(F62:fY)(F50:b9):GQ (Dx F57 F62 F50)=Qp (md F57 F62 F50):=funext fun _=>by kernel_rfl
noncomputable def GR (F50:b9):=md cN ga F50
noncomputable def kN (F50:b9):OO:=af (Qp (GR F50))
theorem MZ (F50:b9):l50_1 (Dx cN ga F50)=kN F50:=congrArg af (MY cN ga F50)
noncomputable def GS (T:List FEnt):=aK (xs:=GP) wa (b6 T (sb [1,0,1,2,2] MX))
noncomputable def l50_0 (T:List FEnt):=af (GS T)
noncomputable def gX (F57:hD)(F62:fY)(F50:b9)(l50_1:OO)(a0:Int)(a1:List Y1)(a2 a3:Int)(a4:List Y1)(a5:List Y2)(a6 a7:List Y5)(a8:List Int)(a9:List Y6):Option (ON⊕JD):=
cond (decide (a3 < a2)) (
aA (aU a3 a1.length) (
(F57 (a0,a3,a4,a5,a7,a8)).bind fun r1=>(
cond (!r1.1) (
aA (aw .i64 (a3+1)) (
some (Sum.inl (a0,a1,a2,(a3+1),r1.2.1,r1.2.2.1,a6,r1.2.2.2.1,r1.2.2.2.2,a9)))) (
cond (decide (0 < (fl (be a6 [a3]) 0))) (
aA (aw .i64 (a3+1)) (
some (Sum.inl (a0,a1,a2,(a3+1),r1.2.1,r1.2.2.1,a6,r1.2.2.2.1,r1.2.2.2.2,a9)))) (
aA (aU a3 a9.length) (
(F62 ((ix a9 a3),a0)).bind fun r2=>(
cond r2 (
aA (aw .i64 (a3+1)) (
some (Sum.inl (a0,a1,a2,(a3+1),r1.2.1,r1.2.2.1,a6,r1.2.2.2.1,r1.2.2.2.2,a9)))) (
aA (aw .i64 ((fl (be a6 [a3]) 0)+1)) (
aA (aU a3 a9.length) (
cond (decide ((↑(List.length (ix a9 a3)):Int) < (ix a1 a3).2.2)) (
aA (aU a3 a9.length) (
aA (cf 8 (List.length (ix a9 a3)+List.length ([a0]:List Int))) (
aA (aU a3 (List.length (List.set a9 a3.toNat []))) (
aA (Ke a3.toNat a3.toNat) (
none))))) (
aA (aU a3 a9.length) (
(l50_1 (a0,a3,a1,a2,a3,r2,(↑a3.toNat:Int),(↑(List.length (ix a9 a3)):Int),0,r1.2.1,r1.2.2.1,(di a6 [a3] ((fl (be a6 [a3]) 0)+1)),a9,r1.2.2.2.1,r1.2.2.2.2)).bind fun y4=>(
aA (aw .i64 (y4.2.2.2.1+1)) (
some (Sum.inl (y4.1,y4.2.1,y4.2.2.1,(y4.2.2.2.1+1),y4.2.2.2.2.2.1,y4.2.2.2.2.2.2.1,y4.2.2.2.2.2.2.2.1,y4.2.2.2.2.2.2.2.2.2.1,y4.2.2.2.2.2.2.2.2.2.2,y4.2.2.2.2.2.2.2.2.1)))))))))))))))) (
some (Sum.inr (a4,a5,a6,a7,a8,a9)))
theorem M0 (F57:hD)(F62:fY)(F50:b9):GS (Dx F57 F62 F50)=BW (gX F57 F62 F50 (l50_1 (Dx F57 F62 F50))):=funext fun _=>by kernel_rfl
noncomputable def GT (F50:b9):=gX cN ga F50 (kN F50)
noncomputable def pJ (F50:b9):OP:=af (BW (GT F50))
theorem M3 (F50:b9):l50_0 (Dx cN ga F50)=pJ F50:=congrArg af ((M0 cN ga F50).trans (by rw[MZ F50] <;> rfl))
theorem M4:L.Fn Try.prog 50 89 [(.t 8)] (erase MX):=oA Try.func50
noncomputable def KD (F57:hD)(F62:fY)(F50:b9)(l50_0:OP)(a0:Int)(a1:List Y1)(a2:List Y2)(a3 a4:List Y5)(a5:List Int)(a6:List Y6):Option t6:=
(l50_0 (a0,a1,(↑a1.length:Int),0,a1,a2,a3,a4,a5,a6)).bind fun y5=>(
some (false,y5.1,y5.2.1,y5.2.2.1,y5.2.2.2.1,y5.2.2.2.2.1,y5.2.2.2.2.2))
theorem Wh (F57:hD)(F62:fY)(F50:b9):bx (Dx F57 F62 F50) oH [(.t 8)] MX=u7 (KD F57 F62 F50 (l50_0 (Dx F57 F62 F50))):=funext fun _=>by kernel_rfl
noncomputable def Tw (F50:b9):=KD cN ga F50 (pJ F50)
noncomputable def iY:Nat→Int×aO×aT×db×db×Y6×aB→Option t6
  | 0=>fun _=>none
  | n+1=>fun x=>Tw (iY n) x.1 x.2.1 x.2.2.1 x.2.2.2.1 x.2.2.2.2.1 x.2.2.2.2.2.1 x.2.2.2.2.2.2
noncomputable def P50:b9:=iY 18446744073709551616
theorem Wi (F50:b9):bx (Dx cN ga F50) oH [(.t 8)] MX=fun x=>Tw F50 x.1 x.2.1 x.2.2.1 x.2.2.2.1 x.2.2.2.2.1 x.2.2.2.2.2.1 x.2.2.2.2.2.2:=(Wh cN ga F50).trans (by rw[M3 F50] <;> rfl)
theorem Tx:∀ n,DC Try.prog 50 oH (iY n)
  | 0=>qJ (er (sh:=oH) an M4 (by kernel_rfl)).1
  | n+1=>u0 (Wi (iY n)) (er (sh:=oH) (Wg (iY n) (Tx n)) M4 (by kernel_rfl))
theorem Tz:DC Try.prog 50 oH P50:=Tx _
def gR:FSh:=⟨⟨Tu,k1⟩,[y11,cn,cT,dW,dW,aW,aH],6,⟨⟨ju,k1⟩,[.bool,cn,cT,dW,dW,aW,aH],[0,1,2,3,4],6⟩,false⟩
noncomputable def kO (F57:hD)(F62:fY)(F50:b9)(F50v1:b9):List FEnt:=[⟨57,sd,F57⟩,⟨62,AD,F62⟩,⟨50,oH,F50⟩,⟨50,gR,F50v1⟩]
theorem M5 (F50v1:b9)(h:DC Try.prog 50 gR F50v1):ay Try.prog (kO cN ga P50 F50v1):=(cj LD (by kernel_rfl) (cj Tt (by kernel_rfl) (cj Tz (by kernel_rfl) (cj h (by kernel_rfl) an))))
def wb:List XSh:=[⟨(.exit 2),[0,1,2,3,17,18,19,41],⟨⟨j2,k2⟩,z1,[0,1,2,3,4,5],6⟩⟩,⟨.ret,[8],⟨⟨ju,[(0,(.box [(.v cn),(.v cT),(.mp 4),(.slc 5)])),(1,(.hdl 6)),(2,(.imap 0 false y11)),(4,(.imap 2 false y11)),(5,(.row 3 y11)),(6,(.rows 28 3 y11))]⟩,[.bool,cn,cT,dW,dW,aW,aH],[0,1,2,4,5],7⟩⟩]
def wc:List XSh:=[⟨.ret,[8],⟨⟨ju,k1⟩,[.bool,cn,cT,dW,dW,aW,aH],[0,1,2,3,4],6⟩⟩,⟨(.exit 0),[],⟨⟨[],k1⟩,[cn,cT,dW,dW,aW,aH],[0,1,2,3,4,5],6⟩⟩]
noncomputable def si:=dv Try.prog [] Try.f50 (.s .n (.s (.s .n (.b (.l wa wc (.s .n (.s .n (.s (.b (.s .n (.s .n (.s .n (.s (.s .n (.s (.s (.r [.a 7 false y11,.a 8 false y11]) .n) .n)) (.s .n (.b (.l v6 wb .n)))))))) .n)))))) .n))
noncomputable def wd (T:List FEnt):=aK (xs:=wb) v6 (b6 T (sb [1,0,1,2,2,1,1,0,2,1,1,1,1,1,2,2] si))
noncomputable def l50v1_1 (T:List FEnt):=af (wd T)
noncomputable def fU (F57:hD)(F62:fY)(F50 F50v1:b9)(a0 a1:Int)(a2:List Y1)(a3 a4:Int)(a5:Bool)(a6 a7 a8:Int)(a9:List Y1)(a10:List Y2)(a11:List Y5)(a12:List Y6)(a13:List Y5)(a14:List Int):Option (OM⊕OS):=
cond (decide (a8 < a7)) (
aA (aU a8 (List.length (ix a12 a6))) (
Je (F50 ((ix (ix a12 a6) a8),a9,a10,a11,a13,a14,a12)) (fun r3=>(
cond r3.1 (
aA (aU a1 r3.2.2.2.2.2.2.length) (
aA (aU a8 (List.length (ix r3.2.2.2.2.2.2 a1))) (
some (Sum.inr (Sum.inr (true,r3.2.1,r3.2.2.1,r3.2.2.2.1,r3.2.2.2.2.1,r3.2.2.2.2.2.1,(List.set r3.2.2.2.2.2.2 a1.toNat (List.set (ix r3.2.2.2.2.2.2 a1) a8.toNat a0)))))))) (
aA (aw .i64 (a8+1)) (
some (Sum.inl (a0,a1,a2,a3,a4,a5,(↑a6.toNat:Int),a7,(a8+1),r3.2.1,r3.2.2.1,r3.2.2.2.1,r3.2.2.2.2.2.2,r3.2.2.2.2.1,r3.2.2.2.2.2.1)))))) (
(F50v1 ((ix (ix a12 a6) a8),a9,a10,a11,a13,a14,a12)).bind fun r4=>(
cond r4.1 (
aA (aU a1 r4.2.2.2.2.2.2.length) (
aA (aU a8 (List.length (ix r4.2.2.2.2.2.2 a1))) (
some (Sum.inr (Sum.inr (true,r4.2.1,r4.2.2.1,r4.2.2.2.1,r4.2.2.2.2.1,r4.2.2.2.2.2.1,(List.set r4.2.2.2.2.2.2 a1.toNat (List.set (ix r4.2.2.2.2.2.2 a1) a8.toNat a0)))))))) (
aA (aw .i64 (a8+1)) (
none)))))) (
some (Sum.inr (Sum.inl (a0,a2,a3,a4,a5,a9,a10,a11,a12,a13,a14))))
theorem Dy (F57:hD)(F62:fY)(F50 F50v1:b9):wd (kO F57 F62 F50 F50v1)=Qp (fU F57 F62 F50 F50v1):=funext fun _=>by kernel_rfl
noncomputable def we (F50v1:b9):=fU cN ga P50 F50v1
noncomputable def eX (F50v1:b9):OU:=af (Qp (we F50v1))
theorem Dz (F50v1:b9):l50v1_1 (kO cN ga P50 F50v1)=eX F50v1:=congrArg af (Dy cN ga P50 F50v1)
noncomputable def wg (T:List FEnt):=aK (xs:=wc) wa (b6 T (sb [1,0,1,2,2] si))
noncomputable def l50v1_0 (T:List FEnt):=af (wg T)
noncomputable def dq (F57:hD)(F62:fY)(F50 F50v1:b9)(l50v1_1:OU)(a0:Int)(a1:List Y1)(a2 a3:Int)(a4:List Y1)(a5:List Y2)(a6 a7:List Y5)(a8:List Int)(a9:List Y6):Option (ON⊕OT):=
cond (decide (a3 < a2)) (
aA (aU a3 a1.length) (
(F57 (a0,a3,a4,a5,a7,a8)).bind fun r1=>(
cond (!r1.1) (
aA (aw .i64 (a3+1)) (
some (Sum.inl (a0,a1,a2,(a3+1),r1.2.1,r1.2.2.1,a6,r1.2.2.2.1,r1.2.2.2.2,a9)))) (
cond (decide (0 < (fl (be a6 [a3]) 0))) (
aA (aw .i64 (a3+1)) (
some (Sum.inl (a0,a1,a2,(a3+1),r1.2.1,r1.2.2.1,a6,r1.2.2.2.1,r1.2.2.2.2,a9)))) (
aA (aU a3 a9.length) (
(F62 ((ix a9 a3),a0)).bind fun r2=>(
cond r2 (
aA (aw .i64 (a3+1)) (
some (Sum.inl (a0,a1,a2,(a3+1),r1.2.1,r1.2.2.1,a6,r1.2.2.2.1,r1.2.2.2.2,a9)))) (
aA (aw .i64 ((fl (be a6 [a3]) 0)+1)) (
aA (aU a3 a9.length) (
cond (decide ((↑(List.length (ix a9 a3)):Int) < (ix a1 a3).2.2)) (
aA (aU a3 a9.length) (
aA (cf 8 (List.length (ix a9 a3)+List.length ([a0]:List Int))) (
aA (aU a3 (List.length (List.set a9 a3.toNat []))) (
aA (Ke a3.toNat a3.toNat) (
some (Sum.inr (Sum.inl (true,r1.2.1,r1.2.2.1,(di a6 [a3] ((fl (be a6 [a3]) 0)+1)),r1.2.2.2.1,r1.2.2.2.2,(List.set (List.set a9 a3.toNat []) a3.toNat ((ix a9 a3)++([a0]:List Int))))))))))) (
aA (aU a3 a9.length) (
(l50v1_1 (a0,a3,a1,a2,a3,r2,(↑a3.toNat:Int),(↑(List.length (ix a9 a3)):Int),0,r1.2.1,r1.2.2.1,(di a6 [a3] ((fl (be a6 [a3]) 0)+1)),a9,r1.2.2.2.1,r1.2.2.2.2)).bind (fun y5=>Sum.elim (fun y6=>(
aA (aw .i64 (y6.2.2.2.1+1)) (
some (Sum.inl (y6.1,y6.2.1,y6.2.2.1,(y6.2.2.2.1+1),y6.2.2.2.2.2.1,y6.2.2.2.2.2.2.1,y6.2.2.2.2.2.2.2.1,y6.2.2.2.2.2.2.2.2.2.1,y6.2.2.2.2.2.2.2.2.2.2,y6.2.2.2.2.2.2.2.2.1))))) (fun y7=>(
some (Sum.inr (Sum.inl (y7.1,y7.2.1,y7.2.2.1,y7.2.2.2.1,y7.2.2.2.2.1,y7.2.2.2.2.2.1,y7.2.2.2.2.2.2))))) y5))))))))))))) (
some (Sum.inr (Sum.inr (a4,a5,a6,a7,a8,a9))))
theorem DA (F57:hD)(F62:fY)(F50 F50v1:b9):wg (kO F57 F62 F50 F50v1)=BW (dq F57 F62 F50 F50v1 (l50v1_1 (kO F57 F62 F50 F50v1))):=funext fun _=>by kernel_rfl
noncomputable def wh (F50v1:b9):=dq cN ga P50 F50v1 (eX F50v1)
noncomputable def mR (F50v1:b9):OV:=af (BW (wh F50v1))
theorem DB (F50v1:b9):l50v1_0 (kO cN ga P50 F50v1)=mR F50v1:=congrArg af ((DA cN ga P50 F50v1).trans (by rw[Dz F50v1] <;> rfl))
theorem AE:L.Fn Try.prog 50 89 [(.t 8)] (erase si):=oA Try.func50
noncomputable def wj (F57:hD)(F62:fY)(F50 F50v1:b9)(l50v1_0:OV)(a0:Int)(a1:List Y1)(a2:List Y2)(a3 a4:List Y5)(a5:List Int)(a6:List Y6):Option t6:=
(l50v1_0 (a0,a1,(↑a1.length:Int),0,a1,a2,a3,a4,a5,a6)).bind (fun y8=>Sum.elim (fun y9=>(
some (y9.1,y9.2.1,y9.2.2.1,y9.2.2.2.1,y9.2.2.2.2.1,y9.2.2.2.2.2.1,y9.2.2.2.2.2.2))) (fun y10=>(
some (false,y10.1,y10.2.1,y10.2.2.1,y10.2.2.2.1,y10.2.2.2.2.1,y10.2.2.2.2.2))) y8)
theorem M6 (F57:hD)(F62:fY)(F50 F50v1:b9):bx (kO F57 F62 F50 F50v1) gR [(.t 8)] si=u7 (wj F57 F62 F50 F50v1 (l50v1_0 (kO F57 F62 F50 F50v1))):=funext fun _=>by kernel_rfl
noncomputable def GU (F50v1:b9):=wj cN ga P50 F50v1 (mR F50v1)
noncomputable def cq:Nat→Int×aO×aT×db×db×Y6×aB→Option t6
  | 0=>fun _=>none
  | n+1=>fun x=>GU (cq n) x.1 x.2.1 x.2.2.1 x.2.2.2.1 x.2.2.2.2.1 x.2.2.2.2.2.1 x.2.2.2.2.2.2
noncomputable def P50v1:b9:=cq 18446744073709551616
theorem M7 (F50v1:b9):bx (kO cN ga P50 F50v1) gR [(.t 8)] si=fun x=>GU F50v1 x.1 x.2.1 x.2.2.1 x.2.2.2.1 x.2.2.2.2.1 x.2.2.2.2.2.1 x.2.2.2.2.2.2:=(M6 cN ga P50 F50v1).trans (by rw[DB F50v1] <;> rfl)
theorem GV:∀ n,DC Try.prog 50 gR (cq n)
  | 0=>qJ (er (sh:=gR) an AE (by kernel_rfl)).1
  | n+1=>u0 (M7 (cq n)) (er (sh:=gR) (M5 (cq n) (GV n)) AE (by kernel_rfl))
theorem M8:DC Try.prog 50 gR P50v1:=GV _
noncomputable def KE:List FEnt:=[]
theorem Wj:ay Try.prog KE:=an
def GW:LSh:=⟨[0,2],⟨Lm,[]⟩,[y12,y11],0,[]⟩
def GX:List XSh:=[⟨.normal,[0,2],⟨⟨Lm,[]⟩,[y12,y11],[],0⟩⟩]
noncomputable def P3:=dv Try.prog [] Try.f76 (.s .n (.s (.o GW GX .n) .n))
noncomputable def l76_0 (T:List FEnt):=pb (xs:=GX) GW (b6 T (sb [1,0,2] P3))
noncomputable def GY (a0 a1:Int):Option Y4:=
cond (decide (4294967296≤a0)) (
some ((eU .u64 a0 32),32)) (
some (a0,a1))
theorem M9:l76_0 KE=u2 GY:=funext fun _=>by kernel_rfl
noncomputable def Na:=GY
noncomputable def GZ:OJ:=fun x=>Na x.1 x.2
theorem v76_0:l76_0 KE=GZ:=M9
theorem R8:L.Fn Try.prog 76 25 [(.t 2)] (erase P3):=oA Try.func76
def DD:FSh:=⟨⟨[(.v y12)],[]⟩,[y12],0,⟨⟨oF,[]⟩,[y11],[],0⟩,true⟩
noncomputable def TA (l76_0:OJ)(a0:Int):Option Int:=
(l76_0 (a0,0)).bind fun y1=>(
cond (decide (65536≤y1.1)) (
aA (aw .i64 (y1.2+16)) (
cond (decide (256≤(eU .u64 y1.1 16))) (
aA (aw .i64 ((y1.2+16)+8)) (
aA (aw .u8 (eU .u64 (eU .u64 y1.1 16) 8)) (
aA (aU (eU .u64 (eU .u64 y1.1 16) 8) (ByteArray.size tb)) (
aA (aw .i64 (yq tb (eU .u64 (eU .u64 y1.1 16) 8))) (
aA (aw .i64 (((y1.2+16)+8)+(yq tb (eU .u64 (eU .u64 y1.1 16) 8)))) (
some (((y1.2+16)+8)+(yq tb (eU .u64 (eU .u64 y1.1 16) 8))))))))) (
aA (aw .u8 (eU .u64 y1.1 16)) (
aA (aU (eU .u64 y1.1 16) (ByteArray.size tb)) (
aA (aw .i64 (yq tb (eU .u64 y1.1 16))) (
aA (aw .i64 ((y1.2+16)+(yq tb (eU .u64 y1.1 16)))) (
some ((y1.2+16)+(yq tb (eU .u64 y1.1 16)))))))))) (
cond (decide (256≤y1.1)) (
aA (aw .i64 (y1.2+8)) (
aA (aw .u8 (eU .u64 y1.1 8)) (
aA (aU (eU .u64 y1.1 8) (ByteArray.size tb)) (
aA (aw .i64 (yq tb (eU .u64 y1.1 8))) (
aA (aw .i64 ((y1.2+8)+(yq tb (eU .u64 y1.1 8)))) (
some ((y1.2+8)+(yq tb (eU .u64 y1.1 8))))))))) (
aA (aw .u8 y1.1) (
aA (aU y1.1 (ByteArray.size tb)) (
aA (aw .i64 (yq tb y1.1)) (
aA (aw .i64 (y1.2+(yq tb y1.1))) (
some (y1.2+(yq tb y1.1)))))))))
theorem g76 (a0:Int):bx KE DD [(.t 2)] P3 a0=TA (l76_0 KE) a0:=by kernel_rfl
noncomputable def Wl:=TA GZ
noncomputable def P76:sw:=fun x=>Wl x
theorem Wm:bx KE DD [(.t 2)] P3=P76:=funext fun x=>(g76 x).trans (by rw[v76_0] <;> rfl)
theorem Wn:DC Try.prog 76 DD P76:=dD Wm Wj R8
noncomputable def R9 (F76:sw):List FEnt:=[⟨76,DD,F76⟩]
theorem Wo:ay Try.prog (R9 P76):=dK an Wn
noncomputable def Sa:=dv Try.prog [] Try.f64 .n
theorem Sb:L.Fn Try.prog 64 8 [(.t 2)] (erase Sa):=oA Try.func64
def DE:FSh:=⟨⟨[(.v y12)],[]⟩,[y12],0,⟨⟨oF,[]⟩,[y11],[],0⟩,true⟩
noncomputable def TB (F76:sw)(a0:Int):Option Int:=
(F76 a0).bind fun r1=>(
some r1)
theorem g64 (F76:sw)(a0:Int):bx (R9 F76) DE [(.t 2)] Sa a0=TB F76 a0:=by kernel_rfl
noncomputable def Wp:=TB P76
noncomputable def G0:sw:=fun x=>Wp x
theorem Wq:bx (R9 P76) DE [(.t 2)] Sa=G0:=funext fun x=>(g64 P76 x)
theorem Wr:DC Try.prog 64 DE G0:=dD Wq Wo Sb
noncomputable def Sc:List FEnt:=[]
theorem Ws:ay Try.prog Sc:=an
noncomputable def Se:=dv Try.prog [] Try.f82 .n
theorem Sf:L.Fn Try.prog 82 6 [(.t 2)] (erase Se):=oA Try.func82
def DF:FSh:=⟨⟨oF,[]⟩,[y11],0,⟨⟨ju,[]⟩,[.bool],[],0⟩,true⟩
noncomputable def TC (a0:Int):Option Bool:=
some (!decide (a0=a0))
theorem g82 (a0:Int):bx Sc DF [(.t 2)] Se a0=TC a0:=by kernel_rfl
noncomputable def Wt:=TC
noncomputable def G1:Eg:=fun x=>Wt x
theorem Wu:bx Sc DF [(.t 2)] Se=G1:=funext fun x=>(g82 x)
theorem Wv:DC Try.prog 82 DF G1:=dD Wu Ws Sf
noncomputable def Sg (F82:Eg):List FEnt:=[⟨82,DF,F82⟩]
theorem Ww:ay Try.prog (Sg G1):=dK an Wv
noncomputable def Sh:=dv Try.prog [] Try.f72 .n
theorem Si:L.Fn Try.prog 72 17 [(.t 4)] (erase Sh):=oA Try.func72
def DG:FSh:=⟨⟨Tv,[]⟩,[y11,y11],0,⟨⟨ju,[]⟩,[.bool],[],0⟩,true⟩
noncomputable def P4 (F82:Eg)(a0 a1:Int):Option Bool:=
(F82 a0).bind fun r1=>(
cond r1 (
(F82 a1).bind fun r2=>(
cond (!r2) (
some true) (
some (decide (a0 < a1))))) (
some (decide (a0 < a1))))
theorem Wx (F82:Eg):bx (Sg F82) DG [(.t 4)] Sh=u2 (P4 F82):=funext fun _=>by kernel_rfl
noncomputable def Wy:=P4 G1
noncomputable def xY:nZ:=u2 Wy
theorem Wz:bx (Sg G1) DG [(.t 4)] Sh=xY:=Wx G1
theorem WA:DC Try.prog 72 DG xY:=dD Wz Ww Si
noncomputable def DH (F72:nZ):List FEnt:=[⟨72,DG,F72⟩]
theorem WB:ay Try.prog (DH xY):=dK an WA
def G2:LSh:=⟨[0,1,2,6,7],⟨[(.irow 0),(.v y11),(.v y11),(.v y11),(.v y11)],s4⟩,[y11,y11,y11,y11,y11,aH],1,[0]⟩
def G3:List XSh:=[⟨(.exit 2),[0,1,2,6],⟨⟨R7,s4⟩,z5,[0],1⟩⟩]
def G4:LSh:=⟨[0,1,2,6],⟨R7,s4⟩,z5,1,[0]⟩
def G5:List XSh:=[⟨(.exit 0),[],⟨⟨[],s4⟩,[aH],[0],1⟩⟩]
noncomputable def Nb:=dv Try.prog [] Try.f66 (.s .n (.b (.l G4 G5 (.s .n (.s (.b (.s .n (.b (.l G2 G3 .n)))) .n)))))
noncomputable def G6 (T:List FEnt):=aK (xs:=G3) G2 (b6 T (sb [1,2,2,1,0,2,1,2,2] Nb))
noncomputable def l66_1 (T:List FEnt):=af (G6 T)
noncomputable def AF (F72:nZ)(a0 a1 a2 a3 a4:Int)(a5:List Y6):Option ((Int×Int×Int×Int×Int×aB)⊕Ee):=
cond (decide (a1 < a4)) (
aA (aU a4 (List.length (ix a5 a0))) (
aA (aw .i64 (a4-1)) (
aA (aU (a4-1) (List.length (ix a5 a0))) (
(F72 ((ix (ix a5 a0) a4),(ix (ix a5 a0) (a4-1)))).bind fun r1=>(
cond r1 (
aA (aw .i64 (a4-1)) (
aA (aw .i64 (a4-1)) (
aA (aU (a4-1) (List.length (ix a5 a0))) (
aA (aU a4 (List.length (ix a5 a0))) (
aA (aU a4 (List.length (ix a5 a0))) (
aA (aU (a4-1) (List.length (ix (List.set a5 a0.toNat (List.set (ix a5 a0) a4.toNat (ix (ix a5 a0) (a4-1)))) a0))) (
aA (aw .i64 (a4-1)) (
some (Sum.inl ((↑a0.toNat:Int),a1,a2,a3,(a4-1),(List.set (List.set a5 a0.toNat (List.set (ix a5 a0) a4.toNat (ix (ix a5 a0) (a4-1)))) a0.toNat (List.set (ix (List.set a5 a0.toNat (List.set (ix a5 a0) a4.toNat (ix (ix a5 a0) (a4-1)))) a0) (Int.toNat (a4-1)) (ix (ix a5 a0) a4))))))))))))) (
some (Sum.inr ((↑a0.toNat:Int),a1,a2,a3,a5)))))))) (
some (Sum.inr ((↑a0.toNat:Int),a1,a2,a3,a5)))
theorem Nc (F72:nZ):G6 (DH F72)=u6 (AF F72):=funext fun _=>by kernel_rfl
noncomputable def G7:=AF xY
noncomputable def AG:OQ:=af (u6 G7)
theorem Nd:l66_1 (DH xY)=AG:=congrArg af (Nc xY)
noncomputable def G8 (T:List FEnt):=aK (xs:=G5) G4 (b6 T (sb [1,2,2] Nb))
noncomputable def l66_0 (T:List FEnt):=af (G8 T)
noncomputable def AH (F72:nZ)(l66_1:OQ)(a0 a1 a2 a3:Int)(a4:List Y6):Option (Ee⊕aB):=
cond (decide (a3 < a2)) (
(l66_1 ((↑a0.toNat:Int),a1,a2,a3,a3,a4)).bind fun y2=>(
aA (aw .i64 (y2.2.2.2.1+1)) (
some (Sum.inl ((↑y2.1.toNat:Int),y2.2.1,y2.2.2.1,(y2.2.2.2.1+1),y2.2.2.2.2))))) (
some (Sum.inr a4))
theorem Nf (F72:nZ):G8 (DH F72)=u5 (AH F72 (l66_1 (DH F72))):=funext fun _=>by kernel_rfl
noncomputable def G9:=AH xY AG
noncomputable def AI:yc:=af (u5 G9)
theorem Ng:l66_0 (DH xY)=AI:=congrArg af ((Nf xY).trans (by rw[Nd] <;> rfl))
theorem Sj:L.Fn Try.prog 66 49 [] (erase Nb):=oA Try.func66
def DI:FSh:=⟨⟨[(.irow 0),(.v y11),(.v y11)],s4⟩,[y11,y11,y11,aH],1,⟨⟨[(.tup [])],s4⟩,[aH],[0],1⟩,false⟩
noncomputable def Sk (F72:nZ)(l66_0:yc)(a0 a1 a2:Int)(a3:List Y6):Option aB:=
aA (aw .i64 (a1+1)) (
(l66_0 ((↑a0.toNat:Int),a1,a2,(a1+1),a3)).bind fun y3=>(
some y3))
theorem WC (F72:nZ):bx (DH F72) DI [] Nb=u4 (Sk F72 (l66_0 (DH F72))):=funext fun _=>by kernel_rfl
noncomputable def TD:=Sk xY AI
noncomputable def sj:sx:=u4 TD
theorem WD:bx (DH xY) DI [] Nb=sj:=(WC xY).trans (by rw[Ng] <;> rfl)
theorem WE:DC Try.prog 66 DI sj:=dD WD WB Sj
noncomputable def DJ (F66:sx):List FEnt:=[⟨66,DI,F66⟩]
theorem WF:ay Try.prog (DJ sj):=dK an WE
def Ha:LSh:=⟨[0,1,2,3,8,9,10],⟨j3,s4⟩,z4,1,[0]⟩
def Hb:List XSh:=[⟨.normal,[0,1,2,3,8,9,10],⟨⟨j3,s4⟩,z4,[0],1⟩⟩]
def Hc:LSh:=⟨[0,1,2,3,8,9],⟨[(.irow 0),(.v y11),(.v y11),(.v y11),(.v .bool),(.v .bool)],s4⟩,[y11,y11,y11,y11,.bool,.bool,aH],1,[0]⟩
def Hd:List XSh:=[⟨.ret,[],⟨⟨[],s4⟩,[aH],[0],1⟩⟩]
noncomputable def Nh:=dv Try.prog [] Try.f63 (.s .n (.s .n (.b (.l Hc Hd (.b (.s .n (.s .n (.s .n (.s (.o Ha Hb .n) .n)))))))))
noncomputable def l63_1 (T:List FEnt):=pb (xs:=Hb) Ha (b6 T (sb [1,1,2,2,2,1,1,1,0,2] Nh))
noncomputable def He (F66:sx)(a0 a1 a2 a3:Int)(a4 a5:Bool)(a6:Int)(a7:List Y6):Option OL:=
cond (!a4) (
none) (
some ((↑a0.toNat:Int),a1,a2,a3,a4,a5,a6,a7))
theorem Ni (F66:sx):l63_1 (DJ F66)=u8 (He F66):=funext fun _=>by kernel_rfl
noncomputable def Nj:=He sj
noncomputable def AJ:OR:=fun x=>Nj x.1 x.2.1 x.2.2.1 x.2.2.2.1 x.2.2.2.2.1 x.2.2.2.2.2.1 x.2.2.2.2.2.2.1 x.2.2.2.2.2.2.2
theorem Nk:l63_1 (DJ sj)=AJ:=Ni sj
noncomputable def Hf (T:List FEnt):=aK (xs:=Hd) Hc (b6 T (sb [1,1,2,2] Nh))
noncomputable def l63_0 (T:List FEnt):=af (Hf T)
noncomputable def wm (F66:sx)(l63_1:OR)(a0 a1 a2 a3:Int)(a4 a5:Bool)(a6:List Y6):Option ((Int×Int×Int×Int×Bool×Bool×aB)⊕aB):=
aA (aw .i64 (a2-a1)) (
cond (decide ((a2-a1)≤12)) (
(F66 ((↑a0.toNat:Int),a1,a2,a6)).bind fun r1=>(
some (Sum.inr r1))) (
cond (decide (a3=0)) (
none) (
(l63_1 ((↑a0.toNat:Int),a1,a2,a3,a4,a5,(a2-a1),a6)).bind fun y2=>(
none))))
theorem Nl (F66:sx):Hf (DJ F66)=u7 (wm F66 (l63_1 (DJ F66))):=funext fun _=>by kernel_rfl
noncomputable def Nn:=wm sj AJ
noncomputable def wn:OK:=af (u7 Nn)
theorem No:l63_0 (DJ sj)=wn:=congrArg af ((Nl sj).trans (by rw[Nk] <;> rfl))
theorem Sl:L.Fn Try.prog 63 134 [] (erase Nh):=oA Try.func63
def DK:FSh:=⟨⟨R7,s4⟩,z5,1,⟨⟨[(.tup [])],s4⟩,[aH],[0],1⟩,false⟩
noncomputable def P5 (F66:sx)(l63_0:OK)(a0 a1 a2 a3:Int)(a4:List Y6):Option aB:=
(l63_0 ((↑a0.toNat:Int),a1,a2,a3,true,true,a4)).bind fun y3=>(
some y3)
theorem WG (F66:sx):bx (DJ F66) DK [] Nh=u5 (P5 F66 (l63_0 (DJ F66))):=funext fun _=>by kernel_rfl
noncomputable def WH:=P5 sj wn
noncomputable def Hg:yc:=u5 WH
theorem WI:bx (DJ sj) DK [] Nh=Hg:=(WG sj).trans (by rw[No] <;> rfl)
theorem WJ:DC Try.prog 63 DK Hg:=dD WI WF Sl
noncomputable def Sm (F64:sw)(F63:yc):List FEnt:=[⟨64,DE,F64⟩,⟨63,DK,F63⟩]
theorem WK:ay Try.prog (Sm G0 Hg):=dK (dK an WJ) Wr
noncomputable def Sn:=dv Try.prog [] Try.f51 .n
theorem So:L.Fn Try.prog 51 11 [] (erase Sn):=oA Try.func51
def DL:FSh:=⟨⟨[(.irow 0)],s4⟩,[y11,aH],1,⟨⟨[(.tup [])],s4⟩,[aH],[0],1⟩,false⟩
noncomputable def P6 (F64:sw)(F63:yc)(a0:Int)(a1:List Y6):Option aB:=
aA (aw .u64 (↑(List.length (ix a1 a0)):Int)) (
(F64 (↑(List.length (ix a1 a0)):Int)).bind fun r1=>(
(F63 ((↑a0.toNat:Int),0,(↑(List.length (ix a1 a0)):Int),r1,a1)).bind fun r2=>(
some r2)))
theorem WL (F64:sw)(F63:yc):bx (Sm F64 F63) DL [] Sn=u2 (P6 F64 F63):=funext fun _=>by kernel_rfl
noncomputable def WM:=P6 G0 Hg
noncomputable def P51:oJ:=u2 WM
theorem WN:bx (Sm G0 Hg) DL [] Sn=P51:=WL G0 Hg
theorem WO:DC Try.prog 51 DL P51:=dD WN WK So
end Go.Proofs.Ytjoncejabdjekaa.D
