import Derived.Test.YtdkaijofmigmbaaG7m
import Derived.Test.YtdkaijofmigmbaaProg
set_option linter.unusedVariables false
set_option maxRecDepth 100000
namespace Go.Proofs.Ytdkaijofmigmbaa.D
open Go Go.Proofs Go.Proofs.Ytdkaijofmigmbaa.L
def z13:List Ty:=[bd,y7,y7,aY,iX]
def z8:List Ty:=[bd,.bool,y7,y7,aY,iX,eX,cI]
def z3:List Ty:=[bd,y7,y7,y7,y7,y7,y7,y7,aY,iX,cI]
def j13:List RSh:=[(.v bd),(.ptr 0 0),(.ptr 1 0),(.v y7),(.v y7)]
def j25:List RSh:=[(.v bd),(.ptr 0 0),(.ptr 1 0),(.v y7)]
def j6:List RSh:=[(.v bd),(.ptr 0 0),(.ptr 1 0),(.ptr 2 0),(.slr 3),(.v .bool),(.v y7),(.v y7)]
def j2:List RSh:=[(.v bd),(.ptr 0 0),(.ptr 1 0),(.v y7),(.slr 2),(.v y7),(.v y7),(.v y7),(.v y7),(.v y7),(.v y7)]
def Gt:List (Nat×OSh):=[(0,(.boxT aY)),(1,(.boxT iX))]
def k18:List (Nat×OSh):=[(0,(.boxT iX)),(1,(.boxT eX)),(2,(.boxT eX)),(3,(.row 3 y7))]
def k22:List (Nat×OSh):=[(0,(.rows 22 3 y7)),(1,(.boxT aY))]
def Ub:List (Nat×OSh):=[(0,(.boxT aY)),(1,(.boxT iX)),(2,(.boxT eX)),(3,(.rows 22 3 y7))]
def k16:List (Nat×OSh):=[(0,(.boxT aY)),(1,(.boxT y18)),(2,(.row 40 da)),(3,(.row 40 da))]
def RR:List (Nat×OSh):=[(0,(.boxT aY)),(1,(.boxT iX)),(2,(.rows 22 3 y7))]
noncomputable def T4 (F12:dD)(F14:cX)(F13:l6)(F15:dq)(F16:gx):List FEnt:=[⟨12,tx,F12⟩,⟨14,pL,F14⟩,⟨13,BW,F13⟩,⟨15,qr,F15⟩,⟨16,xQ,F16⟩]
theorem t4:aq Try.prog (T4 iN ge nw P15 P16):=(af d12 (by kernel_rfl) (af WS (by kernel_rfl) (af d13 (by kernel_rfl) (af VK (by kernel_rfl) (af d16 (by kernel_rfl) al)))))
def JG:LSh:=⟨[1,3,5,7,8],⟨j13,Gt⟩,z13,2,[0,1]⟩
def JH:List XSh:=[⟨.ret,[6],⟨⟨ft,Gt⟩,[.bool,aY,iX],[0,1],2⟩⟩,⟨(.exit 0),[1,3,5,7],⟨⟨j25,Gt⟩,[bd,y7,aY,iX],[0,1],2⟩⟩]
def XB:LSh:=⟨[5,10,12,14,16,17],⟨[(.ptr 0 0),(.ptr 1 0),(.ptr 2 0),(.slc 3),(.v .bool),(.v y7)],k18⟩,[.bool,y7,iX,eX,eX,y19],4,[0,1,2,3]⟩
def XC:List XSh:=[⟨.ret,[6],⟨⟨ft,k18⟩,[.bool,iX,eX,eX,y19],[0,1,2,3],4⟩⟩,⟨(.exit 2),[10,12,16],⟨⟨[(.ptr 1 0),(.ptr 2 0),(.v .bool)],k18⟩,[.bool,iX,eX,eX,y19],[0,1,2,3],4⟩⟩]
noncomputable def c4:=bU Try.prog [(12,{ch:=[1,0,0,0,0,0,1,0,1,0,1,0,0],rs:=[5],ord:=[0,1,3,4,5,6,7,8,9,10,2,11,12] })] Try.f4 (.s .n (.s .n (.s .n (.s (.s .n (.b (.l JG JH .n))) (.s .n (.s (.r [.a 9 true da,.a 10 true da,.a 11 true da]) (.s .n (.s .n (.s .n (.s .n (.s .n (.s (.s .n (.b (.l XB XC .n))) .n))))))))))))
noncomputable def XE (T:List FEnt):=aG (xs:=JH) JG (bg T (sb [1,1,1,0,1,2,2] c4))
noncomputable def l4_0 (T:List FEnt):=ah (XE T)
noncomputable def XF (F12:dD)(F14:cX)(F13:l6)(F15:dq)(F16:gx)(a0:List Y1)(a1 a2:Int)(a3:Y2×Int)(a4:ci):Option Sc:=
cond (decide (a2 < (↑a0.length:Int))) (
aj (aC a2 a0.length) (
cond (decide (a4.1 < (ix a0 a2).2.1)) (
(F14 ()).bind fun r6=>(
some (Sum.inr (Sum.inl (r6,a3,a4))))) (
aj (aC a2 a0.length) (
aj (ai .i64 (a2+1)) (
some (Sum.inl (a0,(max a1 ((ix a0 a2).1)),(a2+1),a3,a4))))))) (
some (Sum.inr (Sum.inr (a0,a1,a3,a4))))
theorem g4_0 (F12:dD)(F14:cX)(F13:l6)(F15:dq)(F16:gx):XE (T4 F12 F14 F13 F15 F16)=u5 (XF F12 F14 F13 F15 F16):=funext fun _=>by kernel_rfl
noncomputable def p4_0:=XF iN ge nw P15 P16
noncomputable def XG:Gz:=ah (fun x=>p4_0 x.1 x.2.1 x.2.2.1 x.2.2.2.1 x.2.2.2.2)
theorem v4_0:l4_0 (T4 iN ge nw P15 P16)=XG:=congrArg ah (g4_0 iN ge nw P15 P16)
noncomputable def XH (T:List FEnt):=aG (xs:=XC) XB (bg T (sb [1,1,1,1,1,1,1,1,1,1,1,0,1,2,2] c4))
noncomputable def l4_1 (T:List FEnt):=ah (XH T)
noncomputable def XI (F12:dD)(F14:cX)(F13:l6)(F15:dq)(F16:gx)(a0:Bool)(a1:Int)(a2:ci)(a3 a4:Y4)(a5:List Int):Option aaQ:=
cond (decide (a1 < (↑a5.length:Int))) (
cond a0 (
cond (decide (0 < a1)) (
aj (aC a1 a5.length) (
aj (ai .i64 (a1-1)) (
aj (aC (a1-1) a5.length) (
cond (decide ((ix a5 a1)≤(ix a5 (a1-1)))) (
some (Sum.inr (Sum.inl (false,a2,a3,a4,a5)))) (
aj (ai .i64 (a1+1)) (
some (Sum.inl (true,(a1+1),a2,a3,a4,a5)))))))) (
aj (ai .i64 (a1+1)) (
some (Sum.inl (true,(a1+1),a2,a3,a4,a5))))) (
aj (aC a1 a5.length) (
cond (decide (0 < a1)) (
aj (aC a1 a5.length) (
aj (ai .i64 (a1-1)) (
aj (aC (a1-1) a5.length) (
cond (decide ((ix a5 a1)≤(ix a5 (a1-1)))) (
some (Sum.inr (Sum.inl (false,a2,a3,a4,a5)))) (
aj (ai .i64 (a1+1)) (
some (Sum.inl (decide ((ix a5 a1)=a2.2.1),(a1+1),a2,a3,a4,a5)))))))) (
aj (ai .i64 (a1+1)) (
some (Sum.inl (decide ((ix a5 a1)=a2.2.1),(a1+1),a2,a3,a4,a5))))))) (
some (Sum.inr (Sum.inr (a0,a2,a3,a4,a5))))
theorem g4_1 (F12:dD)(F14:cX)(F13:l6)(F15:dq)(F16:gx):XH (T4 F12 F14 F13 F15 F16)=u6 (XI F12 F14 F13 F15 F16):=funext fun _=>by kernel_rfl
noncomputable def p4_1:=XI iN ge nw P15 P16
noncomputable def XJ:aaL:=ah (fun x=>p4_1 x.1 x.2.1 x.2.2.1 x.2.2.2.1 x.2.2.2.2.1 x.2.2.2.2.2)
theorem v4_1:l4_1 (T4 iN ge nw P15 P16)=XJ:=congrArg ah (g4_1 iN ge nw P15 P16)
theorem ok4:L.Fn Try.prog 4 165 [(.t 6)] (erase c4):=Fn.ofA aN Try.func4 _ _ (by kernel_rfl)
def sh4:FSh:=⟨⟨RO,[]⟩,RN,0,⟨⟨ft,[]⟩,[.bool],[],0⟩,true⟩
noncomputable def q4 (F12:dD)(F14:cX)(F13:l6)(F15:dq)(F16:gx)(l4_0:Gz)(l4_1:aaL)(a0:Y2×Int)(a1:List Y1)(a2:ci):Option Bool:=
(F12 (a0,a1,a2.1)).bind fun r1=>(
cond (!r1) (
(F14 ()).bind fun r2=>(
some r2)) (
(F13 a2.2.1).bind fun r3=>(
cond (!r3) (
(F14 ()).bind fun r4=>(
some r4)) (
cond (decide (40≤(↑a1.length:Int))) (
(F14 ()).bind fun r5=>(
some r5)) (
(l4_0 (a1,(-1),0,a0,a2)).bind (fun y7=>Sum.elim (fun y8=>(
some y8.1)) (fun y9=>(
cond (decide (99≤y9.2.1)) (
(F14 ()).bind fun r10=>(
some r10)) (
aj (ai .i64 (y9.2.1+1)) (
aj (bM 40 y9.1.length) (
aj (bM 40 (List.length y9.1+List.length ([((y9.2.1+1),(y9.2.2.2.1,(2,(y9.2.2.2.2.1,0))))]:List Y1))) (
(F15 (y9.2.2.1,y9.1,y9.2.2.2.1,y9.2.2.2.2.1)).bind fun r11=>(
(F15 (y9.2.2.1,(y9.1++([((y9.2.1+1),(y9.2.2.2.1,(2,(y9.2.2.2.2.1,0))))]:List Y1)),y9.2.2.2.1,y9.2.2.2.2.1)).bind fun r12=>(
(F16 (y9.2.2.1,(y9.1++([((y9.2.1+1),(y9.2.2.2.1,(2,(y9.2.2.2.2.1,0))))]:List Y1)),y9.2.2.2.1)).bind fun r13=>(
cond (!decide (r11.2=0)) (
some false) (
cond (!decide (r12.2=0)) (
some false) (
cond (!decide (r13.1=0)) (
some false) (
cond (decide (40 < (↑r13.2.length:Int))) (
some false) (
(l4_1 (false,0,y9.2.2.2,r11.1,r12.1,r13.2)).bind (fun y14=>Sum.elim (fun y15=>(
some y15.1)) (fun y16=>(
cond (decide (y16.2.2.1.1=2)) (
cond (((decide (y16.2.2.2.1.1=3)&&decide (y16.2.2.2.1.2.1=y16.2.2.1.2.1))&&decide (y16.2.2.2.1.2.2.1=y16.2.2.1.2.2.1))&&decide (y16.2.2.2.1.2.2.2=y16.2.2.1.2.2.2)) (
(F14 ()).bind fun r17=>(
some r17)) (
some false)) (
cond (((decide (y16.2.2.2.1.1=y16.2.2.1.1)&&decide (y16.2.2.2.1.2.1=y16.2.2.1.2.1))&&decide (y16.2.2.2.1.2.2.1=y16.2.2.1.2.2.1))&&decide (y16.2.2.2.1.2.2.2=y16.2.2.1.2.2.2)) (
cond y16.1 (
(F14 ()).bind fun r18=>(
some r18)) (
some false)) (
some false)))) y14)))))))))))))) y7))))))
theorem g4 (F12:dD)(F14:cX)(F13:l6)(F15:dq)(F16:gx):aO (T4 F12 F14 F13 F15 F16) sh4 [(.t 6)] c4=u3 (q4 F12 F14 F13 F15 F16 (l4_0 (T4 F12 F14 F13 F15 F16)) (l4_1 (T4 F12 F14 F13 F15 F16))):=funext fun _=>by kernel_rfl
noncomputable def p4:=q4 iN ge nw P15 P16 XG XJ
noncomputable def P4:JY:=fun x=>p4 x.1 x.2.1 x.2.2
theorem v4:aO (T4 iN ge nw P15 P16) sh4 [(.t 6)] c4=P4:=(g4 iN ge nw P15 P16).trans (by rw[v4_0,v4_1] <;> rfl)
theorem d4:DC Try.prog 4 sh4 P4:=aF v4 (ak t4 ok4 (by kernel_rfl))
noncomputable def Uc:List FEnt:=[]
theorem t18:aq Try.prog Uc:=al
def Ob:LSh:=⟨[1,2,5],⟨[(.slr 0),(.ptr 1 0),(.v y7)],k22⟩,[y7,cI,aY],2,[0,1]⟩
def Oc:List XSh:=[⟨.ret,[4],⟨⟨ft,k22⟩,[.bool,cI,aY],[0,1],2⟩⟩,⟨(.exit 0),[1,2],⟨⟨[(.slr 0),(.ptr 1 0)],k22⟩,[cI,aY],[0,1],2⟩⟩]
noncomputable def c18:=bU Try.prog [] Try.f18 (.s .n (.s (.s .n (.b (.l Ob Oc .n))) .n))
noncomputable def Od (T:List FEnt):=aG (xs:=Oc) Ob (bg T (sb [1,0,1,2,2] c18))
noncomputable def l18_0 (T:List FEnt):=ah (Od T)
noncomputable def Oe (a0:Int)(a1:List Y2)(a2:Y2×Int):Option aa2:=
cond (decide (a0 < (↑a1.length:Int))) (
cond (decide (a0 < (↑a2.1.length:Int))) (
aj (aC a0 a1.length) (
aj (aC a0 a2.1.length) (
cond (!decide ((↑(List.length (ix a1 a0)):Int)=(ix a2.1 a0))) (
some (Sum.inr (Sum.inl (false,a1,a2)))) (
aj (ai .i64 (a0+1)) (
some (Sum.inl ((a0+1),a1,a2))))))) (
some (Sum.inr (Sum.inr (a1,a2))))) (
some (Sum.inr (Sum.inr (a1,a2))))
theorem XK:Od Uc=u3 Oe:=funext fun _=>by kernel_rfl
noncomputable def XL:=Oe
noncomputable def Of:aaY:=ah (fun x=>XL x.1 x.2.1 x.2.2)
theorem XM:l18_0 Uc=Of:=congrArg ah XK
theorem ok18:L.Fn Try.prog 18 36 [(.t 4)] (erase c18):=Fn.ofA aN Try.func18 _ _ (by kernel_rfl)
def Gu:FSh:=⟨⟨[(.st aY),(.slr 0)],xS⟩,[aY,cI],1,⟨⟨ft,xS⟩,[.bool,cI],[0],1⟩,false⟩
noncomputable def q18 (l18_0:aaY)(a0:Y2×Int)(a1:List Y2):Option aaK:=
(l18_0 (0,a1,a0)).bind (fun y1=>Sum.elim (fun y2=>(
some (y2.1,y2.2.1))) (fun y3=>(
some (decide ((↑y3.1.length:Int)=(↑y3.2.1.length:Int)),y3.1))) y1)
theorem g18:aO Uc Gu [(.t 4)] c18=u2 (q18 (l18_0 Uc)):=funext fun _=>by kernel_rfl
noncomputable def p18:=q18 Of
noncomputable def vC:kY:=fun x=>p18 x.1 x.2
theorem v18:aO Uc Gu [(.t 4)] c18=vC:=g18.trans (by rw[XM] <;> rfl)
theorem d18:DC Try.prog 18 Gu vC:=aF v18 (ak t18 ok18 (by kernel_rfl))
noncomputable def T5 (F12:dD)(F14:cX)(F13:l6)(F15:dq)(F17:eZ)(F18:kY):List FEnt:=[⟨12,tx,F12⟩,⟨14,pL,F14⟩,⟨13,BW,F13⟩,⟨15,qr,F15⟩,⟨17,xT,F17⟩,⟨18,Gu,F18⟩]
theorem t5:aq Try.prog (T5 iN ge nw P15 lb vC):=(af d12 (by kernel_rfl) (af WS (by kernel_rfl) (af d13 (by kernel_rfl) (af VK (by kernel_rfl) (af d17 (by kernel_rfl) (af d18 (by kernel_rfl) al))))))
def XN:LSh:=⟨[1,3,5,7,9,11,12,13,14],⟨[(.v bd),(.ptr 0 0),(.ptr 1 0),(.ptr 2 0),(.slr 3),(.v .bool),(.v y7),(.v y7),(.v y7)],Ub⟩,[bd,.bool,y7,y7,y7,aY,iX,eX,cI],4,[0,1,2,3]⟩
def XO:List XSh:=[⟨.ret,[6],⟨⟨ft,Ub⟩,[.bool,aY,iX,eX,cI],[0,1,2,3],4⟩⟩,⟨(.exit 2),[1,3,5,7,9,11,12,13],⟨⟨j6,Ub⟩,z8,[0,1,2,3],4⟩⟩]
def XP:LSh:=⟨[1,3,5,7,9,11,12,13],⟨j6,Ub⟩,z8,4,[0,1,2,3]⟩
def XQ:List XSh:=[⟨.ret,[6],⟨⟨ft,Ub⟩,[.bool,aY,iX,eX,cI],[0,1,2,3],4⟩⟩,⟨(.exit 0),[7,11,12],⟨⟨[(.ptr 2 0),(.v .bool),(.v y7)],Ub⟩,[.bool,y7,aY,iX,eX,cI],[0,1,2,3],4⟩⟩]
noncomputable def c5:=bU Try.prog [] Try.f5 (.s .n (.s .n (.s .n (.s .n (.s .n (.s .n (.s .n (.s .n (.s (.s .n (.b (.l XP XQ (.s .n (.s (.b (.s .n (.b (.l XN XO .n)))) .n))))) .n)))))))))
noncomputable def XR (T:List FEnt):=aG (xs:=XO) XN (bg T (sb [1,1,1,1,1,1,1,1,0,1,2,2,1,0,2,1,2,2] c5))
noncomputable def l5_1 (T:List FEnt):=ah (XR T)
noncomputable def XS (F12:dD)(F14:cX)(F13:l6)(F15:dq)(F17:eZ)(F18:kY)(a0:List Y1)(a1:Bool)(a2 a3 a4:Int)(a5:Y2×Int)(a6:ci)(a7:Y4)(a8:List Y2):Option aa3:=
aj (aC a3 a8.length) (
cond (decide (a4 < (↑(List.length (ix a8 a3)):Int))) (
aj (aC a3 a8.length) (
aj (aC a4 (List.length (ix a8 a3))) (
cond (decide ((ix (ix a8 a3) a4)=a6.2.1)) (
aj (ai .i64 (a2+1)) (
cond (!a1) (
some (Sum.inr (Sum.inl (false,a5,a6,a7,a8)))) (
cond (!decide (a3=a7.2.1)) (
some (Sum.inr (Sum.inl (false,a5,a6,a7,a8)))) (
cond (decide (a4 < a7.2.2.1)) (
some (Sum.inr (Sum.inl (false,a5,a6,a7,a8)))) (
aj (ai .i64 (a7.2.2.1+a7.2.2.2)) (
cond (decide ((a7.2.2.1+a7.2.2.2)≤a4)) (
some (Sum.inr (Sum.inl (false,a5,a6,a7,a8)))) (
cond (decide ((ix (ix a8 a3) a4)=(-1))) (
aj (ai .i64 (a4+1)) (
some (Sum.inl (a0,a1,(a2+1),a3,(a4+1),a5,a6,a7,a8)))) (
(F15 (a5,a0,a6.1,(ix (ix a8 a3) a4))).bind fun r8=>(
cond (!decide (r8.2=0)) (
some (Sum.inr (Sum.inl (false,a5,a6,a7,a8)))) (
cond (!decide (r8.1.1=2)) (
cond (!decide (r8.1.1=3)) (
some (Sum.inr (Sum.inl (false,a5,a6,a7,a8)))) (
cond (!decide (r8.1.2.1=a3)) (
some (Sum.inr (Sum.inl (false,a5,a6,a7,a8)))) (
cond (decide (a4 < r8.1.2.2.1)) (
some (Sum.inr (Sum.inl (false,a5,a6,a7,a8)))) (
aj (ai .i64 (r8.1.2.2.1+r8.1.2.2.2)) (
cond (decide ((r8.1.2.2.1+r8.1.2.2.2)≤a4)) (
some (Sum.inr (Sum.inl (false,a5,a6,a7,a8)))) (
aj (ai .i64 (a4+1)) (
some (Sum.inl (a0,a1,(a2+1),a3,(a4+1),a5,a6,a7,a8))))))))) (
cond (!decide (r8.1.2.1=a3)) (
some (Sum.inr (Sum.inl (false,a5,a6,a7,a8)))) (
cond (decide (a4 < r8.1.2.2.1)) (
some (Sum.inr (Sum.inl (false,a5,a6,a7,a8)))) (
aj (ai .i64 (r8.1.2.2.1+r8.1.2.2.2)) (
cond (decide ((r8.1.2.2.1+r8.1.2.2.2)≤a4)) (
some (Sum.inr (Sum.inl (false,a5,a6,a7,a8)))) (
aj (ai .i64 (a4+1)) (
some (Sum.inl (a0,a1,(a2+1),a3,(a4+1),a5,a6,a7,a8)))))))))))))))))) (
cond (decide ((ix (ix a8 a3) a4)=(-1))) (
aj (ai .i64 (a4+1)) (
some (Sum.inl (a0,a1,a2,a3,(a4+1),a5,a6,a7,a8)))) (
(F15 (a5,a0,a6.1,(ix (ix a8 a3) a4))).bind fun r9=>(
cond (!decide (r9.2=0)) (
some (Sum.inr (Sum.inl (false,a5,a6,a7,a8)))) (
cond (!decide (r9.1.1=2)) (
cond (!decide (r9.1.1=3)) (
some (Sum.inr (Sum.inl (false,a5,a6,a7,a8)))) (
cond (!decide (r9.1.2.1=a3)) (
some (Sum.inr (Sum.inl (false,a5,a6,a7,a8)))) (
cond (decide (a4 < r9.1.2.2.1)) (
some (Sum.inr (Sum.inl (false,a5,a6,a7,a8)))) (
aj (ai .i64 (r9.1.2.2.1+r9.1.2.2.2)) (
cond (decide ((r9.1.2.2.1+r9.1.2.2.2)≤a4)) (
some (Sum.inr (Sum.inl (false,a5,a6,a7,a8)))) (
aj (ai .i64 (a4+1)) (
some (Sum.inl (a0,a1,a2,a3,(a4+1),a5,a6,a7,a8))))))))) (
cond (!decide (r9.1.2.1=a3)) (
some (Sum.inr (Sum.inl (false,a5,a6,a7,a8)))) (
cond (decide (a4 < r9.1.2.2.1)) (
some (Sum.inr (Sum.inl (false,a5,a6,a7,a8)))) (
aj (ai .i64 (r9.1.2.2.1+r9.1.2.2.2)) (
cond (decide ((r9.1.2.2.1+r9.1.2.2.2)≤a4)) (
some (Sum.inr (Sum.inl (false,a5,a6,a7,a8)))) (
aj (ai .i64 (a4+1)) (
some (Sum.inl (a0,a1,a2,a3,(a4+1),a5,a6,a7,a8))))))))))))))) (
some (Sum.inr (Sum.inr (a0,a1,a2,a3,a5,a6,a7,a8)))))
theorem g5_1 (F12:dD)(F14:cX)(F13:l6)(F15:dq)(F17:eZ)(F18:kY):XR (T5 F12 F14 F13 F15 F17 F18)=u9 (XS F12 F14 F13 F15 F17 F18):=funext fun _=>by kernel_rfl
noncomputable def p5_1:=XS iN ge nw P15 lb vC
noncomputable def XT:aaZ:=ah (fun x=>p5_1 x.1 x.2.1 x.2.2.1 x.2.2.2.1 x.2.2.2.2.1 x.2.2.2.2.2.1 x.2.2.2.2.2.2.1 x.2.2.2.2.2.2.2.1 x.2.2.2.2.2.2.2.2)
theorem v5_1:l5_1 (T5 iN ge nw P15 lb vC)=XT:=congrArg ah (g5_1 iN ge nw P15 lb vC)
noncomputable def XU (T:List FEnt):=aG (xs:=XQ) XP (bg T (sb [1,1,1,1,1,1,1,1,0,1,2,2] c5))
noncomputable def l5_0 (T:List FEnt):=ah (XU T)
noncomputable def XV (F12:dD)(F14:cX)(F13:l6)(F15:dq)(F17:eZ)(F18:kY)(l5_1:aaZ)(a0:List Y1)(a1:Bool)(a2 a3:Int)(a4:Y2×Int)(a5:ci)(a6:Y4)(a7:List Y2):Option aa4:=
cond (decide (a3 < (↑a7.length:Int))) (
(l5_1 (a0,a1,a2,a3,0,a4,a5,a6,a7)).bind (fun y10=>Sum.elim (fun y11=>(
some (Sum.inr (Sum.inl (y11.1,y11.2.1,y11.2.2.1,y11.2.2.2.1,y11.2.2.2.2))))) (fun y12=>(
aj (ai .i64 (y12.2.2.2.1+1)) (
some (Sum.inl (y12.1,y12.2.1,y12.2.2.1,(y12.2.2.2.1+1),y12.2.2.2.2.1,y12.2.2.2.2.2.1,y12.2.2.2.2.2.2.1,y12.2.2.2.2.2.2.2))))) y10)) (
some (Sum.inr (Sum.inr (a1,a2,a4,a5,a6,a7))))
theorem g5_0 (F12:dD)(F14:cX)(F13:l6)(F15:dq)(F17:eZ)(F18:kY):XU (T5 F12 F14 F13 F15 F17 F18)=u8 (XV F12 F14 F13 F15 F17 F18 (l5_1 (T5 F12 F14 F13 F15 F17 F18))):=funext fun _=>by kernel_rfl
noncomputable def p5_0:=XV iN ge nw P15 lb vC XT
noncomputable def XW:aa0:=ah (fun x=>p5_0 x.1 x.2.1 x.2.2.1 x.2.2.2.1 x.2.2.2.2.1 x.2.2.2.2.2.1 x.2.2.2.2.2.2.1 x.2.2.2.2.2.2.2)
theorem v5_0:l5_0 (T5 iN ge nw P15 lb vC)=XW:=congrArg ah ((g5_0 iN ge nw P15 lb vC).trans (by rw[v5_1] <;> rfl))
theorem ok5:L.Fn Try.prog 5 187 [(.t 6)] (erase c5):=Fn.ofA aN Try.func5 _ _ (by kernel_rfl)
def sh5:FSh:=⟨⟨RO,[]⟩,RN,0,⟨⟨ft,[]⟩,[.bool],[],0⟩,true⟩
noncomputable def q5 (F12:dD)(F14:cX)(F13:l6)(F15:dq)(F17:eZ)(F18:kY)(l5_0:aa0)(a0:Y2×Int)(a1:List Y1)(a2:ci):Option Bool:=
(F12 (a0,a1,a2.1)).bind fun r1=>(
cond (!r1) (
(F14 ()).bind fun r2=>(
some r2)) (
(F13 a2.2.1).bind fun r3=>(
cond (!r3) (
(F14 ()).bind fun r4=>(
some r4)) (
(F15 (a0,a1,a2.1,a2.2.1)).bind fun r5=>(
(F17 (a0,a1,a2.1)).bind fun r6=>(
cond (!decide (r5.2=0)) (
some false) (
cond (!decide (r6.1=0)) (
some false) (
(F18 (a0,r6.2)).bind fun r7=>(
cond (!r7.1) (
some false) (
cond (decide (r5.1.1=2)) (
(l5_0 (a1,true,0,0,a0,a2,r5.1,r7.2)).bind (fun y13=>Sum.elim (fun y14=>(
some y14.1)) (fun y15=>(
cond (!y15.1) (
(F14 ()).bind fun r16=>(
some r16)) (
cond (decide (y15.2.1=y15.2.2.2.2.1.2.2.2)) (
(F14 ()).bind fun r17=>(
some r17)) (
some false)))) y13)) (
cond (!(decide (r5.1.1=3))) (
cond (!decide (r5.1.2.1=(-1))) (
some false) (
cond (!decide (r5.1.2.2.1=(-1))) (
some false) (
(l5_0 (a1,decide (r5.1.1=3),0,0,a0,a2,r5.1,r7.2)).bind (fun y18=>Sum.elim (fun y19=>(
some y19.1)) (fun y20=>(
cond (!y20.1) (
(F14 ()).bind fun r21=>(
some r21)) (
cond (decide (y20.2.1=y20.2.2.2.2.1.2.2.2)) (
(F14 ()).bind fun r22=>(
some r22)) (
some false)))) y18)))) (
(l5_0 (a1,decide (r5.1.1=3),0,0,a0,a2,r5.1,r7.2)).bind (fun y23=>Sum.elim (fun y24=>(
some y24.1)) (fun y25=>(
cond (!y25.1) (
(F14 ()).bind fun r26=>(
some r26)) (
cond (decide (y25.2.1=y25.2.2.2.2.1.2.2.2)) (
(F14 ()).bind fun r27=>(
some r27)) (
some false)))) y23)))))))))))))
theorem g5 (F12:dD)(F14:cX)(F13:l6)(F15:dq)(F17:eZ)(F18:kY):aO (T5 F12 F14 F13 F15 F17 F18) sh5 [(.t 6)] c5=u3 (q5 F12 F14 F13 F15 F17 F18 (l5_0 (T5 F12 F14 F13 F15 F17 F18))):=funext fun _=>by kernel_rfl
noncomputable def p5:=q5 iN ge nw P15 lb vC XW
noncomputable def P5:JY:=fun x=>p5 x.1 x.2.1 x.2.2
theorem v5:aO (T5 iN ge nw P15 lb vC) sh5 [(.t 6)] c5=P5:=(g5 iN ge nw P15 lb vC).trans (by rw[v5_0] <;> rfl)
theorem d5:DC Try.prog 5 sh5 P5:=aF v5 (ak t5 ok5 (by kernel_rfl))
noncomputable def T6 (F12:dD)(F14:cX)(F17:eZ)(F16:gx)(F19:tD)(F20:jt):List FEnt:=[⟨12,tx,F12⟩,⟨14,pL,F14⟩,⟨17,xT,F17⟩,⟨16,xQ,F16⟩,⟨19,Gs,F19⟩,⟨20,xR,F20⟩]
theorem t6:aq Try.prog (T6 iN ge lb P16 xU P20):=(af d12 (by kernel_rfl) (af WS (by kernel_rfl) (af d17 (by kernel_rfl) (af d16 (by kernel_rfl) (af d19 (by kernel_rfl) (af d20 (by kernel_rfl) al))))))
def XX:LSh:=⟨[1,3,5,7,8,9],⟨[(.v bd),(.ptr 0 0),(.ptr 1 0),(.slc 2),(.slc 3),(.v y7)],k16⟩,[bd,y7,aY,y18,bd,bd],4,[0,1]⟩
def XY:List XSh:=[⟨(.exit 0),[1,3,5,7,8],⟨⟨[(.v bd),(.ptr 0 0),(.ptr 1 0),(.slc 2),(.slc 3)],k16⟩,[bd,aY,y18,bd,bd],[0,1],4⟩⟩]
noncomputable def c6:=bU Try.prog [] Try.f6 (.s .n (.s .n (.s .n (.s (.s .n (.b (.l XX XY (.s .n (.s (.b (.s .n (.s (.r [.a 6 true da,.a 7 true da]) (.s .n (.s (.r [.a 2 true da,.a 3 true da]) .n))))) .n))))) (.s .n (.s (.r [.f 4 7 []]) (.s (.r [.f 4 8 []]) .n)))))))
noncomputable def XZ (T:List FEnt):=aG (xs:=XY) XX (bg T (sb [1,1,1,0,1,2,2] c6))
noncomputable def l6_0 (T:List FEnt):=ah (XZ T)
noncomputable def X0 (F12:dD)(F14:cX)(F17:eZ)(F16:gx)(F19:tD)(F20:jt)(a0:List Y1)(a1:Int)(a2:Y2×Int)(a3:Int×Int)(a4 a5:List Y1):Option aaU:=
cond (decide (a1 < (↑a0.length:Int))) (
aj (ai .i64 (a1+a3.1)) (
aj (decide ((↑a0.length:Int)≠0)) (
aj (aC (Int.tmod (a1+a3.1) (↑a0.length:Int)) a0.length) (
aj (aC a1 a0.length) (
aj (bM 40 (List.length a4+List.length ([(ix a0 (Int.tmod (a1+a3.1) (↑a0.length:Int))),(ix a0 a1)]:List Y1))) (
cond (decide ((ix a0 (Int.tmod (a1+a3.1) (↑a0.length:Int))).2.1≤a3.2)) (
aj (bM 40 (List.length a5+List.length ([(ix a0 (Int.tmod (a1+a3.1) (↑a0.length:Int)))]:List Y1))) (
aj (ai .i64 (a1+1)) (
some (Sum.inl (a0,(a1+1),a2,a3,(a4++([(ix a0 (Int.tmod (a1+a3.1) (↑a0.length:Int))),(ix a0 a1)]:List Y1)),(a5++([(ix a0 (Int.tmod (a1+a3.1) (↑a0.length:Int)))]:List Y1))))))) (
aj (ai .i64 (a1+1)) (
some (Sum.inl (a0,(a1+1),a2,a3,(a4++([(ix a0 (Int.tmod (a1+a3.1) (↑a0.length:Int))),(ix a0 a1)]:List Y1)),a5)))))))))) (
some (Sum.inr (a0,a2,a3,a4,a5)))
theorem g6_0 (F12:dD)(F14:cX)(F17:eZ)(F16:gx)(F19:tD)(F20:jt):XZ (T6 F12 F14 F17 F16 F19 F20)=u6 (X0 F12 F14 F17 F16 F19 F20):=funext fun _=>by kernel_rfl
noncomputable def p6_0:=X0 iN ge lb P16 xU P20
noncomputable def X1:aaM:=ah (fun x=>p6_0 x.1 x.2.1 x.2.2.1 x.2.2.2.1 x.2.2.2.2.1 x.2.2.2.2.2)
theorem v6_0:l6_0 (T6 iN ge lb P16 xU P20)=X1:=congrArg ah (g6_0 iN ge lb P16 xU P20)
theorem ok6:L.Fn Try.prog 6 171 [(.t 6)] (erase c6):=Fn.ofA aN Try.func6 _ _ (by kernel_rfl)
def sh6:FSh:=⟨⟨[(.st aY),(.v bd),(.st y18)],[]⟩,[aY,bd,y18],0,⟨⟨ft,[]⟩,[.bool],[],0⟩,true⟩
noncomputable def q6 (F12:dD)(F14:cX)(F17:eZ)(F16:gx)(F19:tD)(F20:jt)(l6_0:aaM)(a0:Y2×Int)(a1:List Y1)(a2:Int×Int):Option Bool:=
(F12 (a0,a1,a2.2)).bind fun r1=>(
cond (!r1) (
(F14 ()).bind fun r2=>(
some r2)) (
cond (decide (20 < (↑a1.length:Int))) (
(F14 ()).bind fun r3=>(
some r3)) (
cond (decide (a2.1 < 0)) (
(F14 ()).bind fun r4=>(
some r4)) (
cond (decide (100 < a2.1)) (
(F14 ()).bind fun r5=>(
some r5)) (
(l6_0 (a1,0,a0,a2,([]:List Y1),([]:List Y1))).bind fun y6=>(
(F17 (y6.2.1,y6.1,y6.2.2.1.2)).bind fun r7=>(
(F17 (y6.2.1,y6.2.2.2.1,y6.2.2.1.2)).bind fun r8=>(
(F17 (y6.2.1,y6.2.2.2.2,y6.2.2.1.2)).bind fun r9=>(
(F16 (y6.2.1,y6.1,y6.2.2.1.2)).bind fun r10=>(
(F16 (y6.2.1,y6.2.2.2.1,y6.2.2.1.2)).bind fun r11=>(
(F16 (y6.2.1,y6.2.2.2.2,y6.2.2.1.2)).bind fun r12=>(
cond (decide (r7.1=0)) (
cond (decide (r8.1=0)) (
cond (decide (r9.1=0)) (
(F19 (r7.2,r8.2)).bind fun r13=>(
cond r13.1 (
(F19 (r13.2.1,r9.2)).bind fun r14=>(
cond r14.1 (
cond (decide (r10.1=0)) (
cond (decide (r11.1=0)) (
cond (decide (r12.1=0)) (
(F20 (r10.2,r11.2)).bind fun r15=>(
cond r15 (
(F20 (r10.2,r12.2)).bind fun r16=>(
cond r16 (
(F14 ()).bind fun r17=>(
some r17)) (
some false))) (
some false))) (
some false)) (
some false)) (
some false)) (
some false))) (
some false))) (
some false)) (
some false)) (
some false)))))))))))))
theorem g6 (F12:dD)(F14:cX)(F17:eZ)(F16:gx)(F19:tD)(F20:jt):aO (T6 F12 F14 F17 F16 F19 F20) sh6 [(.t 6)] c6=u3 (q6 F12 F14 F17 F16 F19 F20 (l6_0 (T6 F12 F14 F17 F16 F19 F20))):=funext fun _=>by kernel_rfl
noncomputable def p6:=q6 iN ge lb P16 xU P20 X1
noncomputable def P6:Y425:=fun x=>p6 x.1 x.2.1 x.2.2
theorem v6:aO (T6 iN ge lb P16 xU P20) sh6 [(.t 6)] c6=P6:=(g6 iN ge lb P16 xU P20).trans (by rw[v6_0] <;> rfl)
theorem d6:DC Try.prog 6 sh6 P6:=aF v6 (ak t6 ok6 (by kernel_rfl))
noncomputable def T7 (F12:dD)(F14:cX)(F17:eZ)(F21:iU)(F18:kY)(F22:gZ)(F23:gZ)(F15:dq):List FEnt:=[⟨12,tx,F12⟩,⟨14,pL,F14⟩,⟨17,xT,F17⟩,⟨21,xM,F21⟩,⟨18,Gu,F18⟩,⟨22,Gq,F22⟩,⟨23,Gr,F23⟩,⟨15,qr,F15⟩]
def X2:LSh:=⟨[1,3,5,7,9,11,12,13,14,15,16,17],⟨[(.v bd),(.ptr 0 0),(.ptr 1 0),(.v y7),(.slr 2),(.v y7),(.v y7),(.v y7),(.v y7),(.v y7),(.v y7),(.v y7)],RR⟩,[bd,y7,y7,y7,y7,y7,y7,y7,y7,aY,iX,cI],3,[0,1,2]⟩
def X3:List XSh:=[⟨(.exit 4),[1,3,5,7,9,11,12,13,14,15,16],⟨⟨j2,RR⟩,z3,[0,1,2],3⟩⟩]
def X4:LSh:=⟨[1,3,5,7,9,11,12,13,14,15,16],⟨j2,RR⟩,z3,3,[0,1,2]⟩
def X5:List XSh:=[⟨(.exit 2),[1,3,5,7,9,11,12,13,14,15],⟨⟨[(.v bd),(.ptr 0 0),(.ptr 1 0),(.v y7),(.slr 2),(.v y7),(.v y7),(.v y7),(.v y7),(.v y7)],RR⟩,[bd,y7,y7,y7,y7,y7,y7,aY,iX,cI],[0,1,2],3⟩⟩]
def X6:LSh:=⟨[1,3,5,7,9,11,12,13,15],⟨[(.v bd),(.ptr 0 0),(.ptr 1 0),(.v y7),(.slr 2),(.v y7),(.v y7),(.v y7),(.v y7)],RR⟩,[bd,y7,y7,y7,y7,y7,aY,iX,cI],3,[0,1,2]⟩
def X7:List XSh:=[⟨.ret,[6],⟨⟨ft,RR⟩,[.bool,aY,iX,cI],[0,1,2],3⟩⟩,⟨.normal,[1,3,5,7,11,12,13],⟨⟨[(.v bd),(.ptr 0 0),(.ptr 1 0),(.v y7),(.v y7),(.v y7),(.v y7)],RR⟩,[bd,y7,y7,y7,y7,aY,iX,cI],[0,1,2],3⟩⟩]
noncomputable def c7:=bU Try.prog [(32,{ch:=[1,0,0,0,0,0,1,0,1,0,1,0,0],rs:=[5],ord:=[0,1,3,4,5,6,7,8,9,10,2,11,12] })] Try.f7 (.s .n (.s .n (.s .n (.s (.s .n (.b (.l JG JH .n))) (.s .n (.s .n (.s .n (.s .n (.s (.s .n (.b (.l X4 X5 (.s .n (.s (.b (.s .n (.b (.l X2 X3 .n)))) .n))))) (.s .n (.s (.o X6 X7 .n) (.s .n (.s (.r [.a 9 true da,.a 10 true da,.a 11 true da]) .n)))))))))))))
noncomputable def s7_0 (T:List FEnt):=aG (xs:=JH) JG (bg T (sb [1,1,1,0,1,2,2] c7))
noncomputable def l7_0 (T:List FEnt):=ah (s7_0 T)
noncomputable def q7_0 (F12:dD)(F14:cX)(F17:eZ)(F21:iU)(F18:kY)(F22 F23:gZ)(F15:dq)(a0:List Y1)(a1 a2:Int)(a3:Y2×Int)(a4:ci):Option Sc:=
cond (decide (a2 < (↑a0.length:Int))) (
aj (aC a2 a0.length) (
cond (decide (a4.1 < (ix a0 a2).2.1)) (
(F14 ()).bind fun r6=>(
some (Sum.inr (Sum.inl (r6,a3,a4))))) (
aj (aC a2 a0.length) (
cond (decide ((ix a0 a2).2.2.2.1=99)) (
(F14 ()).bind fun r7=>(
some (Sum.inr (Sum.inl (r7,a3,a4))))) (
aj (aC a2 a0.length) (
aj (ai .i64 (a2+1)) (
some (Sum.inl (a0,(max a1 ((ix a0 a2).1)),(a2+1),a3,a4))))))))) (
some (Sum.inr (Sum.inr (a0,a1,a3,a4))))
noncomputable def p7_0:=q7_0 iN ge lb P21 vC P22 P23 P15
noncomputable def L7_0:Gz:=ah (fun x=>p7_0 x.1 x.2.1 x.2.2.1 x.2.2.2.1 x.2.2.2.2)
noncomputable def s7_2 (T:List FEnt):=aG (xs:=X3) X2 (bg T (sb [1,1,1,1,1,1,1,1,0,1,2,2,1,0,2,1,2,2] c7))
noncomputable def l7_2 (T:List FEnt):=ah (s7_2 T)
noncomputable def q7_2 (F12:dD)(F14:cX)(F17:eZ)(F21:iU)(F18:kY)(F22 F23:gZ)(F15:dq)(a0:List Y1)(a1 a2 a3 a4 a5 a6 a7 a8:Int)(a9:Y2×Int)(a10:ci)(a11:List Y2):Option aaV:=
aj (aC a7 a11.length) (
cond (decide (a8 < (↑(List.length (ix a11 a7)):Int))) (
aj (aC a7 a11.length) (
(F22 ((ix a11 a7),a8,a10.2.2)).bind fun r14=>(
cond r14 (
aj (ai .i64 (a5+1)) (
aj (aC a7 a11.length) (
(F23 ((ix a11 a7),a8,a10.2.2)).bind fun r15=>(
cond (!r15) (
aj (ai .i64 (a6+1)) (
aj (ai .i64 (a8+1)) (
some (Sum.inl (a0,a1,a2,a3,a4,(a5+1),(a6+1),a7,(a8+1),a9,a10,a11))))) (
aj (ai .i64 (a8+1)) (
some (Sum.inl (a0,a1,a2,a3,a4,(a5+1),a6,a7,(a8+1),a9,a10,a11)))))))) (
aj (ai .i64 (a8+1)) (
some (Sum.inl (a0,a1,a2,a3,a4,a5,a6,a7,(a8+1),a9,a10,a11))))))) (
some (Sum.inr (a0,a1,a2,a3,a4,a5,a6,a7,a9,a10,a11))))
noncomputable def p7_2:=q7_2 iN ge lb P21 vC P22 P23 P15
noncomputable def L7_2:aaN:=ah (fun x=>p7_2 x.1 x.2.1 x.2.2.1 x.2.2.2.1 x.2.2.2.2.1 x.2.2.2.2.2.1 x.2.2.2.2.2.2.1 x.2.2.2.2.2.2.2.1 x.2.2.2.2.2.2.2.2.1 x.2.2.2.2.2.2.2.2.2.1 x.2.2.2.2.2.2.2.2.2.2.1 x.2.2.2.2.2.2.2.2.2.2.2)
noncomputable def s7_1 (T:List FEnt):=aG (xs:=X5) X4 (bg T (sb [1,1,1,1,1,1,1,1,0,1,2,2] c7))
noncomputable def l7_1 (T:List FEnt):=ah (s7_1 T)
noncomputable def q7_1 (F12:dD)(F14:cX)(F17:eZ)(F21:iU)(F18:kY)(F22 F23:gZ)(F15:dq)(l7_2:aaN)(a0:List Y1)(a1 a2 a3 a4 a5 a6 a7:Int)(a8:Y2×Int)(a9:ci)(a10:List Y2):Option aaW:=
cond (decide (a7 < (↑a10.length:Int))) (
(l7_2 (a0,a1,a2,a3,a4,a5,a6,a7,0,a8,a9,a10)).bind fun y16=>(
aj (ai .i64 (y16.2.2.2.2.2.2.2.1+1)) (
some (Sum.inl (y16.1,y16.2.1,y16.2.2.1,y16.2.2.2.1,y16.2.2.2.2.1,y16.2.2.2.2.2.1,y16.2.2.2.2.2.2.1,(y16.2.2.2.2.2.2.2.1+1),y16.2.2.2.2.2.2.2.2.1,y16.2.2.2.2.2.2.2.2.2.1,y16.2.2.2.2.2.2.2.2.2.2))))) (
some (Sum.inr (a0,a1,a2,a3,a4,a5,a6,a8,a9,a10)))
noncomputable def p7_1:=q7_1 iN ge lb P21 vC P22 P23 P15 L7_2
noncomputable def L7_1:aaO:=ah (fun x=>p7_1 x.1 x.2.1 x.2.2.1 x.2.2.2.1 x.2.2.2.2.1 x.2.2.2.2.2.1 x.2.2.2.2.2.2.1 x.2.2.2.2.2.2.2.1 x.2.2.2.2.2.2.2.2.1 x.2.2.2.2.2.2.2.2.2.1 x.2.2.2.2.2.2.2.2.2.2)
noncomputable def l7_3 (T:List FEnt):=fg (xs:=X7) X6 (bg T (sb [1,1,1,1,1,1,1,1,1,1,0,2] c7))
noncomputable def q7_3 (F12:dD)(F14:cX)(F17:eZ)(F21:iU)(F18:kY)(F22 F23:gZ)(F15:dq)(a0:List Y1)(a1 a2 a3 a4 a5:Int)(a6:Y2×Int)(a7:ci)(a8:List Y2):Option aaX:=
cond (decide (a4=0)) (
cond (decide (a2 < 0)) (
some (Sum.inl (false,a6,a7,a8))) (
cond (decide ((↑a8.length:Int)≤a2)) (
some (Sum.inl (false,a6,a7,a8))) (
cond (decide (a3 < 0)) (
some (Sum.inl (false,a6,a7,a8))) (
aj (aC a2 a8.length) (
(F22 ((ix a8 a2),a3,a7.2.2)).bind fun r18=>(
cond (!r18) (
some (Sum.inl (false,a6,a7,a8))) (
aj (aC a2 a8.length) (
(F23 ((ix a8 a2),a3,a7.2.2)).bind fun r19=>(
cond r19 (
cond (decide (0 < a5)) (
some (Sum.inl (false,a6,a7,a8))) (
some (Sum.inr (a0,a1,a2,a3,a4,a6,a7,a8)))) (
some (Sum.inr (a0,a1,a2,a3,a4,a6,a7,a8)))))))))))) (
some (Sum.inr (a0,a1,a2,a3,a4,a6,a7,a8)))
noncomputable def p7_3:=q7_3 iN ge lb P21 vC P22 P23 P15
noncomputable def L7_3:aa1:=fun x=>p7_3 x.1 x.2.1 x.2.2.1 x.2.2.2.1 x.2.2.2.2.1 x.2.2.2.2.2.1 x.2.2.2.2.2.2.1 x.2.2.2.2.2.2.2.1 x.2.2.2.2.2.2.2.2
def sh7:FSh:=⟨⟨RO,[]⟩,RN,0,⟨⟨ft,[]⟩,[.bool],[],0⟩,true⟩
noncomputable def q7 (F12:dD)(F14:cX)(F17:eZ)(F21:iU)(F18:kY)(F22 F23:gZ)(F15:dq)(l7_0:Gz)(l7_1:aaO)(l7_3:aa1)(a0:Y2×Int)(a1:List Y1)(a2:ci):Option Bool:=
(F12 (a0,a1,a2.1)).bind fun r1=>(
cond (!r1) (
(F14 ()).bind fun r2=>(
some r2)) (
cond (decide (a2.2.2 < 1)) (
(F14 ()).bind fun r3=>(
some r3)) (
cond (decide (12 < a2.2.2)) (
(F14 ()).bind fun r4=>(
some r4)) (
cond (decide (40≤(↑a1.length:Int))) (
(F14 ()).bind fun r5=>(
some r5)) (
(l7_0 (a1,(-1),0,a0,a2)).bind (fun y8=>Sum.elim (fun y9=>(
some y9.1)) (fun y10=>(
(F17 (y10.2.2.1,y10.1,y10.2.2.2.1)).bind fun r11=>(
(F21 (y10.2.2.1,y10.1,y10.2.2.2.1,y10.2.2.2.2.2)).bind fun r12=>(
cond (!decide (r11.1=0)) (
some false) (
(F18 (y10.2.2.1,r11.2)).bind fun r13=>(
cond (!r13.1) (
some false) (
cond (!decide (r12.2.2=0)) (
cond (!decide (r12.2.2=3)) (
some false) (
(l7_1 (y10.1,y10.2.1,r12.1,r12.2.1,r12.2.2,0,0,0,y10.2.2.1,y10.2.2.2,r13.2)).bind fun y17=>(
cond ((decide (y17.2.2.2.2.1=0))!=(decide (0 < y17.2.2.2.2.2.1))) (
some false) (
(l7_3 (y17.1,y17.2.1,y17.2.2.1,y17.2.2.2.1,y17.2.2.2.2.1,y17.2.2.2.2.2.2.1,y17.2.2.2.2.2.2.2.1,y17.2.2.2.2.2.2.2.2.1,y17.2.2.2.2.2.2.2.2.2)).bind (fun y20=>Sum.elim (fun y21=>(
some y21.1)) (fun y22=>(
cond (decide (99≤y22.2.1)) (
(F14 ()).bind fun r23=>(
some r23)) (
aj (ai .i64 (y22.2.1+1)) (
aj (bM 40 y22.1.length) (
aj (bM 40 (List.length y22.1+List.length ([((y22.2.1+1),(y22.2.2.2.2.2.2.1.1,(1,(99,y22.2.2.2.2.2.2.1.2.2))))]:List Y1))) (
(F15 (y22.2.2.2.2.2.1,(y22.1++([((y22.2.1+1),(y22.2.2.2.2.2.2.1.1,(1,(99,y22.2.2.2.2.2.2.1.2.2))))]:List Y1)),y22.2.2.2.2.2.2.1.1,99)).bind fun r24=>(
cond (decide (y22.2.2.2.2.1=0)) (
cond (decide (r24.2=0)) (
cond (((decide (r24.1.1=2)&&decide (r24.1.2.1=y22.2.2.1))&&decide (r24.1.2.2.1=y22.2.2.2.1))&&decide (r24.1.2.2.2=y22.2.2.2.2.2.2.1.2.2)) (
(F14 ()).bind fun r25=>(
some r25)) (
some false)) (
some false)) (
cond (decide (r24.2=0)) (
cond (((decide (r24.1.1=1)&&decide (r24.1.2.1=(-1)))&&decide (r24.1.2.2.1=(-1)))&&decide (r24.1.2.2.2=y22.2.2.2.2.2.2.1.2.2)) (
(F14 ()).bind fun r26=>(
some r26)) (
some false)) (
some false))))))))) y20))))) (
(l7_1 (y10.1,y10.2.1,r12.1,r12.2.1,r12.2.2,0,0,0,y10.2.2.1,y10.2.2.2,r13.2)).bind fun y27=>(
cond ((decide (y27.2.2.2.2.1=0))!=(decide (0 < y27.2.2.2.2.2.1))) (
some false) (
(l7_3 (y27.1,y27.2.1,y27.2.2.1,y27.2.2.2.1,y27.2.2.2.2.1,y27.2.2.2.2.2.2.1,y27.2.2.2.2.2.2.2.1,y27.2.2.2.2.2.2.2.2.1,y27.2.2.2.2.2.2.2.2.2)).bind (fun y28=>Sum.elim (fun y29=>(
some y29.1)) (fun y30=>(
cond (decide (99≤y30.2.1)) (
(F14 ()).bind fun r31=>(
some r31)) (
aj (ai .i64 (y30.2.1+1)) (
aj (bM 40 y30.1.length) (
aj (bM 40 (List.length y30.1+List.length ([((y30.2.1+1),(y30.2.2.2.2.2.2.1.1,(1,(99,y30.2.2.2.2.2.2.1.2.2))))]:List Y1))) (
(F15 (y30.2.2.2.2.2.1,(y30.1++([((y30.2.1+1),(y30.2.2.2.2.2.2.1.1,(1,(99,y30.2.2.2.2.2.2.1.2.2))))]:List Y1)),y30.2.2.2.2.2.2.1.1,99)).bind fun r32=>(
cond (decide (y30.2.2.2.2.1=0)) (
cond (decide (r32.2=0)) (
cond (((decide (r32.1.1=2)&&decide (r32.1.2.1=y30.2.2.1))&&decide (r32.1.2.2.1=y30.2.2.2.1))&&decide (r32.1.2.2.2=y30.2.2.2.2.2.2.1.2.2)) (
(F14 ()).bind fun r33=>(
some r33)) (
some false)) (
some false)) (
cond (decide (r32.2=0)) (
cond (((decide (r32.1.1=1)&&decide (r32.1.2.1=(-1)))&&decide (r32.1.2.2.1=(-1)))&&decide (r32.1.2.2.2=y30.2.2.2.2.2.2.1.2.2)) (
(F14 ()).bind fun r34=>(
some r34)) (
some false)) (
some false))))))))) y28))))))))))) y8))))))
theorem g7 (F12:dD)(F14:cX)(F17:eZ)(F21:iU)(F18:kY)(F22 F23:gZ)(F15:dq):aO (T7 F12 F14 F17 F21 F18 F22 F23 F15) sh7 [(.t 6)] c7=u3 (q7 F12 F14 F17 F21 F18 F22 F23 F15 (l7_0 (T7 F12 F14 F17 F21 F18 F22 F23 F15)) (l7_1 (T7 F12 F14 F17 F21 F18 F22 F23 F15)) (l7_3 (T7 F12 F14 F17 F21 F18 F22 F23 F15))):=funext fun _=>by kernel_rfl
noncomputable def p7:=q7 iN ge lb P21 vC P22 P23 P15 L7_0 L7_1 L7_3
def X8:FSh:=⟨⟨I7,[]⟩,I5,0,⟨⟨KQ,[]⟩,[y7,y7],[],0⟩,true⟩
end Go.Proofs.Ytdkaijofmigmbaa.D
