import Derived.Test.YtdkaijofmigmbaaG7o
import Derived.Test.YtdkaijofmigmbaaProg
set_option linter.unusedVariables false
set_option maxRecDepth 100000
namespace Go.Proofs.Ytdkaijofmigmbaa.D
open Go Go.Proofs Go.Proofs.Ytdkaijofmigmbaa.L
def z13:List Ty:=[bc,y7,y7,aW,iR]
def z8:List Ty:=[bc,.bool,y7,y7,aW,iR,eV,cG]
def z3:List Ty:=[bc,y7,y7,y7,y7,y7,y7,y7,aW,iR,cG]
def j13:List RSh:=[(.v bc),(.ptr 0 0),(.ptr 1 0),(.v y7),(.v y7)]
def j25:List RSh:=[(.v bc),(.ptr 0 0),(.ptr 1 0),(.v y7)]
def j6:List RSh:=[(.v bc),(.ptr 0 0),(.ptr 1 0),(.ptr 2 0),(.slr 3),(.v .bool),(.v y7),(.v y7)]
def j2:List RSh:=[(.v bc),(.ptr 0 0),(.ptr 1 0),(.v y7),(.slr 2),(.v y7),(.v y7),(.v y7),(.v y7),(.v y7),(.v y7)]
def Gd:List (Nat×OSh):=[(0,(.boxT aW)),(1,(.boxT iR))]
def k18:List (Nat×OSh):=[(0,(.boxT iR)),(1,(.boxT eV)),(2,(.boxT eV)),(3,(.row 3 y7))]
def k22:List (Nat×OSh):=[(0,(.rows 22 3 y7)),(1,(.boxT aW))]
def TY:List (Nat×OSh):=[(0,(.boxT aW)),(1,(.boxT iR)),(2,(.boxT eV)),(3,(.rows 22 3 y7))]
def k16:List (Nat×OSh):=[(0,(.boxT aW)),(1,(.boxT y18)),(2,(.row 40 cW)),(3,(.row 40 cW))]
def RQ:List (Nat×OSh):=[(0,(.boxT aW)),(1,(.boxT iR)),(2,(.rows 22 3 y7))]
noncomputable def T4 (F12:dz)(F14:cV)(F13:lP)(F15:dn)(F16:gq):List FEnt:=[⟨12,sP,F12⟩,⟨14,pj,F14⟩,⟨13,BF,F13⟩,⟨15,pS,F15⟩,⟨16,xD,F16⟩]
theorem t4:al Try.prog (T4 P12 P14 P13 P15 P16):=(aa d12 (by kernel_rfl) (aa WP (by kernel_rfl) (aa d13 (by kernel_rfl) (aa VH (by kernel_rfl) (aa d16 (by kernel_rfl) ak)))))
def Jr:LSh:=⟨[1,3,5,7,8],⟨j13,Gd⟩,z13,2,[0,1]⟩
def Js:List XSh:=[⟨.ret,[6],⟨⟨fk,Gd⟩,[.bool,aW,iR],[0,1],2⟩⟩,⟨(.exit 0),[1,3,5,7],⟨⟨j25,Gd⟩,[bc,y7,aW,iR],[0,1],2⟩⟩]
def XL:LSh:=⟨[5,10,12,14,16,17],⟨[(.ptr 0 0),(.ptr 1 0),(.ptr 2 0),(.slc 3),(.v .bool),(.v y7)],k18⟩,[.bool,y7,iR,eV,eV,y19],4,[0,1,2,3]⟩
def XM:List XSh:=[⟨.ret,[6],⟨⟨fk,k18⟩,[.bool,iR,eV,eV,y19],[0,1,2,3],4⟩⟩,⟨(.exit 2),[10,12,16],⟨⟨[(.ptr 1 0),(.ptr 2 0),(.v .bool)],k18⟩,[.bool,iR,eV,eV,y19],[0,1,2,3],4⟩⟩]
noncomputable def c4:=bU Try.prog [(12,{ch:=[1,0,0,0,0,0,1,0,1,0,1,0,0],rs:=[5],ord:=[0,1,3,4,5,6,7,8,9,10,2,11,12] })] Try.f4 (.s .n (.s .n (.s .n (.s (.s .n (.b (.l Jr Js .n))) (.s .n (.s (.r [.a 9 true cW,.a 10 true cW,.a 11 true cW]) (.s .n (.s .n (.s .n (.s .n (.s .n (.s (.s .n (.b (.l XL XM .n))) .n))))))))))))
noncomputable def XN (T:List FEnt):=aG (xs:=Js) Jr (bf T (sb [1,1,1,0,1,2,2] c4))
noncomputable def l4_0 (T:List FEnt):=af (XN T)
noncomputable def q4_0 (F12:dz)(F14:cV)(F13:lP)(F15:dn)(F16:gq)(a0:List Y1)(a1 a2:Int)(a3:Y2×Int)(a4:cj):Option Sb:=
cond (decide (a2 < (↑a0.length:Int))) (
ai (aC a2 a0.length) (
cond (decide (a4.1 < (ix a0 a2).2.1)) (
(F14 ()).bind fun r6=>(
some (Sum.inr (Sum.inl (r6,a3,a4))))) (
ai (aC a2 a0.length) (
ai (ah .i64 (a2+1)) (
some (Sum.inl (a0,(max a1 ((ix a0 a2).1)),(a2+1),a3,a4))))))) (
some (Sum.inr (Sum.inr (a0,a1,a3,a4))))
theorem g4_0 (F12:dz)(F14:cV)(F13:lP)(F15:dn)(F16:gq):XN (T4 F12 F14 F13 F15 F16)=u5 (q4_0 F12 F14 F13 F15 F16):=funext fun _=>by kernel_rfl
noncomputable def XO:=q4_0 P12 P14 P13 P15 P16
noncomputable def L4_0:Gj:=af (fun x=>XO x.1 x.2.1 x.2.2.1 x.2.2.2.1 x.2.2.2.2)
theorem v4_0:l4_0 (T4 P12 P14 P13 P15 P16)=L4_0:=congrArg af (g4_0 P12 P14 P13 P15 P16)
noncomputable def XP (T:List FEnt):=aG (xs:=XM) XL (bf T (sb [1,1,1,1,1,1,1,1,1,1,1,0,1,2,2] c4))
noncomputable def l4_1 (T:List FEnt):=af (XP T)
noncomputable def BG (F12:dz)(F14:cV)(F13:lP)(F15:dn)(F16:gq)(a0:Bool)(a1:Int)(a2:cj)(a3 a4:Y4)(a5:List Int):Option aaW:=
cond (decide (a1 < (↑a5.length:Int))) (
cond a0 (
cond (decide (0 < a1)) (
ai (aC a1 a5.length) (
ai (ah .i64 (a1-1)) (
ai (aC (a1-1) a5.length) (
cond (decide ((ix a5 a1)≤(ix a5 (a1-1)))) (
some (Sum.inr (Sum.inl (false,a2,a3,a4,a5)))) (
ai (ah .i64 (a1+1)) (
some (Sum.inl (true,(a1+1),a2,a3,a4,a5)))))))) (
ai (ah .i64 (a1+1)) (
some (Sum.inl (true,(a1+1),a2,a3,a4,a5))))) (
ai (aC a1 a5.length) (
cond (decide (0 < a1)) (
ai (aC a1 a5.length) (
ai (ah .i64 (a1-1)) (
ai (aC (a1-1) a5.length) (
cond (decide ((ix a5 a1)≤(ix a5 (a1-1)))) (
some (Sum.inr (Sum.inl (false,a2,a3,a4,a5)))) (
ai (ah .i64 (a1+1)) (
some (Sum.inl (decide ((ix a5 a1)=a2.2.1),(a1+1),a2,a3,a4,a5)))))))) (
ai (ah .i64 (a1+1)) (
some (Sum.inl (decide ((ix a5 a1)=a2.2.1),(a1+1),a2,a3,a4,a5))))))) (
some (Sum.inr (Sum.inr (a0,a2,a3,a4,a5))))
theorem g4_1 (F12:dz)(F14:cV)(F13:lP)(F15:dn)(F16:gq):XP (T4 F12 F14 F13 F15 F16)=u6 (BG F12 F14 F13 F15 F16):=funext fun _=>by kernel_rfl
noncomputable def XQ:=BG P12 P14 P13 P15 P16
noncomputable def Jt:aaR:=af (fun x=>XQ x.1 x.2.1 x.2.2.1 x.2.2.2.1 x.2.2.2.2.1 x.2.2.2.2.2)
theorem v4_1:l4_1 (T4 P12 P14 P13 P15 P16)=Jt:=congrArg af (g4_1 P12 P14 P13 P15 P16)
theorem ok4:L.Fn Try.prog 4 165 [(.t 6)] (erase c4):=Fn.ofA aM Try.func4 _ _ (by kernel_rfl)
def sh4:FSh:=⟨⟨RN,[]⟩,RM,0,⟨⟨fk,[]⟩,[.bool],[],0⟩,true⟩
noncomputable def q4 (F12:dz)(F14:cV)(F13:lP)(F15:dn)(F16:gq)(l4_0:Gj)(l4_1:aaR)(a0:Y2×Int)(a1:List Y1)(a2:cj):Option Bool:=
(F12 (a0,a1,a2.1)).bind fun r1=>(
cond (!r1) (
(F14 ()).bind fun r2=>(
some r2)) (
(F13 a2.2.1).bind fun r3=>(
cond (!r3) (
(F14 ()).bind fun r4=>(
some r4)) (
cond (decide (40≤(↑a1.length:Int))) (
(F14 ()).bind fun r5=>(
some r5)) (
(l4_0 (a1,(-1),0,a0,a2)).bind (fun y7=>Sum.elim (fun y8=>(
some y8.1)) (fun y9=>(
cond (decide (99≤y9.2.1)) (
(F14 ()).bind fun r10=>(
some r10)) (
ai (ah .i64 (y9.2.1+1)) (
ai (bM 40 y9.1.length) (
ai (bM 40 (List.length y9.1+List.length ([((y9.2.1+1),(y9.2.2.2.1,(2,(y9.2.2.2.2.1,0))))]:List Y1))) (
(F15 (y9.2.2.1,y9.1,y9.2.2.2.1,y9.2.2.2.2.1)).bind fun r11=>(
(F15 (y9.2.2.1,(y9.1++([((y9.2.1+1),(y9.2.2.2.1,(2,(y9.2.2.2.2.1,0))))]:List Y1)),y9.2.2.2.1,y9.2.2.2.2.1)).bind fun r12=>(
(F16 (y9.2.2.1,(y9.1++([((y9.2.1+1),(y9.2.2.2.1,(2,(y9.2.2.2.2.1,0))))]:List Y1)),y9.2.2.2.1)).bind fun r13=>(
cond (!decide (r11.2=0)) (
some false) (
cond (!decide (r12.2=0)) (
some false) (
cond (!decide (r13.1=0)) (
some false) (
cond (decide (40 < (↑r13.2.length:Int))) (
some false) (
(l4_1 (false,0,y9.2.2.2,r11.1,r12.1,r13.2)).bind (fun y14=>Sum.elim (fun y15=>(
some y15.1)) (fun y16=>(
cond (decide (y16.2.2.1.1=2)) (
cond (((decide (y16.2.2.2.1.1=3)&&decide (y16.2.2.2.1.2.1=y16.2.2.1.2.1))&&decide (y16.2.2.2.1.2.2.1=y16.2.2.1.2.2.1))&&decide (y16.2.2.2.1.2.2.2=y16.2.2.1.2.2.2)) (
(F14 ()).bind fun r17=>(
some r17)) (
some false)) (
cond (((decide (y16.2.2.2.1.1=y16.2.2.1.1)&&decide (y16.2.2.2.1.2.1=y16.2.2.1.2.1))&&decide (y16.2.2.2.1.2.2.1=y16.2.2.1.2.2.1))&&decide (y16.2.2.2.1.2.2.2=y16.2.2.1.2.2.2)) (
cond y16.1 (
(F14 ()).bind fun r18=>(
some r18)) (
some false)) (
some false)))) y14)))))))))))))) y7))))))
theorem g4 (F12:dz)(F14:cV)(F13:lP)(F15:dn)(F16:gq):aO (T4 F12 F14 F13 F15 F16) sh4 [(.t 6)] c4=u3 (q4 F12 F14 F13 F15 F16 (l4_0 (T4 F12 F14 F13 F15 F16)) (l4_1 (T4 F12 F14 F13 F15 F16))):=funext fun _=>by kernel_rfl
noncomputable def p4:=q4 P12 P14 P13 P15 P16 L4_0 Jt
noncomputable def P4:JL:=fun x=>p4 x.1 x.2.1 x.2.2
theorem v4:aO (T4 P12 P14 P13 P15 P16) sh4 [(.t 6)] c4=P4:=(g4 P12 P14 P13 P15 P16).trans (by rw[v4_0,v4_1] <;> rfl)
theorem d4:DC Try.prog 4 sh4 P4:=aD v4 (aj t4 ok4 (by kernel_rfl))
noncomputable def TZ:List FEnt:=[]
theorem t18:al Try.prog TZ:=ak
def Oc:LSh:=⟨[1,2,5],⟨[(.slr 0),(.ptr 1 0),(.v y7)],k22⟩,[y7,cG,aW],2,[0,1]⟩
def Od:List XSh:=[⟨.ret,[4],⟨⟨fk,k22⟩,[.bool,cG,aW],[0,1],2⟩⟩,⟨(.exit 0),[1,2],⟨⟨[(.slr 0),(.ptr 1 0)],k22⟩,[cG,aW],[0,1],2⟩⟩]
noncomputable def c18:=bU Try.prog [] Try.f18 (.s .n (.s (.s .n (.b (.l Oc Od .n))) .n))
noncomputable def Oe (T:List FEnt):=aG (xs:=Od) Oc (bf T (sb [1,0,1,2,2] c18))
noncomputable def l18_0 (T:List FEnt):=af (Oe T)
noncomputable def Of (a0:Int)(a1:List Y2)(a2:Y2×Int):Option aa8:=
cond (decide (a0 < (↑a1.length:Int))) (
cond (decide (a0 < (↑a2.1.length:Int))) (
ai (aC a0 a1.length) (
ai (aC a0 a2.1.length) (
cond (!decide ((↑(List.length (ix a1 a0)):Int)=(ix a2.1 a0))) (
some (Sum.inr (Sum.inl (false,a1,a2)))) (
ai (ah .i64 (a0+1)) (
some (Sum.inl ((a0+1),a1,a2))))))) (
some (Sum.inr (Sum.inr (a1,a2))))) (
some (Sum.inr (Sum.inr (a1,a2))))
theorem XR:Oe TZ=u3 Of:=funext fun _=>by kernel_rfl
noncomputable def XS:=Of
noncomputable def Og:aa4:=af (fun x=>XS x.1 x.2.1 x.2.2)
theorem XT:l18_0 TZ=Og:=congrArg af XR
theorem ok18:L.Fn Try.prog 18 36 [(.t 4)] (erase c18):=Fn.ofA aM Try.func18 _ _ (by kernel_rfl)
def Ge:FSh:=⟨⟨[(.st aW),(.slr 0)],xG⟩,[aW,cG],1,⟨⟨fk,xG⟩,[.bool,cG],[0],1⟩,false⟩
noncomputable def q18 (l18_0:aa4)(a0:Y2×Int)(a1:List Y2):Option aaQ:=
(l18_0 (0,a1,a0)).bind (fun y1=>Sum.elim (fun y2=>(
some (y2.1,y2.2.1))) (fun y3=>(
some (decide ((↑y3.1.length:Int)=(↑y3.2.1.length:Int)),y3.1))) y1)
theorem g18:aO TZ Ge [(.t 4)] c18=u2 (q18 (l18_0 TZ)):=funext fun _=>by kernel_rfl
noncomputable def p18:=q18 Og
noncomputable def uT:kM:=fun x=>p18 x.1 x.2
theorem v18:aO TZ Ge [(.t 4)] c18=uT:=g18.trans (by rw[XT] <;> rfl)
theorem d18:DC Try.prog 18 Ge uT:=aD v18 (aj t18 ok18 (by kernel_rfl))
noncomputable def T5 (F12:dz)(F14:cV)(F13:lP)(F15:dn)(F17:eX)(F18:kM):List FEnt:=[⟨12,sP,F12⟩,⟨14,pj,F14⟩,⟨13,BF,F13⟩,⟨15,pS,F15⟩,⟨17,xH,F17⟩,⟨18,Ge,F18⟩]
theorem t5:al Try.prog (T5 P12 P14 P13 P15 jQ uT):=(aa d12 (by kernel_rfl) (aa WP (by kernel_rfl) (aa d13 (by kernel_rfl) (aa VH (by kernel_rfl) (aa d17 (by kernel_rfl) (aa d18 (by kernel_rfl) ak))))))
def XU:LSh:=⟨[1,3,5,7,9,11,12,13,14],⟨[(.v bc),(.ptr 0 0),(.ptr 1 0),(.ptr 2 0),(.slr 3),(.v .bool),(.v y7),(.v y7),(.v y7)],TY⟩,[bc,.bool,y7,y7,y7,aW,iR,eV,cG],4,[0,1,2,3]⟩
def XV:List XSh:=[⟨.ret,[6],⟨⟨fk,TY⟩,[.bool,aW,iR,eV,cG],[0,1,2,3],4⟩⟩,⟨(.exit 2),[1,3,5,7,9,11,12,13],⟨⟨j6,TY⟩,z8,[0,1,2,3],4⟩⟩]
def XW:LSh:=⟨[1,3,5,7,9,11,12,13],⟨j6,TY⟩,z8,4,[0,1,2,3]⟩
def XX:List XSh:=[⟨.ret,[6],⟨⟨fk,TY⟩,[.bool,aW,iR,eV,cG],[0,1,2,3],4⟩⟩,⟨(.exit 0),[7,11,12],⟨⟨[(.ptr 2 0),(.v .bool),(.v y7)],TY⟩,[.bool,y7,aW,iR,eV,cG],[0,1,2,3],4⟩⟩]
noncomputable def c5:=bU Try.prog [] Try.f5 (.s .n (.s .n (.s .n (.s .n (.s .n (.s .n (.s .n (.s .n (.s (.s .n (.b (.l XW XX (.s .n (.s (.b (.s .n (.b (.l XU XV .n)))) .n))))) .n)))))))))
noncomputable def XY (T:List FEnt):=aG (xs:=XV) XU (bf T (sb [1,1,1,1,1,1,1,1,0,1,2,2,1,0,2,1,2,2] c5))
noncomputable def l5_1 (T:List FEnt):=af (XY T)
noncomputable def XZ (F12:dz)(F14:cV)(F13:lP)(F15:dn)(F17:eX)(F18:kM)(a0:List Y1)(a1:Bool)(a2 a3 a4:Int)(a5:Y2×Int)(a6:cj)(a7:Y4)(a8:List Y2):Option aa9:=
ai (aC a3 a8.length) (
cond (decide (a4 < (↑(List.length (ix a8 a3)):Int))) (
ai (aC a3 a8.length) (
ai (aC a4 (List.length (ix a8 a3))) (
cond (decide ((ix (ix a8 a3) a4)=a6.2.1)) (
ai (ah .i64 (a2+1)) (
cond (!a1) (
some (Sum.inr (Sum.inl (false,a5,a6,a7,a8)))) (
cond (!decide (a3=a7.2.1)) (
some (Sum.inr (Sum.inl (false,a5,a6,a7,a8)))) (
cond (decide (a4 < a7.2.2.1)) (
some (Sum.inr (Sum.inl (false,a5,a6,a7,a8)))) (
ai (ah .i64 (a7.2.2.1+a7.2.2.2)) (
cond (decide ((a7.2.2.1+a7.2.2.2)≤a4)) (
some (Sum.inr (Sum.inl (false,a5,a6,a7,a8)))) (
cond (decide ((ix (ix a8 a3) a4)=(-1))) (
ai (ah .i64 (a4+1)) (
some (Sum.inl (a0,a1,(a2+1),a3,(a4+1),a5,a6,a7,a8)))) (
(F15 (a5,a0,a6.1,(ix (ix a8 a3) a4))).bind fun r8=>(
cond (!decide (r8.2=0)) (
some (Sum.inr (Sum.inl (false,a5,a6,a7,a8)))) (
cond (!decide (r8.1.1=2)) (
cond (!decide (r8.1.1=3)) (
some (Sum.inr (Sum.inl (false,a5,a6,a7,a8)))) (
cond (!decide (r8.1.2.1=a3)) (
some (Sum.inr (Sum.inl (false,a5,a6,a7,a8)))) (
cond (decide (a4 < r8.1.2.2.1)) (
some (Sum.inr (Sum.inl (false,a5,a6,a7,a8)))) (
ai (ah .i64 (r8.1.2.2.1+r8.1.2.2.2)) (
cond (decide ((r8.1.2.2.1+r8.1.2.2.2)≤a4)) (
some (Sum.inr (Sum.inl (false,a5,a6,a7,a8)))) (
ai (ah .i64 (a4+1)) (
some (Sum.inl (a0,a1,(a2+1),a3,(a4+1),a5,a6,a7,a8))))))))) (
cond (!decide (r8.1.2.1=a3)) (
some (Sum.inr (Sum.inl (false,a5,a6,a7,a8)))) (
cond (decide (a4 < r8.1.2.2.1)) (
some (Sum.inr (Sum.inl (false,a5,a6,a7,a8)))) (
ai (ah .i64 (r8.1.2.2.1+r8.1.2.2.2)) (
cond (decide ((r8.1.2.2.1+r8.1.2.2.2)≤a4)) (
some (Sum.inr (Sum.inl (false,a5,a6,a7,a8)))) (
ai (ah .i64 (a4+1)) (
some (Sum.inl (a0,a1,(a2+1),a3,(a4+1),a5,a6,a7,a8)))))))))))))))))) (
cond (decide ((ix (ix a8 a3) a4)=(-1))) (
ai (ah .i64 (a4+1)) (
some (Sum.inl (a0,a1,a2,a3,(a4+1),a5,a6,a7,a8)))) (
(F15 (a5,a0,a6.1,(ix (ix a8 a3) a4))).bind fun r9=>(
cond (!decide (r9.2=0)) (
some (Sum.inr (Sum.inl (false,a5,a6,a7,a8)))) (
cond (!decide (r9.1.1=2)) (
cond (!decide (r9.1.1=3)) (
some (Sum.inr (Sum.inl (false,a5,a6,a7,a8)))) (
cond (!decide (r9.1.2.1=a3)) (
some (Sum.inr (Sum.inl (false,a5,a6,a7,a8)))) (
cond (decide (a4 < r9.1.2.2.1)) (
some (Sum.inr (Sum.inl (false,a5,a6,a7,a8)))) (
ai (ah .i64 (r9.1.2.2.1+r9.1.2.2.2)) (
cond (decide ((r9.1.2.2.1+r9.1.2.2.2)≤a4)) (
some (Sum.inr (Sum.inl (false,a5,a6,a7,a8)))) (
ai (ah .i64 (a4+1)) (
some (Sum.inl (a0,a1,a2,a3,(a4+1),a5,a6,a7,a8))))))))) (
cond (!decide (r9.1.2.1=a3)) (
some (Sum.inr (Sum.inl (false,a5,a6,a7,a8)))) (
cond (decide (a4 < r9.1.2.2.1)) (
some (Sum.inr (Sum.inl (false,a5,a6,a7,a8)))) (
ai (ah .i64 (r9.1.2.2.1+r9.1.2.2.2)) (
cond (decide ((r9.1.2.2.1+r9.1.2.2.2)≤a4)) (
some (Sum.inr (Sum.inl (false,a5,a6,a7,a8)))) (
ai (ah .i64 (a4+1)) (
some (Sum.inl (a0,a1,a2,a3,(a4+1),a5,a6,a7,a8))))))))))))))) (
some (Sum.inr (Sum.inr (a0,a1,a2,a3,a5,a6,a7,a8)))))
theorem g5_1 (F12:dz)(F14:cV)(F13:lP)(F15:dn)(F17:eX)(F18:kM):XY (T5 F12 F14 F13 F15 F17 F18)=u9 (XZ F12 F14 F13 F15 F17 F18):=funext fun _=>by kernel_rfl
noncomputable def p5_1:=XZ P12 P14 P13 P15 jQ uT
noncomputable def X0:aa5:=af (fun x=>p5_1 x.1 x.2.1 x.2.2.1 x.2.2.2.1 x.2.2.2.2.1 x.2.2.2.2.2.1 x.2.2.2.2.2.2.1 x.2.2.2.2.2.2.2.1 x.2.2.2.2.2.2.2.2)
theorem v5_1:l5_1 (T5 P12 P14 P13 P15 jQ uT)=X0:=congrArg af (g5_1 P12 P14 P13 P15 jQ uT)
noncomputable def X1 (T:List FEnt):=aG (xs:=XX) XW (bf T (sb [1,1,1,1,1,1,1,1,0,1,2,2] c5))
noncomputable def l5_0 (T:List FEnt):=af (X1 T)
noncomputable def X2 (F12:dz)(F14:cV)(F13:lP)(F15:dn)(F17:eX)(F18:kM)(l5_1:aa5)(a0:List Y1)(a1:Bool)(a2 a3:Int)(a4:Y2×Int)(a5:cj)(a6:Y4)(a7:List Y2):Option aba:=
cond (decide (a3 < (↑a7.length:Int))) (
(l5_1 (a0,a1,a2,a3,0,a4,a5,a6,a7)).bind (fun y10=>Sum.elim (fun y11=>(
some (Sum.inr (Sum.inl (y11.1,y11.2.1,y11.2.2.1,y11.2.2.2.1,y11.2.2.2.2))))) (fun y12=>(
ai (ah .i64 (y12.2.2.2.1+1)) (
some (Sum.inl (y12.1,y12.2.1,y12.2.2.1,(y12.2.2.2.1+1),y12.2.2.2.2.1,y12.2.2.2.2.2.1,y12.2.2.2.2.2.2.1,y12.2.2.2.2.2.2.2))))) y10)) (
some (Sum.inr (Sum.inr (a1,a2,a4,a5,a6,a7))))
theorem g5_0 (F12:dz)(F14:cV)(F13:lP)(F15:dn)(F17:eX)(F18:kM):X1 (T5 F12 F14 F13 F15 F17 F18)=u8 (X2 F12 F14 F13 F15 F17 F18 (l5_1 (T5 F12 F14 F13 F15 F17 F18))):=funext fun _=>by kernel_rfl
noncomputable def p5_0:=X2 P12 P14 P13 P15 jQ uT X0
noncomputable def X3:aa6:=af (fun x=>p5_0 x.1 x.2.1 x.2.2.1 x.2.2.2.1 x.2.2.2.2.1 x.2.2.2.2.2.1 x.2.2.2.2.2.2.1 x.2.2.2.2.2.2.2)
theorem v5_0:l5_0 (T5 P12 P14 P13 P15 jQ uT)=X3:=congrArg af ((g5_0 P12 P14 P13 P15 jQ uT).trans (by rw[v5_1] <;> rfl))
theorem ok5:L.Fn Try.prog 5 187 [(.t 6)] (erase c5):=Fn.ofA aM Try.func5 _ _ (by kernel_rfl)
def sh5:FSh:=⟨⟨RN,[]⟩,RM,0,⟨⟨fk,[]⟩,[.bool],[],0⟩,true⟩
noncomputable def q5 (F12:dz)(F14:cV)(F13:lP)(F15:dn)(F17:eX)(F18:kM)(l5_0:aa6)(a0:Y2×Int)(a1:List Y1)(a2:cj):Option Bool:=
(F12 (a0,a1,a2.1)).bind fun r1=>(
cond (!r1) (
(F14 ()).bind fun r2=>(
some r2)) (
(F13 a2.2.1).bind fun r3=>(
cond (!r3) (
(F14 ()).bind fun r4=>(
some r4)) (
(F15 (a0,a1,a2.1,a2.2.1)).bind fun r5=>(
(F17 (a0,a1,a2.1)).bind fun r6=>(
cond (!decide (r5.2=0)) (
some false) (
cond (!decide (r6.1=0)) (
some false) (
(F18 (a0,r6.2)).bind fun r7=>(
cond (!r7.1) (
some false) (
cond (decide (r5.1.1=2)) (
(l5_0 (a1,true,0,0,a0,a2,r5.1,r7.2)).bind (fun y13=>Sum.elim (fun y14=>(
some y14.1)) (fun y15=>(
cond (!y15.1) (
(F14 ()).bind fun r16=>(
some r16)) (
cond (decide (y15.2.1=y15.2.2.2.2.1.2.2.2)) (
(F14 ()).bind fun r17=>(
some r17)) (
some false)))) y13)) (
cond (!(decide (r5.1.1=3))) (
cond (!decide (r5.1.2.1=(-1))) (
some false) (
cond (!decide (r5.1.2.2.1=(-1))) (
some false) (
(l5_0 (a1,decide (r5.1.1=3),0,0,a0,a2,r5.1,r7.2)).bind (fun y18=>Sum.elim (fun y19=>(
some y19.1)) (fun y20=>(
cond (!y20.1) (
(F14 ()).bind fun r21=>(
some r21)) (
cond (decide (y20.2.1=y20.2.2.2.2.1.2.2.2)) (
(F14 ()).bind fun r22=>(
some r22)) (
some false)))) y18)))) (
(l5_0 (a1,decide (r5.1.1=3),0,0,a0,a2,r5.1,r7.2)).bind (fun y23=>Sum.elim (fun y24=>(
some y24.1)) (fun y25=>(
cond (!y25.1) (
(F14 ()).bind fun r26=>(
some r26)) (
cond (decide (y25.2.1=y25.2.2.2.2.1.2.2.2)) (
(F14 ()).bind fun r27=>(
some r27)) (
some false)))) y23)))))))))))))
theorem g5 (F12:dz)(F14:cV)(F13:lP)(F15:dn)(F17:eX)(F18:kM):aO (T5 F12 F14 F13 F15 F17 F18) sh5 [(.t 6)] c5=u3 (q5 F12 F14 F13 F15 F17 F18 (l5_0 (T5 F12 F14 F13 F15 F17 F18))):=funext fun _=>by kernel_rfl
noncomputable def p5:=q5 P12 P14 P13 P15 jQ uT X3
noncomputable def P5:JL:=fun x=>p5 x.1 x.2.1 x.2.2
theorem v5:aO (T5 P12 P14 P13 P15 jQ uT) sh5 [(.t 6)] c5=P5:=(g5 P12 P14 P13 P15 jQ uT).trans (by rw[v5_0] <;> rfl)
theorem d5:DC Try.prog 5 sh5 P5:=aD v5 (aj t5 ok5 (by kernel_rfl))
noncomputable def T6 (F12:dz)(F14:cV)(F17:eX)(F16:gq)(F19:sU)(F20:jn):List FEnt:=[⟨12,sP,F12⟩,⟨14,pj,F14⟩,⟨17,xH,F17⟩,⟨16,xD,F16⟩,⟨19,Gc,F19⟩,⟨20,xE,F20⟩]
theorem t6:al Try.prog (T6 P12 P14 jQ P16 tr P20):=(aa d12 (by kernel_rfl) (aa WP (by kernel_rfl) (aa d17 (by kernel_rfl) (aa d16 (by kernel_rfl) (aa d19 (by kernel_rfl) (aa d20 (by kernel_rfl) ak))))))
def X4:LSh:=⟨[1,3,5,7,8,9],⟨[(.v bc),(.ptr 0 0),(.ptr 1 0),(.slc 2),(.slc 3),(.v y7)],k16⟩,[bc,y7,aW,y18,bc,bc],4,[0,1]⟩
def X5:List XSh:=[⟨(.exit 0),[1,3,5,7,8],⟨⟨[(.v bc),(.ptr 0 0),(.ptr 1 0),(.slc 2),(.slc 3)],k16⟩,[bc,aW,y18,bc,bc],[0,1],4⟩⟩]
noncomputable def c6:=bU Try.prog [] Try.f6 (.s .n (.s .n (.s .n (.s (.s .n (.b (.l X4 X5 (.s .n (.s (.b (.s .n (.s (.r [.a 6 true cW,.a 7 true cW]) (.s .n (.s (.r [.a 2 true cW,.a 3 true cW]) .n))))) .n))))) (.s .n (.s (.r [.f 4 7 []]) (.s (.r [.f 4 8 []]) .n)))))))
noncomputable def X6 (T:List FEnt):=aG (xs:=X5) X4 (bf T (sb [1,1,1,0,1,2,2] c6))
noncomputable def l6_0 (T:List FEnt):=af (X6 T)
noncomputable def BH (F12:dz)(F14:cV)(F17:eX)(F16:gq)(F19:sU)(F20:jn)(a0:List Y1)(a1:Int)(a2:Y2×Int)(a3:Int×Int)(a4 a5:List Y1):Option aa0:=
cond (decide (a1 < (↑a0.length:Int))) (
ai (ah .i64 (a1+a3.1)) (
ai (decide ((↑a0.length:Int)≠0)) (
ai (aC (Int.tmod (a1+a3.1) (↑a0.length:Int)) a0.length) (
ai (aC a1 a0.length) (
ai (bM 40 (List.length a4+List.length ([(ix a0 (Int.tmod (a1+a3.1) (↑a0.length:Int))),(ix a0 a1)]:List Y1))) (
cond (decide ((ix a0 (Int.tmod (a1+a3.1) (↑a0.length:Int))).2.1≤a3.2)) (
ai (bM 40 (List.length a5+List.length ([(ix a0 (Int.tmod (a1+a3.1) (↑a0.length:Int)))]:List Y1))) (
ai (ah .i64 (a1+1)) (
some (Sum.inl (a0,(a1+1),a2,a3,(a4++([(ix a0 (Int.tmod (a1+a3.1) (↑a0.length:Int))),(ix a0 a1)]:List Y1)),(a5++([(ix a0 (Int.tmod (a1+a3.1) (↑a0.length:Int)))]:List Y1))))))) (
ai (ah .i64 (a1+1)) (
some (Sum.inl (a0,(a1+1),a2,a3,(a4++([(ix a0 (Int.tmod (a1+a3.1) (↑a0.length:Int))),(ix a0 a1)]:List Y1)),a5)))))))))) (
some (Sum.inr (a0,a2,a3,a4,a5)))
theorem g6_0 (F12:dz)(F14:cV)(F17:eX)(F16:gq)(F19:sU)(F20:jn):X6 (T6 F12 F14 F17 F16 F19 F20)=u6 (BH F12 F14 F17 F16 F19 F20):=funext fun _=>by kernel_rfl
noncomputable def X7:=BH P12 P14 jQ P16 tr P20
noncomputable def Ju:aaS:=af (fun x=>X7 x.1 x.2.1 x.2.2.1 x.2.2.2.1 x.2.2.2.2.1 x.2.2.2.2.2)
theorem v6_0:l6_0 (T6 P12 P14 jQ P16 tr P20)=Ju:=congrArg af (g6_0 P12 P14 jQ P16 tr P20)
theorem ok6:L.Fn Try.prog 6 171 [(.t 6)] (erase c6):=Fn.ofA aM Try.func6 _ _ (by kernel_rfl)
def sh6:FSh:=⟨⟨[(.st aW),(.v bc),(.st y18)],[]⟩,[aW,bc,y18],0,⟨⟨fk,[]⟩,[.bool],[],0⟩,true⟩
noncomputable def q6 (F12:dz)(F14:cV)(F17:eX)(F16:gq)(F19:sU)(F20:jn)(l6_0:aaS)(a0:Y2×Int)(a1:List Y1)(a2:Int×Int):Option Bool:=
(F12 (a0,a1,a2.2)).bind fun r1=>(
cond (!r1) (
(F14 ()).bind fun r2=>(
some r2)) (
cond (decide (20 < (↑a1.length:Int))) (
(F14 ()).bind fun r3=>(
some r3)) (
cond (decide (a2.1 < 0)) (
(F14 ()).bind fun r4=>(
some r4)) (
cond (decide (100 < a2.1)) (
(F14 ()).bind fun r5=>(
some r5)) (
(l6_0 (a1,0,a0,a2,([]:List Y1),([]:List Y1))).bind fun y6=>(
(F17 (y6.2.1,y6.1,y6.2.2.1.2)).bind fun r7=>(
(F17 (y6.2.1,y6.2.2.2.1,y6.2.2.1.2)).bind fun r8=>(
(F17 (y6.2.1,y6.2.2.2.2,y6.2.2.1.2)).bind fun r9=>(
(F16 (y6.2.1,y6.1,y6.2.2.1.2)).bind fun r10=>(
(F16 (y6.2.1,y6.2.2.2.1,y6.2.2.1.2)).bind fun r11=>(
(F16 (y6.2.1,y6.2.2.2.2,y6.2.2.1.2)).bind fun r12=>(
cond (decide (r7.1=0)) (
cond (decide (r8.1=0)) (
cond (decide (r9.1=0)) (
(F19 (r7.2,r8.2)).bind fun r13=>(
cond r13.1 (
(F19 (r13.2.1,r9.2)).bind fun r14=>(
cond r14.1 (
cond (decide (r10.1=0)) (
cond (decide (r11.1=0)) (
cond (decide (r12.1=0)) (
(F20 (r10.2,r11.2)).bind fun r15=>(
cond r15 (
(F20 (r10.2,r12.2)).bind fun r16=>(
cond r16 (
(F14 ()).bind fun r17=>(
some r17)) (
some false))) (
some false))) (
some false)) (
some false)) (
some false)) (
some false))) (
some false))) (
some false)) (
some false)) (
some false)))))))))))))
theorem g6 (F12:dz)(F14:cV)(F17:eX)(F16:gq)(F19:sU)(F20:jn):aO (T6 F12 F14 F17 F16 F19 F20) sh6 [(.t 6)] c6=u3 (q6 F12 F14 F17 F16 F19 F20 (l6_0 (T6 F12 F14 F17 F16 F19 F20))):=funext fun _=>by kernel_rfl
noncomputable def p6:=q6 P12 P14 jQ P16 tr P20 Ju
noncomputable def P6:Y425:=fun x=>p6 x.1 x.2.1 x.2.2
theorem v6:aO (T6 P12 P14 jQ P16 tr P20) sh6 [(.t 6)] c6=P6:=(g6 P12 P14 jQ P16 tr P20).trans (by rw[v6_0] <;> rfl)
theorem d6:DC Try.prog 6 sh6 P6:=aD v6 (aj t6 ok6 (by kernel_rfl))
noncomputable def T7 (F12:dz)(F14:cV)(F17:eX)(F21:iQ)(F18:kM)(F22:gT)(F23:gT)(F15:dn):List FEnt:=[⟨12,sP,F12⟩,⟨14,pj,F14⟩,⟨17,xH,F17⟩,⟨21,xz,F21⟩,⟨18,Ge,F18⟩,⟨22,Ga,F22⟩,⟨23,Gb,F23⟩,⟨15,pS,F15⟩]
def X8:LSh:=⟨[1,3,5,7,9,11,12,13,14,15,16,17],⟨[(.v bc),(.ptr 0 0),(.ptr 1 0),(.v y7),(.slr 2),(.v y7),(.v y7),(.v y7),(.v y7),(.v y7),(.v y7),(.v y7)],RQ⟩,[bc,y7,y7,y7,y7,y7,y7,y7,y7,aW,iR,cG],3,[0,1,2]⟩
def X9:List XSh:=[⟨(.exit 4),[1,3,5,7,9,11,12,13,14,15,16],⟨⟨j2,RQ⟩,z3,[0,1,2],3⟩⟩]
def Ya:LSh:=⟨[1,3,5,7,9,11,12,13,14,15,16],⟨j2,RQ⟩,z3,3,[0,1,2]⟩
def Yb:List XSh:=[⟨(.exit 2),[1,3,5,7,9,11,12,13,14,15],⟨⟨[(.v bc),(.ptr 0 0),(.ptr 1 0),(.v y7),(.slr 2),(.v y7),(.v y7),(.v y7),(.v y7),(.v y7)],RQ⟩,[bc,y7,y7,y7,y7,y7,y7,aW,iR,cG],[0,1,2],3⟩⟩]
def Yc:LSh:=⟨[1,3,5,7,9,11,12,13,15],⟨[(.v bc),(.ptr 0 0),(.ptr 1 0),(.v y7),(.slr 2),(.v y7),(.v y7),(.v y7),(.v y7)],RQ⟩,[bc,y7,y7,y7,y7,y7,aW,iR,cG],3,[0,1,2]⟩
def Yd:List XSh:=[⟨.ret,[6],⟨⟨fk,RQ⟩,[.bool,aW,iR,cG],[0,1,2],3⟩⟩,⟨.normal,[1,3,5,7,11,12,13],⟨⟨[(.v bc),(.ptr 0 0),(.ptr 1 0),(.v y7),(.v y7),(.v y7),(.v y7)],RQ⟩,[bc,y7,y7,y7,y7,aW,iR,cG],[0,1,2],3⟩⟩]
noncomputable def c7:=bU Try.prog [(32,{ch:=[1,0,0,0,0,0,1,0,1,0,1,0,0],rs:=[5],ord:=[0,1,3,4,5,6,7,8,9,10,2,11,12] })] Try.f7 (.s .n (.s .n (.s .n (.s (.s .n (.b (.l Jr Js .n))) (.s .n (.s .n (.s .n (.s .n (.s (.s .n (.b (.l Ya Yb (.s .n (.s (.b (.s .n (.b (.l X8 X9 .n)))) .n))))) (.s .n (.s (.o Yc Yd .n) (.s .n (.s (.r [.a 9 true cW,.a 10 true cW,.a 11 true cW]) .n)))))))))))))
noncomputable def s7_0 (T:List FEnt):=aG (xs:=Js) Jr (bf T (sb [1,1,1,0,1,2,2] c7))
noncomputable def l7_0 (T:List FEnt):=af (s7_0 T)
noncomputable def q7_0 (F12:dz)(F14:cV)(F17:eX)(F21:iQ)(F18:kM)(F22 F23:gT)(F15:dn)(a0:List Y1)(a1 a2:Int)(a3:Y2×Int)(a4:cj):Option Sb:=
cond (decide (a2 < (↑a0.length:Int))) (
ai (aC a2 a0.length) (
cond (decide (a4.1 < (ix a0 a2).2.1)) (
(F14 ()).bind fun r6=>(
some (Sum.inr (Sum.inl (r6,a3,a4))))) (
ai (aC a2 a0.length) (
cond (decide ((ix a0 a2).2.2.2.1=99)) (
(F14 ()).bind fun r7=>(
some (Sum.inr (Sum.inl (r7,a3,a4))))) (
ai (aC a2 a0.length) (
ai (ah .i64 (a2+1)) (
some (Sum.inl (a0,(max a1 ((ix a0 a2).1)),(a2+1),a3,a4))))))))) (
some (Sum.inr (Sum.inr (a0,a1,a3,a4))))
noncomputable def p7_0:=q7_0 P12 P14 jQ P21 uT rk rl P15
noncomputable def L7_0:Gj:=af (fun x=>p7_0 x.1 x.2.1 x.2.2.1 x.2.2.2.1 x.2.2.2.2)
noncomputable def s7_2 (T:List FEnt):=aG (xs:=X9) X8 (bf T (sb [1,1,1,1,1,1,1,1,0,1,2,2,1,0,2,1,2,2] c7))
noncomputable def l7_2 (T:List FEnt):=af (s7_2 T)
noncomputable def q7_2 (F12:dz)(F14:cV)(F17:eX)(F21:iQ)(F18:kM)(F22 F23:gT)(F15:dn)(a0:List Y1)(a1 a2 a3 a4 a5 a6 a7 a8:Int)(a9:Y2×Int)(a10:cj)(a11:List Y2):Option aa1:=
ai (aC a7 a11.length) (
cond (decide (a8 < (↑(List.length (ix a11 a7)):Int))) (
ai (aC a7 a11.length) (
(F22 ((ix a11 a7),a8,a10.2.2)).bind fun r14=>(
cond r14 (
ai (ah .i64 (a5+1)) (
ai (aC a7 a11.length) (
(F23 ((ix a11 a7),a8,a10.2.2)).bind fun r15=>(
cond (!r15) (
ai (ah .i64 (a6+1)) (
ai (ah .i64 (a8+1)) (
some (Sum.inl (a0,a1,a2,a3,a4,(a5+1),(a6+1),a7,(a8+1),a9,a10,a11))))) (
ai (ah .i64 (a8+1)) (
some (Sum.inl (a0,a1,a2,a3,a4,(a5+1),a6,a7,(a8+1),a9,a10,a11)))))))) (
ai (ah .i64 (a8+1)) (
some (Sum.inl (a0,a1,a2,a3,a4,a5,a6,a7,(a8+1),a9,a10,a11))))))) (
some (Sum.inr (a0,a1,a2,a3,a4,a5,a6,a7,a9,a10,a11))))
noncomputable def p7_2:=q7_2 P12 P14 jQ P21 uT rk rl P15
noncomputable def L7_2:aaT:=af (fun x=>p7_2 x.1 x.2.1 x.2.2.1 x.2.2.2.1 x.2.2.2.2.1 x.2.2.2.2.2.1 x.2.2.2.2.2.2.1 x.2.2.2.2.2.2.2.1 x.2.2.2.2.2.2.2.2.1 x.2.2.2.2.2.2.2.2.2.1 x.2.2.2.2.2.2.2.2.2.2.1 x.2.2.2.2.2.2.2.2.2.2.2)
noncomputable def s7_1 (T:List FEnt):=aG (xs:=Yb) Ya (bf T (sb [1,1,1,1,1,1,1,1,0,1,2,2] c7))
noncomputable def l7_1 (T:List FEnt):=af (s7_1 T)
noncomputable def q7_1 (F12:dz)(F14:cV)(F17:eX)(F21:iQ)(F18:kM)(F22 F23:gT)(F15:dn)(l7_2:aaT)(a0:List Y1)(a1 a2 a3 a4 a5 a6 a7:Int)(a8:Y2×Int)(a9:cj)(a10:List Y2):Option aa2:=
cond (decide (a7 < (↑a10.length:Int))) (
(l7_2 (a0,a1,a2,a3,a4,a5,a6,a7,0,a8,a9,a10)).bind fun y16=>(
ai (ah .i64 (y16.2.2.2.2.2.2.2.1+1)) (
some (Sum.inl (y16.1,y16.2.1,y16.2.2.1,y16.2.2.2.1,y16.2.2.2.2.1,y16.2.2.2.2.2.1,y16.2.2.2.2.2.2.1,(y16.2.2.2.2.2.2.2.1+1),y16.2.2.2.2.2.2.2.2.1,y16.2.2.2.2.2.2.2.2.2.1,y16.2.2.2.2.2.2.2.2.2.2))))) (
some (Sum.inr (a0,a1,a2,a3,a4,a5,a6,a8,a9,a10)))
noncomputable def p7_1:=q7_1 P12 P14 jQ P21 uT rk rl P15 L7_2
noncomputable def L7_1:aaU:=af (fun x=>p7_1 x.1 x.2.1 x.2.2.1 x.2.2.2.1 x.2.2.2.2.1 x.2.2.2.2.2.1 x.2.2.2.2.2.2.1 x.2.2.2.2.2.2.2.1 x.2.2.2.2.2.2.2.2.1 x.2.2.2.2.2.2.2.2.2.1 x.2.2.2.2.2.2.2.2.2.2)
noncomputable def l7_3 (T:List FEnt):=eZ (xs:=Yd) Yc (bf T (sb [1,1,1,1,1,1,1,1,1,1,0,2] c7))
noncomputable def q7_3 (F12:dz)(F14:cV)(F17:eX)(F21:iQ)(F18:kM)(F22 F23:gT)(F15:dn)(a0:List Y1)(a1 a2 a3 a4 a5:Int)(a6:Y2×Int)(a7:cj)(a8:List Y2):Option aa3:=
cond (decide (a4=0)) (
cond (decide (a2 < 0)) (
some (Sum.inl (false,a6,a7,a8))) (
cond (decide ((↑a8.length:Int)≤a2)) (
some (Sum.inl (false,a6,a7,a8))) (
cond (decide (a3 < 0)) (
some (Sum.inl (false,a6,a7,a8))) (
ai (aC a2 a8.length) (
(F22 ((ix a8 a2),a3,a7.2.2)).bind fun r18=>(
cond (!r18) (
some (Sum.inl (false,a6,a7,a8))) (
ai (aC a2 a8.length) (
(F23 ((ix a8 a2),a3,a7.2.2)).bind fun r19=>(
cond r19 (
cond (decide (0 < a5)) (
some (Sum.inl (false,a6,a7,a8))) (
some (Sum.inr (a0,a1,a2,a3,a4,a6,a7,a8)))) (
some (Sum.inr (a0,a1,a2,a3,a4,a6,a7,a8)))))))))))) (
some (Sum.inr (a0,a1,a2,a3,a4,a6,a7,a8)))
noncomputable def p7_3:=q7_3 P12 P14 jQ P21 uT rk rl P15
noncomputable def L7_3:aa7:=fun x=>p7_3 x.1 x.2.1 x.2.2.1 x.2.2.2.1 x.2.2.2.2.1 x.2.2.2.2.2.1 x.2.2.2.2.2.2.1 x.2.2.2.2.2.2.2.1 x.2.2.2.2.2.2.2.2
def sh7:FSh:=⟨⟨RN,[]⟩,RM,0,⟨⟨fk,[]⟩,[.bool],[],0⟩,true⟩
noncomputable def q7 (F12:dz)(F14:cV)(F17:eX)(F21:iQ)(F18:kM)(F22 F23:gT)(F15:dn)(l7_0:Gj)(l7_1:aaU)(l7_3:aa7)(a0:Y2×Int)(a1:List Y1)(a2:cj):Option Bool:=
(F12 (a0,a1,a2.1)).bind fun r1=>(
cond (!r1) (
(F14 ()).bind fun r2=>(
some r2)) (
cond (decide (a2.2.2 < 1)) (
(F14 ()).bind fun r3=>(
some r3)) (
cond (decide (12 < a2.2.2)) (
(F14 ()).bind fun r4=>(
some r4)) (
cond (decide (40≤(↑a1.length:Int))) (
(F14 ()).bind fun r5=>(
some r5)) (
(l7_0 (a1,(-1),0,a0,a2)).bind (fun y8=>Sum.elim (fun y9=>(
some y9.1)) (fun y10=>(
(F17 (y10.2.2.1,y10.1,y10.2.2.2.1)).bind fun r11=>(
(F21 (y10.2.2.1,y10.1,y10.2.2.2.1,y10.2.2.2.2.2)).bind fun r12=>(
cond (!decide (r11.1=0)) (
some false) (
(F18 (y10.2.2.1,r11.2)).bind fun r13=>(
cond (!r13.1) (
some false) (
cond (!decide (r12.2.2=0)) (
cond (!decide (r12.2.2=3)) (
some false) (
(l7_1 (y10.1,y10.2.1,r12.1,r12.2.1,r12.2.2,0,0,0,y10.2.2.1,y10.2.2.2,r13.2)).bind fun y17=>(
cond ((decide (y17.2.2.2.2.1=0))!=(decide (0 < y17.2.2.2.2.2.1))) (
some false) (
(l7_3 (y17.1,y17.2.1,y17.2.2.1,y17.2.2.2.1,y17.2.2.2.2.1,y17.2.2.2.2.2.2.1,y17.2.2.2.2.2.2.2.1,y17.2.2.2.2.2.2.2.2.1,y17.2.2.2.2.2.2.2.2.2)).bind (fun y20=>Sum.elim (fun y21=>(
some y21.1)) (fun y22=>(
cond (decide (99≤y22.2.1)) (
(F14 ()).bind fun r23=>(
some r23)) (
ai (ah .i64 (y22.2.1+1)) (
ai (bM 40 y22.1.length) (
ai (bM 40 (List.length y22.1+List.length ([((y22.2.1+1),(y22.2.2.2.2.2.2.1.1,(1,(99,y22.2.2.2.2.2.2.1.2.2))))]:List Y1))) (
(F15 (y22.2.2.2.2.2.1,(y22.1++([((y22.2.1+1),(y22.2.2.2.2.2.2.1.1,(1,(99,y22.2.2.2.2.2.2.1.2.2))))]:List Y1)),y22.2.2.2.2.2.2.1.1,99)).bind fun r24=>(
cond (decide (y22.2.2.2.2.1=0)) (
cond (decide (r24.2=0)) (
cond (((decide (r24.1.1=2)&&decide (r24.1.2.1=y22.2.2.1))&&decide (r24.1.2.2.1=y22.2.2.2.1))&&decide (r24.1.2.2.2=y22.2.2.2.2.2.2.1.2.2)) (
(F14 ()).bind fun r25=>(
some r25)) (
some false)) (
some false)) (
cond (decide (r24.2=0)) (
cond (((decide (r24.1.1=1)&&decide (r24.1.2.1=(-1)))&&decide (r24.1.2.2.1=(-1)))&&decide (r24.1.2.2.2=y22.2.2.2.2.2.2.1.2.2)) (
(F14 ()).bind fun r26=>(
some r26)) (
some false)) (
some false))))))))) y20))))) (
(l7_1 (y10.1,y10.2.1,r12.1,r12.2.1,r12.2.2,0,0,0,y10.2.2.1,y10.2.2.2,r13.2)).bind fun y27=>(
cond ((decide (y27.2.2.2.2.1=0))!=(decide (0 < y27.2.2.2.2.2.1))) (
some false) (
(l7_3 (y27.1,y27.2.1,y27.2.2.1,y27.2.2.2.1,y27.2.2.2.2.1,y27.2.2.2.2.2.2.1,y27.2.2.2.2.2.2.2.1,y27.2.2.2.2.2.2.2.2.1,y27.2.2.2.2.2.2.2.2.2)).bind (fun y28=>Sum.elim (fun y29=>(
some y29.1)) (fun y30=>(
cond (decide (99≤y30.2.1)) (
(F14 ()).bind fun r31=>(
some r31)) (
ai (ah .i64 (y30.2.1+1)) (
ai (bM 40 y30.1.length) (
ai (bM 40 (List.length y30.1+List.length ([((y30.2.1+1),(y30.2.2.2.2.2.2.1.1,(1,(99,y30.2.2.2.2.2.2.1.2.2))))]:List Y1))) (
(F15 (y30.2.2.2.2.2.1,(y30.1++([((y30.2.1+1),(y30.2.2.2.2.2.2.1.1,(1,(99,y30.2.2.2.2.2.2.1.2.2))))]:List Y1)),y30.2.2.2.2.2.2.1.1,99)).bind fun r32=>(
cond (decide (y30.2.2.2.2.1=0)) (
cond (decide (r32.2=0)) (
cond (((decide (r32.1.1=2)&&decide (r32.1.2.1=y30.2.2.1))&&decide (r32.1.2.2.1=y30.2.2.2.1))&&decide (r32.1.2.2.2=y30.2.2.2.2.2.2.1.2.2)) (
(F14 ()).bind fun r33=>(
some r33)) (
some false)) (
some false)) (
cond (decide (r32.2=0)) (
cond (((decide (r32.1.1=1)&&decide (r32.1.2.1=(-1)))&&decide (r32.1.2.2.1=(-1)))&&decide (r32.1.2.2.2=y30.2.2.2.2.2.2.1.2.2)) (
(F14 ()).bind fun r34=>(
some r34)) (
some false)) (
some false))))))))) y28))))))))))) y8))))))
theorem g7 (F12:dz)(F14:cV)(F17:eX)(F21:iQ)(F18:kM)(F22 F23:gT)(F15:dn):aO (T7 F12 F14 F17 F21 F18 F22 F23 F15) sh7 [(.t 6)] c7=u3 (q7 F12 F14 F17 F21 F18 F22 F23 F15 (l7_0 (T7 F12 F14 F17 F21 F18 F22 F23 F15)) (l7_1 (T7 F12 F14 F17 F21 F18 F22 F23 F15)) (l7_3 (T7 F12 F14 F17 F21 F18 F22 F23 F15))):=funext fun _=>by kernel_rfl
noncomputable def p7:=q7 P12 P14 jQ P21 uT rk rl P15 L7_0 L7_1 L7_3
def Ye:FSh:=⟨⟨IL,[]⟩,IJ,0,⟨⟨KF,[]⟩,[y7,y7],[],0⟩,true⟩
end Go.Proofs.Ytdkaijofmigmbaa.D
