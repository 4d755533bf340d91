import Derived.Test.YtdkaijofmigmbaaH2f
import Derived.Test.YtdkaijofmigmbaaProg
set_option linter.unusedVariables false
set_option maxRecDepth 100000
namespace Go.Proofs.Ytdkaijofmigmbaa.D
open Go Go.Proofs Go.Proofs.Ytdkaijofmigmbaa.L
def Wq:List Ty:=[y19,y7,y7]
def LT:List Ty:=[y7,y7,y7,y7,bc]
def vF:List Ty:=[y7,y7,y7,bc]
def Js:List Ty:=[y7,y7,bc]
def j39:List RSh:=[(.st aY),(.v bc)]
def j24:List RSh:=[(.tup [(.agg [(.slc 0),(.v y7)]),(.slc 1)])]
def lZ:List RSh:=[(.v y7)]
def j41:List RSh:=[(.v jb),(.v jb)]
def Wr:List RSh:=[(.v y19),(.v y7)]
def Rp:List RSh:=[(.slc 0),(.v y7)]
def zS:List RSh:=[(.slc 0)]
def Vb:List RSh:=[(.slc 0),(.v y7),(.v y7),(.fn 80 []),(.v y7),(.v y7)]
def j15:List RSh:=[(.slc 0),(.v y7),(.v y7),(.fn 80 []),(.v y7)]
def Vc:List RSh:=[(.slc 0),(.v y7),(.v y7),(.fn 80 [])]
def j16:List RSh:=[(.slc 0),(.v y7),(.v y7),(.v y7),(.fn 80 [])]
def j17:List RSh:=[(.slc 0),(.fn 80 []),(.v y7),(.v y7),(.v y7)]
def j11:List RSh:=[(.slc 0),(.v y7),(.v y7),(.ptr 1 0),(.v jb),(.v y7)]
def LU:List RSh:=[(.tup [(.v y7),(.v y7)])]
def Ig:List RSh:=[(.slc 0),(.v y7),(.v y7)]
def dg:List (Nat×OSh):=[(0,(.row 3 y7))]
def k13:List (Nat×OSh):=[(0,(.box [(.v y19),(.v y7),(.slr 1),(.mp 2),.emp])),(1,(.rows 22 3 y7)),(2,(.pmap 3)),(3,(.pool cW))]
def dt:List (Nat×OSh):=[(0,(.row 40 cW))]
def Vd:List (Nat×OSh):=[(0,(.row 40 cW)),(1,(.boxT y7))]
noncomputable def T24:List FEnt:=[]
theorem t24:al Try.prog T24:=aj
noncomputable def c24:=bK Try.prog [] Try.f24 .n
theorem ok24:L.Fn Try.prog 24 14 [(.t 4)] (erase c24):=oA Try.func24
def Cb:FSh:=⟨⟨j39,[]⟩,[aY,bc],0,⟨⟨fE,[]⟩,[.bool],[],0⟩,true⟩
noncomputable def q24 (a0:Y2×Int)(a1:List Y1):Option Bool:=
cond (decide (30 < (↑a0.1.length:Int))) (
some true) (
some (decide (60 < (↑a1.length:Int))))
theorem g24:aK T24 Cb [(.t 4)] c24=u2 q24:=funext fun _=>by kernel_rfl
noncomputable def p24:=q24
noncomputable def wN:Ij:=u2 p24
theorem v24:aK T24 Cb [(.t 4)] c24=wN:=g24
theorem d24:DC Try.prog 24 Cb wN:=dD v24 t24 ok24
noncomputable def T41:List FEnt:=[]
theorem t41:al Try.prog T41:=aj
noncomputable def c41:=bK Try.prog [] Try.f41 (.s .n (.s (.r [.a 0 false y7,.a 7 true cW]) .n))
theorem ok41:L.Fn Try.prog 41 10 [(.cell 0 true 2),(.t 1)] (erase c41):=oA Try.func41
def Jt:FSh:=⟨⟨[],[]⟩,[],0,⟨⟨j24,[(0,(.row 3 y7)),(1,(.row 40 cW))]⟩,[y7,y19,bc],[],2⟩,true⟩
noncomputable def q41:Option Y86:=
some (10,([5,3]:List Int),([(1,(0,(1,(1,2)))),(2,(1,(1,(2,2)))),(3,(5,(2,(1,0)))),(4,(12,(1,(3,3)))),(5,(11,(2,(2,0))))]:List Y1))
theorem g41:aK T41 Jt [(.cell 0 true 2),(.t 1)] c41 ()=q41:=by kernel_rfl
noncomputable def p41:Option Y86:=q41
noncomputable def P41:Y98:=fun x=>p41
theorem v41:aK T41 Jt [(.cell 0 true 2),(.t 1)] c41=P41:=funext fun x=>(g41)
theorem d41:DC Try.prog 41 Jt P41:=dD v41 t41 ok41
noncomputable def T69 (F60:Y5):List FEnt:=[⟨60,tC,F60⟩]
theorem t69:al Try.prog (T69 P60):=dK aj U9
noncomputable def c69:=bK Try.prog [] Try.f69 .n
theorem ok69:L.Fn Try.prog 69 6 [(.t 2)] (erase c69):=oA Try.func69
def Ju:FSh:=⟨⟨lZ,[]⟩,[y7],0,⟨⟨fE,[]⟩,[.bool],[],0⟩,true⟩
noncomputable def q69 (F60:Y5)(a0:Int):Option Bool:=
(F60 (a0,1,12)).bind fun r1=>(
some (!r1))
theorem g69 (F60:Y5)(a0:Int):aK (T69 F60) Ju [(.t 2)] c69 a0=q69 F60 a0:=by kernel_rfl
noncomputable def p69:=q69 P60
noncomputable def P69:mm:=fun x=>p69 x
theorem v69:aK (T69 P60) Ju [(.t 2)] c69=P69:=funext fun x=>(g69 P60 x)
theorem d69:DC Try.prog 69 Ju P69:=dD v69 t69 ok69
noncomputable def Ve (F69:mm):List FEnt:=[⟨69,Ju,F69⟩]
theorem t74:al Try.prog (Ve P69):=dK aj d69
def LV:LSh:=⟨[0,1,7,8],⟨[(.v y19),(.fn 69 []),(.v y7),(.v y7)],[]⟩,Wq,0,[]⟩
def zT:List XSh:=[⟨.ret,[4],⟨⟨lZ,[]⟩,[y7],[],0⟩⟩,⟨(.exit 0),[],⟨⟨[],[]⟩,[],[],0⟩⟩]
noncomputable def c74:=bK Try.prog [] Try.f74 (.s .n (.s (.s .n (.b (.l LV zT .n))) .n))
noncomputable def LW (T:List FEnt):=aD (xs:=zT) LV (bd T (sb [1,0,1,2,2] c74))
noncomputable def l74_0 (T:List FEnt):=af (LW T)
noncomputable def rO (F69:mm)(a0:List Int)(a1 a2:Int):Option (Y72⊕Y54):=
cond (decide (a2 < a1)) (
ai (aA a2 a0.length) (
(F69 (ix a0 a2)).bind fun r1=>(
cond r1 (
some (Sum.inr (Sum.inl a2))) (
ai (ah .i64 (a2+1)) (
some (Sum.inl (a0,a1,(a2+1)))))))) (
some (Sum.inr (Sum.inr ())))
theorem Ws (F69:mm):LW (Ve F69)=u3 (rO F69):=funext fun _=>by kernel_rfl
noncomputable def LX:=rO P69
noncomputable def rP:Y58:=af (u3 LX)
theorem v74_0:l74_0 (Ve P69)=rP:=congrArg af (Ws P69)
theorem ok74:L.Fn Try.prog 74 19 [(.t 4)] (erase c74):=oA Try.func74
def Jv:FSh:=⟨⟨[(.v y19),(.fn 69 [])],[]⟩,[y19],0,⟨⟨lZ,[]⟩,[y7],[],0⟩,true⟩
noncomputable def Vf (F69:mm)(l74_0:Y58)(a0:List Int):Option Int:=
(l74_0 (a0,(↑a0.length:Int),0)).bind (fun y2=>Sum.elim (fun y3=>(
some y3)) (fun y4=>(
some (-1))) y2)
theorem g74 (F69:mm)(a0:List Int):aK (Ve F69) Jv [(.t 4)] c74 a0=Vf F69 (l74_0 (Ve F69)) a0:=by kernel_rfl
noncomputable def p74:=Vf P69 rP
noncomputable def P74:C1:=fun x=>p74 x
theorem v74:aK (Ve P69) Jv [(.t 4)] c74=P74:=funext fun x=>(g74 P69 x).trans (by rw[v74_0] <;> rfl)
theorem d74:DC Try.prog 74 Jv P74:=dD v74 t74 ok74
noncomputable def T58 (F74:C1):List FEnt:=[⟨74,Jv,F74⟩]
theorem t58:al Try.prog (T58 P74):=dK aj d74
noncomputable def c58:=bK Try.prog [] Try.f58 .n
theorem ok58:L.Fn Try.prog 58 9 [(.t 4)] (erase c58):=oA Try.func58
def Jw:FSh:=⟨⟨[(.v y19),(.fn 69 [])],[]⟩,[y19],0,⟨⟨fE,[]⟩,[.bool],[],0⟩,true⟩
noncomputable def q58 (F74:C1)(a0:List Int):Option Bool:=
(F74 a0).bind fun r1=>(
some (decide (0≤r1)))
theorem g58 (F74:C1)(a0:List Int):aK (T58 F74) Jw [(.t 4)] c58 a0=q58 F74 a0:=by kernel_rfl
noncomputable def p58:=q58 P74
noncomputable def P58:Y60:=fun x=>p58 x
theorem v58:aK (T58 P74) Jw [(.t 4)] c58=P58:=funext fun x=>(g58 P74 x)
theorem d58:DC Try.prog 58 Jw P58:=dD v58 t58 ok58
noncomputable def T48 (F60:Y5)(F58:Y60):List FEnt:=[⟨60,tC,F60⟩,⟨58,Jw,F58⟩]
theorem t48:al Try.prog (T48 P60 P58):=dK (dK aj d58) U9
noncomputable def c48:=bK Try.prog [] Try.f48 .n
theorem ok48:L.Fn Try.prog 48 20 [(.t 2)] (erase c48):=oA Try.func48
def Jx:FSh:=⟨⟨[(.st aY)],[]⟩,[aY],0,⟨⟨fE,[]⟩,[.bool],[],0⟩,true⟩
noncomputable def q48 (F60:Y5)(F58:Y60)(a0:Y2×Int):Option Bool:=
(F60 ((↑a0.1.length:Int),1,6)).bind fun r1=>(
cond r1 (
(F58 a0.1).bind fun r2=>(
cond (!r2) (
(F60 (a0.2,1,600)).bind fun r3=>(
some r3)) (
some false))) (
some false))
theorem g48 (F60:Y5)(F58:Y60)(a0:Y2×Int):aK (T48 F60 F58) Jx [(.t 2)] c48 a0=q48 F60 F58 a0:=by kernel_rfl
noncomputable def p48:=q48 P60 P58
noncomputable def Cc:l9:=fun x=>p48 x
theorem v48:aK (T48 P60 P58) Jx [(.t 2)] c48=Cc:=funext fun x=>(g48 P60 P58 x)
theorem d48:DC Try.prog 48 Jx Cc:=dD v48 t48 ok48
noncomputable def T49 (F60:Y5):List FEnt:=[⟨60,tC,F60⟩]
theorem t49:al Try.prog (T49 P60):=dK aj U9
noncomputable def c49:=bK Try.prog [] Try.f49 .n
theorem ok49:L.Fn Try.prog 49 32 [(.t 2)] (erase c49):=oA Try.func49
def Jy:FSh:=⟨⟨[(.st cW)],[]⟩,[cW],0,⟨⟨fE,[]⟩,[.bool],[],0⟩,true⟩
noncomputable def q49 (F60:Y5)(a0:Y1):Option Bool:=
cond (decide (a0.2.2.1=1)) (
(F60 (a0.1,0,99)).bind fun r1=>(
cond r1 (
(F60 (a0.2.2.2.1,0,99)).bind fun r2=>(
cond r2 (
(F60 (a0.2.1,0,9999)).bind fun r3=>(
cond r3 (
(F60 (a0.2.2.2.2,1,12)).bind fun r4=>(
some r4)) (
some false))) (
some false))) (
some false))) (
cond (decide (a0.2.2.1=2)) (
cond (decide (a0.2.2.1=2)) (
(F60 (a0.1,0,99)).bind fun r5=>(
cond r5 (
(F60 (a0.2.2.2.1,0,99)).bind fun r6=>(
cond r6 (
(F60 (a0.2.1,0,9999)).bind fun r7=>(
cond r7 (
(F60 (a0.2.2.2.2,0,0)).bind fun r8=>(
some r8)) (
some false))) (
some false))) (
some false))) (
some false)) (
cond (decide (a0.2.2.1=3)) (
(F60 (a0.1,0,99)).bind fun r9=>(
cond r9 (
(F60 (a0.2.2.2.1,0,99)).bind fun r10=>(
cond r10 (
(F60 (a0.2.1,0,9999)).bind fun r11=>(
cond r11 (
(F60 (a0.2.2.2.2,0,0)).bind fun r12=>(
some r12)) (
some false))) (
some false))) (
some false))) (
some false)))
theorem g49 (F60:Y5)(a0:Y1):aK (T49 F60) Jy [(.t 2)] c49 a0=q49 F60 a0:=by kernel_rfl
noncomputable def p49:=q49 P60
noncomputable def Cd:Bh:=fun x=>p49 x
theorem v49:aK (T49 P60) Jy [(.t 2)] c49=Cd:=funext fun x=>(g49 P60 x)
theorem d49:DC Try.prog 49 Jy Cd:=dD v49 t49 ok49
noncomputable def Vg (F48:l9)(F49:Bh):List FEnt:=[⟨48,Jx,F48⟩,⟨49,Jy,F49⟩]
theorem t26:al Try.prog (Vg Cc Cd):=dK (dK aj d49) d48
def LY:LSh:=⟨[5,17,18,19],⟨[(.mp 0),(.v bc),(.v y7),(.v y7)],[(0,(.imap 0 true cW))]⟩,[bc,y7,y7,TA],1,[0]⟩
def LZ:List XSh:=[⟨.ret,[4],⟨⟨lZ,[(0,(.imap 0 true cW))]⟩,[y7,TA],[0],1⟩⟩,⟨(.exit 0),[],⟨⟨[],[(0,(.imap 0 true cW))]⟩,[TA],[0],1⟩⟩]
noncomputable def c26:=bK Try.prog [] Try.f26 (.s .n (.s .n (.s .n (.s (.r [.a 0 true cW]) (.s (.s .n (.b (.l LY LZ .n))) .n)))))
noncomputable def Ma (T:List FEnt):=aD (xs:=LZ) LY (bd T (sb [1,1,1,1,0,1,2,2] c26))
noncomputable def l26_0 (T:List FEnt):=af (Ma T)
noncomputable def vG (F48:l9)(F49:Bh)(a0:List Y1)(a1 a2:Int)(a3:List Y73):Option ((Y8×Int×Int×Y88)⊕Y126):=
cond (decide (a2 < a1)) (
ai (aA a2 a0.length) (
(F49 (ix a0 a2)).bind fun r2=>(
cond (!r2) (
some (Sum.inr (Sum.inl (41,a3)))) (
cond (Option.isSome (dm a3 [(ix a0 a2).1])) (
cond (!((((decide ((xl (dm a3 [(ix a0 a2).1]) (0,(0,(0,(0,0))))).1=(ix a0 a2).1)&&decide ((xl (dm a3 [(ix a0 a2).1]) (0,(0,(0,(0,0))))).2.1=(ix a0 a2).2.1))&&decide ((xl (dm a3 [(ix a0 a2).1]) (0,(0,(0,(0,0))))).2.2.1=(ix a0 a2).2.2.1))&&decide ((xl (dm a3 [(ix a0 a2).1]) (0,(0,(0,(0,0))))).2.2.2.1=(ix a0 a2).2.2.2.1))&&decide ((xl (dm a3 [(ix a0 a2).1]) (0,(0,(0,(0,0))))).2.2.2.2=(ix a0 a2).2.2.2.2))) (
some (Sum.inr (Sum.inl (41,a3)))) (
ai (ah .i64 (a2+1)) (
some (Sum.inl (a0,a1,(a2+1),(jq a3 [(ix a0 a2).1] (ix a0 a2))))))) (
ai (ah .i64 (a2+1)) (
some (Sum.inl (a0,a1,(a2+1),(jq a3 [(ix a0 a2).1] (ix a0 a2)))))))))) (
some (Sum.inr (Sum.inr a3)))
theorem Wt (F48:l9)(F49:Bh):Ma (Vg F48 F49)=u4 (vG F48 F49):=funext fun _=>by kernel_rfl
noncomputable def Mb:=vG Cc Cd
noncomputable def L26_0:Y127:=af (u4 Mb)
theorem Wu:l26_0 (Vg Cc Cd)=L26_0:=congrArg af (Wt Cc Cd)
theorem ok26:L.Fn Try.prog 26 46 [(.t 4)] (erase c26):=oA Try.func26
def Ce:FSh:=⟨⟨j39,[]⟩,[aY,bc],0,⟨⟨lZ,[]⟩,[y7],[],0⟩,true⟩
noncomputable def q26 (F48:l9)(F49:Bh)(l26_0:Y127)(a0:Y2×Int)(a1:List Y1):Option Int:=
(F48 a0).bind fun r1=>(
cond (!r1) (
some 40) (
cond (decide (40 < (↑a1.length:Int))) (
some 41) (
(l26_0 (a1,(↑a1.length:Int),0,([]:List Y73))).bind (fun y3=>Sum.elim (fun y4=>(
some y4.1)) (fun y5=>(
some 0)) y3))))
theorem g26 (F48:l9)(F49:Bh):aK (Vg F48 F49) Ce [(.t 4)] c26=u2 (q26 F48 F49 (l26_0 (Vg F48 F49))):=funext fun _=>by kernel_rfl
noncomputable def p26:=q26 Cc Cd L26_0
noncomputable def vH:ux:=u2 p26
theorem v26:aK (Vg Cc Cd) Ce [(.t 4)] c26=vH:=(g26 Cc Cd).trans (by rw[Wu] <;> rfl)
theorem d26:DC Try.prog 26 Ce vH:=dD v26 t26 ok26
noncomputable def Rq:List FEnt:=[]
theorem t128:al Try.prog Rq:=aj
noncomputable def Rr:=bK Try.prog [] Try.f128 .n
theorem Wv:L.Fn Try.prog 128 51 [(.t 4),(.t 5)] (erase Rr):=oA Try.func128
def zU:FSh:=⟨⟨j41,[]⟩,[jb,jb],0,⟨⟨[(.tup j41)],[]⟩,[jb,jb],[],0⟩,true⟩
noncomputable def Ww (a0 a1:Int):Option yz:=
ai (ah .u64 ((bu .u64 a0 4294967295)*(bu .u64 a1 4294967295))) (
ai (ah .u64 ((bH .u64 a0 32)*(bu .u64 a1 4294967295))) (
ai (ah .u64 (((bH .u64 a0 32)*(bu .u64 a1 4294967295))+(bH .u64 ((bu .u64 a0 4294967295)*(bu .u64 a1 4294967295)) 32))) (
ai (ah .u64 ((bu .u64 a0 4294967295)*(bH .u64 a1 32))) (
ai (ah .u64 ((bu .u64 (((bH .u64 a0 32)*(bu .u64 a1 4294967295))+(bH .u64 ((bu .u64 a0 4294967295)*(bu .u64 a1 4294967295)) 32)) 4294967295)+((bu .u64 a0 4294967295)*(bH .u64 a1 32)))) (
ai (ah .u64 ((bH .u64 a0 32)*(bH .u64 a1 32))) (
ai (ah .u64 (((bH .u64 a0 32)*(bH .u64 a1 32))+(bH .u64 (((bH .u64 a0 32)*(bu .u64 a1 4294967295))+(bH .u64 ((bu .u64 a0 4294967295)*(bu .u64 a1 4294967295)) 32)) 32))) (
ai (ah .u64 ((((bH .u64 a0 32)*(bH .u64 a1 32))+(bH .u64 (((bH .u64 a0 32)*(bu .u64 a1 4294967295))+(bH .u64 ((bu .u64 a0 4294967295)*(bu .u64 a1 4294967295)) 32)) 32))+(bH .u64 ((bu .u64 (((bH .u64 a0 32)*(bu .u64 a1 4294967295))+(bH .u64 ((bu .u64 a0 4294967295)*(bu .u64 a1 4294967295)) 32)) 4294967295)+((bu .u64 a0 4294967295)*(bH .u64 a1 32))) 32))) (
ai (ah .u64 (a0*a1)) (
some (((((bH .u64 a0 32)*(bH .u64 a1 32))+(bH .u64 (((bH .u64 a0 32)*(bu .u64 a1 4294967295))+(bH .u64 ((bu .u64 a0 4294967295)*(bu .u64 a1 4294967295)) 32)) 32))+(bH .u64 ((bu .u64 (((bH .u64 a0 32)*(bu .u64 a1 4294967295))+(bH .u64 ((bu .u64 a0 4294967295)*(bu .u64 a1 4294967295)) 32)) 4294967295)+((bu .u64 a0 4294967295)*(bH .u64 a1 32))) 32)),(a0*a1)))))))))))
theorem g128:aK Rq zU [(.t 4),(.t 5)] Rr=u2 Ww:=funext fun _=>by kernel_rfl
noncomputable def p128:=Ww
noncomputable def Cf:Bi:=u2 p128
theorem v128:aK Rq zU [(.t 4),(.t 5)] Rr=Cf:=g128
theorem d128:DC Try.prog 128 zU Cf:=dD v128 t128 Wv
noncomputable def Rs (F128:Bi):List FEnt:=[⟨128,zU,F128⟩]
theorem t122:al Try.prog (Rs Cf):=dK aj d128
noncomputable def Rt:=bK Try.prog [] Try.f122 .n
theorem Wx:L.Fn Try.prog 122 30 [(.t 4),(.t 5)] (erase Rt):=oA Try.func122
def zV:FSh:=⟨⟨j41,[]⟩,[jb,jb],0,⟨⟨[(.tup j41)],[]⟩,[jb,jb],[],0⟩,true⟩
noncomputable def Wy (F128:Bi)(a0 a1:Int):Option yz:=
(F128 (a0,a1)).bind fun r1=>(
some (r1.1,r1.2))
theorem g122 (F128:Bi):aK (Rs F128) zV [(.t 4),(.t 5)] Rt=u2 (Wy F128):=funext fun _=>by kernel_rfl
noncomputable def p122:=Wy Cf
noncomputable def n7:Bi:=u2 p122
theorem v122:aK (Rs Cf) zV [(.t 4),(.t 5)] Rt=n7:=g122 Cf
theorem d122:DC Try.prog 122 zV n7:=dD v122 t122 Wx
noncomputable def tD (F122:Bi):List FEnt:=[⟨122,zV,F122⟩]
theorem t107:al Try.prog (tD n7):=dK aj d122
def Ek:LSh:=⟨[0,1],⟨Wr,[]⟩,[y19,y7],0,[]⟩
def El:List XSh:=[⟨.normal,[0,1],⟨⟨Wr,[]⟩,[y19,y7],[],0⟩⟩]
def Em:LSh:=⟨[7,8],⟨Rp,dg⟩,[y7,y19],1,[0]⟩
def En:List XSh:=[⟨(.exit 0),[7],⟨⟨zS,dg⟩,[y19],[0],1⟩⟩]
noncomputable def Eo:=bK Try.prog [(9,{ch:=[0,0,0,1,0,0,1,0,0,0],rs:=[] })] Try.f107 (.s .n (.s (.o Ek El .n) (.s .n (.s .n (.s (.r [.a 2 false y7]) (.s .n (.s (.b (.l Em En .n)) .n)))))))
noncomputable def l107_0 (T:List FEnt):=fp (xs:=El) Ek (bd T (sb [1,0,2] Eo))
noncomputable def Ep (F122:Bi)(a0:List Int)(a1:Int):Option dE:=
cond (decide (a1 < 0)) (
none) (
some (a0,a1))
theorem Ru (F122:Bi):l107_0 (tD F122)=u2 (Ep F122):=funext fun _=>by kernel_rfl
noncomputable def Rv:=Ep n7
noncomputable def Er:Y78:=fun x=>Rv x.1 x.2
theorem Rw:l107_0 (tD n7)=Er:=Ru n7
noncomputable def Es (T:List FEnt):=aD (xs:=En) Em (bd T (sb [1,1,1,1,1,1,0,2,2] Eo))
noncomputable def l107_1 (T:List FEnt):=af (Es T)
noncomputable def Et (F122:Bi)(a0:Int)(a1:List Int):Option (Ii⊕Y2):=
cond (decide (a0 < (↑a1.length:Int))) (
ai (decide (0≤a0)) (
ai (decide (a0≤(↑a1.length:Int))) (
ai (decide ((↑a1.length:Int)≤(↑a1.length:Int))) (
ai (decide (0 < List.length a1)) (
ai (decide ((0:Int)≤0)) (
ai (decide (0≤a0)) (
ai (decide (a0≤(↑a1.length:Int))) (
ai (decide (0 < List.length a1)) (
ai (ah .i64 (a0+(↑(min (List.length (List.take (Int.toNat (a0-0)) (List.drop (Int.toNat 0) a1))) (Int.toNat ((↑a1.length:Int)-a0))):Int))) (
some (Sum.inl ((a0+(↑(min (List.length (List.take (Int.toNat (a0-0)) (List.drop (Int.toNat 0) a1))) (Int.toNat ((↑a1.length:Int)-a0))):Int)),(n5 a1 a0.toNat (List.take (min (List.length (List.take (Int.toNat (a0-0)) (List.drop (Int.toNat 0) a1))) (Int.toNat ((↑a1.length:Int)-a0))) (List.take (Int.toNat (a0-0)) (List.drop (Int.toNat 0) a1)))))))))))))))) (
some (Sum.inr a1))
theorem Rx (F122:Bi):Es (tD F122)=u2 (Et F122):=funext fun _=>by kernel_rfl
noncomputable def Ry:=Et n7
noncomputable def Eu:Y64:=af (u2 Ry)
theorem Rz:l107_1 (tD n7)=Eu:=congrArg af (Rx n7)
theorem Wz:L.Fn Try.prog 107 48 [(.t 4)] (erase Eo):=oA Try.func107
def zW:FSh:=⟨⟨Wr,[]⟩,[y19,y7],0,⟨⟨zS,dg⟩,[y19],[],1⟩,true⟩
noncomputable def WA (F122:Bi)(l107_0:Y78)(l107_1:Y64)(a0:List Int)(a1:Int):Option Y2:=
(l107_0 (a0,a1)).bind fun y1=>(
ai (ah .u64 (↑y1.1.length:Int)) (
ai (ah .u64 y1.2) (
(F122 ((↑y1.1.length:Int),y1.2)).bind fun r2=>(
cond (decide (0 < r2.1)) (
none) (
cond (decide (9223372036854775807 < r2.2)) (
none) (
ai (ah .i64 r2.2) (
ai (decide (0≤r2.2)) (
ai (decide (8*r2.2≤140737488355328)) (
(l107_1 ((↑(min y1.1.length (List.length (gN r2.2.toNat 0:List Int))):Int),(n5 (gN r2.2.toNat 0:List Int) 0 (List.take (min y1.1.length (List.length (gN r2.2.toNat 0:List Int))) y1.1)))).bind fun y3=>(
some y3))))))))))
theorem g107 (F122:Bi):aK (tD F122) zW [(.t 4)] Eo=u2 (WA F122 (l107_0 (tD F122)) (l107_1 (tD F122))):=funext fun _=>by kernel_rfl
noncomputable def p107:=WA n7 Er Eu
noncomputable def P107:VP:=u2 p107
theorem v107:aK (tD n7) zW [(.t 4)] Eo=P107:=(g107 n7).trans (by rw[Rw,Rz] <;> rfl)
theorem d107:DC Try.prog 107 zW P107:=dD v107 t107 Wz
noncomputable def Vh (F107:VP):List FEnt:=[⟨107,zW,F107⟩]
theorem t77:al Try.prog (Vh P107):=dK aj d107
def Mc:LSh:=⟨[3,11,12,13],⟨[(.ptr 0 0),(.v y19),(.v y7),(.v y7)],k13⟩,[y19,y7,y7,y19,y7,cD,oa],4,[0,2,3]⟩
def Md:List XSh:=[⟨(.exit 0),[3],⟨⟨If,[(0,(.box [(.v y19),(.v y7),(.slr 4),(.mp 2),.emp])),(2,(.pmap 3)),(3,(.pool cW)),(4,(.rows 22 3 y7))]⟩,[y19,y7,oa,cD],[0,2,3],5⟩⟩]
noncomputable def c77:=bK Try.prog [(5,{ch:=[0,0,0,0,1,1,0,0,0,0,0,0,1],rs:=[3] })] Try.f77 (.s .n (.s (.r [.a 1 true (.opt cW)]) (.s (.s .n (.b (.l Mc Md (.s .n (.s .n (.s (.b (.s .n (.r [.a 5 false y7,.a 8 true y19,.a 9 true y19]))) .n)))))) .n)))
noncomputable def Me (T:List FEnt):=aD (xs:=Md) Mc (bd T (sb [1,1,0,1,2,2] c77))
noncomputable def l77_0 (T:List FEnt):=af (Me T)
noncomputable def rQ (F107:VP)(a0:List Int)(a1 a2:Int)(a3:List Int)(a4:Int)(a5:List Y2)(a6:List Y3):Option ((Y2×Int×Int×Y2×Int×Y9×iQ)⊕Y79):=
cond (decide (a2 < a1)) (
ai (aA a2 a0.length) (
(F107 (([(-1)]:List Int),(ix a0 a2))).bind fun r1=>(
ai (bC 24 (List.length a5+List.length ([r1]:List Y2))) (
ai (ah .i64 (a2+1)) (
some (Sum.inl (a0,a1,(a2+1),a3,a4,(a5++([r1]:List Y2)),a6))))))) (
some (Sum.inr (a3,a4,a6,a5)))
theorem WB (F107:VP):Me (Vh F107)=u7 (rQ F107):=funext fun _=>by kernel_rfl
noncomputable def Mf:=rQ P107
noncomputable def vI:Y101:=af (u7 Mf)
theorem v77_0:l77_0 (Vh P107)=vI:=congrArg af (WB P107)
theorem ok77:L.Fn Try.prog 77 31 [(.t 2)] (erase c77):=oA Try.func77
def Jz:FSh:=⟨⟨[(.st aY)],[]⟩,[aY],0,⟨⟨If,k13⟩,[y19,y7,cD,oa],[],4⟩,false⟩
noncomputable def q77 (F107:VP)(l77_0:Y101)(a0:Y2×Int):Option Y91:=
(l77_0 (a0.1,(↑a0.1.length:Int),0,a0.1,a0.2,([]:List Y2),([]:List Y3))).bind fun y2=>(
some (y2.1,y2.2.1,y2.2.2.2,y2.2.2.1))
theorem g77 (F107:VP)(a0:Y2×Int):aK (Vh F107) Jz [(.t 2)] c77 a0=q77 F107 (l77_0 (Vh F107)) a0:=by kernel_rfl
noncomputable def p77:=q77 P107 vI
noncomputable def Cg:Cz:=fun x=>p77 x
theorem v77:aK (Vh P107) Jz [(.t 2)] c77=Cg:=funext fun x=>(g77 P107 x).trans (by rw[v77_0] <;> rfl)
theorem d77:DC Try.prog 77 Jz Cg:=dD v77 t77 ok77
noncomputable def T79:List FEnt:=[]
theorem t79:al Try.prog T79:=aj
noncomputable def c79:=bK Try.prog [] Try.f79 .n
theorem ok79:L.Fn Try.prog 79 4 [(.t 2)] (erase c79):=oA Try.func79
def JA:FSh:=⟨⟨[(.v bc)],[]⟩,[bc],0,⟨⟨[(.fn 110 If)],[(0,(.boxT bc))]⟩,[bc],[],1⟩,false⟩
noncomputable def q79 (a0:List Y1):Option Y8:=
some a0
theorem g79 (a0:List Y1):aK T79 JA [(.t 2)] c79 a0=q79 a0:=by kernel_rfl
noncomputable def p79:=q79
noncomputable def Ch:nl:=fun x=>p79 x
theorem v79:aK T79 JA [(.t 2)] c79=Ch:=funext fun x=>(g79 x)
theorem d79:DC Try.prog 79 JA Ch:=dD v79 t79 ok79
noncomputable def RA (F123:nl):List FEnt:=[⟨123,sh123,F123⟩]
theorem t108:al Try.prog (RA P123):=dK aj d123
noncomputable def RB:=bK Try.prog [] Try.f108 .n
theorem WC:L.Fn Try.prog 108 5 [(.t 2)] (erase RB):=oA Try.func108
def zX:FSh:=⟨⟨[(.fn 110 If)],[(0,(.boxT bc))]⟩,[bc],1,⟨⟨zS,dt⟩,[bc],[],1⟩,false⟩
noncomputable def JB (F123:nl)(a0:List Y1):Option Y8:=
(F123 a0).bind fun r1=>(
some r1)
theorem g108 (F123:nl)(a0:List Y1):aK (RA F123) zX [(.t 2)] RB a0=JB F123 a0:=by kernel_rfl
noncomputable def p108:=JB P123
noncomputable def P108:nl:=fun x=>p108 x
theorem v108:aK (RA P123) zX [(.t 2)] RB=P108:=funext fun x=>(g108 P123 x)
theorem d108:DC Try.prog 108 zX P108:=dD v108 t108 WC
noncomputable def Vi:List FEnt:=[]
theorem t95:al Try.prog Vi:=aj
def Mg:LSh:=⟨[0,2],⟨[(.v jb),(.v y7)],[]⟩,[jb,y7],0,[]⟩
def Mh:List XSh:=[⟨.normal,[0,2],⟨⟨[(.v jb),(.v y7)],[]⟩,[jb,y7],[],0⟩⟩]
noncomputable def c95:=bK Try.prog [] Try.f95 (.s .n (.s (.o Mg Mh .n) .n))
noncomputable def l95_0 (T:List FEnt):=fp (xs:=Mh) Mg (bd T (sb [1,0,2] c95))
noncomputable def zY (a0 a1:Int):Option yz:=
cond (decide (4294967296≤a0)) (
some ((bH .u64 a0 32),32)) (
some (a0,a1))
theorem WD:l95_0 Vi=u2 zY:=funext fun _=>by kernel_rfl
noncomputable def Ev:=zY
noncomputable def zZ:Bi:=fun x=>Ev x.1 x.2
theorem v95_0:l95_0 Vi=zZ:=WD
theorem ok95:L.Fn Try.prog 95 25 [(.t 2)] (erase c95):=oA Try.func95
def JC:FSh:=⟨⟨[(.v jb)],[]⟩,[jb],0,⟨⟨lZ,[]⟩,[y7],[],0⟩,true⟩
noncomputable def q95 (l95_0:Bi)(a0:Int):Option Int:=
(l95_0 (a0,0)).bind fun y1=>(
cond (decide (65536≤y1.1)) (
ai (ah .i64 (y1.2+16)) (
cond (decide (256≤(bH .u64 y1.1 16))) (
ai (ah .i64 ((y1.2+16)+8)) (
ai (ah .u8 (bH .u64 (bH .u64 y1.1 16) 8)) (
ai (aA (bH .u64 (bH .u64 y1.1 16) 8) (ByteArray.size tb)) (
ai (ah .i64 (zw tb (bH .u64 (bH .u64 y1.1 16) 8))) (
ai (ah .i64 (((y1.2+16)+8)+(zw tb (bH .u64 (bH .u64 y1.1 16) 8)))) (
some (((y1.2+16)+8)+(zw tb (bH .u64 (bH .u64 y1.1 16) 8))))))))) (
ai (ah .u8 (bH .u64 y1.1 16)) (
ai (aA (bH .u64 y1.1 16) (ByteArray.size tb)) (
ai (ah .i64 (zw tb (bH .u64 y1.1 16))) (
ai (ah .i64 ((y1.2+16)+(zw tb (bH .u64 y1.1 16)))) (
some ((y1.2+16)+(zw tb (bH .u64 y1.1 16)))))))))) (
cond (decide (256≤y1.1)) (
ai (ah .i64 (y1.2+8)) (
ai (ah .u8 (bH .u64 y1.1 8)) (
ai (aA (bH .u64 y1.1 8) (ByteArray.size tb)) (
ai (ah .i64 (zw tb (bH .u64 y1.1 8))) (
ai (ah .i64 ((y1.2+8)+(zw tb (bH .u64 y1.1 8)))) (
some ((y1.2+8)+(zw tb (bH .u64 y1.1 8))))))))) (
ai (ah .u8 y1.1) (
ai (aA y1.1 (ByteArray.size tb)) (
ai (ah .i64 (zw tb y1.1)) (
ai (ah .i64 (y1.2+(zw tb y1.1))) (
some (y1.2+(zw tb y1.1)))))))))
theorem g95 (a0:Int):aK Vi JC [(.t 2)] c95 a0=q95 (l95_0 Vi) a0:=by kernel_rfl
noncomputable def p95:=q95 zZ
noncomputable def P95:oc:=fun x=>p95 x
theorem v95:aK Vi JC [(.t 2)] c95=P95:=funext fun x=>(g95 x).trans (by rw[v95_0] <;> rfl)
theorem d95:DC Try.prog 95 JC P95:=dD v95 t95 ok95
noncomputable def T67 (F95:oc):List FEnt:=[⟨95,JC,F95⟩]
theorem t67:al Try.prog (T67 P95):=dK aj d95
noncomputable def c67:=bK Try.prog [] Try.f67 .n
theorem ok67:L.Fn Try.prog 67 8 [(.t 2)] (erase c67):=oA Try.func67
def Ci:FSh:=⟨⟨[(.v jb)],[]⟩,[jb],0,⟨⟨lZ,[]⟩,[y7],[],0⟩,true⟩
noncomputable def q67 (F95:oc)(a0:Int):Option Int:=
(F95 a0).bind fun r1=>(
some r1)
theorem g67 (F95:oc)(a0:Int):aK (T67 F95) Ci [(.t 2)] c67 a0=q67 F95 a0:=by kernel_rfl
noncomputable def p67:=q67 P95
noncomputable def P67:oc:=fun x=>p67 x
theorem v67:aK (T67 P95) Ci [(.t 2)] c67=P67:=funext fun x=>(g67 P95 x)
theorem d67:DC Try.prog 67 Ci P67:=dD v67 t67 ok67
noncomputable def Vj:List FEnt:=[]
theorem t81:al Try.prog Vj:=aj
def Mi:LSh:=⟨[3,6,7,8],⟨[(.v y7),(.v y19),(.v y7),(.v y7)],[]⟩,[y7,y19,y7,y7],0,[]⟩
def Mj:List XSh:=[⟨.ret,[2],⟨⟨lZ,[]⟩,[y7],[],0⟩⟩,⟨(.exit 0),[3],⟨⟨lZ,[]⟩,[y7],[],0⟩⟩]
noncomputable def c81:=bK Try.prog [] Try.f81 (.s .n (.s .n (.s (.s .n (.b (.l Mi Mj .n))) .n)))
noncomputable def Ml (T:List FEnt):=aD (xs:=Mj) Mi (bd T (sb [1,1,0,1,2,2] c81))
noncomputable def l81_0 (T:List FEnt):=af (Ml T)
noncomputable def Mm (a0:Int)(a1:List Int)(a2 a3:Int):Option ((Int×Y2×Int×Int)⊕Y56):=
cond (decide (a3 < a2)) (
ai (aA a3 a1.length) (
cond (!decide ((ix a1 a3)=a0)) (
some (Sum.inr (Sum.inl (ix a1 a3)))) (
ai (ah .i64 (a3+1)) (
some (Sum.inl (a0,a1,a2,(a3+1))))))) (
some (Sum.inr (Sum.inr a0)))
theorem WE:Ml Vj=u4 Mm:=funext fun _=>by kernel_rfl
noncomputable def Aa:=Mm
noncomputable def Ab:Y67:=af (u4 Aa)
theorem v81_0:l81_0 Vj=Ab:=congrArg af WE
theorem ok81:L.Fn Try.prog 81 18 [(.t 2)] (erase c81):=oA Try.func81
def JD:FSh:=⟨⟨[(.v y19)],[]⟩,[y19],0,⟨⟨lZ,[]⟩,[y7],[],0⟩,true⟩
noncomputable def q81 (l81_0:Y67)(a0:List Int):Option Int:=
(l81_0 (0,a0,(↑a0.length:Int),0)).bind (fun y1=>Sum.elim (fun y2=>(
some y2)) (fun y3=>(
some y3)) y1)
theorem g81 (a0:List Int):aK Vj JD [(.t 2)] c81 a0=q81 (l81_0 Vj) a0:=by kernel_rfl
noncomputable def p81:=q81 Ab
noncomputable def Mn:C1:=fun x=>p81 x
theorem v81:aK Vj JD [(.t 2)] c81=Mn:=funext fun x=>(g81 x).trans (by rw[v81_0] <;> rfl)
theorem d81:DC Try.prog 81 JD Mn:=dD v81 t81 ok81
noncomputable def T80 (F81:C1):List FEnt:=[⟨81,JD,F81⟩]
theorem t80:al Try.prog (T80 Mn):=dK aj d81
noncomputable def c80:=bK Try.prog [] Try.f80 (.s .n (.s (.r [.a 10 false y7]) .n))
theorem ok80:L.Fn Try.prog 80 17 [(.t 4)] (erase c80):=oA Try.func80
def qG:FSh:=⟨⟨[(.st cW),(.st cW)],[]⟩,[cW,cW],0,⟨⟨lZ,[]⟩,[y7],[],0⟩,true⟩
noncomputable def q80 (F81:C1)(a0 a1:Y1):Option Int:=
ai (ah .i64 (a0.2.1-a1.2.1)) (
ai (ah .i64 (a0.1-a1.1)) (
(F81 ([(a0.2.1-a1.2.1),(a0.1-a1.1)]:List Int)).bind fun r1=>(
some r1)))
theorem g80 (F81:C1):aK (T80 F81) qG [(.t 4)] c80=u2 (q80 F81):=funext fun _=>by kernel_rfl
noncomputable def p80:=q80 Mn
noncomputable def P80:dW:=u2 p80
theorem v80:aK (T80 Mn) qG [(.t 4)] c80=P80:=g80 Mn
theorem RE:DC Try.prog 80 qG P80:=dD v80 t80 ok80
noncomputable def tE (F80:dW):List FEnt:=[⟨80,qG,F80⟩]
theorem t129:al Try.prog (tE P80):=dK aj RE
def Ew:LSh:=⟨[0,1,2,3,8,9],⟨Vb,dt⟩,LT,1,[0]⟩
def Ex:List XSh:=[⟨(.exit 2),[0,1,2,3,8],⟨⟨j15,dt⟩,vF,[0],1⟩⟩]
def Ey:LSh:=⟨[0,1,2,3,8],⟨j15,dt⟩,vF,1,[0]⟩
def tF:List XSh:=[⟨(.exit 0),[],⟨⟨[],dt⟩,[bc],[0],1⟩⟩]
noncomputable def Ez:=bK Try.prog [] Try.f129 (.s .n (.b (.l Ey tF (.s .n (.s (.b (.s .n (.b (.l Ew Ex .n)))) .n)))))
noncomputable def EA (T:List FEnt):=aD (xs:=Ex) Ew (bd T (sb [1,2,2,1,0,2,1,2,2] Ez))
noncomputable def l129_1 (T:List FEnt):=af (EA T)
noncomputable def xE (F80:dW)(a0 a1 a2 a3:Int)(a4:List Y1):Option Y115:=
cond (decide (a0 < a3)) (
ai (aA a3 a4.length) (
ai (ah .i64 (a3-1)) (
ai (aA (a3-1) a4.length) (
(F80 ((ix a4 a3),(ix a4 (a3-1)))).bind fun r1=>(
cond (decide (r1 < 0)) (
ai (ah .i64 (a3-1)) (
ai (ah .i64 (a3-1)) (
ai (aA (a3-1) a4.length) (
ai (aA a3 a4.length) (
ai (aA a3 a4.length) (
ai (aA (a3-1) (List.length (List.set a4 a3.toNat (ix a4 (a3-1))))) (
ai (ah .i64 (a3-1)) (
some (Sum.inl (a0,a1,a2,(a3-1),(List.set (List.set a4 a3.toNat (ix a4 (a3-1))) (Int.toNat (a3-1)) (ix a4 a3)))))))))))) (
some (Sum.inr (a0,a1,a2,a4)))))))) (
some (Sum.inr (a0,a1,a2,a4)))
theorem RF (F80:dW):EA (tE F80)=u5 (xE F80):=funext fun _=>by kernel_rfl
noncomputable def EB:=xE P80
noncomputable def xF:KG:=af (u5 EB)
theorem RG:l129_1 (tE P80)=xF:=congrArg af (RF P80)
noncomputable def EC (T:List FEnt):=aD (xs:=tF) Ey (bd T (sb [1,2,2] Ez))
noncomputable def l129_0 (T:List FEnt):=af (EC T)
noncomputable def xG (F80:dW)(l129_1:KG)(a0 a1 a2:Int)(a3:List Y1):Option Y116:=
cond (decide (a2 < a1)) (
(l129_1 (a0,a1,a2,a2,a3)).bind fun y2=>(
ai (ah .i64 (y2.2.2.1+1)) (
some (Sum.inl (y2.1,y2.2.1,(y2.2.2.1+1),y2.2.2.2))))) (
some (Sum.inr a3))
theorem RH (F80:dW):EC (tE F80)=u4 (xG F80 (l129_1 (tE F80))):=funext fun _=>by kernel_rfl
noncomputable def ED:=xG P80 xF
noncomputable def xH:gH:=af (u4 ED)
theorem RI:l129_0 (tE P80)=xH:=congrArg af ((RH P80).trans (by rw[RG] <;> rfl))
theorem WF:L.Fn Try.prog 129 53 [] (erase Ez):=oA Try.func129
def Ac:FSh:=⟨⟨Vc,dt⟩,Js,1,⟨⟨pX,dt⟩,[bc],[0],1⟩,false⟩
noncomputable def RJ (F80:dW)(l129_0:gH)(a0 a1:Int)(a2:List Y1):Option Y8:=
ai (ah .i64 (a0+1)) (
(l129_0 (a0,a1,(a0+1),a2)).bind fun y3=>(
some y3))
theorem g129 (F80:dW):aK (tE F80) Ac [] Ez=u3 (RJ F80 (l129_0 (tE F80))):=funext fun _=>by kernel_rfl
noncomputable def WG:=RJ P80 xH
noncomputable def gZ:ly:=u3 WG
theorem v129:aK (tE P80) Ac [] Ez=gZ:=(g129 P80).trans (by rw[RI] <;> rfl)
theorem d129:DC Try.prog 129 Ac gZ:=dD v129 t129 WF
noncomputable def Cj (F80:dW):List FEnt:=[⟨80,qG,F80⟩]
theorem t137:al Try.prog (Cj P80):=dK aj RE
def EE:LSh:=⟨[0,2,3,4,10],⟨j15,dt⟩,vF,1,[0]⟩
def EF:List XSh:=[⟨(.exit 0),[],⟨⟨[],dt⟩,[bc],[0],1⟩⟩,⟨.ret,[],⟨⟨[],dt⟩,[bc],[0],1⟩⟩]
noncomputable def JE:=bK Try.prog [] Try.f137 (.s .n (.b (.l EE EF .n)))
noncomputable def EG (T:List FEnt):=aD (xs:=EF) EE (bd T (sb [1,2,2] JE))
noncomputable def l137_0 (T:List FEnt):=af (EG T)
noncomputable def xI (F80:dW)(a0 a1 a2:Int)(a3:List Y1):Option (KE⊕Y94):=
ai (ah .i64 (2*a2)) (
ai (ah .i64 ((2*a2)+1)) (
cond (decide (a0≤((2*a2)+1))) (
some (Sum.inr (Sum.inl a3))) (
ai (ah .i64 (((2*a2)+1)+1)) (
cond (decide ((((2*a2)+1)+1) < a0)) (
ai (ah .i64 (a1+((2*a2)+1))) (
ai (aA (a1+((2*a2)+1)) a3.length) (
ai (ah .i64 (a1+((2*a2)+1))) (
ai (ah .i64 ((a1+((2*a2)+1))+1)) (
ai (aA ((a1+((2*a2)+1))+1) a3.length) (
(F80 ((ix a3 (a1+((2*a2)+1))),(ix a3 ((a1+((2*a2)+1))+1)))).bind fun r1=>(
cond (decide (r1 < 0)) (
ai (ah .i64 (((2*a2)+1)+1)) (
ai (ah .i64 (a1+a2)) (
ai (aA (a1+a2) a3.length) (
ai (ah .i64 (a1+(((2*a2)+1)+1))) (
ai (aA (a1+(((2*a2)+1)+1)) a3.length) (
(F80 ((ix a3 (a1+a2)),(ix a3 (a1+(((2*a2)+1)+1))))).bind fun r2=>(
cond (!(decide (r2 < 0))) (
some (Sum.inr (Sum.inr a3))) (
ai (ah .i64 (a1+a2)) (
ai (ah .i64 (a1+(((2*a2)+1)+1))) (
ai (ah .i64 (a1+(((2*a2)+1)+1))) (
ai (aA (a1+(((2*a2)+1)+1)) a3.length) (
ai (ah .i64 (a1+a2)) (
ai (aA (a1+a2) a3.length) (
ai (aA (a1+a2) a3.length) (
ai (aA (a1+(((2*a2)+1)+1)) (List.length (List.set a3 (Int.toNat (a1+a2)) (ix a3 (a1+(((2*a2)+1)+1)))))) (
some (Sum.inl (a0,a1,(((2*a2)+1)+1),(List.set (List.set a3 (Int.toNat (a1+a2)) (ix a3 (a1+(((2*a2)+1)+1)))) (Int.toNat (a1+(((2*a2)+1)+1))) (ix a3 (a1+a2))))))))))))))))))))) (
ai (ah .i64 (a1+a2)) (
ai (aA (a1+a2) a3.length) (
ai (ah .i64 (a1+((2*a2)+1))) (
ai (aA (a1+((2*a2)+1)) a3.length) (
(F80 ((ix a3 (a1+a2)),(ix a3 (a1+((2*a2)+1))))).bind fun r3=>(
cond (!(decide (r3 < 0))) (
some (Sum.inr (Sum.inr a3))) (
ai (ah .i64 (a1+a2)) (
ai (ah .i64 (a1+((2*a2)+1))) (
ai (ah .i64 (a1+((2*a2)+1))) (
ai (aA (a1+((2*a2)+1)) a3.length) (
ai (ah .i64 (a1+a2)) (
ai (aA (a1+a2) a3.length) (
ai (aA (a1+a2) a3.length) (
ai (aA (a1+((2*a2)+1)) (List.length (List.set a3 (Int.toNat (a1+a2)) (ix a3 (a1+((2*a2)+1)))))) (
some (Sum.inl (a0,a1,((2*a2)+1),(List.set (List.set a3 (Int.toNat (a1+a2)) (ix a3 (a1+((2*a2)+1)))) (Int.toNat (a1+((2*a2)+1))) (ix a3 (a1+a2))))))))))))))))))))))))))) (
ai (ah .i64 (a1+a2)) (
ai (aA (a1+a2) a3.length) (
ai (ah .i64 (a1+((2*a2)+1))) (
ai (aA (a1+((2*a2)+1)) a3.length) (
(F80 ((ix a3 (a1+a2)),(ix a3 (a1+((2*a2)+1))))).bind fun r4=>(
cond (!(decide (r4 < 0))) (
some (Sum.inr (Sum.inr a3))) (
ai (ah .i64 (a1+a2)) (
ai (ah .i64 (a1+((2*a2)+1))) (
ai (ah .i64 (a1+((2*a2)+1))) (
ai (aA (a1+((2*a2)+1)) a3.length) (
ai (ah .i64 (a1+a2)) (
ai (aA (a1+a2) a3.length) (
ai (aA (a1+a2) a3.length) (
ai (aA (a1+((2*a2)+1)) (List.length (List.set a3 (Int.toNat (a1+a2)) (ix a3 (a1+((2*a2)+1)))))) (
some (Sum.inl (a0,a1,((2*a2)+1),(List.set (List.set a3 (Int.toNat (a1+a2)) (ix a3 (a1+((2*a2)+1)))) (Int.toNat (a1+((2*a2)+1))) (ix a3 (a1+a2))))))))))))))))))))))))
theorem RL (F80:dW):EG (Cj F80)=u4 (xI F80):=funext fun _=>by kernel_rfl
noncomputable def EH:=xI P80
noncomputable def xJ:Y105:=af (u4 EH)
theorem RM:l137_0 (Cj P80)=xJ:=congrArg af (RL P80)
theorem WH:L.Fn Try.prog 137 82 [] (erase JE):=oA Try.func137
def Ad:FSh:=⟨⟨j16,dt⟩,vF,1,⟨⟨pX,dt⟩,[bc],[0],1⟩,false⟩
noncomputable def RN (F80:dW)(l137_0:Y105)(a0 a1 a2:Int)(a3:List Y1):Option Y8:=
(l137_0 (a1,a2,a0,a3)).bind (fun y5=>Sum.elim (fun y6=>(
some y6)) (fun y7=>(
some y7)) y5)
theorem g137 (F80:dW):aK (Cj F80) Ad [] JE=u4 (RN F80 (l137_0 (Cj F80))):=funext fun _=>by kernel_rfl
noncomputable def WI:=RN P80 xJ
noncomputable def ln:gH:=u4 WI
theorem v137:aK (Cj P80) Ad [] JE=ln:=(g137 P80).trans (by rw[RM] <;> rfl)
theorem d137:DC Try.prog 137 Ad ln:=dD v137 t137 WH
noncomputable def tG (F137:gH):List FEnt:=[⟨137,Ad,F137⟩]
theorem t130:al Try.prog (tG ln):=dK aj d137
def EI:LSh:=⟨[0,3,8,9,10,11],⟨[(.slc 0),(.fn 80 []),(.v y7),(.v y7),(.v y7),(.v y7)],dt⟩,LT,1,[0]⟩
def EJ:List XSh:=[⟨(.exit 0),[0,3,8,9,10],⟨⟨j17,dt⟩,vF,[0],1⟩⟩]
def EK:LSh:=⟨[0,3,8,9,12],⟨j17,dt⟩,vF,1,[0]⟩
def EL:List XSh:=[⟨(.exit 2),[],⟨⟨[],dt⟩,[bc],[0],1⟩⟩]
noncomputable def EM:=bK Try.prog [] Try.f130 (.s .n (.s .n (.s .n (.s (.s .n (.b (.l EI EJ .n))) (.s .n (.b (.l EK EL .n)))))))
noncomputable def EN (T:List FEnt):=aD (xs:=EJ) EI (bd T (sb [1,1,1,0,1,2,2] EM))
noncomputable def l130_0 (T:List FEnt):=af (EN T)
noncomputable def xK (F137:gH)(a0 a1 a2 a3:Int)(a4:List Y1):Option Y115:=
cond (decide (0≤a3)) (
(F137 (a3,a2,a0,a4)).bind fun r1=>(
ai (ah .i64 (a3-1)) (
some (Sum.inl (a0,a1,a2,(a3-1),r1))))) (
some (Sum.inr (a0,a1,a2,a4)))
theorem RO (F137:gH):EN (tG F137)=u5 (xK F137):=funext fun _=>by kernel_rfl
noncomputable def EO:=xK ln
noncomputable def xL:KG:=af (u5 EO)
theorem RP:l130_0 (tG ln)=xL:=congrArg af (RO ln)
noncomputable def EP (T:List FEnt):=aD (xs:=EL) EK (bd T (sb [1,1,1,1,1,2,2] EM))
noncomputable def l130_1 (T:List FEnt):=af (EP T)
noncomputable def xM (F137:gH)(a0 a1 a2:Int)(a3:List Y1):Option Y116:=
cond (decide (0≤a2)) (
ai (ah .i64 (a0+a2)) (
ai (ah .i64 (a0+a2)) (
ai (aA (a0+a2) a3.length) (
ai (aA a0 a3.length) (
ai (aA a0 a3.length) (
ai (aA (a0+a2) (List.length (List.set a3 a0.toNat (ix a3 (a0+a2))))) (
(F137 (a1,a2,a0,(List.set (List.set a3 a0.toNat (ix a3 (a0+a2))) (Int.toNat (a0+a2)) (ix a3 a0)))).bind fun r3=>(
ai (ah .i64 (a2-1)) (
some (Sum.inl (a0,a1,(a2-1),r3))))))))))) (
some (Sum.inr a3))
theorem RQ (F137:gH):EP (tG F137)=u4 (xM F137):=funext fun _=>by kernel_rfl
noncomputable def EQ:=xM ln
noncomputable def xN:gH:=af (u4 EQ)
theorem RR:l130_1 (tG ln)=xN:=congrArg af (RQ ln)
theorem WJ:L.Fn Try.prog 130 60 [] (erase EM):=oA Try.func130
def Ae:FSh:=⟨⟨Vc,dt⟩,Js,1,⟨⟨pX,dt⟩,[bc],[0],1⟩,false⟩
noncomputable def RS (F137:gH)(l130_0:KG)(l130_1:gH)(a0 a1:Int)(a2:List Y1):Option Y8:=
ai (ah .i64 (a1-a0)) (
ai (ah .i64 ((a1-a0)-1)) (
ai (ah .i64 (Int.tdiv ((a1-a0)-1) 2)) (
(l130_0 (a0,0,(a1-a0),(Int.tdiv ((a1-a0)-1) 2),a2)).bind fun y2=>(
ai (ah .i64 (y2.2.2.1-1)) (
(l130_1 (y2.1,y2.2.1,(y2.2.2.1-1),y2.2.2.2)).bind fun y4=>(
some y4))))))
theorem g130 (F137:gH):aK (tG F137) Ae [] EM=u3 (RS F137 (l130_0 (tG F137)) (l130_1 (tG F137))):=funext fun _=>by kernel_rfl
noncomputable def WK:=RS ln xL xN
noncomputable def hU:ly:=u3 WK
theorem v130:aK (tG ln) Ae [] EM=hU:=(g130 ln).trans (by rw[RP,RR] <;> rfl)
theorem d130:DC Try.prog 130 Ae hU:=dD v130 t130 WJ
noncomputable def RT (F67:oc):List FEnt:=[⟨67,Ci,F67⟩]
theorem t114:al Try.prog (RT P67):=dK aj d67
noncomputable def RU:=bK Try.prog [] Try.f114 .n
theorem WL:L.Fn Try.prog 114 7 [(.t 2)] (erase RU):=oA Try.func114
def vJ:FSh:=⟨⟨lZ,[]⟩,[y7],0,⟨⟨[(.v jb)],[]⟩,[jb],[],0⟩,true⟩
noncomputable def JF (F67:oc)(a0:Int):Option Int:=
ai (ah .u64 a0) (
(F67 a0).bind fun r1=>(
ai (decide (0≤r1)) (
some (gA .u64 1 r1))))
theorem g114 (F67:oc)(a0:Int):aK (RT F67) vJ [(.t 2)] RU a0=JF F67 a0:=by kernel_rfl
noncomputable def RW:=JF P67
noncomputable def hX:oc:=fun x=>RW x
theorem v114:aK (RT P67) vJ [(.t 2)] RU=hX:=funext fun x=>(g114 P67 x)
theorem WM:DC Try.prog 114 vJ hX:=dD v114 t114 WL
noncomputable def RX:List FEnt:=[]
theorem t115:al Try.prog RX:=aj
noncomputable def RY:=bK Try.prog [] Try.f115 .n
theorem WN:L.Fn Try.prog 115 33 [(.t 2)] (erase RY):=oA Try.func115
def vK:FSh:=⟨⟨If,[(0,(.boxT jb))]⟩,[jb],1,⟨⟨[(.v jb)],[(0,(.boxT jb))]⟩,[jb,jb],[0],1⟩,false⟩
noncomputable def JG (a0:Int):Option yz:=
some ((i5 .u64 (i5 .u64 (i5 .u64 a0 (gA .u64 a0 13)) (bH .u64 (i5 .u64 a0 (gA .u64 a0 13)) 7)) (gA .u64 (i5 .u64 (i5 .u64 a0 (gA .u64 a0 13)) (bH .u64 (i5 .u64 a0 (gA .u64 a0 13)) 7)) 17)),(i5 .u64 (i5 .u64 (i5 .u64 a0 (gA .u64 a0 13)) (bH .u64 (i5 .u64 a0 (gA .u64 a0 13)) 7)) (gA .u64 (i5 .u64 (i5 .u64 a0 (gA .u64 a0 13)) (bH .u64 (i5 .u64 a0 (gA .u64 a0 13)) 7)) 17)))
theorem g115 (a0:Int):aK RX vK [(.t 2)] RY a0=JG a0:=by kernel_rfl
noncomputable def RZ:=JG
noncomputable def h9:G4:=fun x=>RZ x
theorem v115:aK RX vK [(.t 2)] RY=h9:=funext fun x=>(g115 x)
theorem WO:DC Try.prog 115 vK h9:=dD v115 t115 WN
noncomputable def Ck (F114:oc)(F115:G4):List FEnt:=[⟨114,vJ,F114⟩,⟨115,vK,F115⟩]
theorem t131:al Try.prog (Ck hX h9):=dK (dK aj WO) WM
def ER:LSh:=⟨[0,1,8,9,10,11],⟨j11,[(0,(.row 40 cW)),(1,(.boxT jb))]⟩,[y7,y7,jb,y7,bc,jb],2,[0,1]⟩
def ES:List XSh:=[⟨(.exit 0),[],⟨⟨[],[(0,(.row 40 cW)),(1,(.boxT jb))]⟩,[bc,jb],[0,1],2⟩⟩]
noncomputable def JH:=bK Try.prog [] Try.f131 (.s .n (.s .n (.s (.s .n (.s .n (.s .n (.b (.l ER ES .n))))) .n)))
noncomputable def ET (T:List FEnt):=aD (xs:=ES) ER (bd T (sb [1,1,0,1,1,1,2,2] JH))
noncomputable def l131_0 (T:List FEnt):=af (ET T)
noncomputable def tH (F114:oc)(F115:G4)(a0 a1 a2 a3:Int)(a4:List Y1)(a5:Int):Option ((Int×Int×Int×Int×Y8×Int)⊕Y96):=
ai (ah .i64 (Int.tdiv a1 4)) (
ai (ah .i64 ((Int.tdiv a1 4)*2)) (
ai (ah .i64 (a0+((Int.tdiv a1 4)*2))) (
ai (ah .i64 ((a0+((Int.tdiv a1 4)*2))+1)) (
cond (decide (a3≤((a0+((Int.tdiv a1 4)*2))+1))) (
(F115 a5).bind fun r2=>(
ai (ah .u64 (a2-1)) (
ai (ah .i64 (bu .u64 r2.1 (a2-1))) (
cond (decide (a1≤(bu .u64 r2.1 (a2-1)))) (
ai (ah .i64 ((bu .u64 r2.1 (a2-1))-a1)) (
ai (ah .i64 (a0+((bu .u64 r2.1 (a2-1))-a1))) (
ai (ah .i64 (a0+((bu .u64 r2.1 (a2-1))-a1))) (
ai (aA (a0+((bu .u64 r2.1 (a2-1))-a1)) a4.length) (
ai (aA a3 a4.length) (
ai (aA a3 a4.length) (
ai (aA (a0+((bu .u64 r2.1 (a2-1))-a1)) (List.length (List.set a4 a3.toNat (ix a4 (a0+((bu .u64 r2.1 (a2-1))-a1)))))) (
ai (ah .i64 (a3+1)) (
some (Sum.inl (a0,a1,a2,(a3+1),(List.set (List.set a4 a3.toNat (ix a4 (a0+((bu .u64 r2.1 (a2-1))-a1)))) (Int.toNat (a0+((bu .u64 r2.1 (a2-1))-a1))) (ix a4 a3)),r2.2))))))))))) (
ai (ah .i64 (a0+(bu .u64 r2.1 (a2-1)))) (
ai (ah .i64 (a0+(bu .u64 r2.1 (a2-1)))) (
ai (aA (a0+(bu .u64 r2.1 (a2-1))) a4.length) (
ai (aA a3 a4.length) (
ai (aA a3 a4.length) (
ai (aA (a0+(bu .u64 r2.1 (a2-1))) (List.length (List.set a4 a3.toNat (ix a4 (a0+(bu .u64 r2.1 (a2-1))))))) (
ai (ah .i64 (a3+1)) (
some (Sum.inl (a0,a1,a2,(a3+1),(List.set (List.set a4 a3.toNat (ix a4 (a0+(bu .u64 r2.1 (a2-1))))) (Int.toNat (a0+(bu .u64 r2.1 (a2-1)))) (ix a4 a3)),r2.2)))))))))))))) (
some (Sum.inr (a4,a5)))))))
theorem R0 (F114:oc)(F115:G4):ET (Ck F114 F115)=u6 (tH F114 F115):=funext fun _=>by kernel_rfl
noncomputable def xO:=tH hX h9
noncomputable def xP:Y106:=af (u6 xO)
theorem R1:l131_0 (Ck hX h9)=xP:=congrArg af (R0 hX h9)
theorem WP:L.Fn Try.prog 131 67 [] (erase JH):=oA Try.func131
def Af:FSh:=⟨⟨Vc,dt⟩,Js,1,⟨⟨pX,dt⟩,[bc],[0],1⟩,false⟩
noncomputable def JI (F114:oc)(F115:G4)(l131_0:Y106)(a0 a1:Int)(a2:List Y1):Option Y8:=
ai (ah .i64 (a1-a0)) (
cond (decide (8≤(a1-a0))) (
ai (ah .u64 (a1-a0)) (
(F114 (a1-a0)).bind fun r1=>(
ai (ah .i64 (Int.tdiv (a1-a0) 4)) (
ai (ah .i64 ((Int.tdiv (a1-a0) 4)*2)) (
ai (ah .i64 (a0+((Int.tdiv (a1-a0) 4)*2))) (
ai (ah .i64 ((a0+((Int.tdiv (a1-a0) 4)*2))-1)) (
(l131_0 (a0,(a1-a0),r1,((a0+((Int.tdiv (a1-a0) 4)*2))-1),a2,(a1-a0))).bind fun y3=>(
some y3.1)))))))) (
some a2))
theorem g131 (F114:oc)(F115:G4):aK (Ck F114 F115) Af [] JH=u3 (JI F114 F115 (l131_0 (Ck F114 F115))):=funext fun _=>by kernel_rfl
noncomputable def R2:=JI hX h9 xP
noncomputable def gB:ly:=u3 R2
theorem v131:aK (Ck hX h9) Af [] JH=gB:=(g131 hX h9).trans (by rw[R1] <;> rfl)
theorem d131:DC Try.prog 131 Af gB:=dD v131 t131 WP
noncomputable def R3 (F80:dW):List FEnt:=[⟨80,qG,F80⟩]
theorem t140:al Try.prog (R3 P80):=dK aj RE
noncomputable def R4:=bK Try.prog [] Try.f140 .n
theorem WQ:L.Fn Try.prog 140 32 [(.t 10),(.t 11)] (erase R4):=oA Try.func140
def Ag:FSh:=⟨⟨[(.slc 0),(.v y7),(.v y7),(.ptr 1 0),(.fn 80 [])],Vd⟩,[y7,y7,bc,y7],2,⟨⟨LU,Vd⟩,[y7,y7,bc,y7],[0,1],2⟩,false⟩
noncomputable def R5 (F80:dW)(a0 a1:Int)(a2:List Y1)(a3:Int):Option Y84:=
ai (aA a1 a2.length) (
ai (aA a0 a2.length) (
(F80 ((ix a2 a1),(ix a2 a0))).bind fun r1=>(
cond (decide (r1 < 0)) (
ai (ah .i64 (a3+1)) (
some (a1,a0,a2,(a3+1)))) (
some (a0,a1,a2,a3)))))
theorem g140 (F80:dW):aK (R3 F80) Ag [(.t 10),(.t 11)] R4=u4 (R5 F80):=funext fun _=>by kernel_rfl
noncomputable def WR:=R5 P80
noncomputable def qH:KH:=u4 WR
theorem v140:aK (R3 P80) Ag [(.t 10),(.t 11)] R4=qH:=g140 P80
theorem d140:DC Try.prog 140 Ag qH:=dD v140 t140 WQ
noncomputable def R6 (F140:KH):List FEnt:=[⟨140,Ag,F140⟩]
theorem t139:al Try.prog (R6 qH):=dK aj d140
noncomputable def R7:=bK Try.prog [] Try.f139 .n
theorem WS:L.Fn Try.prog 139 41 [(.t 12)] (erase R7):=oA Try.func139
def vL:FSh:=⟨⟨[(.slc 0),(.v y7),(.v y7),(.v y7),(.ptr 1 0),(.fn 80 [])],Vd⟩,[y7,y7,y7,bc,y7],2,⟨⟨lZ,Vd⟩,[y7,bc,y7],[0,1],2⟩,false⟩
noncomputable def R8 (F140:KH)(a0 a1 a2:Int)(a3:List Y1)(a4:Int):Option Y85:=
(F140 (a0,a1,a3,a4)).bind fun r1=>(
(F140 (r1.2.1,a2,r1.2.2.1,r1.2.2.2)).bind fun r2=>(
(F140 (r1.1,r2.1,r2.2.2.1,r2.2.2.2)).bind fun r3=>(
some (r3.2.1,r3.2.2.1,r3.2.2.2))))
theorem g139 (F140:KH):aK (R6 F140) vL [(.t 12)] R7=u5 (R8 F140):=funext fun _=>by kernel_rfl
noncomputable def WT:=R8 qH
noncomputable def m9:yA:=u5 WT
theorem v139:aK (R6 qH) vL [(.t 12)] R7=m9:=g139 qH
theorem WU:DC Try.prog 139 vL m9:=dD v139 t139 WS
noncomputable def R9 (F139:yA):List FEnt:=[⟨139,vL,F139⟩]
theorem t138:al Try.prog (R9 m9):=dK aj WU
noncomputable def Sa:=bK Try.prog [] Try.f138 .n
theorem WV:L.Fn Try.prog 138 18 [(.t 8)] (erase Sa):=oA Try.func138
def Ah:FSh:=⟨⟨[(.slc 0),(.v y7),(.ptr 1 0),(.fn 80 [])],Vd⟩,[y7,bc,y7],2,⟨⟨lZ,Vd⟩,[y7,bc,y7],[0,1],2⟩,false⟩
noncomputable def Sb (F139:yA)(a0:Int)(a1:List Y1)(a2:Int):Option Y85:=
ai (ah .i64 (a0-1)) (
ai (ah .i64 (a0+1)) (
(F139 ((a0-1),a0,(a0+1),a1,a2)).bind fun r1=>(
some (r1.1,r1.2.1,r1.2.2))))
theorem g138 (F139:yA):aK (R9 F139) Ah [(.t 8)] Sa=u3 (Sb F139):=funext fun _=>by kernel_rfl
noncomputable def WW:=Sb m9
noncomputable def tI:KI:=u3 WW
theorem v138:aK (R9 m9) Ah [(.t 8)] Sa=tI:=g138 m9
theorem d138:DC Try.prog 138 Ah tI:=dD v138 t138 WV
noncomputable def Sc (F138:KI)(F139:yA):List FEnt:=[⟨138,Ah,F138⟩,⟨139,vL,F139⟩]
theorem t132:al Try.prog (Sc tI m9):=dK (dK aj WU) d138
noncomputable def Se:=bK Try.prog [] Try.f132 .n
theorem WX:L.Fn Try.prog 132 63 [(.t 8),(.t 9)] (erase Se):=oA Try.func132
def Ai:FSh:=⟨⟨Vc,dt⟩,Js,1,⟨⟨LU,dt⟩,Js,[0],1⟩,false⟩
noncomputable def Sf (F138:KI)(F139:yA)(a0 a1:Int)(a2:List Y1):Option Y97:=
ai (ah .i64 (a1-a0)) (
ai (ah .i64 (Int.tdiv (a1-a0) 4)) (
ai (ah .i64 ((Int.tdiv (a1-a0) 4)*1)) (
ai (ah .i64 (a0+((Int.tdiv (a1-a0) 4)*1))) (
ai (ah .i64 (Int.tdiv (a1-a0) 4)) (
ai (ah .i64 ((Int.tdiv (a1-a0) 4)*2)) (
ai (ah .i64 (a0+((Int.tdiv (a1-a0) 4)*2))) (
ai (ah .i64 (Int.tdiv (a1-a0) 4)) (
ai (ah .i64 ((Int.tdiv (a1-a0) 4)*3)) (
ai (ah .i64 (a0+((Int.tdiv (a1-a0) 4)*3))) (
cond (decide (8≤(a1-a0))) (
cond (decide (50≤(a1-a0))) (
(F138 ((a0+((Int.tdiv (a1-a0) 4)*1)),a2,0)).bind fun r1=>(
(F138 ((a0+((Int.tdiv (a1-a0) 4)*2)),r1.2.1,r1.2.2)).bind fun r2=>(
(F138 ((a0+((Int.tdiv (a1-a0) 4)*3)),r2.2.1,r2.2.2)).bind fun r3=>(
(F139 (r1.1,r2.1,r3.1,r3.2.1,r3.2.2)).bind fun r4=>(
cond (decide (r4.2.2=0)) (
some (r4.1,1,r4.2.1)) (
cond (decide (r4.2.2=12)) (
some (r4.1,2,r4.2.1)) (
some (r4.1,0,r4.2.1)))))))) (
(F139 ((a0+((Int.tdiv (a1-a0) 4)*1)),(a0+((Int.tdiv (a1-a0) 4)*2)),(a0+((Int.tdiv (a1-a0) 4)*3)),a2,0)).bind fun r5=>(
cond (decide (r5.2.2=0)) (
some (r5.1,1,r5.2.1)) (
cond (decide (r5.2.2=12)) (
some (r5.1,2,r5.2.1)) (
some (r5.1,0,r5.2.1)))))) (
cond (decide ((0:Int)=0)) (
some ((a0+((Int.tdiv (a1-a0) 4)*2)),1,a2)) (
cond (decide ((0:Int)=12)) (
some ((a0+((Int.tdiv (a1-a0) 4)*2)),2,a2)) (
some ((a0+((Int.tdiv (a1-a0) 4)*2)),0,a2))))))))))))))
theorem g132 (F138:KI)(F139:yA):aK (Sc F138 F139) Ai [(.t 8),(.t 9)] Se=u3 (Sf F138 F139):=funext fun _=>by kernel_rfl
noncomputable def WY:=Sf tI m9
noncomputable def ia:od:=u3 WY
theorem v132:aK (Sc tI m9) Ai [(.t 8),(.t 9)] Se=ia:=g132 tI m9
theorem d132:DC Try.prog 132 Ai ia:=dD v132 t132 WX
noncomputable def Cl:List FEnt:=[]
theorem t133:al Try.prog Cl:=aj
def EU:LSh:=⟨[0,8,9],⟨Ig,dt⟩,Js,1,[0]⟩
noncomputable def JJ:=bK Try.prog [] Try.f133 (.s .n (.s .n (.b (.l EU tF .n))))
noncomputable def EV (T:List FEnt):=aD (xs:=tF) EU (bd T (sb [1,1,2,2] JJ))
noncomputable def l133_0 (T:List FEnt):=af (EV T)
noncomputable def xQ (a0 a1:Int)(a2:List Y1):Option (Y97⊕Y8):=
cond (decide (a0 < a1)) (
ai (aA a1 a2.length) (
ai (aA a0 a2.length) (
ai (aA a0 a2.length) (
ai (aA a1 (List.length (List.set a2 a0.toNat (ix a2 a1)))) (
ai (ah .i64 (a0+1)) (
ai (ah .i64 (a1-1)) (
some (Sum.inl ((a0+1),(a1-1),(List.set (List.set a2 a0.toNat (ix a2 a1)) a1.toNat (ix a2 a0))))))))))) (
some (Sum.inr a2))
theorem Sg:EV Cl=u3 xQ:=funext fun _=>by kernel_rfl
noncomputable def EW:=xQ
noncomputable def xR:ly:=af (u3 EW)
theorem Sh:l133_0 Cl=xR:=congrArg af Sg
theorem WZ:L.Fn Try.prog 133 34 [] (erase JJ):=oA Try.func133
def Aj:FSh:=⟨⟨Vc,dt⟩,Js,1,⟨⟨pX,dt⟩,[bc],[0],1⟩,false⟩
noncomputable def Si (l133_0:ly)(a0 a1:Int)(a2:List Y1):Option Y8:=
ai (ah .i64 (a1-1)) (
(l133_0 (a0,(a1-1),a2)).bind fun y1=>(
some y1))
theorem g133:aK Cl Aj [] JJ=u3 (Si (l133_0 Cl)):=funext fun _=>by kernel_rfl
noncomputable def W0:=Si xR
noncomputable def ib:ly:=u3 W0
theorem v133:aK Cl Aj [] JJ=ib:=g133.trans (by rw[Sh] <;> rfl)
theorem d133:DC Try.prog 133 Aj ib:=dD v133 t133 WZ
end Go.Proofs.Ytdkaijofmigmbaa.D
