import Derived.Test.YtdkaijofmigmbaaH2w
import Derived.Test.YtdkaijofmigmbaaProg
set_option linter.unusedVariables false
set_option maxRecDepth 100000
namespace Go.Proofs.Ytdkaijofmigmbaa.D
open Go Go.Proofs Go.Proofs.Ytdkaijofmigmbaa.L
def WM:List Ty:=[y19,y7,y7]
def Mq:List Ty:=[y7,y7,y7,y7,aZ]
def vA:List Ty:=[y7,y7,y7,aZ]
def JA:List Ty:=[y7,y7,aZ]
def j39:List RSh:=[(.st aU),(.v aZ)]
def j24:List RSh:=[(.tup [(.agg [(.slc 0),(.v y7)]),(.slc 1)])]
def mh:List RSh:=[(.v y7)]
def j41:List RSh:=[(.v jd),(.v jd)]
def WN:List RSh:=[(.v y19),(.v y7)]
def RL:List RSh:=[(.slc 0),(.v y7)]
def zP:List RSh:=[(.slc 0)]
def Vz:List RSh:=[(.slc 0),(.v y7),(.v y7),(.fn 80 []),(.v y7),(.v y7)]
def j15:List RSh:=[(.slc 0),(.v y7),(.v y7),(.fn 80 []),(.v y7)]
def VA:List RSh:=[(.slc 0),(.v y7),(.v y7),(.fn 80 [])]
def j16:List RSh:=[(.slc 0),(.v y7),(.v y7),(.v y7),(.fn 80 [])]
def j17:List RSh:=[(.slc 0),(.fn 80 []),(.v y7),(.v y7),(.v y7)]
def j11:List RSh:=[(.slc 0),(.v y7),(.v y7),(.ptr 1 0),(.v jd),(.v y7)]
def Mr:List RSh:=[(.tup [(.v y7),(.v y7)])]
def Ir:List RSh:=[(.slc 0),(.v y7),(.v y7)]
def di:List (Nat×OSh):=[(0,(.row 3 y7))]
def k13:List (Nat×OSh):=[(0,(.box [(.v y19),(.v y7),(.slr 1),(.mp 2),.emp])),(1,(.rows 22 3 y7)),(2,(.pmap 3)),(3,(.pool cZ))]
def dw:List (Nat×OSh):=[(0,(.row 40 cZ))]
def VB:List (Nat×OSh):=[(0,(.row 40 cZ)),(1,(.boxT y7))]
noncomputable def T24:List FEnt:=[]
theorem t24:ak Try.prog T24:=ai
noncomputable def c24:=bK Try.prog [] Try.f24 .n
theorem ok24:L.Fn Try.prog 24 14 [(.t 4)] (erase c24):=oA Try.func24
def B9:FSh:=⟨⟨j39,[]⟩,[aU,aZ],0,⟨⟨fG,[]⟩,[.bool],[],0⟩,true⟩
noncomputable def q24 (a0:Y2×Int)(a1:List Y1):Option Bool:=
cond (decide (30 < (↑a0.1.length:Int))) (
some true) (
some (decide (60 < (↑a1.length:Int))))
theorem g24:aK T24 B9 [(.t 4)] c24=u2 q24:=funext fun _=>by kernel_rfl
noncomputable def p24:=q24
noncomputable def C2:Iu:=u2 p24
theorem v24:aK T24 B9 [(.t 4)] c24=C2:=g24
theorem d24:DC Try.prog 24 B9 C2:=dD v24 t24 ok24
noncomputable def T41:List FEnt:=[]
theorem t41:ak Try.prog T41:=ai
noncomputable def c41:=bK Try.prog [] Try.f41 (.s .n (.s (.r [.a 0 false y7,.a 7 true cZ]) .n))
theorem ok41:L.Fn Try.prog 41 10 [(.cell 0 true 2),(.t 1)] (erase c41):=oA Try.func41
def JB:FSh:=⟨⟨[],[]⟩,[],0,⟨⟨j24,[(0,(.row 3 y7)),(1,(.row 40 cZ))]⟩,[y7,y19,aZ],[],2⟩,true⟩
noncomputable def q41:Option Y86:=
some (10,([5,3]:List Int),([(1,(0,(1,(1,2)))),(2,(1,(1,(2,2)))),(3,(5,(2,(1,0)))),(4,(12,(1,(3,3)))),(5,(11,(2,(2,0))))]:List Y1))
theorem g41:aK T41 JB [(.cell 0 true 2),(.t 1)] c41 ()=q41:=by kernel_rfl
noncomputable def p41:Option Y86:=q41
noncomputable def P41:Y98:=fun x=>p41
theorem v41:aK T41 JB [(.cell 0 true 2),(.t 1)] c41=P41:=funext fun x=>(g41)
theorem d41:DC Try.prog 41 JB P41:=dD v41 t41 ok41
noncomputable def T69 (F60:Y5):List FEnt:=[⟨60,tt,F60⟩]
theorem t69:ak Try.prog (T69 P60):=dK ai Vx
noncomputable def c69:=bK Try.prog [] Try.f69 .n
theorem ok69:L.Fn Try.prog 69 6 [(.t 2)] (erase c69):=oA Try.func69
def JC:FSh:=⟨⟨mh,[]⟩,[y7],0,⟨⟨fG,[]⟩,[.bool],[],0⟩,true⟩
noncomputable def q69 (F60:Y5)(a0:Int):Option Bool:=
(F60 (a0,1,12)).bind fun r1=>(
some (!r1))
theorem g69 (F60:Y5)(a0:Int):aK (T69 F60) JC [(.t 2)] c69 a0=q69 F60 a0:=by kernel_rfl
noncomputable def p69:=q69 P60
noncomputable def P69:mj:=fun x=>p69 x
theorem v69:aK (T69 P60) JC [(.t 2)] c69=P69:=funext fun x=>(g69 P60 x)
theorem d69:DC Try.prog 69 JC P69:=dD v69 t69 ok69
noncomputable def VC (F69:mj):List FEnt:=[⟨69,JC,F69⟩]
theorem t74:ak Try.prog (VC P69):=dK ai d69
def Ms:LSh:=⟨[0,1,7,8],⟨[(.v y19),(.fn 69 []),(.v y7),(.v y7)],[]⟩,WM,0,[]⟩
def zQ:List XSh:=[⟨.ret,[4],⟨⟨mh,[]⟩,[y7],[],0⟩⟩,⟨(.exit 0),[],⟨⟨[],[]⟩,[],[],0⟩⟩]
noncomputable def c74:=bK Try.prog [] Try.f74 (.s .n (.s (.s .n (.b (.l Ms zQ .n))) .n))
noncomputable def Mu (T:List FEnt):=aB (xs:=zQ) Ms (bc T (sb [1,0,1,2,2] c74))
noncomputable def l74_0 (T:List FEnt):=aa (Mu T)
noncomputable def rJ (F69:mj)(a0:List Int)(a1 a2:Int):Option (Y72⊕Y54):=
cond (decide (a2 < a1)) (
ah (aA a2 a0.length) (
(F69 (ix a0 a2)).bind fun r1=>(
cond r1 (
some (Sum.inr (Sum.inl a2))) (
ah (af .i64 (a2+1)) (
some (Sum.inl (a0,a1,(a2+1)))))))) (
some (Sum.inr (Sum.inr ())))
theorem WO (F69:mj):Mu (VC F69)=u3 (rJ F69):=funext fun _=>by kernel_rfl
noncomputable def Mw:=rJ P69
noncomputable def rK:Y58:=aa (u3 Mw)
theorem v74_0:l74_0 (VC P69)=rK:=congrArg aa (WO P69)
theorem ok74:L.Fn Try.prog 74 19 [(.t 4)] (erase c74):=oA Try.func74
def JD:FSh:=⟨⟨[(.v y19),(.fn 69 [])],[]⟩,[y19],0,⟨⟨mh,[]⟩,[y7],[],0⟩,true⟩
noncomputable def VD (F69:mj)(l74_0:Y58)(a0:List Int):Option Int:=
(l74_0 (a0,(↑a0.length:Int),0)).bind (fun y2=>Sum.elim (fun y3=>(
some y3)) (fun y4=>(
some (-1))) y2)
theorem g74 (F69:mj)(a0:List Int):aK (VC F69) JD [(.t 4)] c74 a0=VD F69 (l74_0 (VC F69)) a0:=by kernel_rfl
noncomputable def p74:=VD P69 rK
noncomputable def P74:C9:=fun x=>p74 x
theorem v74:aK (VC P69) JD [(.t 4)] c74=P74:=funext fun x=>(g74 P69 x).trans (by rw[v74_0] <;> rfl)
theorem d74:DC Try.prog 74 JD P74:=dD v74 t74 ok74
noncomputable def T58 (F74:C9):List FEnt:=[⟨74,JD,F74⟩]
theorem t58:ak Try.prog (T58 P74):=dK ai d74
noncomputable def c58:=bK Try.prog [] Try.f58 .n
theorem ok58:L.Fn Try.prog 58 9 [(.t 4)] (erase c58):=oA Try.func58
def JE:FSh:=⟨⟨[(.v y19),(.fn 69 [])],[]⟩,[y19],0,⟨⟨fG,[]⟩,[.bool],[],0⟩,true⟩
noncomputable def q58 (F74:C9)(a0:List Int):Option Bool:=
(F74 a0).bind fun r1=>(
some (decide (0≤r1)))
theorem g58 (F74:C9)(a0:List Int):aK (T58 F74) JE [(.t 4)] c58 a0=q58 F74 a0:=by kernel_rfl
noncomputable def p58:=q58 P74
noncomputable def P58:Y60:=fun x=>p58 x
theorem v58:aK (T58 P74) JE [(.t 4)] c58=P58:=funext fun x=>(g58 P74 x)
theorem d58:DC Try.prog 58 JE P58:=dD v58 t58 ok58
noncomputable def T48 (F60:Y5)(F58:Y60):List FEnt:=[⟨60,tt,F60⟩,⟨58,JE,F58⟩]
theorem t48:ak Try.prog (T48 P60 P58):=dK (dK ai d58) Vx
noncomputable def c48:=bK Try.prog [] Try.f48 .n
theorem ok48:L.Fn Try.prog 48 20 [(.t 2)] (erase c48):=oA Try.func48
def JF:FSh:=⟨⟨[(.st aU)],[]⟩,[aU],0,⟨⟨fG,[]⟩,[.bool],[],0⟩,true⟩
noncomputable def q48 (F60:Y5)(F58:Y60)(a0:Y2×Int):Option Bool:=
(F60 ((↑a0.1.length:Int),1,6)).bind fun r1=>(
cond r1 (
(F58 a0.1).bind fun r2=>(
cond (!r2) (
(F60 (a0.2,1,600)).bind fun r3=>(
some r3)) (
some false))) (
some false))
theorem g48 (F60:Y5)(F58:Y60)(a0:Y2×Int):aK (T48 F60 F58) JF [(.t 2)] c48 a0=q48 F60 F58 a0:=by kernel_rfl
noncomputable def p48:=q48 P60 P58
noncomputable def Ca:lY:=fun x=>p48 x
theorem v48:aK (T48 P60 P58) JF [(.t 2)] c48=Ca:=funext fun x=>(g48 P60 P58 x)
theorem d48:DC Try.prog 48 JF Ca:=dD v48 t48 ok48
noncomputable def T49 (F60:Y5):List FEnt:=[⟨60,tt,F60⟩]
theorem t49:ak Try.prog (T49 P60):=dK ai Vx
noncomputable def c49:=bK Try.prog [] Try.f49 .n
theorem ok49:L.Fn Try.prog 49 32 [(.t 2)] (erase c49):=oA Try.func49
def JG:FSh:=⟨⟨[(.st cZ)],[]⟩,[cZ],0,⟨⟨fG,[]⟩,[.bool],[],0⟩,true⟩
noncomputable def q49 (F60:Y5)(a0:Y1):Option Bool:=
cond (decide (a0.2.2.1=1)) (
(F60 (a0.1,0,99)).bind fun r1=>(
cond r1 (
(F60 (a0.2.2.2.1,0,99)).bind fun r2=>(
cond r2 (
(F60 (a0.2.1,0,9999)).bind fun r3=>(
cond r3 (
(F60 (a0.2.2.2.2,1,12)).bind fun r4=>(
some r4)) (
some false))) (
some false))) (
some false))) (
cond (decide (a0.2.2.1=2)) (
cond (decide (a0.2.2.1=2)) (
(F60 (a0.1,0,99)).bind fun r5=>(
cond r5 (
(F60 (a0.2.2.2.1,0,99)).bind fun r6=>(
cond r6 (
(F60 (a0.2.1,0,9999)).bind fun r7=>(
cond r7 (
(F60 (a0.2.2.2.2,0,0)).bind fun r8=>(
some r8)) (
some false))) (
some false))) (
some false))) (
some false)) (
cond (decide (a0.2.2.1=3)) (
(F60 (a0.1,0,99)).bind fun r9=>(
cond r9 (
(F60 (a0.2.2.2.1,0,99)).bind fun r10=>(
cond r10 (
(F60 (a0.2.1,0,9999)).bind fun r11=>(
cond r11 (
(F60 (a0.2.2.2.2,0,0)).bind fun r12=>(
some r12)) (
some false))) (
some false))) (
some false))) (
some false)))
theorem g49 (F60:Y5)(a0:Y1):aK (T49 F60) JG [(.t 2)] c49 a0=q49 F60 a0:=by kernel_rfl
noncomputable def p49:=q49 P60
noncomputable def Cb:A9:=fun x=>p49 x
theorem v49:aK (T49 P60) JG [(.t 2)] c49=Cb:=funext fun x=>(g49 P60 x)
theorem d49:DC Try.prog 49 JG Cb:=dD v49 t49 ok49
noncomputable def VE (F48:lY)(F49:A9):List FEnt:=[⟨48,JF,F48⟩,⟨49,JG,F49⟩]
theorem t26:ak Try.prog (VE Ca Cb):=dK (dK ai d49) d48
def Mx:LSh:=⟨[5,17,18,19],⟨[(.mp 0),(.v aZ),(.v y7),(.v y7)],[(0,(.imap 0 true cZ))]⟩,[aZ,y7,y7,TU],1,[0]⟩
def My:List XSh:=[⟨.ret,[4],⟨⟨mh,[(0,(.imap 0 true cZ))]⟩,[y7,TU],[0],1⟩⟩,⟨(.exit 0),[],⟨⟨[],[(0,(.imap 0 true cZ))]⟩,[TU],[0],1⟩⟩]
noncomputable def c26:=bK Try.prog [] Try.f26 (.s .n (.s .n (.s .n (.s (.r [.a 0 true cZ]) (.s (.s .n (.b (.l Mx My .n))) .n)))))
noncomputable def Mz (T:List FEnt):=aB (xs:=My) Mx (bc T (sb [1,1,1,1,0,1,2,2] c26))
noncomputable def l26_0 (T:List FEnt):=aa (Mz T)
noncomputable def vB (F48:lY)(F49:A9)(a0:List Y1)(a1 a2:Int)(a3:List Y73):Option ((Y8×Int×Int×Y88)⊕Y126):=
cond (decide (a2 < a1)) (
ah (aA a2 a0.length) (
(F49 (ix a0 a2)).bind fun r2=>(
cond (!r2) (
some (Sum.inr (Sum.inl (41,a3)))) (
cond (Option.isSome (dp a3 [(ix a0 a2).1])) (
cond (!((((decide ((xl (dp a3 [(ix a0 a2).1]) (0,(0,(0,(0,0))))).1=(ix a0 a2).1)&&decide ((xl (dp a3 [(ix a0 a2).1]) (0,(0,(0,(0,0))))).2.1=(ix a0 a2).2.1))&&decide ((xl (dp a3 [(ix a0 a2).1]) (0,(0,(0,(0,0))))).2.2.1=(ix a0 a2).2.2.1))&&decide ((xl (dp a3 [(ix a0 a2).1]) (0,(0,(0,(0,0))))).2.2.2.1=(ix a0 a2).2.2.2.1))&&decide ((xl (dp a3 [(ix a0 a2).1]) (0,(0,(0,(0,0))))).2.2.2.2=(ix a0 a2).2.2.2.2))) (
some (Sum.inr (Sum.inl (41,a3)))) (
ah (af .i64 (a2+1)) (
some (Sum.inl (a0,a1,(a2+1),(jt a3 [(ix a0 a2).1] (ix a0 a2))))))) (
ah (af .i64 (a2+1)) (
some (Sum.inl (a0,a1,(a2+1),(jt a3 [(ix a0 a2).1] (ix a0 a2)))))))))) (
some (Sum.inr (Sum.inr a3)))
theorem WP (F48:lY)(F49:A9):Mz (VE F48 F49)=u4 (vB F48 F49):=funext fun _=>by kernel_rfl
noncomputable def MB:=vB Ca Cb
noncomputable def L26_0:Y127:=aa (u4 MB)
theorem WQ:l26_0 (VE Ca Cb)=L26_0:=congrArg aa (WP Ca Cb)
theorem ok26:L.Fn Try.prog 26 46 [(.t 4)] (erase c26):=oA Try.func26
def Cc:FSh:=⟨⟨j39,[]⟩,[aU,aZ],0,⟨⟨mh,[]⟩,[y7],[],0⟩,true⟩
noncomputable def q26 (F48:lY)(F49:A9)(l26_0:Y127)(a0:Y2×Int)(a1:List Y1):Option Int:=
(F48 a0).bind fun r1=>(
cond (!r1) (
some 40) (
cond (decide (40 < (↑a1.length:Int))) (
some 41) (
(l26_0 (a1,(↑a1.length:Int),0,([]:List Y73))).bind (fun y3=>Sum.elim (fun y4=>(
some y4.1)) (fun y5=>(
some 0)) y3))))
theorem g26 (F48:lY)(F49:A9):aK (VE F48 F49) Cc [(.t 4)] c26=u2 (q26 F48 F49 (l26_0 (VE F48 F49))):=funext fun _=>by kernel_rfl
noncomputable def p26:=q26 Ca Cb L26_0
noncomputable def vC:ur:=u2 p26
theorem v26:aK (VE Ca Cb) Cc [(.t 4)] c26=vC:=(g26 Ca Cb).trans (by rw[WQ] <;> rfl)
theorem d26:DC Try.prog 26 Cc vC:=dD v26 t26 ok26
noncomputable def RM:List FEnt:=[]
theorem t128:ak Try.prog RM:=ai
noncomputable def RN:=bK Try.prog [] Try.f128 .n
theorem WR:L.Fn Try.prog 128 51 [(.t 4),(.t 5)] (erase RN):=oA Try.func128
def zR:FSh:=⟨⟨j41,[]⟩,[jd,jd],0,⟨⟨[(.tup j41)],[]⟩,[jd,jd],[],0⟩,true⟩
noncomputable def WS (a0 a1:Int):Option CD:=
ah (af .u64 ((bk .u64 a0 4294967295)*(bk .u64 a1 4294967295))) (
ah (af .u64 ((bG .u64 a0 32)*(bk .u64 a1 4294967295))) (
ah (af .u64 (((bG .u64 a0 32)*(bk .u64 a1 4294967295))+(bG .u64 ((bk .u64 a0 4294967295)*(bk .u64 a1 4294967295)) 32))) (
ah (af .u64 ((bk .u64 a0 4294967295)*(bG .u64 a1 32))) (
ah (af .u64 ((bk .u64 (((bG .u64 a0 32)*(bk .u64 a1 4294967295))+(bG .u64 ((bk .u64 a0 4294967295)*(bk .u64 a1 4294967295)) 32)) 4294967295)+((bk .u64 a0 4294967295)*(bG .u64 a1 32)))) (
ah (af .u64 ((bG .u64 a0 32)*(bG .u64 a1 32))) (
ah (af .u64 (((bG .u64 a0 32)*(bG .u64 a1 32))+(bG .u64 (((bG .u64 a0 32)*(bk .u64 a1 4294967295))+(bG .u64 ((bk .u64 a0 4294967295)*(bk .u64 a1 4294967295)) 32)) 32))) (
ah (af .u64 ((((bG .u64 a0 32)*(bG .u64 a1 32))+(bG .u64 (((bG .u64 a0 32)*(bk .u64 a1 4294967295))+(bG .u64 ((bk .u64 a0 4294967295)*(bk .u64 a1 4294967295)) 32)) 32))+(bG .u64 ((bk .u64 (((bG .u64 a0 32)*(bk .u64 a1 4294967295))+(bG .u64 ((bk .u64 a0 4294967295)*(bk .u64 a1 4294967295)) 32)) 4294967295)+((bk .u64 a0 4294967295)*(bG .u64 a1 32))) 32))) (
ah (af .u64 (a0*a1)) (
some (((((bG .u64 a0 32)*(bG .u64 a1 32))+(bG .u64 (((bG .u64 a0 32)*(bk .u64 a1 4294967295))+(bG .u64 ((bk .u64 a0 4294967295)*(bk .u64 a1 4294967295)) 32)) 32))+(bG .u64 ((bk .u64 (((bG .u64 a0 32)*(bk .u64 a1 4294967295))+(bG .u64 ((bk .u64 a0 4294967295)*(bk .u64 a1 4294967295)) 32)) 4294967295)+((bk .u64 a0 4294967295)*(bG .u64 a1 32))) 32)),(a0*a1)))))))))))
theorem g128:aK RM zR [(.t 4),(.t 5)] RN=u2 WS:=funext fun _=>by kernel_rfl
noncomputable def p128:=WS
noncomputable def Cd:Ba:=u2 p128
theorem v128:aK RM zR [(.t 4),(.t 5)] RN=Cd:=g128
theorem d128:DC Try.prog 128 zR Cd:=dD v128 t128 WR
noncomputable def RO (F128:Ba):List FEnt:=[⟨128,zR,F128⟩]
theorem t122:ak Try.prog (RO Cd):=dK ai d128
noncomputable def RP:=bK Try.prog [] Try.f122 .n
theorem WT:L.Fn Try.prog 122 30 [(.t 4),(.t 5)] (erase RP):=oA Try.func122
def zS:FSh:=⟨⟨j41,[]⟩,[jd,jd],0,⟨⟨[(.tup j41)],[]⟩,[jd,jd],[],0⟩,true⟩
noncomputable def WU (F128:Ba)(a0 a1:Int):Option CD:=
(F128 (a0,a1)).bind fun r1=>(
some (r1.1,r1.2))
theorem g122 (F128:Ba):aK (RO F128) zS [(.t 4),(.t 5)] RP=u2 (WU F128):=funext fun _=>by kernel_rfl
noncomputable def p122:=WU Cd
noncomputable def nX:Ba:=u2 p122
theorem v122:aK (RO Cd) zS [(.t 4),(.t 5)] RP=nX:=g122 Cd
theorem d122:DC Try.prog 122 zS nX:=dD v122 t122 WT
noncomputable def tu (F122:Ba):List FEnt:=[⟨122,zS,F122⟩]
theorem t107:ak Try.prog (tu nX):=dK ai d122
def Et:LSh:=⟨[0,1],⟨WN,[]⟩,[y19,y7],0,[]⟩
def Eu:List XSh:=[⟨.normal,[0,1],⟨⟨WN,[]⟩,[y19,y7],[],0⟩⟩]
def Ev:LSh:=⟨[7,8],⟨RL,di⟩,[y7,y19],1,[0]⟩
def Ew:List XSh:=[⟨(.exit 0),[7],⟨⟨zP,di⟩,[y19],[0],1⟩⟩]
noncomputable def Ex:=bK Try.prog [(9,{ch:=[0,0,0,1,0,0,1,0,0,0],rs:=[] })] Try.f107 (.s .n (.s (.o Et Eu .n) (.s .n (.s .n (.s (.r [.a 2 false y7]) (.s .n (.s (.b (.l Ev Ew .n)) .n)))))))
noncomputable def l107_0 (T:List FEnt):=fw (xs:=Eu) Et (bc T (sb [1,0,2] Ex))
noncomputable def Ey (F122:Ba)(a0:List Int)(a1:Int):Option dC:=
cond (decide (a1 < 0)) (
none) (
some (a0,a1))
theorem RQ (F122:Ba):l107_0 (tu F122)=u2 (Ey F122):=funext fun _=>by kernel_rfl
noncomputable def RR:=Ey nX
noncomputable def Ez:Y78:=fun x=>RR x.1 x.2
theorem RS:l107_0 (tu nX)=Ez:=RQ nX
noncomputable def EA (T:List FEnt):=aB (xs:=Ew) Ev (bc T (sb [1,1,1,1,1,1,0,2,2] Ex))
noncomputable def l107_1 (T:List FEnt):=aa (EA T)
noncomputable def EB (F122:Ba)(a0:Int)(a1:List Int):Option (It⊕Y2):=
cond (decide (a0 < (↑a1.length:Int))) (
ah (decide (0≤a0)) (
ah (decide (a0≤(↑a1.length:Int))) (
ah (decide ((↑a1.length:Int)≤(↑a1.length:Int))) (
ah (decide (0 < List.length a1)) (
ah (decide ((0:Int)≤0)) (
ah (decide (0≤a0)) (
ah (decide (a0≤(↑a1.length:Int))) (
ah (decide (0 < List.length a1)) (
ah (af .i64 (a0+(↑(min (List.length (List.take (Int.toNat (a0-0)) (List.drop (Int.toNat 0) a1))) (Int.toNat ((↑a1.length:Int)-a0))):Int))) (
some (Sum.inl ((a0+(↑(min (List.length (List.take (Int.toNat (a0-0)) (List.drop (Int.toNat 0) a1))) (Int.toNat ((↑a1.length:Int)-a0))):Int)),(nU a1 a0.toNat (List.take (min (List.length (List.take (Int.toNat (a0-0)) (List.drop (Int.toNat 0) a1))) (Int.toNat ((↑a1.length:Int)-a0))) (List.take (Int.toNat (a0-0)) (List.drop (Int.toNat 0) a1)))))))))))))))) (
some (Sum.inr a1))
theorem RT (F122:Ba):EA (tu F122)=u2 (EB F122):=funext fun _=>by kernel_rfl
noncomputable def RU:=EB nX
noncomputable def EC:Y64:=aa (u2 RU)
theorem RW:l107_1 (tu nX)=EC:=congrArg aa (RT nX)
theorem WV:L.Fn Try.prog 107 48 [(.t 4)] (erase Ex):=oA Try.func107
def zT:FSh:=⟨⟨WN,[]⟩,[y19,y7],0,⟨⟨zP,di⟩,[y19],[],1⟩,true⟩
noncomputable def WW (F122:Ba)(l107_0:Y78)(l107_1:Y64)(a0:List Int)(a1:Int):Option Y2:=
(l107_0 (a0,a1)).bind fun y1=>(
ah (af .u64 (↑y1.1.length:Int)) (
ah (af .u64 y1.2) (
(F122 ((↑y1.1.length:Int),y1.2)).bind fun r2=>(
cond (decide (0 < r2.1)) (
none) (
cond (decide (9223372036854775807 < r2.2)) (
none) (
ah (af .i64 r2.2) (
ah (decide (0≤r2.2)) (
ah (decide (8*r2.2≤140737488355328)) (
(l107_1 ((↑(min y1.1.length (List.length (jv r2.2.toNat 0:List Int))):Int),(nU (jv r2.2.toNat 0:List Int) 0 (List.take (min y1.1.length (List.length (jv r2.2.toNat 0:List Int))) y1.1)))).bind fun y3=>(
some y3))))))))))
theorem g107 (F122:Ba):aK (tu F122) zT [(.t 4)] Ex=u2 (WW F122 (l107_0 (tu F122)) (l107_1 (tu F122))):=funext fun _=>by kernel_rfl
noncomputable def p107:=WW nX Ez EC
noncomputable def P107:Wc:=u2 p107
theorem v107:aK (tu nX) zT [(.t 4)] Ex=P107:=(g107 nX).trans (by rw[RS,RW] <;> rfl)
theorem d107:DC Try.prog 107 zT P107:=dD v107 t107 WV
noncomputable def VF (F107:Wc):List FEnt:=[⟨107,zT,F107⟩]
theorem t77:ak Try.prog (VF P107):=dK ai d107
def MC:LSh:=⟨[3,11,12,13],⟨[(.ptr 0 0),(.v y19),(.v y7),(.v y7)],k13⟩,[y19,y7,y7,y19,y7,cG,n5],4,[0,2,3]⟩
def MD:List XSh:=[⟨(.exit 0),[3],⟨⟨Iq,[(0,(.box [(.v y19),(.v y7),(.slr 4),(.mp 2),.emp])),(2,(.pmap 3)),(3,(.pool cZ)),(4,(.rows 22 3 y7))]⟩,[y19,y7,n5,cG],[0,2,3],5⟩⟩]
noncomputable def c77:=bK Try.prog [(5,{ch:=[0,0,0,0,1,1,0,0,0,0,0,0,1],rs:=[3] })] Try.f77 (.s .n (.s (.r [.a 1 true (.opt cZ)]) (.s (.s .n (.b (.l MC MD (.s .n (.s .n (.s (.b (.s .n (.r [.a 5 false y7,.a 8 true y19,.a 9 true y19]))) .n)))))) .n)))
noncomputable def ME (T:List FEnt):=aB (xs:=MD) MC (bc T (sb [1,1,0,1,2,2] c77))
noncomputable def l77_0 (T:List FEnt):=aa (ME T)
noncomputable def rL (F107:Wc)(a0:List Int)(a1 a2:Int)(a3:List Int)(a4:Int)(a5:List Y2)(a6:List Y3):Option ((Y2×Int×Int×Y2×Int×Y9×iT)⊕Y79):=
cond (decide (a2 < a1)) (
ah (aA a2 a0.length) (
(F107 (([(-1)]:List Int),(ix a0 a2))).bind fun r1=>(
ah (bC 24 (List.length a5+List.length ([r1]:List Y2))) (
ah (af .i64 (a2+1)) (
some (Sum.inl (a0,a1,(a2+1),a3,a4,(a5++([r1]:List Y2)),a6))))))) (
some (Sum.inr (a3,a4,a6,a5)))
theorem WX (F107:Wc):ME (VF F107)=u7 (rL F107):=funext fun _=>by kernel_rfl
noncomputable def MF:=rL P107
noncomputable def vD:Y101:=aa (u7 MF)
theorem v77_0:l77_0 (VF P107)=vD:=congrArg aa (WX P107)
theorem ok77:L.Fn Try.prog 77 31 [(.t 2)] (erase c77):=oA Try.func77
def JH:FSh:=⟨⟨[(.st aU)],[]⟩,[aU],0,⟨⟨Iq,k13⟩,[y19,y7,cG,n5],[],4⟩,false⟩
noncomputable def q77 (F107:Wc)(l77_0:Y101)(a0:Y2×Int):Option Y91:=
(l77_0 (a0.1,(↑a0.1.length:Int),0,a0.1,a0.2,([]:List Y2),([]:List Y3))).bind fun y2=>(
some (y2.1,y2.2.1,y2.2.2.2,y2.2.2.1))
theorem g77 (F107:Wc)(a0:Y2×Int):aK (VF F107) JH [(.t 2)] c77 a0=q77 F107 (l77_0 (VF F107)) a0:=by kernel_rfl
noncomputable def p77:=q77 P107 vD
noncomputable def Ce:CE:=fun x=>p77 x
theorem v77:aK (VF P107) JH [(.t 2)] c77=Ce:=funext fun x=>(g77 P107 x).trans (by rw[v77_0] <;> rfl)
theorem d77:DC Try.prog 77 JH Ce:=dD v77 t77 ok77
noncomputable def T79:List FEnt:=[]
theorem t79:ak Try.prog T79:=ai
noncomputable def c79:=bK Try.prog [] Try.f79 .n
theorem ok79:L.Fn Try.prog 79 4 [(.t 2)] (erase c79):=oA Try.func79
def JI:FSh:=⟨⟨[(.v aZ)],[]⟩,[aZ],0,⟨⟨[(.fn 110 Iq)],[(0,(.boxT aZ))]⟩,[aZ],[],1⟩,false⟩
noncomputable def q79 (a0:List Y1):Option Y8:=
some a0
theorem g79 (a0:List Y1):aK T79 JI [(.t 2)] c79 a0=q79 a0:=by kernel_rfl
noncomputable def p79:=q79
noncomputable def Cf:nj:=fun x=>p79 x
theorem v79:aK T79 JI [(.t 2)] c79=Cf:=funext fun x=>(g79 x)
theorem d79:DC Try.prog 79 JI Cf:=dD v79 t79 ok79
noncomputable def RX (F123:nj):List FEnt:=[⟨123,sh123,F123⟩]
theorem t108:ak Try.prog (RX P123):=dK ai d123
noncomputable def RY:=bK Try.prog [] Try.f108 .n
theorem WY:L.Fn Try.prog 108 5 [(.t 2)] (erase RY):=oA Try.func108
def zU:FSh:=⟨⟨[(.fn 110 Iq)],[(0,(.boxT aZ))]⟩,[aZ],1,⟨⟨zP,dw⟩,[aZ],[],1⟩,false⟩
noncomputable def JJ (F123:nj)(a0:List Y1):Option Y8:=
(F123 a0).bind fun r1=>(
some r1)
theorem g108 (F123:nj)(a0:List Y1):aK (RX F123) zU [(.t 2)] RY a0=JJ F123 a0:=by kernel_rfl
noncomputable def p108:=JJ P123
noncomputable def P108:nj:=fun x=>p108 x
theorem v108:aK (RX P123) zU [(.t 2)] RY=P108:=funext fun x=>(g108 P123 x)
theorem d108:DC Try.prog 108 zU P108:=dD v108 t108 WY
noncomputable def VG:List FEnt:=[]
theorem t95:ak Try.prog VG:=ai
def MG:LSh:=⟨[0,2],⟨[(.v jd),(.v y7)],[]⟩,[jd,y7],0,[]⟩
def MH:List XSh:=[⟨.normal,[0,2],⟨⟨[(.v jd),(.v y7)],[]⟩,[jd,y7],[],0⟩⟩]
noncomputable def c95:=bK Try.prog [] Try.f95 (.s .n (.s (.o MG MH .n) .n))
noncomputable def l95_0 (T:List FEnt):=fw (xs:=MH) MG (bc T (sb [1,0,2] c95))
noncomputable def zV (a0 a1:Int):Option CD:=
cond (decide (4294967296≤a0)) (
some ((bG .u64 a0 32),32)) (
some (a0,a1))
theorem WZ:l95_0 VG=u2 zV:=funext fun _=>by kernel_rfl
noncomputable def ED:=zV
noncomputable def zW:Ba:=fun x=>ED x.1 x.2
theorem v95_0:l95_0 VG=zW:=WZ
theorem ok95:L.Fn Try.prog 95 25 [(.t 2)] (erase c95):=oA Try.func95
def JK:FSh:=⟨⟨[(.v jd)],[]⟩,[jd],0,⟨⟨mh,[]⟩,[y7],[],0⟩,true⟩
noncomputable def q95 (l95_0:Ba)(a0:Int):Option Int:=
(l95_0 (a0,0)).bind fun y1=>(
cond (decide (65536≤y1.1)) (
ah (af .i64 (y1.2+16)) (
cond (decide (256≤(bG .u64 y1.1 16))) (
ah (af .i64 ((y1.2+16)+8)) (
ah (af .u8 (bG .u64 (bG .u64 y1.1 16) 8)) (
ah (aA (bG .u64 (bG .u64 y1.1 16) 8) (ByteArray.size tb)) (
ah (af .i64 (zq tb (bG .u64 (bG .u64 y1.1 16) 8))) (
ah (af .i64 (((y1.2+16)+8)+(zq tb (bG .u64 (bG .u64 y1.1 16) 8)))) (
some (((y1.2+16)+8)+(zq tb (bG .u64 (bG .u64 y1.1 16) 8))))))))) (
ah (af .u8 (bG .u64 y1.1 16)) (
ah (aA (bG .u64 y1.1 16) (ByteArray.size tb)) (
ah (af .i64 (zq tb (bG .u64 y1.1 16))) (
ah (af .i64 ((y1.2+16)+(zq tb (bG .u64 y1.1 16)))) (
some ((y1.2+16)+(zq tb (bG .u64 y1.1 16)))))))))) (
cond (decide (256≤y1.1)) (
ah (af .i64 (y1.2+8)) (
ah (af .u8 (bG .u64 y1.1 8)) (
ah (aA (bG .u64 y1.1 8) (ByteArray.size tb)) (
ah (af .i64 (zq tb (bG .u64 y1.1 8))) (
ah (af .i64 ((y1.2+8)+(zq tb (bG .u64 y1.1 8)))) (
some ((y1.2+8)+(zq tb (bG .u64 y1.1 8))))))))) (
ah (af .u8 y1.1) (
ah (aA y1.1 (ByteArray.size tb)) (
ah (af .i64 (zq tb y1.1)) (
ah (af .i64 (y1.2+(zq tb y1.1))) (
some (y1.2+(zq tb y1.1)))))))))
theorem g95 (a0:Int):aK VG JK [(.t 2)] c95 a0=q95 (l95_0 VG) a0:=by kernel_rfl
noncomputable def p95:=q95 zW
noncomputable def P95:n6:=fun x=>p95 x
theorem v95:aK VG JK [(.t 2)] c95=P95:=funext fun x=>(g95 x).trans (by rw[v95_0] <;> rfl)
theorem d95:DC Try.prog 95 JK P95:=dD v95 t95 ok95
noncomputable def T67 (F95:n6):List FEnt:=[⟨95,JK,F95⟩]
theorem t67:ak Try.prog (T67 P95):=dK ai d95
noncomputable def c67:=bK Try.prog [] Try.f67 .n
theorem ok67:L.Fn Try.prog 67 8 [(.t 2)] (erase c67):=oA Try.func67
def Cg:FSh:=⟨⟨[(.v jd)],[]⟩,[jd],0,⟨⟨mh,[]⟩,[y7],[],0⟩,true⟩
noncomputable def q67 (F95:n6)(a0:Int):Option Int:=
(F95 a0).bind fun r1=>(
some r1)
theorem g67 (F95:n6)(a0:Int):aK (T67 F95) Cg [(.t 2)] c67 a0=q67 F95 a0:=by kernel_rfl
noncomputable def p67:=q67 P95
noncomputable def P67:n6:=fun x=>p67 x
theorem v67:aK (T67 P95) Cg [(.t 2)] c67=P67:=funext fun x=>(g67 P95 x)
theorem d67:DC Try.prog 67 Cg P67:=dD v67 t67 ok67
noncomputable def VH:List FEnt:=[]
theorem t81:ak Try.prog VH:=ai
def MI:LSh:=⟨[3,6,7,8],⟨[(.v y7),(.v y19),(.v y7),(.v y7)],[]⟩,[y7,y19,y7,y7],0,[]⟩
def MJ:List XSh:=[⟨.ret,[2],⟨⟨mh,[]⟩,[y7],[],0⟩⟩,⟨(.exit 0),[3],⟨⟨mh,[]⟩,[y7],[],0⟩⟩]
noncomputable def c81:=bK Try.prog [] Try.f81 (.s .n (.s .n (.s (.s .n (.b (.l MI MJ .n))) .n)))
noncomputable def MK (T:List FEnt):=aB (xs:=MJ) MI (bc T (sb [1,1,0,1,2,2] c81))
noncomputable def l81_0 (T:List FEnt):=aa (MK T)
noncomputable def ML (a0:Int)(a1:List Int)(a2 a3:Int):Option ((Int×Y2×Int×Int)⊕Y56):=
cond (decide (a3 < a2)) (
ah (aA a3 a1.length) (
cond (!decide ((ix a1 a3)=a0)) (
some (Sum.inr (Sum.inl (ix a1 a3)))) (
ah (af .i64 (a3+1)) (
some (Sum.inl (a0,a1,a2,(a3+1))))))) (
some (Sum.inr (Sum.inr a0)))
theorem W0:MK VH=u4 ML:=funext fun _=>by kernel_rfl
noncomputable def zX:=ML
noncomputable def zY:Y67:=aa (u4 zX)
theorem v81_0:l81_0 VH=zY:=congrArg aa W0
theorem ok81:L.Fn Try.prog 81 18 [(.t 2)] (erase c81):=oA Try.func81
def JL:FSh:=⟨⟨[(.v y19)],[]⟩,[y19],0,⟨⟨mh,[]⟩,[y7],[],0⟩,true⟩
noncomputable def q81 (l81_0:Y67)(a0:List Int):Option Int:=
(l81_0 (0,a0,(↑a0.length:Int),0)).bind (fun y1=>Sum.elim (fun y2=>(
some y2)) (fun y3=>(
some y3)) y1)
theorem g81 (a0:List Int):aK VH JL [(.t 2)] c81 a0=q81 (l81_0 VH) a0:=by kernel_rfl
noncomputable def p81:=q81 zY
noncomputable def MM:C9:=fun x=>p81 x
theorem v81:aK VH JL [(.t 2)] c81=MM:=funext fun x=>(g81 x).trans (by rw[v81_0] <;> rfl)
theorem d81:DC Try.prog 81 JL MM:=dD v81 t81 ok81
noncomputable def T80 (F81:C9):List FEnt:=[⟨81,JL,F81⟩]
theorem t80:ak Try.prog (T80 MM):=dK ai d81
noncomputable def c80:=bK Try.prog [] Try.f80 (.s .n (.s (.r [.a 10 false y7]) .n))
theorem ok80:L.Fn Try.prog 80 17 [(.t 4)] (erase c80):=oA Try.func80
def qC:FSh:=⟨⟨[(.st cZ),(.st cZ)],[]⟩,[cZ,cZ],0,⟨⟨mh,[]⟩,[y7],[],0⟩,true⟩
noncomputable def q80 (F81:C9)(a0 a1:Y1):Option Int:=
ah (af .i64 (a0.2.1-a1.2.1)) (
ah (af .i64 (a0.1-a1.1)) (
(F81 ([(a0.2.1-a1.2.1),(a0.1-a1.1)]:List Int)).bind fun r1=>(
some r1)))
theorem g80 (F81:C9):aK (T80 F81) qC [(.t 4)] c80=u2 (q80 F81):=funext fun _=>by kernel_rfl
noncomputable def p80:=q80 MM
noncomputable def P80:dV:=u2 p80
theorem v80:aK (T80 MM) qC [(.t 4)] c80=P80:=g80 MM
theorem RZ:DC Try.prog 80 qC P80:=dD v80 t80 ok80
noncomputable def tv (F80:dV):List FEnt:=[⟨80,qC,F80⟩]
theorem t129:ak Try.prog (tv P80):=dK ai RZ
def EE:LSh:=⟨[0,1,2,3,8,9],⟨Vz,dw⟩,Mq,1,[0]⟩
def EF:List XSh:=[⟨(.exit 2),[0,1,2,3,8],⟨⟨j15,dw⟩,vA,[0],1⟩⟩]
def EG:LSh:=⟨[0,1,2,3,8],⟨j15,dw⟩,vA,1,[0]⟩
def tw:List XSh:=[⟨(.exit 0),[],⟨⟨[],dw⟩,[aZ],[0],1⟩⟩]
noncomputable def EH:=bK Try.prog [] Try.f129 (.s .n (.b (.l EG tw (.s .n (.s (.b (.s .n (.b (.l EE EF .n)))) .n)))))
noncomputable def EI (T:List FEnt):=aB (xs:=EF) EE (bc T (sb [1,2,2,1,0,2,1,2,2] EH))
noncomputable def l129_1 (T:List FEnt):=aa (EI T)
noncomputable def xE (F80:dV)(a0 a1 a2 a3:Int)(a4:List Y1):Option Y115:=
cond (decide (a0 < a3)) (
ah (aA a3 a4.length) (
ah (af .i64 (a3-1)) (
ah (aA (a3-1) a4.length) (
(F80 ((ix a4 a3),(ix a4 (a3-1)))).bind fun r1=>(
cond (decide (r1 < 0)) (
ah (af .i64 (a3-1)) (
ah (af .i64 (a3-1)) (
ah (aA (a3-1) a4.length) (
ah (aA a3 a4.length) (
ah (aA a3 a4.length) (
ah (aA (a3-1) (List.length (List.set a4 a3.toNat (ix a4 (a3-1))))) (
ah (af .i64 (a3-1)) (
some (Sum.inl (a0,a1,a2,(a3-1),(List.set (List.set a4 a3.toNat (ix a4 (a3-1))) (Int.toNat (a3-1)) (ix a4 a3)))))))))))) (
some (Sum.inr (a0,a1,a2,a4)))))))) (
some (Sum.inr (a0,a1,a2,a4)))
theorem R0 (F80:dV):EI (tv F80)=u5 (xE F80):=funext fun _=>by kernel_rfl
noncomputable def EJ:=xE P80
noncomputable def xF:KX:=aa (u5 EJ)
theorem R1:l129_1 (tv P80)=xF:=congrArg aa (R0 P80)
noncomputable def EK (T:List FEnt):=aB (xs:=tw) EG (bc T (sb [1,2,2] EH))
noncomputable def l129_0 (T:List FEnt):=aa (EK T)
noncomputable def xG (F80:dV)(l129_1:KX)(a0 a1 a2:Int)(a3:List Y1):Option Y116:=
cond (decide (a2 < a1)) (
(l129_1 (a0,a1,a2,a2,a3)).bind fun y2=>(
ah (af .i64 (y2.2.2.1+1)) (
some (Sum.inl (y2.1,y2.2.1,(y2.2.2.1+1),y2.2.2.2))))) (
some (Sum.inr a3))
theorem R2 (F80:dV):EK (tv F80)=u4 (xG F80 (l129_1 (tv F80))):=funext fun _=>by kernel_rfl
noncomputable def EL:=xG P80 xF
noncomputable def xH:gJ:=aa (u4 EL)
theorem R3:l129_0 (tv P80)=xH:=congrArg aa ((R2 P80).trans (by rw[R1] <;> rfl))
theorem W1:L.Fn Try.prog 129 53 [] (erase EH):=oA Try.func129
def zZ:FSh:=⟨⟨VA,dw⟩,JA,1,⟨⟨pR,dw⟩,[aZ],[0],1⟩,false⟩
noncomputable def R4 (F80:dV)(l129_0:gJ)(a0 a1:Int)(a2:List Y1):Option Y8:=
ah (af .i64 (a0+1)) (
(l129_0 (a0,a1,(a0+1),a2)).bind fun y3=>(
some y3))
theorem g129 (F80:dV):aK (tv F80) zZ [] EH=u3 (R4 F80 (l129_0 (tv F80))):=funext fun _=>by kernel_rfl
noncomputable def W2:=R4 P80 xH
noncomputable def hX:lp:=u3 W2
theorem v129:aK (tv P80) zZ [] EH=hX:=(g129 P80).trans (by rw[R3] <;> rfl)
theorem d129:DC Try.prog 129 zZ hX:=dD v129 t129 W1
noncomputable def Ch (F80:dV):List FEnt:=[⟨80,qC,F80⟩]
theorem t137:ak Try.prog (Ch P80):=dK ai RZ
def EM:LSh:=⟨[0,2,3,4,10],⟨j15,dw⟩,vA,1,[0]⟩
def EN:List XSh:=[⟨(.exit 0),[],⟨⟨[],dw⟩,[aZ],[0],1⟩⟩,⟨.ret,[],⟨⟨[],dw⟩,[aZ],[0],1⟩⟩]
noncomputable def JM:=bK Try.prog [] Try.f137 (.s .n (.b (.l EM EN .n)))
noncomputable def EO (T:List FEnt):=aB (xs:=EN) EM (bc T (sb [1,2,2] JM))
noncomputable def l137_0 (T:List FEnt):=aa (EO T)
noncomputable def xI (F80:dV)(a0 a1 a2:Int)(a3:List Y1):Option (KV⊕Y94):=
ah (af .i64 (2*a2)) (
ah (af .i64 ((2*a2)+1)) (
cond (decide (a0≤((2*a2)+1))) (
some (Sum.inr (Sum.inl a3))) (
ah (af .i64 (((2*a2)+1)+1)) (
cond (decide ((((2*a2)+1)+1) < a0)) (
ah (af .i64 (a1+((2*a2)+1))) (
ah (aA (a1+((2*a2)+1)) a3.length) (
ah (af .i64 (a1+((2*a2)+1))) (
ah (af .i64 ((a1+((2*a2)+1))+1)) (
ah (aA ((a1+((2*a2)+1))+1) a3.length) (
(F80 ((ix a3 (a1+((2*a2)+1))),(ix a3 ((a1+((2*a2)+1))+1)))).bind fun r1=>(
cond (decide (r1 < 0)) (
ah (af .i64 (((2*a2)+1)+1)) (
ah (af .i64 (a1+a2)) (
ah (aA (a1+a2) a3.length) (
ah (af .i64 (a1+(((2*a2)+1)+1))) (
ah (aA (a1+(((2*a2)+1)+1)) a3.length) (
(F80 ((ix a3 (a1+a2)),(ix a3 (a1+(((2*a2)+1)+1))))).bind fun r2=>(
cond (!(decide (r2 < 0))) (
some (Sum.inr (Sum.inr a3))) (
ah (af .i64 (a1+a2)) (
ah (af .i64 (a1+(((2*a2)+1)+1))) (
ah (af .i64 (a1+(((2*a2)+1)+1))) (
ah (aA (a1+(((2*a2)+1)+1)) a3.length) (
ah (af .i64 (a1+a2)) (
ah (aA (a1+a2) a3.length) (
ah (aA (a1+a2) a3.length) (
ah (aA (a1+(((2*a2)+1)+1)) (List.length (List.set a3 (Int.toNat (a1+a2)) (ix a3 (a1+(((2*a2)+1)+1)))))) (
some (Sum.inl (a0,a1,(((2*a2)+1)+1),(List.set (List.set a3 (Int.toNat (a1+a2)) (ix a3 (a1+(((2*a2)+1)+1)))) (Int.toNat (a1+(((2*a2)+1)+1))) (ix a3 (a1+a2))))))))))))))))))))) (
ah (af .i64 (a1+a2)) (
ah (aA (a1+a2) a3.length) (
ah (af .i64 (a1+((2*a2)+1))) (
ah (aA (a1+((2*a2)+1)) a3.length) (
(F80 ((ix a3 (a1+a2)),(ix a3 (a1+((2*a2)+1))))).bind fun r3=>(
cond (!(decide (r3 < 0))) (
some (Sum.inr (Sum.inr a3))) (
ah (af .i64 (a1+a2)) (
ah (af .i64 (a1+((2*a2)+1))) (
ah (af .i64 (a1+((2*a2)+1))) (
ah (aA (a1+((2*a2)+1)) a3.length) (
ah (af .i64 (a1+a2)) (
ah (aA (a1+a2) a3.length) (
ah (aA (a1+a2) a3.length) (
ah (aA (a1+((2*a2)+1)) (List.length (List.set a3 (Int.toNat (a1+a2)) (ix a3 (a1+((2*a2)+1)))))) (
some (Sum.inl (a0,a1,((2*a2)+1),(List.set (List.set a3 (Int.toNat (a1+a2)) (ix a3 (a1+((2*a2)+1)))) (Int.toNat (a1+((2*a2)+1))) (ix a3 (a1+a2))))))))))))))))))))))))))) (
ah (af .i64 (a1+a2)) (
ah (aA (a1+a2) a3.length) (
ah (af .i64 (a1+((2*a2)+1))) (
ah (aA (a1+((2*a2)+1)) a3.length) (
(F80 ((ix a3 (a1+a2)),(ix a3 (a1+((2*a2)+1))))).bind fun r4=>(
cond (!(decide (r4 < 0))) (
some (Sum.inr (Sum.inr a3))) (
ah (af .i64 (a1+a2)) (
ah (af .i64 (a1+((2*a2)+1))) (
ah (af .i64 (a1+((2*a2)+1))) (
ah (aA (a1+((2*a2)+1)) a3.length) (
ah (af .i64 (a1+a2)) (
ah (aA (a1+a2) a3.length) (
ah (aA (a1+a2) a3.length) (
ah (aA (a1+((2*a2)+1)) (List.length (List.set a3 (Int.toNat (a1+a2)) (ix a3 (a1+((2*a2)+1)))))) (
some (Sum.inl (a0,a1,((2*a2)+1),(List.set (List.set a3 (Int.toNat (a1+a2)) (ix a3 (a1+((2*a2)+1)))) (Int.toNat (a1+((2*a2)+1))) (ix a3 (a1+a2))))))))))))))))))))))))
theorem R5 (F80:dV):EO (Ch F80)=u4 (xI F80):=funext fun _=>by kernel_rfl
noncomputable def EP:=xI P80
noncomputable def xJ:Y105:=aa (u4 EP)
theorem R6:l137_0 (Ch P80)=xJ:=congrArg aa (R5 P80)
theorem W3:L.Fn Try.prog 137 82 [] (erase JM):=oA Try.func137
def Aa:FSh:=⟨⟨j16,dw⟩,vA,1,⟨⟨pR,dw⟩,[aZ],[0],1⟩,false⟩
noncomputable def R7 (F80:dV)(l137_0:Y105)(a0 a1 a2:Int)(a3:List Y1):Option Y8:=
(l137_0 (a1,a2,a0,a3)).bind (fun y5=>Sum.elim (fun y6=>(
some y6)) (fun y7=>(
some y7)) y5)
theorem g137 (F80:dV):aK (Ch F80) Aa [] JM=u4 (R7 F80 (l137_0 (Ch F80))):=funext fun _=>by kernel_rfl
noncomputable def W5:=R7 P80 xJ
noncomputable def lj:gJ:=u4 W5
theorem v137:aK (Ch P80) Aa [] JM=lj:=(g137 P80).trans (by rw[R6] <;> rfl)
theorem d137:DC Try.prog 137 Aa lj:=dD v137 t137 W3
noncomputable def tx (F137:gJ):List FEnt:=[⟨137,Aa,F137⟩]
theorem t130:ak Try.prog (tx lj):=dK ai d137
def EQ:LSh:=⟨[0,3,8,9,10,11],⟨[(.slc 0),(.fn 80 []),(.v y7),(.v y7),(.v y7),(.v y7)],dw⟩,Mq,1,[0]⟩
def ER:List XSh:=[⟨(.exit 0),[0,3,8,9,10],⟨⟨j17,dw⟩,vA,[0],1⟩⟩]
def ES:LSh:=⟨[0,3,8,9,12],⟨j17,dw⟩,vA,1,[0]⟩
def ET:List XSh:=[⟨(.exit 2),[],⟨⟨[],dw⟩,[aZ],[0],1⟩⟩]
noncomputable def EU:=bK Try.prog [] Try.f130 (.s .n (.s .n (.s .n (.s (.s .n (.b (.l EQ ER .n))) (.s .n (.b (.l ES ET .n)))))))
noncomputable def EV (T:List FEnt):=aB (xs:=ER) EQ (bc T (sb [1,1,1,0,1,2,2] EU))
noncomputable def l130_0 (T:List FEnt):=aa (EV T)
noncomputable def xK (F137:gJ)(a0 a1 a2 a3:Int)(a4:List Y1):Option Y115:=
cond (decide (0≤a3)) (
(F137 (a3,a2,a0,a4)).bind fun r1=>(
ah (af .i64 (a3-1)) (
some (Sum.inl (a0,a1,a2,(a3-1),r1))))) (
some (Sum.inr (a0,a1,a2,a4)))
theorem R8 (F137:gJ):EV (tx F137)=u5 (xK F137):=funext fun _=>by kernel_rfl
noncomputable def EW:=xK lj
noncomputable def xL:KX:=aa (u5 EW)
theorem R9:l130_0 (tx lj)=xL:=congrArg aa (R8 lj)
noncomputable def EX (T:List FEnt):=aB (xs:=ET) ES (bc T (sb [1,1,1,1,1,2,2] EU))
noncomputable def l130_1 (T:List FEnt):=aa (EX T)
noncomputable def xM (F137:gJ)(a0 a1 a2:Int)(a3:List Y1):Option Y116:=
cond (decide (0≤a2)) (
ah (af .i64 (a0+a2)) (
ah (af .i64 (a0+a2)) (
ah (aA (a0+a2) a3.length) (
ah (aA a0 a3.length) (
ah (aA a0 a3.length) (
ah (aA (a0+a2) (List.length (List.set a3 a0.toNat (ix a3 (a0+a2))))) (
(F137 (a1,a2,a0,(List.set (List.set a3 a0.toNat (ix a3 (a0+a2))) (Int.toNat (a0+a2)) (ix a3 a0)))).bind fun r3=>(
ah (af .i64 (a2-1)) (
some (Sum.inl (a0,a1,(a2-1),r3))))))))))) (
some (Sum.inr a3))
theorem Sa (F137:gJ):EX (tx F137)=u4 (xM F137):=funext fun _=>by kernel_rfl
noncomputable def EY:=xM lj
noncomputable def xN:gJ:=aa (u4 EY)
theorem Sb:l130_1 (tx lj)=xN:=congrArg aa (Sa lj)
theorem W6:L.Fn Try.prog 130 60 [] (erase EU):=oA Try.func130
def Ab:FSh:=⟨⟨VA,dw⟩,JA,1,⟨⟨pR,dw⟩,[aZ],[0],1⟩,false⟩
noncomputable def Sc (F137:gJ)(l130_0:KX)(l130_1:gJ)(a0 a1:Int)(a2:List Y1):Option Y8:=
ah (af .i64 (a1-a0)) (
ah (af .i64 ((a1-a0)-1)) (
ah (af .i64 (Int.tdiv ((a1-a0)-1) 2)) (
(l130_0 (a0,0,(a1-a0),(Int.tdiv ((a1-a0)-1) 2),a2)).bind fun y2=>(
ah (af .i64 (y2.2.2.1-1)) (
(l130_1 (y2.1,y2.2.1,(y2.2.2.1-1),y2.2.2.2)).bind fun y4=>(
some y4))))))
theorem g130 (F137:gJ):aK (tx F137) Ab [] EU=u3 (Sc F137 (l130_0 (tx F137)) (l130_1 (tx F137))):=funext fun _=>by kernel_rfl
noncomputable def W7:=Sc lj xL xN
noncomputable def hY:lp:=u3 W7
theorem v130:aK (tx lj) Ab [] EU=hY:=(g130 lj).trans (by rw[R9,Sb] <;> rfl)
theorem d130:DC Try.prog 130 Ab hY:=dD v130 t130 W6
noncomputable def Se (F67:n6):List FEnt:=[⟨67,Cg,F67⟩]
theorem t114:ak Try.prog (Se P67):=dK ai d67
noncomputable def Sf:=bK Try.prog [] Try.f114 .n
theorem W8:L.Fn Try.prog 114 7 [(.t 2)] (erase Sf):=oA Try.func114
def vE:FSh:=⟨⟨mh,[]⟩,[y7],0,⟨⟨[(.v jd)],[]⟩,[jd],[],0⟩,true⟩
noncomputable def JN (F67:n6)(a0:Int):Option Int:=
ah (af .u64 a0) (
(F67 a0).bind fun r1=>(
ah (decide (0≤r1)) (
some (gC .u64 1 r1))))
theorem g114 (F67:n6)(a0:Int):aK (Se F67) vE [(.t 2)] Sf a0=JN F67 a0:=by kernel_rfl
noncomputable def Sg:=JN P67
noncomputable def h9:n6:=fun x=>Sg x
theorem v114:aK (Se P67) vE [(.t 2)] Sf=h9:=funext fun x=>(g114 P67 x)
theorem W9:DC Try.prog 114 vE h9:=dD v114 t114 W8
noncomputable def Sh:List FEnt:=[]
theorem t115:ak Try.prog Sh:=ai
noncomputable def Si:=bK Try.prog [] Try.f115 .n
theorem Xa:L.Fn Try.prog 115 33 [(.t 2)] (erase Si):=oA Try.func115
def vF:FSh:=⟨⟨Iq,[(0,(.boxT jd))]⟩,[jd],1,⟨⟨[(.v jd)],[(0,(.boxT jd))]⟩,[jd,jd],[0],1⟩,false⟩
noncomputable def JO (a0:Int):Option CD:=
some ((i8 .u64 (i8 .u64 (i8 .u64 a0 (gC .u64 a0 13)) (bG .u64 (i8 .u64 a0 (gC .u64 a0 13)) 7)) (gC .u64 (i8 .u64 (i8 .u64 a0 (gC .u64 a0 13)) (bG .u64 (i8 .u64 a0 (gC .u64 a0 13)) 7)) 17)),(i8 .u64 (i8 .u64 (i8 .u64 a0 (gC .u64 a0 13)) (bG .u64 (i8 .u64 a0 (gC .u64 a0 13)) 7)) (gC .u64 (i8 .u64 (i8 .u64 a0 (gC .u64 a0 13)) (bG .u64 (i8 .u64 a0 (gC .u64 a0 13)) 7)) 17)))
theorem g115 (a0:Int):aK Sh vF [(.t 2)] Si a0=JO a0:=by kernel_rfl
noncomputable def Sj:=JO
noncomputable def ia:Hg:=fun x=>Sj x
theorem v115:aK Sh vF [(.t 2)] Si=ia:=funext fun x=>(g115 x)
theorem Xb:DC Try.prog 115 vF ia:=dD v115 t115 Xa
noncomputable def Ci (F114:n6)(F115:Hg):List FEnt:=[⟨114,vE,F114⟩,⟨115,vF,F115⟩]
theorem t131:ak Try.prog (Ci h9 ia):=dK (dK ai Xb) W9
def EZ:LSh:=⟨[0,1,8,9,10,11],⟨j11,[(0,(.row 40 cZ)),(1,(.boxT jd))]⟩,[y7,y7,jd,y7,aZ,jd],2,[0,1]⟩
def E2:List XSh:=[⟨(.exit 0),[],⟨⟨[],[(0,(.row 40 cZ)),(1,(.boxT jd))]⟩,[aZ,jd],[0,1],2⟩⟩]
noncomputable def JP:=bK Try.prog [] Try.f131 (.s .n (.s .n (.s (.s .n (.s .n (.s .n (.b (.l EZ E2 .n))))) .n)))
noncomputable def E3 (T:List FEnt):=aB (xs:=E2) EZ (bc T (sb [1,1,0,1,1,1,2,2] JP))
noncomputable def l131_0 (T:List FEnt):=aa (E3 T)
noncomputable def tz (F114:n6)(F115:Hg)(a0 a1 a2 a3:Int)(a4:List Y1)(a5:Int):Option ((Int×Int×Int×Int×Y8×Int)⊕Y96):=
ah (af .i64 (Int.tdiv a1 4)) (
ah (af .i64 ((Int.tdiv a1 4)*2)) (
ah (af .i64 (a0+((Int.tdiv a1 4)*2))) (
ah (af .i64 ((a0+((Int.tdiv a1 4)*2))+1)) (
cond (decide (a3≤((a0+((Int.tdiv a1 4)*2))+1))) (
(F115 a5).bind fun r2=>(
ah (af .u64 (a2-1)) (
ah (af .i64 (bk .u64 r2.1 (a2-1))) (
cond (decide (a1≤(bk .u64 r2.1 (a2-1)))) (
ah (af .i64 ((bk .u64 r2.1 (a2-1))-a1)) (
ah (af .i64 (a0+((bk .u64 r2.1 (a2-1))-a1))) (
ah (af .i64 (a0+((bk .u64 r2.1 (a2-1))-a1))) (
ah (aA (a0+((bk .u64 r2.1 (a2-1))-a1)) a4.length) (
ah (aA a3 a4.length) (
ah (aA a3 a4.length) (
ah (aA (a0+((bk .u64 r2.1 (a2-1))-a1)) (List.length (List.set a4 a3.toNat (ix a4 (a0+((bk .u64 r2.1 (a2-1))-a1)))))) (
ah (af .i64 (a3+1)) (
some (Sum.inl (a0,a1,a2,(a3+1),(List.set (List.set a4 a3.toNat (ix a4 (a0+((bk .u64 r2.1 (a2-1))-a1)))) (Int.toNat (a0+((bk .u64 r2.1 (a2-1))-a1))) (ix a4 a3)),r2.2))))))))))) (
ah (af .i64 (a0+(bk .u64 r2.1 (a2-1)))) (
ah (af .i64 (a0+(bk .u64 r2.1 (a2-1)))) (
ah (aA (a0+(bk .u64 r2.1 (a2-1))) a4.length) (
ah (aA a3 a4.length) (
ah (aA a3 a4.length) (
ah (aA (a0+(bk .u64 r2.1 (a2-1))) (List.length (List.set a4 a3.toNat (ix a4 (a0+(bk .u64 r2.1 (a2-1))))))) (
ah (af .i64 (a3+1)) (
some (Sum.inl (a0,a1,a2,(a3+1),(List.set (List.set a4 a3.toNat (ix a4 (a0+(bk .u64 r2.1 (a2-1))))) (Int.toNat (a0+(bk .u64 r2.1 (a2-1)))) (ix a4 a3)),r2.2)))))))))))))) (
some (Sum.inr (a4,a5)))))))
theorem Sk (F114:n6)(F115:Hg):E3 (Ci F114 F115)=u6 (tz F114 F115):=funext fun _=>by kernel_rfl
noncomputable def xO:=tz h9 ia
noncomputable def xP:Y106:=aa (u6 xO)
theorem Sl:l131_0 (Ci h9 ia)=xP:=congrArg aa (Sk h9 ia)
theorem Xc:L.Fn Try.prog 131 67 [] (erase JP):=oA Try.func131
def Ac:FSh:=⟨⟨VA,dw⟩,JA,1,⟨⟨pR,dw⟩,[aZ],[0],1⟩,false⟩
noncomputable def JQ (F114:n6)(F115:Hg)(l131_0:Y106)(a0 a1:Int)(a2:List Y1):Option Y8:=
ah (af .i64 (a1-a0)) (
cond (decide (8≤(a1-a0))) (
ah (af .u64 (a1-a0)) (
(F114 (a1-a0)).bind fun r1=>(
ah (af .i64 (Int.tdiv (a1-a0) 4)) (
ah (af .i64 ((Int.tdiv (a1-a0) 4)*2)) (
ah (af .i64 (a0+((Int.tdiv (a1-a0) 4)*2))) (
ah (af .i64 ((a0+((Int.tdiv (a1-a0) 4)*2))-1)) (
(l131_0 (a0,(a1-a0),r1,((a0+((Int.tdiv (a1-a0) 4)*2))-1),a2,(a1-a0))).bind fun y3=>(
some y3.1)))))))) (
some a2))
theorem g131 (F114:n6)(F115:Hg):aK (Ci F114 F115) Ac [] JP=u3 (JQ F114 F115 (l131_0 (Ci F114 F115))):=funext fun _=>by kernel_rfl
noncomputable def Sm:=JQ h9 ia xP
noncomputable def gE:lp:=u3 Sm
theorem v131:aK (Ci h9 ia) Ac [] JP=gE:=(g131 h9 ia).trans (by rw[Sl] <;> rfl)
theorem d131:DC Try.prog 131 Ac gE:=dD v131 t131 Xc
noncomputable def Sn (F80:dV):List FEnt:=[⟨80,qC,F80⟩]
theorem t140:ak Try.prog (Sn P80):=dK ai RZ
noncomputable def So:=bK Try.prog [] Try.f140 .n
theorem Xd:L.Fn Try.prog 140 32 [(.t 10),(.t 11)] (erase So):=oA Try.func140
def Ad:FSh:=⟨⟨[(.slc 0),(.v y7),(.v y7),(.ptr 1 0),(.fn 80 [])],VB⟩,[y7,y7,aZ,y7],2,⟨⟨Mr,VB⟩,[y7,y7,aZ,y7],[0,1],2⟩,false⟩
noncomputable def Sp (F80:dV)(a0 a1:Int)(a2:List Y1)(a3:Int):Option Y84:=
ah (aA a1 a2.length) (
ah (aA a0 a2.length) (
(F80 ((ix a2 a1),(ix a2 a0))).bind fun r1=>(
cond (decide (r1 < 0)) (
ah (af .i64 (a3+1)) (
some (a1,a0,a2,(a3+1)))) (
some (a0,a1,a2,a3)))))
theorem g140 (F80:dV):aK (Sn F80) Ad [(.t 10),(.t 11)] So=u4 (Sp F80):=funext fun _=>by kernel_rfl
noncomputable def Xe:=Sp P80
noncomputable def qD:KY:=u4 Xe
theorem v140:aK (Sn P80) Ad [(.t 10),(.t 11)] So=qD:=g140 P80
theorem d140:DC Try.prog 140 Ad qD:=dD v140 t140 Xd
noncomputable def Sq (F140:KY):List FEnt:=[⟨140,Ad,F140⟩]
theorem t139:ak Try.prog (Sq qD):=dK ai d140
noncomputable def Sr:=bK Try.prog [] Try.f139 .n
theorem Xf:L.Fn Try.prog 139 41 [(.t 12)] (erase Sr):=oA Try.func139
def vG:FSh:=⟨⟨[(.slc 0),(.v y7),(.v y7),(.v y7),(.ptr 1 0),(.fn 80 [])],VB⟩,[y7,y7,y7,aZ,y7],2,⟨⟨mh,VB⟩,[y7,aZ,y7],[0,1],2⟩,false⟩
noncomputable def Ss (F140:KY)(a0 a1 a2:Int)(a3:List Y1)(a4:Int):Option Y85:=
(F140 (a0,a1,a3,a4)).bind fun r1=>(
(F140 (r1.2.1,a2,r1.2.2.1,r1.2.2.2)).bind fun r2=>(
(F140 (r1.1,r2.1,r2.2.2.1,r2.2.2.2)).bind fun r3=>(
some (r3.2.1,r3.2.2.1,r3.2.2.2))))
theorem g139 (F140:KY):aK (Sq F140) vG [(.t 12)] Sr=u5 (Ss F140):=funext fun _=>by kernel_rfl
noncomputable def Xg:=Ss qD
noncomputable def m6:yA:=u5 Xg
theorem v139:aK (Sq qD) vG [(.t 12)] Sr=m6:=g139 qD
theorem Xh:DC Try.prog 139 vG m6:=dD v139 t139 Xf
noncomputable def Su (F139:yA):List FEnt:=[⟨139,vG,F139⟩]
theorem t138:ak Try.prog (Su m6):=dK ai Xh
noncomputable def Sv:=bK Try.prog [] Try.f138 .n
theorem Xi:L.Fn Try.prog 138 18 [(.t 8)] (erase Sv):=oA Try.func138
def Ae:FSh:=⟨⟨[(.slc 0),(.v y7),(.ptr 1 0),(.fn 80 [])],VB⟩,[y7,aZ,y7],2,⟨⟨mh,VB⟩,[y7,aZ,y7],[0,1],2⟩,false⟩
noncomputable def Sw (F139:yA)(a0:Int)(a1:List Y1)(a2:Int):Option Y85:=
ah (af .i64 (a0-1)) (
ah (af .i64 (a0+1)) (
(F139 ((a0-1),a0,(a0+1),a1,a2)).bind fun r1=>(
some (r1.1,r1.2.1,r1.2.2))))
theorem g138 (F139:yA):aK (Su F139) Ae [(.t 8)] Sv=u3 (Sw F139):=funext fun _=>by kernel_rfl
noncomputable def Xj:=Sw m6
noncomputable def tA:KZ:=u3 Xj
theorem v138:aK (Su m6) Ae [(.t 8)] Sv=tA:=g138 m6
theorem d138:DC Try.prog 138 Ae tA:=dD v138 t138 Xi
noncomputable def Sx (F138:KZ)(F139:yA):List FEnt:=[⟨138,Ae,F138⟩,⟨139,vG,F139⟩]
theorem t132:ak Try.prog (Sx tA m6):=dK (dK ai Xh) d138
noncomputable def Sy:=bK Try.prog [] Try.f132 .n
theorem Xk:L.Fn Try.prog 132 63 [(.t 8),(.t 9)] (erase Sy):=oA Try.func132
def Af:FSh:=⟨⟨VA,dw⟩,JA,1,⟨⟨Mr,dw⟩,JA,[0],1⟩,false⟩
noncomputable def Sz (F138:KZ)(F139:yA)(a0 a1:Int)(a2:List Y1):Option Y97:=
ah (af .i64 (a1-a0)) (
ah (af .i64 (Int.tdiv (a1-a0) 4)) (
ah (af .i64 ((Int.tdiv (a1-a0) 4)*1)) (
ah (af .i64 (a0+((Int.tdiv (a1-a0) 4)*1))) (
ah (af .i64 (Int.tdiv (a1-a0) 4)) (
ah (af .i64 ((Int.tdiv (a1-a0) 4)*2)) (
ah (af .i64 (a0+((Int.tdiv (a1-a0) 4)*2))) (
ah (af .i64 (Int.tdiv (a1-a0) 4)) (
ah (af .i64 ((Int.tdiv (a1-a0) 4)*3)) (
ah (af .i64 (a0+((Int.tdiv (a1-a0) 4)*3))) (
cond (decide (8≤(a1-a0))) (
cond (decide (50≤(a1-a0))) (
(F138 ((a0+((Int.tdiv (a1-a0) 4)*1)),a2,0)).bind fun r1=>(
(F138 ((a0+((Int.tdiv (a1-a0) 4)*2)),r1.2.1,r1.2.2)).bind fun r2=>(
(F138 ((a0+((Int.tdiv (a1-a0) 4)*3)),r2.2.1,r2.2.2)).bind fun r3=>(
(F139 (r1.1,r2.1,r3.1,r3.2.1,r3.2.2)).bind fun r4=>(
cond (decide (r4.2.2=0)) (
some (r4.1,1,r4.2.1)) (
cond (decide (r4.2.2=12)) (
some (r4.1,2,r4.2.1)) (
some (r4.1,0,r4.2.1)))))))) (
(F139 ((a0+((Int.tdiv (a1-a0) 4)*1)),(a0+((Int.tdiv (a1-a0) 4)*2)),(a0+((Int.tdiv (a1-a0) 4)*3)),a2,0)).bind fun r5=>(
cond (decide (r5.2.2=0)) (
some (r5.1,1,r5.2.1)) (
cond (decide (r5.2.2=12)) (
some (r5.1,2,r5.2.1)) (
some (r5.1,0,r5.2.1)))))) (
cond (decide ((0:Int)=0)) (
some ((a0+((Int.tdiv (a1-a0) 4)*2)),1,a2)) (
cond (decide ((0:Int)=12)) (
some ((a0+((Int.tdiv (a1-a0) 4)*2)),2,a2)) (
some ((a0+((Int.tdiv (a1-a0) 4)*2)),0,a2))))))))))))))
theorem g132 (F138:KZ)(F139:yA):aK (Sx F138 F139) Af [(.t 8),(.t 9)] Sy=u3 (Sz F138 F139):=funext fun _=>by kernel_rfl
noncomputable def Xl:=Sz tA m6
noncomputable def ib:n7:=u3 Xl
theorem v132:aK (Sx tA m6) Af [(.t 8),(.t 9)] Sy=ib:=g132 tA m6
theorem d132:DC Try.prog 132 Af ib:=dD v132 t132 Xk
noncomputable def Cj:List FEnt:=[]
theorem t133:ak Try.prog Cj:=ai
def E4:LSh:=⟨[0,8,9],⟨Ir,dw⟩,JA,1,[0]⟩
noncomputable def JR:=bK Try.prog [] Try.f133 (.s .n (.s .n (.b (.l E4 tw .n))))
noncomputable def E5 (T:List FEnt):=aB (xs:=tw) E4 (bc T (sb [1,1,2,2] JR))
noncomputable def l133_0 (T:List FEnt):=aa (E5 T)
noncomputable def xQ (a0 a1:Int)(a2:List Y1):Option (Y97⊕Y8):=
cond (decide (a0 < a1)) (
ah (aA a1 a2.length) (
ah (aA a0 a2.length) (
ah (aA a0 a2.length) (
ah (aA a1 (List.length (List.set a2 a0.toNat (ix a2 a1)))) (
ah (af .i64 (a0+1)) (
ah (af .i64 (a1-1)) (
some (Sum.inl ((a0+1),(a1-1),(List.set (List.set a2 a0.toNat (ix a2 a1)) a1.toNat (ix a2 a0))))))))))) (
some (Sum.inr a2))
theorem SA:E5 Cj=u3 xQ:=funext fun _=>by kernel_rfl
noncomputable def E6:=xQ
noncomputable def xR:lp:=aa (u3 E6)
theorem SB:l133_0 Cj=xR:=congrArg aa SA
theorem Xm:L.Fn Try.prog 133 34 [] (erase JR):=oA Try.func133
def Ag:FSh:=⟨⟨VA,dw⟩,JA,1,⟨⟨pR,dw⟩,[aZ],[0],1⟩,false⟩
noncomputable def SC (l133_0:lp)(a0 a1:Int)(a2:List Y1):Option Y8:=
ah (af .i64 (a1-1)) (
(l133_0 (a0,(a1-1),a2)).bind fun y1=>(
some y1))
theorem g133:aK Cj Ag [] JR=u3 (SC (l133_0 Cj)):=funext fun _=>by kernel_rfl
noncomputable def Xn:=SC xR
noncomputable def ic:lp:=u3 Xn
theorem v133:aK Cj Ag [] JR=ic:=g133.trans (by rw[SB] <;> rfl)
theorem d133:DC Try.prog 133 Ag ic:=dD v133 t133 Xm
end Go.Proofs.Ytdkaijofmigmbaa.D
