import Derived.Test.YtdkaijofmigmbaaH2m
import Derived.Test.YtdkaijofmigmbaaProg
set_option linter.unusedVariables false
set_option maxRecDepth 100000
namespace Go.Proofs.Ytdkaijofmigmbaa.D
open Go Go.Proofs Go.Proofs.Ytdkaijofmigmbaa.L
def KP:List Ty:=[y7,y7,y7,y7,bd]
def uU:List Ty:=[y7,y7,y7,bd]
def IC:List Ty:=[y7,y7,bd]
def j38:List RSh:=[(.st aY),(.v bd)]
def j23:List RSh:=[(.tup [(.agg [(.slc 0),(.v y7)]),(.slc 1)])]
def nK:List RSh:=[(.v y7)]
def j40:List RSh:=[(.v iT),(.v iT)]
def UM:List RSh:=[(.v y19),(.v y7)]
def PM:List RSh:=[(.slc 0),(.v y7)]
def BA:List RSh:=[(.slc 0)]
def TA:List RSh:=[(.slc 0),(.v y7),(.v y7),(.fn 80 []),(.v y7),(.v y7)]
def j15:List RSh:=[(.slc 0),(.v y7),(.v y7),(.fn 80 []),(.v y7)]
def TB:List RSh:=[(.slc 0),(.v y7),(.v y7),(.fn 80 [])]
def j16:List RSh:=[(.slc 0),(.v y7),(.v y7),(.v y7),(.fn 80 [])]
def j17:List RSh:=[(.slc 0),(.fn 80 []),(.v y7),(.v y7),(.v y7)]
def j11:List RSh:=[(.slc 0),(.v y7),(.v y7),(.ptr 1 0),(.v iT),(.v y7)]
def KQ:List RSh:=[(.tup [(.v y7),(.v y7)])]
def Ho:List RSh:=[(.slc 0),(.v y7),(.v y7)]
def dp:List (Nat×OSh):=[(0,(.row 3 y7))]
def k13:List (Nat×OSh):=[(0,(.box [(.v y19),(.v y7),(.slr 1),(.mp 2),.emp])),(1,(.rows 22 3 y7)),(2,(.pmap 3)),(3,(.pool da))]
def dv:List (Nat×OSh):=[(0,(.row 40 da))]
def TC:List (Nat×OSh):=[(0,(.row 40 da)),(1,(.boxT y7))]
noncomputable def T24:List FEnt:=[]
theorem t24:aq Try.prog T24:=al
noncomputable def c24:=bU Try.prog [] Try.f24 .n
theorem ok24:L.Fn Try.prog 24 14 [(.t 4)] (erase c24):=Fn.ofA aN Try.func24 _ _ (by kernel_rfl)
def BB:FSh:=⟨⟨j38,[]⟩,[aY,bd],0,⟨⟨ft,[]⟩,[.bool],[],0⟩,true⟩
noncomputable def q24 (a0:Y2×Int)(a1:List Y1):Option Bool:=
cond (decide (30 < (↑a0.1.length:Int))) (
some true) (
some (decide (60 < (↑a1.length:Int))))
theorem g24:aO T24 BB [(.t 4)] c24=u2 q24:=funext fun _=>by kernel_rfl
noncomputable def p24:=q24
noncomputable def Cn:Hr:=fun x=>p24 x.1 x.2
theorem v24:aO T24 BB [(.t 4)] c24=Cn:=g24
theorem d24:DC Try.prog 24 BB Cn:=aF v24 (ak t24 ok24 (by kernel_rfl))
noncomputable def T41:List FEnt:=[]
theorem t41:aq Try.prog T41:=al
noncomputable def c41:=bU Try.prog [] Try.f41 (.s .n (.s (.r [.a 0 false y7,.a 7 true da]) .n))
theorem ok41:L.Fn Try.prog 41 10 [(.cell 0 true 2),(.t 1)] (erase c41):=Fn.ofA aN Try.func41 _ _ (by kernel_rfl)
def ID:FSh:=⟨⟨[],[]⟩,[],0,⟨⟨j23,[(0,(.row 3 y7)),(1,(.row 40 da))]⟩,[y7,y19,bd],[],2⟩,true⟩
noncomputable def q41:Option Yj:=
some (10,([5,3]:List Int),([(1,(0,(1,(1,2)))),(2,(1,(1,(2,2)))),(3,(5,(2,(1,0)))),(4,(12,(1,(3,3)))),(5,(11,(2,(2,0))))]:List Y1))
theorem g41:aO T41 ID [(.cell 0 true 2),(.t 1)] c41 ()=q41:=by kernel_rfl
noncomputable def p41:Option Yj:=q41
noncomputable def P41:Y98:=fun x=>p41
theorem v41:aO T41 ID [(.cell 0 true 2),(.t 1)] c41=P41:=funext fun x=>(g41)
theorem d41:DC Try.prog 41 ID P41:=aF v41 (ak t41 ok41 (by kernel_rfl))
noncomputable def T69 (F60:Y5):List FEnt:=[⟨60,sZ,F60⟩]
theorem t69:aq Try.prog (T69 P60):=(af Tx (by kernel_rfl) al)
noncomputable def c69:=bU Try.prog [] Try.f69 .n
theorem ok69:L.Fn Try.prog 69 6 [(.t 2)] (erase c69):=Fn.ofA aN Try.func69 _ _ (by kernel_rfl)
def IE:FSh:=⟨⟨nK,[]⟩,[y7],0,⟨⟨ft,[]⟩,[.bool],[],0⟩,true⟩
noncomputable def q69 (F60:Y5)(a0:Int):Option Bool:=
(F60 (a0,1,12)).bind fun r1=>(
some (!r1))
theorem g69 (F60:Y5)(a0:Int):aO (T69 F60) IE [(.t 2)] c69 a0=q69 F60 a0:=by kernel_rfl
noncomputable def p69:=q69 P60
noncomputable def P69:l6:=fun x=>p69 x
theorem v69:aO (T69 P60) IE [(.t 2)] c69=P69:=funext fun x=>(g69 P60 x)
theorem d69:DC Try.prog 69 IE P69:=aF v69 (ak t69 ok69 (by kernel_rfl))
noncomputable def TD (F69:l6):List FEnt:=[⟨69,IE,F69⟩]
theorem t74:aq Try.prog (TD P69):=(af d69 (by kernel_rfl) al)
def KR:LSh:=⟨[0,1,7,8],⟨[(.v y19),(.fn 69 []),(.v y7),(.v y7)],[]⟩,[y19,y7,y7],0,[]⟩
def zh:List XSh:=[⟨.ret,[4],⟨⟨nK,[]⟩,[y7],[],0⟩⟩,⟨(.exit 0),[],⟨⟨[],[]⟩,[],[],0⟩⟩]
noncomputable def c74:=bU Try.prog [] Try.f74 (.s .n (.s (.s .n (.b (.l KR zh .n))) .n))
noncomputable def KS (T:List FEnt):=aG (xs:=zh) KR (bg T (sb [1,0,1,2,2] c74))
noncomputable def l74_0 (T:List FEnt):=ah (KS T)
noncomputable def rt (F69:l6)(a0:List Int)(a1 a2:Int):Option Y87:=
cond (decide (a2 < a1)) (
aj (aC a2 a0.length) (
(F69 (ix a0 a2)).bind fun r1=>(
cond r1 (
some (Sum.inr (Sum.inl a2))) (
aj (ai .i64 (a2+1)) (
some (Sum.inl (a0,a1,(a2+1)))))))) (
some (Sum.inr (Sum.inr ())))
theorem UN (F69:l6):KS (TD F69)=u3 (rt F69):=funext fun _=>by kernel_rfl
noncomputable def KT:=rt P69
noncomputable def rx:Y58:=ah (fun x=>KT x.1 x.2.1 x.2.2)
theorem v74_0:l74_0 (TD P69)=rx:=congrArg ah (UN P69)
theorem ok74:L.Fn Try.prog 74 19 [(.t 4)] (erase c74):=Fn.ofA aN Try.func74 _ _ (by kernel_rfl)
def IF:FSh:=⟨⟨[(.v y19),(.fn 69 [])],[]⟩,[y19],0,⟨⟨nK,[]⟩,[y7],[],0⟩,true⟩
noncomputable def TE (F69:l6)(l74_0:Y58)(a0:List Int):Option Int:=
(l74_0 (a0,(↑a0.length:Int),0)).bind (fun y2=>Sum.elim (fun y3=>(
some y3)) (fun y4=>(
some (-1))) y2)
theorem g74 (F69:l6)(a0:List Int):aO (TD F69) IF [(.t 4)] c74 a0=TE F69 (l74_0 (TD F69)) a0:=by kernel_rfl
noncomputable def p74:=TE P69 rx
noncomputable def P74:Oh:=fun x=>p74 x
theorem v74:aO (TD P69) IF [(.t 4)] c74=P74:=funext fun x=>(g74 P69 x).trans (by rw[v74_0] <;> rfl)
theorem d74:DC Try.prog 74 IF P74:=aF v74 (ak t74 ok74 (by kernel_rfl))
noncomputable def T58 (F74:Oh):List FEnt:=[⟨74,IF,F74⟩]
theorem t58:aq Try.prog (T58 P74):=(af d74 (by kernel_rfl) al)
noncomputable def c58:=bU Try.prog [] Try.f58 .n
theorem ok58:L.Fn Try.prog 58 9 [(.t 4)] (erase c58):=Fn.ofA aN Try.func58 _ _ (by kernel_rfl)
def IG:FSh:=⟨⟨[(.v y19),(.fn 69 [])],[]⟩,[y19],0,⟨⟨ft,[]⟩,[.bool],[],0⟩,true⟩
noncomputable def q58 (F74:Oh)(a0:List Int):Option Bool:=
(F74 a0).bind fun r1=>(
some (decide (0≤r1)))
theorem g58 (F74:Oh)(a0:List Int):aO (T58 F74) IG [(.t 4)] c58 a0=q58 F74 a0:=by kernel_rfl
noncomputable def p58:=q58 P74
noncomputable def P58:Y60:=fun x=>p58 x
theorem v58:aO (T58 P74) IG [(.t 4)] c58=P58:=funext fun x=>(g58 P74 x)
theorem d58:DC Try.prog 58 IG P58:=aF v58 (ak t58 ok58 (by kernel_rfl))
noncomputable def T48 (F60:Y5)(F58:Y60):List FEnt:=[⟨60,sZ,F60⟩,⟨58,IG,F58⟩]
theorem t48:aq Try.prog (T48 P60 P58):=(af Tx (by kernel_rfl) (af d58 (by kernel_rfl) al))
noncomputable def c48:=bU Try.prog [] Try.f48 .n
theorem ok48:L.Fn Try.prog 48 20 [(.t 2)] (erase c48):=Fn.ofA aN Try.func48 _ _ (by kernel_rfl)
def IH:FSh:=⟨⟨[(.st aY)],[]⟩,[aY],0,⟨⟨ft,[]⟩,[.bool],[],0⟩,true⟩
noncomputable def q48 (F60:Y5)(F58:Y60)(a0:Y2×Int):Option Bool:=
(F60 ((↑a0.1.length:Int),1,6)).bind fun r1=>(
cond r1 (
(F58 a0.1).bind fun r2=>(
cond (!r2) (
(F60 (a0.2,1,600)).bind fun r3=>(
some r3)) (
some false))) (
some false))
theorem g48 (F60:Y5)(F58:Y60)(a0:Y2×Int):aO (T48 F60 F58) IH [(.t 2)] c48 a0=q48 F60 F58 a0:=by kernel_rfl
noncomputable def p48:=q48 P60 P58
noncomputable def BC:lN:=fun x=>p48 x
theorem v48:aO (T48 P60 P58) IH [(.t 2)] c48=BC:=funext fun x=>(g48 P60 P58 x)
theorem d48:DC Try.prog 48 IH BC:=aF v48 (ak t48 ok48 (by kernel_rfl))
noncomputable def T49 (F60:Y5):List FEnt:=[⟨60,sZ,F60⟩]
theorem t49:aq Try.prog (T49 P60):=(af Tx (by kernel_rfl) al)
noncomputable def c49:=bU Try.prog [] Try.f49 .n
theorem ok49:L.Fn Try.prog 49 32 [(.t 2)] (erase c49):=Fn.ofA aN Try.func49 _ _ (by kernel_rfl)
def II:FSh:=⟨⟨[(.st da)],[]⟩,[da],0,⟨⟨ft,[]⟩,[.bool],[],0⟩,true⟩
noncomputable def q49 (F60:Y5)(a0:Y1):Option Bool:=
cond (decide (a0.2.2.1=1)) (
(F60 (a0.1,0,99)).bind fun r1=>(
cond r1 (
(F60 (a0.2.2.2.1,0,99)).bind fun r2=>(
cond r2 (
(F60 (a0.2.1,0,9999)).bind fun r3=>(
cond r3 (
(F60 (a0.2.2.2.2,1,12)).bind fun r4=>(
some r4)) (
some false))) (
some false))) (
some false))) (
cond (decide (a0.2.2.1=2)) (
cond (decide (a0.2.2.1=2)) (
(F60 (a0.1,0,99)).bind fun r5=>(
cond r5 (
(F60 (a0.2.2.2.1,0,99)).bind fun r6=>(
cond r6 (
(F60 (a0.2.1,0,9999)).bind fun r7=>(
cond r7 (
(F60 (a0.2.2.2.2,0,0)).bind fun r8=>(
some r8)) (
some false))) (
some false))) (
some false))) (
some false)) (
cond (decide (a0.2.2.1=3)) (
(F60 (a0.1,0,99)).bind fun r9=>(
cond r9 (
(F60 (a0.2.2.2.1,0,99)).bind fun r10=>(
cond r10 (
(F60 (a0.2.1,0,9999)).bind fun r11=>(
cond r11 (
(F60 (a0.2.2.2.2,0,0)).bind fun r12=>(
some r12)) (
some false))) (
some false))) (
some false))) (
some false)))
theorem g49 (F60:Y5)(a0:Y1):aO (T49 F60) II [(.t 2)] c49 a0=q49 F60 a0:=by kernel_rfl
noncomputable def p49:=q49 P60
noncomputable def BD:AK:=fun x=>p49 x
theorem v49:aO (T49 P60) II [(.t 2)] c49=BD:=funext fun x=>(g49 P60 x)
theorem d49:DC Try.prog 49 II BD:=aF v49 (ak t49 ok49 (by kernel_rfl))
noncomputable def TF (F48:lN)(F49:AK):List FEnt:=[⟨48,IH,F48⟩,⟨49,II,F49⟩]
theorem t26:aq Try.prog (TF BC BD):=(af d48 (by kernel_rfl) (af d49 (by kernel_rfl) al))
def KU:LSh:=⟨[5,17,18,19],⟨[(.mp 0),(.v bd),(.v y7),(.v y7)],[(0,(.imap 0 true da))]⟩,[bd,y7,y7,RU],1,[0]⟩
def KV:List XSh:=[⟨.ret,[4],⟨⟨nK,[(0,(.imap 0 true da))]⟩,[y7,RU],[0],1⟩⟩,⟨(.exit 0),[],⟨⟨[],[(0,(.imap 0 true da))]⟩,[RU],[0],1⟩⟩]
noncomputable def c26:=bU Try.prog [] Try.f26 (.s .n (.s .n (.s .n (.s (.r [.a 0 true da]) (.s (.s .n (.b (.l KU KV .n))) .n)))))
noncomputable def KW (T:List FEnt):=aG (xs:=KV) KU (bg T (sb [1,1,1,1,0,1,2,2] c26))
noncomputable def l26_0 (T:List FEnt):=ah (KW T)
noncomputable def uV (F48:lN)(F49:AK)(a0:List Y1)(a1 a2:Int)(a3:List Y73):Option Yv:=
cond (decide (a2 < a1)) (
aj (aC a2 a0.length) (
(F49 (ix a0 a2)).bind fun r2=>(
cond (!r2) (
some (Sum.inr (Sum.inl (41,a3)))) (
cond (Option.isSome (dm a3 [(ix a0 a2).1])) (
cond (!((((decide ((wC (dm a3 [(ix a0 a2).1]) (0,(0,(0,(0,0))))).1=(ix a0 a2).1)&&decide ((wC (dm a3 [(ix a0 a2).1]) (0,(0,(0,(0,0))))).2.1=(ix a0 a2).2.1))&&decide ((wC (dm a3 [(ix a0 a2).1]) (0,(0,(0,(0,0))))).2.2.1=(ix a0 a2).2.2.1))&&decide ((wC (dm a3 [(ix a0 a2).1]) (0,(0,(0,(0,0))))).2.2.2.1=(ix a0 a2).2.2.2.1))&&decide ((wC (dm a3 [(ix a0 a2).1]) (0,(0,(0,(0,0))))).2.2.2.2=(ix a0 a2).2.2.2.2))) (
some (Sum.inr (Sum.inl (41,a3)))) (
aj (ai .i64 (a2+1)) (
some (Sum.inl (a0,a1,(a2+1),(je a3 [(ix a0 a2).1] (ix a0 a2))))))) (
aj (ai .i64 (a2+1)) (
some (Sum.inl (a0,a1,(a2+1),(je a3 [(ix a0 a2).1] (ix a0 a2)))))))))) (
some (Sum.inr (Sum.inr a3)))
theorem UO (F48:lN)(F49:AK):KW (TF F48 F49)=u4 (uV F48 F49):=funext fun _=>by kernel_rfl
noncomputable def KX:=uV BC BD
noncomputable def L26_0:Yu:=ah (fun x=>KX x.1 x.2.1 x.2.2.1 x.2.2.2)
theorem UP:l26_0 (TF BC BD)=L26_0:=congrArg ah (UO BC BD)
theorem ok26:L.Fn Try.prog 26 46 [(.t 4)] (erase c26):=Fn.ofA aN Try.func26 _ _ (by kernel_rfl)
def BE:FSh:=⟨⟨j38,[]⟩,[aY,bd],0,⟨⟨nK,[]⟩,[y7],[],0⟩,true⟩
noncomputable def q26 (F48:lN)(F49:AK)(l26_0:Yu)(a0:Y2×Int)(a1:List Y1):Option Int:=
(F48 a0).bind fun r1=>(
cond (!r1) (
some 40) (
cond (decide (40 < (↑a1.length:Int))) (
some 41) (
(l26_0 (a1,(↑a1.length:Int),0,([]:List Y73))).bind (fun y3=>Sum.elim (fun y4=>(
some y4.1)) (fun y5=>(
some 0)) y3))))
theorem g26 (F48:lN)(F49:AK):aO (TF F48 F49) BE [(.t 4)] c26=u2 (q26 F48 F49 (l26_0 (TF F48 F49))):=funext fun _=>by kernel_rfl
noncomputable def p26:=q26 BC BD L26_0
noncomputable def tQ:tW:=fun x=>p26 x.1 x.2
theorem v26:aO (TF BC BD) BE [(.t 4)] c26=tQ:=(g26 BC BD).trans (by rw[UP] <;> rfl)
theorem d26:DC Try.prog 26 BE tQ:=aF v26 (ak t26 ok26 (by kernel_rfl))
noncomputable def PN:List FEnt:=[]
theorem t128:aq Try.prog PN:=al
noncomputable def PO:=bU Try.prog [] Try.f128 .n
theorem UQ:L.Fn Try.prog 128 51 [(.t 4),(.t 5)] (erase PO):=Fn.ofA aN Try.func128 _ _ (by kernel_rfl)
def zi:FSh:=⟨⟨j40,[]⟩,[iT,iT],0,⟨⟨[(.tup j40)],[]⟩,[iT,iT],[],0⟩,true⟩
noncomputable def UR (a0 a1:Int):Option Ct:=
aj (ai .u64 ((bA .u64 a0 4294967295)*(bA .u64 a1 4294967295))) (
aj (ai .u64 ((bI .u64 a0 32)*(bA .u64 a1 4294967295))) (
aj (ai .u64 (((bI .u64 a0 32)*(bA .u64 a1 4294967295))+(bI .u64 ((bA .u64 a0 4294967295)*(bA .u64 a1 4294967295)) 32))) (
aj (ai .u64 ((bA .u64 a0 4294967295)*(bI .u64 a1 32))) (
aj (ai .u64 ((bA .u64 (((bI .u64 a0 32)*(bA .u64 a1 4294967295))+(bI .u64 ((bA .u64 a0 4294967295)*(bA .u64 a1 4294967295)) 32)) 4294967295)+((bA .u64 a0 4294967295)*(bI .u64 a1 32)))) (
aj (ai .u64 ((bI .u64 a0 32)*(bI .u64 a1 32))) (
aj (ai .u64 (((bI .u64 a0 32)*(bI .u64 a1 32))+(bI .u64 (((bI .u64 a0 32)*(bA .u64 a1 4294967295))+(bI .u64 ((bA .u64 a0 4294967295)*(bA .u64 a1 4294967295)) 32)) 32))) (
aj (ai .u64 ((((bI .u64 a0 32)*(bI .u64 a1 32))+(bI .u64 (((bI .u64 a0 32)*(bA .u64 a1 4294967295))+(bI .u64 ((bA .u64 a0 4294967295)*(bA .u64 a1 4294967295)) 32)) 32))+(bI .u64 ((bA .u64 (((bI .u64 a0 32)*(bA .u64 a1 4294967295))+(bI .u64 ((bA .u64 a0 4294967295)*(bA .u64 a1 4294967295)) 32)) 4294967295)+((bA .u64 a0 4294967295)*(bI .u64 a1 32))) 32))) (
aj (ai .u64 (a0*a1)) (
some (((((bI .u64 a0 32)*(bI .u64 a1 32))+(bI .u64 (((bI .u64 a0 32)*(bA .u64 a1 4294967295))+(bI .u64 ((bA .u64 a0 4294967295)*(bA .u64 a1 4294967295)) 32)) 32))+(bI .u64 ((bA .u64 (((bI .u64 a0 32)*(bA .u64 a1 4294967295))+(bI .u64 ((bA .u64 a0 4294967295)*(bA .u64 a1 4294967295)) 32)) 4294967295)+((bA .u64 a0 4294967295)*(bI .u64 a1 32))) 32)),(a0*a1)))))))))))
theorem g128:aO PN zi [(.t 4),(.t 5)] PO=u2 UR:=funext fun _=>by kernel_rfl
noncomputable def p128:=UR
noncomputable def BF:AL:=fun x=>p128 x.1 x.2
theorem v128:aO PN zi [(.t 4),(.t 5)] PO=BF:=g128
theorem d128:DC Try.prog 128 zi BF:=aF v128 (ak t128 UQ (by kernel_rfl))
noncomputable def PP (F128:AL):List FEnt:=[⟨128,zi,F128⟩]
theorem t122:aq Try.prog (PP BF):=(af d128 (by kernel_rfl) al)
noncomputable def PQ:=bU Try.prog [] Try.f122 .n
theorem US:L.Fn Try.prog 122 30 [(.t 4),(.t 5)] (erase PQ):=Fn.ofA aN Try.func122 _ _ (by kernel_rfl)
def zj:FSh:=⟨⟨j40,[]⟩,[iT,iT],0,⟨⟨[(.tup j40)],[]⟩,[iT,iT],[],0⟩,true⟩
noncomputable def UT (F128:AL)(a0 a1:Int):Option Ct:=
(F128 (a0,a1)).bind fun r1=>(
some (r1.1,r1.2))
theorem g122 (F128:AL):aO (PP F128) zj [(.t 4),(.t 5)] PQ=u2 (UT F128):=funext fun _=>by kernel_rfl
noncomputable def p122:=UT BF
noncomputable def nL:AL:=fun x=>p122 x.1 x.2
theorem v122:aO (PP BF) zj [(.t 4),(.t 5)] PQ=nL:=g122 BF
theorem d122:DC Try.prog 122 zj nL:=aF v122 (ak t122 US (by kernel_rfl))
noncomputable def s6 (F122:AL):List FEnt:=[⟨122,zj,F122⟩]
theorem t107:aq Try.prog (s6 nL):=(af d122 (by kernel_rfl) al)
def DD:LSh:=⟨[0,1],⟨UM,[]⟩,[y19,y7],0,[]⟩
def DE:List XSh:=[⟨.normal,[0,1],⟨⟨UM,[]⟩,[y19,y7],[],0⟩⟩]
def DF:LSh:=⟨[7,8],⟨PM,dp⟩,[y7,y19],1,[0]⟩
def DG:List XSh:=[⟨(.exit 0),[7],⟨⟨BA,dp⟩,[y19],[0],1⟩⟩]
noncomputable def DH:=bU Try.prog [(9,{ch:=[0,0,0,1,0,0,1,0,0,0],rs:=[] })] Try.f107 (.s .n (.s (.o DD DE .n) (.s .n (.s .n (.s (.r [.a 2 false y7]) (.s .n (.s (.b (.l DF DG .n)) .n)))))))
noncomputable def l107_0 (T:List FEnt):=fg (xs:=DE) DD (bg T (sb [1,0,2] DH))
noncomputable def DI (F122:AL)(a0:List Int)(a1:Int):Option cP:=
cond (decide (a1 < 0)) (
none) (
some (a0,a1))
theorem PR (F122:AL):l107_0 (s6 F122)=u2 (DI F122):=funext fun _=>by kernel_rfl
noncomputable def PS:=DI nL
noncomputable def DJ:Y78:=fun x=>PS x.1 x.2
theorem PT:l107_0 (s6 nL)=DJ:=PR nL
noncomputable def DK (T:List FEnt):=aG (xs:=DG) DF (bg T (sb [1,1,1,1,1,1,0,2,2] DH))
noncomputable def l107_1 (T:List FEnt):=ah (DK T)
noncomputable def DL (F122:AL)(a0:Int)(a1:List Int):Option Y89:=
cond (decide (a0 < (↑a1.length:Int))) (
aj (decide (0≤a0)) (
aj (decide (a0≤(↑a1.length:Int))) (
aj (decide ((↑a1.length:Int)≤(↑a1.length:Int))) (
aj (decide (0 < List.length a1)) (
aj (decide ((0:Int)≤0)) (
aj (decide (0≤a0)) (
aj (decide (a0≤(↑a1.length:Int))) (
aj (decide (0 < List.length a1)) (
aj (ai .i64 (a0+(↑(min (List.length (List.take (Int.toNat (a0-0)) (List.drop (Int.toNat 0) a1))) (Int.toNat ((↑a1.length:Int)-a0))):Int))) (
some (Sum.inl ((a0+(↑(min (List.length (List.take (Int.toNat (a0-0)) (List.drop (Int.toNat 0) a1))) (Int.toNat ((↑a1.length:Int)-a0))):Int)),(nI a1 a0.toNat (List.take (min (List.length (List.take (Int.toNat (a0-0)) (List.drop (Int.toNat 0) a1))) (Int.toNat ((↑a1.length:Int)-a0))) (List.take (Int.toNat (a0-0)) (List.drop (Int.toNat 0) a1)))))))))))))))) (
some (Sum.inr a1))
theorem PU (F122:AL):DK (s6 F122)=u2 (DL F122):=funext fun _=>by kernel_rfl
noncomputable def PV:=DL nL
noncomputable def DM:Y64:=ah (fun x=>PV x.1 x.2)
theorem PW:l107_1 (s6 nL)=DM:=congrArg ah (PU nL)
theorem UU:L.Fn Try.prog 107 48 [(.t 4)] (erase DH):=Fn.ofA aN Try.func107 _ _ (by kernel_rfl)
def zk:FSh:=⟨⟨UM,[]⟩,[y19,y7],0,⟨⟨BA,dp⟩,[y19],[],1⟩,true⟩
noncomputable def UV (F122:AL)(l107_0:Y78)(l107_1:Y64)(a0:List Int)(a1:Int):Option Y2:=
(l107_0 (a0,a1)).bind fun y1=>(
aj (ai .u64 (↑y1.1.length:Int)) (
aj (ai .u64 y1.2) (
(F122 ((↑y1.1.length:Int),y1.2)).bind fun r2=>(
cond (decide (0 < r2.1)) (
none) (
cond (decide (9223372036854775807 < r2.2)) (
none) (
aj (ai .i64 r2.2) (
aj (decide (0≤r2.2)) (
aj (decide (8*r2.2≤140737488355328)) (
(l107_1 ((↑(min y1.1.length (List.length (gF r2.2.toNat 0:List Int))):Int),(nI (gF r2.2.toNat 0:List Int) 0 (List.take (min y1.1.length (List.length (gF r2.2.toNat 0:List Int))) y1.1)))).bind fun y3=>(
some y3))))))))))
theorem g107 (F122:AL):aO (s6 F122) zk [(.t 4)] DH=u2 (UV F122 (l107_0 (s6 F122)) (l107_1 (s6 F122))):=funext fun _=>by kernel_rfl
noncomputable def p107:=UV nL DJ DM
noncomputable def P107:Ud:=fun x=>p107 x.1 x.2
theorem v107:aO (s6 nL) zk [(.t 4)] DH=P107:=(g107 nL).trans (by rw[PT,PW] <;> rfl)
theorem d107:DC Try.prog 107 zk P107:=aF v107 (ak t107 UU (by kernel_rfl))
noncomputable def TG (F107:Ud):List FEnt:=[⟨107,zk,F107⟩]
theorem t77:aq Try.prog (TG P107):=(af d107 (by kernel_rfl) al)
def KY:LSh:=⟨[3,11,12,13],⟨[(.ptr 0 0),(.v y19),(.v y7),(.v y7)],k13⟩,[y19,y7,y7,y19,y7,cI,oz],4,[0,2,3]⟩
def KZ:List XSh:=[⟨(.exit 0),[3],⟨⟨Iy,[(0,(.box [(.v y19),(.v y7),(.slr 4),(.mp 2),.emp])),(2,(.pmap 3)),(3,(.pool da)),(4,(.rows 22 3 y7))]⟩,[y19,y7,oz,cI],[0,2,3],5⟩⟩]
noncomputable def c77:=bU Try.prog [(5,{ch:=[0,0,0,0,1,1,0,0,0,0,0,0,1],rs:=[3] })] Try.f77 (.s .n (.s (.r [.a 1 true (.opt da)]) (.s (.s .n (.b (.l KY KZ (.s .n (.s .n (.s (.b (.s .n (.r [.a 5 false y7,.a 8 true y19,.a 9 true y19]))) .n)))))) .n)))
noncomputable def K0 (T:List FEnt):=aG (xs:=KZ) KY (bg T (sb [1,1,0,1,2,2] c77))
noncomputable def l77_0 (T:List FEnt):=ah (K0 T)
noncomputable def ry (F107:Ud)(a0:List Int)(a1 a2:Int)(a3:List Int)(a4:Int)(a5:List Y2)(a6:List Y3):Option Yp:=
cond (decide (a2 < a1)) (
aj (aC a2 a0.length) (
(F107 (([(-1)]:List Int),(ix a0 a2))).bind fun r1=>(
aj (bM 24 (List.length a5+List.length ([r1]:List Y2))) (
aj (ai .i64 (a2+1)) (
some (Sum.inl (a0,a1,(a2+1),a3,a4,(a5++([r1]:List Y2)),a6))))))) (
some (Sum.inr (a3,a4,a6,a5)))
theorem UW (F107:Ud):K0 (TG F107)=u7 (ry F107):=funext fun _=>by kernel_rfl
noncomputable def K1:=ry P107
noncomputable def uW:Ym:=ah (fun x=>K1 x.1 x.2.1 x.2.2.1 x.2.2.2.1 x.2.2.2.2.1 x.2.2.2.2.2.1 x.2.2.2.2.2.2)
theorem v77_0:l77_0 (TG P107)=uW:=congrArg ah (UW P107)
theorem ok77:L.Fn Try.prog 77 31 [(.t 2)] (erase c77):=Fn.ofA aN Try.func77 _ _ (by kernel_rfl)
def IJ:FSh:=⟨⟨[(.st aY)],[]⟩,[aY],0,⟨⟨Iy,k13⟩,[y19,y7,cI,oz],[],4⟩,false⟩
noncomputable def q77 (F107:Ud)(l77_0:Ym)(a0:Y2×Int):Option Y91:=
(l77_0 (a0.1,(↑a0.1.length:Int),0,a0.1,a0.2,([]:List Y2),([]:List Y3))).bind fun y2=>(
some (y2.1,y2.2.1,y2.2.2.2,y2.2.2.1))
theorem g77 (F107:Ud)(a0:Y2×Int):aO (TG F107) IJ [(.t 2)] c77 a0=q77 F107 (l77_0 (TG F107)) a0:=by kernel_rfl
noncomputable def p77:=q77 P107 uW
noncomputable def BG:BY:=fun x=>p77 x
theorem v77:aO (TG P107) IJ [(.t 2)] c77=BG:=funext fun x=>(g77 P107 x).trans (by rw[v77_0] <;> rfl)
theorem d77:DC Try.prog 77 IJ BG:=aF v77 (ak t77 ok77 (by kernel_rfl))
noncomputable def T79:List FEnt:=[]
theorem t79:aq Try.prog T79:=al
noncomputable def c79:=bU Try.prog [] Try.f79 .n
theorem ok79:L.Fn Try.prog 79 4 [(.t 2)] (erase c79):=Fn.ofA aN Try.func79 _ _ (by kernel_rfl)
def IK:FSh:=⟨⟨[(.v bd)],[]⟩,[bd],0,⟨⟨[(.fn 110 Iy)],[(0,(.boxT bd))]⟩,[bd],[],1⟩,false⟩
noncomputable def q79 (a0:List Y1):Option Y8:=
some a0
theorem g79 (a0:List Y1):aO T79 IK [(.t 2)] c79 a0=q79 a0:=by kernel_rfl
noncomputable def p79:=q79
noncomputable def BH:mV:=fun x=>p79 x
theorem v79:aO T79 IK [(.t 2)] c79=BH:=funext fun x=>(g79 x)
theorem d79:DC Try.prog 79 IK BH:=aF v79 (ak t79 ok79 (by kernel_rfl))
noncomputable def PX (F123:mV):List FEnt:=[⟨123,sh123,F123⟩]
theorem t108:aq Try.prog (PX P123):=(af d123 (by kernel_rfl) al)
noncomputable def PY:=bU Try.prog [] Try.f108 .n
theorem UX:L.Fn Try.prog 108 5 [(.t 2)] (erase PY):=Fn.ofA aN Try.func108 _ _ (by kernel_rfl)
def zl:FSh:=⟨⟨[(.fn 110 Iy)],[(0,(.boxT bd))]⟩,[bd],1,⟨⟨BA,dv⟩,[bd],[],1⟩,false⟩
noncomputable def IL (F123:mV)(a0:List Y1):Option Y8:=
(F123 a0).bind fun r1=>(
some r1)
theorem g108 (F123:mV)(a0:List Y1):aO (PX F123) zl [(.t 2)] PY a0=IL F123 a0:=by kernel_rfl
noncomputable def p108:=IL P123
noncomputable def P108:mV:=fun x=>p108 x
theorem v108:aO (PX P123) zl [(.t 2)] PY=P108:=funext fun x=>(g108 P123 x)
theorem d108:DC Try.prog 108 zl P108:=aF v108 (ak t108 UX (by kernel_rfl))
noncomputable def TH:List FEnt:=[]
theorem t95:aq Try.prog TH:=al
def K2:LSh:=⟨[0,2],⟨[(.v iT),(.v y7)],[]⟩,[iT,y7],0,[]⟩
def K3:List XSh:=[⟨.normal,[0,2],⟨⟨[(.v iT),(.v y7)],[]⟩,[iT,y7],[],0⟩⟩]
noncomputable def c95:=bU Try.prog [] Try.f95 (.s .n (.s (.o K2 K3 .n) .n))
noncomputable def l95_0 (T:List FEnt):=fg (xs:=K3) K2 (bg T (sb [1,0,2] c95))
noncomputable def zm (a0 a1:Int):Option Ct:=
cond (decide (4294967296≤a0)) (
some ((bI .u64 a0 32),32)) (
some (a0,a1))
theorem UY:l95_0 TH=u2 zm:=funext fun _=>by kernel_rfl
noncomputable def DN:=zm
noncomputable def zn:AL:=fun x=>DN x.1 x.2
theorem v95_0:l95_0 TH=zn:=UY
theorem ok95:L.Fn Try.prog 95 25 [(.t 2)] (erase c95):=Fn.ofA aN Try.func95 _ _ (by kernel_rfl)
def IN:FSh:=⟨⟨[(.v iT)],[]⟩,[iT],0,⟨⟨nK,[]⟩,[y7],[],0⟩,true⟩
noncomputable def q95 (l95_0:AL)(a0:Int):Option Int:=
(l95_0 (a0,0)).bind fun y1=>(
cond (decide (65536≤y1.1)) (
aj (ai .i64 (y1.2+16)) (
cond (decide (256≤(bI .u64 y1.1 16))) (
aj (ai .i64 ((y1.2+16)+8)) (
aj (ai .u8 (bI .u64 (bI .u64 y1.1 16) 8)) (
aj (aC (bI .u64 (bI .u64 y1.1 16) 8) (ByteArray.size tb)) (
aj (ai .i64 (yM tb (bI .u64 (bI .u64 y1.1 16) 8))) (
aj (ai .i64 (((y1.2+16)+8)+(yM tb (bI .u64 (bI .u64 y1.1 16) 8)))) (
some (((y1.2+16)+8)+(yM tb (bI .u64 (bI .u64 y1.1 16) 8))))))))) (
aj (ai .u8 (bI .u64 y1.1 16)) (
aj (aC (bI .u64 y1.1 16) (ByteArray.size tb)) (
aj (ai .i64 (yM tb (bI .u64 y1.1 16))) (
aj (ai .i64 ((y1.2+16)+(yM tb (bI .u64 y1.1 16)))) (
some ((y1.2+16)+(yM tb (bI .u64 y1.1 16)))))))))) (
cond (decide (256≤y1.1)) (
aj (ai .i64 (y1.2+8)) (
aj (ai .u8 (bI .u64 y1.1 8)) (
aj (aC (bI .u64 y1.1 8) (ByteArray.size tb)) (
aj (ai .i64 (yM tb (bI .u64 y1.1 8))) (
aj (ai .i64 ((y1.2+8)+(yM tb (bI .u64 y1.1 8)))) (
some ((y1.2+8)+(yM tb (bI .u64 y1.1 8))))))))) (
aj (ai .u8 y1.1) (
aj (aC y1.1 (ByteArray.size tb)) (
aj (ai .i64 (yM tb y1.1)) (
aj (ai .i64 (y1.2+(yM tb y1.1))) (
some (y1.2+(yM tb y1.1)))))))))
theorem g95 (a0:Int):aO TH IN [(.t 2)] c95 a0=q95 (l95_0 TH) a0:=by kernel_rfl
noncomputable def p95:=q95 zn
noncomputable def P95:nO:=fun x=>p95 x
theorem v95:aO TH IN [(.t 2)] c95=P95:=funext fun x=>(g95 x).trans (by rw[v95_0] <;> rfl)
theorem d95:DC Try.prog 95 IN P95:=aF v95 (ak t95 ok95 (by kernel_rfl))
noncomputable def T67 (F95:nO):List FEnt:=[⟨95,IN,F95⟩]
theorem t67:aq Try.prog (T67 P95):=(af d95 (by kernel_rfl) al)
noncomputable def c67:=bU Try.prog [] Try.f67 .n
theorem ok67:L.Fn Try.prog 67 8 [(.t 2)] (erase c67):=Fn.ofA aN Try.func67 _ _ (by kernel_rfl)
def BI:FSh:=⟨⟨[(.v iT)],[]⟩,[iT],0,⟨⟨nK,[]⟩,[y7],[],0⟩,true⟩
noncomputable def q67 (F95:nO)(a0:Int):Option Int:=
(F95 a0).bind fun r1=>(
some r1)
theorem g67 (F95:nO)(a0:Int):aO (T67 F95) BI [(.t 2)] c67 a0=q67 F95 a0:=by kernel_rfl
noncomputable def p67:=q67 P95
noncomputable def P67:nO:=fun x=>p67 x
theorem v67:aO (T67 P95) BI [(.t 2)] c67=P67:=funext fun x=>(g67 P95 x)
theorem d67:DC Try.prog 67 BI P67:=aF v67 (ak t67 ok67 (by kernel_rfl))
noncomputable def TI:List FEnt:=[]
theorem t81:aq Try.prog TI:=al
def K4:LSh:=⟨[3,6,7,8],⟨[(.v y7),(.v y19),(.v y7),(.v y7)],[]⟩,[y7,y19,y7,y7],0,[]⟩
def K5:List XSh:=[⟨.ret,[2],⟨⟨nK,[]⟩,[y7],[],0⟩⟩,⟨(.exit 0),[3],⟨⟨nK,[]⟩,[y7],[],0⟩⟩]
noncomputable def c81:=bU Try.prog [] Try.f81 (.s .n (.s .n (.s (.s .n (.b (.l K4 K5 .n))) .n)))
noncomputable def K6 (T:List FEnt):=aG (xs:=K5) K4 (bg T (sb [1,1,0,1,2,2] c81))
noncomputable def l81_0 (T:List FEnt):=ah (K6 T)
noncomputable def K7 (a0:Int)(a1:List Int)(a2 a3:Int):Option Y92:=
cond (decide (a3 < a2)) (
aj (aC a3 a1.length) (
cond (!decide ((ix a1 a3)=a0)) (
some (Sum.inr (Sum.inl (ix a1 a3)))) (
aj (ai .i64 (a3+1)) (
some (Sum.inl (a0,a1,a2,(a3+1))))))) (
some (Sum.inr (Sum.inr a0)))
theorem UZ:K6 TI=u4 K7:=funext fun _=>by kernel_rfl
noncomputable def zo:=K7
noncomputable def zp:Y67:=ah (fun x=>zo x.1 x.2.1 x.2.2.1 x.2.2.2)
theorem v81_0:l81_0 TI=zp:=congrArg ah UZ
theorem ok81:L.Fn Try.prog 81 18 [(.t 2)] (erase c81):=Fn.ofA aN Try.func81 _ _ (by kernel_rfl)
def IP:FSh:=⟨⟨[(.v y19)],[]⟩,[y19],0,⟨⟨nK,[]⟩,[y7],[],0⟩,true⟩
noncomputable def q81 (l81_0:Y67)(a0:List Int):Option Int:=
(l81_0 (0,a0,(↑a0.length:Int),0)).bind (fun y1=>Sum.elim (fun y2=>(
some y2)) (fun y3=>(
some y3)) y1)
theorem g81 (a0:List Int):aO TI IP [(.t 2)] c81 a0=q81 (l81_0 TI) a0:=by kernel_rfl
noncomputable def p81:=q81 zp
noncomputable def K8:Oh:=fun x=>p81 x
theorem v81:aO TI IP [(.t 2)] c81=K8:=funext fun x=>(g81 x).trans (by rw[v81_0] <;> rfl)
theorem d81:DC Try.prog 81 IP K8:=aF v81 (ak t81 ok81 (by kernel_rfl))
noncomputable def T80 (F81:Oh):List FEnt:=[⟨81,IP,F81⟩]
theorem t80:aq Try.prog (T80 K8):=(af d81 (by kernel_rfl) al)
noncomputable def c80:=bU Try.prog [] Try.f80 (.s .n (.s (.r [.a 10 false y7]) .n))
theorem ok80:L.Fn Try.prog 80 17 [(.t 4)] (erase c80):=Fn.ofA aN Try.func80 _ _ (by kernel_rfl)
def qo:FSh:=⟨⟨[(.st da),(.st da)],[]⟩,[da,da],0,⟨⟨nK,[]⟩,[y7],[],0⟩,true⟩
noncomputable def q80 (F81:Oh)(a0 a1:Y1):Option Int:=
aj (ai .i64 (a0.2.1-a1.2.1)) (
aj (ai .i64 (a0.1-a1.1)) (
(F81 ([(a0.2.1-a1.2.1),(a0.1-a1.1)]:List Int)).bind fun r1=>(
some r1)))
theorem g80 (F81:Oh):aO (T80 F81) qo [(.t 4)] c80=u2 (q80 F81):=funext fun _=>by kernel_rfl
noncomputable def p80:=q80 K8
noncomputable def P80:dS:=fun x=>p80 x.1 x.2
theorem v80:aO (T80 K8) qo [(.t 4)] c80=P80:=g80 K8
theorem PZ:DC Try.prog 80 qo P80:=aF v80 (ak t80 ok80 (by kernel_rfl))
noncomputable def ta (F80:dS):List FEnt:=[⟨80,qo,F80⟩]
theorem t129:aq Try.prog (ta P80):=(af PZ (by kernel_rfl) al)
def DO:LSh:=⟨[0,1,2,3,8,9],⟨TA,dv⟩,KP,1,[0]⟩
def DP:List XSh:=[⟨(.exit 2),[0,1,2,3,8],⟨⟨j15,dv⟩,uU,[0],1⟩⟩]
def DQ:LSh:=⟨[0,1,2,3,8],⟨j15,dv⟩,uU,1,[0]⟩
def tc:List XSh:=[⟨(.exit 0),[],⟨⟨[],dv⟩,[bd],[0],1⟩⟩]
noncomputable def DR:=bU Try.prog [] Try.f129 (.s .n (.b (.l DQ tc (.s .n (.s (.b (.s .n (.b (.l DO DP .n)))) .n)))))
noncomputable def DS (T:List FEnt):=aG (xs:=DP) DO (bg T (sb [1,2,2,1,0,2,1,2,2] DR))
noncomputable def l129_1 (T:List FEnt):=ah (DS T)
noncomputable def wQ (F80:dS)(a0 a1 a2 a3:Int)(a4:List Y1):Option RS:=
cond (decide (a0 < a3)) (
aj (aC a3 a4.length) (
aj (ai .i64 (a3-1)) (
aj (aC (a3-1) a4.length) (
(F80 ((ix a4 a3),(ix a4 (a3-1)))).bind fun r1=>(
cond (decide (r1 < 0)) (
aj (ai .i64 (a3-1)) (
aj (ai .i64 (a3-1)) (
aj (aC (a3-1) a4.length) (
aj (aC a3 a4.length) (
aj (aC a3 a4.length) (
aj (aC (a3-1) (List.length (List.set a4 a3.toNat (ix a4 (a3-1))))) (
aj (ai .i64 (a3-1)) (
some (Sum.inl (a0,a1,a2,(a3-1),(List.set (List.set a4 a3.toNat (ix a4 (a3-1))) (Int.toNat (a3-1)) (ix a4 a3)))))))))))) (
some (Sum.inr (a0,a1,a2,a4)))))))) (
some (Sum.inr (a0,a1,a2,a4)))
theorem P0 (F80:dS):DS (ta F80)=u5 (wQ F80):=funext fun _=>by kernel_rfl
noncomputable def DT:=wQ P80
noncomputable def wR:JL:=ah (fun x=>DT x.1 x.2.1 x.2.2.1 x.2.2.2.1 x.2.2.2.2)
theorem P1:l129_1 (ta P80)=wR:=congrArg ah (P0 P80)
noncomputable def DU (T:List FEnt):=aG (xs:=tc) DQ (bg T (sb [1,2,2] DR))
noncomputable def l129_0 (T:List FEnt):=ah (DU T)
noncomputable def wS (F80:dS)(l129_1:JL)(a0 a1 a2:Int)(a3:List Y1):Option RT:=
cond (decide (a2 < a1)) (
(l129_1 (a0,a1,a2,a2,a3)).bind fun y2=>(
aj (ai .i64 (y2.2.2.1+1)) (
some (Sum.inl (y2.1,y2.2.1,(y2.2.2.1+1),y2.2.2.2))))) (
some (Sum.inr a3))
theorem P2 (F80:dS):DU (ta F80)=u4 (wS F80 (l129_1 (ta F80))):=funext fun _=>by kernel_rfl
noncomputable def DW:=wS P80 wR
noncomputable def wT:gz:=ah (fun x=>DW x.1 x.2.1 x.2.2.1 x.2.2.2)
theorem P7:l129_0 (ta P80)=wT:=congrArg ah ((P2 P80).trans (by rw[P1] <;> rfl))
theorem U0:L.Fn Try.prog 129 53 [] (erase DR):=Fn.ofA aN Try.func129 _ _ (by kernel_rfl)
def zq:FSh:=⟨⟨TB,dv⟩,IC,1,⟨⟨pG,dv⟩,[bd],[0],1⟩,false⟩
noncomputable def P9 (F80:dS)(l129_0:gz)(a0 a1:Int)(a2:List Y1):Option Y8:=
aj (ai .i64 (a0+1)) (
(l129_0 (a0,a1,(a0+1),a2)).bind fun y3=>(
some y3))
theorem g129 (F80:dS):aO (ta F80) zq [] DR=u3 (P9 F80 (l129_0 (ta F80))):=funext fun _=>by kernel_rfl
noncomputable def U1:=P9 P80 wT
noncomputable def gQ:ld:=fun x=>U1 x.1 x.2.1 x.2.2
theorem v129:aO (ta P80) zq [] DR=gQ:=(g129 P80).trans (by rw[P7] <;> rfl)
theorem d129:DC Try.prog 129 zq gQ:=aF v129 (ak t129 U0 (by kernel_rfl))
noncomputable def BJ (F80:dS):List FEnt:=[⟨80,qo,F80⟩]
theorem t137:aq Try.prog (BJ P80):=(af PZ (by kernel_rfl) al)
def DX:LSh:=⟨[0,2,3,4,10],⟨j15,dv⟩,uU,1,[0]⟩
def DY:List XSh:=[⟨(.exit 0),[],⟨⟨[],dv⟩,[bd],[0],1⟩⟩,⟨.ret,[],⟨⟨[],dv⟩,[bd],[0],1⟩⟩]
noncomputable def IQ:=bU Try.prog [] Try.f137 (.s .n (.b (.l DX DY .n)))
noncomputable def DZ (T:List FEnt):=aG (xs:=DY) DX (bg T (sb [1,2,2] IQ))
noncomputable def l137_0 (T:List FEnt):=ah (DZ T)
noncomputable def wU (F80:dS)(a0 a1 a2:Int)(a3:List Y1):Option Yq:=
aj (ai .i64 (2*a2)) (
aj (ai .i64 ((2*a2)+1)) (
cond (decide (a0≤((2*a2)+1))) (
some (Sum.inr (Sum.inl a3))) (
aj (ai .i64 (((2*a2)+1)+1)) (
cond (decide ((((2*a2)+1)+1) < a0)) (
aj (ai .i64 (a1+((2*a2)+1))) (
aj (aC (a1+((2*a2)+1)) a3.length) (
aj (ai .i64 (a1+((2*a2)+1))) (
aj (ai .i64 ((a1+((2*a2)+1))+1)) (
aj (aC ((a1+((2*a2)+1))+1) a3.length) (
(F80 ((ix a3 (a1+((2*a2)+1))),(ix a3 ((a1+((2*a2)+1))+1)))).bind fun r1=>(
cond (decide (r1 < 0)) (
aj (ai .i64 (((2*a2)+1)+1)) (
aj (ai .i64 (a1+a2)) (
aj (aC (a1+a2) a3.length) (
aj (ai .i64 (a1+(((2*a2)+1)+1))) (
aj (aC (a1+(((2*a2)+1)+1)) a3.length) (
(F80 ((ix a3 (a1+a2)),(ix a3 (a1+(((2*a2)+1)+1))))).bind fun r2=>(
cond (!(decide (r2 < 0))) (
some (Sum.inr (Sum.inr a3))) (
aj (ai .i64 (a1+a2)) (
aj (ai .i64 (a1+(((2*a2)+1)+1))) (
aj (ai .i64 (a1+(((2*a2)+1)+1))) (
aj (aC (a1+(((2*a2)+1)+1)) a3.length) (
aj (ai .i64 (a1+a2)) (
aj (aC (a1+a2) a3.length) (
aj (aC (a1+a2) a3.length) (
aj (aC (a1+(((2*a2)+1)+1)) (List.length (List.set a3 (Int.toNat (a1+a2)) (ix a3 (a1+(((2*a2)+1)+1)))))) (
some (Sum.inl (a0,a1,(((2*a2)+1)+1),(List.set (List.set a3 (Int.toNat (a1+a2)) (ix a3 (a1+(((2*a2)+1)+1)))) (Int.toNat (a1+(((2*a2)+1)+1))) (ix a3 (a1+a2))))))))))))))))))))) (
aj (ai .i64 (a1+a2)) (
aj (aC (a1+a2) a3.length) (
aj (ai .i64 (a1+((2*a2)+1))) (
aj (aC (a1+((2*a2)+1)) a3.length) (
(F80 ((ix a3 (a1+a2)),(ix a3 (a1+((2*a2)+1))))).bind fun r3=>(
cond (!(decide (r3 < 0))) (
some (Sum.inr (Sum.inr a3))) (
aj (ai .i64 (a1+a2)) (
aj (ai .i64 (a1+((2*a2)+1))) (
aj (ai .i64 (a1+((2*a2)+1))) (
aj (aC (a1+((2*a2)+1)) a3.length) (
aj (ai .i64 (a1+a2)) (
aj (aC (a1+a2) a3.length) (
aj (aC (a1+a2) a3.length) (
aj (aC (a1+((2*a2)+1)) (List.length (List.set a3 (Int.toNat (a1+a2)) (ix a3 (a1+((2*a2)+1)))))) (
some (Sum.inl (a0,a1,((2*a2)+1),(List.set (List.set a3 (Int.toNat (a1+a2)) (ix a3 (a1+((2*a2)+1)))) (Int.toNat (a1+((2*a2)+1))) (ix a3 (a1+a2))))))))))))))))))))))))))) (
aj (ai .i64 (a1+a2)) (
aj (aC (a1+a2) a3.length) (
aj (ai .i64 (a1+((2*a2)+1))) (
aj (aC (a1+((2*a2)+1)) a3.length) (
(F80 ((ix a3 (a1+a2)),(ix a3 (a1+((2*a2)+1))))).bind fun r4=>(
cond (!(decide (r4 < 0))) (
some (Sum.inr (Sum.inr a3))) (
aj (ai .i64 (a1+a2)) (
aj (ai .i64 (a1+((2*a2)+1))) (
aj (ai .i64 (a1+((2*a2)+1))) (
aj (aC (a1+((2*a2)+1)) a3.length) (
aj (ai .i64 (a1+a2)) (
aj (aC (a1+a2) a3.length) (
aj (aC (a1+a2) a3.length) (
aj (aC (a1+((2*a2)+1)) (List.length (List.set a3 (Int.toNat (a1+a2)) (ix a3 (a1+((2*a2)+1)))))) (
some (Sum.inl (a0,a1,((2*a2)+1),(List.set (List.set a3 (Int.toNat (a1+a2)) (ix a3 (a1+((2*a2)+1)))) (Int.toNat (a1+((2*a2)+1))) (ix a3 (a1+a2))))))))))))))))))))))))
theorem Qa (F80:dS):DZ (BJ F80)=u4 (wU F80):=funext fun _=>by kernel_rfl
noncomputable def Ea:=wU P80
noncomputable def wV:Yn:=ah (fun x=>Ea x.1 x.2.1 x.2.2.1 x.2.2.2)
theorem Qb:l137_0 (BJ P80)=wV:=congrArg ah (Qa P80)
theorem U2:L.Fn Try.prog 137 82 [] (erase IQ):=Fn.ofA aN Try.func137 _ _ (by kernel_rfl)
def zt:FSh:=⟨⟨j16,dv⟩,uU,1,⟨⟨pG,dv⟩,[bd],[0],1⟩,false⟩
noncomputable def Qc (F80:dS)(l137_0:Yn)(a0 a1 a2:Int)(a3:List Y1):Option Y8:=
(l137_0 (a1,a2,a0,a3)).bind (fun y5=>Sum.elim (fun y6=>(
some y6)) (fun y7=>(
some y7)) y5)
theorem g137 (F80:dS):aO (BJ F80) zt [] IQ=u4 (Qc F80 (l137_0 (BJ F80))):=funext fun _=>by kernel_rfl
noncomputable def U3:=Qc P80 wV
noncomputable def kT:gz:=fun x=>U3 x.1 x.2.1 x.2.2.1 x.2.2.2
theorem v137:aO (BJ P80) zt [] IQ=kT:=(g137 P80).trans (by rw[Qb] <;> rfl)
theorem d137:DC Try.prog 137 zt kT:=aF v137 (ak t137 U2 (by kernel_rfl))
noncomputable def td (F137:gz):List FEnt:=[⟨137,zt,F137⟩]
theorem t130:aq Try.prog (td kT):=(af d137 (by kernel_rfl) al)
def Eb:LSh:=⟨[0,3,8,9,10,11],⟨[(.slc 0),(.fn 80 []),(.v y7),(.v y7),(.v y7),(.v y7)],dv⟩,KP,1,[0]⟩
def Ec:List XSh:=[⟨(.exit 0),[0,3,8,9,10],⟨⟨j17,dv⟩,uU,[0],1⟩⟩]
def Ed:LSh:=⟨[0,3,8,9,12],⟨j17,dv⟩,uU,1,[0]⟩
def Ee:List XSh:=[⟨(.exit 2),[],⟨⟨[],dv⟩,[bd],[0],1⟩⟩]
noncomputable def Ef:=bU Try.prog [] Try.f130 (.s .n (.s .n (.s .n (.s (.s .n (.b (.l Eb Ec .n))) (.s .n (.b (.l Ed Ee .n)))))))
noncomputable def Eg (T:List FEnt):=aG (xs:=Ec) Eb (bg T (sb [1,1,1,0,1,2,2] Ef))
noncomputable def l130_0 (T:List FEnt):=ah (Eg T)
noncomputable def wW (F137:gz)(a0 a1 a2 a3:Int)(a4:List Y1):Option RS:=
cond (decide (0≤a3)) (
(F137 (a3,a2,a0,a4)).bind fun r1=>(
aj (ai .i64 (a3-1)) (
some (Sum.inl (a0,a1,a2,(a3-1),r1))))) (
some (Sum.inr (a0,a1,a2,a4)))
theorem Qd (F137:gz):Eg (td F137)=u5 (wW F137):=funext fun _=>by kernel_rfl
noncomputable def Eh:=wW kT
noncomputable def wX:JL:=ah (fun x=>Eh x.1 x.2.1 x.2.2.1 x.2.2.2.1 x.2.2.2.2)
theorem Qe:l130_0 (td kT)=wX:=congrArg ah (Qd kT)
noncomputable def Ei (T:List FEnt):=aG (xs:=Ee) Ed (bg T (sb [1,1,1,1,1,2,2] Ef))
noncomputable def l130_1 (T:List FEnt):=ah (Ei T)
noncomputable def wY (F137:gz)(a0 a1 a2:Int)(a3:List Y1):Option RT:=
cond (decide (0≤a2)) (
aj (ai .i64 (a0+a2)) (
aj (ai .i64 (a0+a2)) (
aj (aC (a0+a2) a3.length) (
aj (aC a0 a3.length) (
aj (aC a0 a3.length) (
aj (aC (a0+a2) (List.length (List.set a3 a0.toNat (ix a3 (a0+a2))))) (
(F137 (a1,a2,a0,(List.set (List.set a3 a0.toNat (ix a3 (a0+a2))) (Int.toNat (a0+a2)) (ix a3 a0)))).bind fun r3=>(
aj (ai .i64 (a2-1)) (
some (Sum.inl (a0,a1,(a2-1),r3))))))))))) (
some (Sum.inr a3))
theorem Qf (F137:gz):Ei (td F137)=u4 (wY F137):=funext fun _=>by kernel_rfl
noncomputable def Ej:=wY kT
noncomputable def wZ:gz:=ah (fun x=>Ej x.1 x.2.1 x.2.2.1 x.2.2.2)
theorem Qg:l130_1 (td kT)=wZ:=congrArg ah (Qf kT)
theorem U4:L.Fn Try.prog 130 60 [] (erase Ef):=Fn.ofA aN Try.func130 _ _ (by kernel_rfl)
def zu:FSh:=⟨⟨TB,dv⟩,IC,1,⟨⟨pG,dv⟩,[bd],[0],1⟩,false⟩
noncomputable def Qh (F137:gz)(l130_0:JL)(l130_1:gz)(a0 a1:Int)(a2:List Y1):Option Y8:=
aj (ai .i64 (a1-a0)) (
aj (ai .i64 ((a1-a0)-1)) (
aj (ai .i64 (Int.tdiv ((a1-a0)-1) 2)) (
(l130_0 (a0,0,(a1-a0),(Int.tdiv ((a1-a0)-1) 2),a2)).bind fun y2=>(
aj (ai .i64 (y2.2.2.1-1)) (
(l130_1 (y2.1,y2.2.1,(y2.2.2.1-1),y2.2.2.2)).bind fun y4=>(
some y4))))))
theorem g130 (F137:gz):aO (td F137) zu [] Ef=u3 (Qh F137 (l130_0 (td F137)) (l130_1 (td F137))):=funext fun _=>by kernel_rfl
noncomputable def U5:=Qh kT wX wZ
noncomputable def gR:ld:=fun x=>U5 x.1 x.2.1 x.2.2
theorem v130:aO (td kT) zu [] Ef=gR:=(g130 kT).trans (by rw[Qe,Qg] <;> rfl)
theorem d130:DC Try.prog 130 zu gR:=aF v130 (ak t130 U4 (by kernel_rfl))
noncomputable def Qi (F67:nO):List FEnt:=[⟨67,BI,F67⟩]
theorem t114:aq Try.prog (Qi P67):=(af d67 (by kernel_rfl) al)
noncomputable def Qj:=bU Try.prog [] Try.f114 .n
theorem U6:L.Fn Try.prog 114 7 [(.t 2)] (erase Qj):=Fn.ofA aN Try.func114 _ _ (by kernel_rfl)
def uX:FSh:=⟨⟨nK,[]⟩,[y7],0,⟨⟨[(.v iT)],[]⟩,[iT],[],0⟩,true⟩
noncomputable def IS (F67:nO)(a0:Int):Option Int:=
aj (ai .u64 a0) (
(F67 a0).bind fun r1=>(
aj (decide (0≤r1)) (
some (gq .u64 1 r1))))
theorem g114 (F67:nO)(a0:Int):aO (Qi F67) uX [(.t 2)] Qj a0=IS F67 a0:=by kernel_rfl
noncomputable def Qk:=IS P67
noncomputable def gS:nO:=fun x=>Qk x
theorem v114:aO (Qi P67) uX [(.t 2)] Qj=gS:=funext fun x=>(g114 P67 x)
theorem U7:DC Try.prog 114 uX gS:=aF v114 (ak t114 U6 (by kernel_rfl))
noncomputable def Ql:List FEnt:=[]
theorem t115:aq Try.prog Ql:=al
noncomputable def Qm:=bU Try.prog [] Try.f115 .n
theorem U8:L.Fn Try.prog 115 33 [(.t 2)] (erase Qm):=Fn.ofA aN Try.func115 _ _ (by kernel_rfl)
def uY:FSh:=⟨⟨Iy,[(0,(.boxT iT))]⟩,[iT],1,⟨⟨[(.v iT)],[(0,(.boxT iT))]⟩,[iT,iT],[0],1⟩,false⟩
noncomputable def IT (a0:Int):Option Ct:=
some ((iO .u64 (iO .u64 (iO .u64 a0 (gq .u64 a0 13)) (bI .u64 (iO .u64 a0 (gq .u64 a0 13)) 7)) (gq .u64 (iO .u64 (iO .u64 a0 (gq .u64 a0 13)) (bI .u64 (iO .u64 a0 (gq .u64 a0 13)) 7)) 17)),(iO .u64 (iO .u64 (iO .u64 a0 (gq .u64 a0 13)) (bI .u64 (iO .u64 a0 (gq .u64 a0 13)) 7)) (gq .u64 (iO .u64 (iO .u64 a0 (gq .u64 a0 13)) (bI .u64 (iO .u64 a0 (gq .u64 a0 13)) 7)) 17)))
theorem g115 (a0:Int):aO Ql uY [(.t 2)] Qm a0=IT a0:=by kernel_rfl
noncomputable def Qn:=IT
noncomputable def gT:Gv:=fun x=>Qn x
theorem v115:aO Ql uY [(.t 2)] Qm=gT:=funext fun x=>(g115 x)
theorem U9:DC Try.prog 115 uY gT:=aF v115 (ak t115 U8 (by kernel_rfl))
noncomputable def BK (F114:nO)(F115:Gv):List FEnt:=[⟨114,uX,F114⟩,⟨115,uY,F115⟩]
theorem t131:aq Try.prog (BK gS gT):=(af U7 (by kernel_rfl) (af U9 (by kernel_rfl) al))
def Ek:LSh:=⟨[0,1,8,9,10,11],⟨j11,[(0,(.row 40 da)),(1,(.boxT iT))]⟩,[y7,y7,iT,y7,bd,iT],2,[0,1]⟩
def El:List XSh:=[⟨(.exit 0),[],⟨⟨[],[(0,(.row 40 da)),(1,(.boxT iT))]⟩,[bd,iT],[0,1],2⟩⟩]
noncomputable def IU:=bU Try.prog [] Try.f131 (.s .n (.s .n (.s (.s .n (.s .n (.s .n (.b (.l Ek El .n))))) .n)))
noncomputable def Em (T:List FEnt):=aG (xs:=El) Ek (bg T (sb [1,1,0,1,1,1,2,2] IU))
noncomputable def l131_0 (T:List FEnt):=ah (Em T)
noncomputable def te (F114:nO)(F115:Gv)(a0 a1 a2 a3:Int)(a4:List Y1)(a5:Int):Option Yr:=
aj (ai .i64 (Int.tdiv a1 4)) (
aj (ai .i64 ((Int.tdiv a1 4)*2)) (
aj (ai .i64 (a0+((Int.tdiv a1 4)*2))) (
aj (ai .i64 ((a0+((Int.tdiv a1 4)*2))+1)) (
cond (decide (a3≤((a0+((Int.tdiv a1 4)*2))+1))) (
(F115 a5).bind fun r2=>(
aj (ai .u64 (a2-1)) (
aj (ai .i64 (bA .u64 r2.1 (a2-1))) (
cond (decide (a1≤(bA .u64 r2.1 (a2-1)))) (
aj (ai .i64 ((bA .u64 r2.1 (a2-1))-a1)) (
aj (ai .i64 (a0+((bA .u64 r2.1 (a2-1))-a1))) (
aj (ai .i64 (a0+((bA .u64 r2.1 (a2-1))-a1))) (
aj (aC (a0+((bA .u64 r2.1 (a2-1))-a1)) a4.length) (
aj (aC a3 a4.length) (
aj (aC a3 a4.length) (
aj (aC (a0+((bA .u64 r2.1 (a2-1))-a1)) (List.length (List.set a4 a3.toNat (ix a4 (a0+((bA .u64 r2.1 (a2-1))-a1)))))) (
aj (ai .i64 (a3+1)) (
some (Sum.inl (a0,a1,a2,(a3+1),(List.set (List.set a4 a3.toNat (ix a4 (a0+((bA .u64 r2.1 (a2-1))-a1)))) (Int.toNat (a0+((bA .u64 r2.1 (a2-1))-a1))) (ix a4 a3)),r2.2))))))))))) (
aj (ai .i64 (a0+(bA .u64 r2.1 (a2-1)))) (
aj (ai .i64 (a0+(bA .u64 r2.1 (a2-1)))) (
aj (aC (a0+(bA .u64 r2.1 (a2-1))) a4.length) (
aj (aC a3 a4.length) (
aj (aC a3 a4.length) (
aj (aC (a0+(bA .u64 r2.1 (a2-1))) (List.length (List.set a4 a3.toNat (ix a4 (a0+(bA .u64 r2.1 (a2-1))))))) (
aj (ai .i64 (a3+1)) (
some (Sum.inl (a0,a1,a2,(a3+1),(List.set (List.set a4 a3.toNat (ix a4 (a0+(bA .u64 r2.1 (a2-1))))) (Int.toNat (a0+(bA .u64 r2.1 (a2-1)))) (ix a4 a3)),r2.2)))))))))))))) (
some (Sum.inr (a4,a5)))))))
theorem Qo (F114:nO)(F115:Gv):Em (BK F114 F115)=u6 (te F114 F115):=funext fun _=>by kernel_rfl
noncomputable def w6:=te gS gT
noncomputable def w7:Yo:=ah (fun x=>w6 x.1 x.2.1 x.2.2.1 x.2.2.2.1 x.2.2.2.2.1 x.2.2.2.2.2)
theorem Qp:l131_0 (BK gS gT)=w7:=congrArg ah (Qo gS gT)
theorem Va:L.Fn Try.prog 131 67 [] (erase IU):=Fn.ofA aN Try.func131 _ _ (by kernel_rfl)
def zw:FSh:=⟨⟨TB,dv⟩,IC,1,⟨⟨pG,dv⟩,[bd],[0],1⟩,false⟩
noncomputable def IV (F114:nO)(F115:Gv)(l131_0:Yo)(a0 a1:Int)(a2:List Y1):Option Y8:=
aj (ai .i64 (a1-a0)) (
cond (decide (8≤(a1-a0))) (
aj (ai .u64 (a1-a0)) (
(F114 (a1-a0)).bind fun r1=>(
aj (ai .i64 (Int.tdiv (a1-a0) 4)) (
aj (ai .i64 ((Int.tdiv (a1-a0) 4)*2)) (
aj (ai .i64 (a0+((Int.tdiv (a1-a0) 4)*2))) (
aj (ai .i64 ((a0+((Int.tdiv (a1-a0) 4)*2))-1)) (
(l131_0 (a0,(a1-a0),r1,((a0+((Int.tdiv (a1-a0) 4)*2))-1),a2,(a1-a0))).bind fun y3=>(
some y3.1)))))))) (
some a2))
theorem g131 (F114:nO)(F115:Gv):aO (BK F114 F115) zw [] IU=u3 (IV F114 F115 (l131_0 (BK F114 F115))):=funext fun _=>by kernel_rfl
noncomputable def Qq:=IV gS gT w7
noncomputable def gu:ld:=fun x=>Qq x.1 x.2.1 x.2.2
theorem v131:aO (BK gS gT) zw [] IU=gu:=(g131 gS gT).trans (by rw[Qp] <;> rfl)
theorem d131:DC Try.prog 131 zw gu:=aF v131 (ak t131 Va (by kernel_rfl))
noncomputable def Qr (F80:dS):List FEnt:=[⟨80,qo,F80⟩]
theorem t140:aq Try.prog (Qr P80):=(af PZ (by kernel_rfl) al)
noncomputable def Qs:=bU Try.prog [] Try.f140 .n
theorem Vb:L.Fn Try.prog 140 32 [(.t 10),(.t 11)] (erase Qs):=Fn.ofA aN Try.func140 _ _ (by kernel_rfl)
def zx:FSh:=⟨⟨[(.slc 0),(.v y7),(.v y7),(.ptr 1 0),(.fn 80 [])],TC⟩,[y7,y7,bd,y7],2,⟨⟨KQ,TC⟩,[y7,y7,bd,y7],[0,1],2⟩,false⟩
noncomputable def Qt (F80:dS)(a0 a1:Int)(a2:List Y1)(a3:Int):Option Y84:=
aj (aC a1 a2.length) (
aj (aC a0 a2.length) (
(F80 ((ix a2 a1),(ix a2 a0))).bind fun r1=>(
cond (decide (r1 < 0)) (
aj (ai .i64 (a3+1)) (
some (a1,a0,a2,(a3+1)))) (
some (a0,a1,a2,a3)))))
theorem g140 (F80:dS):aO (Qr F80) zx [(.t 10),(.t 11)] Qs=u4 (Qt F80):=funext fun _=>by kernel_rfl
noncomputable def Vc:=Qt P80
noncomputable def qp:JM:=fun x=>Vc x.1 x.2.1 x.2.2.1 x.2.2.2
theorem v140:aO (Qr P80) zx [(.t 10),(.t 11)] Qs=qp:=g140 P80
theorem d140:DC Try.prog 140 zx qp:=aF v140 (ak t140 Vb (by kernel_rfl))
noncomputable def Qu (F140:JM):List FEnt:=[⟨140,zx,F140⟩]
theorem t139:aq Try.prog (Qu qp):=(af d140 (by kernel_rfl) al)
noncomputable def Qv:=bU Try.prog [] Try.f139 .n
theorem Vd:L.Fn Try.prog 139 41 [(.t 12)] (erase Qv):=Fn.ofA aN Try.func139 _ _ (by kernel_rfl)
def uZ:FSh:=⟨⟨[(.slc 0),(.v y7),(.v y7),(.v y7),(.ptr 1 0),(.fn 80 [])],TC⟩,[y7,y7,y7,bd,y7],2,⟨⟨nK,TC⟩,[y7,bd,y7],[0,1],2⟩,false⟩
noncomputable def Qw (F140:JM)(a0 a1 a2:Int)(a3:List Y1)(a4:Int):Option Y85:=
(F140 (a0,a1,a3,a4)).bind fun r1=>(
(F140 (r1.2.1,a2,r1.2.2.1,r1.2.2.2)).bind fun r2=>(
(F140 (r1.1,r2.1,r2.2.2.1,r2.2.2.2)).bind fun r3=>(
some (r3.2.1,r3.2.2.1,r3.2.2.2))))
theorem g139 (F140:JM):aO (Qu F140) uZ [(.t 12)] Qv=u5 (Qw F140):=funext fun _=>by kernel_rfl
noncomputable def Ve:=Qw qp
noncomputable def mN:xV:=fun x=>Ve x.1 x.2.1 x.2.2.1 x.2.2.2.1 x.2.2.2.2
theorem v139:aO (Qu qp) uZ [(.t 12)] Qv=mN:=g139 qp
theorem Vf:DC Try.prog 139 uZ mN:=aF v139 (ak t139 Vd (by kernel_rfl))
noncomputable def Qx (F139:xV):List FEnt:=[⟨139,uZ,F139⟩]
theorem t138:aq Try.prog (Qx mN):=(af Vf (by kernel_rfl) al)
noncomputable def Qy:=bU Try.prog [] Try.f138 .n
theorem Vg:L.Fn Try.prog 138 18 [(.t 8)] (erase Qy):=Fn.ofA aN Try.func138 _ _ (by kernel_rfl)
def zy:FSh:=⟨⟨[(.slc 0),(.v y7),(.ptr 1 0),(.fn 80 [])],TC⟩,[y7,bd,y7],2,⟨⟨nK,TC⟩,[y7,bd,y7],[0,1],2⟩,false⟩
noncomputable def Qz (F139:xV)(a0:Int)(a1:List Y1)(a2:Int):Option Y85:=
aj (ai .i64 (a0-1)) (
aj (ai .i64 (a0+1)) (
(F139 ((a0-1),a0,(a0+1),a1,a2)).bind fun r1=>(
some (r1.1,r1.2.1,r1.2.2))))
theorem g138 (F139:xV):aO (Qx F139) zy [(.t 8)] Qy=u3 (Qz F139):=funext fun _=>by kernel_rfl
noncomputable def Vh:=Qz mN
noncomputable def tf:JN:=fun x=>Vh x.1 x.2.1 x.2.2
theorem v138:aO (Qx mN) zy [(.t 8)] Qy=tf:=g138 mN
theorem d138:DC Try.prog 138 zy tf:=aF v138 (ak t138 Vg (by kernel_rfl))
noncomputable def QA (F138:JN)(F139:xV):List FEnt:=[⟨138,zy,F138⟩,⟨139,uZ,F139⟩]
theorem t132:aq Try.prog (QA tf mN):=(af d138 (by kernel_rfl) (af Vf (by kernel_rfl) al))
noncomputable def QB:=bU Try.prog [] Try.f132 .n
theorem Vi:L.Fn Try.prog 132 63 [(.t 8),(.t 9)] (erase QB):=Fn.ofA aN Try.func132 _ _ (by kernel_rfl)
def zz:FSh:=⟨⟨TB,dv⟩,IC,1,⟨⟨KQ,dv⟩,IC,[0],1⟩,false⟩
noncomputable def QC (F138:JN)(F139:xV)(a0 a1:Int)(a2:List Y1):Option Yl:=
aj (ai .i64 (a1-a0)) (
aj (ai .i64 (Int.tdiv (a1-a0) 4)) (
aj (ai .i64 ((Int.tdiv (a1-a0) 4)*1)) (
aj (ai .i64 (a0+((Int.tdiv (a1-a0) 4)*1))) (
aj (ai .i64 (Int.tdiv (a1-a0) 4)) (
aj (ai .i64 ((Int.tdiv (a1-a0) 4)*2)) (
aj (ai .i64 (a0+((Int.tdiv (a1-a0) 4)*2))) (
aj (ai .i64 (Int.tdiv (a1-a0) 4)) (
aj (ai .i64 ((Int.tdiv (a1-a0) 4)*3)) (
aj (ai .i64 (a0+((Int.tdiv (a1-a0) 4)*3))) (
cond (decide (8≤(a1-a0))) (
cond (decide (50≤(a1-a0))) (
(F138 ((a0+((Int.tdiv (a1-a0) 4)*1)),a2,0)).bind fun r1=>(
(F138 ((a0+((Int.tdiv (a1-a0) 4)*2)),r1.2.1,r1.2.2)).bind fun r2=>(
(F138 ((a0+((Int.tdiv (a1-a0) 4)*3)),r2.2.1,r2.2.2)).bind fun r3=>(
(F139 (r1.1,r2.1,r3.1,r3.2.1,r3.2.2)).bind fun r4=>(
cond (decide (r4.2.2=0)) (
some (r4.1,1,r4.2.1)) (
cond (decide (r4.2.2=12)) (
some (r4.1,2,r4.2.1)) (
some (r4.1,0,r4.2.1)))))))) (
(F139 ((a0+((Int.tdiv (a1-a0) 4)*1)),(a0+((Int.tdiv (a1-a0) 4)*2)),(a0+((Int.tdiv (a1-a0) 4)*3)),a2,0)).bind fun r5=>(
cond (decide (r5.2.2=0)) (
some (r5.1,1,r5.2.1)) (
cond (decide (r5.2.2=12)) (
some (r5.1,2,r5.2.1)) (
some (r5.1,0,r5.2.1)))))) (
cond (decide ((0:Int)=0)) (
some ((a0+((Int.tdiv (a1-a0) 4)*2)),1,a2)) (
cond (decide ((0:Int)=12)) (
some ((a0+((Int.tdiv (a1-a0) 4)*2)),2,a2)) (
some ((a0+((Int.tdiv (a1-a0) 4)*2)),0,a2))))))))))))))
theorem g132 (F138:JN)(F139:xV):aO (QA F138 F139) zz [(.t 8),(.t 9)] QB=u3 (QC F138 F139):=funext fun _=>by kernel_rfl
noncomputable def Vj:=QC tf mN
noncomputable def gU:nP:=fun x=>Vj x.1 x.2.1 x.2.2
theorem v132:aO (QA tf mN) zz [(.t 8),(.t 9)] QB=gU:=g132 tf mN
theorem d132:DC Try.prog 132 zz gU:=aF v132 (ak t132 Vi (by kernel_rfl))
noncomputable def BL:List FEnt:=[]
theorem t133:aq Try.prog BL:=al
def En:LSh:=⟨[0,8,9],⟨Ho,dv⟩,IC,1,[0]⟩
noncomputable def IW:=bU Try.prog [] Try.f133 (.s .n (.s .n (.b (.l En tc .n))))
noncomputable def Eo (T:List FEnt):=aG (xs:=tc) En (bg T (sb [1,1,2,2] IW))
noncomputable def l133_0 (T:List FEnt):=ah (Eo T)
noncomputable def xa (a0 a1:Int)(a2:List Y1):Option Ys:=
cond (decide (a0 < a1)) (
aj (aC a1 a2.length) (
aj (aC a0 a2.length) (
aj (aC a0 a2.length) (
aj (aC a1 (List.length (List.set a2 a0.toNat (ix a2 a1)))) (
aj (ai .i64 (a0+1)) (
aj (ai .i64 (a1-1)) (
some (Sum.inl ((a0+1),(a1-1),(List.set (List.set a2 a0.toNat (ix a2 a1)) a1.toNat (ix a2 a0))))))))))) (
some (Sum.inr a2))
theorem QD:Eo BL=u3 xa:=funext fun _=>by kernel_rfl
noncomputable def Ep:=xa
noncomputable def xb:ld:=ah (fun x=>Ep x.1 x.2.1 x.2.2)
theorem QE:l133_0 BL=xb:=congrArg ah QD
theorem Vk:L.Fn Try.prog 133 34 [] (erase IW):=Fn.ofA aN Try.func133 _ _ (by kernel_rfl)
def zA:FSh:=⟨⟨TB,dv⟩,IC,1,⟨⟨pG,dv⟩,[bd],[0],1⟩,false⟩
noncomputable def QF (l133_0:ld)(a0 a1:Int)(a2:List Y1):Option Y8:=
aj (ai .i64 (a1-1)) (
(l133_0 (a0,(a1-1),a2)).bind fun y1=>(
some y1))
theorem g133:aO BL zA [] IW=u3 (QF (l133_0 BL)):=funext fun _=>by kernel_rfl
noncomputable def Vl:=QF xb
noncomputable def gV:ld:=fun x=>Vl x.1 x.2.1 x.2.2
theorem v133:aO BL zA [] IW=gV:=g133.trans (by rw[QE] <;> rfl)
theorem d133:DC Try.prog 133 zA gV:=aF v133 (ak t133 Vk (by kernel_rfl))
end Go.Proofs.Ytdkaijofmigmbaa.D
