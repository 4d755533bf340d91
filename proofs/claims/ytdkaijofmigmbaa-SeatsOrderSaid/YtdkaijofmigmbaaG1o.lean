import Derived.Test.YtdkaijofmigmbaaH2o
import Derived.Test.YtdkaijofmigmbaaProg
set_option linter.unusedVariables false
set_option maxRecDepth 100000
namespace Go.Proofs.Ytdkaijofmigmbaa.D
open Go Go.Proofs Go.Proofs.Ytdkaijofmigmbaa.L
def KE:List Ty:=[y7,y7,y7,y7,bc]
def uu:List Ty:=[y7,y7,y7,bc]
def Ii:List Ty:=[y7,y7,bc]
def j38:List RSh:=[(.st aW),(.v bc)]
def j23:List RSh:=[(.tup [(.agg [(.slc 0),(.v y7)]),(.slc 1)])]
def nr:List RSh:=[(.v y7)]
def j40:List RSh:=[(.v iP),(.v iP)]
def UJ:List RSh:=[(.v y19),(.v y7)]
def PL:List RSh:=[(.slc 0),(.v y7)]
def Bi:List RSh:=[(.slc 0)]
def Tr:List RSh:=[(.slc 0),(.v y7),(.v y7),(.fn 80 []),(.v y7),(.v y7)]
def j15:List RSh:=[(.slc 0),(.v y7),(.v y7),(.fn 80 []),(.v y7)]
def Ts:List RSh:=[(.slc 0),(.v y7),(.v y7),(.fn 80 [])]
def j16:List RSh:=[(.slc 0),(.v y7),(.v y7),(.v y7),(.fn 80 [])]
def j17:List RSh:=[(.slc 0),(.fn 80 []),(.v y7),(.v y7),(.v y7)]
def j11:List RSh:=[(.slc 0),(.v y7),(.v y7),(.ptr 1 0),(.v iP),(.v y7)]
def KF:List RSh:=[(.tup [(.v y7),(.v y7)])]
def G7:List RSh:=[(.slc 0),(.v y7),(.v y7)]
def dm:List (Nat×OSh):=[(0,(.row 3 y7))]
def k13:List (Nat×OSh):=[(0,(.box [(.v y19),(.v y7),(.slr 1),(.mp 2),.emp])),(1,(.rows 22 3 y7)),(2,(.pmap 3)),(3,(.pool cW))]
def dr:List (Nat×OSh):=[(0,(.row 40 cW))]
def Tt:List (Nat×OSh):=[(0,(.row 40 cW)),(1,(.boxT y7))]
noncomputable def T24:List FEnt:=[]
theorem t24:al Try.prog T24:=ak
noncomputable def c24:=bU Try.prog [] Try.f24 .n
theorem ok24:L.Fn Try.prog 24 14 [(.t 4)] (erase c24):=Fn.ofA aM Try.func24 _ _ (by kernel_rfl)
def Bj:FSh:=⟨⟨j38,[]⟩,[aW,bc],0,⟨⟨fk,[]⟩,[.bool],[],0⟩,true⟩
noncomputable def q24 (a0:Y2×Int)(a1:List Y1):Option Bool:=
cond (decide (30 < (↑a0.1.length:Int))) (
some true) (
some (decide (60 < (↑a1.length:Int))))
theorem g24:aO T24 Bj [(.t 4)] c24=u2 q24:=funext fun _=>by kernel_rfl
noncomputable def p24:=q24
noncomputable def B8:Ha:=fun x=>p24 x.1 x.2
theorem v24:aO T24 Bj [(.t 4)] c24=B8:=g24
theorem d24:DC Try.prog 24 Bj B8:=aD v24 (aj t24 ok24 (by kernel_rfl))
noncomputable def T41:List FEnt:=[]
theorem t41:al Try.prog T41:=ak
noncomputable def c41:=bU Try.prog [] Try.f41 (.s .n (.s (.r [.a 0 false y7,.a 7 true cW]) .n))
theorem ok41:L.Fn Try.prog 41 10 [(.cell 0 true 2),(.t 1)] (erase c41):=Fn.ofA aM Try.func41 _ _ (by kernel_rfl)
def Ij:FSh:=⟨⟨[],[]⟩,[],0,⟨⟨j23,[(0,(.row 3 y7)),(1,(.row 40 cW))]⟩,[y7,y19,bc],[],2⟩,true⟩
noncomputable def q41:Option Yp:=
some (10,([5,3]:List Int),([(1,(0,(1,(1,2)))),(2,(1,(1,(2,2)))),(3,(5,(2,(1,0)))),(4,(12,(1,(3,3)))),(5,(11,(2,(2,0))))]:List Y1))
theorem g41:aO T41 Ij [(.cell 0 true 2),(.t 1)] c41 ()=q41:=by kernel_rfl
noncomputable def p41:Option Yp:=q41
noncomputable def P41:Y98:=fun x=>p41
theorem v41:aO T41 Ij [(.cell 0 true 2),(.t 1)] c41=P41:=funext fun x=>(g41)
theorem d41:DC Try.prog 41 Ij P41:=aD v41 (aj t41 ok41 (by kernel_rfl))
noncomputable def T69 (F60:Y5):List FEnt:=[⟨60,sw,F60⟩]
theorem t69:al Try.prog (T69 P60):=(aa Tp (by kernel_rfl) ak)
noncomputable def c69:=bU Try.prog [] Try.f69 .n
theorem ok69:L.Fn Try.prog 69 6 [(.t 2)] (erase c69):=Fn.ofA aM Try.func69 _ _ (by kernel_rfl)
def Ik:FSh:=⟨⟨nr,[]⟩,[y7],0,⟨⟨fk,[]⟩,[.bool],[],0⟩,true⟩
noncomputable def q69 (F60:Y5)(a0:Int):Option Bool:=
(F60 (a0,1,12)).bind fun r1=>(
some (!r1))
theorem g69 (F60:Y5)(a0:Int):aO (T69 F60) Ik [(.t 2)] c69 a0=q69 F60 a0:=by kernel_rfl
noncomputable def p69:=q69 P60
noncomputable def P69:lP:=fun x=>p69 x
theorem v69:aO (T69 P60) Ik [(.t 2)] c69=P69:=funext fun x=>(g69 P60 x)
theorem d69:DC Try.prog 69 Ik P69:=aD v69 (aj t69 ok69 (by kernel_rfl))
noncomputable def Tu (F69:lP):List FEnt:=[⟨69,Ik,F69⟩]
theorem t74:al Try.prog (Tu P69):=(aa d69 (by kernel_rfl) ak)
def KG:LSh:=⟨[0,1,7,8],⟨[(.v y19),(.fn 69 []),(.v y7),(.v y7)],[]⟩,[y19,y7,y7],0,[]⟩
def yW:List XSh:=[⟨.ret,[4],⟨⟨nr,[]⟩,[y7],[],0⟩⟩,⟨(.exit 0),[],⟨⟨[],[]⟩,[],[],0⟩⟩]
noncomputable def c74:=bU Try.prog [] Try.f74 (.s .n (.s (.s .n (.b (.l KG yW .n))) .n))
noncomputable def KH (T:List FEnt):=aG (xs:=yW) KG (bf T (sb [1,0,1,2,2] c74))
noncomputable def l74_0 (T:List FEnt):=af (KH T)
noncomputable def qP (F69:lP)(a0:List Int)(a1 a2:Int):Option Y87:=
cond (decide (a2 < a1)) (
ai (aC a2 a0.length) (
(F69 (ix a0 a2)).bind fun r1=>(
cond r1 (
some (Sum.inr (Sum.inl a2))) (
ai (ah .i64 (a2+1)) (
some (Sum.inl (a0,a1,(a2+1)))))))) (
some (Sum.inr (Sum.inr ())))
theorem UK (F69:lP):KH (Tu F69)=u3 (qP F69):=funext fun _=>by kernel_rfl
noncomputable def KI:=qP P69
noncomputable def qQ:Y58:=af (fun x=>KI x.1 x.2.1 x.2.2)
theorem v74_0:l74_0 (Tu P69)=qQ:=congrArg af (UK P69)
theorem ok74:L.Fn Try.prog 74 19 [(.t 4)] (erase c74):=Fn.ofA aM Try.func74 _ _ (by kernel_rfl)
def Il:FSh:=⟨⟨[(.v y19),(.fn 69 [])],[]⟩,[y19],0,⟨⟨nr,[]⟩,[y7],[],0⟩,true⟩
noncomputable def Tv (F69:lP)(l74_0:Y58)(a0:List Int):Option Int:=
(l74_0 (a0,(↑a0.length:Int),0)).bind (fun y2=>Sum.elim (fun y3=>(
some y3)) (fun y4=>(
some (-1))) y2)
theorem g74 (F69:lP)(a0:List Int):aO (Tu F69) Il [(.t 4)] c74 a0=Tv F69 (l74_0 (Tu F69)) a0:=by kernel_rfl
noncomputable def p74:=Tv P69 qQ
noncomputable def P74:Oi:=fun x=>p74 x
theorem v74:aO (Tu P69) Il [(.t 4)] c74=P74:=funext fun x=>(g74 P69 x).trans (by rw[v74_0] <;> rfl)
theorem d74:DC Try.prog 74 Il P74:=aD v74 (aj t74 ok74 (by kernel_rfl))
noncomputable def T58 (F74:Oi):List FEnt:=[⟨74,Il,F74⟩]
theorem t58:al Try.prog (T58 P74):=(aa d74 (by kernel_rfl) ak)
noncomputable def c58:=bU Try.prog [] Try.f58 .n
theorem ok58:L.Fn Try.prog 58 9 [(.t 4)] (erase c58):=Fn.ofA aM Try.func58 _ _ (by kernel_rfl)
def Im:FSh:=⟨⟨[(.v y19),(.fn 69 [])],[]⟩,[y19],0,⟨⟨fk,[]⟩,[.bool],[],0⟩,true⟩
noncomputable def q58 (F74:Oi)(a0:List Int):Option Bool:=
(F74 a0).bind fun r1=>(
some (decide (0≤r1)))
theorem g58 (F74:Oi)(a0:List Int):aO (T58 F74) Im [(.t 4)] c58 a0=q58 F74 a0:=by kernel_rfl
noncomputable def p58:=q58 P74
noncomputable def P58:Y60:=fun x=>p58 x
theorem v58:aO (T58 P74) Im [(.t 4)] c58=P58:=funext fun x=>(g58 P74 x)
theorem d58:DC Try.prog 58 Im P58:=aD v58 (aj t58 ok58 (by kernel_rfl))
noncomputable def T48 (F60:Y5)(F58:Y60):List FEnt:=[⟨60,sw,F60⟩,⟨58,Im,F58⟩]
theorem t48:al Try.prog (T48 P60 P58):=(aa Tp (by kernel_rfl) (aa d58 (by kernel_rfl) ak))
noncomputable def c48:=bU Try.prog [] Try.f48 .n
theorem ok48:L.Fn Try.prog 48 20 [(.t 2)] (erase c48):=Fn.ofA aM Try.func48 _ _ (by kernel_rfl)
def Io:FSh:=⟨⟨[(.st aW)],[]⟩,[aW],0,⟨⟨fk,[]⟩,[.bool],[],0⟩,true⟩
noncomputable def q48 (F60:Y5)(F58:Y60)(a0:Y2×Int):Option Bool:=
(F60 ((↑a0.1.length:Int),1,6)).bind fun r1=>(
cond r1 (
(F58 a0.1).bind fun r2=>(
cond (!r2) (
(F60 (a0.2,1,600)).bind fun r3=>(
some r3)) (
some false))) (
some false))
theorem g48 (F60:Y5)(F58:Y60)(a0:Y2×Int):aO (T48 F60 F58) Io [(.t 2)] c48 a0=q48 F60 F58 a0:=by kernel_rfl
noncomputable def p48:=q48 P60 P58
noncomputable def Bk:lC:=fun x=>p48 x
theorem v48:aO (T48 P60 P58) Io [(.t 2)] c48=Bk:=funext fun x=>(g48 P60 P58 x)
theorem d48:DC Try.prog 48 Io Bk:=aD v48 (aj t48 ok48 (by kernel_rfl))
noncomputable def T49 (F60:Y5):List FEnt:=[⟨60,sw,F60⟩]
theorem t49:al Try.prog (T49 P60):=(aa Tp (by kernel_rfl) ak)
noncomputable def c49:=bU Try.prog [] Try.f49 .n
theorem ok49:L.Fn Try.prog 49 32 [(.t 2)] (erase c49):=Fn.ofA aM Try.func49 _ _ (by kernel_rfl)
def Ip:FSh:=⟨⟨[(.st cW)],[]⟩,[cW],0,⟨⟨fk,[]⟩,[.bool],[],0⟩,true⟩
noncomputable def q49 (F60:Y5)(a0:Y1):Option Bool:=
cond (decide (a0.2.2.1=1)) (
(F60 (a0.1,0,99)).bind fun r1=>(
cond r1 (
(F60 (a0.2.2.2.1,0,99)).bind fun r2=>(
cond r2 (
(F60 (a0.2.1,0,9999)).bind fun r3=>(
cond r3 (
(F60 (a0.2.2.2.2,1,12)).bind fun r4=>(
some r4)) (
some false))) (
some false))) (
some false))) (
cond (decide (a0.2.2.1=2)) (
cond (decide (a0.2.2.1=2)) (
(F60 (a0.1,0,99)).bind fun r5=>(
cond r5 (
(F60 (a0.2.2.2.1,0,99)).bind fun r6=>(
cond r6 (
(F60 (a0.2.1,0,9999)).bind fun r7=>(
cond r7 (
(F60 (a0.2.2.2.2,0,0)).bind fun r8=>(
some r8)) (
some false))) (
some false))) (
some false))) (
some false)) (
cond (decide (a0.2.2.1=3)) (
(F60 (a0.1,0,99)).bind fun r9=>(
cond r9 (
(F60 (a0.2.2.2.1,0,99)).bind fun r10=>(
cond r10 (
(F60 (a0.2.1,0,9999)).bind fun r11=>(
cond r11 (
(F60 (a0.2.2.2.2,0,0)).bind fun r12=>(
some r12)) (
some false))) (
some false))) (
some false))) (
some false)))
theorem g49 (F60:Y5)(a0:Y1):aO (T49 F60) Ip [(.t 2)] c49 a0=q49 F60 a0:=by kernel_rfl
noncomputable def p49:=q49 P60
noncomputable def Bl:Ap:=fun x=>p49 x
theorem v49:aO (T49 P60) Ip [(.t 2)] c49=Bl:=funext fun x=>(g49 P60 x)
theorem d49:DC Try.prog 49 Ip Bl:=aD v49 (aj t49 ok49 (by kernel_rfl))
noncomputable def Tw (F48:lC)(F49:Ap):List FEnt:=[⟨48,Io,F48⟩,⟨49,Ip,F49⟩]
theorem t26:al Try.prog (Tw Bk Bl):=(aa d48 (by kernel_rfl) (aa d49 (by kernel_rfl) ak))
def KJ:LSh:=⟨[5,17,18,19],⟨[(.mp 0),(.v bc),(.v y7),(.v y7)],[(0,(.imap 0 true cW))]⟩,[bc,y7,y7,RT],1,[0]⟩
def KK:List XSh:=[⟨.ret,[4],⟨⟨nr,[(0,(.imap 0 true cW))]⟩,[y7,RT],[0],1⟩⟩,⟨(.exit 0),[],⟨⟨[],[(0,(.imap 0 true cW))]⟩,[RT],[0],1⟩⟩]
noncomputable def c26:=bU Try.prog [] Try.f26 (.s .n (.s .n (.s .n (.s (.r [.a 0 true cW]) (.s (.s .n (.b (.l KJ KK .n))) .n)))))
noncomputable def KL (T:List FEnt):=aG (xs:=KK) KJ (bf T (sb [1,1,1,1,0,1,2,2] c26))
noncomputable def l26_0 (T:List FEnt):=af (KL T)
noncomputable def uv (F48:lC)(F49:Ap)(a0:List Y1)(a1 a2:Int)(a3:List Y73):Option YC:=
cond (decide (a2 < a1)) (
ai (aC a2 a0.length) (
(F49 (ix a0 a2)).bind fun r2=>(
cond (!r2) (
some (Sum.inr (Sum.inl (41,a3)))) (
cond (Option.isSome (dk a3 [(ix a0 a2).1])) (
cond (!((((decide ((wn (dk a3 [(ix a0 a2).1]) (0,(0,(0,(0,0))))).1=(ix a0 a2).1)&&decide ((wn (dk a3 [(ix a0 a2).1]) (0,(0,(0,(0,0))))).2.1=(ix a0 a2).2.1))&&decide ((wn (dk a3 [(ix a0 a2).1]) (0,(0,(0,(0,0))))).2.2.1=(ix a0 a2).2.2.1))&&decide ((wn (dk a3 [(ix a0 a2).1]) (0,(0,(0,(0,0))))).2.2.2.1=(ix a0 a2).2.2.2.1))&&decide ((wn (dk a3 [(ix a0 a2).1]) (0,(0,(0,(0,0))))).2.2.2.2=(ix a0 a2).2.2.2.2))) (
some (Sum.inr (Sum.inl (41,a3)))) (
ai (ah .i64 (a2+1)) (
some (Sum.inl (a0,a1,(a2+1),(i8 a3 [(ix a0 a2).1] (ix a0 a2))))))) (
ai (ah .i64 (a2+1)) (
some (Sum.inl (a0,a1,(a2+1),(i8 a3 [(ix a0 a2).1] (ix a0 a2)))))))))) (
some (Sum.inr (Sum.inr a3)))
theorem UL (F48:lC)(F49:Ap):KL (Tw F48 F49)=u4 (uv F48 F49):=funext fun _=>by kernel_rfl
noncomputable def KM:=uv Bk Bl
noncomputable def L26_0:YA:=af (fun x=>KM x.1 x.2.1 x.2.2.1 x.2.2.2)
theorem UM:l26_0 (Tw Bk Bl)=L26_0:=congrArg af (UL Bk Bl)
theorem ok26:L.Fn Try.prog 26 46 [(.t 4)] (erase c26):=Fn.ofA aM Try.func26 _ _ (by kernel_rfl)
def Bm:FSh:=⟨⟨j38,[]⟩,[aW,bc],0,⟨⟨nr,[]⟩,[y7],[],0⟩,true⟩
noncomputable def q26 (F48:lC)(F49:Ap)(l26_0:YA)(a0:Y2×Int)(a1:List Y1):Option Int:=
(F48 a0).bind fun r1=>(
cond (!r1) (
some 40) (
cond (decide (40 < (↑a1.length:Int))) (
some 41) (
(l26_0 (a1,(↑a1.length:Int),0,([]:List Y73))).bind (fun y3=>Sum.elim (fun y4=>(
some y4.1)) (fun y5=>(
some 0)) y3))))
theorem g26 (F48:lC)(F49:Ap):aO (Tw F48 F49) Bm [(.t 4)] c26=u2 (q26 F48 F49 (l26_0 (Tw F48 F49))):=funext fun _=>by kernel_rfl
noncomputable def p26:=q26 Bk Bl L26_0
noncomputable def uw:tt:=fun x=>p26 x.1 x.2
theorem v26:aO (Tw Bk Bl) Bm [(.t 4)] c26=uw:=(g26 Bk Bl).trans (by rw[UM] <;> rfl)
theorem d26:DC Try.prog 26 Bm uw:=aD v26 (aj t26 ok26 (by kernel_rfl))
noncomputable def PM:List FEnt:=[]
theorem t128:al Try.prog PM:=ak
noncomputable def PN:=bU Try.prog [] Try.f128 .n
theorem UN:L.Fn Try.prog 128 51 [(.t 4),(.t 5)] (erase PN):=Fn.ofA aM Try.func128 _ _ (by kernel_rfl)
def yX:FSh:=⟨⟨j40,[]⟩,[iP,iP],0,⟨⟨[(.tup j40)],[]⟩,[iP,iP],[],0⟩,true⟩
noncomputable def UO (a0 a1:Int):Option Cf:=
ai (ah .u64 ((bu .u64 a0 4294967295)*(bu .u64 a1 4294967295))) (
ai (ah .u64 ((bI .u64 a0 32)*(bu .u64 a1 4294967295))) (
ai (ah .u64 (((bI .u64 a0 32)*(bu .u64 a1 4294967295))+(bI .u64 ((bu .u64 a0 4294967295)*(bu .u64 a1 4294967295)) 32))) (
ai (ah .u64 ((bu .u64 a0 4294967295)*(bI .u64 a1 32))) (
ai (ah .u64 ((bu .u64 (((bI .u64 a0 32)*(bu .u64 a1 4294967295))+(bI .u64 ((bu .u64 a0 4294967295)*(bu .u64 a1 4294967295)) 32)) 4294967295)+((bu .u64 a0 4294967295)*(bI .u64 a1 32)))) (
ai (ah .u64 ((bI .u64 a0 32)*(bI .u64 a1 32))) (
ai (ah .u64 (((bI .u64 a0 32)*(bI .u64 a1 32))+(bI .u64 (((bI .u64 a0 32)*(bu .u64 a1 4294967295))+(bI .u64 ((bu .u64 a0 4294967295)*(bu .u64 a1 4294967295)) 32)) 32))) (
ai (ah .u64 ((((bI .u64 a0 32)*(bI .u64 a1 32))+(bI .u64 (((bI .u64 a0 32)*(bu .u64 a1 4294967295))+(bI .u64 ((bu .u64 a0 4294967295)*(bu .u64 a1 4294967295)) 32)) 32))+(bI .u64 ((bu .u64 (((bI .u64 a0 32)*(bu .u64 a1 4294967295))+(bI .u64 ((bu .u64 a0 4294967295)*(bu .u64 a1 4294967295)) 32)) 4294967295)+((bu .u64 a0 4294967295)*(bI .u64 a1 32))) 32))) (
ai (ah .u64 (a0*a1)) (
some (((((bI .u64 a0 32)*(bI .u64 a1 32))+(bI .u64 (((bI .u64 a0 32)*(bu .u64 a1 4294967295))+(bI .u64 ((bu .u64 a0 4294967295)*(bu .u64 a1 4294967295)) 32)) 32))+(bI .u64 ((bu .u64 (((bI .u64 a0 32)*(bu .u64 a1 4294967295))+(bI .u64 ((bu .u64 a0 4294967295)*(bu .u64 a1 4294967295)) 32)) 4294967295)+((bu .u64 a0 4294967295)*(bI .u64 a1 32))) 32)),(a0*a1)))))))))))
theorem g128:aO PM yX [(.t 4),(.t 5)] PN=u2 UO:=funext fun _=>by kernel_rfl
noncomputable def p128:=UO
noncomputable def Bn:Aq:=fun x=>p128 x.1 x.2
theorem v128:aO PM yX [(.t 4),(.t 5)] PN=Bn:=g128
theorem d128:DC Try.prog 128 yX Bn:=aD v128 (aj t128 UN (by kernel_rfl))
noncomputable def PO (F128:Aq):List FEnt:=[⟨128,yX,F128⟩]
theorem t122:al Try.prog (PO Bn):=(aa d128 (by kernel_rfl) ak)
noncomputable def PP:=bU Try.prog [] Try.f122 .n
theorem UP:L.Fn Try.prog 122 30 [(.t 4),(.t 5)] (erase PP):=Fn.ofA aM Try.func122 _ _ (by kernel_rfl)
def yY:FSh:=⟨⟨j40,[]⟩,[iP,iP],0,⟨⟨[(.tup j40)],[]⟩,[iP,iP],[],0⟩,true⟩
noncomputable def UQ (F128:Aq)(a0 a1:Int):Option Cf:=
(F128 (a0,a1)).bind fun r1=>(
some (r1.1,r1.2))
theorem g122 (F128:Aq):aO (PO F128) yY [(.t 4),(.t 5)] PP=u2 (UQ F128):=funext fun _=>by kernel_rfl
noncomputable def p122:=UQ Bn
noncomputable def ns:Aq:=fun x=>p122 x.1 x.2
theorem v122:aO (PO Bn) yY [(.t 4),(.t 5)] PP=ns:=g122 Bn
theorem d122:DC Try.prog 122 yY ns:=aD v122 (aj t122 UP (by kernel_rfl))
noncomputable def sx (F122:Aq):List FEnt:=[⟨122,yY,F122⟩]
theorem t107:al Try.prog (sx ns):=(aa d122 (by kernel_rfl) ak)
def Dn:LSh:=⟨[0,1],⟨UJ,[]⟩,[y19,y7],0,[]⟩
def Do:List XSh:=[⟨.normal,[0,1],⟨⟨UJ,[]⟩,[y19,y7],[],0⟩⟩]
def Dp:LSh:=⟨[7,8],⟨PL,dm⟩,[y7,y19],1,[0]⟩
def Dq:List XSh:=[⟨(.exit 0),[7],⟨⟨Bi,dm⟩,[y19],[0],1⟩⟩]
noncomputable def Dr:=bU Try.prog [(9,{ch:=[0,0,0,1,0,0,1,0,0,0],rs:=[] })] Try.f107 (.s .n (.s (.o Dn Do .n) (.s .n (.s .n (.s (.r [.a 2 false y7]) (.s .n (.s (.b (.l Dp Dq .n)) .n)))))))
noncomputable def l107_0 (T:List FEnt):=eZ (xs:=Do) Dn (bf T (sb [1,0,2] Dr))
noncomputable def Ds (F122:Aq)(a0:List Int)(a1:Int):Option cM:=
cond (decide (a1 < 0)) (
none) (
some (a0,a1))
theorem PQ (F122:Aq):l107_0 (sx F122)=u2 (Ds F122):=funext fun _=>by kernel_rfl
noncomputable def PR:=Ds ns
noncomputable def Dt:Y78:=fun x=>PR x.1 x.2
theorem PS:l107_0 (sx ns)=Dt:=PQ ns
noncomputable def Du (T:List FEnt):=aG (xs:=Dq) Dp (bf T (sb [1,1,1,1,1,1,0,2,2] Dr))
noncomputable def l107_1 (T:List FEnt):=af (Du T)
noncomputable def Dv (F122:Aq)(a0:Int)(a1:List Int):Option Y89:=
cond (decide (a0 < (↑a1.length:Int))) (
ai (decide (0≤a0)) (
ai (decide (a0≤(↑a1.length:Int))) (
ai (decide ((↑a1.length:Int)≤(↑a1.length:Int))) (
ai (decide (0 < List.length a1)) (
ai (decide ((0:Int)≤0)) (
ai (decide (0≤a0)) (
ai (decide (a0≤(↑a1.length:Int))) (
ai (decide (0 < List.length a1)) (
ai (ah .i64 (a0+(↑(min (List.length (List.take (Int.toNat (a0-0)) (List.drop (Int.toNat 0) a1))) (Int.toNat ((↑a1.length:Int)-a0))):Int))) (
some (Sum.inl ((a0+(↑(min (List.length (List.take (Int.toNat (a0-0)) (List.drop (Int.toNat 0) a1))) (Int.toNat ((↑a1.length:Int)-a0))):Int)),(np a1 a0.toNat (List.take (min (List.length (List.take (Int.toNat (a0-0)) (List.drop (Int.toNat 0) a1))) (Int.toNat ((↑a1.length:Int)-a0))) (List.take (Int.toNat (a0-0)) (List.drop (Int.toNat 0) a1)))))))))))))))) (
some (Sum.inr a1))
theorem PT (F122:Aq):Du (sx F122)=u2 (Dv F122):=funext fun _=>by kernel_rfl
noncomputable def PU:=Dv ns
noncomputable def Dw:Y64:=af (fun x=>PU x.1 x.2)
theorem PV:l107_1 (sx ns)=Dw:=congrArg af (PT ns)
theorem UR:L.Fn Try.prog 107 48 [(.t 4)] (erase Dr):=Fn.ofA aM Try.func107 _ _ (by kernel_rfl)
def yZ:FSh:=⟨⟨UJ,[]⟩,[y19,y7],0,⟨⟨Bi,dm⟩,[y19],[],1⟩,true⟩
noncomputable def US (F122:Aq)(l107_0:Y78)(l107_1:Y64)(a0:List Int)(a1:Int):Option Y2:=
(l107_0 (a0,a1)).bind fun y1=>(
ai (ah .u64 (↑y1.1.length:Int)) (
ai (ah .u64 y1.2) (
(F122 ((↑y1.1.length:Int),y1.2)).bind fun r2=>(
cond (decide (0 < r2.1)) (
none) (
cond (decide (9223372036854775807 < r2.2)) (
none) (
ai (ah .i64 r2.2) (
ai (decide (0≤r2.2)) (
ai (decide (8*r2.2≤140737488355328)) (
(l107_1 ((↑(min y1.1.length (List.length (ja r2.2.toNat 0:List Int))):Int),(np (ja r2.2.toNat 0:List Int) 0 (List.take (min y1.1.length (List.length (ja r2.2.toNat 0:List Int))) y1.1)))).bind fun y3=>(
some y3))))))))))
theorem g107 (F122:Aq):aO (sx F122) yZ [(.t 4)] Dr=u2 (US F122 (l107_0 (sx F122)) (l107_1 (sx F122))):=funext fun _=>by kernel_rfl
noncomputable def p107:=US ns Dt Dw
noncomputable def P107:Ua:=fun x=>p107 x.1 x.2
theorem v107:aO (sx ns) yZ [(.t 4)] Dr=P107:=(g107 ns).trans (by rw[PS,PV] <;> rfl)
theorem d107:DC Try.prog 107 yZ P107:=aD v107 (aj t107 UR (by kernel_rfl))
noncomputable def Tx (F107:Ua):List FEnt:=[⟨107,yZ,F107⟩]
theorem t77:al Try.prog (Tx P107):=(aa d107 (by kernel_rfl) ak)
def KN:LSh:=⟨[3,11,12,13],⟨[(.ptr 0 0),(.v y19),(.v y7),(.v y7)],k13⟩,[y19,y7,y7,y19,y7,cG,n6],4,[0,2,3]⟩
def KO:List XSh:=[⟨(.exit 0),[3],⟨⟨Ie,[(0,(.box [(.v y19),(.v y7),(.slr 4),(.mp 2),.emp])),(2,(.pmap 3)),(3,(.pool cW)),(4,(.rows 22 3 y7))]⟩,[y19,y7,n6,cG],[0,2,3],5⟩⟩]
noncomputable def c77:=bU Try.prog [(5,{ch:=[0,0,0,0,1,1,0,0,0,0,0,0,1],rs:=[3] })] Try.f77 (.s .n (.s (.r [.a 1 true (.opt cW)]) (.s (.s .n (.b (.l KN KO (.s .n (.s .n (.s (.b (.s .n (.r [.a 5 false y7,.a 8 true y19,.a 9 true y19]))) .n)))))) .n)))
noncomputable def KP (T:List FEnt):=aG (xs:=KO) KN (bf T (sb [1,1,0,1,2,2] c77))
noncomputable def l77_0 (T:List FEnt):=af (KP T)
noncomputable def qR (F107:Ua)(a0:List Int)(a1 a2:Int)(a3:List Int)(a4:Int)(a5:List Y2)(a6:List Y3):Option Yv:=
cond (decide (a2 < a1)) (
ai (aC a2 a0.length) (
(F107 (([(-1)]:List Int),(ix a0 a2))).bind fun r1=>(
ai (bM 24 (List.length a5+List.length ([r1]:List Y2))) (
ai (ah .i64 (a2+1)) (
some (Sum.inl (a0,a1,(a2+1),a3,a4,(a5++([r1]:List Y2)),a6))))))) (
some (Sum.inr (a3,a4,a6,a5)))
theorem UT (F107:Ua):KP (Tx F107)=u7 (qR F107):=funext fun _=>by kernel_rfl
noncomputable def KQ:=qR P107
noncomputable def ux:Ys:=af (fun x=>KQ x.1 x.2.1 x.2.2.1 x.2.2.2.1 x.2.2.2.2.1 x.2.2.2.2.2.1 x.2.2.2.2.2.2)
theorem v77_0:l77_0 (Tx P107)=ux:=congrArg af (UT P107)
theorem ok77:L.Fn Try.prog 77 31 [(.t 2)] (erase c77):=Fn.ofA aM Try.func77 _ _ (by kernel_rfl)
def Iq:FSh:=⟨⟨[(.st aW)],[]⟩,[aW],0,⟨⟨Ie,k13⟩,[y19,y7,cG,n6],[],4⟩,false⟩
noncomputable def q77 (F107:Ua)(l77_0:Ys)(a0:Y2×Int):Option Y91:=
(l77_0 (a0.1,(↑a0.1.length:Int),0,a0.1,a0.2,([]:List Y2),([]:List Y3))).bind fun y2=>(
some (y2.1,y2.2.1,y2.2.2.2,y2.2.2.1))
theorem g77 (F107:Ua)(a0:Y2×Int):aO (Tx F107) Iq [(.t 2)] c77 a0=q77 F107 (l77_0 (Tx F107)) a0:=by kernel_rfl
noncomputable def p77:=q77 P107 ux
noncomputable def Bo:BJ:=fun x=>p77 x
theorem v77:aO (Tx P107) Iq [(.t 2)] c77=Bo:=funext fun x=>(g77 P107 x).trans (by rw[v77_0] <;> rfl)
theorem d77:DC Try.prog 77 Iq Bo:=aD v77 (aj t77 ok77 (by kernel_rfl))
noncomputable def T79:List FEnt:=[]
theorem t79:al Try.prog T79:=ak
noncomputable def c79:=bU Try.prog [] Try.f79 .n
theorem ok79:L.Fn Try.prog 79 4 [(.t 2)] (erase c79):=Fn.ofA aM Try.func79 _ _ (by kernel_rfl)
def Ir:FSh:=⟨⟨[(.v bc)],[]⟩,[bc],0,⟨⟨[(.fn 110 Ie)],[(0,(.boxT bc))]⟩,[bc],[],1⟩,false⟩
noncomputable def q79 (a0:List Y1):Option Y8:=
some a0
theorem g79 (a0:List Y1):aO T79 Ir [(.t 2)] c79 a0=q79 a0:=by kernel_rfl
noncomputable def p79:=q79
noncomputable def Bp:mL:=fun x=>p79 x
theorem v79:aO T79 Ir [(.t 2)] c79=Bp:=funext fun x=>(g79 x)
theorem d79:DC Try.prog 79 Ir Bp:=aD v79 (aj t79 ok79 (by kernel_rfl))
noncomputable def PW (F123:mL):List FEnt:=[⟨123,sh123,F123⟩]
theorem t108:al Try.prog (PW P123):=(aa d123 (by kernel_rfl) ak)
noncomputable def PX:=bU Try.prog [] Try.f108 .n
theorem UU:L.Fn Try.prog 108 5 [(.t 2)] (erase PX):=Fn.ofA aM Try.func108 _ _ (by kernel_rfl)
def za:FSh:=⟨⟨[(.fn 110 Ie)],[(0,(.boxT bc))]⟩,[bc],1,⟨⟨Bi,dr⟩,[bc],[],1⟩,false⟩
noncomputable def Is (F123:mL)(a0:List Y1):Option Y8:=
(F123 a0).bind fun r1=>(
some r1)
theorem g108 (F123:mL)(a0:List Y1):aO (PW F123) za [(.t 2)] PX a0=Is F123 a0:=by kernel_rfl
noncomputable def p108:=Is P123
noncomputable def P108:mL:=fun x=>p108 x
theorem v108:aO (PW P123) za [(.t 2)] PX=P108:=funext fun x=>(g108 P123 x)
theorem d108:DC Try.prog 108 za P108:=aD v108 (aj t108 UU (by kernel_rfl))
noncomputable def Tz:List FEnt:=[]
theorem t95:al Try.prog Tz:=ak
def KR:LSh:=⟨[0,2],⟨[(.v iP),(.v y7)],[]⟩,[iP,y7],0,[]⟩
def KS:List XSh:=[⟨.normal,[0,2],⟨⟨[(.v iP),(.v y7)],[]⟩,[iP,y7],[],0⟩⟩]
noncomputable def c95:=bU Try.prog [] Try.f95 (.s .n (.s (.o KR KS .n) .n))
noncomputable def l95_0 (T:List FEnt):=eZ (xs:=KS) KR (bf T (sb [1,0,2] c95))
noncomputable def zb (a0 a1:Int):Option Cf:=
cond (decide (4294967296≤a0)) (
some ((bI .u64 a0 32),32)) (
some (a0,a1))
theorem UV:l95_0 Tz=u2 zb:=funext fun _=>by kernel_rfl
noncomputable def Dx:=zb
noncomputable def zc:Aq:=fun x=>Dx x.1 x.2
theorem v95_0:l95_0 Tz=zc:=UV
theorem ok95:L.Fn Try.prog 95 25 [(.t 2)] (erase c95):=Fn.ofA aM Try.func95 _ _ (by kernel_rfl)
def It:FSh:=⟨⟨[(.v iP)],[]⟩,[iP],0,⟨⟨nr,[]⟩,[y7],[],0⟩,true⟩
noncomputable def q95 (l95_0:Aq)(a0:Int):Option Int:=
(l95_0 (a0,0)).bind fun y1=>(
cond (decide (65536≤y1.1)) (
ai (ah .i64 (y1.2+16)) (
cond (decide (256≤(bI .u64 y1.1 16))) (
ai (ah .i64 ((y1.2+16)+8)) (
ai (ah .u8 (bI .u64 (bI .u64 y1.1 16) 8)) (
ai (aC (bI .u64 (bI .u64 y1.1 16) 8) (ByteArray.size tb)) (
ai (ah .i64 (yB tb (bI .u64 (bI .u64 y1.1 16) 8))) (
ai (ah .i64 (((y1.2+16)+8)+(yB tb (bI .u64 (bI .u64 y1.1 16) 8)))) (
some (((y1.2+16)+8)+(yB tb (bI .u64 (bI .u64 y1.1 16) 8))))))))) (
ai (ah .u8 (bI .u64 y1.1 16)) (
ai (aC (bI .u64 y1.1 16) (ByteArray.size tb)) (
ai (ah .i64 (yB tb (bI .u64 y1.1 16))) (
ai (ah .i64 ((y1.2+16)+(yB tb (bI .u64 y1.1 16)))) (
some ((y1.2+16)+(yB tb (bI .u64 y1.1 16)))))))))) (
cond (decide (256≤y1.1)) (
ai (ah .i64 (y1.2+8)) (
ai (ah .u8 (bI .u64 y1.1 8)) (
ai (aC (bI .u64 y1.1 8) (ByteArray.size tb)) (
ai (ah .i64 (yB tb (bI .u64 y1.1 8))) (
ai (ah .i64 ((y1.2+8)+(yB tb (bI .u64 y1.1 8)))) (
some ((y1.2+8)+(yB tb (bI .u64 y1.1 8))))))))) (
ai (ah .u8 y1.1) (
ai (aC y1.1 (ByteArray.size tb)) (
ai (ah .i64 (yB tb y1.1)) (
ai (ah .i64 (y1.2+(yB tb y1.1))) (
some (y1.2+(yB tb y1.1)))))))))
theorem g95 (a0:Int):aO Tz It [(.t 2)] c95 a0=q95 (l95_0 Tz) a0:=by kernel_rfl
noncomputable def p95:=q95 zc
noncomputable def P95:nv:=fun x=>p95 x
theorem v95:aO Tz It [(.t 2)] c95=P95:=funext fun x=>(g95 x).trans (by rw[v95_0] <;> rfl)
theorem d95:DC Try.prog 95 It P95:=aD v95 (aj t95 ok95 (by kernel_rfl))
noncomputable def T67 (F95:nv):List FEnt:=[⟨95,It,F95⟩]
theorem t67:al Try.prog (T67 P95):=(aa d95 (by kernel_rfl) ak)
noncomputable def c67:=bU Try.prog [] Try.f67 .n
theorem ok67:L.Fn Try.prog 67 8 [(.t 2)] (erase c67):=Fn.ofA aM Try.func67 _ _ (by kernel_rfl)
def Bq:FSh:=⟨⟨[(.v iP)],[]⟩,[iP],0,⟨⟨nr,[]⟩,[y7],[],0⟩,true⟩
noncomputable def q67 (F95:nv)(a0:Int):Option Int:=
(F95 a0).bind fun r1=>(
some r1)
theorem g67 (F95:nv)(a0:Int):aO (T67 F95) Bq [(.t 2)] c67 a0=q67 F95 a0:=by kernel_rfl
noncomputable def p67:=q67 P95
noncomputable def P67:nv:=fun x=>p67 x
theorem v67:aO (T67 P95) Bq [(.t 2)] c67=P67:=funext fun x=>(g67 P95 x)
theorem d67:DC Try.prog 67 Bq P67:=aD v67 (aj t67 ok67 (by kernel_rfl))
noncomputable def TA:List FEnt:=[]
theorem t81:al Try.prog TA:=ak
def KT:LSh:=⟨[3,6,7,8],⟨[(.v y7),(.v y19),(.v y7),(.v y7)],[]⟩,[y7,y19,y7,y7],0,[]⟩
def KU:List XSh:=[⟨.ret,[2],⟨⟨nr,[]⟩,[y7],[],0⟩⟩,⟨(.exit 0),[3],⟨⟨nr,[]⟩,[y7],[],0⟩⟩]
noncomputable def c81:=bU Try.prog [] Try.f81 (.s .n (.s .n (.s (.s .n (.b (.l KT KU .n))) .n)))
noncomputable def KV (T:List FEnt):=aG (xs:=KU) KT (bf T (sb [1,1,0,1,2,2] c81))
noncomputable def l81_0 (T:List FEnt):=af (KV T)
noncomputable def KW (a0:Int)(a1:List Int)(a2 a3:Int):Option Y92:=
cond (decide (a3 < a2)) (
ai (aC a3 a1.length) (
cond (!decide ((ix a1 a3)=a0)) (
some (Sum.inr (Sum.inl (ix a1 a3)))) (
ai (ah .i64 (a3+1)) (
some (Sum.inl (a0,a1,a2,(a3+1))))))) (
some (Sum.inr (Sum.inr a0)))
theorem UW:KV TA=u4 KW:=funext fun _=>by kernel_rfl
noncomputable def zd:=KW
noncomputable def ze:Y67:=af (fun x=>zd x.1 x.2.1 x.2.2.1 x.2.2.2)
theorem v81_0:l81_0 TA=ze:=congrArg af UW
theorem ok81:L.Fn Try.prog 81 18 [(.t 2)] (erase c81):=Fn.ofA aM Try.func81 _ _ (by kernel_rfl)
def Iu:FSh:=⟨⟨[(.v y19)],[]⟩,[y19],0,⟨⟨nr,[]⟩,[y7],[],0⟩,true⟩
noncomputable def q81 (l81_0:Y67)(a0:List Int):Option Int:=
(l81_0 (0,a0,(↑a0.length:Int),0)).bind (fun y1=>Sum.elim (fun y2=>(
some y2)) (fun y3=>(
some y3)) y1)
theorem g81 (a0:List Int):aO TA Iu [(.t 2)] c81 a0=q81 (l81_0 TA) a0:=by kernel_rfl
noncomputable def p81:=q81 ze
noncomputable def KX:Oi:=fun x=>p81 x
theorem v81:aO TA Iu [(.t 2)] c81=KX:=funext fun x=>(g81 x).trans (by rw[v81_0] <;> rfl)
theorem d81:DC Try.prog 81 Iu KX:=aD v81 (aj t81 ok81 (by kernel_rfl))
noncomputable def T80 (F81:Oi):List FEnt:=[⟨81,Iu,F81⟩]
theorem t80:al Try.prog (T80 KX):=(aa d81 (by kernel_rfl) ak)
noncomputable def c80:=bU Try.prog [] Try.f80 (.s .n (.s (.r [.a 10 false y7]) .n))
theorem ok80:L.Fn Try.prog 80 17 [(.t 4)] (erase c80):=Fn.ofA aM Try.func80 _ _ (by kernel_rfl)
def pP:FSh:=⟨⟨[(.st cW),(.st cW)],[]⟩,[cW,cW],0,⟨⟨nr,[]⟩,[y7],[],0⟩,true⟩
noncomputable def q80 (F81:Oi)(a0 a1:Y1):Option Int:=
ai (ah .i64 (a0.2.1-a1.2.1)) (
ai (ah .i64 (a0.1-a1.1)) (
(F81 ([(a0.2.1-a1.2.1),(a0.1-a1.1)]:List Int)).bind fun r1=>(
some r1)))
theorem g80 (F81:Oi):aO (T80 F81) pP [(.t 4)] c80=u2 (q80 F81):=funext fun _=>by kernel_rfl
noncomputable def p80:=q80 KX
noncomputable def P80:dN:=fun x=>p80 x.1 x.2
theorem v80:aO (T80 KX) pP [(.t 4)] c80=P80:=g80 KX
theorem PY:DC Try.prog 80 pP P80:=aD v80 (aj t80 ok80 (by kernel_rfl))
noncomputable def sy (F80:dN):List FEnt:=[⟨80,pP,F80⟩]
theorem t129:al Try.prog (sy P80):=(aa PY (by kernel_rfl) ak)
def Dy:LSh:=⟨[0,1,2,3,8,9],⟨Tr,dr⟩,KE,1,[0]⟩
def Dz:List XSh:=[⟨(.exit 2),[0,1,2,3,8],⟨⟨j15,dr⟩,uu,[0],1⟩⟩]
def DA:LSh:=⟨[0,1,2,3,8],⟨j15,dr⟩,uu,1,[0]⟩
def sA:List XSh:=[⟨(.exit 0),[],⟨⟨[],dr⟩,[bc],[0],1⟩⟩]
noncomputable def DB:=bU Try.prog [] Try.f129 (.s .n (.b (.l DA sA (.s .n (.s (.b (.s .n (.b (.l Dy Dz .n)))) .n)))))
noncomputable def DD (T:List FEnt):=aG (xs:=Dz) Dy (bf T (sb [1,2,2,1,0,2,1,2,2] DB))
noncomputable def l129_1 (T:List FEnt):=af (DD T)
noncomputable def wD (F80:dN)(a0 a1 a2 a3:Int)(a4:List Y1):Option RR:=
cond (decide (a0 < a3)) (
ai (aC a3 a4.length) (
ai (ah .i64 (a3-1)) (
ai (aC (a3-1) a4.length) (
(F80 ((ix a4 a3),(ix a4 (a3-1)))).bind fun r1=>(
cond (decide (r1 < 0)) (
ai (ah .i64 (a3-1)) (
ai (ah .i64 (a3-1)) (
ai (aC (a3-1) a4.length) (
ai (aC a3 a4.length) (
ai (aC a3 a4.length) (
ai (aC (a3-1) (List.length (List.set a4 a3.toNat (ix a4 (a3-1))))) (
ai (ah .i64 (a3-1)) (
some (Sum.inl (a0,a1,a2,(a3-1),(List.set (List.set a4 a3.toNat (ix a4 (a3-1))) (Int.toNat (a3-1)) (ix a4 a3)))))))))))) (
some (Sum.inr (a0,a1,a2,a4)))))))) (
some (Sum.inr (a0,a1,a2,a4)))
theorem PZ (F80:dN):DD (sy F80)=u5 (wD F80):=funext fun _=>by kernel_rfl
noncomputable def DE:=wD P80
noncomputable def wE:Jy:=af (fun x=>DE x.1 x.2.1 x.2.2.1 x.2.2.2.1 x.2.2.2.2)
theorem P0:l129_1 (sy P80)=wE:=congrArg af (PZ P80)
noncomputable def DF (T:List FEnt):=aG (xs:=sA) DA (bf T (sb [1,2,2] DB))
noncomputable def l129_0 (T:List FEnt):=af (DF T)
noncomputable def wF (F80:dN)(l129_1:Jy)(a0 a1 a2:Int)(a3:List Y1):Option RS:=
cond (decide (a2 < a1)) (
(l129_1 (a0,a1,a2,a2,a3)).bind fun y2=>(
ai (ah .i64 (y2.2.2.1+1)) (
some (Sum.inl (y2.1,y2.2.1,(y2.2.2.1+1),y2.2.2.2))))) (
some (Sum.inr a3))
theorem P1 (F80:dN):DF (sy F80)=u4 (wF F80 (l129_1 (sy F80))):=funext fun _=>by kernel_rfl
noncomputable def DG:=wF P80 wE
noncomputable def wG:gu:=af (fun x=>DG x.1 x.2.1 x.2.2.1 x.2.2.2)
theorem P2:l129_0 (sy P80)=wG:=congrArg af ((P1 P80).trans (by rw[P0] <;> rfl))
theorem UX:L.Fn Try.prog 129 53 [] (erase DB):=Fn.ofA aM Try.func129 _ _ (by kernel_rfl)
def zf:FSh:=⟨⟨Ts,dr⟩,Ii,1,⟨⟨pc,dr⟩,[bc],[0],1⟩,false⟩
noncomputable def P7 (F80:dN)(l129_0:gu)(a0 a1:Int)(a2:List Y1):Option Y8:=
ai (ah .i64 (a0+1)) (
(l129_0 (a0,a1,(a0+1),a2)).bind fun y3=>(
some y3))
theorem g129 (F80:dN):aO (sy F80) zf [] DB=u3 (P7 F80 (l129_0 (sy F80))):=funext fun _=>by kernel_rfl
noncomputable def UY:=P7 P80 wG
noncomputable def gJ:kS:=fun x=>UY x.1 x.2.1 x.2.2
theorem v129:aO (sy P80) zf [] DB=gJ:=(g129 P80).trans (by rw[P2] <;> rfl)
theorem d129:DC Try.prog 129 zf gJ:=aD v129 (aj t129 UX (by kernel_rfl))
noncomputable def Br (F80:dN):List FEnt:=[⟨80,pP,F80⟩]
theorem t137:al Try.prog (Br P80):=(aa PY (by kernel_rfl) ak)
def DH:LSh:=⟨[0,2,3,4,10],⟨j15,dr⟩,uu,1,[0]⟩
def DI:List XSh:=[⟨(.exit 0),[],⟨⟨[],dr⟩,[bc],[0],1⟩⟩,⟨.ret,[],⟨⟨[],dr⟩,[bc],[0],1⟩⟩]
noncomputable def Iv:=bU Try.prog [] Try.f137 (.s .n (.b (.l DH DI .n)))
noncomputable def DJ (T:List FEnt):=aG (xs:=DI) DH (bf T (sb [1,2,2] Iv))
noncomputable def l137_0 (T:List FEnt):=af (DJ T)
noncomputable def wH (F80:dN)(a0 a1 a2:Int)(a3:List Y1):Option Yw:=
ai (ah .i64 (2*a2)) (
ai (ah .i64 ((2*a2)+1)) (
cond (decide (a0≤((2*a2)+1))) (
some (Sum.inr (Sum.inl a3))) (
ai (ah .i64 (((2*a2)+1)+1)) (
cond (decide ((((2*a2)+1)+1) < a0)) (
ai (ah .i64 (a1+((2*a2)+1))) (
ai (aC (a1+((2*a2)+1)) a3.length) (
ai (ah .i64 (a1+((2*a2)+1))) (
ai (ah .i64 ((a1+((2*a2)+1))+1)) (
ai (aC ((a1+((2*a2)+1))+1) a3.length) (
(F80 ((ix a3 (a1+((2*a2)+1))),(ix a3 ((a1+((2*a2)+1))+1)))).bind fun r1=>(
cond (decide (r1 < 0)) (
ai (ah .i64 (((2*a2)+1)+1)) (
ai (ah .i64 (a1+a2)) (
ai (aC (a1+a2) a3.length) (
ai (ah .i64 (a1+(((2*a2)+1)+1))) (
ai (aC (a1+(((2*a2)+1)+1)) a3.length) (
(F80 ((ix a3 (a1+a2)),(ix a3 (a1+(((2*a2)+1)+1))))).bind fun r2=>(
cond (!(decide (r2 < 0))) (
some (Sum.inr (Sum.inr a3))) (
ai (ah .i64 (a1+a2)) (
ai (ah .i64 (a1+(((2*a2)+1)+1))) (
ai (ah .i64 (a1+(((2*a2)+1)+1))) (
ai (aC (a1+(((2*a2)+1)+1)) a3.length) (
ai (ah .i64 (a1+a2)) (
ai (aC (a1+a2) a3.length) (
ai (aC (a1+a2) a3.length) (
ai (aC (a1+(((2*a2)+1)+1)) (List.length (List.set a3 (Int.toNat (a1+a2)) (ix a3 (a1+(((2*a2)+1)+1)))))) (
some (Sum.inl (a0,a1,(((2*a2)+1)+1),(List.set (List.set a3 (Int.toNat (a1+a2)) (ix a3 (a1+(((2*a2)+1)+1)))) (Int.toNat (a1+(((2*a2)+1)+1))) (ix a3 (a1+a2))))))))))))))))))))) (
ai (ah .i64 (a1+a2)) (
ai (aC (a1+a2) a3.length) (
ai (ah .i64 (a1+((2*a2)+1))) (
ai (aC (a1+((2*a2)+1)) a3.length) (
(F80 ((ix a3 (a1+a2)),(ix a3 (a1+((2*a2)+1))))).bind fun r3=>(
cond (!(decide (r3 < 0))) (
some (Sum.inr (Sum.inr a3))) (
ai (ah .i64 (a1+a2)) (
ai (ah .i64 (a1+((2*a2)+1))) (
ai (ah .i64 (a1+((2*a2)+1))) (
ai (aC (a1+((2*a2)+1)) a3.length) (
ai (ah .i64 (a1+a2)) (
ai (aC (a1+a2) a3.length) (
ai (aC (a1+a2) a3.length) (
ai (aC (a1+((2*a2)+1)) (List.length (List.set a3 (Int.toNat (a1+a2)) (ix a3 (a1+((2*a2)+1)))))) (
some (Sum.inl (a0,a1,((2*a2)+1),(List.set (List.set a3 (Int.toNat (a1+a2)) (ix a3 (a1+((2*a2)+1)))) (Int.toNat (a1+((2*a2)+1))) (ix a3 (a1+a2))))))))))))))))))))))))))) (
ai (ah .i64 (a1+a2)) (
ai (aC (a1+a2) a3.length) (
ai (ah .i64 (a1+((2*a2)+1))) (
ai (aC (a1+((2*a2)+1)) a3.length) (
(F80 ((ix a3 (a1+a2)),(ix a3 (a1+((2*a2)+1))))).bind fun r4=>(
cond (!(decide (r4 < 0))) (
some (Sum.inr (Sum.inr a3))) (
ai (ah .i64 (a1+a2)) (
ai (ah .i64 (a1+((2*a2)+1))) (
ai (ah .i64 (a1+((2*a2)+1))) (
ai (aC (a1+((2*a2)+1)) a3.length) (
ai (ah .i64 (a1+a2)) (
ai (aC (a1+a2) a3.length) (
ai (aC (a1+a2) a3.length) (
ai (aC (a1+((2*a2)+1)) (List.length (List.set a3 (Int.toNat (a1+a2)) (ix a3 (a1+((2*a2)+1)))))) (
some (Sum.inl (a0,a1,((2*a2)+1),(List.set (List.set a3 (Int.toNat (a1+a2)) (ix a3 (a1+((2*a2)+1)))) (Int.toNat (a1+((2*a2)+1))) (ix a3 (a1+a2))))))))))))))))))))))))
theorem P9 (F80:dN):DJ (Br F80)=u4 (wH F80):=funext fun _=>by kernel_rfl
noncomputable def DK:=wH P80
noncomputable def wI:Yt:=af (fun x=>DK x.1 x.2.1 x.2.2.1 x.2.2.2)
theorem Qa:l137_0 (Br P80)=wI:=congrArg af (P9 P80)
theorem UZ:L.Fn Try.prog 137 82 [] (erase Iv):=Fn.ofA aM Try.func137 _ _ (by kernel_rfl)
def zg:FSh:=⟨⟨j16,dr⟩,uu,1,⟨⟨pc,dr⟩,[bc],[0],1⟩,false⟩
noncomputable def Qb (F80:dN)(l137_0:Yt)(a0 a1 a2:Int)(a3:List Y1):Option Y8:=
(l137_0 (a1,a2,a0,a3)).bind (fun y5=>Sum.elim (fun y6=>(
some y6)) (fun y7=>(
some y7)) y5)
theorem g137 (F80:dN):aO (Br F80) zg [] Iv=u4 (Qb F80 (l137_0 (Br F80))):=funext fun _=>by kernel_rfl
noncomputable def U0:=Qb P80 wI
noncomputable def kH:gu:=fun x=>U0 x.1 x.2.1 x.2.2.1 x.2.2.2
theorem v137:aO (Br P80) zg [] Iv=kH:=(g137 P80).trans (by rw[Qa] <;> rfl)
theorem d137:DC Try.prog 137 zg kH:=aD v137 (aj t137 UZ (by kernel_rfl))
noncomputable def sB (F137:gu):List FEnt:=[⟨137,zg,F137⟩]
theorem t130:al Try.prog (sB kH):=(aa d137 (by kernel_rfl) ak)
def DL:LSh:=⟨[0,3,8,9,10,11],⟨[(.slc 0),(.fn 80 []),(.v y7),(.v y7),(.v y7),(.v y7)],dr⟩,KE,1,[0]⟩
def DM:List XSh:=[⟨(.exit 0),[0,3,8,9,10],⟨⟨j17,dr⟩,uu,[0],1⟩⟩]
def DN:LSh:=⟨[0,3,8,9,12],⟨j17,dr⟩,uu,1,[0]⟩
def DO:List XSh:=[⟨(.exit 2),[],⟨⟨[],dr⟩,[bc],[0],1⟩⟩]
noncomputable def DP:=bU Try.prog [] Try.f130 (.s .n (.s .n (.s .n (.s (.s .n (.b (.l DL DM .n))) (.s .n (.b (.l DN DO .n)))))))
noncomputable def DQ (T:List FEnt):=aG (xs:=DM) DL (bf T (sb [1,1,1,0,1,2,2] DP))
noncomputable def l130_0 (T:List FEnt):=af (DQ T)
noncomputable def wJ (F137:gu)(a0 a1 a2 a3:Int)(a4:List Y1):Option RR:=
cond (decide (0≤a3)) (
(F137 (a3,a2,a0,a4)).bind fun r1=>(
ai (ah .i64 (a3-1)) (
some (Sum.inl (a0,a1,a2,(a3-1),r1))))) (
some (Sum.inr (a0,a1,a2,a4)))
theorem Qc (F137:gu):DQ (sB F137)=u5 (wJ F137):=funext fun _=>by kernel_rfl
noncomputable def DR:=wJ kH
noncomputable def wK:Jy:=af (fun x=>DR x.1 x.2.1 x.2.2.1 x.2.2.2.1 x.2.2.2.2)
theorem Qd:l130_0 (sB kH)=wK:=congrArg af (Qc kH)
noncomputable def DS (T:List FEnt):=aG (xs:=DO) DN (bf T (sb [1,1,1,1,1,2,2] DP))
noncomputable def l130_1 (T:List FEnt):=af (DS T)
noncomputable def wL (F137:gu)(a0 a1 a2:Int)(a3:List Y1):Option RS:=
cond (decide (0≤a2)) (
ai (ah .i64 (a0+a2)) (
ai (ah .i64 (a0+a2)) (
ai (aC (a0+a2) a3.length) (
ai (aC a0 a3.length) (
ai (aC a0 a3.length) (
ai (aC (a0+a2) (List.length (List.set a3 a0.toNat (ix a3 (a0+a2))))) (
(F137 (a1,a2,a0,(List.set (List.set a3 a0.toNat (ix a3 (a0+a2))) (Int.toNat (a0+a2)) (ix a3 a0)))).bind fun r3=>(
ai (ah .i64 (a2-1)) (
some (Sum.inl (a0,a1,(a2-1),r3))))))))))) (
some (Sum.inr a3))
theorem Qe (F137:gu):DS (sB F137)=u4 (wL F137):=funext fun _=>by kernel_rfl
noncomputable def DT:=wL kH
noncomputable def wM:gu:=af (fun x=>DT x.1 x.2.1 x.2.2.1 x.2.2.2)
theorem Qf:l130_1 (sB kH)=wM:=congrArg af (Qe kH)
theorem U1:L.Fn Try.prog 130 60 [] (erase DP):=Fn.ofA aM Try.func130 _ _ (by kernel_rfl)
def zh:FSh:=⟨⟨Ts,dr⟩,Ii,1,⟨⟨pc,dr⟩,[bc],[0],1⟩,false⟩
noncomputable def Qg (F137:gu)(l130_0:Jy)(l130_1:gu)(a0 a1:Int)(a2:List Y1):Option Y8:=
ai (ah .i64 (a1-a0)) (
ai (ah .i64 ((a1-a0)-1)) (
ai (ah .i64 (Int.tdiv ((a1-a0)-1) 2)) (
(l130_0 (a0,0,(a1-a0),(Int.tdiv ((a1-a0)-1) 2),a2)).bind fun y2=>(
ai (ah .i64 (y2.2.2.1-1)) (
(l130_1 (y2.1,y2.2.1,(y2.2.2.1-1),y2.2.2.2)).bind fun y4=>(
some y4))))))
theorem g130 (F137:gu):aO (sB F137) zh [] DP=u3 (Qg F137 (l130_0 (sB F137)) (l130_1 (sB F137))):=funext fun _=>by kernel_rfl
noncomputable def U2:=Qg kH wK wM
noncomputable def gK:kS:=fun x=>U2 x.1 x.2.1 x.2.2
theorem v130:aO (sB kH) zh [] DP=gK:=(g130 kH).trans (by rw[Qd,Qf] <;> rfl)
theorem d130:DC Try.prog 130 zh gK:=aD v130 (aj t130 U1 (by kernel_rfl))
noncomputable def Qh (F67:nv):List FEnt:=[⟨67,Bq,F67⟩]
theorem t114:al Try.prog (Qh P67):=(aa d67 (by kernel_rfl) ak)
noncomputable def Qi:=bU Try.prog [] Try.f114 .n
theorem U3:L.Fn Try.prog 114 7 [(.t 2)] (erase Qi):=Fn.ofA aM Try.func114 _ _ (by kernel_rfl)
def uy:FSh:=⟨⟨nr,[]⟩,[y7],0,⟨⟨[(.v iP)],[]⟩,[iP],[],0⟩,true⟩
noncomputable def Iw (F67:nv)(a0:Int):Option Int:=
ai (ah .u64 a0) (
(F67 a0).bind fun r1=>(
ai (decide (0≤r1)) (
some (gi .u64 1 r1))))
theorem g114 (F67:nv)(a0:Int):aO (Qh F67) uy [(.t 2)] Qi a0=Iw F67 a0:=by kernel_rfl
noncomputable def Qj:=Iw P67
noncomputable def gL:nv:=fun x=>Qj x
theorem v114:aO (Qh P67) uy [(.t 2)] Qi=gL:=funext fun x=>(g114 P67 x)
theorem U4:DC Try.prog 114 uy gL:=aD v114 (aj t114 U3 (by kernel_rfl))
noncomputable def Qk:List FEnt:=[]
theorem t115:al Try.prog Qk:=ak
noncomputable def Ql:=bU Try.prog [] Try.f115 .n
theorem U5:L.Fn Try.prog 115 33 [(.t 2)] (erase Ql):=Fn.ofA aM Try.func115 _ _ (by kernel_rfl)
def uz:FSh:=⟨⟨Ie,[(0,(.boxT iP))]⟩,[iP],1,⟨⟨[(.v iP)],[(0,(.boxT iP))]⟩,[iP,iP],[0],1⟩,false⟩
noncomputable def Ix (a0:Int):Option Cf:=
some ((iK .u64 (iK .u64 (iK .u64 a0 (gi .u64 a0 13)) (bI .u64 (iK .u64 a0 (gi .u64 a0 13)) 7)) (gi .u64 (iK .u64 (iK .u64 a0 (gi .u64 a0 13)) (bI .u64 (iK .u64 a0 (gi .u64 a0 13)) 7)) 17)),(iK .u64 (iK .u64 (iK .u64 a0 (gi .u64 a0 13)) (bI .u64 (iK .u64 a0 (gi .u64 a0 13)) 7)) (gi .u64 (iK .u64 (iK .u64 a0 (gi .u64 a0 13)) (bI .u64 (iK .u64 a0 (gi .u64 a0 13)) 7)) 17)))
theorem g115 (a0:Int):aO Qk uz [(.t 2)] Ql a0=Ix a0:=by kernel_rfl
noncomputable def Qm:=Ix
noncomputable def gM:Gf:=fun x=>Qm x
theorem v115:aO Qk uz [(.t 2)] Ql=gM:=funext fun x=>(g115 x)
theorem U6:DC Try.prog 115 uz gM:=aD v115 (aj t115 U5 (by kernel_rfl))
noncomputable def Bs (F114:nv)(F115:Gf):List FEnt:=[⟨114,uy,F114⟩,⟨115,uz,F115⟩]
theorem t131:al Try.prog (Bs gL gM):=(aa U4 (by kernel_rfl) (aa U6 (by kernel_rfl) ak))
def DU:LSh:=⟨[0,1,8,9,10,11],⟨j11,[(0,(.row 40 cW)),(1,(.boxT iP))]⟩,[y7,y7,iP,y7,bc,iP],2,[0,1]⟩
def DW:List XSh:=[⟨(.exit 0),[],⟨⟨[],[(0,(.row 40 cW)),(1,(.boxT iP))]⟩,[bc,iP],[0,1],2⟩⟩]
noncomputable def Iy:=bU Try.prog [] Try.f131 (.s .n (.s .n (.s (.s .n (.s .n (.s .n (.b (.l DU DW .n))))) .n)))
noncomputable def DX (T:List FEnt):=aG (xs:=DW) DU (bf T (sb [1,1,0,1,1,1,2,2] Iy))
noncomputable def l131_0 (T:List FEnt):=af (DX T)
noncomputable def sC (F114:nv)(F115:Gf)(a0 a1 a2 a3:Int)(a4:List Y1)(a5:Int):Option Yx:=
ai (ah .i64 (Int.tdiv a1 4)) (
ai (ah .i64 ((Int.tdiv a1 4)*2)) (
ai (ah .i64 (a0+((Int.tdiv a1 4)*2))) (
ai (ah .i64 ((a0+((Int.tdiv a1 4)*2))+1)) (
cond (decide (a3≤((a0+((Int.tdiv a1 4)*2))+1))) (
(F115 a5).bind fun r2=>(
ai (ah .u64 (a2-1)) (
ai (ah .i64 (bu .u64 r2.1 (a2-1))) (
cond (decide (a1≤(bu .u64 r2.1 (a2-1)))) (
ai (ah .i64 ((bu .u64 r2.1 (a2-1))-a1)) (
ai (ah .i64 (a0+((bu .u64 r2.1 (a2-1))-a1))) (
ai (ah .i64 (a0+((bu .u64 r2.1 (a2-1))-a1))) (
ai (aC (a0+((bu .u64 r2.1 (a2-1))-a1)) a4.length) (
ai (aC a3 a4.length) (
ai (aC a3 a4.length) (
ai (aC (a0+((bu .u64 r2.1 (a2-1))-a1)) (List.length (List.set a4 a3.toNat (ix a4 (a0+((bu .u64 r2.1 (a2-1))-a1)))))) (
ai (ah .i64 (a3+1)) (
some (Sum.inl (a0,a1,a2,(a3+1),(List.set (List.set a4 a3.toNat (ix a4 (a0+((bu .u64 r2.1 (a2-1))-a1)))) (Int.toNat (a0+((bu .u64 r2.1 (a2-1))-a1))) (ix a4 a3)),r2.2))))))))))) (
ai (ah .i64 (a0+(bu .u64 r2.1 (a2-1)))) (
ai (ah .i64 (a0+(bu .u64 r2.1 (a2-1)))) (
ai (aC (a0+(bu .u64 r2.1 (a2-1))) a4.length) (
ai (aC a3 a4.length) (
ai (aC a3 a4.length) (
ai (aC (a0+(bu .u64 r2.1 (a2-1))) (List.length (List.set a4 a3.toNat (ix a4 (a0+(bu .u64 r2.1 (a2-1))))))) (
ai (ah .i64 (a3+1)) (
some (Sum.inl (a0,a1,a2,(a3+1),(List.set (List.set a4 a3.toNat (ix a4 (a0+(bu .u64 r2.1 (a2-1))))) (Int.toNat (a0+(bu .u64 r2.1 (a2-1)))) (ix a4 a3)),r2.2)))))))))))))) (
some (Sum.inr (a4,a5)))))))
theorem Qn (F114:nv)(F115:Gf):DX (Bs F114 F115)=u6 (sC F114 F115):=funext fun _=>by kernel_rfl
noncomputable def wN:=sC gL gM
noncomputable def wO:Yu:=af (fun x=>wN x.1 x.2.1 x.2.2.1 x.2.2.2.1 x.2.2.2.2.1 x.2.2.2.2.2)
theorem Qo:l131_0 (Bs gL gM)=wO:=congrArg af (Qn gL gM)
theorem U7:L.Fn Try.prog 131 67 [] (erase Iy):=Fn.ofA aM Try.func131 _ _ (by kernel_rfl)
def zi:FSh:=⟨⟨Ts,dr⟩,Ii,1,⟨⟨pc,dr⟩,[bc],[0],1⟩,false⟩
noncomputable def Iz (F114:nv)(F115:Gf)(l131_0:Yu)(a0 a1:Int)(a2:List Y1):Option Y8:=
ai (ah .i64 (a1-a0)) (
cond (decide (8≤(a1-a0))) (
ai (ah .u64 (a1-a0)) (
(F114 (a1-a0)).bind fun r1=>(
ai (ah .i64 (Int.tdiv (a1-a0) 4)) (
ai (ah .i64 ((Int.tdiv (a1-a0) 4)*2)) (
ai (ah .i64 (a0+((Int.tdiv (a1-a0) 4)*2))) (
ai (ah .i64 ((a0+((Int.tdiv (a1-a0) 4)*2))-1)) (
(l131_0 (a0,(a1-a0),r1,((a0+((Int.tdiv (a1-a0) 4)*2))-1),a2,(a1-a0))).bind fun y3=>(
some y3.1)))))))) (
some a2))
theorem g131 (F114:nv)(F115:Gf):aO (Bs F114 F115) zi [] Iy=u3 (Iz F114 F115 (l131_0 (Bs F114 F115))):=funext fun _=>by kernel_rfl
noncomputable def Qp:=Iz gL gM wO
noncomputable def gk:kS:=fun x=>Qp x.1 x.2.1 x.2.2
theorem v131:aO (Bs gL gM) zi [] Iy=gk:=(g131 gL gM).trans (by rw[Qo] <;> rfl)
theorem d131:DC Try.prog 131 zi gk:=aD v131 (aj t131 U7 (by kernel_rfl))
noncomputable def Qq (F80:dN):List FEnt:=[⟨80,pP,F80⟩]
theorem t140:al Try.prog (Qq P80):=(aa PY (by kernel_rfl) ak)
noncomputable def Qr:=bU Try.prog [] Try.f140 .n
theorem U8:L.Fn Try.prog 140 32 [(.t 10),(.t 11)] (erase Qr):=Fn.ofA aM Try.func140 _ _ (by kernel_rfl)
def zj:FSh:=⟨⟨[(.slc 0),(.v y7),(.v y7),(.ptr 1 0),(.fn 80 [])],Tt⟩,[y7,y7,bc,y7],2,⟨⟨KF,Tt⟩,[y7,y7,bc,y7],[0,1],2⟩,false⟩
noncomputable def Qs (F80:dN)(a0 a1:Int)(a2:List Y1)(a3:Int):Option Y84:=
ai (aC a1 a2.length) (
ai (aC a0 a2.length) (
(F80 ((ix a2 a1),(ix a2 a0))).bind fun r1=>(
cond (decide (r1 < 0)) (
ai (ah .i64 (a3+1)) (
some (a1,a0,a2,(a3+1)))) (
some (a0,a1,a2,a3)))))
theorem g140 (F80:dN):aO (Qq F80) zj [(.t 10),(.t 11)] Qr=u4 (Qs F80):=funext fun _=>by kernel_rfl
noncomputable def U9:=Qs P80
noncomputable def pQ:Jz:=fun x=>U9 x.1 x.2.1 x.2.2.1 x.2.2.2
theorem v140:aO (Qq P80) zj [(.t 10),(.t 11)] Qr=pQ:=g140 P80
theorem d140:DC Try.prog 140 zj pQ:=aD v140 (aj t140 U8 (by kernel_rfl))
noncomputable def Qt (F140:Jz):List FEnt:=[⟨140,zj,F140⟩]
theorem t139:al Try.prog (Qt pQ):=(aa d140 (by kernel_rfl) ak)
noncomputable def Qu:=bU Try.prog [] Try.f139 .n
theorem Va:L.Fn Try.prog 139 41 [(.t 12)] (erase Qu):=Fn.ofA aM Try.func139 _ _ (by kernel_rfl)
def uA:FSh:=⟨⟨[(.slc 0),(.v y7),(.v y7),(.v y7),(.ptr 1 0),(.fn 80 [])],Tt⟩,[y7,y7,y7,bc,y7],2,⟨⟨nr,Tt⟩,[y7,bc,y7],[0,1],2⟩,false⟩
noncomputable def Qv (F140:Jz)(a0 a1 a2:Int)(a3:List Y1)(a4:Int):Option Y85:=
(F140 (a0,a1,a3,a4)).bind fun r1=>(
(F140 (r1.2.1,a2,r1.2.2.1,r1.2.2.2)).bind fun r2=>(
(F140 (r1.1,r2.1,r2.2.2.1,r2.2.2.2)).bind fun r3=>(
some (r3.2.1,r3.2.2.1,r3.2.2.2))))
theorem g139 (F140:Jz):aO (Qt F140) uA [(.t 12)] Qu=u5 (Qv F140):=funext fun _=>by kernel_rfl
noncomputable def Vb:=Qv pQ
noncomputable def mD:xI:=fun x=>Vb x.1 x.2.1 x.2.2.1 x.2.2.2.1 x.2.2.2.2
theorem v139:aO (Qt pQ) uA [(.t 12)] Qu=mD:=g139 pQ
theorem Vc:DC Try.prog 139 uA mD:=aD v139 (aj t139 Va (by kernel_rfl))
noncomputable def Qw (F139:xI):List FEnt:=[⟨139,uA,F139⟩]
theorem t138:al Try.prog (Qw mD):=(aa Vc (by kernel_rfl) ak)
noncomputable def Qx:=bU Try.prog [] Try.f138 .n
theorem Vd:L.Fn Try.prog 138 18 [(.t 8)] (erase Qx):=Fn.ofA aM Try.func138 _ _ (by kernel_rfl)
def zk:FSh:=⟨⟨[(.slc 0),(.v y7),(.ptr 1 0),(.fn 80 [])],Tt⟩,[y7,bc,y7],2,⟨⟨nr,Tt⟩,[y7,bc,y7],[0,1],2⟩,false⟩
noncomputable def Qy (F139:xI)(a0:Int)(a1:List Y1)(a2:Int):Option Y85:=
ai (ah .i64 (a0-1)) (
ai (ah .i64 (a0+1)) (
(F139 ((a0-1),a0,(a0+1),a1,a2)).bind fun r1=>(
some (r1.1,r1.2.1,r1.2.2))))
theorem g138 (F139:xI):aO (Qw F139) zk [(.t 8)] Qx=u3 (Qy F139):=funext fun _=>by kernel_rfl
noncomputable def Ve:=Qy mD
noncomputable def sD:JA:=fun x=>Ve x.1 x.2.1 x.2.2
theorem v138:aO (Qw mD) zk [(.t 8)] Qx=sD:=g138 mD
theorem d138:DC Try.prog 138 zk sD:=aD v138 (aj t138 Vd (by kernel_rfl))
noncomputable def Qz (F138:JA)(F139:xI):List FEnt:=[⟨138,zk,F138⟩,⟨139,uA,F139⟩]
theorem t132:al Try.prog (Qz sD mD):=(aa d138 (by kernel_rfl) (aa Vc (by kernel_rfl) ak))
noncomputable def QA:=bU Try.prog [] Try.f132 .n
theorem Vf:L.Fn Try.prog 132 63 [(.t 8),(.t 9)] (erase QA):=Fn.ofA aM Try.func132 _ _ (by kernel_rfl)
def zl:FSh:=⟨⟨Ts,dr⟩,Ii,1,⟨⟨KF,dr⟩,Ii,[0],1⟩,false⟩
noncomputable def QB (F138:JA)(F139:xI)(a0 a1:Int)(a2:List Y1):Option Yr:=
ai (ah .i64 (a1-a0)) (
ai (ah .i64 (Int.tdiv (a1-a0) 4)) (
ai (ah .i64 ((Int.tdiv (a1-a0) 4)*1)) (
ai (ah .i64 (a0+((Int.tdiv (a1-a0) 4)*1))) (
ai (ah .i64 (Int.tdiv (a1-a0) 4)) (
ai (ah .i64 ((Int.tdiv (a1-a0) 4)*2)) (
ai (ah .i64 (a0+((Int.tdiv (a1-a0) 4)*2))) (
ai (ah .i64 (Int.tdiv (a1-a0) 4)) (
ai (ah .i64 ((Int.tdiv (a1-a0) 4)*3)) (
ai (ah .i64 (a0+((Int.tdiv (a1-a0) 4)*3))) (
cond (decide (8≤(a1-a0))) (
cond (decide (50≤(a1-a0))) (
(F138 ((a0+((Int.tdiv (a1-a0) 4)*1)),a2,0)).bind fun r1=>(
(F138 ((a0+((Int.tdiv (a1-a0) 4)*2)),r1.2.1,r1.2.2)).bind fun r2=>(
(F138 ((a0+((Int.tdiv (a1-a0) 4)*3)),r2.2.1,r2.2.2)).bind fun r3=>(
(F139 (r1.1,r2.1,r3.1,r3.2.1,r3.2.2)).bind fun r4=>(
cond (decide (r4.2.2=0)) (
some (r4.1,1,r4.2.1)) (
cond (decide (r4.2.2=12)) (
some (r4.1,2,r4.2.1)) (
some (r4.1,0,r4.2.1)))))))) (
(F139 ((a0+((Int.tdiv (a1-a0) 4)*1)),(a0+((Int.tdiv (a1-a0) 4)*2)),(a0+((Int.tdiv (a1-a0) 4)*3)),a2,0)).bind fun r5=>(
cond (decide (r5.2.2=0)) (
some (r5.1,1,r5.2.1)) (
cond (decide (r5.2.2=12)) (
some (r5.1,2,r5.2.1)) (
some (r5.1,0,r5.2.1)))))) (
cond (decide ((0:Int)=0)) (
some ((a0+((Int.tdiv (a1-a0) 4)*2)),1,a2)) (
cond (decide ((0:Int)=12)) (
some ((a0+((Int.tdiv (a1-a0) 4)*2)),2,a2)) (
some ((a0+((Int.tdiv (a1-a0) 4)*2)),0,a2))))))))))))))
theorem g132 (F138:JA)(F139:xI):aO (Qz F138 F139) zl [(.t 8),(.t 9)] QA=u3 (QB F138 F139):=funext fun _=>by kernel_rfl
noncomputable def Vg:=QB sD mD
noncomputable def gN:nw:=fun x=>Vg x.1 x.2.1 x.2.2
theorem v132:aO (Qz sD mD) zl [(.t 8),(.t 9)] QA=gN:=g132 sD mD
theorem d132:DC Try.prog 132 zl gN:=aD v132 (aj t132 Vf (by kernel_rfl))
noncomputable def Bt:List FEnt:=[]
theorem t133:al Try.prog Bt:=ak
def DY:LSh:=⟨[0,8,9],⟨G7,dr⟩,Ii,1,[0]⟩
noncomputable def IA:=bU Try.prog [] Try.f133 (.s .n (.s .n (.b (.l DY sA .n))))
noncomputable def DZ (T:List FEnt):=aG (xs:=sA) DY (bf T (sb [1,1,2,2] IA))
noncomputable def l133_0 (T:List FEnt):=af (DZ T)
noncomputable def wP (a0 a1:Int)(a2:List Y1):Option Yy:=
cond (decide (a0 < a1)) (
ai (aC a1 a2.length) (
ai (aC a0 a2.length) (
ai (aC a0 a2.length) (
ai (aC a1 (List.length (List.set a2 a0.toNat (ix a2 a1)))) (
ai (ah .i64 (a0+1)) (
ai (ah .i64 (a1-1)) (
some (Sum.inl ((a0+1),(a1-1),(List.set (List.set a2 a0.toNat (ix a2 a1)) a1.toNat (ix a2 a0))))))))))) (
some (Sum.inr a2))
theorem QC:DZ Bt=u3 wP:=funext fun _=>by kernel_rfl
noncomputable def Ea:=wP
noncomputable def wQ:kS:=af (fun x=>Ea x.1 x.2.1 x.2.2)
theorem QD:l133_0 Bt=wQ:=congrArg af QC
theorem Vh:L.Fn Try.prog 133 34 [] (erase IA):=Fn.ofA aM Try.func133 _ _ (by kernel_rfl)
def zm:FSh:=⟨⟨Ts,dr⟩,Ii,1,⟨⟨pc,dr⟩,[bc],[0],1⟩,false⟩
noncomputable def QE (l133_0:kS)(a0 a1:Int)(a2:List Y1):Option Y8:=
ai (ah .i64 (a1-1)) (
(l133_0 (a0,(a1-1),a2)).bind fun y1=>(
some y1))
theorem g133:aO Bt zm [] IA=u3 (QE (l133_0 Bt)):=funext fun _=>by kernel_rfl
noncomputable def Vi:=QE wQ
noncomputable def gO:kS:=fun x=>Vi x.1 x.2.1 x.2.2
theorem v133:aO Bt zm [] IA=gO:=g133.trans (by rw[QD] <;> rfl)
theorem d133:DC Try.prog 133 zm gO:=aD v133 (aj t133 Vh (by kernel_rfl))
end Go.Proofs.Ytdkaijofmigmbaa.D
