import Derived.Test.YtfknkinmnecoeaaH1q
import Derived.Test.YtfknkinmnecoeaaProg
set_option linter.unusedVariables false
set_option maxRecDepth 100000
namespace Go.Proofs.Ytfknkinmnecoeaa.D
open Go Go.Proofs Go.Proofs.Ytfknkinmnecoeaa.L
def z1:List Ty:=[y3,y3,y3,y3,dB]
def z2:List Ty:=[y3,y3,y3,dB]
def z3:List Ty:=[y3,y3,dB]
def N1:List RSh:=[(.ptr 0 0),(.v y3)]
def jp:List RSh:=[(.v .bool)]
def lE:List RSh:=[(.v y3)]
def Jz:List RSh:=[(.ptr 0 0)]
def Eb:List RSh:=[(.slc 0)]
def j6:List RSh:=[(.slc 0),(.v y3),(.v y3),(.fn 79 []),(.v y3)]
def j7:List RSh:=[(.slc 0),(.v y3),(.v y3),(.v y3),(.fn 79 [])]
def j8:List RSh:=[(.slc 0),(.v y3),(.fn 79 []),(.v y3),(.v y3)]
def SF:List RSh:=[(.slc 0),(.v y3),(.fn 79 []),(.v y3)]
def N2:List RSh:=[(.slc 0),(.v y3),(.v y3)]
def j2:List RSh:=[(.slc 0),(.v y3),(.v y3),(.v y3),(.fn 79 []),(.v y3),(.v y3),(.v y3)]
def rk:List (Nat×OSh):=[(0,(.boxT bx))]
def Iq:List (Nat×OSh):=[(0,(.boxT dE))]
def k9:List (Nat×OSh):=[(0,(.row 45 ej))]
noncomputable def JA:List FEnt:=[]
theorem Ud:aq Try.prog JA:=ai
def ul:LSh:=⟨[1,3],⟨N1,rk⟩,[y3,bx],1,[0]⟩
def Ec:List XSh:=[⟨.ret,[2],⟨⟨jp,rk⟩,[.bool,bx],[0],1⟩⟩,⟨(.exit 0),[],⟨⟨[],rk⟩,[bx],[0],1⟩⟩]
noncomputable def N3:=cN Try.prog [] Try.f23 (.s .n (.s .n (.s (.s .n (.b (.l ul Ec .n))) .n)))
noncomputable def Ed (T:List FEnt):=aI (xs:=Ec) ul (bG T (sb [1,1,0,1,2,2] N3))
noncomputable def l23_0 (T:List FEnt):=af (Ed T)
noncomputable def um (a0:Int)(a1:bg):Option TZ:=
cond (decide (a0 < (↑a1.2.1.length:Int))) (
an (aZ a0 a1.2.1.length) (
cond (decide (30 < (↑(List.length ((ix a1.2.1 a0).2.2.2.1)):Int))) (
some (Sum.inr (Sum.inl (true,a1)))) (
an (aZ a0 a1.2.1.length) (
cond (decide (30 < (↑(List.length ((ix a1.2.1 a0).2.2.2.2.1)):Int))) (
some (Sum.inr (Sum.inl (true,a1)))) (
an (ah .i64 (a0+1)) (
some (Sum.inl ((a0+1),a1)))))))) (
some (Sum.inr (Sum.inr a1)))
theorem Kr:Ed JA=u2 um:=funext fun _=>by kernel_rfl
noncomputable def yL:=um
noncomputable def yM:OP:=af (u2 yL)
theorem v23_0:l23_0 JA=yM:=congrArg af Kr
theorem Pa:L.Fn Try.prog 23 39 [(.t 2)] (erase N3):=oA Try.func23
def yN:FSh:=⟨⟨[(.st bx)],[]⟩,[bx],0,⟨⟨jp,[]⟩,[.bool],[],0⟩,true⟩
noncomputable def Pb (l23_0:OP)(a0:bg):Option Bool:=
cond (decide (20 < (↑a0.2.1.length:Int))) (
some true) (
cond (decide (60 < (↑a0.2.2.length:Int))) (
some true) (
(l23_0 (0,a0)).bind (fun y1=>Sum.elim (fun y2=>(
some y2.1)) (fun y3=>(
some false)) y1)))
theorem g23 (a0:bg):aX JA yN [(.t 2)] N3 a0=Pb (l23_0 JA) a0:=by kernel_rfl
noncomputable def SG:=Pb yM
noncomputable def jY:rC:=fun x=>SG x
theorem Ue:aX JA yN [(.t 2)] N3=jY:=funext fun x=>(g23 x).trans (by rw[v23_0] <;> rfl)
theorem SH:DC Try.prog 23 yN jY:=dD Ue Ud Pa
noncomputable def Pc:List FEnt:=[]
theorem Uf:aq Try.prog Pc:=ai
noncomputable def Pd:=cN Try.prog [] Try.f38 (.s .n (.s (.r [.a 0 false y3,.a 2 true y6,.f 4 1 [],.f 4 3 [],.a 4 true dE,.a 10 true ej]) .n))
theorem Pe:L.Fn Try.prog 38 13 [(.cell 0 true 3)] (erase Pd):=oA Try.func38
def Cs:FSh:=⟨⟨[],[]⟩,[],0,⟨⟨[(.agg [(.v y3),(.slc 0),(.slc 1)])],[(0,(.row 33 dE)),(1,(.row 45 ej))]⟩,[y3,eP,dB],[],2⟩,false⟩
noncomputable def SI:Option bg:=
some (100,([(5,(10,(12,(([600,500]:List Int),(([(20000,700)]:List Y2),(8000,(900,(3000,40000))))))))]:List Y7),([(1,(1,(5,(10,(0,20000))))),(2,(1,(5,(10,(1,10000))))),(3,(1,(5,(11,(0,5000))))),(4,(1,(5,(11,(0,4000))))),(5,(2,(5,(12,(0,10001)))))]:List cH))
theorem g38:aX Pc Cs [(.cell 0 true 3)] Pd ()=SI:=by kernel_rfl
noncomputable def Ug:Option bg:=SI
noncomputable def P38:ON:=fun x=>Ug
theorem Uh:aX Pc Cs [(.cell 0 true 3)] Pd=P38:=funext fun x=>(g38)
theorem Ui:DC Try.prog 38 Cs P38:=dD Uh Uf Pe
noncomputable def Pf:List FEnt:=[]
theorem Uj:aq Try.prog Pf:=ai
noncomputable def Pg:=cN Try.prog [] Try.f40 .n
theorem Ph:L.Fn Try.prog 40 15 [(.t 6)] (erase Pg):=oA Try.func40
def nl:FSh:=⟨⟨[(.v y3),(.v y3),(.v y3)],[]⟩,[y3,y3,y3],0,⟨⟨jp,[]⟩,[.bool],[],0⟩,true⟩
noncomputable def SJ (a0 a1 a2:Int):Option Bool:=
cond (decide (a1≤a0)) (
some (decide (a0≤a2))) (
some false)
theorem Uk:aX Pf nl [(.t 6)] Pg=u3 SJ:=funext fun _=>by kernel_rfl
noncomputable def Ul:=SJ
noncomputable def P40:cS:=u3 Ul
theorem Um:aX Pf nl [(.t 6)] Pg=P40:=Uk
theorem Ee:DC Try.prog 40 nl P40:=dD Um Uj Ph
noncomputable def Pj:List FEnt:=[]
theorem Un:aq Try.prog Pj:=ai
noncomputable def Pk:=cN Try.prog [] Try.f69 .n
theorem Pl:L.Fn Try.prog 69 8 [(.t 3)] (erase Pk):=oA Try.func69
def Ct:FSh:=⟨⟨[(.st dE),(.elm y3)],[]⟩,[dE,y3],0,⟨⟨jp,[]⟩,[.bool],[],0⟩,true⟩
noncomputable def Pm (a0:Y7)(a1:Int):Option Bool:=
some (decide (a0.1=a1))
theorem Uo:aX Pj Ct [(.t 3)] Pk=u2 Pm:=funext fun _=>by kernel_rfl
noncomputable def SK:=Pm
noncomputable def Bj:JX:=u2 SK
theorem Up:aX Pj Ct [(.t 3)] Pk=Bj:=Uo
theorem Uq:DC Try.prog 69 Ct Bj:=dD Up Un Pl
noncomputable def JB (F69:JX):List FEnt:=[⟨69,Ct,F69⟩]
theorem Ur:aq Try.prog (JB Bj):=dK ai Uq
def Ef:LSh:=⟨[0,1,7,8],⟨[(.v eP),(.fn 69 [(.elm y3)]),(.v y3),(.v y3)],[]⟩,[eP,y3,y3,y3],0,[]⟩
def oX:List XSh:=[⟨.ret,[4],⟨⟨lE,[]⟩,[y3],[],0⟩⟩,⟨(.exit 0),[],⟨⟨[],[]⟩,[],[],0⟩⟩]
noncomputable def N4:=cN Try.prog [] Try.f68 (.s .n (.s (.s .n (.b (.l Ef oX .n))) .n))
noncomputable def Eg (T:List FEnt):=aI (xs:=oX) Ef (bG T (sb [1,0,1,2,2] N4))
noncomputable def l68_0 (T:List FEnt):=af (Eg T)
noncomputable def un (F69:JX)(a0:List Y7)(a1 a2 a3:Int):Option ((dc×Int×Int×Int)⊕JV):=
cond (decide (a3 < a2)) (
an (aZ a3 a0.length) (
(F69 ((ix a0 a3),a1)).bind fun r1=>(
cond r1 (
some (Sum.inr (Sum.inl a3))) (
an (ah .i64 (a3+1)) (
some (Sum.inl (a0,a1,a2,(a3+1)))))))) (
some (Sum.inr (Sum.inr ())))
theorem Ks (F69:JX):Eg (JB F69)=u4 (un F69):=funext fun _=>by kernel_rfl
noncomputable def uo:=un Bj
noncomputable def up:TX:=af (u4 uo)
theorem Kt:l68_0 (JB Bj)=up:=congrArg af (Ks Bj)
theorem Pn:L.Fn Try.prog 68 19 [(.t 4)] (erase N4):=oA Try.func68
def Cu:FSh:=⟨⟨[(.v eP),(.fn 69 [(.elm y3)])],[]⟩,[eP,y3],0,⟨⟨lE,[]⟩,[y3],[],0⟩,true⟩
noncomputable def N5 (F69:JX)(l68_0:TX)(a0:List Y7)(a1:Int):Option Int:=
(l68_0 (a0,a1,(↑a0.length:Int),0)).bind (fun y2=>Sum.elim (fun y3=>(
some y3)) (fun y4=>(
some (-1))) y2)
theorem Us (F69:JX):aX (JB F69) Cu [(.t 4)] N4=u2 (N5 F69 (l68_0 (JB F69))):=funext fun _=>by kernel_rfl
noncomputable def Po:=N5 Bj up
noncomputable def Bl:OM:=u2 Po
theorem Ut:aX (JB Bj) Cu [(.t 4)] N4=Bl:=(Us Bj).trans (by rw[Kt] <;> rfl)
theorem Uu:DC Try.prog 68 Cu Bl:=dD Ut Ur Pn
noncomputable def Pp (F68:OM):List FEnt:=[⟨68,Cu,F68⟩]
theorem Uv:aq Try.prog (Pp Bl):=dK ai Uu
noncomputable def Pq:=cN Try.prog [] Try.f47 .n
theorem Pr:L.Fn Try.prog 47 19 [(.cell 4 true 9),(.t 5)] (erase Pq):=oA Try.func47
def rl:FSh:=⟨⟨[(.st bx),(.v y3)],[]⟩,[bx,y3],0,⟨⟨[(.tup [(.st dE),(.v .bool)])],[]⟩,[dE,.bool],[],0⟩,false⟩
noncomputable def N6 (F68:OM)(a0:bg)(a1:Int):Option Sa:=
(F68 (a0.2.1,a1)).bind fun r1=>(
cond (decide (r1 < 0)) (
some ((0,(0,(0,(([]:List Int),(([]:List Y2),(0,(0,(0,0)))))))),false)) (
an (aZ r1 a0.2.1.length) (
some ((ix a0.2.1 r1),true))))
theorem Uw (F68:OM):aX (Pp F68) rl [(.cell 4 true 9),(.t 5)] Pq=u2 (N6 F68):=funext fun _=>by kernel_rfl
noncomputable def Ps:=N6 Bl
noncomputable def P47:fh:=u2 Ps
theorem Ux:aX (Pp Bl) rl [(.cell 4 true 9),(.t 5)] Pq=P47:=Uw Bl
theorem Ku:DC Try.prog 47 rl P47:=dD Ux Uv Pr
noncomputable def Pt (F40:cS):List FEnt:=[⟨40,nl,F40⟩]
theorem Uy:aq Try.prog (Pt P40):=dK ai Ee
noncomputable def Pu:=cN Try.prog [] Try.f46 .n
theorem Pv:L.Fn Try.prog 46 5 [(.t 2)] (erase Pu):=oA Try.func46
def wP:FSh:=⟨⟨lE,[]⟩,[y3],0,⟨⟨jp,[]⟩,[.bool],[],0⟩,true⟩
noncomputable def Pw (F40:cS)(a0:Int):Option Bool:=
(F40 (a0,0,10000000)).bind fun r1=>(
some r1)
theorem g46 (F40:cS)(a0:Int):aX (Pt F40) wP [(.t 2)] Pu a0=Pw F40 a0:=by kernel_rfl
noncomputable def SL:=Pw P40
noncomputable def P46:lF:=fun x=>SL x
theorem Uz:aX (Pt P40) wP [(.t 2)] Pu=P46:=funext fun x=>(g46 P40 x)
theorem Px:DC Try.prog 46 wP P46:=dD Uz Uy Pv
noncomputable def Py (F40:cS):List FEnt:=[⟨40,nl,F40⟩]
theorem UA:aq Try.prog (Py P40):=dK ai Ee
noncomputable def Pz:=cN Try.prog [] Try.f70 .n
theorem PA:L.Fn Try.prog 70 5 [(.t 2)] (erase Pz):=oA Try.func70
def yO:FSh:=⟨⟨lE,[]⟩,[y3],0,⟨⟨jp,[]⟩,[.bool],[],0⟩,true⟩
noncomputable def PB (F40:cS)(a0:Int):Option Bool:=
(F40 (a0,0,1000)).bind fun r1=>(
some r1)
theorem g70 (F40:cS)(a0:Int):aX (Py F40) yO [(.t 2)] Pz a0=PB F40 a0:=by kernel_rfl
noncomputable def SM:=PB P40
noncomputable def P70:lF:=fun x=>SM x
theorem UB:aX (Py P40) yO [(.t 2)] Pz=P70:=funext fun x=>(g70 P40 x)
theorem SN:DC Try.prog 70 yO P70:=dD UB UA PA
noncomputable def PC (F70:lF):List FEnt:=[⟨70,yO,F70⟩]
theorem UC:aq Try.prog (PC P70):=dK ai SN
noncomputable def PD:=cN Try.prog [] Try.f72 .n
theorem PE:L.Fn Try.prog 72 6 [(.t 2)] (erase PD):=oA Try.func72
def Cv:FSh:=⟨⟨lE,[]⟩,[y3],0,⟨⟨jp,[]⟩,[.bool],[],0⟩,true⟩
noncomputable def PF (F70:lF)(a0:Int):Option Bool:=
(F70 a0).bind fun r1=>(
some (!r1))
theorem g72 (F70:lF)(a0:Int):aX (PC F70) Cv [(.t 2)] PD a0=PF F70 a0:=by kernel_rfl
noncomputable def SO:=PF P70
noncomputable def P72:lF:=fun x=>SO x
theorem UD:aX (PC P70) Cv [(.t 2)] PD=P72:=funext fun x=>(g72 P70 x)
theorem UE:DC Try.prog 72 Cv P72:=dD UD UC PE
noncomputable def JC (F72:lF):List FEnt:=[⟨72,Cv,F72⟩]
theorem UF:aq Try.prog (JC P72):=dK ai UE
def Eh:LSh:=⟨[0,1,7,8],⟨[(.v y5),(.fn 72 []),(.v y3),(.v y3)],[]⟩,[y5,y3,y3],0,[]⟩
noncomputable def N7:=cN Try.prog [] Try.f85 (.s .n (.s (.s .n (.b (.l Eh oX .n))) .n))
noncomputable def Ei (T:List FEnt):=aI (xs:=oX) Eh (bG T (sb [1,0,1,2,2] N7))
noncomputable def l85_0 (T:List FEnt):=af (Ei T)
noncomputable def uq (F72:lF)(a0:List Int)(a1 a2:Int):Option ((Y1×Int×Int)⊕JV):=
cond (decide (a2 < a1)) (
an (aZ a2 a0.length) (
(F72 (ix a0 a2)).bind fun r1=>(
cond r1 (
some (Sum.inr (Sum.inl a2))) (
an (ah .i64 (a2+1)) (
some (Sum.inl (a0,a1,(a2+1)))))))) (
some (Sum.inr (Sum.inr ())))
theorem Kv (F72:lF):Ei (JC F72)=u3 (uq F72):=funext fun _=>by kernel_rfl
noncomputable def ur:=uq P72
noncomputable def ut:TP:=af (u3 ur)
theorem v85_0:l85_0 (JC P72)=ut:=congrArg af (Kv P72)
theorem PG:L.Fn Try.prog 85 19 [(.t 4)] (erase N7):=oA Try.func85
def Cw:FSh:=⟨⟨[(.v y5),(.fn 72 [])],[]⟩,[y5],0,⟨⟨lE,[]⟩,[y3],[],0⟩,true⟩
noncomputable def N8 (F72:lF)(l85_0:TP)(a0:List Int):Option Int:=
(l85_0 (a0,(↑a0.length:Int),0)).bind (fun y2=>Sum.elim (fun y3=>(
some y3)) (fun y4=>(
some (-1))) y2)
theorem g85 (F72:lF)(a0:List Int):aX (JC F72) Cw [(.t 4)] N7 a0=N8 F72 (l85_0 (JC F72)) a0:=by kernel_rfl
noncomputable def PH:=N8 P72 ut
noncomputable def P85:OI:=fun x=>PH x
theorem UG:aX (JC P72) Cw [(.t 4)] N7=P85:=funext fun x=>(g85 P72 x).trans (by rw[v85_0] <;> rfl)
theorem UH:DC Try.prog 85 Cw P85:=dD UG UF PG
noncomputable def PI (F85:OI):List FEnt:=[⟨85,Cw,F85⟩]
theorem UI:aq Try.prog (PI P85):=dK ai UH
noncomputable def PJ:=cN Try.prog [] Try.f71 .n
theorem PK:L.Fn Try.prog 71 9 [(.t 4)] (erase PJ):=oA Try.func71
def Cx:FSh:=⟨⟨[(.v y5),(.fn 72 [])],[]⟩,[y5],0,⟨⟨jp,[]⟩,[.bool],[],0⟩,true⟩
noncomputable def N9 (F85:OI)(a0:List Int):Option Bool:=
(F85 a0).bind fun r1=>(
some (decide (0≤r1)))
theorem g71 (F85:OI)(a0:List Int):aX (PI F85) Cx [(.t 4)] PJ a0=N9 F85 a0:=by kernel_rfl
noncomputable def PL:=N9 P85
noncomputable def P71:JW:=fun x=>PL x
theorem UJ:aX (PI P85) Cx [(.t 4)] PJ=P71:=funext fun x=>(g71 P85 x)
theorem UK:DC Try.prog 71 Cx P71:=dD UJ UI PK
noncomputable def JD (F46:lF)(F70:lF)(F40:cS)(F71:JW):List FEnt:=[⟨46,wP,F46⟩,⟨70,yO,F70⟩,⟨40,nl,F40⟩,⟨71,Cx,F71⟩]
theorem UL:aq Try.prog (JD P46 P70 P40 P71):=dK (dK (dK (dK ai UK) Ee) SN) Px
def Ej:LSh:=⟨[1,8,9,10],⟨[(.ptr 0 0),(.v y8),(.v y3),(.v y3)],Iq⟩,[y8,y3,y3,dE],1,[0]⟩
def uu:List XSh:=[⟨.ret,[2],⟨⟨jp,Iq⟩,[.bool,dE],[0],1⟩⟩,⟨(.exit 0),[1],⟨⟨Jz,Iq⟩,[dE],[0],1⟩⟩]
noncomputable def Oa:=cN Try.prog [] Try.f50 (.s .n (.s (.s .n (.b (.l Ej uu .n))) .n))
noncomputable def Ek (T:List FEnt):=aI (xs:=uu) Ej (bG T (sb [1,0,1,2,2] Oa))
noncomputable def l50_0 (T:List FEnt):=af (Ek T)
noncomputable def uv (F46 F70:lF)(F40:cS)(F71:JW)(a0:List Y2)(a1 a2:Int)(a3:Y7):Option ((Y4×Int×Int×Int×Int×Int×Y1×Y4×Int×Int×Int×Int)⊕OL):=
cond (decide (a2 < a1)) (
an (aZ a2 a0.length) (
(F46 ((ix a0 a2).1)).bind fun r1=>(
cond (!r1) (
some (Sum.inr (Sum.inl (false,a3)))) (
(F70 ((ix a0 a2).2)).bind fun r2=>(
cond (!r2) (
some (Sum.inr (Sum.inl (false,a3)))) (
cond (decide (0 < a2)) (
an (ah .i64 (a2-1)) (
an (aZ (a2-1) a3.2.2.2.2.1.length) (
cond (decide ((ix a0 a2).1≤(ix a3.2.2.2.2.1 (a2-1)).1)) (
some (Sum.inr (Sum.inl (false,a3)))) (
an (ah .i64 (a2+1)) (
some (Sum.inl (a0,a1,(a2+1),a3))))))) (
an (ah .i64 (a2+1)) (
some (Sum.inl (a0,a1,(a2+1),a3)))))))))) (
some (Sum.inr (Sum.inr a3)))
theorem Kw (F46 F70:lF)(F40:cS)(F71:JW):Ek (JD F46 F70 F40 F71)=u4 (uv F46 F70 F40 F71):=funext fun _=>by kernel_rfl
noncomputable def yP:=uv P46 P70 P40 P71
noncomputable def yQ:TY:=af (u4 yP)
theorem v50_0:l50_0 (JD P46 P70 P40 P71)=yQ:=congrArg af (Kw P46 P70 P40 P71)
theorem PM:L.Fn Try.prog 50 102 [(.t 2)] (erase Oa):=oA Try.func50
def Cy:FSh:=⟨⟨[(.st dE)],[]⟩,[dE],0,⟨⟨jp,[]⟩,[.bool],[],0⟩,true⟩
noncomputable def PN (F46 F70:lF)(F40:cS)(F71:JW)(l50_0:TY)(a0:Y7):Option Bool:=
(l50_0 (a0.2.2.2.2.1,(↑a0.2.2.2.2.1.length:Int),0,a0)).bind (fun y3=>Sum.elim (fun y4=>(
some y4.1)) (fun y5=>(
(F40 ((↑y5.2.2.2.1.length:Int),1,6)).bind fun r6=>(
cond r6 (
(F71 y5.2.2.2.1).bind fun r7=>(
cond (decide (y5.2.1≤y5.2.2.1)) (
(F40 (y5.2.1,0,99)).bind fun r8=>(
cond r8 (
(F40 (y5.2.2.1,0,99)).bind fun r9=>(
cond (!r7) (
cond r9 (
(F40 (y5.1,0,99)).bind fun r10=>(
cond r10 (
cond (decide ((↑y5.2.2.2.2.1.length:Int)≤4)) (
(F46 y5.2.2.2.2.2.1).bind fun r11=>(
cond r11 (
(F46 y5.2.2.2.2.2.2.2.1).bind fun r12=>(
cond r12 (
(F70 y5.2.2.2.2.2.2.1).bind fun r13=>(
cond r13 (
(F40 (y5.2.2.2.2.2.2.2.2,0,100000000)).bind fun r14=>(
some r14)) (
some false))) (
some false))) (
some false))) (
some false)) (
some false))) (
some false)) (
some false))) (
cond (!r7) (
some false) (
some false)))) (
cond (!r7) (
some false) (
some false)))) (
cond (decide (y5.2.1≤y5.2.2.1)) (
(F40 (y5.2.1,0,99)).bind fun r15=>(
cond r15 (
(F40 (y5.2.2.1,0,99)).bind fun r16=>(
some false)) (
some false))) (
some false))))) y3)
theorem g50 (F46 F70:lF)(F40:cS)(F71:JW)(a0:Y7):aX (JD F46 F70 F40 F71) Cy [(.t 2)] Oa a0=PN F46 F70 F40 F71 (l50_0 (JD F46 F70 F40 F71)) a0:=by kernel_rfl
noncomputable def SP:=PN P46 P70 P40 P71 yQ
noncomputable def P50:vO:=fun x=>SP x
theorem UM:aX (JD P46 P70 P40 P71) Cy [(.t 2)] Oa=P50:=funext fun x=>(g50 P46 P70 P40 P71 x).trans (by rw[v50_0] <;> rfl)
theorem UN:DC Try.prog 50 Cy P50:=dD UM UL PM
noncomputable def PO:List FEnt:=[]
theorem UO:aq Try.prog PO:=ai
noncomputable def PP:=cN Try.prog [] Try.f77 (.s .n (.s .n (.s (.r [.a 0 true ej,.a 2 true ej]) .n)))
theorem PQ:L.Fn Try.prog 77 8 [(.t 2)] (erase PP):=oA Try.func77
def Cz:FSh:=⟨⟨[(.v dB)],[]⟩,[dB],0,⟨⟨Eb,k9⟩,[dB],[],1⟩,true⟩
noncomputable def PR (a0:List cH):Option cA:=
B1 (decide (List.length a0=0)) (
some ([]:List cH)) (
an (bD 48 (List.length ([]:List cH)+List.length a0)) (
some (([]:List cH)++a0)))
theorem g77 (a0:List cH):aX PO Cz [(.t 2)] PP a0=PR a0:=by kernel_rfl
noncomputable def SQ:=PR
noncomputable def P77:Bo:=fun x=>SQ x
theorem UP:aX PO Cz [(.t 2)] PP=P77:=funext fun x=>(g77 x)
theorem UQ:DC Try.prog 77 Cz P77:=dD UP UO PQ
noncomputable def PS:List FEnt:=[]
theorem UR:aq Try.prog PS:=ai
noncomputable def PU:=cN Try.prog [(1,{ch:=[0,0,0,0,1,0] })] Try.f79 .n
theorem PV:L.Fn Try.prog 79 10 [(.t 4)] (erase PU):=oA Try.func79
def yR:FSh:=⟨⟨[(.st ej),(.st ej)],[]⟩,[ej,ej],0,⟨⟨lE,[]⟩,[y3],[],0⟩,true⟩
noncomputable def SR (a0 a1:cH):Option Int:=
some (IntKind.wrap .i64 (a0.1-a1.1))
theorem US:aX PS yR [(.t 4)] PU=u2 SR:=funext fun _=>by kernel_rfl
noncomputable def UT:=SR
noncomputable def P79:lG:=u2 UT
theorem UU:aX PS yR [(.t 4)] PU=P79:=US
theorem SS:DC Try.prog 79 yR P79:=dD UU UR PV
noncomputable def CA (F79:lG):List FEnt:=[⟨79,yR,F79⟩]
theorem UV:aq Try.prog (CA P79):=dK ai SS
def El:LSh:=⟨[0,1,2,3,8,9],⟨[(.slc 0),(.v y3),(.v y3),(.fn 79 []),(.v y3),(.v y3)],k9⟩,z1,1,[0]⟩
def Em:List XSh:=[⟨(.exit 2),[0,1,2,3,8],⟨⟨j6,k9⟩,z2,[0],1⟩⟩]
def En:LSh:=⟨[0,1,2,3,8],⟨j6,k9⟩,z2,1,[0]⟩
def uw:List XSh:=[⟨(.exit 0),[],⟨⟨[],k9⟩,[dB],[0],1⟩⟩]
noncomputable def Kx:=cN Try.prog [] Try.f91 (.s .n (.b (.l En uw (.s .n (.s (.b (.s .n (.b (.l El Em .n)))) .n)))))
noncomputable def Eo (T:List FEnt):=aI (xs:=Em) El (bG T (sb [1,2,2,1,0,2,1,2,2] Kx))
noncomputable def l91_1 (T:List FEnt):=af (Eo T)
noncomputable def yS (F79:lG)(a0 a1 a2 a3:Int)(a4:List cH):Option Sb:=
cond (decide (a0 < a3)) (
an (aZ a3 a4.length) (
an (ah .i64 (a3-1)) (
an (aZ (a3-1) a4.length) (
(F79 ((ix a4 a3),(ix a4 (a3-1)))).bind fun r1=>(
cond (decide (r1 < 0)) (
an (ah .i64 (a3-1)) (
an (ah .i64 (a3-1)) (
an (aZ (a3-1) a4.length) (
an (aZ a3 a4.length) (
an (aZ a3 a4.length) (
an (aZ (a3-1) (List.length (List.set a4 a3.toNat (ix a4 (a3-1))))) (
an (ah .i64 (a3-1)) (
some (Sum.inl (a0,a1,a2,(a3-1),(List.set (List.set a4 a3.toNat (ix a4 (a3-1))) (Int.toNat (a3-1)) (ix a4 a3)))))))))))) (
some (Sum.inr (a0,a1,a2,a4)))))))) (
some (Sum.inr (a0,a1,a2,a4)))
theorem Ky (F79:lG):Eo (CA F79)=u5 (yS F79):=funext fun _=>by kernel_rfl
noncomputable def Ep:=yS P79
noncomputable def yT:JY:=af (u5 Ep)
theorem Kz:l91_1 (CA P79)=yT:=congrArg af (Ky P79)
noncomputable def Er (T:List FEnt):=aI (xs:=uw) En (bG T (sb [1,2,2] Kx))
noncomputable def l91_0 (T:List FEnt):=af (Er T)
noncomputable def ux (F79:lG)(l91_1:JY)(a0 a1 a2:Int)(a3:List cH):Option (OJ⊕cA):=
cond (decide (a2 < a1)) (
(l91_1 (a0,a1,a2,a2,a3)).bind fun y2=>(
an (ah .i64 (y2.2.2.1+1)) (
some (Sum.inl (y2.1,y2.2.1,(y2.2.2.1+1),y2.2.2.2))))) (
some (Sum.inr a3))
theorem KA (F79:lG):Er (CA F79)=u4 (ux F79 (l91_1 (CA F79))):=funext fun _=>by kernel_rfl
noncomputable def yU:=ux P79 yT
noncomputable def yV:de:=af (u4 yU)
theorem KB:l91_0 (CA P79)=yV:=congrArg af ((KA P79).trans (by rw[Kz] <;> rfl))
theorem PW:L.Fn Try.prog 91 53 [] (erase Kx):=oA Try.func91
def CB:FSh:=⟨⟨[(.slc 0),(.v y3),(.v y3),(.fn 79 [])],k9⟩,z3,1,⟨⟨Bi,k9⟩,[dB],[0],1⟩,false⟩
noncomputable def PX (F79:lG)(l91_0:de)(a0 a1:Int)(a2:List cH):Option cA:=
an (ah .i64 (a0+1)) (
(l91_0 (a0,a1,(a0+1),a2)).bind fun y3=>(
some y3))
theorem UW (F79:lG):aX (CA F79) CB [] Kx=u3 (PX F79 (l91_0 (CA F79))):=funext fun _=>by kernel_rfl
noncomputable def ST:=PX P79 yV
noncomputable def rm:si:=u3 ST
theorem UX:aX (CA P79) CB [] Kx=rm:=(UW P79).trans (by rw[KB] <;> rfl)
theorem UY:DC Try.prog 91 CB rm:=dD UX UV PW
noncomputable def wQ:List FEnt:=[]
theorem PY:aq Try.prog wQ:=ai
def yW:LSh:=⟨[0,1,2,3,10],⟨[(.slc 0),(.v y3),(.v y3),(.v y3),(.v y3)],k9⟩,z1,1,[0]⟩
noncomputable def CC:=cN Try.prog [] Try.f109 (.s .n (.b (.l yW uw .n)))
noncomputable def yX (T:List FEnt):=aI (xs:=uw) yW (bG T (sb [1,2,2] CC))
noncomputable def l109_0 (T:List FEnt):=af (yX T)
noncomputable def pW (a0 a1 a2 a3:Int)(a4:List cH):Option (R9⊕cA):=
cond (decide (a3 < a2)) (
an (ah .i64 (a0+a3)) (
an (ah .i64 (a1+a3)) (
an (ah .i64 (a1+a3)) (
an (aZ (a1+a3) a4.length) (
an (ah .i64 (a0+a3)) (
an (aZ (a0+a3) a4.length) (
an (aZ (a0+a3) a4.length) (
an (aZ (a1+a3) (List.length (List.set a4 (Int.toNat (a0+a3)) (ix a4 (a1+a3))))) (
an (ah .i64 (a3+1)) (
some (Sum.inl (a0,a1,a2,(a3+1),(List.set (List.set a4 (Int.toNat (a0+a3)) (ix a4 (a1+a3))) (Int.toNat (a1+a3)) (ix a4 (a0+a3))))))))))))))) (
some (Sum.inr a4))
theorem Ir:yX wQ=u5 pW:=funext fun _=>by kernel_rfl
noncomputable def te:=pW
noncomputable def tf:TQ:=af (u5 te)
theorem Is:l109_0 wQ=tf:=congrArg af Ir
theorem KC:L.Fn Try.prog 109 38 [] (erase CC):=oA Try.func109
def uy:FSh:=⟨⟨j7,k9⟩,z2,1,⟨⟨Bi,k9⟩,[dB],[0],1⟩,false⟩
noncomputable def It (l109_0:TQ)(a0 a1 a2:Int)(a3:List cH):Option cA:=
(l109_0 (a0,a1,a2,0,a3)).bind fun y1=>(
some y1)
theorem g109:aX wQ uy [] CC=u4 (It (l109_0 wQ)):=funext fun _=>by kernel_rfl
noncomputable def KD:=It tf
noncomputable def np:de:=u4 KD
theorem PZ:aX wQ uy [] CC=np:=g109.trans (by rw[Is] <;> rfl)
theorem P0:DC Try.prog 109 uy np:=dD PZ PY KC
noncomputable def wR (F109:de):List FEnt:=[⟨109,uy,F109⟩]
theorem P1:aq Try.prog (wR np):=dK ai P0
def yY:LSh:=⟨[0,2,4,10,11],⟨j8,k9⟩,z2,1,[0]⟩
def yZ:List XSh:=[⟨(.exit 0),[0,2,4,10],⟨⟨SF,k9⟩,z3,[0],1⟩⟩]
noncomputable def CD:=cN Try.prog [] Try.f103 (.s .n (.s .n (.s (.b (.l yY yZ .n)) .n)))
noncomputable def za (T:List FEnt):=aI (xs:=yZ) yY (bG T (sb [1,1,0,2,2] CD))
noncomputable def l103_0 (T:List FEnt):=af (za T)
noncomputable def nq (F109:de)(a0 a1 a2:Int)(a3:List cH):Option Sc:=
cond (!decide (a1=a2)) (
cond (decide (a2 < a1)) (
an (ah .i64 (a0-a1)) (
(F109 ((a0-a1),a0,a2,a3)).bind fun r1=>(
an (ah .i64 (a1-a2)) (
some (Sum.inl (a0,(a1-a2),a2,r1)))))) (
an (ah .i64 (a0-a1)) (
an (ah .i64 (a0+a2)) (
an (ah .i64 ((a0+a2)-a1)) (
(F109 ((a0-a1),((a0+a2)-a1),a1,a3)).bind fun r2=>(
an (ah .i64 (a2-a1)) (
some (Sum.inl (a0,a1,(a2-a1),r2))))))))) (
some (Sum.inr (a0,a1,a3)))
theorem Iu (F109:de):za (wR F109)=u4 (nq F109):=funext fun _=>by kernel_rfl
noncomputable def pX:=nq np
noncomputable def tg:JZ:=af (u4 pX)
theorem Iv:l103_0 (wR np)=tg:=congrArg af (Iu np)
theorem KE:L.Fn Try.prog 103 58 [] (erase CD):=oA Try.func103
def uz:FSh:=⟨⟨j7,k9⟩,z2,1,⟨⟨Bi,k9⟩,[dB],[0],1⟩,false⟩
noncomputable def Iw (F109:de)(l103_0:JZ)(a0 a1 a2:Int)(a3:List cH):Option cA:=
an (ah .i64 (a1-a0)) (
an (ah .i64 (a2-a1)) (
(l103_0 (a1,(a1-a0),(a2-a1),a3)).bind fun y3=>(
an (ah .i64 (y3.1-y3.2.1)) (
(F109 ((y3.1-y3.2.1),y3.1,y3.2.1,y3.2.2)).bind fun r4=>(
some r4)))))
theorem P2 (F109:de):aX (wR F109) uz [] CD=u4 (Iw F109 (l103_0 (wR F109))):=funext fun _=>by kernel_rfl
noncomputable def KF:=Iw np tg
noncomputable def dA:de:=u4 KF
theorem P3:aX (wR np) uz [] CD=dA:=(P2 np).trans (by rw[Iv] <;> rfl)
theorem P4:DC Try.prog 103 uz dA:=dD P3 P1 KE
def pY:FSh:=⟨⟨j7,k9⟩,z2,1,⟨⟨Bi,k9⟩,[dB],[0],1⟩,false⟩
noncomputable def l9 (F79:lG)(F103:de)(F92:de):List FEnt:=[⟨79,yR,F79⟩,⟨103,uz,F103⟩,⟨92,pY,F92⟩]
theorem UZ (F92:de)(h:DC Try.prog 92 pY F92):aq Try.prog (l9 P79 dA F92):=(dQ SS (by kernel_rfl) (dQ P4 (by kernel_rfl) (dQ h (by kernel_rfl) ai)))
def Es:LSh:=⟨[0,1,4,10,11],⟨j8,k9⟩,z2,1,[0]⟩
def Et:List XSh:=[⟨(.exit 0),[0,1,10],⟨⟨N2,k9⟩,z3,[0],1⟩⟩]
def Eu:LSh:=⟨[0,10,13],⟨N2,k9⟩,z3,1,[0]⟩
def uA:List XSh:=[⟨(.exit 2),[],⟨⟨[],k9⟩,[dB],[0],1⟩⟩]
def Ev:LSh:=⟨[0,2,4,14,15],⟨j8,k9⟩,z2,1,[0]⟩
def Ew:List XSh:=[⟨(.exit 4),[0,2,14],⟨⟨N2,k9⟩,z3,[0],1⟩⟩]
def Ey:LSh:=⟨[0,14,17],⟨N2,k9⟩,z3,1,[0]⟩
def Ez:List XSh:=[⟨(.exit 6),[],⟨⟨[],k9⟩,[dB],[0],1⟩⟩]
def EA:LSh:=⟨[0,1,2,3,4,18,19],⟨[(.slc 0),(.v y3),(.v y3),(.v y3),(.fn 79 []),(.v y3),(.v y3)],k9⟩,[y3,y3,y3,y3,y3,dB],1,[0]⟩
def EB:List XSh:=[⟨.normal,[0,1,2,3,4,18,19,20,21],⟨⟨[(.slc 0),(.v y3),(.v y3),(.v y3),(.fn 79 []),(.v y3),(.v y3),(.v y3),(.v y3)],k9⟩,[y3,y3,y3,y3,y3,y3,y3,dB],[0],1⟩⟩]
def EC:LSh:=⟨[0,1,2,3,4,18,19,20,21,22],⟨[(.slc 0),(.v y3),(.v y3),(.v y3),(.fn 79 []),(.v y3),(.v y3),(.v y3),(.v y3),(.v y3)],k9⟩,[y3,y3,y3,y3,y3,y3,y3,y3,dB],1,[0]⟩
def ED:List XSh:=[⟨(.exit 8),[0,1,2,3,4,18,19,20],⟨⟨j2,k9⟩,[y3,y3,y3,y3,y3,y3,dB],[0],1⟩⟩]
def EE:LSh:=⟨[0,1,2,3,4,18,20,24],⟨j2,k9⟩,[y3,y3,y3,y3,y3,y3,dB],1,[0]⟩
def EF:List XSh:=[⟨.normal,[0,1,3,4,18,20,24],⟨⟨[(.slc 0),(.v y3),(.v y3),(.fn 79 []),(.v y3),(.v y3),(.v y3)],k9⟩,[y3,y3,y3,y3,y3,dB],[0],1⟩⟩]
noncomputable def Bm:=cN Try.prog [] Try.f92 (.s (.s .n (.s (.s .n (.s .n (.s (.b (.l Es Et .n)) (.s (.s .n (.b (.l Eu uA .n))) .n)))) .n)) (.s (.s .n (.s (.s .n (.s .n (.s (.b (.l Ev Ew .n)) (.s (.s .n (.b (.l Ey Ez .n))) .n)))) .n)) (.s .n (.s .n (.s .n (.s (.o EA EB .n) (.s .n (.s (.b (.l EC ED .n)) (.s .n (.s (.o EE EF .n) .n))))))))))
noncomputable def EG (T:List FEnt):=aI (xs:=Et) Es (bG T (sb [0,1,0,1,1,0,2,2] Bm))
noncomputable def l92_0 (T:List FEnt):=af (EG T)
noncomputable def uB (F79:lG)(F103 F92:de)(a0 a1 a2:Int)(a3:List cH):Option Sc:=
cond (decide (a1 < a2)) (
an (ah .i64 (a1+a2)) (
an (ah .u64 (a1+a2)) (
an (ah .i64 (bE .u64 (a1+a2) 1)) (
an (aZ (bE .u64 (a1+a2) 1) a3.length) (
an (aZ a0 a3.length) (
(F79 ((ix a3 (bE .u64 (a1+a2) 1)),(ix a3 a0))).bind fun r1=>(
cond (decide (r1 < 0)) (
an (ah .i64 ((bE .u64 (a1+a2) 1)+1)) (
some (Sum.inl (a0,((bE .u64 (a1+a2) 1)+1),a2,a3)))) (
some (Sum.inl (a0,a1,(bE .u64 (a1+a2) 1),a3)))))))))) (
some (Sum.inr (a0,a1,a3)))
theorem KG (F79:lG)(F103 F92:de):EG (l9 F79 F103 F92)=u4 (uB F79 F103 F92):=funext fun _=>by kernel_rfl
noncomputable def zb (F92:de):=uB P79 dA F92
noncomputable def zc (F92:de):JZ:=af (u4 (zb F92))
theorem KH (F92:de):l92_0 (l9 P79 dA F92)=zc F92:=congrArg af (KG P79 dA F92)
noncomputable def EH (T:List FEnt):=aI (xs:=uA) Eu (bG T (sb [0,1,0,1,1,1,0,1,2,2] Bm))
noncomputable def l92_1 (T:List FEnt):=af (EH T)
noncomputable def uC (F79:lG)(F103 F92:de)(a0 a1:Int)(a2:List cH):Option Se:=
an (ah .i64 (a0-1)) (
cond (decide (a1 < (a0-1))) (
an (ah .i64 (a1+1)) (
an (ah .i64 (a1+1)) (
an (aZ (a1+1) a2.length) (
an (aZ a1 a2.length) (
an (aZ a1 a2.length) (
an (aZ (a1+1) (List.length (List.set a2 a1.toNat (ix a2 (a1+1))))) (
an (ah .i64 (a1+1)) (
some (Sum.inl (a0,(a1+1),(List.set (List.set a2 a1.toNat (ix a2 (a1+1))) (Int.toNat (a1+1)) (ix a2 a1)))))))))))) (
some (Sum.inr a2)))
theorem KI (F79:lG)(F103 F92:de):EH (l9 F79 F103 F92)=u3 (uC F79 F103 F92):=funext fun _=>by kernel_rfl
noncomputable def zd (F92:de):=uC P79 dA F92
noncomputable def ze (F92:de):si:=af (u3 (zd F92))
theorem KJ (F92:de):l92_1 (l9 P79 dA F92)=ze F92:=congrArg af (KI P79 dA F92)
noncomputable def EI (T:List FEnt):=aI (xs:=Ew) Ev (bG T (sb [1,0,1,0,1,1,0,2,2] Bm))
noncomputable def l92_2 (T:List FEnt):=af (EI T)
noncomputable def uD (F79:lG)(F103 F92:de)(a0 a1 a2:Int)(a3:List cH):Option Sc:=
cond (decide (a1 < a2)) (
an (ah .i64 (a1+a2)) (
an (ah .u64 (a1+a2)) (
an (ah .i64 (bE .u64 (a1+a2) 1)) (
an (aZ a0 a3.length) (
an (aZ (bE .u64 (a1+a2) 1) a3.length) (
(F79 ((ix a3 a0),(ix a3 (bE .u64 (a1+a2) 1)))).bind fun r4=>(
cond (!(decide (r4 < 0))) (
an (ah .i64 ((bE .u64 (a1+a2) 1)+1)) (
some (Sum.inl (a0,((bE .u64 (a1+a2) 1)+1),a2,a3)))) (
some (Sum.inl (a0,a1,(bE .u64 (a1+a2) 1),a3)))))))))) (
some (Sum.inr (a0,a1,a3)))
theorem KK (F79:lG)(F103 F92:de):EI (l9 F79 F103 F92)=u4 (uD F79 F103 F92):=funext fun _=>by kernel_rfl
noncomputable def zf (F92:de):=uD P79 dA F92
noncomputable def zg (F92:de):JZ:=af (u4 (zf F92))
theorem KL (F92:de):l92_2 (l9 P79 dA F92)=zg F92:=congrArg af (KK P79 dA F92)
noncomputable def EJ (T:List FEnt):=aI (xs:=Ez) Ey (bG T (sb [1,0,1,0,1,1,1,0,1,2,2] Bm))
noncomputable def l92_3 (T:List FEnt):=af (EJ T)
noncomputable def uE (F79:lG)(F103 F92:de)(a0 a1:Int)(a2:List cH):Option Se:=
cond (decide (a0 < a1)) (
an (ah .i64 (a1-1)) (
an (ah .i64 (a1-1)) (
an (aZ (a1-1) a2.length) (
an (aZ a1 a2.length) (
an (aZ a1 a2.length) (
an (aZ (a1-1) (List.length (List.set a2 a1.toNat (ix a2 (a1-1))))) (
an (ah .i64 (a1-1)) (
some (Sum.inl (a0,(a1-1),(List.set (List.set a2 a1.toNat (ix a2 (a1-1))) (Int.toNat (a1-1)) (ix a2 a1)))))))))))) (
some (Sum.inr a2))
theorem KM (F79:lG)(F103 F92:de):EJ (l9 F79 F103 F92)=u3 (uE F79 F103 F92):=funext fun _=>by kernel_rfl
noncomputable def zh (F92:de):=uE P79 dA F92
noncomputable def zi (F92:de):si:=af (u3 (zh F92))
theorem KN (F92:de):l92_3 (l9 P79 dA F92)=zi F92:=congrArg af (KM P79 dA F92)
noncomputable def l92_4 (T:List FEnt):=mM (xs:=EB) EA (bG T (sb [1,1,1,1,1,0,2] Bm))
noncomputable def uF (F79:lG)(F103 F92:de)(a0 a1 a2 a3 a4:Int)(a5:List cH):Option TR:=
cond (decide (a3 < a1)) (
an (ah .i64 (a4-a2)) (
some (a0,a1,a2,a3,a4,(a4-a2),a3,a5))) (
some (a0,a1,a2,a3,a4,a0,a1,a5))
theorem KO (F79:lG)(F103 F92:de):l92_4 (l9 F79 F103 F92)=u6 (uF F79 F103 F92):=funext fun _=>by kernel_rfl
noncomputable def zj (F92:de):=uF P79 dA F92
noncomputable def rn (F92:de):TU:=fun x=>zj F92 x.1 x.2.1 x.2.2.1 x.2.2.2.1 x.2.2.2.2.1 x.2.2.2.2.2
theorem KP (F92:de):l92_4 (l9 P79 dA F92)=rn F92:=KO P79 dA F92
noncomputable def EK (T:List FEnt):=aI (xs:=ED) EC (bG T (sb [1,1,1,1,1,1,1,0,2,2] Bm))
noncomputable def l92_5 (T:List FEnt):=af (EK T)
noncomputable def uG (F79:lG)(F103 F92:de)(a0 a1 a2 a3 a4 a5 a6 a7:Int)(a8:List cH):Option ((Int×Int×Int×Int×Int×Int×Int×Int×cA)⊕TS):=
cond (decide (a5 < a6)) (
an (ah .i64 (a5+a6)) (
an (ah .u64 (a5+a6)) (
an (ah .i64 (bE .u64 (a5+a6) 1)) (
an (ah .i64 (a7-(bE .u64 (a5+a6) 1))) (
an (aZ (a7-(bE .u64 (a5+a6) 1)) a8.length) (
an (aZ (bE .u64 (a5+a6) 1) a8.length) (
(F79 ((ix a8 (a7-(bE .u64 (a5+a6) 1))),(ix a8 (bE .u64 (a5+a6) 1)))).bind fun r8=>(
cond (!(decide (r8 < 0))) (
an (ah .i64 ((bE .u64 (a5+a6) 1)+1)) (
some (Sum.inl (a0,a1,a2,a3,a4,((bE .u64 (a5+a6) 1)+1),a6,a7,a8)))) (
some (Sum.inl (a0,a1,a2,a3,a4,a5,(bE .u64 (a5+a6) 1),a7,a8))))))))))) (
some (Sum.inr (a0,a1,a2,a3,a4,a5,a8)))
theorem KQ (F79:lG)(F103 F92:de):EK (l9 F79 F103 F92)=u9 (uG F79 F103 F92):=funext fun _=>by kernel_rfl
noncomputable def zk (F92:de):=uG P79 dA F92
noncomputable def L92_5 (F92:de):TV:=af (u9 (zk F92))
theorem KR (F92:de):l92_5 (l9 P79 dA F92)=L92_5 F92:=congrArg af (KQ P79 dA F92)
noncomputable def l92_6 (T:List FEnt):=mM (xs:=EF) EE (bG T (sb [1,1,1,1,1,1,1,1,1,0,2] Bm))
noncomputable def rq (F79:lG)(F103 F92:de)(a0 a1 a2 a3 a4 a5:Int)(a6:List cH):Option TT:=
cond (decide (a4 < a1)) (
cond (decide (a1 < a5)) (
(F103 (a4,a1,a5,a6)).bind fun r10=>(
some (a0,a2,a3,a4,a5,r10))) (
some (a0,a2,a3,a4,a5,a6))) (
some (a0,a2,a3,a4,a5,a6))
theorem KS (F79:lG)(F103 F92:de):l92_6 (l9 F79 F103 F92)=u7 (rq F79 F103 F92):=funext fun _=>by kernel_rfl
noncomputable def uH (F92:de):=rq P79 dA F92
noncomputable def L92_6 (F92:de):TW:=fun x=>uH F92 x.1 x.2.1 x.2.2.1 x.2.2.2.1 x.2.2.2.2.1 x.2.2.2.2.2.1 x.2.2.2.2.2.2
theorem KT (F92:de):l92_6 (l9 P79 dA F92)=L92_6 F92:=KS P79 dA F92
theorem KU:L.Fn Try.prog 92 220 [] (erase Bm):=oA Try.func92
noncomputable def KV (F79:lG)(F103 F92:de)(l92_0:JZ)(l92_1:si)(l92_2:JZ)(l92_3:si)(l92_4:TU)(l92_5:TV)(l92_6:TW)(a0 a1 a2:Int)(a3:List cH):Option cA:=
an (ah .i64 (a1-a0)) (
cond (decide ((a1-a0)=1)) (
(l92_0 (a0,a1,a2,a3)).bind fun y2=>(
(l92_1 (y2.2.1,y2.1,y2.2.2)).bind fun y3=>(
some y3))) (
an (ah .i64 (a2-a1)) (
cond (decide ((a2-a1)=1)) (
(l92_2 (a1,a0,a1,a3)).bind fun y5=>(
(l92_3 (y5.2.1,y5.1,y5.2.2)).bind fun y6=>(
some y6))) (
an (ah .i64 (a0+a2)) (
an (ah .u64 (a0+a2)) (
an (ah .i64 (bE .u64 (a0+a2) 1)) (
an (ah .i64 ((bE .u64 (a0+a2) 1)+a1)) (
(l92_4 (a0,a1,a2,(bE .u64 (a0+a2) 1),((bE .u64 (a0+a2) 1)+a1),a3)).bind fun y7=>(
an (ah .i64 (y7.2.2.2.2.1-1)) (
(l92_5 (y7.1,y7.2.1,y7.2.2.1,y7.2.2.2.1,y7.2.2.2.2.1,y7.2.2.2.2.2.1,y7.2.2.2.2.2.2.1,(y7.2.2.2.2.1-1),y7.2.2.2.2.2.2.2)).bind fun y9=>(
an (ah .i64 (y9.2.2.2.2.1-y9.2.2.2.2.2.1)) (
(l92_6 (y9.1,y9.2.1,y9.2.2.1,y9.2.2.2.1,y9.2.2.2.2.2.1,(y9.2.2.2.2.1-y9.2.2.2.2.2.1),y9.2.2.2.2.2.2)).bind fun y11=>(
cond (decide (y11.1 < y11.2.2.2.1)) (
cond (decide (y11.2.2.2.1 < y11.2.2.1)) (
(F92 (y11.1,y11.2.2.2.1,y11.2.2.1,y11.2.2.2.2.2)).bind fun r12=>(
cond (decide (y11.2.2.1 < y11.2.2.2.2.1)) (
cond (decide (y11.2.2.2.2.1 < y11.2.1)) (
(F92 (y11.2.2.1,y11.2.2.2.2.1,y11.2.1,r12)).bind fun r13=>(
some r13)) (
some r12)) (
some r12))) (
cond (decide (y11.2.2.1 < y11.2.2.2.2.1)) (
cond (decide (y11.2.2.2.2.1 < y11.2.1)) (
(F92 (y11.2.2.1,y11.2.2.2.2.1,y11.2.1,y11.2.2.2.2.2)).bind fun r14=>(
some r14)) (
some y11.2.2.2.2.2)) (
some y11.2.2.2.2.2))) (
cond (decide (y11.2.2.1 < y11.2.2.2.2.1)) (
cond (decide (y11.2.2.2.2.1 < y11.2.1)) (
(F92 (y11.2.2.1,y11.2.2.2.2.1,y11.2.1,y11.2.2.2.2.2)).bind fun r15=>(
some r15)) (
some y11.2.2.2.2.2)) (
some y11.2.2.2.2.2)))))))))))))))
theorem U0 (F79:lG)(F103 F92:de):aX (l9 F79 F103 F92) pY [] Bm=u4 (KV F79 F103 F92 (l92_0 (l9 F79 F103 F92)) (l92_1 (l9 F79 F103 F92)) (l92_2 (l9 F79 F103 F92)) (l92_3 (l9 F79 F103 F92)) (l92_4 (l9 F79 F103 F92)) (l92_5 (l9 F79 F103 F92)) (l92_6 (l9 F79 F103 F92))):=funext fun _=>by kernel_rfl
noncomputable def p92 (F92:de):=KV P79 dA F92 (zc F92) (ze F92) (zg F92) (zi F92) (rn F92) (L92_5 F92) (L92_6 F92)
noncomputable def R92:Nat→Int×Int×Int×cA→Option cA
  | 0=>fun _=>none
  | n+1=>fun x=>p92 (R92 n) x.1 x.2.1 x.2.2.1 x.2.2.2
noncomputable def sf:de:=R92 18446744073709551616
theorem U1 (F92:de):aX (l9 P79 dA F92) pY [] Bm=fun x=>p92 F92 x.1 x.2.1 x.2.2.1 x.2.2.2:=(U0 P79 dA F92).trans (by rw[KH F92,KJ F92,KL F92,KN F92,KP F92,KR F92,KT F92] <;> rfl)
theorem SU:∀ n,DC Try.prog 92 pY (R92 n)
  | 0=>Ch (iA (sh:=pY) ai KU (by kernel_rfl)).1
  | n+1=>yw (U1 (R92 n)) (iA (sh:=pY) (UZ (R92 n) (SU n)) KU (by kernel_rfl))
theorem U2:DC Try.prog 92 pY sf:=SU _
noncomputable def xj (F91:si)(F92:de):List FEnt:=[⟨91,CB,F91⟩,⟨92,pY,F92⟩]
theorem U3:aq Try.prog (xj rm sf):=dK (dK ai U2) UY
def uI:LSh:=⟨[0,1,2,6,7,8],⟨[(.slc 0),(.v y3),(.fn 79 []),(.v y3),(.v y3),(.v y3)],k9⟩,z1,1,[0]⟩
def EL:List XSh:=[⟨(.exit 0),[0,1,2,6,7],⟨⟨j8,k9⟩,z2,[0],1⟩⟩]
def EM:List XSh:=[⟨(.exit 4),[0,1,2,6,7],⟨⟨j8,k9⟩,z2,[0],1⟩⟩]
def EN:LSh:=⟨[0,1,2,6],⟨SF,k9⟩,z3,1,[0]⟩
noncomputable def JE:=cN Try.prog [] Try.f87 (.s .n (.s .n (.s (.b (.l uI EL .n)) (.s .n (.b (.l EN uA (.s .n (.b (.s .n (.s (.b (.l uI EM .n)) .n))))))))))
noncomputable def EO (T:List FEnt):=aI (xs:=EL) uI (bG T (sb [1,1,0,2,2] JE))
noncomputable def l87_0 (T:List FEnt):=af (EO T)
noncomputable def uJ (F91:si)(F92:de)(a0 a1 a2 a3:Int)(a4:List cH):Option Sb:=
cond (decide (a3≤a0)) (
(F91 (a2,a3,a4)).bind fun r1=>(
an (ah .i64 (a3+a1)) (
some (Sum.inl (a0,a1,a3,(a3+a1),r1))))) (
some (Sum.inr (a0,a1,a2,a4)))
theorem KW (F91:si)(F92:de):EO (xj F91 F92)=u5 (uJ F91 F92):=funext fun _=>by kernel_rfl
noncomputable def zl:=uJ rm sf
noncomputable def zm:JY:=af (u5 zl)
theorem KX:l87_0 (xj rm sf)=zm:=congrArg af (KW rm sf)
noncomputable def EP (T:List FEnt):=aI (xs:=EM) uI (bG T (sb [1,1,1,1,2,2,1,2,1,0,2,2] JE))
noncomputable def l87_2 (T:List FEnt):=af (EP T)
noncomputable def uK (F91:si)(F92:de)(a0 a1 a2 a3:Int)(a4:List cH):Option Sb:=
cond (decide (a3≤a0)) (
an (ah .i64 (a2+a1)) (
(F92 (a2,(a2+a1),a3,a4)).bind fun r4=>(
an (ah .i64 (2*a1)) (
an (ah .i64 (a3+(2*a1))) (
some (Sum.inl (a0,a1,a3,(a3+(2*a1)),r4))))))) (
some (Sum.inr (a0,a1,a2,a4)))
theorem KY (F91:si)(F92:de):EP (xj F91 F92)=u5 (uK F91 F92):=funext fun _=>by kernel_rfl
noncomputable def zn:=uK rm sf
noncomputable def zo:JY:=af (u5 zn)
theorem KZ:l87_2 (xj rm sf)=zo:=congrArg af (KY rm sf)
noncomputable def EQ (T:List FEnt):=aI (xs:=uA) EN (bG T (sb [1,1,1,1,2,2] JE))
noncomputable def l87_1 (T:List FEnt):=af (EQ T)
noncomputable def rt (F91:si)(F92:de)(l87_2:JY)(a0 a1:Int)(a2:List cH):Option Se:=
cond (decide (a1 < a0)) (
an (ah .i64 (2*a1)) (
(l87_2 (a0,a1,0,(2*a1),a2)).bind fun y5=>(
an (ah .i64 (y5.2.2.1+y5.2.1)) (
cond (decide ((y5.2.2.1+y5.2.1) < y5.1)) (
(F92 (y5.2.2.1,(y5.2.2.1+y5.2.1),y5.1,y5.2.2.2)).bind fun r6=>(
an (ah .i64 (y5.2.1*2)) (
some (Sum.inl (y5.1,(y5.2.1*2),r6))))) (
an (ah .i64 (y5.2.1*2)) (
some (Sum.inl (y5.1,(y5.2.1*2),y5.2.2.2)))))))) (
some (Sum.inr a2))
theorem K0 (F91:si)(F92:de):EQ (xj F91 F92)=u3 (rt F91 F92 (l87_2 (xj F91 F92))):=funext fun _=>by kernel_rfl
noncomputable def uL:=rt rm sf zo
noncomputable def uM:si:=af (u3 uL)
theorem K1:l87_1 (xj rm sf)=uM:=congrArg af ((K0 rm sf).trans (by rw[KZ] <;> rfl))
theorem P5:L.Fn Try.prog 87 63 [] (erase JE):=oA Try.func87
def CE:FSh:=⟨⟨[(.slc 0),(.v y3),(.fn 79 [])],k9⟩,[y3,dB],1,⟨⟨Bi,k9⟩,[dB],[0],1⟩,false⟩
noncomputable def P6 (F91:si)(F92:de)(l87_0:JY)(l87_1:si)(a0:Int)(a1:List cH):Option cA:=
(l87_0 (a0,20,0,20,a1)).bind fun y2=>(
(F91 (y2.2.2.1,y2.1,y2.2.2.2)).bind fun r3=>(
(l87_1 (y2.1,y2.2.1,r3)).bind fun y7=>(
some y7)))
theorem U4 (F91:si)(F92:de):aX (xj F91 F92) CE [] JE=u2 (P6 F91 F92 (l87_0 (xj F91 F92)) (l87_1 (xj F91 F92))):=funext fun _=>by kernel_rfl
noncomputable def SW:=P6 rm sf zm uM
noncomputable def P87:OK:=u2 SW
theorem U5:aX (xj rm sf) CE [] JE=P87:=(U4 rm sf).trans (by rw[KX,K1] <;> rfl)
theorem U6:DC Try.prog 87 CE P87:=dD U5 U3 P5
end Go.Proofs.Ytfknkinmnecoeaa.D
