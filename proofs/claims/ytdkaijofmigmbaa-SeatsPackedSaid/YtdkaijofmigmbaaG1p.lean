import Derived.Test.YtdkaijofmigmbaaH2p
import Derived.Test.YtdkaijofmigmbaaProg
set_option linter.unusedVariables false
set_option maxRecDepth 100000
namespace Go.Proofs.Ytdkaijofmigmbaa.D
open Go Go.Proofs Go.Proofs.Ytdkaijofmigmbaa.L
def z5:List Ty:=[y7,y7,y7,y7,y19,y7,y53,y32,y19]
def z7:List Ty:=[y7,y7,y19,y7,y53,y32,y19]
def z9:List Ty:=[y19,y7,y32,y19,y53]
def AK:List RSh:=[(.slc 0),(.v y7)]
def pU:List RSh:=[(.v y7)]
def Jr:List RSh:=[(.v oB),(.v oB)]
def FK:List RSh:=[(.v y19),(.v y7)]
def rV:List RSh:=[(.slc 0)]
def j7:List RSh:=[(.slc 0),(.v y7),(.v y7),(.fn 80 []),(.v y7)]
def j4:List RSh:=[(.slc 0),(.v y7),(.v y7),(.v y7),(.fn 80 []),(.v .bool),(.v .bool),(.v y7)]
def j8:List RSh:=[(.ptr 0 0),(.pel 1),(.v y7),(.v y7),(.v y7)]
def iH:List (Nat×OSh):=[(0,(.row 3 y7))]
def k6:List (Nat×OSh):=[(0,(.box [(.v y19),(.v y7),(.slr 1),(.mp 2),.emp])),(1,(.rows 22 3 y7)),(2,(.pmap 3)),(3,(.pool eI))]
def mf:List (Nat×OSh):=[(0,(.row 40 eI))]
def k3:List (Nat×OSh):=[(0,(.box [(.v y19),(.v y7),(.slr 2),(.mpl 3),(.slc 4)])),(1,(.pool eI)),(2,(.rows 22 3 y7)),(3,(.gone 1)),(4,(.row 3 y7))]
noncomputable def Kv:List FEnt:=[]
theorem O8:am Try.prog Kv:=aa
noncomputable def Kw:=cI Try.prog [] Try.f57 .n
theorem Kx:L.Fn Try.prog 57 15 [(.t 6)] (erase Kw):=oA Try.func57
def tS:FSh:=⟨⟨Ke,[]⟩,[y7,y7,y7],0,⟨⟨lf,[]⟩,[.bool],[],0⟩,true⟩
noncomputable def NF (a0 a1 a2:Int):Option Bool:=
cond (decide (a1≤a0)) (
some (decide (a0≤a2))) (
some false)
theorem O9:aQ Kv tS [(.t 6)] Kw=u3 NF:=funext fun _=>by kernel_rfl
noncomputable def Pa:=NF
noncomputable def P57:Y5:=u3 Pa
theorem Pb:aQ Kv tS [(.t 6)] Kw=P57:=O9
theorem Ky:DC Try.prog 57 tS P57:=dD Pb O8 Kx
noncomputable def FL (F57:Y5):List FEnt:=[⟨57,tS,F57⟩]
theorem Pc:am Try.prog (FL P57):=dK aa Ky
def AL:LSh:=⟨[1,3],⟨FI,[(0,(.boxT cH))]⟩,[y7,cH],1,[0]⟩
def AM:List XSh:=[⟨.ret,[2],⟨⟨lf,[(0,(.boxT cH))]⟩,[.bool,cH],[0],1⟩⟩,⟨(.exit 0),[1],⟨⟨At,[(0,(.boxT cH))]⟩,[cH],[0],1⟩⟩]
noncomputable def Js:=cI Try.prog [] Try.f37 (.s .n (.s (.s .n (.b (.l AL AM .n))) .n))
noncomputable def AN (T:List FEnt):=aV (xs:=AM) AL (bR T (sb [1,0,1,2,2] Js))
noncomputable def l37_0 (T:List FEnt):=ah (AN T)
noncomputable def np (F57:Y5)(a0:Int)(a1:Y2×Int):Option ((Int×Y2×Int)⊕OA):=
cond (decide (a0 < (↑a1.1.length:Int))) (
au (bF a0 a1.1.length) (
(F57 ((ix a1.1 a0),1,12)).bind fun r1=>(
cond (!r1) (
some (Sum.inr (Sum.inl (false,a1)))) (
au (an .i64 (a0+1)) (
some (Sum.inl ((a0+1),a1))))))) (
some (Sum.inr (Sum.inr a1)))
theorem GH (F57:Y5):AN (FL F57)=u2 (np F57):=funext fun _=>by kernel_rfl
noncomputable def AO:=np P57
noncomputable def rW:Im:=ah (u2 AO)
theorem v37_0:l37_0 (FL P57)=rW:=congrArg ah (GH P57)
theorem Kz:L.Fn Try.prog 37 27 [(.t 2)] (erase Js):=oA Try.func37
def yG:FSh:=⟨⟨[(.st cH)],[]⟩,[cH],0,⟨⟨lf,[]⟩,[.bool],[],0⟩,true⟩
noncomputable def Jt (F57:Y5)(l37_0:Im)(a0:Y2×Int):Option Bool:=
(l37_0 (0,a0)).bind (fun y2=>Sum.elim (fun y3=>(
some y3.1)) (fun y4=>(
(F57 ((↑y4.1.length:Int),1,6)).bind fun r5=>(
cond r5 (
(F57 (y4.2,1,600)).bind fun r6=>(
some r6)) (
some false)))) y2)
theorem g37 (F57:Y5)(a0:Y2×Int):aQ (FL F57) yG [(.t 2)] Js a0=Jt F57 (l37_0 (FL F57)) a0:=by kernel_rfl
noncomputable def Pd:=Jt P57 rW
noncomputable def AP:mw:=fun x=>Pd x
theorem Pe:aQ (FL P57) yG [(.t 2)] Js=AP:=funext fun x=>(g37 P57 x).trans (by rw[v37_0] <;> rfl)
theorem Pf:DC Try.prog 37 yG AP:=dD Pe Pc Kz
noncomputable def KA:List FEnt:=[]
theorem Pg:am Try.prog KA:=aa
noncomputable def KB:=cI Try.prog [] Try.f41 (.s .n (.s (.r [.a 0 false y7,.a 7 true eI]) .n))
theorem KC:L.Fn Try.prog 41 10 [(.cell 0 true 2),(.t 1)] (erase KB):=oA Try.func41
def yH:FSh:=⟨⟨[],[]⟩,[],0,⟨⟨[(.tup [(.agg AK),(.slc 1)])],[(0,(.row 3 y7)),(1,(.row 40 eI))]⟩,[y7,y19,di],[],2⟩,true⟩
noncomputable def NG:Option Nd:=
some (10,([5,3]:List Int),([(1,(0,(1,(1,2)))),(2,(1,(1,(2,2)))),(3,(5,(2,(1,0)))),(4,(12,(1,(3,3)))),(5,(11,(2,(2,0))))]:List Y1))
theorem g41:aQ KA yH [(.cell 0 true 2),(.t 1)] KB ()=NG:=by kernel_rfl
noncomputable def Ph:Option Nd:=NG
noncomputable def P41:zK:=fun x=>Ph
theorem Pj:aQ KA yH [(.cell 0 true 2),(.t 1)] KB=P41:=funext fun x=>(g41)
theorem Pk:DC Try.prog 41 yH P41:=dD Pj Pg KC
noncomputable def KD (F60:Y5):List FEnt:=[⟨60,mu,F60⟩]
theorem Pl:am Try.prog (KD P60):=dK aa Ec
noncomputable def KE:=cI Try.prog [] Try.f69 .n
theorem KF:L.Fn Try.prog 69 6 [(.t 2)] (erase KE):=oA Try.func69
def yI:FSh:=⟨⟨pU,[]⟩,[y7],0,⟨⟨lf,[]⟩,[.bool],[],0⟩,true⟩
noncomputable def Ju (F60:Y5)(a0:Int):Option Bool:=
(F60 (a0,1,12)).bind fun r1=>(
some (!r1))
theorem g69 (F60:Y5)(a0:Int):aQ (KD F60) yI [(.t 2)] KE a0=Ju F60 a0:=by kernel_rfl
noncomputable def Pm:=Ju P60
noncomputable def P69:pV:=fun x=>Pm x
theorem Pn:aQ (KD P60) yI [(.t 2)] KE=P69:=funext fun x=>(g69 P60 x)
theorem Po:DC Try.prog 69 yI P69:=dD Pn Pl KF
noncomputable def FM (F69:pV):List FEnt:=[⟨69,yI,F69⟩]
theorem Pp:am Try.prog (FM P69):=dK aa Po
def AQ:LSh:=⟨[0,1,7,8],⟨[(.v y19),(.fn 69 []),(.v y7),(.v y7)],[]⟩,[y19,y7,y7],0,[]⟩
def nq:List XSh:=[⟨.ret,[4],⟨⟨pU,[]⟩,[y7],[],0⟩⟩,⟨(.exit 0),[],⟨⟨[],[]⟩,[],[],0⟩⟩]
noncomputable def Jv:=cI Try.prog [] Try.f74 (.s .n (.s (.s .n (.b (.l AQ nq .n))) .n))
noncomputable def AR (T:List FEnt):=aV (xs:=nq) AQ (bR T (sb [1,0,1,2,2] Jv))
noncomputable def l74_0 (T:List FEnt):=ah (AR T)
noncomputable def nr (F69:pV)(a0:List Int)(a1 a2:Int):Option OB:=
cond (decide (a2 < a1)) (
au (bF a2 a0.length) (
(F69 (ix a0 a2)).bind fun r1=>(
cond r1 (
some (Sum.inr (Sum.inl a2))) (
au (an .i64 (a2+1)) (
some (Sum.inl (a0,a1,(a2+1)))))))) (
some (Sum.inr (Sum.inr ())))
theorem GI (F69:pV):AR (FM F69)=u3 (nr F69):=funext fun _=>by kernel_rfl
noncomputable def AS:=nr P69
noncomputable def ns:JW:=ah (u3 AS)
theorem v74_0:l74_0 (FM P69)=ns:=congrArg ah (GI P69)
theorem KG:L.Fn Try.prog 74 19 [(.t 4)] (erase Jv):=oA Try.func74
def yJ:FSh:=⟨⟨[(.v y19),(.fn 69 [])],[]⟩,[y19],0,⟨⟨pU,[]⟩,[y7],[],0⟩,true⟩
noncomputable def FN (F69:pV)(l74_0:JW)(a0:List Int):Option Int:=
(l74_0 (a0,(↑a0.length:Int),0)).bind (fun y2=>Sum.elim (fun y3=>(
some y3)) (fun y4=>(
some (-1))) y2)
theorem g74 (F69:pV)(a0:List Int):aQ (FM F69) yJ [(.t 4)] Jv a0=FN F69 (l74_0 (FM F69)) a0:=by kernel_rfl
noncomputable def Pq:=FN P69 ns
noncomputable def P74:ut:=fun x=>Pq x
theorem Pr:aQ (FM P69) yJ [(.t 4)] Jv=P74:=funext fun x=>(g74 P69 x).trans (by rw[v74_0] <;> rfl)
theorem Ps:DC Try.prog 74 yJ P74:=dD Pr Pp KG
noncomputable def KH (F74:ut):List FEnt:=[⟨74,yJ,F74⟩]
theorem Pt:am Try.prog (KH P74):=dK aa Ps
noncomputable def KI:=cI Try.prog [] Try.f58 .n
theorem KJ:L.Fn Try.prog 58 9 [(.t 4)] (erase KI):=oA Try.func58
def yK:FSh:=⟨⟨[(.v y19),(.fn 69 [])],[]⟩,[y19],0,⟨⟨lf,[]⟩,[.bool],[],0⟩,true⟩
noncomputable def Jw (F74:ut)(a0:List Int):Option Bool:=
(F74 a0).bind fun r1=>(
some (decide (0≤r1)))
theorem g58 (F74:ut)(a0:List Int):aQ (KH F74) yK [(.t 4)] KI a0=Jw F74 a0:=by kernel_rfl
noncomputable def Pu:=Jw P74
noncomputable def P58:sM:=fun x=>Pu x
theorem Pv:aQ (KH P74) yK [(.t 4)] KI=P58:=funext fun x=>(g58 P74 x)
theorem Pw:DC Try.prog 58 yK P58:=dD Pv Pt KJ
noncomputable def KK (F60:Y5)(F58:sM):List FEnt:=[⟨60,mu,F60⟩,⟨58,yK,F58⟩]
theorem Px:am Try.prog (KK P60 P58):=dK (dK aa Pw) Ec
noncomputable def KL:=cI Try.prog [] Try.f48 .n
theorem KM:L.Fn Try.prog 48 20 [(.t 2)] (erase KL):=oA Try.func48
def vU:FSh:=⟨⟨[(.st cH)],[]⟩,[cH],0,⟨⟨lf,[]⟩,[.bool],[],0⟩,true⟩
noncomputable def Jx (F60:Y5)(F58:sM)(a0:Y2×Int):Option Bool:=
(F60 ((↑a0.1.length:Int),1,6)).bind fun r1=>(
cond r1 (
(F58 a0.1).bind fun r2=>(
cond (!r2) (
(F60 (a0.2,1,600)).bind fun r3=>(
some r3)) (
some false))) (
some false))
theorem g48 (F60:Y5)(F58:sM)(a0:Y2×Int):aQ (KK F60 F58) vU [(.t 2)] KL a0=Jx F60 F58 a0:=by kernel_rfl
noncomputable def Py:=Jx P60 P58
noncomputable def nt:mw:=fun x=>Py x
theorem Pz:aQ (KK P60 P58) vU [(.t 2)] KL=nt:=funext fun x=>(g48 P60 P58 x)
theorem NH:DC Try.prog 48 vU nt:=dD Pz Px KM
noncomputable def KN (F60:Y5):List FEnt:=[⟨60,mu,F60⟩]
theorem PA:am Try.prog (KN P60):=dK aa Ec
noncomputable def KO:=cI Try.prog [] Try.f49 .n
theorem KP:L.Fn Try.prog 49 32 [(.t 2)] (erase KO):=oA Try.func49
def yL:FSh:=⟨⟨[(.st eI)],[]⟩,[eI],0,⟨⟨lf,[]⟩,[.bool],[],0⟩,true⟩
noncomputable def NI (F60:Y5)(a0:Y1):Option Bool:=
cond (decide (a0.2.2.1=1)) (
(F60 (a0.1,0,99)).bind fun r1=>(
cond r1 (
(F60 (a0.2.2.2.1,0,99)).bind fun r2=>(
cond r2 (
(F60 (a0.2.1,0,9999)).bind fun r3=>(
cond r3 (
(F60 (a0.2.2.2.2,1,12)).bind fun r4=>(
some r4)) (
some false))) (
some false))) (
some false))) (
cond (decide (a0.2.2.1=2)) (
cond (decide (a0.2.2.1=2)) (
(F60 (a0.1,0,99)).bind fun r5=>(
cond r5 (
(F60 (a0.2.2.2.1,0,99)).bind fun r6=>(
cond r6 (
(F60 (a0.2.1,0,9999)).bind fun r7=>(
cond r7 (
(F60 (a0.2.2.2.2,0,0)).bind fun r8=>(
some r8)) (
some false))) (
some false))) (
some false))) (
some false)) (
cond (decide (a0.2.2.1=3)) (
(F60 (a0.1,0,99)).bind fun r9=>(
cond r9 (
(F60 (a0.2.2.2.1,0,99)).bind fun r10=>(
cond r10 (
(F60 (a0.2.1,0,9999)).bind fun r11=>(
cond r11 (
(F60 (a0.2.2.2.2,0,0)).bind fun r12=>(
some r12)) (
some false))) (
some false))) (
some false))) (
some false)))
theorem g49 (F60:Y5)(a0:Y1):aQ (KN F60) yL [(.t 2)] KO a0=NI F60 a0:=by kernel_rfl
noncomputable def PB:=NI P60
noncomputable def yM:F3:=fun x=>PB x
theorem PC:aQ (KN P60) yL [(.t 2)] KO=yM:=funext fun x=>(g49 P60 x)
theorem PD:DC Try.prog 49 yL yM:=dD PC PA KP
noncomputable def FO (F48:mw)(F49:F3):List FEnt:=[⟨48,vU,F48⟩,⟨49,yL,F49⟩]
theorem PE:am Try.prog (FO nt yM):=dK (dK aa PD) NH
def AT:LSh:=⟨[5,17,18,19],⟨[(.mp 0),(.v di),(.v y7),(.v y7)],[(0,(.imap 0 true eI))]⟩,[di,y7,y7,EZ],1,[0]⟩
def AU:List XSh:=[⟨.ret,[4],⟨⟨pU,[(0,(.imap 0 true eI))]⟩,[y7,EZ],[0],1⟩⟩,⟨(.exit 0),[],⟨⟨[],[(0,(.imap 0 true eI))]⟩,[EZ],[0],1⟩⟩]
noncomputable def Jy:=cI Try.prog [] Try.f26 (.s .n (.s .n (.s .n (.s (.r [.a 0 true eI]) (.s (.s .n (.b (.l AT AU .n))) .n)))))
noncomputable def AW (T:List FEnt):=aV (xs:=AU) AT (bR T (sb [1,1,1,1,0,1,2,2] Jy))
noncomputable def l26_0 (T:List FEnt):=ah (AW T)
noncomputable def AX (F48:mw)(F49:F3)(a0:List Y1)(a1 a2:Int)(a3:List Na):Option ((Y8×Int×Int×JX)⊕Iu):=
cond (decide (a2 < a1)) (
au (bF a2 a0.length) (
(F49 (ix a0 a2)).bind fun r2=>(
cond (!r2) (
some (Sum.inr (Sum.inl (41,a3)))) (
cond (Option.isSome (dV a3 [(ix a0 a2).1])) (
cond (!((((decide ((FG (dV a3 [(ix a0 a2).1]) (0,(0,(0,(0,0))))).1=(ix a0 a2).1)&&decide ((FG (dV a3 [(ix a0 a2).1]) (0,(0,(0,(0,0))))).2.1=(ix a0 a2).2.1))&&decide ((FG (dV a3 [(ix a0 a2).1]) (0,(0,(0,(0,0))))).2.2.1=(ix a0 a2).2.2.1))&&decide ((FG (dV a3 [(ix a0 a2).1]) (0,(0,(0,(0,0))))).2.2.2.1=(ix a0 a2).2.2.2.1))&&decide ((FG (dV a3 [(ix a0 a2).1]) (0,(0,(0,(0,0))))).2.2.2.2=(ix a0 a2).2.2.2.2))) (
some (Sum.inr (Sum.inl (41,a3)))) (
au (an .i64 (a2+1)) (
some (Sum.inl (a0,a1,(a2+1),(nV a3 [(ix a0 a2).1] (ix a0 a2))))))) (
au (an .i64 (a2+1)) (
some (Sum.inl (a0,a1,(a2+1),(nV a3 [(ix a0 a2).1] (ix a0 a2)))))))))) (
some (Sum.inr (Sum.inr a3)))
theorem GJ (F48:mw)(F49:F3):AW (FO F48 F49)=u4 (AX F48 F49):=funext fun _=>by kernel_rfl
noncomputable def GK:=AX nt yM
noncomputable def AY:Iv:=ah (u4 GK)
theorem GL:l26_0 (FO nt yM)=AY:=congrArg ah (GJ nt yM)
theorem KQ:L.Fn Try.prog 26 46 [(.t 4)] (erase Jy):=oA Try.func26
def vV:FSh:=⟨⟨[(.st cH),(.v di)],[]⟩,[cH,di],0,⟨⟨pU,[]⟩,[y7],[],0⟩,true⟩
noncomputable def NJ (F48:mw)(F49:F3)(l26_0:Iv)(a0:Y2×Int)(a1:List Y1):Option Int:=
(F48 a0).bind fun r1=>(
cond (!r1) (
some 40) (
cond (decide (40 < (↑a1.length:Int))) (
some 41) (
(l26_0 (a1,(↑a1.length:Int),0,([]:List Na))).bind (fun y3=>Sum.elim (fun y4=>(
some y4.1)) (fun y5=>(
some 0)) y3))))
theorem PF (F48:mw)(F49:F3):aQ (FO F48 F49) vV [(.t 4)] Jy=u2 (NJ F48 F49 (l26_0 (FO F48 F49))):=funext fun _=>by kernel_rfl
noncomputable def PG:=NJ nt yM AY
noncomputable def xp:EY:=u2 PG
theorem PH:aQ (FO nt yM) vV [(.t 4)] Jy=xp:=(PF nt yM).trans (by rw[GL] <;> rfl)
theorem NK:DC Try.prog 26 vV xp:=dD PH PE KQ
noncomputable def Ee:List FEnt:=[]
theorem KR:am Try.prog Ee:=aa
noncomputable def Ef:=cI Try.prog [] Try.f128 .n
theorem GM:L.Fn Try.prog 128 51 [(.t 4),(.t 5)] (erase Ef):=oA Try.func128
def rX:FSh:=⟨⟨Jr,[]⟩,[oB,oB],0,⟨⟨[(.tup Jr)],[]⟩,[oB,oB],[],0⟩,true⟩
noncomputable def GN (a0 a1:Int):Option JV:=
au (an .u64 ((cB .u64 a0 4294967295)*(cB .u64 a1 4294967295))) (
au (an .u64 ((bh .u64 a0 32)*(cB .u64 a1 4294967295))) (
au (an .u64 (((bh .u64 a0 32)*(cB .u64 a1 4294967295))+(bh .u64 ((cB .u64 a0 4294967295)*(cB .u64 a1 4294967295)) 32))) (
au (an .u64 ((cB .u64 a0 4294967295)*(bh .u64 a1 32))) (
au (an .u64 ((cB .u64 (((bh .u64 a0 32)*(cB .u64 a1 4294967295))+(bh .u64 ((cB .u64 a0 4294967295)*(cB .u64 a1 4294967295)) 32)) 4294967295)+((cB .u64 a0 4294967295)*(bh .u64 a1 32)))) (
au (an .u64 ((bh .u64 a0 32)*(bh .u64 a1 32))) (
au (an .u64 (((bh .u64 a0 32)*(bh .u64 a1 32))+(bh .u64 (((bh .u64 a0 32)*(cB .u64 a1 4294967295))+(bh .u64 ((cB .u64 a0 4294967295)*(cB .u64 a1 4294967295)) 32)) 32))) (
au (an .u64 ((((bh .u64 a0 32)*(bh .u64 a1 32))+(bh .u64 (((bh .u64 a0 32)*(cB .u64 a1 4294967295))+(bh .u64 ((cB .u64 a0 4294967295)*(cB .u64 a1 4294967295)) 32)) 32))+(bh .u64 ((cB .u64 (((bh .u64 a0 32)*(cB .u64 a1 4294967295))+(bh .u64 ((cB .u64 a0 4294967295)*(cB .u64 a1 4294967295)) 32)) 4294967295)+((cB .u64 a0 4294967295)*(bh .u64 a1 32))) 32))) (
au (an .u64 (a0*a1)) (
some (((((bh .u64 a0 32)*(bh .u64 a1 32))+(bh .u64 (((bh .u64 a0 32)*(cB .u64 a1 4294967295))+(bh .u64 ((cB .u64 a0 4294967295)*(cB .u64 a1 4294967295)) 32)) 32))+(bh .u64 ((cB .u64 (((bh .u64 a0 32)*(cB .u64 a1 4294967295))+(bh .u64 ((cB .u64 a0 4294967295)*(cB .u64 a1 4294967295)) 32)) 4294967295)+((cB .u64 a0 4294967295)*(bh .u64 a1 32))) 32)),(a0*a1)))))))))))
theorem KS:aQ Ee rX [(.t 4),(.t 5)] Ef=u2 GN:=funext fun _=>by kernel_rfl
noncomputable def KT:=GN
noncomputable def tT:sN:=u2 KT
theorem KU:aQ Ee rX [(.t 4),(.t 5)] Ef=tT:=KS
theorem KV:DC Try.prog 128 rX tT:=dD KU KR GM
noncomputable def Eg (F128:sN):List FEnt:=[⟨128,rX,F128⟩]
theorem KW:am Try.prog (Eg tT):=dK aa KV
noncomputable def Eh:=cI Try.prog [] Try.f122 .n
theorem GO:L.Fn Try.prog 122 30 [(.t 4),(.t 5)] (erase Eh):=oA Try.func122
def rY:FSh:=⟨⟨Jr,[]⟩,[oB,oB],0,⟨⟨[(.tup Jr)],[]⟩,[oB,oB],[],0⟩,true⟩
noncomputable def GP (F128:sN)(a0 a1:Int):Option JV:=
(F128 (a0,a1)).bind fun r1=>(
some (r1.1,r1.2))
theorem KX (F128:sN):aQ (Eg F128) rY [(.t 4),(.t 5)] Eh=u2 (GP F128):=funext fun _=>by kernel_rfl
noncomputable def KY:=GP tT
noncomputable def kF:sN:=u2 KY
theorem KZ:aQ (Eg tT) rY [(.t 4),(.t 5)] Eh=kF:=KX tT
theorem K0:DC Try.prog 122 rY kF:=dD KZ KW GO
noncomputable def ol (F122:sN):List FEnt:=[⟨122,rY,F122⟩]
theorem K1:am Try.prog (ol kF):=dK aa K0
def vW:LSh:=⟨[0,1],⟨FK,[]⟩,[y19,y7],0,[]⟩
def vX:List XSh:=[⟨.normal,[0,1],⟨⟨FK,[]⟩,[y19,y7],[],0⟩⟩]
def vY:LSh:=⟨[7,8],⟨AK,iH⟩,[y7,y19],1,[0]⟩
def vZ:List XSh:=[⟨(.exit 0),[7],⟨⟨rV,iH⟩,[y19],[0],1⟩⟩]
noncomputable def v5:=cI Try.prog [(9,{ch:=[0,0,0,1,0,0,1,0,0,0],rs:=[] })] Try.f107 (.s .n (.s (.o vW vX .n) (.s .n (.s .n (.s (.r [.a 2 false y7]) (.s .n (.s (.b (.l vY vZ .n)) .n)))))))
noncomputable def l107_0 (T:List FEnt):=kq (xs:=vX) vW (bR T (sb [1,0,2] v5))
noncomputable def v6 (F122:sN)(a0:List Int)(a1:Int):Option pW:=
cond (decide (a1 < 0)) (
none) (
some (a0,a1))
theorem Ei (F122:sN):l107_0 (ol F122)=u2 (v6 F122):=funext fun _=>by kernel_rfl
noncomputable def Ej:=v6 kF
noncomputable def v7:Ov:=fun x=>Ej x.1 x.2
theorem Ek:l107_0 (ol kF)=v7:=Ei kF
noncomputable def v8 (T:List FEnt):=aV (xs:=vZ) vY (bR T (sb [1,1,1,1,1,1,0,2,2] v5))
noncomputable def l107_1 (T:List FEnt):=ah (v8 T)
noncomputable def v9 (F122:sN)(a0:Int)(a1:List Int):Option (CB⊕Y2):=
cond (decide (a0 < (↑a1.length:Int))) (
au (decide (0≤a0)) (
au (decide (a0≤(↑a1.length:Int))) (
au (decide ((↑a1.length:Int)≤(↑a1.length:Int))) (
au (decide (0 < List.length a1)) (
au (decide ((0:Int)≤0)) (
au (decide (0≤a0)) (
au (decide (a0≤(↑a1.length:Int))) (
au (decide (0 < List.length a1)) (
au (an .i64 (a0+(↑(min (List.length (List.take (Int.toNat (a0-0)) (List.drop (Int.toNat 0) a1))) (Int.toNat ((↑a1.length:Int)-a0))):Int))) (
some (Sum.inl ((a0+(↑(min (List.length (List.take (Int.toNat (a0-0)) (List.drop (Int.toNat 0) a1))) (Int.toNat ((↑a1.length:Int)-a0))):Int)),(kC a1 a0.toNat (List.take (min (List.length (List.take (Int.toNat (a0-0)) (List.drop (Int.toNat 0) a1))) (Int.toNat ((↑a1.length:Int)-a0))) (List.take (Int.toNat (a0-0)) (List.drop (Int.toNat 0) a1)))))))))))))))) (
some (Sum.inr a1))
theorem El (F122:sN):v8 (ol F122)=u2 (v9 F122):=funext fun _=>by kernel_rfl
noncomputable def Em:=v9 kF
noncomputable def wa:Ot:=ah (u2 Em)
theorem En:l107_1 (ol kF)=wa:=congrArg ah (El kF)
theorem GQ:L.Fn Try.prog 107 48 [(.t 4)] (erase v5):=oA Try.func107
def rZ:FSh:=⟨⟨FK,[]⟩,[y19,y7],0,⟨⟨rV,iH⟩,[y19],[],1⟩,true⟩
noncomputable def GR (F122:sN)(l107_0:Ov)(l107_1:Ot)(a0:List Int)(a1:Int):Option Y2:=
(l107_0 (a0,a1)).bind fun y1=>(
au (an .u64 (↑y1.1.length:Int)) (
au (an .u64 y1.2) (
(F122 ((↑y1.1.length:Int),y1.2)).bind fun r2=>(
cond (decide (0 < r2.1)) (
none) (
cond (decide (9223372036854775807 < r2.2)) (
none) (
au (an .i64 r2.2) (
au (decide (0≤r2.2)) (
au (decide (8*r2.2≤140737488355328)) (
(l107_1 ((↑(min y1.1.length (List.length (dz r2.2.toNat 0:List Int))):Int),(kC (dz r2.2.toNat 0:List Int) 0 (List.take (min y1.1.length (List.length (dz r2.2.toNat 0:List Int))) y1.1)))).bind fun y3=>(
some y3))))))))))
theorem K2 (F122:sN):aQ (ol F122) rZ [(.t 4)] v5=u2 (GR F122 (l107_0 (ol F122)) (l107_1 (ol F122))):=funext fun _=>by kernel_rfl
noncomputable def K3:=GR kF v7 wa
noncomputable def P107:F4:=u2 K3
theorem K4:aQ (ol kF) rZ [(.t 4)] v5=P107:=(K2 kF).trans (by rw[Ek,En] <;> rfl)
theorem K5:DC Try.prog 107 rZ P107:=dD K4 K1 GQ
noncomputable def FP (F107:F4):List FEnt:=[⟨107,rZ,F107⟩]
theorem PI:am Try.prog (FP P107):=dK aa K5
def AZ:LSh:=⟨[3,11,12,13],⟨[(.ptr 0 0),(.v y19),(.v y7),(.v y7)],k6⟩,[y19,y7,y7,y19,y7,y32,y53],4,[0,2,3]⟩
def A0:List XSh:=[⟨(.exit 0),[3],⟨⟨At,[(0,(.box [(.v y19),(.v y7),(.slr 4),(.mp 2),.emp])),(2,(.pmap 3)),(3,(.pool eI)),(4,(.rows 22 3 y7))]⟩,[y19,y7,y53,y32],[0,2,3],5⟩⟩]
noncomputable def Jz:=cI Try.prog [(5,{ch:=[0,0,0,0,1,1,0,0,0,0,0,0,1],rs:=[3] })] Try.f77 (.s .n (.s (.r [.a 1 true (.opt eI)]) (.s (.s .n (.b (.l AZ A0 (.s .n (.s .n (.s (.b (.s .n (.r [.a 5 false y7,.a 8 true y19,.a 9 true y19]))) .n)))))) .n)))
noncomputable def A1 (T:List FEnt):=aV (xs:=A0) AZ (bR T (sb [1,1,0,1,2,2] Jz))
noncomputable def l77_0 (T:List FEnt):=ah (A1 T)
noncomputable def A2 (F107:F4)(a0:List Int)(a1 a2:Int)(a3:List Int)(a4:Int)(a5:List Y2)(a6:List Y3):Option ((Y2×Int×Int×Y2×Int×Y9×fV)⊕Ow):=
cond (decide (a2 < a1)) (
au (bF a2 a0.length) (
(F107 (([(-1)]:List Int),(ix a0 a2))).bind fun r1=>(
au (cp 24 (List.length a5+List.length ([r1]:List Y2))) (
au (an .i64 (a2+1)) (
some (Sum.inl (a0,a1,(a2+1),a3,a4,(a5++([r1]:List Y2)),a6))))))) (
some (Sum.inr (a3,a4,a6,a5)))
theorem GS (F107:F4):A1 (FP F107)=u7 (A2 F107):=funext fun _=>by kernel_rfl
noncomputable def GT:=A2 P107
noncomputable def A3:Io:=ah (u7 GT)
theorem v77_0:l77_0 (FP P107)=A3:=congrArg ah (GS P107)
theorem K6:L.Fn Try.prog 77 31 [(.t 2)] (erase Jz):=oA Try.func77
def yN:FSh:=⟨⟨[(.st cH)],[]⟩,[cH],0,⟨⟨At,k6⟩,[y19,y7,y32,y53],[],4⟩,false⟩
noncomputable def NL (F107:F4)(l77_0:Io)(a0:Y2×Int):Option OC:=
(l77_0 (a0.1,(↑a0.1.length:Int),0,a0.1,a0.2,([]:List Y2),([]:List Y3))).bind fun y2=>(
some (y2.1,y2.2.1,y2.2.2.2,y2.2.2.1))
theorem g77 (F107:F4)(a0:Y2×Int):aQ (FP F107) yN [(.t 2)] Jz a0=NL F107 (l77_0 (FP F107)) a0:=by kernel_rfl
noncomputable def PJ:=NL P107 A3
noncomputable def yO:t7:=fun x=>PJ x
theorem PK:aQ (FP P107) yN [(.t 2)] Jz=yO:=funext fun x=>(g77 P107 x).trans (by rw[v77_0] <;> rfl)
theorem PL:DC Try.prog 77 yN yO:=dD PK PI K6
noncomputable def K7:List FEnt:=[]
theorem PM:am Try.prog K7:=aa
noncomputable def K8:=cI Try.prog [] Try.f79 .n
theorem K9:L.Fn Try.prog 79 4 [(.t 2)] (erase K8):=oA Try.func79
def yP:FSh:=⟨⟨[(.v di)],[]⟩,[di],0,⟨⟨[(.fn 110 At)],[(0,(.boxT di))]⟩,[di],[],1⟩,false⟩
noncomputable def NM (a0:List Y1):Option Y8:=
some a0
theorem g79 (a0:List Y1):aQ K7 yP [(.t 2)] K8 a0=NM a0:=by kernel_rfl
noncomputable def PN:=NM
noncomputable def yQ:ow:=fun x=>PN x
theorem PO:aQ K7 yP [(.t 2)] K8=yQ:=funext fun x=>(g79 x)
theorem PP:DC Try.prog 79 yP yQ:=dD PO PM K9
noncomputable def Eo (F123:ow):List FEnt:=[⟨123,sh123,F123⟩]
theorem La:am Try.prog (Eo P123):=dK aa Nj
noncomputable def Ep:=cI Try.prog [] Try.f108 .n
theorem GU:L.Fn Try.prog 108 5 [(.t 2)] (erase Ep):=oA Try.func108
def sa:FSh:=⟨⟨[(.fn 110 At)],[(0,(.boxT di))]⟩,[di],1,⟨⟨rV,mf⟩,[di],[],1⟩,false⟩
noncomputable def GV (F123:ow)(a0:List Y1):Option Y8:=
(F123 a0).bind fun r1=>(
some r1)
theorem g108 (F123:ow)(a0:List Y1):aQ (Eo F123) sa [(.t 2)] Ep a0=GV F123 a0:=by kernel_rfl
noncomputable def Lb:=GV P123
noncomputable def P108:ow:=fun x=>Lb x
theorem Lc:aQ (Eo P123) sa [(.t 2)] Ep=P108:=funext fun x=>(g108 P123 x)
theorem Ld:DC Try.prog 108 sa P108:=dD Lc La GU
noncomputable def FQ:List FEnt:=[]
theorem PQ:am Try.prog FQ:=aa
def A4:LSh:=⟨[0,2],⟨[(.v oB),(.v y7)],[]⟩,[oB,y7],0,[]⟩
def A5:List XSh:=[⟨.normal,[0,2],⟨⟨[(.v oB),(.v y7)],[]⟩,[oB,y7],[],0⟩⟩]
noncomputable def JA:=cI Try.prog [] Try.f95 (.s .n (.s (.o A4 A5 .n) .n))
noncomputable def l95_0 (T:List FEnt):=kq (xs:=A5) A4 (bR T (sb [1,0,2] JA))
noncomputable def A6 (a0 a1:Int):Option JV:=
cond (decide (4294967296≤a0)) (
some ((bh .u64 a0 32),32)) (
some (a0,a1))
theorem GW:l95_0 FQ=u2 A6:=funext fun _=>by kernel_rfl
noncomputable def GX:=A6
noncomputable def A7:sN:=fun x=>GX x.1 x.2
theorem v95_0:l95_0 FQ=A7:=GW
theorem Lf:L.Fn Try.prog 95 25 [(.t 2)] (erase JA):=oA Try.func95
def yR:FSh:=⟨⟨[(.v oB)],[]⟩,[oB],0,⟨⟨pU,[]⟩,[y7],[],0⟩,true⟩
noncomputable def NN (l95_0:sN)(a0:Int):Option Int:=
(l95_0 (a0,0)).bind fun y1=>(
cond (decide (65536≤y1.1)) (
au (an .i64 (y1.2+16)) (
cond (decide (256≤(bh .u64 y1.1 16))) (
au (an .i64 ((y1.2+16)+8)) (
au (an .u8 (bh .u64 (bh .u64 y1.1 16) 8)) (
au (bF (bh .u64 (bh .u64 y1.1 16) 8) (ByteArray.size tb)) (
au (an .i64 (um tb (bh .u64 (bh .u64 y1.1 16) 8))) (
au (an .i64 (((y1.2+16)+8)+(um tb (bh .u64 (bh .u64 y1.1 16) 8)))) (
some (((y1.2+16)+8)+(um tb (bh .u64 (bh .u64 y1.1 16) 8))))))))) (
au (an .u8 (bh .u64 y1.1 16)) (
au (bF (bh .u64 y1.1 16) (ByteArray.size tb)) (
au (an .i64 (um tb (bh .u64 y1.1 16))) (
au (an .i64 ((y1.2+16)+(um tb (bh .u64 y1.1 16)))) (
some ((y1.2+16)+(um tb (bh .u64 y1.1 16)))))))))) (
cond (decide (256≤y1.1)) (
au (an .i64 (y1.2+8)) (
au (an .u8 (bh .u64 y1.1 8)) (
au (bF (bh .u64 y1.1 8) (ByteArray.size tb)) (
au (an .i64 (um tb (bh .u64 y1.1 8))) (
au (an .i64 ((y1.2+8)+(um tb (bh .u64 y1.1 8)))) (
some ((y1.2+8)+(um tb (bh .u64 y1.1 8))))))))) (
au (an .u8 y1.1) (
au (bF y1.1 (ByteArray.size tb)) (
au (an .i64 (um tb y1.1)) (
au (an .i64 (y1.2+(um tb y1.1))) (
some (y1.2+(um tb y1.1)))))))))
theorem g95 (a0:Int):aQ FQ yR [(.t 2)] JA a0=NN (l95_0 FQ) a0:=by kernel_rfl
noncomputable def PR:=NN A7
noncomputable def P95:sO:=fun x=>PR x
theorem PS:aQ FQ yR [(.t 2)] JA=P95:=funext fun x=>(g95 x).trans (by rw[v95_0] <;> rfl)
theorem PT:DC Try.prog 95 yR P95:=dD PS PQ Lf
noncomputable def Lg (F95:sO):List FEnt:=[⟨95,yR,F95⟩]
theorem PU:am Try.prog (Lg P95):=dK aa PT
noncomputable def Lh:=cI Try.prog [] Try.f67 .n
theorem Li:L.Fn Try.prog 67 8 [(.t 2)] (erase Lh):=oA Try.func67
def tU:FSh:=⟨⟨[(.v oB)],[]⟩,[oB],0,⟨⟨pU,[]⟩,[y7],[],0⟩,true⟩
noncomputable def NO (F95:sO)(a0:Int):Option Int:=
(F95 a0).bind fun r1=>(
some r1)
theorem g67 (F95:sO)(a0:Int):aQ (Lg F95) tU [(.t 2)] Lh a0=NO F95 a0:=by kernel_rfl
noncomputable def PV:=NO P95
noncomputable def P67:sO:=fun x=>PV x
theorem PW:aQ (Lg P95) tU [(.t 2)] Lh=P67:=funext fun x=>(g67 P95 x)
theorem Lj:DC Try.prog 67 tU P67:=dD PW PU Li
noncomputable def FR:List FEnt:=[]
theorem PX:am Try.prog FR:=aa
def A8:LSh:=⟨[3,6,7,8],⟨[(.v y7),(.v y19),(.v y7),(.v y7)],[]⟩,[y7,y19,y7,y7],0,[]⟩
def A9:List XSh:=[⟨.ret,[2],⟨⟨pU,[]⟩,[y7],[],0⟩⟩,⟨(.exit 0),[3],⟨⟨pU,[]⟩,[y7],[],0⟩⟩]
noncomputable def JB:=cI Try.prog [] Try.f81 (.s .n (.s .n (.s (.s .n (.b (.l A8 A9 .n))) .n)))
noncomputable def Ba (T:List FEnt):=aV (xs:=A9) A8 (bR T (sb [1,1,0,1,2,2] JB))
noncomputable def l81_0 (T:List FEnt):=ah (Ba T)
noncomputable def Bb (a0:Int)(a1:List Int)(a2 a3:Int):Option ((Int×Y2×Int×Int)⊕Oq):=
cond (decide (a3 < a2)) (
au (bF a3 a1.length) (
cond (!decide ((ix a1 a3)=a0)) (
some (Sum.inr (Sum.inl (ix a1 a3)))) (
au (an .i64 (a3+1)) (
some (Sum.inl (a0,a1,a2,(a3+1))))))) (
some (Sum.inr (Sum.inr a0)))
theorem GY:Ba FR=u4 Bb:=funext fun _=>by kernel_rfl
noncomputable def GZ:=Bb
noncomputable def Bc:Ou:=ah (u4 GZ)
theorem v81_0:l81_0 FR=Bc:=congrArg ah GY
theorem Lk:L.Fn Try.prog 81 18 [(.t 2)] (erase JB):=oA Try.func81
def yS:FSh:=⟨⟨[(.v y19)],[]⟩,[y19],0,⟨⟨pU,[]⟩,[y7],[],0⟩,true⟩
noncomputable def NP (l81_0:Ou)(a0:List Int):Option Int:=
(l81_0 (0,a0,(↑a0.length:Int),0)).bind (fun y1=>Sum.elim (fun y2=>(
some y2)) (fun y3=>(
some y3)) y1)
theorem g81 (a0:List Int):aQ FR yS [(.t 2)] JB a0=NP (l81_0 FR) a0:=by kernel_rfl
noncomputable def PY:=NP Bc
noncomputable def FS:ut:=fun x=>PY x
theorem PZ:aQ FR yS [(.t 2)] JB=FS:=funext fun x=>(g81 x).trans (by rw[v81_0] <;> rfl)
theorem P0:DC Try.prog 81 yS FS:=dD PZ PX Lk
noncomputable def Ll (F81:ut):List FEnt:=[⟨81,yS,F81⟩]
theorem P1:am Try.prog (Ll FS):=dK aa P0
noncomputable def Lm:=cI Try.prog [] Try.f80 (.s .n (.s (.r [.a 10 false y7]) .n))
theorem Ln:L.Fn Try.prog 80 17 [(.t 4)] (erase Lm):=oA Try.func80
def yT:FSh:=⟨⟨[(.st eI),(.st eI)],[]⟩,[eI,eI],0,⟨⟨pU,[]⟩,[y7],[],0⟩,true⟩
noncomputable def NQ (F81:ut)(a0 a1:Y1):Option Int:=
au (an .i64 (a0.2.1-a1.2.1)) (
au (an .i64 (a0.1-a1.1)) (
(F81 ([(a0.2.1-a1.2.1),(a0.1-a1.1)]:List Int)).bind fun r1=>(
some r1)))
theorem P2 (F81:ut):aQ (Ll F81) yT [(.t 4)] Lm=u2 (NQ F81):=funext fun _=>by kernel_rfl
noncomputable def P3:=NQ FS
noncomputable def up:CA:=u2 P3
theorem P4:aQ (Ll FS) yT [(.t 4)] Lm=up:=P2 FS
theorem P5:DC Try.prog 80 yT up:=dD P4 P1 Ln
noncomputable def om (F80:CA):List FEnt:=[⟨80,yT,F80⟩]
theorem Lo:am Try.prog (om up):=dK aa P5
def wb:LSh:=⟨[0,1,2,3,8,9],⟨[(.slc 0),(.v y7),(.v y7),(.fn 80 []),(.v y7),(.v y7)],mf⟩,[y7,y7,y7,y7,di],1,[0]⟩
def wc:List XSh:=[⟨(.exit 2),[0,1,2,3,8],⟨⟨j7,mf⟩,[y7,y7,y7,di],[0],1⟩⟩]
def wd:LSh:=⟨[0,1,2,3,8],⟨j7,mf⟩,[y7,y7,y7,di],1,[0]⟩
def we:List XSh:=[⟨(.exit 0),[],⟨⟨[],mf⟩,[di],[0],1⟩⟩]
noncomputable def wg:=cI Try.prog [] Try.f129 (.s .n (.b (.l wd we (.s .n (.s (.b (.s .n (.b (.l wb wc .n)))) .n)))))
noncomputable def wh (T:List FEnt):=aV (xs:=wc) wb (bR T (sb [1,2,2,1,0,2,1,2,2] wg))
noncomputable def l129_1 (T:List FEnt):=ah (wh T)
noncomputable def wj (F80:CA)(a0 a1 a2 a3:Int)(a4:List Y1):Option (OD⊕Nb):=
cond (decide (a0 < a3)) (
au (bF a3 a4.length) (
au (an .i64 (a3-1)) (
au (bF (a3-1) a4.length) (
(F80 ((ix a4 a3),(ix a4 (a3-1)))).bind fun r1=>(
cond (decide (r1 < 0)) (
au (an .i64 (a3-1)) (
au (an .i64 (a3-1)) (
au (bF (a3-1) a4.length) (
au (bF a3 a4.length) (
au (bF a3 a4.length) (
au (bF (a3-1) (List.length (List.set a4 a3.toNat (ix a4 (a3-1))))) (
au (an .i64 (a3-1)) (
some (Sum.inl (a0,a1,a2,(a3-1),(List.set (List.set a4 a3.toNat (ix a4 (a3-1))) (Int.toNat (a3-1)) (ix a4 a3)))))))))))) (
some (Sum.inr (a0,a1,a2,a4)))))))) (
some (Sum.inr (a0,a1,a2,a4)))
theorem Er (F80:CA):wh (om F80)=u5 (wj F80):=funext fun _=>by kernel_rfl
noncomputable def Es:=wj up
noncomputable def wl:Ip:=ah (u5 Es)
theorem Et:l129_1 (om up)=wl:=congrArg ah (Er up)
noncomputable def wm (T:List FEnt):=aV (xs:=we) wd (bR T (sb [1,2,2] wg))
noncomputable def l129_0 (T:List FEnt):=ah (wm T)
noncomputable def wn (F80:CA)(l129_1:Ip)(a0 a1 a2:Int)(a3:List Y1):Option (Nb⊕Y8):=
cond (decide (a2 < a1)) (
(l129_1 (a0,a1,a2,a2,a3)).bind fun y2=>(
au (an .i64 (y2.2.2.1+1)) (
some (Sum.inl (y2.1,y2.2.1,(y2.2.2.1+1),y2.2.2.2))))) (
some (Sum.inr a3))
theorem Eu (F80:CA):wm (om F80)=u4 (wn F80 (l129_1 (om F80))):=funext fun _=>by kernel_rfl
noncomputable def Ev:=wn up wl
noncomputable def wo:F5:=ah (u4 Ev)
theorem Ew:l129_0 (om up)=wo:=congrArg ah ((Eu up).trans (by rw[Et] <;> rfl))
theorem G0:L.Fn Try.prog 129 53 [] (erase wg):=oA Try.func129
def sc:FSh:=⟨⟨[(.slc 0),(.v y7),(.v y7),(.fn 80 [])],mf⟩,[y7,y7,di],1,⟨⟨pT,mf⟩,[di],[0],1⟩,false⟩
noncomputable def G1 (F80:CA)(l129_0:F5)(a0 a1:Int)(a2:List Y1):Option Y8:=
au (an .i64 (a0+1)) (
(l129_0 (a0,a1,(a0+1),a2)).bind fun y3=>(
some y3))
theorem Lp (F80:CA):aQ (om F80) sc [] wg=u3 (G1 F80 (l129_0 (om F80))):=funext fun _=>by kernel_rfl
noncomputable def Lq:=G1 up wo
noncomputable def kG:CC:=u3 Lq
theorem Lr:aQ (om up) sc [] wg=kG:=(Lp up).trans (by rw[Ew] <;> rfl)
theorem Ls:DC Try.prog 129 sc kG:=dD Lr Lo G0
noncomputable def oq (F129:CC):List FEnt:=[⟨129,sc,F129⟩]
theorem Lt:am Try.prog (oq kG):=dK aa Ls
def wp:LSh:=⟨[0,1,2,3,4,10,11,12],⟨j4,mf⟩,[y7,y7,y7,.bool,.bool,y7,di],1,[0]⟩
def wq:List XSh:=[⟨.normal,[0,1,2,3,4,10,11,12],⟨⟨j4,mf⟩,[y7,y7,y7,.bool,.bool,y7,di],[0],1⟩⟩]
def wr:LSh:=⟨[0,1,2,3,4,10,11],⟨[(.slc 0),(.v y7),(.v y7),(.v y7),(.fn 80 []),(.v .bool),(.v .bool)],mf⟩,[y7,y7,y7,.bool,.bool,di],1,[0]⟩
def ws:List XSh:=[⟨.ret,[],⟨⟨[],mf⟩,[di],[0],1⟩⟩]
noncomputable def wt:=cI Try.prog [] Try.f124 (.s .n (.s .n (.b (.l wr ws (.b (.s .n (.s .n (.s .n (.s (.o wp wq .n) .n)))))))))
noncomputable def l124_1 (T:List FEnt):=kq (xs:=wq) wp (bR T (sb [1,1,2,2,2,1,1,1,0,2] wt))
noncomputable def wu (F129:CC)(a0 a1 a2:Int)(a3 a4:Bool)(a5:Int)(a6:List Y1):Option Oy:=
cond (!a3) (
none) (
some (a0,a1,a2,a3,a4,a5,a6))
theorem Ex (F129:CC):l124_1 (oq F129)=u7 (wu F129):=funext fun _=>by kernel_rfl
noncomputable def Ey:=wu kG
noncomputable def ww:Iq:=fun x=>Ey x.1 x.2.1 x.2.2.1 x.2.2.2.1 x.2.2.2.2.1 x.2.2.2.2.2.1 x.2.2.2.2.2.2
theorem Ez:l124_1 (oq kG)=ww:=Ex kG
noncomputable def wx (T:List FEnt):=aV (xs:=ws) wr (bR T (sb [1,1,2,2] wt))
noncomputable def l124_0 (T:List FEnt):=ah (wx T)
noncomputable def wy (F129:CC)(l124_1:Iq)(a0 a1 a2:Int)(a3 a4:Bool)(a5:List Y1):Option ((Int×Int×Int×Bool×Bool×Y8)⊕Y8):=
au (an .i64 (a1-a0)) (
cond (decide ((a1-a0)≤12)) (
(F129 (a0,a1,a5)).bind fun r1=>(
some (Sum.inr r1))) (
cond (decide (a2=0)) (
none) (
(l124_1 (a0,a1,a2,a3,a4,(a1-a0),a5)).bind fun y2=>(
none))))
theorem EA (F129:CC):wx (oq F129)=u6 (wy F129 (l124_1 (oq F129))):=funext fun _=>by kernel_rfl
noncomputable def EB:=wy kG ww
noncomputable def wz:Ox:=ah (u6 EB)
theorem EC:l124_0 (oq kG)=wz:=congrArg ah ((EA kG).trans (by rw[Ez] <;> rfl))
theorem G2:L.Fn Try.prog 124 148 [] (erase wt):=oA Try.func124
def sd:FSh:=⟨⟨[(.slc 0),(.v y7),(.v y7),(.v y7),(.fn 80 [])],mf⟩,[y7,y7,y7,di],1,⟨⟨pT,mf⟩,[di],[0],1⟩,false⟩
noncomputable def G3 (F129:CC)(l124_0:Ox)(a0 a1 a2:Int)(a3:List Y1):Option Y8:=
(l124_0 (a0,a1,a2,true,true,a3)).bind fun y3=>(
some y3)
theorem Lu (F129:CC):aQ (oq F129) sd [] wt=u4 (G3 F129 (l124_0 (oq F129))):=funext fun _=>by kernel_rfl
noncomputable def Lv:=G3 kG wz
noncomputable def P124:F5:=u4 Lv
theorem Lw:aQ (oq kG) sd [] wt=P124:=(Lu kG).trans (by rw[EC] <;> rfl)
theorem Lx:DC Try.prog 124 sd P124:=dD Lw Lt G2
noncomputable def ED (F67:sO)(F124:F5):List FEnt:=[⟨67,tU,F67⟩,⟨124,sd,F124⟩]
theorem Ly:am Try.prog (ED P67 P124):=dK (dK aa Lx) Lj
noncomputable def EE:=cI Try.prog [] Try.f109 .n
theorem G4:L.Fn Try.prog 109 14 [] (erase EE):=oA Try.func109
def se:FSh:=⟨⟨[(.slc 0),(.fn 80 [])],mf⟩,[di],1,⟨⟨pT,mf⟩,[di],[0],1⟩,false⟩
noncomputable def G5 (F67:sO)(F124:F5)(a0:List Y1):Option Y8:=
au (an .u64 (↑a0.length:Int)) (
(F67 (↑a0.length:Int)).bind fun r1=>(
(F124 (0,(↑a0.length:Int),r1,a0)).bind fun r2=>(
some r2)))
theorem g109 (F67:sO)(F124:F5)(a0:List Y1):aQ (ED F67 F124) se [] EE a0=G5 F67 F124 a0:=by kernel_rfl
noncomputable def Lz:=G5 P67 P124
noncomputable def P109:ow:=fun x=>Lz x
theorem LA:aQ (ED P67 P124) se [] EE=P109:=funext fun x=>(g109 P67 P124 x)
theorem LB:DC Try.prog 109 se P109:=dD LA Ly G4
noncomputable def LC (F108:ow)(F109:ow):List FEnt:=[⟨108,sa,F108⟩,⟨109,se,F109⟩]
theorem P6:am Try.prog (LC P108 P109):=dK (dK aa LB) Ld
noncomputable def LD:=cI Try.prog [] Try.f78 .n
theorem LE:L.Fn Try.prog 78 12 [(.t 4)] (erase LD):=oA Try.func78
def yU:FSh:=⟨⟨[(.fn 110 At),(.fn 80 [])],[(0,(.boxT di))]⟩,[di],1,⟨⟨rV,mf⟩,[di],[],1⟩,false⟩
noncomputable def NR (F108 F109:ow)(a0:List Y1):Option Y8:=
(F108 a0).bind fun r1=>(
(F109 r1).bind fun r2=>(
some r2))
theorem g78 (F108 F109:ow)(a0:List Y1):aQ (LC F108 F109) yU [(.t 4)] LD a0=NR F108 F109 a0:=by kernel_rfl
noncomputable def P7:=NR P108 P109
noncomputable def yV:ow:=fun x=>P7 x
theorem P8:aQ (LC P108 P109) yU [(.t 4)] LD=yV:=funext fun x=>(g78 P108 P109 x)
theorem P9:DC Try.prog 78 yU yV:=dD P8 P6 LE
noncomputable def yW:List FEnt:=[]
theorem Qa:am Try.prog yW:=aa
def Bd:LSh:=⟨[0,3,4,5],⟨[(.slc 0),(.v y7),(.slo 0 5),(.v y7)],mf⟩,[y7,y7,y7,y7,di],1,[0]⟩
def Be:List XSh:=[⟨(.exit 2),[0,3],⟨⟨AK,mf⟩,[y7,di],[0],1⟩⟩]
def Bf:LSh:=⟨[0,3],⟨AK,mf⟩,[y7,di],1,[]⟩
def Bg:List XSh:=[⟨.ret,[2],⟨⟨rV,mf⟩,[di],[],1⟩⟩,⟨(.exit 0),[0],⟨⟨rV,mf⟩,[di],[],1⟩⟩]
noncomputable def G6:=cI Try.prog [(7,{ch:=[0,0,1,0] }),(14,{ch:=[0,0,1,0] }),(15,{ch:=[0,0,2,0] })] Try.f82 (.s .n (.s .n (.s (.s .n (.b (.l Bf Bg (.s .n (.s (.b (.s .n (.s (.s .n (.s (.s .n (.b (.l Bd Be .n))) .n)) .n))) .n))))) .n)))
noncomputable def Bh (T:List FEnt):=aV (xs:=Be) Bd (bR T (sb [1,1,0,1,2,2,1,0,2,1,0,1,0,1,2,2] G6))
noncomputable def l82_1 (T:List FEnt):=ah (Bh T)
noncomputable def Bi (a0 a1 a2 a3:Int)(a4:List Y1):Option (OD⊕Il):=
cond (decide (a3 < (↑a2.toNat:Int))) (
au (bF a3 a2.toNat) (
au (an .i64 (a3-1)) (
au (bF (a3-1) a2.toNat) (
cond (!((((decide ((rA a4 (a1.toNat+Int.toNat a3)).1=(rA a4 (a1.toNat+Int.toNat (a3-1))).1)&&decide ((rA a4 (a1.toNat+Int.toNat a3)).2.1=(rA a4 (a1.toNat+Int.toNat (a3-1))).2.1))&&decide ((rA a4 (a1.toNat+Int.toNat a3)).2.2.1=(rA a4 (a1.toNat+Int.toNat (a3-1))).2.2.1))&&decide ((rA a4 (a1.toNat+Int.toNat a3)).2.2.2.1=(rA a4 (a1.toNat+Int.toNat (a3-1))).2.2.2.1))&&decide ((rA a4 (a1.toNat+Int.toNat a3)).2.2.2.2=(rA a4 (a1.toNat+Int.toNat (a3-1))).2.2.2.2))) (
au (bF a3 a2.toNat) (
au (bF a0 a4.length) (
au (an .i64 (a0+1)) (
au (an .i64 (a3+1)) (
some (Sum.inl ((a0+1),(↑a1.toNat:Int),(↑a2.toNat:Int),(a3+1),(List.set a4 a0.toNat (rA a4 (a1.toNat+Int.toNat a3)))))))))) (
au (an .i64 (a3+1)) (
some (Sum.inl (a0,(↑a1.toNat:Int),(↑a2.toNat:Int),(a3+1),a4)))))))) (
some (Sum.inr (a0,a4)))
theorem G7:Bh yW=u5 Bi:=funext fun _=>by kernel_rfl
noncomputable def G8:=Bi
noncomputable def Bj:Ir:=ah (u5 G8)
theorem G9:l82_1 yW=Bj:=congrArg ah G7
noncomputable def Bk (T:List FEnt):=aV (xs:=Bg) Bf (bR T (sb [1,1,0,1,2,2] G6))
noncomputable def l82_0 (T:List FEnt):=ah (Bk T)
noncomputable def Bl (l82_1:Ir)(a0:Int)(a1:List Y1):Option (Il⊕OE):=
cond (decide (a0 < (↑a1.length:Int))) (
au (bF a0 a1.length) (
au (an .i64 (a0-1)) (
au (bF (a0-1) a1.length) (
cond ((((decide ((ix a1 a0).1=(ix a1 (a0-1)).1)&&decide ((ix a1 a0).2.1=(ix a1 (a0-1)).2.1))&&decide ((ix a1 a0).2.2.1=(ix a1 (a0-1)).2.2.1))&&decide ((ix a1 a0).2.2.2.1=(ix a1 (a0-1)).2.2.2.1))&&decide ((ix a1 a0).2.2.2.2=(ix a1 (a0-1)).2.2.2.2)) (
au (decide (0≤a0)) (
au (decide (a0≤(↑a1.length:Int))) (
au (decide ((↑a1.length:Int)≤(↑a1.length:Int))) (
au (decide (0 < List.length a1)) (
(l82_1 (a0,(↑a0.toNat:Int),(↑(Int.toNat ((↑a1.length:Int)-a0)):Int),1,a1)).bind fun y1=>(
au (decide (0≤y1.1)) (
au (decide (y1.1≤(↑y1.2.length:Int))) (
au (decide ((↑y1.2.length:Int)≤(↑y1.2.length:Int))) (
au (decide (0 < List.length y1.2)) (
au (decide (0≤y1.1)) (
au (decide (y1.1≤(↑(List.length (nX y1.2 y1.1.toNat (Int.toNat ((↑y1.2.length:Int)-y1.1)) (0,(0,(0,(0,0)))))):Int))) (
au (decide (0 < List.length (nX y1.2 y1.1.toNat (Int.toNat ((↑y1.2.length:Int)-y1.1)) (0,(0,(0,(0,0))))))) (
some (Sum.inr (Sum.inl (List.take y1.1.toNat (nX y1.2 y1.1.toNat (Int.toNat ((↑y1.2.length:Int)-y1.1)) (0,(0,(0,(0,0))))))))))))))))))))) (
au (an .i64 (a0+1)) (
some (Sum.inl ((a0+1),a1)))))))) (
some (Sum.inr (Sum.inr a1)))
theorem g82_0:Bk yW=u2 (Bl (l82_1 yW)):=funext fun _=>by kernel_rfl
noncomputable def Ha:=Bl Bj
noncomputable def Bm:Is:=ah (u2 Ha)
theorem v82_0:l82_0 yW=Bm:=congrArg ah (g82_0.trans (by rw[G9] <;> rfl))
theorem LF:L.Fn Try.prog 82 61 [(.t 2)] (erase G6):=oA Try.func82
def yX:FSh:=⟨⟨rV,mf⟩,[di],1,⟨⟨rV,mf⟩,[di],[],1⟩,false⟩
noncomputable def NT (l82_0:Is)(a0:List Y1):Option Y8:=
cond (decide ((↑a0.length:Int) < 2)) (
some a0) (
(l82_0 (1,a0)).bind (fun y2=>Sum.elim (fun y3=>(
some y3)) (fun y4=>(
some y4)) y2))
theorem g82 (a0:List Y1):aQ yW yX [(.t 2)] G6 a0=NT (l82_0 yW) a0:=by kernel_rfl
noncomputable def Qb:=NT Bm
noncomputable def yY:ow:=fun x=>Qb x
theorem Qc:aQ yW yX [(.t 2)] G6=yY:=funext fun x=>(g82 x).trans (by rw[v82_0] <;> rfl)
theorem Qd:DC Try.prog 82 yX yY:=dD Qc Qa LF
noncomputable def tV:List FEnt:=[]
theorem LG:am Try.prog tV:=aa
def wA:LSh:=⟨[0,1,2,11,12],⟨j8,k3⟩,z5,5,[0,1,2,3,4]⟩
def wB:List XSh:=[⟨(.exit 0),[1,2],⟨⟨[(.pel 1),(.v y7)],k3⟩,z7,[0,1,2,3,4],5⟩⟩]
noncomputable def yZ:=cI Try.prog [] Try.f111 (.s (.s .n (.b (.l wA wB .n))) .n)
noncomputable def wC (T:List FEnt):=aV (xs:=wB) wA (bR T (sb [0,1,2,2] yZ))
noncomputable def l111_0 (T:List FEnt):=ah (wC T)
noncomputable def wD (a0 a1 a2 a3:Int)(a4:List Int)(a5:Int)(a6:List Y3)(a7:List Y2)(a8:List Int):Option It:=
cond (decide (a3 < a2)) (
au (bF ((pd a6 a0).2.1) a7.length) (
au (an .i64 ((pd a6 a0).2.2.1+a3)) (
au (bF ((pd a6 a0).2.2.1+a3) (List.length (ix a7 ((pd a6 a0).2.1)))) (
au (an .i64 (a3+1)) (
some (Sum.inl (a0,a1,a2,(a3+1),a4,a5,a6,(List.set a7 (Int.toNat ((pd a6 a0).2.1)) (List.set (ix a7 ((pd a6 a0).2.1)) (Int.toNat ((pd a6 a0).2.2.1+a3)) (-1))),a8))))))) (
some (Sum.inr (a0,a1,a4,a5,a6,a7,a8)))
theorem EF:wC tV=u9 wD:=funext fun _=>by kernel_rfl
noncomputable def EG:=wD
noncomputable def wE:zL:=ah (u9 EG)
theorem EH:l111_0 tV=wE:=congrArg ah EF
theorem Hb:L.Fn Try.prog 111 48 [] (erase yZ):=oA Try.func111
def sf:FSh:=⟨⟨[(.ptr 0 0),(.pel 1),(.v y7)],k3⟩,z7,5,⟨⟨pT,k3⟩,[y19,y7,y53,y32,y19],[0,1,2,3,4],5⟩,false⟩
noncomputable def Hc (l111_0:zL)(a0 a1:Int)(a2:List Int)(a3:Int)(a4:List Y3)(a5:List Y2)(a6:List Int):Option Nc:=
(l111_0 (a0,a1,(pd a4 a0).2.2.2.1,0,a2,a3,a4,a5,a6)).bind fun y1=>(
some (y1.2.2.1,y1.2.2.2.1,(Ng (Nf (F6 y1.2.2.2.2.1 y1.1 y1.2.1) y1.1 (-1)) y1.1 (-1)),y1.2.2.2.2.2.1,y1.2.2.2.2.2.2))
theorem g111:aQ tV sf [] yZ=u7 (Hc (l111_0 tV)):=funext fun _=>by kernel_rfl
noncomputable def LH:=Hc wE
noncomputable def P111:my:=u7 LH
theorem LI:aQ tV sf [] yZ=P111:=g111.trans (by rw[EH] <;> rfl)
theorem LJ:DC Try.prog 111 sf P111:=dD LI LG Hb
noncomputable def FT (F111:my):List FEnt:=[⟨111,sf,F111⟩]
theorem Qe:am Try.prog (FT P111):=dK aa LJ
def Bn:LSh:=⟨[0,1],⟨FI,[(0,(.box [(.v y19),(.v y7),(.slr 1),(.mpl 2),(.slc 3)])),(1,(.rows 22 3 y7)),(2,(.gone 4)),(3,(.row 3 y7)),(4,(.pool eI))]⟩,z8,5,[0,1,2,3,4]⟩
noncomputable def JC:=cI Try.prog [] Try.f83 (.m [] Bn .n)
noncomputable def Hd:DCode:=sb [2] JC
noncomputable def Bo (T:List FEnt):=iY Bn 10 13 4 (fun K=>bR T Hd (fU 1 K))
noncomputable def l83_0 (T:List FEnt)(es:List Int)(x:uu):Option uu:=@rngF _ _ (decDens [y7,y19,y7,y32,y19,y53]) es (Bo T) x
noncomputable def Bp (F111:my)(a0:Int)(a1:List Int)(a2:Int)(a3:List Y2)(a4:List Int)(a5:List Y3)(e:Int):Option uu:=
cond (decide ((pd a5 e).1=2)) (
au (an .i64 ((pd a5 e).2.2.2.2+a2)) (
cond (decide (((pd a5 e).2.2.2.2+a2)≤a0)) (
(F111 (e,4,a1,a2,a5,a3,a4)).bind fun r1=>(
some (a0,r1.1,r1.2.1,r1.2.2.2.1,r1.2.2.2.2,r1.2.2.1))) (
some (a0,a1,a2,a3,a4,a5)))) (
some (a0,a1,a2,a3,a4,a5))
theorem g83_0 (F111:my)(a0:Int)(a1:List Int)(a2:Int)(a3:List Y2)(a4:List Int)(a5:List Y3)(e:Int):Bo (FT F111) (a0,a1,a2,a3,a4,a5) e=Bp F111 a0 a1 a2 a3 a4 a5 e:=by kernel_rfl
noncomputable def He (a0:Int)(a1:List Int)(a2:Int)(a3:List Y2)(a4:List Int)(a5:List Y3)(e:Int):Option uu:=Bp P111 a0 a1 a2 a3 a4 a5 e
noncomputable def Bq (es:List Int)(x:uu):Option uu:=@rngF _ _ (decDens [y7,y19,y7,y32,y19,y53]) es (fun x e=>He x.1 x.2.1 x.2.2.1 x.2.2.2.1 x.2.2.2.2.1 x.2.2.2.2.2 e) x
theorem Hf:l83_0 (FT P111)=Bq:=funext fun es=>funext fun x=>congrArg (fun s=>@rngF _ _ (decDens [y7,y19,y7,y32,y19,y53]) es s x) (funext fun x=>funext fun e=>(g83_0 P111 x.1 x.2.1 x.2.2.1 x.2.2.2.1 x.2.2.2.2.1 x.2.2.2.2.2 e))
theorem LK:L.Fn Try.prog 83 38 [] (erase JC):=oA Try.func83
def y6:FSh:=⟨⟨FI,k4⟩,z8,5,⟨⟨pT,k4⟩,z9,[0,1,2,3,4],5⟩,false⟩
noncomputable def NU (F111:my)(l83_0:List Int→uu→Option uu)(a0:Int)(a1:List Int)(a2:Int)(a3:List Y2)(a4:List Int)(a5:List Y3):Option pJ:=
(l83_0 (List.map (·.1) a5) (a0,a1,a2,a3,a4,a5)).bind fun y2=>(
some (y2.2.1,y2.2.2.1,y2.2.2.2.1,y2.2.2.2.2.1,y2.2.2.2.2.2))
theorem Qf (F111:my):aQ (FT F111) y6 [] JC=u6 (NU F111 (l83_0 (FT F111))):=funext fun _=>by kernel_rfl
noncomputable def Qg:=NU P111 Bq
noncomputable def y8:t8:=u6 Qg
theorem Qh:aQ (FT P111) y6 [] JC=y8:=(Qf P111).trans (by rw[Hf] <;> rfl)
theorem Qi:DC Try.prog 83 y6 y8:=dD Qh Qe LK
end Go.Proofs.Ytdkaijofmigmbaa.D
