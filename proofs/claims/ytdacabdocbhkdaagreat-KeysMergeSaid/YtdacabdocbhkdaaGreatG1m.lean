/- Cut down from a longer text. -/
import Derived.Test.YtdacabdocbhkdaaGreatG0m
import Derived.Test.YtdacabdocbhkdaaGreatProg
set_option linter.unusedVariables false
set_option maxRecDepth 100000
namespace Go.Proofs.YtdacabdocbhkdaaGreat.D
open Go Go.Proofs L
noncomputable def T50 (F62:Y7)(F93:Y8)(F63:Y6)(F95:Y10)(F97:Y51)(F98:Y34):List FEnt:=[⟨62,sh62,F62⟩,⟨93,sh93,F93⟩,⟨63,sh63,F63⟩,⟨95,sh95,F95⟩,⟨97,sh97,F97⟩,⟨98,sh98,F98⟩]
theorem t50:DTblOK Tryz.prog (T50 P62 P93 P63 P95 P97 P98):=(DTbl_cons' d62 (by kernel_rfl) (DTbl_cons' d93 (by kernel_rfl) (DTbl_cons' d63 (by kernel_rfl) (DTbl_cons' d95 (by kernel_rfl) (DTbl_cons' d97 (by kernel_rfl) (DTbl_cons' d98 (by kernel_rfl) DTbl_nil))))))
def h50_0:LSh:=⟨[1,3,4,39,40,41],⟨[(.ptr 0 0),(.fn 87 [(.ptr 0 0)]),(.fn 94 []),(.v y78),(.v y13),(.v y13)],[(0,(.boxT y91))]⟩,[y78,y13,y13,y91],1,[0]⟩
def x50_0:List XSh:=[⟨.ret,[2],⟨⟨[(.v .bool)],[(0,(.boxT y91))]⟩,[.bool,y91],[0],1⟩⟩,⟨(.exit 0),[1,3,4],⟨⟨[(.ptr 0 0),(.fn 87 [(.ptr 0 0)]),(.fn 94 [])],[(0,(.boxT y91))]⟩,[y91],[0],1⟩⟩]
def h50_1:LSh:=⟨[1,3,4,76,77,78],⟨[(.ptr 0 0),(.fn 87 [(.ptr 0 0)]),(.fn 94 []),(.v y25),(.v y13),(.v y13)],[(0,(.boxT y91))]⟩,[y25,y13,y13,y91],1,[0]⟩
def x50_1:List XSh:=[⟨.ret,[2],⟨⟨[(.v .bool)],[(0,(.boxT y91))]⟩,[.bool,y91],[0],1⟩⟩,⟨(.exit 2),[1,3,4],⟨⟨[(.ptr 0 0),(.fn 87 [(.ptr 0 0)]),(.fn 94 [])],[(0,(.boxT y91))]⟩,[y91],[0],1⟩⟩]
noncomputable def c50:=anF Tryz.prog [] Tryz.f50 (.s .n (.s .n (.s .n (.s .n (.s (.s .n (.b (.l h50_0 x50_0 .n))) (.s (.s .n (.b (.l h50_1 x50_1 .n))) .n))))))
noncomputable def s50_0 (T:List FEnt):=dstep (xs:=x50_0) h50_0 (dxc T (sb [1,1,1,1,0,1,2,2] c50))
noncomputable def l50_0 (T:List FEnt):=whileF (s50_0 T)
noncomputable def q50_0 (F62:Y7)(F93:Y8)(F63:Y6)(F95:Y10)(F97:Y51)(F98:Y34)(a0:List Y15)(a1 a2:Int)(a3:Y42):Option Y138:=
cond (decide (a2 < a1)) (
chk (inR a2 a0.length) (
(F62 ((ix a0 a2).1)).bind fun r1=>(
cond (!r1) (
some (Sum.inr (Sum.inl (false,a3)))) (
(F62 ((ix a0 a2).2.1)).bind fun r2=>(
cond (!r2) (
some (Sum.inr (Sum.inl (false,a3)))) (
(F93 ((ix a0 a2).2.2.1,12)).bind fun r3=>(
cond (!r3) (
some (Sum.inr (Sum.inl (false,a3)))) (
(F63 ((ix a0 a2).2.2.2.1,0,(ix a0 a2).2.2.2.2)).bind fun r4=>(
cond (!r4) (
some (Sum.inr (Sum.inl (false,a3)))) (
cond (decide (9999 < (ix a0 a2).2.2.2.2)) (
some (Sum.inr (Sum.inl (false,a3)))) (
chk (fits .i64 (a2+1)) (
some (Sum.inl (a0,a1,(a2+1),a3)))))))))))))) (
some (Sum.inr (Sum.inr a3)))
theorem g50_0 (F62:Y7)(F93:Y8)(F63:Y6)(F95:Y10)(F97:Y51)(F98:Y34)(a0:List Y15)(a1 a2:Int)(a3:Y42):s50_0 (T50 F62 F93 F63 F95 F97 F98) (a0,a1,a2,a3)=q50_0 F62 F93 F63 F95 F97 F98 a0 a1 a2 a3:=by kernel_rfl
noncomputable def p50_0:=q50_0 P62 P93 P63 P95 P97 P98
noncomputable def L50_0:Y136:=whileF (fun x=>p50_0 x.1 x.2.1 x.2.2.1 x.2.2.2)
theorem v50_0:l50_0 (T50 P62 P93 P63 P95 P97 P98) =L50_0:=congrArg whileF (funext fun x=>(g50_0 P62 P93 P63 P95 P97 P98 x.1 x.2.1 x.2.2.1 x.2.2.2))
noncomputable def s50_1 (T:List FEnt):=dstep (xs:=x50_1) h50_1 (dxc T (sb [1,1,1,1,1,0,1,2,2] c50))
noncomputable def l50_1 (T:List FEnt):=whileF (s50_1 T)
noncomputable def q50_1 (F62:Y7)(F93:Y8)(F63:Y6)(F95:Y10)(F97:Y51)(F98:Y34)(a0:List Int)(a1 a2:Int)(a3:Y42):Option Y139:=
cond (decide (a2 < a1)) (
chk (inR a2 a0.length) (
(F62 (ix a0 a2)).bind fun r8=>(
cond (!r8) (
some (Sum.inr (Sum.inl (false,a3)))) (
chk (fits .i64 (a2+1)) (
some (Sum.inl (a0,a1,(a2+1),a3))))))) (
some (Sum.inr (Sum.inr a3)))
theorem g50_1 (F62:Y7)(F93:Y8)(F63:Y6)(F95:Y10)(F97:Y51)(F98:Y34)(a0:List Int)(a1 a2:Int)(a3:Y42):s50_1 (T50 F62 F93 F63 F95 F97 F98) (a0,a1,a2,a3)=q50_1 F62 F93 F63 F95 F97 F98 a0 a1 a2 a3:=by kernel_rfl
noncomputable def p50_1:=q50_1 P62 P93 P63 P95 P97 P98
noncomputable def L50_1:Y137:=whileF (fun x=>p50_1 x.1 x.2.1 x.2.2.1 x.2.2.2)
theorem v50_1:l50_1 (T50 P62 P93 P63 P95 P97 P98) =L50_1:=congrArg whileF (funext fun x=>(g50_1 P62 P93 P63 P95 P97 P98 x.1 x.2.1 x.2.2.1 x.2.2.2))
theorem ok50:L.Fn Tryz.prog 50 101 [(.t 2)] (erase c50):=Fn.ofA hmix Tryz.func50 _ _ (by kernel_rfl)
def sh50:FSh:=⟨⟨[(.st y91)],[]⟩,[y91],0,⟨⟨[(.v .bool)],[]⟩,[.bool],[],0⟩,true⟩
noncomputable def q50 (F62:Y7)(F93:Y8)(F63:Y6)(F95:Y10)(F97:Y51)(F98:Y34)(l50_0:Y136)(l50_1:Y137)(a0:Y42):Option Bool:=
cond (decide (12 < (↑a0.1.length:Int))) (
some false) (
cond (decide (8 < (↑a0.2.1.length:Int))) (
some false) (
cond (decide (6 < (↑a0.2.2.1.length:Int))) (
some false) (
cond (decide (20 < (↑a0.2.2.2.1.length:Int))) (
some false) (
cond (decide (20 < (↑a0.2.2.2.2.length:Int))) (
some false) (
(l50_0 (a0.2.2.2.1,(↑a0.2.2.2.1.length:Int),0,a0)).bind (fun y5=>Sum.elim (fun y6=>(
some y6.1)) (fun y7=>(
(l50_1 (y7.2.2.2.2,(↑y7.2.2.2.2.length:Int),0,y7)).bind (fun y9=>Sum.elim (fun y10=>(
some y10.1)) (fun y11=>(
(F95 y11.1).bind fun r12=>(
cond r12 (
(F97 (y11.2.1,y11)).bind fun r13=>(
cond r13 (
(F98 y11.2.2.1).bind fun r14=>(
some r14)) (
some false))) (
some false)))) y9))) y5))))))
theorem g50 (F62:Y7)(F93:Y8)(F63:Y6)(F95:Y10)(F97:Y51)(F98:Y34)(a0:Y42):dxf (T50 F62 F93 F63 F95 F97 F98) sh50 [(.t 2)] c50 a0=q50 F62 F93 F63 F95 F97 F98 (l50_0 (T50 F62 F93 F63 F95 F97 F98)) (l50_1 (T50 F62 F93 F63 F95 F97 F98)) a0:=by kernel_rfl
noncomputable def p50:=q50 P62 P93 P63 P95 P97 P98 L50_0 L50_1
noncomputable def P50:Y44:=fun x=>p50 x
theorem v50:dxf (T50 P62 P93 P63 P95 P97 P98) sh50 [(.t 2)] c50=P50:=funext fun x=>(g50 P62 P93 P63 P95 P97 P98 x).trans (by rw[v50_0,v50_1] <;> rfl)
theorem d50:DC Tryz.prog 50 sh50 P50:=DC_eq v50 (dxf_sound t50 ok50 (by kernel_rfl))
noncomputable def T125:List FEnt:=[]
theorem t125:DTblOK Tryz.prog T125:=DTbl_nil
def h125_0:LSh:=⟨[0,1,12,13],⟨[(.v y25),(.v y25),(.v y13),(.v y13)],[]⟩,[y25,y25,y13,y13],0,[]⟩
def x125_0:List XSh:=[⟨.ret,[4],⟨⟨[(.v .bool)],[]⟩,[.bool],[],0⟩⟩,⟨(.exit 0),[],⟨⟨[],[]⟩,[],[],0⟩⟩]
noncomputable def c125:=anF Tryz.prog [] Tryz.f125 (.s .n (.s .n (.s (.s .n (.b (.l h125_0 x125_0 .n))) .n)))
noncomputable def s125_0 (T:List FEnt):=dstep (xs:=x125_0) h125_0 (dxc T (sb [1,1,0,1,2,2] c125))
noncomputable def l125_0 (T:List FEnt):=whileF (s125_0 T)
noncomputable def q125_0 (a0 a1:List Int)(a2 a3:Int):Option Y99:=
cond (decide (a3 < a2)) (
chk (inR a3 a0.length) (
chk (inR a3 a1.length) (
cond (!decide ((ix a0 a3)=(ix a1 a3))) (
some (Sum.inr (Sum.inl false))) (
chk (fits .i64 (a3+1)) (
some (Sum.inl (a0,a1,a2,(a3+1)))))))) (
some (Sum.inr (Sum.inr ())))
theorem g125_0 (a0 a1:List Int)(a2 a3:Int):s125_0 T125 (a0,a1,a2,a3)=q125_0 a0 a1 a2 a3:=by kernel_rfl
noncomputable def p125_0:=q125_0
noncomputable def L125_0:Y93:=whileF (fun x=>p125_0 x.1 x.2.1 x.2.2.1 x.2.2.2)
theorem v125_0:l125_0 T125=L125_0:=congrArg whileF (funext fun x=>(g125_0 x.1 x.2.1 x.2.2.1 x.2.2.2))
theorem ok125:L.Fn Tryz.prog 125 26 [(.t 4)] (erase c125):=Fn.ofA hmix Tryz.func125 _ _ (by kernel_rfl)
def sh125:FSh:=⟨⟨[(.v y25),(.v y25)],[]⟩,[y25,y25],0,⟨⟨[(.v .bool)],[]⟩,[.bool],[],0⟩,true⟩
noncomputable def q125 (l125_0:Y93)(a0 a1:List Int):Option Bool:=
cond (!decide ((↑a0.length:Int)=(↑a1.length:Int))) (
some false) (
(l125_0 (a0,a1,(↑a0.length:Int),0)).bind (fun y1=>Sum.elim (fun y2=>(
some y2)) (fun y3=>(
some true)) y1))
theorem g125 (a0 a1:List Int):dxf T125 sh125 [(.t 4)] c125 (a0,a1)=q125 (l125_0 T125) a0 a1:=by kernel_rfl
noncomputable def p125:=q125 L125_0
noncomputable def P125:Y94:=fun x=>p125 x.1 x.2
theorem v125:dxf T125 sh125 [(.t 4)] c125=P125:=funext fun x=>(g125 x.1 x.2).trans (by rw[v125_0] <;> rfl)
theorem d125:DC Tryz.prog 125 sh125 P125:=DC_eq v125 (dxf_sound t125 ok125 (by kernel_rfl))
noncomputable def T101 (F125:Y94):List FEnt:=[⟨125,sh125,F125⟩]
theorem t101:DTblOK Tryz.prog (T101 P125):=(DTbl_cons' d125 (by kernel_rfl) DTbl_nil)
noncomputable def c101:=anF Tryz.prog [] Tryz.f101 .n
theorem ok101:L.Fn Tryz.prog 101 38 [(.t 4)] (erase c101):=Fn.ofA hmix Tryz.func101 _ _ (by kernel_rfl)
def sh101:FSh:=⟨⟨[(.st y68),(.st y68)],[]⟩,[y68,y68],0,⟨⟨[(.v .bool)],[]⟩,[.bool],[],0⟩,true⟩
noncomputable def q101 (F125:Y94)(a0 a1:Y15):Option Bool:=
cond (decide (a0.1=a1.1)) (
cond (decide (a0.2.1=a1.2.1)) (
cond (decide (a0.2.2.2.1=a1.2.2.2.1)) (
cond (decide (a0.2.2.2.2=a1.2.2.2.2)) (
(F125 (a0.2.2.1,a1.2.2.1)).bind fun r1=>(
some r1)) (
some false)) (
some false)) (
some false)) (
some false)
theorem g101 (F125:Y94)(a0 a1:Y15):dxf (T101 F125) sh101 [(.t 4)] c101 (a0,a1)=q101 F125 a0 a1:=by kernel_rfl
noncomputable def p101:=q101 P125
noncomputable def P101:Y97:=fun x=>p101 x.1 x.2
theorem v101:dxf (T101 P125) sh101 [(.t 4)] c101=P101:=funext fun x=>(g101 P125 x.1 x.2)
theorem d101:DC Tryz.prog 101 sh101 P101:=DC_eq v101 (dxf_sound t101 ok101 (by kernel_rfl))
noncomputable def T100 (F101:Y97):List FEnt:=[⟨101,sh101,F101⟩]
theorem t100:DTblOK Tryz.prog (T100 P101):=(DTbl_cons' d101 (by kernel_rfl) DTbl_nil)
noncomputable def c100:=anF Tryz.prog [] Tryz.f100 .n
theorem ok100:L.Fn Tryz.prog 100 7 [(.t 3)] (erase c100):=Fn.ofA hmix Tryz.func100 _ _ (by kernel_rfl)
def sh100:FSh:=⟨⟨[(.st y68),(.elm y68)],[]⟩,[y68,y68],0,⟨⟨[(.v .bool)],[]⟩,[.bool],[],0⟩,true⟩
noncomputable def q100 (F101:Y97)(a0 a1:Y15):Option Bool:=
(F101 (a0,a1)).bind fun r1=>(
some r1)
theorem g100 (F101:Y97)(a0 a1:Y15):dxf (T100 F101) sh100 [(.t 3)] c100 (a0,a1)=q100 F101 a0 a1:=by kernel_rfl
noncomputable def p100:=q100 P101
noncomputable def P100:Y97:=fun x=>p100 x.1 x.2
theorem v100:dxf (T100 P101) sh100 [(.t 3)] c100=P100:=funext fun x=>(g100 P101 x.1 x.2)
theorem d100:DC Tryz.prog 100 sh100 P100:=DC_eq v100 (dxf_sound t100 ok100 (by kernel_rfl))
noncomputable def T124 (F100:Y97):List FEnt:=[⟨100,sh100,F100⟩]
theorem t124:DTblOK Tryz.prog (T124 P100):=(DTbl_cons' d100 (by kernel_rfl) DTbl_nil)
def h124_0:LSh:=⟨[0,1,7,8],⟨[(.v y78),(.fn 100 [(.elm y68)]),(.v y13),(.v y13)],[]⟩,[y78,y68,y13,y13],0,[]⟩
noncomputable def c124:=anF Tryz.prog [] Tryz.f124 (.s .n (.s (.s .n (.b (.l h124_0 x123_0 .n))) .n))
noncomputable def s124_0 (T:List FEnt):=dstep (xs:=x123_0) h124_0 (dxc T (sb [1,0,1,2,2] c124))
noncomputable def l124_0 (T:List FEnt):=whileF (s124_0 T)
noncomputable def q124_0 (F100:Y97)(a0:List Y15)(a1:Y15)(a2 a3:Int):Option Y122:=
cond (decide (a3 < a2)) (
chk (inR a3 a0.length) (
(F100 ((ix a0 a3),a1)).bind fun r1=>(
cond r1 (
some (Sum.inr (Sum.inl a3))) (
chk (fits .i64 (a3+1)) (
some (Sum.inl (a0,a1,a2,(a3+1)))))))) (
some (Sum.inr (Sum.inr ())))
theorem g124_0 (F100:Y97)(a0:List Y15)(a1:Y15)(a2 a3:Int):s124_0 (T124 F100) (a0,a1,a2,a3)=q124_0 F100 a0 a1 a2 a3:=by kernel_rfl
noncomputable def p124_0:=q124_0 P100
noncomputable def L124_0:Y101:=whileF (fun x=>p124_0 x.1 x.2.1 x.2.2.1 x.2.2.2)
theorem v124_0:l124_0 (T124 P100) =L124_0:=congrArg whileF (funext fun x=>(g124_0 P100 x.1 x.2.1 x.2.2.1 x.2.2.2))
theorem ok124:L.Fn Tryz.prog 124 19 [(.t 4)] (erase c124):=Fn.ofA hmix Tryz.func124 _ _ (by kernel_rfl)
def sh124:FSh:=⟨⟨[(.v y78),(.fn 100 [(.elm y68)])],[]⟩,[y78,y68],0,⟨⟨[(.v y13)],[]⟩,[y13],[],0⟩,true⟩
noncomputable def q124 (F100:Y97)(l124_0:Y101)(a0:List Y15)(a1:Y15):Option Int:=
(l124_0 (a0,a1,(↑a0.length:Int),0)).bind (fun y2=>Sum.elim (fun y3=>(
some y3)) (fun y4=>(
some (-1))) y2)
theorem g124 (F100:Y97)(a0:List Y15)(a1:Y15):dxf (T124 F100) sh124 [(.t 4)] c124 (a0,a1)=q124 F100 (l124_0 (T124 F100)) a0 a1:=by kernel_rfl
noncomputable def p124:=q124 P100 L124_0
noncomputable def P124:Y102:=fun x=>p124 x.1 x.2
theorem v124:dxf (T124 P100) sh124 [(.t 4)] c124=P124:=funext fun x=>(g124 P100 x.1 x.2).trans (by rw[v124_0] <;> rfl)
theorem d124:DC Tryz.prog 124 sh124 P124:=DC_eq v124 (dxf_sound t124 ok124 (by kernel_rfl))
noncomputable def T99 (F124:Y102):List FEnt:=[⟨124,sh124,F124⟩]
theorem t99:DTblOK Tryz.prog (T99 P124):=(DTbl_cons' d124 (by kernel_rfl) DTbl_nil)
noncomputable def c99:=anF Tryz.prog [] Tryz.f99 .n
theorem ok99:L.Fn Tryz.prog 99 9 [(.t 4)] (erase c99):=Fn.ofA hmix Tryz.func99 _ _ (by kernel_rfl)
def sh99:FSh:=⟨⟨[(.v y78),(.fn 100 [(.elm y68)])],[]⟩,[y78,y68],0,⟨⟨[(.v .bool)],[]⟩,[.bool],[],0⟩,true⟩
noncomputable def q99 (F124:Y102)(a0:List Y15)(a1:Y15):Option Bool:=
(F124 (a0,a1)).bind fun r1=>(
some (decide (0≤r1)))
theorem g99 (F124:Y102)(a0:List Y15)(a1:Y15):dxf (T99 F124) sh99 [(.t 4)] c99 (a0,a1)=q99 F124 a0 a1:=by kernel_rfl
noncomputable def p99:=q99 P124
noncomputable def P99:Y103:=fun x=>p99 x.1 x.2
theorem v99:dxf (T99 P124) sh99 [(.t 4)] c99=P99:=funext fun x=>(g99 P124 x.1 x.2)
theorem d99:DC Tryz.prog 99 sh99 P99:=DC_eq v99 (dxf_sound t99 ok99 (by kernel_rfl))
noncomputable def T102:List FEnt:=[]
theorem t102:DTblOK Tryz.prog T102:=DTbl_nil
noncomputable def c102:=anF Tryz.prog [] Tryz.f102 (.s .n (.s .n (.s (.r [.a 0 false y13,.a 2 false y13,.f 4 2 []]) .n)))
theorem ok102:L.Fn Tryz.prog 102 8 [(.t 2)] (erase c102):=Fn.ofA hmix Tryz.func102 _ _ (by kernel_rfl)
def sh102:FSh:=⟨⟨[(.v y25)],[]⟩,[y25],0,⟨⟨[(.v y25)],[]⟩,[y25],[],0⟩,false⟩
noncomputable def q102 (a0:List Int):Option Y2:=
bisn (decide (List.length a0=0)) (
some ([]:List Int)) (
chk (capOk 8 (List.length ([]:List Int)+List.length a0)) (
some (([]:List Int)++a0)))
theorem g102 (a0:List Int):dxf T102 sh102 [(.t 2)] c102 a0=q102 a0:=by kernel_rfl
noncomputable def p102:=q102
noncomputable def P102:Y95:=fun x=>p102 x
theorem v102:dxf T102 sh102 [(.t 2)] c102=P102:=funext fun x=>(g102 x)
theorem d102:DC Tryz.prog 102 sh102 P102:=DC_eq v102 (dxf_sound t102 ok102 (by kernel_rfl))
noncomputable def T104:List FEnt:=[]
theorem t104:DTblOK Tryz.prog T104:=DTbl_nil
noncomputable def c104:=anF Tryz.prog [(1,{ch:=[0,0,0,0,1,0] })] Tryz.f104 .n
theorem ok104:L.Fn Tryz.prog 104 10 [(.t 4)] (erase c104):=Fn.ofA hmix Tryz.func104 _ _ (by kernel_rfl)
def sh104:FSh:=⟨⟨[(.st y68),(.st y68)],[]⟩,[y68,y68],0,⟨⟨[(.v y13)],[]⟩,[y13],[],0⟩,true⟩
noncomputable def q104 (a0 a1:Y15):Option Int:=
some (IntKind.wrap .i64 (a0.1-a1.1))
theorem g104 (a0 a1:Y15):dxf T104 sh104 [(.t 4)] c104 (a0,a1)=q104 a0 a1:=by kernel_rfl
noncomputable def p104:=q104
noncomputable def P104:Y98:=fun x=>p104 x.1 x.2
theorem v104:dxf T104 sh104 [(.t 4)] c104=P104:=funext fun x=>(g104 x.1 x.2)
theorem d104:DC Tryz.prog 104 sh104 P104:=DC_eq v104 (dxf_sound t104 ok104 (by kernel_rfl))
noncomputable def T147 (F104:Y98):List FEnt:=[⟨104,sh104,F104⟩]
theorem t147:DTblOK Tryz.prog (T147 P104):=(DTbl_cons' d104 (by kernel_rfl) DTbl_nil)
def h147_1:LSh:=⟨[0,1,2,3,8,9],⟨[(.slc 0),(.v y13),(.v y13),(.fn 104 []),(.v y13),(.v y13)],[(0,(.row 59 y68))]⟩,[y13,y13,y13,y13,y78],1,[0]⟩
def x147_1:List XSh:=[⟨(.exit 2),[0,1,2,3,8],⟨⟨[(.slc 0),(.v y13),(.v y13),(.fn 104 []),(.v y13)],[(0,(.row 59 y68))]⟩,[y13,y13,y13,y78],[0],1⟩⟩]
def h147_0:LSh:=⟨[0,1,2,3,8],⟨[(.slc 0),(.v y13),(.v y13),(.fn 104 []),(.v y13)],[(0,(.row 59 y68))]⟩,[y13,y13,y13,y78],1,[0]⟩
def x147_0:List XSh:=[⟨(.exit 0),[],⟨⟨[],[(0,(.row 59 y68))]⟩,[y78],[0],1⟩⟩]
noncomputable def c147:=anF Tryz.prog [] Tryz.f147 (.s .n (.b (.l h147_0 x147_0 (.s .n (.s (.b (.s .n (.b (.l h147_1 x147_1 .n)))) .n)))))
noncomputable def s147_1 (T:List FEnt):=dstep (xs:=x147_1) h147_1 (dxc T (sb [1,2,2,1,0,2,1,2,2] c147))
noncomputable def l147_1 (T:List FEnt):=whileF (s147_1 T)
noncomputable def q147_1 (F104:Y98)(a0 a1 a2 a3:Int)(a4:List Y15):Option Y123:=
cond (decide (a0 < a3)) (
chk (inR a3 a4.length) (
chk (fits .i64 (a3-1)) (
chk (inR (a3-1) a4.length) (
(F104 ((ix a4 a3),(ix a4 (a3-1)))).bind fun r1=>(
cond (decide (r1 < 0)) (
chk (fits .i64 (a3-1)) (
chk (fits .i64 (a3-1)) (
chk (inR (a3-1) a4.length) (
chk (inR a3 a4.length) (
chk (inR a3 a4.length) (
chk (inR (a3-1) (List.length (List.set a4 a3.toNat (ix a4 (a3-1))))) (
chk (fits .i64 (a3-1)) (
some (Sum.inl (a0,a1,a2,(a3-1),(List.set (List.set a4 a3.toNat (ix a4 (a3-1))) (Int.toNat (a3-1)) (ix a4 a3)))))))))))) (
some (Sum.inr (a0,a1,a2,a4)))))))) (
some (Sum.inr (a0,a1,a2,a4)))
theorem g147_1 (F104:Y98)(a0 a1 a2 a3:Int)(a4:List Y15):s147_1 (T147 F104) (a0,a1,a2,a3,a4)=q147_1 F104 a0 a1 a2 a3 a4:=by kernel_rfl
noncomputable def p147_1:=q147_1 P104
noncomputable def L147_1:Y116:=whileF (fun x=>p147_1 x.1 x.2.1 x.2.2.1 x.2.2.2.1 x.2.2.2.2)
theorem v147_1:l147_1 (T147 P104) =L147_1:=congrArg whileF (funext fun x=>(g147_1 P104 x.1 x.2.1 x.2.2.1 x.2.2.2.1 x.2.2.2.2))
noncomputable def s147_0 (T:List FEnt):=dstep (xs:=x147_0) h147_0 (dxc T (sb [1,2,2] c147))
noncomputable def l147_0 (T:List FEnt):=whileF (s147_0 T)
noncomputable def q147_0 (F104:Y98)(l147_1:Y116)(a0 a1 a2:Int)(a3:List Y15):Option Y124:=
cond (decide (a2 < a1)) (
(l147_1 (a0,a1,a2,a2,a3)).bind fun y2=>(
chk (fits .i64 (y2.2.2.1+1)) (
some (Sum.inl (y2.1,y2.2.1,(y2.2.2.1+1),y2.2.2.2))))) (
some (Sum.inr a3))
theorem g147_0 (F104:Y98)(a0 a1 a2:Int)(a3:List Y15):s147_0 (T147 F104) (a0,a1,a2,a3)=q147_0 F104 (l147_1 (T147 F104)) a0 a1 a2 a3:=by kernel_rfl
noncomputable def p147_0:=q147_0 P104 L147_1
noncomputable def L147_0:Y104:=whileF (fun x=>p147_0 x.1 x.2.1 x.2.2.1 x.2.2.2)
theorem v147_0:l147_0 (T147 P104) =L147_0:=congrArg whileF (funext fun x=>(g147_0 P104 x.1 x.2.1 x.2.2.1 x.2.2.2).trans (by rw[v147_1] <;> rfl))
theorem ok147:L.Fn Tryz.prog 147 53 [] (erase c147):=Fn.ofA hmix Tryz.func147 _ _ (by kernel_rfl)
def sh147:FSh:=⟨⟨[(.slc 0),(.v y13),(.v y13),(.fn 104 [])],[(0,(.row 59 y68))]⟩,[y13,y13,y78],1,⟨⟨[(.tup [])],[(0,(.row 59 y68))]⟩,[y78],[0],1⟩,false⟩
noncomputable def q147 (F104:Y98)(l147_0:Y104)(a0 a1:Int)(a2:List Y15):Option Y28:=
chk (fits .i64 (a0+1)) (
(l147_0 (a0,a1,(a0+1),a2)).bind fun y3=>(
some y3))
theorem g147 (F104:Y98)(a0 a1:Int)(a2:List Y15):dxf (T147 F104) sh147 [] c147 (a0,a1,a2)=q147 F104 (l147_0 (T147 F104)) a0 a1 a2:=by kernel_rfl
noncomputable def p147:=q147 P104 L147_0
noncomputable def P147:Y106:=fun x=>p147 x.1 x.2.1 x.2.2
theorem v147:dxf (T147 P104) sh147 [] c147=P147:=funext fun x=>(g147 P104 x.1 x.2.1 x.2.2).trans (by rw[v147_0] <;> rfl)
theorem d147:DC Tryz.prog 147 sh147 P147:=DC_eq v147 (dxf_sound t147 ok147 (by kernel_rfl))
noncomputable def T172:List FEnt:=[]
theorem t172:DTblOK Tryz.prog T172:=DTbl_nil
def h172_0:LSh:=⟨[0,1,2,3,10],⟨[(.slc 0),(.v y13),(.v y13),(.v y13),(.v y13)],[(0,(.row 59 y68))]⟩,[y13,y13,y13,y13,y78],1,[0]⟩
noncomputable def c172:=anF Tryz.prog [] Tryz.f172 (.s .n (.b (.l h172_0 x147_0 .n)))
noncomputable def s172_0 (T:List FEnt):=dstep (xs:=x147_0) h172_0 (dxc T (sb [1,2,2] c172))
noncomputable def l172_0 (T:List FEnt):=whileF (s172_0 T)
noncomputable def q172_0 (a0 a1 a2 a3:Int)(a4:List Y15):Option Y125:=
cond (decide (a3 < a2)) (
chk (fits .i64 (a0+a3)) (
chk (fits .i64 (a1+a3)) (
chk (fits .i64 (a1+a3)) (
chk (inR (a1+a3) a4.length) (
chk (fits .i64 (a0+a3)) (
chk (inR (a0+a3) a4.length) (
chk (inR (a0+a3) a4.length) (
chk (inR (a1+a3) (List.length (List.set a4 (Int.toNat (a0+a3)) (ix a4 (a1+a3))))) (
chk (fits .i64 (a3+1)) (
some (Sum.inl (a0,a1,a2,(a3+1),(List.set (List.set a4 (Int.toNat (a0+a3)) (ix a4 (a1+a3))) (Int.toNat (a1+a3)) (ix a4 (a0+a3))))))))))))))) (
some (Sum.inr a4))
theorem g172_0 (a0 a1 a2 a3:Int)(a4:List Y15):s172_0 T172 (a0,a1,a2,a3,a4)=q172_0 a0 a1 a2 a3 a4:=by kernel_rfl
noncomputable def p172_0:=q172_0
noncomputable def L172_0:Y107:=whileF (fun x=>p172_0 x.1 x.2.1 x.2.2.1 x.2.2.2.1 x.2.2.2.2)
theorem v172_0:l172_0 T172=L172_0:=congrArg whileF (funext fun x=>(g172_0 x.1 x.2.1 x.2.2.1 x.2.2.2.1 x.2.2.2.2))
theorem ok172:L.Fn Tryz.prog 172 38 [] (erase c172):=Fn.ofA hmix Tryz.func172 _ _ (by kernel_rfl)
def sh172:FSh:=⟨⟨[(.slc 0),(.v y13),(.v y13),(.v y13),(.fn 104 [])],[(0,(.row 59 y68))]⟩,[y13,y13,y13,y78],1,⟨⟨[(.tup [])],[(0,(.row 59 y68))]⟩,[y78],[0],1⟩,false⟩
noncomputable def q172 (l172_0:Y107)(a0 a1 a2:Int)(a3:List Y15):Option Y28:=
(l172_0 (a0,a1,a2,0,a3)).bind fun y1=>(
some y1)
theorem g172 (a0 a1 a2:Int)(a3:List Y15):dxf T172 sh172 [] c172 (a0,a1,a2,a3)=q172 (l172_0 T172) a0 a1 a2 a3:=by kernel_rfl
noncomputable def p172:=q172 L172_0
noncomputable def P172:Y104:=fun x=>p172 x.1 x.2.1 x.2.2.1 x.2.2.2
theorem v172:dxf T172 sh172 [] c172=P172:=funext fun x=>(g172 x.1 x.2.1 x.2.2.1 x.2.2.2).trans (by rw[v172_0] <;> rfl)
theorem d172:DC Tryz.prog 172 sh172 P172:=DC_eq v172 (dxf_sound t172 ok172 (by kernel_rfl))
noncomputable def T166 (F172:Y104):List FEnt:=[⟨172,sh172,F172⟩]
theorem t166:DTblOK Tryz.prog (T166 P172):=(DTbl_cons' d172 (by kernel_rfl) DTbl_nil)
def h166_0:LSh:=⟨[0,2,4,10,11],⟨[(.slc 0),(.v y13),(.fn 104 []),(.v y13),(.v y13)],[(0,(.row 59 y68))]⟩,[y13,y13,y13,y78],1,[0]⟩
def x166_0:List XSh:=[⟨(.exit 0),[0,2,4,10],⟨⟨[(.slc 0),(.v y13),(.fn 104 []),(.v y13)],[(0,(.row 59 y68))]⟩,[y13,y13,y78],[0],1⟩⟩]
noncomputable def c166:=anF Tryz.prog [] Tryz.f166 (.s .n (.s .n (.s (.b (.l h166_0 x166_0 .n)) .n)))
noncomputable def s166_0 (T:List FEnt):=dstep (xs:=x166_0) h166_0 (dxc T (sb [1,1,0,2,2] c166))
noncomputable def l166_0 (T:List FEnt):=whileF (s166_0 T)
noncomputable def q166_0 (F172:Y104)(a0 a1 a2:Int)(a3:List Y15):Option Y126:=
cond (!decide (a1=a2)) (
cond (decide (a2 < a1)) (
chk (fits .i64 (a0-a1)) (
(F172 ((a0-a1),a0,a2,a3)).bind fun r1=>(
chk (fits .i64 (a1-a2)) (
some (Sum.inl (a0,(a1-a2),a2,r1)))))) (
chk (fits .i64 (a0-a1)) (
chk (fits .i64 (a0+a2)) (
chk (fits .i64 ((a0+a2)-a1)) (
(F172 ((a0-a1),((a0+a2)-a1),a1,a3)).bind fun r2=>(
chk (fits .i64 (a2-a1)) (
some (Sum.inl (a0,a1,(a2-a1),r2))))))))) (
some (Sum.inr (a0,a1,a3)))
theorem g166_0 (F172:Y104)(a0 a1 a2:Int)(a3:List Y15):s166_0 (T166 F172) (a0,a1,a2,a3)=q166_0 F172 a0 a1 a2 a3:=by kernel_rfl
noncomputable def p166_0:=q166_0 P172
noncomputable def L166_0:Y117:=whileF (fun x=>p166_0 x.1 x.2.1 x.2.2.1 x.2.2.2)
theorem v166_0:l166_0 (T166 P172) =L166_0:=congrArg whileF (funext fun x=>(g166_0 P172 x.1 x.2.1 x.2.2.1 x.2.2.2))
theorem ok166:L.Fn Tryz.prog 166 58 [] (erase c166):=Fn.ofA hmix Tryz.func166 _ _ (by kernel_rfl)
def sh166:FSh:=⟨⟨[(.slc 0),(.v y13),(.v y13),(.v y13),(.fn 104 [])],[(0,(.row 59 y68))]⟩,[y13,y13,y13,y78],1,⟨⟨[(.tup [])],[(0,(.row 59 y68))]⟩,[y78],[0],1⟩,false⟩
noncomputable def q166 (F172:Y104)(l166_0:Y117)(a0 a1 a2:Int)(a3:List Y15):Option Y28:=
chk (fits .i64 (a1-a0)) (
chk (fits .i64 (a2-a1)) (
(l166_0 (a1,(a1-a0),(a2-a1),a3)).bind fun y3=>(
chk (fits .i64 (y3.1-y3.2.1)) (
(F172 ((y3.1-y3.2.1),y3.1,y3.2.1,y3.2.2)).bind fun r4=>(
some r4)))))
theorem g166 (F172:Y104)(a0 a1 a2:Int)(a3:List Y15):dxf (T166 F172) sh166 [] c166 (a0,a1,a2,a3)=q166 F172 (l166_0 (T166 F172)) a0 a1 a2 a3:=by kernel_rfl
noncomputable def p166:=q166 P172 L166_0
noncomputable def P166:Y104:=fun x=>p166 x.1 x.2.1 x.2.2.1 x.2.2.2
theorem v166:dxf (T166 P172) sh166 [] c166=P166:=funext fun x=>(g166 P172 x.1 x.2.1 x.2.2.1 x.2.2.2).trans (by rw[v166_0] <;> rfl)
theorem d166:DC Tryz.prog 166 sh166 P166:=DC_eq v166 (dxf_sound t166 ok166 (by kernel_rfl))
def sh148:FSh:=⟨⟨[(.slc 0),(.v y13),(.v y13),(.v y13),(.fn 104 [])],[(0,(.row 59 y68))]⟩,[y13,y13,y13,y78],1,⟨⟨[(.tup [])],[(0,(.row 59 y68))]⟩,[y78],[0],1⟩,false⟩
noncomputable def T148 (F104:Y98)(F166:Y104)(F148:Y104):List FEnt:=[⟨104,sh104,F104⟩,⟨166,sh166,F166⟩,⟨148,sh148,F148⟩]
theorem t148 (F148:Y104)(h:DC Tryz.prog 148 sh148 F148):DTblOK Tryz.prog (T148 P104 P166 F148):=(DTbl_cons' d104 (by kernel_rfl) (DTbl_cons' d166 (by kernel_rfl) (DTbl_cons' h (by kernel_rfl) DTbl_nil)))
def h148_0:LSh:=⟨[0,1,4,10,11],⟨[(.slc 0),(.v y13),(.fn 104 []),(.v y13),(.v y13)],[(0,(.row 59 y68))]⟩,[y13,y13,y13,y78],1,[0]⟩
def x148_0:List XSh:=[⟨(.exit 0),[0,1,10],⟨⟨[(.slc 0),(.v y13),(.v y13)],[(0,(.row 59 y68))]⟩,[y13,y13,y78],[0],1⟩⟩]
def h148_1:LSh:=⟨[0,10,13],⟨[(.slc 0),(.v y13),(.v y13)],[(0,(.row 59 y68))]⟩,[y13,y13,y78],1,[0]⟩
def x148_1:List XSh:=[⟨(.exit 2),[],⟨⟨[],[(0,(.row 59 y68))]⟩,[y78],[0],1⟩⟩]
def h148_2:LSh:=⟨[0,2,4,14,15],⟨[(.slc 0),(.v y13),(.fn 104 []),(.v y13),(.v y13)],[(0,(.row 59 y68))]⟩,[y13,y13,y13,y78],1,[0]⟩
def x148_2:List XSh:=[⟨(.exit 4),[0,2,14],⟨⟨[(.slc 0),(.v y13),(.v y13)],[(0,(.row 59 y68))]⟩,[y13,y13,y78],[0],1⟩⟩]
def h148_3:LSh:=⟨[0,14,17],⟨[(.slc 0),(.v y13),(.v y13)],[(0,(.row 59 y68))]⟩,[y13,y13,y78],1,[0]⟩
def x148_3:List XSh:=[⟨(.exit 6),[],⟨⟨[],[(0,(.row 59 y68))]⟩,[y78],[0],1⟩⟩]
def h148_4:LSh:=⟨[0,1,2,3,4,18,19],⟨[(.slc 0),(.v y13),(.v y13),(.v y13),(.fn 104 []),(.v y13),(.v y13)],[(0,(.row 59 y68))]⟩,[y13,y13,y13,y13,y13,y78],1,[0]⟩
def x148_4:List XSh:=[⟨.normal,[0,1,2,3,4,18,19,20,21],⟨⟨[(.slc 0),(.v y13),(.v y13),(.v y13),(.fn 104 []),(.v y13),(.v y13),(.v y13),(.v y13)],[(0,(.row 59 y68))]⟩,[y13,y13,y13,y13,y13,y13,y13,y78],[0],1⟩⟩]
def h148_5:LSh:=⟨[0,1,2,3,4,18,19,20,21,22],⟨[(.slc 0),(.v y13),(.v y13),(.v y13),(.fn 104 []),(.v y13),(.v y13),(.v y13),(.v y13),(.v y13)],[(0,(.row 59 y68))]⟩,[y13,y13,y13,y13,y13,y13,y13,y13,y78],1,[0]⟩
def x148_5:List XSh:=[⟨(.exit 8),[0,1,2,3,4,18,19,20],⟨⟨[(.slc 0),(.v y13),(.v y13),(.v y13),(.fn 104 []),(.v y13),(.v y13),(.v y13)],[(0,(.row 59 y68))]⟩,[y13,y13,y13,y13,y13,y13,y78],[0],1⟩⟩]
def h148_6:LSh:=⟨[0,1,2,3,4,18,20,24],⟨[(.slc 0),(.v y13),(.v y13),(.v y13),(.fn 104 []),(.v y13),(.v y13),(.v y13)],[(0,(.row 59 y68))]⟩,[y13,y13,y13,y13,y13,y13,y78],1,[0]⟩
def x148_6:List XSh:=[⟨.normal,[0,1,3,4,18,20,24],⟨⟨[(.slc 0),(.v y13),(.v y13),(.fn 104 []),(.v y13),(.v y13),(.v y13)],[(0,(.row 59 y68))]⟩,[y13,y13,y13,y13,y13,y78],[0],1⟩⟩]
noncomputable def c148:=anF Tryz.prog [] Tryz.f148 (.s (.s .n (.s (.s .n (.s .n (.s (.b (.l h148_0 x148_0 .n)) (.s (.s .n (.b (.l h148_1 x148_1 .n))) .n)))) .n)) (.s (.s .n (.s (.s .n (.s .n (.s (.b (.l h148_2 x148_2 .n)) (.s (.s .n (.b (.l h148_3 x148_3 .n))) .n)))) .n)) (.s .n (.s .n (.s .n (.s (.o h148_4 x148_4 .n) (.s .n (.s (.b (.l h148_5 x148_5 .n)) (.s .n (.s (.o h148_6 x148_6 .n) .n))))))))))
noncomputable def s148_0 (T:List FEnt):=dstep (xs:=x148_0) h148_0 (dxc T (sb [0,1,0,1,1,0,2,2] c148))
noncomputable def l148_0 (T:List FEnt):=whileF (s148_0 T)
noncomputable def q148_0 (F104:Y98)(F166 F148:Y104)(a0 a1 a2:Int)(a3:List Y15):Option Y126:=
cond (decide (a1 < a2)) (
chk (fits .i64 (a1+a2)) (
chk (fits .u64 (a1+a2)) (
chk (fits .i64 (shrI .u64 (a1+a2) 1)) (
chk (inR (shrI .u64 (a1+a2) 1) a3.length) (
chk (inR a0 a3.length) (
(F104 ((ix a3 (shrI .u64 (a1+a2) 1)),(ix a3 a0))).bind fun r1=>(
cond (decide (r1 < 0)) (
chk (fits .i64 ((shrI .u64 (a1+a2) 1)+1)) (
some (Sum.inl (a0,((shrI .u64 (a1+a2) 1)+1),a2,a3)))) (
some (Sum.inl (a0,a1,(shrI .u64 (a1+a2) 1),a3)))))))))) (
some (Sum.inr (a0,a1,a3)))
theorem g148_0 (F104:Y98)(F166 F148:Y104)(a0 a1 a2:Int)(a3:List Y15):s148_0 (T148 F104 F166 F148) (a0,a1,a2,a3)=q148_0 F104 F166 F148 a0 a1 a2 a3:=by kernel_rfl
noncomputable def p148_0 (F148:Y104):=q148_0 P104 P166 F148
noncomputable def L148_0 (F148:Y104):Y117:=whileF (fun x=>p148_0 F148 x.1 x.2.1 x.2.2.1 x.2.2.2)
theorem v148_0 (F148:Y104):l148_0 (T148 P104 P166 F148)=L148_0 F148:=congrArg whileF (funext fun x=>(g148_0 P104 P166 F148 x.1 x.2.1 x.2.2.1 x.2.2.2))
noncomputable def s148_1 (T:List FEnt):=dstep (xs:=x148_1) h148_1 (dxc T (sb [0,1,0,1,1,1,0,1,2,2] c148))
noncomputable def l148_1 (T:List FEnt):=whileF (s148_1 T)
noncomputable def q148_1 (F104:Y98)(F166 F148:Y104)(a0 a1:Int)(a2:List Y15):Option Y127:=
chk (fits .i64 (a0-1)) (
cond (decide (a1 < (a0-1))) (
chk (fits .i64 (a1+1)) (
chk (fits .i64 (a1+1)) (
chk (inR (a1+1) a2.length) (
chk (inR a1 a2.length) (
chk (inR a1 a2.length) (
chk (inR (a1+1) (List.length (List.set a2 a1.toNat (ix a2 (a1+1))))) (
chk (fits .i64 (a1+1)) (
some (Sum.inl (a0,(a1+1),(List.set (List.set a2 a1.toNat (ix a2 (a1+1))) (Int.toNat (a1+1)) (ix a2 a1)))))))))))) (
some (Sum.inr a2)))
theorem g148_1 (F104:Y98)(F166 F148:Y104)(a0 a1:Int)(a2:List Y15):s148_1 (T148 F104 F166 F148) (a0,a1,a2)=q148_1 F104 F166 F148 a0 a1 a2:=by kernel_rfl
noncomputable def p148_1 (F148:Y104):=q148_1 P104 P166 F148
noncomputable def L148_1 (F148:Y104):Y106:=whileF (fun x=>p148_1 F148 x.1 x.2.1 x.2.2)
theorem v148_1 (F148:Y104):l148_1 (T148 P104 P166 F148)=L148_1 F148:=congrArg whileF (funext fun x=>(g148_1 P104 P166 F148 x.1 x.2.1 x.2.2))
noncomputable def s148_2 (T:List FEnt):=dstep (xs:=x148_2) h148_2 (dxc T (sb [1,0,1,0,1,1,0,2,2] c148))
noncomputable def l148_2 (T:List FEnt):=whileF (s148_2 T)
noncomputable def q148_2 (F104:Y98)(F166 F148:Y104)(a0 a1 a2:Int)(a3:List Y15):Option Y126:=
cond (decide (a1 < a2)) (
chk (fits .i64 (a1+a2)) (
chk (fits .u64 (a1+a2)) (
chk (fits .i64 (shrI .u64 (a1+a2) 1)) (
chk (inR a0 a3.length) (
chk (inR (shrI .u64 (a1+a2) 1) a3.length) (
(F104 ((ix a3 a0),(ix a3 (shrI .u64 (a1+a2) 1)))).bind fun r4=>(
cond (!(decide (r4 < 0))) (
chk (fits .i64 ((shrI .u64 (a1+a2) 1)+1)) (
some (Sum.inl (a0,((shrI .u64 (a1+a2) 1)+1),a2,a3)))) (
some (Sum.inl (a0,a1,(shrI .u64 (a1+a2) 1),a3)))))))))) (
some (Sum.inr (a0,a1,a3)))
theorem g148_2 (F104:Y98)(F166 F148:Y104)(a0 a1 a2:Int)(a3:List Y15):s148_2 (T148 F104 F166 F148) (a0,a1,a2,a3)=q148_2 F104 F166 F148 a0 a1 a2 a3:=by kernel_rfl
noncomputable def p148_2 (F148:Y104):=q148_2 P104 P166 F148
noncomputable def L148_2 (F148:Y104):Y117:=whileF (fun x=>p148_2 F148 x.1 x.2.1 x.2.2.1 x.2.2.2)
theorem v148_2 (F148:Y104):l148_2 (T148 P104 P166 F148)=L148_2 F148:=congrArg whileF (funext fun x=>(g148_2 P104 P166 F148 x.1 x.2.1 x.2.2.1 x.2.2.2))
noncomputable def s148_3 (T:List FEnt):=dstep (xs:=x148_3) h148_3 (dxc T (sb [1,0,1,0,1,1,1,0,1,2,2] c148))
noncomputable def l148_3 (T:List FEnt):=whileF (s148_3 T)
noncomputable def q148_3 (F104:Y98)(F166 F148:Y104)(a0 a1:Int)(a2:List Y15):Option Y127:=
cond (decide (a0 < a1)) (
chk (fits .i64 (a1-1)) (
chk (fits .i64 (a1-1)) (
chk (inR (a1-1) a2.length) (
chk (inR a1 a2.length) (
chk (inR a1 a2.length) (
chk (inR (a1-1) (List.length (List.set a2 a1.toNat (ix a2 (a1-1))))) (
chk (fits .i64 (a1-1)) (
some (Sum.inl (a0,(a1-1),(List.set (List.set a2 a1.toNat (ix a2 (a1-1))) (Int.toNat (a1-1)) (ix a2 a1)))))))))))) (
some (Sum.inr a2))
theorem g148_3 (F104:Y98)(F166 F148:Y104)(a0 a1:Int)(a2:List Y15):s148_3 (T148 F104 F166 F148) (a0,a1,a2)=q148_3 F104 F166 F148 a0 a1 a2:=by kernel_rfl
noncomputable def p148_3 (F148:Y104):=q148_3 P104 P166 F148
noncomputable def L148_3 (F148:Y104):Y106:=whileF (fun x=>p148_3 F148 x.1 x.2.1 x.2.2)
theorem v148_3 (F148:Y104):l148_3 (T148 P104 P166 F148)=L148_3 F148:=congrArg whileF (funext fun x=>(g148_3 P104 P166 F148 x.1 x.2.1 x.2.2))
noncomputable def l148_4 (T:List FEnt):=onceF (xs:=x148_4) h148_4 (dxc T (sb [1,1,1,1,1,0,2] c148))
noncomputable def q148_4 (F104:Y98)(F166 F148:Y104)(a0 a1 a2 a3 a4:Int)(a5:List Y15):Option Y109:=
cond (decide (a3 < a1)) (
chk (fits .i64 (a4-a2)) (
some (a0,a1,a2,a3,a4,(a4-a2),a3,a5))) (
some (a0,a1,a2,a3,a4,a0,a1,a5))
theorem g148_4 (F104:Y98)(F166 F148:Y104)(a0 a1 a2 a3 a4:Int)(a5:List Y15):l148_4 (T148 F104 F166 F148) (a0,a1,a2,a3,a4,a5)=q148_4 F104 F166 F148 a0 a1 a2 a3 a4 a5:=by kernel_rfl
noncomputable def p148_4 (F148:Y104):=q148_4 P104 P166 F148
noncomputable def L148_4 (F148:Y104):Y118:=fun x=>p148_4 F148 x.1 x.2.1 x.2.2.1 x.2.2.2.1 x.2.2.2.2.1 x.2.2.2.2.2
theorem v148_4 (F148:Y104):l148_4 (T148 P104 P166 F148)=L148_4 F148:=funext fun x=>(g148_4 P104 P166 F148 x.1 x.2.1 x.2.2.1 x.2.2.2.1 x.2.2.2.2.1 x.2.2.2.2.2)
noncomputable def s148_5 (T:List FEnt):=dstep (xs:=x148_5) h148_5 (dxc T (sb [1,1,1,1,1,1,1,0,2,2] c148))
noncomputable def l148_5 (T:List FEnt):=whileF (s148_5 T)
noncomputable def q148_5 (F104:Y98)(F166 F148:Y104)(a0 a1 a2 a3 a4 a5 a6 a7:Int)(a8:List Y15):Option Y128:=
cond (decide (a5 < a6)) (
chk (fits .i64 (a5+a6)) (
chk (fits .u64 (a5+a6)) (
chk (fits .i64 (shrI .u64 (a5+a6) 1)) (
chk (fits .i64 (a7-(shrI .u64 (a5+a6) 1))) (
chk (inR (a7-(shrI .u64 (a5+a6) 1)) a8.length) (
chk (inR (shrI .u64 (a5+a6) 1) a8.length) (
(F104 ((ix a8 (a7-(shrI .u64 (a5+a6) 1))),(ix a8 (shrI .u64 (a5+a6) 1)))).bind fun r8=>(
cond (!(decide (r8 < 0))) (
chk (fits .i64 ((shrI .u64 (a5+a6) 1)+1)) (
some (Sum.inl (a0,a1,a2,a3,a4,((shrI .u64 (a5+a6) 1)+1),a6,a7,a8)))) (
some (Sum.inl (a0,a1,a2,a3,a4,a5,(shrI .u64 (a5+a6) 1),a7,a8))))))))))) (
some (Sum.inr (a0,a1,a2,a3,a4,a5,a8)))
theorem g148_5 (F104:Y98)(F166 F148:Y104)(a0 a1 a2 a3 a4 a5 a6 a7:Int)(a8:List Y15):s148_5 (T148 F104 F166 F148) (a0,a1,a2,a3,a4,a5,a6,a7,a8)=q148_5 F104 F166 F148 a0 a1 a2 a3 a4 a5 a6 a7 a8:=by kernel_rfl
noncomputable def p148_5 (F148:Y104):=q148_5 P104 P166 F148
noncomputable def L148_5 (F148:Y104):Y119:=whileF (fun x=>p148_5 F148 x.1 x.2.1 x.2.2.1 x.2.2.2.1 x.2.2.2.2.1 x.2.2.2.2.2.1 x.2.2.2.2.2.2.1 x.2.2.2.2.2.2.2.1 x.2.2.2.2.2.2.2.2)
theorem v148_5 (F148:Y104):l148_5 (T148 P104 P166 F148)=L148_5 F148:=congrArg whileF (funext fun x=>(g148_5 P104 P166 F148 x.1 x.2.1 x.2.2.1 x.2.2.2.1 x.2.2.2.2.1 x.2.2.2.2.2.1 x.2.2.2.2.2.2.1 x.2.2.2.2.2.2.2.1 x.2.2.2.2.2.2.2.2))
noncomputable def l148_6 (T:List FEnt):=onceF (xs:=x148_6) h148_6 (dxc T (sb [1,1,1,1,1,1,1,1,1,0,2] c148))
noncomputable def q148_6 (F104:Y98)(F166 F148:Y104)(a0 a1 a2 a3 a4 a5:Int)(a6:List Y15):Option Y111:=
cond (decide (a4 < a1)) (
cond (decide (a1 < a5)) (
(F166 (a4,a1,a5,a6)).bind fun r10=>(
some (a0,a2,a3,a4,a5,r10))) (
some (a0,a2,a3,a4,a5,a6))) (
some (a0,a2,a3,a4,a5,a6))
theorem g148_6 (F104:Y98)(F166 F148:Y104)(a0 a1 a2 a3 a4 a5:Int)(a6:List Y15):l148_6 (T148 F104 F166 F148) (a0,a1,a2,a3,a4,a5,a6)=q148_6 F104 F166 F148 a0 a1 a2 a3 a4 a5 a6:=by kernel_rfl
noncomputable def p148_6 (F148:Y104):=q148_6 P104 P166 F148
noncomputable def L148_6 (F148:Y104):Y120:=fun x=>p148_6 F148 x.1 x.2.1 x.2.2.1 x.2.2.2.1 x.2.2.2.2.1 x.2.2.2.2.2.1 x.2.2.2.2.2.2
theorem v148_6 (F148:Y104):l148_6 (T148 P104 P166 F148)=L148_6 F148:=funext fun x=>(g148_6 P104 P166 F148 x.1 x.2.1 x.2.2.1 x.2.2.2.1 x.2.2.2.2.1 x.2.2.2.2.2.1 x.2.2.2.2.2.2)
theorem ok148:L.Fn Tryz.prog 148 220 [] (erase c148):=Fn.ofA hmix Tryz.func148 _ _ (by kernel_rfl)
noncomputable def q148 (F104:Y98)(F166 F148:Y104)(l148_0:Y117)(l148_1:Y106)(l148_2:Y117)(l148_3:Y106)(l148_4:Y118)(l148_5:Y119)(l148_6:Y120)(a0 a1 a2:Int)(a3:List Y15):Option Y28:=
chk (fits .i64 (a1-a0)) (
cond (decide ((a1-a0)=1)) (
(l148_0 (a0,a1,a2,a3)).bind fun y2=>(
(l148_1 (y2.2.1,y2.1,y2.2.2)).bind fun y3=>(
some y3))) (
chk (fits .i64 (a2-a1)) (
cond (decide ((a2-a1)=1)) (
(l148_2 (a1,a0,a1,a3)).bind fun y5=>(
(l148_3 (y5.2.1,y5.1,y5.2.2)).bind fun y6=>(
some y6))) (
chk (fits .i64 (a0+a2)) (
chk (fits .u64 (a0+a2)) (
chk (fits .i64 (shrI .u64 (a0+a2) 1)) (
chk (fits .i64 ((shrI .u64 (a0+a2) 1)+a1)) (
(l148_4 (a0,a1,a2,(shrI .u64 (a0+a2) 1),((shrI .u64 (a0+a2) 1)+a1),a3)).bind fun y7=>(
chk (fits .i64 (y7.2.2.2.2.1-1)) (
(l148_5 (y7.1,y7.2.1,y7.2.2.1,y7.2.2.2.1,y7.2.2.2.2.1,y7.2.2.2.2.2.1,y7.2.2.2.2.2.2.1,(y7.2.2.2.2.1-1),y7.2.2.2.2.2.2.2)).bind fun y9=>(
chk (fits .i64 (y9.2.2.2.2.1-y9.2.2.2.2.2.1)) (
(l148_6 (y9.1,y9.2.1,y9.2.2.1,y9.2.2.2.1,y9.2.2.2.2.2.1,(y9.2.2.2.2.1-y9.2.2.2.2.2.1),y9.2.2.2.2.2.2)).bind fun y11=>(
cond (decide (y11.1 < y11.2.2.2.1)) (
cond (decide (y11.2.2.2.1 < y11.2.2.1)) (
(F148 (y11.1,y11.2.2.2.1,y11.2.2.1,y11.2.2.2.2.2)).bind fun r12=>(
cond (decide (y11.2.2.1 < y11.2.2.2.2.1)) (
cond (decide (y11.2.2.2.2.1 < y11.2.1)) (
(F148 (y11.2.2.1,y11.2.2.2.2.1,y11.2.1,r12)).bind fun r13=>(
some r13)) (
some r12)) (
some r12))) (
cond (decide (y11.2.2.1 < y11.2.2.2.2.1)) (
cond (decide (y11.2.2.2.2.1 < y11.2.1)) (
(F148 (y11.2.2.1,y11.2.2.2.2.1,y11.2.1,y11.2.2.2.2.2)).bind fun r14=>(
some r14)) (
some y11.2.2.2.2.2)) (
some y11.2.2.2.2.2))) (
cond (decide (y11.2.2.1 < y11.2.2.2.2.1)) (
cond (decide (y11.2.2.2.2.1 < y11.2.1)) (
(F148 (y11.2.2.1,y11.2.2.2.2.1,y11.2.1,y11.2.2.2.2.2)).bind fun r15=>(
some r15)) (
some y11.2.2.2.2.2)) (
some y11.2.2.2.2.2)))))))))))))))
theorem g148 (F104:Y98)(F166 F148:Y104)(a0 a1 a2:Int)(a3:List Y15):dxf (T148 F104 F166 F148) sh148 [] c148 (a0,a1,a2,a3)=q148 F104 F166 F148 (l148_0 (T148 F104 F166 F148)) (l148_1 (T148 F104 F166 F148)) (l148_2 (T148 F104 F166 F148)) (l148_3 (T148 F104 F166 F148)) (l148_4 (T148 F104 F166 F148)) (l148_5 (T148 F104 F166 F148)) (l148_6 (T148 F104 F166 F148)) a0 a1 a2 a3:=by kernel_rfl
noncomputable def p148 (F148:Y104):=q148 P104 P166 F148 (L148_0 F148) (L148_1 F148) (L148_2 F148) (L148_3 F148) (L148_4 F148) (L148_5 F148) (L148_6 F148)
noncomputable def R148:Nat→Int×Int×Int×Y28→Option Y28
  | 0=>fun _=>none
  | n+1=>fun x=>p148 (R148 n) x.1 x.2.1 x.2.2.1 x.2.2.2
noncomputable def P148:Y104:=R148 18446744073709551616
theorem v148 (F148:Y104):dxf (T148 P104 P166 F148) sh148 [] c148=fun x=>p148 F148 x.1 x.2.1 x.2.2.1 x.2.2.2:=funext fun x=>(g148 P104 P166 F148 x.1 x.2.1 x.2.2.1 x.2.2.2).trans (by rw[v148_0 F148,v148_1 F148,v148_2 F148,v148_3 F148,v148_4 F148,v148_5 F148,v148_6 F148] <;> rfl)
theorem D148:∀ n,DC Tryz.prog 148 sh148 (R148 n)
  | 0=>DC_none (dxf_sound (sh:=sh148) DTbl_nil ok148 (by kernel_rfl)).1
  | n+1=>DC_eq (v148 (R148 n)) (dxf_sound (sh:=sh148) (t148 (R148 n) (D148 n)) ok148 (by kernel_rfl))
theorem d148:DC Tryz.prog 148 sh148 P148:=D148 _
noncomputable def T126 (F147:Y106)(F148:Y104):List FEnt:=[⟨147,sh147,F147⟩,⟨148,sh148,F148⟩]
theorem t126:DTblOK Tryz.prog (T126 P147 P148):=(DTbl_cons' d147 (by kernel_rfl) (DTbl_cons' d148 (by kernel_rfl) DTbl_nil))
def h126_0:LSh:=⟨[0,1,2,6,7,8],⟨[(.slc 0),(.v y13),(.fn 104 []),(.v y13),(.v y13),(.v y13)],[(0,(.row 59 y68))]⟩,[y13,y13,y13,y13,y78],1,[0]⟩
def x126_0:List XSh:=[⟨(.exit 0),[0,1,2,6,7],⟨⟨[(.slc 0),(.v y13),(.fn 104 []),(.v y13),(.v y13)],[(0,(.row 59 y68))]⟩,[y13,y13,y13,y78],[0],1⟩⟩]
def x126_2:List XSh:=[⟨(.exit 4),[0,1,2,6,7],⟨⟨[(.slc 0),(.v y13),(.fn 104 []),(.v y13),(.v y13)],[(0,(.row 59 y68))]⟩,[y13,y13,y13,y78],[0],1⟩⟩]
def h126_1:LSh:=⟨[0,1,2,6],⟨[(.slc 0),(.v y13),(.fn 104 []),(.v y13)],[(0,(.row 59 y68))]⟩,[y13,y13,y78],1,[0]⟩
noncomputable def c126:=anF Tryz.prog [] Tryz.f126 (.s .n (.s .n (.s (.b (.l h126_0 x126_0 .n)) (.s .n (.b (.l h126_1 x148_1 (.s .n (.b (.s .n (.s (.b (.l h126_0 x126_2 .n)) .n))))))))))
noncomputable def s126_0 (T:List FEnt):=dstep (xs:=x126_0) h126_0 (dxc T (sb [1,1,0,2,2] c126))
noncomputable def l126_0 (T:List FEnt):=whileF (s126_0 T)
noncomputable def q126_0 (F147:Y106)(F148:Y104)(a0 a1 a2 a3:Int)(a4:List Y15):Option Y123:=
cond (decide (a3≤a0)) (
(F147 (a2,a3,a4)).bind fun r1=>(
chk (fits .i64 (a3+a1)) (
some (Sum.inl (a0,a1,a3,(a3+a1),r1))))) (
some (Sum.inr (a0,a1,a2,a4)))
theorem g126_0 (F147:Y106)(F148:Y104)(a0 a1 a2 a3:Int)(a4:List Y15):s126_0 (T126 F147 F148) (a0,a1,a2,a3,a4)=q126_0 F147 F148 a0 a1 a2 a3 a4:=by kernel_rfl
noncomputable def p126_0:=q126_0 P147 P148
noncomputable def L126_0:Y116:=whileF (fun x=>p126_0 x.1 x.2.1 x.2.2.1 x.2.2.2.1 x.2.2.2.2)
theorem v126_0:l126_0 (T126 P147 P148) =L126_0:=congrArg whileF (funext fun x=>(g126_0 P147 P148 x.1 x.2.1 x.2.2.1 x.2.2.2.1 x.2.2.2.2))
noncomputable def s126_2 (T:List FEnt):=dstep (xs:=x126_2) h126_0 (dxc T (sb [1,1,1,1,2,2,1,2,1,0,2,2] c126))
noncomputable def l126_2 (T:List FEnt):=whileF (s126_2 T)
noncomputable def q126_2 (F147:Y106)(F148:Y104)(a0 a1 a2 a3:Int)(a4:List Y15):Option Y123:=
cond (decide (a3≤a0)) (
chk (fits .i64 (a2+a1)) (
(F148 (a2,(a2+a1),a3,a4)).bind fun r4=>(
chk (fits .i64 (2*a1)) (
chk (fits .i64 (a3+(2*a1))) (
some (Sum.inl (a0,a1,a3,(a3+(2*a1)),r4))))))) (
some (Sum.inr (a0,a1,a2,a4)))
theorem g126_2 (F147:Y106)(F148:Y104)(a0 a1 a2 a3:Int)(a4:List Y15):s126_2 (T126 F147 F148) (a0,a1,a2,a3,a4)=q126_2 F147 F148 a0 a1 a2 a3 a4:=by kernel_rfl
noncomputable def p126_2:=q126_2 P147 P148
noncomputable def L126_2:Y116:=whileF (fun x=>p126_2 x.1 x.2.1 x.2.2.1 x.2.2.2.1 x.2.2.2.2)
theorem v126_2:l126_2 (T126 P147 P148) =L126_2:=congrArg whileF (funext fun x=>(g126_2 P147 P148 x.1 x.2.1 x.2.2.1 x.2.2.2.1 x.2.2.2.2))
noncomputable def s126_1 (T:List FEnt):=dstep (xs:=x148_1) h126_1 (dxc T (sb [1,1,1,1,2,2] c126))
noncomputable def l126_1 (T:List FEnt):=whileF (s126_1 T)
noncomputable def q126_1 (F147:Y106)(F148:Y104)(l126_2:Y116)(a0 a1:Int)(a2:List Y15):Option Y127:=
cond (decide (a1 < a0)) (
chk (fits .i64 (2*a1)) (
(l126_2 (a0,a1,0,(2*a1),a2)).bind fun y5=>(
chk (fits .i64 (y5.2.2.1+y5.2.1)) (
cond (decide ((y5.2.2.1+y5.2.1) < y5.1)) (
(F148 (y5.2.2.1,(y5.2.2.1+y5.2.1),y5.1,y5.2.2.2)).bind fun r6=>(
chk (fits .i64 (y5.2.1*2)) (
some (Sum.inl (y5.1,(y5.2.1*2),r6))))) (
chk (fits .i64 (y5.2.1*2)) (
some (Sum.inl (y5.1,(y5.2.1*2),y5.2.2.2)))))))) (
some (Sum.inr a2))
theorem g126_1 (F147:Y106)(F148:Y104)(a0 a1:Int)(a2:List Y15):s126_1 (T126 F147 F148) (a0,a1,a2)=q126_1 F147 F148 (l126_2 (T126 F147 F148)) a0 a1 a2:=by kernel_rfl
noncomputable def p126_1:=q126_1 P147 P148 L126_2
noncomputable def L126_1:Y106:=whileF (fun x=>p126_1 x.1 x.2.1 x.2.2)
theorem v126_1:l126_1 (T126 P147 P148) =L126_1:=congrArg whileF (funext fun x=>(g126_1 P147 P148 x.1 x.2.1 x.2.2).trans (by rw[v126_2] <;> rfl))
theorem ok126:L.Fn Tryz.prog 126 63 [] (erase c126):=Fn.ofA hmix Tryz.func126 _ _ (by kernel_rfl)
def sh126:FSh:=⟨⟨[(.slc 0),(.v y13),(.fn 104 [])],[(0,(.row 59 y68))]⟩,[y13,y78],1,⟨⟨[(.tup [])],[(0,(.row 59 y68))]⟩,[y78],[0],1⟩,false⟩
noncomputable def q126 (F147:Y106)(F148:Y104)(l126_0:Y116)(l126_1:Y106)(a0:Int)(a1:List Y15):Option Y28:=
(l126_0 (a0,20,0,20,a1)).bind fun y2=>(
(F147 (y2.2.2.1,y2.1,y2.2.2.2)).bind fun r3=>(
(l126_1 (y2.1,y2.2.1,r3)).bind fun y7=>(
some y7)))
theorem g126 (F147:Y106)(F148:Y104)(a0:Int)(a1:List Y15):dxf (T126 F147 F148) sh126 [] c126 (a0,a1)=q126 F147 F148 (l126_0 (T126 F147 F148)) (l126_1 (T126 F147 F148)) a0 a1:=by kernel_rfl
noncomputable def p126:=q126 P147 P148 L126_0 L126_1
noncomputable def P126:Y112:=fun x=>p126 x.1 x.2
theorem v126:dxf (T126 P147 P148) sh126 [] c126=P126:=funext fun x=>(g126 P147 P148 x.1 x.2).trans (by rw[v126_0,v126_1] <;> rfl)
theorem d126:DC Tryz.prog 126 sh126 P126:=DC_eq v126 (dxf_sound t126 ok126 (by kernel_rfl))
end Go.Proofs.YtdacabdocbhkdaaGreat.D
