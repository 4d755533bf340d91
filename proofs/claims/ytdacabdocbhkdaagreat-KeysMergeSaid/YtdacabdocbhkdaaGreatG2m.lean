/- Cut down from a longer text. -/
import Derived.Test.YtdacabdocbhkdaaGreatG1m
import Derived.Test.YtdacabdocbhkdaaGreatProg
set_option linter.unusedVariables false
set_option maxRecDepth 100000
namespace Go.Proofs.YtdacabdocbhkdaaGreat.D
open Go Go.Proofs L
noncomputable def T103 (F126:Y112):List FEnt:=[⟨126,sh126,F126⟩]
theorem t103:DTblOK Tryz.prog (T103 P126):=(DTbl_cons' d126 (by kernel_rfl) DTbl_nil)
noncomputable def c103:=anF Tryz.prog [] Tryz.f103 .n
theorem ok103:L.Fn Tryz.prog 103 9 [] (erase c103):=Fn.ofA hmix Tryz.func103 _ _ (by kernel_rfl)
def sh103:FSh:=⟨⟨[(.slc 0),(.fn 104 [])],[(0,(.row 59 y68))]⟩,[y78],1,⟨⟨[(.tup [])],[(0,(.row 59 y68))]⟩,[y78],[0],1⟩,false⟩
noncomputable def q103 (F126:Y112)(a0:List Y15):Option Y28:=
(F126 ((↑a0.length:Int),a0)).bind fun r1=>(
some r1)
theorem g103 (F126:Y112)(a0:List Y15):dxf (T103 F126) sh103 [] c103 a0=q103 F126 a0:=by kernel_rfl
noncomputable def p103:=q103 P126
noncomputable def P103:Y172:=fun x=>p103 x
theorem v103:dxf (T103 P126) sh103 [] c103=P103:=funext fun x=>(g103 P126 x)
theorem d103:DC Tryz.prog 103 sh103 P103:=DC_eq v103 (dxf_sound t103 ok103 (by kernel_rfl))
noncomputable def T52 (F99:Y103)(F102:Y95)(F103:Y172):List FEnt:=[⟨99,sh99,F99⟩,⟨102,sh102,F102⟩,⟨103,sh103,F103⟩]
theorem t52:DTblOK Tryz.prog (T52 P99 P102 P103):=(DTbl_cons' d99 (by kernel_rfl) (DTbl_cons' d102 (by kernel_rfl) (DTbl_cons' d103 (by kernel_rfl) DTbl_nil)))
def h52_0:LSh:=⟨[3,6,7,8],⟨[(.slc 0),(.v y78),(.v y13),(.v y13)],[(0,(.row 59 y68))]⟩,[y78,y13,y13,y78],1,[]⟩
def x52_0:List XSh:=[⟨(.exit 0),[3],⟨⟨[(.slc 0)],[(0,(.row 59 y68))]⟩,[y78],[],1⟩⟩]
noncomputable def c52:=anF Tryz.prog [] Tryz.f52 (.s .n (.s .n (.s (.s .n (.b (.l h52_0 x52_0 (.s .n (.s .n (.s (.b (.s .n (.s .n (.s (.s .n (.r [.a 2 true y68,.a 3 true y68])) .n)))) .n)))))) .n)))
noncomputable def s52_0 (T:List FEnt):=dstep (xs:=x52_0) h52_0 (dxc T (sb [1,1,0,1,2,2] c52))
noncomputable def l52_0 (T:List FEnt):=whileF (s52_0 T)
noncomputable def q52_0 (F99:Y103)(F102:Y95)(F103:Y172)(a0:List Y15)(a1 a2:Int)(a3:List Y15):Option Y208:=
cond (decide (a2 < a1)) (
chk (inR a2 a0.length) (
(F99 (a3,(ix a0 a2))).bind fun r1=>(
cond (!r1) (
(F102 ((ix a0 a2).2.2.1)).bind fun r2=>(
chk (capOk 56 (List.length a3+List.length ([((ix a0 a2).1,((ix a0 a2).2.1,(r2,(ix a0 a2).2.2.2)))]:List Y15))) (
chk (fits .i64 (a2+1)) (
some (Sum.inl (a0,a1,(a2+1),(a3++([((ix a0 a2).1,((ix a0 a2).2.1,(r2,(ix a0 a2).2.2.2)))]:List Y15)))))))) (
chk (fits .i64 (a2+1)) (
some (Sum.inl (a0,a1,(a2+1),a3))))))) (
some (Sum.inr a3))
theorem g52_0 (F99:Y103)(F102:Y95)(F103:Y172)(a0:List Y15)(a1 a2:Int)(a3:List Y15):s52_0 (T52 F99 F102 F103) (a0,a1,a2,a3)=q52_0 F99 F102 F103 a0 a1 a2 a3:=by kernel_rfl
noncomputable def p52_0:=q52_0 P99 P102 P103
noncomputable def L52_0:Y173:=whileF (fun x=>p52_0 x.1 x.2.1 x.2.2.1 x.2.2.2)
theorem v52_0:l52_0 (T52 P99 P102 P103) =L52_0:=congrArg whileF (funext fun x=>(g52_0 P99 P102 P103 x.1 x.2.1 x.2.2.1 x.2.2.2))
theorem ok52:L.Fn Tryz.prog 52 28 [(.t 2)] (erase c52):=Fn.ofA hmix Tryz.func52 _ _ (by kernel_rfl)
def sh52:FSh:=⟨⟨[(.v y78)],[]⟩,[y78],0,⟨⟨[(.slc 0)],[(0,(.row 59 y68))]⟩,[y78],[],1⟩,false⟩
noncomputable def q52 (F99:Y103)(F102:Y95)(F103:Y172)(l52_0:Y173)(a0:List Y15):Option Y28:=
(l52_0 (a0,(↑a0.length:Int),0,([]:List Y15))).bind fun y3=>(
(F103 y3).bind fun r4=>(
some r4))
theorem g52 (F99:Y103)(F102:Y95)(F103:Y172)(a0:List Y15):dxf (T52 F99 F102 F103) sh52 [(.t 2)] c52 a0=q52 F99 F102 F103 (l52_0 (T52 F99 F102 F103)) a0:=by kernel_rfl
noncomputable def p52:=q52 P99 P102 P103 L52_0
noncomputable def P52:Y172:=fun x=>p52 x
theorem v52:dxf (T52 P99 P102 P103) sh52 [(.t 2)] c52=P52:=funext fun x=>(g52 P99 P102 P103 x).trans (by rw[v52_0] <;> rfl)
theorem d52:DC Tryz.prog 52 sh52 P52:=DC_eq v52 (dxf_sound t52 ok52 (by kernel_rfl))
noncomputable def T51:List FEnt:=[]
theorem t51:DTblOK Tryz.prog T51:=DTbl_nil
def h51_0:LSh:=⟨[0,3],⟨[(.v y78),(.v y13)],[]⟩,[y78,y13],0,[]⟩
def x51_0:List XSh:=[⟨.ret,[2],⟨⟨[(.v .bool)],[]⟩,[.bool],[],0⟩⟩,⟨(.exit 0),[],⟨⟨[],[]⟩,[],[],0⟩⟩]
noncomputable def c51:=anF Tryz.prog [] Tryz.f51 (.s .n (.s (.s .n (.b (.l h51_0 x51_0 .n))) .n))
noncomputable def s51_0 (T:List FEnt):=dstep (xs:=x51_0) h51_0 (dxc T (sb [1,0,1,2,2] c51))
noncomputable def l51_0 (T:List FEnt):=whileF (s51_0 T)
noncomputable def q51_0 (a0:List Y15)(a1:Int):Option Y209:=
cond (decide (a1 < (↑a0.length:Int))) (
chk (inR a1 a0.length) (
chk (fits .i64 (a1-1)) (
chk (inR (a1-1) a0.length) (
cond (decide ((ix a0 a1).1=(ix a0 (a1-1)).1)) (
some (Sum.inr (Sum.inl true))) (
chk (fits .i64 (a1+1)) (
some (Sum.inl (a0,(a1+1))))))))) (
some (Sum.inr (Sum.inr ())))
theorem g51_0 (a0:List Y15)(a1:Int):s51_0 T51 (a0,a1)=q51_0 a0 a1:=by kernel_rfl
noncomputable def p51_0:=q51_0
noncomputable def L51_0:Y174:=whileF (fun x=>p51_0 x.1 x.2)
theorem v51_0:l51_0 T51=L51_0:=congrArg whileF (funext fun x=>(g51_0 x.1 x.2))
theorem ok51:L.Fn Tryz.prog 51 22 [(.t 2)] (erase c51):=Fn.ofA hmix Tryz.func51 _ _ (by kernel_rfl)
def sh51:FSh:=⟨⟨[(.v y78)],[]⟩,[y78],0,⟨⟨[(.v .bool)],[]⟩,[.bool],[],0⟩,true⟩
noncomputable def q51 (l51_0:Y174)(a0:List Y15):Option Bool:=
(l51_0 (a0,1)).bind (fun y1=>Sum.elim (fun y2=>(
some y2)) (fun y3=>(
some false)) y1)
theorem g51 (a0:List Y15):dxf T51 sh51 [(.t 2)] c51 a0=q51 (l51_0 T51) a0:=by kernel_rfl
noncomputable def p51:=q51 L51_0
noncomputable def P51:Y153:=fun x=>p51 x
theorem v51:dxf T51 sh51 [(.t 2)] c51=P51:=funext fun x=>(g51 x).trans (by rw[v51_0] <;> rfl)
theorem d51:DC Tryz.prog 51 sh51 P51:=DC_eq v51 (dxf_sound t51 ok51 (by kernel_rfl))
noncomputable def T28 (F50:Y44)(F52:Y172)(F51:Y153):List FEnt:=[⟨50,sh50,F50⟩,⟨52,sh52,F52⟩,⟨51,sh51,F51⟩]
theorem t28:DTblOK Tryz.prog (T28 P50 P52 P51):=(DTbl_cons' d50 (by kernel_rfl) (DTbl_cons' d52 (by kernel_rfl) (DTbl_cons' d51 (by kernel_rfl) DTbl_nil)))
noncomputable def c28:=anF Tryz.prog [] Tryz.f28 .n
theorem ok28:L.Fn Tryz.prog 28 10 [(.t 2)] (erase c28):=Fn.ofA hmix Tryz.func28 _ _ (by kernel_rfl)
def sh28:FSh:=⟨⟨[(.st y91)],[]⟩,[y91],0,⟨⟨[(.v y13)],[]⟩,[y13],[],0⟩,true⟩
noncomputable def q28 (F50:Y44)(F52:Y172)(F51:Y153)(a0:Y42):Option Int:=
(F50 a0).bind fun r1=>(
cond (!r1) (
some 20) (
(F52 a0.2.2.2.1).bind fun r2=>(
(F51 r2).bind fun r3=>(
cond r3 (
some 21) (
some 0)))))
theorem g28 (F50:Y44)(F52:Y172)(F51:Y153)(a0:Y42):dxf (T28 F50 F52 F51) sh28 [(.t 2)] c28 a0=q28 F50 F52 F51 a0:=by kernel_rfl
noncomputable def p28:=q28 P50 P52 P51
noncomputable def P28:Y198:=fun x=>p28 x
theorem v28:dxf (T28 P50 P52 P51) sh28 [(.t 2)] c28=P28:=funext fun x=>(g28 P50 P52 P51 x)
theorem d28:DC Tryz.prog 28 sh28 P28:=DC_eq v28 (dxf_sound t28 ok28 (by kernel_rfl))
noncomputable def T74:List FEnt:=[]
theorem t74:DTblOK Tryz.prog T74:=DTbl_nil
noncomputable def c74:=anF Tryz.prog [] Tryz.f74 .n
theorem ok74:L.Fn Tryz.prog 74 8 [(.t 3)] (erase c74):=Fn.ofA hmix Tryz.func74 _ _ (by kernel_rfl)
def sh74:FSh:=⟨⟨[(.st y87),(.elm y13)],[]⟩,[y87,y13],0,⟨⟨[(.v .bool)],[]⟩,[.bool],[],0⟩,true⟩
noncomputable def q74 (a0:Y12)(a1:Int):Option Bool:=
some (decide (a0.1=a1))
theorem g74 (a0:Y12)(a1:Int):dxf T74 sh74 [(.t 3)] c74 (a0,a1)=q74 a0 a1:=by kernel_rfl
noncomputable def p74:=q74
noncomputable def P74:Y154:=fun x=>p74 x.1 x.2
theorem v74:dxf T74 sh74 [(.t 3)] c74=P74:=funext fun x=>(g74 x.1 x.2)
theorem d74:DC Tryz.prog 74 sh74 P74:=DC_eq v74 (dxf_sound t74 ok74 (by kernel_rfl))
noncomputable def T73 (F74:Y154):List FEnt:=[⟨74,sh74,F74⟩]
theorem t73:DTblOK Tryz.prog (T73 P74):=(DTbl_cons' d74 (by kernel_rfl) DTbl_nil)
def h73_0:LSh:=⟨[0,1,7,8],⟨[(.v y89),(.fn 74 [(.elm y13)]),(.v y13),(.v y13)],[]⟩,[y89,y13,y13,y13],0,[]⟩
noncomputable def c73:=anF Tryz.prog [] Tryz.f73 (.s .n (.s (.s .n (.b (.l h73_0 x123_0 .n))) .n))
noncomputable def s73_0 (T:List FEnt):=dstep (xs:=x123_0) h73_0 (dxc T (sb [1,0,1,2,2] c73))
noncomputable def l73_0 (T:List FEnt):=whileF (s73_0 T)
noncomputable def q73_0 (F74:Y154)(a0:List Y12)(a1 a2 a3:Int):Option Y210:=
cond (decide (a3 < a2)) (
chk (inR a3 a0.length) (
(F74 ((ix a0 a3),a1)).bind fun r1=>(
cond r1 (
some (Sum.inr (Sum.inl a3))) (
chk (fits .i64 (a3+1)) (
some (Sum.inl (a0,a1,a2,(a3+1)))))))) (
some (Sum.inr (Sum.inr ())))
theorem g73_0 (F74:Y154)(a0:List Y12)(a1 a2 a3:Int):s73_0 (T73 F74) (a0,a1,a2,a3)=q73_0 F74 a0 a1 a2 a3:=by kernel_rfl
noncomputable def p73_0:=q73_0 P74
noncomputable def L73_0:Y175:=whileF (fun x=>p73_0 x.1 x.2.1 x.2.2.1 x.2.2.2)
theorem v73_0:l73_0 (T73 P74) =L73_0:=congrArg whileF (funext fun x=>(g73_0 P74 x.1 x.2.1 x.2.2.1 x.2.2.2))
theorem ok73:L.Fn Tryz.prog 73 19 [(.t 4)] (erase c73):=Fn.ofA hmix Tryz.func73 _ _ (by kernel_rfl)
def sh73:FSh:=⟨⟨[(.v y89),(.fn 74 [(.elm y13)])],[]⟩,[y89,y13],0,⟨⟨[(.v y13)],[]⟩,[y13],[],0⟩,true⟩
noncomputable def q73 (F74:Y154)(l73_0:Y175)(a0:List Y12)(a1:Int):Option Int:=
(l73_0 (a0,a1,(↑a0.length:Int),0)).bind (fun y2=>Sum.elim (fun y3=>(
some y3)) (fun y4=>(
some (-1))) y2)
theorem g73 (F74:Y154)(a0:List Y12)(a1:Int):dxf (T73 F74) sh73 [(.t 4)] c73 (a0,a1)=q73 F74 (l73_0 (T73 F74)) a0 a1:=by kernel_rfl
noncomputable def p73:=q73 P74 L73_0
noncomputable def P73:Y176:=fun x=>p73 x.1 x.2
theorem v73:dxf (T73 P74) sh73 [(.t 4)] c73=P73:=funext fun x=>(g73 P74 x.1 x.2).trans (by rw[v73_0] <;> rfl)
theorem d73:DC Tryz.prog 73 sh73 P73:=DC_eq v73 (dxf_sound t73 ok73 (by kernel_rfl))
noncomputable def T107:List FEnt:=[]
theorem t107:DTblOK Tryz.prog T107:=DTbl_nil
noncomputable def c107:=anF Tryz.prog [] Tryz.f107 .n
theorem ok107:L.Fn Tryz.prog 107 8 [(.t 3)] (erase c107):=Fn.ofA hmix Tryz.func107 _ _ (by kernel_rfl)
def sh107:FSh:=⟨⟨[(.st y67),(.elm y13)],[]⟩,[y67,y13],0,⟨⟨[(.v .bool)],[]⟩,[.bool],[],0⟩,true⟩
noncomputable def q107 (a0:Y22)(a1:Int):Option Bool:=
some (decide (a0.1=a1))
theorem g107 (a0:Y22)(a1:Int):dxf T107 sh107 [(.t 3)] c107 (a0,a1)=q107 a0 a1:=by kernel_rfl
noncomputable def p107:=q107
noncomputable def P107:Y177:=fun x=>p107 x.1 x.2
theorem v107:dxf T107 sh107 [(.t 3)] c107=P107:=funext fun x=>(g107 x.1 x.2)
theorem d107:DC Tryz.prog 107 sh107 P107:=DC_eq v107 (dxf_sound t107 ok107 (by kernel_rfl))
noncomputable def T106 (F107:Y177):List FEnt:=[⟨107,sh107,F107⟩]
theorem t106:DTblOK Tryz.prog (T106 P107):=(DTbl_cons' d107 (by kernel_rfl) DTbl_nil)
def h106_0:LSh:=⟨[0,1,7,8],⟨[(.v y77),(.fn 107 [(.elm y13)]),(.v y13),(.v y13)],[]⟩,[y77,y13,y13,y13],0,[]⟩
noncomputable def c106:=anF Tryz.prog [] Tryz.f106 (.s .n (.s (.s .n (.b (.l h106_0 x123_0 .n))) .n))
noncomputable def s106_0 (T:List FEnt):=dstep (xs:=x123_0) h106_0 (dxc T (sb [1,0,1,2,2] c106))
noncomputable def l106_0 (T:List FEnt):=whileF (s106_0 T)
noncomputable def q106_0 (F107:Y177)(a0:List Y22)(a1 a2 a3:Int):Option Y216:=
cond (decide (a3 < a2)) (
chk (inR a3 a0.length) (
(F107 ((ix a0 a3),a1)).bind fun r1=>(
cond r1 (
some (Sum.inr (Sum.inl a3))) (
chk (fits .i64 (a3+1)) (
some (Sum.inl (a0,a1,a2,(a3+1)))))))) (
some (Sum.inr (Sum.inr ())))
theorem g106_0 (F107:Y177)(a0:List Y22)(a1 a2 a3:Int):s106_0 (T106 F107) (a0,a1,a2,a3)=q106_0 F107 a0 a1 a2 a3:=by kernel_rfl
noncomputable def p106_0:=q106_0 P107
noncomputable def L106_0:Y199:=whileF (fun x=>p106_0 x.1 x.2.1 x.2.2.1 x.2.2.2)
theorem v106_0:l106_0 (T106 P107) =L106_0:=congrArg whileF (funext fun x=>(g106_0 P107 x.1 x.2.1 x.2.2.1 x.2.2.2))
theorem ok106:L.Fn Tryz.prog 106 19 [(.t 4)] (erase c106):=Fn.ofA hmix Tryz.func106 _ _ (by kernel_rfl)
def sh106:FSh:=⟨⟨[(.v y77),(.fn 107 [(.elm y13)])],[]⟩,[y77,y13],0,⟨⟨[(.v y13)],[]⟩,[y13],[],0⟩,true⟩
noncomputable def q106 (F107:Y177)(l106_0:Y199)(a0:List Y22)(a1:Int):Option Int:=
(l106_0 (a0,a1,(↑a0.length:Int),0)).bind (fun y2=>Sum.elim (fun y3=>(
some y3)) (fun y4=>(
some (-1))) y2)
theorem g106 (F107:Y177)(a0:List Y22)(a1:Int):dxf (T106 F107) sh106 [(.t 4)] c106 (a0,a1)=q106 F107 (l106_0 (T106 F107)) a0 a1:=by kernel_rfl
noncomputable def p106:=q106 P107 L106_0
noncomputable def P106:Y200:=fun x=>p106 x.1 x.2
theorem v106:dxf (T106 P107) sh106 [(.t 4)] c106=P106:=funext fun x=>(g106 P107 x.1 x.2).trans (by rw[v106_0] <;> rfl)
theorem d106:DC Tryz.prog 106 sh106 P106:=DC_eq v106 (dxf_sound t106 ok106 (by kernel_rfl))
noncomputable def T60 (F106:Y200):List FEnt:=[⟨106,sh106,F106⟩]
theorem t60:DTblOK Tryz.prog (T60 P106):=(DTbl_cons' d106 (by kernel_rfl) DTbl_nil)
noncomputable def c60:=anF Tryz.prog [] Tryz.f60 .n
theorem ok60:L.Fn Tryz.prog 60 19 [(.cell 4 true 3),(.t 5)] (erase c60):=Fn.ofA hmix Tryz.func60 _ _ (by kernel_rfl)
def sh60:FSh:=⟨⟨[(.st y91),(.v y13)],[]⟩,[y91,y13],0,⟨⟨[(.tup [(.st y67),(.v .bool)])],[]⟩,[y67,.bool],[],0⟩,false⟩
noncomputable def q60 (F106:Y200)(a0:Y42)(a1:Int):Option Y191:=
(F106 (a0.2.2.1,a1)).bind fun r1=>(
cond (decide (r1 < 0)) (
some ((0,(([]:List Int),([]:List Y1))),false)) (
chk (inR r1 a0.2.2.1.length) (
some ((ix a0.2.2.1 r1),true))))
theorem g60 (F106:Y200)(a0:Y42)(a1:Int):dxf (T60 F106) sh60 [(.cell 4 true 3),(.t 5)] c60 (a0,a1)=q60 F106 a0 a1:=by kernel_rfl
noncomputable def p60:=q60 P106
noncomputable def P60:Y215:=fun x=>p60 x.1 x.2
theorem v60:dxf (T60 P106) sh60 [(.cell 4 true 3),(.t 5)] c60=P60:=funext fun x=>(g60 P106 x.1 x.2)
theorem d60:DC Tryz.prog 60 sh60 P60:=DC_eq v60 (dxf_sound t60 ok60 (by kernel_rfl))
noncomputable def T61 (F63:Y6):List FEnt:=[⟨63,sh63,F63⟩]
theorem t61:DTblOK Tryz.prog (T61 P63):=(DTbl_cons' d63 (by kernel_rfl) DTbl_nil)
noncomputable def c61:=anF Tryz.prog [] Tryz.f61 .n
theorem ok61:L.Fn Tryz.prog 61 5 [(.t 2)] (erase c61):=Fn.ofA hmix Tryz.func61 _ _ (by kernel_rfl)
def sh61:FSh:=⟨⟨[(.v y13)],[]⟩,[y13],0,⟨⟨[(.v .bool)],[]⟩,[.bool],[],0⟩,true⟩
noncomputable def q61 (F63:Y6)(a0:Int):Option Bool:=
(F63 (a0,0,9999)).bind fun r1=>(
some r1)
theorem g61 (F63:Y6)(a0:Int):dxf (T61 F63) sh61 [(.t 2)] c61 a0=q61 F63 a0:=by kernel_rfl
noncomputable def p61:=q61 P63
noncomputable def P61:Y7:=fun x=>p61 x
theorem v61:dxf (T61 P63) sh61 [(.t 2)] c61=P61:=funext fun x=>(g61 P63 x)
theorem d61:DC Tryz.prog 61 sh61 P61:=DC_eq v61 (dxf_sound t61 ok61 (by kernel_rfl))
noncomputable def T120:List FEnt:=[]
theorem t120:DTblOK Tryz.prog T120:=DTbl_nil
def h120_0:LSh:=⟨[0,1,7,8],⟨[(.v y25),(.v y13),(.v y13),(.v y13)],[]⟩,[y25,y13,y13,y13],0,[]⟩
noncomputable def c120:=anF Tryz.prog [] Tryz.f120 (.s .n (.s (.s .n (.b (.l h120_0 x123_0 .n))) .n))
noncomputable def s120_0 (T:List FEnt):=dstep (xs:=x123_0) h120_0 (dxc T (sb [1,0,1,2,2] c120))
noncomputable def l120_0 (T:List FEnt):=whileF (s120_0 T)
noncomputable def q120_0 (a0:List Int)(a1 a2 a3:Int):Option Y164:=
cond (decide (a3 < a2)) (
chk (inR a3 a0.length) (
cond (decide (a1=(ix a0 a3))) (
some (Sum.inr (Sum.inl a3))) (
chk (fits .i64 (a3+1)) (
some (Sum.inl (a0,a1,a2,(a3+1))))))) (
some (Sum.inr (Sum.inr ())))
theorem g120_0 (a0:List Int)(a1 a2 a3:Int):s120_0 T120 (a0,a1,a2,a3)=q120_0 a0 a1 a2 a3:=by kernel_rfl
noncomputable def p120_0:=q120_0
noncomputable def L120_0:Y142:=whileF (fun x=>p120_0 x.1 x.2.1 x.2.2.1 x.2.2.2)
theorem v120_0:l120_0 T120=L120_0:=congrArg whileF (funext fun x=>(g120_0 x.1 x.2.1 x.2.2.1 x.2.2.2))
theorem ok120:L.Fn Tryz.prog 120 19 [(.t 4)] (erase c120):=Fn.ofA hmix Tryz.func120 _ _ (by kernel_rfl)
def sh120:FSh:=⟨⟨[(.v y25),(.v y13)],[]⟩,[y25,y13],0,⟨⟨[(.v y13)],[]⟩,[y13],[],0⟩,true⟩
noncomputable def q120 (l120_0:Y142)(a0:List Int)(a1:Int):Option Int:=
(l120_0 (a0,a1,(↑a0.length:Int),0)).bind (fun y1=>Sum.elim (fun y2=>(
some y2)) (fun y3=>(
some (-1))) y1)
theorem g120 (a0:List Int)(a1:Int):dxf T120 sh120 [(.t 4)] c120 (a0,a1)=q120 (l120_0 T120) a0 a1:=by kernel_rfl
noncomputable def p120:=q120 L120_0
noncomputable def P120:Y143:=fun x=>p120 x.1 x.2
theorem v120:dxf T120 sh120 [(.t 4)] c120=P120:=funext fun x=>(g120 x.1 x.2).trans (by rw[v120_0] <;> rfl)
theorem d120:DC Tryz.prog 120 sh120 P120:=DC_eq v120 (dxf_sound t120 ok120 (by kernel_rfl))
noncomputable def T79 (F120:Y143):List FEnt:=[⟨120,sh120,F120⟩]
theorem t79:DTblOK Tryz.prog (T79 P120):=(DTbl_cons' d120 (by kernel_rfl) DTbl_nil)
noncomputable def c79:=anF Tryz.prog [] Tryz.f79 .n
theorem ok79:L.Fn Tryz.prog 79 9 [(.t 4)] (erase c79):=Fn.ofA hmix Tryz.func79 _ _ (by kernel_rfl)
def sh79:FSh:=⟨⟨[(.v y25),(.v y13)],[]⟩,[y25,y13],0,⟨⟨[(.v .bool)],[]⟩,[.bool],[],0⟩,true⟩
noncomputable def q79 (F120:Y143)(a0:List Int)(a1:Int):Option Bool:=
(F120 (a0,a1)).bind fun r1=>(
some (decide (0≤r1)))
theorem g79 (F120:Y143)(a0:List Int)(a1:Int):dxf (T79 F120) sh79 [(.t 4)] c79 (a0,a1)=q79 F120 a0 a1:=by kernel_rfl
noncomputable def p79:=q79 P120
noncomputable def P79:Y8:=fun x=>p79 x.1 x.2
theorem v79:dxf (T79 P120) sh79 [(.t 4)] c79=P79:=funext fun x=>(g79 P120 x.1 x.2)
theorem d79:DC Tryz.prog 79 sh79 P79:=DC_eq v79 (dxf_sound t79 ok79 (by kernel_rfl))
noncomputable def T138:List FEnt:=[]
theorem t138:DTblOK Tryz.prog T138:=DTbl_nil
def h138_0:LSh:=⟨[0,2],⟨[(.v y151),(.v y13)],[]⟩,[y151,y13],0,[]⟩
def x138_0:List XSh:=[⟨.normal,[0,2],⟨⟨[(.v y151),(.v y13)],[]⟩,[y151,y13],[],0⟩⟩]
noncomputable def c138:=anF Tryz.prog [] Tryz.f138 (.s .n (.s (.o h138_0 x138_0 .n) (.s (.o h138_0 x138_0 .n) (.s (.o h138_0 x138_0 .n) .n))))
noncomputable def l138_0 (T:List FEnt):=onceF (xs:=x138_0) h138_0 (dxc T (sb [1,0,2] c138))
noncomputable def q138_0 (a0 a1:Int):Option Y1:=
cond (decide (4294967296≤a0)) (
some ((shrI .u64 a0 32),32)) (
some (a0,a1))
theorem g138_0 (a0 a1:Int):l138_0 T138 (a0,a1)=q138_0 a0 a1:=by kernel_rfl
noncomputable def p138_0:=q138_0
noncomputable def L138_0:Y144:=fun x=>p138_0 x.1 x.2
theorem v138_0:l138_0 T138=L138_0:=funext fun x=>(g138_0 x.1 x.2)
noncomputable def l138_1 (T:List FEnt):=onceF (xs:=x138_0) h138_0 (dxc T (sb [1,1,0,2] c138))
noncomputable def q138_1 (a0 a1:Int):Option Y1:=
cond (decide (65536≤a0)) (
chk (fits .i64 (a1+16)) (
some ((shrI .u64 a0 16),(a1+16)))) (
some (a0,a1))
theorem g138_1 (a0 a1:Int):l138_1 T138 (a0,a1)=q138_1 a0 a1:=by kernel_rfl
noncomputable def p138_1:=q138_1
noncomputable def L138_1:Y144:=fun x=>p138_1 x.1 x.2
theorem v138_1:l138_1 T138=L138_1:=funext fun x=>(g138_1 x.1 x.2)
noncomputable def l138_2 (T:List FEnt):=onceF (xs:=x138_0) h138_0 (dxc T (sb [1,1,1,0,2] c138))
noncomputable def q138_2 (a0 a1:Int):Option Y1:=
cond (decide (256≤a0)) (
chk (fits .i64 (a1+8)) (
some ((shrI .u64 a0 8),(a1+8)))) (
some (a0,a1))
theorem g138_2 (a0 a1:Int):l138_2 T138 (a0,a1)=q138_2 a0 a1:=by kernel_rfl
noncomputable def p138_2:=q138_2
noncomputable def L138_2:Y144:=fun x=>p138_2 x.1 x.2
theorem v138_2:l138_2 T138=L138_2:=funext fun x=>(g138_2 x.1 x.2)
theorem ok138:L.Fn Tryz.prog 138 25 [(.t 2)] (erase c138):=Fn.ofA hmix Tryz.func138 _ _ (by kernel_rfl)
def sh138:FSh:=⟨⟨[(.v y151)],[]⟩,[y151],0,⟨⟨[(.v y13)],[]⟩,[y13],[],0⟩,true⟩
noncomputable def q138 (l138_0 l138_1 l138_2:Y144)(a0:Int):Option Int:=
(l138_0 (a0,0)).bind fun y1=>(
(l138_1 (y1.1,y1.2)).bind fun y2=>(
(l138_2 (y2.1,y2.2)).bind fun y3=>(
chk (fits .u8 y3.1) (
chk (inR y3.1 (ByteArray.size (⟨#[0,1,2,2,3,3,3,3,4,4,4,4,4,4,4,4,5,5,5,5,5,5,5,5,5,5,5,5,5,5,5,5,6,6,6,6,6,6,6,6,6,6,6,6,6,6,6,6,6,6,6,6,6,6,6,6,6,6,6,6,6,6,6,6,7,7,7,7,7,7,7,7,7,7,7,7,7,7,7,7,7,7,7,7,7,7,7,7,7,7,7,7,7,7,7,7,7,7,7,7,7,7,7,7,7,7,7,7,7,7,7,7,7,7,7,7,7,7,7,7,7,7,7,7,7,7,7,7,8,8,8,8,8,8,8,8,8,8,8,8,8,8,8,8,8,8,8,8,8,8,8,8,8,8,8,8,8,8,8,8,8,8,8,8,8,8,8,8,8,8,8,8,8,8,8,8,8,8,8,8,8,8,8,8,8,8,8,8,8,8,8,8,8,8,8,8,8,8,8,8,8,8,8,8,8,8,8,8,8,8,8,8,8,8,8,8,8,8,8,8,8,8,8,8,8,8,8,8,8,8,8,8,8,8,8,8,8,8,8,8,8,8,8,8,8,8,8,8,8,8,8,8,8,8,8,8]⟩:ByteArray))) (
chk (fits .i64 (bix (⟨#[0,1,2,2,3,3,3,3,4,4,4,4,4,4,4,4,5,5,5,5,5,5,5,5,5,5,5,5,5,5,5,5,6,6,6,6,6,6,6,6,6,6,6,6,6,6,6,6,6,6,6,6,6,6,6,6,6,6,6,6,6,6,6,6,7,7,7,7,7,7,7,7,7,7,7,7,7,7,7,7,7,7,7,7,7,7,7,7,7,7,7,7,7,7,7,7,7,7,7,7,7,7,7,7,7,7,7,7,7,7,7,7,7,7,7,7,7,7,7,7,7,7,7,7,7,7,7,7,8,8,8,8,8,8,8,8,8,8,8,8,8,8,8,8,8,8,8,8,8,8,8,8,8,8,8,8,8,8,8,8,8,8,8,8,8,8,8,8,8,8,8,8,8,8,8,8,8,8,8,8,8,8,8,8,8,8,8,8,8,8,8,8,8,8,8,8,8,8,8,8,8,8,8,8,8,8,8,8,8,8,8,8,8,8,8,8,8,8,8,8,8,8,8,8,8,8,8,8,8,8,8,8,8,8,8,8,8,8,8,8,8,8,8,8,8,8,8,8,8,8,8,8,8,8,8,8]⟩:ByteArray) y3.1)) (
chk (fits .i64 (y3.2+(bix (⟨#[0,1,2,2,3,3,3,3,4,4,4,4,4,4,4,4,5,5,5,5,5,5,5,5,5,5,5,5,5,5,5,5,6,6,6,6,6,6,6,6,6,6,6,6,6,6,6,6,6,6,6,6,6,6,6,6,6,6,6,6,6,6,6,6,7,7,7,7,7,7,7,7,7,7,7,7,7,7,7,7,7,7,7,7,7,7,7,7,7,7,7,7,7,7,7,7,7,7,7,7,7,7,7,7,7,7,7,7,7,7,7,7,7,7,7,7,7,7,7,7,7,7,7,7,7,7,7,7,8,8,8,8,8,8,8,8,8,8,8,8,8,8,8,8,8,8,8,8,8,8,8,8,8,8,8,8,8,8,8,8,8,8,8,8,8,8,8,8,8,8,8,8,8,8,8,8,8,8,8,8,8,8,8,8,8,8,8,8,8,8,8,8,8,8,8,8,8,8,8,8,8,8,8,8,8,8,8,8,8,8,8,8,8,8,8,8,8,8,8,8,8,8,8,8,8,8,8,8,8,8,8,8,8,8,8,8,8,8,8,8,8,8,8,8,8,8,8,8,8,8,8,8,8,8,8,8]⟩:ByteArray) y3.1))) (
some (y3.2+(bix (⟨#[0,1,2,2,3,3,3,3,4,4,4,4,4,4,4,4,5,5,5,5,5,5,5,5,5,5,5,5,5,5,5,5,6,6,6,6,6,6,6,6,6,6,6,6,6,6,6,6,6,6,6,6,6,6,6,6,6,6,6,6,6,6,6,6,7,7,7,7,7,7,7,7,7,7,7,7,7,7,7,7,7,7,7,7,7,7,7,7,7,7,7,7,7,7,7,7,7,7,7,7,7,7,7,7,7,7,7,7,7,7,7,7,7,7,7,7,7,7,7,7,7,7,7,7,7,7,7,7,8,8,8,8,8,8,8,8,8,8,8,8,8,8,8,8,8,8,8,8,8,8,8,8,8,8,8,8,8,8,8,8,8,8,8,8,8,8,8,8,8,8,8,8,8,8,8,8,8,8,8,8,8,8,8,8,8,8,8,8,8,8,8,8,8,8,8,8,8,8,8,8,8,8,8,8,8,8,8,8,8,8,8,8,8,8,8,8,8,8,8,8,8,8,8,8,8,8,8,8,8,8,8,8,8,8,8,8,8,8,8,8,8,8,8,8,8,8,8,8,8,8,8,8,8,8,8,8]⟩:ByteArray) y3.1)))))))))
theorem g138 (a0:Int):dxf T138 sh138 [(.t 2)] c138 a0=q138 (l138_0 T138) (l138_1 T138) (l138_2 T138) a0:=by kernel_rfl
noncomputable def p138:=q138 L138_0 L138_1 L138_2
noncomputable def P138:Y145:=fun x=>p138 x
theorem v138:dxf T138 sh138 [(.t 2)] c138=P138:=funext fun x=>(g138 x).trans (by rw[v138_0,v138_1,v138_2] <;> rfl)
theorem d138:DC Tryz.prog 138 sh138 P138:=DC_eq v138 (dxf_sound t138 ok138 (by kernel_rfl))
noncomputable def T112 (F138:Y145):List FEnt:=[⟨138,sh138,F138⟩]
theorem t112:DTblOK Tryz.prog (T112 P138):=(DTbl_cons' d138 (by kernel_rfl) DTbl_nil)
noncomputable def c112:=anF Tryz.prog [] Tryz.f112 .n
theorem ok112:L.Fn Tryz.prog 112 8 [(.t 2)] (erase c112):=Fn.ofA hmix Tryz.func112 _ _ (by kernel_rfl)
def sh112:FSh:=⟨⟨[(.v y151)],[]⟩,[y151],0,⟨⟨[(.v y13)],[]⟩,[y13],[],0⟩,true⟩
noncomputable def q112 (F138:Y145)(a0:Int):Option Int:=
(F138 a0).bind fun r1=>(
some r1)
theorem g112 (F138:Y145)(a0:Int):dxf (T112 F138) sh112 [(.t 2)] c112 a0=q112 F138 a0:=by kernel_rfl
noncomputable def p112:=q112 P138
noncomputable def P112:Y145:=fun x=>p112 x
theorem v112:dxf (T112 P138) sh112 [(.t 2)] c112=P112:=funext fun x=>(g112 P138 x)
theorem d112:DC Tryz.prog 112 sh112 P112:=DC_eq v112 (dxf_sound t112 ok112 (by kernel_rfl))
noncomputable def T109:List FEnt:=[]
theorem t109:DTblOK Tryz.prog T109:=DTbl_nil
noncomputable def c109:=anF Tryz.prog [] Tryz.f109 .n
theorem ok109:L.Fn Tryz.prog 109 10 [(.t 4)] (erase c109):=Fn.ofA hmix Tryz.func109 _ _ (by kernel_rfl)
def sh109:FSh:=⟨⟨[(.st y24),(.st y24)],[]⟩,[y24,y24],0,⟨⟨[(.v y13)],[]⟩,[y13],[],0⟩,true⟩
noncomputable def q109 (a0 a1:Int×Int):Option Int:=
chk (fits .i64 (a0.1-a1.1)) (
some (a0.1-a1.1))
theorem g109 (a0 a1:Int×Int):dxf T109 sh109 [(.t 4)] c109 (a0,a1)=q109 a0 a1:=by kernel_rfl
noncomputable def p109:=q109
noncomputable def P109:Y146:=fun x=>p109 x.1 x.2
theorem v109:dxf T109 sh109 [(.t 4)] c109=P109:=funext fun x=>(g109 x.1 x.2)
theorem d109:DC Tryz.prog 109 sh109 P109:=DC_eq v109 (dxf_sound t109 ok109 (by kernel_rfl))
noncomputable def T149 (F109:Y146):List FEnt:=[⟨109,sh109,F109⟩]
theorem t149:DTblOK Tryz.prog (T149 P109):=(DTbl_cons' d109 (by kernel_rfl) DTbl_nil)
def h149_1:LSh:=⟨[0,1,2,3,8,9],⟨[(.slc 0),(.v y13),(.v y13),(.fn 109 []),(.v y13),(.v y13)],[(0,(.row 64 y24))]⟩,[y13,y13,y13,y13,y35],1,[0]⟩
def x149_1:List XSh:=[⟨(.exit 2),[0,1,2,3,8],⟨⟨[(.slc 0),(.v y13),(.v y13),(.fn 109 []),(.v y13)],[(0,(.row 64 y24))]⟩,[y13,y13,y13,y35],[0],1⟩⟩]
def h149_0:LSh:=⟨[0,1,2,3,8],⟨[(.slc 0),(.v y13),(.v y13),(.fn 109 []),(.v y13)],[(0,(.row 64 y24))]⟩,[y13,y13,y13,y35],1,[0]⟩
def x149_0:List XSh:=[⟨(.exit 0),[],⟨⟨[],[(0,(.row 64 y24))]⟩,[y35],[0],1⟩⟩]
noncomputable def c149:=anF Tryz.prog [] Tryz.f149 (.s .n (.b (.l h149_0 x149_0 (.s .n (.s (.b (.s .n (.b (.l h149_1 x149_1 .n)))) .n)))))
noncomputable def s149_1 (T:List FEnt):=dstep (xs:=x149_1) h149_1 (dxc T (sb [1,2,2,1,0,2,1,2,2] c149))
noncomputable def l149_1 (T:List FEnt):=whileF (s149_1 T)
noncomputable def q149_1 (F109:Y146)(a0 a1 a2 a3:Int)(a4:List Y1):Option Y192:=
cond (decide (a0 < a3)) (
chk (inR a3 a4.length) (
chk (fits .i64 (a3-1)) (
chk (inR (a3-1) a4.length) (
(F109 ((ix a4 a3),(ix a4 (a3-1)))).bind fun r1=>(
cond (decide (r1 < 0)) (
chk (fits .i64 (a3-1)) (
chk (fits .i64 (a3-1)) (
chk (inR (a3-1) a4.length) (
chk (inR a3 a4.length) (
chk (inR a3 a4.length) (
chk (inR (a3-1) (List.length (List.set a4 a3.toNat (ix a4 (a3-1))))) (
chk (fits .i64 (a3-1)) (
some (Sum.inl (a0,a1,a2,(a3-1),(List.set (List.set a4 a3.toNat (ix a4 (a3-1))) (Int.toNat (a3-1)) (ix a4 a3)))))))))))) (
some (Sum.inr (a0,a1,a2,a4)))))))) (
some (Sum.inr (a0,a1,a2,a4)))
theorem g149_1 (F109:Y146)(a0 a1 a2 a3:Int)(a4:List Y1):s149_1 (T149 F109) (a0,a1,a2,a3,a4)=q149_1 F109 a0 a1 a2 a3 a4:=by kernel_rfl
noncomputable def p149_1:=q149_1 P109
noncomputable def L149_1:Y179:=whileF (fun x=>p149_1 x.1 x.2.1 x.2.2.1 x.2.2.2.1 x.2.2.2.2)
theorem v149_1:l149_1 (T149 P109) =L149_1:=congrArg whileF (funext fun x=>(g149_1 P109 x.1 x.2.1 x.2.2.1 x.2.2.2.1 x.2.2.2.2))
noncomputable def s149_0 (T:List FEnt):=dstep (xs:=x149_0) h149_0 (dxc T (sb [1,2,2] c149))
noncomputable def l149_0 (T:List FEnt):=whileF (s149_0 T)
noncomputable def q149_0 (F109:Y146)(l149_1:Y179)(a0 a1 a2:Int)(a3:List Y1):Option Y193:=
cond (decide (a2 < a1)) (
(l149_1 (a0,a1,a2,a2,a3)).bind fun y2=>(
chk (fits .i64 (y2.2.2.1+1)) (
some (Sum.inl (y2.1,y2.2.1,(y2.2.2.1+1),y2.2.2.2))))) (
some (Sum.inr a3))
theorem g149_0 (F109:Y146)(a0 a1 a2:Int)(a3:List Y1):s149_0 (T149 F109) (a0,a1,a2,a3)=q149_0 F109 (l149_1 (T149 F109)) a0 a1 a2 a3:=by kernel_rfl
noncomputable def p149_0:=q149_0 P109 L149_1
noncomputable def L149_0:Y155:=whileF (fun x=>p149_0 x.1 x.2.1 x.2.2.1 x.2.2.2)
theorem v149_0:l149_0 (T149 P109) =L149_0:=congrArg whileF (funext fun x=>(g149_0 P109 x.1 x.2.1 x.2.2.1 x.2.2.2).trans (by rw[v149_1] <;> rfl))
theorem ok149:L.Fn Tryz.prog 149 53 [] (erase c149):=Fn.ofA hmix Tryz.func149 _ _ (by kernel_rfl)
def sh149:FSh:=⟨⟨[(.slc 0),(.v y13),(.v y13),(.fn 109 [])],[(0,(.row 64 y24))]⟩,[y13,y13,y35],1,⟨⟨[(.tup [])],[(0,(.row 64 y24))]⟩,[y35],[0],1⟩,false⟩
noncomputable def q149 (F109:Y146)(l149_0:Y155)(a0 a1:Int)(a2:List Y1):Option Y14:=
chk (fits .i64 (a0+1)) (
(l149_0 (a0,a1,(a0+1),a2)).bind fun y3=>(
some y3))
theorem g149 (F109:Y146)(a0 a1:Int)(a2:List Y1):dxf (T149 F109) sh149 [] c149 (a0,a1,a2)=q149 F109 (l149_0 (T149 F109)) a0 a1 a2:=by kernel_rfl
noncomputable def p149:=q149 P109 L149_0
noncomputable def P149:Y157:=fun x=>p149 x.1 x.2.1 x.2.2
theorem v149:dxf (T149 P109) sh149 [] c149=P149:=funext fun x=>(g149 P109 x.1 x.2.1 x.2.2).trans (by rw[v149_0] <;> rfl)
theorem d149:DC Tryz.prog 149 sh149 P149:=DC_eq v149 (dxf_sound t149 ok149 (by kernel_rfl))
noncomputable def T127 (F149:Y157):List FEnt:=[⟨149,sh149,F149⟩]
theorem t127:DTblOK Tryz.prog (T127 P149):=(DTbl_cons' d149 (by kernel_rfl) DTbl_nil)
def h127_1:LSh:=⟨[0,1,2,3,4,10,11,12],⟨[(.slc 0),(.v y13),(.v y13),(.v y13),(.fn 109 []),(.v .bool),(.v .bool),(.v y13)],[(0,(.row 64 y24))]⟩,[y13,y13,y13,.bool,.bool,y13,y35],1,[0]⟩
def x127_1:List XSh:=[⟨.normal,[0,1,2,3,4,10,11,12],⟨⟨[(.slc 0),(.v y13),(.v y13),(.v y13),(.fn 109 []),(.v .bool),(.v .bool),(.v y13)],[(0,(.row 64 y24))]⟩,[y13,y13,y13,.bool,.bool,y13,y35],[0],1⟩⟩]
def h127_0:LSh:=⟨[0,1,2,3,4,10,11],⟨[(.slc 0),(.v y13),(.v y13),(.v y13),(.fn 109 []),(.v .bool),(.v .bool)],[(0,(.row 64 y24))]⟩,[y13,y13,y13,.bool,.bool,y35],1,[0]⟩
def x127_0:List XSh:=[⟨.ret,[],⟨⟨[],[(0,(.row 64 y24))]⟩,[y35],[0],1⟩⟩]
noncomputable def c127:=anF Tryz.prog [] Tryz.f127 (.s .n (.s .n (.b (.l h127_0 x127_0 (.b (.s .n (.s .n (.s .n (.s (.o h127_1 x127_1 .n) .n)))))))))
noncomputable def l127_1 (T:List FEnt):=onceF (xs:=x127_1) h127_1 (dxc T (sb [1,1,2,2,2,1,1,1,0,2] c127))
noncomputable def q127_1 (F149:Y157)(a0 a1 a2:Int)(a3 a4:Bool)(a5:Int)(a6:List Y1):Option Y159:=
cond (!a3) (
none) (
some (a0,a1,a2,a3,a4,a5,a6))
theorem g127_1 (F149:Y157)(a0 a1 a2:Int)(a3 a4:Bool)(a5:Int)(a6:List Y1):l127_1 (T127 F149) (a0,a1,a2,a3,a4,a5,a6)=q127_1 F149 a0 a1 a2 a3 a4 a5 a6:=by kernel_rfl
noncomputable def p127_1:=q127_1 P149
noncomputable def L127_1:Y180:=fun x=>p127_1 x.1 x.2.1 x.2.2.1 x.2.2.2.1 x.2.2.2.2.1 x.2.2.2.2.2.1 x.2.2.2.2.2.2
theorem v127_1:l127_1 (T127 P149) =L127_1:=funext fun x=>(g127_1 P149 x.1 x.2.1 x.2.2.1 x.2.2.2.1 x.2.2.2.2.1 x.2.2.2.2.2.1 x.2.2.2.2.2.2)
noncomputable def s127_0 (T:List FEnt):=dstep (xs:=x127_0) h127_0 (dxc T (sb [1,1,2,2] c127))
noncomputable def l127_0 (T:List FEnt):=whileF (s127_0 T)
noncomputable def q127_0 (F149:Y157)(l127_1:Y180)(a0 a1 a2:Int)(a3 a4:Bool)(a5:List Y1):Option Y194:=
chk (fits .i64 (a1-a0)) (
cond (decide ((a1-a0)≤12)) (
(F149 (a0,a1,a5)).bind fun r1=>(
some (Sum.inr r1))) (
cond (decide (a2=0)) (
none) (
(l127_1 (a0,a1,a2,a3,a4,(a1-a0),a5)).bind fun y2=>(
none))))
theorem g127_0 (F149:Y157)(a0 a1 a2:Int)(a3 a4:Bool)(a5:List Y1):s127_0 (T127 F149) (a0,a1,a2,a3,a4,a5)=q127_0 F149 (l127_1 (T127 F149)) a0 a1 a2 a3 a4 a5:=by kernel_rfl
noncomputable def p127_0:=q127_0 P149 L127_1
noncomputable def L127_0:Y158:=whileF (fun x=>p127_0 x.1 x.2.1 x.2.2.1 x.2.2.2.1 x.2.2.2.2.1 x.2.2.2.2.2)
theorem v127_0:l127_0 (T127 P149) =L127_0:=congrArg whileF (funext fun x=>(g127_0 P149 x.1 x.2.1 x.2.2.1 x.2.2.2.1 x.2.2.2.2.1 x.2.2.2.2.2).trans (by rw[v127_1] <;> rfl))
theorem ok127:L.Fn Tryz.prog 127 148 [] (erase c127):=Fn.ofA hmix Tryz.func127 _ _ (by kernel_rfl)
def sh127:FSh:=⟨⟨[(.slc 0),(.v y13),(.v y13),(.v y13),(.fn 109 [])],[(0,(.row 64 y24))]⟩,[y13,y13,y13,y35],1,⟨⟨[(.tup [])],[(0,(.row 64 y24))]⟩,[y35],[0],1⟩,false⟩
noncomputable def q127 (F149:Y157)(l127_0:Y158)(a0 a1 a2:Int)(a3:List Y1):Option Y14:=
(l127_0 (a0,a1,a2,true,true,a3)).bind fun y3=>(
some y3)
theorem g127 (F149:Y157)(a0 a1 a2:Int)(a3:List Y1):dxf (T127 F149) sh127 [] c127 (a0,a1,a2,a3)=q127 F149 (l127_0 (T127 F149)) a0 a1 a2 a3:=by kernel_rfl
noncomputable def p127:=q127 P149 L127_0
noncomputable def P127:Y155:=fun x=>p127 x.1 x.2.1 x.2.2.1 x.2.2.2
theorem v127:dxf (T127 P149) sh127 [] c127=P127:=funext fun x=>(g127 P149 x.1 x.2.1 x.2.2.1 x.2.2.2).trans (by rw[v127_0] <;> rfl)
theorem d127:DC Tryz.prog 127 sh127 P127:=DC_eq v127 (dxf_sound t127 ok127 (by kernel_rfl))
noncomputable def T108 (F112:Y145)(F127:Y155):List FEnt:=[⟨112,sh112,F112⟩,⟨127,sh127,F127⟩]
theorem t108:DTblOK Tryz.prog (T108 P112 P127):=(DTbl_cons' d112 (by kernel_rfl) (DTbl_cons' d127 (by kernel_rfl) DTbl_nil))
noncomputable def c108:=anF Tryz.prog [] Tryz.f108 .n
theorem ok108:L.Fn Tryz.prog 108 14 [] (erase c108):=Fn.ofA hmix Tryz.func108 _ _ (by kernel_rfl)
def sh108:FSh:=⟨⟨[(.slc 0),(.fn 109 [])],[(0,(.row 64 y24))]⟩,[y35],1,⟨⟨[(.tup [])],[(0,(.row 64 y24))]⟩,[y35],[0],1⟩,false⟩
noncomputable def q108 (F112:Y145)(F127:Y155)(a0:List Y1):Option Y14:=
chk (fits .u64 (↑a0.length:Int)) (
(F112 (↑a0.length:Int)).bind fun r1=>(
(F127 (0,(↑a0.length:Int),r1,a0)).bind fun r2=>(
some r2)))
theorem g108 (F112:Y145)(F127:Y155)(a0:List Y1):dxf (T108 F112 F127) sh108 [] c108 a0=q108 F112 F127 a0:=by kernel_rfl
noncomputable def p108:=q108 P112 P127
noncomputable def P108:Y160:=fun x=>p108 x
theorem v108:dxf (T108 P112 P127) sh108 [] c108=P108:=funext fun x=>(g108 P112 P127 x)
theorem d108:DC Tryz.prog 108 sh108 P108:=DC_eq v108 (dxf_sound t108 ok108 (by kernel_rfl))
noncomputable def T118 (F79:Y8):List FEnt:=[⟨79,sh79,F79⟩]
theorem t118:DTblOK Tryz.prog (T118 P79):=(DTbl_cons' d79 (by kernel_rfl) DTbl_nil)
noncomputable def c118:=anF Tryz.prog [] Tryz.f118 .n
theorem ok118:L.Fn Tryz.prog 118 9 [(.t 3)] (erase c118):=Fn.ofA hmix Tryz.func118 _ _ (by kernel_rfl)
def sh118:FSh:=⟨⟨[(.v y13),(.elm y68)],[]⟩,[y13,y68],0,⟨⟨[(.v .bool)],[]⟩,[.bool],[],0⟩,true⟩
noncomputable def q118 (F79:Y8)(a0:Int)(a1:Y15):Option Bool:=
(F79 (a1.2.2.1,a0)).bind fun r1=>(
some (!r1))
theorem g118 (F79:Y8)(a0:Int)(a1:Y15):dxf (T118 F79) sh118 [(.t 3)] c118 (a0,a1)=q118 F79 a0 a1:=by kernel_rfl
noncomputable def p118:=q118 P79
noncomputable def P118:Y147:=fun x=>p118 x.1 x.2
theorem v118:dxf (T118 P79) sh118 [(.t 3)] c118=P118:=funext fun x=>(g118 P79 x.1 x.2)
theorem d118:DC Tryz.prog 118 sh118 P118:=DC_eq v118 (dxf_sound t118 ok118 (by kernel_rfl))
noncomputable def T80v1 (F118:Y147):List FEnt:=[⟨118,sh118,F118⟩]
theorem t80v1:DTblOK Tryz.prog (T80v1 P118):=(DTbl_cons' d118 (by kernel_rfl) DTbl_nil)
def h80v1_0:LSh:=⟨[0,1,7,8],⟨[(.v y25),(.fn 118 [(.elm y68)]),(.v y13),(.v y13)],[]⟩,[y25,y68,y13,y13],0,[]⟩
noncomputable def c80v1:=anF Tryz.prog [] Tryz.f80 (.s .n (.s (.s .n (.b (.l h80v1_0 x123_0 .n))) .n))
noncomputable def s80v1_0 (T:List FEnt):=dstep (xs:=x123_0) h80v1_0 (dxc T (sb [1,0,1,2,2] c80v1))
noncomputable def l80v1_0 (T:List FEnt):=whileF (s80v1_0 T)
noncomputable def q80v1_0 (F118:Y147)(a0:List Int)(a1:Y15)(a2 a3:Int):Option Y195:=
cond (decide (a3 < a2)) (
chk (inR a3 a0.length) (
(F118 ((ix a0 a3),a1)).bind fun r1=>(
cond r1 (
some (Sum.inr (Sum.inl a3))) (
chk (fits .i64 (a3+1)) (
some (Sum.inl (a0,a1,a2,(a3+1)))))))) (
some (Sum.inr (Sum.inr ())))
theorem g80v1_0 (F118:Y147)(a0:List Int)(a1:Y15)(a2 a3:Int):s80v1_0 (T80v1 F118) (a0,a1,a2,a3)=q80v1_0 F118 a0 a1 a2 a3:=by kernel_rfl
noncomputable def p80v1_0:=q80v1_0 P118
noncomputable def L80v1_0:Y161:=whileF (fun x=>p80v1_0 x.1 x.2.1 x.2.2.1 x.2.2.2)
theorem v80v1_0:l80v1_0 (T80v1 P118) =L80v1_0:=congrArg whileF (funext fun x=>(g80v1_0 P118 x.1 x.2.1 x.2.2.1 x.2.2.2))
theorem ok80v1:L.Fn Tryz.prog 80 19 [(.t 4)] (erase c80v1):=Fn.ofA hmix Tryz.func80 _ _ (by kernel_rfl)
def sh80v1:FSh:=⟨⟨[(.v y25),(.fn 118 [(.elm y68)])],[]⟩,[y25,y68],0,⟨⟨[(.v y13)],[]⟩,[y13],[],0⟩,true⟩
noncomputable def q80v1 (F118:Y147)(l80v1_0:Y161)(a0:List Int)(a1:Y15):Option Int:=
(l80v1_0 (a0,a1,(↑a0.length:Int),0)).bind (fun y2=>Sum.elim (fun y3=>(
some y3)) (fun y4=>(
some (-1))) y2)
theorem g80v1 (F118:Y147)(a0:List Int)(a1:Y15):dxf (T80v1 F118) sh80v1 [(.t 4)] c80v1 (a0,a1)=q80v1 F118 (l80v1_0 (T80v1 F118)) a0 a1:=by kernel_rfl
noncomputable def p80v1:=q80v1 P118 L80v1_0
noncomputable def P80v1:Y148:=fun x=>p80v1 x.1 x.2
theorem v80v1:dxf (T80v1 P118) sh80v1 [(.t 4)] c80v1=P80v1:=funext fun x=>(g80v1 P118 x.1 x.2).trans (by rw[v80v1_0] <;> rfl)
theorem d80v1:DC Tryz.prog 80 sh80v1 P80v1:=DC_eq v80v1 (dxf_sound t80v1 ok80v1 (by kernel_rfl))
noncomputable def T91v1 (F80v1:Y148):List FEnt:=[⟨80,sh80v1,F80v1⟩]
theorem t91v1:DTblOK Tryz.prog (T91v1 P80v1):=(DTbl_cons' d80v1 (by kernel_rfl) DTbl_nil)
noncomputable def c91v1:=anF Tryz.prog [] Tryz.f91 .n
theorem ok91v1:L.Fn Tryz.prog 91 9 [(.t 4)] (erase c91v1):=Fn.ofA hmix Tryz.func91 _ _ (by kernel_rfl)
def sh91v1:FSh:=⟨⟨[(.v y25),(.fn 118 [(.elm y68)])],[]⟩,[y25,y68],0,⟨⟨[(.v .bool)],[]⟩,[.bool],[],0⟩,true⟩
noncomputable def q91v1 (F80v1:Y148)(a0:List Int)(a1:Y15):Option Bool:=
(F80v1 (a0,a1)).bind fun r1=>(
some (decide (0≤r1)))
theorem g91v1 (F80v1:Y148)(a0:List Int)(a1:Y15):dxf (T91v1 F80v1) sh91v1 [(.t 4)] c91v1 (a0,a1)=q91v1 F80v1 a0 a1:=by kernel_rfl
noncomputable def p91v1:=q91v1 P80v1
noncomputable def P91v1:Y149:=fun x=>p91v1 x.1 x.2
theorem v91v1:dxf (T91v1 P80v1) sh91v1 [(.t 4)] c91v1=P91v1:=funext fun x=>(g91v1 P80v1 x.1 x.2)
theorem d91v1:DC Tryz.prog 91 sh91v1 P91v1:=DC_eq v91v1 (dxf_sound t91v1 ok91v1 (by kernel_rfl))
noncomputable def T75 (F91v1:Y149):List FEnt:=[⟨91,sh91v1,F91v1⟩]
theorem t75:DTblOK Tryz.prog (T75 P91v1):=(DTbl_cons' d91v1 (by kernel_rfl) DTbl_nil)
noncomputable def c75:=anF Tryz.prog [] Tryz.f75 .n
theorem ok75:L.Fn Tryz.prog 75 13 [(.t 4)] (erase c75):=Fn.ofA hmix Tryz.func75 _ _ (by kernel_rfl)
def sh75:FSh:=⟨⟨[(.elm y229),(.st y68)],[]⟩,[y229,y68],0,⟨⟨[(.v .bool)],[]⟩,[.bool],[],0⟩,true⟩
noncomputable def q75 (F91v1:Y149)(a0:Y181)(a1:Y15):Option Bool:=
(F91v1 (a0.2.2.2.2.2.2.2.2.1,a1)).bind fun r1=>(
some (!r1))
theorem g75 (F91v1:Y149)(a0:Y181)(a1:Y15):dxf (T75 F91v1) sh75 [(.t 4)] c75 (a0,a1)=q75 F91v1 a0 a1:=by kernel_rfl
noncomputable def p75:=q75 P91v1
noncomputable def P75:Y205:=fun x=>p75 x.1 x.2
theorem v75:dxf (T75 P91v1) sh75 [(.t 4)] c75=P75:=funext fun x=>(g75 P91v1 x.1 x.2)
theorem d75:DC Tryz.prog 75 sh75 P75:=DC_eq v75 (dxf_sound t75 ok75 (by kernel_rfl))
noncomputable def T77:List FEnt:=[]
theorem t77:DTblOK Tryz.prog T77:=DTbl_nil
noncomputable def c77:=anF Tryz.prog [] Tryz.f77 .n
theorem ok77:L.Fn Tryz.prog 77 10 [(.t 4)] (erase c77):=Fn.ofA hmix Tryz.func77 _ _ (by kernel_rfl)
def sh77:FSh:=⟨⟨[(.st y24),(.st y24)],[]⟩,[y24,y24],0,⟨⟨[(.v y13)],[]⟩,[y13],[],0⟩,true⟩
noncomputable def q77 (a0 a1:Int×Int):Option Int:=
chk (fits .i64 (a0.1-a1.1)) (
some (a0.1-a1.1))
theorem g77 (a0 a1:Int×Int):dxf T77 sh77 [(.t 4)] c77 (a0,a1)=q77 a0 a1:=by kernel_rfl
noncomputable def p77:=q77
noncomputable def P77:Y146:=fun x=>p77 x.1 x.2
theorem v77:dxf T77 sh77 [(.t 4)] c77=P77:=funext fun x=>(g77 x.1 x.2)
theorem d77:DC Tryz.prog 77 sh77 P77:=DC_eq v77 (dxf_sound t77 ok77 (by kernel_rfl))
noncomputable def T139 (F77:Y146):List FEnt:=[⟨77,sh77,F77⟩]
theorem t139:DTblOK Tryz.prog (T139 P77):=(DTbl_cons' d77 (by kernel_rfl) DTbl_nil)
def h139_1:LSh:=⟨[0,1,2,3,8,9],⟨[(.slc 0),(.v y13),(.v y13),(.fn 77 []),(.v y13),(.v y13)],[(0,(.row 55 y24))]⟩,[y13,y13,y13,y13,y35],1,[0]⟩
def x139_1:List XSh:=[⟨(.exit 2),[0,1,2,3,8],⟨⟨[(.slc 0),(.v y13),(.v y13),(.fn 77 []),(.v y13)],[(0,(.row 55 y24))]⟩,[y13,y13,y13,y35],[0],1⟩⟩]
def h139_0:LSh:=⟨[0,1,2,3,8],⟨[(.slc 0),(.v y13),(.v y13),(.fn 77 []),(.v y13)],[(0,(.row 55 y24))]⟩,[y13,y13,y13,y35],1,[0]⟩
def x139_0:List XSh:=[⟨(.exit 0),[],⟨⟨[],[(0,(.row 55 y24))]⟩,[y35],[0],1⟩⟩]
noncomputable def c139:=anF Tryz.prog [] Tryz.f139 (.s .n (.b (.l h139_0 x139_0 (.s .n (.s (.b (.s .n (.b (.l h139_1 x139_1 .n)))) .n)))))
noncomputable def s139_1 (T:List FEnt):=dstep (xs:=x139_1) h139_1 (dxc T (sb [1,2,2,1,0,2,1,2,2] c139))
noncomputable def l139_1 (T:List FEnt):=whileF (s139_1 T)
noncomputable def q139_1 (F77:Y146)(a0 a1 a2 a3:Int)(a4:List Y1):Option Y192:=
cond (decide (a0 < a3)) (
chk (inR a3 a4.length) (
chk (fits .i64 (a3-1)) (
chk (inR (a3-1) a4.length) (
(F77 ((ix a4 a3),(ix a4 (a3-1)))).bind fun r1=>(
cond (decide (r1 < 0)) (
chk (fits .i64 (a3-1)) (
chk (fits .i64 (a3-1)) (
chk (inR (a3-1) a4.length) (
chk (inR a3 a4.length) (
chk (inR a3 a4.length) (
chk (inR (a3-1) (List.length (List.set a4 a3.toNat (ix a4 (a3-1))))) (
chk (fits .i64 (a3-1)) (
some (Sum.inl (a0,a1,a2,(a3-1),(List.set (List.set a4 a3.toNat (ix a4 (a3-1))) (Int.toNat (a3-1)) (ix a4 a3)))))))))))) (
some (Sum.inr (a0,a1,a2,a4)))))))) (
some (Sum.inr (a0,a1,a2,a4)))
theorem g139_1 (F77:Y146)(a0 a1 a2 a3:Int)(a4:List Y1):s139_1 (T139 F77) (a0,a1,a2,a3,a4)=q139_1 F77 a0 a1 a2 a3 a4:=by kernel_rfl
noncomputable def p139_1:=q139_1 P77
noncomputable def L139_1:Y179:=whileF (fun x=>p139_1 x.1 x.2.1 x.2.2.1 x.2.2.2.1 x.2.2.2.2)
theorem v139_1:l139_1 (T139 P77) =L139_1:=congrArg whileF (funext fun x=>(g139_1 P77 x.1 x.2.1 x.2.2.1 x.2.2.2.1 x.2.2.2.2))
noncomputable def s139_0 (T:List FEnt):=dstep (xs:=x139_0) h139_0 (dxc T (sb [1,2,2] c139))
noncomputable def l139_0 (T:List FEnt):=whileF (s139_0 T)
noncomputable def q139_0 (F77:Y146)(l139_1:Y179)(a0 a1 a2:Int)(a3:List Y1):Option Y193:=
cond (decide (a2 < a1)) (
(l139_1 (a0,a1,a2,a2,a3)).bind fun y2=>(
chk (fits .i64 (y2.2.2.1+1)) (
some (Sum.inl (y2.1,y2.2.1,(y2.2.2.1+1),y2.2.2.2))))) (
some (Sum.inr a3))
theorem g139_0 (F77:Y146)(a0 a1 a2:Int)(a3:List Y1):s139_0 (T139 F77) (a0,a1,a2,a3)=q139_0 F77 (l139_1 (T139 F77)) a0 a1 a2 a3:=by kernel_rfl
noncomputable def p139_0:=q139_0 P77 L139_1
noncomputable def L139_0:Y155:=whileF (fun x=>p139_0 x.1 x.2.1 x.2.2.1 x.2.2.2)
theorem v139_0:l139_0 (T139 P77) =L139_0:=congrArg whileF (funext fun x=>(g139_0 P77 x.1 x.2.1 x.2.2.1 x.2.2.2).trans (by rw[v139_1] <;> rfl))
theorem ok139:L.Fn Tryz.prog 139 53 [] (erase c139):=Fn.ofA hmix Tryz.func139 _ _ (by kernel_rfl)
def sh139:FSh:=⟨⟨[(.slc 0),(.v y13),(.v y13),(.fn 77 [])],[(0,(.row 55 y24))]⟩,[y13,y13,y35],1,⟨⟨[(.tup [])],[(0,(.row 55 y24))]⟩,[y35],[0],1⟩,false⟩
noncomputable def q139 (F77:Y146)(l139_0:Y155)(a0 a1:Int)(a2:List Y1):Option Y14:=
chk (fits .i64 (a0+1)) (
(l139_0 (a0,a1,(a0+1),a2)).bind fun y3=>(
some y3))
theorem g139 (F77:Y146)(a0 a1:Int)(a2:List Y1):dxf (T139 F77) sh139 [] c139 (a0,a1,a2)=q139 F77 (l139_0 (T139 F77)) a0 a1 a2:=by kernel_rfl
noncomputable def p139:=q139 P77 L139_0
noncomputable def P139:Y157:=fun x=>p139 x.1 x.2.1 x.2.2
theorem v139:dxf (T139 P77) sh139 [] c139=P139:=funext fun x=>(g139 P77 x.1 x.2.1 x.2.2).trans (by rw[v139_0] <;> rfl)
theorem d139:DC Tryz.prog 139 sh139 P139:=DC_eq v139 (dxf_sound t139 ok139 (by kernel_rfl))
noncomputable def T163 (F77:Y146):List FEnt:=[⟨77,sh77,F77⟩]
theorem t163:DTblOK Tryz.prog (T163 P77):=(DTbl_cons' d77 (by kernel_rfl) DTbl_nil)
def h163_0:LSh:=⟨[0,2,3,4,10],⟨[(.slc 0),(.v y13),(.v y13),(.fn 77 []),(.v y13)],[(0,(.row 55 y24))]⟩,[y13,y13,y13,y35],1,[0]⟩
def x163_0:List XSh:=[⟨(.exit 0),[],⟨⟨[],[(0,(.row 55 y24))]⟩,[y35],[0],1⟩⟩,⟨.ret,[],⟨⟨[],[(0,(.row 55 y24))]⟩,[y35],[0],1⟩⟩]
noncomputable def c163:=anF Tryz.prog [] Tryz.f163 (.s .n (.b (.l h163_0 x163_0 .n)))
noncomputable def s163_0 (T:List FEnt):=dstep (xs:=x163_0) h163_0 (dxc T (sb [1,2,2] c163))
noncomputable def l163_0 (T:List FEnt):=whileF (s163_0 T)
noncomputable def q163_0 (F77:Y146)(a0 a1 a2:Int)(a3:List Y1):Option Y196:=
chk (fits .i64 (2*a2)) (
chk (fits .i64 ((2*a2)+1)) (
cond (decide (a0≤((2*a2)+1))) (
some (Sum.inr (Sum.inl a3))) (
chk (fits .i64 (((2*a2)+1)+1)) (
cond (decide ((((2*a2)+1)+1) < a0)) (
chk (fits .i64 (a1+((2*a2)+1))) (
chk (inR (a1+((2*a2)+1)) a3.length) (
chk (fits .i64 (a1+((2*a2)+1))) (
chk (fits .i64 ((a1+((2*a2)+1))+1)) (
chk (inR ((a1+((2*a2)+1))+1) a3.length) (
(F77 ((ix a3 (a1+((2*a2)+1))),(ix a3 ((a1+((2*a2)+1))+1)))).bind fun r1=>(
cond (decide (r1 < 0)) (
chk (fits .i64 (((2*a2)+1)+1)) (
chk (fits .i64 (a1+a2)) (
chk (inR (a1+a2) a3.length) (
chk (fits .i64 (a1+(((2*a2)+1)+1))) (
chk (inR (a1+(((2*a2)+1)+1)) a3.length) (
(F77 ((ix a3 (a1+a2)),(ix a3 (a1+(((2*a2)+1)+1))))).bind fun r2=>(
cond (!(decide (r2 < 0))) (
some (Sum.inr (Sum.inr a3))) (
chk (fits .i64 (a1+a2)) (
chk (fits .i64 (a1+(((2*a2)+1)+1))) (
chk (fits .i64 (a1+(((2*a2)+1)+1))) (
chk (inR (a1+(((2*a2)+1)+1)) a3.length) (
chk (fits .i64 (a1+a2)) (
chk (inR (a1+a2) a3.length) (
chk (inR (a1+a2) a3.length) (
chk (inR (a1+(((2*a2)+1)+1)) (List.length (List.set a3 (Int.toNat (a1+a2)) (ix a3 (a1+(((2*a2)+1)+1)))))) (
some (Sum.inl (a0,a1,(((2*a2)+1)+1),(List.set (List.set a3 (Int.toNat (a1+a2)) (ix a3 (a1+(((2*a2)+1)+1)))) (Int.toNat (a1+(((2*a2)+1)+1))) (ix a3 (a1+a2))))))))))))))))))))) (
chk (fits .i64 (a1+a2)) (
chk (inR (a1+a2) a3.length) (
chk (fits .i64 (a1+((2*a2)+1))) (
chk (inR (a1+((2*a2)+1)) a3.length) (
(F77 ((ix a3 (a1+a2)),(ix a3 (a1+((2*a2)+1))))).bind fun r3=>(
cond (!(decide (r3 < 0))) (
some (Sum.inr (Sum.inr a3))) (
chk (fits .i64 (a1+a2)) (
chk (fits .i64 (a1+((2*a2)+1))) (
chk (fits .i64 (a1+((2*a2)+1))) (
chk (inR (a1+((2*a2)+1)) a3.length) (
chk (fits .i64 (a1+a2)) (
chk (inR (a1+a2) a3.length) (
chk (inR (a1+a2) a3.length) (
chk (inR (a1+((2*a2)+1)) (List.length (List.set a3 (Int.toNat (a1+a2)) (ix a3 (a1+((2*a2)+1)))))) (
some (Sum.inl (a0,a1,((2*a2)+1),(List.set (List.set a3 (Int.toNat (a1+a2)) (ix a3 (a1+((2*a2)+1)))) (Int.toNat (a1+((2*a2)+1))) (ix a3 (a1+a2))))))))))))))))))))))))))) (
chk (fits .i64 (a1+a2)) (
chk (inR (a1+a2) a3.length) (
chk (fits .i64 (a1+((2*a2)+1))) (
chk (inR (a1+((2*a2)+1)) a3.length) (
(F77 ((ix a3 (a1+a2)),(ix a3 (a1+((2*a2)+1))))).bind fun r4=>(
cond (!(decide (r4 < 0))) (
some (Sum.inr (Sum.inr a3))) (
chk (fits .i64 (a1+a2)) (
chk (fits .i64 (a1+((2*a2)+1))) (
chk (fits .i64 (a1+((2*a2)+1))) (
chk (inR (a1+((2*a2)+1)) a3.length) (
chk (fits .i64 (a1+a2)) (
chk (inR (a1+a2) a3.length) (
chk (inR (a1+a2) a3.length) (
chk (inR (a1+((2*a2)+1)) (List.length (List.set a3 (Int.toNat (a1+a2)) (ix a3 (a1+((2*a2)+1)))))) (
some (Sum.inl (a0,a1,((2*a2)+1),(List.set (List.set a3 (Int.toNat (a1+a2)) (ix a3 (a1+((2*a2)+1)))) (Int.toNat (a1+((2*a2)+1))) (ix a3 (a1+a2))))))))))))))))))))))))
theorem g163_0 (F77:Y146)(a0 a1 a2:Int)(a3:List Y1):s163_0 (T163 F77) (a0,a1,a2,a3)=q163_0 F77 a0 a1 a2 a3:=by kernel_rfl
noncomputable def p163_0:=q163_0 P77
noncomputable def L163_0:Y182:=whileF (fun x=>p163_0 x.1 x.2.1 x.2.2.1 x.2.2.2)
theorem v163_0:l163_0 (T163 P77) =L163_0:=congrArg whileF (funext fun x=>(g163_0 P77 x.1 x.2.1 x.2.2.1 x.2.2.2))
theorem ok163:L.Fn Tryz.prog 163 82 [] (erase c163):=Fn.ofA hmix Tryz.func163 _ _ (by kernel_rfl)
def sh163:FSh:=⟨⟨[(.slc 0),(.v y13),(.v y13),(.v y13),(.fn 77 [])],[(0,(.row 55 y24))]⟩,[y13,y13,y13,y35],1,⟨⟨[(.tup [])],[(0,(.row 55 y24))]⟩,[y35],[0],1⟩,false⟩
noncomputable def q163 (F77:Y146)(l163_0:Y182)(a0 a1 a2:Int)(a3:List Y1):Option Y14:=
(l163_0 (a1,a2,a0,a3)).bind (fun y5=>Sum.elim (fun y6=>(
some y6)) (fun y7=>(
some y7)) y5)
theorem g163 (F77:Y146)(a0 a1 a2:Int)(a3:List Y1):dxf (T163 F77) sh163 [] c163 (a0,a1,a2,a3)=q163 F77 (l163_0 (T163 F77)) a0 a1 a2 a3:=by kernel_rfl
noncomputable def p163:=q163 P77 L163_0
noncomputable def P163:Y155:=fun x=>p163 x.1 x.2.1 x.2.2.1 x.2.2.2
theorem v163:dxf (T163 P77) sh163 [] c163=P163:=funext fun x=>(g163 P77 x.1 x.2.1 x.2.2.1 x.2.2.2).trans (by rw[v163_0] <;> rfl)
theorem d163:DC Tryz.prog 163 sh163 P163:=DC_eq v163 (dxf_sound t163 ok163 (by kernel_rfl))
noncomputable def T140 (F163:Y155):List FEnt:=[⟨163,sh163,F163⟩]
theorem t140:DTblOK Tryz.prog (T140 P163):=(DTbl_cons' d163 (by kernel_rfl) DTbl_nil)
def h140_0:LSh:=⟨[0,3,8,9,10,11],⟨[(.slc 0),(.fn 77 []),(.v y13),(.v y13),(.v y13),(.v y13)],[(0,(.row 55 y24))]⟩,[y13,y13,y13,y13,y35],1,[0]⟩
def x140_0:List XSh:=[⟨(.exit 0),[0,3,8,9,10],⟨⟨[(.slc 0),(.fn 77 []),(.v y13),(.v y13),(.v y13)],[(0,(.row 55 y24))]⟩,[y13,y13,y13,y35],[0],1⟩⟩]
def h140_1:LSh:=⟨[0,3,8,9,12],⟨[(.slc 0),(.fn 77 []),(.v y13),(.v y13),(.v y13)],[(0,(.row 55 y24))]⟩,[y13,y13,y13,y35],1,[0]⟩
def x140_1:List XSh:=[⟨(.exit 2),[],⟨⟨[],[(0,(.row 55 y24))]⟩,[y35],[0],1⟩⟩]
noncomputable def c140:=anF Tryz.prog [] Tryz.f140 (.s .n (.s .n (.s .n (.s (.s .n (.b (.l h140_0 x140_0 .n))) (.s .n (.b (.l h140_1 x140_1 .n)))))))
noncomputable def s140_0 (T:List FEnt):=dstep (xs:=x140_0) h140_0 (dxc T (sb [1,1,1,0,1,2,2] c140))
noncomputable def l140_0 (T:List FEnt):=whileF (s140_0 T)
noncomputable def q140_0 (F163:Y155)(a0 a1 a2 a3:Int)(a4:List Y1):Option Y192:=
cond (decide (0≤a3)) (
(F163 (a3,a2,a0,a4)).bind fun r1=>(
chk (fits .i64 (a3-1)) (
some (Sum.inl (a0,a1,a2,(a3-1),r1))))) (
some (Sum.inr (a0,a1,a2,a4)))
theorem g140_0 (F163:Y155)(a0 a1 a2 a3:Int)(a4:List Y1):s140_0 (T140 F163) (a0,a1,a2,a3,a4)=q140_0 F163 a0 a1 a2 a3 a4:=by kernel_rfl
noncomputable def p140_0:=q140_0 P163
noncomputable def L140_0:Y179:=whileF (fun x=>p140_0 x.1 x.2.1 x.2.2.1 x.2.2.2.1 x.2.2.2.2)
theorem v140_0:l140_0 (T140 P163) =L140_0:=congrArg whileF (funext fun x=>(g140_0 P163 x.1 x.2.1 x.2.2.1 x.2.2.2.1 x.2.2.2.2))
noncomputable def s140_1 (T:List FEnt):=dstep (xs:=x140_1) h140_1 (dxc T (sb [1,1,1,1,1,2,2] c140))
noncomputable def l140_1 (T:List FEnt):=whileF (s140_1 T)
noncomputable def q140_1 (F163:Y155)(a0 a1 a2:Int)(a3:List Y1):Option Y193:=
cond (decide (0≤a2)) (
chk (fits .i64 (a0+a2)) (
chk (fits .i64 (a0+a2)) (
chk (inR (a0+a2) a3.length) (
chk (inR a0 a3.length) (
chk (inR a0 a3.length) (
chk (inR (a0+a2) (List.length (List.set a3 a0.toNat (ix a3 (a0+a2))))) (
(F163 (a1,a2,a0,(List.set (List.set a3 a0.toNat (ix a3 (a0+a2))) (Int.toNat (a0+a2)) (ix a3 a0)))).bind fun r3=>(
chk (fits .i64 (a2-1)) (
some (Sum.inl (a0,a1,(a2-1),r3))))))))))) (
some (Sum.inr a3))
theorem g140_1 (F163:Y155)(a0 a1 a2:Int)(a3:List Y1):s140_1 (T140 F163) (a0,a1,a2,a3)=q140_1 F163 a0 a1 a2 a3:=by kernel_rfl
noncomputable def p140_1:=q140_1 P163
noncomputable def L140_1:Y155:=whileF (fun x=>p140_1 x.1 x.2.1 x.2.2.1 x.2.2.2)
theorem v140_1:l140_1 (T140 P163) =L140_1:=congrArg whileF (funext fun x=>(g140_1 P163 x.1 x.2.1 x.2.2.1 x.2.2.2))
theorem ok140:L.Fn Tryz.prog 140 60 [] (erase c140):=Fn.ofA hmix Tryz.func140 _ _ (by kernel_rfl)
def sh140:FSh:=⟨⟨[(.slc 0),(.v y13),(.v y13),(.fn 77 [])],[(0,(.row 55 y24))]⟩,[y13,y13,y35],1,⟨⟨[(.tup [])],[(0,(.row 55 y24))]⟩,[y35],[0],1⟩,false⟩
noncomputable def q140 (F163:Y155)(l140_0:Y179)(l140_1:Y155)(a0 a1:Int)(a2:List Y1):Option Y14:=
chk (fits .i64 (a1-a0)) (
chk (fits .i64 ((a1-a0)-1)) (
chk (fits .i64 (Int.tdiv ((a1-a0)-1) 2)) (
(l140_0 (a0,0,(a1-a0),(Int.tdiv ((a1-a0)-1) 2),a2)).bind fun y2=>(
chk (fits .i64 (y2.2.2.1-1)) (
(l140_1 (y2.1,y2.2.1,(y2.2.2.1-1),y2.2.2.2)).bind fun y4=>(
some y4))))))
theorem g140 (F163:Y155)(a0 a1:Int)(a2:List Y1):dxf (T140 F163) sh140 [] c140 (a0,a1,a2)=q140 F163 (l140_0 (T140 F163)) (l140_1 (T140 F163)) a0 a1 a2:=by kernel_rfl
noncomputable def p140:=q140 P163 L140_0 L140_1
noncomputable def P140:Y157:=fun x=>p140 x.1 x.2.1 x.2.2
theorem v140:dxf (T140 P163) sh140 [] c140=P140:=funext fun x=>(g140 P163 x.1 x.2.1 x.2.2).trans (by rw[v140_0,v140_1] <;> rfl)
theorem d140:DC Tryz.prog 140 sh140 P140:=DC_eq v140 (dxf_sound t140 ok140 (by kernel_rfl))
noncomputable def T158 (F112:Y145):List FEnt:=[⟨112,sh112,F112⟩]
theorem t158:DTblOK Tryz.prog (T158 P112):=(DTbl_cons' d112 (by kernel_rfl) DTbl_nil)
noncomputable def c158:=anF Tryz.prog [] Tryz.f158 .n
theorem ok158:L.Fn Tryz.prog 158 7 [(.t 2)] (erase c158):=Fn.ofA hmix Tryz.func158 _ _ (by kernel_rfl)
def sh158:FSh:=⟨⟨[(.v y13)],[]⟩,[y13],0,⟨⟨[(.v y151)],[]⟩,[y151],[],0⟩,true⟩
noncomputable def q158 (F112:Y145)(a0:Int):Option Int:=
chk (fits .u64 a0) (
(F112 a0).bind fun r1=>(
chk (decide (0≤r1)) (
some (shlI .u64 1 r1))))
theorem g158 (F112:Y145)(a0:Int):dxf (T158 F112) sh158 [(.t 2)] c158 a0=q158 F112 a0:=by kernel_rfl
noncomputable def p158:=q158 P112
noncomputable def P158:Y145:=fun x=>p158 x
theorem v158:dxf (T158 P112) sh158 [(.t 2)] c158=P158:=funext fun x=>(g158 P112 x)
theorem d158:DC Tryz.prog 158 sh158 P158:=DC_eq v158 (dxf_sound t158 ok158 (by kernel_rfl))
noncomputable def T159:List FEnt:=[]
theorem t159:DTblOK Tryz.prog T159:=DTbl_nil
noncomputable def c159:=anF Tryz.prog [] Tryz.f159 .n
theorem ok159:L.Fn Tryz.prog 159 33 [(.t 2)] (erase c159):=Fn.ofA hmix Tryz.func159 _ _ (by kernel_rfl)
def sh159:FSh:=⟨⟨[(.ptr 0 0)],[(0,(.boxT y151))]⟩,[y151],1,⟨⟨[(.v y151)],[(0,(.boxT y151))]⟩,[y151,y151],[0],1⟩,false⟩
noncomputable def q159 (a0:Int):Option Y1:=
some ((bxor .u64 (bxor .u64 (bxor .u64 a0 (shlI .u64 a0 13)) (shrI .u64 (bxor .u64 a0 (shlI .u64 a0 13)) 7)) (shlI .u64 (bxor .u64 (bxor .u64 a0 (shlI .u64 a0 13)) (shrI .u64 (bxor .u64 a0 (shlI .u64 a0 13)) 7)) 17)),(bxor .u64 (bxor .u64 (bxor .u64 a0 (shlI .u64 a0 13)) (shrI .u64 (bxor .u64 a0 (shlI .u64 a0 13)) 7)) (shlI .u64 (bxor .u64 (bxor .u64 a0 (shlI .u64 a0 13)) (shrI .u64 (bxor .u64 a0 (shlI .u64 a0 13)) 7)) 17)))
theorem g159 (a0:Int):dxf T159 sh159 [(.t 2)] c159 a0=q159 a0:=by kernel_rfl
noncomputable def p159:=q159
noncomputable def P159:Y150:=fun x=>p159 x
theorem v159:dxf T159 sh159 [(.t 2)] c159=P159:=funext fun x=>(g159 x)
theorem d159:DC Tryz.prog 159 sh159 P159:=DC_eq v159 (dxf_sound t159 ok159 (by kernel_rfl))
noncomputable def T141 (F158:Y145)(F159:Y150):List FEnt:=[⟨158,sh158,F158⟩,⟨159,sh159,F159⟩]
theorem t141:DTblOK Tryz.prog (T141 P158 P159):=(DTbl_cons' d158 (by kernel_rfl) (DTbl_cons' d159 (by kernel_rfl) DTbl_nil))
def h141_0:LSh:=⟨[0,1,8,9,10,11],⟨[(.slc 0),(.v y13),(.v y13),(.ptr 1 0),(.v y151),(.v y13)],[(0,(.row 55 y24)),(1,(.boxT y151))]⟩,[y13,y13,y151,y13,y35,y151],2,[0,1]⟩
def x141_0:List XSh:=[⟨(.exit 0),[],⟨⟨[],[(0,(.row 55 y24)),(1,(.boxT y151))]⟩,[y35,y151],[0,1],2⟩⟩]
noncomputable def c141:=anF Tryz.prog [] Tryz.f141 (.s .n (.s .n (.s (.s .n (.s .n (.s .n (.b (.l h141_0 x141_0 .n))))) .n)))
noncomputable def s141_0 (T:List FEnt):=dstep (xs:=x141_0) h141_0 (dxc T (sb [1,1,0,1,1,1,2,2] c141))
noncomputable def l141_0 (T:List FEnt):=whileF (s141_0 T)
noncomputable def q141_0 (F158:Y145)(F159:Y150)(a0 a1 a2 a3:Int)(a4:List Y1)(a5:Int):Option Y197:=
chk (fits .i64 (Int.tdiv a1 4)) (
chk (fits .i64 ((Int.tdiv a1 4)*2)) (
chk (fits .i64 (a0+((Int.tdiv a1 4)*2))) (
chk (fits .i64 ((a0+((Int.tdiv a1 4)*2))+1)) (
cond (decide (a3≤((a0+((Int.tdiv a1 4)*2))+1))) (
(F159 a5).bind fun r2=>(
chk (fits .u64 (a2-1)) (
chk (fits .i64 (band .u64 r2.1 (a2-1))) (
cond (decide (a1≤(band .u64 r2.1 (a2-1)))) (
chk (fits .i64 ((band .u64 r2.1 (a2-1))-a1)) (
chk (fits .i64 (a0+((band .u64 r2.1 (a2-1))-a1))) (
chk (fits .i64 (a0+((band .u64 r2.1 (a2-1))-a1))) (
chk (inR (a0+((band .u64 r2.1 (a2-1))-a1)) a4.length) (
chk (inR a3 a4.length) (
chk (inR a3 a4.length) (
chk (inR (a0+((band .u64 r2.1 (a2-1))-a1)) (List.length (List.set a4 a3.toNat (ix a4 (a0+((band .u64 r2.1 (a2-1))-a1)))))) (
chk (fits .i64 (a3+1)) (
some (Sum.inl (a0,a1,a2,(a3+1),(List.set (List.set a4 a3.toNat (ix a4 (a0+((band .u64 r2.1 (a2-1))-a1)))) (Int.toNat (a0+((band .u64 r2.1 (a2-1))-a1))) (ix a4 a3)),r2.2))))))))))) (
chk (fits .i64 (a0+(band .u64 r2.1 (a2-1)))) (
chk (fits .i64 (a0+(band .u64 r2.1 (a2-1)))) (
chk (inR (a0+(band .u64 r2.1 (a2-1))) a4.length) (
chk (inR a3 a4.length) (
chk (inR a3 a4.length) (
chk (inR (a0+(band .u64 r2.1 (a2-1))) (List.length (List.set a4 a3.toNat (ix a4 (a0+(band .u64 r2.1 (a2-1))))))) (
chk (fits .i64 (a3+1)) (
some (Sum.inl (a0,a1,a2,(a3+1),(List.set (List.set a4 a3.toNat (ix a4 (a0+(band .u64 r2.1 (a2-1))))) (Int.toNat (a0+(band .u64 r2.1 (a2-1)))) (ix a4 a3)),r2.2)))))))))))))) (
some (Sum.inr (a4,a5)))))))
theorem g141_0 (F158:Y145)(F159:Y150)(a0 a1 a2 a3:Int)(a4:List Y1)(a5:Int):s141_0 (T141 F158 F159) (a0,a1,a2,a3,a4,a5)=q141_0 F158 F159 a0 a1 a2 a3 a4 a5:=by kernel_rfl
noncomputable def p141_0:=q141_0 P158 P159
noncomputable def L141_0:Y183:=whileF (fun x=>p141_0 x.1 x.2.1 x.2.2.1 x.2.2.2.1 x.2.2.2.2.1 x.2.2.2.2.2)
theorem v141_0:l141_0 (T141 P158 P159) =L141_0:=congrArg whileF (funext fun x=>(g141_0 P158 P159 x.1 x.2.1 x.2.2.1 x.2.2.2.1 x.2.2.2.2.1 x.2.2.2.2.2))
theorem ok141:L.Fn Tryz.prog 141 67 [] (erase c141):=Fn.ofA hmix Tryz.func141 _ _ (by kernel_rfl)
def sh141:FSh:=⟨⟨[(.slc 0),(.v y13),(.v y13),(.fn 77 [])],[(0,(.row 55 y24))]⟩,[y13,y13,y35],1,⟨⟨[(.tup [])],[(0,(.row 55 y24))]⟩,[y35],[0],1⟩,false⟩
noncomputable def q141 (F158:Y145)(F159:Y150)(l141_0:Y183)(a0 a1:Int)(a2:List Y1):Option Y14:=
chk (fits .i64 (a1-a0)) (
cond (decide (8≤(a1-a0))) (
chk (fits .u64 (a1-a0)) (
(F158 (a1-a0)).bind fun r1=>(
chk (fits .i64 (Int.tdiv (a1-a0) 4)) (
chk (fits .i64 ((Int.tdiv (a1-a0) 4)*2)) (
chk (fits .i64 (a0+((Int.tdiv (a1-a0) 4)*2))) (
chk (fits .i64 ((a0+((Int.tdiv (a1-a0) 4)*2))-1)) (
(l141_0 (a0,(a1-a0),r1,((a0+((Int.tdiv (a1-a0) 4)*2))-1),a2,(a1-a0))).bind fun y3=>(
some y3.1)))))))) (
some a2))
theorem g141 (F158:Y145)(F159:Y150)(a0 a1:Int)(a2:List Y1):dxf (T141 F158 F159) sh141 [] c141 (a0,a1,a2)=q141 F158 F159 (l141_0 (T141 F158 F159)) a0 a1 a2:=by kernel_rfl
noncomputable def p141:=q141 P158 P159 L141_0
noncomputable def P141:Y157:=fun x=>p141 x.1 x.2.1 x.2.2
theorem v141:dxf (T141 P158 P159) sh141 [] c141=P141:=funext fun x=>(g141 P158 P159 x.1 x.2.1 x.2.2).trans (by rw[v141_0] <;> rfl)
theorem d141:DC Tryz.prog 141 sh141 P141:=DC_eq v141 (dxf_sound t141 ok141 (by kernel_rfl))
noncomputable def T171 (F77:Y146):List FEnt:=[⟨77,sh77,F77⟩]
theorem t171:DTblOK Tryz.prog (T171 P77):=(DTbl_cons' d77 (by kernel_rfl) DTbl_nil)
noncomputable def c171:=anF Tryz.prog [] Tryz.f171 .n
theorem ok171:L.Fn Tryz.prog 171 32 [(.t 10),(.t 11)] (erase c171):=Fn.ofA hmix Tryz.func171 _ _ (by kernel_rfl)
def sh171:FSh:=⟨⟨[(.slc 0),(.v y13),(.v y13),(.ptr 1 0),(.fn 77 [])],[(0,(.row 55 y24)),(1,(.boxT y13))]⟩,[y13,y13,y35,y13],2,⟨⟨[(.tup [(.v y13),(.v y13)])],[(0,(.row 55 y24)),(1,(.boxT y13))]⟩,[y13,y13,y35,y13],[0,1],2⟩,false⟩
noncomputable def q171 (F77:Y146)(a0 a1:Int)(a2:List Y1)(a3:Int):Option Y162:=
chk (inR a1 a2.length) (
chk (inR a0 a2.length) (
(F77 ((ix a2 a1),(ix a2 a0))).bind fun r1=>(
cond (decide (r1 < 0)) (
chk (fits .i64 (a3+1)) (
some (a1,a0,a2,(a3+1)))) (
some (a0,a1,a2,a3)))))
theorem g171 (F77:Y146)(a0 a1:Int)(a2:List Y1)(a3:Int):dxf (T171 F77) sh171 [(.t 10),(.t 11)] c171 (a0,a1,a2,a3)=q171 F77 a0 a1 a2 a3:=by kernel_rfl
noncomputable def p171:=q171 P77
noncomputable def P171:Y184:=fun x=>p171 x.1 x.2.1 x.2.2.1 x.2.2.2
theorem v171:dxf (T171 P77) sh171 [(.t 10),(.t 11)] c171=P171:=funext fun x=>(g171 P77 x.1 x.2.1 x.2.2.1 x.2.2.2)
theorem d171:DC Tryz.prog 171 sh171 P171:=DC_eq v171 (dxf_sound t171 ok171 (by kernel_rfl))
noncomputable def T165 (F171:Y184):List FEnt:=[⟨171,sh171,F171⟩]
theorem t165:DTblOK Tryz.prog (T165 P171):=(DTbl_cons' d171 (by kernel_rfl) DTbl_nil)
noncomputable def c165:=anF Tryz.prog [] Tryz.f165 .n
theorem ok165:L.Fn Tryz.prog 165 41 [(.t 12)] (erase c165):=Fn.ofA hmix Tryz.func165 _ _ (by kernel_rfl)
def sh165:FSh:=⟨⟨[(.slc 0),(.v y13),(.v y13),(.v y13),(.ptr 1 0),(.fn 77 [])],[(0,(.row 55 y24)),(1,(.boxT y13))]⟩,[y13,y13,y13,y35,y13],2,⟨⟨[(.v y13)],[(0,(.row 55 y24)),(1,(.boxT y13))]⟩,[y13,y35,y13],[0,1],2⟩,false⟩
noncomputable def q165 (F171:Y184)(a0 a1 a2:Int)(a3:List Y1)(a4:Int):Option Y163:=
(F171 (a0,a1,a3,a4)).bind fun r1=>(
(F171 (r1.2.1,a2,r1.2.2.1,r1.2.2.2)).bind fun r2=>(
(F171 (r1.1,r2.1,r2.2.2.1,r2.2.2.2)).bind fun r3=>(
some (r3.2.1,r3.2.2.1,r3.2.2.2))))
theorem g165 (F171:Y184)(a0 a1 a2:Int)(a3:List Y1)(a4:Int):dxf (T165 F171) sh165 [(.t 12)] c165 (a0,a1,a2,a3,a4)=q165 F171 a0 a1 a2 a3 a4:=by kernel_rfl
noncomputable def p165:=q165 P171
noncomputable def P165:Y185:=fun x=>p165 x.1 x.2.1 x.2.2.1 x.2.2.2.1 x.2.2.2.2
theorem v165:dxf (T165 P171) sh165 [(.t 12)] c165=P165:=funext fun x=>(g165 P171 x.1 x.2.1 x.2.2.1 x.2.2.2.1 x.2.2.2.2)
theorem d165:DC Tryz.prog 165 sh165 P165:=DC_eq v165 (dxf_sound t165 ok165 (by kernel_rfl))
noncomputable def T164 (F165:Y185):List FEnt:=[⟨165,sh165,F165⟩]
theorem t164:DTblOK Tryz.prog (T164 P165):=(DTbl_cons' d165 (by kernel_rfl) DTbl_nil)
noncomputable def c164:=anF Tryz.prog [] Tryz.f164 .n
theorem ok164:L.Fn Tryz.prog 164 18 [(.t 8)] (erase c164):=Fn.ofA hmix Tryz.func164 _ _ (by kernel_rfl)
def sh164:FSh:=⟨⟨[(.slc 0),(.v y13),(.ptr 1 0),(.fn 77 [])],[(0,(.row 55 y24)),(1,(.boxT y13))]⟩,[y13,y35,y13],2,⟨⟨[(.v y13)],[(0,(.row 55 y24)),(1,(.boxT y13))]⟩,[y13,y35,y13],[0,1],2⟩,false⟩
noncomputable def q164 (F165:Y185)(a0:Int)(a1:List Y1)(a2:Int):Option Y163:=
chk (fits .i64 (a0-1)) (
chk (fits .i64 (a0+1)) (
(F165 ((a0-1),a0,(a0+1),a1,a2)).bind fun r1=>(
some (r1.1,r1.2.1,r1.2.2))))
theorem g164 (F165:Y185)(a0:Int)(a1:List Y1)(a2:Int):dxf (T164 F165) sh164 [(.t 8)] c164 (a0,a1,a2)=q164 F165 a0 a1 a2:=by kernel_rfl
noncomputable def p164:=q164 P165
noncomputable def P164:Y186:=fun x=>p164 x.1 x.2.1 x.2.2
theorem v164:dxf (T164 P165) sh164 [(.t 8)] c164=P164:=funext fun x=>(g164 P165 x.1 x.2.1 x.2.2)
theorem d164:DC Tryz.prog 164 sh164 P164:=DC_eq v164 (dxf_sound t164 ok164 (by kernel_rfl))
noncomputable def T142 (F164:Y186)(F165:Y185):List FEnt:=[⟨164,sh164,F164⟩,⟨165,sh165,F165⟩]
theorem t142:DTblOK Tryz.prog (T142 P164 P165):=(DTbl_cons' d164 (by kernel_rfl) (DTbl_cons' d165 (by kernel_rfl) DTbl_nil))
noncomputable def c142:=anF Tryz.prog [] Tryz.f142 .n
theorem ok142:L.Fn Tryz.prog 142 63 [(.t 8),(.t 9)] (erase c142):=Fn.ofA hmix Tryz.func142 _ _ (by kernel_rfl)
def sh142:FSh:=⟨⟨[(.slc 0),(.v y13),(.v y13),(.fn 77 [])],[(0,(.row 55 y24))]⟩,[y13,y13,y35],1,⟨⟨[(.tup [(.v y13),(.v y13)])],[(0,(.row 55 y24))]⟩,[y13,y13,y35],[0],1⟩,false⟩
noncomputable def q142 (F164:Y186)(F165:Y185)(a0 a1:Int)(a2:List Y1):Option Y171:=
chk (fits .i64 (a1-a0)) (
chk (fits .i64 (Int.tdiv (a1-a0) 4)) (
chk (fits .i64 ((Int.tdiv (a1-a0) 4)*1)) (
chk (fits .i64 (a0+((Int.tdiv (a1-a0) 4)*1))) (
chk (fits .i64 (Int.tdiv (a1-a0) 4)) (
chk (fits .i64 ((Int.tdiv (a1-a0) 4)*2)) (
chk (fits .i64 (a0+((Int.tdiv (a1-a0) 4)*2))) (
chk (fits .i64 (Int.tdiv (a1-a0) 4)) (
chk (fits .i64 ((Int.tdiv (a1-a0) 4)*3)) (
chk (fits .i64 (a0+((Int.tdiv (a1-a0) 4)*3))) (
cond (decide (8≤(a1-a0))) (
cond (decide (50≤(a1-a0))) (
(F164 ((a0+((Int.tdiv (a1-a0) 4)*1)),a2,0)).bind fun r1=>(
(F164 ((a0+((Int.tdiv (a1-a0) 4)*2)),r1.2.1,r1.2.2)).bind fun r2=>(
(F164 ((a0+((Int.tdiv (a1-a0) 4)*3)),r2.2.1,r2.2.2)).bind fun r3=>(
(F165 (r1.1,r2.1,r3.1,r3.2.1,r3.2.2)).bind fun r4=>(
cond (decide (r4.2.2=0)) (
some (r4.1,1,r4.2.1)) (
cond (decide (r4.2.2=12)) (
some (r4.1,2,r4.2.1)) (
some (r4.1,0,r4.2.1)))))))) (
(F165 ((a0+((Int.tdiv (a1-a0) 4)*1)),(a0+((Int.tdiv (a1-a0) 4)*2)),(a0+((Int.tdiv (a1-a0) 4)*3)),a2,0)).bind fun r5=>(
cond (decide (r5.2.2=0)) (
some (r5.1,1,r5.2.1)) (
cond (decide (r5.2.2=12)) (
some (r5.1,2,r5.2.1)) (
some (r5.1,0,r5.2.1)))))) (
cond (decide ((0:Int)=0)) (
some ((a0+((Int.tdiv (a1-a0) 4)*2)),1,a2)) (
cond (decide ((0:Int)=12)) (
some ((a0+((Int.tdiv (a1-a0) 4)*2)),2,a2)) (
some ((a0+((Int.tdiv (a1-a0) 4)*2)),0,a2))))))))))))))
theorem g142 (F164:Y186)(F165:Y185)(a0 a1:Int)(a2:List Y1):dxf (T142 F164 F165) sh142 [(.t 8),(.t 9)] c142 (a0,a1,a2)=q142 F164 F165 a0 a1 a2:=by kernel_rfl
noncomputable def p142:=q142 P164 P165
noncomputable def P142:Y187:=fun x=>p142 x.1 x.2.1 x.2.2
theorem v142:dxf (T142 P164 P165) sh142 [(.t 8),(.t 9)] c142=P142:=funext fun x=>(g142 P164 P165 x.1 x.2.1 x.2.2)
theorem d142:DC Tryz.prog 142 sh142 P142:=DC_eq v142 (dxf_sound t142 ok142 (by kernel_rfl))
end Go.Proofs.YtdacabdocbhkdaaGreat.D
