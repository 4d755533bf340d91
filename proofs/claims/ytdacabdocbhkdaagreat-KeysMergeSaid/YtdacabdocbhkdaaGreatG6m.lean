/- Cut down from a longer text. -/
import Derived.Test.YtdacabdocbhkdaaGreatG5m
import Derived.Test.YtdacabdocbhkdaaGreatProg
set_option linter.unusedVariables false
set_option maxRecDepth 100000
namespace Go.Proofs.YtdacabdocbhkdaaGreat.D
open Go Go.Proofs L
noncomputable def T48 (F83:Y10)(F84:Y335)(F67:Y6)(F85:Y325):List FEnt:=[⟨83,sh83,F83⟩,⟨84,sh84,F84⟩,⟨67,sh67,F67⟩,⟨85,sh85,F85⟩]
theorem t48:DTblOK Tryz.prog (T48 P83 P84 P67 P85):=(DTbl_cons' d83 (by kernel_rfl) (DTbl_cons' d84 (by kernel_rfl) (DTbl_cons' d67 (by kernel_rfl) (DTbl_cons' d85 (by kernel_rfl) DTbl_nil))))
def h48_1:LSh:=⟨[1,3,4],⟨[(.ptr 0 0),(.v y13),(.v y13)],[(0,(.boxT y91))]⟩,[y13,y13,y91],1,[0]⟩
def x48_1:List XSh:=[⟨.ret,[2],⟨⟨[(.v .bool)],[(0,(.boxT y91))]⟩,[.bool,y91],[0],1⟩⟩,⟨(.exit 2),[1,3],⟨⟨[(.ptr 0 0),(.v y13)],[(0,(.boxT y91))]⟩,[y13,y91],[0],1⟩⟩]
def h48_3:LSh:=⟨[1,5,6,7,99,105,117],⟨[(.ptr 0 0),(.v y13),(.ptr 1 0),(.v y13),(.v .bool),(.v .bool),(.v .bool)],[(0,(.boxT y91)),(1,(.boxT y67))]⟩,[y13,y13,.bool,.bool,.bool,y91,y67],2,[0,1]⟩
def x48_3:List XSh:=[⟨.ret,[2],⟨⟨[(.v .bool)],[(0,(.boxT y91)),(1,(.boxT y67))]⟩,[.bool,y91,y67],[0,1],2⟩⟩,⟨(.exit 6),[1,5,99,105,117],⟨⟨[(.ptr 0 0),(.v y13),(.v .bool),(.v .bool),(.v .bool)],[(0,(.boxT y91)),(1,(.boxT y67))]⟩,[y13,.bool,.bool,.bool,y91,y67],[0,1],2⟩⟩]
def x48_2:List XSh:=[⟨.ret,[2],⟨⟨[(.v .bool)],[(0,(.boxT y91))]⟩,[.bool,y91],[0],1⟩⟩,⟨(.exit 4),[1],⟨⟨[(.ptr 0 0)],[(0,(.boxT y91))]⟩,[y91],[0],1⟩⟩]
def h48_4:LSh:=⟨[1,8],⟨[(.ptr 0 0),(.v y13)],[(0,(.boxT y91))]⟩,[y13,y91],1,[0]⟩
def x48_4:List XSh:=[⟨.ret,[2],⟨⟨[(.v .bool)],[(0,(.boxT y91))]⟩,[.bool,y91],[0],1⟩⟩,⟨(.exit 8),[1],⟨⟨[(.ptr 0 0)],[(0,(.boxT y91))]⟩,[y91],[0],1⟩⟩]
def h48_5:LSh:=⟨[1,10],⟨[(.ptr 0 0),(.v y13)],[(0,(.boxT y91))]⟩,[y13,y91],1,[0]⟩
def x48_5:List XSh:=[⟨.ret,[2],⟨⟨[(.v .bool)],[(0,(.boxT y91))]⟩,[.bool,y91],[0],1⟩⟩,⟨(.exit 10),[],⟨⟨[],[(0,(.boxT y91))]⟩,[y91],[0],1⟩⟩]
noncomputable def c48:=anF Tryz.prog [] Tryz.f48 (.s .n (.s .n (.s (.s .n (.b (.l h27_0 x27_0 (.s .n (.s (.b (.s .n (.s .n (.b (.l h48_1 x48_1 .n))))) .n))))) (.s (.s .n (.b (.l h27_2 x48_2 (.s .n (.s (.b (.s .n (.s .n (.s .n (.b (.l h48_3 x48_3 .n)))))) .n))))) (.s (.s .n (.b (.l h48_4 x48_4 .n))) (.s (.s .n (.b (.l h48_5 x48_5 .n))) .n))))))
noncomputable def s48_1 (T:List FEnt):=dstep (xs:=x48_1) h48_1 (dxc T (sb [1,1,0,1,2,2,1,0,2,1,1,2,2] c48))
noncomputable def l48_1 (T:List FEnt):=whileF (s48_1 T)
noncomputable def q48_1 (F83:Y10)(F84:Y335)(F67:Y6)(F85:Y325)(a0 a1:Int)(a2:Y42):Option Y406:=
cond (decide (a1 < a0)) (
chk (inR a1 a2.2.1.length) (
chk (inR a0 a2.2.1.length) (
cond (decide ((ix a2.2.1 a1).1=(ix a2.2.1 a0).1)) (
some (Sum.inr (Sum.inl (false,a2)))) (
chk (fits .i64 (a1+1)) (
some (Sum.inl (a0,(a1+1),a2))))))) (
some (Sum.inr (Sum.inr (a0,a2))))
theorem g48_1 (F83:Y10)(F84:Y335)(F67:Y6)(F85:Y325)(a0 a1:Int)(a2:Y42):s48_1 (T48 F83 F84 F67 F85) (a0,a1,a2)=q48_1 F83 F84 F67 F85 a0 a1 a2:=by kernel_rfl
noncomputable def p48_1:=q48_1 P83 P84 P67 P85
noncomputable def L48_1:Y404:=whileF (fun x=>p48_1 x.1 x.2.1 x.2.2)
theorem v48_1:l48_1 (T48 P83 P84 P67 P85) =L48_1:=congrArg whileF (funext fun x=>(g48_1 P83 P84 P67 P85 x.1 x.2.1 x.2.2))
noncomputable def s48_0 (T:List FEnt):=dstep (xs:=x27_0) h27_0 (dxc T (sb [1,1,0,1,2,2] c48))
noncomputable def l48_0 (T:List FEnt):=whileF (s48_0 T)
noncomputable def q48_0 (F83:Y10)(F84:Y335)(F67:Y6)(F85:Y325)(l48_1:Y404)(a0:Int)(a1:Y42):Option Y79:=
cond (decide (a0 < (↑a1.2.1.length:Int))) (
chk (inR a0 a1.2.1.length) (
(F84 (a1.1,(ix a1.2.1 a0))).bind fun r2=>(
cond (!r2) (
some (Sum.inr (Sum.inl (false,a1)))) (
(l48_1 (a0,0,a1)).bind (fun y3=>Sum.elim (fun y4=>(
some (Sum.inr (Sum.inl (y4.1,y4.2))))) (fun y5=>(
chk (fits .i64 (y5.1+1)) (
some (Sum.inl ((y5.1+1),y5.2))))) y3))))) (
some (Sum.inr (Sum.inr a1)))
theorem g48_0 (F83:Y10)(F84:Y335)(F67:Y6)(F85:Y325)(a0:Int)(a1:Y42):s48_0 (T48 F83 F84 F67 F85) (a0,a1)=q48_0 F83 F84 F67 F85 (l48_1 (T48 F83 F84 F67 F85)) a0 a1:=by kernel_rfl
noncomputable def p48_0:=q48_0 P83 P84 P67 P85 L48_1
noncomputable def L48_0:Y73:=whileF (fun x=>p48_0 x.1 x.2)
theorem v48_0:l48_0 (T48 P83 P84 P67 P85) =L48_0:=congrArg whileF (funext fun x=>(g48_0 P83 P84 P67 P85 x.1 x.2).trans (by rw[v48_1] <;> rfl))
noncomputable def s48_3 (T:List FEnt):=dstep (xs:=x48_3) h48_3 (dxc T (sb [1,1,1,0,1,2,2,1,0,2,1,1,1,2,2] c48))
noncomputable def l48_3 (T:List FEnt):=whileF (s48_3 T)
noncomputable def q48_3 (F83:Y10)(F84:Y335)(F67:Y6)(F85:Y325)(a0 a1:Int)(a2 a3 a4:Bool)(a5:Y42)(a6:Y22):Option Y414:=
cond (decide (a1 < a0)) (
chk (inR a1 a5.2.2.1.length) (
cond (decide ((ix a5.2.2.1 a1).1=a6.1)) (
some (Sum.inr (Sum.inl (false,a5,a6)))) (
chk (fits .i64 (a1+1)) (
some (Sum.inl (a0,(a1+1),a2,a3,a4,a5,a6)))))) (
some (Sum.inr (Sum.inr (a0,a2,a3,a4,a5,a6))))
theorem g48_3 (F83:Y10)(F84:Y335)(F67:Y6)(F85:Y325)(a0 a1:Int)(a2 a3 a4:Bool)(a5:Y42)(a6:Y22):s48_3 (T48 F83 F84 F67 F85) (a0,a1,a2,a3,a4,a5,a6)=q48_3 F83 F84 F67 F85 a0 a1 a2 a3 a4 a5 a6:=by kernel_rfl
noncomputable def p48_3:=q48_3 P83 P84 P67 P85
noncomputable def L48_3:Y411:=whileF (fun x=>p48_3 x.1 x.2.1 x.2.2.1 x.2.2.2.1 x.2.2.2.2.1 x.2.2.2.2.2.1 x.2.2.2.2.2.2)
theorem v48_3:l48_3 (T48 P83 P84 P67 P85) =L48_3:=congrArg whileF (funext fun x=>(g48_3 P83 P84 P67 P85 x.1 x.2.1 x.2.2.1 x.2.2.2.1 x.2.2.2.2.1 x.2.2.2.2.2.1 x.2.2.2.2.2.2))
noncomputable def s48_2 (T:List FEnt):=dstep (xs:=x48_2) h27_2 (dxc T (sb [1,1,1,0,1,2,2] c48))
noncomputable def l48_2 (T:List FEnt):=whileF (s48_2 T)
noncomputable def q48_2 (F83:Y10)(F84:Y335)(F67:Y6)(F85:Y325)(l48_3:Y411)(a0:Int)(a1:Y42):Option Y79:=
cond (decide (a0 < (↑a1.2.2.1.length:Int))) (
chk (inR a0 a1.2.2.1.length) (
(F67 ((ix a1.2.2.1 a0).1,0,99)).bind fun r9=>(
cond (!r9) (
some (Sum.inr (Sum.inl (false,a1)))) (
(F67 ((↑(List.length ((ix a1.2.2.1 a0).2.1)):Int),1,6)).bind fun r10=>(
cond (!r10) (
some (Sum.inr (Sum.inl (false,a1)))) (
(F85 ((ix a1.2.2.1 a0).2.1)).bind fun r11=>(
cond (!r11) (
some (Sum.inr (Sum.inl (false,a1)))) (
cond (decide (20 < (↑(List.length ((ix a1.2.2.1 a0).2.2)):Int))) (
some (Sum.inr (Sum.inl (false,a1)))) (
(F83 ((ix a1.2.2.1 a0).2.2)).bind fun r12=>(
cond (!r12) (
some (Sum.inr (Sum.inl (false,a1)))) (
(l48_3 (a0,0,r10,r11,r12,a1,(ix a1.2.2.1 a0))).bind (fun y13=>Sum.elim (fun y14=>(
some (Sum.inr (Sum.inl (y14.1,y14.2.1))))) (fun y15=>(
chk (fits .i64 (y15.1+1)) (
some (Sum.inl ((y15.1+1),y15.2.2.2.2.1))))) y13)))))))))))) (
some (Sum.inr (Sum.inr a1)))
theorem g48_2 (F83:Y10)(F84:Y335)(F67:Y6)(F85:Y325)(a0:Int)(a1:Y42):s48_2 (T48 F83 F84 F67 F85) (a0,a1)=q48_2 F83 F84 F67 F85 (l48_3 (T48 F83 F84 F67 F85)) a0 a1:=by kernel_rfl
noncomputable def p48_2:=q48_2 P83 P84 P67 P85 L48_3
noncomputable def L48_2:Y73:=whileF (fun x=>p48_2 x.1 x.2)
theorem v48_2:l48_2 (T48 P83 P84 P67 P85) =L48_2:=congrArg whileF (funext fun x=>(g48_2 P83 P84 P67 P85 x.1 x.2).trans (by rw[v48_3] <;> rfl))
noncomputable def s48_4 (T:List FEnt):=dstep (xs:=x48_4) h48_4 (dxc T (sb [1,1,1,1,0,1,2,2] c48))
noncomputable def l48_4 (T:List FEnt):=whileF (s48_4 T)
noncomputable def q48_4 (F83:Y10)(F84:Y335)(F67:Y6)(F85:Y325)(a0:Int)(a1:Y42):Option Y79:=
cond (decide (a0 < (↑a1.2.2.2.1.length:Int))) (
chk (inR a0 a1.2.2.2.1.length) (
(F67 ((ix a1.2.2.2.1 a0).1,0,99)).bind fun r19=>(
cond (!r19) (
some (Sum.inr (Sum.inl (false,a1)))) (
(F67 ((ix a1.2.2.2.1 a0).2.1,0,99)).bind fun r20=>(
cond (!r20) (
some (Sum.inr (Sum.inl (false,a1)))) (
cond (decide (12 < (↑(List.length ((ix a1.2.2.2.1 a0).2.2.1)):Int))) (
some (Sum.inr (Sum.inl (false,a1)))) (
(F85 ((ix a1.2.2.2.1 a0).2.2.1)).bind fun r21=>(
cond (!r21) (
some (Sum.inr (Sum.inl (false,a1)))) (
cond (decide ((ix a1.2.2.2.1 a0).2.2.2.1 < 0)) (
some (Sum.inr (Sum.inl (false,a1)))) (
cond (decide ((ix a1.2.2.2.1 a0).2.2.2.2 < (ix a1.2.2.2.1 a0).2.2.2.1)) (
some (Sum.inr (Sum.inl (false,a1)))) (
cond (decide (9999 < (ix a1.2.2.2.1 a0).2.2.2.2)) (
some (Sum.inr (Sum.inl (false,a1)))) (
chk (fits .i64 (a0+1)) (
some (Sum.inl ((a0+1),a1))))))))))))))) (
some (Sum.inr (Sum.inr a1)))
theorem g48_4 (F83:Y10)(F84:Y335)(F67:Y6)(F85:Y325)(a0:Int)(a1:Y42):s48_4 (T48 F83 F84 F67 F85) (a0,a1)=q48_4 F83 F84 F67 F85 a0 a1:=by kernel_rfl
noncomputable def p48_4:=q48_4 P83 P84 P67 P85
noncomputable def L48_4:Y73:=whileF (fun x=>p48_4 x.1 x.2)
theorem v48_4:l48_4 (T48 P83 P84 P67 P85) =L48_4:=congrArg whileF (funext fun x=>(g48_4 P83 P84 P67 P85 x.1 x.2))
noncomputable def s48_5 (T:List FEnt):=dstep (xs:=x48_5) h48_5 (dxc T (sb [1,1,1,1,1,0,1,2,2] c48))
noncomputable def l48_5 (T:List FEnt):=whileF (s48_5 T)
noncomputable def q48_5 (F83:Y10)(F84:Y335)(F67:Y6)(F85:Y325)(a0:Int)(a1:Y42):Option Y79:=
cond (decide (a0 < (↑a1.2.2.2.2.length:Int))) (
chk (inR a0 a1.2.2.2.2.length) (
(F67 ((ix a1.2.2.2.2 a0),0,99)).bind fun r25=>(
cond (!r25) (
some (Sum.inr (Sum.inl (false,a1)))) (
chk (fits .i64 (a0+1)) (
some (Sum.inl ((a0+1),a1))))))) (
some (Sum.inr (Sum.inr a1)))
theorem g48_5 (F83:Y10)(F84:Y335)(F67:Y6)(F85:Y325)(a0:Int)(a1:Y42):s48_5 (T48 F83 F84 F67 F85) (a0,a1)=q48_5 F83 F84 F67 F85 a0 a1:=by kernel_rfl
noncomputable def p48_5:=q48_5 P83 P84 P67 P85
noncomputable def L48_5:Y73:=whileF (fun x=>p48_5 x.1 x.2)
theorem v48_5:l48_5 (T48 P83 P84 P67 P85) =L48_5:=congrArg whileF (funext fun x=>(g48_5 P83 P84 P67 P85 x.1 x.2))
theorem ok48:L.Fn Tryz.prog 48 199 [(.t 2)] (erase c48):=Fn.ofA hmix Tryz.func48 _ _ (by kernel_rfl)
def sh48:FSh:=⟨⟨[(.st y91)],[]⟩,[y91],0,⟨⟨[(.v .bool)],[]⟩,[.bool],[],0⟩,true⟩
noncomputable def q48 (F83:Y10)(F84:Y335)(F67:Y6)(F85:Y325)(l48_0 l48_2 l48_4 l48_5:Y73)(a0:Y42):Option Bool:=
cond (decide (12 < (↑a0.1.length:Int))) (
some false) (
cond (decide (8 < (↑a0.2.1.length:Int))) (
some false) (
cond (decide (6 < (↑a0.2.2.1.length:Int))) (
some false) (
cond (decide (20 < (↑a0.2.2.2.1.length:Int))) (
some false) (
cond (decide (20 < (↑a0.2.2.2.2.length:Int))) (
some false) (
(F83 a0.1).bind fun r1=>(
cond (!r1) (
some false) (
(l48_0 (0,a0)).bind (fun y6=>Sum.elim (fun y7=>(
some y7.1)) (fun y8=>(
(l48_2 (0,y8)).bind (fun y16=>Sum.elim (fun y17=>(
some y17.1)) (fun y18=>(
(l48_4 (0,y18)).bind (fun y22=>Sum.elim (fun y23=>(
some y23.1)) (fun y24=>(
(l48_5 (0,y24)).bind (fun y26=>Sum.elim (fun y27=>(
some y27.1)) (fun y28=>(
some true)) y26))) y22))) y16))) y6))))))))
theorem g48 (F83:Y10)(F84:Y335)(F67:Y6)(F85:Y325)(a0:Y42):dxf (T48 F83 F84 F67 F85) sh48 [(.t 2)] c48 a0=q48 F83 F84 F67 F85 (l48_0 (T48 F83 F84 F67 F85)) (l48_2 (T48 F83 F84 F67 F85)) (l48_4 (T48 F83 F84 F67 F85)) (l48_5 (T48 F83 F84 F67 F85)) a0:=by kernel_rfl
noncomputable def p48:=q48 P83 P84 P67 P85 L48_0 L48_2 L48_4 L48_5
noncomputable def P48:Y44:=fun x=>p48 x
theorem v48:dxf (T48 P83 P84 P67 P85) sh48 [(.t 2)] c48=P48:=funext fun x=>(g48 P83 P84 P67 P85 x).trans (by rw[v48_0,v48_2,v48_4,v48_5] <;> rfl)
theorem d48:DC Tryz.prog 48 sh48 P48:=DC_eq v48 (dxf_sound t48 ok48 (by kernel_rfl))
noncomputable def T122:List FEnt:=[]
theorem t122:DTblOK Tryz.prog T122:=DTbl_nil
def x122_0:List XSh:=[⟨.ret,[4],⟨⟨[(.v .bool)],[]⟩,[.bool],[],0⟩⟩,⟨(.exit 0),[0,1],⟨⟨[(.v y25),(.v y25)],[]⟩,[y25,y25],[],0⟩⟩]
noncomputable def c122:=anF Tryz.prog [] Tryz.f122 (.s .n (.s (.s .n (.b (.l h31_0 x122_0 .n))) .n))
noncomputable def s122_0 (T:List FEnt):=dstep (xs:=x122_0) h31_0 (dxc T (sb [1,0,1,2,2] c122))
noncomputable def l122_0 (T:List FEnt):=whileF (s122_0 T)
noncomputable def q122_0 (a0 a1:List Int)(a2:Int):Option Y386:=
cond (decide (a2 < (↑a0.length:Int))) (
cond (decide (a2 < (↑a1.length:Int))) (
chk (inR a2 a0.length) (
chk (inR a2 a1.length) (
cond (!decide ((ix a0 a2)=(ix a1 a2))) (
some (Sum.inr (Sum.inl false))) (
chk (fits .i64 (a2+1)) (
some (Sum.inl (a0,a1,(a2+1)))))))) (
some (Sum.inr (Sum.inr (a0,a1))))) (
some (Sum.inr (Sum.inr (a0,a1))))
theorem g122_0 (a0 a1:List Int)(a2:Int):s122_0 T122 (a0,a1,a2)=q122_0 a0 a1 a2:=by kernel_rfl
noncomputable def p122_0:=q122_0
noncomputable def L122_0:Y385:=whileF (fun x=>p122_0 x.1 x.2.1 x.2.2)
theorem v122_0:l122_0 T122=L122_0:=congrArg whileF (funext fun x=>(g122_0 x.1 x.2.1 x.2.2))
theorem ok122:L.Fn Tryz.prog 122 32 [(.t 4)] (erase c122):=Fn.ofA hmix Tryz.func122 _ _ (by kernel_rfl)
def sh122:FSh:=⟨⟨[(.v y25),(.v y25)],[]⟩,[y25,y25],0,⟨⟨[(.v .bool)],[]⟩,[.bool],[],0⟩,true⟩
noncomputable def q122 (l122_0:Y385)(a0 a1:List Int):Option Bool:=
(l122_0 (a0,a1,0)).bind (fun y1=>Sum.elim (fun y2=>(
some y2)) (fun y3=>(
some (decide ((↑y3.1.length:Int)=(↑y3.2.length:Int))))) y1)
theorem g122 (a0 a1:List Int):dxf T122 sh122 [(.t 4)] c122 (a0,a1)=q122 (l122_0 T122) a0 a1:=by kernel_rfl
noncomputable def p122:=q122 L122_0
noncomputable def P122:Y94:=fun x=>p122 x.1 x.2
theorem v122:dxf T122 sh122 [(.t 4)] c122=P122:=funext fun x=>(g122 x.1 x.2).trans (by rw[v122_0] <;> rfl)
theorem d122:DC Tryz.prog 122 sh122 P122:=DC_eq v122 (dxf_sound t122 ok122 (by kernel_rfl))
noncomputable def T86 (F122:Y94):List FEnt:=[⟨122,sh122,F122⟩]
theorem t86:DTblOK Tryz.prog (T86 P122):=(DTbl_cons' d122 (by kernel_rfl) DTbl_nil)
noncomputable def c86:=anF Tryz.prog [] Tryz.f86 .n
theorem ok86:L.Fn Tryz.prog 86 38 [(.t 4)] (erase c86):=Fn.ofA hmix Tryz.func86 _ _ (by kernel_rfl)
def sh86:FSh:=⟨⟨[(.st y68),(.st y68)],[]⟩,[y68,y68],0,⟨⟨[(.v .bool)],[]⟩,[.bool],[],0⟩,true⟩
noncomputable def q86 (F122:Y94)(a0 a1:Y15):Option Bool:=
cond (decide (a0.1=a1.1)) (
cond (decide (a0.2.1=a1.2.1)) (
cond (decide (a0.2.2.2.1=a1.2.2.2.1)) (
cond (decide (a0.2.2.2.2=a1.2.2.2.2)) (
(F122 (a0.2.2.1,a1.2.2.1)).bind fun r1=>(
some r1)) (
some false)) (
some false)) (
some false)) (
some false)
theorem g86 (F122:Y94)(a0 a1:Y15):dxf (T86 F122) sh86 [(.t 4)] c86 (a0,a1)=q86 F122 a0 a1:=by kernel_rfl
noncomputable def p86:=q86 P122
noncomputable def P86:Y97:=fun x=>p86 x.1 x.2
theorem v86:dxf (T86 P122) sh86 [(.t 4)] c86=P86:=funext fun x=>(g86 P122 x.1 x.2)
theorem d86:DC Tryz.prog 86 sh86 P86:=DC_eq v86 (dxf_sound t86 ok86 (by kernel_rfl))
noncomputable def T49 (F86:Y97):List FEnt:=[⟨86,sh86,F86⟩]
theorem t49:DTblOK Tryz.prog (T49 P86):=(DTbl_cons' d86 (by kernel_rfl) DTbl_nil)
def h49_1:LSh:=⟨[0,3,4],⟨[(.v y78),(.v y13),(.v y13)],[]⟩,[y78,y13,y13],0,[]⟩
def x49_1:List XSh:=[⟨.ret,[2],⟨⟨[(.v .bool)],[]⟩,[.bool],[],0⟩⟩,⟨(.exit 2),[0,3],⟨⟨[(.v y78),(.v y13)],[]⟩,[y78,y13],[],0⟩⟩]
noncomputable def c49:=anF Tryz.prog [] Tryz.f49 (.s .n (.s (.s .n (.b (.l h51_0 x51_0 (.s .n (.s (.b (.s .n (.b (.l h49_1 x49_1 .n)))) .n))))) .n))
noncomputable def s49_1 (T:List FEnt):=dstep (xs:=x49_1) h49_1 (dxc T (sb [1,0,1,2,2,1,0,2,1,2,2] c49))
noncomputable def l49_1 (T:List FEnt):=whileF (s49_1 T)
noncomputable def q49_1 (F86:Y97)(a0:List Y15)(a1 a2:Int):Option Y400:=
cond (decide (a2 < a1)) (
chk (inR a2 a0.length) (
chk (inR a1 a0.length) (
cond (decide ((ix a0 a2).1=(ix a0 a1).1)) (
chk (inR a2 a0.length) (
chk (inR a1 a0.length) (
(F86 ((ix a0 a2),(ix a0 a1))).bind fun r1=>(
cond (!r1) (
some (Sum.inr (Sum.inl true))) (
chk (fits .i64 (a2+1)) (
some (Sum.inl (a0,a1,(a2+1))))))))) (
chk (fits .i64 (a2+1)) (
some (Sum.inl (a0,a1,(a2+1)))))))) (
some (Sum.inr (Sum.inr (a0,a1))))
theorem g49_1 (F86:Y97)(a0:List Y15)(a1 a2:Int):s49_1 (T49 F86) (a0,a1,a2)=q49_1 F86 a0 a1 a2:=by kernel_rfl
noncomputable def p49_1:=q49_1 P86
noncomputable def L49_1:Y393:=whileF (fun x=>p49_1 x.1 x.2.1 x.2.2)
theorem v49_1:l49_1 (T49 P86) =L49_1:=congrArg whileF (funext fun x=>(g49_1 P86 x.1 x.2.1 x.2.2))
noncomputable def s49_0 (T:List FEnt):=dstep (xs:=x51_0) h51_0 (dxc T (sb [1,0,1,2,2] c49))
noncomputable def l49_0 (T:List FEnt):=whileF (s49_0 T)
noncomputable def q49_0 (F86:Y97)(l49_1:Y393)(a0:List Y15)(a1:Int):Option Y209:=
cond (decide (a1 < (↑a0.length:Int))) (
(l49_1 (a0,a1,0)).bind (fun y2=>Sum.elim (fun y3=>(
some (Sum.inr (Sum.inl y3)))) (fun y4=>(
chk (fits .i64 (y4.2+1)) (
some (Sum.inl (y4.1,(y4.2+1)))))) y2)) (
some (Sum.inr (Sum.inr ())))
theorem g49_0 (F86:Y97)(a0:List Y15)(a1:Int):s49_0 (T49 F86) (a0,a1)=q49_0 F86 (l49_1 (T49 F86)) a0 a1:=by kernel_rfl
noncomputable def p49_0:=q49_0 P86 L49_1
noncomputable def L49_0:Y174:=whileF (fun x=>p49_0 x.1 x.2)
theorem v49_0:l49_0 (T49 P86) =L49_0:=congrArg whileF (funext fun x=>(g49_0 P86 x.1 x.2).trans (by rw[v49_1] <;> rfl))
theorem ok49:L.Fn Tryz.prog 49 39 [(.t 2)] (erase c49):=Fn.ofA hmix Tryz.func49 _ _ (by kernel_rfl)
def sh49:FSh:=⟨⟨[(.v y78)],[]⟩,[y78],0,⟨⟨[(.v .bool)],[]⟩,[.bool],[],0⟩,true⟩
noncomputable def q49 (F86:Y97)(l49_0:Y174)(a0:List Y15):Option Bool:=
(l49_0 (a0,0)).bind (fun y5=>Sum.elim (fun y6=>(
some y6)) (fun y7=>(
some false)) y5)
theorem g49 (F86:Y97)(a0:List Y15):dxf (T49 F86) sh49 [(.t 2)] c49 a0=q49 F86 (l49_0 (T49 F86)) a0:=by kernel_rfl
noncomputable def p49:=q49 P86 L49_0
noncomputable def P49:Y153:=fun x=>p49 x
theorem v49:dxf (T49 P86) sh49 [(.t 2)] c49=P49:=funext fun x=>(g49 P86 x).trans (by rw[v49_0] <;> rfl)
theorem d49:DC Tryz.prog 49 sh49 P49:=DC_eq v49 (dxf_sound t49 ok49 (by kernel_rfl))
noncomputable def T26 (F48:Y44)(F49:Y153):List FEnt:=[⟨48,sh48,F48⟩,⟨49,sh49,F49⟩]
theorem t26:DTblOK Tryz.prog (T26 P48 P49):=(DTbl_cons' d48 (by kernel_rfl) (DTbl_cons' d49 (by kernel_rfl) DTbl_nil))
noncomputable def c26:=anF Tryz.prog [] Tryz.f26 .n
theorem ok26:L.Fn Tryz.prog 26 9 [(.t 2)] (erase c26):=Fn.ofA hmix Tryz.func26 _ _ (by kernel_rfl)
def sh26:FSh:=⟨⟨[(.st y91)],[]⟩,[y91],0,⟨⟨[(.v y13)],[]⟩,[y13],[],0⟩,true⟩
noncomputable def q26 (F48:Y44)(F49:Y153)(a0:Y42):Option Int:=
(F48 a0).bind fun r1=>(
cond (!r1) (
some 20) (
(F49 a0.2.2.2.1).bind fun r2=>(
cond r2 (
some 21) (
some 0))))
theorem g26 (F48:Y44)(F49:Y153)(a0:Y42):dxf (T26 F48 F49) sh26 [(.t 2)] c26 a0=q26 F48 F49 a0:=by kernel_rfl
noncomputable def p26:=q26 P48 P49
noncomputable def P26:Y198:=fun x=>p26 x
theorem v26:dxf (T26 P48 P49) sh26 [(.t 2)] c26=P26:=funext fun x=>(g26 P48 P49 x)
theorem d26:DC Tryz.prog 26 sh26 P26:=DC_eq v26 (dxf_sound t26 ok26 (by kernel_rfl))
noncomputable def T19:List FEnt:=[]
theorem t19:DTblOK Tryz.prog T19:=DTbl_nil
def h19_0:LSh:=⟨[1,2,4,6],⟨[(.v y13),(.ptr 0 0),(.ptr 1 0),(.v y13)],[(0,(.boxT y91)),(1,(.box [(.v y13),(.v y13),(.v y13),(.v y13),(.v y13),(.v .bool),.emp]))]⟩,[y13,y13,y91,y13,y13,y13,y13,y13,.bool],2,[0,1]⟩
def x19_0:List XSh:=[⟨.ret,[4,5],⟨⟨[(.ptr 1 0),(.v .bool)],[(0,(.boxT y91)),(1,(.boxT y87))]⟩,[.bool,y91,y87],[0,1],2⟩⟩,⟨(.exit 0),[4],⟨⟨[(.ptr 1 0)],[(0,(.boxT y91)),(1,(.box [(.v y13),(.v y13),(.v y13),(.v y13),(.v y13),(.v .bool),.emp]))]⟩,[y91,y13,y13,y13,y13,y13,.bool],[0,1],2⟩⟩]
noncomputable def c19:=anF Tryz.prog [] Tryz.f19 (.s .n (.s (.s .n (.b (.l h19_0 x19_0 .n))) .n))
noncomputable def s19_0 (T:List FEnt):=dstep (xs:=x19_0) h19_0 (dxc T (sb [1,0,1,2,2] c19))
noncomputable def l19_0 (T:List FEnt):=whileF (s19_0 T)
noncomputable def q19_0 (a0 a1:Int)(a2:Y42)(a3 a4 a5 a6 a7:Int)(a8:Bool):Option Y415:=
cond (decide (a1 < (↑a2.2.1.length:Int))) (
chk (inR a1 a2.2.1.length) (
cond (decide ((ix a2.2.1 a1).1=a0)) (
chk (inR a1 a2.2.1.length) (
some (Sum.inr (Sum.inl (true,a2,(ix a2.2.1 a1)))))) (
chk (fits .i64 (a1+1)) (
some (Sum.inl (a0,(a1+1),a2,a3,a4,a5,a6,a7,a8)))))) (
some (Sum.inr (Sum.inr (a2,a3,a4,a5,a6,a7,a8))))
theorem g19_0 (a0 a1:Int)(a2:Y42)(a3 a4 a5 a6 a7:Int)(a8:Bool):s19_0 T19 (a0,a1,a2,a3,a4,a5,a6,a7,a8)=q19_0 a0 a1 a2 a3 a4 a5 a6 a7 a8:=by kernel_rfl
noncomputable def p19_0:=q19_0
noncomputable def L19_0:Y412:=whileF (fun x=>p19_0 x.1 x.2.1 x.2.2.1 x.2.2.2.1 x.2.2.2.2.1 x.2.2.2.2.2.1 x.2.2.2.2.2.2.1 x.2.2.2.2.2.2.2.1 x.2.2.2.2.2.2.2.2)
theorem v19_0:l19_0 T19=L19_0:=congrArg whileF (funext fun x=>(g19_0 x.1 x.2.1 x.2.2.1 x.2.2.2.1 x.2.2.2.2.1 x.2.2.2.2.2.1 x.2.2.2.2.2.2.1 x.2.2.2.2.2.2.2.1 x.2.2.2.2.2.2.2.2))
theorem ok19:L.Fn Tryz.prog 19 28 [(.cell 4 true 7),(.t 5)] (erase c19):=Fn.ofA hmix Tryz.func19 _ _ (by kernel_rfl)
def sh19:FSh:=⟨⟨[(.st y91),(.v y13)],[]⟩,[y91,y13],0,⟨⟨[(.tup [(.st y87),(.v .bool)])],[]⟩,[y87,.bool],[],0⟩,false⟩
noncomputable def q19 (l19_0:Y412)(a0:Y42)(a1:Int):Option Y384:=
(l19_0 (a1,0,a0,0,0,0,0,0,false)).bind (fun y1=>Sum.elim (fun y2=>(
some (y2.2.2,y2.1))) (fun y3=>(
some ((0,(0,(0,(0,(0,(false,([]:List Int))))))),false))) y1)
theorem g19 (a0:Y42)(a1:Int):dxf T19 sh19 [(.cell 4 true 7),(.t 5)] c19 (a0,a1)=q19 (l19_0 T19) a0 a1:=by kernel_rfl
noncomputable def p19:=q19 L19_0
noncomputable def P19:Y396:=fun x=>p19 x.1 x.2
theorem v19:dxf T19 sh19 [(.cell 4 true 7),(.t 5)] c19=P19:=funext fun x=>(g19 x.1 x.2).trans (by rw[v19_0] <;> rfl)
theorem d19:DC Tryz.prog 19 sh19 P19:=DC_eq v19 (dxf_sound t19 ok19 (by kernel_rfl))
noncomputable def T20:List FEnt:=[]
theorem t20:DTblOK Tryz.prog T20:=DTbl_nil
def h20_0:LSh:=⟨[1,2,4,6],⟨[(.v y13),(.ptr 0 0),(.ptr 1 0),(.v y13)],[(0,(.boxT y91)),(1,(.box [(.v y13),.emp,.emp]))]⟩,[y13,y13,y91,y13],2,[0,1]⟩
def x20_0:List XSh:=[⟨.ret,[4,5],⟨⟨[(.ptr 1 0),(.v .bool)],[(0,(.boxT y91)),(1,(.boxT y67))]⟩,[.bool,y91,y67],[0,1],2⟩⟩,⟨(.exit 0),[4],⟨⟨[(.ptr 1 0)],[(0,(.boxT y91)),(1,(.box [(.v y13),.emp,.emp]))]⟩,[y91,y13],[0,1],2⟩⟩]
noncomputable def c20:=anF Tryz.prog [] Tryz.f20 (.s .n (.s (.s .n (.b (.l h20_0 x20_0 .n))) .n))
noncomputable def s20_0 (T:List FEnt):=dstep (xs:=x20_0) h20_0 (dxc T (sb [1,0,1,2,2] c20))
noncomputable def l20_0 (T:List FEnt):=whileF (s20_0 T)
noncomputable def q20_0 (a0 a1:Int)(a2:Y42)(a3:Int):Option Y416:=
cond (decide (a1 < (↑a2.2.2.1.length:Int))) (
chk (inR a1 a2.2.2.1.length) (
cond (decide ((ix a2.2.2.1 a1).1=a0)) (
chk (inR a1 a2.2.2.1.length) (
some (Sum.inr (Sum.inl (true,a2,(ix a2.2.2.1 a1)))))) (
chk (fits .i64 (a1+1)) (
some (Sum.inl (a0,(a1+1),a2,a3)))))) (
some (Sum.inr (Sum.inr (a2,a3))))
theorem g20_0 (a0 a1:Int)(a2:Y42)(a3:Int):s20_0 T20 (a0,a1,a2,a3)=q20_0 a0 a1 a2 a3:=by kernel_rfl
noncomputable def p20_0:=q20_0
noncomputable def L20_0:Y413:=whileF (fun x=>p20_0 x.1 x.2.1 x.2.2.1 x.2.2.2)
theorem v20_0:l20_0 T20=L20_0:=congrArg whileF (funext fun x=>(g20_0 x.1 x.2.1 x.2.2.1 x.2.2.2))
theorem ok20:L.Fn Tryz.prog 20 28 [(.cell 4 true 3),(.t 5)] (erase c20):=Fn.ofA hmix Tryz.func20 _ _ (by kernel_rfl)
def sh20:FSh:=⟨⟨[(.st y91),(.v y13)],[]⟩,[y91,y13],0,⟨⟨[(.tup [(.st y67),(.v .bool)])],[]⟩,[y67,.bool],[],0⟩,false⟩
noncomputable def q20 (l20_0:Y413)(a0:Y42)(a1:Int):Option Y191:=
(l20_0 (a1,0,a0,0)).bind (fun y1=>Sum.elim (fun y2=>(
some (y2.2.2,y2.1))) (fun y3=>(
some ((0,(([]:List Int),([]:List Y1))),false))) y1)
theorem g20 (a0:Y42)(a1:Int):dxf T20 sh20 [(.cell 4 true 3),(.t 5)] c20 (a0,a1)=q20 (l20_0 T20) a0 a1:=by kernel_rfl
noncomputable def p20:=q20 L20_0
noncomputable def P20:Y215:=fun x=>p20 x.1 x.2
theorem v20:dxf T20 sh20 [(.cell 4 true 3),(.t 5)] c20=P20:=funext fun x=>(g20 x.1 x.2).trans (by rw[v20_0] <;> rfl)
theorem d20:DC Tryz.prog 20 sh20 P20:=DC_eq v20 (dxf_sound t20 ok20 (by kernel_rfl))
noncomputable def T53 (F26:Y198)(F19:Y396)(F20:Y215)(F67:Y6):List FEnt:=[⟨26,sh26,F26⟩,⟨19,sh19,F19⟩,⟨20,sh20,F20⟩,⟨67,sh67,F67⟩]
theorem t53:DTblOK Tryz.prog (T53 P26 P19 P20 P67):=(DTbl_cons' d26 (by kernel_rfl) (DTbl_cons' d19 (by kernel_rfl) (DTbl_cons' d20 (by kernel_rfl) (DTbl_cons' d67 (by kernel_rfl) DTbl_nil))))
noncomputable def c53:=anF Tryz.prog [] Tryz.f53 .n
theorem ok53:L.Fn Tryz.prog 53 42 [(.t 8)] (erase c53):=Fn.ofA hmix Tryz.func53 _ _ (by kernel_rfl)
def sh53:FSh:=⟨⟨[(.st y91),(.v y13),(.v y13),(.v y13)],[]⟩,[y91,y13,y13,y13],0,⟨⟨[(.v y13)],[]⟩,[y13],[],0⟩,true⟩
noncomputable def q53 (F26:Y198)(F19:Y396)(F20:Y215)(F67:Y6)(a0:Y42)(a1 a2 a3:Int):Option Int:=
(F26 a0).bind fun r1=>(
cond (!decide (r1=0)) (
some r1) (
(F19 (a0,a1)).bind fun r2=>(
(F20 (a0,a2)).bind fun r3=>(
cond (!r2.2) (
some 1) (
cond (!r3.2) (
some 1) (
(F67 (a3,0,9999)).bind fun r4=>(
cond (!r4) (
some 1) (
some 0))))))))
theorem g53 (F26:Y198)(F19:Y396)(F20:Y215)(F67:Y6)(a0:Y42)(a1 a2 a3:Int):dxf (T53 F26 F19 F20 F67) sh53 [(.t 8)] c53 (a0,a1,a2,a3)=q53 F26 F19 F20 F67 a0 a1 a2 a3:=by kernel_rfl
noncomputable def p53:=q53 P26 P19 P20 P67
noncomputable def P53:Y397:=fun x=>p53 x.1 x.2.1 x.2.2.1 x.2.2.2
theorem v53:dxf (T53 P26 P19 P20 P67) sh53 [(.t 8)] c53=P53:=funext fun x=>(g53 P26 P19 P20 P67 x.1 x.2.1 x.2.2.1 x.2.2.2)
theorem d53:DC Tryz.prog 53 sh53 P53:=DC_eq v53 (dxf_sound t53 ok53 (by kernel_rfl))
end Go.Proofs.YtdacabdocbhkdaaGreat.D
