/- Cut down from a longer text. -/
import Derived.Test.YtdacabdocbhkdaaGreatG6m
import Derived.Test.YtdacabdocbhkdaaGreatProg
set_option linter.unusedVariables false
set_option maxRecDepth 100000
namespace Go.Proofs.YtdacabdocbhkdaaGreat.D
open Go Go.Proofs L
noncomputable def T54 (F105:Y334):List FEnt:=[⟨105,sh105,F105⟩]
theorem t54:DTblOK Tryz.prog (T54 P105):=(DTbl_cons' d105 (by kernel_rfl) DTbl_nil)
def h54_0:LSh:=⟨[3,4,5,7,8],⟨[(.ptr 0 0),(.ptr 1 0),(.ptr 2 0),(.slc 3),(.v y13)],[(0,(.boxT y91)),(1,(.boxT y87)),(2,(.boxT y67)),(3,(.row 3 y13))]⟩,[y13,y91,y87,y67,y25],4,[0,1,2]⟩
def x54_0:List XSh:=[⟨(.exit 0),[7],⟨⟨[(.slc 3)],[(0,(.boxT y91)),(1,(.boxT y87)),(2,(.boxT y67)),(3,(.row 3 y13))]⟩,[y91,y87,y67,y25],[0,1,2],4⟩⟩]
noncomputable def c54:=anF Tryz.prog [] Tryz.f54 (.s .n (.s .n (.s (.s .n (.b (.l h54_0 x54_0 (.s .n (.s (.b (.s .n (.s .n (.s .n (.s (.r [.a 6 false y13,.a 7 false y13]) .n))))) .n))))) .n)))
noncomputable def s54_0 (T:List FEnt):=dstep (xs:=x54_0) h54_0 (dxc T (sb [1,1,0,1,2,2] c54))
noncomputable def l54_0 (T:List FEnt):=whileF (s54_0 T)
noncomputable def q54_0 (F105:Y334)(a0:Int)(a1:Y42)(a2:Y12)(a3:Y22)(a4:List Int):Option Y463:=
cond (decide (a0 < (↑a2.2.2.2.2.2.2.length:Int))) (
chk (inR a0 a2.2.2.2.2.2.2.length) (
(F105 (a1.1,(ix a2.2.2.2.2.2.2 a0))).bind fun r1=>(
chk (inR a0 a2.2.2.2.2.2.2.length) (
(F105 (a3.2.2,(ix a2.2.2.2.2.2.2 a0))).bind fun r2=>(
cond (!r2.2) (
chk (inR a0 a2.2.2.2.2.2.2.length) (
chk (capOk 8 (List.length a4+List.length ([(ix a2.2.2.2.2.2.2 a0)]:List Int))) (
chk (fits .i64 (a0+1)) (
some (Sum.inl ((a0+1),a1,a2,a3,(a4++([(ix a2.2.2.2.2.2.2 a0)]:List Int)))))))) (
cond (!decide (r2.1=r1.1)) (
chk (inR a0 a2.2.2.2.2.2.2.length) (
chk (capOk 8 (List.length a4+List.length ([(ix a2.2.2.2.2.2.2 a0)]:List Int))) (
chk (fits .i64 (a0+1)) (
some (Sum.inl ((a0+1),a1,a2,a3,(a4++([(ix a2.2.2.2.2.2.2 a0)]:List Int)))))))) (
chk (fits .i64 (a0+1)) (
some (Sum.inl ((a0+1),a1,a2,a3,a4)))))))))) (
some (Sum.inr (a1,a2,a3,a4)))
theorem g54_0 (F105:Y334)(a0:Int)(a1:Y42)(a2:Y12)(a3:Y22)(a4:List Int):s54_0 (T54 F105) (a0,a1,a2,a3,a4)=q54_0 F105 a0 a1 a2 a3 a4:=by kernel_rfl
noncomputable def p54_0:=q54_0 P105
noncomputable def L54_0:Y460:=whileF (fun x=>p54_0 x.1 x.2.1 x.2.2.1 x.2.2.2.1 x.2.2.2.2)
theorem v54_0:l54_0 (T54 P105) =L54_0:=congrArg whileF (funext fun x=>(g54_0 P105 x.1 x.2.1 x.2.2.1 x.2.2.2.1 x.2.2.2.2))
theorem ok54:L.Fn Tryz.prog 54 58 [(.t 6)] (erase c54):=Fn.ofA hmix Tryz.func54 _ _ (by kernel_rfl)
def sh54:FSh:=⟨⟨[(.st y91),(.st y87),(.st y67)],[]⟩,[y91,y87,y67],0,⟨⟨[(.slc 0)],[(0,(.row 3 y13))]⟩,[y25],[],1⟩,true⟩
noncomputable def q54 (F105:Y334)(l54_0:Y460)(a0:Y42)(a1:Y12)(a2:Y22):Option Y2:=
(l54_0 (0,a0,a1,a2,([]:List Int))).bind fun y3=>(
some y3.2.2.2)
theorem g54 (F105:Y334)(a0:Y42)(a1:Y12)(a2:Y22):dxf (T54 F105) sh54 [(.t 6)] c54 (a0,a1,a2)=q54 F105 (l54_0 (T54 F105)) a0 a1 a2:=by kernel_rfl
noncomputable def p54:=q54 P105 L54_0
noncomputable def P54:Y446:=fun x=>p54 x.1 x.2.1 x.2.2
theorem v54:dxf (T54 P105) sh54 [(.t 6)] c54=P54:=funext fun x=>(g54 P105 x.1 x.2.1 x.2.2).trans (by rw[v54_0] <;> rfl)
theorem d54:DC Tryz.prog 54 sh54 P54:=DC_eq v54 (dxf_sound t54 ok54 (by kernel_rfl))
noncomputable def T29 (F53:Y397)(F19:Y396)(F20:Y215)(F54:Y446):List FEnt:=[⟨53,sh53,F53⟩,⟨19,sh19,F19⟩,⟨20,sh20,F20⟩,⟨54,sh54,F54⟩]
theorem t29:DTblOK Tryz.prog (T29 P53 P19 P20 P54):=(DTbl_cons' d53 (by kernel_rfl) (DTbl_cons' d19 (by kernel_rfl) (DTbl_cons' d20 (by kernel_rfl) (DTbl_cons' d54 (by kernel_rfl) DTbl_nil))))
noncomputable def c29:=anF Tryz.prog [] Tryz.f29 .n
theorem ok29:L.Fn Tryz.prog 29 36 [(.t 6),(.t 7)] (erase c29):=Fn.ofA hmix Tryz.func29 _ _ (by kernel_rfl)
def sh29:FSh:=⟨⟨[(.st y91),(.v y13),(.v y13)],[]⟩,[y91,y13,y13],0,⟨⟨[(.tup [(.slc 0),(.v y13)])],[(0,(.row 3 y13))]⟩,[y13,y25],[],1⟩,true⟩
noncomputable def q29 (F53:Y397)(F19:Y396)(F20:Y215)(F54:Y446)(a0:Y42)(a1 a2:Int):Option Y327:=
(F53 (a0,a1,a2,0)).bind fun r1=>(
cond (!decide (r1=0)) (
some (r1,([]:List Int))) (
(F19 (a0,a1)).bind fun r2=>(
(F20 (a0,a2)).bind fun r3=>(
(F54 (a0,r2.1,r3.1)).bind fun r4=>(
some (0,r4))))))
theorem g29 (F53:Y397)(F19:Y396)(F20:Y215)(F54:Y446)(a0:Y42)(a1 a2:Int):dxf (T29 F53 F19 F20 F54) sh29 [(.t 6),(.t 7)] c29 (a0,a1,a2)=q29 F53 F19 F20 F54 a0 a1 a2:=by kernel_rfl
noncomputable def p29:=q29 P53 P19 P20 P54
noncomputable def P29:Y357:=fun x=>p29 x.1 x.2.1 x.2.2
theorem v29:dxf (T29 P53 P19 P20 P54) sh29 [(.t 6),(.t 7)] c29=P29:=funext fun x=>(g29 P53 P19 P20 P54 x.1 x.2.1 x.2.2)
theorem d29:DC Tryz.prog 29 sh29 P29:=DC_eq v29 (dxf_sound t29 ok29 (by kernel_rfl))
noncomputable def T21 (F43:Y311):List FEnt:=[⟨43,sh43,F43⟩]
theorem t21:DTblOK Tryz.prog (T21 P43):=(DTbl_cons' d43 (by kernel_rfl) DTbl_nil)
noncomputable def c21:=anF Tryz.prog [] Tryz.f21 .n
theorem ok21:L.Fn Tryz.prog 21 24 [(.t 6),(.t 7)] (erase c21):=Fn.ofA hmix Tryz.func21 _ _ (by kernel_rfl)
def sh21:FSh:=⟨⟨[(.st y91),(.v y13),(.v y13)],[]⟩,[y91,y13,y13],0,⟨⟨[(.tup [(.v y35),(.v y13)])],[]⟩,[y35,y13],[],0⟩,false⟩
noncomputable def q21 (F43:Y311)(a0:Y42)(a1 a2:Int):Option Y170:=
(F43 (a0,a1,a2,0)).bind fun r1=>(
cond (!decide (r1.2=0)) (
some (([]:List Y1),r1.2)) (
chk (Option.isSome r1.1) (
some ((dof r1.1 (0,(0,(0,(0,(0,(false,([],(0,([],([],([],([],[]))))))))))))).2.2.2.2.2.2.2.2.2.2.2.2,0))))
theorem g21 (F43:Y311)(a0:Y42)(a1 a2:Int):dxf (T21 F43) sh21 [(.t 6),(.t 7)] c21 (a0,a1,a2)=q21 F43 a0 a1 a2:=by kernel_rfl
noncomputable def p21:=q21 P43
noncomputable def P21:Y447:=fun x=>p21 x.1 x.2.1 x.2.2
theorem v21:dxf (T21 P43) sh21 [(.t 6),(.t 7)] c21=P21:=funext fun x=>(g21 P43 x.1 x.2.1 x.2.2)
theorem d21:DC Tryz.prog 21 sh21 P21:=DC_eq v21 (dxf_sound t21 ok21 (by kernel_rfl))
noncomputable def T24:List FEnt:=[]
theorem t24:DTblOK Tryz.prog T24:=DTbl_nil
def h24_0:LSh:=⟨[0,1,5],⟨[(.v y25),(.v y13),(.v y13)],[]⟩,[y25,y13,y13],0,[]⟩
noncomputable def c24:=anF Tryz.prog [] Tryz.f24 (.s .n (.s (.s .n (.b (.l h24_0 x125_0 .n))) .n))
noncomputable def s24_0 (T:List FEnt):=dstep (xs:=x125_0) h24_0 (dxc T (sb [1,0,1,2,2] c24))
noncomputable def l24_0 (T:List FEnt):=whileF (s24_0 T)
noncomputable def q24_0 (a0:List Int)(a1 a2:Int):Option Y426:=
cond (decide (a2 < (↑a0.length:Int))) (
chk (inR a2 a0.length) (
cond (decide ((ix a0 a2)=a1)) (
some (Sum.inr (Sum.inl true))) (
chk (fits .i64 (a2+1)) (
some (Sum.inl (a0,a1,(a2+1))))))) (
some (Sum.inr (Sum.inr ())))
theorem g24_0 (a0:List Int)(a1 a2:Int):s24_0 T24 (a0,a1,a2)=q24_0 a0 a1 a2:=by kernel_rfl
noncomputable def p24_0:=q24_0
noncomputable def L24_0:Y421:=whileF (fun x=>p24_0 x.1 x.2.1 x.2.2)
theorem v24_0:l24_0 T24=L24_0:=congrArg whileF (funext fun x=>(g24_0 x.1 x.2.1 x.2.2))
theorem ok24:L.Fn Tryz.prog 24 18 [(.t 4)] (erase c24):=Fn.ofA hmix Tryz.func24 _ _ (by kernel_rfl)
def sh24:FSh:=⟨⟨[(.v y25),(.v y13)],[]⟩,[y25,y13],0,⟨⟨[(.v .bool)],[]⟩,[.bool],[],0⟩,true⟩
noncomputable def q24 (l24_0:Y421)(a0:List Int)(a1:Int):Option Bool:=
(l24_0 (a0,a1,0)).bind (fun y1=>Sum.elim (fun y2=>(
some y2)) (fun y3=>(
some false)) y1)
theorem g24 (a0:List Int)(a1:Int):dxf T24 sh24 [(.t 4)] c24 (a0,a1)=q24 (l24_0 T24) a0 a1:=by kernel_rfl
noncomputable def p24:=q24 L24_0
noncomputable def P24:Y8:=fun x=>p24 x.1 x.2
theorem v24:dxf T24 sh24 [(.t 4)] c24=P24:=funext fun x=>(g24 x.1 x.2).trans (by rw[v24_0] <;> rfl)
theorem d24:DC Tryz.prog 24 sh24 P24:=DC_eq v24 (dxf_sound t24 ok24 (by kernel_rfl))
noncomputable def T59 (F24:Y8):List FEnt:=[⟨24,sh24,F24⟩]
theorem t59:DTblOK Tryz.prog (T59 P24):=(DTbl_cons' d24 (by kernel_rfl) DTbl_nil)
def h59_0:LSh:=⟨[4,5,6,7,9],⟨[(.ptr 0 0),(.ptr 1 0),(.ptr 2 0),(.ptr 3 0),(.v y13)],[(0,(.boxT y91)),(1,(.boxT y68)),(2,(.boxT y87)),(3,(.boxT y67))]⟩,[y13,y91,y68,y87,y67],4,[0,1,2,3]⟩
def x59_0:List XSh:=[⟨.ret,[8],⟨⟨[(.v .bool)],[(0,(.boxT y91)),(1,(.boxT y68)),(2,(.boxT y87)),(3,(.boxT y67))]⟩,[.bool,y91,y68,y87,y67],[0,1,2,3],4⟩⟩,⟨(.exit 0),[4,5,6],⟨⟨[(.ptr 0 0),(.ptr 1 0),(.ptr 2 0)],[(0,(.boxT y91)),(1,(.boxT y68)),(2,(.boxT y87)),(3,(.boxT y67))]⟩,[y91,y68,y87,y67],[0,1,2,3],4⟩⟩]
noncomputable def c59:=anF Tryz.prog [] Tryz.f59 (.s .n (.s (.s .n (.b (.l h59_0 x59_0 .n))) .n))
noncomputable def s59_0 (T:List FEnt):=dstep (xs:=x59_0) h59_0 (dxc T (sb [1,0,1,2,2] c59))
noncomputable def l59_0 (T:List FEnt):=whileF (s59_0 T)
noncomputable def q59_0 (F24:Y8)(a0:Int)(a1:Y42)(a2:Y15)(a3:Y12)(a4:Y22):Option Y471:=
cond (decide (a0 < (↑a4.2.1.length:Int))) (
chk (inR a0 a4.2.1.length) (
(F24 (a2.2.2.1,(ix a4.2.1 a0))).bind fun r1=>(
cond (!r1) (
some (Sum.inr (Sum.inl (false,a1,a2,a3,a4)))) (
chk (fits .i64 (a0+1)) (
some (Sum.inl ((a0+1),a1,a2,a3,a4))))))) (
some (Sum.inr (Sum.inr (a1,a2,a3,a4))))
theorem g59_0 (F24:Y8)(a0:Int)(a1:Y42)(a2:Y15)(a3:Y12)(a4:Y22):s59_0 (T59 F24) (a0,a1,a2,a3,a4)=q59_0 F24 a0 a1 a2 a3 a4:=by kernel_rfl
noncomputable def p59_0:=q59_0 P24
noncomputable def L59_0:Y468:=whileF (fun x=>p59_0 x.1 x.2.1 x.2.2.1 x.2.2.2.1 x.2.2.2.2)
theorem v59_0:l59_0 (T59 P24) =L59_0:=congrArg whileF (funext fun x=>(g59_0 P24 x.1 x.2.1 x.2.2.1 x.2.2.2.1 x.2.2.2.2))
theorem ok59:L.Fn Tryz.prog 59 39 [(.t 8)] (erase c59):=Fn.ofA hmix Tryz.func59 _ _ (by kernel_rfl)
def sh59:FSh:=⟨⟨[(.st y91),(.st y68),(.st y87),(.st y67)],[]⟩,[y91,y68,y87,y67],0,⟨⟨[(.v .bool)],[]⟩,[.bool],[],0⟩,true⟩
noncomputable def q59 (F24:Y8)(l59_0:Y468)(a0:Y42)(a1:Y15)(a2:Y12)(a3:Y22):Option Bool:=
(l59_0 (0,a0,a1,a2,a3)).bind (fun y2=>Sum.elim (fun y3=>(
some y3.1)) (fun y4=>(
cond (decide (y4.2.1.2.1=y4.2.2.1.1)) (
(F24 (y4.1.2.2.2.2,y4.2.1.1)).bind fun r5=>(
some (!r5))) (
some false))) y2)
theorem g59 (F24:Y8)(a0:Y42)(a1:Y15)(a2:Y12)(a3:Y22):dxf (T59 F24) sh59 [(.t 8)] c59 (a0,a1,a2,a3)=q59 F24 (l59_0 (T59 F24)) a0 a1 a2 a3:=by kernel_rfl
noncomputable def p59:=q59 P24 L59_0
noncomputable def P59:Y450:=fun x=>p59 x.1 x.2.1 x.2.2.1 x.2.2.2
theorem v59:dxf (T59 P24) sh59 [(.t 8)] c59=P59:=funext fun x=>(g59 P24 x.1 x.2.1 x.2.2.1 x.2.2.2).trans (by rw[v59_0] <;> rfl)
theorem d59:DC Tryz.prog 59 sh59 P59:=DC_eq v59 (dxf_sound t59 ok59 (by kernel_rfl))
noncomputable def T55 (F59:Y450):List FEnt:=[⟨59,sh59,F59⟩]
theorem t55:DTblOK Tryz.prog (T55 P59):=(DTbl_cons' d59 (by kernel_rfl) DTbl_nil)
def h55_1:LSh:=⟨[3,4,5,7,8,9,10],⟨[(.ptr 0 0),(.ptr 1 0),(.ptr 2 0),(.slc 3),(.v y13),(.ptr 4 0),(.v y13)],[(0,(.boxT y91)),(1,(.boxT y87)),(2,(.boxT y67)),(3,(.row 4 .bool)),(4,(.boxT y68))]⟩,[y13,y13,y91,y87,y67,y422,y68],5,[0,1,2,3,4]⟩
def x55_1:List XSh:=[⟨(.exit 2),[3,4,5,7,8],⟨⟨[(.ptr 0 0),(.ptr 1 0),(.ptr 2 0),(.slc 3),(.v y13)],[(0,(.boxT y91)),(1,(.boxT y87)),(2,(.boxT y67)),(3,(.row 4 .bool)),(4,(.boxT y68))]⟩,[y13,y91,y87,y67,y422,y68],[0,1,2,3,4],5⟩⟩]
def h55_0:LSh:=⟨[3,4,5,7,8],⟨[(.ptr 0 0),(.ptr 1 0),(.ptr 2 0),(.slc 3),(.v y13)],[(0,(.boxT y91)),(1,(.boxT y87)),(2,(.boxT y67)),(3,(.row 4 .bool))]⟩,[y13,y91,y87,y67,y422],4,[0,1,2,3]⟩
def x55_0:List XSh:=[⟨(.exit 0),[4,7],⟨⟨[(.ptr 1 0),(.slc 3)],[(0,(.boxT y91)),(1,(.boxT y87)),(2,(.boxT y67)),(3,(.row 4 .bool))]⟩,[y91,y87,y67,y422],[0,1,2,3],4⟩⟩]
def h55_2:LSh:=⟨[4,7,11],⟨[(.ptr 0 0),(.slc 1),(.v y13)],[(0,(.boxT y87)),(1,(.row 4 .bool))]⟩,[y13,y87,y422],2,[0,1]⟩
def x55_2:List XSh:=[⟨(.exit 4),[7],⟨⟨[(.slc 1)],[(0,(.boxT y87)),(1,(.row 4 .bool))]⟩,[y87,y422],[0,1],2⟩⟩]
noncomputable def c55:=anF Tryz.prog [] Tryz.f55 (.s .n (.s (.r [.a 0 false .bool]) (.s (.s .n (.b (.l h55_0 x55_0 (.s .n (.s (.b (.s .n (.s .n (.s (.s .n (.b (.l h55_1 x55_1 .n))) .n)))) .n))))) (.s (.s .n (.b (.l h55_2 x55_2 .n))) .n))))
noncomputable def s55_1 (T:List FEnt):=dstep (xs:=x55_1) h55_1 (dxc T (sb [1,1,0,1,2,2,1,0,2,1,1,0,1,2,2] c55))
noncomputable def l55_1 (T:List FEnt):=whileF (s55_1 T)
noncomputable def q55_1 (F59:Y450)(a0 a1:Int)(a2:Y42)(a3:Y12)(a4:Y22)(a5:List Bool)(a6:Y15):Option Y465:=
cond (decide (a1≤a6.2.2.2.2)) (
chk (inR a1 a5.length) (
chk (fits .i64 (a1+1)) (
some (Sum.inl (a0,(a1+1),a2,a3,a4,(List.set a5 a1.toNat true),a6))))) (
some (Sum.inr (a0,a2,a3,a4,a5,a6)))
theorem g55_1 (F59:Y450)(a0 a1:Int)(a2:Y42)(a3:Y12)(a4:Y22)(a5:List Bool)(a6:Y15):s55_1 (T55 F59) (a0,a1,a2,a3,a4,a5,a6)=q55_1 F59 a0 a1 a2 a3 a4 a5 a6:=by kernel_rfl
noncomputable def p55_1:=q55_1 P59
noncomputable def L55_1:Y461:=whileF (fun x=>p55_1 x.1 x.2.1 x.2.2.1 x.2.2.2.1 x.2.2.2.2.1 x.2.2.2.2.2.1 x.2.2.2.2.2.2)
theorem v55_1:l55_1 (T55 P59) =L55_1:=congrArg whileF (funext fun x=>(g55_1 P59 x.1 x.2.1 x.2.2.1 x.2.2.2.1 x.2.2.2.2.1 x.2.2.2.2.2.1 x.2.2.2.2.2.2))
noncomputable def s55_0 (T:List FEnt):=dstep (xs:=x55_0) h55_0 (dxc T (sb [1,1,0,1,2,2] c55))
noncomputable def l55_0 (T:List FEnt):=whileF (s55_0 T)
noncomputable def q55_0 (F59:Y450)(l55_1:Y461)(a0:Int)(a1:Y42)(a2:Y12)(a3:Y22)(a4:List Bool):Option Y466:=
cond (decide (a0 < (↑a1.2.2.2.1.length:Int))) (
chk (inR a0 a1.2.2.2.1.length) (
(F59 (a1,(ix a1.2.2.2.1 a0),a2,a3)).bind fun r1=>(
cond r1 (
(l55_1 (a0,(ix a1.2.2.2.1 a0).2.2.2.1,a1,a2,a3,a4,(ix a1.2.2.2.1 a0))).bind fun y2=>(
chk (fits .i64 (y2.1+1)) (
some (Sum.inl ((y2.1+1),y2.2.1,y2.2.2.1,y2.2.2.2.1,y2.2.2.2.2.1))))) (
chk (fits .i64 (a0+1)) (
some (Sum.inl ((a0+1),a1,a2,a3,a4))))))) (
some (Sum.inr (a1,a2,a3,a4)))
theorem g55_0 (F59:Y450)(a0:Int)(a1:Y42)(a2:Y12)(a3:Y22)(a4:List Bool):s55_0 (T55 F59) (a0,a1,a2,a3,a4)=q55_0 F59 (l55_1 (T55 F59)) a0 a1 a2 a3 a4:=by kernel_rfl
noncomputable def p55_0:=q55_0 P59 L55_1
noncomputable def L55_0:Y462:=whileF (fun x=>p55_0 x.1 x.2.1 x.2.2.1 x.2.2.2.1 x.2.2.2.2)
theorem v55_0:l55_0 (T55 P59) =L55_0:=congrArg whileF (funext fun x=>(g55_0 P59 x.1 x.2.1 x.2.2.1 x.2.2.2.1 x.2.2.2.2).trans (by rw[v55_1] <;> rfl))
noncomputable def s55_2 (T:List FEnt):=dstep (xs:=x55_2) h55_2 (dxc T (sb [1,1,1,0,1,2,2] c55))
noncomputable def l55_2 (T:List FEnt):=whileF (s55_2 T)
noncomputable def q55_2 (F59:Y450)(a0:Int)(a1:Y12)(a2:List Bool):Option Y437:=
cond (decide (a0 < (↑a2.length:Int))) (
cond (!a1.2.2.2.2.2.1) (
chk (inR a0 a2.length) (
chk (fits .i64 (a0+1)) (
some (Sum.inl ((a0+1),a1,(List.set a2 a0.toNat true)))))) (
some (Sum.inr (a1,a2)))) (
some (Sum.inr (a1,a2)))
theorem g55_2 (F59:Y450)(a0:Int)(a1:Y12)(a2:List Bool):s55_2 (T55 F59) (a0,a1,a2)=q55_2 F59 a0 a1 a2:=by kernel_rfl
noncomputable def p55_2:=q55_2 P59
noncomputable def L55_2:Y433:=whileF (fun x=>p55_2 x.1 x.2.1 x.2.2)
theorem v55_2:l55_2 (T55 P59) =L55_2:=congrArg whileF (funext fun x=>(g55_2 P59 x.1 x.2.1 x.2.2))
theorem ok55:L.Fn Tryz.prog 55 56 [(.t 6)] (erase c55):=Fn.ofA hmix Tryz.func55 _ _ (by kernel_rfl)
def sh55:FSh:=⟨⟨[(.st y91),(.st y87),(.st y67)],[]⟩,[y91,y87,y67],0,⟨⟨[(.slc 0)],[(0,(.row 4 .bool))]⟩,[y422],[],1⟩,true⟩
noncomputable def q55 (F59:Y450)(l55_0:Y462)(l55_2:Y433)(a0:Y42)(a1:Y12)(a2:Y22):Option Y420:=
chk (decide ((0:Int)≤10000)) (
chk (decide ((1:Int)*10000≤140737488355328)) (
(l55_0 (0,a0,a1,a2,(repl (Int.toNat 10000) false:List Bool))).bind fun y3=>(
(l55_2 (0,y3.2.1,y3.2.2.2)).bind fun y4=>(
some y4.2))))
theorem g55 (F59:Y450)(a0:Y42)(a1:Y12)(a2:Y22):dxf (T55 F59) sh55 [(.t 6)] c55 (a0,a1,a2)=q55 F59 (l55_0 (T55 F59)) (l55_2 (T55 F59)) a0 a1 a2:=by kernel_rfl
noncomputable def p55:=q55 P59 L55_0 L55_2
noncomputable def P55:Y453:=fun x=>p55 x.1 x.2.1 x.2.2
theorem v55:dxf (T55 P59) sh55 [(.t 6)] c55=P55:=funext fun x=>(g55 P59 x.1 x.2.1 x.2.2).trans (by rw[v55_0,v55_2] <;> rfl)
theorem d55:DC Tryz.prog 55 sh55 P55:=DC_eq v55 (dxf_sound t55 ok55 (by kernel_rfl))
noncomputable def T30 (F53:Y397)(F19:Y396)(F20:Y215)(F55:Y453):List FEnt:=[⟨53,sh53,F53⟩,⟨19,sh19,F19⟩,⟨20,sh20,F20⟩,⟨55,sh55,F55⟩]
theorem t30:DTblOK Tryz.prog (T30 P53 P19 P20 P55):=(DTbl_cons' d53 (by kernel_rfl) (DTbl_cons' d19 (by kernel_rfl) (DTbl_cons' d20 (by kernel_rfl) (DTbl_cons' d55 (by kernel_rfl) DTbl_nil))))
def h30_0:LSh:=⟨[13,14,15],⟨[(.slc 0),(.slc 1),(.v y13)],[(0,(.row 4 .bool)),(1,(.row 55 y24))]⟩,[y13,y422,y35],2,[0]⟩
def x30_0:List XSh:=[⟨(.exit 0),[14],⟨⟨[(.slc 1)],[(0,(.row 4 .bool)),(1,(.row 55 y24))]⟩,[y422,y35],[0],2⟩⟩]
noncomputable def c30:=anF Tryz.prog [] Tryz.f30 (.s .n (.s .n (.s .n (.s .n (.s .n (.s .n (.s (.s .n (.b (.l h30_0 x30_0 (.s .n (.s (.b (.s (.s .n (.s (.r [.a 3 true y24,.a 4 true y24]) .n)) .n)) .n))))) .n)))))))
noncomputable def s30_0 (T:List FEnt):=dstep (xs:=x30_0) h30_0 (dxc T (sb [1,1,1,1,1,1,0,1,2,2] c30))
noncomputable def l30_0 (T:List FEnt):=whileF (s30_0 T)
noncomputable def q30_0 (F53:Y397)(F19:Y396)(F20:Y215)(F55:Y453)(a0:Int)(a1:List Bool)(a2:List Y1):Option Y438:=
cond (decide (a0 < (↑a1.length:Int))) (
chk (inR a0 a1.length) (
cond (ix a1 a0) (
cond (decide (a0=0)) (
chk (capOk 16 (List.length a2+List.length ([(a0,0)]:List Y1))) (
chk (inR a0 a1.length) (
cond (ix a1 a0) (
chk (fits .i64 ((↑(List.length (a2++([(a0,0)]:List Y1))):Int)-1)) (
chk (inR ((↑(List.length (a2++([(a0,0)]:List Y1))):Int)-1) (List.length (a2++([(a0,0)]:List Y1)))) (
chk (fits .i64 (a0+1)) (
some (Sum.inl ((a0+1),a1,(List.set (a2++([(a0,0)]:List Y1)) (Int.toNat ((↑(List.length (a2++([(a0,0)]:List Y1))):Int)-1)) ((ix (a2++([(a0,0)]:List Y1)) ((↑(List.length (a2++([(a0,0)]:List Y1))):Int)-1)).1,a0)))))))) (
chk (fits .i64 (a0+1)) (
some (Sum.inl ((a0+1),a1,(a2++([(a0,0)]:List Y1))))))))) (
chk (fits .i64 (a0-1)) (
chk (inR (a0-1) a1.length) (
cond (!(ix a1 (a0-1))) (
chk (capOk 16 (List.length a2+List.length ([(a0,0)]:List Y1))) (
chk (inR a0 a1.length) (
cond (ix a1 a0) (
chk (fits .i64 ((↑(List.length (a2++([(a0,0)]:List Y1))):Int)-1)) (
chk (inR ((↑(List.length (a2++([(a0,0)]:List Y1))):Int)-1) (List.length (a2++([(a0,0)]:List Y1)))) (
chk (fits .i64 (a0+1)) (
some (Sum.inl ((a0+1),a1,(List.set (a2++([(a0,0)]:List Y1)) (Int.toNat ((↑(List.length (a2++([(a0,0)]:List Y1))):Int)-1)) ((ix (a2++([(a0,0)]:List Y1)) ((↑(List.length (a2++([(a0,0)]:List Y1))):Int)-1)).1,a0)))))))) (
chk (fits .i64 (a0+1)) (
some (Sum.inl ((a0+1),a1,(a2++([(a0,0)]:List Y1))))))))) (
chk (inR a0 a1.length) (
cond (ix a1 a0) (
chk (fits .i64 ((↑a2.length:Int)-1)) (
chk (inR ((↑a2.length:Int)-1) a2.length) (
chk (fits .i64 (a0+1)) (
some (Sum.inl ((a0+1),a1,(List.set a2 (Int.toNat ((↑a2.length:Int)-1)) ((ix a2 ((↑a2.length:Int)-1)).1,a0)))))))) (
chk (fits .i64 (a0+1)) (
some (Sum.inl ((a0+1),a1,a2)))))))))) (
chk (inR a0 a1.length) (
cond (ix a1 a0) (
chk (fits .i64 ((↑a2.length:Int)-1)) (
chk (inR ((↑a2.length:Int)-1) a2.length) (
chk (fits .i64 (a0+1)) (
some (Sum.inl ((a0+1),a1,(List.set a2 (Int.toNat ((↑a2.length:Int)-1)) ((ix a2 ((↑a2.length:Int)-1)).1,a0)))))))) (
chk (fits .i64 (a0+1)) (
some (Sum.inl ((a0+1),a1,a2)))))))) (
some (Sum.inr (a1,a2)))
theorem g30_0 (F53:Y397)(F19:Y396)(F20:Y215)(F55:Y453)(a0:Int)(a1:List Bool)(a2:List Y1):s30_0 (T30 F53 F19 F20 F55) (a0,a1,a2)=q30_0 F53 F19 F20 F55 a0 a1 a2:=by kernel_rfl
noncomputable def p30_0:=q30_0 P53 P19 P20 P55
noncomputable def L30_0:Y434:=whileF (fun x=>p30_0 x.1 x.2.1 x.2.2)
theorem v30_0:l30_0 (T30 P53 P19 P20 P55) =L30_0:=congrArg whileF (funext fun x=>(g30_0 P53 P19 P20 P55 x.1 x.2.1 x.2.2))
theorem ok30:L.Fn Tryz.prog 30 78 [(.t 6),(.t 7)] (erase c30):=Fn.ofA hmix Tryz.func30 _ _ (by kernel_rfl)
def sh30:FSh:=⟨⟨[(.st y91),(.v y13),(.v y13)],[]⟩,[y91,y13,y13],0,⟨⟨[(.tup [(.slc 0),(.v y13)])],[(0,(.row 55 y24))]⟩,[y13,y35],[],1⟩,true⟩
noncomputable def q30 (F53:Y397)(F19:Y396)(F20:Y215)(F55:Y453)(l30_0:Y434)(a0:Y42)(a1 a2:Int):Option Y235:=
(F53 (a0,a1,a2,0)).bind fun r1=>(
cond (!decide (r1=0)) (
some (r1,([]:List Y1))) (
(F19 (a0,a1)).bind fun r2=>(
(F20 (a0,a2)).bind fun r3=>(
(F55 (a0,r2.1,r3.1)).bind fun r4=>(
(l30_0 (0,r4,([]:List Y1))).bind fun y5=>(
some (0,y5.2)))))))
theorem g30 (F53:Y397)(F19:Y396)(F20:Y215)(F55:Y453)(a0:Y42)(a1 a2:Int):dxf (T30 F53 F19 F20 F55) sh30 [(.t 6),(.t 7)] c30 (a0,a1,a2)=q30 F53 F19 F20 F55 (l30_0 (T30 F53 F19 F20 F55)) a0 a1 a2:=by kernel_rfl
noncomputable def p30:=q30 P53 P19 P20 P55 L30_0
noncomputable def P30:Y454:=fun x=>p30 x.1 x.2.1 x.2.2
theorem v30:dxf (T30 P53 P19 P20 P55) sh30 [(.t 6),(.t 7)] c30=P30:=funext fun x=>(g30 P53 P19 P20 P55 x.1 x.2.1 x.2.2).trans (by rw[v30_0] <;> rfl)
theorem d30:DC Tryz.prog 30 sh30 P30:=DC_eq v30 (dxf_sound t30 ok30 (by kernel_rfl))
noncomputable def T56:List FEnt:=[]
theorem t56:DTblOK Tryz.prog T56:=DTbl_nil
def h56_0:LSh:=⟨[0,1,5],⟨[(.v y35),(.v y35),(.v y13)],[]⟩,[y35,y35,y13],0,[]⟩
noncomputable def c56:=anF Tryz.prog [] Tryz.f56 (.s .n (.s .n (.s (.s .n (.b (.l h56_0 x125_0 .n))) .n)))
noncomputable def s56_0 (T:List FEnt):=dstep (xs:=x125_0) h56_0 (dxc T (sb [1,1,0,1,2,2] c56))
noncomputable def l56_0 (T:List FEnt):=whileF (s56_0 T)
noncomputable def q56_0 (a0 a1:List Y1)(a2:Int):Option Y439:=
cond (decide (a2 < (↑a0.length:Int))) (
chk (inR a2 a0.length) (
chk (inR a2 a1.length) (
cond (!(decide ((ix a0 a2).1=(ix a1 a2).1)&&decide ((ix a0 a2).2=(ix a1 a2).2))) (
some (Sum.inr (Sum.inl false))) (
chk (fits .i64 (a2+1)) (
some (Sum.inl (a0,a1,(a2+1)))))))) (
some (Sum.inr (Sum.inr ())))
theorem g56_0 (a0 a1:List Y1)(a2:Int):s56_0 T56 (a0,a1,a2)=q56_0 a0 a1 a2:=by kernel_rfl
noncomputable def p56_0:=q56_0
noncomputable def L56_0:Y424:=whileF (fun x=>p56_0 x.1 x.2.1 x.2.2)
theorem v56_0:l56_0 T56=L56_0:=congrArg whileF (funext fun x=>(g56_0 x.1 x.2.1 x.2.2))
theorem ok56:L.Fn Tryz.prog 56 26 [(.t 4)] (erase c56):=Fn.ofA hmix Tryz.func56 _ _ (by kernel_rfl)
def sh56:FSh:=⟨⟨[(.v y35),(.v y35)],[]⟩,[y35,y35],0,⟨⟨[(.v .bool)],[]⟩,[.bool],[],0⟩,true⟩
noncomputable def q56 (l56_0:Y424)(a0 a1:List Y1):Option Bool:=
cond (!decide ((↑a0.length:Int)=(↑a1.length:Int))) (
some false) (
(l56_0 (a0,a1,0)).bind (fun y1=>Sum.elim (fun y2=>(
some y2)) (fun y3=>(
some true)) y1))
theorem g56 (a0 a1:List Y1):dxf T56 sh56 [(.t 4)] c56 (a0,a1)=q56 (l56_0 T56) a0 a1:=by kernel_rfl
noncomputable def p56:=q56 L56_0
noncomputable def P56:Y425:=fun x=>p56 x.1 x.2
theorem v56:dxf T56 sh56 [(.t 4)] c56=P56:=funext fun x=>(g56 x.1 x.2).trans (by rw[v56_0] <;> rfl)
theorem d56:DC Tryz.prog 56 sh56 P56:=DC_eq v56 (dxf_sound t56 ok56 (by kernel_rfl))
noncomputable def T57 (F86:Y97):List FEnt:=[⟨86,sh86,F86⟩]
theorem t57:DTblOK Tryz.prog (T57 P86):=(DTbl_cons' d86 (by kernel_rfl) DTbl_nil)
def h57_0:LSh:=⟨[0,1,5],⟨[(.v y78),(.v y78),(.v y13)],[]⟩,[y78,y78,y13],0,[]⟩
noncomputable def c57:=anF Tryz.prog [] Tryz.f57 (.s .n (.s .n (.s (.s .n (.b (.l h57_0 x125_0 .n))) .n)))
noncomputable def s57_0 (T:List FEnt):=dstep (xs:=x125_0) h57_0 (dxc T (sb [1,1,0,1,2,2] c57))
noncomputable def l57_0 (T:List FEnt):=whileF (s57_0 T)
noncomputable def q57_0 (F86:Y97)(a0 a1:List Y15)(a2:Int):Option Y444:=
cond (decide (a2 < (↑a0.length:Int))) (
chk (inR a2 a0.length) (
chk (inR a2 a1.length) (
(F86 ((ix a0 a2),(ix a1 a2))).bind fun r1=>(
cond (!r1) (
some (Sum.inr (Sum.inl false))) (
chk (fits .i64 (a2+1)) (
some (Sum.inl (a0,a1,(a2+1))))))))) (
some (Sum.inr (Sum.inr ())))
theorem g57_0 (F86:Y97)(a0 a1:List Y15)(a2:Int):s57_0 (T57 F86) (a0,a1,a2)=q57_0 F86 a0 a1 a2:=by kernel_rfl
noncomputable def p57_0:=q57_0 P86
noncomputable def L57_0:Y435:=whileF (fun x=>p57_0 x.1 x.2.1 x.2.2)
theorem v57_0:l57_0 (T57 P86) =L57_0:=congrArg whileF (funext fun x=>(g57_0 P86 x.1 x.2.1 x.2.2))
theorem ok57:L.Fn Tryz.prog 57 27 [(.t 4)] (erase c57):=Fn.ofA hmix Tryz.func57 _ _ (by kernel_rfl)
def sh57:FSh:=⟨⟨[(.v y78),(.v y78)],[]⟩,[y78,y78],0,⟨⟨[(.v .bool)],[]⟩,[.bool],[],0⟩,true⟩
noncomputable def q57 (F86:Y97)(l57_0:Y435)(a0 a1:List Y15):Option Bool:=
cond (!decide ((↑a0.length:Int)=(↑a1.length:Int))) (
some false) (
(l57_0 (a0,a1,0)).bind (fun y2=>Sum.elim (fun y3=>(
some y3)) (fun y4=>(
some true)) y2))
theorem g57 (F86:Y97)(a0 a1:List Y15):dxf (T57 F86) sh57 [(.t 4)] c57 (a0,a1)=q57 F86 (l57_0 (T57 F86)) a0 a1:=by kernel_rfl
noncomputable def p57:=q57 P86 L57_0
noncomputable def P57:Y436:=fun x=>p57 x.1 x.2
theorem v57:dxf (T57 P86) sh57 [(.t 4)] c57=P57:=funext fun x=>(g57 P86 x.1 x.2).trans (by rw[v57_0] <;> rfl)
theorem d57:DC Tryz.prog 57 sh57 P57:=DC_eq v57 (dxf_sound t57 ok57 (by kernel_rfl))
end Go.Proofs.YtdacabdocbhkdaaGreat.D
