/- Cut down from a longer text. -/
import Derived.Test.YtdacabdocbhkdaaGreatG3m
import Derived.Test.YtdacabdocbhkdaaGreatProg
set_option linter.unusedVariables false
set_option maxRecDepth 100000
namespace Go.Proofs.YtdacabdocbhkdaaGreat.D
open Go Go.Proofs L
noncomputable def T65 (F79:Y8)(F108:Y160)(F52:Y172)(F110:Y268):List FEnt:=[⟨79,sh79,F79⟩,⟨108,sh108,F108⟩,⟨52,sh52,F52⟩,⟨110,sh110,F110⟩]
theorem t65:DTblOK Tryz.prog (T65 P79 P108 P52 P110):=(DTbl_cons' d79 (by kernel_rfl) (DTbl_cons' d108 (by kernel_rfl) (DTbl_cons' d52 (by kernel_rfl) (DTbl_cons' d110 (by kernel_rfl) DTbl_nil))))
def h65_0:LSh:=⟨[3,4,7,17,18,19],⟨[(.ptr 0 0),(.ptr 1 0),(.ptr 2 0),(.v y35),(.v y13),(.v y13)],[(0,(.boxT y91)),(1,(.boxT y87)),(2,(.box [(.v y13),(.v y13),(.v y13),(.v y13),(.v y13),(.v .bool),(.v y25),(.v y13),(.v y25),(.v y35),(.slc 3),.emp,.emp])),(3,(.row 64 y24))]⟩,[y35,y13,y13,y91,y87,y13,y13,y13,y13,y13,.bool,y25,y13,y25,y35,y35],4,[0,1,2]⟩
def x65_0:List XSh:=[⟨(.exit 0),[3,4,7],⟨⟨[(.ptr 0 0),(.ptr 1 0),(.ptr 2 0)],[(0,(.boxT y91)),(1,(.boxT y87)),(2,(.box [(.v y13),(.v y13),(.v y13),(.v y13),(.v y13),(.v .bool),(.v y25),(.v y13),(.v y25),(.v y35),(.slc 3),.emp,.emp])),(3,(.row 64 y24))]⟩,[y91,y87,y13,y13,y13,y13,y13,.bool,y25,y13,y25,y35,y35],[0,1,2],4⟩⟩]
def h65_1:LSh:=⟨[3,4,7,46,47,48],⟨[(.ptr 0 0),(.ptr 1 0),(.ptr 2 0),(.slc 3),(.v y13),(.v y13)],[(0,(.boxT y91)),(1,(.boxT y87)),(2,(.box [(.v y13),(.v y13),(.v y13),(.v y13),(.v y13),(.v .bool),(.v y25),(.v y13),(.v y25),(.v y35),(.slc 4),(.slc 5),.emp])),(3,(.row 59 y68)),(4,(.row 64 y24)),(5,(.row 59 y68))]⟩,[y13,y13,y91,y87,y13,y13,y13,y13,y13,.bool,y25,y13,y25,y35,y78,y35,y78],6,[0,1,2,3,4]⟩
def x65_1:List XSh:=[⟨(.exit 2),[7],⟨⟨[(.ptr 2 0)],[(0,(.boxT y91)),(1,(.boxT y87)),(2,(.box [(.v y13),(.v y13),(.v y13),(.v y13),(.v y13),(.v .bool),(.v y25),(.v y13),(.v y25),(.v y35),(.slc 4),(.slc 5),.emp])),(3,(.row 59 y68)),(4,(.row 64 y24)),(5,(.row 59 y68))]⟩,[y91,y87,y13,y13,y13,y13,y13,.bool,y25,y13,y25,y35,y78,y35,y78],[0,1,2,3,4],6⟩⟩]
noncomputable def c65:=anF Tryz.prog [] Tryz.f65 (.s .n (.s .n (.s (.s .n (.b (.l h65_0 x65_0 (.s .n (.s .n (.s (.b (.s .n (.s .n (.s (.r [.a 6 true y24,.a 7 true y24]) .n)))) .n)))))) (.s .n (.s (.s .n (.b (.l h65_1 x65_1 (.s .n (.s .n (.s (.b (.s .n (.s .n (.s (.r [.a 6 true y68,.a 7 true y68]) .n)))) .n)))))) (.s .n (.s (.r [.f 2 6 [10],.f 2 6 [11],.f 2 78 [],.f 2 6 []]) .n)))))))
noncomputable def s65_0 (T:List FEnt):=dstep (xs:=x65_0) h65_0 (dxc T (sb [1,1,0,1,2,2] c65))
noncomputable def l65_0 (T:List FEnt):=whileF (s65_0 T)
noncomputable def q65_0 (F79:Y8)(F108:Y160)(F52:Y172)(F110:Y268)(a0:List Y1)(a1 a2:Int)(a3:Y42)(a4:Y12)(a5 a6 a7 a8 a9:Int)(a10:Bool)(a11:List Int)(a12:Int)(a13:List Int)(a14 a15:List Y1):Option Y312:=
cond (decide (a2 < a1)) (
chk (inR a2 a0.length) (
(F79 (a4.2.2.2.2.2.2,(ix a0 a2).1)).bind fun r1=>(
cond r1 (
chk (capOk 16 (List.length a15+List.length ([(ix a0 a2)]:List Y1))) (
chk (fits .i64 (a2+1)) (
some (Sum.inl (a0,a1,(a2+1),a3,a4,a5,a6,a7,a8,a9,a10,a11,a12,a13,a14,(a15++([(ix a0 a2)]:List Y1))))))) (
chk (fits .i64 (a2+1)) (
some (Sum.inl (a0,a1,(a2+1),a3,a4,a5,a6,a7,a8,a9,a10,a11,a12,a13,a14,a15))))))) (
some (Sum.inr (a3,a4,a5,a6,a7,a8,a9,a10,a11,a12,a13,a14,a15)))
theorem g65_0 (F79:Y8)(F108:Y160)(F52:Y172)(F110:Y268)(a0:List Y1)(a1 a2:Int)(a3:Y42)(a4:Y12)(a5 a6 a7 a8 a9:Int)(a10:Bool)(a11:List Int)(a12:Int)(a13:List Int)(a14 a15:List Y1):s65_0 (T65 F79 F108 F52 F110) (a0,a1,a2,a3,a4,a5,a6,a7,a8,a9,a10,a11,a12,a13,a14,a15)=q65_0 F79 F108 F52 F110 a0 a1 a2 a3 a4 a5 a6 a7 a8 a9 a10 a11 a12 a13 a14 a15:=by kernel_rfl
noncomputable def p65_0:=q65_0 P79 P108 P52 P110
noncomputable def L65_0:Y309:=whileF (fun x=>p65_0 x.1 x.2.1 x.2.2.1 x.2.2.2.1 x.2.2.2.2.1 x.2.2.2.2.2.1 x.2.2.2.2.2.2.1 x.2.2.2.2.2.2.2.1 x.2.2.2.2.2.2.2.2.1 x.2.2.2.2.2.2.2.2.2.1 x.2.2.2.2.2.2.2.2.2.2.1 x.2.2.2.2.2.2.2.2.2.2.2.1 x.2.2.2.2.2.2.2.2.2.2.2.2.1 x.2.2.2.2.2.2.2.2.2.2.2.2.2.1 x.2.2.2.2.2.2.2.2.2.2.2.2.2.2.1 x.2.2.2.2.2.2.2.2.2.2.2.2.2.2.2)
theorem v65_0:l65_0 (T65 P79 P108 P52 P110) =L65_0:=congrArg whileF (funext fun x=>(g65_0 P79 P108 P52 P110 x.1 x.2.1 x.2.2.1 x.2.2.2.1 x.2.2.2.2.1 x.2.2.2.2.2.1 x.2.2.2.2.2.2.1 x.2.2.2.2.2.2.2.1 x.2.2.2.2.2.2.2.2.1 x.2.2.2.2.2.2.2.2.2.1 x.2.2.2.2.2.2.2.2.2.2.1 x.2.2.2.2.2.2.2.2.2.2.2.1 x.2.2.2.2.2.2.2.2.2.2.2.2.1 x.2.2.2.2.2.2.2.2.2.2.2.2.2.1 x.2.2.2.2.2.2.2.2.2.2.2.2.2.2.1 x.2.2.2.2.2.2.2.2.2.2.2.2.2.2.2))
noncomputable def s65_1 (T:List FEnt):=dstep (xs:=x65_1) h65_1 (dxc T (sb [1,1,1,1,0,1,2,2] c65))
noncomputable def l65_1 (T:List FEnt):=whileF (s65_1 T)
noncomputable def q65_1 (F79:Y8)(F108:Y160)(F52:Y172)(F110:Y268)(a0 a1:Int)(a2:Y42)(a3:Y12)(a4 a5 a6 a7 a8:Int)(a9:Bool)(a10:List Int)(a11:Int)(a12:List Int)(a13:List Y1)(a14:List Y15)(a15:List Y1)(a16:List Y15):Option Y313:=
cond (decide (a1 < a0)) (
chk (inR a1 a14.length) (
cond (decide ((ix a14 a1).2.1=a3.1)) (
(F79 (a2.2.2.2.2,(ix a14 a1).1)).bind fun r5=>(
cond (!r5) (
chk (capOk 56 (List.length a16+List.length ([(ix a14 a1)]:List Y15))) (
chk (fits .i64 (a1+1)) (
some (Sum.inl (a0,(a1+1),a2,a3,a4,a5,a6,a7,a8,a9,a10,a11,a12,a13,a14,a15,(a16++([(ix a14 a1)]:List Y15))))))) (
chk (fits .i64 (a1+1)) (
some (Sum.inl (a0,(a1+1),a2,a3,a4,a5,a6,a7,a8,a9,a10,a11,a12,a13,a14,a15,a16)))))) (
chk (fits .i64 (a1+1)) (
some (Sum.inl (a0,(a1+1),a2,a3,a4,a5,a6,a7,a8,a9,a10,a11,a12,a13,a14,a15,a16)))))) (
some (Sum.inr (a2,a3,a4,a5,a6,a7,a8,a9,a10,a11,a12,a13,a14,a15,a16)))
theorem g65_1 (F79:Y8)(F108:Y160)(F52:Y172)(F110:Y268)(a0 a1:Int)(a2:Y42)(a3:Y12)(a4 a5 a6 a7 a8:Int)(a9:Bool)(a10:List Int)(a11:Int)(a12:List Int)(a13:List Y1)(a14:List Y15)(a15:List Y1)(a16:List Y15):s65_1 (T65 F79 F108 F52 F110) (a0,a1,a2,a3,a4,a5,a6,a7,a8,a9,a10,a11,a12,a13,a14,a15,a16)=q65_1 F79 F108 F52 F110 a0 a1 a2 a3 a4 a5 a6 a7 a8 a9 a10 a11 a12 a13 a14 a15 a16:=by kernel_rfl
noncomputable def p65_1:=q65_1 P79 P108 P52 P110
noncomputable def L65_1:Y310:=whileF (fun x=>p65_1 x.1 x.2.1 x.2.2.1 x.2.2.2.1 x.2.2.2.2.1 x.2.2.2.2.2.1 x.2.2.2.2.2.2.1 x.2.2.2.2.2.2.2.1 x.2.2.2.2.2.2.2.2.1 x.2.2.2.2.2.2.2.2.2.1 x.2.2.2.2.2.2.2.2.2.2.1 x.2.2.2.2.2.2.2.2.2.2.2.1 x.2.2.2.2.2.2.2.2.2.2.2.2.1 x.2.2.2.2.2.2.2.2.2.2.2.2.2.1 x.2.2.2.2.2.2.2.2.2.2.2.2.2.2.1 x.2.2.2.2.2.2.2.2.2.2.2.2.2.2.2.1 x.2.2.2.2.2.2.2.2.2.2.2.2.2.2.2.2)
theorem v65_1:l65_1 (T65 P79 P108 P52 P110) =L65_1:=congrArg whileF (funext fun x=>(g65_1 P79 P108 P52 P110 x.1 x.2.1 x.2.2.1 x.2.2.2.1 x.2.2.2.2.1 x.2.2.2.2.2.1 x.2.2.2.2.2.2.1 x.2.2.2.2.2.2.2.1 x.2.2.2.2.2.2.2.2.1 x.2.2.2.2.2.2.2.2.2.1 x.2.2.2.2.2.2.2.2.2.2.1 x.2.2.2.2.2.2.2.2.2.2.2.1 x.2.2.2.2.2.2.2.2.2.2.2.2.1 x.2.2.2.2.2.2.2.2.2.2.2.2.2.1 x.2.2.2.2.2.2.2.2.2.2.2.2.2.2.1 x.2.2.2.2.2.2.2.2.2.2.2.2.2.2.2.1 x.2.2.2.2.2.2.2.2.2.2.2.2.2.2.2.2))
theorem ok65:L.Fn Tryz.prog 65 82 [(.t 6)] (erase c65):=Fn.ofA hmix Tryz.func65 _ _ (by kernel_rfl)
def sh65:FSh:=⟨⟨[(.st y91),(.st y87),(.st y67)],[]⟩,[y91,y87,y67],0,⟨⟨[(.elm y229)],[]⟩,[y229],[],0⟩,false⟩
noncomputable def q65 (F79:Y8)(F108:Y160)(F52:Y172)(F110:Y268)(l65_0:Y309)(l65_1:Y310)(a0:Y42)(a1:Y12)(a2:Y22):Option Y181:=
(l65_0 (a0.1,(↑a0.1.length:Int),0,a0,a1,a1.1,a1.2.1,a1.2.2.1,a1.2.2.2.1,a1.2.2.2.2.1,a1.2.2.2.2.2.1,a1.2.2.2.2.2.2,a2.1,a2.2.1,a2.2.2,([]:List Y1))).bind fun y2=>(
(F108 y2.2.2.2.2.2.2.2.2.2.2.2.2).bind fun r3=>(
(F52 y2.1.2.2.2.1).bind fun r4=>(
(l65_1 ((↑r4.length:Int),0,y2.1,y2.2.1,y2.2.2.1,y2.2.2.2.1,y2.2.2.2.2.1,y2.2.2.2.2.2.1,y2.2.2.2.2.2.2.1,y2.2.2.2.2.2.2.2.1,y2.2.2.2.2.2.2.2.2.1,y2.2.2.2.2.2.2.2.2.2.1,y2.2.2.2.2.2.2.2.2.2.2.1,y2.2.2.2.2.2.2.2.2.2.2.2.1,r4,r3,([]:List Y15))).bind fun y6=>(
(F110 (y6.2.2.1,y6.2.2.2.1,y6.2.2.2.2.1,y6.2.2.2.2.2.1,y6.2.2.2.2.2.2.1,y6.2.2.2.2.2.2.2.1,y6.2.2.2.2.2.2.2.2.1,y6.2.2.2.2.2.2.2.2.2.1,y6.2.2.2.2.2.2.2.2.2.2.1,y6.2.2.2.2.2.2.2.2.2.2.2.1,y6.2.2.2.2.2.2.2.2.2.2.2.2.2.1,y6.2.2.2.2.2.2.2.2.2.2.2.2.2.2,([]:List Y1))).bind fun r7=>(
some (r7.1,(r7.2.1,(r7.2.2.1,(r7.2.2.2.1,(r7.2.2.2.2.1,(r7.2.2.2.2.2.1,(r7.2.2.2.2.2.2.1,(r7.2.2.2.2.2.2.2.1,(r7.2.2.2.2.2.2.2.2.1,(r7.2.2.2.2.2.2.2.2.2.1,(r7.2.2.2.2.2.2.2.2.2.2.1,(r7.2.2.2.2.2.2.2.2.2.2.2.1,r7.2.2.2.2.2.2.2.2.2.2.2.2.2)))))))))))))))))
theorem g65 (F79:Y8)(F108:Y160)(F52:Y172)(F110:Y268)(a0:Y42)(a1:Y12)(a2:Y22):dxf (T65 F79 F108 F52 F110) sh65 [(.t 6)] c65 (a0,a1,a2)=q65 F79 F108 F52 F110 (l65_0 (T65 F79 F108 F52 F110)) (l65_1 (T65 F79 F108 F52 F110)) a0 a1 a2:=by kernel_rfl
noncomputable def p65:=q65 P79 P108 P52 P110 L65_0 L65_1
noncomputable def P65:Y292:=fun x=>p65 x.1 x.2.1 x.2.2
theorem v65:dxf (T65 P79 P108 P52 P110) sh65 [(.t 6)] c65=P65:=funext fun x=>(g65 P79 P108 P52 P110 x.1 x.2.1 x.2.2).trans (by rw[v65_0,v65_1] <;> rfl)
theorem d65:DC Tryz.prog 65 sh65 P65:=DC_eq v65 (dxf_sound t65 ok65 (by kernel_rfl))
noncomputable def T43 (F28:Y198)(F73:Y176)(F60:Y215)(F61:Y7)(F65:Y292):List FEnt:=[⟨28,sh28,F28⟩,⟨73,sh73,F73⟩,⟨60,sh60,F60⟩,⟨61,sh61,F61⟩,⟨65,sh65,F65⟩]
theorem t43:DTblOK Tryz.prog (T43 P28 P73 P60 P61 P65):=(DTbl_cons' d28 (by kernel_rfl) (DTbl_cons' d73 (by kernel_rfl) (DTbl_cons' d60 (by kernel_rfl) (DTbl_cons' d61 (by kernel_rfl) (DTbl_cons' d65 (by kernel_rfl) DTbl_nil)))))
noncomputable def c43:=anF Tryz.prog [] Tryz.f43 .n
theorem ok43:L.Fn Tryz.prog 43 48 [(.t 8),(.t 9)] (erase c43):=Fn.ofA hmix Tryz.func43 _ _ (by kernel_rfl)
def sh43:FSh:=⟨⟨[(.st y91),(.v y13),(.v y13),(.v y13)],[]⟩,[y91,y13,y13,y13],0,⟨⟨[(.tup [(.v (.opt y229)),(.v y13)])],[]⟩,[(.opt y229),y13],[],0⟩,false⟩
noncomputable def q43 (F28:Y198)(F73:Y176)(F60:Y215)(F61:Y7)(F65:Y292)(a0:Y42)(a1 a2 a3:Int):Option Y305:=
(F28 a0).bind fun r1=>(
cond (!decide (r1=0)) (
some ((none:Option Y181),r1)) (
(F73 (a0.2.1,a1)).bind fun r2=>(
(F60 (a0,a2)).bind fun r3=>(
cond (decide (r2 < 0)) (
some ((none:Option Y181),1)) (
cond (!r3.2) (
some ((none:Option Y181),1)) (
(F61 a3).bind fun r4=>(
cond (!r4) (
some ((none:Option Y181),1)) (
chk (inR r2 a0.2.1.length) (
(F65 (a0,(ix a0.2.1 r2),r3.1)).bind fun r5=>(
some ((some r5:Option Y181),0)))))))))))
theorem g43 (F28:Y198)(F73:Y176)(F60:Y215)(F61:Y7)(F65:Y292)(a0:Y42)(a1 a2 a3:Int):dxf (T43 F28 F73 F60 F61 F65) sh43 [(.t 8),(.t 9)] c43 (a0,a1,a2,a3)=q43 F28 F73 F60 F61 F65 a0 a1 a2 a3:=by kernel_rfl
noncomputable def p43:=q43 P28 P73 P60 P61 P65
noncomputable def P43:Y311:=fun x=>p43 x.1 x.2.1 x.2.2.1 x.2.2.2
theorem v43:dxf (T43 P28 P73 P60 P61 P65) sh43 [(.t 8),(.t 9)] c43=P43:=funext fun x=>(g43 P28 P73 P60 P61 P65 x.1 x.2.1 x.2.2.1 x.2.2.2)
theorem d43:DC Tryz.prog 43 sh43 P43:=DC_eq v43 (dxf_sound t43 ok43 (by kernel_rfl))
noncomputable def T121:List FEnt:=[]
theorem t121:DTblOK Tryz.prog T121:=DTbl_nil
def h121_0:LSh:=⟨[0,3,7,8],⟨[(.v y35),(.ptr 0 0),(.v y13),(.v y13)],[(0,(.boxT y24))]⟩,[y35,y13,y13,y24],1,[0]⟩
def x121_0:List XSh:=[⟨.ret,[4],⟨⟨[(.v y13)],[(0,(.boxT y24))]⟩,[y13,y24],[0],1⟩⟩,⟨(.exit 0),[],⟨⟨[],[(0,(.boxT y24))]⟩,[y24],[0],1⟩⟩]
noncomputable def c121:=anF Tryz.prog [] Tryz.f121 (.s .n (.s (.s .n (.b (.l h121_0 x121_0 .n))) .n))
noncomputable def s121_0 (T:List FEnt):=dstep (xs:=x121_0) h121_0 (dxc T (sb [1,0,1,2,2] c121))
noncomputable def l121_0 (T:List FEnt):=whileF (s121_0 T)
noncomputable def q121_0 (a0:List Y1)(a1 a2:Int)(a3:Int×Int):Option Y283:=
cond (decide (a2 < a1)) (
chk (inR a2 a0.length) (
cond (decide (a3.1=(ix a0 a2).1)&&decide (a3.2=(ix a0 a2).2)) (
some (Sum.inr (Sum.inl (a2,a3)))) (
chk (fits .i64 (a2+1)) (
some (Sum.inl (a0,a1,(a2+1),a3)))))) (
some (Sum.inr (Sum.inr a3)))
theorem g121_0 (a0:List Y1)(a1 a2:Int)(a3:Int×Int):s121_0 T121 (a0,a1,a2,a3)=q121_0 a0 a1 a2 a3:=by kernel_rfl
noncomputable def p121_0:=q121_0
noncomputable def L121_0:Y277:=whileF (fun x=>p121_0 x.1 x.2.1 x.2.2.1 x.2.2.2)
theorem v121_0:l121_0 T121=L121_0:=congrArg whileF (funext fun x=>(g121_0 x.1 x.2.1 x.2.2.1 x.2.2.2))
theorem ok121:L.Fn Tryz.prog 121 19 [(.t 4)] (erase c121):=Fn.ofA hmix Tryz.func121 _ _ (by kernel_rfl)
def sh121:FSh:=⟨⟨[(.v y35),(.st y24)],[]⟩,[y35,y24],0,⟨⟨[(.v y13)],[]⟩,[y13],[],0⟩,true⟩
noncomputable def q121 (l121_0:Y277)(a0:List Y1)(a1:Int×Int):Option Int:=
(l121_0 (a0,(↑a0.length:Int),0,a1)).bind (fun y1=>Sum.elim (fun y2=>(
some y2.1)) (fun y3=>(
some (-1))) y1)
theorem g121 (a0:List Y1)(a1:Int×Int):dxf T121 sh121 [(.t 4)] c121 (a0,a1)=q121 (l121_0 T121) a0 a1:=by kernel_rfl
noncomputable def p121:=q121 L121_0
noncomputable def P121:Y278:=fun x=>p121 x.1 x.2
theorem v121:dxf T121 sh121 [(.t 4)] c121=P121:=funext fun x=>(g121 x.1 x.2).trans (by rw[v121_0] <;> rfl)
theorem d121:DC Tryz.prog 121 sh121 P121:=DC_eq v121 (dxf_sound t121 ok121 (by kernel_rfl))
noncomputable def T82 (F121:Y278):List FEnt:=[⟨121,sh121,F121⟩]
theorem t82:DTblOK Tryz.prog (T82 P121):=(DTbl_cons' d121 (by kernel_rfl) DTbl_nil)
noncomputable def c82:=anF Tryz.prog [] Tryz.f82 .n
theorem ok82:L.Fn Tryz.prog 82 9 [(.t 4)] (erase c82):=Fn.ofA hmix Tryz.func82 _ _ (by kernel_rfl)
def sh82:FSh:=⟨⟨[(.v y35),(.st y24)],[]⟩,[y35,y24],0,⟨⟨[(.v .bool)],[]⟩,[.bool],[],0⟩,true⟩
noncomputable def q82 (F121:Y278)(a0:List Y1)(a1:Int×Int):Option Bool:=
(F121 (a0,a1)).bind fun r1=>(
some (decide (0≤r1)))
theorem g82 (F121:Y278)(a0:List Y1)(a1:Int×Int):dxf (T82 F121) sh82 [(.t 4)] c82 (a0,a1)=q82 F121 a0 a1:=by kernel_rfl
noncomputable def p82:=q82 P121
noncomputable def P82:Y279:=fun x=>p82 x.1 x.2
theorem v82:dxf (T82 P121) sh82 [(.t 4)] c82=P82:=funext fun x=>(g82 P121 x.1 x.2)
theorem d82:DC Tryz.prog 82 sh82 P82:=DC_eq v82 (dxf_sound t82 ok82 (by kernel_rfl))
noncomputable def T47 (F82:Y279):List FEnt:=[⟨82,sh82,F82⟩]
theorem t47:DTblOK Tryz.prog (T47 P82):=(DTbl_cons' d82 (by kernel_rfl) DTbl_nil)
def h47_0:LSh:=⟨[0,3,9,10,11],⟨[(.v (.opt y229) ),(.slc 0),(.v y35),(.v y13),(.v y13)],[(0,(.row 3 y13))]⟩,[(.opt y229),y35,y13,y13,y25],1,[]⟩
def x47_0:List XSh:=[⟨(.exit 0),[3],⟨⟨[(.slc 0)],[(0,(.row 3 y13))]⟩,[y25],[],1⟩⟩]
noncomputable def c47:=anF Tryz.prog [] Tryz.f47 (.s .n (.s .n (.s (.s .n (.b (.l h47_0 x47_0 (.s .n (.s .n (.s (.b (.s .n (.s .n (.s (.r [.a 3 false y13,.a 4 false y13]) .n)))) .n)))))) .n)))
noncomputable def s47_0 (T:List FEnt):=dstep (xs:=x47_0) h47_0 (dxc T (sb [1,1,0,1,2,2] c47))
noncomputable def l47_0 (T:List FEnt):=whileF (s47_0 T)
noncomputable def q47_0 (F82:Y279)(a0:Option Y181)(a1:List Y1)(a2 a3:Int)(a4:List Int):Option Y314:=
cond (decide (a3 < a2)) (
chk (inR a3 a1.length) (
chk (Option.isSome a0) (
(F82 ((dof a0 (0,(0,(0,(0,(0,(false,([],(0,([],([],([],([],[]))))))))))))).2.2.2.2.2.2.2.2.2.1,(ix a1 a3))).bind fun r1=>(
cond (!r1) (
chk (capOk 8 (List.length a4+List.length ([(ix a1 a3).1]:List Int))) (
chk (fits .i64 (a3+1)) (
some (Sum.inl (a0,a1,a2,(a3+1),(a4++([(ix a1 a3).1]:List Int))))))) (
chk (fits .i64 (a3+1)) (
some (Sum.inl (a0,a1,a2,(a3+1),a4)))))))) (
some (Sum.inr a4))
theorem g47_0 (F82:Y279)(a0:Option Y181)(a1:List Y1)(a2 a3:Int)(a4:List Int):s47_0 (T47 F82) (a0,a1,a2,a3,a4)=q47_0 F82 a0 a1 a2 a3 a4:=by kernel_rfl
noncomputable def p47_0:=q47_0 P82
noncomputable def L47_0:Y293:=whileF (fun x=>p47_0 x.1 x.2.1 x.2.2.1 x.2.2.2.1 x.2.2.2.2)
theorem v47_0:l47_0 (T47 P82) =L47_0:=congrArg whileF (funext fun x=>(g47_0 P82 x.1 x.2.1 x.2.2.1 x.2.2.2.1 x.2.2.2.2))
theorem ok47:L.Fn Tryz.prog 47 30 [(.t 2)] (erase c47):=Fn.ofA hmix Tryz.func47 _ _ (by kernel_rfl)
def sh47:FSh:=⟨⟨[(.v (.opt y229) )],[]⟩,[(.opt y229)],0,⟨⟨[(.slc 0)],[(0,(.row 3 y13))]⟩,[y25],[],1⟩,true⟩
noncomputable def q47 (F82:Y279)(l47_0:Y293)(a0:Option Y181):Option Y2:=
chk (Option.isSome a0) (
(l47_0 (a0,(dof a0 (0,(0,(0,(0,(0,(false,([],(0,([],([],([],([],[]))))))))))))).2.2.2.2.2.2.2.2.2.2.1,(↑(List.length ((dof a0 (0,(0,(0,(0,(0,(false,([],(0,([],([],([],([],[]))))))))))))).2.2.2.2.2.2.2.2.2.2.1)):Int),0,([]:List Int))).bind fun y2=>(
some y2))
theorem g47 (F82:Y279)(a0:Option Y181):dxf (T47 F82) sh47 [(.t 2)] c47 a0=q47 F82 (l47_0 (T47 F82)) a0:=by kernel_rfl
noncomputable def p47:=q47 P82 L47_0
noncomputable def P47:Y286:=fun x=>p47 x
theorem v47:dxf (T47 P82) sh47 [(.t 2)] c47=P47:=funext fun x=>(g47 P82 x).trans (by rw[v47_0] <;> rfl)
theorem d47:DC Tryz.prog 47 sh47 P47:=DC_eq v47 (dxf_sound t47 ok47 (by kernel_rfl))
noncomputable def T75v1 (F91v1:Y149):List FEnt:=[⟨91,sh91v1,F91v1⟩]
theorem t75v1:DTblOK Tryz.prog (T75v1 P91v1):=(DTbl_cons' d91v1 (by kernel_rfl) DTbl_nil)
noncomputable def c75v1:=anF Tryz.prog [] Tryz.f75 .n
theorem ok75v1:L.Fn Tryz.prog 75 13 [(.t 4)] (erase c75v1):=Fn.ofA hmix Tryz.func75 _ _ (by kernel_rfl)
def sh75v1:FSh:=⟨⟨[(.v (.opt y229) ),(.st y68)],[]⟩,[(.opt y229),y68],0,⟨⟨[(.v .bool)],[]⟩,[.bool],[],0⟩,true⟩
noncomputable def q75v1 (F91v1:Y149)(a0:Option Y181)(a1:Y15):Option Bool:=
chk (Option.isSome a0) (
(F91v1 ((dof a0 (0,(0,(0,(0,(0,(false,([],(0,([],([],([],([],[]))))))))))))).2.2.2.2.2.2.2.2.1,a1)).bind fun r1=>(
some (!r1)))
theorem g75v1 (F91v1:Y149)(a0:Option Y181)(a1:Y15):dxf (T75v1 F91v1) sh75v1 [(.t 4)] c75v1 (a0,a1)=q75v1 F91v1 a0 a1:=by kernel_rfl
noncomputable def p75v1:=q75v1 P91v1
noncomputable def P75v1:Y294:=fun x=>p75v1 x.1 x.2
theorem v75v1:dxf (T75v1 P91v1) sh75v1 [(.t 4)] c75v1=P75v1:=funext fun x=>(g75v1 P91v1 x.1 x.2)
theorem d75v1:DC Tryz.prog 75 sh75v1 P75v1:=DC_eq v75v1 (dxf_sound t75v1 ok75v1 (by kernel_rfl))
noncomputable def T45v1 (F75v1:Y294)(F76:Y160):List FEnt:=[⟨75,sh75v1,F75v1⟩,⟨76,sh76,F76⟩]
theorem t45v1:DTblOK Tryz.prog (T45v1 P75v1 P76):=(DTbl_cons' d75v1 (by kernel_rfl) (DTbl_cons' d76 (by kernel_rfl) DTbl_nil))
def h45v1_0:LSh:=⟨[0,3,9,10,11],⟨[(.v (.opt y229) ),(.slc 0),(.v y78),(.v y13),(.v y13)],[(0,(.row 55 y24))]⟩,[(.opt y229),y78,y13,y13,y35],1,[]⟩
noncomputable def c45v1:=anF Tryz.prog [] Tryz.f45 (.s .n (.s .n (.s (.s .n (.b (.l h45v1_0 x45_0 (.s .n (.s .n (.s (.b (.s .n (.s .n (.s (.r [.a 6 true y24,.a 7 true y24]) .n)))) .n)))))) .n)))
noncomputable def s45v1_0 (T:List FEnt):=dstep (xs:=x45_0) h45v1_0 (dxc T (sb [1,1,0,1,2,2] c45v1))
noncomputable def l45v1_0 (T:List FEnt):=whileF (s45v1_0 T)
noncomputable def q45v1_0 (F75v1:Y294)(F76:Y160)(a0:Option Y181)(a1:List Y15)(a2 a3:Int)(a4:List Y1):Option Y315:=
cond (decide (a3 < a2)) (
chk (inR a3 a1.length) (
(F75v1 (a0,(ix a1 a3))).bind fun r1=>(
cond r1 (
chk (capOk 16 (List.length a4+List.length ([(ix a1 a3).2.2.2]:List Y1))) (
chk (fits .i64 (a3+1)) (
some (Sum.inl (a0,a1,a2,(a3+1),(a4++([(ix a1 a3).2.2.2]:List Y1))))))) (
chk (fits .i64 (a3+1)) (
some (Sum.inl (a0,a1,a2,(a3+1),a4))))))) (
some (Sum.inr a4))
theorem g45v1_0 (F75v1:Y294)(F76:Y160)(a0:Option Y181)(a1:List Y15)(a2 a3:Int)(a4:List Y1):s45v1_0 (T45v1 F75v1 F76) (a0,a1,a2,a3,a4)=q45v1_0 F75v1 F76 a0 a1 a2 a3 a4:=by kernel_rfl
noncomputable def p45v1_0:=q45v1_0 P75v1 P76
noncomputable def L45v1_0:Y295:=whileF (fun x=>p45v1_0 x.1 x.2.1 x.2.2.1 x.2.2.2.1 x.2.2.2.2)
theorem v45v1_0:l45v1_0 (T45v1 P75v1 P76) =L45v1_0:=congrArg whileF (funext fun x=>(g45v1_0 P75v1 P76 x.1 x.2.1 x.2.2.1 x.2.2.2.1 x.2.2.2.2))
theorem ok45v1:L.Fn Tryz.prog 45 30 [(.t 2)] (erase c45v1):=Fn.ofA hmix Tryz.func45 _ _ (by kernel_rfl)
def sh45v1:FSh:=⟨⟨[(.v (.opt y229) )],[]⟩,[(.opt y229)],0,⟨⟨[(.slc 0)],[(0,(.row 55 y24))]⟩,[y35],[],1⟩,true⟩
noncomputable def q45v1 (F75v1:Y294)(F76:Y160)(l45v1_0:Y295)(a0:Option Y181):Option Y14:=
chk (Option.isSome a0) (
(l45v1_0 (a0,(dof a0 (0,(0,(0,(0,(0,(false,([],(0,([],([],([],([],[]))))))))))))).2.2.2.2.2.2.2.2.2.2.2.1,(↑(List.length ((dof a0 (0,(0,(0,(0,(0,(false,([],(0,([],([],([],([],[]))))))))))))).2.2.2.2.2.2.2.2.2.2.2.1)):Int),0,([]:List Y1))).bind fun y2=>(
(F76 y2).bind fun r3=>(
some r3)))
theorem g45v1 (F75v1:Y294)(F76:Y160)(a0:Option Y181):dxf (T45v1 F75v1 F76) sh45v1 [(.t 2)] c45v1 a0=q45v1 F75v1 F76 (l45v1_0 (T45v1 F75v1 F76)) a0:=by kernel_rfl
noncomputable def p45v1:=q45v1 P75v1 P76 L45v1_0
noncomputable def P45v1:Y287:=fun x=>p45v1 x
theorem v45v1:dxf (T45v1 P75v1 P76) sh45v1 [(.t 2)] c45v1=P45v1:=funext fun x=>(g45v1 P75v1 P76 x).trans (by rw[v45v1_0] <;> rfl)
theorem d45v1:DC Tryz.prog 45 sh45v1 P45v1:=DC_eq v45v1 (dxf_sound t45v1 ok45v1 (by kernel_rfl))
noncomputable def T78 (F79:Y8):List FEnt:=[⟨79,sh79,F79⟩]
theorem t78:DTblOK Tryz.prog (T78 P79):=(DTbl_cons' d79 (by kernel_rfl) DTbl_nil)
noncomputable def c78:=anF Tryz.prog [] Tryz.f78 .n
theorem ok78:L.Fn Tryz.prog 78 14 [(.t 3)] (erase c78):=Fn.ofA hmix Tryz.func78 _ _ (by kernel_rfl)
def sh78:FSh:=⟨⟨[(.v y13),(.elm (.opt y229))],[]⟩,[y13,(.opt y229)],0,⟨⟨[(.v .bool)],[]⟩,[.bool],[],0⟩,true⟩
noncomputable def q78 (F79:Y8)(a0:Int)(a1:Option Y181):Option Bool:=
chk (Option.isSome a1) (
chk (inR 0 (List.length ((dof a1 (0,(0,(0,(0,(0,(false,([],(0,([],([],([],([],[]))))))))))))).2.2.2.2.2.2.2.2.2.2.2.1))) (
(F79 ((ix ((dof a1 (0,(0,(0,(0,(0,(false,([],(0,([],([],([],([],[]))))))))))))).2.2.2.2.2.2.2.2.2.2.2.1) 0).2.2.1,a0)).bind fun r1=>(
some (!r1))))
theorem g78 (F79:Y8)(a0:Int)(a1:Option Y181):dxf (T78 F79) sh78 [(.t 3)] c78 (a0,a1)=q78 F79 a0 a1:=by kernel_rfl
noncomputable def p78:=q78 P79
noncomputable def P78:Y296:=fun x=>p78 x.1 x.2
theorem v78:dxf (T78 P79) sh78 [(.t 3)] c78=P78:=funext fun x=>(g78 P79 x.1 x.2)
theorem d78:DC Tryz.prog 78 sh78 P78:=DC_eq v78 (dxf_sound t78 ok78 (by kernel_rfl))
noncomputable def T80v2 (F78:Y296):List FEnt:=[⟨78,sh78,F78⟩]
theorem t80v2:DTblOK Tryz.prog (T80v2 P78):=(DTbl_cons' d78 (by kernel_rfl) DTbl_nil)
def h80v2_0:LSh:=⟨[0,1,7,8],⟨[(.v y25),(.fn 78 [(.elm (.opt y229))]),(.v y13),(.v y13)],[]⟩,[y25,(.opt y229),y13,y13],0,[]⟩
noncomputable def c80v2:=anF Tryz.prog [] Tryz.f80 (.s .n (.s (.s .n (.b (.l h80v2_0 x123_0 .n))) .n))
noncomputable def s80v2_0 (T:List FEnt):=dstep (xs:=x123_0) h80v2_0 (dxc T (sb [1,0,1,2,2] c80v2))
noncomputable def l80v2_0 (T:List FEnt):=whileF (s80v2_0 T)
noncomputable def q80v2_0 (F78:Y296)(a0:List Int)(a1:Option Y181)(a2 a3:Int):Option Y316:=
cond (decide (a3 < a2)) (
chk (inR a3 a0.length) (
(F78 ((ix a0 a3),a1)).bind fun r1=>(
cond r1 (
some (Sum.inr (Sum.inl a3))) (
chk (fits .i64 (a3+1)) (
some (Sum.inl (a0,a1,a2,(a3+1)))))))) (
some (Sum.inr (Sum.inr ())))
theorem g80v2_0 (F78:Y296)(a0:List Int)(a1:Option Y181)(a2 a3:Int):s80v2_0 (T80v2 F78) (a0,a1,a2,a3)=q80v2_0 F78 a0 a1 a2 a3:=by kernel_rfl
noncomputable def p80v2_0:=q80v2_0 P78
noncomputable def L80v2_0:Y297:=whileF (fun x=>p80v2_0 x.1 x.2.1 x.2.2.1 x.2.2.2)
theorem v80v2_0:l80v2_0 (T80v2 P78) =L80v2_0:=congrArg whileF (funext fun x=>(g80v2_0 P78 x.1 x.2.1 x.2.2.1 x.2.2.2))
theorem ok80v2:L.Fn Tryz.prog 80 19 [(.t 4)] (erase c80v2):=Fn.ofA hmix Tryz.func80 _ _ (by kernel_rfl)
def sh80v2:FSh:=⟨⟨[(.v y25),(.fn 78 [(.elm (.opt y229))])],[]⟩,[y25,(.opt y229)],0,⟨⟨[(.v y13)],[]⟩,[y13],[],0⟩,true⟩
noncomputable def q80v2 (F78:Y296)(l80v2_0:Y297)(a0:List Int)(a1:Option Y181):Option Int:=
(l80v2_0 (a0,a1,(↑a0.length:Int),0)).bind (fun y2=>Sum.elim (fun y3=>(
some y3)) (fun y4=>(
some (-1))) y2)
theorem g80v2 (F78:Y296)(a0:List Int)(a1:Option Y181):dxf (T80v2 F78) sh80v2 [(.t 4)] c80v2 (a0,a1)=q80v2 F78 (l80v2_0 (T80v2 F78)) a0 a1:=by kernel_rfl
noncomputable def p80v2:=q80v2 P78 L80v2_0
noncomputable def P80v2:Y298:=fun x=>p80v2 x.1 x.2
theorem v80v2:dxf (T80v2 P78) sh80v2 [(.t 4)] c80v2=P80v2:=funext fun x=>(g80v2 P78 x.1 x.2).trans (by rw[v80v2_0] <;> rfl)
theorem d80v2:DC Tryz.prog 80 sh80v2 P80v2:=DC_eq v80v2 (dxf_sound t80v2 ok80v2 (by kernel_rfl))
noncomputable def T81 (F63:Y6):List FEnt:=[⟨63,sh63,F63⟩]
theorem t81:DTblOK Tryz.prog (T81 P63):=(DTbl_cons' d63 (by kernel_rfl) DTbl_nil)
def h81_0:LSh:=⟨[1,10,11,12],⟨[(.v y13),(.v y35),(.v y13),(.v y13)],[]⟩,[y13,y35,y13,y13],0,[]⟩
def x81_0:List XSh:=[⟨.ret,[4],⟨⟨[(.v y13)],[]⟩,[y13],[],0⟩⟩,⟨(.exit 0),[1],⟨⟨[(.v y13)],[]⟩,[y13],[],0⟩⟩]
noncomputable def c81:=anF Tryz.prog [] Tryz.f81 (.s .n (.s (.s .n (.b (.l h81_0 x81_0 .n))) .n))
noncomputable def s81_0 (T:List FEnt):=dstep (xs:=x81_0) h81_0 (dxc T (sb [1,0,1,2,2] c81))
noncomputable def l81_0 (T:List FEnt):=whileF (s81_0 T)
noncomputable def q81_0 (F63:Y6)(a0:Int)(a1:List Y1)(a2 a3:Int):Option Y284:=
cond (decide (a3 < a2)) (
chk (inR a3 a1.length) (
(F63 (a0,(ix a1 a3).1,(ix a1 a3).2)).bind fun r1=>(
cond r1 (
chk (fits .i64 ((ix a1 a3).2+1)) (
some (Sum.inr (Sum.inl ((ix a1 a3).2+1))))) (
chk (fits .i64 (a3+1)) (
some (Sum.inl (a0,a1,a2,(a3+1)))))))) (
some (Sum.inr (Sum.inr a0)))
theorem g81_0 (F63:Y6)(a0:Int)(a1:List Y1)(a2 a3:Int):s81_0 (T81 F63) (a0,a1,a2,a3)=q81_0 F63 a0 a1 a2 a3:=by kernel_rfl
noncomputable def p81_0:=q81_0 P63
noncomputable def L81_0:Y280:=whileF (fun x=>p81_0 x.1 x.2.1 x.2.2.1 x.2.2.2)
theorem v81_0:l81_0 (T81 P63) =L81_0:=congrArg whileF (funext fun x=>(g81_0 P63 x.1 x.2.1 x.2.2.1 x.2.2.2))
theorem ok81:L.Fn Tryz.prog 81 27 [(.t 4)] (erase c81):=Fn.ofA hmix Tryz.func81 _ _ (by kernel_rfl)
def sh81:FSh:=⟨⟨[(.v (.opt y229) ),(.v y13)],[]⟩,[(.opt y229),y13],0,⟨⟨[(.v y13)],[]⟩,[y13],[],0⟩,true⟩
noncomputable def q81 (F63:Y6)(l81_0:Y280)(a0:Option Y181)(a1:Int):Option Int:=
chk (Option.isSome a0) (
(l81_0 (a1,(dof a0 (0,(0,(0,(0,(0,(false,([],(0,([],([],([],([],[]))))))))))))).2.2.2.2.2.2.2.2.2.2.2.2,(↑(List.length ((dof a0 (0,(0,(0,(0,(0,(false,([],(0,([],([],([],([],[]))))))))))))).2.2.2.2.2.2.2.2.2.2.2.2)):Int),0)).bind (fun y2=>Sum.elim (fun y3=>(
some y3)) (fun y4=>(
some y4)) y2))
theorem g81 (F63:Y6)(a0:Option Y181)(a1:Int):dxf (T81 F63) sh81 [(.t 4)] c81 (a0,a1)=q81 F63 (l81_0 (T81 F63)) a0 a1:=by kernel_rfl
noncomputable def p81:=q81 P63 L81_0
noncomputable def P81:Y299:=fun x=>p81 x.1 x.2
theorem v81:dxf (T81 P63) sh81 [(.t 4)] c81=P81:=funext fun x=>(g81 P63 x.1 x.2).trans (by rw[v81_0] <;> rfl)
theorem d81:DC Tryz.prog 81 sh81 P81:=DC_eq v81 (dxf_sound t81 ok81 (by kernel_rfl))
noncomputable def T46 (F47:Y286)(F45v1:Y287)(F80v2:Y298)(F81:Y299):List FEnt:=[⟨47,sh47,F47⟩,⟨45,sh45v1,F45v1⟩,⟨80,sh80v2,F80v2⟩,⟨81,sh81,F81⟩]
theorem t46:DTblOK Tryz.prog (T46 P47 P45v1 P80v2 P81):=(DTbl_cons' d47 (by kernel_rfl) (DTbl_cons' d45v1 (by kernel_rfl) (DTbl_cons' d80v2 (by kernel_rfl) (DTbl_cons' d81 (by kernel_rfl) DTbl_nil))))
noncomputable def c46:=anF Tryz.prog [(8,{ch:=[1,0,0,0,1,0,0,0,0,0,0,0,0,0,0,0],rs:=[2] })] Tryz.f46 .n
theorem ok46:L.Fn Tryz.prog 46 80 [(.t 4),(.t 5)] (erase c46):=Fn.ofA hmix Tryz.func46 _ _ (by kernel_rfl)
def sh46:FSh:=⟨⟨[(.v (.opt y229) ),(.v y13)],[]⟩,[(.opt y229),y13],0,⟨⟨[(.tup [(.v y13),(.v y13)])],[]⟩,[y13,y13],[],0⟩,true⟩
noncomputable def q46 (F47:Y286)(F45v1:Y287)(F80v2:Y298)(F81:Y299)(a0:Option Y181)(a1:Int):Option Y1:=
(F47 a0).bind fun r1=>(
cond (decide (0 < (↑r1.length:Int))) (
chk (inR 0 r1.length) (
some (1,(ix r1 0)))) (
chk (Option.isSome a0) (
cond ((dof a0 (0,(0,(0,(0,(0,(false,([],(0,([],([],([],([],[]))))))))))))).2.2.2.2.2.1) (
chk (Option.isSome a0) (
cond (decide ((↑(List.length ((dof a0 (0,(0,(0,(0,(0,(false,([],(0,([],([],([],([],[]))))))))))))).2.2.2.2.2.2.2.2.2.2.2.1)):Int)=0)) (
some (2,(-1))) (
chk (Option.isSome a0) (
cond ((dof a0 (0,(0,(0,(0,(0,(false,([],(0,([],([],([],([],[]))))))))))))).2.2.2.2.2.1) (
(F45v1 a0).bind fun r2=>(
cond (decide ((↑r2.length:Int)=0)) (
chk (Option.isSome a0) (
chk (Option.isSome a0) (
(F80v2 ((dof a0 (0,(0,(0,(0,(0,(false,([],(0,([],([],([],([],[]))))))))))))).2.2.2.2.2.2.2.2.1,a0)).bind fun r3=>(
chk (inR r3 (List.length ((dof a0 (0,(0,(0,(0,(0,(false,([],(0,([],([],([],([],[]))))))))))))).2.2.2.2.2.2.2.2.1))) (
some (3,(ix ((dof a0 (0,(0,(0,(0,(0,(false,([],(0,([],([],([],([],[]))))))))))))).2.2.2.2.2.2.2.2.1) r3))))))) (
(F81 (a0,a1)).bind fun r4=>(
chk (Option.isSome a0) (
chk (fits .i64 (a1+(dof a0 (0,(0,(0,(0,(0,(false,([],(0,([],([],([],([],[]))))))))))))).2.2.2.2.1)) (
cond (decide (r4 < (a1+(dof a0 (0,(0,(0,(0,(0,(false,([],(0,([],([],([],([],[]))))))))))))).2.2.2.2.1))) (
some (4,r4)) (
chk (Option.isSome a0) (
chk (fits .i64 (a1+(dof a0 (0,(0,(0,(0,(0,(false,([],(0,([],([],([],([],[]))))))))))))).2.2.2.2.1)) (
chk (fits .i64 ((a1+(dof a0 (0,(0,(0,(0,(0,(false,([],(0,([],([],([],([],[]))))))))))))).2.2.2.2.1)-1)) (
some (0,((a1+(dof a0 (0,(0,(0,(0,(0,(false,([],(0,([],([],([],([],[]))))))))))))).2.2.2.2.1)-1)))))))))))) (
(F81 (a0,a1)).bind fun r5=>(
chk (Option.isSome a0) (
chk (fits .i64 (a1+(dof a0 (0,(0,(0,(0,(0,(false,([],(0,([],([],([],([],[]))))))))))))).2.2.2.2.1)) (
cond (decide (r5 < (a1+(dof a0 (0,(0,(0,(0,(0,(false,([],(0,([],([],([],([],[]))))))))))))).2.2.2.2.1))) (
some (4,r5)) (
chk (Option.isSome a0) (
chk (fits .i64 (a1+(dof a0 (0,(0,(0,(0,(0,(false,([],(0,([],([],([],([],[]))))))))))))).2.2.2.2.1)) (
chk (fits .i64 ((a1+(dof a0 (0,(0,(0,(0,(0,(false,([],(0,([],([],([],([],[]))))))))))))).2.2.2.2.1)-1)) (
some (0,((a1+(dof a0 (0,(0,(0,(0,(0,(false,([],(0,([],([],([],([],[]))))))))))))).2.2.2.2.1)-1)))))))))))))) (
chk (Option.isSome a0) (
cond ((dof a0 (0,(0,(0,(0,(0,(false,([],(0,([],([],([],([],[]))))))))))))).2.2.2.2.2.1) (
(F45v1 a0).bind fun r6=>(
cond (decide ((↑r6.length:Int)=0)) (
chk (Option.isSome a0) (
chk (Option.isSome a0) (
(F80v2 ((dof a0 (0,(0,(0,(0,(0,(false,([],(0,([],([],([],([],[]))))))))))))).2.2.2.2.2.2.2.2.1,a0)).bind fun r7=>(
chk (inR r7 (List.length ((dof a0 (0,(0,(0,(0,(0,(false,([],(0,([],([],([],([],[]))))))))))))).2.2.2.2.2.2.2.2.1))) (
some (3,(ix ((dof a0 (0,(0,(0,(0,(0,(false,([],(0,([],([],([],([],[]))))))))))))).2.2.2.2.2.2.2.2.1) r7))))))) (
(F81 (a0,a1)).bind fun r8=>(
chk (Option.isSome a0) (
chk (fits .i64 (a1+(dof a0 (0,(0,(0,(0,(0,(false,([],(0,([],([],([],([],[]))))))))))))).2.2.2.2.1)) (
cond (decide (r8 < (a1+(dof a0 (0,(0,(0,(0,(0,(false,([],(0,([],([],([],([],[]))))))))))))).2.2.2.2.1))) (
some (4,r8)) (
chk (Option.isSome a0) (
chk (fits .i64 (a1+(dof a0 (0,(0,(0,(0,(0,(false,([],(0,([],([],([],([],[]))))))))))))).2.2.2.2.1)) (
chk (fits .i64 ((a1+(dof a0 (0,(0,(0,(0,(0,(false,([],(0,([],([],([],([],[]))))))))))))).2.2.2.2.1)-1)) (
some (0,((a1+(dof a0 (0,(0,(0,(0,(0,(false,([],(0,([],([],([],([],[]))))))))))))).2.2.2.2.1)-1)))))))))))) (
(F81 (a0,a1)).bind fun r9=>(
chk (Option.isSome a0) (
chk (fits .i64 (a1+(dof a0 (0,(0,(0,(0,(0,(false,([],(0,([],([],([],([],[]))))))))))))).2.2.2.2.1)) (
cond (decide (r9 < (a1+(dof a0 (0,(0,(0,(0,(0,(false,([],(0,([],([],([],([],[]))))))))))))).2.2.2.2.1))) (
some (4,r9)) (
chk (Option.isSome a0) (
chk (fits .i64 (a1+(dof a0 (0,(0,(0,(0,(0,(false,([],(0,([],([],([],([],[]))))))))))))).2.2.2.2.1)) (
chk (fits .i64 ((a1+(dof a0 (0,(0,(0,(0,(0,(false,([],(0,([],([],([],([],[]))))))))))))).2.2.2.2.1)-1)) (
some (0,((a1+(dof a0 (0,(0,(0,(0,(0,(false,([],(0,([],([],([],([],[]))))))))))))).2.2.2.2.1)-1)))))))))))))))
theorem g46 (F47:Y286)(F45v1:Y287)(F80v2:Y298)(F81:Y299)(a0:Option Y181)(a1:Int):dxf (T46 F47 F45v1 F80v2 F81) sh46 [(.t 4),(.t 5)] c46 (a0,a1)=q46 F47 F45v1 F80v2 F81 a0 a1:=by kernel_rfl
noncomputable def p46:=q46 P47 P45v1 P80v2 P81
noncomputable def P46:Y300:=fun x=>p46 x.1 x.2
theorem v46:dxf (T46 P47 P45v1 P80v2 P81) sh46 [(.t 4),(.t 5)] c46=P46:=funext fun x=>(g46 P47 P45v1 P80v2 P81 x.1 x.2)
theorem d46:DC Tryz.prog 46 sh46 P46:=DC_eq v46 (dxf_sound t46 ok46 (by kernel_rfl))
noncomputable def T17 (F43:Y311)(F46:Y300):List FEnt:=[⟨43,sh43,F43⟩,⟨46,sh46,F46⟩]
theorem t17:DTblOK Tryz.prog (T17 P43 P46):=(DTbl_cons' d43 (by kernel_rfl) (DTbl_cons' d46 (by kernel_rfl) DTbl_nil))
noncomputable def c17:=anF Tryz.prog [] Tryz.f17 .n
theorem ok17:L.Fn Tryz.prog 17 31 [(.t 8),(.t 9),(.t 10)] (erase c17):=Fn.ofA hmix Tryz.func17 _ _ (by kernel_rfl)
def sh17:FSh:=⟨⟨[(.st y91),(.v y13),(.v y13),(.v y13)],[]⟩,[y91,y13,y13,y13],0,⟨⟨[(.tup [(.v y13),(.v y13),(.v y13)])],[]⟩,[y13,y13,y13],[],0⟩,true⟩
noncomputable def q17 (F43:Y311)(F46:Y300)(a0:Y42)(a1 a2 a3:Int):Option Y274:=
(F43 (a0,a1,a2,a3)).bind fun r1=>(
cond (!decide (r1.2=0)) (
some (0,0,r1.2)) (
(F46 (r1.1,a3)).bind fun r2=>(
some (r2.1,r2.2,0))))
theorem g17 (F43:Y311)(F46:Y300)(a0:Y42)(a1 a2 a3:Int):dxf (T17 F43 F46) sh17 [(.t 8),(.t 9),(.t 10)] c17 (a0,a1,a2,a3)=q17 F43 F46 a0 a1 a2 a3:=by kernel_rfl
noncomputable def p17:=q17 P43 P46
noncomputable def P17:Y301:=fun x=>p17 x.1 x.2.1 x.2.2.1 x.2.2.2
theorem v17:dxf (T17 P43 P46) sh17 [(.t 8),(.t 9),(.t 10)] c17=P17:=funext fun x=>(g17 P43 P46 x.1 x.2.1 x.2.2.1 x.2.2.2)
theorem d17:DC Tryz.prog 17 sh17 P17:=DC_eq v17 (dxf_sound t17 ok17 (by kernel_rfl))
noncomputable def T44 (F46:Y300):List FEnt:=[⟨46,sh46,F46⟩]
theorem t44:DTblOK Tryz.prog (T44 P46):=(DTbl_cons' d46 (by kernel_rfl) DTbl_nil)
noncomputable def c44:=anF Tryz.prog [] Tryz.f44 .n
theorem ok44:L.Fn Tryz.prog 44 15 [(.t 4)] (erase c44):=Fn.ofA hmix Tryz.func44 _ _ (by kernel_rfl)
def sh44:FSh:=⟨⟨[(.v (.opt y229) ),(.v y13)],[]⟩,[(.opt y229),y13],0,⟨⟨[(.v .bool)],[]⟩,[.bool],[],0⟩,true⟩
noncomputable def q44 (F46:Y300)(a0:Option Y181)(a1:Int):Option Bool:=
(F46 (a0,a1)).bind fun r1=>(
some (decide (r1.1=0)))
theorem g44 (F46:Y300)(a0:Option Y181)(a1:Int):dxf (T44 F46) sh44 [(.t 4)] c44 (a0,a1)=q44 F46 a0 a1:=by kernel_rfl
noncomputable def p44:=q44 P46
noncomputable def P44:Y302:=fun x=>p44 x.1 x.2
theorem v44:dxf (T44 P46) sh44 [(.t 4)] c44=P44:=funext fun x=>(g44 P46 x.1 x.2)
theorem d44:DC Tryz.prog 44 sh44 P44:=DC_eq v44 (dxf_sound t44 ok44 (by kernel_rfl))
end Go.Proofs.YtdacabdocbhkdaaGreat.D
