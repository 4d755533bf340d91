/- Cut down from a longer text. -/
import Derived.Test.YtdacabdocbhkdaaGreatG4m
import Derived.Test.YtdacabdocbhkdaaGreatProg
set_option linter.unusedVariables false
set_option maxRecDepth 100000
namespace Go.Proofs.YtdacabdocbhkdaaGreat.D
open Go Go.Proofs L
noncomputable def T16 (F43:Y311)(F44:Y302)(F45v1:Y287):List FEnt:=[⟨43,sh43,F43⟩,⟨44,sh44,F44⟩,⟨45,sh45v1,F45v1⟩]
theorem t16:DTblOK Tryz.prog (T16 P43 P44 P45v1):=(DTbl_cons' d43 (by kernel_rfl) (DTbl_cons' d44 (by kernel_rfl) (DTbl_cons' d45v1 (by kernel_rfl) DTbl_nil)))
def h16_1:LSh:=⟨[3,10,12,13,14,51,52,53],⟨[(.v y13),(.v (.opt y229)),(.v y13),(.v y13),(.v y13),(.slc 0),(.v y13),(.v y13)],[(0,(.row 55 y24))]⟩,[y13,(.opt y229),y13,y13,y13,y13,y13,y35],1,[0]⟩
def x16_1:List XSh:=[⟨(.exit 2),[3,10,12,14],⟨⟨[(.v y13),(.v (.opt y229)),(.v y13),(.v y13)],[(0,(.row 55 y24))]⟩,[y13,(.opt y229),y13,y13,y35],[0],1⟩⟩]
def h16_0:LSh:=⟨[3,10,12,13],⟨[(.v y13),(.v (.opt y229)),(.v y13),(.v y13)],[]⟩,[y13,(.opt y229),y13,y13],0,[]⟩
def x16_0:List XSh:=[⟨(.exit 0),[12],⟨⟨[(.v y13)],[]⟩,[y13],[],0⟩⟩]
noncomputable def c16:=anF Tryz.prog [] Tryz.f16 (.s .n (.s .n (.s .n (.s .n (.s .n (.s (.b (.l h16_0 x16_0 (.s .n (.b (.s .n (.s (.s .n (.b (.l h16_1 x16_1 .n))) .n)))))) .n))))))
noncomputable def s16_1 (T:List FEnt):=dstep (xs:=x16_1) h16_1 (dxc T (sb [1,1,1,1,1,0,2,2,1,2,1,0,1,2,2] c16))
noncomputable def l16_1 (T:List FEnt):=whileF (s16_1 T)
noncomputable def q16_1 (F43:Y311)(F44:Y302)(F45v1:Y287)(a0:Int)(a1:Option Y181)(a2 a3 a4 a5 a6:Int)(a7:List Y1):Option Y372:=
cond (decide (a6 < a5)) (
chk (inR a6 a7.length) (
cond (decide ((ix a7 a6).1≤a3)) (
chk (fits .i64 ((ix a7 a6).2+1)) (
chk (fits .i64 (a6+1)) (
some (Sum.inl (a0,a1,a2,a3,(max a4 ((ix a7 a6).2+1)),a5,(a6+1),a7))))) (
chk (fits .i64 (a6+1)) (
some (Sum.inl (a0,a1,a2,a3,a4,a5,(a6+1),a7)))))) (
some (Sum.inr (a0,a1,a2,a4,a7)))
theorem g16_1 (F43:Y311)(F44:Y302)(F45v1:Y287)(a0:Int)(a1:Option Y181)(a2 a3 a4 a5 a6:Int)(a7:List Y1):s16_1 (T16 F43 F44 F45v1) (a0,a1,a2,a3,a4,a5,a6,a7)=q16_1 F43 F44 F45v1 a0 a1 a2 a3 a4 a5 a6 a7:=by kernel_rfl
noncomputable def p16_1:=q16_1 P43 P44 P45v1
noncomputable def L16_1:Y368:=whileF (fun x=>p16_1 x.1 x.2.1 x.2.2.1 x.2.2.2.1 x.2.2.2.2.1 x.2.2.2.2.2.1 x.2.2.2.2.2.2.1 x.2.2.2.2.2.2.2)
theorem v16_1:l16_1 (T16 P43 P44 P45v1) =L16_1:=congrArg whileF (funext fun x=>(g16_1 P43 P44 P45v1 x.1 x.2.1 x.2.2.1 x.2.2.2.1 x.2.2.2.2.1 x.2.2.2.2.2.1 x.2.2.2.2.2.2.1 x.2.2.2.2.2.2.2))
noncomputable def s16_0 (T:List FEnt):=dstep (xs:=x16_0) h16_0 (dxc T (sb [1,1,1,1,1,0,2,2] c16))
noncomputable def l16_0 (T:List FEnt):=whileF (s16_0 T)
noncomputable def q16_0 (F43:Y311)(F44:Y302)(F45v1:Y287)(l16_1:Y368)(a0:Int)(a1:Option Y181)(a2 a3:Int):Option Y373:=
chk (Option.isSome a1) (
cond ((dof a1 (0,(0,(0,(0,(0,(false,([],(0,([],([],([],([],[]))))))))))))).2.2.2.2.2.1) (
chk (Option.isSome a1) (
chk (fits .i64 (a0+(dof a1 (0,(0,(0,(0,(0,(false,([],(0,([],([],([],([],[]))))))))))))).2.2.2.2.1)) (
cond (decide (a3 < (a0+(dof a1 (0,(0,(0,(0,(0,(false,([],(0,([],([],([],([],[]))))))))))))).2.2.2.2.1))) (
(F45v1 a1).bind fun r3=>(
(l16_1 (a0,a1,a2,a3,a3,(↑r3.length:Int),0,r3)).bind fun y4=>(
chk (fits .i64 (y4.2.2.1+1)) (
some (Sum.inl (y4.1,y4.2.1,(y4.2.2.1+1),y4.2.2.2.1)))))) (
some (Sum.inr a2))))) (
some (Sum.inr a2)))
theorem g16_0 (F43:Y311)(F44:Y302)(F45v1:Y287)(a0:Int)(a1:Option Y181)(a2 a3:Int):s16_0 (T16 F43 F44 F45v1) (a0,a1,a2,a3)=q16_0 F43 F44 F45v1 (l16_1 (T16 F43 F44 F45v1)) a0 a1 a2 a3:=by kernel_rfl
noncomputable def p16_0:=q16_0 P43 P44 P45v1 L16_1
noncomputable def L16_0:Y354:=whileF (fun x=>p16_0 x.1 x.2.1 x.2.2.1 x.2.2.2)
theorem v16_0:l16_0 (T16 P43 P44 P45v1) =L16_0:=congrArg whileF (funext fun x=>(g16_0 P43 P44 P45v1 x.1 x.2.1 x.2.2.1 x.2.2.2).trans (by rw[v16_1] <;> rfl))
theorem ok16:L.Fn Tryz.prog 16 71 [(.t 8),(.t 9)] (erase c16):=Fn.ofA hmix Tryz.func16 _ _ (by kernel_rfl)
def sh16:FSh:=⟨⟨[(.st y91),(.v y13),(.v y13),(.v y13)],[]⟩,[y91,y13,y13,y13],0,⟨⟨[(.tup [(.v y13),(.v y13)])],[]⟩,[y13,y13],[],0⟩,true⟩
noncomputable def q16 (F43:Y311)(F44:Y302)(F45v1:Y287)(l16_0:Y354)(a0:Y42)(a1 a2 a3:Int):Option Y1:=
(F43 (a0,a1,a2,a3)).bind fun r1=>(
cond (!decide (r1.2=0)) (
some (0,r1.2)) (
(F44 (r1.1,a3)).bind fun r2=>(
cond (!r2) (
some (0,3)) (
(l16_0 (a3,r1.1,0,a3)).bind fun y5=>(
some (y5,0))))))
theorem g16 (F43:Y311)(F44:Y302)(F45v1:Y287)(a0:Y42)(a1 a2 a3:Int):dxf (T16 F43 F44 F45v1) sh16 [(.t 8),(.t 9)] c16 (a0,a1,a2,a3)=q16 F43 F44 F45v1 (l16_0 (T16 F43 F44 F45v1)) a0 a1 a2 a3:=by kernel_rfl
noncomputable def p16:=q16 P43 P44 P45v1 L16_0
noncomputable def P16:Y356:=fun x=>p16 x.1 x.2.1 x.2.2.1 x.2.2.2
theorem v16:dxf (T16 P43 P44 P45v1) sh16 [(.t 8),(.t 9)] c16=P16:=funext fun x=>(g16 P43 P44 P45v1 x.1 x.2.1 x.2.2.1 x.2.2.2).trans (by rw[v16_0] <;> rfl)
theorem d16:DC Tryz.prog 16 sh16 P16:=DC_eq v16 (dxf_sound t16 ok16 (by kernel_rfl))
noncomputable def T22 (F43:Y311)(F47:Y286):List FEnt:=[⟨43,sh43,F43⟩,⟨47,sh47,F47⟩]
theorem t22:DTblOK Tryz.prog (T22 P43 P47):=(DTbl_cons' d43 (by kernel_rfl) (DTbl_cons' d47 (by kernel_rfl) DTbl_nil))
noncomputable def c22:=anF Tryz.prog [] Tryz.f22 .n
theorem ok22:L.Fn Tryz.prog 22 22 [(.t 6),(.t 7)] (erase c22):=Fn.ofA hmix Tryz.func22 _ _ (by kernel_rfl)
def sh22:FSh:=⟨⟨[(.st y91),(.v y13),(.v y13)],[]⟩,[y91,y13,y13],0,⟨⟨[(.tup [(.slc 0),(.v y13)])],[(0,(.row 3 y13))]⟩,[y13,y25],[],1⟩,true⟩
noncomputable def q22 (F43:Y311)(F47:Y286)(a0:Y42)(a1 a2:Int):Option Y327:=
(F43 (a0,a1,a2,0)).bind fun r1=>(
cond (!decide (r1.2=0)) (
some (r1.2,([]:List Int))) (
(F47 r1.1).bind fun r2=>(
some (0,r2))))
theorem g22 (F43:Y311)(F47:Y286)(a0:Y42)(a1 a2:Int):dxf (T22 F43 F47) sh22 [(.t 6),(.t 7)] c22 (a0,a1,a2)=q22 F43 F47 a0 a1 a2:=by kernel_rfl
noncomputable def p22:=q22 P43 P47
noncomputable def P22:Y357:=fun x=>p22 x.1 x.2.1 x.2.2
theorem v22:dxf (T22 P43 P47) sh22 [(.t 6),(.t 7)] c22=P22:=funext fun x=>(g22 P43 P47 x.1 x.2.1 x.2.2)
theorem d22:DC Tryz.prog 22 sh22 P22:=DC_eq v22 (dxf_sound t22 ok22 (by kernel_rfl))
noncomputable def T31:List FEnt:=[]
theorem t31:DTblOK Tryz.prog T31:=DTbl_nil
def h31_0:LSh:=⟨[0,1,5],⟨[(.v y25),(.v y25),(.v y13)],[]⟩,[y25,y25,y13],0,[]⟩
noncomputable def c31:=anF Tryz.prog [] Tryz.f31 (.s .n (.s .n (.s (.s .n (.b (.l h31_0 x125_0 .n))) .n)))
noncomputable def s31_0 (T:List FEnt):=dstep (xs:=x125_0) h31_0 (dxc T (sb [1,1,0,1,2,2] c31))
noncomputable def l31_0 (T:List FEnt):=whileF (s31_0 T)
noncomputable def q31_0 (a0 a1:List Int)(a2:Int):Option Y336:=
cond (decide (a2 < (↑a0.length:Int))) (
chk (inR a2 a0.length) (
chk (inR a2 a1.length) (
cond (!decide ((ix a0 a2)=(ix a1 a2))) (
some (Sum.inr (Sum.inl false))) (
chk (fits .i64 (a2+1)) (
some (Sum.inl (a0,a1,(a2+1)))))))) (
some (Sum.inr (Sum.inr ())))
theorem g31_0 (a0 a1:List Int)(a2:Int):s31_0 T31 (a0,a1,a2)=q31_0 a0 a1 a2:=by kernel_rfl
noncomputable def p31_0:=q31_0
noncomputable def L31_0:Y322:=whileF (fun x=>p31_0 x.1 x.2.1 x.2.2)
theorem v31_0:l31_0 T31=L31_0:=congrArg whileF (funext fun x=>(g31_0 x.1 x.2.1 x.2.2))
theorem ok31:L.Fn Tryz.prog 31 26 [(.t 4)] (erase c31):=Fn.ofA hmix Tryz.func31 _ _ (by kernel_rfl)
def sh31:FSh:=⟨⟨[(.v y25),(.v y25)],[]⟩,[y25,y25],0,⟨⟨[(.v .bool)],[]⟩,[.bool],[],0⟩,true⟩
noncomputable def q31 (l31_0:Y322)(a0 a1:List Int):Option Bool:=
cond (!decide ((↑a0.length:Int)=(↑a1.length:Int))) (
some false) (
(l31_0 (a0,a1,0)).bind (fun y1=>Sum.elim (fun y2=>(
some y2)) (fun y3=>(
some true)) y1))
theorem g31 (a0 a1:List Int):dxf T31 sh31 [(.t 4)] c31 (a0,a1)=q31 (l31_0 T31) a0 a1:=by kernel_rfl
noncomputable def p31:=q31 L31_0
noncomputable def P31:Y94:=fun x=>p31 x.1 x.2
theorem v31:dxf T31 sh31 [(.t 4)] c31=P31:=funext fun x=>(g31 x.1 x.2).trans (by rw[v31_0] <;> rfl)
theorem d31:DC Tryz.prog 31 sh31 P31:=DC_eq v31 (dxf_sound t31 ok31 (by kernel_rfl))
noncomputable def T15 (F42:Y60)(F17:Y301)(F16:Y356)(F22:Y357)(F31:Y94):List FEnt:=[⟨42,sh42,F42⟩,⟨17,sh17,F17⟩,⟨16,sh16,F16⟩,⟨22,sh22,F22⟩,⟨31,sh31,F31⟩]
theorem t15:DTblOK Tryz.prog (T15 P42 P17 P16 P22 P31):=(DTbl_cons' d42 (by kernel_rfl) (DTbl_cons' d17 (by kernel_rfl) (DTbl_cons' d16 (by kernel_rfl) (DTbl_cons' d22 (by kernel_rfl) (DTbl_cons' d31 (by kernel_rfl) DTbl_nil)))))
noncomputable def c15:=anF Tryz.prog [] Tryz.f15 (.s .n (.s .n (.s .n (.s .n (.s .n (.s (.r [.a 24 false y13]) .n))))))
theorem ok15:L.Fn Tryz.prog 15 53 [(.t 0)] (erase c15):=Fn.ofA hmix Tryz.func15 _ _ (by kernel_rfl)
def sh15:FSh:=⟨⟨[],[]⟩,[],0,⟨⟨[(.v .bool)],[]⟩,[.bool],[],0⟩,true⟩
noncomputable def q15 (F42:Y60)(F17:Y301)(F16:Y356)(F22:Y357)(F31:Y94):Option Bool:=
(F42 ()).bind fun r1=>(
(F17 ((r1.1,(r1.2.1,(r1.2.2.1,(r1.2.2.2,([]:List Int))))),7,1,302)).bind fun r2=>(
(F16 ((r1.1,(r1.2.1,(r1.2.2.1,(r1.2.2.2,([]:List Int))))),7,1,200)).bind fun r3=>(
(F22 ((r1.1,(r1.2.1,(r1.2.2.1,(r1.2.2.2,([]:List Int))))),8,1)).bind fun r4=>(
cond (decide (r2.2.2=0)) (
cond (decide (r3.2=0)) (
cond (decide (r4.1=0)) (
cond (decide (r2.1=4)) (
cond (decide (r2.2.1=401)) (
cond (decide (r3.1=2)) (
(F31 (r4.2,([3]:List Int))).bind fun r5=>(
some r5)) (
some false)) (
some false)) (
some false)) (
some false)) (
some false)) (
some false)))))
theorem g15 (F42:Y60)(F17:Y301)(F16:Y356)(F22:Y357)(F31:Y94):dxf (T15 F42 F17 F16 F22 F31) sh15 [(.t 0)] c15 ()=q15 F42 F17 F16 F22 F31:=by kernel_rfl
noncomputable def p15:Option Bool:=q15 P42 P17 P16 P22 P31
noncomputable def P15:Y323:=fun x=>p15
theorem v15:dxf (T15 P42 P17 P16 P22 P31) sh15 [(.t 0)] c15=P15:=funext fun x=>(g15 P42 P17 P16 P22 P31)
theorem d15:DC Tryz.prog 15 sh15 P15:=DC_eq v15 (dxf_sound t15 ok15 (by kernel_rfl))
noncomputable def T39:List FEnt:=[]
theorem t39:DTblOK Tryz.prog T39:=DTbl_nil
noncomputable def c39:=anF Tryz.prog [] Tryz.f39 (.s .n (.s (.r [.a 0 false y13,.a 3 false y13]) (.s (.r [.f 2 6 []]) .n)))
theorem ok39:L.Fn Tryz.prog 39 9 [(.cell 2 true 5)] (erase c39):=Fn.ofA hmix Tryz.func39 _ _ (by kernel_rfl)
def sh39:FSh:=⟨⟨[(.st y68)],[]⟩,[y68],0,⟨⟨[(.st y68)],[]⟩,[y68],[],0⟩,false⟩
noncomputable def q39 (a0:Y15):Option Y15:=
chk (capOk 8 (List.length ([]:List Int)+List.length a0.2.2.1)) (
some (a0.1,(a0.2.1,((([]:List Int)++a0.2.2.1),a0.2.2.2))))
theorem g39 (a0:Y15):dxf T39 sh39 [(.cell 2 true 5)] c39 a0=q39 a0:=by kernel_rfl
noncomputable def p39:=q39
noncomputable def P39:Y330:=fun x=>p39 x
theorem v39:dxf T39 sh39 [(.cell 2 true 5)] c39=P39:=funext fun x=>(g39 x)
theorem d39:DC Tryz.prog 39 sh39 P39:=DC_eq v39 (dxf_sound t39 ok39 (by kernel_rfl))
noncomputable def T25 (F39:Y330):List FEnt:=[⟨39,sh39,F39⟩]
theorem t25:DTblOK Tryz.prog (T25 P39):=(DTbl_cons' d39 (by kernel_rfl) DTbl_nil)
def h25_0:LSh:=⟨[1,2,3,4],⟨[(.ptr 0 0),(.ptr 1 0),(.ptr 2 0),(.v y13)],[(0,(.boxT y91)),(1,(.box [.emp,.emp,.emp,.emp,.emp])),(2,(.box [(.slc 3),(.slc 4),.emp,.emp,(.slc 5)])),(3,(.row 64 y24)),(4,(.row 42 y87)),(5,(.row 3 y13))]⟩,[y13,y91,y35,y89,y25],6,[0,1,2,3,5]⟩
def x25_0:List XSh:=[⟨(.exit 0),[1,2,3],⟨⟨[(.ptr 0 0),(.ptr 1 0),(.ptr 2 0)],[(0,(.boxT y91)),(1,(.box [.emp,.emp,.emp,.emp,.emp])),(2,(.box [(.slc 3),(.slc 6),.emp,.emp,(.slc 5)])),(3,(.row 64 y24)),(5,(.row 3 y13)),(6,(.row 42 y87))]⟩,[y91,y35,y25,y89],[0,1,2,3,5],7⟩⟩]
def h25_1:LSh:=⟨[1,2,3,6],⟨[(.ptr 0 0),(.ptr 1 0),(.ptr 2 0),(.v y13)],[(0,(.boxT y91)),(1,(.box [.emp,.emp,.emp,.emp,.emp])),(2,(.box [(.slc 3),(.slc 4),(.slc 5),.emp,(.slc 6)])),(3,(.row 64 y24)),(4,(.row 42 y87)),(5,(.row 46 y67)),(6,(.row 3 y13))]⟩,[y13,y91,y35,y89,y77,y25],7,[0,1,2,3,4,6]⟩
def x25_1:List XSh:=[⟨(.exit 2),[1,2,3],⟨⟨[(.ptr 0 0),(.ptr 1 0),(.ptr 2 0)],[(0,(.boxT y91)),(1,(.box [.emp,.emp,.emp,.emp,.emp])),(2,(.box [(.slc 3),(.slc 4),(.slc 7),.emp,(.slc 6)])),(3,(.row 64 y24)),(4,(.row 42 y87)),(6,(.row 3 y13)),(7,(.row 46 y67))]⟩,[y91,y35,y89,y25,y77],[0,1,2,3,4,6],8⟩⟩]
def h25_2:LSh:=⟨[1,2,3,8],⟨[(.ptr 0 0),(.ptr 1 0),(.ptr 2 0),(.v y13)],[(0,(.boxT y91)),(1,(.box [.emp,.emp,.emp,.emp,.emp])),(2,(.box [(.slc 3),(.slc 4),(.slc 5),(.slc 6),(.slc 7)])),(3,(.row 64 y24)),(4,(.row 42 y87)),(5,(.row 46 y67)),(6,(.row 59 y68)),(7,(.row 3 y13))]⟩,[y13,y91,y35,y89,y77,y78,y25],8,[0,1,2,3,4,5,7]⟩
def x25_2:List XSh:=[⟨(.exit 4),[2,3],⟨⟨[(.ptr 1 0),(.ptr 2 0)],[(0,(.boxT y91)),(1,(.box [.emp,.emp,.emp,.emp,.emp])),(2,(.box [(.slc 3),(.slc 4),(.slc 5),(.slc 8),(.slc 7)])),(3,(.row 64 y24)),(4,(.row 42 y87)),(5,(.row 46 y67)),(7,(.row 3 y13)),(8,(.row 59 y68))]⟩,[y91,y35,y89,y77,y25,y78],[0,1,2,3,4,5,7],9⟩⟩]
noncomputable def c25:=anF Tryz.prog [(1,{ch:=[1,0,1,0,1,0,1,0,0,0,0],rs:=[1],ord:=[0,1,2,4,5,6,3,7,8,9,10] }),(12,{ch:=[1,0,0,0,1,0,1,0,0,1,0,1],rs:=[7],ord:=[0,1,2,4,5,6,3,8,7,9,10,11] }),(17,{ch:=[0,1,0,0,0,0,0,0,1,0,0,1],rs:=[3] })] Tryz.f25 (.s .n (.s (.r [.a 6 true y24,.a 7 false y13]) (.s (.s .n (.b (.l h25_0 x25_0 (.s .n (.s (.b (.s .n (.s (.r [.a 0 false y13,.a 3 false y13]) (.r [.f 3 33 [],.a 3 true y87,.a 4 true y87])))) .n))))) (.s (.s .n (.b (.l h25_1 x25_1 (.s .n (.s (.b (.s .n (.s (.r [.a 6 false y13,.a 8 true y24]) (.r [.f 3 56 [],.f 3 60 [],.a 3 true y67,.a 4 true y67])))) .n))))) (.s (.s .n (.b (.l h25_2 x25_2 (.s .n (.s (.b (.r [.a 8 true y68,.a 9 true y68])) .n))))) .n)))))
noncomputable def s25_0 (T:List FEnt):=dstep (xs:=x25_0) h25_0 (dxc T (sb [1,1,0,1,2,2] c25))
noncomputable def l25_0 (T:List FEnt):=whileF (s25_0 T)
noncomputable def q25_0 (F39:Y330)(a0:Int)(a1:Y42)(a2:List Y1)(a3:List Y12)(a4:List Int):Option Y374:=
cond (decide (a0 < (↑a1.2.1.length:Int))) (
chk (inR a0 a1.2.1.length) (
chk (capOk 8 (List.length ([]:List Int)+List.length ((ix a1.2.1 a0).2.2.2.2.2.2))) (
chk (capOk 72 (List.length a3+List.length ([((ix a1.2.1 a0).1,((ix a1.2.1 a0).2.1,((ix a1.2.1 a0).2.2.1,((ix a1.2.1 a0).2.2.2.1,((ix a1.2.1 a0).2.2.2.2.1,((ix a1.2.1 a0).2.2.2.2.2.1,(([]:List Int)++(ix a1.2.1 a0).2.2.2.2.2.2)))))))]:List Y12))) (
chk (fits .i64 (a0+1)) (
some (Sum.inl ((a0+1),a1,a2,(a3++([((ix a1.2.1 a0).1,((ix a1.2.1 a0).2.1,((ix a1.2.1 a0).2.2.1,((ix a1.2.1 a0).2.2.2.1,((ix a1.2.1 a0).2.2.2.2.1,((ix a1.2.1 a0).2.2.2.2.2.1,(([]:List Int)++(ix a1.2.1 a0).2.2.2.2.2.2)))))))]:List Y12)),a4))))))) (
some (Sum.inr (a1,a2,a4,a3)))
theorem g25_0 (F39:Y330)(a0:Int)(a1:Y42)(a2:List Y1)(a3:List Y12)(a4:List Int):s25_0 (T25 F39) (a0,a1,a2,a3,a4)=q25_0 F39 a0 a1 a2 a3 a4:=by kernel_rfl
noncomputable def p25_0:=q25_0 P39
noncomputable def L25_0:Y369:=whileF (fun x=>p25_0 x.1 x.2.1 x.2.2.1 x.2.2.2.1 x.2.2.2.2)
theorem v25_0:l25_0 (T25 P39) =L25_0:=congrArg whileF (funext fun x=>(g25_0 P39 x.1 x.2.1 x.2.2.1 x.2.2.2.1 x.2.2.2.2))
noncomputable def s25_1 (T:List FEnt):=dstep (xs:=x25_1) h25_1 (dxc T (sb [1,1,1,0,1,2,2] c25))
noncomputable def l25_1 (T:List FEnt):=whileF (s25_1 T)
noncomputable def q25_1 (F39:Y330)(a0:Int)(a1:Y42)(a2:List Y1)(a3:List Y12)(a4:List Y22)(a5:List Int):Option Y375:=
cond (decide (a0 < (↑a1.2.2.1.length:Int))) (
chk (inR a0 a1.2.2.1.length) (
chk (capOk 8 (List.length ((ix a1.2.2.1 a0).2.1))) (
chk (capOk 16 (List.length ((ix a1.2.2.1 a0).2.2))) (
chk (capOk 56 (List.length a4+List.length ([(ix a1.2.2.1 a0)]:List Y22))) (
chk (fits .i64 (a0+1)) (
some (Sum.inl ((a0+1),a1,a2,a3,(a4++([(ix a1.2.2.1 a0)]:List Y22)),a5)))))))) (
some (Sum.inr (a1,a2,a3,a5,a4)))
theorem g25_1 (F39:Y330)(a0:Int)(a1:Y42)(a2:List Y1)(a3:List Y12)(a4:List Y22)(a5:List Int):s25_1 (T25 F39) (a0,a1,a2,a3,a4,a5)=q25_1 F39 a0 a1 a2 a3 a4 a5:=by kernel_rfl
noncomputable def p25_1:=q25_1 P39
noncomputable def L25_1:Y370:=whileF (fun x=>p25_1 x.1 x.2.1 x.2.2.1 x.2.2.2.1 x.2.2.2.2.1 x.2.2.2.2.2)
theorem v25_1:l25_1 (T25 P39) =L25_1:=congrArg whileF (funext fun x=>(g25_1 P39 x.1 x.2.1 x.2.2.1 x.2.2.2.1 x.2.2.2.2.1 x.2.2.2.2.2))
noncomputable def s25_2 (T:List FEnt):=dstep (xs:=x25_2) h25_2 (dxc T (sb [1,1,1,1,0,1,2,2] c25))
noncomputable def l25_2 (T:List FEnt):=whileF (s25_2 T)
noncomputable def q25_2 (F39:Y330)(a0:Int)(a1:Y42)(a2:List Y1)(a3:List Y12)(a4:List Y22)(a5:List Y15)(a6:List Int):Option Y376:=
cond (decide (a0 < (↑a1.2.2.2.1.length:Int))) (
chk (inR a0 a1.2.2.2.1.length) (
(F39 (ix a1.2.2.2.1 a0)).bind fun r3=>(
chk (capOk 56 (List.length a5+List.length ([r3]:List Y15))) (
chk (fits .i64 (a0+1)) (
some (Sum.inl ((a0+1),a1,a2,a3,a4,(a5++([r3]:List Y15)),a6))))))) (
some (Sum.inr (a1,a2,a3,a4,a6,a5)))
theorem g25_2 (F39:Y330)(a0:Int)(a1:Y42)(a2:List Y1)(a3:List Y12)(a4:List Y22)(a5:List Y15)(a6:List Int):s25_2 (T25 F39) (a0,a1,a2,a3,a4,a5,a6)=q25_2 F39 a0 a1 a2 a3 a4 a5 a6:=by kernel_rfl
noncomputable def p25_2:=q25_2 P39
noncomputable def L25_2:Y371:=whileF (fun x=>p25_2 x.1 x.2.1 x.2.2.1 x.2.2.2.1 x.2.2.2.2.1 x.2.2.2.2.2.1 x.2.2.2.2.2.2)
theorem v25_2:l25_2 (T25 P39) =L25_2:=congrArg whileF (funext fun x=>(g25_2 P39 x.1 x.2.1 x.2.2.1 x.2.2.2.1 x.2.2.2.2.1 x.2.2.2.2.2.1 x.2.2.2.2.2.2))
theorem ok25:L.Fn Tryz.prog 25 88 [(.cell 2 true 5)] (erase c25):=Fn.ofA hmix Tryz.func25 _ _ (by kernel_rfl)
def sh25:FSh:=⟨⟨[(.st y91)],[]⟩,[y91],0,⟨⟨[(.agg [(.slc 0),(.slc 1),(.slc 2),(.slc 3),(.slc 4)])],[(0,(.row 64 y24)),(1,(.row 42 y87)),(2,(.row 46 y67)),(3,(.row 59 y68)),(4,(.row 3 y13))]⟩,[y35,y89,y77,y78,y25],[],5⟩,false⟩
noncomputable def q25 (F39:Y330)(l25_0:Y369)(l25_1:Y370)(l25_2:Y371)(a0:Y42):Option Y42:=
chk (capOk 16 a0.1.length) (
chk (capOk 8 a0.2.2.2.2.length) (
(l25_0 (0,a0,a0.1,([]:List Y12),a0.2.2.2.2)).bind fun y1=>(
(l25_1 (0,y1.1,y1.2.1,y1.2.2.2,([]:List Y22),y1.2.2.1)).bind fun y2=>(
(l25_2 (0,y2.1,y2.2.1,y2.2.2.1,y2.2.2.2.2,([]:List Y15),y2.2.2.2.1)).bind fun y4=>(
some (y4.2.1,y4.2.2.1,y4.2.2.2.1,y4.2.2.2.2.2,y4.2.2.2.2.1))))))
theorem g25 (F39:Y330)(a0:Y42):dxf (T25 F39) sh25 [(.cell 2 true 5)] c25 a0=q25 F39 (l25_0 (T25 F39)) (l25_1 (T25 F39)) (l25_2 (T25 F39)) a0:=by kernel_rfl
noncomputable def p25:=q25 P39 L25_0 L25_1 L25_2
noncomputable def P25:Y361:=fun x=>p25 x
theorem v25:dxf (T25 P39) sh25 [(.cell 2 true 5)] c25=P25:=funext fun x=>(g25 P39 x).trans (by rw[v25_0,v25_1,v25_2] <;> rfl)
theorem d25:DC Tryz.prog 25 sh25 P25:=DC_eq v25 (dxf_sound t25 ok25 (by kernel_rfl))
noncomputable def T67:List FEnt:=[]
theorem t67:DTblOK Tryz.prog T67:=DTbl_nil
noncomputable def c67:=anF Tryz.prog [] Tryz.f67 .n
theorem ok67:L.Fn Tryz.prog 67 15 [(.t 6)] (erase c67):=Fn.ofA hmix Tryz.func67 _ _ (by kernel_rfl)
def sh67:FSh:=⟨⟨[(.v y13),(.v y13),(.v y13)],[]⟩,[y13,y13,y13],0,⟨⟨[(.v .bool)],[]⟩,[.bool],[],0⟩,true⟩
noncomputable def q67 (a0 a1 a2:Int):Option Bool:=
cond (decide (a1≤a0)) (
some (decide (a0≤a2))) (
some false)
theorem g67 (a0 a1 a2:Int):dxf T67 sh67 [(.t 6)] c67 (a0,a1,a2)=q67 a0 a1 a2:=by kernel_rfl
noncomputable def p67:=q67
noncomputable def P67:Y6:=fun x=>p67 x.1 x.2.1 x.2.2
theorem v67:dxf T67 sh67 [(.t 6)] c67=P67:=funext fun x=>(g67 x.1 x.2.1 x.2.2)
theorem d67:DC Tryz.prog 67 sh67 P67:=DC_eq v67 (dxf_sound t67 ok67 (by kernel_rfl))
noncomputable def T83 (F67:Y6):List FEnt:=[⟨67,sh67,F67⟩]
theorem t83:DTblOK Tryz.prog (T83 P67):=(DTbl_cons' d67 (by kernel_rfl) DTbl_nil)
def h83_1:LSh:=⟨[0,3,4,24],⟨[(.v y35),(.v y13),(.v y13),(.v .bool)],[]⟩,[y35,y13,y13,.bool],0,[]⟩
def x83_1:List XSh:=[⟨.ret,[2],⟨⟨[(.v .bool)],[]⟩,[.bool],[],0⟩⟩,⟨(.exit 2),[0,3,24],⟨⟨[(.v y35),(.v y13),(.v .bool)],[]⟩,[y35,y13,.bool],[],0⟩⟩]
def h83_0:LSh:=⟨[0,3],⟨[(.v y35),(.v y13)],[]⟩,[y35,y13],0,[]⟩
noncomputable def c83:=anF Tryz.prog [] Tryz.f83 (.s .n (.s (.s .n (.b (.l h83_0 x51_0 (.s .n (.s (.b (.s .n (.s .n (.b (.l h83_1 x83_1 .n))))) .n))))) .n))
noncomputable def s83_1 (T:List FEnt):=dstep (xs:=x83_1) h83_1 (dxc T (sb [1,0,1,2,2,1,0,2,1,1,2,2] c83))
noncomputable def l83_1 (T:List FEnt):=whileF (s83_1 T)
noncomputable def q83_1 (F67:Y6)(a0:List Y1)(a1 a2:Int)(a3:Bool):Option Y353:=
cond (decide (a2 < a1)) (
chk (inR a2 a0.length) (
chk (inR a1 a0.length) (
cond (decide ((ix a0 a2).1=(ix a0 a1).1)) (
some (Sum.inr (Sum.inl false))) (
chk (fits .i64 (a2+1)) (
some (Sum.inl (a0,a1,(a2+1),a3))))))) (
some (Sum.inr (Sum.inr (a0,a1,a3))))
theorem g83_1 (F67:Y6)(a0:List Y1)(a1 a2:Int)(a3:Bool):s83_1 (T83 F67) (a0,a1,a2,a3)=q83_1 F67 a0 a1 a2 a3:=by kernel_rfl
noncomputable def p83_1:=q83_1 P67
noncomputable def L83_1:Y349:=whileF (fun x=>p83_1 x.1 x.2.1 x.2.2.1 x.2.2.2)
theorem v83_1:l83_1 (T83 P67) =L83_1:=congrArg whileF (funext fun x=>(g83_1 P67 x.1 x.2.1 x.2.2.1 x.2.2.2))
noncomputable def s83_0 (T:List FEnt):=dstep (xs:=x51_0) h83_0 (dxc T (sb [1,0,1,2,2] c83))
noncomputable def l83_0 (T:List FEnt):=whileF (s83_0 T)
noncomputable def q83_0 (F67:Y6)(l83_1:Y349)(a0:List Y1)(a1:Int):Option Y346:=
cond (decide (a1 < (↑a0.length:Int))) (
chk (inR a1 a0.length) (
(F67 ((ix a0 a1).1,0,99)).bind fun r1=>(
cond (!r1) (
some (Sum.inr (Sum.inl false))) (
chk (inR a1 a0.length) (
(F67 ((ix a0 a1).2,0,999)).bind fun r2=>(
cond (!r2) (
some (Sum.inr (Sum.inl false))) (
(l83_1 (a0,a1,0,r2)).bind (fun y3=>Sum.elim (fun y4=>(
some (Sum.inr (Sum.inl y4)))) (fun y5=>(
chk (fits .i64 (y5.2.1+1)) (
some (Sum.inl (y5.1,(y5.2.1+1)))))) y3)))))))) (
some (Sum.inr (Sum.inr ())))
theorem g83_0 (F67:Y6)(a0:List Y1)(a1:Int):s83_0 (T83 F67) (a0,a1)=q83_0 F67 (l83_1 (T83 F67)) a0 a1:=by kernel_rfl
noncomputable def p83_0:=q83_0 P67 L83_1
noncomputable def L83_0:Y331:=whileF (fun x=>p83_0 x.1 x.2)
theorem v83_0:l83_0 (T83 P67) =L83_0:=congrArg whileF (funext fun x=>(g83_0 P67 x.1 x.2).trans (by rw[v83_1] <;> rfl))
theorem ok83:L.Fn Tryz.prog 83 43 [(.t 2)] (erase c83):=Fn.ofA hmix Tryz.func83 _ _ (by kernel_rfl)
def sh83:FSh:=⟨⟨[(.v y35)],[]⟩,[y35],0,⟨⟨[(.v .bool)],[]⟩,[.bool],[],0⟩,true⟩
noncomputable def q83 (F67:Y6)(l83_0:Y331)(a0:List Y1):Option Bool:=
(l83_0 (a0,0)).bind (fun y6=>Sum.elim (fun y7=>(
some y7)) (fun y8=>(
some true)) y6)
theorem g83 (F67:Y6)(a0:List Y1):dxf (T83 F67) sh83 [(.t 2)] c83 a0=q83 F67 (l83_0 (T83 F67)) a0:=by kernel_rfl
noncomputable def p83:=q83 P67 L83_0
noncomputable def P83:Y10:=fun x=>p83 x
theorem v83:dxf (T83 P67) sh83 [(.t 2)] c83=P83:=funext fun x=>(g83 P67 x).trans (by rw[v83_0] <;> rfl)
theorem d83:DC Tryz.prog 83 sh83 P83:=DC_eq v83 (dxf_sound t83 ok83 (by kernel_rfl))
noncomputable def T105:List FEnt:=[]
theorem t105:DTblOK Tryz.prog T105:=DTbl_nil
def h105_0:LSh:=⟨[0,1,6],⟨[(.v y35),(.v y13),(.v y13)],[]⟩,[y35,y13,y13],0,[]⟩
def x105_0:List XSh:=[⟨.ret,[4,5],⟨⟨[(.v y13),(.v .bool)],[]⟩,[y13,.bool],[],0⟩⟩,⟨(.exit 0),[],⟨⟨[],[]⟩,[],[],0⟩⟩]
noncomputable def c105:=anF Tryz.prog [] Tryz.f105 (.s .n (.s (.s .n (.b (.l h105_0 x105_0 .n))) .n))
noncomputable def s105_0 (T:List FEnt):=dstep (xs:=x105_0) h105_0 (dxc T (sb [1,0,1,2,2] c105))
noncomputable def l105_0 (T:List FEnt):=whileF (s105_0 T)
noncomputable def q105_0 (a0:List Y1)(a1 a2:Int):Option Y347:=
cond (decide (a2 < (↑a0.length:Int))) (
chk (inR a2 a0.length) (
cond (decide ((ix a0 a2).1=a1)) (
chk (inR a2 a0.length) (
some (Sum.inr (Sum.inl ((ix a0 a2).2,true))))) (
chk (fits .i64 (a2+1)) (
some (Sum.inl (a0,a1,(a2+1))))))) (
some (Sum.inr (Sum.inr ())))
theorem g105_0 (a0:List Y1)(a1 a2:Int):s105_0 T105 (a0,a1,a2)=q105_0 a0 a1 a2:=by kernel_rfl
noncomputable def p105_0:=q105_0
noncomputable def L105_0:Y333:=whileF (fun x=>p105_0 x.1 x.2.1 x.2.2)
theorem v105_0:l105_0 T105=L105_0:=congrArg whileF (funext fun x=>(g105_0 x.1 x.2.1 x.2.2))
theorem ok105:L.Fn Tryz.prog 105 25 [(.t 4),(.t 5)] (erase c105):=Fn.ofA hmix Tryz.func105 _ _ (by kernel_rfl)
def sh105:FSh:=⟨⟨[(.v y35),(.v y13)],[]⟩,[y35,y13],0,⟨⟨[(.tup [(.v y13),(.v .bool)])],[]⟩,[y13,.bool],[],0⟩,true⟩
noncomputable def q105 (l105_0:Y333)(a0:List Y1)(a1:Int):Option Y3:=
(l105_0 (a0,a1,0)).bind (fun y1=>Sum.elim (fun y2=>(
some (y2.1,y2.2))) (fun y3=>(
some (0,false))) y1)
theorem g105 (a0:List Y1)(a1:Int):dxf T105 sh105 [(.t 4),(.t 5)] c105 (a0,a1)=q105 (l105_0 T105) a0 a1:=by kernel_rfl
noncomputable def p105:=q105 L105_0
noncomputable def P105:Y334:=fun x=>p105 x.1 x.2
theorem v105:dxf T105 sh105 [(.t 4),(.t 5)] c105=P105:=funext fun x=>(g105 x.1 x.2).trans (by rw[v105_0] <;> rfl)
theorem d105:DC Tryz.prog 105 sh105 P105:=DC_eq v105 (dxf_sound t105 ok105 (by kernel_rfl))
noncomputable def T85 (F67:Y6):List FEnt:=[⟨67,sh67,F67⟩]
theorem t85:DTblOK Tryz.prog (T85 P67):=(DTbl_cons' d67 (by kernel_rfl) DTbl_nil)
def h85_0:LSh:=⟨[0,3],⟨[(.v y25),(.v y13)],[]⟩,[y25,y13],0,[]⟩
noncomputable def c85:=anF Tryz.prog [] Tryz.f85 (.s .n (.s (.s .n (.b (.l h85_0 x51_0 .n))) .n))
noncomputable def s85_0 (T:List FEnt):=dstep (xs:=x51_0) h85_0 (dxc T (sb [1,0,1,2,2] c85))
noncomputable def l85_0 (T:List FEnt):=whileF (s85_0 T)
noncomputable def q85_0 (F67:Y6)(a0:List Int)(a1:Int):Option Y339:=
cond (decide (a1 < (↑a0.length:Int))) (
chk (inR a1 a0.length) (
(F67 ((ix a0 a1),0,99)).bind fun r1=>(
cond (!r1) (
some (Sum.inr (Sum.inl false))) (
cond (decide (0 < a1)) (
chk (inR a1 a0.length) (
chk (fits .i64 (a1-1)) (
chk (inR (a1-1) a0.length) (
cond (decide ((ix a0 a1)≤(ix a0 (a1-1)))) (
some (Sum.inr (Sum.inl false))) (
chk (fits .i64 (a1+1)) (
some (Sum.inl (a0,(a1+1))))))))) (
chk (fits .i64 (a1+1)) (
some (Sum.inl (a0,(a1+1))))))))) (
some (Sum.inr (Sum.inr ())))
theorem g85_0 (F67:Y6)(a0:List Int)(a1:Int):s85_0 (T85 F67) (a0,a1)=q85_0 F67 a0 a1:=by kernel_rfl
noncomputable def p85_0:=q85_0 P67
noncomputable def L85_0:Y324:=whileF (fun x=>p85_0 x.1 x.2)
theorem v85_0:l85_0 (T85 P67) =L85_0:=congrArg whileF (funext fun x=>(g85_0 P67 x.1 x.2))
theorem ok85:L.Fn Tryz.prog 85 32 [(.t 2)] (erase c85):=Fn.ofA hmix Tryz.func85 _ _ (by kernel_rfl)
def sh85:FSh:=⟨⟨[(.v y25)],[]⟩,[y25],0,⟨⟨[(.v .bool)],[]⟩,[.bool],[],0⟩,true⟩
noncomputable def q85 (F67:Y6)(l85_0:Y324)(a0:List Int):Option Bool:=
(l85_0 (a0,0)).bind (fun y2=>Sum.elim (fun y3=>(
some y3)) (fun y4=>(
some true)) y2)
theorem g85 (F67:Y6)(a0:List Int):dxf (T85 F67) sh85 [(.t 2)] c85 a0=q85 F67 (l85_0 (T85 F67)) a0:=by kernel_rfl
noncomputable def p85:=q85 P67 L85_0
noncomputable def P85:Y325:=fun x=>p85 x
theorem v85:dxf (T85 P67) sh85 [(.t 2)] c85=P85:=funext fun x=>(g85 P67 x).trans (by rw[v85_0] <;> rfl)
theorem d85:DC Tryz.prog 85 sh85 P85:=DC_eq v85 (dxf_sound t85 ok85 (by kernel_rfl))
noncomputable def T84 (F105:Y334)(F67:Y6)(F85:Y325):List FEnt:=[⟨105,sh105,F105⟩,⟨67,sh67,F67⟩,⟨85,sh85,F85⟩]
theorem t84:DTblOK Tryz.prog (T84 P105 P67 P85):=(DTbl_cons' d105 (by kernel_rfl) (DTbl_cons' d67 (by kernel_rfl) (DTbl_cons' d85 (by kernel_rfl) DTbl_nil)))
def h84_0:LSh:=⟨[0,3,5],⟨[(.v y35),(.ptr 0 0),(.v y13)],[(0,(.boxT y87))]⟩,[y35,y13,y87],1,[0]⟩
def x84_0:List XSh:=[⟨.ret,[4],⟨⟨[(.v .bool)],[(0,(.boxT y87))]⟩,[.bool,y87],[0],1⟩⟩,⟨(.exit 0),[3],⟨⟨[(.ptr 0 0)],[(0,(.boxT y87))]⟩,[y87],[0],1⟩⟩]
noncomputable def c84:=anF Tryz.prog [] Tryz.f84 (.s .n (.s (.s .n (.b (.l h84_0 x84_0 .n))) .n))
noncomputable def s84_0 (T:List FEnt):=dstep (xs:=x84_0) h84_0 (dxc T (sb [1,0,1,2,2] c84))
noncomputable def l84_0 (T:List FEnt):=whileF (s84_0 T)
noncomputable def q84_0 (F105:Y334)(F67:Y6)(F85:Y325)(a0:List Y1)(a1:Int)(a2:Y12):Option Y348:=
cond (decide (a1 < (↑a2.2.2.2.2.2.2.length:Int))) (
chk (inR a1 a2.2.2.2.2.2.2.length) (
(F105 (a0,(ix a2.2.2.2.2.2.2 a1))).bind fun r1=>(
cond (!r1.2) (
some (Sum.inr (Sum.inl (false,a2)))) (
chk (fits .i64 (a1+1)) (
some (Sum.inl (a0,(a1+1),a2))))))) (
some (Sum.inr (Sum.inr a2)))
theorem g84_0 (F105:Y334)(F67:Y6)(F85:Y325)(a0:List Y1)(a1:Int)(a2:Y12):s84_0 (T84 F105 F67 F85) (a0,a1,a2)=q84_0 F105 F67 F85 a0 a1 a2:=by kernel_rfl
noncomputable def p84_0:=q84_0 P105 P67 P85
noncomputable def L84_0:Y344:=whileF (fun x=>p84_0 x.1 x.2.1 x.2.2)
theorem v84_0:l84_0 (T84 P105 P67 P85) =L84_0:=congrArg whileF (funext fun x=>(g84_0 P105 P67 P85 x.1 x.2.1 x.2.2))
theorem ok84:L.Fn Tryz.prog 84 61 [(.t 4)] (erase c84):=Fn.ofA hmix Tryz.func84 _ _ (by kernel_rfl)
def sh84:FSh:=⟨⟨[(.v y35),(.st y87)],[]⟩,[y35,y87],0,⟨⟨[(.v .bool)],[]⟩,[.bool],[],0⟩,true⟩
noncomputable def q84 (F105:Y334)(F67:Y6)(F85:Y325)(l84_0:Y344)(a0:List Y1)(a1:Y12):Option Bool:=
(l84_0 (a0,0,a1)).bind (fun y2=>Sum.elim (fun y3=>(
some y3.1)) (fun y4=>(
(F67 (y4.1,0,99)).bind fun r5=>(
cond r5 (
(F67 (y4.2.1,0,99)).bind fun r6=>(
cond r6 (
(F67 (y4.2.2.1,0,9)).bind fun r7=>(
cond r7 (
(F67 (y4.2.2.2.1,0,9)).bind fun r8=>(
cond r8 (
(F67 (y4.2.2.2.2.1,1,400)).bind fun r9=>(
cond r9 (
cond (decide (0 < (↑y4.2.2.2.2.2.2.length:Int))) (
(F85 y4.2.2.2.2.2.2).bind fun r10=>(
some r10)) (
some false)) (
some false))) (
some false))) (
some false))) (
some false))) (
some false)))) y2)
theorem g84 (F105:Y334)(F67:Y6)(F85:Y325)(a0:List Y1)(a1:Y12):dxf (T84 F105 F67 F85) sh84 [(.t 4)] c84 (a0,a1)=q84 F105 F67 F85 (l84_0 (T84 F105 F67 F85)) a0 a1:=by kernel_rfl
noncomputable def p84:=q84 P105 P67 P85 L84_0
noncomputable def P84:Y335:=fun x=>p84 x.1 x.2
theorem v84:dxf (T84 P105 P67 P85) sh84 [(.t 4)] c84=P84:=funext fun x=>(g84 P105 P67 P85 x.1 x.2).trans (by rw[v84_0] <;> rfl)
theorem d84:DC Tryz.prog 84 sh84 P84:=DC_eq v84 (dxf_sound t84 ok84 (by kernel_rfl))
end Go.Proofs.YtdacabdocbhkdaaGreat.D
