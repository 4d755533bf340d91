/- Cut down from a longer text. -/
import Derived.Test.YtdacabdocbhkdaaGreatG13m
import Derived.Test.YtdacabdocbhkdaaGreatProg
set_option linter.unusedVariables false
set_option maxRecDepth 100000
namespace Go.Proofs.YtdacabdocbhkdaaGreat.D
open Go Go.Proofs L
noncomputable def T113:List FEnt:=[]
theorem t113:DTblOK Tryz.prog T113:=DTbl_nil
noncomputable def c113:=anF Tryz.prog [] Tryz.f113 (.s .n (.s .n (.s (.r [.a 0 true y24,.a 2 true y24,.f 4 2 []]) .n)))
theorem ok113:L.Fn Tryz.prog 113 8 [(.t 2)] (erase c113):=Fn.ofA hmix Tryz.func113 _ _ (by kernel_rfl)
def sh113:FSh:=⟨⟨[(.v y35)],[]⟩,[y35],0,⟨⟨[(.v y35)],[]⟩,[y35],[],0⟩,false⟩
noncomputable def q113 (a0:List Y1):Option Y14:=
bisn (decide (List.length a0=0)) (
some ([]:List Y1)) (
chk (capOk 16 (List.length ([]:List Y1)+List.length a0)) (
some (([]:List Y1)++a0)))
theorem g113 (a0:List Y1):dxf T113 sh113 [(.t 2)] c113 a0=q113 a0:=by kernel_rfl
noncomputable def p113:=q113
noncomputable def P113:Y160:=fun x=>p113 x
theorem v113:dxf T113 sh113 [(.t 2)] c113=P113:=funext fun x=>(g113 x)
theorem d113:DC Tryz.prog 113 sh113 P113:=DC_eq v113 (dxf_sound t113 ok113 (by kernel_rfl))
noncomputable def T114:List FEnt:=[]
theorem t114:DTblOK Tryz.prog T114:=DTbl_nil
noncomputable def c114:=anF Tryz.prog [] Tryz.f114 (.s .n (.s .n (.s (.r [.a 0 true y87,.a 2 true y87]) .n)))
theorem ok114:L.Fn Tryz.prog 114 8 [(.t 2)] (erase c114):=Fn.ofA hmix Tryz.func114 _ _ (by kernel_rfl)
def sh114:FSh:=⟨⟨[(.v y89)],[]⟩,[y89],0,⟨⟨[(.slc 0)],[(0,(.row 42 y87))]⟩,[y89],[],1⟩,false⟩
noncomputable def q114 (a0:List Y12):Option Y27:=
bisn (decide (List.length a0=0)) (
some ([]:List Y12)) (
chk (capOk 72 (List.length ([]:List Y12)+List.length a0)) (
some (([]:List Y12)++a0)))
theorem g114 (a0:List Y12):dxf T114 sh114 [(.t 2)] c114 a0=q114 a0:=by kernel_rfl
noncomputable def p114:=q114
noncomputable def P114:Y662:=fun x=>p114 x
theorem v114:dxf T114 sh114 [(.t 2)] c114=P114:=funext fun x=>(g114 x)
theorem d114:DC Tryz.prog 114 sh114 P114:=DC_eq v114 (dxf_sound t114 ok114 (by kernel_rfl))
noncomputable def T115:List FEnt:=[]
theorem t115:DTblOK Tryz.prog T115:=DTbl_nil
noncomputable def c115:=anF Tryz.prog [] Tryz.f115 (.s .n (.s .n (.s (.r [.a 0 true y67,.a 2 true y67]) .n)))
theorem ok115:L.Fn Tryz.prog 115 8 [(.t 2)] (erase c115):=Fn.ofA hmix Tryz.func115 _ _ (by kernel_rfl)
def sh115:FSh:=⟨⟨[(.v y77)],[]⟩,[y77],0,⟨⟨[(.slc 0)],[(0,(.row 46 y67))]⟩,[y77],[],1⟩,false⟩
noncomputable def q115 (a0:List Y22):Option Y38:=
bisn (decide (List.length a0=0)) (
some ([]:List Y22)) (
chk (capOk 56 (List.length ([]:List Y22)+List.length a0)) (
some (([]:List Y22)++a0)))
theorem g115 (a0:List Y22):dxf T115 sh115 [(.t 2)] c115 a0=q115 a0:=by kernel_rfl
noncomputable def p115:=q115
noncomputable def P115:Y672:=fun x=>p115 x
theorem v115:dxf T115 sh115 [(.t 2)] c115=P115:=funext fun x=>(g115 x)
theorem d115:DC Tryz.prog 115 sh115 P115:=DC_eq v115 (dxf_sound t115 ok115 (by kernel_rfl))
noncomputable def T68 (F113:Y160)(F102:Y95)(F114:Y662)(F115:Y672):List FEnt:=[⟨113,sh113,F113⟩,⟨102,sh102,F102⟩,⟨114,sh114,F114⟩,⟨115,sh115,F115⟩]
theorem t68:DTblOK Tryz.prog (T68 P113 P102 P114 P115):=(DTbl_cons' d113 (by kernel_rfl) (DTbl_cons' d102 (by kernel_rfl) (DTbl_cons' d114 (by kernel_rfl) (DTbl_cons' d115 (by kernel_rfl) DTbl_nil))))
def h68_0:LSh:=⟨[1,2,23,24],⟨[(.ptr 0 0),(.ptr 1 0),(.v y13),(.v y13)],[(0,(.box [(.v y35),(.slc 2),(.slc 3),(.v y78),(.v y25)])),(1,(.box [.emp,.emp,.emp,.emp,.emp])),(2,(.row 42 y87)),(3,(.row 46 y67))]⟩,[y13,y13,y35,y78,y25,y89,y77],4,[0,1,2,3]⟩
def x68_0:List XSh:=[⟨(.exit 0),[1,2],⟨⟨[(.ptr 0 0),(.ptr 1 0)],[(0,(.box [(.v y35),(.slc 2),(.slc 3),(.v y78),(.v y25)])),(1,(.box [.emp,.emp,.emp,.emp,.emp])),(2,(.row 42 y87)),(3,(.row 46 y67))]⟩,[y35,y78,y25,y89,y77],[0,1,2,3],4⟩⟩]
def h68_1:LSh:=⟨[1,2,42,43],⟨[(.ptr 0 0),(.ptr 1 0),(.v y13),(.v y13)],[(0,(.box [(.v y35),(.slc 2),(.slc 3),(.v y78),(.v y25)])),(1,(.box [.emp,.emp,.emp,.emp,.emp])),(2,(.row 42 y87)),(3,(.row 46 y67))]⟩,[y13,y13,y35,y78,y25,y89,y77],4,[0,1,2,3]⟩
def x68_1:List XSh:=[⟨(.exit 2),[1,2],⟨⟨[(.ptr 0 0),(.ptr 1 0)],[(0,(.box [(.v y35),(.slc 2),(.slc 3),(.v y78),(.v y25)])),(1,(.box [.emp,.emp,.emp,.emp,.emp])),(2,(.row 42 y87)),(3,(.row 46 y67))]⟩,[y35,y78,y25,y89,y77],[0,1,2,3],4⟩⟩]
noncomputable def c68:=anF Tryz.prog [(1,{ch:=[0,0,0,0,1,0,0,1,0,1],rs:=[1],ord:=[0,1,3,4,2,6,5,7,8,9] }),(2,{ch:=[0,0,0,0,1,0,0,1,0,1],rs:=[1],ord:=[0,1,3,4,2,6,5,7,8,9] }),(6,{ch:=[0,1,0,0,0,0,0,0,0,0,0,0,1],rs:=[1] }),(11,{ch:=[0,1,0,0,0,0,0,0,0,0,0,0,1],rs:=[1] }),(12,{ch:=[0,1,0,0,0,0,0,0,0,0,0,0,1],rs:=[1] })] Tryz.f68 (.s .n (.s .n (.s .n (.s (.s .n (.b (.l h68_0 x68_0 .n))) (.s (.s .n (.b (.l h68_1 x68_1 .n))) .n)))))
noncomputable def s68_0 (T:List FEnt):=dstep (xs:=x68_0) h68_0 (dxc T (sb [1,1,1,0,1,2,2] c68))
noncomputable def l68_0 (T:List FEnt):=whileF (s68_0 T)
noncomputable def q68_0 (F113:Y160)(F102:Y95)(F114:Y662)(F115:Y672)(a0 a1:Int)(a2:List Y1)(a3:List Y15)(a4:List Int)(a5:List Y12)(a6:List Y22):Option Y687:=
cond (decide (a1 < a0)) (
chk (inR a1 a5.length) (
(F102 ((ix a5 a1).2.2.2.2.2.2)).bind fun r5=>(
chk (inR a1 a5.length) (
chk (fits .i64 (a1+1)) (
some (Sum.inl (a0,(a1+1),a2,a3,a4,(List.set a5 a1.toNat ((ix a5 a1).1,((ix a5 a1).2.1,((ix a5 a1).2.2.1,((ix a5 a1).2.2.2.1,((ix a5 a1).2.2.2.2.1,((ix a5 a1).2.2.2.2.2.1,r5))))))),a6))))))) (
some (Sum.inr (a2,a3,a4,a5,a6)))
theorem g68_0 (F113:Y160)(F102:Y95)(F114:Y662)(F115:Y672)(a0 a1:Int)(a2:List Y1)(a3:List Y15)(a4:List Int)(a5:List Y12)(a6:List Y22):s68_0 (T68 F113 F102 F114 F115) (a0,a1,a2,a3,a4,a5,a6)=q68_0 F113 F102 F114 F115 a0 a1 a2 a3 a4 a5 a6:=by kernel_rfl
noncomputable def p68_0:=q68_0 P113 P102 P114 P115
noncomputable def L68_0:Y683:=whileF (fun x=>p68_0 x.1 x.2.1 x.2.2.1 x.2.2.2.1 x.2.2.2.2.1 x.2.2.2.2.2.1 x.2.2.2.2.2.2)
theorem v68_0:l68_0 (T68 P113 P102 P114 P115) =L68_0:=congrArg whileF (funext fun x=>(g68_0 P113 P102 P114 P115 x.1 x.2.1 x.2.2.1 x.2.2.2.1 x.2.2.2.2.1 x.2.2.2.2.2.1 x.2.2.2.2.2.2))
noncomputable def s68_1 (T:List FEnt):=dstep (xs:=x68_1) h68_1 (dxc T (sb [1,1,1,1,0,1,2,2] c68))
noncomputable def l68_1 (T:List FEnt):=whileF (s68_1 T)
noncomputable def q68_1 (F113:Y160)(F102:Y95)(F114:Y662)(F115:Y672)(a0 a1:Int)(a2:List Y1)(a3:List Y15)(a4:List Int)(a5:List Y12)(a6:List Y22):Option Y687:=
cond (decide (a1 < a0)) (
chk (inR a1 a6.length) (
(F102 ((ix a6 a1).2.1)).bind fun r7=>(
chk (inR a1 a6.length) (
chk (inR a1 (List.length (List.set a6 a1.toNat ((ix a6 a1).1,(r7,(ix a6 a1).2.2))))) (
(F113 ((ix (List.set a6 a1.toNat ((ix a6 a1).1,(r7,(ix a6 a1).2.2))) a1).2.2)).bind fun r8=>(
chk (inR a1 (List.length (List.set a6 a1.toNat ((ix a6 a1).1,(r7,(ix a6 a1).2.2))))) (
chk (fits .i64 (a1+1)) (
some (Sum.inl (a0,(a1+1),a2,a3,a4,a5,(List.set (List.set a6 a1.toNat ((ix a6 a1).1,(r7,(ix a6 a1).2.2))) a1.toNat ((ix (List.set a6 a1.toNat ((ix a6 a1).1,(r7,(ix a6 a1).2.2))) a1).1,((ix (List.set a6 a1.toNat ((ix a6 a1).1,(r7,(ix a6 a1).2.2))) a1).2.1,r8))))))))))))) (
some (Sum.inr (a2,a3,a4,a5,a6)))
theorem g68_1 (F113:Y160)(F102:Y95)(F114:Y662)(F115:Y672)(a0 a1:Int)(a2:List Y1)(a3:List Y15)(a4:List Int)(a5:List Y12)(a6:List Y22):s68_1 (T68 F113 F102 F114 F115) (a0,a1,a2,a3,a4,a5,a6)=q68_1 F113 F102 F114 F115 a0 a1 a2 a3 a4 a5 a6:=by kernel_rfl
noncomputable def p68_1:=q68_1 P113 P102 P114 P115
noncomputable def L68_1:Y683:=whileF (fun x=>p68_1 x.1 x.2.1 x.2.2.1 x.2.2.2.1 x.2.2.2.2.1 x.2.2.2.2.2.1 x.2.2.2.2.2.2)
theorem v68_1:l68_1 (T68 P113 P102 P114 P115) =L68_1:=congrArg whileF (funext fun x=>(g68_1 P113 P102 P114 P115 x.1 x.2.1 x.2.2.1 x.2.2.2.1 x.2.2.2.2.1 x.2.2.2.2.2.1 x.2.2.2.2.2.2))
theorem ok68:L.Fn Tryz.prog 68 72 [(.cell 2 true 5)] (erase c68):=Fn.ofA hmix Tryz.func68 _ _ (by kernel_rfl)
def sh68:FSh:=⟨⟨[(.st y91)],[]⟩,[y91],0,⟨⟨[(.agg [(.v y35),(.slc 0),(.slc 1),(.v y78),(.v y25)])],[(0,(.row 42 y87)),(1,(.row 46 y67))]⟩,[y35,y78,y25,y89,y77],[],2⟩,false⟩
noncomputable def q68 (F113:Y160)(F102:Y95)(F114:Y662)(F115:Y672)(l68_0 l68_1:Y683)(a0:Y42):Option Y673:=
(F113 a0.1).bind fun r1=>(
(F102 a0.2.2.2.2).bind fun r2=>(
(F114 a0.2.1).bind fun r3=>(
(F115 a0.2.2.1).bind fun r4=>(
(l68_0 ((↑r3.length:Int),0,r1,a0.2.2.2.1,r2,r3,r4)).bind fun y6=>(
(l68_1 ((↑y6.2.2.2.2.length:Int),0,y6.1,y6.2.1,y6.2.2.1,y6.2.2.2.1,y6.2.2.2.2)).bind fun y9=>(
some (y9.1,y9.2.1,y9.2.2.1,y9.2.2.2.1,y9.2.2.2.2)))))))
theorem g68 (F113:Y160)(F102:Y95)(F114:Y662)(F115:Y672)(a0:Y42):dxf (T68 F113 F102 F114 F115) sh68 [(.cell 2 true 5)] c68 a0=q68 F113 F102 F114 F115 (l68_0 (T68 F113 F102 F114 F115)) (l68_1 (T68 F113 F102 F114 F115)) a0:=by kernel_rfl
noncomputable def p68:=q68 P113 P102 P114 P115 L68_0 L68_1
noncomputable def P68:Y684:=fun x=>p68 x
theorem v68:dxf (T68 P113 P102 P114 P115) sh68 [(.cell 2 true 5)] c68=P68:=funext fun x=>(g68 P113 P102 P114 P115 x).trans (by rw[v68_0,v68_1] <;> rfl)
theorem d68:DC Tryz.prog 68 sh68 P68:=DC_eq v68 (dxf_sound t68 ok68 (by kernel_rfl))
noncomputable def T116:List FEnt:=[]
theorem t116:DTblOK Tryz.prog T116:=DTbl_nil
noncomputable def c116:=anF Tryz.prog [(5,{ch:=[0,0,0,3,0,0,0,0,2,0] })] Tryz.f116 (.s .n (.s .n (.s (.s .n (.s .n (.s (.r [.a 5 true y68]) .n))) .n)))
theorem ok116:L.Fn Tryz.prog 116 27 [(.t 4)] (erase c116):=Fn.ofA hmix Tryz.func116 _ _ (by kernel_rfl)
def sh116:FSh:=⟨⟨[.emp,(.v y13)],[]⟩,[y13],0,⟨⟨[(.slc 0)],[(0,(.row 59 y68))]⟩,[y78],[],1⟩,false⟩
noncomputable def q116 (a0:Int):Option Y28:=
cond (decide (a0 < 0)) (
none) (
chk (fits .i64 ((0:Int)-0)) (
chk (fits .i64 (a0-((0:Int)-0))) (
cond (decide (0 < (a0-((0:Int)-0)))) (
chk (decide (0=0)) (
chk (decide (0 < (a0-((0:Int)-0)))) (
chk (decide (56*(a0-((0:Int)-0))≤140737488355328)) (
chk (decide ((0:Int)≤0)) (
chk (decide (0≤(↑(List.length (repl (Int.toNat (a0-((0:Int)-0))) (0,(0,([],(0,0)))):List Y15)):Int))) (
chk (decide (0 < List.length (repl (Int.toNat (a0-((0:Int)-0))) (0,(0,([],(0,0)))):List Y15))) (
some (List.take (Int.toNat 0) (repl (Int.toNat (a0-((0:Int)-0))) (0,(0,([],(0,0)))):List Y15))))))))) (
some ([]:List Y15)))))
theorem g116 (a0:Int):dxf T116 sh116 [(.t 4)] c116 a0=q116 a0:=by kernel_rfl
noncomputable def p116:=q116
noncomputable def P116:Y663:=fun x=>p116 x
theorem v116:dxf T116 sh116 [(.t 4)] c116=P116:=funext fun x=>(g116 x)
theorem d116:DC Tryz.prog 116 sh116 P116:=DC_eq v116 (dxf_sound t116 ok116 (by kernel_rfl))
noncomputable def T69 (F116:Y663):List FEnt:=[⟨116,sh116,F116⟩]
theorem t69:DTblOK Tryz.prog (T69 P116):=(DTbl_cons' d116 (by kernel_rfl) DTbl_nil)
def h69_0:LSh:=⟨[0,3,9,10,11],⟨[(.v y693),(.v y13),(.v y693),(.v y13),(.v y13)],[]⟩,[y693,y13,y693,y13,y13],0,[]⟩
def x69_0:List XSh:=[⟨(.exit 0),[0,3],⟨⟨[(.v y693),(.v y13)],[]⟩,[y693,y13],[],0⟩⟩]
def h69_1:LSh:=⟨[6,25,26,27],⟨[(.slc 0),(.v y693),(.v y13),(.v y13)],[(0,(.row 59 y68))]⟩,[y693,y13,y13,y78],1,[]⟩
def x69_1:List XSh:=[⟨(.exit 2),[6],⟨⟨[(.slc 0)],[(0,(.row 59 y68))]⟩,[y78],[],1⟩⟩]
noncomputable def c69:=anF Tryz.prog [] Tryz.f69 (.s .n (.s .n (.s (.s .n (.b (.l h69_0 x69_0 .n))) (.s .n (.s (.s .n (.b (.l h69_1 x69_1 (.s .n (.s .n (.s (.b (.s .n (.r [.a 2 true y68]))) .n)))))) .n)))))
noncomputable def s69_0 (T:List FEnt):=dstep (xs:=x69_0) h69_0 (dxc T (sb [1,1,0,1,2,2] c69))
noncomputable def l69_0 (T:List FEnt):=whileF (s69_0 T)
noncomputable def q69_0 (F116:Y663)(a0:List Y28)(a1:Int)(a2:List Y28)(a3 a4:Int):Option Y688:=
cond (decide (a4 < a3)) (
chk (inR a4 a2.length) (
chk (fits .i64 (a1+(↑(List.length (ix a2 a4)):Int))) (
cond (decide ((a1+(↑(List.length (ix a2 a4)):Int)) < 0)) (
none) (
chk (fits .i64 (a4+1)) (
some (Sum.inl (a0,(a1+(↑(List.length (ix a2 a4)):Int)),a2,a3,(a4+1)))))))) (
some (Sum.inr (a0,a1)))
theorem g69_0 (F116:Y663)(a0:List Y28)(a1:Int)(a2:List Y28)(a3 a4:Int):s69_0 (T69 F116) (a0,a1,a2,a3,a4)=q69_0 F116 a0 a1 a2 a3 a4:=by kernel_rfl
noncomputable def p69_0:=q69_0 P116
noncomputable def L69_0:Y685:=whileF (fun x=>p69_0 x.1 x.2.1 x.2.2.1 x.2.2.2.1 x.2.2.2.2)
theorem v69_0:l69_0 (T69 P116) =L69_0:=congrArg whileF (funext fun x=>(g69_0 P116 x.1 x.2.1 x.2.2.1 x.2.2.2.1 x.2.2.2.2))
noncomputable def s69_1 (T:List FEnt):=dstep (xs:=x69_1) h69_1 (dxc T (sb [1,1,1,1,0,1,2,2] c69))
noncomputable def l69_1 (T:List FEnt):=whileF (s69_1 T)
noncomputable def q69_1 (F116:Y663)(a0:List Y28)(a1 a2:Int)(a3:List Y15):Option Y689:=
cond (decide (a2 < a1)) (
chk (inR a2 a0.length) (
chk (capOk 56 (List.length a3+List.length (ix a0 a2))) (
chk (fits .i64 (a2+1)) (
some (Sum.inl (a0,a1,(a2+1),(a3++(ix a0 a2)))))))) (
some (Sum.inr a3))
theorem g69_1 (F116:Y663)(a0:List Y28)(a1 a2:Int)(a3:List Y15):s69_1 (T69 F116) (a0,a1,a2,a3)=q69_1 F116 a0 a1 a2 a3:=by kernel_rfl
noncomputable def p69_1:=q69_1 P116
noncomputable def L69_1:Y674:=whileF (fun x=>p69_1 x.1 x.2.1 x.2.2.1 x.2.2.2)
theorem v69_1:l69_1 (T69 P116) =L69_1:=congrArg whileF (funext fun x=>(g69_1 P116 x.1 x.2.1 x.2.2.1 x.2.2.2))
theorem ok69:L.Fn Tryz.prog 69 36 [(.t 2)] (erase c69):=Fn.ofA hmix Tryz.func69 _ _ (by kernel_rfl)
def sh69:FSh:=⟨⟨[(.v y693)],[]⟩,[y693],0,⟨⟨[(.slc 0)],[(0,(.row 59 y68))]⟩,[y78],[],1⟩,false⟩
noncomputable def q69 (F116:Y663)(l69_0:Y685)(l69_1:Y674)(a0:List Y28):Option Y28:=
(l69_0 (a0,0,a0,(↑a0.length:Int),0)).bind fun y1=>(
(F116 y1.2).bind fun r2=>(
(l69_1 (y1.1,(↑y1.1.length:Int),0,r2)).bind fun y3=>(
some y3)))
theorem g69 (F116:Y663)(a0:List Y28):dxf (T69 F116) sh69 [(.t 2)] c69 a0=q69 F116 (l69_0 (T69 F116)) (l69_1 (T69 F116)) a0:=by kernel_rfl
noncomputable def p69:=q69 P116 L69_0 L69_1
noncomputable def P69:Y664:=fun x=>p69 x
theorem v69:dxf (T69 P116) sh69 [(.t 2)] c69=P69:=funext fun x=>(g69 P116 x).trans (by rw[v69_0,v69_1] <;> rfl)
theorem d69:DC Tryz.prog 69 sh69 P69:=DC_eq v69 (dxf_sound t69 ok69 (by kernel_rfl))
noncomputable def T117:List FEnt:=[]
theorem t117:DTblOK Tryz.prog T117:=DTbl_nil
noncomputable def c117:=anF Tryz.prog [(5,{ch:=[0,0,0,3,0,0,0,0,2,0] })] Tryz.f117 (.s .n (.s .n (.s (.s .n (.s .n (.s (.r [.a 5 false y13]) .n))) .n)))
theorem ok117:L.Fn Tryz.prog 117 27 [(.t 4)] (erase c117):=Fn.ofA hmix Tryz.func117 _ _ (by kernel_rfl)
def sh117:FSh:=⟨⟨[.emp,(.v y13)],[]⟩,[y13],0,⟨⟨[(.slc 0)],[(0,(.row 3 y13))]⟩,[y25],[],1⟩,true⟩
noncomputable def q117 (a0:Int):Option Y2:=
cond (decide (a0 < 0)) (
none) (
chk (fits .i64 ((0:Int)-0)) (
chk (fits .i64 (a0-((0:Int)-0))) (
cond (decide (0 < (a0-((0:Int)-0)))) (
chk (decide (0=0)) (
chk (decide (0 < (a0-((0:Int)-0)))) (
chk (decide (8*(a0-((0:Int)-0))≤140737488355328)) (
chk (decide ((0:Int)≤0)) (
chk (decide (0≤(↑(List.length (repl (Int.toNat (a0-((0:Int)-0))) 0:List Int)):Int))) (
chk (decide (0 < List.length (repl (Int.toNat (a0-((0:Int)-0))) 0:List Int))) (
some (List.take (Int.toNat 0) (repl (Int.toNat (a0-((0:Int)-0))) 0:List Int))))))))) (
some ([]:List Int)))))
theorem g117 (a0:Int):dxf T117 sh117 [(.t 4)] c117 a0=q117 a0:=by kernel_rfl
noncomputable def p117:=q117
noncomputable def P117:Y651:=fun x=>p117 x
theorem v117:dxf T117 sh117 [(.t 4)] c117=P117:=funext fun x=>(g117 x)
theorem d117:DC Tryz.prog 117 sh117 P117:=DC_eq v117 (dxf_sound t117 ok117 (by kernel_rfl))
noncomputable def T70 (F117:Y651):List FEnt:=[⟨117,sh117,F117⟩]
theorem t70:DTblOK Tryz.prog (T70 P117):=(DTbl_cons' d117 (by kernel_rfl) DTbl_nil)
def h70_0:LSh:=⟨[0,3,9,10,11],⟨[(.v y668),(.v y13),(.v y668),(.v y13),(.v y13)],[]⟩,[y668,y13,y668,y13,y13],0,[]⟩
def x70_0:List XSh:=[⟨(.exit 0),[0,3],⟨⟨[(.v y668),(.v y13)],[]⟩,[y668,y13],[],0⟩⟩]
def h70_1:LSh:=⟨[6,25,26,27],⟨[(.slc 0),(.v y668),(.v y13),(.v y13)],[(0,(.row 3 y13))]⟩,[y668,y13,y13,y25],1,[]⟩
def x70_1:List XSh:=[⟨(.exit 2),[6],⟨⟨[(.slc 0)],[(0,(.row 3 y13))]⟩,[y25],[],1⟩⟩]
noncomputable def c70:=anF Tryz.prog [] Tryz.f70 (.s .n (.s .n (.s (.s .n (.b (.l h70_0 x70_0 .n))) (.s .n (.s (.s .n (.b (.l h70_1 x70_1 (.s .n (.s .n (.s (.b (.s .n (.r [.a 2 false y13]))) .n)))))) .n)))))
noncomputable def s70_0 (T:List FEnt):=dstep (xs:=x70_0) h70_0 (dxc T (sb [1,1,0,1,2,2] c70))
noncomputable def l70_0 (T:List FEnt):=whileF (s70_0 T)
noncomputable def q70_0 (F117:Y651)(a0:List Y2)(a1:Int)(a2:List Y2)(a3 a4:Int):Option Y670:=
cond (decide (a4 < a3)) (
chk (inR a4 a2.length) (
chk (fits .i64 (a1+(↑(List.length (ix a2 a4)):Int))) (
cond (decide ((a1+(↑(List.length (ix a2 a4)):Int)) < 0)) (
none) (
chk (fits .i64 (a4+1)) (
some (Sum.inl (a0,(a1+(↑(List.length (ix a2 a4)):Int)),a2,a3,(a4+1)))))))) (
some (Sum.inr (a0,a1)))
theorem g70_0 (F117:Y651)(a0:List Y2)(a1:Int)(a2:List Y2)(a3 a4:Int):s70_0 (T70 F117) (a0,a1,a2,a3,a4)=q70_0 F117 a0 a1 a2 a3 a4:=by kernel_rfl
noncomputable def p70_0:=q70_0 P117
noncomputable def L70_0:Y665:=whileF (fun x=>p70_0 x.1 x.2.1 x.2.2.1 x.2.2.2.1 x.2.2.2.2)
theorem v70_0:l70_0 (T70 P117) =L70_0:=congrArg whileF (funext fun x=>(g70_0 P117 x.1 x.2.1 x.2.2.1 x.2.2.2.1 x.2.2.2.2))
noncomputable def s70_1 (T:List FEnt):=dstep (xs:=x70_1) h70_1 (dxc T (sb [1,1,1,1,0,1,2,2] c70))
noncomputable def l70_1 (T:List FEnt):=whileF (s70_1 T)
noncomputable def q70_1 (F117:Y651)(a0:List Y2)(a1 a2:Int)(a3:List Int):Option Y671:=
cond (decide (a2 < a1)) (
chk (inR a2 a0.length) (
chk (capOk 8 (List.length a3+List.length (ix a0 a2))) (
chk (fits .i64 (a2+1)) (
some (Sum.inl (a0,a1,(a2+1),(a3++(ix a0 a2)))))))) (
some (Sum.inr a3))
theorem g70_1 (F117:Y651)(a0:List Y2)(a1 a2:Int)(a3:List Int):s70_1 (T70 F117) (a0,a1,a2,a3)=q70_1 F117 a0 a1 a2 a3:=by kernel_rfl
noncomputable def p70_1:=q70_1 P117
noncomputable def L70_1:Y654:=whileF (fun x=>p70_1 x.1 x.2.1 x.2.2.1 x.2.2.2)
theorem v70_1:l70_1 (T70 P117) =L70_1:=congrArg whileF (funext fun x=>(g70_1 P117 x.1 x.2.1 x.2.2.1 x.2.2.2))
theorem ok70:L.Fn Tryz.prog 70 36 [(.t 2)] (erase c70):=Fn.ofA hmix Tryz.func70 _ _ (by kernel_rfl)
def sh70:FSh:=⟨⟨[(.v y668)],[]⟩,[y668],0,⟨⟨[(.slc 0)],[(0,(.row 3 y13))]⟩,[y25],[],1⟩,true⟩
noncomputable def q70 (F117:Y651)(l70_0:Y665)(l70_1:Y654)(a0:List Y2):Option Y2:=
(l70_0 (a0,0,a0,(↑a0.length:Int),0)).bind fun y1=>(
(F117 y1.2).bind fun r2=>(
(l70_1 (y1.1,(↑y1.1.length:Int),0,r2)).bind fun y3=>(
some y3)))
theorem g70 (F117:Y651)(a0:List Y2):dxf (T70 F117) sh70 [(.t 2)] c70 a0=q70 F117 (l70_0 (T70 F117)) (l70_1 (T70 F117)) a0:=by kernel_rfl
noncomputable def p70:=q70 P117 L70_0 L70_1
noncomputable def P70:Y652:=fun x=>p70 x
theorem v70:dxf (T70 P117) sh70 [(.t 2)] c70=P70:=funext fun x=>(g70 P117 x).trans (by rw[v70_0,v70_1] <;> rfl)
theorem d70:DC Tryz.prog 70 sh70 P70:=DC_eq v70 (dxf_sound t70 ok70 (by kernel_rfl))
noncomputable def T71:List FEnt:=[]
theorem t71:DTblOK Tryz.prog T71:=DTbl_nil
def h71_1:LSh:=⟨[0,3,4,5],⟨[(.slc 0),(.v y13),(.slo 0 1),(.v y13)],[(0,(.row 3 y13))]⟩,[y13,y13,y13,y13,y25],1,[0]⟩
def x71_1:List XSh:=[⟨(.exit 2),[0,3],⟨⟨[(.slc 0),(.v y13)],[(0,(.row 3 y13))]⟩,[y13,y25],[0],1⟩⟩]
def h71_0:LSh:=⟨[0,3],⟨[(.slc 0),(.v y13)],[(0,(.row 3 y13))]⟩,[y13,y25],1,[]⟩
def x71_0:List XSh:=[⟨.ret,[2],⟨⟨[(.slc 0)],[(0,(.row 3 y13))]⟩,[y25],[],1⟩⟩,⟨(.exit 0),[0],⟨⟨[(.slc 0)],[(0,(.row 3 y13))]⟩,[y25],[],1⟩⟩]
noncomputable def c71:=anF Tryz.prog [(7,{ch:=[0,0,1,0] }),(14,{ch:=[0,0,1,0] }),(15,{ch:=[0,0,2,0] })] Tryz.f71 (.s .n (.s .n (.s (.s .n (.b (.l h71_0 x71_0 (.s .n (.s (.b (.s .n (.s (.s .n (.s (.s .n (.b (.l h71_1 x71_1 .n))) .n)) .n))) .n))))) .n)))
noncomputable def s71_1 (T:List FEnt):=dstep (xs:=x71_1) h71_1 (dxc T (sb [1,1,0,1,2,2,1,0,2,1,0,1,0,1,2,2] c71))
noncomputable def l71_1 (T:List FEnt):=whileF (s71_1 T)
noncomputable def q71_1 (a0 a1 a2 a3:Int)(a4:List Int):Option Y660:=
cond (decide (a3 < (↑a2.toNat:Int))) (
chk (inR a3 a2.toNat) (
chk (fits .i64 (a3-1)) (
chk (inR (a3-1) a2.toNat) (
cond (!decide ((ixn a4 (a1.toNat+Int.toNat a3))=(ixn a4 (a1.toNat+Int.toNat (a3-1))))) (
chk (inR a3 a2.toNat) (
chk (inR a0 a4.length) (
chk (fits .i64 (a0+1)) (
chk (fits .i64 (a3+1)) (
some (Sum.inl ((a0+1),(↑a1.toNat:Int),(↑a2.toNat:Int),(a3+1),(List.set a4 a0.toNat (ixn a4 (a1.toNat+Int.toNat a3)))))))))) (
chk (fits .i64 (a3+1)) (
some (Sum.inl (a0,(↑a1.toNat:Int),(↑a2.toNat:Int),(a3+1),a4)))))))) (
some (Sum.inr (a0,a4)))
theorem g71_1 (a0 a1 a2 a3:Int)(a4:List Int):s71_1 T71 (a0,a1,a2,a3,a4)=q71_1 a0 a1 a2 a3 a4:=by kernel_rfl
noncomputable def p71_1:=q71_1
noncomputable def L71_1:Y655:=whileF (fun x=>p71_1 x.1 x.2.1 x.2.2.1 x.2.2.2.1 x.2.2.2.2)
theorem v71_1:l71_1 T71=L71_1:=congrArg whileF (funext fun x=>(g71_1 x.1 x.2.1 x.2.2.1 x.2.2.2.1 x.2.2.2.2))
noncomputable def s71_0 (T:List FEnt):=dstep (xs:=x71_0) h71_0 (dxc T (sb [1,1,0,1,2,2] c71))
noncomputable def l71_0 (T:List FEnt):=whileF (s71_0 T)
noncomputable def q71_0 (l71_1:Y655)(a0:Int)(a1:List Int):Option Y661:=
cond (decide (a0 < (↑a1.length:Int))) (
chk (inR a0 a1.length) (
chk (fits .i64 (a0-1)) (
chk (inR (a0-1) a1.length) (
cond (decide ((ix a1 a0)=(ix a1 (a0-1)))) (
chk (decide (0≤a0)) (
chk (decide (a0≤(↑a1.length:Int))) (
chk (decide ((↑a1.length:Int)≤(↑a1.length:Int))) (
chk (decide (0 < List.length a1)) (
(l71_1 (a0,(↑a0.toNat:Int),(↑(Int.toNat ((↑a1.length:Int)-a0)):Int),1,a1)).bind fun y1=>(
chk (decide (0≤y1.1)) (
chk (decide (y1.1≤(↑y1.2.length:Int))) (
chk (decide ((↑y1.2.length:Int)≤(↑y1.2.length:Int))) (
chk (decide (0 < List.length y1.2)) (
chk (decide (0≤y1.1)) (
chk (decide (y1.1≤(↑(List.length (clrL y1.2 y1.1.toNat (Int.toNat ((↑y1.2.length:Int)-y1.1)) 0)):Int))) (
chk (decide (0 < List.length (clrL y1.2 y1.1.toNat (Int.toNat ((↑y1.2.length:Int)-y1.1)) 0))) (
some (Sum.inr (Sum.inl (List.take y1.1.toNat (clrL y1.2 y1.1.toNat (Int.toNat ((↑y1.2.length:Int)-y1.1)) 0))))))))))))))))) (
chk (fits .i64 (a0+1)) (
some (Sum.inl ((a0+1),a1)))))))) (
some (Sum.inr (Sum.inr a1)))
theorem g71_0 (a0:Int)(a1:List Int):s71_0 T71 (a0,a1)=q71_0 (l71_1 T71) a0 a1:=by kernel_rfl
noncomputable def p71_0:=q71_0 L71_1
noncomputable def L71_0:Y656:=whileF (fun x=>p71_0 x.1 x.2)
theorem v71_0:l71_0 T71=L71_0:=congrArg whileF (funext fun x=>(g71_0 x.1 x.2).trans (by rw[v71_1] <;> rfl))
theorem ok71:L.Fn Tryz.prog 71 61 [(.t 2)] (erase c71):=Fn.ofA hmix Tryz.func71 _ _ (by kernel_rfl)
def sh71:FSh:=⟨⟨[(.slc 0)],[(0,(.row 3 y13))]⟩,[y25],1,⟨⟨[(.slc 0)],[(0,(.row 3 y13))]⟩,[y25],[],1⟩,false⟩
noncomputable def q71 (l71_0:Y656)(a0:List Int):Option Y2:=
cond (decide ((↑a0.length:Int) < 2)) (
some a0) (
(l71_0 (1,a0)).bind (fun y2=>Sum.elim (fun y3=>(
some y3)) (fun y4=>(
some y4)) y2))
theorem g71 (a0:List Int):dxf T71 sh71 [(.t 2)] c71 a0=q71 (l71_0 T71) a0:=by kernel_rfl
noncomputable def p71:=q71 L71_0
noncomputable def P71:Y95:=fun x=>p71 x
theorem v71:dxf T71 sh71 [(.t 2)] c71=P71:=funext fun x=>(g71 x).trans (by rw[v71_0] <;> rfl)
theorem d71:DC Tryz.prog 71 sh71 P71:=DC_eq v71 (dxf_sound t71 ok71 (by kernel_rfl))
noncomputable def T40 (F28:Y198)(F68:Y684)(F69:Y664)(F52:Y172)(F70:Y652)(F66:Y95)(F71:Y95)(F51:Y153):List FEnt:=[⟨28,sh28,F28⟩,⟨68,sh68,F68⟩,⟨69,sh69,F69⟩,⟨52,sh52,F52⟩,⟨70,sh70,F70⟩,⟨66,sh66,F66⟩,⟨71,sh71,F71⟩,⟨51,sh51,F51⟩]
theorem t40:DTblOK Tryz.prog (T40 P28 P68 P69 P52 P70 P66 P71 P51):=(DTbl_cons' d28 (by kernel_rfl) (DTbl_cons' d68 (by kernel_rfl) (DTbl_cons' d69 (by kernel_rfl) (DTbl_cons' d52 (by kernel_rfl) (DTbl_cons' d70 (by kernel_rfl) (DTbl_cons' d66 (by kernel_rfl) (DTbl_cons' d71 (by kernel_rfl) (DTbl_cons' d51 (by kernel_rfl) DTbl_nil))))))))
noncomputable def c40:=anF Tryz.prog [] Tryz.f40 (.s .n (.s .n (.s .n (.s .n (.s .n (.s .n (.s (.r [.a 3 false y78,.f 4 34 [],.f 5 35 []]) (.s (.r [.a 3 false y25]) .n))))))))
theorem ok40:L.Fn Tryz.prog 40 67 [(.cell 6 true 5),(.t 7)] (erase c40):=Fn.ofA hmix Tryz.func40 _ _ (by kernel_rfl)
def sh40:FSh:=⟨⟨[(.st y91),(.v y78),(.v y25)],[]⟩,[y91,y78,y25],0,⟨⟨[(.tup [(.agg [(.v y35),(.slc 0),(.slc 1),(.slc 2),(.slc 3)]),(.v y13)])],[(0,(.row 42 y87)),(1,(.row 46 y67)),(2,(.row 59 y68)),(3,(.row 3 y13))]⟩,[y35,y13,y89,y77,y78,y25],[],4⟩,false⟩
noncomputable def q40 (F28:Y198)(F68:Y684)(F69:Y664)(F52:Y172)(F70:Y652)(F66 F71:Y95)(F51:Y153)(a0:Y42)(a1:List Y15)(a2:List Int):Option Y681:=
(F28 a0).bind fun r1=>(
cond (!decide (r1=0)) (
some (([]:List Y1),r1,([]:List Y12),([]:List Y22),([]:List Y15),([]:List Int))) (
(F28 (a0.1,(a0.2.1,(a0.2.2.1,(a1,a2))))).bind fun r2=>(
cond (!decide (r2=0)) (
some (([]:List Y1),r2,([]:List Y12),([]:List Y22),([]:List Y15),([]:List Int))) (
(F68 a0).bind fun r3=>(
(F69 ([a0.2.2.2.1,a1]:List Y28)).bind fun r4=>(
(F52 r4).bind fun r5=>(
(F70 ([a0.2.2.2.2,a2]:List Y2)).bind fun r6=>(
(F66 r6).bind fun r7=>(
(F71 r7).bind fun r8=>(
cond (decide (20 < (↑r5.length:Int))) (
some (([]:List Y1),20,([]:List Y12),([]:List Y22),([]:List Y15),([]:List Int))) (
cond (decide (20 < (↑r8.length:Int))) (
some (([]:List Y1),20,([]:List Y12),([]:List Y22),([]:List Y15),([]:List Int))) (
(F51 r5).bind fun r9=>(
cond r9 (
some (([]:List Y1),21,([]:List Y12),([]:List Y22),([]:List Y15),([]:List Int))) (
some (r3.1,0,r3.2.2.2.1,r3.2.2.2.2,r5,r8)))))))))))))))
theorem g40 (F28:Y198)(F68:Y684)(F69:Y664)(F52:Y172)(F70:Y652)(F66 F71:Y95)(F51:Y153)(a0:Y42)(a1:List Y15)(a2:List Int):dxf (T40 F28 F68 F69 F52 F70 F66 F71 F51) sh40 [(.cell 6 true 5),(.t 7)] c40 (a0,a1,a2)=q40 F28 F68 F69 F52 F70 F66 F71 F51 a0 a1 a2:=by kernel_rfl
noncomputable def p40:=q40 P28 P68 P69 P52 P70 P66 P71 P51
noncomputable def P40:Y686:=fun x=>p40 x.1 x.2.1 x.2.2
theorem v40:dxf (T40 P28 P68 P69 P52 P70 P66 P71 P51) sh40 [(.cell 6 true 5),(.t 7)] c40=P40:=funext fun x=>(g40 P28 P68 P69 P52 P70 P66 P71 P51 x.1 x.2.1 x.2.2)
theorem d40:DC Tryz.prog 40 sh40 P40:=DC_eq v40 (dxf_sound t40 ok40 (by kernel_rfl))
end Go.Proofs.YtdacabdocbhkdaaGreat.D
