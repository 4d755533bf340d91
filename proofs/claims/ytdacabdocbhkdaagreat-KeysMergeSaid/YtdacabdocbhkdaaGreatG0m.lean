/- Cut down from a longer text. -/
import Derived.Test.YtdacabdocbhkdaaGreatGYm
import Derived.Test.YtdacabdocbhkdaaGreatProg
set_option linter.unusedVariables false
set_option maxRecDepth 100000
namespace Go.Proofs.YtdacabdocbhkdaaGreat.D
open Go Go.Proofs L
theorem hmix:Tryz.prog.follows .mixedOrders=true:=by kernel_rfl
noncomputable def T27:List FEnt:=[]
theorem t27:DTblOK Tryz.prog T27:=DTbl_nil
def h27_0:LSh:=⟨[1,3],⟨[(.ptr 0 0),(.v y13)],[(0,(.boxT y91))]⟩,[y13,y91],1,[0]⟩
def x27_0:List XSh:=[⟨.ret,[2],⟨⟨[(.v .bool)],[(0,(.boxT y91))]⟩,[.bool,y91],[0],1⟩⟩,⟨(.exit 0),[1],⟨⟨[(.ptr 0 0)],[(0,(.boxT y91))]⟩,[y91],[0],1⟩⟩]
def h27_1:LSh:=⟨[1,4],⟨[(.ptr 0 0),(.v y13)],[(0,(.boxT y91))]⟩,[y13,y91],1,[0]⟩
def x27_1:List XSh:=[⟨.ret,[2],⟨⟨[(.v .bool)],[(0,(.boxT y91))]⟩,[.bool,y91],[0],1⟩⟩,⟨(.exit 2),[1],⟨⟨[(.ptr 0 0)],[(0,(.boxT y91))]⟩,[y91],[0],1⟩⟩]
def h27_2:LSh:=⟨[1,5],⟨[(.ptr 0 0),(.v y13)],[(0,(.boxT y91))]⟩,[y13,y91],1,[0]⟩
def x27_2:List XSh:=[⟨.ret,[2],⟨⟨[(.v .bool)],[(0,(.boxT y91))]⟩,[.bool,y91],[0],1⟩⟩,⟨(.exit 4),[],⟨⟨[],[(0,(.boxT y91))]⟩,[y91],[0],1⟩⟩]
noncomputable def c27:=anF Tryz.prog [] Tryz.f27 (.s .n (.s .n (.s (.s .n (.b (.l h27_0 x27_0 .n))) (.s (.s .n (.b (.l h27_1 x27_1 .n))) (.s (.s .n (.b (.l h27_2 x27_2 .n))) .n)))))
noncomputable def s27_0 (T:List FEnt):=dstep (xs:=x27_0) h27_0 (dxc T (sb [1,1,0,1,2,2] c27))
noncomputable def l27_0 (T:List FEnt):=whileF (s27_0 T)
noncomputable def q27_0 (a0:Int)(a1:Y42):Option Y79:=
cond (decide (a0 < (↑a1.2.1.length:Int))) (
chk (inR a0 a1.2.1.length) (
cond (decide (50 < (↑(List.length ((ix a1.2.1 a0).2.2.2.2.2.2)):Int))) (
some (Sum.inr (Sum.inl (true,a1)))) (
chk (fits .i64 (a0+1)) (
some (Sum.inl ((a0+1),a1)))))) (
some (Sum.inr (Sum.inr a1)))
theorem g27_0 (a0:Int)(a1:Y42):s27_0 T27 (a0,a1)=q27_0 a0 a1:=by kernel_rfl
noncomputable def p27_0:=q27_0
noncomputable def L27_0:Y73:=whileF (fun x=>p27_0 x.1 x.2)
theorem v27_0:l27_0 T27=L27_0:=congrArg whileF (funext fun x=>(g27_0 x.1 x.2))
noncomputable def s27_1 (T:List FEnt):=dstep (xs:=x27_1) h27_1 (dxc T (sb [1,1,1,0,1,2,2] c27))
noncomputable def l27_1 (T:List FEnt):=whileF (s27_1 T)
noncomputable def q27_1 (a0:Int)(a1:Y42):Option Y79:=
cond (decide (a0 < (↑a1.2.2.1.length:Int))) (
chk (inR a0 a1.2.2.1.length) (
cond (decide (50 < (↑(List.length ((ix a1.2.2.1 a0).2.1)):Int))) (
some (Sum.inr (Sum.inl (true,a1)))) (
chk (inR a0 a1.2.2.1.length) (
cond (decide (50 < (↑(List.length ((ix a1.2.2.1 a0).2.2)):Int))) (
some (Sum.inr (Sum.inl (true,a1)))) (
chk (fits .i64 (a0+1)) (
some (Sum.inl ((a0+1),a1)))))))) (
some (Sum.inr (Sum.inr a1)))
theorem g27_1 (a0:Int)(a1:Y42):s27_1 T27 (a0,a1)=q27_1 a0 a1:=by kernel_rfl
noncomputable def p27_1:=q27_1
noncomputable def L27_1:Y73:=whileF (fun x=>p27_1 x.1 x.2)
theorem v27_1:l27_1 T27=L27_1:=congrArg whileF (funext fun x=>(g27_1 x.1 x.2))
noncomputable def s27_2 (T:List FEnt):=dstep (xs:=x27_2) h27_2 (dxc T (sb [1,1,1,1,0,1,2,2] c27))
noncomputable def l27_2 (T:List FEnt):=whileF (s27_2 T)
noncomputable def q27_2 (a0:Int)(a1:Y42):Option Y79:=
cond (decide (a0 < (↑a1.2.2.2.1.length:Int))) (
chk (inR a0 a1.2.2.2.1.length) (
cond (decide (50 < (↑(List.length ((ix a1.2.2.2.1 a0).2.2.1)):Int))) (
some (Sum.inr (Sum.inl (true,a1)))) (
chk (fits .i64 (a0+1)) (
some (Sum.inl ((a0+1),a1)))))) (
some (Sum.inr (Sum.inr a1)))
theorem g27_2 (a0:Int)(a1:Y42):s27_2 T27 (a0,a1)=q27_2 a0 a1:=by kernel_rfl
noncomputable def p27_2:=q27_2
noncomputable def L27_2:Y73:=whileF (fun x=>p27_2 x.1 x.2)
theorem v27_2:l27_2 T27=L27_2:=congrArg whileF (funext fun x=>(g27_2 x.1 x.2))
theorem ok27:L.Fn Tryz.prog 27 89 [(.t 2)] (erase c27):=Fn.ofA hmix Tryz.func27 _ _ (by kernel_rfl)
def sh27:FSh:=⟨⟨[(.st y91)],[]⟩,[y91],0,⟨⟨[(.v .bool)],[]⟩,[.bool],[],0⟩,true⟩
noncomputable def q27 (l27_0 l27_1 l27_2:Y73)(a0:Y42):Option Bool:=
cond (decide (50 < (↑a0.1.length:Int))) (
some true) (
cond (decide (30 < (↑a0.2.1.length:Int))) (
some true) (
cond (decide (30 < (↑a0.2.2.1.length:Int))) (
some true) (
cond (decide (50 < (↑a0.2.2.2.1.length:Int))) (
some true) (
cond (decide (50 < (↑a0.2.2.2.2.length:Int))) (
some true) (
(l27_0 (0,a0)).bind (fun y1=>Sum.elim (fun y2=>(
some y2.1)) (fun y3=>(
(l27_1 (0,y3)).bind (fun y4=>Sum.elim (fun y5=>(
some y5.1)) (fun y6=>(
(l27_2 (0,y6)).bind (fun y7=>Sum.elim (fun y8=>(
some y8.1)) (fun y9=>(
some false)) y7))) y4))) y1))))))
theorem g27 (a0:Y42):dxf T27 sh27 [(.t 2)] c27 a0=q27 (l27_0 T27) (l27_1 T27) (l27_2 T27) a0:=by kernel_rfl
noncomputable def p27:=q27 L27_0 L27_1 L27_2
noncomputable def P27:Y44:=fun x=>p27 x
theorem v27:dxf T27 sh27 [(.t 2)] c27=P27:=funext fun x=>(g27 x).trans (by rw[v27_0,v27_1,v27_2] <;> rfl)
theorem d27:DC Tryz.prog 27 sh27 P27:=DC_eq v27 (dxf_sound t27 ok27 (by kernel_rfl))
noncomputable def T42:List FEnt:=[]
theorem t42:DTblOK Tryz.prog T42:=DTbl_nil
noncomputable def c42:=anF Tryz.prog [] Tryz.f42 (.s .n (.s (.r [.a 3 true y24,.a 4 false y13,.a 6 false y13,.a 8 false y13,.f 10 5 [],.f 10 7 [],.f 10 9 [],.a 10 true y87,.a 11 false y13,.a 15 true y24,.a 17 false y13,.a 20 true y24,.f 22 12 [],.f 22 16 [],.f 22 18 [],.f 22 21 [],.a 22 true y67,.a 23 false y13,.a 25 false y13,.a 27 false y13,.f 29 24 [],.f 29 26 [],.f 29 28 [],.a 29 true y68]) .n))
theorem ok42:L.Fn Tryz.prog 42 32 [(.cell 0 true 5)] (erase c42):=Fn.ofA hmix Tryz.func42 _ _ (by kernel_rfl)
def sh42:FSh:=⟨⟨[],[]⟩,[],0,⟨⟨[(.agg [(.slc 0),(.slc 1),(.slc 2),(.slc 3),.emp] )],[(0,(.row 64 y24)),(1,(.row 42 y87)),(2,(.row 46 y67)),(3,(.row 59 y68))]⟩,[y35,y89,y77,y78],[],4⟩,false⟩
noncomputable def q42:Option Y56:=
some (([(1,11),(2,22),(3,33)]:List Y1),([(7,(1,(1,(0,(100,(true,([1,2]:List Int))))))),(8,(1,(2,(1,(100,(true,([1,3]:List Int))))))),(9,(2,(1,(0,(20,(false,([3]:List Int)))))))]:List Y12),([(1,(([4,5]:List Int),([(1,11),(2,22),(3,30)]:List Y1))),(2,(([6]:List Int),([(1,11),(3,33)]:List Y1)))]:List Y22),([(1,(7,(([4,5]:List Int),(100,250)))),(2,(7,(([4,5,6]:List Int),(240,400)))),(3,(8,(([4]:List Int),(0,999))))]:List Y15))
theorem g42:dxf T42 sh42 [(.cell 0 true 5)] c42 ()=q42:=by kernel_rfl
noncomputable def p42:Option Y56:=q42
noncomputable def P42:Y60:=fun x=>p42
theorem v42:dxf T42 sh42 [(.cell 0 true 5)] c42=P42:=funext fun x=>(g42)
theorem d42:DC Tryz.prog 42 sh42 P42:=DC_eq v42 (dxf_sound t42 ok42 (by kernel_rfl))
noncomputable def T63:List FEnt:=[]
theorem t63:DTblOK Tryz.prog T63:=DTbl_nil
noncomputable def c63:=anF Tryz.prog [] Tryz.f63 .n
theorem ok63:L.Fn Tryz.prog 63 15 [(.t 6)] (erase c63):=Fn.ofA hmix Tryz.func63 _ _ (by kernel_rfl)
def sh63:FSh:=⟨⟨[(.v y13),(.v y13),(.v y13)],[]⟩,[y13,y13,y13],0,⟨⟨[(.v .bool)],[]⟩,[.bool],[],0⟩,true⟩
noncomputable def q63 (a0 a1 a2:Int):Option Bool:=
cond (decide (a1≤a0)) (
some (decide (a0≤a2))) (
some false)
theorem g63 (a0 a1 a2:Int):dxf T63 sh63 [(.t 6)] c63 (a0,a1,a2)=q63 a0 a1 a2:=by kernel_rfl
noncomputable def p63:=q63
noncomputable def P63:Y6:=fun x=>p63 x.1 x.2.1 x.2.2
theorem v63:dxf T63 sh63 [(.t 6)] c63=P63:=funext fun x=>(g63 x.1 x.2.1 x.2.2)
theorem d63:DC Tryz.prog 63 sh63 P63:=DC_eq v63 (dxf_sound t63 ok63 (by kernel_rfl))
noncomputable def T62 (F63:Y6):List FEnt:=[⟨63,sh63,F63⟩]
theorem t62:DTblOK Tryz.prog (T62 P63):=(DTbl_cons' d63 (by kernel_rfl) DTbl_nil)
noncomputable def c62:=anF Tryz.prog [] Tryz.f62 .n
theorem ok62:L.Fn Tryz.prog 62 5 [(.t 2)] (erase c62):=Fn.ofA hmix Tryz.func62 _ _ (by kernel_rfl)
def sh62:FSh:=⟨⟨[(.v y13)],[]⟩,[y13],0,⟨⟨[(.v .bool)],[]⟩,[.bool],[],0⟩,true⟩
noncomputable def q62 (F63:Y6)(a0:Int):Option Bool:=
(F63 (a0,0,99)).bind fun r1=>(
some r1)
theorem g62 (F63:Y6)(a0:Int):dxf (T62 F63) sh62 [(.t 2)] c62 a0=q62 F63 a0:=by kernel_rfl
noncomputable def p62:=q62 P63
noncomputable def P62:Y7:=fun x=>p62 x
theorem v62:dxf (T62 P63) sh62 [(.t 2)] c62=P62:=funext fun x=>(g62 P63 x)
theorem d62:DC Tryz.prog 62 sh62 P62:=DC_eq v62 (dxf_sound t62 ok62 (by kernel_rfl))
noncomputable def T93 (F62:Y7):List FEnt:=[⟨62,sh62,F62⟩]
theorem t93:DTblOK Tryz.prog (T93 P62):=(DTbl_cons' d62 (by kernel_rfl) DTbl_nil)
def h93_0:LSh:=⟨[0,1,7,8,9],⟨[(.v y25),(.v y13),(.v y25),(.v y13),(.v y13)],[]⟩,[y25,y13,y25,y13,y13],0,[]⟩
def x93_0:List XSh:=[⟨.ret,[4],⟨⟨[(.v .bool)],[]⟩,[.bool],[],0⟩⟩,⟨(.exit 0),[0,1],⟨⟨[(.v y25),(.v y13)],[]⟩,[y25,y13],[],0⟩⟩]
noncomputable def c93:=anF Tryz.prog [] Tryz.f93 (.s .n (.s (.s .n (.b (.l h93_0 x93_0 .n))) .n))
noncomputable def s93_0 (T:List FEnt):=dstep (xs:=x93_0) h93_0 (dxc T (sb [1,0,1,2,2] c93))
noncomputable def l93_0 (T:List FEnt):=whileF (s93_0 T)
noncomputable def q93_0 (F62:Y7)(a0:List Int)(a1:Int)(a2:List Int)(a3 a4:Int):Option Y39:=
cond (decide (a4 < a3)) (
chk (inR a4 a2.length) (
(F62 (ix a2 a4)).bind fun r1=>(
cond (!r1) (
some (Sum.inr (Sum.inl false))) (
cond (decide (0 < a4)) (
chk (fits .i64 (a4-1)) (
chk (inR (a4-1) a0.length) (
cond (decide ((ix a2 a4)≤(ix a0 (a4-1)))) (
some (Sum.inr (Sum.inl false))) (
chk (fits .i64 (a4+1)) (
some (Sum.inl (a0,a1,a2,a3,(a4+1)))))))) (
chk (fits .i64 (a4+1)) (
some (Sum.inl (a0,a1,a2,a3,(a4+1))))))))) (
some (Sum.inr (Sum.inr (a0,a1))))
theorem g93_0 (F62:Y7)(a0:List Int)(a1:Int)(a2:List Int)(a3 a4:Int):s93_0 (T93 F62) (a0,a1,a2,a3,a4)=q93_0 F62 a0 a1 a2 a3 a4:=by kernel_rfl
noncomputable def p93_0:=q93_0 P62
noncomputable def L93_0:Y33:=whileF (fun x=>p93_0 x.1 x.2.1 x.2.2.1 x.2.2.2.1 x.2.2.2.2)
theorem v93_0:l93_0 (T93 P62) =L93_0:=congrArg whileF (funext fun x=>(g93_0 P62 x.1 x.2.1 x.2.2.1 x.2.2.2.1 x.2.2.2.2))
theorem ok93:L.Fn Tryz.prog 93 35 [(.t 4)] (erase c93):=Fn.ofA hmix Tryz.func93 _ _ (by kernel_rfl)
def sh93:FSh:=⟨⟨[(.v y25),(.v y13)],[]⟩,[y25,y13],0,⟨⟨[(.v .bool)],[]⟩,[.bool],[],0⟩,true⟩
noncomputable def q93 (F62:Y7)(l93_0:Y33)(a0:List Int)(a1:Int):Option Bool:=
(l93_0 (a0,a1,a0,(↑a0.length:Int),0)).bind (fun y2=>Sum.elim (fun y3=>(
some y3)) (fun y4=>(
some (decide ((↑y4.1.length:Int)≤y4.2)))) y2)
theorem g93 (F62:Y7)(a0:List Int)(a1:Int):dxf (T93 F62) sh93 [(.t 4)] c93 (a0,a1)=q93 F62 (l93_0 (T93 F62)) a0 a1:=by kernel_rfl
noncomputable def p93:=q93 P62 L93_0
noncomputable def P93:Y8:=fun x=>p93 x.1 x.2
theorem v93:dxf (T93 P62) sh93 [(.t 4)] c93=P93:=funext fun x=>(g93 P62 x.1 x.2).trans (by rw[v93_0] <;> rfl)
theorem d93:DC Tryz.prog 93 sh93 P93:=DC_eq v93 (dxf_sound t93 ok93 (by kernel_rfl))
noncomputable def T96 (F63:Y6):List FEnt:=[⟨63,sh63,F63⟩]
theorem t96:DTblOK Tryz.prog (T96 P63):=(DTbl_cons' d63 (by kernel_rfl) DTbl_nil)
noncomputable def c96:=anF Tryz.prog [(1,{ch:=[0,1,0,0,0,0,0],rs:=[1] })] Tryz.f96 .n
theorem ok96:L.Fn Tryz.prog 96 9 [(.t 2),(.t 3)] (erase c96):=Fn.ofA hmix Tryz.func96 _ _ (by kernel_rfl)
def sh96:FSh:=⟨⟨[(.st y24)],[]⟩,[y24],0,⟨⟨[(.tup [(.v y13),(.v .bool)])],[]⟩,[y13,.bool],[],0⟩,true⟩
noncomputable def q96 (F63:Y6)(a0:Int×Int):Option Y3:=
(F63 (a0.2,0,999)).bind fun r1=>(
some (a0.1,r1))
theorem g96 (F63:Y6)(a0:Int×Int):dxf (T96 F63) sh96 [(.t 2),(.t 3)] c96 a0=q96 F63 a0:=by kernel_rfl
noncomputable def p96:=q96 P63
noncomputable def P96:Y9:=fun x=>p96 x
theorem v96:dxf (T96 P63) sh96 [(.t 2),(.t 3)] c96=P96:=funext fun x=>(g96 P63 x)
theorem d96:DC Tryz.prog 96 sh96 P96:=DC_eq v96 (dxf_sound t96 ok96 (by kernel_rfl))
noncomputable def T95 (F96:Y9)(F62:Y7):List FEnt:=[⟨96,sh96,F96⟩,⟨62,sh62,F62⟩]
theorem t95:DTblOK Tryz.prog (T95 P96 P62):=(DTbl_cons' d96 (by kernel_rfl) (DTbl_cons' d62 (by kernel_rfl) DTbl_nil))
def h95_0:LSh:=⟨[1,5,11,12,13],⟨[(.fn 96 []),(.mp 0),(.v y35),(.v y13),(.v y13)],[(0,(.imap 0 false y13))]⟩,[y35,y13,y13,y26],1,[0]⟩
def x95_0:List XSh:=[⟨.ret,[4],⟨⟨[(.v .bool)],[(0,(.imap 0 false y13))]⟩,[.bool,y26],[0],1⟩⟩,⟨(.exit 0),[],⟨⟨[],[(0,(.imap 0 false y13))]⟩,[y26],[0],1⟩⟩]
noncomputable def c95:=anF Tryz.prog [] Tryz.f95 (.s .n (.s (.r [.a 0 false y13]) (.s (.s .n (.b (.l h95_0 x95_0 .n))) .n)))
noncomputable def s95_0 (T:List FEnt):=dstep (xs:=x95_0) h95_0 (dxc T (sb [1,1,0,1,2,2] c95))
noncomputable def l95_0 (T:List FEnt):=whileF (s95_0 T)
noncomputable def q95_0 (F96:Y9)(F62:Y7)(a0:List Y1)(a1 a2:Int)(a3:List Y4):Option Y57:=
cond (decide (a2 < a1)) (
chk (inR a2 a0.length) (
(F96 (ix a0 a2)).bind fun r1=>(
chk (fits .i64 ((dof (kget a3 [r1.1]) 0)+1)) (
cond (decide (1 < (dof (kget (kput a3 [r1.1] ((dof (kget a3 [r1.1]) 0)+1)) [r1.1]) 0))) (
some (Sum.inr (Sum.inl (false,(kput a3 [r1.1] ((dof (kget a3 [r1.1]) 0)+1)))))) (
cond (!r1.2) (
some (Sum.inr (Sum.inl (false,(kput a3 [r1.1] ((dof (kget a3 [r1.1]) 0)+1)))))) (
(F62 r1.1).bind fun r2=>(
cond (!r2) (
some (Sum.inr (Sum.inl (false,(kput a3 [r1.1] ((dof (kget a3 [r1.1]) 0)+1)))))) (
chk (fits .i64 (a2+1)) (
some (Sum.inl (a0,a1,(a2+1),(kput a3 [r1.1] ((dof (kget a3 [r1.1]) 0)+1))))))))))))) (
some (Sum.inr (Sum.inr a3)))
theorem g95_0 (F96:Y9)(F62:Y7)(a0:List Y1)(a1 a2:Int)(a3:List Y4):s95_0 (T95 F96 F62) (a0,a1,a2,a3)=q95_0 F96 F62 a0 a1 a2 a3:=by kernel_rfl
noncomputable def p95_0:=q95_0 P96 P62
noncomputable def L95_0:Y46:=whileF (fun x=>p95_0 x.1 x.2.1 x.2.2.1 x.2.2.2)
theorem v95_0:l95_0 (T95 P96 P62) =L95_0:=congrArg whileF (funext fun x=>(g95_0 P96 P62 x.1 x.2.1 x.2.2.1 x.2.2.2))
theorem ok95:L.Fn Tryz.prog 95 41 [(.t 4)] (erase c95):=Fn.ofA hmix Tryz.func95 _ _ (by kernel_rfl)
def sh95:FSh:=⟨⟨[(.v y35),(.fn 96 [])],[]⟩,[y35],0,⟨⟨[(.v .bool)],[]⟩,[.bool],[],0⟩,true⟩
noncomputable def q95 (F96:Y9)(F62:Y7)(l95_0:Y46)(a0:List Y1):Option Bool:=
(l95_0 (a0,(↑a0.length:Int),0,([]:List Y4))).bind (fun y3=>Sum.elim (fun y4=>(
some y4.1)) (fun y5=>(
some true)) y3)
theorem g95 (F96:Y9)(F62:Y7)(a0:List Y1):dxf (T95 F96 F62) sh95 [(.t 4)] c95 a0=q95 F96 F62 (l95_0 (T95 F96 F62)) a0:=by kernel_rfl
noncomputable def p95:=q95 P96 P62 L95_0
noncomputable def P95:Y10:=fun x=>p95 x
theorem v95:dxf (T95 P96 P62) sh95 [(.t 4)] c95=P95:=funext fun x=>(g95 P96 P62 x).trans (by rw[v95_0] <;> rfl)
theorem d95:DC Tryz.prog 95 sh95 P95:=DC_eq v95 (dxf_sound t95 ok95 (by kernel_rfl))
noncomputable def T90:List FEnt:=[]
theorem t90:DTblOK Tryz.prog T90:=DTbl_nil
noncomputable def c90:=anF Tryz.prog [] Tryz.f90 .n
theorem ok90:L.Fn Tryz.prog 90 8 [(.t 3)] (erase c90):=Fn.ofA hmix Tryz.func90 _ _ (by kernel_rfl)
def sh90:FSh:=⟨⟨[(.st y24),(.elm y13)],[]⟩,[y24,y13],0,⟨⟨[(.v .bool)],[]⟩,[.bool],[],0⟩,true⟩
noncomputable def q90 (a0:Int×Int)(a1:Int):Option Bool:=
some (decide (a0.1=a1))
theorem g90 (a0:Int×Int)(a1:Int):dxf T90 sh90 [(.t 3)] c90 (a0,a1)=q90 a0 a1:=by kernel_rfl
noncomputable def p90:=q90
noncomputable def P90:Y11:=fun x=>p90 x.1 x.2
theorem v90:dxf T90 sh90 [(.t 3)] c90=P90:=funext fun x=>(g90 x.1 x.2)
theorem d90:DC Tryz.prog 90 sh90 P90:=DC_eq v90 (dxf_sound t90 ok90 (by kernel_rfl))
noncomputable def T123 (F90:Y11):List FEnt:=[⟨90,sh90,F90⟩]
theorem t123:DTblOK Tryz.prog (T123 P90):=(DTbl_cons' d90 (by kernel_rfl) DTbl_nil)
def h123_0:LSh:=⟨[0,1,7,8],⟨[(.v y35),(.fn 90 [(.elm y13)]),(.v y13),(.v y13)],[]⟩,[y35,y13,y13,y13],0,[]⟩
def x123_0:List XSh:=[⟨.ret,[4],⟨⟨[(.v y13)],[]⟩,[y13],[],0⟩⟩,⟨(.exit 0),[],⟨⟨[],[]⟩,[],[],0⟩⟩]
noncomputable def c123:=anF Tryz.prog [] Tryz.f123 (.s .n (.s (.s .n (.b (.l h123_0 x123_0 .n))) .n))
noncomputable def s123_0 (T:List FEnt):=dstep (xs:=x123_0) h123_0 (dxc T (sb [1,0,1,2,2] c123))
noncomputable def l123_0 (T:List FEnt):=whileF (s123_0 T)
noncomputable def q123_0 (F90:Y11)(a0:List Y1)(a1 a2 a3:Int):Option Y41:=
cond (decide (a3 < a2)) (
chk (inR a3 a0.length) (
(F90 ((ix a0 a3),a1)).bind fun r1=>(
cond r1 (
some (Sum.inr (Sum.inl a3))) (
chk (fits .i64 (a3+1)) (
some (Sum.inl (a0,a1,a2,(a3+1)))))))) (
some (Sum.inr (Sum.inr ())))
theorem g123_0 (F90:Y11)(a0:List Y1)(a1 a2 a3:Int):s123_0 (T123 F90) (a0,a1,a2,a3)=q123_0 F90 a0 a1 a2 a3:=by kernel_rfl
noncomputable def p123_0:=q123_0 P90
noncomputable def L123_0:Y19:=whileF (fun x=>p123_0 x.1 x.2.1 x.2.2.1 x.2.2.2)
theorem v123_0:l123_0 (T123 P90) =L123_0:=congrArg whileF (funext fun x=>(g123_0 P90 x.1 x.2.1 x.2.2.1 x.2.2.2))
theorem ok123:L.Fn Tryz.prog 123 19 [(.t 4)] (erase c123):=Fn.ofA hmix Tryz.func123 _ _ (by kernel_rfl)
def sh123:FSh:=⟨⟨[(.v y35),(.fn 90 [(.elm y13)])],[]⟩,[y35,y13],0,⟨⟨[(.v y13)],[]⟩,[y13],[],0⟩,true⟩
noncomputable def q123 (F90:Y11)(l123_0:Y19)(a0:List Y1)(a1:Int):Option Int:=
(l123_0 (a0,a1,(↑a0.length:Int),0)).bind (fun y2=>Sum.elim (fun y3=>(
some y3)) (fun y4=>(
some (-1))) y2)
theorem g123 (F90:Y11)(a0:List Y1)(a1:Int):dxf (T123 F90) sh123 [(.t 4)] c123 (a0,a1)=q123 F90 (l123_0 (T123 F90)) a0 a1:=by kernel_rfl
noncomputable def p123:=q123 P90 L123_0
noncomputable def P123:Y20:=fun x=>p123 x.1 x.2
theorem v123:dxf (T123 P90) sh123 [(.t 4)] c123=P123:=funext fun x=>(g123 P90 x.1 x.2).trans (by rw[v123_0] <;> rfl)
theorem d123:DC Tryz.prog 123 sh123 P123:=DC_eq v123 (dxf_sound t123 ok123 (by kernel_rfl))
noncomputable def T89 (F123:Y20):List FEnt:=[⟨123,sh123,F123⟩]
theorem t89:DTblOK Tryz.prog (T89 P123):=(DTbl_cons' d123 (by kernel_rfl) DTbl_nil)
noncomputable def c89:=anF Tryz.prog [] Tryz.f89 .n
theorem ok89:L.Fn Tryz.prog 89 9 [(.t 4)] (erase c89):=Fn.ofA hmix Tryz.func89 _ _ (by kernel_rfl)
def sh89:FSh:=⟨⟨[(.v y35),(.fn 90 [(.elm y13)])],[]⟩,[y35,y13],0,⟨⟨[(.v .bool)],[]⟩,[.bool],[],0⟩,true⟩
noncomputable def q89 (F123:Y20)(a0:List Y1)(a1:Int):Option Bool:=
(F123 (a0,a1)).bind fun r1=>(
some (decide (0≤r1)))
theorem g89 (F123:Y20)(a0:List Y1)(a1:Int):dxf (T89 F123) sh89 [(.t 4)] c89 (a0,a1)=q89 F123 a0 a1:=by kernel_rfl
noncomputable def p89:=q89 P123
noncomputable def P89:Y21:=fun x=>p89 x.1 x.2
theorem v89:dxf (T89 P123) sh89 [(.t 4)] c89=P89:=funext fun x=>(g89 P123 x.1 x.2)
theorem d89:DC Tryz.prog 89 sh89 P89:=DC_eq v89 (dxf_sound t89 ok89 (by kernel_rfl))
noncomputable def T88 (F89:Y21):List FEnt:=[⟨89,sh89,F89⟩]
theorem t88:DTblOK Tryz.prog (T88 P89):=(DTbl_cons' d89 (by kernel_rfl) DTbl_nil)
noncomputable def c88:=anF Tryz.prog [] Tryz.f88 .n
theorem ok88:L.Fn Tryz.prog 88 8 [(.t 3)] (erase c88):=Fn.ofA hmix Tryz.func88 _ _ (by kernel_rfl)
def sh88:FSh:=⟨⟨[(.v y13),(.elm y91)],[]⟩,[y13,y91],0,⟨⟨[(.v .bool)],[]⟩,[.bool],[],0⟩,true⟩
noncomputable def q88 (F89:Y21)(a0:Int)(a1:Y42):Option Bool:=
(F89 (a1.1,a0)).bind fun r1=>(
some r1)
theorem g88 (F89:Y21)(a0:Int)(a1:Y42):dxf (T88 F89) sh88 [(.t 3)] c88 (a0,a1)=q88 F89 a0 a1:=by kernel_rfl
noncomputable def p88:=q88 P89
noncomputable def P88:Y48:=fun x=>p88 x.1 x.2
theorem v88:dxf (T88 P89) sh88 [(.t 3)] c88=P88:=funext fun x=>(g88 P89 x.1 x.2)
theorem d88:DC Tryz.prog 88 sh88 P88:=DC_eq v88 (dxf_sound t88 ok88 (by kernel_rfl))
noncomputable def T92 (F88:Y48):List FEnt:=[⟨88,sh88,F88⟩]
theorem t92:DTblOK Tryz.prog (T92 P88):=(DTbl_cons' d88 (by kernel_rfl) DTbl_nil)
noncomputable def c92:=anF Tryz.prog [] Tryz.f92 .n
theorem ok92:L.Fn Tryz.prog 92 8 [(.t 3)] (erase c92):=Fn.ofA hmix Tryz.func92 _ _ (by kernel_rfl)
def sh92:FSh:=⟨⟨[(.v y13),(.ptr 0 0)],[(0,(.box [(.fn 88 [(.elm y91)])]))]⟩,[y13,y91],1,⟨⟨[(.v .bool)],[(0,(.box [(.fn 88 [(.elm y91)])]))]⟩,[.bool,y91],[0],1⟩,false⟩
noncomputable def q92 (F88:Y48)(a0:Int)(a1:Y42):Option Y43:=
(F88 (a0,a1)).bind fun r1=>(
some ((!r1),a1))
theorem g92 (F88:Y48)(a0:Int)(a1:Y42):dxf (T92 F88) sh92 [(.t 3)] c92 (a0,a1)=q92 F88 a0 a1:=by kernel_rfl
noncomputable def p92:=q92 P88
noncomputable def P92:Y62:=fun x=>p92 x.1 x.2
theorem v92:dxf (T92 P88) sh92 [(.t 3)] c92=P92:=funext fun x=>(g92 P88 x.1 x.2)
theorem d92:DC Tryz.prog 92 sh92 P92:=DC_eq v92 (dxf_sound t92 ok92 (by kernel_rfl))
noncomputable def T80 (F92:Y62):List FEnt:=[⟨92,sh92,F92⟩]
theorem t80:DTblOK Tryz.prog (T80 P92):=(DTbl_cons' d92 (by kernel_rfl) DTbl_nil)
def h80_0:LSh:=⟨[0,1,7,8],⟨[(.v y25),(.fn 92 [(.ptr 0 0)]),(.v y13),(.v y13)],[(0,(.box [(.fn 88 [(.elm y91)])]))]⟩,[y25,y13,y13,y91],1,[0]⟩
def x80_0:List XSh:=[⟨.ret,[4],⟨⟨[(.v y13)],[(0,(.box [(.fn 88 [(.elm y91)])]))]⟩,[y13,y91],[0],1⟩⟩,⟨(.exit 0),[],⟨⟨[],[(0,(.box [(.fn 88 [(.elm y91)])]))]⟩,[y91],[0],1⟩⟩]
noncomputable def c80:=anF Tryz.prog [] Tryz.f80 (.s .n (.s (.s .n (.b (.l h80_0 x80_0 .n))) .n))
noncomputable def s80_0 (T:List FEnt):=dstep (xs:=x80_0) h80_0 (dxc T (sb [1,0,1,2,2] c80))
noncomputable def l80_0 (T:List FEnt):=whileF (s80_0 T)
noncomputable def q80_0 (F92:Y62)(a0:List Int)(a1 a2:Int)(a3:Y42):Option Y80:=
cond (decide (a2 < a1)) (
chk (inR a2 a0.length) (
(F92 ((ix a0 a2),a3)).bind fun r1=>(
cond r1.1 (
some (Sum.inr (Sum.inl (a2,r1.2)))) (
chk (fits .i64 (a2+1)) (
some (Sum.inl (a0,a1,(a2+1),r1.2))))))) (
some (Sum.inr (Sum.inr a3)))
theorem g80_0 (F92:Y62)(a0:List Int)(a1 a2:Int)(a3:Y42):s80_0 (T80 F92) (a0,a1,a2,a3)=q80_0 F92 a0 a1 a2 a3:=by kernel_rfl
noncomputable def p80_0:=q80_0 P92
noncomputable def L80_0:Y74:=whileF (fun x=>p80_0 x.1 x.2.1 x.2.2.1 x.2.2.2)
theorem v80_0:l80_0 (T80 P92) =L80_0:=congrArg whileF (funext fun x=>(g80_0 P92 x.1 x.2.1 x.2.2.1 x.2.2.2))
theorem ok80:L.Fn Tryz.prog 80 19 [(.t 4)] (erase c80):=Fn.ofA hmix Tryz.func80 _ _ (by kernel_rfl)
def sh80:FSh:=⟨⟨[(.v y25),(.fn 92 [(.ptr 0 0)])],[(0,(.box [(.fn 88 [(.elm y91)])]))]⟩,[y25,y91],1,⟨⟨[(.v y13)],[(0,(.box [(.fn 88 [(.elm y91)])]))]⟩,[y13,y91],[0],1⟩,false⟩
noncomputable def q80 (F92:Y62)(l80_0:Y74)(a0:List Int)(a1:Y42):Option Y49:=
(l80_0 (a0,(↑a0.length:Int),0,a1)).bind (fun y2=>Sum.elim (fun y3=>(
some (y3.1,y3.2))) (fun y4=>(
some ((-1),y4))) y2)
theorem g80 (F92:Y62)(a0:List Int)(a1:Y42):dxf (T80 F92) sh80 [(.t 4)] c80 (a0,a1)=q80 F92 (l80_0 (T80 F92)) a0 a1:=by kernel_rfl
noncomputable def p80:=q80 P92 L80_0
noncomputable def P80:Y63:=fun x=>p80 x.1 x.2
theorem v80:dxf (T80 P92) sh80 [(.t 4)] c80=P80:=funext fun x=>(g80 P92 x.1 x.2).trans (by rw[v80_0] <;> rfl)
theorem d80:DC Tryz.prog 80 sh80 P80:=DC_eq v80 (dxf_sound t80 ok80 (by kernel_rfl))
noncomputable def T91 (F80:Y63):List FEnt:=[⟨80,sh80,F80⟩]
theorem t91:DTblOK Tryz.prog (T91 P80):=(DTbl_cons' d80 (by kernel_rfl) DTbl_nil)
noncomputable def c91:=anF Tryz.prog [] Tryz.f91 .n
theorem ok91:L.Fn Tryz.prog 91 9 [(.t 4)] (erase c91):=Fn.ofA hmix Tryz.func91 _ _ (by kernel_rfl)
def sh91:FSh:=⟨⟨[(.v y25),(.fn 92 [(.ptr 0 0)])],[(0,(.box [(.fn 88 [(.elm y91)])]))]⟩,[y25,y91],1,⟨⟨[(.v .bool)],[(0,(.box [(.fn 88 [(.elm y91)])]))]⟩,[.bool,y91],[0],1⟩,false⟩
noncomputable def q91 (F80:Y63)(a0:List Int)(a1:Y42):Option Y43:=
(F80 (a0,a1)).bind fun r1=>(
some (decide (0≤r1.1),r1.2))
theorem g91 (F80:Y63)(a0:List Int)(a1:Y42):dxf (T91 F80) sh91 [(.t 4)] c91 (a0,a1)=q91 F80 a0 a1:=by kernel_rfl
noncomputable def p91:=q91 P80
noncomputable def P91:Y64:=fun x=>p91 x.1 x.2
theorem v91:dxf (T91 P80) sh91 [(.t 4)] c91=P91:=funext fun x=>(g91 P80 x.1 x.2)
theorem d91:DC Tryz.prog 91 sh91 P91:=DC_eq v91 (dxf_sound t91 ok91 (by kernel_rfl))
noncomputable def T87 (F62:Y7)(F63:Y6)(F91:Y64)(F93:Y8):List FEnt:=[⟨62,sh62,F62⟩,⟨63,sh63,F63⟩,⟨91,sh91,F91⟩,⟨93,sh93,F93⟩]
theorem t87:DTblOK Tryz.prog (T87 P62 P63 P91 P93):=(DTbl_cons' d62 (by kernel_rfl) (DTbl_cons' d63 (by kernel_rfl) (DTbl_cons' d91 (by kernel_rfl) (DTbl_cons' d93 (by kernel_rfl) DTbl_nil))))
noncomputable def c87:=anF Tryz.prog [(4,{ch:=[0,1,0,0,0,0,0,0,0,0,0,0,0,0,0,0,0,0,0,0],rs:=[2] })] Tryz.f87 .n
theorem ok87:L.Fn Tryz.prog 87 49 [(.t 3),(.t 4)] (erase c87):=Fn.ofA hmix Tryz.func87 _ _ (by kernel_rfl)
def sh87:FSh:=⟨⟨[(.st y87),(.elm y91)],[]⟩,[y87,y91],0,⟨⟨[(.tup [(.v y13),(.v .bool)])],[]⟩,[y13,.bool],[],0⟩,true⟩
noncomputable def q87 (F62:Y7)(F63:Y6)(F91:Y64)(F93:Y8)(a0:Y12)(a1:Y42):Option Y3:=
(F62 a0.2.1).bind fun r1=>(
cond r1 (
(F63 (a0.2.2.1,0,9)).bind fun r2=>(
cond r2 (
(F63 (a0.2.2.2.1,0,9)).bind fun r3=>(
cond r3 (
(F63 (a0.2.2.2.2.1,1,400)).bind fun r4=>(
(F91 (a0.2.2.2.2.2.2,a1)).bind fun r5=>(
cond r4 (
cond (decide (0 < (↑a0.2.2.2.2.2.2.length:Int))) (
(F93 (a0.2.2.2.2.2.2,12)).bind fun r6=>(
cond r6 (
some (a0.1,(!r5.1))) (
some (a0.1,false)))) (
some (a0.1,false))) (
some (a0.1,false))))) (
(F91 (a0.2.2.2.2.2.2,a1)).bind fun r7=>(
some (a0.1,false))))) (
(F91 (a0.2.2.2.2.2.2,a1)).bind fun r8=>(
some (a0.1,false))))) (
(F91 (a0.2.2.2.2.2.2,a1)).bind fun r9=>(
some (a0.1,false))))
theorem g87 (F62:Y7)(F63:Y6)(F91:Y64)(F93:Y8)(a0:Y12)(a1:Y42):dxf (T87 F62 F63 F91 F93) sh87 [(.t 3),(.t 4)] c87 (a0,a1)=q87 F62 F63 F91 F93 a0 a1:=by kernel_rfl
noncomputable def p87:=q87 P62 P63 P91 P93
noncomputable def P87:Y50:=fun x=>p87 x.1 x.2
theorem v87:dxf (T87 P62 P63 P91 P93) sh87 [(.t 3),(.t 4)] c87=P87:=funext fun x=>(g87 P62 P63 P91 P93 x.1 x.2)
theorem d87:DC Tryz.prog 87 sh87 P87:=DC_eq v87 (dxf_sound t87 ok87 (by kernel_rfl))
noncomputable def T97 (F87:Y50)(F62:Y7):List FEnt:=[⟨87,sh87,F87⟩,⟨62,sh62,F62⟩]
theorem t97:DTblOK Tryz.prog (T97 P87 P62):=(DTbl_cons' d87 (by kernel_rfl) (DTbl_cons' d62 (by kernel_rfl) DTbl_nil))
def h97_0:LSh:=⟨[1,5,11,12,13],⟨[(.fn 87 [(.elm y91)]),(.mp 0),(.v y89),(.v y13),(.v y13)],[(0,(.imap 0 false y13))]⟩,[y91,y89,y13,y13,y26],1,[0]⟩
noncomputable def c97:=anF Tryz.prog [] Tryz.f97 (.s .n (.s (.r [.a 0 false y13]) (.s (.s .n (.b (.l h97_0 x95_0 .n))) .n)))
noncomputable def s97_0 (T:List FEnt):=dstep (xs:=x95_0) h97_0 (dxc T (sb [1,1,0,1,2,2] c97))
noncomputable def l97_0 (T:List FEnt):=whileF (s97_0 T)
noncomputable def q97_0 (F87:Y50)(F62:Y7)(a0:Y42)(a1:List Y12)(a2 a3:Int)(a4:List Y4):Option Y81:=
cond (decide (a3 < a2)) (
chk (inR a3 a1.length) (
(F87 ((ix a1 a3),a0)).bind fun r1=>(
chk (fits .i64 ((dof (kget a4 [r1.1]) 0)+1)) (
cond (decide (1 < (dof (kget (kput a4 [r1.1] ((dof (kget a4 [r1.1]) 0)+1)) [r1.1]) 0))) (
some (Sum.inr (Sum.inl (false,(kput a4 [r1.1] ((dof (kget a4 [r1.1]) 0)+1)))))) (
cond (!r1.2) (
some (Sum.inr (Sum.inl (false,(kput a4 [r1.1] ((dof (kget a4 [r1.1]) 0)+1)))))) (
(F62 r1.1).bind fun r2=>(
cond (!r2) (
some (Sum.inr (Sum.inl (false,(kput a4 [r1.1] ((dof (kget a4 [r1.1]) 0)+1)))))) (
chk (fits .i64 (a3+1)) (
some (Sum.inl (a0,a1,a2,(a3+1),(kput a4 [r1.1] ((dof (kget a4 [r1.1]) 0)+1))))))))))))) (
some (Sum.inr (Sum.inr a4)))
theorem g97_0 (F87:Y50)(F62:Y7)(a0:Y42)(a1:List Y12)(a2 a3:Int)(a4:List Y4):s97_0 (T97 F87 F62) (a0,a1,a2,a3,a4)=q97_0 F87 F62 a0 a1 a2 a3 a4:=by kernel_rfl
noncomputable def p97_0:=q97_0 P87 P62
noncomputable def L97_0:Y65:=whileF (fun x=>p97_0 x.1 x.2.1 x.2.2.1 x.2.2.2.1 x.2.2.2.2)
theorem v97_0:l97_0 (T97 P87 P62) =L97_0:=congrArg whileF (funext fun x=>(g97_0 P87 P62 x.1 x.2.1 x.2.2.1 x.2.2.2.1 x.2.2.2.2))
theorem ok97:L.Fn Tryz.prog 97 41 [(.t 4)] (erase c97):=Fn.ofA hmix Tryz.func97 _ _ (by kernel_rfl)
def sh97:FSh:=⟨⟨[(.v y89),(.fn 87 [(.elm y91)])],[]⟩,[y89,y91],0,⟨⟨[(.v .bool)],[]⟩,[.bool],[],0⟩,true⟩
noncomputable def q97 (F87:Y50)(F62:Y7)(l97_0:Y65)(a0:List Y12)(a1:Y42):Option Bool:=
(l97_0 (a1,a0,(↑a0.length:Int),0,([]:List Y4))).bind (fun y3=>Sum.elim (fun y4=>(
some y4.1)) (fun y5=>(
some true)) y3)
theorem g97 (F87:Y50)(F62:Y7)(a0:List Y12)(a1:Y42):dxf (T97 F87 F62) sh97 [(.t 4)] c97 (a0,a1)=q97 F87 F62 (l97_0 (T97 F87 F62)) a0 a1:=by kernel_rfl
noncomputable def p97:=q97 P87 P62 L97_0
noncomputable def P97:Y51:=fun x=>p97 x.1 x.2
theorem v97:dxf (T97 P87 P62) sh97 [(.t 4)] c97=P97:=funext fun x=>(g97 P87 P62 x.1 x.2).trans (by rw[v97_0] <;> rfl)
theorem d97:DC Tryz.prog 97 sh97 P97:=DC_eq v97 (dxf_sound t97 ok97 (by kernel_rfl))
noncomputable def T94 (F93:Y8)(F95:Y10):List FEnt:=[⟨93,sh93,F93⟩,⟨95,sh95,F95⟩]
theorem t94:DTblOK Tryz.prog (T94 P93 P95):=(DTbl_cons' d93 (by kernel_rfl) (DTbl_cons' d95 (by kernel_rfl) DTbl_nil))
noncomputable def c94:=anF Tryz.prog [(1,{ch:=[0,1,0,0,0,0,0,0,0,0,0,0,0,0,0,0,0,0,0,0,0,0,0,0],rs:=[1] })] Tryz.f94 .n
theorem ok94:L.Fn Tryz.prog 94 26 [(.t 2),(.t 3)] (erase c94):=Fn.ofA hmix Tryz.func94 _ _ (by kernel_rfl)
def sh94:FSh:=⟨⟨[(.st y67)],[]⟩,[y67],0,⟨⟨[(.tup [(.v y13),(.v .bool)])],[]⟩,[y13,.bool],[],0⟩,true⟩
noncomputable def q94 (F93:Y8)(F95:Y10)(a0:Y22):Option Y3:=
cond (decide (0 < (↑a0.2.1.length:Int))) (
(F93 (a0.2.1,6)).bind fun r1=>(
cond r1 (
cond (decide ((↑a0.2.2.length:Int)≤20)) (
(F95 a0.2.2).bind fun r2=>(
some (a0.1,r2))) (
some (a0.1,false))) (
some (a0.1,false)))) (
some (a0.1,false))
theorem g94 (F93:Y8)(F95:Y10)(a0:Y22):dxf (T94 F93 F95) sh94 [(.t 2),(.t 3)] c94 a0=q94 F93 F95 a0:=by kernel_rfl
noncomputable def p94:=q94 P93 P95
noncomputable def P94:Y23:=fun x=>p94 x
theorem v94:dxf (T94 P93 P95) sh94 [(.t 2),(.t 3)] c94=P94:=funext fun x=>(g94 P93 P95 x)
theorem d94:DC Tryz.prog 94 sh94 P94:=DC_eq v94 (dxf_sound t94 ok94 (by kernel_rfl))
noncomputable def T98 (F94:Y23)(F62:Y7):List FEnt:=[⟨94,sh94,F94⟩,⟨62,sh62,F62⟩]
theorem t98:DTblOK Tryz.prog (T98 P94 P62):=(DTbl_cons' d94 (by kernel_rfl) (DTbl_cons' d62 (by kernel_rfl) DTbl_nil))
def h98_0:LSh:=⟨[1,5,11,12,13],⟨[(.fn 94 []),(.mp 0),(.v y77),(.v y13),(.v y13)],[(0,(.imap 0 false y13))]⟩,[y77,y13,y13,y26],1,[0]⟩
noncomputable def c98:=anF Tryz.prog [] Tryz.f98 (.s .n (.s (.r [.a 0 false y13]) (.s (.s .n (.b (.l h98_0 x95_0 .n))) .n)))
noncomputable def s98_0 (T:List FEnt):=dstep (xs:=x95_0) h98_0 (dxc T (sb [1,1,0,1,2,2] c98))
noncomputable def l98_0 (T:List FEnt):=whileF (s98_0 T)
noncomputable def q98_0 (F94:Y23)(F62:Y7)(a0:List Y22)(a1 a2:Int)(a3:List Y4):Option Y72:=
cond (decide (a2 < a1)) (
chk (inR a2 a0.length) (
(F94 (ix a0 a2)).bind fun r1=>(
chk (fits .i64 ((dof (kget a3 [r1.1]) 0)+1)) (
cond (decide (1 < (dof (kget (kput a3 [r1.1] ((dof (kget a3 [r1.1]) 0)+1)) [r1.1]) 0))) (
some (Sum.inr (Sum.inl (false,(kput a3 [r1.1] ((dof (kget a3 [r1.1]) 0)+1)))))) (
cond (!r1.2) (
some (Sum.inr (Sum.inl (false,(kput a3 [r1.1] ((dof (kget a3 [r1.1]) 0)+1)))))) (
(F62 r1.1).bind fun r2=>(
cond (!r2) (
some (Sum.inr (Sum.inl (false,(kput a3 [r1.1] ((dof (kget a3 [r1.1]) 0)+1)))))) (
chk (fits .i64 (a2+1)) (
some (Sum.inl (a0,a1,(a2+1),(kput a3 [r1.1] ((dof (kget a3 [r1.1]) 0)+1))))))))))))) (
some (Sum.inr (Sum.inr a3)))
theorem g98_0 (F94:Y23)(F62:Y7)(a0:List Y22)(a1 a2:Int)(a3:List Y4):s98_0 (T98 F94 F62) (a0,a1,a2,a3)=q98_0 F94 F62 a0 a1 a2 a3:=by kernel_rfl
noncomputable def p98_0:=q98_0 P94 P62
noncomputable def L98_0:Y52:=whileF (fun x=>p98_0 x.1 x.2.1 x.2.2.1 x.2.2.2)
theorem v98_0:l98_0 (T98 P94 P62) =L98_0:=congrArg whileF (funext fun x=>(g98_0 P94 P62 x.1 x.2.1 x.2.2.1 x.2.2.2))
theorem ok98:L.Fn Tryz.prog 98 41 [(.t 4)] (erase c98):=Fn.ofA hmix Tryz.func98 _ _ (by kernel_rfl)
def sh98:FSh:=⟨⟨[(.v y77),(.fn 94 [])],[]⟩,[y77],0,⟨⟨[(.v .bool)],[]⟩,[.bool],[],0⟩,true⟩
noncomputable def q98 (F94:Y23)(F62:Y7)(l98_0:Y52)(a0:List Y22):Option Bool:=
(l98_0 (a0,(↑a0.length:Int),0,([]:List Y4))).bind (fun y3=>Sum.elim (fun y4=>(
some y4.1)) (fun y5=>(
some true)) y3)
theorem g98 (F94:Y23)(F62:Y7)(a0:List Y22):dxf (T98 F94 F62) sh98 [(.t 4)] c98 a0=q98 F94 F62 (l98_0 (T98 F94 F62)) a0:=by kernel_rfl
noncomputable def p98:=q98 P94 P62 L98_0
noncomputable def P98:Y34:=fun x=>p98 x
theorem v98:dxf (T98 P94 P62) sh98 [(.t 4)] c98=P98:=funext fun x=>(g98 P94 P62 x).trans (by rw[v98_0] <;> rfl)
theorem d98:DC Tryz.prog 98 sh98 P98:=DC_eq v98 (dxf_sound t98 ok98 (by kernel_rfl))
end Go.Proofs.YtdacabdocbhkdaaGreat.D
