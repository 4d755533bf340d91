/- Cut down from a longer text. -/
import Derived.Test.YtdacabdocbhkdaaGreatG11m
import Derived.Test.YtdacabdocbhkdaaGreatProg
set_option linter.unusedVariables false
set_option maxRecDepth 100000
namespace Go.Proofs.YtdacabdocbhkdaaGreat.D
open Go Go.Proofs L
noncomputable def T18 (F25:Y361)(F39:Y330):List FEnt:=[⟨25,sh25,F25⟩,⟨39,sh39,F39⟩]
theorem t18:DTblOK Tryz.prog (T18 P25 P39):=(DTbl_cons' d25 (by kernel_rfl) (DTbl_cons' d39 (by kernel_rfl) DTbl_nil))
def h18_0:LSh:=⟨[1,2,4,5,6],⟨[(.v y13),(.ptr 0 0),(.ptr 1 0),(.v y13),(.v y13)],[(0,(.boxT y91)),(1,(.box [(.slc 2),(.slc 3),(.slc 4),(.slc 5),(.slc 6)])),(2,(.row 64 y24)),(3,(.row 42 y87)),(4,(.row 46 y67)),(5,(.row 59 y68)),(6,(.row 3 y13))]⟩,[y13,y13,y13,y91,y35,y89,y77,y78,y25],7,[0,1,2,3,4,6]⟩
def x18_0:List XSh:=[⟨(.exit 0),[4,5],⟨⟨[(.ptr 1 0),(.v y13)],[(0,(.boxT y91)),(1,(.box [(.slc 2),(.slc 3),(.slc 4),(.slc 7),(.slc 6)])),(2,(.row 64 y24)),(3,(.row 42 y87)),(4,(.row 46 y67)),(6,(.row 3 y13)),(7,(.row 59 y68))]⟩,[y13,y91,y35,y89,y77,y25,y78],[0,1,2,3,4,6],8⟩⟩]
noncomputable def c18:=anF Tryz.prog [(7,{ch:=[0,1,0,0,0,0,0,0,1,0,0,1],rs:=[4] })] Tryz.f18 (.s .n (.s .n (.s .n (.s (.s .n (.b (.l h18_0 x18_0 (.s .n (.s (.b (.s .n (.s (.s (.r [.a 8 true y68,.a 9 true y68]) .n) .n))) .n))))) .n))))
noncomputable def s18_0 (T:List FEnt):=dstep (xs:=x18_0) h18_0 (dxc T (sb [1,1,1,0,1,2,2] c18))
noncomputable def l18_0 (T:List FEnt):=whileF (s18_0 T)
noncomputable def q18_0 (F25:Y361)(F39:Y330)(a0 a1 a2:Int)(a3:Y42)(a4:List Y1)(a5:List Y12)(a6:List Y22)(a7:List Y15)(a8:List Int):Option Y599:=
cond (decide (a2 < (↑a3.2.2.2.1.length:Int))) (
chk (fits .u64 a2) (
chk (decide (0≤a2)) (
cond (decide ((band .i64 (shrI .i64 a0 a2) 1)=1)) (
chk (inR a2 a3.2.2.2.1.length) (
(F39 (ix a3.2.2.2.1 a2)).bind fun r2=>(
chk (capOk 56 (List.length a7+List.length ([r2]:List Y15))) (
chk (fits .i64 (a1+1)) (
chk (fits .i64 (a2+1)) (
some (Sum.inl (a0,(a1+1),(a2+1),a3,a4,a5,a6,(a7++([r2]:List Y15)),a8)))))))) (
chk (fits .i64 (a2+1)) (
some (Sum.inl (a0,a1,(a2+1),a3,a4,a5,a6,a7,a8))))))) (
some (Sum.inr (a1,a3,a4,a5,a6,a8,a7)))
theorem g18_0 (F25:Y361)(F39:Y330)(a0 a1 a2:Int)(a3:Y42)(a4:List Y1)(a5:List Y12)(a6:List Y22)(a7:List Y15)(a8:List Int):s18_0 (T18 F25 F39) (a0,a1,a2,a3,a4,a5,a6,a7,a8)=q18_0 F25 F39 a0 a1 a2 a3 a4 a5 a6 a7 a8:=by kernel_rfl
noncomputable def p18_0:=q18_0 P25 P39
noncomputable def L18_0:Y598:=whileF (fun x=>p18_0 x.1 x.2.1 x.2.2.1 x.2.2.2.1 x.2.2.2.2.1 x.2.2.2.2.2.1 x.2.2.2.2.2.2.1 x.2.2.2.2.2.2.2.1 x.2.2.2.2.2.2.2.2)
theorem v18_0:l18_0 (T18 P25 P39) =L18_0:=congrArg whileF (funext fun x=>(g18_0 P25 P39 x.1 x.2.1 x.2.2.1 x.2.2.2.1 x.2.2.2.2.1 x.2.2.2.2.2.1 x.2.2.2.2.2.2.1 x.2.2.2.2.2.2.2.1 x.2.2.2.2.2.2.2.2))
theorem ok18:L.Fn Tryz.prog 18 38 [(.cell 4 true 5),(.t 5)] (erase c18):=Fn.ofA hmix Tryz.func18 _ _ (by kernel_rfl)
def sh18:FSh:=⟨⟨[(.st y91),(.v y13)],[]⟩,[y91,y13],0,⟨⟨[(.tup [(.agg [(.slc 0),(.slc 1),(.slc 2),(.slc 3),(.slc 4)]),(.v y13)])],[(0,(.row 64 y24)),(1,(.row 42 y87)),(2,(.row 46 y67)),(3,(.row 59 y68)),(4,(.row 3 y13))]⟩,[y13,y35,y89,y77,y78,y25],[],5⟩,false⟩
noncomputable def q18 (F25:Y361)(F39:Y330)(l18_0:Y598)(a0:Y42)(a1:Int):Option Y49:=
(F25 a0).bind fun r1=>(
(l18_0 (a1,0,0,a0,r1.1,r1.2.1,r1.2.2.1,([]:List Y15),r1.2.2.2.2)).bind fun y3=>(
some (y3.1,y3.2.2.1,y3.2.2.2.1,y3.2.2.2.2.1,y3.2.2.2.2.2.2,y3.2.2.2.2.2.1)))
theorem g18 (F25:Y361)(F39:Y330)(a0:Y42)(a1:Int):dxf (T18 F25 F39) sh18 [(.cell 4 true 5),(.t 5)] c18 (a0,a1)=q18 F25 F39 (l18_0 (T18 F25 F39)) a0 a1:=by kernel_rfl
noncomputable def p18:=q18 P25 P39 L18_0
noncomputable def P18:Y590:=fun x=>p18 x.1 x.2
theorem v18:dxf (T18 P25 P39) sh18 [(.cell 4 true 5),(.t 5)] c18=P18:=funext fun x=>(g18 P25 P39 x.1 x.2).trans (by rw[v18_0] <;> rfl)
theorem d18:DC Tryz.prog 18 sh18 P18:=DC_eq v18 (dxf_sound t18 ok18 (by kernel_rfl))
noncomputable def T3 (F14:Y479)(F15:Y323)(F16:Y356)(F17:Y301)(F18:Y590):List FEnt:=[⟨14,sh14,F14⟩,⟨15,sh15,F15⟩,⟨16,sh16,F16⟩,⟨17,sh17,F17⟩,⟨18,sh18,F18⟩]
theorem t3:DTblOK Tryz.prog (T3 P14 P15 P16 P17 P18):=(DTbl_cons' d14 (by kernel_rfl) (DTbl_cons' d15 (by kernel_rfl) (DTbl_cons' d16 (by kernel_rfl) (DTbl_cons' d17 (by kernel_rfl) (DTbl_cons' d18 (by kernel_rfl) DTbl_nil)))))
def h3_0:LSh:=⟨[2,3,5,10,11],⟨[(.ptr 0 0),(.ptr 1 0),(.v y13),(.v .bool),(.v y13)],[(0,(.boxT y91)),(1,(.boxT y473))]⟩,[y13,.bool,y13,y91,y473],2,[0,1]⟩
def x3_0:List XSh:=[⟨.ret,[4],⟨⟨[(.v .bool)],[(0,(.boxT y91)),(1,(.boxT y473))]⟩,[.bool,y91,y473],[0,1],2⟩⟩,⟨(.exit 0),[10],⟨⟨[(.v .bool)],[(0,(.boxT y91)),(1,(.boxT y473))]⟩,[.bool,y91,y473],[0,1],2⟩⟩]
noncomputable def c3:=anF Tryz.prog [] Tryz.f3 (.s .n (.s .n (.s .n (.s .n (.s .n (.s .n (.s .n (.s (.s .n (.b (.l h3_0 x3_0 .n))) .n))))))))
noncomputable def s3_0 (T:List FEnt):=dstep (xs:=x3_0) h3_0 (dxc T (sb [1,1,1,1,1,1,1,0,1,2,2] c3))
noncomputable def l3_0 (T:List FEnt):=whileF (s3_0 T)
noncomputable def q3_0 (F14:Y479)(F15:Y323)(F16:Y356)(F17:Y301)(F18:Y590)(a0:Int)(a1:Bool)(a2:Int)(a3:Y42)(a4:Y274):Option Y603:=
chk (fits .u64 (↑a3.2.2.2.1.length:Int)) (
chk (decide (0≤(↑a3.2.2.2.1.length:Int))) (
cond (decide (a2 < (shlI .i64 1 (↑a3.2.2.2.1.length:Int)))) (
(F18 (a3,a2)).bind fun r7=>(
(F17 (r7.2,a4.1,a4.2.1,a4.2.2)).bind fun r8=>(
cond (!decide (r8.2.2=0)) (
some (Sum.inr (Sum.inl (false,a3,a4)))) (
cond (decide (r8.1=0)) (
cond (decide (r7.1 < a0)) (
some (Sum.inr (Sum.inl (false,a3,a4)))) (
cond a1 (
chk (fits .i64 (a2+1)) (
some (Sum.inl (a0,true,(a2+1),a3,a4)))) (
cond (decide (r8.1=0)) (
chk (fits .i64 (a2+1)) (
some (Sum.inl (a0,decide (r7.1=a0),(a2+1),a3,a4)))) (
chk (fits .i64 (a2+1)) (
some (Sum.inl (a0,false,(a2+1),a3,a4))))))) (
cond a1 (
chk (fits .i64 (a2+1)) (
some (Sum.inl (a0,true,(a2+1),a3,a4)))) (
cond (decide (r8.1=0)) (
chk (fits .i64 (a2+1)) (
some (Sum.inl (a0,decide (r7.1=a0),(a2+1),a3,a4)))) (
chk (fits .i64 (a2+1)) (
some (Sum.inl (a0,false,(a2+1),a3,a4)))))))))) (
some (Sum.inr (Sum.inr (a1,a3,a4))))))
theorem g3_0 (F14:Y479)(F15:Y323)(F16:Y356)(F17:Y301)(F18:Y590)(a0:Int)(a1:Bool)(a2:Int)(a3:Y42)(a4:Y274):s3_0 (T3 F14 F15 F16 F17 F18) (a0,a1,a2,a3,a4)=q3_0 F14 F15 F16 F17 F18 a0 a1 a2 a3 a4:=by kernel_rfl
noncomputable def p3_0:=q3_0 P14 P15 P16 P17 P18
noncomputable def L3_0:Y602:=whileF (fun x=>p3_0 x.1 x.2.1 x.2.2.1 x.2.2.2.1 x.2.2.2.2)
theorem v3_0:l3_0 (T3 P14 P15 P16 P17 P18) =L3_0:=congrArg whileF (funext fun x=>(g3_0 P14 P15 P16 P17 P18 x.1 x.2.1 x.2.2.1 x.2.2.2.1 x.2.2.2.2))
theorem ok3:L.Fn Tryz.prog 3 123 [(.t 4)] (erase c3):=Fn.ofA hmix Tryz.func3 _ _ (by kernel_rfl)
def sh3:FSh:=⟨⟨[(.st y91),(.st y473)],[]⟩,[y91,y473],0,⟨⟨[(.v .bool)],[]⟩,[.bool],[],0⟩,true⟩
noncomputable def q3 (F14:Y479)(F15:Y323)(F16:Y356)(F17:Y301)(F18:Y590)(l3_0:Y602)(a0:Y42)(a1:Y274):Option Bool:=
(F14 (a0,a1)).bind fun r1=>(
cond (!r1) (
(F15 ()).bind fun r2=>(
some r2)) (
cond (decide (5 < (↑a0.2.2.2.1.length:Int))) (
(F15 ()).bind fun r3=>(
some r3)) (
(F16 (a0,a1.1,a1.2.1,a1.2.2)).bind fun r4=>(
(F17 (a0,a1.1,a1.2.1,a1.2.2)).bind fun r5=>(
cond (!decide (r5.2.2=0)) (
some false) (
cond ((decide (r4.2=0))!=(decide (r5.1=0))) (
some false) (
cond (!decide (r4.2=0)) (
cond (!decide (r4.2=3)) (
some false) (
cond (!decide (r4.2=0)) (
(F15 ()).bind fun r6=>(
some r6)) (
(l3_0 (r4.1,false,0,a0,a1)).bind (fun y9=>Sum.elim (fun y10=>(
some y10.1)) (fun y11=>(
cond y11.1 (
(F15 ()).bind fun r12=>(
some r12)) (
some false))) y9)))) (
cond (!decide (r4.2=0)) (
(F15 ()).bind fun r13=>(
some r13)) (
(l3_0 (r4.1,false,0,a0,a1)).bind (fun y14=>Sum.elim (fun y15=>(
some y15.1)) (fun y16=>(
cond y16.1 (
(F15 ()).bind fun r17=>(
some r17)) (
some false))) y14))))))))))
theorem g3 (F14:Y479)(F15:Y323)(F16:Y356)(F17:Y301)(F18:Y590)(a0:Y42)(a1:Y274):dxf (T3 F14 F15 F16 F17 F18) sh3 [(.t 4)] c3 (a0,a1)=q3 F14 F15 F16 F17 F18 (l3_0 (T3 F14 F15 F16 F17 F18)) a0 a1:=by kernel_rfl
noncomputable def p3:=q3 P14 P15 P16 P17 P18 L3_0
noncomputable def P3:Y479:=fun x=>p3 x.1 x.2
theorem v3:dxf (T3 P14 P15 P16 P17 P18) sh3 [(.t 4)] c3=P3:=funext fun x=>(g3 P14 P15 P16 P17 P18 x.1 x.2).trans (by rw[v3_0] <;> rfl)
theorem d3:DC Tryz.prog 3 sh3 P3:=DC_eq v3 (dxf_sound t3 ok3 (by kernel_rfl))
noncomputable def T162:List FEnt:=[]
theorem t162:DTblOK Tryz.prog T162:=DTbl_nil
noncomputable def c162:=anF Tryz.prog [] Tryz.f162 .n
theorem ok162:L.Fn Tryz.prog 162 6 [(.t 2)] (erase c162):=Fn.ofA hmix Tryz.func162 _ _ (by kernel_rfl)
def sh162:FSh:=⟨⟨[(.v y13)],[]⟩,[y13],0,⟨⟨[(.v .bool)],[]⟩,[.bool],[],0⟩,true⟩
noncomputable def q162 (a0:Int):Option Bool:=
some (!decide (a0=a0))
theorem g162 (a0:Int):dxf T162 sh162 [(.t 2)] c162 a0=q162 a0:=by kernel_rfl
noncomputable def p162:=q162
noncomputable def P162:Y7:=fun x=>p162 x
theorem v162:dxf T162 sh162 [(.t 2)] c162=P162:=funext fun x=>(g162 x)
theorem d162:DC Tryz.prog 162 sh162 P162:=DC_eq v162 (dxf_sound t162 ok162 (by kernel_rfl))
noncomputable def T134 (F162:Y7):List FEnt:=[⟨162,sh162,F162⟩]
theorem t134:DTblOK Tryz.prog (T134 P162):=(DTbl_cons' d162 (by kernel_rfl) DTbl_nil)
noncomputable def c134:=anF Tryz.prog [] Tryz.f134 .n
theorem ok134:L.Fn Tryz.prog 134 17 [(.t 4)] (erase c134):=Fn.ofA hmix Tryz.func134 _ _ (by kernel_rfl)
def sh134:FSh:=⟨⟨[(.v y13),(.v y13)],[]⟩,[y13,y13],0,⟨⟨[(.v .bool)],[]⟩,[.bool],[],0⟩,true⟩
noncomputable def q134 (F162:Y7)(a0 a1:Int):Option Bool:=
(F162 a0).bind fun r1=>(
cond r1 (
(F162 a1).bind fun r2=>(
cond (!r2) (
some true) (
some (decide (a0 < a1))))) (
some (decide (a0 < a1))))
theorem g134 (F162:Y7)(a0 a1:Int):dxf (T134 F162) sh134 [(.t 4)] c134 (a0,a1)=q134 F162 a0 a1:=by kernel_rfl
noncomputable def p134:=q134 P162
noncomputable def P134:Y557:=fun x=>p134 x.1 x.2
theorem v134:dxf (T134 P162) sh134 [(.t 4)] c134=P134:=funext fun x=>(g134 P162 x.1 x.2)
theorem d134:DC Tryz.prog 134 sh134 P134:=DC_eq v134 (dxf_sound t134 ok134 (by kernel_rfl))
noncomputable def T128 (F134:Y557):List FEnt:=[⟨134,sh134,F134⟩]
theorem t128:DTblOK Tryz.prog (T128 P134):=(DTbl_cons' d134 (by kernel_rfl) DTbl_nil)
def h128_1:LSh:=⟨[0,1,2,6,7],⟨[(.slc 0),(.v y13),(.v y13),(.v y13),(.v y13)],[(0,(.row 3 y13))]⟩,[y13,y13,y13,y13,y25],1,[0]⟩
def x128_1:List XSh:=[⟨(.exit 2),[0,1,2,6],⟨⟨[(.slc 0),(.v y13),(.v y13),(.v y13)],[(0,(.row 3 y13))]⟩,[y13,y13,y13,y25],[0],1⟩⟩]
def h128_0:LSh:=⟨[0,1,2,6],⟨[(.slc 0),(.v y13),(.v y13),(.v y13)],[(0,(.row 3 y13))]⟩,[y13,y13,y13,y25],1,[0]⟩
def x128_0:List XSh:=[⟨(.exit 0),[],⟨⟨[],[(0,(.row 3 y13))]⟩,[y25],[0],1⟩⟩]
noncomputable def c128:=anF Tryz.prog [] Tryz.f128 (.s .n (.b (.l h128_0 x128_0 (.s .n (.s (.b (.s .n (.b (.l h128_1 x128_1 .n)))) .n)))))
noncomputable def s128_1 (T:List FEnt):=dstep (xs:=x128_1) h128_1 (dxc T (sb [1,2,2,1,0,2,1,2,2] c128))
noncomputable def l128_1 (T:List FEnt):=whileF (s128_1 T)
noncomputable def q128_1 (F134:Y557)(a0 a1 a2 a3:Int)(a4:List Int):Option Y574:=
cond (decide (a0 < a3)) (
chk (inR a3 a4.length) (
chk (fits .i64 (a3-1)) (
chk (inR (a3-1) a4.length) (
(F134 ((ix a4 a3),(ix a4 (a3-1)))).bind fun r1=>(
cond r1 (
chk (fits .i64 (a3-1)) (
chk (fits .i64 (a3-1)) (
chk (inR (a3-1) a4.length) (
chk (inR a3 a4.length) (
chk (inR a3 a4.length) (
chk (inR (a3-1) (List.length (List.set a4 a3.toNat (ix a4 (a3-1))))) (
chk (fits .i64 (a3-1)) (
some (Sum.inl (a0,a1,a2,(a3-1),(List.set (List.set a4 a3.toNat (ix a4 (a3-1))) (Int.toNat (a3-1)) (ix a4 a3)))))))))))) (
some (Sum.inr (a0,a1,a2,a4)))))))) (
some (Sum.inr (a0,a1,a2,a4)))
theorem g128_1 (F134:Y557)(a0 a1 a2 a3:Int)(a4:List Int):s128_1 (T128 F134) (a0,a1,a2,a3,a4)=q128_1 F134 a0 a1 a2 a3 a4:=by kernel_rfl
noncomputable def p128_1:=q128_1 P134
noncomputable def L128_1:Y567:=whileF (fun x=>p128_1 x.1 x.2.1 x.2.2.1 x.2.2.2.1 x.2.2.2.2)
theorem v128_1:l128_1 (T128 P134) =L128_1:=congrArg whileF (funext fun x=>(g128_1 P134 x.1 x.2.1 x.2.2.1 x.2.2.2.1 x.2.2.2.2))
noncomputable def s128_0 (T:List FEnt):=dstep (xs:=x128_0) h128_0 (dxc T (sb [1,2,2] c128))
noncomputable def l128_0 (T:List FEnt):=whileF (s128_0 T)
noncomputable def q128_0 (F134:Y557)(l128_1:Y567)(a0 a1 a2:Int)(a3:List Int):Option Y575:=
cond (decide (a2 < a1)) (
(l128_1 (a0,a1,a2,a2,a3)).bind fun y2=>(
chk (fits .i64 (y2.2.2.1+1)) (
some (Sum.inl (y2.1,y2.2.1,(y2.2.2.1+1),y2.2.2.2))))) (
some (Sum.inr a3))
theorem g128_0 (F134:Y557)(a0 a1 a2:Int)(a3:List Int):s128_0 (T128 F134) (a0,a1,a2,a3)=q128_0 F134 (l128_1 (T128 F134)) a0 a1 a2 a3:=by kernel_rfl
noncomputable def p128_0:=q128_0 P134 L128_1
noncomputable def L128_0:Y558:=whileF (fun x=>p128_0 x.1 x.2.1 x.2.2.1 x.2.2.2)
theorem v128_0:l128_0 (T128 P134) =L128_0:=congrArg whileF (funext fun x=>(g128_0 P134 x.1 x.2.1 x.2.2.1 x.2.2.2).trans (by rw[v128_1] <;> rfl))
theorem ok128:L.Fn Tryz.prog 128 49 [] (erase c128):=Fn.ofA hmix Tryz.func128 _ _ (by kernel_rfl)
def sh128:FSh:=⟨⟨[(.slc 0),(.v y13),(.v y13)],[(0,(.row 3 y13))]⟩,[y13,y13,y25],1,⟨⟨[(.tup [])],[(0,(.row 3 y13))]⟩,[y25],[0],1⟩,false⟩
noncomputable def q128 (F134:Y557)(l128_0:Y558)(a0 a1:Int)(a2:List Int):Option Y2:=
chk (fits .i64 (a0+1)) (
(l128_0 (a0,a1,(a0+1),a2)).bind fun y3=>(
some y3))
theorem g128 (F134:Y557)(a0 a1:Int)(a2:List Int):dxf (T128 F134) sh128 [] c128 (a0,a1,a2)=q128 F134 (l128_0 (T128 F134)) a0 a1 a2:=by kernel_rfl
noncomputable def p128:=q128 P134 L128_0
noncomputable def P128:Y560:=fun x=>p128 x.1 x.2.1 x.2.2
theorem v128:dxf (T128 P134) sh128 [] c128=P128:=funext fun x=>(g128 P134 x.1 x.2.1 x.2.2).trans (by rw[v128_0] <;> rfl)
theorem d128:DC Tryz.prog 128 sh128 P128:=DC_eq v128 (dxf_sound t128 ok128 (by kernel_rfl))
noncomputable def T157 (F134:Y557):List FEnt:=[⟨134,sh134,F134⟩]
theorem t157:DTblOK Tryz.prog (T157 P134):=(DTbl_cons' d134 (by kernel_rfl) DTbl_nil)
def h157_0:LSh:=⟨[0,2,3,8],⟨[(.slc 0),(.v y13),(.v y13),(.v y13)],[(0,(.row 3 y13))]⟩,[y13,y13,y13,y25],1,[0]⟩
def x157_0:List XSh:=[⟨(.exit 0),[],⟨⟨[],[(0,(.row 3 y13))]⟩,[y25],[0],1⟩⟩,⟨.ret,[],⟨⟨[],[(0,(.row 3 y13))]⟩,[y25],[0],1⟩⟩]
noncomputable def c157:=anF Tryz.prog [] Tryz.f157 (.s .n (.b (.l h157_0 x157_0 .n)))
noncomputable def s157_0 (T:List FEnt):=dstep (xs:=x157_0) h157_0 (dxc T (sb [1,2,2] c157))
noncomputable def l157_0 (T:List FEnt):=whileF (s157_0 T)
noncomputable def q157_0 (F134:Y557)(a0 a1 a2:Int)(a3:List Int):Option Y576:=
chk (fits .i64 (2*a2)) (
chk (fits .i64 ((2*a2)+1)) (
cond (decide (a0≤((2*a2)+1))) (
some (Sum.inr (Sum.inl a3))) (
chk (fits .i64 (((2*a2)+1)+1)) (
cond (decide ((((2*a2)+1)+1) < a0)) (
chk (fits .i64 (a1+((2*a2)+1))) (
chk (inR (a1+((2*a2)+1)) a3.length) (
chk (fits .i64 (a1+((2*a2)+1))) (
chk (fits .i64 ((a1+((2*a2)+1))+1)) (
chk (inR ((a1+((2*a2)+1))+1) a3.length) (
(F134 ((ix a3 (a1+((2*a2)+1))),(ix a3 ((a1+((2*a2)+1))+1)))).bind fun r1=>(
cond r1 (
chk (fits .i64 (((2*a2)+1)+1)) (
chk (fits .i64 (a1+a2)) (
chk (inR (a1+a2) a3.length) (
chk (fits .i64 (a1+(((2*a2)+1)+1))) (
chk (inR (a1+(((2*a2)+1)+1)) a3.length) (
(F134 ((ix a3 (a1+a2)),(ix a3 (a1+(((2*a2)+1)+1))))).bind fun r2=>(
cond (!r2) (
some (Sum.inr (Sum.inr a3))) (
chk (fits .i64 (a1+a2)) (
chk (fits .i64 (a1+(((2*a2)+1)+1))) (
chk (fits .i64 (a1+(((2*a2)+1)+1))) (
chk (inR (a1+(((2*a2)+1)+1)) a3.length) (
chk (fits .i64 (a1+a2)) (
chk (inR (a1+a2) a3.length) (
chk (inR (a1+a2) a3.length) (
chk (inR (a1+(((2*a2)+1)+1)) (List.length (List.set a3 (Int.toNat (a1+a2)) (ix a3 (a1+(((2*a2)+1)+1)))))) (
some (Sum.inl (a0,a1,(((2*a2)+1)+1),(List.set (List.set a3 (Int.toNat (a1+a2)) (ix a3 (a1+(((2*a2)+1)+1)))) (Int.toNat (a1+(((2*a2)+1)+1))) (ix a3 (a1+a2))))))))))))))))))))) (
chk (fits .i64 (a1+a2)) (
chk (inR (a1+a2) a3.length) (
chk (fits .i64 (a1+((2*a2)+1))) (
chk (inR (a1+((2*a2)+1)) a3.length) (
(F134 ((ix a3 (a1+a2)),(ix a3 (a1+((2*a2)+1))))).bind fun r3=>(
cond (!r3) (
some (Sum.inr (Sum.inr a3))) (
chk (fits .i64 (a1+a2)) (
chk (fits .i64 (a1+((2*a2)+1))) (
chk (fits .i64 (a1+((2*a2)+1))) (
chk (inR (a1+((2*a2)+1)) a3.length) (
chk (fits .i64 (a1+a2)) (
chk (inR (a1+a2) a3.length) (
chk (inR (a1+a2) a3.length) (
chk (inR (a1+((2*a2)+1)) (List.length (List.set a3 (Int.toNat (a1+a2)) (ix a3 (a1+((2*a2)+1)))))) (
some (Sum.inl (a0,a1,((2*a2)+1),(List.set (List.set a3 (Int.toNat (a1+a2)) (ix a3 (a1+((2*a2)+1)))) (Int.toNat (a1+((2*a2)+1))) (ix a3 (a1+a2))))))))))))))))))))))))))) (
chk (fits .i64 (a1+a2)) (
chk (inR (a1+a2) a3.length) (
chk (fits .i64 (a1+((2*a2)+1))) (
chk (inR (a1+((2*a2)+1)) a3.length) (
(F134 ((ix a3 (a1+a2)),(ix a3 (a1+((2*a2)+1))))).bind fun r4=>(
cond (!r4) (
some (Sum.inr (Sum.inr a3))) (
chk (fits .i64 (a1+a2)) (
chk (fits .i64 (a1+((2*a2)+1))) (
chk (fits .i64 (a1+((2*a2)+1))) (
chk (inR (a1+((2*a2)+1)) a3.length) (
chk (fits .i64 (a1+a2)) (
chk (inR (a1+a2) a3.length) (
chk (inR (a1+a2) a3.length) (
chk (inR (a1+((2*a2)+1)) (List.length (List.set a3 (Int.toNat (a1+a2)) (ix a3 (a1+((2*a2)+1)))))) (
some (Sum.inl (a0,a1,((2*a2)+1),(List.set (List.set a3 (Int.toNat (a1+a2)) (ix a3 (a1+((2*a2)+1)))) (Int.toNat (a1+((2*a2)+1))) (ix a3 (a1+a2))))))))))))))))))))))))
theorem g157_0 (F134:Y557)(a0 a1 a2:Int)(a3:List Int):s157_0 (T157 F134) (a0,a1,a2,a3)=q157_0 F134 a0 a1 a2 a3:=by kernel_rfl
noncomputable def p157_0:=q157_0 P134
noncomputable def L157_0:Y568:=whileF (fun x=>p157_0 x.1 x.2.1 x.2.2.1 x.2.2.2)
theorem v157_0:l157_0 (T157 P134) =L157_0:=congrArg whileF (funext fun x=>(g157_0 P134 x.1 x.2.1 x.2.2.1 x.2.2.2))
theorem ok157:L.Fn Tryz.prog 157 76 [] (erase c157):=Fn.ofA hmix Tryz.func157 _ _ (by kernel_rfl)
def sh157:FSh:=⟨⟨[(.slc 0),(.v y13),(.v y13),(.v y13)],[(0,(.row 3 y13))]⟩,[y13,y13,y13,y25],1,⟨⟨[(.tup [])],[(0,(.row 3 y13))]⟩,[y25],[0],1⟩,false⟩
noncomputable def q157 (F134:Y557)(l157_0:Y568)(a0 a1 a2:Int)(a3:List Int):Option Y2:=
(l157_0 (a1,a2,a0,a3)).bind (fun y5=>Sum.elim (fun y6=>(
some y6)) (fun y7=>(
some y7)) y5)
theorem g157 (F134:Y557)(a0 a1 a2:Int)(a3:List Int):dxf (T157 F134) sh157 [] c157 (a0,a1,a2,a3)=q157 F134 (l157_0 (T157 F134)) a0 a1 a2 a3:=by kernel_rfl
noncomputable def p157:=q157 P134 L157_0
noncomputable def P157:Y558:=fun x=>p157 x.1 x.2.1 x.2.2.1 x.2.2.2
theorem v157:dxf (T157 P134) sh157 [] c157=P157:=funext fun x=>(g157 P134 x.1 x.2.1 x.2.2.1 x.2.2.2).trans (by rw[v157_0] <;> rfl)
theorem d157:DC Tryz.prog 157 sh157 P157:=DC_eq v157 (dxf_sound t157 ok157 (by kernel_rfl))
noncomputable def T129 (F157:Y558):List FEnt:=[⟨157,sh157,F157⟩]
theorem t129:DTblOK Tryz.prog (T129 P157):=(DTbl_cons' d157 (by kernel_rfl) DTbl_nil)
def h129_0:LSh:=⟨[0,6,7,8,9],⟨[(.slc 0),(.v y13),(.v y13),(.v y13),(.v y13)],[(0,(.row 3 y13))]⟩,[y13,y13,y13,y13,y25],1,[0]⟩
def x129_0:List XSh:=[⟨(.exit 0),[0,6,7,8],⟨⟨[(.slc 0),(.v y13),(.v y13),(.v y13)],[(0,(.row 3 y13))]⟩,[y13,y13,y13,y25],[0],1⟩⟩]
def h129_1:LSh:=⟨[0,6,7,10],⟨[(.slc 0),(.v y13),(.v y13),(.v y13)],[(0,(.row 3 y13))]⟩,[y13,y13,y13,y25],1,[0]⟩
def x129_1:List XSh:=[⟨(.exit 2),[],⟨⟨[],[(0,(.row 3 y13))]⟩,[y25],[0],1⟩⟩]
noncomputable def c129:=anF Tryz.prog [] Tryz.f129 (.s .n (.s .n (.s .n (.s (.s .n (.b (.l h129_0 x129_0 .n))) (.s .n (.b (.l h129_1 x129_1 .n)))))))
noncomputable def s129_0 (T:List FEnt):=dstep (xs:=x129_0) h129_0 (dxc T (sb [1,1,1,0,1,2,2] c129))
noncomputable def l129_0 (T:List FEnt):=whileF (s129_0 T)
noncomputable def q129_0 (F157:Y558)(a0 a1 a2 a3:Int)(a4:List Int):Option Y574:=
cond (decide (0≤a3)) (
(F157 (a3,a2,a0,a4)).bind fun r1=>(
chk (fits .i64 (a3-1)) (
some (Sum.inl (a0,a1,a2,(a3-1),r1))))) (
some (Sum.inr (a0,a1,a2,a4)))
theorem g129_0 (F157:Y558)(a0 a1 a2 a3:Int)(a4:List Int):s129_0 (T129 F157) (a0,a1,a2,a3,a4)=q129_0 F157 a0 a1 a2 a3 a4:=by kernel_rfl
noncomputable def p129_0:=q129_0 P157
noncomputable def L129_0:Y567:=whileF (fun x=>p129_0 x.1 x.2.1 x.2.2.1 x.2.2.2.1 x.2.2.2.2)
theorem v129_0:l129_0 (T129 P157) =L129_0:=congrArg whileF (funext fun x=>(g129_0 P157 x.1 x.2.1 x.2.2.1 x.2.2.2.1 x.2.2.2.2))
noncomputable def s129_1 (T:List FEnt):=dstep (xs:=x129_1) h129_1 (dxc T (sb [1,1,1,1,1,2,2] c129))
noncomputable def l129_1 (T:List FEnt):=whileF (s129_1 T)
noncomputable def q129_1 (F157:Y558)(a0 a1 a2:Int)(a3:List Int):Option Y575:=
cond (decide (0≤a2)) (
chk (fits .i64 (a0+a2)) (
chk (fits .i64 (a0+a2)) (
chk (inR (a0+a2) a3.length) (
chk (inR a0 a3.length) (
chk (inR a0 a3.length) (
chk (inR (a0+a2) (List.length (List.set a3 a0.toNat (ix a3 (a0+a2))))) (
(F157 (a1,a2,a0,(List.set (List.set a3 a0.toNat (ix a3 (a0+a2))) (Int.toNat (a0+a2)) (ix a3 a0)))).bind fun r3=>(
chk (fits .i64 (a2-1)) (
some (Sum.inl (a0,a1,(a2-1),r3))))))))))) (
some (Sum.inr a3))
theorem g129_1 (F157:Y558)(a0 a1 a2:Int)(a3:List Int):s129_1 (T129 F157) (a0,a1,a2,a3)=q129_1 F157 a0 a1 a2 a3:=by kernel_rfl
noncomputable def p129_1:=q129_1 P157
noncomputable def L129_1:Y558:=whileF (fun x=>p129_1 x.1 x.2.1 x.2.2.1 x.2.2.2)
theorem v129_1:l129_1 (T129 P157) =L129_1:=congrArg whileF (funext fun x=>(g129_1 P157 x.1 x.2.1 x.2.2.1 x.2.2.2))
theorem ok129:L.Fn Tryz.prog 129 56 [] (erase c129):=Fn.ofA hmix Tryz.func129 _ _ (by kernel_rfl)
def sh129:FSh:=⟨⟨[(.slc 0),(.v y13),(.v y13)],[(0,(.row 3 y13))]⟩,[y13,y13,y25],1,⟨⟨[(.tup [])],[(0,(.row 3 y13))]⟩,[y25],[0],1⟩,false⟩
noncomputable def q129 (F157:Y558)(l129_0:Y567)(l129_1:Y558)(a0 a1:Int)(a2:List Int):Option Y2:=
chk (fits .i64 (a1-a0)) (
chk (fits .i64 ((a1-a0)-1)) (
chk (fits .i64 (Int.tdiv ((a1-a0)-1) 2)) (
(l129_0 (a0,0,(a1-a0),(Int.tdiv ((a1-a0)-1) 2),a2)).bind fun y2=>(
chk (fits .i64 (y2.2.2.1-1)) (
(l129_1 (y2.1,y2.2.1,(y2.2.2.1-1),y2.2.2.2)).bind fun y4=>(
some y4))))))
theorem g129 (F157:Y558)(a0 a1:Int)(a2:List Int):dxf (T129 F157) sh129 [] c129 (a0,a1,a2)=q129 F157 (l129_0 (T129 F157)) (l129_1 (T129 F157)) a0 a1 a2:=by kernel_rfl
noncomputable def p129:=q129 P157 L129_0 L129_1
noncomputable def P129:Y560:=fun x=>p129 x.1 x.2.1 x.2.2
theorem v129:dxf (T129 P157) sh129 [] c129=P129:=funext fun x=>(g129 P157 x.1 x.2.1 x.2.2).trans (by rw[v129_0,v129_1] <;> rfl)
theorem d129:DC Tryz.prog 129 sh129 P129:=DC_eq v129 (dxf_sound t129 ok129 (by kernel_rfl))
noncomputable def T130 (F158:Y145)(F159:Y150):List FEnt:=[⟨158,sh158,F158⟩,⟨159,sh159,F159⟩]
theorem t130:DTblOK Tryz.prog (T130 P158 P159):=(DTbl_cons' d158 (by kernel_rfl) (DTbl_cons' d159 (by kernel_rfl) DTbl_nil))
def h130_0:LSh:=⟨[0,1,6,7,8,9],⟨[(.slc 0),(.v y13),(.v y13),(.ptr 1 0),(.v y151),(.v y13)],[(0,(.row 3 y13)),(1,(.boxT y151))]⟩,[y13,y13,y151,y13,y25,y151],2,[0,1]⟩
def x130_0:List XSh:=[⟨(.exit 0),[],⟨⟨[],[(0,(.row 3 y13)),(1,(.boxT y151))]⟩,[y25,y151],[0,1],2⟩⟩]
noncomputable def c130:=anF Tryz.prog [] Tryz.f130 (.s .n (.s .n (.s (.s .n (.s .n (.s .n (.b (.l h130_0 x130_0 .n))))) .n)))
noncomputable def s130_0 (T:List FEnt):=dstep (xs:=x130_0) h130_0 (dxc T (sb [1,1,0,1,1,1,2,2] c130))
noncomputable def l130_0 (T:List FEnt):=whileF (s130_0 T)
noncomputable def q130_0 (F158:Y145)(F159:Y150)(a0 a1 a2 a3:Int)(a4:List Int)(a5:Int):Option Y577:=
chk (fits .i64 (Int.tdiv a1 4)) (
chk (fits .i64 ((Int.tdiv a1 4)*2)) (
chk (fits .i64 (a0+((Int.tdiv a1 4)*2))) (
chk (fits .i64 ((a0+((Int.tdiv a1 4)*2))+1)) (
cond (decide (a3≤((a0+((Int.tdiv a1 4)*2))+1))) (
(F159 a5).bind fun r2=>(
chk (fits .u64 (a2-1)) (
chk (fits .i64 (band .u64 r2.1 (a2-1))) (
cond (decide (a1≤(band .u64 r2.1 (a2-1)))) (
chk (fits .i64 ((band .u64 r2.1 (a2-1))-a1)) (
chk (fits .i64 (a0+((band .u64 r2.1 (a2-1))-a1))) (
chk (fits .i64 (a0+((band .u64 r2.1 (a2-1))-a1))) (
chk (inR (a0+((band .u64 r2.1 (a2-1))-a1)) a4.length) (
chk (inR a3 a4.length) (
chk (inR a3 a4.length) (
chk (inR (a0+((band .u64 r2.1 (a2-1))-a1)) (List.length (List.set a4 a3.toNat (ix a4 (a0+((band .u64 r2.1 (a2-1))-a1)))))) (
chk (fits .i64 (a3+1)) (
some (Sum.inl (a0,a1,a2,(a3+1),(List.set (List.set a4 a3.toNat (ix a4 (a0+((band .u64 r2.1 (a2-1))-a1)))) (Int.toNat (a0+((band .u64 r2.1 (a2-1))-a1))) (ix a4 a3)),r2.2))))))))))) (
chk (fits .i64 (a0+(band .u64 r2.1 (a2-1)))) (
chk (fits .i64 (a0+(band .u64 r2.1 (a2-1)))) (
chk (inR (a0+(band .u64 r2.1 (a2-1))) a4.length) (
chk (inR a3 a4.length) (
chk (inR a3 a4.length) (
chk (inR (a0+(band .u64 r2.1 (a2-1))) (List.length (List.set a4 a3.toNat (ix a4 (a0+(band .u64 r2.1 (a2-1))))))) (
chk (fits .i64 (a3+1)) (
some (Sum.inl (a0,a1,a2,(a3+1),(List.set (List.set a4 a3.toNat (ix a4 (a0+(band .u64 r2.1 (a2-1))))) (Int.toNat (a0+(band .u64 r2.1 (a2-1)))) (ix a4 a3)),r2.2)))))))))))))) (
some (Sum.inr (a4,a5)))))))
theorem g130_0 (F158:Y145)(F159:Y150)(a0 a1 a2 a3:Int)(a4:List Int)(a5:Int):s130_0 (T130 F158 F159) (a0,a1,a2,a3,a4,a5)=q130_0 F158 F159 a0 a1 a2 a3 a4 a5:=by kernel_rfl
noncomputable def p130_0:=q130_0 P158 P159
noncomputable def L130_0:Y569:=whileF (fun x=>p130_0 x.1 x.2.1 x.2.2.1 x.2.2.2.1 x.2.2.2.2.1 x.2.2.2.2.2)
theorem v130_0:l130_0 (T130 P158 P159) =L130_0:=congrArg whileF (funext fun x=>(g130_0 P158 P159 x.1 x.2.1 x.2.2.1 x.2.2.2.1 x.2.2.2.2.1 x.2.2.2.2.2))
theorem ok130:L.Fn Tryz.prog 130 65 [] (erase c130):=Fn.ofA hmix Tryz.func130 _ _ (by kernel_rfl)
def sh130:FSh:=⟨⟨[(.slc 0),(.v y13),(.v y13)],[(0,(.row 3 y13))]⟩,[y13,y13,y25],1,⟨⟨[(.tup [])],[(0,(.row 3 y13))]⟩,[y25],[0],1⟩,false⟩
noncomputable def q130 (F158:Y145)(F159:Y150)(l130_0:Y569)(a0 a1:Int)(a2:List Int):Option Y2:=
chk (fits .i64 (a1-a0)) (
cond (decide (8≤(a1-a0))) (
chk (fits .u64 (a1-a0)) (
(F158 (a1-a0)).bind fun r1=>(
chk (fits .i64 (Int.tdiv (a1-a0) 4)) (
chk (fits .i64 ((Int.tdiv (a1-a0) 4)*2)) (
chk (fits .i64 (a0+((Int.tdiv (a1-a0) 4)*2))) (
chk (fits .i64 ((a0+((Int.tdiv (a1-a0) 4)*2))-1)) (
(l130_0 (a0,(a1-a0),r1,((a0+((Int.tdiv (a1-a0) 4)*2))-1),a2,(a1-a0))).bind fun y3=>(
some y3.1)))))))) (
some a2))
theorem g130 (F158:Y145)(F159:Y150)(a0 a1:Int)(a2:List Int):dxf (T130 F158 F159) sh130 [] c130 (a0,a1,a2)=q130 F158 F159 (l130_0 (T130 F158 F159)) a0 a1 a2:=by kernel_rfl
noncomputable def p130:=q130 P158 P159 L130_0
noncomputable def P130:Y560:=fun x=>p130 x.1 x.2.1 x.2.2
theorem v130:dxf (T130 P158 P159) sh130 [] c130=P130:=funext fun x=>(g130 P158 P159 x.1 x.2.1 x.2.2).trans (by rw[v130_0] <;> rfl)
theorem d130:DC Tryz.prog 130 sh130 P130:=DC_eq v130 (dxf_sound t130 ok130 (by kernel_rfl))
noncomputable def T170 (F134:Y557):List FEnt:=[⟨134,sh134,F134⟩]
theorem t170:DTblOK Tryz.prog (T170 P134):=(DTbl_cons' d134 (by kernel_rfl) DTbl_nil)
noncomputable def c170:=anF Tryz.prog [] Tryz.f170 .n
theorem ok170:L.Fn Tryz.prog 170 28 [(.t 8),(.t 9)] (erase c170):=Fn.ofA hmix Tryz.func170 _ _ (by kernel_rfl)
def sh170:FSh:=⟨⟨[(.slc 0),(.v y13),(.v y13),(.ptr 1 0)],[(0,(.row 3 y13)),(1,(.boxT y13))]⟩,[y13,y13,y25,y13],2,⟨⟨[(.tup [(.v y13),(.v y13)])],[(0,(.row 3 y13)),(1,(.boxT y13))]⟩,[y13,y13,y25,y13],[0,1],2⟩,false⟩
noncomputable def q170 (F134:Y557)(a0 a1:Int)(a2:List Int)(a3:Int):Option Y561:=
chk (inR a1 a2.length) (
chk (inR a0 a2.length) (
(F134 ((ix a2 a1),(ix a2 a0))).bind fun r1=>(
cond r1 (
chk (fits .i64 (a3+1)) (
some (a1,a0,a2,(a3+1)))) (
some (a0,a1,a2,a3)))))
theorem g170 (F134:Y557)(a0 a1:Int)(a2:List Int)(a3:Int):dxf (T170 F134) sh170 [(.t 8),(.t 9)] c170 (a0,a1,a2,a3)=q170 F134 a0 a1 a2 a3:=by kernel_rfl
noncomputable def p170:=q170 P134
noncomputable def P170:Y570:=fun x=>p170 x.1 x.2.1 x.2.2.1 x.2.2.2
theorem v170:dxf (T170 P134) sh170 [(.t 8),(.t 9)] c170=P170:=funext fun x=>(g170 P134 x.1 x.2.1 x.2.2.1 x.2.2.2)
theorem d170:DC Tryz.prog 170 sh170 P170:=DC_eq v170 (dxf_sound t170 ok170 (by kernel_rfl))
noncomputable def T161 (F170:Y570):List FEnt:=[⟨170,sh170,F170⟩]
theorem t161:DTblOK Tryz.prog (T161 P170):=(DTbl_cons' d170 (by kernel_rfl) DTbl_nil)
noncomputable def c161:=anF Tryz.prog [] Tryz.f161 .n
theorem ok161:L.Fn Tryz.prog 161 36 [(.t 10)] (erase c161):=Fn.ofA hmix Tryz.func161 _ _ (by kernel_rfl)
def sh161:FSh:=⟨⟨[(.slc 0),(.v y13),(.v y13),(.v y13),(.ptr 1 0)],[(0,(.row 3 y13)),(1,(.boxT y13))]⟩,[y13,y13,y13,y25,y13],2,⟨⟨[(.v y13)],[(0,(.row 3 y13)),(1,(.boxT y13))]⟩,[y13,y25,y13],[0,1],2⟩,false⟩
noncomputable def q161 (F170:Y570)(a0 a1 a2:Int)(a3:List Int)(a4:Int):Option Y562:=
(F170 (a0,a1,a3,a4)).bind fun r1=>(
(F170 (r1.2.1,a2,r1.2.2.1,r1.2.2.2)).bind fun r2=>(
(F170 (r1.1,r2.1,r2.2.2.1,r2.2.2.2)).bind fun r3=>(
some (r3.2.1,r3.2.2.1,r3.2.2.2))))
theorem g161 (F170:Y570)(a0 a1 a2:Int)(a3:List Int)(a4:Int):dxf (T161 F170) sh161 [(.t 10)] c161 (a0,a1,a2,a3,a4)=q161 F170 a0 a1 a2 a3 a4:=by kernel_rfl
noncomputable def p161:=q161 P170
noncomputable def P161:Y571:=fun x=>p161 x.1 x.2.1 x.2.2.1 x.2.2.2.1 x.2.2.2.2
theorem v161:dxf (T161 P170) sh161 [(.t 10)] c161=P161:=funext fun x=>(g161 P170 x.1 x.2.1 x.2.2.1 x.2.2.2.1 x.2.2.2.2)
theorem d161:DC Tryz.prog 161 sh161 P161:=DC_eq v161 (dxf_sound t161 ok161 (by kernel_rfl))
noncomputable def T160 (F161:Y571):List FEnt:=[⟨161,sh161,F161⟩]
theorem t160:DTblOK Tryz.prog (T160 P161):=(DTbl_cons' d161 (by kernel_rfl) DTbl_nil)
noncomputable def c160:=anF Tryz.prog [] Tryz.f160 .n
theorem ok160:L.Fn Tryz.prog 160 15 [(.t 6)] (erase c160):=Fn.ofA hmix Tryz.func160 _ _ (by kernel_rfl)
def sh160:FSh:=⟨⟨[(.slc 0),(.v y13),(.ptr 1 0)],[(0,(.row 3 y13)),(1,(.boxT y13))]⟩,[y13,y25,y13],2,⟨⟨[(.v y13)],[(0,(.row 3 y13)),(1,(.boxT y13))]⟩,[y13,y25,y13],[0,1],2⟩,false⟩
noncomputable def q160 (F161:Y571)(a0:Int)(a1:List Int)(a2:Int):Option Y562:=
chk (fits .i64 (a0-1)) (
chk (fits .i64 (a0+1)) (
(F161 ((a0-1),a0,(a0+1),a1,a2)).bind fun r1=>(
some (r1.1,r1.2.1,r1.2.2))))
theorem g160 (F161:Y571)(a0:Int)(a1:List Int)(a2:Int):dxf (T160 F161) sh160 [(.t 6)] c160 (a0,a1,a2)=q160 F161 a0 a1 a2:=by kernel_rfl
noncomputable def p160:=q160 P161
noncomputable def P160:Y572:=fun x=>p160 x.1 x.2.1 x.2.2
theorem v160:dxf (T160 P161) sh160 [(.t 6)] c160=P160:=funext fun x=>(g160 P161 x.1 x.2.1 x.2.2)
theorem d160:DC Tryz.prog 160 sh160 P160:=DC_eq v160 (dxf_sound t160 ok160 (by kernel_rfl))
noncomputable def T131 (F160:Y572)(F161:Y571):List FEnt:=[⟨160,sh160,F160⟩,⟨161,sh161,F161⟩]
theorem t131:DTblOK Tryz.prog (T131 P160 P161):=(DTbl_cons' d160 (by kernel_rfl) (DTbl_cons' d161 (by kernel_rfl) DTbl_nil))
noncomputable def c131:=anF Tryz.prog [] Tryz.f131 .n
theorem ok131:L.Fn Tryz.prog 131 57 [(.t 6),(.t 7)] (erase c131):=Fn.ofA hmix Tryz.func131 _ _ (by kernel_rfl)
def sh131:FSh:=⟨⟨[(.slc 0),(.v y13),(.v y13)],[(0,(.row 3 y13))]⟩,[y13,y13,y25],1,⟨⟨[(.tup [(.v y13),(.v y13)])],[(0,(.row 3 y13))]⟩,[y13,y13,y25],[0],1⟩,false⟩
noncomputable def q131 (F160:Y572)(F161:Y571)(a0 a1:Int)(a2:List Int):Option Y566:=
chk (fits .i64 (a1-a0)) (
chk (fits .i64 (Int.tdiv (a1-a0) 4)) (
chk (fits .i64 ((Int.tdiv (a1-a0) 4)*1)) (
chk (fits .i64 (a0+((Int.tdiv (a1-a0) 4)*1))) (
chk (fits .i64 (Int.tdiv (a1-a0) 4)) (
chk (fits .i64 ((Int.tdiv (a1-a0) 4)*2)) (
chk (fits .i64 (a0+((Int.tdiv (a1-a0) 4)*2))) (
chk (fits .i64 (Int.tdiv (a1-a0) 4)) (
chk (fits .i64 ((Int.tdiv (a1-a0) 4)*3)) (
chk (fits .i64 (a0+((Int.tdiv (a1-a0) 4)*3))) (
cond (decide (8≤(a1-a0))) (
cond (decide (50≤(a1-a0))) (
(F160 ((a0+((Int.tdiv (a1-a0) 4)*1)),a2,0)).bind fun r1=>(
(F160 ((a0+((Int.tdiv (a1-a0) 4)*2)),r1.2.1,r1.2.2)).bind fun r2=>(
(F160 ((a0+((Int.tdiv (a1-a0) 4)*3)),r2.2.1,r2.2.2)).bind fun r3=>(
(F161 (r1.1,r2.1,r3.1,r3.2.1,r3.2.2)).bind fun r4=>(
cond (decide (r4.2.2=0)) (
some (r4.1,1,r4.2.1)) (
cond (decide (r4.2.2=12)) (
some (r4.1,2,r4.2.1)) (
some (r4.1,0,r4.2.1)))))))) (
(F161 ((a0+((Int.tdiv (a1-a0) 4)*1)),(a0+((Int.tdiv (a1-a0) 4)*2)),(a0+((Int.tdiv (a1-a0) 4)*3)),a2,0)).bind fun r5=>(
cond (decide (r5.2.2=0)) (
some (r5.1,1,r5.2.1)) (
cond (decide (r5.2.2=12)) (
some (r5.1,2,r5.2.1)) (
some (r5.1,0,r5.2.1)))))) (
cond (decide ((0:Int)=0)) (
some ((a0+((Int.tdiv (a1-a0) 4)*2)),1,a2)) (
cond (decide ((0:Int)=12)) (
some ((a0+((Int.tdiv (a1-a0) 4)*2)),2,a2)) (
some ((a0+((Int.tdiv (a1-a0) 4)*2)),0,a2))))))))))))))
theorem g131 (F160:Y572)(F161:Y571)(a0 a1:Int)(a2:List Int):dxf (T131 F160 F161) sh131 [(.t 6),(.t 7)] c131 (a0,a1,a2)=q131 F160 F161 a0 a1 a2:=by kernel_rfl
noncomputable def p131:=q131 P160 P161
noncomputable def P131:Y573:=fun x=>p131 x.1 x.2.1 x.2.2
theorem v131:dxf (T131 P160 P161) sh131 [(.t 6),(.t 7)] c131=P131:=funext fun x=>(g131 P160 P161 x.1 x.2.1 x.2.2)
theorem d131:DC Tryz.prog 131 sh131 P131:=DC_eq v131 (dxf_sound t131 ok131 (by kernel_rfl))
end Go.Proofs.YtdacabdocbhkdaaGreat.D
