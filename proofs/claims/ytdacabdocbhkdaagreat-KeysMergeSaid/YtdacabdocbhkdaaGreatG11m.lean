/- Cut down from a longer text. -/
import Derived.Test.YtdacabdocbhkdaaGreatG10m
import Derived.Test.YtdacabdocbhkdaaGreatProg
set_option linter.unusedVariables false
set_option maxRecDepth 100000
namespace Go.Proofs.YtdacabdocbhkdaaGreat.D
open Go Go.Proofs L
def h6_1:LSh:=⟨[2,3,5,7,8,9,10],⟨[(.ptr 0 0),(.ptr 1 0),(.slc 2),(.ptr 3 0),(.v y13),(.slc 4),(.v y13)],[(0,(.boxT y91)),(1,(.boxT y473)),(2,(.row 3 y13)),(3,(.box [(.slc 5),(.slc 6),(.slc 7),(.slc 8),(.slc 9)])),(4,(.row 64 y24)),(5,(.row 64 y24)),(6,(.row 42 y87)),(7,(.row 46 y67)),(8,(.row 59 y68)),(9,(.row 3 y13))]⟩,[y13,y13,y91,y473,y25,y35,y35,y89,y77,y78,y25],10,[0,1,2,3,5,6,7,8,9]⟩
def x6_1:List XSh:=[⟨(.exit 2),[2,3,5,7,8,9],⟨⟨[(.ptr 0 0),(.ptr 1 0),(.slc 2),(.ptr 3 0),(.v y13),(.slc 10)],[(0,(.boxT y91)),(1,(.boxT y473)),(2,(.row 3 y13)),(3,(.box [(.slc 5),(.slc 6),(.slc 7),(.slc 8),(.slc 9)])),(5,(.row 64 y24)),(6,(.row 42 y87)),(7,(.row 46 y67)),(8,(.row 59 y68)),(9,(.row 3 y13)),(10,(.row 64 y24))]⟩,[y13,y91,y473,y25,y35,y89,y77,y78,y25,y35],[0,1,2,3,5,6,7,8,9],11⟩⟩]
def h6_2:LSh:=⟨[2,3,5,7,8,9,11],⟨[(.ptr 0 0),(.ptr 1 0),(.slc 2),(.ptr 3 0),(.v y13),(.slc 4),(.v y13)],[(0,(.boxT y91)),(1,(.boxT y473)),(2,(.row 3 y13)),(3,(.box [(.slc 5),(.slc 6),(.slc 7),(.slc 8),(.slc 9)])),(4,(.row 64 y24)),(5,(.row 64 y24)),(6,(.row 42 y87)),(7,(.row 46 y67)),(8,(.row 59 y68)),(9,(.row 3 y13))]⟩,[y13,y13,y91,y473,y25,y35,y35,y89,y77,y78,y25],10,[0,1,2,3,5,6,7,8,9]⟩
def x6_2:List XSh:=[⟨(.exit 4),[2,3,5,7,8,9],⟨⟨[(.ptr 0 0),(.ptr 1 0),(.slc 2),(.ptr 3 0),(.v y13),(.slc 10)],[(0,(.boxT y91)),(1,(.boxT y473)),(2,(.row 3 y13)),(3,(.box [(.slc 5),(.slc 6),(.slc 7),(.slc 8),(.slc 9)])),(5,(.row 64 y24)),(6,(.row 42 y87)),(7,(.row 46 y67)),(8,(.row 59 y68)),(9,(.row 3 y13)),(10,(.row 64 y24))]⟩,[y13,y91,y473,y25,y35,y89,y77,y78,y25,y35],[0,1,2,3,5,6,7,8,9],11⟩⟩]
def h6_0:LSh:=⟨[2,3,5,7,8],⟨[(.ptr 0 0),(.ptr 1 0),(.slc 2),(.ptr 3 0),(.v y13)],[(0,(.boxT y91)),(1,(.boxT y473)),(2,(.row 3 y13)),(3,(.box [(.slc 4),(.slc 5),(.slc 6),(.slc 7),(.slc 8)])),(4,(.row 64 y24)),(5,(.row 42 y87)),(6,(.row 46 y67)),(7,(.row 59 y68)),(8,(.row 3 y13))]⟩,[y13,y91,y473,y25,y35,y89,y77,y78,y25],9,[0,1,2,3,4,5,6,7,8]⟩
def x6_0:List XSh:=[⟨(.exit 0),[2,3,7],⟨⟨[(.ptr 0 0),(.ptr 1 0),(.ptr 3 0)],[(0,(.boxT y91)),(1,(.boxT y473)),(2,(.row 3 y13)),(3,(.box [(.slc 4),(.slc 5),(.slc 6),(.slc 7),(.slc 8)])),(4,(.row 64 y24)),(5,(.row 42 y87)),(6,(.row 46 y67)),(7,(.row 59 y68)),(8,(.row 3 y13))]⟩,[y91,y473,y25,y35,y89,y77,y78,y25],[0,1,2,3,4,5,6,7,8],9⟩⟩]
def h6_3:LSh:=⟨[2,3,7,14,16,18],⟨[(.ptr 0 0),(.ptr 1 0),(.ptr 2 0),(.v y35),(.v y35),(.v y13)],[(0,(.boxT y91)),(1,(.boxT y473)),(2,(.boxT y91))]⟩,[y35,y35,y13,y91,y473,y91],3,[0,1,2]⟩
def x6_3:List XSh:=[⟨.ret,[4],⟨⟨[(.v .bool)],[(0,(.boxT y91)),(1,(.boxT y473)),(2,(.boxT y91))]⟩,[.bool,y91,y473,y91],[0,1,2],3⟩⟩,⟨(.exit 6),[2,3,7],⟨⟨[(.ptr 0 0),(.ptr 1 0),(.ptr 2 0)],[(0,(.boxT y91)),(1,(.boxT y473)),(2,(.boxT y91))]⟩,[y91,y473,y91],[0,1,2],3⟩⟩]
noncomputable def c6:=anF Tryz.prog [] Tryz.f6 (.s .n (.s .n (.s .n (.s .n (.s .n (.s (.s .n (.b (.l h6_0 x6_0 (.s .n (.s (.b (.s .n (.s .n (.s (.s .n (.b (.l h6_1 x6_1 (.s .n (.s (.b (.s .n (.s (.r [.a 10 true y24,.a 11 true y24]) .n))) .n))))) (.s (.s .n (.b (.l h6_2 x6_2 (.s .n (.s (.b (.s .n (.s (.r [.a 6 true y24,.a 7 true y24]) .n))) .n))))) (.r [.f 6 9 []])))))) .n))))) (.s .n (.s .n (.s .n (.s (.r [.f 5 129 [0],.f 5 129 [1],.f 5 129 [2],.f 5 129 [3],.f 5 129 [4]]) (.s .n (.s (.s .n (.b (.l h6_3 x6_3 .n))) .n))))))))))))
noncomputable def s6_0 (T:List FEnt):=dstep (xs:=x6_0) h6_0 (dxc T (sb [1,1,1,1,1,0,1,2,2] c6))
noncomputable def l6_0 (T:List FEnt):=whileF (s6_0 T)
noncomputable def s6_3 (T:List FEnt):=dstep (xs:=x6_3) h6_3 (dxc T (sb [1,1,1,1,1,1,1,1,1,1,1,0,1,2,2] c6))
noncomputable def l6_3 (T:List FEnt):=whileF (s6_3 T)
noncomputable def q6 (F14:Y479)(F15:Y323)(F22:Y357)(F25:Y361)(F24:Y8)(F26:Y198)(F21:Y447)(F17:Y301)(l6_0:Y548)(l6_3:Y554)(a0:Y42)(a1:Y274):Option Bool:=
(F14 (a0,a1)).bind fun r1=>(
cond (!r1) (
(F15 ()).bind fun r2=>(
some r2)) (
(F22 (a0,a1.1,a1.2.1)).bind fun r3=>(
cond (!decide (r3.1=0)) (
some false) (
cond (decide (12 < (↑r3.2.length:Int))) (
some false) (
(F25 a0).bind fun r4=>(
(l6_0 (0,a0,a1,r3.2,r4.1,r4.2.1,r4.2.2.1,r4.2.2.2.1,r4.2.2.2.2)).bind fun y9=>(
(F26 y9.2.2.2).bind fun r10=>(
cond (!decide (r10=0)) (
(F15 ()).bind fun r11=>(
some r11)) (
(F22 (y9.2.2.2,y9.2.1.1,y9.2.1.2.1)).bind fun r12=>(
(F21 (y9.1,y9.2.1.1,y9.2.1.2.1)).bind fun r13=>(
(F21 (y9.2.2.2,y9.2.1.1,y9.2.1.2.1)).bind fun r14=>(
cond (!decide (r12.1=0)) (
some false) (
cond (decide (0 < (↑r12.2.length:Int))) (
some false) (
cond (!decide (r13.2=0)) (
some false) (
cond (!decide (r14.2=0)) (
some false) (
cond (!decide ((↑r13.1.length:Int)=(↑r14.1.length:Int))) (
some false) (
(l6_3 (r13.1,r14.1,0,y9.1,y9.2.1,y9.2.2.2)).bind (fun y15=>Sum.elim (fun y16=>(
some y16.1)) (fun y17=>(
(F17 (y17.1,y17.2.1.1,y17.2.1.2.1,y17.2.1.2.2)).bind fun r18=>(
(F17 (y17.2.2,y17.2.1.1,y17.2.1.2.1,y17.2.1.2.2)).bind fun r19=>(
cond (decide (r18.2.2=0)) (
cond (decide (r19.2.2=0)) (
cond (!decide (r18.1=0)) (
cond (!decide (r19.1=1)) (
(F15 ()).bind fun r20=>(
some r20)) (
some false)) (
cond (decide (r19.1=0)) (
cond (!decide (r19.1=1)) (
(F15 ()).bind fun r21=>(
some r21)) (
some false)) (
some false))) (
some false)) (
some false))))) y15))))))))))))))))))
end Go.Proofs.YtdacabdocbhkdaaGreat.D
