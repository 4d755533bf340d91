/- Cut down from a longer text. -/
import Derived.Test.YtdacabdocbhkdaaGreatG8n
import Derived.Test.YtdacabdocbhkdaaGreatProg
set_option linter.unusedVariables false
set_option maxRecDepth 100000
namespace Go.Proofs.YtdacabdocbhkdaaGreat.D
open Go Go.Proofs Go.Proofs.YtdacabdocbhkdaaGreat.L
noncomputable def T33 (F43:Y311)(F44:Y302):List FEnt:=[⟨43,sh43,F43⟩,⟨44,sh44,F44⟩]
theorem t33:DTblOK Tryz.prog (T33 P43 P44):=(DTbl_cons' (f:=43) (sh:=sh43) (F:=P43) d43 (by kernel_rfl) (DTbl_cons' (f:=44) (sh:=sh44) (F:=P44) d44 (by kernel_rfl) DTbl_nil))
def h33_0:LSh:=⟨[3,10,29,30,31],⟨[(.v y13),(.v (.opt y229)),(.v y35),(.v y13),(.v y13)],[]⟩,[y13,(.opt y229),y35,y13,y13],0,[]⟩
def x33_0:List XSh:=[⟨.ret,[8,9],⟨⟨[(.v y13),(.v y13)],[]⟩,[y13,y13],[],0⟩⟩,⟨(.exit 0),[],⟨⟨[],[]⟩,[],[],0⟩⟩]
noncomputable def c33:DCode:=anF Tryz.prog [] Tryz.f33 (.s .n (.s .n (.s .n (.s (.s .n (.b (.l h33_0 x33_0 .n))) .n))))
noncomputable def b33_0:DCode:=sb [1,1,1,0,1,2,2] c33
noncomputable def s33_0 (T:List FEnt):Y518:=dstep (xs:=x33_0) h33_0 (dxc T b33_0)
noncomputable def l33_0 (T:List FEnt):Y502:=whileF (s33_0 T)
noncomputable def q33_0 (F43:Y311)(F44:Y302)(a0:Int)(a1:Option Y181)(a2:List Y1)(a3:Int)(a4:Int):Option Y513:=
cond (decide (a4 < a3)) (
chk (inR a4 (List.length a2)) (
cond (decide ((max a0 ((ix a2 a4).1))≤(ix a2 a4).2)) (
(F44 (a1,(max a0 ((ix a2 a4).1)))).bind fun(r2:Bool)=>(
cond r2 (
some (Sum.inr (Sum.inl ((max a0 ((ix a2 a4).1)),(0:Int))))) (
chk (fits .i64 (a4+(1:Int))) (
some (Sum.inl (a0,a1,a2,a3,(a4+(1:Int)))))))) (
chk (fits .i64 (a4+(1:Int))) (
some (Sum.inl (a0,a1,a2,a3,(a4+(1:Int)))))))) (
some (Sum.inr (Sum.inr ())))
theorem g33_0 (F43:Y311)(F44:Y302)(a0:Int)(a1:Option Y181)(a2:List Y1)(a3:Int)(a4:Int):s33_0 (T33 F43 F44) (a0,a1,a2,a3,a4)=q33_0 F43 F44 a0 a1 a2 a3 a4:=by kernel_rfl
noncomputable def p33_0 (a0:Int)(a1:Option Y181)(a2:List Y1)(a3:Int)(a4:Int):Option Y513:=q33_0 P43 P44 a0 a1 a2 a3 a4
noncomputable def L33_0:Y502:=whileF (fun x=>p33_0 x.1 x.2.1 x.2.2.1 x.2.2.2.1 x.2.2.2.2)
theorem v33_0:l33_0 (T33 P43 P44) =L33_0:=congrArg whileF (funext fun x=>(g33_0 P43 P44 x.1 x.2.1 x.2.2.1 x.2.2.2.1 x.2.2.2.2).trans (show q33_0 P43 P44 x.1 x.2.1 x.2.2.1 x.2.2.2.1 x.2.2.2.2=q33_0 P43 P44 x.1 x.2.1 x.2.2.1 x.2.2.2.1 x.2.2.2.2 from rfl))
theorem ok33:L.Fn Tryz.prog 33 50 [(.t 8),(.t 9)] (erase c33):=Fn.ofA hmix Tryz.func33 _ _ (by kernel_rfl)
def sh33:FSh:=⟨⟨[(.st y91),(.v y13),(.v y13),(.v y13)],[]⟩,[y91,y13,y13,y13],0,⟨⟨[(.tup [(.v y13),(.v y13)])],[]⟩,[y13,y13],[],0⟩,true⟩
noncomputable def q33 (F43:Y311)(F44:Y302)(l33_0:Y502)(a0:Y42)(a1:Int)(a2:Int)(a3:Int):Option Y1:=
(F43 (a0,a1,a2,a3)).bind fun(r1:Y289×Int)=>(
cond (!decide (r1.2=(0:Int))) (
some ((0:Int),r1.2)) (
chk (Option.isSome r1.1) (
(l33_0 (a3,r1.1,(dof r1.1 ((0:Int),((0:Int),((0:Int),((0:Int),((0:Int),(false,([],((0:Int),([],([],([],([],[]))))))))))))).2.2.2.2.2.2.2.2.2.2.2.2,(↑(List.length ((dof r1.1 ((0:Int),((0:Int),((0:Int),((0:Int),((0:Int),(false,([],((0:Int),([],([],([],([],[]))))))))))))).2.2.2.2.2.2.2.2.2.2.2.2)):Int),(0:Int))).bind (fun(y3:Y1⊕Unit)=>Sum.elim (fun(y4:Int×Int)=>(
some (y4.1,y4.2))) (fun(y5:Unit)=>(
some ((0:Int),(3:Int)))) y3))))
theorem g33 (F43:Y311)(F44:Y302)(a0:Y42)(a1:Int)(a2:Int)(a3:Int):dxf (T33 F43 F44) sh33 [(.t 8),(.t 9)] c33 (a0,a1,a2,a3)=q33 F43 F44 (l33_0 (T33 F43 F44)) a0 a1 a2 a3:=by kernel_rfl
noncomputable def p33 (a0:Y42)(a1:Int)(a2:Int)(a3:Int):Option Y1:=q33 P43 P44 L33_0 a0 a1 a2 a3
noncomputable def P33:Y356:=fun x=>p33 x.1 x.2.1 x.2.2.1 x.2.2.2
theorem v33:dxf (T33 P43 P44) sh33 [(.t 8),(.t 9)] c33=P33:=funext fun x=>(g33 P43 P44 x.1 x.2.1 x.2.2.1 x.2.2.2).trans (show q33 P43 P44 (l33_0 (T33 P43 P44)) x.1 x.2.1 x.2.2.1 x.2.2.2=q33 P43 P44 L33_0 x.1 x.2.1 x.2.2.1 x.2.2.2 from by rw[v33_0])
theorem d33:DC Tryz.prog 33 sh33 P33:=DC_eq v33 (dxf_sound (sh:=sh33) t33 ok33 (by kernel_rfl))
end Go.Proofs.YtdacabdocbhkdaaGreat.D
