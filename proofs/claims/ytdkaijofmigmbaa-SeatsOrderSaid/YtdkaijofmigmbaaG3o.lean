import Derived.Test.YtdkaijofmigmbaaG2o
import Derived.Test.YtdkaijofmigmbaaProg
set_option linter.unusedVariables false
set_option maxRecDepth 100000
namespace Go.Proofs.Ytdkaijofmigmbaa.D
open Go Go.Proofs Go.Proofs.Ytdkaijofmigmbaa.L
def z12:List Ty:=[y19,y7,cG,y19,n6]
noncomputable def TB (F111:pX):List FEnt:=[⟨111,zz,F111⟩]
theorem t83:al Try.prog (TB P111):=(aa d111 (by kernel_rfl) ak)
def K6:LSh:=⟨[0,1],⟨To,[(0,(.box [(.v y19),(.v y7),(.slr 1),(.mpl 2),(.slc 3)])),(1,(.rows 22 3 y7)),(2,(.gone 4)),(3,(.row 3 y7)),(4,(.pool cW))]⟩,Tn,5,[0,1,2,3,4]⟩
noncomputable def c83:=bU Try.prog [] Try.f83 (.m [] K6 .n)
noncomputable def Vy:DCode:=sb [2] c83
noncomputable def K7 (T:List FEnt):=lk K6 10 13 4 (fun K=>bf T Vy (iL 1 K))
noncomputable def l83_0 (T:List FEnt)(es:List Int)(x:lE):Option lE:=rngF es (K7 T) x
noncomputable def zA (F111:pX)(a0:Int)(a1:List Int)(a2:Int)(a3:List Y2)(a4:List Int)(a5:List Y3)(e:Int):Option lE:=
cond (decide ((pd a5 e).1=2)) (
ai (ah .i64 ((pd a5 e).2.2.2.2+a2)) (
cond (decide (((pd a5 e).2.2.2.2+a2)≤a0)) (
(F111 (e,4,a1,a2,a5,a3,a4)).bind fun r1=>(
some (a0,r1.1,r1.2.1,r1.2.2.2.1,r1.2.2.2.2,r1.2.2.1))) (
some (a0,a1,a2,a3,a4,a5)))) (
some (a0,a1,a2,a3,a4,a5))
theorem g83_0 (F111:pX)(a0:Int)(a1:List Int)(a2:Int)(a3:List Y2)(a4:List Int)(a5:List Y3)(e:Int):K7 (TB F111) (a0,a1,a2,a3,a4,a5) e=zA F111 a0 a1 a2 a3 a4 a5 e:=by kernel_rfl
noncomputable def qS (a0:Int)(a1:List Int)(a2:Int)(a3:List Y2)(a4:List Int)(a5:List Y3)(e:Int):Option lE:=zA P111 a0 a1 a2 a3 a4 a5 e
noncomputable def zB (es:List Int)(x:lE):Option lE:=rngF es (fun x e=>qS x.1 x.2.1 x.2.2.1 x.2.2.2.1 x.2.2.2.2.1 x.2.2.2.2.2 e) x
theorem Vz:l83_0 (TB P111)=zB:=funext fun es=>funext fun x=>congrArg (fun s=>rngF es s x) (funext fun x=>funext fun e=>(g83_0 P111 x.1 x.2.1 x.2.2.1 x.2.2.2.1 x.2.2.2.2.1 x.2.2.2.2.2 e))
theorem ok83:L.Fn Try.prog 83 38 [] (erase c83):=Fn.ofA aM Try.func83 _ _ (by kernel_rfl)
def IH:FSh:=⟨⟨To,k9⟩,Tn,5,⟨⟨pc,k9⟩,z12,[0,1,2,3,4],5⟩,false⟩
noncomputable def q83 (F111:pX)(l83_0:Y182)(a0:Int)(a1:List Int)(a2:Int)(a3:List Y2)(a4:List Int)(a5:List Y3):Option uU:=
(l83_0 (List.map (·.1) a5) (a0,a1,a2,a3,a4,a5)).bind fun y2=>(
some (y2.2.1,y2.2.2.1,y2.2.2.2.1,y2.2.2.2.2.1,y2.2.2.2.2.2))
theorem g83 (F111:pX):aO (TB F111) IH [] c83=u6 (q83 F111 (l83_0 (TB F111))):=funext fun _=>by kernel_rfl
noncomputable def p83:=q83 P111 zB
noncomputable def P83:BK:=fun x=>p83 x.1 x.2.1 x.2.2.1 x.2.2.2.1 x.2.2.2.2.1 x.2.2.2.2.2
theorem v83:aO (TB P111) IH [] c83=P83:=(g83 P111).trans (by rw[Vz] <;> rfl)
theorem d83:DC Try.prog 83 IH P83:=aD v83 (aj t83 ok83 (by kernel_rfl))
noncomputable def T43:List FEnt:=[]
theorem t43:al Try.prog T43:=ak
noncomputable def c43:=bU Try.prog [] Try.f43 .n
theorem ok43:L.Fn Try.prog 43 28 [(.t 4)] (erase c43):=Fn.ofA aM Try.func43 _ _ (by kernel_rfl)
def Bx:FSh:=⟨⟨To,k9⟩,Tn,5,⟨⟨[(.pel 4)],k9⟩,Tn,[0,1,2,3],5⟩,false⟩
noncomputable def q43 (a0:Int)(a1:List Int)(a2:Int)(a3:List Y2)(a4:List Int)(a5:List Y3):Option lE:=
cond (Option.isSome (aP a5 a0)) (
some (a0,a1,a2,a3,a4,a5)) (
ai (!Option.isSome (aP a5 a0)) (
some (a0,a1,a2,a3,a4,(a5++[(a0,(0,((-1),((-1),(0,0)))))]))))
theorem g43:aO T43 Bx [(.t 4)] c43=u6 q43:=funext fun _=>by kernel_rfl
noncomputable def p43:=q43
noncomputable def nu:nA:=fun x=>p43 x.1 x.2.1 x.2.2.1 x.2.2.2.1 x.2.2.2.2.1 x.2.2.2.2.2
theorem v43:aO T43 Bx [(.t 4)] c43=nu:=g43
theorem d43:DC Try.prog 43 Bx nu:=aD v43 (aj t43 ok43 (by kernel_rfl))
end Go.Proofs.Ytdkaijofmigmbaa.D
