import Derived.Test.YtdkaijofmigmbaaG2m
import Derived.Test.YtdkaijofmigmbaaProg
set_option linter.unusedVariables false
set_option maxRecDepth 100000
namespace Go.Proofs.Ytdkaijofmigmbaa.D
open Go Go.Proofs Go.Proofs.Ytdkaijofmigmbaa.L
def z12:List Ty:=[y19,y7,cI,y19,oz]
noncomputable def TJ (F111:qx):List FEnt:=[⟨111,zK,F111⟩]
theorem t83:aq Try.prog (TJ P111):=(af d111 (by kernel_rfl) al)
def Li:LSh:=⟨[0,1],⟨Tw,[(0,(.box [(.v y19),(.v y7),(.slr 1),(.mpl 2),(.slc 3)])),(1,(.rows 22 3 y7)),(2,(.gone 4)),(3,(.row 3 y7)),(4,(.pool da))]⟩,Tv,5,[0,1,2,3,4]⟩
noncomputable def c83:=bU Try.prog [] Try.f83 (.m [] Li .n)
noncomputable def VB:DCode:=sb [2] c83
noncomputable def Lj (T:List FEnt):=ly Li 10 13 4 (fun K=>bg T VB (iP 1 K))
noncomputable def l83_0 (T:List FEnt)(es:List Int)(x:lP):Option lP:=rngF es (Lj T) x
noncomputable def zL (F111:qx)(a0:Int)(a1:List Int)(a2:Int)(a3:List Y2)(a4:List Int)(a5:List Y3)(e:Int):Option lP:=
cond (decide ((pd a5 e).1=2)) (
aj (ai .i64 ((pd a5 e).2.2.2.2+a2)) (
cond (decide (((pd a5 e).2.2.2.2+a2)≤a0)) (
(F111 (e,4,a1,a2,a5,a3,a4)).bind fun r1=>(
some (a0,r1.1,r1.2.1,r1.2.2.2.1,r1.2.2.2.2,r1.2.2.1))) (
some (a0,a1,a2,a3,a4,a5)))) (
some (a0,a1,a2,a3,a4,a5))
theorem g83_0 (F111:qx)(a0:Int)(a1:List Int)(a2:Int)(a3:List Y2)(a4:List Int)(a5:List Y3)(e:Int):Lj (TJ F111) (a0,a1,a2,a3,a4,a5) e=zL F111 a0 a1 a2 a3 a4 a5 e:=by kernel_rfl
noncomputable def rz (a0:Int)(a1:List Int)(a2:Int)(a3:List Y2)(a4:List Int)(a5:List Y3)(e:Int):Option lP:=zL P111 a0 a1 a2 a3 a4 a5 e
noncomputable def zM (es:List Int)(x:lP):Option lP:=rngF es (fun x e=>rz x.1 x.2.1 x.2.2.1 x.2.2.2.1 x.2.2.2.2.1 x.2.2.2.2.2 e) x
theorem VC:l83_0 (TJ P111)=zM:=funext fun es=>funext fun x=>congrArg (fun s=>rngF es s x) (funext fun x=>funext fun e=>(g83_0 P111 x.1 x.2.1 x.2.2.1 x.2.2.2.1 x.2.2.2.2.1 x.2.2.2.2.2 e))
theorem ok83:L.Fn Try.prog 83 38 [] (erase c83):=Fn.ofA aN Try.func83 _ _ (by kernel_rfl)
def I3:FSh:=⟨⟨Tw,k9⟩,Tv,5,⟨⟨pG,k9⟩,z12,[0,1,2,3,4],5⟩,false⟩
noncomputable def q83 (F111:qx)(l83_0:Y182)(a0:Int)(a1:List Int)(a2:Int)(a3:List Y2)(a4:List Int)(a5:List Y3):Option vD:=
(l83_0 (List.map (·.1) a5) (a0,a1,a2,a3,a4,a5)).bind fun y2=>(
some (y2.2.1,y2.2.2.1,y2.2.2.2.1,y2.2.2.2.2.1,y2.2.2.2.2.2))
theorem g83 (F111:qx):aO (TJ F111) I3 [] c83=u6 (q83 F111 (l83_0 (TJ F111))):=funext fun _=>by kernel_rfl
noncomputable def p83:=q83 P111 zM
noncomputable def P83:BZ:=fun x=>p83 x.1 x.2.1 x.2.2.1 x.2.2.2.1 x.2.2.2.2.1 x.2.2.2.2.2
theorem v83:aO (TJ P111) I3 [] c83=P83:=(g83 P111).trans (by rw[VC] <;> rfl)
theorem d83:DC Try.prog 83 I3 P83:=aF v83 (ak t83 ok83 (by kernel_rfl))
noncomputable def T43:List FEnt:=[]
theorem t43:aq Try.prog T43:=al
noncomputable def c43:=bU Try.prog [] Try.f43 .n
theorem ok43:L.Fn Try.prog 43 28 [(.t 4)] (erase c43):=Fn.ofA aN Try.func43 _ _ (by kernel_rfl)
def BP:FSh:=⟨⟨Tw,k9⟩,Tv,5,⟨⟨[(.pel 4)],k9⟩,Tv,[0,1,2,3],5⟩,false⟩
noncomputable def q43 (a0:Int)(a1:List Int)(a2:Int)(a3:List Y2)(a4:List Int)(a5:List Y3):Option lP:=
cond (Option.isSome (aP a5 a0)) (
some (a0,a1,a2,a3,a4,a5)) (
aj (!Option.isSome (aP a5 a0)) (
some (a0,a1,a2,a3,a4,(a5++[(a0,(0,((-1),((-1),(0,0)))))]))))
theorem g43:aO T43 BP [(.t 4)] c43=u6 q43:=funext fun _=>by kernel_rfl
noncomputable def p43:=q43
noncomputable def nN:nS:=fun x=>p43 x.1 x.2.1 x.2.2.1 x.2.2.2.1 x.2.2.2.2.1 x.2.2.2.2.2
theorem v43:aO T43 BP [(.t 4)] c43=nN:=g43
theorem d43:DC Try.prog 43 BP nN:=aF v43 (ak t43 ok43 (by kernel_rfl))
end Go.Proofs.Ytdkaijofmigmbaa.D
