import Derived.Test.YtdkaijofmigmbaaG2f
import Derived.Test.YtdkaijofmigmbaaProg
set_option linter.unusedVariables false
set_option maxRecDepth 100000
namespace Go.Proofs.Ytdkaijofmigmbaa.D
open Go Go.Proofs Go.Proofs.Ytdkaijofmigmbaa.L
def Xh:List Ty:=[y19,y7,cD,y19,oa]
noncomputable def Vk (F111:qP):List FEnt:=[⟨111,At,F111⟩]
theorem t83:al Try.prog (Vk P111):=dK aj d111
def My:LSh:=⟨[0,1],⟨Rm,[(0,(.box [(.v y19),(.v y7),(.slr 1),(.mpl 2),(.slc 3)])),(1,(.rows 22 3 y7)),(2,(.gone 4)),(3,(.row 3 y7)),(4,(.pool cW))]⟩,U8,5,[0,1,2,3,4]⟩
noncomputable def c83:=bK Try.prog [] Try.f83 (.m [] My .n)
noncomputable def Xi:DCode:=sb [2] c83
noncomputable def Mz (T:List FEnt):=lN My 10 13 4 (fun K=>bd T Xi (i6 1 K))
noncomputable def l83_0 (T:List FEnt)(es:List Int)(x:oh):Option oh:=rngF es (Mz T) x
noncomputable def Au (F111:qP)(a0:Int)(a1:List Int)(a2:Int)(a3:List Y2)(a4:List Int)(a5:List Y3)(e:Int):Option oh:=
cond (decide ((pd a5 e).1=2)) (
ai (ah .i64 ((pd a5 e).2.2.2.2+a2)) (
cond (decide (((pd a5 e).2.2.2.2+a2)≤a0)) (
(F111 (e,4,a1,a2,a5,a3,a4)).bind fun r1=>(
some (a0,r1.1,r1.2.1,r1.2.2.2.1,r1.2.2.2.2,r1.2.2.1))) (
some (a0,a1,a2,a3,a4,a5)))) (
some (a0,a1,a2,a3,a4,a5))
theorem g83_0 (F111:qP)(a0:Int)(a1:List Int)(a2:Int)(a3:List Y2)(a4:List Int)(a5:List Y3)(e:Int):Mz (Vk F111) (a0,a1,a2,a3,a4,a5) e=Au F111 a0 a1 a2 a3 a4 a5 e:=by kernel_rfl
noncomputable def rR (a0:Int)(a1:List Int)(a2:Int)(a3:List Y2)(a4:List Int)(a5:List Y3)(e:Int):Option oh:=Au P111 a0 a1 a2 a3 a4 a5 e
noncomputable def Av (es:List Int)(x:oh):Option oh:=rngF es (fun x e=>rR x.1 x.2.1 x.2.2.1 x.2.2.2.1 x.2.2.2.2.1 x.2.2.2.2.2 e) x
theorem Xj:l83_0 (Vk P111)=Av:=funext fun es=>funext fun x=>congrArg (fun s=>rngF es s x) (funext fun x=>funext fun e=>(g83_0 P111 x.1 x.2.1 x.2.2.1 x.2.2.2.1 x.2.2.2.2.1 x.2.2.2.2.2 e))
theorem ok83:L.Fn Try.prog 83 38 [] (erase c83):=oA Try.func83
def JQ:FSh:=⟨⟨Rm,k9⟩,U8,5,⟨⟨pX,k9⟩,Xh,[0,1,2,3,4],5⟩,false⟩
noncomputable def q83 (F111:qP)(l83_0:List Int→oh→Option oh)(a0:Int)(a1:List Int)(a2:Int)(a3:List Y2)(a4:List Int)(a5:List Y3):Option wj:=
(l83_0 (List.map (·.1) a5) (a0,a1,a2,a3,a4,a5)).bind fun y2=>(
some (y2.2.1,y2.2.2.1,y2.2.2.2.1,y2.2.2.2.2.1,y2.2.2.2.2.2))
theorem g83 (F111:qP):aK (Vk F111) JQ [] c83=u6 (q83 F111 (l83_0 (Vk F111))):=funext fun _=>by kernel_rfl
noncomputable def p83:=q83 P111 Av
noncomputable def P83:CB:=u6 p83
theorem v83:aK (Vk P111) JQ [] c83=P83:=(g83 P111).trans (by rw[Xj] <;> rfl)
theorem d83:DC Try.prog 83 JQ P83:=dD v83 t83 ok83
noncomputable def T43:List FEnt:=[]
theorem t43:al Try.prog T43:=aj
noncomputable def c43:=bK Try.prog [] Try.f43 .n
theorem ok43:L.Fn Try.prog 43 28 [(.t 4)] (erase c43):=oA Try.func43
def Cp:FSh:=⟨⟨Rm,k9⟩,U8,5,⟨⟨[(.pel 4)],k9⟩,U8,[0,1,2,3],5⟩,false⟩
noncomputable def q43 (a0:Int)(a1:List Int)(a2:Int)(a3:List Y2)(a4:List Int)(a5:List Y3):Option oh:=
cond (Option.isSome (aO a5 a0)) (
some (a0,a1,a2,a3,a4,a5)) (
ai (!Option.isSome (aO a5 a0)) (
some (a0,a1,a2,a3,a4,(a5++[(a0,(0,((-1),((-1),(0,0)))))]))))
theorem g43:aK T43 Cp [(.t 4)] c43=u6 q43:=funext fun _=>by kernel_rfl
noncomputable def p43:=q43
noncomputable def n9:oi:=u6 p43
theorem v43:aK T43 Cp [(.t 4)] c43=n9:=g43
theorem d43:DC Try.prog 43 Cp n9:=dD v43 t43 ok43
end Go.Proofs.Ytdkaijofmigmbaa.D
