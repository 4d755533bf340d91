import Derived.Test.YtdkaijofmigmbaaG2w
import Derived.Test.YtdkaijofmigmbaaProg
set_option linter.unusedVariables false
set_option maxRecDepth 100000
namespace Go.Proofs.Ytdkaijofmigmbaa.D
open Go Go.Proofs Go.Proofs.Ytdkaijofmigmbaa.L
def XE:List Ty:=[y19,y7,cG,y19,n5]
noncomputable def VI (F111:qK):List FEnt:=[⟨111,Aq,F111⟩]
theorem t83:ak Try.prog (VI P111):=dK ai d111
def MW:LSh:=⟨[0,1],⟨Vw,[(0,(.box [(.v y19),(.v y7),(.slr 1),(.mpl 2),(.slc 3)])),(1,(.rows 22 3 y7)),(2,(.gone 4)),(3,(.row 3 y7)),(4,(.pool cZ))]⟩,Vv,5,[0,1,2,3,4]⟩
noncomputable def c83:=bK Try.prog [] Try.f83 (.m [] MW .n)
noncomputable def XF:DCode:=sb [2] c83
noncomputable def MX (T:List FEnt):=lH MW 10 13 4 (fun K=>bc T XF (i9 1 K))
noncomputable def l83_0 (T:List FEnt)(es:List Int)(x:oa):Option oa:=rngF es (MX T) x
noncomputable def Ar (F111:qK)(a0:Int)(a1:List Int)(a2:Int)(a3:List Y2)(a4:List Int)(a5:List Y3)(e:Int):Option oa:=
cond (decide ((pd a5 e).1=2)) (
ah (af .i64 ((pd a5 e).2.2.2.2+a2)) (
cond (decide (((pd a5 e).2.2.2.2+a2)≤a0)) (
(F111 (e,4,a1,a2,a5,a3,a4)).bind fun r1=>(
some (a0,r1.1,r1.2.1,r1.2.2.2.1,r1.2.2.2.2,r1.2.2.1))) (
some (a0,a1,a2,a3,a4,a5)))) (
some (a0,a1,a2,a3,a4,a5))
theorem g83_0 (F111:qK)(a0:Int)(a1:List Int)(a2:Int)(a3:List Y2)(a4:List Int)(a5:List Y3)(e:Int):MX (VI F111) (a0,a1,a2,a3,a4,a5) e=Ar F111 a0 a1 a2 a3 a4 a5 e:=by kernel_rfl
noncomputable def rM (a0:Int)(a1:List Int)(a2:Int)(a3:List Y2)(a4:List Int)(a5:List Y3)(e:Int):Option oa:=Ar P111 a0 a1 a2 a3 a4 a5 e
noncomputable def As (es:List Int)(x:oa):Option oa:=rngF es (fun x e=>rM x.1 x.2.1 x.2.2.1 x.2.2.2.1 x.2.2.2.2.1 x.2.2.2.2.2 e) x
theorem XG:l83_0 (VI P111)=As:=funext fun es=>funext fun x=>congrArg (fun s=>rngF es s x) (funext fun x=>funext fun e=>(g83_0 P111 x.1 x.2.1 x.2.2.1 x.2.2.2.1 x.2.2.2.2.1 x.2.2.2.2.2 e))
theorem ok83:L.Fn Try.prog 83 38 [] (erase c83):=oA Try.func83
def JY:FSh:=⟨⟨Vw,k9⟩,Vv,5,⟨⟨pR,k9⟩,XE,[0,1,2,3,4],5⟩,false⟩
noncomputable def q83 (F111:qK)(l83_0:List Int→oa→Option oa)(a0:Int)(a1:List Int)(a2:Int)(a3:List Y2)(a4:List Int)(a5:List Y3):Option wc:=
(l83_0 (List.map (·.1) a5) (a0,a1,a2,a3,a4,a5)).bind fun y2=>(
some (y2.2.1,y2.2.2.1,y2.2.2.2.1,y2.2.2.2.2.1,y2.2.2.2.2.2))
theorem g83 (F111:qK):aK (VI F111) JY [] c83=u6 (q83 F111 (l83_0 (VI F111))):=funext fun _=>by kernel_rfl
noncomputable def p83:=q83 P111 As
noncomputable def P83:CG:=u6 p83
theorem v83:aK (VI P111) JY [] c83=P83:=(g83 P111).trans (by rw[XG] <;> rfl)
theorem d83:DC Try.prog 83 JY P83:=dD v83 t83 ok83
noncomputable def T43:List FEnt:=[]
theorem t43:ak Try.prog T43:=ai
noncomputable def c43:=bK Try.prog [] Try.f43 .n
theorem ok43:L.Fn Try.prog 43 28 [(.t 4)] (erase c43):=oA Try.func43
def Cn:FSh:=⟨⟨Vw,k9⟩,Vv,5,⟨⟨[(.pel 4)],k9⟩,Vv,[0,1,2,3],5⟩,false⟩
noncomputable def q43 (a0:Int)(a1:List Int)(a2:Int)(a3:List Y2)(a4:List Int)(a5:List Y3):Option oa:=
cond (Option.isSome (aL a5 a0)) (
some (a0,a1,a2,a3,a4,a5)) (
ah (!Option.isSome (aL a5 a0)) (
some (a0,a1,a2,a3,a4,(a5++[(a0,(0,((-1),((-1),(0,0)))))]))))
theorem g43:aK T43 Cn [(.t 4)] c43=u6 q43:=funext fun _=>by kernel_rfl
noncomputable def p43:=q43
noncomputable def nZ:oc:=u6 p43
theorem v43:aK T43 Cn [(.t 4)] c43=nZ:=g43
theorem d43:DC Try.prog 43 Cn nZ:=dD v43 t43 ok43
end Go.Proofs.Ytdkaijofmigmbaa.D
