import Derived.Test.YtoomehfflopakaaGreatDoorTV
namespace Go.Proofs.YtoomehfflopakaaGreatDoor
open Go.RowKit Tryz
theorem totAct_sm{a:GAct}(h:WV a<=1048576):zaT a:=by
 unfold WV Qy Jo at h
 refine⟨⟨by omega,by omega,by omega,λ s hs=>?_⟩,by unfold sho;omega⟩
 have:=zbs (f:=zbP) hs
 have e:zbP s=s.module.l.length+(s.name.l.length+0):=rfl
 exact⟨by omega,by omega⟩
theorem zf0{l:List GAct}{p:List Int}{t:Int}(hl:Okd l):qD (scc YL) l p t=some true:=by
 unfold qD
 cases hp:cmpI .gtr (p.length:Int) 1048576 with
 | true=>rw[Kc Z]
 |false=>
  have hp':p.length<=1048576:=by have:=bC hp;omega
  rw[Kd (by decide),szActS_eq hl (by omega) (by omega),Kb]
  cases hs:cmpI .lss (szR (Xi l) 1048576) 0 with
  | true=>rw[Kc Z]
  |false=>
   have hs':¬ szR (Xi l) 1048576<0:=bC hs
   obtain⟨h1,_⟩:=szR_nn (t:=Xi l) (left:=1048576) (by omega)
   have h2:Xi l<=1048576:=by omega
   have hlen:l.length<=1048576:=lenActS_le h2
   have hsm:∀ a∈l,zaT a:=λ a ha=>totAct_sm (by have:=zbs (f:=WV) ha;unfold Xi at h2;omega)
   have e1:=toActS_eq h2
   have e2:Zn p=some p:=toIntS_eq (by unfold totIntS;exact hp')
   have e3:ZX (scc YL) l p t=some (zey l p t):=ze4 hlen hsm
   have e4:ZQ (scc YL) l p t=some (zey l p t):=FillsOf_eq hp' hlen hsm
   have e6:Yz l l=some true:=by rw[eqActS_eq (by omega)];simp
   have e7:Yy p p=some true:=by rw[eqIntS_eq (by omega)];simp
   rw[Kd (by decide),e1,Kb,e2,Kb,e3,Kb,Kb,Kb,e4,Kb,Kd (by simp[cmpI]),Kb,e6,Kb,Kd (by decide),Kb,e7,Kb,Kd (by decide)]
theorem zbY(l:List GAct)(p:List Int)(t:Int):Fn prog 3 [dt l,dt p,dt t] (dt true):=.okd (x:=l) (by simp) λ hl=>zaW (QT YL) (zf0 hl)
