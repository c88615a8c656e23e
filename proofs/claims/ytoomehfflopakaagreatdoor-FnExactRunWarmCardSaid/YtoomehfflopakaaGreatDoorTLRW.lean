import Derived.Test.YtoomehfflopakaaGreatDoorTV
namespace Go.Proofs.YtoomehfflopakaaGreatDoor
open Go.RowKit Tryz
theorem Tz{a:GAct}(h:Wm a<=1048576):QR a:=by
 unfold Wm Q4 WY at h
 refine⟨⟨by omega,by omega,by omega,λ s hs=>?_⟩,by unfold ia;omega⟩
 have:=rB (f:=rL) hs
 have e:rL s=s.module.l.length+(s.name.l.length+0):=rfl
 exact⟨by omega,by omega⟩
theorem VA{l:List GAct}{p:List Int}{t md:Int}(hl:kN l):qS (scc Yy) l p t md=some true:=by
 unfold qS
 cases hp:ez .gtr (p.length:Int) 1048576 with
 | true=>rw[Ke Z]
 |false=>
  have hp':p.length<=1048576:=by have:=bM hp;omega
  rw[Kf (by decide),Tf hl (by omega) (by omega),Kd]
  cases hs:ez .lss (gR (Yt l) 1048576) 0 with
  | true=>rw[Ke Z]
  |false=>
   have hs':¬ gR (Yt l) 1048576<0:=bM hs
   obtain⟨h1,_⟩:=Cm (t:=Yt l) (left:=1048576) (by omega)
   have h2:Yt l<=1048576:=by omega
   have hlen:l.length<=1048576:=P9 h2
   have hsm:∀ a∈l,QR a:=λ a ha=>Tz (by have:=rB (f:=Wm) ha;unfold Yt at h2;omega)
   have e1:=Ts h2
   have e2:qj p=some p:=Tw (by unfold Co;exact hp')
   have e3:Yg (scc Yy) l p t md=some (mR l p t md):=Vj hlen hsm
   have e4:Z9 (scc Yy) l p t md=some (mR l p t md):=Mz hp' hlen hsm
   obtain⟨g1,g2⟩:=TX (path:=p) (ticks:=t) (mode:=md) hsm
   have e5:wL (mR l p t md) (mR l p t md)=some true:=by rw[EY g1 g2];simp
   have e6:YU l l=some true:=by rw[NO (by omega)];simp
   have e7:ZF p p=some true:=by rw[EZ (by omega)];simp
   obtain⟨y1,k1,m1,a1,b1⟩:=Ro (x:=l) (k:=1) h2 (by omega) (by omega)
   obtain⟨y2,k2,m2,a2,b2⟩:=KA (x:=p) (k:=k1) (by omega) (by omega) (by omega)
   have hk:ez .lss k2 0=false:=by simp[ez];omega
   rw[Kf (by decide),e1,Kd,e2,Kd,e3,Kd,Kd,Kd,e4,Kd,e5,Kd,Kf (by decide),Kd,e6,Kd,Kf (by decide),Kd,e7,Kd,Kf (by decide),m1,Kd]
   simp only
   rw[m2,Kd]
   simp only
   rw[hk,show((false == false):Bool)=true from Z,wj,Kd,Kf (by decide)]
   exact Tm g1 g2 e4
theorem zcw(l:List GAct)(p:List Int)(t md:Int):Fn prog 4 [dt l,dt p,dt t,dt md] (dt true):=.AB (x:=l) (by simp) λ hl=>Uj (ng Yy) (VA hl)
