import Derived.Test.YtpmkkijamfgaeaaGreatDoorRB
import Derived.Test.YtpmkkijamfgaeaaGreatDoorRO
import Derived.Test.YtpmkkijamfgaeaaGreatDoorRM
import Derived.Test.YtpmkkijamfgaeaaGreatDoorRH
namespace Go.Proofs.YtpmkkijamfgaeaaGreatDoor
open Go.RowKit Tryz
attribute [local irreducible] OpRel OpdR
set_option maxRecDepth 10000
set_option maxHeartbeats 1600000
theorem kF158_2:fldB prog 158 2 2=true:=by kernel_rfl
theorem kF158_3:fldB prog 158 3 3=true:=by kernel_rfl
theorem kF158_0:fldB prog 158 0 0=true:=by kernel_rfl
theorem kN96:fnB prog 96=true:=by kernel_rfl
instance iF158_0MbA:FldO prog 158 0 0:=⟨kF158_0⟩
instance iF158_2MbA:FldO prog 158 2 2:=⟨kF158_2⟩
instance iF158_3MbA:FldO prog 158 3 3:=⟨kF158_3⟩
instance iF25_0MbA:FldO prog 25 0 0:=⟨qg⟩
instance iF98_5MbA:FldO prog 98 5 5:=⟨zbV⟩
open Go.RowKit Tryz
set_option maxRecDepth 10000
set_option maxHeartbeats 1600000
theorem kF158_1:fldB prog 158 1 1=true:=by kernel_rfl
instance iF158_1MbB:FldO prog 158 1 1:=⟨kF158_1⟩
def wT(x1:Int)(s4:Str×Int):Option ((Str×Int)⊕(Str⊕(Str×Bool))):=
if(cmpI .lss s4.2 x1)=true then(if(decide (s4.1=(⟨[]⟩:Str)))=true then(some (.inr (.inr ((⟨[]⟩:Str),false))))
else((yz s4.1).bind λ v15=>
(i64 (s4.2+(1:Int))).bind λ v18=>
some (.inl (v15,v18))))
else(some (.inr (.inl s4.1)))
def XB(x0:Str)(x1:Int):Option (Str×Bool):=
Option.bind (α:=Str⊕(Str×Bool)) (zK (λ s4=>wT x1 s4) (x0,(1:Int))) (Sum.elim (λ b2=>
some (b2,decide (b2≠(⟨[]⟩:Str)))) some)
theorem spec_base_w{x0:Str}{x1:Int}{r:Str×Bool}(h:XB x0 x1=some r):Fn prog 225 [dt x0,dt x1] (dtup [dt r.1,dt r.2]):=by
 unfold XB at h
 refine fnx (fn:=f225) 0 func225 rfl (oD rfl) rfl (λ M w0 _ st0=>?_)
 refine st0.sq1 [0,1] (λ _ _ st1=>?_)
 obtain⟨o2,p2,k2⟩:=bs h
 refine zi (λ a w=>∃ b2,o2=.inl b2/\Sx (Frm.of w0) 19 M M [] [(0,dt b2)] [] a w) ?_ ?_
 ·
  refine st1.sq1 [0,1,6] (λ _ _ st3=>wp_block ?_)
  refine zG p2 (λ s4 a w=>Sx (Frm.of w0) 19 M M [] [(0,dt s4.1),(1,dt x1),(6,dt s4.2)] [] a w) (st3.sel0 [0,1,6] rfl) ?_
  rintro s4 z4 a4 w4 st4 hs4 hx4
  have h5:wT x1 s4=some z4:=hs4
  unfold wT at h5
  refine wp_seq ?_
  refine st4.sq1 [0,1,6,9] (λ _ _ st6=>?_)
  refine st6.cs rfl h5 (λ _ h7=>wp_skip (za (wp_seq (wp_block (wp_seq ?_))))) (λ _ h8=>wp_exit (zh (zh (zy ?_))))
  ·
   refine st6.sq1 [0,1,6,13] (λ _ _ st9=>?_)
   refine st9.cs rfl h7 (λ _ h10=>?_) (λ _ h11=>wp_skip (za ?_))
   ·
    refine st9.sq1 [4,5] (λ _ _ st12=>wp_ret (ze (zt (ze (ze (zt (ze ?_)))))))
    have h13:=lo h10 hx4
    have h14:=jo h13 k2
    obtain rfl:=Option.some.inj h14
    exact st12.ret2 rfl (st12.frozen (t:=4) rfl) (st12.frozen (t:=5) rfl) ⟨rfl,rfl⟩ rfl
   obtain⟨v15,p15,h16⟩:=bsW h11 ZZ
   refine st9.rg1 [0,1,6] (λ _ _ st17=>zf (za ?_))
   obtain⟨v18,p18,h19⟩:=bs h16
   refine st17.rg1 [0,1,6] (λ _ _ st20=>za ?_)
   exact⟨_,(Option.some.inj h19).symm,st20.sel0 [0,1,6] rfl⟩
  refine za ?_
  have h21:=lo h8 hx4
  exact⟨_,(Option.some.inj h21).symm,st6.sel0 [0] rfl⟩
 rintro a2 w2 ⟨b2,rfl,st2⟩
 have h22:=jn k2
 refine st2.sq1 [4,5] (λ _ _ st23=>wp_ret ?_)
 obtain rfl:=Option.some.inj h22
 exact st23.ret2 rfl (st23.frozen (t:=4) rfl) (st23.frozen (t:=5) rfl) ⟨rfl,rfl⟩ rfl
def qC(x0:Str)(x1:Int)(x2:Str):Option Str:=
if(cmpI .eql x1 (0:Int))=true then(some x2)
else((XB x0 x1).bind λ v6=>
if(!v6.2)=true then(some (⟨[]⟩:Str))
else(if(decide (x2=(⟨[]⟩:Str)))=true then(some v6.1)
else((XW v6.1 x2).bind λ v17=>
some v17)))
theorem zc1{x0:Str}{x1:Int}{x2:Str}{r:Str}(h:qC x0 x1 x2=some r):Fn prog 194 [dt x0,dt x1,dt x2] (dt r):=by
 unfold qC at h
 refine fnx (fn:=f194) 0 func194 rfl (oD rfl) rfl (λ M _ _ st0=>?_)
 refine st0.sq1 [0,1,2] (λ _ _ st1=>wp_seq ?_)
 refine st1.sq1 [0,1,2,10] (λ _ _ st2=>?_)
 refine st2.cs rfl h (λ _ h3=>?_) (λ _ h4=>wp_skip (za ?_))
 ·
  refine st2.sq1 [6] (λ _ _ st5=>wp_ret (ze ?_))
  exact st5.ret rfl rfl h3
 obtain⟨v6,p6,h7⟩:=bsW h4 spec_base_w
 refine st2.sq1 [2,7,8] (λ _ _ st8=>wp_seq ?_)
 refine st8.sq1 [2,7,19] (λ _ _ st9=>?_)
 refine st9.cs rfl h7 (λ _ h10=>?_) (λ _ h11=>wp_skip (za (wp_seq ?_)))
 ·
  refine st9.sq1 [6] (λ _ _ st12=>wp_ret (ze ?_))
  exact st12.ret rfl rfl h10
 refine st9.sq1 [2,7,21] (λ _ _ st13=>?_)
 refine st13.cs rfl h11 (λ _ h14=>?_) (λ _ h15=>wp_skip (za ?_))
 ·
  refine st13.sq1 [6] (λ _ _ st16=>wp_ret (ze ?_))
  exact st16.ret rfl rfl h14
 obtain⟨v17,p17,h18⟩:=bsW h15 spec_child_w
 refine st13.sq1 [6] (λ _ _ st19=>wp_ret ?_)
 exact st19.ret rfl rfl h18
end Go.Proofs.YtpmkkijamfgaeaaGreatDoor
