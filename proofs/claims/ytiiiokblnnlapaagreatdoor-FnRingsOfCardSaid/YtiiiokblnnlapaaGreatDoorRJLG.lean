/-
  Models of functions, and their walks: printed by a program of our own (wip/mxo.py).
  Models of functions, and their walks: printed by a program of our own (wip/mxo.py).
-/
import Derived.Test.YtiiiokblnnlapaaGreatDoorRHLG
import Derived.Test.YtiiiokblnnlapaaGreatDoorROLG
namespace Go.Proofs.YtiiiokblnnlapaaGreatDoor
open Go.RowKit
set_option maxRecDepth 10000
set_option maxHeartbeats 1600000
theorem kN75:fnB Tryz.prog 75=true:=by kernel_rfl
theorem kN73:fnB Tryz.prog 73=true:=by kernel_rfl
theorem kN74:fnB Tryz.prog 74=true:=by kernel_rfl
theorem kN157:fnB Tryz.prog 157=true:=by kernel_rfl
open Go.RowKit
set_option maxRecDepth 10000
set_option maxHeartbeats 1600000
theorem kN271:fnB Tryz.prog 271=true:=by kernel_rfl
theorem kN188:fnB Tryz.prog 188=true:=by kernel_rfl
def xU(x1:Int)(s4:Str×Int):Option ((Str×Int)⊕(Str⊕(Str×Bool))):=
if(cmpI .lss s4.2 x1)=true then(if(decide (s4.1=(⟨[]⟩:Str)))=true then(some (.inr (.inr ((⟨[]⟩:Str),false))))
else((xP s4.1).bind λ v15=>
(i64 (s4.2+(1:Int))).bind λ v18=>
some (.inl (v15,v18))))
else(some (.inr (.inl s4.1)))
def ZC(x0:Str)(x1:Int):Option (Str×Bool):=
Option.bind (α:=Str⊕(Str×Bool)) (zL (λ s4=>xU x1 s4) (x0,(1:Int))) (Sum.elim (λ b2=>
some (b2,decide (b2≠(⟨[]⟩:Str)))) some)
theorem spec_base_w{x0:Str}{x1:Int}{r:Str×Bool}(h:ZC x0 x1=some r):Fn Tryz.prog 271 [dt x0,dt x1] (dtup [dt r.1,dt r.2]):=by
 unfold ZC at h
 refine fnx (fn:=Tryz.f271) 0 Tryz.func271 rfl (of_decide_eq_true rfl) rfl (λ M w0 a0 st0=>?_)
 refine st0.sq0 (sc rfl (oA rfl (zv (by decide)))<|sc rfl (oA rfl cB)<|.nil) [0,1] rfl (λ a1 w1 st1=>?_)
 obtain⟨o2,p2,k2⟩:=bs h
 refine zo (λ a w=>∃ b2,o2=.inl b2/\Sx (Frm.of w0) 19 M M [] [(0,dt b2)] [] a w) ?_ ?_
 ·
  refine st1.sq0 (sc rfl (oA rfl cI)<|.nil) [0,1,6] rfl (λ a3 w3 st3=>?_)
  refine wp_block ?_
  refine zI p2 (λ s4 a w=>Sx (Frm.of w0) 19 M M [] [(0,dt s4.1),(1,dt x1),(6,dt s4.2)] [] a w) (st3.sel0 [0,1,6] rfl) ?_
  rintro s4 z4 a4 w4 st4 hs4 hx4
  have h5:xU x1 s4=some z4:=hs4
  unfold xU at h5
  refine wp_seq ?_
  refine st4.sq0 (sc rfl (oM rfl (tp rfl))<|sc rfl (oM rfl (tp rfl))<|sc rfl (oCI rfl (tp rfl) (tp rfl))<|.nil) [0,1,6,9] rfl (λ a6 w6 st6=>?_)
  refine st6.cs (c:=9) rfl h5 (λ c7 h7=>?_) (λ c8 h8=>?_)
  ·
   refine wp_skip (za (wp_seq (wp_block (wp_seq ?_))))
   refine st6.sq0 (sc rfl (oM rfl (tp rfl))<|sc rfl (yW rfl (tp rfl) (zv (by decide)))<|.nil) [0,1,6,13] rfl (λ a9 w9 st9=>?_)
   refine st9.cs (c:=13) rfl h7 (λ c10 h10=>?_) (λ c11 h11=>?_)
   ·
    refine st9.sq0 (sc rfl (oA rfl (zv (by decide)))<|sc rfl (oA rfl cB)<|.nil) [4,5] rfl (λ a12 w12 st12=>?_)
    refine wp_ret (zh (zy (zh (zh (zy (zh ?_))))))
    have h13:=lo h10 hx4
    have h14:=jo h13 k2
    obtain rfl:=Option.some.inj h14
    exact st12.ret2 rfl (st12.frozen (t:=4) rfl) (st12.frozen (t:=5) rfl) ⟨rfl,rfl⟩ rfl
   ·
    refine wp_skip (za ?_)
    obtain⟨v15,p15,h16⟩:=bs h11
    refine st9.rg0 (sc rfl (oM rfl (tp rfl))<|sc rfl (zi (l:=[.tmp 14]) rfl kN157 (.cons (tp rfl) .nil) (YA p15))<|sc rfl (oA rfl (tp rfl))<|.nil) [0,1,6] rfl (λ a17 w17 st17=>?_)
    refine zk (za ?_)
    obtain⟨v18,p18,h19⟩:=bs h16
    refine st17.rg0 (sc rfl (oM rfl (tp rfl))<|sc rfl (xAr rfl (tp rfl) cI p18)<|sc rfl (oA rfl (tp rfl))<|.nil) [0,1,6] rfl (λ a20 w20 st20=>?_)
    refine za ?_
    exact⟨_,(Option.some.inj h19).symm,st20.sel0 [0,1,6] rfl⟩
  ·
   refine wp_exit (zm (zm (zC ?_)))
   refine za ?_
   have h21:=lo h8 hx4
   exact⟨_,(Option.some.inj h21).symm,st6.sel0 [0] rfl⟩
 ·
  rintro a2 w2 ⟨b2,rfl,st2⟩
  have h22:=jn k2
  refine st2.sq0 (sc rfl (oM rfl (tp rfl))<|sc rfl (oM rfl (tp rfl))<|sc rfl (ZI rfl (tp rfl) (zv (by decide)))<|sc rfl (oA rfl (tp rfl))<|sc rfl (oA rfl (tp rfl))<|.nil) [4,5] rfl (λ a23 w23 st23=>?_)
  refine wp_ret ?_
  obtain rfl:=Option.some.inj h22
  exact st23.ret2 rfl (st23.frozen (t:=4) rfl) (st23.frozen (t:=5) rfl) ⟨rfl,rfl⟩ rfl
def jp(x0:Str)(x1:Int)(x2:Str):Option Str:=
if(cmpI .eql x1 (0:Int))=true then(some x2)
else((ZC x0 x1).bind λ v6=>
if(!v6.2)=true then(some (⟨[]⟩:Str))
else(if(decide (x2=(⟨[]⟩:Str)))=true then(some v6.1)
else((ZW v6.1 x2).bind λ v17=>
some v17)))
theorem Qz{x0:Str}{x1:Int}{x2:Str}{r:Str}(h:jp x0 x1 x2=some r):Fn Tryz.prog 248 [dt x0,dt x1,dt x2] (dt r):=by
 unfold jp at h
 refine fnx (fn:=Tryz.f248) 0 Tryz.func248 rfl (of_decide_eq_true rfl) rfl (λ M w0 a0 st0=>?_)
 refine st0.sq0 (sc rfl (oA rfl (zv (by decide)))<|.nil) [0,1,2] rfl (λ a1 w1 st1=>?_)
 refine wp_seq ?_
 refine st1.sq0 (sc rfl (oM rfl (tp rfl))<|sc rfl (oCI rfl (tp rfl) cI)<|.nil) [0,1,2,10] rfl (λ a2 w2 st2=>?_)
 refine st2.cs (c:=10) rfl h (λ c3 h3=>?_) (λ c4 h4=>?_)
 ·
  refine st2.sq0 (sc rfl (oM rfl (tp rfl))<|sc rfl (oA rfl (tp rfl))<|.nil) [6] rfl (λ a5 w5 st5=>?_)
  refine wp_ret (zh ?_)
  exact st5.ret rfl rfl h3
 ·
  refine wp_skip (za ?_)
  obtain⟨v6,p6,h7⟩:=bs h4
  refine st2.sq0 (sc rfl (oM rfl (tp rfl))<|sc rfl (oM rfl (tp rfl))<|sc rfl (zi (l:=[.tmp 13,.tmp 14]) rfl kN271 (.cons (tp rfl) (.cons (tp rfl) .nil)) (spec_base_w p6))<|sc rfl (oM rfl (tp rfl))<|sc rfl (xExt (i:=0) rfl (tp rfl) rfl)<|sc rfl (xExt (i:=1) rfl (tp rfl) rfl)<|sc rfl (oA rfl (tp rfl))<|sc rfl (oA rfl (tp rfl))<|.nil) [2,7,8] rfl (λ a8 w8 st8=>?_)
  refine wp_seq ?_
  refine st8.sq0 (sc rfl (oM rfl (tp rfl))<|sc rfl (yc rfl (tp rfl))<|.nil) [2,7,19] rfl (λ a9 w9 st9=>?_)
  refine st9.cs (c:=19) rfl h7 (λ c10 h10=>?_) (λ c11 h11=>?_)
  ·
   refine st9.sq0 (sc rfl (oA rfl (zv (by decide)))<|.nil) [6] rfl (λ a12 w12 st12=>?_)
   refine wp_ret (zh ?_)
   exact st12.ret rfl rfl h10
  ·
   refine wp_skip (za (wp_seq ?_))
   refine st9.sq0 (sc rfl (oM rfl (tp rfl))<|sc rfl (yW rfl (tp rfl) (zv (by decide)))<|.nil) [2,7,21] rfl (λ a13 w13 st13=>?_)
   refine st13.cs (c:=21) rfl h11 (λ c14 h14=>?_) (λ c15 h15=>?_)
   ·
    refine st13.sq0 (sc rfl (oM rfl (tp rfl))<|sc rfl (oA rfl (tp rfl))<|.nil) [6] rfl (λ a16 w16 st16=>?_)
    refine wp_ret (zh ?_)
    exact st16.ret rfl rfl h14
   ·
    refine wp_skip (za ?_)
    obtain⟨v17,p17,h18⟩:=bs h15
    refine st13.sq0 (sc rfl (oM rfl (tp rfl))<|sc rfl (oM rfl (tp rfl))<|sc rfl (zi (l:=[.tmp 23,.tmp 24]) rfl kN188 (.cons (tp rfl) (.cons (tp rfl) .nil)) (spec_child_w p17))<|sc rfl (oA rfl (tp rfl))<|.nil) [6] rfl (λ a19 w19 st19=>?_)
    refine wp_ret ?_
    exact st19.ret rfl rfl h18
open Go.RowKit
set_option maxRecDepth 10000
set_option maxHeartbeats 1600000
theorem kN248:fnB Tryz.prog 248=true:=by kernel_rfl
open Go.RowKit
set_option maxRecDepth 10000
set_option maxHeartbeats 1600000
open Go.RowKit
set_option maxRecDepth 10000
set_option maxHeartbeats 1600000
theorem kN109:fnB Tryz.prog 109=true:=by kernel_rfl
end Go.Proofs.YtiiiokblnnlapaaGreatDoor
