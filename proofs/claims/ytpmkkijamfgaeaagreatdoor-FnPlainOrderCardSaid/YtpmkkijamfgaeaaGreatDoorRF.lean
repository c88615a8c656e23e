import Derived.Test.YtpmkkijamfgaeaaGreatDoorRB
import Derived.Test.YtpmkkijamfgaeaaGreatDoorProg
import Derived.Test.YtpmkkijamfgaeaaGreatDoorRC
namespace Go.Proofs.YtpmkkijamfgaeaaGreatDoor
open Go.RowKit Tryz
attribute [local irreducible] OpRel OpdR
set_option maxRecDepth 10000
theorem zJ:prog.follows .mixedOrders=true:=by kernel_rfl
theorem kF51_0:fldB prog 51 0 0=true:=by kernel_rfl
theorem kT3:tyB prog 3 false 1=true:=by kernel_rfl
theorem kF51_1:fldB prog 51 1 1=true:=by kernel_rfl
theorem kT9:tyB prog 9 false 1=true:=by kernel_rfl
theorem kF51_3:fldB prog 51 3 3=true:=by kernel_rfl
theorem kT4:tyB prog 4 false 1=true:=by kernel_rfl
theorem kV4:zbM prog 4=true:=by kernel_rfl
theorem kF51_2:fldB prog 51 2 2=true:=by kernel_rfl
theorem kL29:isSl prog 29=true:=by kernel_rfl
theorem kS29:slB prog 29 1=true:=by kernel_rfl
theorem kX9:WC prog 9=true:=by kernel_rfl
theorem kL26:isSl prog 26=true:=by kernel_rfl
theorem kS26:slB prog 26 1=true:=by kernel_rfl
def yM(x0:Int)(x1:Int)(x2:Int):Option Bool:=
some (cmpI .geq x0 x1&&cmpI .leq x0 x2)
theorem qf{x0:Int}{x1:Int}{x2:Int}{r:Bool}(h:yM x0 x1 x2=some r):Fn prog 100 [dt x0,dt x1,dt x2] (dt r):=by
 unfold yM at h
 refine fnx (fn:=f100) 0 func100 rfl (oD rfl) rfl (λ M _ _ st0=>?_)
 refine st0.sq1 [0,1,2] (λ _ _ st1=>?_)
 refine st1.sq1 [6] (λ _ _ st2=>wp_ret ?_)
 exact st2.ret rfl rfl h
def qu(x0:File)(x1:File):Option Bool:=
some (((cmpI .eql x0.root x1.root&&decide (x0.pkg=x1.pkg))&&(x0.init == x1.init))&&decide (x0.name=x1.name))
theorem WY{x0:File}{x1:File}{r:Bool}(h:qu x0 x1=some r):Fn prog 132 [dt x0,dt x1] (dt r):=by
 unfold qu at h
 refine fnx (fn:=f132) 0 func132 rfl (oD rfl) rfl (λ M _ _ st0=>?_)
 refine st0.sq1 [2,3] (λ _ _ st1=>?_)
 refine st1.sq2 (sp 17 (r:=by exact sg rfl rfl (λ hg=>op_eqT rfl kV4 (zn hg rfl) (zn hg rfl))<|segA)) [4] (λ _ _ st2=>wp_ret ?_)
 exact st2.ret rfl rfl h
def wE(x0:List Str)(x1:Str)(s4:Int):Option (Int⊕(Unit⊕Int)):=
if(cmpI .lss s4 (x0.length:Int))=true then((atI x0 s4).bind λ v9=>
if(decide (v9=x1))=true then(some (.inr (.inr s4)))
else((i64 (s4+(1:Int))).bind λ v17=>
some (.inl v17)))
else(some (.inr (.inl ())))
def Xl(x0:List Str)(x1:Str):Option Int:=
Option.bind (α:=Unit⊕Int) (zK (λ s4=>wE x0 x1 s4) (0:Int)) (Sum.elim (λ _b2=>
some (-1:Int)) some)
theorem spec_textAt_w{x0:List Str}{x1:Str}{r:Int}(h:Xl x0 x1=some r):Fn prog 143 [dt x0,dt x1] (dt r):=by
 unfold Xl at h
 refine fnx (fn:=f143) 0 func143 rfl (oD rfl) rfl (λ M w0 _ st0=>?_)
 refine st0.sq1 [0,1] (λ _ _ st1=>?_)
 obtain⟨o2,p2,k2⟩:=bs h
 refine zi (λ a w=>∃ b2,o2=.inl b2/\Sx (Frm.of w0) 19 M M [] [] [] a w) ?_ ?_
 ·
  refine st1.sq1 [0,1,5] (λ _ _ st3=>wp_block ?_)
  refine zG p2 (λ s4 a w=>Sx (Frm.of w0) 19 M M [] [(0,dt x0),(1,dt x1),(5,dt s4)] [] a w) (st3.sel0 [0,1,5] rfl) ?_
  rintro s4 x4 a4 w4 st4 hs4 hx4
  have h5:wE x0 x1 s4=some x4:=hs4
  unfold wE at h5
  refine wp_seq ?_
  refine st4.sq1 [0,1,5,9] (λ _ _ st6=>?_)
  refine st6.cs rfl h5 (λ _ h7=>wp_skip (za (wp_seq (wp_block ?_)))) (λ _ h8=>wp_exit (zh (zh (zy ?_))))
  ·
   obtain⟨v9,p9,h10⟩:=bs h7
   refine st6.sq1 [0,1,5,17] (λ _ _ st11=>?_)
   refine st11.cs rfl h10 (λ _ h12=>?_) (λ _ h13=>wp_skip (zf (za ?_)))
   ·
    refine st11.sq1 [4] (λ _ _ st14=>wp_ret (zt (ze (ze (zt (ze ?_))))))
    have h15:=lo h12 hx4
    have h16:=jo h15 k2
    exact st14.ret rfl rfl h16
   obtain⟨v17,p17,h18⟩:=bs h13
   refine st11.rg1 [0,1,5] (λ _ _ st19=>za ?_)
   exact⟨_,(Option.some.inj h18).symm,st19.sel0 [0,1,5] rfl⟩
  refine za ?_
  have h20:=lo h8 hx4
  exact⟨_,(Option.some.inj h20).symm,st6.sel0 [] rfl⟩
 rintro a2 w2 ⟨b2,rfl,st2⟩
 have h21:=jn k2
 refine st2.sq1 [4] (λ _ _ st22=>wp_ret ?_)
 exact st22.ret rfl rfl h21
def xG(x0:List Str)(x1:Str):Option Bool:=
(Xl x0 x1).bind λ v2=>
some (cmpI .geq v2 (0:Int))
theorem qv{x0:List Str}{x1:Str}{r:Bool}(h:xG x0 x1=some r):Fn prog 91 [dt x0,dt x1] (dt r):=by
 unfold xG at h
 refine fnx (fn:=f91) 0 func91 rfl (oD rfl) rfl (λ M _ _ st0=>?_)
 refine st0.sq1 [0,1] (λ _ _ st1=>?_)
 obtain⟨v2,p2,h3⟩:=bsW h spec_textAt_w
 refine st1.sq1 [4] (λ _ _ st4=>wp_ret ?_)
 exact st4.ret rfl rfl h3
def wn(x0:Str)(s4:Int):Option (Int⊕(Unit⊕Bool)):=
if(cmpI .lss s4 (x0.l.length:Int))=true then((atI x0.l s4).bind λ v10=>
(gO (cmpB .lss v10 (UInt8.ofNat 97) == false) (atI x0.l s4)).bind λ v11=>
if(cmpB .lss v10 (UInt8.ofNat 97)||cmpB .gtr v11 (UInt8.ofNat 122))=true then(some (.inr (.inr false)))
else((i64 (s4+(1:Int))).bind λ v20=>
some (.inl v20)))
else(some (.inr (.inl ())))
def yN(x0:Str):Option Bool:=
Option.bind (α:=Unit⊕Bool) (zK (λ s4=>wn x0 s4) (0:Int)) (Sum.elim (λ _b2=>
(yM (x0.l.length:Int) (1:Int) (3:Int)).bind λ v25=>
some v25) some)
theorem ju{x0:Str}{r:Bool}(h:yN x0=some r):Fn prog 134 [dt x0] (dt r):=by
 unfold yN at h
 refine fnx (fn:=f134) 0 func134 rfl (oD rfl) rfl (λ M w0 _ st0=>?_)
 refine st0.sq1 [0] (λ _ _ st1=>?_)
 obtain⟨o2,p2,k2⟩:=bs h
 refine zi (λ a w=>∃ b2,o2=.inl b2/\Sx (Frm.of w0) 23 M M [] [(0,dt x0)] [] a w) ?_ ?_
 ·
  refine st1.sq1 [0,5,6] (λ _ _ st3=>wp_block ?_)
  refine zG p2 (λ s4 a w=>Sx (Frm.of w0) 23 M M [] [(0,dt x0),(5,dt (x0.l.length:Int)),(6,dt s4)] [] a w) (st3.sel0 [0,5,6] rfl) ?_
  rintro s4 x4 a4 w4 st4 hs4 hx4
  have h5:wn x0 s4=some x4:=hs4
  unfold wn at h5
  refine st4.sq1 [0,5,6,7] (λ _ _ st6=>wp_seq ?_)
  refine st6.cs rfl h5 (λ _ h7=>wp_skip (za (wp_seq (wp_block ?_)))) (λ _ h8=>wp_exit (zh (zh (zy ?_))))
  ·
   refine st6.sq1 [0,3,5,6] (λ _ _ st9=>?_)
   obtain⟨v10,p10,v11,p11,h13⟩:=bsB h7
   refine st9.sq2 (sp 3 (r:=by exact sc rfl (oCB rfl (tp rfl) (Y0 (by decide)))<|sp 3 (r:=by exact sg rfl rfl (λ hg=>xByte rfl kX9 (zn hg rfl) (zn hg rfl) (gh hg p11))<|sg rfl rfl (λ hg=>oCB rfl (zn hg rfl) (Y0 (by decide)))<|segA))) [0,5,6,18] (λ _ _ st14=>?_)
   refine st14.cs rfl h13 (λ _ h15=>?_) (λ _ h16=>wp_skip (zf (za ?_)))
   ·
    refine st14.sq1 [2] (λ _ _ st17=>wp_ret (zt (ze (ze (zt (ze ?_))))))
    have h18:=lo h15 hx4
    have h19:=jo h18 k2
    exact st17.ret rfl rfl h19
   obtain⟨v20,p20,h21⟩:=bs h16
   refine st14.rg1 [0,5,6] (λ _ _ st22=>za ?_)
   exact⟨_,(Option.some.inj h21).symm,st22.sel0 [0,5,6] rfl⟩
  refine za ?_
  have h23:=lo h8 hx4
  exact⟨_,(Option.some.inj h23).symm,st6.sel0 [0] rfl⟩
 rintro a2 w2 ⟨b2,rfl,st2⟩
 have h24:=jn k2
 obtain⟨v25,p25,h26⟩:=bsW h24 qf
 refine st2.sq1 [2] (λ _ _ st27=>wp_ret ?_)
 exact st27.ret rfl rfl h26
def yF(x0:List Int)(x1:Int)(s4:Int):Option (Int⊕(Unit⊕Int)):=
if(cmpI .lss s4 (x0.length:Int))=true then((atI x0 s4).bind λ v10=>
if(cmpI .eql x1 v10)=true then(some (.inr (.inr s4)))
else((i64 (s4+(1:Int))).bind λ v18=>
some (.inl v18)))
else(some (.inr (.inl ())))
def wg(x0:List Int)(x1:Int):Option Int:=
Option.bind (α:=Unit⊕Int) (zK (λ s4=>yF x0 x1 s4) (0:Int)) (Sum.elim (λ _b2=>
some (-1:Int)) some)
theorem Jj{x0:List Int}{x1:Int}{r:Int}(h:wg x0 x1=some r):Fn prog 154 [dt x0,dt x1] (dt r):=by
 unfold wg at h
 refine fnx (fn:=f154) 0 func154 rfl (oD rfl) rfl (λ M w0 _ st0=>?_)
 refine st0.sq1 [0,1] (λ _ _ st1=>?_)
 obtain⟨o2,p2,k2⟩:=bs h
 refine zi (λ a w=>∃ b2,o2=.inl b2/\Sx (Frm.of w0) 19 M M [] [] [] a w) ?_ ?_
 ·
  refine st1.sq1 [0,1,7,8] (λ _ _ st3=>wp_block ?_)
  refine zG p2 (λ s4 a w=>Sx (Frm.of w0) 19 M M [] [(0,dt x0),(1,dt x1),(7,dt (x0.length:Int)),(8,dt s4)] [] a w) (st3.sel0 [0,1,7,8] rfl) ?_
  rintro s4 x4 a4 w4 st4 hs4 hx4
  have h5:yF x0 x1 s4=some x4:=hs4
  unfold yF at h5
  refine st4.sq1 [0,1,7,8,9] (λ _ _ st6=>wp_seq ?_)
  refine st6.cs rfl h5 (λ _ h7=>wp_skip (za (wp_seq (wp_block ?_)))) (λ _ h8=>wp_exit (zh (zh (zy ?_))))
  ·
   refine st6.sq1 [0,1,5,7,8] (λ _ _ st9=>?_)
   obtain⟨v10,p10,h11⟩:=bs h7
   refine st9.sq1 [0,1,5,7,8,16] (λ _ _ st12=>?_)
   refine st12.cs rfl h11 (λ _ h13=>?_) (λ _ h14=>wp_skip (zf (za ?_)))
   ·
    refine st12.sq1 [4] (λ _ _ st15=>wp_ret (zt (ze (ze (zt (ze ?_))))))
    have h16:=lo h13 hx4
    have h17:=jo h16 k2
    exact st15.ret rfl rfl h17
   obtain⟨v18,p18,h19⟩:=bs h14
   refine st12.rg1 [0,1,7,8] (λ _ _ st20=>za ?_)
   exact⟨_,(Option.some.inj h19).symm,st20.sel0 [0,1,7,8] rfl⟩
  refine za ?_
  have h21:=lo h8 hx4
  exact⟨_,(Option.some.inj h21).symm,st6.sel0 [] rfl⟩
 rintro a2 w2 ⟨b2,rfl,st2⟩
 have h22:=jn k2
 refine st2.sq1 [4] (λ _ _ st23=>wp_ret ?_)
 exact st23.ret rfl rfl h22
def zZ(x0:List Str)(x1:Str)(s4:Int):Option (Int⊕(Unit⊕Int)):=
if(cmpI .lss s4 (x0.length:Int))=true then((atI x0 s4).bind λ v10=>
if(decide (x1=v10))=true then(some (.inr (.inr s4)))
else((i64 (s4+(1:Int))).bind λ v18=>
some (.inl v18)))
else(some (.inr (.inl ())))
def xN(x0:List Str)(x1:Str):Option Int:=
Option.bind (α:=Unit⊕Int) (zK (λ s4=>zZ x0 x1 s4) (0:Int)) (Sum.elim (λ _b2=>
some (-1:Int)) some)
theorem XL{x0:List Str}{x1:Str}{r:Int}(h:xN x0 x1=some r):Fn prog 147 [dt x0,dt x1] (dt r):=by
 unfold xN at h
 refine fnx (fn:=f147) 0 func147 rfl (oD rfl) rfl (λ M w0 _ st0=>?_)
 refine st0.sq1 [0,1] (λ _ _ st1=>?_)
 obtain⟨o2,p2,k2⟩:=bs h
 refine zi (λ a w=>∃ b2,o2=.inl b2/\Sx (Frm.of w0) 19 M M [] [] [] a w) ?_ ?_
 ·
  refine st1.sq1 [0,1,7,8] (λ _ _ st3=>wp_block ?_)
  refine zG p2 (λ s4 a w=>Sx (Frm.of w0) 19 M M [] [(0,dt x0),(1,dt x1),(7,dt (x0.length:Int)),(8,dt s4)] [] a w) (st3.sel0 [0,1,7,8] rfl) ?_
  rintro s4 x4 a4 w4 st4 hs4 hx4
  have h5:zZ x0 x1 s4=some x4:=hs4
  unfold zZ at h5
  refine st4.sq1 [0,1,7,8,9] (λ _ _ st6=>wp_seq ?_)
  refine st6.cs rfl h5 (λ _ h7=>wp_skip (za (wp_seq (wp_block ?_)))) (λ _ h8=>wp_exit (zh (zh (zy ?_))))
  ·
   refine st6.sq1 [0,1,5,7,8] (λ _ _ st9=>?_)
   obtain⟨v10,p10,h11⟩:=bs h7
   refine st9.sq1 [0,1,5,7,8,16] (λ _ _ st12=>?_)
   refine st12.cs rfl h11 (λ _ h13=>?_) (λ _ h14=>wp_skip (zf (za ?_)))
   ·
    refine st12.sq1 [4] (λ _ _ st15=>wp_ret (zt (ze (ze (zt (ze ?_))))))
    have h16:=lo h13 hx4
    have h17:=jo h16 k2
    exact st15.ret rfl rfl h17
   obtain⟨v18,p18,h19⟩:=bs h14
   refine st12.rg1 [0,1,7,8] (λ _ _ st20=>za ?_)
   exact⟨_,(Option.some.inj h19).symm,st20.sel0 [0,1,7,8] rfl⟩
  refine za ?_
  have h21:=lo h8 hx4
  exact⟨_,(Option.some.inj h21).symm,st6.sel0 [] rfl⟩
 rintro a2 w2 ⟨b2,rfl,st2⟩
 have h22:=jn k2
 refine st2.sq1 [4] (λ _ _ st23=>wp_ret ?_)
 exact st23.ret rfl rfl h22
def xq(x0:List Int)(x1:Int):Option Bool:=
(wg x0 x1).bind λ v2=>
some (cmpI .geq v2 (0:Int))
theorem Wy{x0:List Int}{x1:Int}{r:Bool}(h:xq x0 x1=some r):Fn prog 115 [dt x0,dt x1] (dt r):=by
 unfold xq at h
 refine fnx (fn:=f115) 0 func115 rfl (oD rfl) rfl (λ M _ _ st0=>?_)
 refine st0.sq1 [0,1] (λ _ _ st1=>?_)
 obtain⟨v2,p2,h3⟩:=bsW h Jj
 refine st1.sq1 [4] (λ _ _ st4=>wp_ret ?_)
 exact st4.ret rfl rfl h3
def zU(x0:List Str)(x1:Str):Option Bool:=
(xN x0 x1).bind λ v2=>
some (cmpI .geq v2 (0:Int))
theorem wy{x0:List Str}{x1:Str}{r:Bool}(h:zU x0 x1=some r):Fn prog 104 [dt x0,dt x1] (dt r):=by
 unfold zU at h
 refine fnx (fn:=f104) 0 func104 rfl (oD rfl) rfl (λ M _ _ st0=>?_)
 refine st0.sq1 [0,1] (λ _ _ st1=>?_)
 obtain⟨v2,p2,h3⟩:=bsW h XL
 refine st1.sq1 [4] (λ _ _ st4=>wp_ret ?_)
 exact st4.ret rfl rfl h3
open Go.RowKit Tryz
set_option maxRecDepth 10000
theorem kE29:elB prog 29 9 1 16=true:=by kernel_rfl
theorem kZ9:xU prog 9=some XQ:=by kernel_rfl
def yU(x0:Str)(x1:Str):Option Bool:=
(gO (cmpI .geq (x0.l.length:Int) (x1.l.length:Int) == true) (cutHO x0 (x1.l.length:Int))).bind λ v2=>
some (cmpI .geq (x0.l.length:Int) (x1.l.length:Int)&&decide (v2=x1))
theorem YC{x0:Str}{x1:Str}{r:Bool}(h:yU x0 x1=some r):Fn prog 258 [dt x0,dt x1] (dt r):=by
 unfold yU at h
 refine fnx (fn:=f258) 0 func258 rfl (oD rfl) rfl (λ M _ _ st0=>?_)
 refine st0.sq1 [0,1] (λ _ _ st1=>?_)
 obtain⟨v2,p2,h3⟩:=bs h
 refine st1.sq2 (sp 9 (r:=by exact sg rfl rfl (λ hg=>xCutH rfl kX9 (zn hg rfl) (zn hg rfl) (gh hg p2))<|segA)) [4] (λ _ _ st4=>wp_ret ?_)
 exact st4.ret rfl rfl h3
def jl(x0:Str)(x1:Str):Option Bool:=
(yU x0 x1).bind λ v2=>
some v2
theorem QK{x0:Str}{x1:Str}{r:Bool}(h:jl x0 x1=some r):Fn prog 244 [dt x0,dt x1] (dt r):=by
 unfold jl at h
 refine fnx (fn:=f244) 0 func244 rfl (oD rfl) rfl (λ M _ _ st0=>?_)
 refine st0.sq1 [0,1] (λ _ _ st1=>?_)
 obtain⟨v2,p2,h3⟩:=bsW h YC
 refine st1.sq1 [4] (λ _ _ st4=>wp_ret ?_)
 exact st4.ret rfl rfl h3
def zL(x0:Str)(x1:UInt8)(s6:Int):Option (Int⊕(Unit⊕Int)):=
if(cmpI .geq s6 (0:Int))=true then((atI x0.l s6).bind λ v11=>
if(cmpB .eql v11 x1)=true then(some (.inr (.inr s6)))
else((i64 (s6 - (1:Int))).bind λ v19=>
some (.inl v19)))
else(some (.inr (.inl ())))
def yp(x0:Str)(x1:UInt8):Option Int:=
Option.bind (α:=Unit⊕Int) ((i64 ((x0.l.length:Int) - (1:Int))).bind λ v3=>
zK (λ s6=>zL x0 x1 s6) v3) (Sum.elim (λ _b2=>
some (-1:Int)) some)
theorem Zs{x0:Str}{x1:UInt8}{r:Int}(h:yp x0 x1=some r):Fn prog 148 [dt x0,dt x1] (dt r):=by
 unfold yp at h
 refine fnx (fn:=f148) 0 func148 rfl (oD rfl) rfl (λ M w0 _ st0=>?_)
 refine st0.sq1 [0,1] (λ _ _ st1=>?_)
 obtain⟨o2,p2,k2⟩:=bs h
 refine zi (λ a w=>∃ b2,o2=.inl b2/\Sx (Frm.of w0) 19 M M [] [] [] a w) ?_ ?_
 ·
  obtain⟨v3,p3,h4⟩:=bs p2
  refine st1.sq1 [0,1,5] (λ _ _ st5=>wp_block ?_)
  refine zG h4 (λ s6 a w=>Sx (Frm.of w0) 19 M M [] [(0,dt x0),(1,dt x1),(5,dt s6)] [] a w) (st5.sel0 [0,1,5] rfl) ?_
  rintro s6 x6 a6 w6 st6 hs6 hx6
  have h7:zL x0 x1 s6=some x6:=hs6
  unfold zL at h7
  refine wp_seq ?_
  refine st6.sq1 [0,1,5,10] (λ _ _ st8=>?_)
  refine st8.cs rfl h7 (λ _ h9=>wp_skip (za (wp_seq (wp_block ?_)))) (λ _ h10=>wp_exit (zh (zh (zy ?_))))
  ·
   obtain⟨v11,p11,h12⟩:=bs h9
   refine st8.sq2 (sp 4 (r:=by exact sc rfl (oCB rfl (tp rfl) (tp rfl))<|.nil)) [0,1,5,17] (λ _ _ st13=>?_)
   refine st13.cs rfl h12 (λ _ h14=>?_) (λ _ h15=>wp_skip (zf (za ?_)))
   ·
    refine st13.sq1 [4] (λ _ _ st16=>wp_ret (zt (ze (ze (zt (ze ?_))))))
    have h17:=lo h14 hx6
    have h18:=jo h17 k2
    exact st16.ret rfl rfl h18
   obtain⟨v19,p19,h20⟩:=bs h15
   refine st13.rg1 [0,1,5] (λ _ _ st21=>za ?_)
   exact⟨_,(Option.some.inj h20).symm,st21.sel0 [0,1,5] rfl⟩
  refine za ?_
  have h22:=lo h10 hx6
  exact⟨_,(Option.some.inj h22).symm,st8.sel0 [] rfl⟩
 rintro a2 w2 ⟨b2,rfl,st2⟩
 have h23:=jn k2
 refine st2.sq1 [4] (λ _ _ st24=>wp_ret ?_)
 exact st24.ret rfl rfl h23
def zP(x0:Str)(x1:UInt8):Option Int:=
(yp x0 x1).bind λ v2=>
some v2
theorem Yn{x0:Str}{x1:UInt8}{r:Int}(h:zP x0 x1=some r):Fn prog 105 [dt x0,dt x1] (dt r):=by
 unfold zP at h
 refine fnx (fn:=f105) 0 func105 rfl (oD rfl) rfl (λ M _ _ st0=>?_)
 refine st0.sq1 [0,1] (λ _ _ st1=>?_)
 obtain⟨v2,p2,h3⟩:=bsW h Zs
 refine st1.sq1 [4] (λ _ _ st4=>wp_ret ?_)
 exact st4.ret rfl rfl h3
def yT(x1:Str)(x2:Int)(v30:Int)(s35:Str×(List Str)×Int):Option ((Str×(List Str)×Int)⊕(Str×(List Str)×Int)):=
if(cmpI .lss s35.2.2 v30)=true then((jh s35.1 x1).bind λ v40=>
if(cmpI .lss v40 (0:Int))=true then(some (.inr (s35.1,s35.2.1,s35.2.2)))
else((i64 (v40+x2)).bind λ v47=>
(cutHO s35.1 v47).bind λ v48=>
(atI s35.2.1 s35.2.2).bind λ _v49=>
(setO s35.2.1 s35.2.2 v48).bind λ v55=>
(i64 (v40+(x1.l.length:Int))).bind λ v57=>
(cutLO s35.1 v57).bind λ v58=>
(i64 (s35.2.2+(1:Int))).bind λ v62=>
some (.inl (v58,v55,v62))))
else(some (.inr (s35.1,s35.2.1,s35.2.2)))
def qR(x0:Str)(x1:Str)(x2:Int)(x3:Int):Option (List Str):=
if(cmpI .eql x3 (0:Int))=true then(some ([]:List Str))
else(if(decide (x1=(⟨[]⟩:Str)))=true then((WG x0 x3).bind λ v9=>
some v9)
else(Option.bind (α:=Int) (if(cmpI .lss x3 (0:Int))=true then((Z7 x0 x1).bind λ v16=>
(i64 (v16+(1:Int))).bind λ v17=>
some v17)
else(some x3)) λ o12=>
(i64 ((x0.l.length:Int)+(1:Int))).bind λ v22=>
(makeO 1 16 (if v22<o12 then v22 else o12) zStr).bind λ v27=>
(i64 ((if v22<o12 then v22 else o12) - (1:Int))).bind λ v30=>
Option.bind (α:=Str×(List Str)×Int) (zK (λ s35=>yT x1 x2 v30 s35) (x0,v27,(0:Int))) λ o34=>
(atI o34.2.1 o34.2.2).bind λ _v67=>
(setO o34.2.1 o34.2.2 o34.1).bind λ v71=>
(i64 (o34.2.2+(1:Int))).bind λ v74=>
(JQ v71 v74).bind λ v75=>
some v75))
theorem zas{x0:Str}{x1:Str}{x2:Int}{x3:Int}{r:List Str}(h:qR x0 x1 x2 x3=some r):Fn prog 177 [dt x0,dt x1,dt x2,dt x3] (dt r):=by
 unfold qR at h
 refine fnx (fn:=f177) 1 func177 rfl (oD rfl) rfl (λ M w0 _ st0=>?_)
 refine st0.sq2 (sc rfl (oA rfl (x8 (α:=Str)))<|.nil) [0,1,2,3] (λ _ _ st1=>wp_seq ?_)
 refine st1.sq1 [0,1,2,3,13] (λ _ _ st2=>?_)
 refine st2.cs rfl h (λ _ h3=>?_) (λ _ h4=>wp_skip (za (wp_seq ?_)))
 ·
  refine st2.sq2 (sc rfl (oA rfl (x8 (α:=Str)))<|.nil) [8] (λ _ _ st5=>wp_ret (ze ?_))
  exact st5.ret rfl rfl h3
 refine st2.sq1 [0,1,2,3,15] (λ _ _ st6=>?_)
 refine st6.cs rfl h4 (λ _ h7=>?_) (λ _ h8=>wp_skip (za ?_))
 ·
  obtain⟨v9,p9,h10⟩:=bsW h7 za3
  refine st6.sq1 [8] (λ _ _ st11=>wp_ret (ze ?_))
  exact st11.ret rfl rfl h10
 obtain⟨o12,p12,k12⟩:=bs h8
 refine zi (λ a w=>∃ M1 q12_0,Sx (Frm.of w0) 66 M M1 [oneB q12_0] [(0,dt x0),(1,dt x1),(2,dt x2),(3,dt o12)] [] a w) ?_ ?_
 ·
  refine st6.sq1 [0,1,2,3,20] (λ _ _ st13=>?_)
  refine st13.cs rfl p12 (λ _ h14=>?_) (λ _ h15=>wp_skip (za ?_))
  ·
   obtain⟨v16,p16,h18⟩:=bsW h14 zcE
   obtain⟨v17,p17,h19⟩:=bs h18
   refine st13.rg1 [0,1,2,3] (λ _ _ st20=>za ?_)
   cases h19
   exact fx
  cases h15
  exact fx
 rintro a12 w12 ⟨M12,q12_0,st12⟩
 have h21:=k12
 obtain⟨v22,p22,h23⟩:=bs h21
 refine st12.sq2 (sc rfl (oM rfl (tp rfl))<|sc rfl (oM rfl (tp rfl))<|sc rfl (Jg rfl kX9 (tp rfl))<|sc rfl (xAr rfl (tp rfl) cI p22)<|sc rfl (xMin rfl (tp rfl) (tp rfl))<|sc rfl (oA rfl (tp rfl))<|.nil) [0,1,2,3] (λ _ _ st24=>wp_seq (wp_region_list ?_))
 refine st24.segA 1 [0,1,2,3,30] [] (λ _ _ st25=>?_)
 obtain⟨v27,p27,h28⟩:=bs h23
 refine st25.make 0 rfl rfl kE29 kZ9 QV rfl (by simp) p27 [0,1,2,3] rfl [] rfl rfl (λ g26 _ _ _ st26=>?_)
 refine st26.segA 1 [0,1,2,3] [(9,0)] (λ _ _ st29=>wpList_nil (za ?_))
 obtain⟨v30,p30,h31⟩:=bs h28
 refine st29.sqA [0,1,2,3] [(9,0)] (λ _ _ st32=>?_)
 refine st32.sqA [0,1,2,3,10] [(9,0)] (λ _ _ st33=>?_)
 obtain⟨o34,p34,k34⟩:=bs h31
 refine zi (λ a w=>∃ M1 q34_0,Sx (Frm.of w0) 66 M M1 [oneB q34_0] [(0,dt o34.1),(10,dt o34.2.2)] [(9,0,dtip q34_0 9 o34.2.1)] a w) ?_ ?_
 ·
  refine wp_block ?_
  refine zG p34 (λ s35 a w=>∃ M1 q35_0,Sx (Frm.of w0) 66 M M1 [oneB q35_0] [(0,dt s35.1),(1,dt x1),(2,dt x2),(3,dt v30),(10,dt s35.2.2)] [(9,0,dtip q35_0 9 s35.2.1)] a w) fx ?_
  rintro s35 x35 a35 w35 ⟨M35,q35_0,st35⟩ hs35 hx35
  have h36:yT x1 x2 v30 s35=some x35:=hs35
  unfold yT at h36
  refine wp_seq ?_
  refine st35.sqA [0,1,2,3,10,36] [(9,0)] (λ _ _ st37=>?_)
  refine st37.cs rfl h36 (λ _ h38=>wp_skip (za (wp_block ?_))) (λ _ h39=>wp_exit (zh (zh (zy ?_))))
  ·
   obtain⟨v40,p40,h41⟩:=bsW h38 zcD
   refine st37.sqA [0,1,2,3,10,11] [(9,0)] (λ _ _ st42=>wp_seq ?_)
   refine st42.sqA [0,1,2,3,10,11,41] [(9,0)] (λ _ _ st43=>?_)
   refine st43.cs rfl h41 (λ _ h44=>?_) (λ _ h45=>wp_skip (za (wp_seq (wp_region_list ?_))))
   ·
    refine wp_exit (zh (exit_out (by decide) (zh (zy ?_))))
    refine za ?_
    have h46:=lo h44 hx35
    cases h46
    exact fx
   obtain⟨v47,p47,v48,p48,v49,p49,h52⟩:=bsC h45
   refine st43.segB 8 (sc rfl (oM rfl (tp rfl))<|sc rfl (oM rfl (tp rfl))<|sc rfl (oM rfl (tp rfl))<|sc rfl (oM rfl (tp rfl))<|sc rfl (oM rfl (tp rfl))<|sc rfl (xAr rfl (tp rfl) (tp rfl) p47)<|sc rfl (xCutH rfl kX9 (tp rfl) (tp rfl) p48)<|sc rfl (xIdxT rfl kS29 (tp rfl) (tp rfl) p49)<|.nil) [0,1,2,3,10,11,48] [(9,0),(49,0)] (λ _ _ st53=>?_)
   obtain⟨v55,p55,h56⟩:=bs h52
   refine st53.storeT (sb:=9) 0 rfl rfl rfl kT9 rfl rfl (tp rfl) rfl p55 [0,1,2,3,10,11] rfl [] rfl rfl (λ _ _ st54=>wpList_nil (za ?_))
   obtain⟨v57,p57,v58,p58,h60⟩:=bsB h56
   refine st54.sqB (sc rfl (oM rfl (tp rfl))<|sc rfl (oM rfl (tp rfl))<|sc rfl (oM rfl (tp rfl))<|sc rfl (Jg rfl kX9 (tp rfl))<|sc rfl (xAr rfl (tp rfl) (tp rfl) p57)<|sc rfl (xCutL rfl kX9 (tp rfl) (tp rfl) p58)<|sc rfl (oA rfl (tp rfl))<|.nil) [0,1,2,3,10] [(9,0)] (λ _ _ st61=>?_)
   obtain⟨v62,p62,h63⟩:=bs h60
   refine st61.rgA [0,1,2,3,10] [(9,0)] (λ _ _ st64=>zf (za ?_))
   exact fl h63
  refine za ?_
  have h65:=lo h39 hx35
  cases h65
  exact fx
 rintro a34 w34 ⟨M34,q34_0,st34⟩
 have h66:=k34
 refine wp_seq (wp_region_list ?_)
 obtain⟨v67,p67,h68⟩:=bs h66
 refine st34.segB 4 (sp 3 (r:=by exact sc rfl (xIdxT rfl kS29 (tp rfl) (tp rfl) p67)<|.nil)) [10,60] [(9,0),(61,0)] (λ _ _ st69=>?_)
 obtain⟨v71,p71,h72⟩:=bs h68
 refine st69.storeT (sb:=9) 0 rfl rfl rfl kT9 rfl rfl (tp rfl) rfl p71 [10] rfl [] rfl rfl (λ _ _ st70=>wpList_nil (za ?_))
 have st73:=st70.frz 0 (s:=9) rfl rfl [10] rfl [] rfl
 obtain⟨v74,p74,v75,p75,h77⟩:=bsB h72
 refine st73.sq2 (sp 3 (r:=by exact sc rfl (xSliH rfl kS29 (tp rfl) (tp rfl) p75)<|segA)) [8] (λ _ _ st78=>wp_ret ?_)
 exact st78.ret rfl rfl h77
def wx(x0:Str)(x1:Str):Option (List Str):=
(qR x0 x1 (0:Int) (-1:Int)).bind λ v2=>
some v2
theorem JJ{x0:Str}{x1:Str}{r:List Str}(h:wx x0 x1=some r):Fn prog 133 [dt x0,dt x1] (dt r):=by
 unfold wx at h
 refine fnx (fn:=f133) 0 func133 rfl (oD rfl) rfl (λ M _ _ st0=>?_)
 refine st0.sq2 (sc rfl (oA rfl (x8 (α:=Str)))<|.nil) [0,1] (λ _ _ st1=>?_)
 obtain⟨v2,p2,h3⟩:=bsW h zas
 refine st1.sq1 [4] (λ _ _ st4=>wp_ret ?_)
 exact st4.ret rfl rfl h3
open Go.RowKit Tryz
set_option maxRecDepth 10000
theorem kN79:fnB prog 79=true:=by kernel_rfl
theorem kY29:zlB prog 29=true:=by kernel_rfl
theorem kN105:fnB prog 105=true:=by kernel_rfl
theorem kN149:fnB prog 149=true:=by kernel_rfl
theorem kN244:fnB prog 244=true:=by kernel_rfl
def wo(v2:List Str)(s7:Int):Option (Int⊕(Unit⊕Bool)):=
if(cmpI .lss s7 (v2.length:Int))=true then((atI v2 s7).bind λ v12=>
(yN v12).bind λ v15=>
if(!v15)=true then(some (.inr (.inr false)))
else((i64 (s7+(1:Int))).bind λ v23=>
some (.inl v23)))
else(some (.inr (.inl ())))
def zV(x0:Str):Option Bool:=
(wx x0 (⟨[46]⟩:Str)).bind λ v2=>
Option.bind (α:=Unit⊕Bool) (zK (λ s7=>wo v2 s7) (0:Int)) (Sum.elim (λ _b5=>
some (cmpI .leq (v2.length:Int) (3:Int))) some)
theorem yo{x0:Str}{r:Bool}(h:zV x0=some r):Fn prog 79 [dt x0] (dt r):=by
 unfold zV at h
 refine fnx (fn:=f79) 0 func79 rfl (oD rfl) rfl (λ M w0 _ st0=>?_)
 refine st0.sq1 [0] (λ _ _ st1=>?_)
 obtain⟨v2,p2,h3⟩:=bsW h JJ
 refine st1.sq1 [3] (λ _ _ st4=>?_)
 obtain⟨o5,p5,k5⟩:=bs h3
 refine zi (λ a w=>∃ b5,o5=.inl b5/\Sx (Frm.of w0) 21 M M [] [(3,dt v2)] [] a w) ?_ ?_
 ·
  refine st4.sq1 [3,8,9,10] (λ _ _ st6=>wp_block ?_)
  refine zG p5 (λ s7 a w=>Sx (Frm.of w0) 21 M M [] [(3,dt v2),(8,dt v2),(9,dt (v2.length:Int)),(10,dt s7)] [] a w) (st6.sel0 [3,8,9,10] rfl) ?_
  rintro s7 x7 a7 w7 st7 hs7 hx7
  have h8:wo v2 s7=some x7:=hs7
  unfold wo at h8
  refine st7.sq1 [3,8,9,10,11] (λ _ _ st9=>wp_seq ?_)
  refine st9.cs rfl h8 (λ _ h10=>wp_skip (za (wp_seq (wp_block ?_)))) (λ _ h11=>wp_exit (zh (zh (zy ?_))))
  ·
   obtain⟨v12,p12,h13⟩:=bs h10
   refine st9.sq2 (sc rfl (xIdx rfl kS29 (tp rfl) (tp rfl) p12)<|sc rfl (zr rfl kT9 (tp rfl))<|sc rfl (oA rfl (tp rfl))<|.nil) [3,5,8,9,10] (λ _ _ st14=>?_)
   obtain⟨v15,p15,h16⟩:=bsW h13 ju
   refine st14.sq1 [3,8,9,10,16] (λ _ _ st17=>?_)
   refine st17.cs rfl h16 (λ _ h18=>?_) (λ _ h19=>wp_skip (zf (za ?_)))
   ·
    refine st17.sq1 [2] (λ _ _ st20=>wp_ret (zt (ze (ze (zt (ze ?_))))))
    have h21:=lo h18 hx7
    have h22:=jo h21 k5
    exact st20.ret rfl rfl h22
   obtain⟨v23,p23,h24⟩:=bs h19
   refine st17.rg1 [3,8,9,10] (λ _ _ st25=>za ?_)
   exact⟨_,(Option.some.inj h24).symm,st25.sel0 [3,8,9,10] rfl⟩
  refine za ?_
  have h26:=lo h11 hx7
  exact⟨_,(Option.some.inj h26).symm,st9.sel0 [3] rfl⟩
 rintro a5 w5 ⟨b5,rfl,st5⟩
 have h27:=jn k5
 refine st5.sq1 [2] (λ _ _ st28=>wp_ret ?_)
 exact st28.ret rfl rfl h27
def xi(x0:Str):Option Bool:=
(gO (decide (x0=(⟨[]⟩:Str)) == false) (zV x0)).bind λ v2=>
some (decide (x0=(⟨[]⟩:Str))||v2)
theorem qw{x0:Str}{r:Bool}(h:xi x0=some r):Fn prog 149 [dt x0] (dt r):=by
 unfold xi at h
 refine fnx (fn:=f149) 0 func149 rfl (oD rfl) rfl (λ M _ _ st0=>?_)
 refine st0.sq1 [0] (λ _ _ st1=>?_)
 obtain⟨v2,p2,h3⟩:=bs h
 refine st1.sq2 (sp 4 (r:=by exact sg rfl rfl (λ hg=>oK (yo (gh hg p2)))<|segA)) [2] (λ _ _ st4=>wp_ret ?_)
 exact st4.ret rfl rfl h3
def jB(x0:Str):Option (List Str):=
(zV x0).bind λ v2=>
if(!v2)=true then(some ([]:List Str))
else((wx x0 (⟨[46]⟩:Str)).bind λ v8=>
some v8)
theorem Wj{x0:Str}{r:List Str}(h:jB x0=some r):Fn prog 83 [dt x0] (dt r):=by
 unfold jB at h
 refine fnx (fn:=f83) 0 func83 rfl (oD rfl) rfl (λ M _ _ st0=>?_)
 refine st0.sq2 (sc rfl (oA rfl (x8 (α:=Str)))<|.nil) [0] (λ _ _ st1=>wp_seq ?_)
 obtain⟨v2,p2,h3⟩:=bsW h yo
 refine st1.sq1 [0,5] (λ _ _ st4=>?_)
 refine st4.cs rfl h3 (λ _ h5=>?_) (λ _ h6=>wp_skip (za ?_))
 ·
  refine st4.sq2 (sc rfl (yq (opds:=[]) (α:=Str) rfl kS29 kY29 rfl rfl (by decide) .nil)<|segA) [2] (λ _ _ st7=>wp_ret (ze ?_))
  exact st7.ret rfl rfl h5
 obtain⟨v8,p8,h9⟩:=bsW h6 JJ
 refine st4.sq1 [2] (λ _ _ st10=>wp_ret ?_)
 exact st10.ret rfl rfl h9
def yK(x0:Str):Option Str:=
(zP x0 (UInt8.ofNat 46)).bind λ v2=>
(zV x0).bind λ v5=>
if((!v5)||cmpI .lss v2 (0:Int))=true then(some (⟨[]⟩:Str))
else((cutHO x0 v2).bind λ v11=>
some v11)
theorem qY{x0:Str}{r:Str}(h:yK x0=some r):Fn prog 54 [dt x0] (dt r):=by
 unfold yK at h
 refine fnx (fn:=f54) 0 func54 rfl (oD rfl) rfl (λ M _ _ st0=>?_)
 refine st0.sq1 [0] (λ _ _ st1=>?_)
 obtain⟨v2,p2,h3⟩:=bsW h Yn
 refine st1.sq1 [0,3] (λ _ _ st4=>wp_seq ?_)
 obtain⟨v5,p5,h6⟩:=bs h3
 refine st4.sq2 (sc rfl (oM rfl (tp rfl))<|sc rfl (zB (l:=[.tmp 6]) rfl kN79 (.cons (tp rfl) .nil) (yo p5))<|sc rfl (ZQ rfl (tp rfl))<|sc rfl (oM rfl (tp rfl))<|sg rfl rfl (λ hg=>oM rfl (tp rfl))<|sg rfl rfl (λ hg=>oCI rfl (zn hg rfl) cI)<|sc rfl (ZO rfl (tp rfl) (zb rfl))<|.nil) [0,3,12] (λ _ _ st7=>?_)
 refine st7.cs rfl h6 (λ _ h8=>?_) (λ _ h9=>wp_skip (za ?_))
 ·
  refine st7.sq2 (sc rfl (oA rfl (zN (by decide)))<|.nil) [2] (λ _ _ st10=>wp_ret (ze ?_))
  exact st10.ret rfl rfl h8
 obtain⟨v11,p11,h12⟩:=bs h9
 refine st7.sq2 (sc rfl (oM rfl (tp rfl))<|sc rfl (oM rfl (tp rfl))<|sc rfl (xCutH rfl kX9 (tp rfl) (tp rfl) p11)<|sc rfl (oA rfl (tp rfl))<|.nil) [2] (λ _ _ st13=>wp_ret ?_)
 exact st13.ret rfl rfl h12
def jr(x0:Str):Option Str:=
(zV x0).bind λ v2=>
if(!v2)=true then(some (⟨[]⟩:Str))
else((zP x0 (UInt8.ofNat 46)).bind λ v8=>
(i64 (v8+(1:Int))).bind λ v9=>
(cutLO x0 v9).bind λ v10=>
some v10)
theorem QW{x0:Str}{r:Str}(h:jr x0=some r):Fn prog 123 [dt x0] (dt r):=by
 unfold jr at h
 refine fnx (fn:=f123) 0 func123 rfl (oD rfl) rfl (λ M _ _ st0=>?_)
 refine st0.sq2 (sc rfl (oA rfl (zN (by decide)))<|.nil) [0] (λ _ _ st1=>wp_seq ?_)
 obtain⟨v2,p2,h3⟩:=bsW h yo
 refine st1.sq1 [0,5] (λ _ _ st4=>?_)
 refine st4.cs rfl h3 (λ _ h5=>?_) (λ _ h6=>wp_skip (za ?_))
 ·
  refine st4.sq2 (sc rfl (oA rfl (zN (by decide)))<|.nil) [2] (λ _ _ st7=>wp_ret (ze ?_))
  exact st7.ret rfl rfl h5
 obtain⟨v8,p8,v9,p9,v10,p10,h13⟩:=bsC h6
 refine st4.sq2 (sc rfl (oM rfl (tp rfl))<|sc rfl (oM rfl (tp rfl))<|sc rfl (zB (l:=[.tmp 7,.const (.int .u8 46)]) rfl kN105 (.cons (tp rfl) (.cons (Y0 (by decide)) .nil)) (Yn p8))<|sc rfl (xAr rfl (tp rfl) cI p9)<|sc rfl (xCutL rfl kX9 (tp rfl) (tp rfl) p10)<|sc rfl (oA rfl (tp rfl))<|.nil) [2] (λ _ _ st14=>wp_ret ?_)
 exact st14.ret rfl rfl h13
def wh(x0:Str)(x1:Str):Option Str:=
(xi x0).bind λ v2=>
(gO ((!v2) == false) (yN x1)).bind λ v3=>
if((!v2)||(!v3))=true then(some (⟨[]⟩:Str))
else(Option.bind (α:=Str) (if(decide (x0≠(⟨[]⟩:Str)))=true then((catO x0 (⟨[46]⟩:Str)).bind λ v14=>
(catO v14 x1).bind λ v15=>
some v15)
else(some x1)) λ o10=>
(zV o10).bind λ v20=>
if(!v20)=true then(some (⟨[]⟩:Str))
else(some o10))
theorem YD{x0:Str}{x1:Str}{r:Str}(h:wh x0 x1=some r):Fn prog 145 [dt x0,dt x1] (dt r):=by
 unfold wh at h
 refine fnx (fn:=f145) 0 func145 rfl (oD rfl) rfl (λ M w0 _ st0=>?_)
 refine st0.sq1 [0,1] (λ _ _ st1=>wp_seq ?_)
 obtain⟨v2,p2,v3,p3,h5⟩:=bsB h
 refine st1.sq2 (sp 1 (r:=by exact sc rfl (oK (qw p2))<|sp 3 (r:=by exact sg rfl rfl (λ hg=>oK (ju (gh hg p3)))<|segA))) [0,1,12] (λ _ _ st6=>?_)
 refine st6.cs rfl h5 (λ _ h7=>?_) (λ _ h8=>wp_skip (za ?_))
 ·
  refine st6.sq1 [4] (λ _ _ st9=>wp_ret (ze ?_))
  exact st9.ret rfl rfl h7
 obtain⟨o10,p10,k10⟩:=bs h8
 refine zi (λ a w=>Sx (Frm.of w0) 23 M M [] [(1,dt o10)] [] a w) ?_ ?_
 ·
  refine st6.sq2 (sc rfl (oM rfl (tp rfl))<|sc rfl (zae rfl (tp rfl) (zN (by decide)))<|.nil) [0,1,14] (λ _ _ st11=>?_)
  refine st11.cs rfl p10 (λ _ h12=>?_) (λ _ h13=>wp_skip (za ?_))
  ·
   obtain⟨v14,p14,v15,p15,h17⟩:=bsB h12
   refine st11.rg2 (sc rfl (oM rfl (tp rfl))<|sc rfl (xCat rfl (tp rfl) (zN (by decide)) p14)<|sc rfl (oM rfl (tp rfl))<|sc rfl (xCat rfl (tp rfl) (tp rfl) p15)<|sc rfl (oA rfl (tp rfl))<|.nil) [1] (λ _ _ st18=>za ?_)
   obtain rfl:=Option.some.inj h17
   exact st18.sel0 [1] rfl
  obtain rfl:=Option.some.inj h13
  exact st11.sel0 [1] rfl
 rintro a10 w10 st10
 have h19:=k10
 refine wp_seq ?_
 obtain⟨v20,p20,h21⟩:=bsW h19 yo
 refine st10.sq1 [1,21] (λ _ _ st22=>?_)
 refine st22.cs rfl h21 (λ _ h23=>?_) (λ _ h24=>wp_skip (za ?_))
 ·
  refine st22.sq2 (sc rfl (oA rfl (zN (by decide)))<|.nil) [4] (λ _ _ st25=>wp_ret (ze ?_))
  exact st25.ret rfl rfl h23
 refine st22.sq1 [4] (λ _ _ st26=>wp_ret ?_)
 exact st26.ret rfl rfl h24
def Zt(x0:Str)(x1:Str):Option Bool:=
(zV x0).bind λ v2=>
(gO ((!v2) == false) (xi x1)).bind λ v3=>
if((!v2)||(!v3))=true then(some false)
else((gO ((decide (x1=(⟨[]⟩:Str))||decide (x0=x1)) == false) (catO x1 (⟨[46]⟩:Str))).bind λ v10=>
(gO ((decide (x1=(⟨[]⟩:Str))||decide (x0=x1)) == false) (jl x0 v10)).bind λ v11=>
some ((decide (x1=(⟨[]⟩:Str))||decide (x0=x1))||v11))
theorem zcZ{x0:Str}{x1:Str}{r:Bool}(h:Zt x0 x1=some r):Fn prog 224 [dt x0,dt x1] (dt r):=by
 unfold Zt at h
 refine fnx (fn:=f224) 0 func224 rfl (oD rfl) rfl (λ M _ _ st0=>?_)
 refine st0.sq1 [0,1] (λ _ _ st1=>wp_seq ?_)
 obtain⟨v2,p2,v3,p3,h5⟩:=bsB h
 refine st1.sq2 (sc rfl (oM rfl (tp rfl))<|sc rfl (zB (l:=[.tmp 5]) rfl kN79 (.cons (tp rfl) .nil) (yo p2))<|sc rfl (ZQ rfl (tp rfl))<|sc rfl (oM rfl (tp rfl))<|sg rfl rfl (λ hg=>oM rfl (tp rfl))<|sg rfl rfl (λ hg=>zB (l:=[.tmp 9]) rfl kN149 (.cons (zn hg rfl) .nil) (qw (gh hg p3)))<|sg rfl rfl (λ hg=>ZQ rfl (zn hg rfl))<|sc rfl (ZO rfl (tp rfl) (zb rfl))<|.nil) [0,1,12] (λ _ _ st6=>?_)
 refine st6.cs rfl h5 (λ _ h7=>?_) (λ _ h8=>wp_skip (za ?_))
 ·
  refine st6.sq1 [4] (λ _ _ st9=>wp_ret (ze ?_))
  exact st9.ret rfl rfl h7
 obtain⟨v10,p10,v11,p11,h13⟩:=bsB h8
 refine st6.sq2 (sc rfl (oM rfl (tp rfl))<|sc rfl (qQ rfl (tp rfl) (zN (by decide)))<|sc rfl (oM rfl (tp rfl))<|sg rfl rfl (λ hg=>oM rfl (tp rfl))<|sg rfl rfl (λ hg=>oM rfl (tp rfl))<|sg rfl rfl (λ hg=>qQ rfl (zn hg rfl) (zn hg rfl))<|sc rfl (ZO rfl (tp rfl) (zb rfl))<|sc rfl (oM rfl (tp rfl))<|sg rfl rfl (λ hg=>oM rfl (tp rfl))<|sg rfl rfl (λ hg=>oM rfl (tp rfl))<|sg rfl rfl (λ hg=>xCat rfl (zn hg rfl) (zN (by decide)) (gh hg p10))<|sg rfl rfl (λ hg=>zB (l:=[.tmp 21,.tmp 23]) rfl kN244 (.cons (zn hg rfl) (.cons (zn hg rfl) .nil)) (QK (gh hg p11)))<|sc rfl (ZO rfl (tp rfl) (zb rfl))<|sc rfl (oA rfl (tp rfl))<|.nil) [4] (λ _ _ st14=>wp_ret ?_)
 exact st14.ret rfl rfl h13
end Go.Proofs.YtpmkkijamfgaeaaGreatDoor
