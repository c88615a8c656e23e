import Derived.Test.YtmenakmafojpaaaGreatDoorRB
import Derived.Test.YtmenakmafojpaaaGreatDoorProg
import Derived.Test.YtmenakmafojpaaaGreatDoorRC
namespace Go.Proofs.YtmenakmafojpaaaGreatDoor
open Go.RowKit Tryz
attribute [local irreducible] OpRel OpdR
set_option maxRecDepth 10000
theorem zG:prog.follows .mixedOrders=true:=by kernel_rfl
theorem kF70_0:fldB prog 70 0 0=true:=by kernel_rfl
theorem kT3:tyB prog 3 false 1=true:=by kernel_rfl
theorem kF70_1:fldB prog 70 1 1=true:=by kernel_rfl
theorem kT9:tyB prog 9 false 1=true:=by kernel_rfl
theorem kF70_3:fldB prog 70 3 3=true:=by kernel_rfl
theorem kT4:tyB prog 4 false 1=true:=by kernel_rfl
theorem kV4:isBool prog 4=true:=by kernel_rfl
theorem kF70_2:fldB prog 70 2 2=true:=by kernel_rfl
theorem kS29:slB prog 29 1=true:=by kernel_rfl
theorem kN69:fnB prog 69=true:=by kernel_rfl
theorem kX9:Xg prog 9=true:=by kernel_rfl
theorem kL26:isSl prog 26=true:=by kernel_rfl
theorem kS26:slB prog 26 1=true:=by kernel_rfl
def yj(x0:Int)(x1:Int)(x2:Int):Option Bool:=
some (cmpI .geq x0 x1&&cmpI .leq x0 x2)
theorem wC{x0:Int}{x1:Int}{x2:Int}{r:Bool}(h:yj x0 x1 x2=some r):Fn prog 56 [dt x0,dt x1,dt x2] (dt r):=by
 unfold yj at h
 refine fnx (fn:=f56) 0 func56 rfl (oD rfl) rfl (λ M _ _ st0=>?_)
 refine st0.sq1 [0,1,2] (λ _ _ st1=>?_)
 refine st1.sq2 (sp 7 (r:=by exact sc rfl (zZ rfl (tp rfl) (zb rfl))<|segA)) [6] (λ _ _ st2=>wp_ret ?_)
 exact st2.ret rfl rfl h
def j9(x0:File)(x1:File):Option Bool:=
some (((cmpI .eql x0.root x1.root&&decide (x0.pkg=x1.pkg))&&(x0.init == x1.init))&&decide (x0.name=x1.name))
theorem XP{x0:File}{x1:File}{r:Bool}(h:j9 x0 x1=some r):Fn prog 55 [dt x0,dt x1] (dt r):=by
 unfold j9 at h
 refine fnx (fn:=f55) 0 func55 rfl (oD rfl) rfl (λ M _ _ st0=>?_)
 refine st0.sq1 [2,3] (λ _ _ st1=>?_)
 refine st1.sq2 (sp 11 (r:=by exact sc rfl (zZ rfl (tp rfl) (zb rfl))<|sp 5 (r:=by exact sg rfl rfl (λ hg=>op_eqT rfl kV4 (zh hg rfl) (zh hg rfl))<|sc rfl (zZ rfl (tp rfl) (zb rfl))<|sp 6 (r:=by exact sc rfl (zZ rfl (tp rfl) (zb rfl))<|segA)))) [4] (λ _ _ st2=>wp_ret ?_)
 exact st2.ret rfl rfl h
def yS(x0:List Str)(x1:Str)(s4:Int):Option (Int⊕(Unit⊕Int)):=
if(cmpI .lss s4 (x0.length:Int))=true then((atI x0 s4).bind λ v9=>
if(decide (v9=x1))=true then(some (.inr (.inr s4)))
else((i64 (s4+(1:Int))).bind λ v17=>
some (.inl v17)))
else(some (.inr (.inl ())))
def jW(x0:List Str)(x1:Str):Option Int:=
Option.bind (α:=Unit⊕Int) (zS (λ s4=>yS x0 x1 s4) (0:Int)) (Sum.elim (λ _b2=>
some (-1:Int)) some)
theorem JE{x0:List Str}{x1:Str}{r:Int}(h:jW x0 x1=some r):Fn prog 69 [dt x0,dt x1] (dt r):=by
 unfold jW at h
 refine fnx (fn:=f69) 0 func69 rfl (oD rfl) rfl (λ M w0 _ st0=>?_)
 refine st0.sq1 [0,1] (λ _ _ st1=>?_)
 obtain⟨o2,p2,k2⟩:=bs h
 refine zk (λ a w=>∃ b2,o2=.inl b2/\Sx (Frm.of w0) 19 M M [] [] [] a w) ?_ ?_
 ·
  refine st1.sq1 [0,1,5] (λ _ _ st3=>wp_block ?_)
  refine zK p2 (λ s4 a w=>Sx (Frm.of w0) 19 M M [] [(0,dt x0),(1,dt x1),(5,dt s4)] [] a w) (st3.sel0 [0,1,5] rfl) ?_
  rintro s4 x4 a4 w4 st4 hs4 hx4
  have h5:yS x0 x1 s4=some x4:=hs4
  unfold yS at h5
  refine wp_seq ?_
  refine st4.sq1 [0,1,5,9] (λ _ _ st6=>?_)
  refine st6.cs rfl h5 (λ _ h7=>wp_skip (za (wp_seq (wp_block ?_)))) (λ _ h8=>wp_exit (zi (zi (zC ?_))))
  ·
   obtain⟨v9,p9,h10⟩:=bs h7
   refine st6.sq1 [0,1,5,17] (λ _ _ st11=>?_)
   refine st11.cs rfl h10 (λ _ h12=>?_) (λ _ h13=>wp_skip (ze (za ?_)))
   ·
    refine st11.sq1 [4] (λ _ _ st14=>wp_ret (zm (zd (zd (zm (zd ?_))))))
    have h15:=lo h12 hx4
    have h16:=jo h15 k2
    exact st14.ret rfl rfl h16
   obtain⟨v17,p17,h18⟩:=bs h13
   refine st11.rg1 [0,1,5] (λ _ _ st19=>za ?_)
   exact⟨_,(Option.some.inj h18).symm,st19.sel0 [0,1,5] rfl⟩
  refine za ?_
  have h20:=lo h8 hx4
  exact⟨_,(Option.some.inj h20).symm,st6.sel0 [] rfl⟩
 rintro a2 w2 ⟨b2,rfl,st2⟩
 have h21:=jn k2
 refine st2.sq1 [4] (λ _ _ st22=>wp_ret ?_)
 exact st22.ret rfl rfl h21
def qa(x0:List Str)(x1:Str):Option Bool:=
(jW x0 x1).bind λ v2=>
some (cmpI .geq v2 (0:Int))
theorem WR{x0:List Str}{x1:Str}{r:Bool}(h:qa x0 x1=some r):Fn prog 70 [dt x0,dt x1] (dt r):=by
 unfold qa at h
 refine fnx (fn:=f70) 0 func70 rfl (oD rfl) rfl (λ M _ _ st0=>?_)
 refine st0.sq1 [0,1] (λ _ _ st1=>?_)
 obtain⟨v2,p2,h3⟩:=bsW h JE
 refine st1.sq1 [4] (λ _ _ st4=>wp_ret ?_)
 exact st4.ret rfl rfl h3
def we(x0:Str)(s4:Int):Option (Int⊕(Unit⊕Bool)):=
if(cmpI .lss s4 (x0.l.length:Int))=true then((atI x0.l s4).bind λ v10=>
(gO (cmpB .lss v10 (UInt8.ofNat 97) == false) (atI x0.l s4)).bind λ v11=>
if(cmpB .lss v10 (UInt8.ofNat 97)||cmpB .gtr v11 (UInt8.ofNat 122))=true then(some (.inr (.inr false)))
else((i64 (s4+(1:Int))).bind λ v20=>
some (.inl v20)))
else(some (.inr (.inl ())))
def yT(x0:Str):Option Bool:=
Option.bind (α:=Unit⊕Bool) (zS (λ s4=>we x0 s4) (0:Int)) (Sum.elim (λ _b2=>
(yj (x0.l.length:Int) (1:Int) (3:Int)).bind λ v25=>
some v25) some)
theorem jg{x0:Str}{r:Bool}(h:yT x0=some r):Fn prog 59 [dt x0] (dt r):=by
 unfold yT at h
 refine fnx (fn:=f59) 0 func59 rfl (oD rfl) rfl (λ M w0 _ st0=>?_)
 refine st0.sq1 [0] (λ _ _ st1=>?_)
 obtain⟨o2,p2,k2⟩:=bs h
 refine zk (λ a w=>∃ b2,o2=.inl b2/\Sx (Frm.of w0) 23 M M [] [(0,dt x0)] [] a w) ?_ ?_
 ·
  refine st1.sq1 [0,5,6] (λ _ _ st3=>wp_block ?_)
  refine zK p2 (λ s4 a w=>Sx (Frm.of w0) 23 M M [] [(0,dt x0),(5,dt (x0.l.length:Int)),(6,dt s4)] [] a w) (st3.sel0 [0,5,6] rfl) ?_
  rintro s4 x4 a4 w4 st4 hs4 hx4
  have h5:we x0 s4=some x4:=hs4
  unfold we at h5
  refine st4.sq1 [0,5,6,7] (λ _ _ st6=>wp_seq ?_)
  refine st6.cs rfl h5 (λ _ h7=>wp_skip (za (wp_seq (wp_block ?_)))) (λ _ h8=>wp_exit (zi (zi (zC ?_))))
  ·
   refine st6.sq1 [0,3,5,6] (λ _ _ st9=>?_)
   obtain⟨v10,p10,v11,p11,h13⟩:=bsB h7
   refine st9.sq2 (sp 3 (r:=by exact sc rfl (oCB rfl (tp rfl) (Z3 (by decide)))<|sp 3 (r:=by exact sg rfl rfl (λ hg=>xByte rfl kX9 (zh hg rfl) (zh hg rfl) (gh hg p11))<|sg rfl rfl (λ hg=>oCB rfl (zh hg rfl) (Z3 (by decide)))<|sc rfl (yW rfl (tp rfl) (zb rfl))<|.nil))) [0,5,6,18] (λ _ _ st14=>?_)
   refine st14.cs rfl h13 (λ _ h15=>?_) (λ _ h16=>wp_skip (ze (za ?_)))
   ·
    refine st14.sq1 [2] (λ _ _ st17=>wp_ret (zm (zd (zd (zm (zd ?_))))))
    have h18:=lo h15 hx4
    have h19:=jo h18 k2
    exact st17.ret rfl rfl h19
   obtain⟨v20,p20,h21⟩:=bs h16
   refine st14.rg1 [0,5,6] (λ _ _ st22=>za ?_)
   exact⟨_,(Option.some.inj h21).symm,st22.sel0 [0,5,6] rfl⟩
  refine za ?_
  have h23:=lo h8 hx4
  exact⟨_,(Option.some.inj h23).symm,st6.sel0 [0] rfl⟩
 rintro a2 w2 ⟨b2,rfl,st2⟩
 have h24:=jn k2
 obtain⟨v25,p25,h26⟩:=bsW h24 wC
 refine st2.sq1 [2] (λ _ _ st27=>wp_ret ?_)
 exact st27.ret rfl rfl h26
def yJ(x0:List Int)(x1:Int)(s4:Int):Option (Int⊕(Unit⊕Int)):=
if(cmpI .lss s4 (x0.length:Int))=true then((atI x0 s4).bind λ v10=>
if(cmpI .eql x1 v10)=true then(some (.inr (.inr s4)))
else((i64 (s4+(1:Int))).bind λ v18=>
some (.inl v18)))
else(some (.inr (.inl ())))
def xZ(x0:List Int)(x1:Int):Option Int:=
Option.bind (α:=Unit⊕Int) (zS (λ s4=>yJ x0 x1 s4) (0:Int)) (Sum.elim (λ _b2=>
some (-1:Int)) some)
theorem Wh{x0:List Int}{x1:Int}{r:Int}(h:xZ x0 x1=some r):Fn prog 98 [dt x0,dt x1] (dt r):=by
 unfold xZ at h
 refine fnx (fn:=f98) 0 func98 rfl (oD rfl) rfl (λ M w0 _ st0=>?_)
 refine st0.sq1 [0,1] (λ _ _ st1=>?_)
 obtain⟨o2,p2,k2⟩:=bs h
 refine zk (λ a w=>∃ b2,o2=.inl b2/\Sx (Frm.of w0) 19 M M [] [] [] a w) ?_ ?_
 ·
  refine st1.sq1 [0,1,7,8] (λ _ _ st3=>wp_block ?_)
  refine zK p2 (λ s4 a w=>Sx (Frm.of w0) 19 M M [] [(0,dt x0),(1,dt x1),(7,dt (x0.length:Int)),(8,dt s4)] [] a w) (st3.sel0 [0,1,7,8] rfl) ?_
  rintro s4 x4 a4 w4 st4 hs4 hx4
  have h5:yJ x0 x1 s4=some x4:=hs4
  unfold yJ at h5
  refine st4.sq1 [0,1,7,8,9] (λ _ _ st6=>wp_seq ?_)
  refine st6.cs rfl h5 (λ _ h7=>wp_skip (za (wp_seq (wp_block ?_)))) (λ _ h8=>wp_exit (zi (zi (zC ?_))))
  ·
   refine st6.sq1 [0,1,5,7,8] (λ _ _ st9=>?_)
   obtain⟨v10,p10,h11⟩:=bs h7
   refine st9.sq1 [0,1,5,7,8,16] (λ _ _ st12=>?_)
   refine st12.cs rfl h11 (λ _ h13=>?_) (λ _ h14=>wp_skip (ze (za ?_)))
   ·
    refine st12.sq1 [4] (λ _ _ st15=>wp_ret (zm (zd (zd (zm (zd ?_))))))
    have h16:=lo h13 hx4
    have h17:=jo h16 k2
    exact st15.ret rfl rfl h17
   obtain⟨v18,p18,h19⟩:=bs h14
   refine st12.rg1 [0,1,7,8] (λ _ _ st20=>za ?_)
   exact⟨_,(Option.some.inj h19).symm,st20.sel0 [0,1,7,8] rfl⟩
  refine za ?_
  have h21:=lo h8 hx4
  exact⟨_,(Option.some.inj h21).symm,st6.sel0 [] rfl⟩
 rintro a2 w2 ⟨b2,rfl,st2⟩
 have h22:=jn k2
 refine st2.sq1 [4] (λ _ _ st23=>wp_ret ?_)
 exact st23.ret rfl rfl h22
def z7(x0:List Str)(x1:Str)(s4:Int):Option (Int⊕(Unit⊕Int)):=
if(cmpI .lss s4 (x0.length:Int))=true then((atI x0 s4).bind λ v10=>
if(decide (x1=v10))=true then(some (.inr (.inr s4)))
else((i64 (s4+(1:Int))).bind λ v18=>
some (.inl v18)))
else(some (.inr (.inl ())))
def xG(x0:List Str)(x1:Str):Option Int:=
Option.bind (α:=Unit⊕Int) (zS (λ s4=>z7 x0 x1 s4) (0:Int)) (Sum.elim (λ _b2=>
some (-1:Int)) some)
theorem YA{x0:List Str}{x1:Str}{r:Int}(h:xG x0 x1=some r):Fn prog 183 [dt x0,dt x1] (dt r):=by
 unfold xG at h
 refine fnx (fn:=f183) 0 func183 rfl (oD rfl) rfl (λ M w0 _ st0=>?_)
 refine st0.sq1 [0,1] (λ _ _ st1=>?_)
 obtain⟨o2,p2,k2⟩:=bs h
 refine zk (λ a w=>∃ b2,o2=.inl b2/\Sx (Frm.of w0) 19 M M [] [] [] a w) ?_ ?_
 ·
  refine st1.sq1 [0,1,7,8] (λ _ _ st3=>wp_block ?_)
  refine zK p2 (λ s4 a w=>Sx (Frm.of w0) 19 M M [] [(0,dt x0),(1,dt x1),(7,dt (x0.length:Int)),(8,dt s4)] [] a w) (st3.sel0 [0,1,7,8] rfl) ?_
  rintro s4 x4 a4 w4 st4 hs4 hx4
  have h5:z7 x0 x1 s4=some x4:=hs4
  unfold z7 at h5
  refine st4.sq1 [0,1,7,8,9] (λ _ _ st6=>wp_seq ?_)
  refine st6.cs rfl h5 (λ _ h7=>wp_skip (za (wp_seq (wp_block ?_)))) (λ _ h8=>wp_exit (zi (zi (zC ?_))))
  ·
   refine st6.sq1 [0,1,5,7,8] (λ _ _ st9=>?_)
   obtain⟨v10,p10,h11⟩:=bs h7
   refine st9.sq1 [0,1,5,7,8,16] (λ _ _ st12=>?_)
   refine st12.cs rfl h11 (λ _ h13=>?_) (λ _ h14=>wp_skip (ze (za ?_)))
   ·
    refine st12.sq1 [4] (λ _ _ st15=>wp_ret (zm (zd (zd (zm (zd ?_))))))
    have h16:=lo h13 hx4
    have h17:=jo h16 k2
    exact st15.ret rfl rfl h17
   obtain⟨v18,p18,h19⟩:=bs h14
   refine st12.rg1 [0,1,7,8] (λ _ _ st20=>za ?_)
   exact⟨_,(Option.some.inj h19).symm,st20.sel0 [0,1,7,8] rfl⟩
  refine za ?_
  have h21:=lo h8 hx4
  exact⟨_,(Option.some.inj h21).symm,st6.sel0 [] rfl⟩
 rintro a2 w2 ⟨b2,rfl,st2⟩
 have h22:=jn k2
 refine st2.sq1 [4] (λ _ _ st23=>wp_ret ?_)
 exact st23.ret rfl rfl h22
def xn(x0:List Int)(x1:Int):Option Bool:=
(xZ x0 x1).bind λ v2=>
some (cmpI .geq v2 (0:Int))
theorem Xe{x0:List Int}{x1:Int}{r:Bool}(h:xn x0 x1=some r):Fn prog 57 [dt x0,dt x1] (dt r):=by
 unfold xn at h
 refine fnx (fn:=f57) 0 func57 rfl (oD rfl) rfl (λ M _ _ st0=>?_)
 refine st0.sq1 [0,1] (λ _ _ st1=>?_)
 obtain⟨v2,p2,h3⟩:=bsW h Wh
 refine st1.sq1 [4] (λ _ _ st4=>wp_ret ?_)
 exact st4.ret rfl rfl h3
def yf(x0:List Str)(x1:Str):Option Bool:=
(xG x0 x1).bind λ v2=>
some (cmpI .geq v2 (0:Int))
theorem Z2{x0:List Str}{x1:Str}{r:Bool}(h:yf x0 x1=some r):Fn prog 147 [dt x0,dt x1] (dt r):=by
 unfold yf at h
 refine fnx (fn:=f147) 0 func147 rfl (oD rfl) rfl (λ M _ _ st0=>?_)
 refine st0.sq1 [0,1] (λ _ _ st1=>?_)
 obtain⟨v2,p2,h3⟩:=bsW h YA
 refine st1.sq1 [4] (λ _ _ st4=>wp_ret ?_)
 exact st4.ret rfl rfl h3
open Go.RowKit Tryz
set_option maxRecDepth 10000
theorem kE29:elB prog 29 9 1 16=true:=by kernel_rfl
theorem kZ9:y8 prog 9=some Zo:=by kernel_rfl
def yZ(x0:Str)(x1:Str):Option Bool:=
(gO (cmpI .geq (x0.l.length:Int) (x1.l.length:Int) == true) (cutHO x0 (x1.l.length:Int))).bind λ v2=>
some (cmpI .geq (x0.l.length:Int) (x1.l.length:Int)&&decide (v2=x1))
theorem ZV{x0:Str}{x1:Str}{r:Bool}(h:yZ x0 x1=some r):Fn prog 225 [dt x0,dt x1] (dt r):=by
 unfold yZ at h
 refine fnx (fn:=f225) 0 func225 rfl (oD rfl) rfl (λ M _ _ st0=>?_)
 refine st0.sq1 [0,1] (λ _ _ st1=>?_)
 obtain⟨v2,p2,h3⟩:=bs h
 refine st1.sq2 (sp 9 (r:=by exact sg rfl rfl (λ hg=>xCutH rfl kX9 (zh hg rfl) (zh hg rfl) (gh hg p2))<|sp 2 (r:=by exact sc rfl (zZ rfl (tp rfl) (zb rfl))<|segA))) [4] (λ _ _ st4=>wp_ret ?_)
 exact st4.ret rfl rfl h3
def wW(x0:Str)(x1:Str):Option Bool:=
(yZ x0 x1).bind λ v2=>
some v2
theorem Js{x0:Str}{x1:Str}{r:Bool}(h:wW x0 x1=some r):Fn prog 217 [dt x0,dt x1] (dt r):=by
 unfold wW at h
 refine fnx (fn:=f217) 0 func217 rfl (oD rfl) rfl (λ M _ _ st0=>?_)
 refine st0.sq1 [0,1] (λ _ _ st1=>?_)
 obtain⟨v2,p2,h3⟩:=bsW h ZV
 refine st1.sq1 [4] (λ _ _ st4=>wp_ret ?_)
 exact st4.ret rfl rfl h3
def zF(x0:Str)(x1:UInt8)(s6:Int):Option (Int⊕(Unit⊕Int)):=
if(cmpI .geq s6 (0:Int))=true then((atI x0.l s6).bind λ v11=>
if(cmpB .eql v11 x1)=true then(some (.inr (.inr s6)))
else((i64 (s6 - (1:Int))).bind λ v19=>
some (.inl v19)))
else(some (.inr (.inl ())))
def yw(x0:Str)(x1:UInt8):Option Int:=
Option.bind (α:=Unit⊕Int) ((i64 ((x0.l.length:Int) - (1:Int))).bind λ v3=>
zS (λ s6=>zF x0 x1 s6) v3) (Sum.elim (λ _b2=>
some (-1:Int)) some)
theorem qS{x0:Str}{x1:UInt8}{r:Int}(h:yw x0 x1=some r):Fn prog 100 [dt x0,dt x1] (dt r):=by
 unfold yw at h
 refine fnx (fn:=f100) 0 func100 rfl (oD rfl) rfl (λ M w0 _ st0=>?_)
 refine st0.sq1 [0,1] (λ _ _ st1=>?_)
 obtain⟨o2,p2,k2⟩:=bs h
 refine zk (λ a w=>∃ b2,o2=.inl b2/\Sx (Frm.of w0) 19 M M [] [] [] a w) ?_ ?_
 ·
  obtain⟨v3,p3,h4⟩:=bs p2
  refine st1.sq1 [0,1,5] (λ _ _ st5=>wp_block ?_)
  refine zK h4 (λ s6 a w=>Sx (Frm.of w0) 19 M M [] [(0,dt x0),(1,dt x1),(5,dt s6)] [] a w) (st5.sel0 [0,1,5] rfl) ?_
  rintro s6 x6 a6 w6 st6 hs6 hx6
  have h7:zF x0 x1 s6=some x6:=hs6
  unfold zF at h7
  refine wp_seq ?_
  refine st6.sq1 [0,1,5,10] (λ _ _ st8=>?_)
  refine st8.cs rfl h7 (λ _ h9=>wp_skip (za (wp_seq (wp_block ?_)))) (λ _ h10=>wp_exit (zi (zi (zC ?_))))
  ·
   obtain⟨v11,p11,h12⟩:=bs h9
   refine st8.sq2 (sp 4 (r:=by exact sc rfl (oCB rfl (tp rfl) (tp rfl))<|.nil)) [0,1,5,17] (λ _ _ st13=>?_)
   refine st13.cs rfl h12 (λ _ h14=>?_) (λ _ h15=>wp_skip (ze (za ?_)))
   ·
    refine st13.sq1 [4] (λ _ _ st16=>wp_ret (zm (zd (zd (zm (zd ?_))))))
    have h17:=lo h14 hx6
    have h18:=jo h17 k2
    exact st16.ret rfl rfl h18
   obtain⟨v19,p19,h20⟩:=bs h15
   refine st13.rg1 [0,1,5] (λ _ _ st21=>za ?_)
   exact⟨_,(Option.some.inj h20).symm,st21.sel0 [0,1,5] rfl⟩
  refine za ?_
  have h22:=lo h10 hx6
  exact⟨_,(Option.some.inj h22).symm,st8.sel0 [] rfl⟩
 rintro a2 w2 ⟨b2,rfl,st2⟩
 have h23:=jn k2
 refine st2.sq1 [4] (λ _ _ st24=>wp_ret ?_)
 exact st24.ret rfl rfl h23
def zQ(x0:Str)(x1:UInt8):Option Int:=
(yw x0 x1).bind λ v2=>
some v2
theorem ZK{x0:Str}{x1:UInt8}{r:Int}(h:zQ x0 x1=some r):Fn prog 60 [dt x0,dt x1] (dt r):=by
 unfold zQ at h
 refine fnx (fn:=f60) 0 func60 rfl (oD rfl) rfl (λ M _ _ st0=>?_)
 refine st0.sq1 [0,1] (λ _ _ st1=>?_)
 obtain⟨v2,p2,h3⟩:=bsW h qS
 refine st1.sq1 [4] (λ _ _ st4=>wp_ret ?_)
 exact st4.ret rfl rfl h3
def yY(x1:Str)(x2:Int)(v30:Int)(s35:Str×(List Str)×Int):Option ((Str×(List Str)×Int)⊕(Str×(List Str)×Int)):=
if(cmpI .lss s35.2.2 v30)=true then((wV s35.1 x1).bind λ v40=>
if(cmpI .lss v40 (0:Int))=true then(some (.inr (s35.1,s35.2.1,s35.2.2)))
else((i64 (v40+x2)).bind λ v47=>
(cutHO s35.1 v47).bind λ v48=>
(atI s35.2.1 s35.2.2).bind λ _v49=>
(setO s35.2.1 s35.2.2 v48).bind λ v55=>
(i64 (v40+(x1.l.length:Int))).bind λ v57=>
(cutLO s35.1 v57).bind λ v58=>
(i64 (s35.2.2+(1:Int))).bind λ v62=>
some (.inl (v58,v55,v62))))
else(some (.inr (s35.1,s35.2.1,s35.2.2)))
def qn(x0:Str)(x1:Str)(x2:Int)(x3:Int):Option (List Str):=
if(cmpI .eql x3 (0:Int))=true then(some ([]:List Str))
else(if(decide (x1=(⟨[]⟩:Str)))=true then((Xl x0 x3).bind λ v9=>
some v9)
else(Option.bind (α:=Int) (if(cmpI .lss x3 (0:Int))=true then((Zz x0 x1).bind λ v16=>
(i64 (v16+(1:Int))).bind λ v17=>
some v17)
else(some x3)) λ o12=>
(i64 ((x0.l.length:Int)+(1:Int))).bind λ v22=>
(makeO 1 16 (if v22<o12 then v22 else o12) zStr).bind λ v27=>
(i64 ((if v22<o12 then v22 else o12) - (1:Int))).bind λ v30=>
Option.bind (α:=Str×(List Str)×Int) (zS (λ s35=>yY x1 x2 v30 s35) (x0,v27,(0:Int))) λ o34=>
(atI o34.2.1 o34.2.2).bind λ _v67=>
(setO o34.2.1 o34.2.2 o34.1).bind λ v71=>
(i64 (o34.2.2+(1:Int))).bind λ v74=>
(XK v71 v74).bind λ v75=>
some v75))
theorem J8{x0:Str}{x1:Str}{x2:Int}{x3:Int}{r:List Str}(h:qn x0 x1 x2 x3=some r):Fn prog 99 [dt x0,dt x1,dt x2,dt x3] (dt r):=by
 unfold qn at h
 refine fnx (fn:=f99) 1 func99 rfl (oD rfl) rfl (λ M w0 _ st0=>?_)
 refine st0.sq2 (sc rfl (oA rfl (qO (α:=Str)))<|.nil) [0,1,2,3] (λ _ _ st1=>wp_seq ?_)
 refine st1.sq1 [0,1,2,3,13] (λ _ _ st2=>?_)
 refine st2.cs rfl h (λ _ h3=>?_) (λ _ h4=>wp_skip (za (wp_seq ?_)))
 ·
  refine st2.sq2 (sc rfl (oA rfl (qO (α:=Str)))<|.nil) [8] (λ _ _ st5=>wp_ret (zd ?_))
  exact st5.ret rfl rfl h3
 refine st2.sq1 [0,1,2,3,15] (λ _ _ st6=>?_)
 refine st6.cs rfl h4 (λ _ h7=>?_) (λ _ h8=>wp_skip (za ?_))
 ·
  obtain⟨v9,p9,h10⟩:=bsW h7 Qx
  refine st6.sq1 [8] (λ _ _ st11=>wp_ret (zd ?_))
  exact st11.ret rfl rfl h10
 obtain⟨o12,p12,k12⟩:=bs h8
 refine zk (λ a w=>∃ M1 q12_0,Sx (Frm.of w0) 66 M M1 [oneB q12_0] [(0,dt x0),(1,dt x1),(2,dt x2),(3,dt o12)] [] a w) ?_ ?_
 ·
  refine st6.sq1 [0,1,2,3,20] (λ _ _ st13=>?_)
  refine st13.cs rfl p12 (λ _ h14=>?_) (λ _ h15=>wp_skip (za ?_))
  ·
   obtain⟨v16,p16,h18⟩:=bsW h14 zaN
   obtain⟨v17,p17,h19⟩:=bs h18
   refine st13.rg1 [0,1,2,3] (λ _ _ st20=>za ?_)
   cases h19
   exact fx
  cases h15
  exact fx
 rintro a12 w12 ⟨M12,q12_0,st12⟩
 have h21:=k12
 obtain⟨v22,p22,h23⟩:=bs h21
 refine st12.sq2 (sc rfl (oM rfl (tp rfl))<|sc rfl (oM rfl (tp rfl))<|sc rfl (Xi rfl kX9 (tp rfl))<|sc rfl (xAr rfl (tp rfl) cI p22)<|sc rfl (xMin rfl (tp rfl) (tp rfl))<|sc rfl (oA rfl (tp rfl))<|.nil) [0,1,2,3] (λ _ _ st24=>wp_seq (wp_region_list ?_))
 refine st24.segA 1 [0,1,2,3,30] [] (λ _ _ st25=>?_)
 obtain⟨v27,p27,h28⟩:=bs h23
 refine st25.make 0 rfl rfl kE29 kZ9 YB rfl (by simp) p27 [0,1,2,3] rfl [] rfl rfl (λ g26 _ _ _ st26=>?_)
 refine st26.segA 1 [0,1,2,3] [(9,0)] (λ _ _ st29=>wpList_nil (za ?_))
 obtain⟨v30,p30,h31⟩:=bs h28
 refine st29.sqA [0,1,2,3] [(9,0)] (λ _ _ st32=>?_)
 refine st32.sqA [0,1,2,3,10] [(9,0)] (λ _ _ st33=>?_)
 obtain⟨o34,p34,k34⟩:=bs h31
 refine zk (λ a w=>∃ M1 q34_0,Sx (Frm.of w0) 66 M M1 [oneB q34_0] [(0,dt o34.1),(10,dt o34.2.2)] [(9,0,dtip q34_0 9 o34.2.1)] a w) ?_ ?_
 ·
  refine wp_block ?_
  refine zK p34 (λ s35 a w=>∃ M1 q35_0,Sx (Frm.of w0) 66 M M1 [oneB q35_0] [(0,dt s35.1),(1,dt x1),(2,dt x2),(3,dt v30),(10,dt s35.2.2)] [(9,0,dtip q35_0 9 s35.2.1)] a w) fx ?_
  rintro s35 x35 a35 w35 ⟨M35,q35_0,st35⟩ hs35 hx35
  have h36:yY x1 x2 v30 s35=some x35:=hs35
  unfold yY at h36
  refine wp_seq ?_
  refine st35.sqA [0,1,2,3,10,36] [(9,0)] (λ _ _ st37=>?_)
  refine st37.cs rfl h36 (λ _ h38=>wp_skip (za (wp_block ?_))) (λ _ h39=>wp_exit (zi (zi (zC ?_))))
  ·
   obtain⟨v40,p40,h41⟩:=bsW h38 zaM
   refine st37.sqA [0,1,2,3,10,11] [(9,0)] (λ _ _ st42=>wp_seq ?_)
   refine st42.sqA [0,1,2,3,10,11,41] [(9,0)] (λ _ _ st43=>?_)
   refine st43.cs rfl h41 (λ _ h44=>?_) (λ _ h45=>wp_skip (za (wp_seq (wp_region_list ?_))))
   ·
    refine wp_exit (zi (exit_out (by decide) (zi (zC ?_))))
    refine za ?_
    have h46:=lo h44 hx35
    cases h46
    exact fx
   obtain⟨v47,p47,v48,p48,v49,p49,h52⟩:=bsC h45
   refine st43.segB 8 (sc rfl (oM rfl (tp rfl))<|sc rfl (oM rfl (tp rfl))<|sc rfl (oM rfl (tp rfl))<|sc rfl (oM rfl (tp rfl))<|sc rfl (oM rfl (tp rfl))<|sc rfl (xAr rfl (tp rfl) (tp rfl) p47)<|sc rfl (xCutH rfl kX9 (tp rfl) (tp rfl) p48)<|sc rfl (xIdxT rfl kS29 (tp rfl) (tp rfl) p49)<|.nil) [0,1,2,3,10,11,48] [(9,0),(49,0)] (λ _ _ st53=>?_)
   obtain⟨v55,p55,h56⟩:=bs h52
   refine st53.storeT (sb:=9) 0 rfl rfl rfl kT9 rfl rfl (tp rfl) rfl p55 [0,1,2,3,10,11] rfl [] rfl rfl (λ _ _ st54=>wpList_nil (za ?_))
   obtain⟨v57,p57,v58,p58,h60⟩:=bsB h56
   refine st54.sqB (sc rfl (oM rfl (tp rfl))<|sc rfl (oM rfl (tp rfl))<|sc rfl (oM rfl (tp rfl))<|sc rfl (Xi rfl kX9 (tp rfl))<|sc rfl (xAr rfl (tp rfl) (tp rfl) p57)<|sc rfl (xCutL rfl kX9 (tp rfl) (tp rfl) p58)<|sc rfl (oA rfl (tp rfl))<|.nil) [0,1,2,3,10] [(9,0)] (λ _ _ st61=>?_)
   obtain⟨v62,p62,h63⟩:=bs h60
   refine st61.rgA [0,1,2,3,10] [(9,0)] (λ _ _ st64=>ze (za ?_))
   exact fl h63
  refine za ?_
  have h65:=lo h39 hx35
  cases h65
  exact fx
 rintro a34 w34 ⟨M34,q34_0,st34⟩
 have h66:=k34
 refine wp_seq (wp_region_list ?_)
 obtain⟨v67,p67,h68⟩:=bs h66
 refine st34.segB 4 (sp 3 (r:=by exact sc rfl (xIdxT rfl kS29 (tp rfl) (tp rfl) p67)<|.nil)) [10,60] [(9,0),(61,0)] (λ _ _ st69=>?_)
 obtain⟨v71,p71,h72⟩:=bs h68
 refine st69.storeT (sb:=9) 0 rfl rfl rfl kT9 rfl rfl (tp rfl) rfl p71 [10] rfl [] rfl rfl (λ _ _ st70=>wpList_nil (za ?_))
 have st73:=st70.frz 0 (s:=9) rfl rfl [10] rfl [] rfl
 obtain⟨v74,p74,v75,p75,h77⟩:=bsB h72
 refine st73.sq2 (sp 3 (r:=by exact sc rfl (xSliH rfl kS29 (tp rfl) (tp rfl) p75)<|segA)) [8] (λ _ _ st78=>wp_ret ?_)
 exact st78.ret rfl rfl h77
def jH(x0:Str)(x1:Str):Option (List Str):=
(qn x0 x1 (0:Int) (-1:Int)).bind λ v2=>
some v2
theorem zaO{x0:Str}{x1:Str}{r:List Str}(h:jH x0 x1=some r):Fn prog 58 [dt x0,dt x1] (dt r):=by
 unfold jH at h
 refine fnx (fn:=f58) 0 func58 rfl (oD rfl) rfl (λ M _ _ st0=>?_)
 refine st0.sq2 (sc rfl (oA rfl (qO (α:=Str)))<|.nil) [0,1] (λ _ _ st1=>?_)
 obtain⟨v2,p2,h3⟩:=bsW h J8
 refine st1.sq1 [4] (λ _ _ st4=>wp_ret ?_)
 exact st4.ret rfl rfl h3
open Go.RowKit Tryz
set_option maxRecDepth 10000
theorem kN17:fnB prog 17=true:=by kernel_rfl
theorem kY29:zlB prog 29=true:=by kernel_rfl
theorem kN60:fnB prog 60=true:=by kernel_rfl
theorem kN95:fnB prog 95=true:=by kernel_rfl
theorem kN217:fnB prog 217=true:=by kernel_rfl
theorem kF104_0:fldB prog 104 0 0=true:=by kernel_rfl
theorem JF:bldB prog 104 [1,1,1,1,1]=true:=by kernel_rfl
theorem JG:jV prog 104 [1,1,1,1,1]=some YV:=by kernel_rfl
theorem kZ104:y8 prog 104=some zcStmt:=by kernel_rfl
theorem qP:tyB prog 104 true 5=true:=by kernel_rfl
theorem kF104_1:fldB prog 104 1 1=true:=by kernel_rfl
theorem kQ104:Qr prog 104=true:=by kernel_rfl
theorem kF104_4:fldB prog 104 4 4=true:=by kernel_rfl
theorem kF104_2:fldB prog 104 2 2=true:=by kernel_rfl
theorem QD:fldB prog 104 3 3=true:=by kernel_rfl
theorem kL68:isSl prog 68=true:=by kernel_rfl
theorem kS68:slB prog 68 5=true:=by kernel_rfl
theorem kF70_4:fldB prog 70 4 4=true:=by kernel_rfl
theorem kF70_5:fldB prog 70 5 5=true:=by kernel_rfl
theorem kT68:tyB prog 68 false 1=true:=by kernel_rfl
theorem qT:fldB prog 25 0 0=true:=by kernel_rfl
theorem kT23:tyB prog 23 false 1=true:=by kernel_rfl
theorem kL23:isSl prog 23=true:=by kernel_rfl
theorem kS23:slB prog 23 6=true:=by kernel_rfl
theorem kT70:tyB prog 70 true 6=true:=by kernel_rfl
theorem kZ70:y8 prog 70=some zcFile:=by kernel_rfl
theorem kZ94:y8 prog 94=some zcSpec:=by kernel_rfl
theorem kY26:zlB prog 26=true:=by kernel_rfl
theorem kB94:bldB prog 94 [1,1,1]=true:=by kernel_rfl
theorem kC94:jV prog 94 [1,1,1]=some zpSpec:=by kernel_rfl
theorem kT94:tyB prog 94 true 3=true:=by kernel_rfl
theorem kU86:isFn prog 86=true:=by kernel_rfl
theorem kT25:tyB prog 25 true 1=true:=by kernel_rfl
theorem kB70:bldB prog 70 [1,1,1,1,1,1]=true:=by kernel_rfl
theorem kC70:jV prog 70 [1,1,1,1,1,1]=some zpFile:=by kernel_rfl
theorem kE26:elB prog 26 3 1 8=true:=by kernel_rfl
theorem kF94_0:fldB prog 94 0 0=true:=by kernel_rfl
theorem kF94_2:fldB prog 94 2 2=true:=by kernel_rfl
theorem kT26:tyB prog 26 false 1=true:=by kernel_rfl
theorem kN144:fnB prog 144=true:=by kernel_rfl
theorem kG94_0:fldVB prog 94 0 0 false 1=true:=by kernel_rfl
def wg(v2:List Str)(s7:Int):Option (Int⊕(Unit⊕Bool)):=
if(cmpI .lss s7 (v2.length:Int))=true then((atI v2 s7).bind λ v12=>
(yT v12).bind λ v15=>
if(!v15)=true then(some (.inr (.inr false)))
else((i64 (s7+(1:Int))).bind λ v23=>
some (.inl v23)))
else(some (.inr (.inl ())))
def zY(x0:Str):Option Bool:=
(jH x0 (⟨[46]⟩:Str)).bind λ v2=>
Option.bind (α:=Unit⊕Bool) (zS (λ s7=>wg v2 s7) (0:Int)) (Sum.elim (λ _b5=>
some (cmpI .leq (v2.length:Int) (3:Int))) some)
theorem yv{x0:Str}{r:Bool}(h:zY x0=some r):Fn prog 17 [dt x0] (dt r):=by
 unfold zY at h
 refine fnx (fn:=f17) 0 func17 rfl (oD rfl) rfl (λ M w0 _ st0=>?_)
 refine st0.sq1 [0] (λ _ _ st1=>?_)
 obtain⟨v2,p2,h3⟩:=bsW h zaO
 refine st1.sq1 [3] (λ _ _ st4=>?_)
 obtain⟨o5,p5,k5⟩:=bs h3
 refine zk (λ a w=>∃ b5,o5=.inl b5/\Sx (Frm.of w0) 21 M M [] [(3,dt v2)] [] a w) ?_ ?_
 ·
  refine st4.sq1 [3,8,9,10] (λ _ _ st6=>wp_block ?_)
  refine zK p5 (λ s7 a w=>Sx (Frm.of w0) 21 M M [] [(3,dt v2),(8,dt v2),(9,dt (v2.length:Int)),(10,dt s7)] [] a w) (st6.sel0 [3,8,9,10] rfl) ?_
  rintro s7 x7 a7 w7 st7 hs7 hx7
  have h8:wg v2 s7=some x7:=hs7
  unfold wg at h8
  refine st7.sq1 [3,8,9,10,11] (λ _ _ st9=>wp_seq ?_)
  refine st9.cs rfl h8 (λ _ h10=>wp_skip (za (wp_seq (wp_block ?_)))) (λ _ h11=>wp_exit (zi (zi (zC ?_))))
  ·
   obtain⟨v12,p12,h13⟩:=bs h10
   refine st9.sq2 (sc rfl (xIdx rfl kS29 (tp rfl) (tp rfl) p12)<|sc rfl (zn rfl kT9 (tp rfl))<|sc rfl (oA rfl (tp rfl))<|.nil) [3,5,8,9,10] (λ _ _ st14=>?_)
   obtain⟨v15,p15,h16⟩:=bsW h13 jg
   refine st14.sq1 [3,8,9,10,16] (λ _ _ st17=>?_)
   refine st17.cs rfl h16 (λ _ h18=>?_) (λ _ h19=>wp_skip (ze (za ?_)))
   ·
    refine st17.sq1 [2] (λ _ _ st20=>wp_ret (zm (zd (zd (zm (zd ?_))))))
    have h21:=lo h18 hx7
    have h22:=jo h21 k5
    exact st20.ret rfl rfl h22
   obtain⟨v23,p23,h24⟩:=bs h19
   refine st17.rg1 [3,8,9,10] (λ _ _ st25=>za ?_)
   exact⟨_,(Option.some.inj h24).symm,st25.sel0 [3,8,9,10] rfl⟩
  refine za ?_
  have h26:=lo h11 hx7
  exact⟨_,(Option.some.inj h26).symm,st9.sel0 [3] rfl⟩
 rintro a5 w5 ⟨b5,rfl,st5⟩
 have h27:=jn k5
 refine st5.sq1 [2] (λ _ _ st28=>wp_ret ?_)
 exact st28.ret rfl rfl h27
def xh(x0:Str):Option Bool:=
(gO (decide (x0=(⟨[]⟩:Str)) == false) (zY x0)).bind λ v2=>
some (decide (x0=(⟨[]⟩:Str))||v2)
theorem qb{x0:Str}{r:Bool}(h:xh x0=some r):Fn prog 95 [dt x0] (dt r):=by
 unfold xh at h
 refine fnx (fn:=f95) 0 func95 rfl (oD rfl) rfl (λ M _ _ st0=>?_)
 refine st0.sq1 [0] (λ _ _ st1=>?_)
 obtain⟨v2,p2,h3⟩:=bs h
 refine st1.sq2 (sp 4 (r:=by exact sg rfl rfl (λ hg=>oK (yv (gh hg p2)))<|sc rfl (yW rfl (tp rfl) (zb rfl))<|segA)) [2] (λ _ _ st4=>wp_ret ?_)
 exact st4.ret rfl rfl h3
def yO(x0:Str):Option Str:=
(zQ x0 (UInt8.ofNat 46)).bind λ v2=>
(zY x0).bind λ v5=>
if((!v5)||cmpI .lss v2 (0:Int))=true then(some (⟨[]⟩:Str))
else((cutHO x0 v2).bind λ v11=>
some v11)
theorem qu{x0:Str}{r:Str}(h:yO x0=some r):Fn prog 18 [dt x0] (dt r):=by
 unfold yO at h
 refine fnx (fn:=f18) 0 func18 rfl (oD rfl) rfl (λ M _ _ st0=>?_)
 refine st0.sq1 [0] (λ _ _ st1=>?_)
 obtain⟨v2,p2,h3⟩:=bsW h ZK
 refine st1.sq1 [0,3] (λ _ _ st4=>wp_seq ?_)
 obtain⟨v5,p5,h6⟩:=bs h3
 refine st4.sq2 (sc rfl (oM rfl (tp rfl))<|sc rfl (zP (l:=[.tmp 6]) rfl kN17 (.cons (tp rfl) .nil) (yv p5))<|sc rfl (qM rfl (tp rfl))<|sc rfl (oM rfl (tp rfl))<|sg rfl rfl (λ hg=>oM rfl (tp rfl))<|sg rfl rfl (λ hg=>oCI rfl (zh hg rfl) cI)<|sc rfl (yW rfl (tp rfl) (zb rfl))<|.nil) [0,3,12] (λ _ _ st7=>?_)
 refine st7.cs rfl h6 (λ _ h8=>?_) (λ _ h9=>wp_skip (za ?_))
 ·
  refine st7.sq2 (sc rfl (oA rfl (zO (by decide)))<|.nil) [2] (λ _ _ st10=>wp_ret (zd ?_))
  exact st10.ret rfl rfl h8
 obtain⟨v11,p11,h12⟩:=bs h9
 refine st7.sq2 (sc rfl (oM rfl (tp rfl))<|sc rfl (oM rfl (tp rfl))<|sc rfl (xCutH rfl kX9 (tp rfl) (tp rfl) p11)<|sc rfl (oA rfl (tp rfl))<|.nil) [2] (λ _ _ st13=>wp_ret ?_)
 exact st13.ret rfl rfl h12
def jc(x0:Str):Option Str:=
(zY x0).bind λ v2=>
if(!v2)=true then(some (⟨[]⟩:Str))
else((zQ x0 (UInt8.ofNat 46)).bind λ v8=>
(i64 (v8+(1:Int))).bind λ v9=>
(cutLO x0 v9).bind λ v10=>
some v10)
theorem JH{x0:Str}{r:Str}(h:jc x0=some r):Fn prog 27 [dt x0] (dt r):=by
 unfold jc at h
 refine fnx (fn:=f27) 0 func27 rfl (oD rfl) rfl (λ M _ _ st0=>?_)
 refine st0.sq2 (sc rfl (oA rfl (zO (by decide)))<|.nil) [0] (λ _ _ st1=>wp_seq ?_)
 obtain⟨v2,p2,h3⟩:=bsW h yv
 refine st1.sq1 [0,5] (λ _ _ st4=>?_)
 refine st4.cs rfl h3 (λ _ h5=>?_) (λ _ h6=>wp_skip (za ?_))
 ·
  refine st4.sq2 (sc rfl (oA rfl (zO (by decide)))<|.nil) [2] (λ _ _ st7=>wp_ret (zd ?_))
  exact st7.ret rfl rfl h5
 obtain⟨v8,p8,v9,p9,v10,p10,h13⟩:=bsC h6
 refine st4.sq2 (sc rfl (oM rfl (tp rfl))<|sc rfl (oM rfl (tp rfl))<|sc rfl (zP (l:=[.tmp 7,.const (.int .u8 46)]) rfl kN60 (.cons (tp rfl) (.cons (Z3 (by decide)) .nil)) (ZK p8))<|sc rfl (xAr rfl (tp rfl) cI p9)<|sc rfl (xCutL rfl kX9 (tp rfl) (tp rfl) p10)<|sc rfl (oA rfl (tp rfl))<|.nil) [2] (λ _ _ st14=>wp_ret ?_)
 exact st14.ret rfl rfl h13
def wG(x0:Str)(x1:Str):Option Str:=
(xh x0).bind λ v2=>
(gO ((!v2) == false) (yT x1)).bind λ v3=>
if((!v2)||(!v3))=true then(some (⟨[]⟩:Str))
else(Option.bind (α:=Str) (if(decide (x0≠(⟨[]⟩:Str)))=true then((catO x0 (⟨[46]⟩:Str)).bind λ v14=>
(catO v14 x1).bind λ v15=>
some v15)
else(some x1)) λ o10=>
(zY o10).bind λ v20=>
if(!v20)=true then(some (⟨[]⟩:Str))
else(some o10))
theorem YW{x0:Str}{x1:Str}{r:Str}(h:wG x0 x1=some r):Fn prog 97 [dt x0,dt x1] (dt r):=by
 unfold wG at h
 refine fnx (fn:=f97) 0 func97 rfl (oD rfl) rfl (λ M w0 _ st0=>?_)
 refine st0.sq1 [0,1] (λ _ _ st1=>wp_seq ?_)
 obtain⟨v2,p2,v3,p3,h5⟩:=bsB h
 refine st1.sq2 (sp 1 (r:=by exact sc rfl (oK (qb p2))<|sp 3 (r:=by exact sg rfl rfl (λ hg=>oK (jg (gh hg p3)))<|sp 1 (r:=by exact sc rfl (yW rfl (tp rfl) (zb rfl))<|.nil)))) [0,1,12] (λ _ _ st6=>?_)
 refine st6.cs rfl h5 (λ _ h7=>?_) (λ _ h8=>wp_skip (za ?_))
 ·
  refine st6.sq1 [4] (λ _ _ st9=>wp_ret (zd ?_))
  exact st9.ret rfl rfl h7
 obtain⟨o10,p10,k10⟩:=bs h8
 refine zk (λ a w=>Sx (Frm.of w0) 23 M M [] [(1,dt o10)] [] a w) ?_ ?_
 ·
  refine st6.sq2 (sc rfl (oM rfl (tp rfl))<|sc rfl (Wa rfl (tp rfl) (zO (by decide)))<|.nil) [0,1,14] (λ _ _ st11=>?_)
  refine st11.cs rfl p10 (λ _ h12=>?_) (λ _ h13=>wp_skip (za ?_))
  ·
   obtain⟨v14,p14,v15,p15,h17⟩:=bsB h12
   refine st11.rg2 (sc rfl (oM rfl (tp rfl))<|sc rfl (xCat rfl (tp rfl) (zO (by decide)) p14)<|sc rfl (oM rfl (tp rfl))<|sc rfl (xCat rfl (tp rfl) (tp rfl) p15)<|sc rfl (oA rfl (tp rfl))<|.nil) [1] (λ _ _ st18=>za ?_)
   obtain rfl:=Option.some.inj h17
   exact st18.sel0 [1] rfl
  obtain rfl:=Option.some.inj h13
  exact st11.sel0 [1] rfl
 rintro a10 w10 st10
 have h19:=k10
 refine wp_seq ?_
 obtain⟨v20,p20,h21⟩:=bsW h19 yv
 refine st10.sq1 [1,21] (λ _ _ st22=>?_)
 refine st22.cs rfl h21 (λ _ h23=>?_) (λ _ h24=>wp_skip (za ?_))
 ·
  refine st22.sq2 (sc rfl (oA rfl (zO (by decide)))<|.nil) [4] (λ _ _ st25=>wp_ret (zd ?_))
  exact st25.ret rfl rfl h23
 refine st22.sq1 [4] (λ _ _ st26=>wp_ret ?_)
 exact st26.ret rfl rfl h24
def qU(x0:Str)(x1:Str):Option Bool:=
(zY x0).bind λ v2=>
(gO ((!v2) == false) (xh x1)).bind λ v3=>
if((!v2)||(!v3))=true then(some false)
else((gO ((decide (x1=(⟨[]⟩:Str))||decide (x0=x1)) == false) (catO x1 (⟨[46]⟩:Str))).bind λ v10=>
(gO ((decide (x1=(⟨[]⟩:Str))||decide (x0=x1)) == false) (wW x0 v10)).bind λ v11=>
some ((decide (x1=(⟨[]⟩:Str))||decide (x0=x1))||v11))
theorem za5{x0:Str}{x1:Str}{r:Bool}(h:qU x0 x1=some r):Fn prog 198 [dt x0,dt x1] (dt r):=by
 unfold qU at h
 refine fnx (fn:=f198) 0 func198 rfl (oD rfl) rfl (λ M _ _ st0=>?_)
 refine st0.sq1 [0,1] (λ _ _ st1=>wp_seq ?_)
 obtain⟨v2,p2,v3,p3,h5⟩:=bsB h
 refine st1.sq2 (sc rfl (oM rfl (tp rfl))<|sc rfl (zP (l:=[.tmp 5]) rfl kN17 (.cons (tp rfl) .nil) (yv p2))<|sc rfl (qM rfl (tp rfl))<|sc rfl (oM rfl (tp rfl))<|sg rfl rfl (λ hg=>oM rfl (tp rfl))<|sg rfl rfl (λ hg=>zP (l:=[.tmp 9]) rfl kN95 (.cons (zh hg rfl) .nil) (qb (gh hg p3)))<|sg rfl rfl (λ hg=>qM rfl (zh hg rfl))<|sc rfl (yW rfl (tp rfl) (zb rfl))<|.nil) [0,1,12] (λ _ _ st6=>?_)
 refine st6.cs rfl h5 (λ _ h7=>?_) (λ _ h8=>wp_skip (za ?_))
 ·
  refine st6.sq1 [4] (λ _ _ st9=>wp_ret (zd ?_))
  exact st9.ret rfl rfl h7
 obtain⟨v10,p10,v11,p11,h13⟩:=bsB h8
 refine st6.sq2 (sc rfl (oM rfl (tp rfl))<|sc rfl (qk rfl (tp rfl) (zO (by decide)))<|sc rfl (oM rfl (tp rfl))<|sg rfl rfl (λ hg=>oM rfl (tp rfl))<|sg rfl rfl (λ hg=>oM rfl (tp rfl))<|sg rfl rfl (λ hg=>qk rfl (zh hg rfl) (zh hg rfl))<|sc rfl (yW rfl (tp rfl) (zb rfl))<|sc rfl (oM rfl (tp rfl))<|sg rfl rfl (λ hg=>oM rfl (tp rfl))<|sg rfl rfl (λ hg=>oM rfl (tp rfl))<|sg rfl rfl (λ hg=>xCat rfl (zh hg rfl) (zO (by decide)) (gh hg p10))<|sg rfl rfl (λ hg=>zP (l:=[.tmp 21,.tmp 23]) rfl kN217 (.cons (zh hg rfl) (.cons (zh hg rfl) .nil)) (Js (gh hg p11)))<|sc rfl (yW rfl (tp rfl) (zb rfl))<|sc rfl (oA rfl (tp rfl))<|.nil) [4] (λ _ _ st14=>wp_ret ?_)
 exact st14.ret rfl rfl h13
def Zq(x0:Stmt):Option Bool:=
Option.bind (α:=Bool) (if(cmpI .eql x0.kind (0:Int))=true then(some (cmpI .eql x0.kind (0:Int)))
else(some (cmpI .eql x0.kind (2:Int)))) λ o6=>
if o6=true then((gO (decide (x0={ (⟨x0.kind,⟨[]⟩,0,⟨[]⟩,0⟩:Stmt) with module:=x0.module }) == true) (zY x0.module)).bind λ v16=>
some (decide (x0={ (⟨x0.kind,⟨[]⟩,0,⟨[]⟩,0⟩:Stmt) with module:=x0.module })&&v16))
else(if(cmpI .eql x0.kind (1:Int))=true then((gO (cmpI .eql x0.value (0:Int) == true) (yj x0.level (0:Int) (3:Int))).bind λ v22=>
(gO ((cmpI .eql x0.value (0:Int)&&v22) == true) (yT x0.name)).bind λ v23=>
(gO (((cmpI .eql x0.value (0:Int)&&v22)&&v23) == true) (zY x0.module)).bind λ v24=>
some (((cmpI .eql x0.value (0:Int)&&v22)&&v23)&&(v24||(decide (x0.module=(⟨[]⟩:Str))&&cmpI .geq x0.level (1:Int)))))
else(if(cmpI .eql x0.kind (3:Int))=true then((gO (decide (x0={ { (⟨x0.kind,⟨[]⟩,0,⟨[]⟩,0⟩:Stmt) with name:=x0.name } with value:=x0.value }) == true) (yT x0.name)).bind λ v35=>
(gO ((decide (x0={ { (⟨x0.kind,⟨[]⟩,0,⟨[]⟩,0⟩:Stmt) with name:=x0.name } with value:=x0.value })&&v35) == true) (yj x0.value (0:Int) (99:Int))).bind λ v36=>
some ((decide (x0={ { (⟨x0.kind,⟨[]⟩,0,⟨[]⟩,0⟩:Stmt) with name:=x0.name } with value:=x0.value })&&v35)&&v36))
else(if(cmpI .eql x0.kind (4:Int))=true then((gO (decide (x0={ (⟨x0.kind,⟨[]⟩,0,⟨[]⟩,0⟩:Stmt) with name:=x0.name }) == true) (yT x0.name)).bind λ v45=>
some (decide (x0={ (⟨x0.kind,⟨[]⟩,0,⟨[]⟩,0⟩:Stmt) with name:=x0.name })&&v45))
else(if(cmpI .eql x0.kind (5:Int))=true then(some (decide (x0=(⟨x0.kind,⟨[]⟩,0,⟨[]⟩,0⟩:Stmt))))
else(some false)))))
theorem impl_stmtOk_w{x0:Stmt}{r:Bool}(h:Zq x0=some r):Fn prog 133 [dt x0] (dt r):=by
 unfold Zq at h
 refine fnx (fn:=f133) 1 func133 rfl (oD rfl) rfl (λ M w0 _ st0=>?_)
 refine st0.sq1 [1] (λ _ _ st1=>wp_seq (wp_region_list ?_))
 refine st1.segB 3 (sp 2 (r:=by exact sc rfl (zX (parts:=[(0,.tmp 5)]) (ns:=[1,1,1,1,1]) (zs:=YV) rfl rfl JF JG (λ w a hl=>by
 intro p hp;simp only[List.mem_cons,List.not_mem_nil,or_false] at hp
 rcases hp with rfl
 ·
  exact⟨by decide,Rep.len (α:=Int) (OpdR.cells (tp rfl) hl)⟩) (λ w a hl=>Stmt.parts (x:=(⟨x0.kind,⟨[]⟩,0,⟨[]⟩,0⟩:Stmt)) (OpdR.cells (tp rfl) hl) xV ⟨rfl,trivial⟩ xV ⟨rfl,trivial⟩))<|.nil)) [1,6] [] (λ _ _ st2=>?_)
 refine st2.alloc 0 rfl rfl kZ104 zrStmt (by simp) [1,6] rfl [] rfl rfl (λ b3 _ _ _ st3=>?_)
 refine st3.store (sb:=3) 0 FldS.id rfl rfl rfl qP rfl rfl (tp rfl) rfl [1] rfl [] rfl rfl (λ _ _ st4=>wpList_nil (za (wp_seq ?_)))
 refine st4.sqA [1,8] [(3,0)] (λ _ _ st5=>wp_block ?_)
 obtain⟨o6,p6,k6⟩:=bs h
 refine zk (λ a w=>∃ M1 q6_0,Sx (Frm.of w0) 92 M M1 [oneB q6_0] [(1,dptr x0),(8,dt x0.kind),(9,dt o6)] [(3,0,dbox q6_0 0 (⟨x0.kind,⟨[]⟩,0,⟨[]⟩,0⟩:Stmt))] a w) ?_ ?_
 ·
  refine st5.sqA [1,8,9] [(3,0)] (λ _ _ st7=>?_)
  refine st7.cs rfl p6 (λ _ h8=>wp_skip (za ?_)) (λ _ h9=>?_)
  ·
   cases h8
   exact fx
  refine st7.rgA [1,8,9] [(3,0)] (λ _ _ st10=>za ?_)
  cases h9
  exact fx
 rintro a6 w6 ⟨M6,q6_0,st6⟩
 have h11:=k6
 refine st6.cs rfl h11 (λ _ h12=>wp_seq (wp_region_list ?_)) (λ _ h13=>?_)
 ·
  refine st6.segB 3 (sp 2 (r:=by exact sc rfl (wF Stmt.fld1 rfl kF104_1 (tp rfl))<|.nil)) [1,13] [(3,0),(14,0)] (λ _ _ st14=>?_)
  refine st14.store (sb:=3) 0 Stmt.set1 rfl rfl rfl kT9 rfl rfl (tp rfl) rfl [1] rfl [] rfl rfl (λ _ _ st15=>wpList_nil (za ?_))
  obtain⟨v16,p16,h17⟩:=bs h12
  refine st15.sq2 (sp 1 (r:=by exact sc rfl (yL rfl qP (tp rfl))<|sc rfl (XL rfl kQ104 (tp rfl) (tp rfl))<|sp 3 (r:=by exact sg rfl rfl (λ hg=>oK (yv (gh hg p16)))<|sc rfl (zZ rfl (tp rfl) (zb rfl))<|segA))) [2] (λ _ _ st18=>wp_ret (zm (zd ?_)))
  exact st18.ret rfl rfl h17
 refine st6.sqA [1,8,23] [(3,0)] (λ _ _ st19=>?_)
 refine st19.cs rfl h13 (λ _ h20=>?_) (λ _ h21=>?_)
 ·
  obtain⟨v22,p22,v23,p23,v24,p24,h27⟩:=bsC h20
  refine st19.sq2 (sp 6 (r:=by exact sg rfl rfl (λ hg=>oK (wC (gh hg p22)))<|sc rfl (zZ rfl (tp rfl) (zb rfl))<|sp 3 (r:=by exact sg rfl rfl (λ hg=>oK (jg (gh hg p23)))<|sc rfl (zZ rfl (tp rfl) (zb rfl))<|sp 3 (r:=by exact sg rfl rfl (λ hg=>oK (yv (gh hg p24)))<|sg rfl rfl (λ hg=>oM rfl (zh hg rfl))<|sgg rfl rfl (λ hg=>zx Stmt.fld1 rfl kF104_1 (tp rfl))<|sgg rfl rfl (λ hg=>zn rfl kT9 (zh hg rfl))<|sgg rfl rfl (λ hg=>qk rfl (zh hg rfl) (zO (by decide)))<|sgg rfl rfl (λ hg=>oM rfl (zh hg rfl))<|sgg rfl rfl (λ hg=>zx Stmt.fld2 rfl kF104_2 (tp rfl))<|sgg rfl rfl (λ hg=>zn rfl kT3 (zh hg rfl))<|sgg rfl rfl (λ hg=>oCI rfl (zh hg rfl) cI)<|sgg rfl rfl (λ hg=>zZ rfl (zh hg rfl) (Xv hg rfl))<|sg rfl rfl (λ hg=>yW rfl (zh hg rfl) (Xv hg rfl))<|sc rfl (zZ rfl (tp rfl) (zb rfl))<|segA)))) [2] (λ _ _ st28=>wp_ret (zm (zd ?_)))
  exact st28.ret rfl rfl h27
 refine st19.sqA [1,8,53] [(3,0)] (λ _ _ st29=>?_)
 refine st29.cs rfl h21 (λ _ h30=>wp_seq ?_) (λ _ h31=>?_)
 ·
  refine st29.late (D:=[_,_,_,_,_,Xk]) (sb:=3) 0 Stmt.set3 zG 6 5 [[],[0],[],[2],[0,1],[0,1,4],[0,1,2,3,4,5],[0,1,2,3,4,5,6]] [[(1,none)],[(55,some 0)],[(1,none)],[(57,some 2)],[(3,none)],[(59,some 4),(56,some 1)],[(3,none)],[(60,some 6),(58,some 3)]] (by decide +kernel) (by decide) (by decide) rfl (
   lc rfl rfl rfl (zx Stmt.fld3 rfl QD (tp rfl))<|lc rfl rfl rfl (zn rfl kT9 (tp rfl))<|lc rfl rfl rfl (zx Stmt.fld4 rfl kF104_4 (tp rfl))<|lc rfl rfl rfl (zn rfl kT3 (tp rfl))<|lc rfl rfl rfl (wF Stmt.fld3 rfl QD (tp rfl))<|ll rfl<|.nil) rfl rfl rfl rfl kT9 rfl rfl (tp rfl) rfl [1,58] rfl [] rfl rfl rfl (λ _ _ st32=>?_)
  refine st32.segB 1 (sc rfl (wF Stmt.fld4 rfl kF104_4 (tp rfl))<|.nil) [1,58] [(3,0),(60,0)] (λ _ _ st33=>?_)
  refine st33.store (sb:=3) 0 Stmt.set4 rfl rfl rfl kT3 rfl rfl (tp rfl) rfl [1] rfl [] rfl rfl (λ _ _ st34=>wpList_nil (za ?_))
  obtain⟨v35,p35,v36,p36,h38⟩:=bsB h30
  refine st34.sq2 (sp 1 (r:=by exact sc rfl (yL rfl qP (tp rfl))<|sc rfl (XL rfl kQ104 (tp rfl) (tp rfl))<|sp 3 (r:=by exact sg rfl rfl (λ hg=>oK (jg (gh hg p35)))<|sc rfl (zZ rfl (tp rfl) (zb rfl))<|sp 3 (r:=by exact sg rfl rfl (λ hg=>oK (wC (gh hg p36)))<|sc rfl (zZ rfl (tp rfl) (zb rfl))<|segA)))) [2] (λ _ _ st39=>wp_ret (zm (zd ?_)))
  exact st39.ret rfl rfl h38
 refine st29.sqA [1,8,74] [(3,0)] (λ _ _ st40=>?_)
 refine st40.cs rfl h31 (λ _ h41=>wp_seq (wp_region_list ?_)) (λ _ h42=>?_)
 ·
  refine st40.segB 3 (sp 2 (r:=by exact sc rfl (wF Stmt.fld3 rfl QD (tp rfl))<|.nil)) [1,77] [(3,0),(78,0)] (λ _ _ st43=>?_)
  refine st43.store (sb:=3) 0 Stmt.set3 rfl rfl rfl kT9 rfl rfl (tp rfl) rfl [1] rfl [] rfl rfl (λ _ _ st44=>wpList_nil (za ?_))
  obtain⟨v45,p45,h46⟩:=bs h41
  refine st44.sq2 (sp 1 (r:=by exact sc rfl (yL rfl qP (tp rfl))<|sc rfl (XL rfl kQ104 (tp rfl) (tp rfl))<|sp 3 (r:=by exact sg rfl rfl (λ hg=>oK (jg (gh hg p45)))<|sc rfl (zZ rfl (tp rfl) (zb rfl))<|segA))) [2] (λ _ _ st47=>wp_ret (zm (zd ?_)))
  exact st47.ret rfl rfl h46
 refine st40.sqA [1,87] [(3,0)] (λ _ _ st48=>?_)
 refine st48.cs rfl h42 (λ _ h49=>?_) (λ _ h50=>wp_skip (ze (za ?_)))
 ·
  refine st48.sq2 (sp 1 (r:=by exact sc rfl (yL rfl qP (tp rfl))<|sc rfl (XL rfl kQ104 (tp rfl) (tp rfl))<|segA)) [2] (λ _ _ st51=>wp_ret (zm (zd ?_)))
  exact st51.ret rfl rfl h49
 refine st48.sq1 [2] (λ _ _ st52=>wp_ret ?_)
 exact st52.ret rfl rfl h50
def wh(x0:List Stmt)(s4:Int):Option (Int⊕(Unit⊕Bool)):=
if(cmpI .lss s4 (x0.length:Int))=true then((atI x0 s4).bind λ v9=>
(Zq v9).bind λ v14=>
if(!v14)=true then(some (.inr (.inr false)))
else((i64 (s4+(1:Int))).bind λ v22=>
some (.inl v22)))
else(some (.inr (.inl ())))
def qc(x0:List Stmt):Option Bool:=
Option.bind (α:=Unit⊕Bool) (zS (λ s4=>wh x0 s4) (0:Int)) (Sum.elim (λ _b2=>
some (cmpI .leq (x0.length:Int) (8:Int))) some)
theorem zac{x0:List Stmt}{r:Bool}(h:qc x0=some r):Fn prog 96 [dt x0] (dt r):=by
 unfold qc at h
 refine fnx (fn:=f96) 1 func96 rfl (oD rfl) rfl (λ M w0 _ st0=>?_)
 refine st0.sq1 [0] (λ _ _ st1=>?_)
 obtain⟨o2,p2,k2⟩:=bs h
 refine zk (λ a w=>∃ b2,o2=.inl b2/\(∃ M1 q2_0,Sx (Frm.of w0) 18 M M1 [oneB q2_0] [(0,dt x0)] [] a w)) ?_ ?_
 ·
  refine st1.sq1 [0,5,6,7] (λ _ _ st3=>wp_block ?_)
  refine zK p2 (λ s4 a w=>∃ M1 q4_0,Sx (Frm.of w0) 18 M M1 [oneB q4_0] [(0,dt x0),(5,dt x0),(6,dt (x0.length:Int)),(7,dt s4)] [] a w) fx ?_
  rintro s4 x4 a4 w4 ⟨M4,q4_0,st4⟩ hs4 hx4
  have h5:wh x0 s4=some x4:=hs4
  unfold wh at h5
  refine st4.sq1 [0,5,6,7,8] (λ _ _ st6=>wp_seq ?_)
  refine st6.cs rfl h5 (λ _ h7=>wp_skip (za (wp_seq (wp_block (wp_seq (wp_region_list ?_)))))) (λ _ h8=>wp_exit (zi (zi (zC ?_))))
  ·
   obtain⟨v9,p9,h10⟩:=bs h7
   refine st6.segA 2 [0,5,6,7,10] [] (λ _ _ st11=>?_)
   refine st11.alloc 0 rfl rfl kZ104 zrStmt (by simp) [0,5,6,7,10] rfl [] rfl rfl (λ b12 _ _ _ st12=>?_)
   refine st12.store (sb:=4) 0 FldS.id rfl rfl rfl qP rfl rfl (tp rfl) rfl [0,5,6,7] rfl [] rfl rfl (λ _ _ st13=>wpList_nil (za ?_))
   obtain⟨v14,p14,h15⟩:=bs h10
   refine st13.sq2 (sc rfl (yL rfl qP (tp rfl))<|sc rfl (oK (impl_stmtOk_w p14))<|segA) [0,5,6,7,13] (λ _ _ st16=>?_)
   refine st16.cs rfl h15 (λ _ h17=>?_) (λ _ h18=>wp_skip (ze (za ?_)))
   ·
    refine st16.sq1 [2] (λ _ _ st19=>wp_ret (zm (zd (zd (zm (zd ?_))))))
    have h20:=lo h17 hx4
    have h21:=jo h20 k2
    exact st19.ret rfl rfl h21
   obtain⟨v22,p22,h23⟩:=bs h18
   refine st16.rg1 [0,5,6,7] (λ _ _ st24=>za ?_)
   exact fl h23
  refine za ?_
  have h25:=lo h8 hx4
  exact fl h25
 rintro a2 w2 ⟨b2,rfl,⟨M2,q2_0,st2⟩⟩
 have h26:=jn k2
 refine st2.sq1 [2] (λ _ _ st27=>wp_ret ?_)
 exact st27.ret rfl rfl h26
def Zr(x0:File):Option Bool:=
(yj x0.root (0:Int) (2:Int)).bind λ v2=>
(gO ((!v2) == false) (xh x0.pkg)).bind λ v3=>
(gO (((!v2)||(!v3)) == false) (yj x0.stamp (0:Int) (99:Int))).bind λ v4=>
(gO ((((!v2)||(!v3))||(!v4)) == false) (qc x0.body)).bind λ v5=>
if((((!v2)||(!v3))||(!v4))||(!v5))=true then(some false)
else(if x0.init=true then(some (decide (x0.pkg≠(⟨[]⟩:Str))&&decide (x0.name=(⟨[]⟩:Str))))
else((yT x0.name).bind λ v18=>
(gO (v18 == true) (wG x0.pkg x0.name)).bind λ v19=>
some (v18&&decide (v19≠(⟨[]⟩:Str)))))
theorem impl_fileOk_w{x0:File}{r:Bool}(h:Zr x0=some r):Fn prog 54 [dt x0] (dt r):=by
 unfold Zr at h
 refine fnx (fn:=f54) 0 func54 rfl (oD rfl) rfl (λ M _ _ st0=>?_)
 refine st0.sq1 [1] (λ _ _ st1=>wp_seq ?_)
 obtain⟨v2,p2,v3,p3,v4,p4,v5,p5,h9⟩:=bsD h
 refine st1.sq2 (sp 2 (r:=by exact sc rfl (oK (wC p2))<|sp 4 (r:=by exact sg rfl rfl (λ hg=>oK (qb (gh hg p3)))<|sp 1 (r:=by exact sc rfl (yW rfl (tp rfl) (zb rfl))<|sp 3 (r:=by exact sg rfl rfl (λ hg=>oK (wC (gh hg p4)))<|sp 1 (r:=by exact sc rfl (yW rfl (tp rfl) (zb rfl))<|sp 3 (r:=by exact sg rfl rfl (λ hg=>oK (zac (gh hg p5)))<|sp 1 (r:=by exact sc rfl (yW rfl (tp rfl) (zb rfl))<|.nil)))))))) [1,24] (λ _ _ st10=>?_)
 refine st10.cs rfl h9 (λ _ h11=>?_) (λ _ h12=>wp_skip (za (wp_seq ?_)))
 ·
  refine st10.sq1 [2] (λ _ _ st13=>wp_ret (zd ?_))
  exact st13.ret rfl rfl h11
 refine st10.sq1 [1,26] (λ _ _ st14=>?_)
 refine st14.cs rfl h12 (λ _ h15=>?_) (λ _ h16=>wp_skip (za ?_))
 ·
  refine st14.sq2 (sp 7 (r:=by exact sc rfl (zZ rfl (tp rfl) (zb rfl))<|segA)) [2] (λ _ _ st17=>wp_ret (zd ?_))
  exact st17.ret rfl rfl h15
 obtain⟨v18,p18,v19,p19,h21⟩:=bsB h16
 refine st14.sq2 (sp 2 (r:=by exact sc rfl (oK (jg p18))<|sp 5 (r:=by exact sg rfl rfl (λ hg=>oK (YW (gh hg p19)))<|sp 1 (r:=by exact sc rfl (zZ rfl (tp rfl) (zb rfl))<|segA)))) [2] (λ _ _ st22=>wp_ret ?_)
 exact st22.ret rfl rfl h21
def wi(v10:File)(v25:List File)(s28:Int):Option (Int⊕(Unit⊕(Int⊕(Unit⊕Bool)))):=
if(cmpI .lss s28 (v25.length:Int))=true then((atI v25 s28).bind λ v33=>
(j9 v10 v33).bind λ v38=>
if v38=true then(some (.inr (.inr (.inr (.inr false)))))
else((i64 (s28+(1:Int))).bind λ v48=>
some (.inl v48)))
else(some (.inr (.inl ())))
def wj(x0:Tree)(s4:Int):Option (Int⊕(Unit⊕Bool)):=
if(cmpI .lss s4 (x0.files.length:Int))=true then(Option.bind (α:=Unit⊕(Int⊕(Unit⊕Bool))) ((atI x0.files s4).bind λ v10=>
(Zr v10).bind λ v16=>
if(!v16)=true then(some (.inr (.inr (.inr false))))
else((XK x0.files s4).bind λ v25=>
zS (λ s28=>wi v10 v25 s28) (0:Int))) (Sum.elim (λ _b9=>
(i64 (s4+(1:Int))).bind λ v53=>
some (.inl v53)) some))
else(some (.inr (.inl ())))
def xM(x0:Tree):Option Bool:=
Option.bind (α:=Unit⊕Bool) (zS (λ s4=>wj x0 s4) (0:Int)) (Sum.elim (λ _b2=>
some (cmpI .leq (x0.files.length:Int) (12:Int))) some)
theorem Zd{x0:Tree}{r:Bool}(h:xM x0=some r):Fn prog 15 [dt x0] (dt r):=by
 unfold xM at h
 refine fnx (fn:=f15) 2 func15 rfl (oD rfl) rfl (λ M w0 _ st0=>?_)
 refine st0.sq1 [1] (λ _ _ st1=>?_)
 obtain⟨o2,p2,k2⟩:=bs h
 refine zk (λ a w=>∃ b2,o2=.inl b2/\(∃ M1 q2_0 q2_1,Sx (Frm.of w0) 36 M M1 [oneB q2_0,oneB q2_1] [(1,dptr x0)] [] a w)) ?_ ?_
 ·
  refine st1.sq1 [1,8,9,10] (λ _ _ st3=>wp_block ?_)
  refine zK p2 (λ s4 a w=>∃ M1 q4_0 q4_1,Sx (Frm.of w0) 36 M M1 [oneB q4_0,oneB q4_1] [(1,dptr x0),(8,dt x0.files),(9,dt (x0.files.length:Int)),(10,dt s4)] [] a w) fx ?_
  rintro s4 x4 a4 w4 ⟨M4,q4_0,q4_1,st4⟩ hs4 hx4
  have h5:wj x0 s4=some x4:=hs4
  unfold wj at h5
  refine st4.sq1 [1,8,9,10,11] (λ _ _ st6=>wp_seq ?_)
  refine st6.cs rfl h5 (λ _ h7=>wp_skip (za ?_)) (λ _ h8=>wp_exit (zi (zi (zC ?_))))
  ·
   obtain⟨o9,p9,k9⟩:=bs h7
   refine zk (λ a w=>∃ b9,o9=.inl b9/\(∃ M1 q9_0 q9_1,Sx (Frm.of w0) 36 M M1 [oneB q9_0,oneB q9_1] [(1,dptr x0),(8,dt x0.files),(9,dt (x0.files.length:Int)),(10,dt s4)] [] a w)) ?_ ?_
   ·
    refine wp_block (wp_seq (wp_region_list ?_))
    obtain⟨v10,p10,h11⟩:=bs p9
    refine st6.segA 3 [1,8,9,10,12,14] [] (λ _ _ st12=>?_)
    refine st12.alloc 0 rfl rfl kZ70 zrFile (by simp) [1,8,9,10,12,14] rfl [] rfl rfl (λ b13 _ _ _ st13=>?_)
    refine st13.segA 1 [1,3,8,9,10,14] [(4,0)] (λ _ _ st14=>?_)
    refine st14.store (sb:=4) 0 FldS.id rfl rfl rfl kT70 rfl rfl (tp rfl) rfl [1,3,8,9,10] rfl [] rfl rfl (λ _ _ st15=>wpList_nil (za (wp_seq ?_)))
    obtain⟨v16,p16,h17⟩:=bs h11
    refine st15.sqB (sc rfl (yL rfl kT70 (tp rfl))<|sc rfl (oK (impl_fileOk_w p16))<|segA) [1,3,8,9,10,17] [(4,0)] (λ _ _ st18=>?_)
    refine st18.cs rfl h17 (λ _ h19=>?_) (λ _ h20=>wp_skip (za ?_))
    ·
     refine st18.sq1 [2] (λ _ _ st21=>wp_ret (zd (zm (zd (zd (zm (zd ?_)))))))
     have h22:=jo h19 k9
     have h23:=lo h22 hx4
     have h24:=jo h23 k2
     exact st21.ret rfl rfl h24
    obtain⟨v25,p25,h26⟩:=bs h20
    refine st18.sqB (sp 3 (r:=by exact sc rfl (xSliH rfl kS23 (tp rfl) (tp rfl) p25)<|segA)) [1,8,9,10,21,22,23] [(4,0)] (λ _ _ st27=>wp_block ?_)
    refine zK h26 (λ s28 a w=>∃ M1 q28_0 q28_1,Sx (Frm.of w0) 36 M M1 [oneB q28_0,oneB q28_1] [(1,dptr x0),(8,dt x0.files),(9,dt (x0.files.length:Int)),(10,dt s4),(21,dt v25),(22,dt (v25.length:Int)),(23,dt s28)] [(4,0,dbox q28_0 0 v10)] a w) fx ?_
    rintro s28 x28 a28 w28 ⟨M28,q28_0,q28_1,st28⟩ hs28 hx28
    have h29:wi v10 v25 s28=some x28:=hs28
    unfold wi at h29
    refine st28.sqA [1,8,9,10,21,22,23,24] [(4,0)] (λ _ _ st30=>wp_seq ?_)
    refine st30.cs rfl h29 (λ _ h31=>wp_skip (za (wp_seq (wp_block (wp_seq (wp_region_list ?_)))))) (λ _ h32=>wp_exit (zi (zi (zC ?_))))
    ·
     obtain⟨v33,p33,h34⟩:=bs h31
     refine st30.segA 2 [1,8,9,10,21,22,23,26] [(4,0)] (λ _ _ st35=>?_)
     refine st35.alloc 1 rfl rfl kZ70 zrFile (by simp) [1,8,9,10,21,22,23,26] rfl [4] rfl rfl (λ b36 _ _ _ st36=>?_)
     refine st36.store (sb:=6) 1 FldS.id rfl rfl rfl kT70 rfl rfl (tp rfl) rfl [1,8,9,10,21,22,23] rfl [4] rfl rfl (λ _ _ st37=>wpList_nil (za ?_))
     obtain⟨v38,p38,h39⟩:=bs h34
     refine st37.sqB (sc rfl (yL rfl kT70 (tp rfl))<|sc rfl (yL rfl kT70 (tp rfl))<|sc rfl (oK (XP p38))<|.nil) [1,8,9,10,21,22,23,29] [(4,0)] (λ _ _ st40=>?_)
     refine st40.cs rfl h39 (λ _ h41=>?_) (λ _ h42=>wp_skip (ze (za ?_)))
     ·
      refine st40.sq1 [2] (λ _ _ st43=>wp_ret (zm (zd (zd (zm (zm (zd (zd (zm (zd ?_))))))))))
      have h44:=lo h41 hx28
      have h45:=jo h44 k9
      have h46:=lo h45 hx4
      have h47:=jo h46 k2
      exact st43.ret rfl rfl h47
     obtain⟨v48,p48,h49⟩:=bs h42
     refine st40.rgA [1,8,9,10,21,22,23] [(4,0)] (λ _ _ st50=>za ?_)
     exact fl h49
    refine ze (za ?_)
    have h51:=lo h32 hx28
    exact fl h51
   rintro a9 w9 ⟨b9,rfl,⟨M9,q9_0,q9_1,st9⟩⟩
   have h52:=jn k9
   obtain⟨v53,p53,h54⟩:=bs h52
   refine st9.rg1 [1,8,9,10] (λ _ _ st55=>za ?_)
   exact fl h54
  refine za ?_
  have h56:=lo h8 hx4
  exact fl h56
 rintro a2 w2 ⟨b2,rfl,⟨M2,q2_0,q2_1,st2⟩⟩
 have h57:=jn k2
 refine st2.sq1 [2] (λ _ _ st58=>wp_ret ?_)
 exact st58.ret rfl rfl h57
def jh(x0:Tree)(x1:Int)(x2:Str)(s4:Int):Option (Int⊕(Unit⊕Bool)):=
if(cmpI .lss s4 (x0.files.length:Int))=true then((atI x0.files s4).bind λ v9=>
(gO (cmpI .eql v9.root x1 == true) (qU v9.pkg x2)).bind λ v14=>
if(cmpI .eql v9.root x1&&v14)=true then(some (.inr (.inr true)))
else((i64 (s4+(1:Int))).bind λ v22=>
some (.inl v22)))
else(some (.inr (.inl ())))
def Zs(x0:Tree)(x1:Int)(x2:Str):Option Bool:=
Option.bind (α:=Unit⊕Bool) (zS (λ s4=>jh x0 x1 x2 s4) (0:Int)) (Sum.elim (λ _b2=>
some (decide (x2=(⟨[]⟩:Str)))) some)
theorem impl_hasDir_w{x0:Tree}{x1:Int}{x2:Str}{r:Bool}(h:Zs x0 x1 x2=some r):Fn prog 171 [dt x0,dt x1,dt x2] (dt r):=by
 unfold Zs at h
 refine fnx (fn:=f171) 1 func171 rfl (oD rfl) rfl (λ M w0 _ st0=>?_)
 refine st0.sq1 [1,2,3] (λ _ _ st1=>?_)
 obtain⟨o2,p2,k2⟩:=bs h
 refine zk (λ a w=>∃ b2,o2=.inl b2/\(∃ M1 q2_0,Sx (Frm.of w0) 29 M M1 [oneB q2_0] [(2,dt x2)] [] a w)) ?_ ?_
 ·
  refine st1.sq1 [1,2,10,11,12] (λ _ _ st3=>wp_block ?_)
  refine zK p2 (λ s4 a w=>∃ M1 q4_0,Sx (Frm.of w0) 29 M M1 [oneB q4_0] [(1,dt x1),(2,dt x2),(10,dt x0.files),(11,dt (x0.files.length:Int)),(12,dt s4)] [] a w) fx ?_
  rintro s4 x4 a4 w4 ⟨M4,q4_0,st4⟩ hs4 hx4
  have h5:jh x0 x1 x2 s4=some x4:=hs4
  unfold jh at h5
  refine st4.sq1 [1,2,10,11,12,13] (λ _ _ st6=>wp_seq ?_)
  refine st6.cs rfl h5 (λ _ h7=>wp_skip (za (wp_seq (wp_block (wp_seq (wp_region_list ?_)))))) (λ _ h8=>wp_exit (zi (zi (zC ?_))))
  ·
   obtain⟨v9,p9,h10⟩:=bs h7
   refine st6.segA 2 [1,2,10,11,12,15] [] (λ _ _ st11=>?_)
   refine st11.alloc 0 rfl rfl kZ70 zrFile (by simp) [1,2,10,11,12,15] rfl [] rfl rfl (λ b12 _ _ _ st12=>?_)
   refine st12.store (sb:=8) 0 FldS.id rfl rfl rfl kT70 rfl rfl (tp rfl) rfl [1,2,10,11,12] rfl [] rfl rfl (λ _ _ st13=>wpList_nil (za ?_))
   obtain⟨v14,p14,h15⟩:=bs h10
   refine st13.sq2 (sc rfl (wF File.fld0 rfl kF70_0 (tp rfl))<|sc rfl (yL rfl kT3 (tp rfl))<|sp 3 (r:=by exact sg rfl rfl (λ hg=>wF File.fld1 rfl kF70_1 (tp rfl))<|sg rfl rfl (λ hg=>yL rfl kT9 (zh hg rfl))<|sp 1 (r:=by exact sg rfl rfl (λ hg=>oK (za5 (gh hg p14)))<|sc rfl (zZ rfl (tp rfl) (zb rfl))<|.nil))) [1,2,10,11,12,25] (λ _ _ st16=>?_)
   refine st16.cs rfl h15 (λ _ h17=>?_) (λ _ h18=>wp_skip (ze (za ?_)))
   ·
    refine st16.sq1 [6] (λ _ _ st19=>wp_ret (zm (zd (zd (zm (zd ?_))))))
    have h20:=lo h17 hx4
    have h21:=jo h20 k2
    exact st19.ret rfl rfl h21
   obtain⟨v22,p22,h23⟩:=bs h18
   refine st16.rg1 [1,2,10,11,12] (λ _ _ st24=>za ?_)
   exact fl h23
  refine za ?_
  have h25:=lo h8 hx4
  exact fl h25
 rintro a2 w2 ⟨b2,rfl,⟨M2,q2_0,st2⟩⟩
 have h26:=jn k2
 refine st2.sq1 [6] (λ _ _ st27=>wp_ret ?_)
 exact st27.ret rfl rfl h26
def qd:Option Spec:=
some (⟨(0:Int),(-1:Int),([]:List Int)⟩:Spec)
theorem YX{r:Spec}(h:qd=some r):Fn prog 108 [] (dt r):=by
 unfold qd at h
 refine fnx (fn:=f108) 1 func108 rfl (oD rfl) rfl (λ M _ _ st0=>wp_seq (wp_region_list ?_))
 refine st0.alloc 0 rfl rfl kZ94 WO (by simp) [] rfl [] rfl rfl (λ b1 _ _ _ st1=>wpList_nil (za (wp_seq (wp_region_list ?_))))
 refine st1.segB 2 (sc rfl (yM (opds:=[]) (α:=Int) rfl kS26 kY26 rfl rfl (by decide) .nil)<|sc rfl (zX (parts:=[(0,.const (.int .i64 0)),(1,.const (.int .i64 (-1))),(2,.tmp 1)]) (ns:=[1,1,1]) (zs:=zpSpec) rfl rfl kB94 kC94 (λ w a hl=>by
 intro p hp;simp only[List.mem_cons,List.not_mem_nil,or_false] at hp
 rcases hp with rfl | rfl | rfl
 ·
  exact⟨by decide,rfl⟩
 ·
  exact⟨by decide,rfl⟩
 ·
  exact⟨by decide,Rep.len (α:=List Int) (OpdR.cells (tp rfl) hl)⟩) (λ w a hl=>Spec.parts (x:=(⟨(0:Int),(-1:Int),([]:List Int)⟩:Spec)) (OpdR.cells cI hl) (OpdR.cells cI hl) (OpdR.cells (tp rfl) hl)))<|.nil) [2] [(0,0)] (λ _ _ st2=>?_)
 refine st2.store (sb:=0) 0 FldS.id rfl rfl rfl kT94 rfl rfl (tp rfl) rfl [] rfl [] rfl rfl (λ _ _ st3=>wpList_nil (za (wp_ret ?_)))
 exact st3.ret_box rfl kT94 rfl h
def wk(x0:List Int)(s4:Int):Option (Int⊕(Unit⊕Bool)):=
if(cmpI .lss s4 (x0.length:Int))=true then((atI x0 s4).bind λ v9=>
(yj v9 (0:Int) (2:Int)).bind λ v12=>
(gO ((!v12) == false) (XK x0 s4)).bind λ v13=>
(gO ((!v12) == false) (xn v13 v9)).bind λ v14=>
if((!v12)||v14)=true then(some (.inr (.inr false)))
else((i64 (s4+(1:Int))).bind λ v24=>
some (.inl v24)))
else(some (.inr (.inl ())))
def xN(x0:List Int):Option Bool:=
Option.bind (α:=Unit⊕Bool) (zS (λ s4=>wk x0 s4) (0:Int)) (Sum.elim (λ _b2=>
some true) some)
theorem Ze{x0:List Int}{r:Bool}(h:xN x0=some r):Fn prog 16 [dt x0] (dt r):=by
 unfold xN at h
 refine fnx (fn:=f16) 0 func16 rfl (oD rfl) rfl (λ M w0 _ st0=>?_)
 refine st0.sq1 [0] (λ _ _ st1=>?_)
 obtain⟨o2,p2,k2⟩:=bs h
 refine zk (λ a w=>∃ b2,o2=.inl b2/\Sx (Frm.of w0) 23 M M [] [] [] a w) ?_ ?_
 ·
  refine st1.sq1 [0,5,6,7] (λ _ _ st3=>wp_block ?_)
  refine zK p2 (λ s4 a w=>Sx (Frm.of w0) 23 M M [] [(0,dt x0),(5,dt x0),(6,dt (x0.length:Int)),(7,dt s4)] [] a w) (st3.sel0 [0,5,6,7] rfl) ?_
  rintro s4 x4 a4 w4 st4 hs4 hx4
  have h5:wk x0 s4=some x4:=hs4
  unfold wk at h5
  refine st4.sq1 [0,5,6,7,8] (λ _ _ st6=>wp_seq ?_)
  refine st6.cs rfl h5 (λ _ h7=>wp_skip (za (wp_seq (wp_block ?_)))) (λ _ h8=>wp_exit (zi (zi (zC ?_))))
  ·
   obtain⟨v9,p9,h10⟩:=bs h7
   refine st6.sq1 [0,3,4,5,6,7] (λ _ _ st11=>?_)
   obtain⟨v12,p12,v13,p13,v14,p14,h17⟩:=bsC h10
   refine st11.sq2 (sp 1 (r:=by exact sc rfl (oK (wC p12))<|sp 4 (r:=by exact sg rfl rfl (λ hg=>xSliH rfl kS26 (zh hg rfl) (zh hg rfl) (gh hg p13))<|sp 1 (r:=by exact sg rfl rfl (λ hg=>oK (Xe (gh hg p14)))<|sc rfl (yW rfl (tp rfl) (zb rfl))<|.nil)))) [0,5,6,7,21] (λ _ _ st18=>?_)
   refine st18.cs rfl h17 (λ _ h19=>?_) (λ _ h20=>wp_skip (ze (za ?_)))
   ·
    refine st18.sq1 [2] (λ _ _ st21=>wp_ret (zm (zd (zd (zm (zd ?_))))))
    have h22:=lo h19 hx4
    have h23:=jo h22 k2
    exact st21.ret rfl rfl h23
   obtain⟨v24,p24,h25⟩:=bs h20
   refine st18.rg1 [0,5,6,7] (λ _ _ st26=>za ?_)
   exact⟨_,(Option.some.inj h25).symm,st26.sel0 [0,5,6,7] rfl⟩
  refine za ?_
  have h27:=lo h8 hx4
  exact⟨_,(Option.some.inj h27).symm,st6.sel0 [] rfl⟩
 rintro a2 w2 ⟨b2,rfl,st2⟩
 have h28:=jn k2
 refine st2.sq1 [2] (λ _ _ st29=>wp_ret ?_)
 exact st29.ret rfl rfl h28
def ji(x0:Tree)(x1:File)(s4:Int):Option (Int⊕(Unit⊕Int)):=
if(cmpI .lss s4 (x0.files.length:Int))=true then((atI x0.files s4).bind λ v9=>
(j9 x1 v9).bind λ v15=>
if v15=true then(some (.inr (.inr s4)))
else((i64 (s4+(1:Int))).bind λ v23=>
some (.inl v23)))
else(some (.inr (.inl ())))
def qI(x0:Tree)(x1:File):Option Int:=
Option.bind (α:=Unit⊕Int) (zS (λ s4=>ji x0 x1 s4) (0:Int)) (Sum.elim (λ _b2=>
some (-1:Int)) some)
theorem JI{x0:Tree}{x1:File}{r:Int}(h:qI x0 x1=some r):Fn prog 170 [dt x0,dt x1] (dt r):=by
 unfold qI at h
 refine fnx (fn:=f170) 1 func170 rfl (oD rfl) rfl (λ M w0 _ st0=>?_)
 refine st0.sq1 [2,3] (λ _ _ st1=>?_)
 obtain⟨o2,p2,k2⟩:=bs h
 refine zk (λ a w=>∃ b2,o2=.inl b2/\(∃ M1 q2_0,Sx (Frm.of w0) 20 M M1 [oneB q2_0] [] [] a w)) ?_ ?_
 ·
  refine st1.sq1 [3,8,9,10] (λ _ _ st3=>wp_block ?_)
  refine zK p2 (λ s4 a w=>∃ M1 q4_0,Sx (Frm.of w0) 20 M M1 [oneB q4_0] [(3,dptr x1),(8,dt x0.files),(9,dt (x0.files.length:Int)),(10,dt s4)] [] a w) fx ?_
  rintro s4 x4 a4 w4 ⟨M4,q4_0,st4⟩ hs4 hx4
  have h5:ji x0 x1 s4=some x4:=hs4
  unfold ji at h5
  refine st4.sq1 [3,8,9,10,11] (λ _ _ st6=>wp_seq ?_)
  refine st6.cs rfl h5 (λ _ h7=>wp_skip (za (wp_seq (wp_block (wp_seq (wp_region_list ?_)))))) (λ _ h8=>wp_exit (zi (zi (zC ?_))))
  ·
   obtain⟨v9,p9,h10⟩:=bs h7
   refine st6.segA 3 [3,8,9,10,12,14] [] (λ _ _ st11=>?_)
   refine st11.alloc 0 rfl rfl kZ70 zrFile (by simp) [3,8,9,10,12,14] rfl [] rfl rfl (λ b12 _ _ _ st12=>?_)
   refine st12.segA 1 [3,5,8,9,10,14] [(6,0)] (λ _ _ st13=>?_)
   refine st13.store (sb:=6) 0 FldS.id rfl rfl rfl kT70 rfl rfl (tp rfl) rfl [3,5,8,9,10] rfl [] rfl rfl (λ _ _ st14=>wpList_nil (za ?_))
   obtain⟨v15,p15,h16⟩:=bs h10
   refine st14.sq2 (sp 1 (r:=by exact sc rfl (yL rfl kT70 (tp rfl))<|sc rfl (oK (XP p15))<|.nil)) [3,5,8,9,10,17] (λ _ _ st17=>?_)
   refine st17.cs rfl h16 (λ _ h18=>?_) (λ _ h19=>wp_skip (ze (za ?_)))
   ·
    refine st17.sq1 [4] (λ _ _ st20=>wp_ret (zm (zd (zd (zm (zd ?_))))))
    have h21:=lo h18 hx4
    have h22:=jo h21 k2
    exact st20.ret rfl rfl h22
   obtain⟨v23,p23,h24⟩:=bs h19
   refine st17.rg1 [3,8,9,10] (λ _ _ st25=>za ?_)
   exact fl h24
  refine za ?_
  have h26:=lo h8 hx4
  exact fl h26
 rintro a2 w2 ⟨b2,rfl,⟨M2,q2_0,st2⟩⟩
 have h27:=jn k2
 refine st2.sq1 [4] (λ _ _ st28=>wp_ret ?_)
 exact st28.ret rfl rfl h27
def jr(x0:Tree)(x1:List Int)(x2:Str)(x3:Str)(v3:Str)(s16:Spec×(List Int)×Int):Option ((Spec×(List Int)×Int)⊕((Spec×(List Int))⊕Spec)):=
if(cmpI .lss s16.2.2 (x1.length:Int))=true then(Option.bind (α:=(Spec×(List Int))⊕((Spec×(List Int)×Int)⊕((Spec×(List Int))⊕Spec))) ((atI x1 s16.2.2).bind λ v22=>
Option.bind (α:=Bool×Bool) (some (true,true)) λ o26=>
(qI x0 (⟨v22,v3,⟨[]⟩,true,0,[]⟩:File)).bind λ v31=>
if(o26.1&&cmpI .geq v31 (0:Int))=true then(some (.inr (.inr (.inr (⟨(2:Int),v31,([v22]:List Int)⟩:Spec)))))
else((qI x0 (⟨v22,x2,x3,false,0,[]⟩:File)).bind λ v42=>
if(o26.2&&cmpI .geq v42 (0:Int))=true then(some (.inr (.inr (.inr (⟨(1:Int),v42,([]:List Int)⟩:Spec)))))
else((gO (o26.1 == true) (Zs x0 v22 v3)).bind λ v53=>
if(o26.1&&v53)=true then((appO 8 s16.2.1 ([v22]:List Int)).bind λ v60=>
some (.inl (s16.1,v60)))
else(some (.inl (s16.1,s16.2.1)))))) (Sum.elim (λ b21=>
(i64 (s16.2.2+(1:Int))).bind λ v64=>
some (.inl (b21.1,b21.2,v64))) some))
else(some (.inr (.inl (s16.1,s16.2.1))))
def ZL(x0:Tree)(x1:List Int)(x2:Str)(x3:Str):Option Spec:=
(wG x2 x3).bind λ v3=>
if(decide (v3=(⟨[]⟩:Str)))=true then((qd).bind λ v9=>
some v9)
else(Option.bind (α:=(Spec×(List Int))⊕Spec) (zS (λ s16=>jr x0 x1 x2 x3 v3 s16) (zSpec,[],(0:Int))) (Sum.elim (λ b14=>
if(cmpI .gtr (b14.2.length:Int) (0:Int))=true then(some (⟨(3:Int),(-1:Int),b14.2⟩:Spec))
else((qd).bind λ v75=>
some v75)) some))
theorem zaB{x0:Tree}{x1:List Int}{x2:Str}{x3:Str}{r:Spec}(h:ZL x0 x1 x2 x3=some r):Fn prog 144 [dt x0,dt x1,dt x2,dt x3,dnilf] (dt r):=by
 unfold ZL at h
 refine fnx (fn:=f144) 2 func144 rfl (oD rfl) rfl (λ M w0 _ st0=>wp_seq (wp_region_list ?_))
 refine st0.segA 1 [1,2,3,4,5] [] (λ _ _ st1=>?_)
 refine st1.alloc 1 rfl rfl kZ94 WO (by simp) [1,2,3,4,5] rfl [] rfl rfl (λ b2 _ _ _ st2=>wpList_nil (za ?_))
 obtain⟨v3,p3,h4⟩:=bsW h YW
 refine st2.sqA [1,2,3,4,5,11] [(10,1)] (λ _ _ st5=>wp_seq ?_)
 refine st5.sqA [1,2,3,4,5,11,24] [(10,1)] (λ _ _ st6=>?_)
 refine st6.cs rfl h4 (λ _ h7=>wp_seq (wp_region_list ?_)) (λ _ h8=>wp_skip (za ?_))
 ·
  obtain⟨v9,p9,h10⟩:=bsW h7 YX
  refine st6.segA 1 [25] [(10,1)] (λ _ _ st11=>?_)
  refine st11.store (sb:=10) 1 FldS.id rfl rfl rfl kT94 rfl rfl (tp rfl) rfl [] rfl [] rfl rfl (λ _ _ st12=>wpList_nil (za ?_))
  refine wp_ret (zd ?_)
  exact st12.ret_box rfl kT94 rfl h10
 refine st6.sqB (sc rfl (wB (α:=Int) (e:=3) rfl kS26)<|segA) [1,2,3,4,5,11] [(10,1),(12,0)] (λ _ _ st13=>?_)
 obtain⟨o14,p14,k14⟩:=bs h8
 refine zk (λ a w=>∃ b14,o14=.inl b14/\(∃ M1 q14_0 q14_1,Sx (Frm.of w0) 92 M M1 [oneB q14_0,oneB q14_1] [] [(10,1,dbox q14_1 0 b14.1),(12,0,dtip q14_0 3 b14.2)] a w)) ?_ ?_
 ·
  refine st13.sqA [2,3,4,5,11,27,28,29] [(10,1),(12,0)] (λ _ _ st15=>wp_block ?_)
  refine zK p14 (λ s16 a w=>∃ M1 q16_0 q16_1,Sx (Frm.of w0) 92 M M1 [oneB q16_0,oneB q16_1] [(2,dt x2),(3,dt x3),(4,dnilf),(5,dptr x0),(11,dt v3),(27,dt x1),(28,dt (x1.length:Int)),(29,dt s16.2.2)] [(10,1,dbox q16_1 0 s16.1),(12,0,dtip q16_0 3 s16.2.1)] a w) fx ?_
  rintro s16 x16 a16 w16 ⟨M16,q16_0,q16_1,st16⟩ hs16 hx16
  have h17:jr x0 x1 x2 x3 v3 s16=some x16:=hs16
  unfold jr at h17
  refine st16.sqA [2,3,4,5,11,27,28,29,30] [(10,1),(12,0)] (λ _ _ st18=>wp_seq ?_)
  refine st18.cs rfl h17 (λ _ h19=>wp_skip (za ?_)) (λ _ h20=>?_)
  ·
   obtain⟨o21,p21,k21⟩:=bs h19
   refine zk (λ a w=>∃ b21,o21=.inl b21/\(∃ M1 q21_0 q21_1,Sx (Frm.of w0) 92 M M1 [oneB q21_0,oneB q21_1] [(2,dt x2),(3,dt x3),(4,dnilf),(5,dptr x0),(11,dt v3),(27,dt x1),(28,dt (x1.length:Int)),(29,dt s16.2.2)] [(10,1,dbox q21_1 0 b21.1),(12,0,dtip q21_0 3 b21.2)] a w)) ?_ ?_
   ·
    refine wp_block ?_
    obtain⟨v22,p22,h23⟩:=bs p21
    refine st18.sqA [2,3,4,5,11,14,27,28,29] [(10,1),(12,0)] (λ _ _ st24=>?_)
    refine st24.sqA [2,3,4,5,11,14,15,16,27,28,29] [(10,1),(12,0)] (λ _ _ st25=>?_)
    obtain⟨o26,p26,k26⟩:=bs h23
    refine zk (λ a w=>∃ M1 q26_0 q26_1,Sx (Frm.of w0) 92 M M1 [oneB q26_0,oneB q26_1] [(2,dt x2),(3,dt x3),(4,dnilf),(5,dptr x0),(11,dt v3),(14,dt v22),(15,dt o26.1),(16,dt o26.2),(27,dt x1),(28,dt (x1.length:Int)),(29,dt s16.2.2)] [(10,1,dbox q26_1 0 s16.1),(12,0,dtip q26_0 3 s16.2.1)] a w) ?_ ?_
    ·
     refine st25.sqB (sp 1 (r:=by exact sc rfl (xNeNil rfl kU86 (tp rfl) cNil)<|.nil)) [2,3,4,5,11,14,15,16,27,28,29,34] [(10,1),(12,0)] (λ _ _ st27=>?_)
     refine st27.csF (c:=34) rfl ?_
     refine wp_skip (za ?_)
     obtain rfl:=Option.some.inj p26
     exact fx
    rintro a26 w26 ⟨M26,q26_0,q26_1,st26⟩
    have h30:=k26
    refine wp_seq ?_
    obtain⟨v31,p31,h32⟩:=bs h30
    refine st26.sqB (sp 3 (r:=by exact sc rfl (zX (parts:=[(0,.tmp 47),(1,.tmp 48),(3,.const (.bool true))]) (ns:=[1,1,1,1,1,1]) (zs:=zpFile) rfl rfl kB70 kC70 (λ w a hl=>by
 intro p hp;simp only[List.mem_cons,List.not_mem_nil,or_false] at hp
 rcases hp with rfl | rfl | rfl
 ·
  exact⟨by decide,Rep.len (α:=Int) (OpdR.cells (tp rfl) hl)⟩
 ·
  exact⟨by decide,Rep.len (α:=Str) (OpdR.cells (tp rfl) hl)⟩
 ·
  exact⟨by decide,rfl⟩) (λ w a hl=>File.parts (x:=(⟨v22,v3,⟨[]⟩,true,0,[]⟩:File)) (OpdR.cells (tp rfl) hl) (OpdR.cells (tp rfl) hl) xV (OpdR.cells cB hl) ⟨rfl,trivial⟩ qH))<|sc rfl (oK (JI p31))<|segA)) [2,3,4,5,11,14,15,16,18,27,28,29] [(10,1),(12,0)] (λ _ _ st33=>?_)
    refine st33.sqB (sp 4 (r:=by exact sc rfl (zZ rfl (tp rfl) (zb rfl))<|.nil)) [2,3,4,5,11,14,15,16,18,27,28,29,55] [(10,1),(12,0)] (λ _ _ st34=>?_)
    refine st34.cs rfl h32 (λ _ h35=>wp_seq (wp_region_list ?_)) (λ _ h36=>?_)
    ·
     refine st34.segB 4 (sp 2 (r:=by exact sc rfl (yM (opds:=[.tmp 57]) rfl kS26 kY26 rfl rfl (by decide) (.cons (tp rfl) .nil))<|sc rfl (zX (parts:=[(0,.const (.int .i64 2)),(1,.tmp 56),(2,.tmp 58)]) (ns:=[1,1,1]) (zs:=zpSpec) rfl rfl kB94 kC94 (λ w a hl=>by
 intro p hp;simp only[List.mem_cons,List.not_mem_nil,or_false] at hp
 rcases hp with rfl | rfl | rfl
 ·
  exact⟨by decide,rfl⟩
 ·
  exact⟨by decide,Rep.len (α:=Int) (OpdR.cells (tp rfl) hl)⟩
 ·
  exact⟨by decide,Rep.len (α:=List Int) (OpdR.cells (tp rfl) hl)⟩) (λ w a hl=>Spec.parts (x:=(⟨(2:Int),v31,([v22]:List Int)⟩:Spec)) (OpdR.cells cI hl) (OpdR.cells (tp rfl) hl) (OpdR.cells (tp rfl) hl)))<|.nil)) [59] [(10,1)] (λ _ _ st37=>?_)
     refine st37.store (sb:=10) 1 FldS.id rfl rfl rfl kT94 rfl rfl (tp rfl) rfl [] rfl [] rfl rfl (λ _ _ st38=>wpList_nil (za ?_))
     refine wp_ret (zd (zm (zd (zd (zm (zd ?_))))))
     have h39:=jo h35 k21
     have h40:=lo h39 hx16
     have h41:=jo h40 k14
     exact st38.ret_box rfl kT94 rfl h41
    refine wp_skip (za (wp_seq ?_))
    obtain⟨v42,p42,h43⟩:=bs h36
    refine st34.sqB (sp 4 (r:=by exact sc rfl (zX (parts:=[(0,.tmp 61),(1,.tmp 62),(2,.tmp 63)]) (ns:=[1,1,1,1,1,1]) (zs:=zpFile) rfl rfl kB70 kC70 (λ w a hl=>by
 intro p hp;simp only[List.mem_cons,List.not_mem_nil,or_false] at hp
 rcases hp with rfl | rfl | rfl
 ·
  exact⟨by decide,Rep.len (α:=Int) (OpdR.cells (tp rfl) hl)⟩
 ·
  exact⟨by decide,Rep.len (α:=Str) (OpdR.cells (tp rfl) hl)⟩
 ·
  exact⟨by decide,Rep.len (α:=Str) (OpdR.cells (tp rfl) hl)⟩) (λ w a hl=>File.parts (x:=(⟨v22,x2,x3,false,0,[]⟩:File)) (OpdR.cells (tp rfl) hl) (OpdR.cells (tp rfl) hl) (OpdR.cells (tp rfl) hl) ⟨rfl,trivial⟩ ⟨rfl,trivial⟩ qH))<|sc rfl (oK (JI p42))<|segA)) [2,3,4,5,11,14,15,16,19,27,28,29] [(10,1),(12,0)] (λ _ _ st44=>?_)
    refine st44.sqB (sp 4 (r:=by exact sc rfl (zZ rfl (tp rfl) (zb rfl))<|.nil)) [2,3,4,5,11,14,15,19,27,28,29,70] [(10,1),(12,0)] (λ _ _ st45=>?_)
    refine st45.cs rfl h43 (λ _ h46=>wp_seq (wp_region_list ?_)) (λ _ h47=>?_)
    ·
     refine st45.segB 3 (sp 1 (r:=by exact sc rfl (yM (opds:=[]) (α:=Int) rfl kS26 kY26 rfl rfl (by decide) .nil)<|sc rfl (zX (parts:=[(0,.const (.int .i64 1)),(1,.tmp 71),(2,.tmp 72)]) (ns:=[1,1,1]) (zs:=zpSpec) rfl rfl kB94 kC94 (λ w a hl=>by
 intro p hp;simp only[List.mem_cons,List.not_mem_nil,or_false] at hp
 rcases hp with rfl | rfl | rfl
 ·
  exact⟨by decide,rfl⟩
 ·
  exact⟨by decide,Rep.len (α:=Int) (OpdR.cells (tp rfl) hl)⟩
 ·
  exact⟨by decide,Rep.len (α:=List Int) (OpdR.cells (tp rfl) hl)⟩) (λ w a hl=>Spec.parts (x:=(⟨(1:Int),v42,([]:List Int)⟩:Spec)) (OpdR.cells cI hl) (OpdR.cells (tp rfl) hl) (OpdR.cells (tp rfl) hl)))<|.nil)) [73] [(10,1)] (λ _ _ st48=>?_)
     refine st48.store (sb:=10) 1 FldS.id rfl rfl rfl kT94 rfl rfl (tp rfl) rfl [] rfl [] rfl rfl (λ _ _ st49=>wpList_nil (za ?_))
     refine wp_ret (zd (zm (zd (zd (zm (zd ?_))))))
     have h50:=jo h46 k21
     have h51:=lo h50 hx16
     have h52:=jo h51 k14
     exact st49.ret_box rfl kT94 rfl h52
    refine wp_skip (za ?_)
    obtain⟨v53,p53,h54⟩:=bs h47
    refine st45.sqB (sp 5 (r:=by exact sg rfl rfl (λ hg=>oK (impl_hasDir_w (gh hg p53)))<|sc rfl (zZ rfl (tp rfl) (zb rfl))<|.nil)) [2,3,4,5,11,14,27,28,29,80] [(10,1),(12,0)] (λ _ _ st55=>?_)
    refine st55.cs rfl h54 (λ _ h56=>wp_region_list ?_) (λ _ h57=>wp_skip (ze (za ?_)))
    ·
     refine st55.segB 3 (sp 2 (r:=by exact sc rfl (yM (opds:=[.tmp 82]) rfl kS26 kY26 rfl rfl (by decide) (.cons (tp rfl) .nil))<|.nil)) [2,3,4,5,11,27,28,29,83] [(10,1),(12,0),(81,0)] (λ _ _ st58=>?_)
     obtain⟨v60,p60,h61⟩:=bs h56
     refine st58.app 0 rfl rfl kE26 rfl rfl rfl xW p60 [2,3,4,5,11,27,28,29] rfl [10] rfl rfl (λ g59 _ _ _ st59=>?_)
     refine st59.segA 1 [2,3,4,5,11,27,28,29] [(10,1),(12,0)] (λ _ _ st62=>wpList_nil (ze (za ?_)))
     exact fl h61
    exact fl h57
   rintro a21 w21 ⟨b21,rfl,⟨M21,q21_0,q21_1,st21⟩⟩
   have h63:=jn k21
   obtain⟨v64,p64,h65⟩:=bs h63
   refine st21.rgA [2,3,4,5,11,27,28,29] [(10,1),(12,0)] (λ _ _ st66=>za ?_)
   exact fl h65
  refine wp_exit (zi (zi (zC ?_)))
  refine za ?_
  have h67:=lo h20 hx16
  exact fl h67
 rintro a14 w14 ⟨b14,rfl,⟨M14,q14_0,q14_1,st14⟩⟩
 have h68:=jn k14
 refine wp_seq ?_
 refine st14.sqB (sp 1 (r:=by exact sc rfl (op_lenT rfl kL26 (tp rfl))<|segA)) [88] [(10,1),(12,0)] (λ _ _ st69=>?_)
 refine st69.cs rfl h68 (λ _ h70=>?_) (λ _ h71=>?_)
 ·
  have st72:=st69.frz 0 (s:=12) rfl rfl [88] rfl [10] rfl
  refine wp_seq (wp_region_list ?_)
  refine st72.segB 2 (sp 1 (r:=by exact sc rfl (zX (parts:=[(0,.const (.int .i64 3)),(1,.const (.int .i64 (-1))),(2,.tmp 89)]) (ns:=[1,1,1]) (zs:=zpSpec) rfl rfl kB94 kC94 (λ w a hl=>by
 intro p hp;simp only[List.mem_cons,List.not_mem_nil,or_false] at hp
 rcases hp with rfl | rfl | rfl
 ·
  exact⟨by decide,rfl⟩
 ·
  exact⟨by decide,rfl⟩
 ·
  exact⟨by decide,Rep.len (α:=List Int) (OpdR.cells (tp rfl) hl)⟩) (λ w a hl=>Spec.parts (x:=(⟨(3:Int),(-1:Int),b14.2⟩:Spec)) (OpdR.cells cI hl) (OpdR.cells cI hl) (OpdR.cells (tp rfl) hl)))<|.nil)) [90] [(10,1)] (λ _ _ st73=>?_)
  refine st73.store (sb:=10) 1 FldS.id rfl rfl rfl kT94 rfl rfl (tp rfl) rfl [] rfl [] rfl rfl (λ _ _ st74=>wpList_nil (za ?_))
  refine wp_ret (zd ?_)
  exact st74.ret_box rfl kT94 rfl h70
 refine wp_skip (za (wp_seq (wp_region_list ?_)))
 obtain⟨v75,p75,h76⟩:=bsW h71 YX
 refine st69.segA 1 [91] [(10,1)] (λ _ _ st77=>?_)
 refine st77.store (sb:=10) 1 FldS.id rfl rfl rfl kT94 rfl rfl (tp rfl) rfl [] rfl [] rfl rfl (λ _ _ st78=>wpList_nil (za (wp_ret ?_)))
 exact st78.ret_box rfl kT94 rfl h76
open Go.RowKit Tryz
set_option maxRecDepth 10000
end Go.Proofs.YtmenakmafojpaaaGreatDoor
