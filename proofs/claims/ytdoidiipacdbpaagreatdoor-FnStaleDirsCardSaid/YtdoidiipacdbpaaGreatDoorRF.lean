import Derived.Test.YtdoidiipacdbpaaGreatDoorRB
import Derived.Test.YtdoidiipacdbpaaGreatDoorProg
import Derived.Test.YtdoidiipacdbpaaGreatDoorRC
namespace Go.Proofs.YtdoidiipacdbpaaGreatDoor
open Go.RowKit Tryz
attribute [local irreducible] OpRel OpdR
set_option maxRecDepth 10000
theorem zD:prog.follows .mixedOrders=true:=by kernel_rfl
theorem kF72_0:fldB prog 72 0 0=true:=by kernel_rfl
theorem kT3:tyB prog 3 false 1=true:=by kernel_rfl
theorem Jf:fldB prog 72 1 1=true:=by kernel_rfl
theorem kT9:tyB prog 9 false 1=true:=by kernel_rfl
theorem kF72_3:fldB prog 72 3 3=true:=by kernel_rfl
theorem kV4:zay prog 4=true:=by kernel_rfl
theorem kF72_2:fldB prog 72 2 2=true:=by kernel_rfl
theorem kL75:isSl prog 75=true:=by kernel_rfl
theorem kS75:slB prog 75 1=true:=by kernel_rfl
theorem kX9:XI prog 9=true:=by kernel_rfl
theorem kN92:fnB prog 92=true:=by kernel_rfl
theorem kN74:fnB prog 74=true:=by kernel_rfl
theorem kL30:isSl prog 30=true:=by kernel_rfl
theorem kS30:slB prog 30 1=true:=by kernel_rfl
def xh(x0:Int)(x1:Int)(x2:Int):Option Bool:=
some (cmpI .leq x1 x0&&cmpI .leq x0 x2)
theorem wQ{x0:Int}{x1:Int}{x2:Int}{r:Bool}(h:xh x0 x1 x2=some r):Fn prog 92 [dt x0,dt x1,dt x2] (dt r):=by
 unfold xh at h
 refine fnx (fn:=f92) 0 func92 rfl (oD rfl) rfl (λ M _ _ st0=>?_)
 refine st0.sq1 [0,1,2] (λ _ _ st1=>?_)
 refine st1.sq1 [6] (λ _ _ st2=>wp_ret ?_)
 exact st2.ret rfl rfl h
def yx(x0:Int)(x1:Int)(x2:Int):Option Bool:=
some (cmpI .geq x0 x1&&cmpI .leq x0 x2)
theorem yX{x0:Int}{x1:Int}{x2:Int}{r:Bool}(h:yx x0 x1 x2=some r):Fn prog 74 [dt x0,dt x1,dt x2] (dt r):=by
 unfold yx at h
 refine fnx (fn:=f74) 0 func74 rfl (oD rfl) rfl (λ M _ _ st0=>?_)
 refine st0.sq1 [0,1,2] (λ _ _ st1=>?_)
 refine st1.sq1 [6] (λ _ _ st2=>wp_ret ?_)
 exact st2.ret rfl rfl h
def qo(x0:File)(x1:File):Option Bool:=
some (((cmpI .eql x0.root x1.root&&decide (x0.pkg=x1.pkg))&&(x0.init == x1.init))&&decide (x0.name=x1.name))
theorem Wf{x0:File}{x1:File}{r:Bool}(h:qo x0 x1=some r):Fn prog 118 [dt x0,dt x1] (dt r):=by
 unfold qo at h
 refine fnx (fn:=f118) 0 func118 rfl (oD rfl) rfl (λ M _ _ st0=>?_)
 refine st0.sq1 [2,3] (λ _ _ st1=>?_)
 refine st1.sq2 (sp 17 (r:=by exact sg rfl rfl (λ hg=>op_eqT rfl kV4 (ze hg rfl) (ze hg rfl))<|segA)) [4] (λ _ _ st2=>wp_ret ?_)
 exact st2.ret rfl rfl h
def wx(x0:List Str)(x1:Str)(s4:Int):Option (Int⊕(Unit⊕Int)):=
if(cmpI .lss s4 (x0.length:Int))=true then((atI x0 s4).bind λ v9=>
if(decide (v9=x1))=true then(some (.inr (.inr s4)))
else((i64 (s4+(1:Int))).bind λ v17=>
some (.inl v17)))
else(some (.inr (.inl ())))
def YS(x0:List Str)(x1:Str):Option Int:=
Option.bind (α:=Unit⊕Int) (zS (λ s4=>wx x0 x1 s4) (0:Int)) (Sum.elim (λ _b2=>
some (-1:Int)) some)
theorem spec_textAt_w{x0:List Str}{x1:Str}{r:Int}(h:YS x0 x1=some r):Fn prog 163 [dt x0,dt x1] (dt r):=by
 unfold YS at h
 refine fnx (fn:=f163) 0 func163 rfl (oD rfl) rfl (λ M w0 _ st0=>?_)
 refine st0.sq1 [0,1] (λ _ _ st1=>?_)
 obtain⟨o2,p2,k2⟩:=bs h
 refine zm (λ a w=>∃ b2,o2=.inl b2/\Sx (Frm.of w0) 19 M M [] [] [] a w) ?_ ?_
 ·
  refine st1.sq1 [0,1,5] (λ _ _ st3=>wp_block ?_)
  refine zL p2 (λ s4 a w=>Sx (Frm.of w0) 19 M M [] [(0,dt x0),(1,dt x1),(5,dt s4)] [] a w) (st3.sel0 [0,1,5] rfl) ?_
  rintro s4 x4 a4 w4 st4 hs4 hx4
  have h5:wx x0 x1 s4=some x4:=hs4
  unfold wx at h5
  refine wp_seq ?_
  refine st4.sq1 [0,1,5,9] (λ _ _ st6=>?_)
  refine st6.cs rfl h5 (λ _ h7=>wp_skip (za (wp_seq (wp_block ?_)))) (λ _ h8=>wp_exit (zh (zh (zE ?_))))
  ·
   obtain⟨v9,p9,h10⟩:=bs h7
   refine st6.sq1 [0,1,5,17] (λ _ _ st11=>?_)
   refine st11.cs rfl h10 (λ _ h12=>?_) (λ _ h13=>wp_skip (zg (za ?_)))
   ·
    refine st11.sq1 [4] (λ _ _ st14=>wp_ret (zt (zd (zd (zt (zd ?_))))))
    have h15:=lo h12 hx4
    have h16:=jo h15 k2
    exact st14.ret rfl rfl h16
   obtain⟨v17,p17,h18⟩:=bs h13
   refine st11.rg1 [0,1,5] (λ _ _ st19=>za ?_)
   exact⟨_,(Option.some.inj h18).symm,st19.sel0 [0,1,5] rfl⟩
  refine za ?_
  have h20:=lo h8 hx4
  exact⟨_,(Option.some.inj h20).symm,st6.sel0 [] rfl⟩
 rintro a2 w2 ⟨b2,rfl,st2⟩
 have h21:=jn k2
 refine st2.sq1 [4] (λ _ _ st22=>wp_ret ?_)
 exact st22.ret rfl rfl h21
def qq(x0:List Str)(x1:Str):Option Bool:=
(YS x0 x1).bind λ v2=>
some (cmpI .geq v2 (0:Int))
theorem Jg{x0:List Str}{x1:Str}{r:Bool}(h:qq x0 x1=some r):Fn prog 135 [dt x0,dt x1] (dt r):=by
 unfold qq at h
 refine fnx (fn:=f135) 0 func135 rfl (oD rfl) rfl (λ M _ _ st0=>?_)
 refine st0.sq1 [0,1] (λ _ _ st1=>?_)
 obtain⟨v2,p2,h3⟩:=bsW h spec_textAt_w
 refine st1.sq1 [4] (λ _ _ st4=>wp_ret ?_)
 exact st4.ret rfl rfl h3
def x6(x0:Str)(s4:Int):Option (Int⊕(Unit⊕Bool)):=
if(cmpI .lss s4 (x0.l.length:Int))=true then((atI x0.l s4).bind λ v10=>
(gO (cmpB .lss v10 (UInt8.ofNat 97) == false) (atI x0.l s4)).bind λ v11=>
if(cmpB .lss v10 (UInt8.ofNat 97)||cmpB .gtr v11 (UInt8.ofNat 122))=true then(some (.inr (.inr false)))
else((i64 (s4+(1:Int))).bind λ v20=>
some (.inl v20)))
else(some (.inr (.inl ())))
def yY(x0:Str):Option Bool:=
Option.bind (α:=Unit⊕Bool) (zS (λ s4=>x6 x0 s4) (0:Int)) (Sum.elim (λ _b2=>
(yx (x0.l.length:Int) (1:Int) (3:Int)).bind λ v25=>
some v25) some)
theorem jq{x0:Str}{r:Bool}(h:yY x0=some r):Fn prog 78 [dt x0] (dt r):=by
 unfold yY at h
 refine fnx (fn:=f78) 0 func78 rfl (oD rfl) rfl (λ M w0 _ st0=>?_)
 refine st0.sq1 [0] (λ _ _ st1=>?_)
 obtain⟨o2,p2,k2⟩:=bs h
 refine zm (λ a w=>∃ b2,o2=.inl b2/\Sx (Frm.of w0) 23 M M [] [(0,dt x0)] [] a w) ?_ ?_
 ·
  refine st1.sq1 [0,5,6] (λ _ _ st3=>wp_block ?_)
  refine zL p2 (λ s4 a w=>Sx (Frm.of w0) 23 M M [] [(0,dt x0),(5,dt (x0.l.length:Int)),(6,dt s4)] [] a w) (st3.sel0 [0,5,6] rfl) ?_
  rintro s4 x4 a4 w4 st4 hs4 hx4
  have h5:x6 x0 s4=some x4:=hs4
  unfold x6 at h5
  refine st4.sq1 [0,5,6,7] (λ _ _ st6=>wp_seq ?_)
  refine st6.cs rfl h5 (λ _ h7=>wp_skip (za (wp_seq (wp_block ?_)))) (λ _ h8=>wp_exit (zh (zh (zE ?_))))
  ·
   refine st6.sq1 [0,3,5,6] (λ _ _ st9=>?_)
   obtain⟨v10,p10,v11,p11,h13⟩:=bsB h7
   refine st9.sq2 (sp 3 (r:=by exact sc rfl (oCB rfl (tp rfl) (Wu (by decide)))<|sp 3 (r:=by exact sg rfl rfl (λ hg=>xByte rfl kX9 (ze hg rfl) (ze hg rfl) (gh hg p11))<|sg rfl rfl (λ hg=>oCB rfl (ze hg rfl) (Wu (by decide)))<|segA))) [0,5,6,18] (λ _ _ st14=>?_)
   refine st14.cs rfl h13 (λ _ h15=>?_) (λ _ h16=>wp_skip (zg (za ?_)))
   ·
    refine st14.sq1 [2] (λ _ _ st17=>wp_ret (zt (zd (zd (zt (zd ?_))))))
    have h18:=lo h15 hx4
    have h19:=jo h18 k2
    exact st17.ret rfl rfl h19
   obtain⟨v20,p20,h21⟩:=bs h16
   refine st14.rg1 [0,5,6] (λ _ _ st22=>za ?_)
   exact⟨_,(Option.some.inj h21).symm,st22.sel0 [0,5,6] rfl⟩
  refine za ?_
  have h23:=lo h8 hx4
  exact⟨_,(Option.some.inj h23).symm,st6.sel0 [0] rfl⟩
 rintro a2 w2 ⟨b2,rfl,st2⟩
 have h24:=jn k2
 obtain⟨v25,p25,h26⟩:=bsW h24 yX
 refine st2.sq1 [2] (λ _ _ st27=>wp_ret ?_)
 exact st27.ret rfl rfl h26
def yQ(x0:List Int)(x1:Int)(s4:Int):Option (Int⊕(Unit⊕Int)):=
if(cmpI .lss s4 (x0.length:Int))=true then((atI x0 s4).bind λ v10=>
if(cmpI .eql x1 v10)=true then(some (.inr (.inr s4)))
else((i64 (s4+(1:Int))).bind λ v18=>
some (.inl v18)))
else(some (.inr (.inl ())))
def xU(x0:List Int)(x1:Int):Option Int:=
Option.bind (α:=Unit⊕Int) (zS (λ s4=>yQ x0 x1 s4) (0:Int)) (Sum.elim (λ _b2=>
some (-1:Int)) some)
theorem WB{x0:List Int}{x1:Int}{r:Int}(h:xU x0 x1=some r):Fn prog 119 [dt x0,dt x1] (dt r):=by
 unfold xU at h
 refine fnx (fn:=f119) 0 func119 rfl (oD rfl) rfl (λ M w0 _ st0=>?_)
 refine st0.sq1 [0,1] (λ _ _ st1=>?_)
 obtain⟨o2,p2,k2⟩:=bs h
 refine zm (λ a w=>∃ b2,o2=.inl b2/\Sx (Frm.of w0) 19 M M [] [] [] a w) ?_ ?_
 ·
  refine st1.sq1 [0,1,7,8] (λ _ _ st3=>wp_block ?_)
  refine zL p2 (λ s4 a w=>Sx (Frm.of w0) 19 M M [] [(0,dt x0),(1,dt x1),(7,dt (x0.length:Int)),(8,dt s4)] [] a w) (st3.sel0 [0,1,7,8] rfl) ?_
  rintro s4 x4 a4 w4 st4 hs4 hx4
  have h5:yQ x0 x1 s4=some x4:=hs4
  unfold yQ at h5
  refine st4.sq1 [0,1,7,8,9] (λ _ _ st6=>wp_seq ?_)
  refine st6.cs rfl h5 (λ _ h7=>wp_skip (za (wp_seq (wp_block ?_)))) (λ _ h8=>wp_exit (zh (zh (zE ?_))))
  ·
   refine st6.sq1 [0,1,5,7,8] (λ _ _ st9=>?_)
   obtain⟨v10,p10,h11⟩:=bs h7
   refine st9.sq1 [0,1,5,7,8,16] (λ _ _ st12=>?_)
   refine st12.cs rfl h11 (λ _ h13=>?_) (λ _ h14=>wp_skip (zg (za ?_)))
   ·
    refine st12.sq1 [4] (λ _ _ st15=>wp_ret (zt (zd (zd (zt (zd ?_))))))
    have h16:=lo h13 hx4
    have h17:=jo h16 k2
    exact st15.ret rfl rfl h17
   obtain⟨v18,p18,h19⟩:=bs h14
   refine st12.rg1 [0,1,7,8] (λ _ _ st20=>za ?_)
   exact⟨_,(Option.some.inj h19).symm,st20.sel0 [0,1,7,8] rfl⟩
  refine za ?_
  have h21:=lo h8 hx4
  exact⟨_,(Option.some.inj h21).symm,st6.sel0 [] rfl⟩
 rintro a2 w2 ⟨b2,rfl,st2⟩
 have h22:=jn k2
 refine st2.sq1 [4] (λ _ _ st23=>wp_ret ?_)
 exact st23.ret rfl rfl h22
def yf(x0:List Str)(x1:Str)(s4:Int):Option (Int⊕(Unit⊕Int)):=
if(cmpI .lss s4 (x0.length:Int))=true then((atI x0 s4).bind λ v10=>
if(decide (x1=v10))=true then(some (.inr (.inr s4)))
else((i64 (s4+(1:Int))).bind λ v18=>
some (.inl v18)))
else(some (.inr (.inl ())))
def xG(x0:List Str)(x1:Str):Option Int:=
Option.bind (α:=Unit⊕Int) (zS (λ s4=>yf x0 x1 s4) (0:Int)) (Sum.elim (λ _b2=>
some (-1:Int)) some)
theorem Y9{x0:List Str}{x1:Str}{r:Int}(h:xG x0 x1=some r):Fn prog 165 [dt x0,dt x1] (dt r):=by
 unfold xG at h
 refine fnx (fn:=f165) 0 func165 rfl (oD rfl) rfl (λ M w0 _ st0=>?_)
 refine st0.sq1 [0,1] (λ _ _ st1=>?_)
 obtain⟨o2,p2,k2⟩:=bs h
 refine zm (λ a w=>∃ b2,o2=.inl b2/\Sx (Frm.of w0) 19 M M [] [] [] a w) ?_ ?_
 ·
  refine st1.sq1 [0,1,7,8] (λ _ _ st3=>wp_block ?_)
  refine zL p2 (λ s4 a w=>Sx (Frm.of w0) 19 M M [] [(0,dt x0),(1,dt x1),(7,dt (x0.length:Int)),(8,dt s4)] [] a w) (st3.sel0 [0,1,7,8] rfl) ?_
  rintro s4 x4 a4 w4 st4 hs4 hx4
  have h5:yf x0 x1 s4=some x4:=hs4
  unfold yf at h5
  refine st4.sq1 [0,1,7,8,9] (λ _ _ st6=>wp_seq ?_)
  refine st6.cs rfl h5 (λ _ h7=>wp_skip (za (wp_seq (wp_block ?_)))) (λ _ h8=>wp_exit (zh (zh (zE ?_))))
  ·
   refine st6.sq1 [0,1,5,7,8] (λ _ _ st9=>?_)
   obtain⟨v10,p10,h11⟩:=bs h7
   refine st9.sq1 [0,1,5,7,8,16] (λ _ _ st12=>?_)
   refine st12.cs rfl h11 (λ _ h13=>?_) (λ _ h14=>wp_skip (zg (za ?_)))
   ·
    refine st12.sq1 [4] (λ _ _ st15=>wp_ret (zt (zd (zd (zt (zd ?_))))))
    have h16:=lo h13 hx4
    have h17:=jo h16 k2
    exact st15.ret rfl rfl h17
   obtain⟨v18,p18,h19⟩:=bs h14
   refine st12.rg1 [0,1,7,8] (λ _ _ st20=>za ?_)
   exact⟨_,(Option.some.inj h19).symm,st20.sel0 [0,1,7,8] rfl⟩
  refine za ?_
  have h21:=lo h8 hx4
  exact⟨_,(Option.some.inj h21).symm,st6.sel0 [] rfl⟩
 rintro a2 w2 ⟨b2,rfl,st2⟩
 have h22:=jn k2
 refine st2.sq1 [4] (λ _ _ st23=>wp_ret ?_)
 exact st23.ret rfl rfl h22
def xt(x0:List Int)(x1:Int):Option Bool:=
(xU x0 x1).bind λ v2=>
some (cmpI .geq v2 (0:Int))
theorem XG{x0:List Int}{x1:Int}{r:Bool}(h:xt x0 x1=some r):Fn prog 76 [dt x0,dt x1] (dt r):=by
 unfold xt at h
 refine fnx (fn:=f76) 0 func76 rfl (oD rfl) rfl (λ M _ _ st0=>?_)
 refine st0.sq1 [0,1] (λ _ _ st1=>?_)
 obtain⟨v2,p2,h3⟩:=bsW h WB
 refine st1.sq1 [4] (λ _ _ st4=>wp_ret ?_)
 exact st4.ret rfl rfl h3
def yp(x0:List Str)(x1:Str):Option Bool:=
(xG x0 x1).bind λ v2=>
some (cmpI .geq v2 (0:Int))
theorem qg{x0:List Str}{x1:Str}{r:Bool}(h:yp x0 x1=some r):Fn prog 139 [dt x0,dt x1] (dt r):=by
 unfold yp at h
 refine fnx (fn:=f139) 0 func139 rfl (oD rfl) rfl (λ M _ _ st0=>?_)
 refine st0.sq1 [0,1] (λ _ _ st1=>?_)
 obtain⟨v2,p2,h3⟩:=bsW h Y9
 refine st1.sq1 [4] (λ _ _ st4=>wp_ret ?_)
 exact st4.ret rfl rfl h3
def yq(x0:List Str)(x1:List Str)(s8:Int):Option (Int⊕(Unit⊕Bool)):=
if(cmpI .lss s8 (x0.length:Int))=true then((atI x0 s8).bind λ v14=>
(atI x1 s8).bind λ v15=>
if(decide (v14≠v15))=true then(some (.inr (.inr false)))
else((i64 (s8+(1:Int))).bind λ v24=>
some (.inl v24)))
else(some (.inr (.inl ())))
def yV(x0:List Str)(x1:List Str):Option Bool:=
if(cmpI .neq (x0.length:Int) (x1.length:Int))=true then(some false)
else(Option.bind (α:=Unit⊕Bool) (zS (λ s8=>yq x0 x1 s8) (0:Int)) (Sum.elim (λ _b6=>
some true) some))
theorem Xa{x0:List Str}{x1:List Str}{r:Bool}(h:yV x0 x1=some r):Fn prog 80 [dt x0,dt x1] (dt r):=by
 unfold yV at h
 refine fnx (fn:=f80) 0 func80 rfl (oD rfl) rfl (λ M w0 _ st0=>?_)
 refine st0.sq1 [0,1] (λ _ _ st1=>wp_seq ?_)
 refine st1.sq1 [0,1,10] (λ _ _ st2=>?_)
 refine st2.cs rfl h (λ _ h3=>?_) (λ _ h4=>wp_skip (za ?_))
 ·
  refine st2.sq1 [4] (λ _ _ st5=>wp_ret (zd ?_))
  exact st5.ret rfl rfl h3
 obtain⟨o6,p6,k6⟩:=bs h4
 refine zm (λ a w=>∃ b6,o6=.inl b6/\Sx (Frm.of w0) 26 M M [] [] [] a w) ?_ ?_
 ·
  refine st2.sq1 [0,1,12,13] (λ _ _ st7=>wp_block ?_)
  refine zL p6 (λ s8 a w=>Sx (Frm.of w0) 26 M M [] [(0,dt x0),(1,dt x1),(12,dt (x0.length:Int)),(13,dt s8)] [] a w) (st7.sel0 [0,1,12,13] rfl) ?_
  rintro s8 x8 a8 w8 st8 hs8 hx8
  have h9:yq x0 x1 s8=some x8:=hs8
  unfold yq at h9
  refine st8.sq1 [0,1,12,13,14] (λ _ _ st10=>wp_seq ?_)
  refine st10.cs rfl h9 (λ _ h11=>wp_skip (za (wp_seq (wp_block ?_)))) (λ _ h12=>wp_exit (zh (zh (zE ?_))))
  ·
   refine st10.sq1 [0,1,5,12,13] (λ _ _ st13=>wp_seq ?_)
   obtain⟨v14,p14,v15,p15,h17⟩:=bsB h11
   refine st13.dr (D:=[_,_,_,_,_,_,_,_,_]) zD [[(0,nS)],[(5,nS)],[(16,0),(17,1)],[(18,2)],[(1,nS)],[(5,nS)],[(20,4),(21,5)],[(22,6)],[(19,3),(23,7)]] (by decide +kernel) (
    rc rfl rfl (oM rfl (tp rfl))<|rc rfl rfl (oM rfl (tp rfl))<|rc rfl rfl (xIdx rfl kS75 (tp rfl) (tp rfl) p14)<|rc rfl rfl (zp rfl kT9 (tp rfl))<|rc rfl rfl (oM rfl (tp rfl))<|rc rfl rfl (oM rfl (tp rfl))<|rc rfl rfl (xIdx rfl kS75 (tp rfl) (tp rfl) p15)<|rc rfl rfl (zp rfl kT9 (tp rfl))<|rc rfl rfl (Wv rfl (tp rfl) (tp rfl))<|.nil) [0,1,12,13,24] rfl [] rfl trivial (λ _ _ st18=>?_)
   refine za ?_
   refine st18.cs rfl h17 (λ _ h19=>?_) (λ _ h20=>wp_skip (zg (za ?_)))
   ·
    refine st18.sq1 [4] (λ _ _ st21=>wp_ret (zt (zd (zd (zt (zd ?_))))))
    have h22:=lo h19 hx8
    have h23:=jo h22 k6
    exact st21.ret rfl rfl h23
   obtain⟨v24,p24,h25⟩:=bs h20
   refine st18.rg1 [0,1,12,13] (λ _ _ st26=>za ?_)
   exact⟨_,(Option.some.inj h25).symm,st26.sel0 [0,1,12,13] rfl⟩
  refine za ?_
  have h27:=lo h12 hx8
  exact⟨_,(Option.some.inj h27).symm,st10.sel0 [] rfl⟩
 rintro a6 w6 ⟨b6,rfl,st6⟩
 have h28:=jn k6
 refine st6.sq1 [4] (λ _ _ st29=>wp_ret ?_)
 exact st29.ret rfl rfl h28
open Go.RowKit Tryz
set_option maxRecDepth 10000
theorem kE75:elB prog 75 9 1 16=true:=by kernel_rfl
theorem kZ9:wt prog 9=some Xv:=by kernel_rfl
def xa(x0:Str)(x1:Str):Option Bool:=
(gO (cmpI .geq (x0.l.length:Int) (x1.l.length:Int) == true) (cutHO x0 (x1.l.length:Int))).bind λ v2=>
some (cmpI .geq (x0.l.length:Int) (x1.l.length:Int)&&decide (v2=x1))
theorem Yg{x0:Str}{x1:Str}{r:Bool}(h:xa x0 x1=some r):Fn prog 175 [dt x0,dt x1] (dt r):=by
 unfold xa at h
 refine fnx (fn:=f175) 0 func175 rfl (oD rfl) rfl (λ M _ _ st0=>?_)
 refine st0.sq1 [0,1] (λ _ _ st1=>?_)
 obtain⟨v2,p2,h3⟩:=bs h
 refine st1.sq2 (sp 9 (r:=by exact sg rfl rfl (λ hg=>xCutH rfl kX9 (ze hg rfl) (ze hg rfl) (gh hg p2))<|segA)) [4] (λ _ _ st4=>wp_ret ?_)
 exact st4.ret rfl rfl h3
def jd(x0:Str)(x1:Str):Option Bool:=
(xa x0 x1).bind λ v2=>
some v2
theorem JM{x0:Str}{x1:Str}{r:Bool}(h:jd x0 x1=some r):Fn prog 155 [dt x0,dt x1] (dt r):=by
 unfold jd at h
 refine fnx (fn:=f155) 0 func155 rfl (oD rfl) rfl (λ M _ _ st0=>?_)
 refine st0.sq1 [0,1] (λ _ _ st1=>?_)
 obtain⟨v2,p2,h3⟩:=bsW h Yg
 refine st1.sq1 [4] (λ _ _ st4=>wp_ret ?_)
 exact st4.ret rfl rfl h3
def y9(x1:Str)(x2:Int)(v30:Int)(s35:Str×(List Str)×Int):Option ((Str×(List Str)×Int)⊕(Str×(List Str)×Int)):=
if(cmpI .lss s35.2.2 v30)=true then((ja s35.1 x1).bind λ v40=>
if(cmpI .lss v40 (0:Int))=true then(some (.inr (s35.1,s35.2.1,s35.2.2)))
else((i64 (v40+x2)).bind λ v47=>
(cutHO s35.1 v47).bind λ v48=>
(atI s35.2.1 s35.2.2).bind λ _v49=>
(setO s35.2.1 s35.2.2 v48).bind λ v55=>
(i64 (v40+(x1.l.length:Int))).bind λ v57=>
(cutLO s35.1 v57).bind λ v58=>
(i64 (s35.2.2+(1:Int))).bind λ v62=>
some (.inl (v58,v55,v62))))
else(some (.inr (s35.1,s35.2.1,s35.2.2)))
def qO(x0:Str)(x1:Str)(x2:Int)(x3:Int):Option (List Str):=
if(cmpI .eql x3 (0:Int))=true then(some ([]:List Str))
else(if(decide (x1=(⟨[]⟩:Str)))=true then((XK x0 x3).bind λ v9=>
some v9)
else(Option.bind (α:=Int) (if(cmpI .lss x3 (0:Int))=true then((Z0 x0 x1).bind λ v16=>
(i64 (v16+(1:Int))).bind λ v17=>
some v17)
else(some x3)) λ o12=>
(i64 ((x0.l.length:Int)+(1:Int))).bind λ v22=>
(makeO 1 16 (if v22<o12 then v22 else o12) zStr).bind λ v27=>
(i64 ((if v22<o12 then v22 else o12) - (1:Int))).bind λ v30=>
Option.bind (α:=Str×(List Str)×Int) (zS (λ s35=>y9 x1 x2 v30 s35) (x0,v27,(0:Int))) λ o34=>
(atI o34.2.1 o34.2.2).bind λ _v67=>
(setO o34.2.1 o34.2.2 o34.1).bind λ v71=>
(i64 (o34.2.2+(1:Int))).bind λ v74=>
(ZQ v71 v74).bind λ v75=>
some v75))
theorem Qm{x0:Str}{x1:Str}{x2:Int}{x3:Int}{r:List Str}(h:qO x0 x1 x2 x3=some r):Fn prog 120 [dt x0,dt x1,dt x2,dt x3] (dt r):=by
 unfold qO at h
 refine fnx (fn:=f120) 1 func120 rfl (oD rfl) rfl (λ M w0 _ st0=>?_)
 refine st0.sq2 (sc rfl (oA rfl (jW (α:=Str)))<|.nil) [0,1,2,3] (λ _ _ st1=>wp_seq ?_)
 refine st1.sq1 [0,1,2,3,13] (λ _ _ st2=>?_)
 refine st2.cs rfl h (λ _ h3=>?_) (λ _ h4=>wp_skip (za (wp_seq ?_)))
 ·
  refine st2.sq2 (sc rfl (oA rfl (jW (α:=Str)))<|.nil) [8] (λ _ _ st5=>wp_ret (zd ?_))
  exact st5.ret rfl rfl h3
 refine st2.sq1 [0,1,2,3,15] (λ _ _ st6=>?_)
 refine st6.cs rfl h4 (λ _ h7=>?_) (λ _ h8=>wp_skip (za ?_))
 ·
  obtain⟨v9,p9,h10⟩:=bsW h7 QP
  refine st6.sq1 [8] (λ _ _ st11=>wp_ret (zd ?_))
  exact st11.ret rfl rfl h10
 obtain⟨o12,p12,k12⟩:=bs h8
 refine zm (λ a w=>∃ M1 q12_0,Sx (Frm.of w0) 66 M M1 [oneB q12_0] [(0,dt x0),(1,dt x1),(2,dt x2),(3,dt o12)] [] a w) ?_ ?_
 ·
  refine st6.sq1 [0,1,2,3,20] (λ _ _ st13=>?_)
  refine st13.cs rfl p12 (λ _ h14=>?_) (λ _ h15=>wp_skip (za ?_))
  ·
   obtain⟨v16,p16,h18⟩:=bsW h14 zbm
   obtain⟨v17,p17,h19⟩:=bs h18
   refine st13.rg1 [0,1,2,3] (λ _ _ st20=>za ?_)
   cases h19
   exact fx
  cases h15
  exact fx
 rintro a12 w12 ⟨M12,q12_0,st12⟩
 have h21:=k12
 obtain⟨v22,p22,h23⟩:=bs h21
 refine st12.sq2 (sc rfl (oM rfl (tp rfl))<|sc rfl (oM rfl (tp rfl))<|sc rfl (Xf rfl kX9 (tp rfl))<|sc rfl (xAr rfl (tp rfl) cI p22)<|sc rfl (xMin rfl (tp rfl) (tp rfl))<|sc rfl (oA rfl (tp rfl))<|.nil) [0,1,2,3] (λ _ _ st24=>wp_seq (wp_region_list ?_))
 refine st24.segA 1 [0,1,2,3,30] [] (λ _ _ st25=>?_)
 obtain⟨v27,p27,h28⟩:=bs h23
 refine st25.make 0 rfl rfl kE75 kZ9 Wd rfl (by simp) p27 [0,1,2,3] rfl [] rfl rfl (λ g26 _ _ _ st26=>?_)
 refine st26.segA 1 [0,1,2,3] [(9,0)] (λ _ _ st29=>wpList_nil (za ?_))
 obtain⟨v30,p30,h31⟩:=bs h28
 refine st29.sqA [0,1,2,3] [(9,0)] (λ _ _ st32=>?_)
 refine st32.sqA [0,1,2,3,10] [(9,0)] (λ _ _ st33=>?_)
 obtain⟨o34,p34,k34⟩:=bs h31
 refine zm (λ a w=>∃ M1 q34_0,Sx (Frm.of w0) 66 M M1 [oneB q34_0] [(0,dt o34.1),(10,dt o34.2.2)] [(9,0,dtip q34_0 9 o34.2.1)] a w) ?_ ?_
 ·
  refine wp_block ?_
  refine zL p34 (λ s35 a w=>∃ M1 q35_0,Sx (Frm.of w0) 66 M M1 [oneB q35_0] [(0,dt s35.1),(1,dt x1),(2,dt x2),(3,dt v30),(10,dt s35.2.2)] [(9,0,dtip q35_0 9 s35.2.1)] a w) fx ?_
  rintro s35 x35 a35 w35 ⟨M35,q35_0,st35⟩ hs35 hx35
  have h36:y9 x1 x2 v30 s35=some x35:=hs35
  unfold y9 at h36
  refine wp_seq ?_
  refine st35.sqA [0,1,2,3,10,36] [(9,0)] (λ _ _ st37=>?_)
  refine st37.cs rfl h36 (λ _ h38=>wp_skip (za (wp_block ?_))) (λ _ h39=>wp_exit (zh (zh (zE ?_))))
  ·
   obtain⟨v40,p40,h41⟩:=bsW h38 zbl
   refine st37.sqA [0,1,2,3,10,11] [(9,0)] (λ _ _ st42=>wp_seq ?_)
   refine st42.sqA [0,1,2,3,10,11,41] [(9,0)] (λ _ _ st43=>?_)
   refine st43.cs rfl h41 (λ _ h44=>?_) (λ _ h45=>wp_skip (za (wp_seq (wp_region_list ?_))))
   ·
    refine wp_exit (zh (exit_out (by decide) (zh (zE ?_))))
    refine za ?_
    have h46:=lo h44 hx35
    cases h46
    exact fx
   obtain⟨v47,p47,v48,p48,v49,p49,h52⟩:=bsC h45
   refine st43.segB 8 (sc rfl (oM rfl (tp rfl))<|sc rfl (oM rfl (tp rfl))<|sc rfl (oM rfl (tp rfl))<|sc rfl (oM rfl (tp rfl))<|sc rfl (oM rfl (tp rfl))<|sc rfl (xAr rfl (tp rfl) (tp rfl) p47)<|sc rfl (xCutH rfl kX9 (tp rfl) (tp rfl) p48)<|sc rfl (xIdxT rfl kS75 (tp rfl) (tp rfl) p49)<|.nil) [0,1,2,3,10,11,48] [(9,0),(49,0)] (λ _ _ st53=>?_)
   obtain⟨v55,p55,h56⟩:=bs h52
   refine st53.storeT (sb:=9) 0 rfl rfl rfl kT9 rfl rfl (tp rfl) rfl p55 [0,1,2,3,10,11] rfl [] rfl rfl (λ _ _ st54=>wpList_nil (za ?_))
   obtain⟨v57,p57,v58,p58,h60⟩:=bsB h56
   refine st54.sqB (sc rfl (oM rfl (tp rfl))<|sc rfl (oM rfl (tp rfl))<|sc rfl (oM rfl (tp rfl))<|sc rfl (Xf rfl kX9 (tp rfl))<|sc rfl (xAr rfl (tp rfl) (tp rfl) p57)<|sc rfl (xCutL rfl kX9 (tp rfl) (tp rfl) p58)<|sc rfl (oA rfl (tp rfl))<|.nil) [0,1,2,3,10] [(9,0)] (λ _ _ st61=>?_)
   obtain⟨v62,p62,h63⟩:=bs h60
   refine st61.rgA [0,1,2,3,10] [(9,0)] (λ _ _ st64=>zg (za ?_))
   exact fl h63
  refine za ?_
  have h65:=lo h39 hx35
  cases h65
  exact fx
 rintro a34 w34 ⟨M34,q34_0,st34⟩
 have h66:=k34
 refine wp_seq (wp_region_list ?_)
 obtain⟨v67,p67,h68⟩:=bs h66
 refine st34.segB 4 (sp 3 (r:=by exact sc rfl (xIdxT rfl kS75 (tp rfl) (tp rfl) p67)<|.nil)) [10,60] [(9,0),(61,0)] (λ _ _ st69=>?_)
 obtain⟨v71,p71,h72⟩:=bs h68
 refine st69.storeT (sb:=9) 0 rfl rfl rfl kT9 rfl rfl (tp rfl) rfl p71 [10] rfl [] rfl rfl (λ _ _ st70=>wpList_nil (za ?_))
 have st73:=st70.frz 0 (s:=9) rfl rfl [10] rfl [] rfl
 obtain⟨v74,p74,v75,p75,h77⟩:=bsB h72
 refine st73.sq2 (sp 3 (r:=by exact sc rfl (xSliH rfl kS75 (tp rfl) (tp rfl) p75)<|segA)) [8] (λ _ _ st78=>wp_ret ?_)
 exact st78.ret rfl rfl h77
def wl(x0:Str)(x1:Str):Option (List Str):=
(qO x0 x1 (0:Int) (-1:Int)).bind λ v2=>
some v2
theorem WU{x0:Str}{x1:Str}{r:List Str}(h:wl x0 x1=some r):Fn prog 77 [dt x0,dt x1] (dt r):=by
 unfold wl at h
 refine fnx (fn:=f77) 0 func77 rfl (oD rfl) rfl (λ M _ _ st0=>?_)
 refine st0.sq2 (sc rfl (oA rfl (jW (α:=Str)))<|.nil) [0,1] (λ _ _ st1=>?_)
 obtain⟨v2,p2,h3⟩:=bsW h Qm
 refine st1.sq1 [4] (λ _ _ st4=>wp_ret ?_)
 exact st4.ret rfl rfl h3
open Go.RowKit Tryz
set_option maxRecDepth 10000
theorem kN31:fnB prog 31=true:=by kernel_rfl
theorem kY75:zlB prog 75=true:=by kernel_rfl
theorem kN88:fnB prog 88=true:=by kernel_rfl
theorem kN155:fnB prog 155=true:=by kernel_rfl
def x9(v2:List Str)(s7:Int):Option (Int⊕(Unit⊕Bool)):=
if(cmpI .lss s7 (v2.length:Int))=true then((atI v2 s7).bind λ v12=>
(yY v12).bind λ v15=>
if(!v15)=true then(some (.inr (.inr false)))
else((i64 (s7+(1:Int))).bind λ v23=>
some (.inl v23)))
else(some (.inr (.inl ())))
def yc(x0:Str):Option Bool:=
(wl x0 (⟨[46]⟩:Str)).bind λ v2=>
Option.bind (α:=Unit⊕Bool) (zS (λ s7=>x9 v2 s7) (0:Int)) (Sum.elim (λ _b5=>
some (cmpI .leq (v2.length:Int) (3:Int))) some)
theorem yM{x0:Str}{r:Bool}(h:yc x0=some r):Fn prog 31 [dt x0] (dt r):=by
 unfold yc at h
 refine fnx (fn:=f31) 0 func31 rfl (oD rfl) rfl (λ M w0 _ st0=>?_)
 refine st0.sq1 [0] (λ _ _ st1=>?_)
 obtain⟨v2,p2,h3⟩:=bsW h WU
 refine st1.sq1 [3] (λ _ _ st4=>?_)
 obtain⟨o5,p5,k5⟩:=bs h3
 refine zm (λ a w=>∃ b5,o5=.inl b5/\Sx (Frm.of w0) 21 M M [] [(3,dt v2)] [] a w) ?_ ?_
 ·
  refine st4.sq1 [3,8,9,10] (λ _ _ st6=>wp_block ?_)
  refine zL p5 (λ s7 a w=>Sx (Frm.of w0) 21 M M [] [(3,dt v2),(8,dt v2),(9,dt (v2.length:Int)),(10,dt s7)] [] a w) (st6.sel0 [3,8,9,10] rfl) ?_
  rintro s7 x7 a7 w7 st7 hs7 hx7
  have h8:x9 v2 s7=some x7:=hs7
  unfold x9 at h8
  refine st7.sq1 [3,8,9,10,11] (λ _ _ st9=>wp_seq ?_)
  refine st9.cs rfl h8 (λ _ h10=>wp_skip (za (wp_seq (wp_block ?_)))) (λ _ h11=>wp_exit (zh (zh (zE ?_))))
  ·
   obtain⟨v12,p12,h13⟩:=bs h10
   refine st9.sq2 (sc rfl (xIdx rfl kS75 (tp rfl) (tp rfl) p12)<|sc rfl (zp rfl kT9 (tp rfl))<|sc rfl (oA rfl (tp rfl))<|.nil) [3,5,8,9,10] (λ _ _ st14=>?_)
   obtain⟨v15,p15,h16⟩:=bsW h13 jq
   refine st14.sq1 [3,8,9,10,16] (λ _ _ st17=>?_)
   refine st17.cs rfl h16 (λ _ h18=>?_) (λ _ h19=>wp_skip (zg (za ?_)))
   ·
    refine st17.sq1 [2] (λ _ _ st20=>wp_ret (zt (zd (zd (zt (zd ?_))))))
    have h21:=lo h18 hx7
    have h22:=jo h21 k5
    exact st20.ret rfl rfl h22
   obtain⟨v23,p23,h24⟩:=bs h19
   refine st17.rg1 [3,8,9,10] (λ _ _ st25=>za ?_)
   exact⟨_,(Option.some.inj h24).symm,st25.sel0 [3,8,9,10] rfl⟩
  refine za ?_
  have h26:=lo h11 hx7
  exact⟨_,(Option.some.inj h26).symm,st9.sel0 [3] rfl⟩
 rintro a5 w5 ⟨b5,rfl,st5⟩
 have h27:=jn k5
 refine st5.sq1 [2] (λ _ _ st28=>wp_ret ?_)
 exact st28.ret rfl rfl h27
def yZ(x0:Str):Option Bool:=
(gO (decide (x0=(⟨[]⟩:Str)) == false) (yc x0)).bind λ v2=>
some (decide (x0=(⟨[]⟩:Str))||v2)
theorem jr{x0:Str}{r:Bool}(h:yZ x0=some r):Fn prog 88 [dt x0] (dt r):=by
 unfold yZ at h
 refine fnx (fn:=f88) 0 func88 rfl (oD rfl) rfl (λ M _ _ st0=>?_)
 refine st0.sq1 [0] (λ _ _ st1=>?_)
 obtain⟨v2,p2,h3⟩:=bs h
 refine st1.sq2 (sp 4 (r:=by exact sg rfl rfl (λ hg=>oK (yM (gh hg p2)))<|segA)) [2] (λ _ _ st4=>wp_ret ?_)
 exact st4.ret rfl rfl h3
def qr(x0:Str):Option (List Str):=
(yc x0).bind λ v2=>
if(!v2)=true then(some ([]:List Str))
else((wl x0 (⟨[46]⟩:Str)).bind λ v8=>
some v8)
theorem Jh{x0:Str}{r:List Str}(h:qr x0=some r):Fn prog 103 [dt x0] (dt r):=by
 unfold qr at h
 refine fnx (fn:=f103) 0 func103 rfl (oD rfl) rfl (λ M _ _ st0=>?_)
 refine st0.sq2 (sc rfl (oA rfl (jW (α:=Str)))<|.nil) [0] (λ _ _ st1=>wp_seq ?_)
 obtain⟨v2,p2,h3⟩:=bsW h yM
 refine st1.sq1 [0,5] (λ _ _ st4=>?_)
 refine st4.cs rfl h3 (λ _ h5=>?_) (λ _ h6=>wp_skip (za ?_))
 ·
  refine st4.sq2 (sc rfl (yG (opds:=[]) (α:=Str) rfl kS75 kY75 rfl rfl (by decide) .nil)<|segA) [2] (λ _ _ st7=>wp_ret (zd ?_))
  exact st7.ret rfl rfl h5
 obtain⟨v8,p8,h9⟩:=bsW h6 WU
 refine st4.sq1 [2] (λ _ _ st10=>wp_ret ?_)
 exact st10.ret rfl rfl h9
def xB(x0:Str)(x1:Str):Option Str:=
(yZ x0).bind λ v2=>
(gO ((!v2) == false) (yY x1)).bind λ v3=>
if((!v2)||(!v3))=true then(some (⟨[]⟩:Str))
else(Option.bind (α:=Str) (if(decide (x0≠(⟨[]⟩:Str)))=true then((catO x0 (⟨[46]⟩:Str)).bind λ v14=>
(catO v14 x1).bind λ v15=>
some v15)
else(some x1)) λ o10=>
(yc o10).bind λ v20=>
if(!v20)=true then(some (⟨[]⟩:Str))
else(some o10))
theorem qt{x0:Str}{x1:Str}{r:Str}(h:xB x0 x1=some r):Fn prog 83 [dt x0,dt x1] (dt r):=by
 unfold xB at h
 refine fnx (fn:=f83) 0 func83 rfl (oD rfl) rfl (λ M w0 _ st0=>?_)
 refine st0.sq1 [0,1] (λ _ _ st1=>wp_seq ?_)
 obtain⟨v2,p2,v3,p3,h5⟩:=bsB h
 refine st1.sq2 (sp 1 (r:=by exact sc rfl (oK (jr p2))<|sp 3 (r:=by exact sg rfl rfl (λ hg=>oK (jq (gh hg p3)))<|segA))) [0,1,12] (λ _ _ st6=>?_)
 refine st6.cs rfl h5 (λ _ h7=>?_) (λ _ h8=>wp_skip (za ?_))
 ·
  refine st6.sq1 [4] (λ _ _ st9=>wp_ret (zd ?_))
  exact st9.ret rfl rfl h7
 obtain⟨o10,p10,k10⟩:=bs h8
 refine zm (λ a w=>Sx (Frm.of w0) 23 M M [] [(1,dt o10)] [] a w) ?_ ?_
 ·
  refine st6.sq2 (sc rfl (oM rfl (tp rfl))<|sc rfl (Wv rfl (tp rfl) (zQ (by decide)))<|.nil) [0,1,14] (λ _ _ st11=>?_)
  refine st11.cs rfl p10 (λ _ h12=>?_) (λ _ h13=>wp_skip (za ?_))
  ·
   obtain⟨v14,p14,v15,p15,h17⟩:=bsB h12
   refine st11.rg2 (sc rfl (oM rfl (tp rfl))<|sc rfl (xCat rfl (tp rfl) (zQ (by decide)) p14)<|sc rfl (oM rfl (tp rfl))<|sc rfl (xCat rfl (tp rfl) (tp rfl) p15)<|sc rfl (oA rfl (tp rfl))<|.nil) [1] (λ _ _ st18=>za ?_)
   obtain rfl:=Option.some.inj h17
   exact st18.sel0 [1] rfl
  obtain rfl:=Option.some.inj h13
  exact st11.sel0 [1] rfl
 rintro a10 w10 st10
 have h19:=k10
 refine wp_seq ?_
 obtain⟨v20,p20,h21⟩:=bsW h19 yM
 refine st10.sq1 [1,21] (λ _ _ st22=>?_)
 refine st22.cs rfl h21 (λ _ h23=>?_) (λ _ h24=>wp_skip (za ?_))
 ·
  refine st22.sq2 (sc rfl (oA rfl (zQ (by decide)))<|.nil) [4] (λ _ _ st25=>wp_ret (zd ?_))
  exact st25.ret rfl rfl h23
 refine st22.sq1 [4] (λ _ _ st26=>wp_ret ?_)
 exact st26.ret rfl rfl h24
def qu(x0:Str)(x1:Str):Option Bool:=
(yc x0).bind λ v2=>
(gO ((!v2) == false) (yZ x1)).bind λ v3=>
if((!v2)||(!v3))=true then(some false)
else((gO ((decide (x1=(⟨[]⟩:Str))||decide (x0=x1)) == false) (catO x1 (⟨[46]⟩:Str))).bind λ v10=>
(gO ((decide (x1=(⟨[]⟩:Str))||decide (x0=x1)) == false) (jd x0 v10)).bind λ v11=>
some ((decide (x1=(⟨[]⟩:Str))||decide (x0=x1))||v11))
theorem Ji{x0:Str}{x1:Str}{r:Bool}(h:qu x0 x1=some r):Fn prog 121 [dt x0,dt x1] (dt r):=by
 unfold qu at h
 refine fnx (fn:=f121) 0 func121 rfl (oD rfl) rfl (λ M _ _ st0=>?_)
 refine st0.sq1 [0,1] (λ _ _ st1=>wp_seq ?_)
 obtain⟨v2,p2,v3,p3,h5⟩:=bsB h
 refine st1.sq2 (sc rfl (oM rfl (tp rfl))<|sc rfl (zo (l:=[.tmp 5]) rfl kN31 (.cons (tp rfl) .nil) (yM p2))<|sc rfl (yE rfl (tp rfl))<|sc rfl (oM rfl (tp rfl))<|sg rfl rfl (λ hg=>oM rfl (tp rfl))<|sg rfl rfl (λ hg=>zo (l:=[.tmp 9]) rfl kN88 (.cons (ze hg rfl) .nil) (jr (gh hg p3)))<|sg rfl rfl (λ hg=>yE rfl (ze hg rfl))<|sc rfl (yU rfl (tp rfl) (zb rfl))<|.nil) [0,1,12] (λ _ _ st6=>?_)
 refine st6.cs rfl h5 (λ _ h7=>?_) (λ _ h8=>wp_skip (za ?_))
 ·
  refine st6.sq1 [4] (λ _ _ st9=>wp_ret (zd ?_))
  exact st9.ret rfl rfl h7
 obtain⟨v10,p10,v11,p11,h13⟩:=bsB h8
 refine st6.sq2 (sc rfl (oM rfl (tp rfl))<|sc rfl (Zd rfl (tp rfl) (zQ (by decide)))<|sc rfl (oM rfl (tp rfl))<|sg rfl rfl (λ hg=>oM rfl (tp rfl))<|sg rfl rfl (λ hg=>oM rfl (tp rfl))<|sg rfl rfl (λ hg=>Zd rfl (ze hg rfl) (ze hg rfl))<|sc rfl (yU rfl (tp rfl) (zb rfl))<|sc rfl (oM rfl (tp rfl))<|sg rfl rfl (λ hg=>oM rfl (tp rfl))<|sg rfl rfl (λ hg=>oM rfl (tp rfl))<|sg rfl rfl (λ hg=>xCat rfl (ze hg rfl) (zQ (by decide)) (gh hg p10))<|sg rfl rfl (λ hg=>zo (l:=[.tmp 21,.tmp 23]) rfl kN155 (.cons (ze hg rfl) (.cons (ze hg rfl) .nil)) (JM (gh hg p11)))<|sc rfl (yU rfl (tp rfl) (zb rfl))<|sc rfl (oA rfl (tp rfl))<|.nil) [4] (λ _ _ st14=>wp_ret ?_)
 exact st14.ret rfl rfl h13
end Go.Proofs.YtdoidiipacdbpaaGreatDoor
