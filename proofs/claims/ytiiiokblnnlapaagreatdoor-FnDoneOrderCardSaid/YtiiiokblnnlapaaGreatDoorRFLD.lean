/-
  Models of functions, and their walks: printed by a program of our own (wip/mx.py).
  Models of functions, and their walks: printed by a program of our own (wip/mx.py).
-/
import Derived.Test.YtiiiokblnnlapaaGreatDoorRBLD
import Derived.Test.YtiiiokblnnlapaaGreatDoorProg
import Derived.Test.YtiiiokblnnlapaaGreatDoorRCLD
namespace Go.Proofs.YtiiiokblnnlapaaGreatDoor
open Go.RowKit
attribute [local irreducible] OpRel OpdR
set_option maxRecDepth 10000
theorem zK:Tryz.prog.follows .mixedOrders=true:=by kernel_rfl
theorem kF94_0:fldB Tryz.prog 94 0 0=true:=by kernel_rfl
theorem kT3:tyB Tryz.prog 3 false 1=true:=by kernel_rfl
theorem XD:fldB Tryz.prog 94 1 1=true:=by kernel_rfl
theorem kT9:tyB Tryz.prog 9 false 1=true:=by kernel_rfl
theorem kF94_3:fldB Tryz.prog 94 3 3=true:=by kernel_rfl
theorem kT4:tyB Tryz.prog 4 false 1=true:=by kernel_rfl
theorem kV4:isBool Tryz.prog 4=true:=by kernel_rfl
theorem X8:fldB Tryz.prog 94 2 2=true:=by kernel_rfl
theorem kL39:isSl Tryz.prog 39=true:=by kernel_rfl
theorem kS39:slB Tryz.prog 39 1=true:=by kernel_rfl
theorem kX9:YO Tryz.prog 9=true:=by kernel_rfl
theorem kN84:fnB Tryz.prog 84=true:=by kernel_rfl
theorem kL25:isSl Tryz.prog 25=true:=by kernel_rfl
theorem kS25:slB Tryz.prog 25 1=true:=by kernel_rfl
def yD(x0:Int)(x1:Int)(x2:Int):Option Bool:=
some (cmpI .geq x0 x1&&cmpI .leq x0 x2)
theorem jz{x0:Int}{x1:Int}{x2:Int}{r:Bool}(h:yD x0 x1 x2=some r):Fn Tryz.prog 84 [dt x0,dt x1,dt x2] (dt r):=by
 unfold yD at h
 refine fnx (fn:=Tryz.f84) 0 Tryz.func84 rfl (of_decide_eq_true rfl) rfl (λ M _ _ st0=>?_)
 refine st0.sq1 [0,1,2] (λ _ _ st1=>?_)
 refine st1.sq2 (sc rfl (oM rfl (tp rfl))<|sc rfl (oM rfl (tp rfl))<|sc rfl (oCI rfl (tp rfl) (tp rfl))<|sc rfl (oM rfl (tp rfl))<|sg rfl rfl (λ hg=>oM rfl (tp rfl))<|sg rfl rfl (λ hg=>oM rfl (tp rfl))<|sg rfl rfl (λ hg=>oCI rfl (zf hg rfl) (zf hg rfl))<|sc rfl (zW rfl (tp rfl) (zb rfl))<|sc rfl (oA rfl (tp rfl))<|.nil) [6] (λ _ _ st2=>?_)
 refine wp_ret ?_
 exact st2.ret rfl rfl h
def jH(x0:File)(x1:File):Option Bool:=
some (((cmpI .eql x0.root x1.root&&decide (x0.pkg=x1.pkg))&&(x0.init == x1.init))&&decide (x0.name=x1.name))
theorem Xh{x0:File}{x1:File}{r:Bool}(h:jH x0 x1=some r):Fn Tryz.prog 83 [dt x0,dt x1] (dt r):=by
 unfold jH at h
 refine fnx (fn:=Tryz.f83) 0 Tryz.func83 rfl (of_decide_eq_true rfl) rfl (λ M _ _ st0=>?_)
 refine st0.sq1 [2,3] (λ _ _ st1=>?_)
 refine st1.sq2 (sc rfl (zh File.fld0 rfl kF94_0 (tp rfl))<|sc rfl (ze rfl kT3 (tp rfl))<|sc rfl (zh File.fld0 rfl kF94_0 (tp rfl))<|sc rfl (ze rfl kT3 (tp rfl))<|sc rfl (oCI rfl (tp rfl) (tp rfl))<|sc rfl (oM rfl (tp rfl))<|sg rfl rfl (λ hg=>zh File.fld1 rfl XD (tp rfl))<|sg rfl rfl (λ hg=>ze rfl kT9 (zf hg rfl))<|sg rfl rfl (λ hg=>zh File.fld1 rfl XD (tp rfl))<|sg rfl rfl (λ hg=>ze rfl kT9 (zf hg rfl))<|sg rfl rfl (λ hg=>ws rfl (zf hg rfl) (zf hg rfl))<|sc rfl (zW rfl (tp rfl) (zb rfl))<|sc rfl (oM rfl (tp rfl))<|sg rfl rfl (λ hg=>zh File.fld3 rfl kF94_3 (tp rfl))<|sg rfl rfl (λ hg=>ze rfl kT4 (zf hg rfl))<|sg rfl rfl (λ hg=>zh File.fld3 rfl kF94_3 (tp rfl))<|sg rfl rfl (λ hg=>ze rfl kT4 (zf hg rfl))<|sg rfl rfl (λ hg=>op_eqT rfl kV4 (zf hg rfl) (zf hg rfl))<|sc rfl (zW rfl (tp rfl) (zb rfl))<|sc rfl (oM rfl (tp rfl))<|sg rfl rfl (λ hg=>zh File.fld2 rfl X8 (tp rfl))<|sg rfl rfl (λ hg=>ze rfl kT9 (zf hg rfl))<|sg rfl rfl (λ hg=>zh File.fld2 rfl X8 (tp rfl))<|sg rfl rfl (λ hg=>ze rfl kT9 (zf hg rfl))<|sg rfl rfl (λ hg=>ws rfl (zf hg rfl) (zf hg rfl))<|sc rfl (zW rfl (tp rfl) (zb rfl))<|sc rfl (oA rfl (tp rfl))<|.nil) [4] (λ _ _ st2=>?_)
 refine wp_ret ?_
 exact st2.ret rfl rfl h
def xG(x0:Str)(s4:Int):Option (Int⊕(Unit⊕Bool)):=
if(cmpI .lss s4 (x0.l.length:Int))=true then((atI x0.l s4).bind λ v10=>
(gO (cmpB .lss v10 (UInt8.ofNat 97) == false) (atI x0.l s4)).bind λ v11=>
if(cmpB .lss v10 (UInt8.ofNat 97)||cmpB .gtr v11 (UInt8.ofNat 122))=true then(some (.inr (.inr false)))
else((i64 (s4+(1:Int))).bind λ v20=>
some (.inl v20)))
else(some (.inr (.inl ())))
def yE(x0:Str):Option Bool:=
Option.bind (α:=Unit⊕Bool) (zX (λ s4=>xG x0 s4) (0:Int)) (Sum.elim (λ _b2=>
(yD (x0.l.length:Int) (1:Int) (3:Int)).bind λ v25=>
some v25) some)
theorem wM{x0:Str}{r:Bool}(h:yE x0=some r):Fn Tryz.prog 87 [dt x0] (dt r):=by
 unfold yE at h
 refine fnx (fn:=Tryz.f87) 0 Tryz.func87 rfl (of_decide_eq_true rfl) rfl (λ M w0 _ st0=>?_)
 refine st0.sq1 [0] (λ _ _ st1=>?_)
 obtain⟨o2,p2,k2⟩:=bs h
 refine zo (λ a w=>∃ b2,o2=.inl b2/\Sx (Frm.of w0) 23 M M [] [(0,dt x0)] [] a w) ?_ ?_
 ·
  refine st1.sq1 [0,5,6] (λ _ _ st3=>?_)
  refine wp_block ?_
  refine zO p2 (λ s4 a w=>Sx (Frm.of w0) 23 M M [] [(0,dt x0),(5,dt (x0.l.length:Int)),(6,dt s4)] [] a w) (st3.sel0 [0,5,6] rfl) ?_
  rintro s4 x4 a4 w4 st4 hs4 hx4
  have h5:xG x0 s4=some x4:=hs4
  unfold xG at h5
  refine st4.sq1 [0,5,6,7] (λ _ _ st6=>?_)
  refine wp_seq ?_
  refine st6.cs rfl h5 (λ _ h7=>?_) (λ _ h8=>?_)
  ·
   refine wp_skip (za (wp_seq (wp_block ?_)))
   refine st6.sq1 [0,3,5,6] (λ _ _ st9=>?_)
   obtain⟨v10,p10,h12⟩:=bs h7
   obtain⟨v11,p11,h13⟩:=bs h12
   refine st9.sq2 (sc rfl (oM rfl (tp rfl))<|sc rfl (oM rfl (tp rfl))<|sc rfl (xByte rfl kX9 (tp rfl) (tp rfl) p10)<|sc rfl (oCB rfl (tp rfl) (Ya (by decide)))<|sc rfl (oM rfl (tp rfl))<|sg rfl rfl (λ hg=>oM rfl (tp rfl))<|sg rfl rfl (λ hg=>oM rfl (tp rfl))<|sg rfl rfl (λ hg=>xByte rfl kX9 (zf hg rfl) (zf hg rfl) (gh hg p11))<|sg rfl rfl (λ hg=>oCB rfl (zf hg rfl) (Ya (by decide)))<|sc rfl (xv rfl (tp rfl) (zb rfl))<|.nil) [0,5,6,18] (λ _ _ st14=>?_)
   refine st14.cs rfl h13 (λ _ h15=>?_) (λ _ h16=>?_)
   ·
    refine st14.sq1 [2] (λ _ _ st17=>?_)
    refine wp_ret (zr (zd (zd (zr (zd ?_)))))
    have h18:=lo h15 hx4
    have h19:=jo h18 k2
    exact st17.ret rfl rfl h19
   refine wp_skip (zi (za ?_))
   obtain⟨v20,p20,h21⟩:=bs h16
   refine st14.rg1 [0,5,6] (λ _ _ st22=>?_)
   refine za ?_
   exact⟨_,(Option.some.inj h21).symm,st22.sel0 [0,5,6] rfl⟩
  refine wp_exit (zn (zn (zG ?_)))
  refine za ?_
  have h23:=lo h8 hx4
  exact⟨_,(Option.some.inj h23).symm,st6.sel0 [0] rfl⟩
 rintro a2 w2 ⟨b2,rfl,st2⟩
 have h24:=jn k2
 obtain⟨v25,p25,h26⟩:=bsW h24 jz
 refine st2.sq1 [2] (λ _ _ st27=>?_)
 refine wp_ret ?_
 exact st27.ret rfl rfl h26
def yC(x0:List Int)(x1:Int)(s4:Int):Option (Int⊕(Unit⊕Int)):=
if(cmpI .lss s4 (x0.length:Int))=true then((atI x0 s4).bind λ v10=>
if(cmpI .eql x1 v10)=true then(some (.inr (.inr s4)))
else((i64 (s4+(1:Int))).bind λ v18=>
some (.inl v18)))
else(some (.inr (.inl ())))
def xA(x0:List Int)(x1:Int):Option Int:=
Option.bind (α:=Unit⊕Int) (zX (λ s4=>yC x0 x1 s4) (0:Int)) (Sum.elim (λ _b2=>
some (-1:Int)) some)
theorem XE{x0:List Int}{x1:Int}{r:Int}(h:xA x0 x1=some r):Fn Tryz.prog 154 [dt x0,dt x1] (dt r):=by
 unfold xA at h
 refine fnx (fn:=Tryz.f154) 0 Tryz.func154 rfl (of_decide_eq_true rfl) rfl (λ M w0 _ st0=>?_)
 refine st0.sq1 [0,1] (λ _ _ st1=>?_)
 obtain⟨o2,p2,k2⟩:=bs h
 refine zo (λ a w=>∃ b2,o2=.inl b2/\Sx (Frm.of w0) 19 M M [] [] [] a w) ?_ ?_
 ·
  refine st1.sq1 [0,1,7,8] (λ _ _ st3=>?_)
  refine wp_block ?_
  refine zO p2 (λ s4 a w=>Sx (Frm.of w0) 19 M M [] [(0,dt x0),(1,dt x1),(7,dt (x0.length:Int)),(8,dt s4)] [] a w) (st3.sel0 [0,1,7,8] rfl) ?_
  rintro s4 x4 a4 w4 st4 hs4 hx4
  have h5:yC x0 x1 s4=some x4:=hs4
  unfold yC at h5
  refine st4.sq1 [0,1,7,8,9] (λ _ _ st6=>?_)
  refine wp_seq ?_
  refine st6.cs rfl h5 (λ _ h7=>?_) (λ _ h8=>?_)
  ·
   refine wp_skip (za (wp_seq (wp_block ?_)))
   refine st6.sq1 [0,1,5,7,8] (λ _ _ st9=>?_)
   obtain⟨v10,p10,h11⟩:=bs h7
   refine st9.sq1 [0,1,5,7,8,16] (λ _ _ st12=>?_)
   refine st12.cs rfl h11 (λ _ h13=>?_) (λ _ h14=>?_)
   ·
    refine st12.sq1 [4] (λ _ _ st15=>?_)
    refine wp_ret (zr (zd (zd (zr (zd ?_)))))
    have h16:=lo h13 hx4
    have h17:=jo h16 k2
    exact st15.ret rfl rfl h17
   refine wp_skip (zi (za ?_))
   obtain⟨v18,p18,h19⟩:=bs h14
   refine st12.rg1 [0,1,7,8] (λ _ _ st20=>?_)
   refine za ?_
   exact⟨_,(Option.some.inj h19).symm,st20.sel0 [0,1,7,8] rfl⟩
  refine wp_exit (zn (zn (zG ?_)))
  refine za ?_
  have h21:=lo h8 hx4
  exact⟨_,(Option.some.inj h21).symm,st6.sel0 [] rfl⟩
 rintro a2 w2 ⟨b2,rfl,st2⟩
 have h22:=jn k2
 refine st2.sq1 [4] (λ _ _ st23=>?_)
 refine wp_ret ?_
 exact st23.ret rfl rfl h22
def zY(x0:List Str)(x1:Str)(s4:Int):Option (Int⊕(Unit⊕Int)):=
if(cmpI .lss s4 (x0.length:Int))=true then((atI x0 s4).bind λ v10=>
if(decide (x1=v10))=true then(some (.inr (.inr s4)))
else((i64 (s4+(1:Int))).bind λ v18=>
some (.inl v18)))
else(some (.inr (.inl ())))
def xi(x0:List Str)(x1:Str):Option Int:=
Option.bind (α:=Unit⊕Int) (zX (λ s4=>zY x0 x1 s4) (0:Int)) (Sum.elim (λ _b2=>
some (-1:Int)) some)
theorem Ye{x0:List Str}{x1:Str}{r:Int}(h:xi x0 x1=some r):Fn Tryz.prog 159 [dt x0,dt x1] (dt r):=by
 unfold xi at h
 refine fnx (fn:=Tryz.f159) 0 Tryz.func159 rfl (of_decide_eq_true rfl) rfl (λ M w0 _ st0=>?_)
 refine st0.sq1 [0,1] (λ _ _ st1=>?_)
 obtain⟨o2,p2,k2⟩:=bs h
 refine zo (λ a w=>∃ b2,o2=.inl b2/\Sx (Frm.of w0) 19 M M [] [] [] a w) ?_ ?_
 ·
  refine st1.sq1 [0,1,7,8] (λ _ _ st3=>?_)
  refine wp_block ?_
  refine zO p2 (λ s4 a w=>Sx (Frm.of w0) 19 M M [] [(0,dt x0),(1,dt x1),(7,dt (x0.length:Int)),(8,dt s4)] [] a w) (st3.sel0 [0,1,7,8] rfl) ?_
  rintro s4 x4 a4 w4 st4 hs4 hx4
  have h5:zY x0 x1 s4=some x4:=hs4
  unfold zY at h5
  refine st4.sq1 [0,1,7,8,9] (λ _ _ st6=>?_)
  refine wp_seq ?_
  refine st6.cs rfl h5 (λ _ h7=>?_) (λ _ h8=>?_)
  ·
   refine wp_skip (za (wp_seq (wp_block ?_)))
   refine st6.sq1 [0,1,5,7,8] (λ _ _ st9=>?_)
   obtain⟨v10,p10,h11⟩:=bs h7
   refine st9.sq1 [0,1,5,7,8,16] (λ _ _ st12=>?_)
   refine st12.cs rfl h11 (λ _ h13=>?_) (λ _ h14=>?_)
   ·
    refine st12.sq1 [4] (λ _ _ st15=>?_)
    refine wp_ret (zr (zd (zd (zr (zd ?_)))))
    have h16:=lo h13 hx4
    have h17:=jo h16 k2
    exact st15.ret rfl rfl h17
   refine wp_skip (zi (za ?_))
   obtain⟨v18,p18,h19⟩:=bs h14
   refine st12.rg1 [0,1,7,8] (λ _ _ st20=>?_)
   refine za ?_
   exact⟨_,(Option.some.inj h19).symm,st20.sel0 [0,1,7,8] rfl⟩
  refine wp_exit (zn (zn (zG ?_)))
  refine za ?_
  have h21:=lo h8 hx4
  exact⟨_,(Option.some.inj h21).symm,st6.sel0 [] rfl⟩
 rintro a2 w2 ⟨b2,rfl,st2⟩
 have h22:=jn k2
 refine st2.sq1 [4] (λ _ _ st23=>?_)
 refine wp_ret ?_
 exact st23.ret rfl rfl h22
def yZ(x0:List Int)(x1:Int):Option Bool:=
(xA x0 x1).bind λ v2=>
some (cmpI .geq v2 (0:Int))
theorem YM{x0:List Int}{x1:Int}{r:Bool}(h:yZ x0 x1=some r):Fn Tryz.prog 85 [dt x0,dt x1] (dt r):=by
 unfold yZ at h
 refine fnx (fn:=Tryz.f85) 0 Tryz.func85 rfl (of_decide_eq_true rfl) rfl (λ M _ _ st0=>?_)
 refine st0.sq1 [0,1] (λ _ _ st1=>?_)
 obtain⟨v2,p2,h3⟩:=bsW h XE
 refine st1.sq1 [4] (λ _ _ st4=>?_)
 refine wp_ret ?_
 exact st4.ret rfl rfl h3
def yg(x0:List Str)(x1:Str):Option Bool:=
(xi x0 x1).bind λ v2=>
some (cmpI .geq v2 (0:Int))
theorem ZF{x0:List Str}{x1:Str}{r:Bool}(h:yg x0 x1=some r):Fn Tryz.prog 92 [dt x0,dt x1] (dt r):=by
 unfold yg at h
 refine fnx (fn:=Tryz.f92) 0 Tryz.func92 rfl (of_decide_eq_true rfl) rfl (λ M _ _ st0=>?_)
 refine st0.sq1 [0,1] (λ _ _ st1=>?_)
 obtain⟨v2,p2,h3⟩:=bsW h Ye
 refine st1.sq1 [4] (λ _ _ st4=>?_)
 refine wp_ret ?_
 exact st4.ret rfl rfl h3
open Go.RowKit
set_option maxRecDepth 10000
theorem kE39:elB Tryz.prog 39 9 1 16=true:=by kernel_rfl
theorem kZ9:y9 Tryz.prog 9=some Zl:=by kernel_rfl
def yI(x0:Str)(x1:Str):Option Bool:=
(gO (cmpI .geq (x0.l.length:Int) (x1.l.length:Int) == true) (cutHO x0 (x1.l.length:Int))).bind λ v2=>
some (cmpI .geq (x0.l.length:Int) (x1.l.length:Int)&&decide (v2=x1))
theorem Zx{x0:Str}{x1:Str}{r:Bool}(h:yI x0 x1=some r):Fn Tryz.prog 290 [dt x0,dt x1] (dt r):=by
 unfold yI at h
 refine fnx (fn:=Tryz.f290) 0 Tryz.func290 rfl (of_decide_eq_true rfl) rfl (λ M _ _ st0=>?_)
 refine st0.sq1 [0,1] (λ _ _ st1=>?_)
 obtain⟨v2,p2,h3⟩:=bs h
 refine st1.sq2 (sc rfl (oM rfl (tp rfl))<|sc rfl (Zq rfl kX9 (tp rfl))<|sc rfl (oM rfl (tp rfl))<|sc rfl (Zq rfl kX9 (tp rfl))<|sc rfl (oCI rfl (tp rfl) (tp rfl))<|sc rfl (oM rfl (tp rfl))<|sg rfl rfl (λ hg=>oM rfl (tp rfl))<|sg rfl rfl (λ hg=>oM rfl (tp rfl))<|sg rfl rfl (λ hg=>Zq rfl kX9 (zf hg rfl))<|sg rfl rfl (λ hg=>xCutH rfl kX9 (zf hg rfl) (zf hg rfl) (gh hg p2))<|sg rfl rfl (λ hg=>oM rfl (tp rfl))<|sg rfl rfl (λ hg=>ws rfl (zf hg rfl) (zf hg rfl))<|sc rfl (zW rfl (tp rfl) (zb rfl))<|sc rfl (oA rfl (tp rfl))<|.nil) [4] (λ _ _ st4=>?_)
 refine wp_ret ?_
 exact st4.ret rfl rfl h3
def ww(x0:Str)(x1:Str):Option Bool:=
(yI x0 x1).bind λ v2=>
some v2
theorem WB{x0:Str}{x1:Str}{r:Bool}(h:ww x0 x1=some r):Fn Tryz.prog 283 [dt x0,dt x1] (dt r):=by
 unfold ww at h
 refine fnx (fn:=Tryz.f283) 0 Tryz.func283 rfl (of_decide_eq_true rfl) rfl (λ M _ _ st0=>?_)
 refine st0.sq1 [0,1] (λ _ _ st1=>?_)
 obtain⟨v2,p2,h3⟩:=bsW h Zx
 refine st1.sq1 [4] (λ _ _ st4=>?_)
 refine wp_ret ?_
 exact st4.ret rfl rfl h3
def zF(x0:Str)(x1:UInt8)(s6:Int):Option (Int⊕(Unit⊕Int)):=
if(cmpI .geq s6 (0:Int))=true then((atI x0.l s6).bind λ v11=>
if(cmpB .eql v11 x1)=true then(some (.inr (.inr s6)))
else((i64 (s6 - (1:Int))).bind λ v19=>
some (.inl v19)))
else(some (.inr (.inl ())))
def yp(x0:Str)(x1:UInt8):Option Int:=
Option.bind (α:=Unit⊕Int) ((i64 ((x0.l.length:Int) - (1:Int))).bind λ v3=>
zX (λ s6=>zF x0 x1 s6) v3) (Sum.elim (λ _b2=>
some (-1:Int)) some)
theorem qo{x0:Str}{x1:UInt8}{r:Int}(h:yp x0 x1=some r):Fn Tryz.prog 210 [dt x0,dt x1] (dt r):=by
 unfold yp at h
 refine fnx (fn:=Tryz.f210) 0 Tryz.func210 rfl (of_decide_eq_true rfl) rfl (λ M w0 _ st0=>?_)
 refine st0.sq1 [0,1] (λ _ _ st1=>?_)
 obtain⟨o2,p2,k2⟩:=bs h
 refine zo (λ a w=>∃ b2,o2=.inl b2/\Sx (Frm.of w0) 19 M M [] [] [] a w) ?_ ?_
 ·
  obtain⟨v3,p3,h4⟩:=bs p2
  refine st1.sq1 [0,1,5] (λ _ _ st5=>?_)
  refine wp_block ?_
  refine zO h4 (λ s6 a w=>Sx (Frm.of w0) 19 M M [] [(0,dt x0),(1,dt x1),(5,dt s6)] [] a w) (st5.sel0 [0,1,5] rfl) ?_
  rintro s6 x6 a6 w6 st6 hs6 hx6
  have h7:zF x0 x1 s6=some x6:=hs6
  unfold zF at h7
  refine wp_seq ?_
  refine st6.sq1 [0,1,5,10] (λ _ _ st8=>?_)
  refine st8.cs rfl h7 (λ _ h9=>?_) (λ _ h10=>?_)
  ·
   refine wp_skip (za (wp_seq (wp_block ?_)))
   obtain⟨v11,p11,h12⟩:=bs h9
   refine st8.sq2 (sc rfl (oM rfl (tp rfl))<|sc rfl (oM rfl (tp rfl))<|sc rfl (xByte rfl kX9 (tp rfl) (tp rfl) p11)<|sc rfl (oM rfl (tp rfl))<|sc rfl (oCB rfl (tp rfl) (tp rfl))<|.nil) [0,1,5,17] (λ _ _ st13=>?_)
   refine st13.cs rfl h12 (λ _ h14=>?_) (λ _ h15=>?_)
   ·
    refine st13.sq1 [4] (λ _ _ st16=>?_)
    refine wp_ret (zr (zd (zd (zr (zd ?_)))))
    have h17:=lo h14 hx6
    have h18:=jo h17 k2
    exact st16.ret rfl rfl h18
   refine wp_skip (zi (za ?_))
   obtain⟨v19,p19,h20⟩:=bs h15
   refine st13.rg1 [0,1,5] (λ _ _ st21=>?_)
   refine za ?_
   exact⟨_,(Option.some.inj h20).symm,st21.sel0 [0,1,5] rfl⟩
  refine wp_exit (zn (zn (zG ?_)))
  refine za ?_
  have h22:=lo h10 hx6
  exact⟨_,(Option.some.inj h22).symm,st8.sel0 [] rfl⟩
 rintro a2 w2 ⟨b2,rfl,st2⟩
 have h23:=jn k2
 refine st2.sq1 [4] (λ _ _ st24=>?_)
 refine wp_ret ?_
 exact st24.ret rfl rfl h23
def zM(x0:Str)(x1:UInt8):Option Int:=
(yp x0 x1).bind λ v2=>
some v2
theorem Zm{x0:Str}{x1:UInt8}{r:Int}(h:zM x0 x1=some r):Fn Tryz.prog 171 [dt x0,dt x1] (dt r):=by
 unfold zM at h
 refine fnx (fn:=Tryz.f171) 0 Tryz.func171 rfl (of_decide_eq_true rfl) rfl (λ M _ _ st0=>?_)
 refine st0.sq1 [0,1] (λ _ _ st1=>?_)
 obtain⟨v2,p2,h3⟩:=bsW h qo
 refine st1.sq1 [4] (λ _ _ st4=>?_)
 refine wp_ret ?_
 exact st4.ret rfl rfl h3
def yH(x1:Str)(x2:Int)(v30:Int)(s35:Str×(List Str)×Int):Option ((Str×(List Str)×Int)⊕(Str×(List Str)×Int)):=
if(cmpI .lss s35.2.2 v30)=true then((wu s35.1 x1).bind λ v40=>
if(cmpI .lss v40 (0:Int))=true then(some (.inr (s35.1,s35.2.1,s35.2.2)))
else((i64 (v40+x2)).bind λ v47=>
(cutHO s35.1 v47).bind λ v48=>
(atI s35.2.1 s35.2.2).bind λ _v49=>
(setO s35.2.1 s35.2.2 v48).bind λ v55=>
(i64 (v40+(x1.l.length:Int))).bind λ v57=>
(cutLO s35.1 v57).bind λ v58=>
(i64 (s35.2.2+(1:Int))).bind λ v62=>
some (.inl (v58,v55,v62))))
else(some (.inr (s35.1,s35.2.1,s35.2.2)))
def jW(x0:Str)(x1:Str)(x2:Int)(x3:Int):Option (List Str):=
if(cmpI .eql x3 (0:Int))=true then(some ([]:List Str))
else(if(decide (x1=(⟨[]⟩:Str)))=true then((YS x0 x3).bind λ v9=>
some v9)
else(Option.bind (α:=Int) (if(cmpI .lss x3 (0:Int))=true then((q9 x0 x1).bind λ v16=>
(i64 (v16+(1:Int))).bind λ v17=>
some v17)
else(some x3)) λ o12=>
(i64 ((x0.l.length:Int)+(1:Int))).bind λ v22=>
(makeO 1 16 (if v22<o12 then v22 else o12) zStr).bind λ v27=>
(i64 ((if v22<o12 then v22 else o12) - (1:Int))).bind λ v30=>
Option.bind (α:=Str×(List Str)×Int) (zX (λ s35=>yH x1 x2 v30 s35) (x0,v27,(0:Int))) λ o34=>
(atI o34.2.1 o34.2.2).bind λ _v67=>
(setO o34.2.1 o34.2.2 o34.1).bind λ v71=>
(i64 (o34.2.2+(1:Int))).bind λ v74=>
(WH v71 v74).bind λ v75=>
some v75))
theorem W7{x0:Str}{x1:Str}{x2:Int}{x3:Int}{r:List Str}(h:jW x0 x1 x2 x3=some r):Fn Tryz.prog 155 [dt x0,dt x1,dt x2,dt x3] (dt r):=by
 unfold jW at h
 refine fnx (fn:=Tryz.f155) 1 Tryz.func155 rfl (of_decide_eq_true rfl) rfl (λ M w0 _ st0=>?_)
 refine st0.sq2 (sc rfl (oA rfl (qG (α:=Str)))<|.nil) [0,1,2,3] (λ _ _ st1=>?_)
 refine wp_seq ?_
 refine st1.sq1 [0,1,2,3,13] (λ _ _ st2=>?_)
 refine st2.cs rfl h (λ _ h3=>?_) (λ _ h4=>?_)
 ·
  refine st2.sq2 (sc rfl (oA rfl (qG (α:=Str)))<|.nil) [8] (λ _ _ st5=>?_)
  refine wp_ret (zd ?_)
  exact st5.ret rfl rfl h3
 refine wp_skip (za (wp_seq ?_))
 refine st2.sq1 [0,1,2,3,15] (λ _ _ st6=>?_)
 refine st6.cs rfl h4 (λ _ h7=>?_) (λ _ h8=>?_)
 ·
  obtain⟨v9,p9,h10⟩:=bsW h7 Jp
  refine st6.sq1 [8] (λ _ _ st11=>?_)
  refine wp_ret (zd ?_)
  exact st11.ret rfl rfl h10
 refine wp_skip (za ?_)
 obtain⟨o12,p12,k12⟩:=bs h8
 refine zo (λ a w=>∃ M1 q12_0,Sx (Frm.of w0) 66 M M1 [oneB q12_0] [(0,dt x0),(1,dt x1),(2,dt x2),(3,dt o12)] [] a w) ?_ ?_
 ·
  refine st6.sq1 [0,1,2,3,20] (λ _ _ st13=>?_)
  refine st13.cs rfl p12 (λ _ h14=>?_) (λ _ h15=>?_)
  ·
   obtain⟨v16,p16,h18⟩:=bsW h14 QJ
   obtain⟨v17,p17,h19⟩:=bs h18
   refine st13.rg1 [0,1,2,3] (λ _ _ st20=>?_)
   refine za ?_
   obtain rfl:=Option.some.inj h19
   exact⟨_,_,st20.sel [0,1,2,3] rfl [] rfl trivial⟩
  refine wp_skip (za ?_)
  obtain rfl:=Option.some.inj h15
  exact⟨_,_,st13.sel [0,1,2,3] rfl [] rfl trivial⟩
 rintro a12 w12 ⟨M12,q12_0,st12⟩
 have h21:=k12
 obtain⟨v22,p22,h23⟩:=bs h21
 refine st12.sq2 (sc rfl (oM rfl (tp rfl))<|sc rfl (oM rfl (tp rfl))<|sc rfl (Zq rfl kX9 (tp rfl))<|sc rfl (xAr rfl (tp rfl) cI p22)<|sc rfl (xMin rfl (tp rfl) (tp rfl))<|sc rfl (oA rfl (tp rfl))<|.nil) [0,1,2,3] (λ _ _ st24=>?_)
 refine wp_seq (wp_region_list ?_)
 refine st24.segA 1 [0,1,2,3,30] [] (λ _ _ st25=>?_)
 obtain⟨v27,p27,h28⟩:=bs h23
 refine st25.make 0 rfl rfl kE39 kZ9 YQ rfl (by simp) p27 [0,1,2,3] rfl [] rfl rfl (λ g26 M26 _ _ st26=>?_)
 refine st26.segA 1 [0,1,2,3] [(9,0)] (λ _ _ st29=>?_)
 refine wpList_nil (za ?_)
 obtain⟨v30,p30,h31⟩:=bs h28
 refine st29.sqA [0,1,2,3] [(9,0)] (λ _ _ st32=>?_)
 refine st32.sqA [0,1,2,3,10] [(9,0)] (λ _ _ st33=>?_)
 obtain⟨o34,p34,k34⟩:=bs h31
 refine zo (λ a w=>∃ M1 q34_0,Sx (Frm.of w0) 66 M M1 [oneB q34_0] [(0,dt o34.1),(10,dt o34.2.2)] [(9,0,dtip q34_0 9 o34.2.1)] a w) ?_ ?_
 ·
  refine wp_block ?_
  refine zO p34 (λ s35 a w=>∃ M1 q35_0,Sx (Frm.of w0) 66 M M1 [oneB q35_0] [(0,dt s35.1),(1,dt x1),(2,dt x2),(3,dt v30),(10,dt s35.2.2)] [(9,0,dtip q35_0 9 s35.2.1)] a w) ⟨_,_,st33.sel [0,1,2,3,10] rfl [(9,0)] rfl iT⟩ ?_
  rintro s35 x35 a35 w35 ⟨M35,q35_0,st35⟩ hs35 hx35
  have h36:yH x1 x2 v30 s35=some x35:=hs35
  unfold yH at h36
  refine wp_seq ?_
  refine st35.sqA [0,1,2,3,10,36] [(9,0)] (λ _ _ st37=>?_)
  refine st37.cs rfl h36 (λ _ h38=>?_) (λ _ h39=>?_)
  ·
   refine wp_skip (za (wp_block ?_))
   obtain⟨v40,p40,h41⟩:=bsW h38 QI
   refine st37.sqA [0,1,2,3,10,11] [(9,0)] (λ _ _ st42=>?_)
   refine wp_seq ?_
   refine st42.sqA [0,1,2,3,10,11,41] [(9,0)] (λ _ _ st43=>?_)
   refine st43.cs rfl h41 (λ _ h44=>?_) (λ _ h45=>?_)
   ·
    refine wp_exit (zn (exit_out (by decide) (zn (zG ?_))))
    refine za ?_
    have h46:=lo h44 hx35
    obtain rfl:=Option.some.inj h46
    exact⟨_,_,st43.sel [0,10] rfl [(9,0)] rfl iT⟩
   refine wp_skip (za (wp_seq (wp_region_list ?_)))
   obtain⟨v47,p47,h50⟩:=bs h45
   obtain⟨v48,p48,h51⟩:=bs h50
   obtain⟨v49,p49,h52⟩:=bs h51
   refine st43.segB 8 (sc rfl (oM rfl (tp rfl))<|sc rfl (oM rfl (tp rfl))<|sc rfl (oM rfl (tp rfl))<|sc rfl (oM rfl (tp rfl))<|sc rfl (oM rfl (tp rfl))<|sc rfl (xAr rfl (tp rfl) (tp rfl) p47)<|sc rfl (xCutH rfl kX9 (tp rfl) (tp rfl) p48)<|sc rfl (xIdxT rfl kS39 (tp rfl) (tp rfl) p49)<|.nil) [0,1,2,3,10,11,48] [(9,0),(49,0)] (λ _ _ st53=>?_)
   obtain⟨v55,p55,h56⟩:=bs h52
   refine st53.storeT (sb:=9) 0 rfl rfl rfl kT9 rfl rfl (tp rfl) rfl p55 [0,1,2,3,10,11] rfl [] rfl rfl (λ M54 _ st54=>?_)
   refine wpList_nil (za ?_)
   obtain⟨v57,p57,h59⟩:=bs h56
   obtain⟨v58,p58,h60⟩:=bs h59
   refine st54.sqB (sc rfl (oM rfl (tp rfl))<|sc rfl (oM rfl (tp rfl))<|sc rfl (oM rfl (tp rfl))<|sc rfl (Zq rfl kX9 (tp rfl))<|sc rfl (xAr rfl (tp rfl) (tp rfl) p57)<|sc rfl (xCutL rfl kX9 (tp rfl) (tp rfl) p58)<|sc rfl (oA rfl (tp rfl))<|.nil) [0,1,2,3,10] [(9,0)] (λ _ _ st61=>?_)
   obtain⟨v62,p62,h63⟩:=bs h60
   refine st61.rgA [0,1,2,3,10] [(9,0)] (λ _ _ st64=>?_)
   refine zi (za ?_)
   exact⟨_,(Option.some.inj h63).symm,⟨_,_,st64.sel [0,1,2,3,10] rfl [(9,0)] rfl iT⟩⟩
  refine wp_exit (zn (zn (zG ?_)))
  refine za ?_
  have h65:=lo h39 hx35
  obtain rfl:=Option.some.inj h65
  exact⟨_,_,st37.sel [0,10] rfl [(9,0)] rfl iT⟩
 rintro a34 w34 ⟨M34,q34_0,st34⟩
 have h66:=k34
 refine wp_seq (wp_region_list ?_)
 obtain⟨v67,p67,h68⟩:=bs h66
 refine st34.segB 4 (sc rfl (oM rfl (tp rfl))<|sc rfl (oM rfl (tp rfl))<|sc rfl (oM rfl (tp rfl))<|sc rfl (xIdxT rfl kS39 (tp rfl) (tp rfl) p67)<|.nil) [10,60] [(9,0),(61,0)] (λ _ _ st69=>?_)
 obtain⟨v71,p71,h72⟩:=bs h68
 refine st69.storeT (sb:=9) 0 rfl rfl rfl kT9 rfl rfl (tp rfl) rfl p71 [10] rfl [] rfl rfl (λ M70 _ st70=>?_)
 refine wpList_nil (za ?_)
 have st73:=st70.frz 0 (s:=9) rfl rfl [10] rfl [] rfl
 obtain⟨v74,p74,h76⟩:=bs h72
 obtain⟨v75,p75,h77⟩:=bs h76
 refine st73.sq2 (sc rfl (oM rfl (tp rfl))<|sc rfl (oM rfl (tp rfl))<|sc rfl (xAr rfl (tp rfl) cI p74)<|sc rfl (xSliH rfl kS39 (tp rfl) (tp rfl) p75)<|sc rfl (oA rfl (tp rfl))<|.nil) [8] (λ _ _ st78=>?_)
 refine wp_ret ?_
 exact st78.ret rfl rfl h77
def jk(x0:Str)(x1:Str):Option (List Str):=
(jW x0 x1 (0:Int) (-1:Int)).bind λ v2=>
some v2
theorem QK{x0:Str}{x1:Str}{r:List Str}(h:jk x0 x1=some r):Fn Tryz.prog 86 [dt x0,dt x1] (dt r):=by
 unfold jk at h
 refine fnx (fn:=Tryz.f86) 0 Tryz.func86 rfl (of_decide_eq_true rfl) rfl (λ M _ _ st0=>?_)
 refine st0.sq2 (sc rfl (oA rfl (qG (α:=Str)))<|.nil) [0,1] (λ _ _ st1=>?_)
 obtain⟨v2,p2,h3⟩:=bsW h W7
 refine st1.sq1 [4] (λ _ _ st4=>?_)
 refine wp_ret ?_
 exact st4.ret rfl rfl h3
open Go.RowKit
set_option maxRecDepth 10000
theorem kN87:fnB Tryz.prog 87=true:=by kernel_rfl
theorem kN28:fnB Tryz.prog 28=true:=by kernel_rfl
theorem kY39:zlB Tryz.prog 39=true:=by kernel_rfl
theorem kN171:fnB Tryz.prog 171=true:=by kernel_rfl
theorem kN151:fnB Tryz.prog 151=true:=by kernel_rfl
theorem kN283:fnB Tryz.prog 283=true:=by kernel_rfl
theorem kF173_0:fldB Tryz.prog 173 0 0=true:=by kernel_rfl
theorem WJ:bldB Tryz.prog 173 [1,1,1,1,1]=true:=by kernel_rfl
theorem WK:jU Tryz.prog 173 [1,1,1,1,1]=some Yy:=by kernel_rfl
theorem kZ173:y9 Tryz.prog 173=some zcStmt:=by kernel_rfl
theorem wx:tyB Tryz.prog 173 true 5=true:=by kernel_rfl
theorem Zb:fldB Tryz.prog 173 1 1=true:=by kernel_rfl
theorem kQ173:Jk Tryz.prog 173=true:=by kernel_rfl
theorem Ws:fldB Tryz.prog 173 4 4=true:=by kernel_rfl
theorem kF173_2:fldB Tryz.prog 173 2 2=true:=by kernel_rfl
theorem jX:fldB Tryz.prog 173 3 3=true:=by kernel_rfl
theorem kL92:isSl Tryz.prog 92=true:=by kernel_rfl
theorem kS92:slB Tryz.prog 92 5=true:=by kernel_rfl
theorem kN196:fnB Tryz.prog 196=true:=by kernel_rfl
theorem kF94_4:fldB Tryz.prog 94 4 4=true:=by kernel_rfl
theorem XF:fldB Tryz.prog 94 5 5=true:=by kernel_rfl
theorem kT92:tyB Tryz.prog 92 false 1=true:=by kernel_rfl
theorem kN152:fnB Tryz.prog 152=true:=by kernel_rfl
theorem kN153:fnB Tryz.prog 153=true:=by kernel_rfl
theorem qP:fldB Tryz.prog 30 0 0=true:=by kernel_rfl
theorem kT28:tyB Tryz.prog 28 false 1=true:=by kernel_rfl
theorem kL28:isSl Tryz.prog 28=true:=by kernel_rfl
theorem kS28:slB Tryz.prog 28 6=true:=by kernel_rfl
theorem kT94:tyB Tryz.prog 94 true 6=true:=by kernel_rfl
theorem kZ94:y9 Tryz.prog 94=some zcFile:=by kernel_rfl
theorem kN82:fnB Tryz.prog 82=true:=by kernel_rfl
theorem kN83:fnB Tryz.prog 83=true:=by kernel_rfl
theorem kN263:fnB Tryz.prog 263=true:=by kernel_rfl
theorem kZ119:y9 Tryz.prog 119=some zcSpec:=by kernel_rfl
theorem kY25:zlB Tryz.prog 25=true:=by kernel_rfl
theorem kB119:bldB Tryz.prog 119 [1,1,1]=true:=by kernel_rfl
theorem kC119:jU Tryz.prog 119 [1,1,1]=some zpSpec:=by kernel_rfl
theorem ju:tyB Tryz.prog 119 true 3=true:=by kernel_rfl
theorem kN85:fnB Tryz.prog 85=true:=by kernel_rfl
theorem kU104:isFn Tryz.prog 104=true:=by kernel_rfl
theorem kT30:tyB Tryz.prog 30 true 1=true:=by kernel_rfl
theorem kB94:bldB Tryz.prog 94 [1,1,1,1,1,1]=true:=by kernel_rfl
theorem kC94:jU Tryz.prog 94 [1,1,1,1,1,1]=some zpFile:=by kernel_rfl
theorem kN234:fnB Tryz.prog 234=true:=by kernel_rfl
theorem kN235:fnB Tryz.prog 235=true:=by kernel_rfl
theorem kE25:elB Tryz.prog 25 3 1 8=true:=by kernel_rfl
theorem kF119_0:fldB Tryz.prog 119 0 0=true:=by kernel_rfl
theorem kF119_2:fldB Tryz.prog 119 2 2=true:=by kernel_rfl
theorem kT25:tyB Tryz.prog 25 false 1=true:=by kernel_rfl
theorem kN207:fnB Tryz.prog 207=true:=by kernel_rfl
theorem kN26:fnB Tryz.prog 26=true:=by kernel_rfl
theorem kN27:fnB Tryz.prog 27=true:=by kernel_rfl
theorem kG119_0:fldVB Tryz.prog 119 0 0 false 1=true:=by kernel_rfl
def xH(v2:List Str)(s7:Int):Option (Int⊕(Unit⊕Bool)):=
if(cmpI .lss s7 (v2.length:Int))=true then((atI v2 s7).bind λ v12=>
(yE v12).bind λ v15=>
if(!v15)=true then(some (.inr (.inr false)))
else((i64 (s7+(1:Int))).bind λ v23=>
some (.inl v23)))
else(some (.inr (.inl ())))
def zZ(x0:Str):Option Bool:=
(jk x0 (⟨[46]⟩:Str)).bind λ v2=>
Option.bind (α:=Unit⊕Bool) (zX (λ s7=>xH v2 s7) (0:Int)) (Sum.elim (λ _b5=>
some (cmpI .leq (v2.length:Int) (3:Int))) some)
theorem yF{x0:Str}{r:Bool}(h:zZ x0=some r):Fn Tryz.prog 28 [dt x0] (dt r):=by
 unfold zZ at h
 refine fnx (fn:=Tryz.f28) 0 Tryz.func28 rfl (of_decide_eq_true rfl) rfl (λ M w0 _ st0=>?_)
 refine st0.sq1 [0] (λ _ _ st1=>?_)
 obtain⟨v2,p2,h3⟩:=bsW h QK
 refine st1.sq1 [3] (λ _ _ st4=>?_)
 obtain⟨o5,p5,k5⟩:=bs h3
 refine zo (λ a w=>∃ b5,o5=.inl b5/\Sx (Frm.of w0) 21 M M [] [(3,dt v2)] [] a w) ?_ ?_
 ·
  refine st4.sq1 [3,8,9,10] (λ _ _ st6=>?_)
  refine wp_block ?_
  refine zO p5 (λ s7 a w=>Sx (Frm.of w0) 21 M M [] [(3,dt v2),(8,dt v2),(9,dt (v2.length:Int)),(10,dt s7)] [] a w) (st6.sel0 [3,8,9,10] rfl) ?_
  rintro s7 x7 a7 w7 st7 hs7 hx7
  have h8:xH v2 s7=some x7:=hs7
  unfold xH at h8
  refine st7.sq1 [3,8,9,10,11] (λ _ _ st9=>?_)
  refine wp_seq ?_
  refine st9.cs rfl h8 (λ _ h10=>?_) (λ _ h11=>?_)
  ·
   refine wp_skip (za (wp_seq (wp_block ?_)))
   obtain⟨v12,p12,h13⟩:=bs h10
   refine st9.sq2 (sc rfl (xIdx rfl kS39 (tp rfl) (tp rfl) p12)<|sc rfl (ze rfl kT9 (tp rfl))<|sc rfl (oA rfl (tp rfl))<|.nil) [3,5,8,9,10] (λ _ _ st14=>?_)
   obtain⟨v15,p15,h16⟩:=bsW h13 wM
   refine st14.sq1 [3,8,9,10,16] (λ _ _ st17=>?_)
   refine st17.cs rfl h16 (λ _ h18=>?_) (λ _ h19=>?_)
   ·
    refine st17.sq1 [2] (λ _ _ st20=>?_)
    refine wp_ret (zr (zd (zd (zr (zd ?_)))))
    have h21:=lo h18 hx7
    have h22:=jo h21 k5
    exact st20.ret rfl rfl h22
   refine wp_skip (zi (za ?_))
   obtain⟨v23,p23,h24⟩:=bs h19
   refine st17.rg1 [3,8,9,10] (λ _ _ st25=>?_)
   refine za ?_
   exact⟨_,(Option.some.inj h24).symm,st25.sel0 [3,8,9,10] rfl⟩
  refine wp_exit (zn (zn (zG ?_)))
  refine za ?_
  have h26:=lo h11 hx7
  exact⟨_,(Option.some.inj h26).symm,st9.sel0 [3] rfl⟩
 rintro a5 w5 ⟨b5,rfl,st5⟩
 have h27:=jn k5
 refine st5.sq1 [2] (λ _ _ st28=>?_)
 refine wp_ret ?_
 exact st28.ret rfl rfl h27
def yW(x0:Str):Option Bool:=
(gO (decide (x0=(⟨[]⟩:Str)) == false) (zZ x0)).bind λ v2=>
some (decide (x0=(⟨[]⟩:Str))||v2)
theorem jI{x0:Str}{r:Bool}(h:yW x0=some r):Fn Tryz.prog 151 [dt x0] (dt r):=by
 unfold yW at h
 refine fnx (fn:=Tryz.f151) 0 Tryz.func151 rfl (of_decide_eq_true rfl) rfl (λ M _ _ st0=>?_)
 refine st0.sq1 [0] (λ _ _ st1=>?_)
 obtain⟨v2,p2,h3⟩:=bs h
 refine st1.sq2 (sc rfl (oM rfl (tp rfl))<|sc rfl (ws rfl (tp rfl) (zI (by decide)))<|sc rfl (oM rfl (tp rfl))<|sg rfl rfl (λ hg=>oM rfl (tp rfl))<|sg rfl rfl (λ hg=>zq (l:=[.tmp 6]) rfl kN28 (.cons (zf hg rfl) .nil) (yF (gh hg p2)))<|sc rfl (xv rfl (tp rfl) (zb rfl))<|sc rfl (oA rfl (tp rfl))<|.nil) [2] (λ _ _ st4=>?_)
 refine wp_ret ?_
 exact st4.ret rfl rfl h3
def yT(x0:Str):Option Str:=
(zM x0 (UInt8.ofNat 46)).bind λ v2=>
(zZ x0).bind λ v5=>
if((!v5)||cmpI .lss v2 (0:Int))=true then(some (⟨[]⟩:Str))
else((cutHO x0 v2).bind λ v11=>
some v11)
theorem Zc{x0:Str}{r:Str}(h:yT x0=some r):Fn Tryz.prog 110 [dt x0] (dt r):=by
 unfold yT at h
 refine fnx (fn:=Tryz.f110) 0 Tryz.func110 rfl (of_decide_eq_true rfl) rfl (λ M _ _ st0=>?_)
 refine st0.sq1 [0] (λ _ _ st1=>?_)
 obtain⟨v2,p2,h3⟩:=bsW h Zm
 refine st1.sq1 [0,3] (λ _ _ st4=>?_)
 refine wp_seq ?_
 obtain⟨v5,p5,h6⟩:=bs h3
 refine st4.sq2 (sc rfl (oM rfl (tp rfl))<|sc rfl (zq (l:=[.tmp 6]) rfl kN28 (.cons (tp rfl) .nil) (yF p5))<|sc rfl (yz rfl (tp rfl))<|sc rfl (oM rfl (tp rfl))<|sg rfl rfl (λ hg=>oM rfl (tp rfl))<|sg rfl rfl (λ hg=>oCI rfl (zf hg rfl) cI)<|sc rfl (xv rfl (tp rfl) (zb rfl))<|.nil) [0,3,12] (λ _ _ st7=>?_)
 refine st7.cs rfl h6 (λ _ h8=>?_) (λ _ h9=>?_)
 ·
  refine st7.sq2 (sc rfl (oA rfl (zI (by decide)))<|.nil) [2] (λ _ _ st10=>?_)
  refine wp_ret (zd ?_)
  exact st10.ret rfl rfl h8
 refine wp_skip (za ?_)
 obtain⟨v11,p11,h12⟩:=bs h9
 refine st7.sq2 (sc rfl (oM rfl (tp rfl))<|sc rfl (oM rfl (tp rfl))<|sc rfl (xCutH rfl kX9 (tp rfl) (tp rfl) p11)<|sc rfl (oA rfl (tp rfl))<|.nil) [2] (λ _ _ st13=>?_)
 refine wp_ret ?_
 exact st13.ret rfl rfl h12
def wI(x0:Str):Option Str:=
(zZ x0).bind λ v2=>
if(!v2)=true then(some (⟨[]⟩:Str))
else((zM x0 (UInt8.ofNat 46)).bind λ v8=>
(i64 (v8+(1:Int))).bind λ v9=>
(cutLO x0 v9).bind λ v10=>
some v10)
theorem WL{x0:Str}{r:Str}(h:wI x0=some r):Fn Tryz.prog 202 [dt x0] (dt r):=by
 unfold wI at h
 refine fnx (fn:=Tryz.f202) 0 Tryz.func202 rfl (of_decide_eq_true rfl) rfl (λ M _ _ st0=>?_)
 refine st0.sq2 (sc rfl (oA rfl (zI (by decide)))<|.nil) [0] (λ _ _ st1=>?_)
 refine wp_seq ?_
 obtain⟨v2,p2,h3⟩:=bsW h yF
 refine st1.sq1 [0,5] (λ _ _ st4=>?_)
 refine st4.cs rfl h3 (λ _ h5=>?_) (λ _ h6=>?_)
 ·
  refine st4.sq2 (sc rfl (oA rfl (zI (by decide)))<|.nil) [2] (λ _ _ st7=>?_)
  refine wp_ret (zd ?_)
  exact st7.ret rfl rfl h5
 refine wp_skip (za ?_)
 obtain⟨v8,p8,h11⟩:=bs h6
 obtain⟨v9,p9,h12⟩:=bs h11
 obtain⟨v10,p10,h13⟩:=bs h12
 refine st4.sq2 (sc rfl (oM rfl (tp rfl))<|sc rfl (oM rfl (tp rfl))<|sc rfl (zq (l:=[.tmp 7,.const (.int .u8 46)]) rfl kN171 (.cons (tp rfl) (.cons (Ya (by decide)) .nil)) (Zm p8))<|sc rfl (xAr rfl (tp rfl) cI p9)<|sc rfl (xCutL rfl kX9 (tp rfl) (tp rfl) p10)<|sc rfl (oA rfl (tp rfl))<|.nil) [2] (λ _ _ st14=>?_)
 refine wp_ret ?_
 exact st14.ret rfl rfl h13
def wc(x0:Str)(x1:Str):Option Str:=
(yW x0).bind λ v2=>
(gO ((!v2) == false) (yE x1)).bind λ v3=>
if((!v2)||(!v3))=true then(some (⟨[]⟩:Str))
else(Option.bind (α:=Str) (if(decide (x0≠(⟨[]⟩:Str)))=true then((catO x0 (⟨[46]⟩:Str)).bind λ v14=>
(catO v14 x1).bind λ v15=>
some v15)
else(some x1)) λ o10=>
(zZ o10).bind λ v20=>
if(!v20)=true then(some (⟨[]⟩:Str))
else(some o10))
theorem Yz{x0:Str}{x1:Str}{r:Str}(h:wc x0 x1=some r):Fn Tryz.prog 153 [dt x0,dt x1] (dt r):=by
 unfold wc at h
 refine fnx (fn:=Tryz.f153) 0 Tryz.func153 rfl (of_decide_eq_true rfl) rfl (λ M w0 _ st0=>?_)
 refine st0.sq1 [0,1] (λ _ _ st1=>?_)
 refine wp_seq ?_
 obtain⟨v2,p2,h4⟩:=bs h
 obtain⟨v3,p3,h5⟩:=bs h4
 refine st1.sq2 (sc rfl (oM rfl (tp rfl))<|sc rfl (zq (l:=[.tmp 5]) rfl kN151 (.cons (tp rfl) .nil) (jI p2))<|sc rfl (yz rfl (tp rfl))<|sc rfl (oM rfl (tp rfl))<|sg rfl rfl (λ hg=>oM rfl (tp rfl))<|sg rfl rfl (λ hg=>zq (l:=[.tmp 9]) rfl kN87 (.cons (zf hg rfl) .nil) (wM (gh hg p3)))<|sg rfl rfl (λ hg=>yz rfl (zf hg rfl))<|sc rfl (xv rfl (tp rfl) (zb rfl))<|.nil) [0,1,12] (λ _ _ st6=>?_)
 refine st6.cs rfl h5 (λ _ h7=>?_) (λ _ h8=>?_)
 ·
  refine st6.sq1 [4] (λ _ _ st9=>?_)
  refine wp_ret (zd ?_)
  exact st9.ret rfl rfl h7
 refine wp_skip (za ?_)
 obtain⟨o10,p10,k10⟩:=bs h8
 refine zo (λ a w=>Sx (Frm.of w0) 23 M M [] [(1,dt o10)] [] a w) ?_ ?_
 ·
  refine st6.sq2 (sc rfl (oM rfl (tp rfl))<|sc rfl (Yb rfl (tp rfl) (zI (by decide)))<|.nil) [0,1,14] (λ _ _ st11=>?_)
  refine st11.cs rfl p10 (λ _ h12=>?_) (λ _ h13=>?_)
  ·
   obtain⟨v14,p14,h16⟩:=bs h12
   obtain⟨v15,p15,h17⟩:=bs h16
   refine st11.rg2 (sc rfl (oM rfl (tp rfl))<|sc rfl (xCat rfl (tp rfl) (zI (by decide)) p14)<|sc rfl (oM rfl (tp rfl))<|sc rfl (xCat rfl (tp rfl) (tp rfl) p15)<|sc rfl (oA rfl (tp rfl))<|.nil) [1] (λ _ _ st18=>?_)
   refine za ?_
   obtain rfl:=Option.some.inj h17
   exact st18.sel0 [1] rfl
  refine wp_skip (za ?_)
  obtain rfl:=Option.some.inj h13
  exact st11.sel0 [1] rfl
 rintro a10 w10 st10
 have h19:=k10
 refine wp_seq ?_
 obtain⟨v20,p20,h21⟩:=bsW h19 yF
 refine st10.sq1 [1,21] (λ _ _ st22=>?_)
 refine st22.cs rfl h21 (λ _ h23=>?_) (λ _ h24=>?_)
 ·
  refine st22.sq2 (sc rfl (oA rfl (zI (by decide)))<|.nil) [4] (λ _ _ st25=>?_)
  refine wp_ret (zd ?_)
  exact st25.ret rfl rfl h23
 refine wp_skip (za ?_)
 refine st22.sq1 [4] (λ _ _ st26=>?_)
 refine wp_ret ?_
 exact st26.ret rfl rfl h24
def qq(x0:Str)(x1:Str):Option Bool:=
(zZ x0).bind λ v2=>
(gO ((!v2) == false) (yW x1)).bind λ v3=>
if((!v2)||(!v3))=true then(some false)
else((gO ((decide (x1=(⟨[]⟩:Str))||decide (x0=x1)) == false) (catO x1 (⟨[46]⟩:Str))).bind λ v10=>
(gO ((decide (x1=(⟨[]⟩:Str))||decide (x0=x1)) == false) (ww x0 v10)).bind λ v11=>
some ((decide (x1=(⟨[]⟩:Str))||decide (x0=x1))||v11))
theorem QZ{x0:Str}{x1:Str}{r:Bool}(h:qq x0 x1=some r):Fn Tryz.prog 263 [dt x0,dt x1] (dt r):=by
 unfold qq at h
 refine fnx (fn:=Tryz.f263) 0 Tryz.func263 rfl (of_decide_eq_true rfl) rfl (λ M _ _ st0=>?_)
 refine st0.sq1 [0,1] (λ _ _ st1=>?_)
 refine wp_seq ?_
 obtain⟨v2,p2,h4⟩:=bs h
 obtain⟨v3,p3,h5⟩:=bs h4
 refine st1.sq2 (sc rfl (oM rfl (tp rfl))<|sc rfl (zq (l:=[.tmp 5]) rfl kN28 (.cons (tp rfl) .nil) (yF p2))<|sc rfl (yz rfl (tp rfl))<|sc rfl (oM rfl (tp rfl))<|sg rfl rfl (λ hg=>oM rfl (tp rfl))<|sg rfl rfl (λ hg=>zq (l:=[.tmp 9]) rfl kN151 (.cons (zf hg rfl) .nil) (jI (gh hg p3)))<|sg rfl rfl (λ hg=>yz rfl (zf hg rfl))<|sc rfl (xv rfl (tp rfl) (zb rfl))<|.nil) [0,1,12] (λ _ _ st6=>?_)
 refine st6.cs rfl h5 (λ _ h7=>?_) (λ _ h8=>?_)
 ·
  refine st6.sq1 [4] (λ _ _ st9=>?_)
  refine wp_ret (zd ?_)
  exact st9.ret rfl rfl h7
 refine wp_skip (za ?_)
 obtain⟨v10,p10,h12⟩:=bs h8
 obtain⟨v11,p11,h13⟩:=bs h12
 refine st6.sq2 (sc rfl (oM rfl (tp rfl))<|sc rfl (ws rfl (tp rfl) (zI (by decide)))<|sc rfl (oM rfl (tp rfl))<|sg rfl rfl (λ hg=>oM rfl (tp rfl))<|sg rfl rfl (λ hg=>oM rfl (tp rfl))<|sg rfl rfl (λ hg=>ws rfl (zf hg rfl) (zf hg rfl))<|sc rfl (xv rfl (tp rfl) (zb rfl))<|sc rfl (oM rfl (tp rfl))<|sg rfl rfl (λ hg=>oM rfl (tp rfl))<|sg rfl rfl (λ hg=>oM rfl (tp rfl))<|sg rfl rfl (λ hg=>xCat rfl (zf hg rfl) (zI (by decide)) (gh hg p10))<|sg rfl rfl (λ hg=>zq (l:=[.tmp 21,.tmp 23]) rfl kN283 (.cons (zf hg rfl) (.cons (zf hg rfl) .nil)) (WB (gh hg p11)))<|sc rfl (xv rfl (tp rfl) (zb rfl))<|sc rfl (oA rfl (tp rfl))<|.nil) [4] (λ _ _ st14=>?_)
 refine wp_ret ?_
 exact st14.ret rfl rfl h13
def qU(x0:Stmt):Option Bool:=
Option.bind (α:=Bool) (if(cmpI .eql x0.kind (0:Int))=true then(some (cmpI .eql x0.kind (0:Int)))
else(some (cmpI .eql x0.kind (2:Int)))) λ o6=>
if o6=true then((gO (decide (x0={ (⟨x0.kind,⟨[]⟩,0,⟨[]⟩,0⟩:Stmt) with module:=x0.module }) == true) (zZ x0.module)).bind λ v16=>
some (decide (x0={ (⟨x0.kind,⟨[]⟩,0,⟨[]⟩,0⟩:Stmt) with module:=x0.module })&&v16))
else(if(cmpI .eql x0.kind (1:Int))=true then((gO (cmpI .eql x0.value (0:Int) == true) (yD x0.level (0:Int) (3:Int))).bind λ v22=>
(gO ((cmpI .eql x0.value (0:Int)&&v22) == true) (yE x0.name)).bind λ v23=>
(gO (((cmpI .eql x0.value (0:Int)&&v22)&&v23) == true) (zZ x0.module)).bind λ v24=>
some (((cmpI .eql x0.value (0:Int)&&v22)&&v23)&&(v24||(decide (x0.module=(⟨[]⟩:Str))&&cmpI .geq x0.level (1:Int)))))
else(if(cmpI .eql x0.kind (3:Int))=true then((gO (decide (x0={ { (⟨x0.kind,⟨[]⟩,0,⟨[]⟩,0⟩:Stmt) with name:=x0.name } with value:=x0.value }) == true) (yE x0.name)).bind λ v35=>
(gO ((decide (x0={ { (⟨x0.kind,⟨[]⟩,0,⟨[]⟩,0⟩:Stmt) with name:=x0.name } with value:=x0.value })&&v35) == true) (yD x0.value (0:Int) (99:Int))).bind λ v36=>
some ((decide (x0={ { (⟨x0.kind,⟨[]⟩,0,⟨[]⟩,0⟩:Stmt) with name:=x0.name } with value:=x0.value })&&v35)&&v36))
else(if(cmpI .eql x0.kind (4:Int))=true then((gO (decide (x0={ (⟨x0.kind,⟨[]⟩,0,⟨[]⟩,0⟩:Stmt) with name:=x0.name }) == true) (yE x0.name)).bind λ v45=>
some (decide (x0={ (⟨x0.kind,⟨[]⟩,0,⟨[]⟩,0⟩:Stmt) with name:=x0.name })&&v45))
else(if(cmpI .eql x0.kind (5:Int))=true then(some (decide (x0=(⟨x0.kind,⟨[]⟩,0,⟨[]⟩,0⟩:Stmt))))
else(some false)))))
theorem impl_stmtOk_w{x0:Stmt}{r:Bool}(h:qU x0=some r):Fn Tryz.prog 196 [dt x0] (dt r):=by
 unfold qU at h
 refine fnx (fn:=Tryz.f196) 1 Tryz.func196 rfl (of_decide_eq_true rfl) rfl (λ M w0 _ st0=>?_)
 refine st0.sq1 [1] (λ _ _ st1=>?_)
 refine wp_seq (wp_region_list ?_)
 refine st1.segB 3 (sc rfl (zh Stmt.fld0 rfl kF173_0 (tp rfl))<|sc rfl (ze rfl kT3 (tp rfl))<|sc rfl (zV (parts:=[(0,.tmp 5)]) (ns:=[1,1,1,1,1]) (zs:=Yy) rfl rfl WJ WK (λ w a hl=>by
 intro p hp;simp only[List.mem_cons,List.not_mem_nil,or_false] at hp
 rcases hp with rfl
 ·
  exact⟨by decide,Rep.len (α:=Int) (OpdR.cells (tp rfl) hl)⟩) (λ w a hl=>Stmt.parts (x:=(⟨x0.kind,⟨[]⟩,0,⟨[]⟩,0⟩:Stmt)) (OpdR.cells (tp rfl) hl) xx ⟨rfl,trivial⟩ xx ⟨rfl,trivial⟩))<|.nil) [1,6] [] (λ _ _ st2=>?_)
 refine st2.alloc 0 rfl rfl kZ173 zrStmt (by simp) [1,6] rfl [] rfl rfl (λ b3 M3 _ _ st3=>?_)
 refine st3.store (sb:=3) 0 FldS.id rfl rfl rfl wx rfl rfl (tp rfl) rfl [1] rfl [] rfl rfl (λ M4 _ st4=>?_)
 refine wpList_nil (za (wp_seq ?_))
 refine st4.sqA [1,8] [(3,0)] (λ _ _ st5=>?_)
 refine wp_block ?_
 obtain⟨o6,p6,k6⟩:=bs h
 refine zo (λ a w=>∃ M1 q6_0,Sx (Frm.of w0) 92 M M1 [oneB q6_0] [(1,dptr x0),(8,dt x0.kind),(9,dt o6)] [(3,0,dbox q6_0 0 (⟨x0.kind,⟨[]⟩,0,⟨[]⟩,0⟩:Stmt))] a w) ?_ ?_
 ·
  refine st5.sqA [1,8,9] [(3,0)] (λ _ _ st7=>?_)
  refine st7.cs rfl p6 (λ _ h8=>?_) (λ _ h9=>?_)
  ·
   refine wp_skip (za ?_)
   obtain rfl:=Option.some.inj h8
   exact⟨_,_,st7.sel [1,8,9] rfl [(3,0)] rfl iT⟩
  refine st7.rgA [1,8,9] [(3,0)] (λ _ _ st10=>?_)
  refine za ?_
  obtain rfl:=Option.some.inj h9
  exact⟨_,_,st10.sel [1,8,9] rfl [(3,0)] rfl iT⟩
 rintro a6 w6 ⟨M6,q6_0,st6⟩
 have h11:=k6
 refine st6.cs rfl h11 (λ _ h12=>?_) (λ _ h13=>?_)
 ·
  refine wp_seq (wp_region_list ?_)
  refine st6.segB 3 (sc rfl (zh Stmt.fld1 rfl Zb (tp rfl))<|sc rfl (ze rfl kT9 (tp rfl))<|sc rfl (yu Stmt.fld1 rfl Zb (tp rfl))<|.nil) [1,13] [(3,0),(14,0)] (λ _ _ st14=>?_)
  refine st14.store (sb:=3) 0 Stmt.set1 rfl rfl rfl kT9 rfl rfl (tp rfl) rfl [1] rfl [] rfl rfl (λ M15 _ st15=>?_)
  refine wpList_nil (za ?_)
  obtain⟨v16,p16,h17⟩:=bs h12
  refine st15.sq2 (sc rfl (ze rfl wx (tp rfl))<|sc rfl (zN rfl wx (tp rfl))<|sc rfl (Xg rfl kQ173 (tp rfl) (tp rfl))<|sc rfl (oM rfl (tp rfl))<|sg rfl rfl (λ hg=>zh Stmt.fld1 rfl Zb (tp rfl))<|sg rfl rfl (λ hg=>ze rfl kT9 (zf hg rfl))<|sg rfl rfl (λ hg=>zq (l:=[.tmp 20]) rfl kN28 (.cons (zf hg rfl) .nil) (yF (gh hg p16)))<|sc rfl (zW rfl (tp rfl) (zb rfl))<|sc rfl (oA rfl (tp rfl))<|.nil) [2] (λ _ _ st18=>?_)
  refine wp_ret (zr (zd ?_))
  exact st18.ret rfl rfl h17
 refine st6.sqA [1,8,23] [(3,0)] (λ _ _ st19=>?_)
 refine st19.cs rfl h13 (λ _ h20=>?_) (λ _ h21=>?_)
 ·
  obtain⟨v22,p22,h25⟩:=bs h20
  obtain⟨v23,p23,h26⟩:=bs h25
  obtain⟨v24,p24,h27⟩:=bs h26
  refine st19.sq2 (sc rfl (zh Stmt.fld4 rfl Ws (tp rfl))<|sc rfl (ze rfl kT3 (tp rfl))<|sc rfl (oCI rfl (tp rfl) cI)<|sc rfl (oM rfl (tp rfl))<|sg rfl rfl (λ hg=>zh Stmt.fld2 rfl kF173_2 (tp rfl))<|sg rfl rfl (λ hg=>ze rfl kT3 (zf hg rfl))<|sg rfl rfl (λ hg=>zq (l:=[.tmp 30,.const (.int .i64 0),.const (.int .i64 3)]) rfl kN84 (.cons (zf hg rfl) (.cons cI (.cons cI .nil))) (jz (gh hg p22)))<|sc rfl (zW rfl (tp rfl) (zb rfl))<|sc rfl (oM rfl (tp rfl))<|sg rfl rfl (λ hg=>zh Stmt.fld3 rfl jX (tp rfl))<|sg rfl rfl (λ hg=>ze rfl kT9 (zf hg rfl))<|sg rfl rfl (λ hg=>zq (l:=[.tmp 35]) rfl kN87 (.cons (zf hg rfl) .nil) (wM (gh hg p23)))<|sc rfl (zW rfl (tp rfl) (zb rfl))<|sc rfl (oM rfl (tp rfl))<|sg rfl rfl (λ hg=>zh Stmt.fld1 rfl Zb (tp rfl))<|sg rfl rfl (λ hg=>ze rfl kT9 (zf hg rfl))<|sg rfl rfl (λ hg=>zq (l:=[.tmp 40]) rfl kN28 (.cons (zf hg rfl) .nil) (yF (gh hg p24)))<|sg rfl rfl (λ hg=>oM rfl (zf hg rfl))<|sgg rfl rfl (λ hg=>zh Stmt.fld1 rfl Zb (tp rfl))<|sgg rfl rfl (λ hg=>ze rfl kT9 (zf hg rfl))<|sgg rfl rfl (λ hg=>ws rfl (zf hg rfl) (zI (by decide)))<|sgg rfl rfl (λ hg=>oM rfl (zf hg rfl))<|sgg rfl rfl (λ hg=>zh Stmt.fld2 rfl kF173_2 (tp rfl))<|sgg rfl rfl (λ hg=>ze rfl kT3 (zf hg rfl))<|sgg rfl rfl (λ hg=>oCI rfl (zf hg rfl) cI)<|sgg rfl rfl (λ hg=>zW rfl (zf hg rfl) (XX hg rfl))<|sg rfl rfl (λ hg=>xv rfl (zf hg rfl) (XX hg rfl))<|sc rfl (zW rfl (tp rfl) (zb rfl))<|sc rfl (oA rfl (tp rfl))<|.nil) [2] (λ _ _ st28=>?_)
  refine wp_ret (zr (zd ?_))
  exact st28.ret rfl rfl h27
 refine st19.sqA [1,8,53] [(3,0)] (λ _ _ st29=>?_)
 refine st29.cs rfl h21 (λ _ h30=>?_) (λ _ h31=>?_)
 ·
  refine wp_seq ?_
  refine st29.late (D:=[_,_,_,_,_,X5]) (sb:=3) 0 Stmt.set3 zK 6 5 [[],[0],[],[2],[0,1],[0,1,4],[0,1,2,3,4,5],[0,1,2,3,4,5,6]] [[(1,none)],[(55,some 0)],[(1,none)],[(57,some 2)],[(3,none)],[(59,some 4),(56,some 1)],[(3,none)],[(60,some 6),(58,some 3)]] (by decide +kernel) (by decide) (by decide) rfl (
   lc rfl rfl rfl (zh Stmt.fld3 rfl jX (tp rfl))<|lc rfl rfl rfl (ze rfl kT9 (tp rfl))<|lc rfl rfl rfl (zh Stmt.fld4 rfl Ws (tp rfl))<|lc rfl rfl rfl (ze rfl kT3 (tp rfl))<|lc rfl rfl rfl (yu Stmt.fld3 rfl jX (tp rfl))<|ll rfl<|.nil) rfl rfl rfl rfl kT9 rfl rfl (tp rfl) rfl [1,58] rfl [] rfl rfl rfl (λ _ _ st32=>?_)
  refine st32.segB 1 (sc rfl (yu Stmt.fld4 rfl Ws (tp rfl))<|.nil) [1,58] [(3,0),(60,0)] (λ _ _ st33=>?_)
  refine st33.store (sb:=3) 0 Stmt.set4 rfl rfl rfl kT3 rfl rfl (tp rfl) rfl [1] rfl [] rfl rfl (λ M34 _ st34=>?_)
  refine wpList_nil (za ?_)
  obtain⟨v35,p35,h37⟩:=bs h30
  obtain⟨v36,p36,h38⟩:=bs h37
  refine st34.sq2 (sc rfl (ze rfl wx (tp rfl))<|sc rfl (zN rfl wx (tp rfl))<|sc rfl (Xg rfl kQ173 (tp rfl) (tp rfl))<|sc rfl (oM rfl (tp rfl))<|sg rfl rfl (λ hg=>zh Stmt.fld3 rfl jX (tp rfl))<|sg rfl rfl (λ hg=>ze rfl kT9 (zf hg rfl))<|sg rfl rfl (λ hg=>zq (l:=[.tmp 66]) rfl kN87 (.cons (zf hg rfl) .nil) (wM (gh hg p35)))<|sc rfl (zW rfl (tp rfl) (zb rfl))<|sc rfl (oM rfl (tp rfl))<|sg rfl rfl (λ hg=>zh Stmt.fld4 rfl Ws (tp rfl))<|sg rfl rfl (λ hg=>ze rfl kT3 (zf hg rfl))<|sg rfl rfl (λ hg=>zq (l:=[.tmp 71,.const (.int .i64 0),.const (.int .i64 99)]) rfl kN84 (.cons (zf hg rfl) (.cons cI (.cons cI .nil))) (jz (gh hg p36)))<|sc rfl (zW rfl (tp rfl) (zb rfl))<|sc rfl (oA rfl (tp rfl))<|.nil) [2] (λ _ _ st39=>?_)
  refine wp_ret (zr (zd ?_))
  exact st39.ret rfl rfl h38
 refine st29.sqA [1,8,74] [(3,0)] (λ _ _ st40=>?_)
 refine st40.cs rfl h31 (λ _ h41=>?_) (λ _ h42=>?_)
 ·
  refine wp_seq (wp_region_list ?_)
  refine st40.segB 3 (sc rfl (zh Stmt.fld3 rfl jX (tp rfl))<|sc rfl (ze rfl kT9 (tp rfl))<|sc rfl (yu Stmt.fld3 rfl jX (tp rfl))<|.nil) [1,77] [(3,0),(78,0)] (λ _ _ st43=>?_)
  refine st43.store (sb:=3) 0 Stmt.set3 rfl rfl rfl kT9 rfl rfl (tp rfl) rfl [1] rfl [] rfl rfl (λ M44 _ st44=>?_)
  refine wpList_nil (za ?_)
  obtain⟨v45,p45,h46⟩:=bs h41
  refine st44.sq2 (sc rfl (ze rfl wx (tp rfl))<|sc rfl (zN rfl wx (tp rfl))<|sc rfl (Xg rfl kQ173 (tp rfl) (tp rfl))<|sc rfl (oM rfl (tp rfl))<|sg rfl rfl (λ hg=>zh Stmt.fld3 rfl jX (tp rfl))<|sg rfl rfl (λ hg=>ze rfl kT9 (zf hg rfl))<|sg rfl rfl (λ hg=>zq (l:=[.tmp 84]) rfl kN87 (.cons (zf hg rfl) .nil) (wM (gh hg p45)))<|sc rfl (zW rfl (tp rfl) (zb rfl))<|sc rfl (oA rfl (tp rfl))<|.nil) [2] (λ _ _ st47=>?_)
  refine wp_ret (zr (zd ?_))
  exact st47.ret rfl rfl h46
 refine st40.sqA [1,87] [(3,0)] (λ _ _ st48=>?_)
 refine st48.cs rfl h42 (λ _ h49=>?_) (λ _ h50=>?_)
 ·
  refine st48.sq2 (sc rfl (ze rfl wx (tp rfl))<|sc rfl (zN rfl wx (tp rfl))<|sc rfl (Xg rfl kQ173 (tp rfl) (tp rfl))<|sc rfl (oA rfl (tp rfl))<|.nil) [2] (λ _ _ st51=>?_)
  refine wp_ret (zr (zd ?_))
  exact st51.ret rfl rfl h49
 refine wp_skip (zi (za ?_))
 refine st48.sq1 [2] (λ _ _ st52=>?_)
 refine wp_ret ?_
 exact st52.ret rfl rfl h50
def xI(x0:List Stmt)(s4:Int):Option (Int⊕(Unit⊕Bool)):=
if(cmpI .lss s4 (x0.length:Int))=true then((atI x0 s4).bind λ v9=>
(qU v9).bind λ v14=>
if(!v14)=true then(some (.inr (.inr false)))
else((i64 (s4+(1:Int))).bind λ v22=>
some (.inl v22)))
else(some (.inr (.inl ())))
def jJ(x0:List Stmt):Option Bool:=
Option.bind (α:=Unit⊕Bool) (zX (λ s4=>xI x0 s4) (0:Int)) (Sum.elim (λ _b2=>
some (cmpI .leq (x0.length:Int) (8:Int))) some)
theorem J8{x0:List Stmt}{r:Bool}(h:jJ x0=some r):Fn Tryz.prog 152 [dt x0] (dt r):=by
 unfold jJ at h
 refine fnx (fn:=Tryz.f152) 1 Tryz.func152 rfl (of_decide_eq_true rfl) rfl (λ M w0 _ st0=>?_)
 refine st0.sq1 [0] (λ _ _ st1=>?_)
 obtain⟨o2,p2,k2⟩:=bs h
 refine zo (λ a w=>∃ b2,o2=.inl b2/\(∃ M1 q2_0,Sx (Frm.of w0) 18 M M1 [oneB q2_0] [(0,dt x0)] [] a w)) ?_ ?_
 ·
  refine st1.sq1 [0,5,6,7] (λ _ _ st3=>?_)
  refine wp_block ?_
  refine zO p2 (λ s4 a w=>∃ M1 q4_0,Sx (Frm.of w0) 18 M M1 [oneB q4_0] [(0,dt x0),(5,dt x0),(6,dt (x0.length:Int)),(7,dt s4)] [] a w) ⟨_,_,st3.sel [0,5,6,7] rfl [] rfl trivial⟩ ?_
  rintro s4 x4 a4 w4 ⟨M4,q4_0,st4⟩ hs4 hx4
  have h5:xI x0 s4=some x4:=hs4
  unfold xI at h5
  refine st4.sq1 [0,5,6,7,8] (λ _ _ st6=>?_)
  refine wp_seq ?_
  refine st6.cs rfl h5 (λ _ h7=>?_) (λ _ h8=>?_)
  ·
   refine wp_skip (za (wp_seq (wp_block (wp_seq (wp_region_list ?_)))))
   obtain⟨v9,p9,h10⟩:=bs h7
   refine st6.segA 2 [0,5,6,7,10] [] (λ _ _ st11=>?_)
   refine st11.alloc 0 rfl rfl kZ173 zrStmt (by simp) [0,5,6,7,10] rfl [] rfl rfl (λ b12 M12 _ _ st12=>?_)
   refine st12.store (sb:=4) 0 FldS.id rfl rfl rfl wx rfl rfl (tp rfl) rfl [0,5,6,7] rfl [] rfl rfl (λ M13 _ st13=>?_)
   refine wpList_nil (za ?_)
   obtain⟨v14,p14,h15⟩:=bs h10
   refine st13.sq2 (sc rfl (zN rfl wx (tp rfl))<|sc rfl (zq (l:=[.tmp 11]) rfl kN196 (.cons (tp rfl) .nil) (impl_stmtOk_w p14))<|sc rfl (yz rfl (tp rfl))<|.nil) [0,5,6,7,13] (λ _ _ st16=>?_)
   refine st16.cs rfl h15 (λ _ h17=>?_) (λ _ h18=>?_)
   ·
    refine st16.sq1 [2] (λ _ _ st19=>?_)
    refine wp_ret (zr (zd (zd (zr (zd ?_)))))
    have h20:=lo h17 hx4
    have h21:=jo h20 k2
    exact st19.ret rfl rfl h21
   refine wp_skip (zi (za ?_))
   obtain⟨v22,p22,h23⟩:=bs h18
   refine st16.rg1 [0,5,6,7] (λ _ _ st24=>?_)
   refine za ?_
   exact⟨_,(Option.some.inj h23).symm,⟨_,_,st24.sel [0,5,6,7] rfl [] rfl trivial⟩⟩
  refine wp_exit (zn (zn (zG ?_)))
  refine za ?_
  have h25:=lo h8 hx4
  exact⟨_,(Option.some.inj h25).symm,⟨_,_,st6.sel [0] rfl [] rfl trivial⟩⟩
 rintro a2 w2 ⟨b2,rfl,⟨M2,q2_0,st2⟩⟩
 have h26:=jn k2
 refine st2.sq1 [2] (λ _ _ st27=>?_)
 refine wp_ret ?_
 exact st27.ret rfl rfl h26
def qV(x0:File):Option Bool:=
(yD x0.root (0:Int) (2:Int)).bind λ v2=>
(gO ((!v2) == false) (yW x0.pkg)).bind λ v3=>
(gO (((!v2)||(!v3)) == false) (yD x0.stamp (0:Int) (99:Int))).bind λ v4=>
(gO ((((!v2)||(!v3))||(!v4)) == false) (jJ x0.body)).bind λ v5=>
if((((!v2)||(!v3))||(!v4))||(!v5))=true then(some false)
else(if x0.init=true then(some (decide (x0.pkg≠(⟨[]⟩:Str))&&decide (x0.name=(⟨[]⟩:Str))))
else((yE x0.name).bind λ v18=>
(gO (v18 == true) (wc x0.pkg x0.name)).bind λ v19=>
some (v18&&decide (v19≠(⟨[]⟩:Str)))))
theorem impl_fileOk_w{x0:File}{r:Bool}(h:qV x0=some r):Fn Tryz.prog 82 [dt x0] (dt r):=by
 unfold qV at h
 refine fnx (fn:=Tryz.f82) 0 Tryz.func82 rfl (of_decide_eq_true rfl) rfl (λ M _ _ st0=>?_)
 refine st0.sq1 [1] (λ _ _ st1=>?_)
 refine wp_seq ?_
 obtain⟨v2,p2,h6⟩:=bs h
 obtain⟨v3,p3,h7⟩:=bs h6
 obtain⟨v4,p4,h8⟩:=bs h7
 obtain⟨v5,p5,h9⟩:=bs h8
 refine st1.sq2 (sc rfl (zh File.fld0 rfl kF94_0 (tp rfl))<|sc rfl (ze rfl kT3 (tp rfl))<|sc rfl (zq (l:=[.tmp 4,.const (.int .i64 0),.const (.int .i64 2)]) rfl kN84 (.cons (tp rfl) (.cons cI (.cons cI .nil))) (jz p2))<|sc rfl (yz rfl (tp rfl))<|sc rfl (oM rfl (tp rfl))<|sg rfl rfl (λ hg=>zh File.fld1 rfl XD (tp rfl))<|sg rfl rfl (λ hg=>ze rfl kT9 (zf hg rfl))<|sg rfl rfl (λ hg=>zq (l:=[.tmp 9]) rfl kN151 (.cons (zf hg rfl) .nil) (jI (gh hg p3)))<|sg rfl rfl (λ hg=>yz rfl (zf hg rfl))<|sc rfl (xv rfl (tp rfl) (zb rfl))<|sc rfl (oM rfl (tp rfl))<|sg rfl rfl (λ hg=>zh File.fld4 rfl kF94_4 (tp rfl))<|sg rfl rfl (λ hg=>ze rfl kT3 (zf hg rfl))<|sg rfl rfl (λ hg=>zq (l:=[.tmp 15,.const (.int .i64 0),.const (.int .i64 99)]) rfl kN84 (.cons (zf hg rfl) (.cons cI (.cons cI .nil))) (jz (gh hg p4)))<|sg rfl rfl (λ hg=>yz rfl (zf hg rfl))<|sc rfl (xv rfl (tp rfl) (zb rfl))<|sc rfl (oM rfl (tp rfl))<|sg rfl rfl (λ hg=>zh File.fld5 rfl XF (tp rfl))<|sg rfl rfl (λ hg=>ze rfl kT92 (zf hg rfl))<|sg rfl rfl (λ hg=>zq (l:=[.tmp 21]) rfl kN152 (.cons (zf hg rfl) .nil) (J8 (gh hg p5)))<|sg rfl rfl (λ hg=>yz rfl (zf hg rfl))<|sc rfl (xv rfl (tp rfl) (zb rfl))<|.nil) [1,24] (λ _ _ st10=>?_)
 refine st10.cs rfl h9 (λ _ h11=>?_) (λ _ h12=>?_)
 ·
  refine st10.sq1 [2] (λ _ _ st13=>?_)
  refine wp_ret (zd ?_)
  exact st13.ret rfl rfl h11
 refine wp_skip (za (wp_seq ?_))
 refine st10.sq1 [1,26] (λ _ _ st14=>?_)
 refine st14.cs rfl h12 (λ _ h15=>?_) (λ _ h16=>?_)
 ·
  refine st14.sq2 (sc rfl (zh File.fld1 rfl XD (tp rfl))<|sc rfl (ze rfl kT9 (tp rfl))<|sc rfl (Yb rfl (tp rfl) (zI (by decide)))<|sc rfl (oM rfl (tp rfl))<|sg rfl rfl (λ hg=>zh File.fld2 rfl X8 (tp rfl))<|sg rfl rfl (λ hg=>ze rfl kT9 (zf hg rfl))<|sg rfl rfl (λ hg=>ws rfl (zf hg rfl) (zI (by decide)))<|sc rfl (zW rfl (tp rfl) (zb rfl))<|sc rfl (oA rfl (tp rfl))<|.nil) [2] (λ _ _ st17=>?_)
  refine wp_ret (zd ?_)
  exact st17.ret rfl rfl h15
 refine wp_skip (za ?_)
 obtain⟨v18,p18,h20⟩:=bs h16
 obtain⟨v19,p19,h21⟩:=bs h20
 refine st14.sq2 (sc rfl (zh File.fld2 rfl X8 (tp rfl))<|sc rfl (ze rfl kT9 (tp rfl))<|sc rfl (zq (l:=[.tmp 36]) rfl kN87 (.cons (tp rfl) .nil) (wM p18))<|sc rfl (oM rfl (tp rfl))<|sg rfl rfl (λ hg=>zh File.fld1 rfl XD (tp rfl))<|sg rfl rfl (λ hg=>ze rfl kT9 (zf hg rfl))<|sg rfl rfl (λ hg=>zh File.fld2 rfl X8 (tp rfl))<|sg rfl rfl (λ hg=>ze rfl kT9 (zf hg rfl))<|sg rfl rfl (λ hg=>zq (l:=[.tmp 40,.tmp 42]) rfl kN153 (.cons (zf hg rfl) (.cons (zf hg rfl) .nil)) (Yz (gh hg p19)))<|sg rfl rfl (λ hg=>Yb rfl (zf hg rfl) (zI (by decide)))<|sc rfl (zW rfl (tp rfl) (zb rfl))<|sc rfl (oA rfl (tp rfl))<|.nil) [2] (λ _ _ st22=>?_)
 refine wp_ret ?_
 exact st22.ret rfl rfl h21
def xJ(v10:File)(v25:List File)(s28:Int):Option (Int⊕(Unit⊕(Int⊕(Unit⊕Bool)))):=
if(cmpI .lss s28 (v25.length:Int))=true then((atI v25 s28).bind λ v33=>
(jH v10 v33).bind λ v38=>
if v38=true then(some (.inr (.inr (.inr (.inr false)))))
else((i64 (s28+(1:Int))).bind λ v48=>
some (.inl v48)))
else(some (.inr (.inl ())))
def xK(x0:Tree)(s4:Int):Option (Int⊕(Unit⊕Bool)):=
if(cmpI .lss s4 (x0.files.length:Int))=true then(Option.bind (α:=Unit⊕(Int⊕(Unit⊕Bool))) ((atI x0.files s4).bind λ v10=>
(qV v10).bind λ v16=>
if(!v16)=true then(some (.inr (.inr (.inr false))))
else((WH x0.files s4).bind λ v25=>
zX (λ s28=>xJ v10 v25 s28) (0:Int))) (Sum.elim (λ _b9=>
(i64 (s4+(1:Int))).bind λ v53=>
some (.inl v53)) some))
else(some (.inr (.inl ())))
def wN(x0:Tree):Option Bool:=
Option.bind (α:=Unit⊕Bool) (zX (λ s4=>xK x0 s4) (0:Int)) (Sum.elim (λ _b2=>
some (cmpI .leq (x0.files.length:Int) (12:Int))) some)
theorem Xi{x0:Tree}{r:Bool}(h:wN x0=some r):Fn Tryz.prog 26 [dt x0] (dt r):=by
 unfold wN at h
 refine fnx (fn:=Tryz.f26) 2 Tryz.func26 rfl (of_decide_eq_true rfl) rfl (λ M w0 _ st0=>?_)
 refine st0.sq1 [1] (λ _ _ st1=>?_)
 obtain⟨o2,p2,k2⟩:=bs h
 refine zo (λ a w=>∃ b2,o2=.inl b2/\(∃ M1 q2_0 q2_1,Sx (Frm.of w0) 36 M M1 [oneB q2_0,oneB q2_1] [(1,dptr x0)] [] a w)) ?_ ?_
 ·
  refine st1.sq1 [1,8,9,10] (λ _ _ st3=>?_)
  refine wp_block ?_
  refine zO p2 (λ s4 a w=>∃ M1 q4_0 q4_1,Sx (Frm.of w0) 36 M M1 [oneB q4_0,oneB q4_1] [(1,dptr x0),(8,dt x0.files),(9,dt (x0.files.length:Int)),(10,dt s4)] [] a w) ⟨_,_,_,st3.sel [1,8,9,10] rfl [] rfl trivial⟩ ?_
  rintro s4 x4 a4 w4 ⟨M4,q4_0,q4_1,st4⟩ hs4 hx4
  have h5:xK x0 s4=some x4:=hs4
  unfold xK at h5
  refine st4.sq1 [1,8,9,10,11] (λ _ _ st6=>?_)
  refine wp_seq ?_
  refine st6.cs rfl h5 (λ _ h7=>?_) (λ _ h8=>?_)
  ·
   refine wp_skip (za ?_)
   obtain⟨o9,p9,k9⟩:=bs h7
   refine zo (λ a w=>∃ b9,o9=.inl b9/\(∃ M1 q9_0 q9_1,Sx (Frm.of w0) 36 M M1 [oneB q9_0,oneB q9_1] [(1,dptr x0),(8,dt x0.files),(9,dt (x0.files.length:Int)),(10,dt s4)] [] a w)) ?_ ?_
   ·
    refine wp_block (wp_seq (wp_region_list ?_))
    obtain⟨v10,p10,h11⟩:=bs p9
    refine st6.segA 3 [1,8,9,10,12,14] [] (λ _ _ st12=>?_)
    refine st12.alloc 0 rfl rfl kZ94 zrFile (by simp) [1,8,9,10,12,14] rfl [] rfl rfl (λ b13 M13 _ _ st13=>?_)
    refine st13.segA 1 [1,3,8,9,10,14] [(4,0)] (λ _ _ st14=>?_)
    refine st14.store (sb:=4) 0 FldS.id rfl rfl rfl kT94 rfl rfl (tp rfl) rfl [1,3,8,9,10] rfl [] rfl rfl (λ M15 _ st15=>?_)
    refine wpList_nil (za (wp_seq ?_))
    obtain⟨v16,p16,h17⟩:=bs h11
    refine st15.sqB (sc rfl (zN rfl kT94 (tp rfl))<|sc rfl (zq (l:=[.tmp 15]) rfl kN82 (.cons (tp rfl) .nil) (impl_fileOk_w p16))<|sc rfl (yz rfl (tp rfl))<|.nil) [1,3,8,9,10,17] [(4,0)] (λ _ _ st18=>?_)
    refine st18.cs rfl h17 (λ _ h19=>?_) (λ _ h20=>?_)
    ·
     refine st18.sq1 [2] (λ _ _ st21=>?_)
     refine wp_ret (zd (zr (zd (zd (zr (zd ?_))))))
     have h22:=jo h19 k9
     have h23:=lo h22 hx4
     have h24:=jo h23 k2
     exact st21.ret rfl rfl h24
    refine wp_skip (za ?_)
    obtain⟨v25,p25,h26⟩:=bs h20
    refine st18.sqB (sc rfl (zh Tree.fld0 rfl qP (tp rfl))<|sc rfl (ze rfl kT28 (tp rfl))<|sc rfl (oM rfl (tp rfl))<|sc rfl (xSliH rfl kS28 (tp rfl) (tp rfl) p25)<|sc rfl (wz rfl kL28 (tp rfl))<|sc rfl (oM rfl cI)<|.nil) [1,8,9,10,21,22,23] [(4,0)] (λ _ _ st27=>?_)
    refine wp_block ?_
    refine zO h26 (λ s28 a w=>∃ M1 q28_0 q28_1,Sx (Frm.of w0) 36 M M1 [oneB q28_0,oneB q28_1] [(1,dptr x0),(8,dt x0.files),(9,dt (x0.files.length:Int)),(10,dt s4),(21,dt v25),(22,dt (v25.length:Int)),(23,dt s28)] [(4,0,dbox q28_0 0 v10)] a w) ⟨_,_,_,st27.sel [1,8,9,10,21,22,23] rfl [(4,0)] rfl iT⟩ ?_
    rintro s28 x28 a28 w28 ⟨M28,q28_0,q28_1,st28⟩ hs28 hx28
    have h29:xJ v10 v25 s28=some x28:=hs28
    unfold xJ at h29
    refine st28.sqA [1,8,9,10,21,22,23,24] [(4,0)] (λ _ _ st30=>?_)
    refine wp_seq ?_
    refine st30.cs rfl h29 (λ _ h31=>?_) (λ _ h32=>?_)
    ·
     refine wp_skip (za (wp_seq (wp_block (wp_seq (wp_region_list ?_)))))
     obtain⟨v33,p33,h34⟩:=bs h31
     refine st30.segA 2 [1,8,9,10,21,22,23,26] [(4,0)] (λ _ _ st35=>?_)
     refine st35.alloc 1 rfl rfl kZ94 zrFile (by simp) [1,8,9,10,21,22,23,26] rfl [4] rfl rfl (λ b36 M36 _ _ st36=>?_)
     refine st36.store (sb:=6) 1 FldS.id rfl rfl rfl kT94 rfl rfl (tp rfl) rfl [1,8,9,10,21,22,23] rfl [4] rfl rfl (λ M37 _ st37=>?_)
     refine wpList_nil (za ?_)
     obtain⟨v38,p38,h39⟩:=bs h34
     refine st37.sqB (sc rfl (zN rfl kT94 (tp rfl))<|sc rfl (zN rfl kT94 (tp rfl))<|sc rfl (zq (l:=[.tmp 27,.tmp 28]) rfl kN83 (.cons (tp rfl) (.cons (tp rfl) .nil)) (Xh p38))<|.nil) [1,8,9,10,21,22,23,29] [(4,0)] (λ _ _ st40=>?_)
     refine st40.cs rfl h39 (λ _ h41=>?_) (λ _ h42=>?_)
     ·
      refine st40.sq1 [2] (λ _ _ st43=>?_)
      refine wp_ret (zr (zd (zd (zr (zr (zd (zd (zr (zd ?_)))))))))
      have h44:=lo h41 hx28
      have h45:=jo h44 k9
      have h46:=lo h45 hx4
      have h47:=jo h46 k2
      exact st43.ret rfl rfl h47
     refine wp_skip (zi (za ?_))
     obtain⟨v48,p48,h49⟩:=bs h42
     refine st40.rgA [1,8,9,10,21,22,23] [(4,0)] (λ _ _ st50=>?_)
     refine za ?_
     exact⟨_,(Option.some.inj h49).symm,⟨_,_,_,st50.sel [1,8,9,10,21,22,23] rfl [(4,0)] rfl iT⟩⟩
    refine wp_exit (zn (zn (zG ?_)))
    refine zi (za ?_)
    have h51:=lo h32 hx28
    exact⟨_,(Option.some.inj h51).symm,⟨_,_,_,st30.sel [1,8,9,10] rfl [] rfl trivial⟩⟩
   rintro a9 w9 ⟨b9,rfl,⟨M9,q9_0,q9_1,st9⟩⟩
   have h52:=jn k9
   obtain⟨v53,p53,h54⟩:=bs h52
   refine st9.rg1 [1,8,9,10] (λ _ _ st55=>?_)
   refine za ?_
   exact⟨_,(Option.some.inj h54).symm,⟨_,_,_,st55.sel [1,8,9,10] rfl [] rfl trivial⟩⟩
  refine wp_exit (zn (zn (zG ?_)))
  refine za ?_
  have h56:=lo h8 hx4
  exact⟨_,(Option.some.inj h56).symm,⟨_,_,_,st6.sel [1] rfl [] rfl trivial⟩⟩
 rintro a2 w2 ⟨b2,rfl,⟨M2,q2_0,q2_1,st2⟩⟩
 have h57:=jn k2
 refine st2.sq1 [2] (λ _ _ st58=>?_)
 refine wp_ret ?_
 exact st58.ret rfl rfl h57
def wO(x0:Tree)(x1:Int)(x2:Str)(s4:Int):Option (Int⊕(Unit⊕Bool)):=
if(cmpI .lss s4 (x0.files.length:Int))=true then((atI x0.files s4).bind λ v9=>
(gO (cmpI .eql v9.root x1 == true) (qq v9.pkg x2)).bind λ v14=>
if(cmpI .eql v9.root x1&&v14)=true then(some (.inr (.inr true)))
else((i64 (s4+(1:Int))).bind λ v22=>
some (.inl v22)))
else(some (.inr (.inl ())))
def qW(x0:Tree)(x1:Int)(x2:Str):Option Bool:=
Option.bind (α:=Unit⊕Bool) (zX (λ s4=>wO x0 x1 x2 s4) (0:Int)) (Sum.elim (λ _b2=>
some (decide (x2=(⟨[]⟩:Str)))) some)
theorem impl_hasDir_w{x0:Tree}{x1:Int}{x2:Str}{r:Bool}(h:qW x0 x1 x2=some r):Fn Tryz.prog 235 [dt x0,dt x1,dt x2] (dt r):=by
 unfold qW at h
 refine fnx (fn:=Tryz.f235) 1 Tryz.func235 rfl (of_decide_eq_true rfl) rfl (λ M w0 _ st0=>?_)
 refine st0.sq1 [1,2,3] (λ _ _ st1=>?_)
 obtain⟨o2,p2,k2⟩:=bs h
 refine zo (λ a w=>∃ b2,o2=.inl b2/\(∃ M1 q2_0,Sx (Frm.of w0) 29 M M1 [oneB q2_0] [(2,dt x2)] [] a w)) ?_ ?_
 ·
  refine st1.sq1 [1,2,10,11,12] (λ _ _ st3=>?_)
  refine wp_block ?_
  refine zO p2 (λ s4 a w=>∃ M1 q4_0,Sx (Frm.of w0) 29 M M1 [oneB q4_0] [(1,dt x1),(2,dt x2),(10,dt x0.files),(11,dt (x0.files.length:Int)),(12,dt s4)] [] a w) ⟨_,_,st3.sel [1,2,10,11,12] rfl [] rfl trivial⟩ ?_
  rintro s4 x4 a4 w4 ⟨M4,q4_0,st4⟩ hs4 hx4
  have h5:wO x0 x1 x2 s4=some x4:=hs4
  unfold wO at h5
  refine st4.sq1 [1,2,10,11,12,13] (λ _ _ st6=>?_)
  refine wp_seq ?_
  refine st6.cs rfl h5 (λ _ h7=>?_) (λ _ h8=>?_)
  ·
   refine wp_skip (za (wp_seq (wp_block (wp_seq (wp_region_list ?_)))))
   obtain⟨v9,p9,h10⟩:=bs h7
   refine st6.segA 2 [1,2,10,11,12,15] [] (λ _ _ st11=>?_)
   refine st11.alloc 0 rfl rfl kZ94 zrFile (by simp) [1,2,10,11,12,15] rfl [] rfl rfl (λ b12 M12 _ _ st12=>?_)
   refine st12.store (sb:=8) 0 FldS.id rfl rfl rfl kT94 rfl rfl (tp rfl) rfl [1,2,10,11,12] rfl [] rfl rfl (λ M13 _ st13=>?_)
   refine wpList_nil (za ?_)
   obtain⟨v14,p14,h15⟩:=bs h10
   refine st13.sq2 (sc rfl (yu File.fld0 rfl kF94_0 (tp rfl))<|sc rfl (zN rfl kT3 (tp rfl))<|sc rfl (oM rfl (tp rfl))<|sc rfl (oCI rfl (tp rfl) (tp rfl))<|sc rfl (oM rfl (tp rfl))<|sg rfl rfl (λ hg=>yu File.fld1 rfl XD (tp rfl))<|sg rfl rfl (λ hg=>zN rfl kT9 (zf hg rfl))<|sg rfl rfl (λ hg=>oM rfl (tp rfl))<|sg rfl rfl (λ hg=>zq (l:=[.tmp 22,.tmp 23]) rfl kN263 (.cons (zf hg rfl) (.cons (zf hg rfl) .nil)) (QZ (gh hg p14)))<|sc rfl (zW rfl (tp rfl) (zb rfl))<|.nil) [1,2,10,11,12,25] (λ _ _ st16=>?_)
   refine st16.cs rfl h15 (λ _ h17=>?_) (λ _ h18=>?_)
   ·
    refine st16.sq1 [6] (λ _ _ st19=>?_)
    refine wp_ret (zr (zd (zd (zr (zd ?_)))))
    have h20:=lo h17 hx4
    have h21:=jo h20 k2
    exact st19.ret rfl rfl h21
   refine wp_skip (zi (za ?_))
   obtain⟨v22,p22,h23⟩:=bs h18
   refine st16.rg1 [1,2,10,11,12] (λ _ _ st24=>?_)
   refine za ?_
   exact⟨_,(Option.some.inj h23).symm,⟨_,_,st24.sel [1,2,10,11,12] rfl [] rfl trivial⟩⟩
  refine wp_exit (zn (zn (zG ?_)))
  refine za ?_
  have h25:=lo h8 hx4
  exact⟨_,(Option.some.inj h25).symm,⟨_,_,st6.sel [2] rfl [] rfl trivial⟩⟩
 rintro a2 w2 ⟨b2,rfl,⟨M2,q2_0,st2⟩⟩
 have h26:=jn k2
 refine st2.sq1 [6] (λ _ _ st27=>?_)
 refine wp_ret ?_
 exact st27.ret rfl rfl h26
def jK:Option Spec:=
some (⟨(0:Int),(-1:Int),([]:List Int)⟩:Spec)
theorem YA{r:Spec}(h:jK=some r):Fn Tryz.prog 166 [] (dt r):=by
 unfold jK at h
 refine fnx (fn:=Tryz.f166) 1 Tryz.func166 rfl (of_decide_eq_true rfl) rfl (λ M _ _ st0=>?_)
 refine wp_seq (wp_region_list ?_)
 refine st0.alloc 0 rfl rfl kZ119 W5 (by simp) [] rfl [] rfl rfl (λ b1 M1 _ _ st1=>?_)
 refine wpList_nil (za (wp_seq (wp_region_list ?_)))
 refine st1.segB 2 (sc rfl (yc (opds:=[]) (α:=Int) rfl kS25 kY25 rfl rfl (by decide) .nil)<|sc rfl (zV (parts:=[(0,.const (.int .i64 0)),(1,.const (.int .i64 (-1))),(2,.tmp 1)]) (ns:=[1,1,1]) (zs:=zpSpec) rfl rfl kB119 kC119 (λ w a hl=>by
 intro p hp;simp only[List.mem_cons,List.not_mem_nil,or_false] at hp
 rcases hp with rfl | rfl | rfl
 ·
  exact⟨by decide,rfl⟩
 ·
  exact⟨by decide,rfl⟩
 ·
  exact⟨by decide,Rep.len (α:=List Int) (OpdR.cells (tp rfl) hl)⟩) (λ w a hl=>Spec.parts (x:=(⟨(0:Int),(-1:Int),([]:List Int)⟩:Spec)) (OpdR.cells cI hl) (OpdR.cells cI hl) (OpdR.cells (tp rfl) hl)))<|.nil) [2] [(0,0)] (λ _ _ st2=>?_)
 refine st2.store (sb:=0) 0 FldS.id rfl rfl rfl ju rfl rfl (tp rfl) rfl [] rfl [] rfl rfl (λ M3 _ st3=>?_)
 refine wpList_nil (za (wp_ret ?_))
 exact st3.ret_box rfl ju rfl h
def xL(x0:List Int)(s4:Int):Option (Int⊕(Unit⊕Bool)):=
if(cmpI .lss s4 (x0.length:Int))=true then((atI x0 s4).bind λ v9=>
(yD v9 (0:Int) (2:Int)).bind λ v12=>
(gO ((!v12) == false) (WH x0 s4)).bind λ v13=>
(gO ((!v12) == false) (yZ v13 v9)).bind λ v14=>
if((!v12)||v14)=true then(some (.inr (.inr false)))
else((i64 (s4+(1:Int))).bind λ v24=>
some (.inl v24)))
else(some (.inr (.inl ())))
def wP(x0:List Int):Option Bool:=
Option.bind (α:=Unit⊕Bool) (zX (λ s4=>xL x0 s4) (0:Int)) (Sum.elim (λ _b2=>
some true) some)
theorem Xj{x0:List Int}{r:Bool}(h:wP x0=some r):Fn Tryz.prog 27 [dt x0] (dt r):=by
 unfold wP at h
 refine fnx (fn:=Tryz.f27) 0 Tryz.func27 rfl (of_decide_eq_true rfl) rfl (λ M w0 _ st0=>?_)
 refine st0.sq1 [0] (λ _ _ st1=>?_)
 obtain⟨o2,p2,k2⟩:=bs h
 refine zo (λ a w=>∃ b2,o2=.inl b2/\Sx (Frm.of w0) 23 M M [] [] [] a w) ?_ ?_
 ·
  refine st1.sq1 [0,5,6,7] (λ _ _ st3=>?_)
  refine wp_block ?_
  refine zO p2 (λ s4 a w=>Sx (Frm.of w0) 23 M M [] [(0,dt x0),(5,dt x0),(6,dt (x0.length:Int)),(7,dt s4)] [] a w) (st3.sel0 [0,5,6,7] rfl) ?_
  rintro s4 x4 a4 w4 st4 hs4 hx4
  have h5:xL x0 s4=some x4:=hs4
  unfold xL at h5
  refine st4.sq1 [0,5,6,7,8] (λ _ _ st6=>?_)
  refine wp_seq ?_
  refine st6.cs rfl h5 (λ _ h7=>?_) (λ _ h8=>?_)
  ·
   refine wp_skip (za (wp_seq (wp_block ?_)))
   obtain⟨v9,p9,h10⟩:=bs h7
   refine st6.sq1 [0,3,4,5,6,7] (λ _ _ st11=>?_)
   obtain⟨v12,p12,h15⟩:=bs h10
   obtain⟨v13,p13,h16⟩:=bs h15
   obtain⟨v14,p14,h17⟩:=bs h16
   refine st11.sq2 (sc rfl (oM rfl (tp rfl))<|sc rfl (zq (l:=[.tmp 12,.const (.int .i64 0),.const (.int .i64 2)]) rfl kN84 (.cons (tp rfl) (.cons cI (.cons cI .nil))) (jz p12))<|sc rfl (yz rfl (tp rfl))<|sc rfl (oM rfl (tp rfl))<|sg rfl rfl (λ hg=>oM rfl (tp rfl))<|sg rfl rfl (λ hg=>oM rfl (tp rfl))<|sg rfl rfl (λ hg=>xSliH rfl kS25 (zf hg rfl) (zf hg rfl) (gh hg p13))<|sg rfl rfl (λ hg=>oM rfl (tp rfl))<|sg rfl rfl (λ hg=>zq (l:=[.tmp 18,.tmp 19]) rfl kN85 (.cons (zf hg rfl) (.cons (zf hg rfl) .nil)) (YM (gh hg p14)))<|sc rfl (xv rfl (tp rfl) (zb rfl))<|.nil) [0,5,6,7,21] (λ _ _ st18=>?_)
   refine st18.cs rfl h17 (λ _ h19=>?_) (λ _ h20=>?_)
   ·
    refine st18.sq1 [2] (λ _ _ st21=>?_)
    refine wp_ret (zr (zd (zd (zr (zd ?_)))))
    have h22:=lo h19 hx4
    have h23:=jo h22 k2
    exact st21.ret rfl rfl h23
   refine wp_skip (zi (za ?_))
   obtain⟨v24,p24,h25⟩:=bs h20
   refine st18.rg1 [0,5,6,7] (λ _ _ st26=>?_)
   refine za ?_
   exact⟨_,(Option.some.inj h25).symm,st26.sel0 [0,5,6,7] rfl⟩
  refine wp_exit (zn (zn (zG ?_)))
  refine za ?_
  have h27:=lo h8 hx4
  exact⟨_,(Option.some.inj h27).symm,st6.sel0 [] rfl⟩
 rintro a2 w2 ⟨b2,rfl,st2⟩
 have h28:=jn k2
 refine st2.sq1 [2] (λ _ _ st29=>?_)
 refine wp_ret ?_
 exact st29.ret rfl rfl h28
def wQ(x0:Tree)(x1:File)(s4:Int):Option (Int⊕(Unit⊕Int)):=
if(cmpI .lss s4 (x0.files.length:Int))=true then((atI x0.files s4).bind λ v9=>
(jH x1 v9).bind λ v15=>
if v15=true then(some (.inr (.inr s4)))
else((i64 (s4+(1:Int))).bind λ v23=>
some (.inl v23)))
else(some (.inr (.inl ())))
def qg(x0:Tree)(x1:File):Option Int:=
Option.bind (α:=Unit⊕Int) (zX (λ s4=>wQ x0 x1 s4) (0:Int)) (Sum.elim (λ _b2=>
some (-1:Int)) some)
theorem WM{x0:Tree}{x1:File}{r:Int}(h:qg x0 x1=some r):Fn Tryz.prog 234 [dt x0,dt x1] (dt r):=by
 unfold qg at h
 refine fnx (fn:=Tryz.f234) 1 Tryz.func234 rfl (of_decide_eq_true rfl) rfl (λ M w0 _ st0=>?_)
 refine st0.sq1 [2,3] (λ _ _ st1=>?_)
 obtain⟨o2,p2,k2⟩:=bs h
 refine zo (λ a w=>∃ b2,o2=.inl b2/\(∃ M1 q2_0,Sx (Frm.of w0) 20 M M1 [oneB q2_0] [] [] a w)) ?_ ?_
 ·
  refine st1.sq1 [3,8,9,10] (λ _ _ st3=>?_)
  refine wp_block ?_
  refine zO p2 (λ s4 a w=>∃ M1 q4_0,Sx (Frm.of w0) 20 M M1 [oneB q4_0] [(3,dptr x1),(8,dt x0.files),(9,dt (x0.files.length:Int)),(10,dt s4)] [] a w) ⟨_,_,st3.sel [3,8,9,10] rfl [] rfl trivial⟩ ?_
  rintro s4 x4 a4 w4 ⟨M4,q4_0,st4⟩ hs4 hx4
  have h5:wQ x0 x1 s4=some x4:=hs4
  unfold wQ at h5
  refine st4.sq1 [3,8,9,10,11] (λ _ _ st6=>?_)
  refine wp_seq ?_
  refine st6.cs rfl h5 (λ _ h7=>?_) (λ _ h8=>?_)
  ·
   refine wp_skip (za (wp_seq (wp_block (wp_seq (wp_region_list ?_)))))
   obtain⟨v9,p9,h10⟩:=bs h7
   refine st6.segA 3 [3,8,9,10,12,14] [] (λ _ _ st11=>?_)
   refine st11.alloc 0 rfl rfl kZ94 zrFile (by simp) [3,8,9,10,12,14] rfl [] rfl rfl (λ b12 M12 _ _ st12=>?_)
   refine st12.segA 1 [3,5,8,9,10,14] [(6,0)] (λ _ _ st13=>?_)
   refine st13.store (sb:=6) 0 FldS.id rfl rfl rfl kT94 rfl rfl (tp rfl) rfl [3,5,8,9,10] rfl [] rfl rfl (λ M14 _ st14=>?_)
   refine wpList_nil (za ?_)
   obtain⟨v15,p15,h16⟩:=bs h10
   refine st14.sq2 (sc rfl (ze rfl kT94 (tp rfl))<|sc rfl (zN rfl kT94 (tp rfl))<|sc rfl (zq (l:=[.tmp 15,.tmp 16]) rfl kN83 (.cons (tp rfl) (.cons (tp rfl) .nil)) (Xh p15))<|.nil) [3,5,8,9,10,17] (λ _ _ st17=>?_)
   refine st17.cs rfl h16 (λ _ h18=>?_) (λ _ h19=>?_)
   ·
    refine st17.sq1 [4] (λ _ _ st20=>?_)
    refine wp_ret (zr (zd (zd (zr (zd ?_)))))
    have h21:=lo h18 hx4
    have h22:=jo h21 k2
    exact st20.ret rfl rfl h22
   refine wp_skip (zi (za ?_))
   obtain⟨v23,p23,h24⟩:=bs h19
   refine st17.rg1 [3,8,9,10] (λ _ _ st25=>?_)
   refine za ?_
   exact⟨_,(Option.some.inj h24).symm,⟨_,_,st25.sel [3,8,9,10] rfl [] rfl trivial⟩⟩
  refine wp_exit (zn (zn (zG ?_)))
  refine za ?_
  have h26:=lo h8 hx4
  exact⟨_,(Option.some.inj h26).symm,⟨_,_,st6.sel [] rfl [] rfl trivial⟩⟩
 rintro a2 w2 ⟨b2,rfl,⟨M2,q2_0,st2⟩⟩
 have h27:=jn k2
 refine st2.sq1 [4] (λ _ _ st28=>?_)
 refine wp_ret ?_
 exact st28.ret rfl rfl h27
def wW(x0:Tree)(x1:List Int)(x2:Str)(x3:Str)(v3:Str)(s16:Spec×(List Int)×Int):Option ((Spec×(List Int)×Int)⊕((Spec×(List Int))⊕Spec)):=
if(cmpI .lss s16.2.2 (x1.length:Int))=true then(Option.bind (α:=(Spec×(List Int))⊕((Spec×(List Int)×Int)⊕((Spec×(List Int))⊕Spec))) ((atI x1 s16.2.2).bind λ v22=>
Option.bind (α:=Bool×Bool) (some (true,true)) λ o26=>
(qg x0 (⟨v22,v3,⟨[]⟩,true,0,[]⟩:File)).bind λ v31=>
if(o26.1&&cmpI .geq v31 (0:Int))=true then(some (.inr (.inr (.inr (⟨(2:Int),v31,([v22]:List Int)⟩:Spec)))))
else((qg x0 (⟨v22,x2,x3,false,0,[]⟩:File)).bind λ v42=>
if(o26.2&&cmpI .geq v42 (0:Int))=true then(some (.inr (.inr (.inr (⟨(1:Int),v42,([]:List Int)⟩:Spec)))))
else((gO (o26.1 == true) (qW x0 v22 v3)).bind λ v53=>
if(o26.1&&v53)=true then((appO 8 s16.2.1 ([v22]:List Int)).bind λ v60=>
some (.inl (s16.1,v60)))
else(some (.inl (s16.1,s16.2.1)))))) (Sum.elim (λ b21=>
(i64 (s16.2.2+(1:Int))).bind λ v64=>
some (.inl (b21.1,b21.2,v64))) some))
else(some (.inr (.inl (s16.1,s16.2.1))))
def Zn(x0:Tree)(x1:List Int)(x2:Str)(x3:Str):Option Spec:=
(wc x2 x3).bind λ v3=>
if(decide (v3=(⟨[]⟩:Str)))=true then((jK).bind λ v9=>
some v9)
else(Option.bind (α:=(Spec×(List Int))⊕Spec) (zX (λ s16=>wW x0 x1 x2 x3 v3 s16) (zSpec,[],(0:Int))) (Sum.elim (λ b14=>
if(cmpI .gtr (b14.2.length:Int) (0:Int))=true then(some (⟨(3:Int),(-1:Int),b14.2⟩:Spec))
else((jK).bind λ v75=>
some v75)) some))
theorem Qy{x0:Tree}{x1:List Int}{x2:Str}{x3:Str}{r:Spec}(h:Zn x0 x1 x2 x3=some r):Fn Tryz.prog 207 [dt x0,dt x1,dt x2,dt x3,dnilf] (dt r):=by
 unfold Zn at h
 refine fnx (fn:=Tryz.f207) 2 Tryz.func207 rfl (of_decide_eq_true rfl) rfl (λ M w0 _ st0=>?_)
 refine wp_seq (wp_region_list ?_)
 refine st0.segA 1 [1,2,3,4,5] [] (λ _ _ st1=>?_)
 refine st1.alloc 1 rfl rfl kZ119 W5 (by simp) [1,2,3,4,5] rfl [] rfl rfl (λ b2 M2 _ _ st2=>?_)
 refine wpList_nil (za ?_)
 obtain⟨v3,p3,h4⟩:=bsW h Yz
 refine st2.sqA [1,2,3,4,5,11] [(10,1)] (λ _ _ st5=>?_)
 refine wp_seq ?_
 refine st5.sqA [1,2,3,4,5,11,24] [(10,1)] (λ _ _ st6=>?_)
 refine st6.cs rfl h4 (λ _ h7=>?_) (λ _ h8=>?_)
 ·
  refine wp_seq (wp_region_list ?_)
  obtain⟨v9,p9,h10⟩:=bsW h7 YA
  refine st6.segA 1 [25] [(10,1)] (λ _ _ st11=>?_)
  refine st11.store (sb:=10) 1 FldS.id rfl rfl rfl ju rfl rfl (tp rfl) rfl [] rfl [] rfl rfl (λ M12 _ st12=>?_)
  refine wpList_nil (za ?_)
  refine wp_ret (zd ?_)
  exact st12.ret_box rfl ju rfl h10
 refine wp_skip (za ?_)
 refine st6.sqB (sc rfl (Zu (α:=Int) (e:=3) rfl kS25)<|sc rfl (oA rfl (tp rfl))<|.nil) [1,2,3,4,5,11] [(10,1),(12,0)] (λ _ _ st13=>?_)
 obtain⟨o14,p14,k14⟩:=bs h8
 refine zo (λ a w=>∃ b14,o14=.inl b14/\(∃ M1 q14_0 q14_1,Sx (Frm.of w0) 92 M M1 [oneB q14_0,oneB q14_1] [] [(10,1,dbox q14_1 0 b14.1),(12,0,dtip q14_0 3 b14.2)] a w)) ?_ ?_
 ·
  refine st13.sqA [2,3,4,5,11,27,28,29] [(10,1),(12,0)] (λ _ _ st15=>?_)
  refine wp_block ?_
  refine zO p14 (λ s16 a w=>∃ M1 q16_0 q16_1,Sx (Frm.of w0) 92 M M1 [oneB q16_0,oneB q16_1] [(2,dt x2),(3,dt x3),(4,dnilf),(5,dptr x0),(11,dt v3),(27,dt x1),(28,dt (x1.length:Int)),(29,dt s16.2.2)] [(10,1,dbox q16_1 0 s16.1),(12,0,dtip q16_0 3 s16.2.1)] a w) ⟨_,_,_,st15.sel [2,3,4,5,11,27,28,29] rfl [(10,1),(12,0)] rfl ⟨iI,⟨iE,trivial⟩⟩⟩ ?_
  rintro s16 x16 a16 w16 ⟨M16,q16_0,q16_1,st16⟩ hs16 hx16
  have h17:wW x0 x1 x2 x3 v3 s16=some x16:=hs16
  unfold wW at h17
  refine st16.sqA [2,3,4,5,11,27,28,29,30] [(10,1),(12,0)] (λ _ _ st18=>?_)
  refine wp_seq ?_
  refine st18.cs rfl h17 (λ _ h19=>?_) (λ _ h20=>?_)
  ·
   refine wp_skip (za ?_)
   obtain⟨o21,p21,k21⟩:=bs h19
   refine zo (λ a w=>∃ b21,o21=.inl b21/\(∃ M1 q21_0 q21_1,Sx (Frm.of w0) 92 M M1 [oneB q21_0,oneB q21_1] [(2,dt x2),(3,dt x3),(4,dnilf),(5,dptr x0),(11,dt v3),(27,dt x1),(28,dt (x1.length:Int)),(29,dt s16.2.2)] [(10,1,dbox q21_1 0 b21.1),(12,0,dtip q21_0 3 b21.2)] a w)) ?_ ?_
   ·
    refine wp_block ?_
    obtain⟨v22,p22,h23⟩:=bs p21
    refine st18.sqA [2,3,4,5,11,14,27,28,29] [(10,1),(12,0)] (λ _ _ st24=>?_)
    refine st24.sqA [2,3,4,5,11,14,15,16,27,28,29] [(10,1),(12,0)] (λ _ _ st25=>?_)
    obtain⟨o26,p26,k26⟩:=bs h23
    refine zo (λ a w=>∃ M1 q26_0 q26_1,Sx (Frm.of w0) 92 M M1 [oneB q26_0,oneB q26_1] [(2,dt x2),(3,dt x3),(4,dnilf),(5,dptr x0),(11,dt v3),(14,dt v22),(15,dt o26.1),(16,dt o26.2),(27,dt x1),(28,dt (x1.length:Int)),(29,dt s16.2.2)] [(10,1,dbox q26_1 0 s16.1),(12,0,dtip q26_0 3 s16.2.1)] a w) ?_ ?_
    ·
     refine st25.sqB (sc rfl (oM rfl (tp rfl))<|sc rfl (xNeNil rfl kU104 (tp rfl) cNil)<|.nil) [2,3,4,5,11,14,15,16,27,28,29,34] [(10,1),(12,0)] (λ _ _ st27=>?_)
     refine st27.csF (c:=34) rfl ?_
     refine wp_skip (za ?_)
     obtain rfl:=Option.some.inj p26
     exact⟨_,_,_,st27.sel [2,3,4,5,11,14,15,16,27,28,29] rfl [(10,1),(12,0)] rfl ⟨iI,iT⟩⟩
    rintro a26 w26 ⟨M26,q26_0,q26_1,st26⟩
    have h30:=k26
    refine wp_seq ?_
    obtain⟨v31,p31,h32⟩:=bs h30
    refine st26.sqB (sc rfl (ze rfl kT30 (tp rfl))<|sc rfl (oM rfl (tp rfl))<|sc rfl (oM rfl (tp rfl))<|sc rfl (zV (parts:=[(0,.tmp 47),(1,.tmp 48),(3,.const (.bool true))]) (ns:=[1,1,1,1,1,1]) (zs:=zpFile) rfl rfl kB94 kC94 (λ w a hl=>by
 intro p hp;simp only[List.mem_cons,List.not_mem_nil,or_false] at hp
 rcases hp with rfl | rfl | rfl
 ·
  exact⟨by decide,Rep.len (α:=Int) (OpdR.cells (tp rfl) hl)⟩
 ·
  exact⟨by decide,Rep.len (α:=Str) (OpdR.cells (tp rfl) hl)⟩
 ·
  exact⟨by decide,rfl⟩) (λ w a hl=>File.parts (x:=(⟨v22,v3,⟨[]⟩,true,0,[]⟩:File)) (OpdR.cells (tp rfl) hl) (OpdR.cells (tp rfl) hl) xx (OpdR.cells cB hl) ⟨rfl,trivial⟩ Ym))<|sc rfl (zq (l:=[.tmp 46,.tmp 49]) rfl kN234 (.cons (tp rfl) (.cons (tp rfl) .nil)) (WM p31))<|sc rfl (oA rfl (tp rfl))<|.nil) [2,3,4,5,11,14,15,16,18,27,28,29] [(10,1),(12,0)] (λ _ _ st33=>?_)
    refine st33.sqB (sc rfl (oM rfl (tp rfl))<|sc rfl (oM rfl (tp rfl))<|sg rfl rfl (λ hg=>oM rfl (tp rfl))<|sg rfl rfl (λ hg=>oCI rfl (zf hg rfl) cI)<|sc rfl (zW rfl (tp rfl) (zb rfl))<|.nil) [2,3,4,5,11,14,15,16,18,27,28,29,55] [(10,1),(12,0)] (λ _ _ st34=>?_)
    refine st34.cs rfl h32 (λ _ h35=>?_) (λ _ h36=>?_)
    ·
     refine wp_seq (wp_region_list ?_)
     refine st34.segB 4 (sc rfl (oM rfl (tp rfl))<|sc rfl (oM rfl (tp rfl))<|sc rfl (yc (opds:=[.tmp 57]) rfl kS25 kY25 rfl rfl (by decide) (.cons (tp rfl) .nil))<|sc rfl (zV (parts:=[(0,.const (.int .i64 2)),(1,.tmp 56),(2,.tmp 58)]) (ns:=[1,1,1]) (zs:=zpSpec) rfl rfl kB119 kC119 (λ w a hl=>by
 intro p hp;simp only[List.mem_cons,List.not_mem_nil,or_false] at hp
 rcases hp with rfl | rfl | rfl
 ·
  exact⟨by decide,rfl⟩
 ·
  exact⟨by decide,Rep.len (α:=Int) (OpdR.cells (tp rfl) hl)⟩
 ·
  exact⟨by decide,Rep.len (α:=List Int) (OpdR.cells (tp rfl) hl)⟩) (λ w a hl=>Spec.parts (x:=(⟨(2:Int),v31,([v22]:List Int)⟩:Spec)) (OpdR.cells cI hl) (OpdR.cells (tp rfl) hl) (OpdR.cells (tp rfl) hl)))<|.nil) [59] [(10,1)] (λ _ _ st37=>?_)
     refine st37.store (sb:=10) 1 FldS.id rfl rfl rfl ju rfl rfl (tp rfl) rfl [] rfl [] rfl rfl (λ M38 _ st38=>?_)
     refine wpList_nil (za ?_)
     refine wp_ret (zd (zr (zd (zd (zr (zd ?_))))))
     have h39:=jo h35 k21
     have h40:=lo h39 hx16
     have h41:=jo h40 k14
     exact st38.ret_box rfl ju rfl h41
    refine wp_skip (za (wp_seq ?_))
    obtain⟨v42,p42,h43⟩:=bs h36
    refine st34.sqB (sc rfl (ze rfl kT30 (tp rfl))<|sc rfl (oM rfl (tp rfl))<|sc rfl (oM rfl (tp rfl))<|sc rfl (oM rfl (tp rfl))<|sc rfl (zV (parts:=[(0,.tmp 61),(1,.tmp 62),(2,.tmp 63)]) (ns:=[1,1,1,1,1,1]) (zs:=zpFile) rfl rfl kB94 kC94 (λ w a hl=>by
 intro p hp;simp only[List.mem_cons,List.not_mem_nil,or_false] at hp
 rcases hp with rfl | rfl | rfl
 ·
  exact⟨by decide,Rep.len (α:=Int) (OpdR.cells (tp rfl) hl)⟩
 ·
  exact⟨by decide,Rep.len (α:=Str) (OpdR.cells (tp rfl) hl)⟩
 ·
  exact⟨by decide,Rep.len (α:=Str) (OpdR.cells (tp rfl) hl)⟩) (λ w a hl=>File.parts (x:=(⟨v22,x2,x3,false,0,[]⟩:File)) (OpdR.cells (tp rfl) hl) (OpdR.cells (tp rfl) hl) (OpdR.cells (tp rfl) hl) ⟨rfl,trivial⟩ ⟨rfl,trivial⟩ Ym))<|sc rfl (zq (l:=[.tmp 60,.tmp 64]) rfl kN234 (.cons (tp rfl) (.cons (tp rfl) .nil)) (WM p42))<|sc rfl (oA rfl (tp rfl))<|.nil) [2,3,4,5,11,14,15,16,19,27,28,29] [(10,1),(12,0)] (λ _ _ st44=>?_)
    refine st44.sqB (sc rfl (oM rfl (tp rfl))<|sc rfl (oM rfl (tp rfl))<|sg rfl rfl (λ hg=>oM rfl (tp rfl))<|sg rfl rfl (λ hg=>oCI rfl (zf hg rfl) cI)<|sc rfl (zW rfl (tp rfl) (zb rfl))<|.nil) [2,3,4,5,11,14,15,19,27,28,29,70] [(10,1),(12,0)] (λ _ _ st45=>?_)
    refine st45.cs rfl h43 (λ _ h46=>?_) (λ _ h47=>?_)
    ·
     refine wp_seq (wp_region_list ?_)
     refine st45.segB 3 (sc rfl (oM rfl (tp rfl))<|sc rfl (yc (opds:=[]) (α:=Int) rfl kS25 kY25 rfl rfl (by decide) .nil)<|sc rfl (zV (parts:=[(0,.const (.int .i64 1)),(1,.tmp 71),(2,.tmp 72)]) (ns:=[1,1,1]) (zs:=zpSpec) rfl rfl kB119 kC119 (λ w a hl=>by
 intro p hp;simp only[List.mem_cons,List.not_mem_nil,or_false] at hp
 rcases hp with rfl | rfl | rfl
 ·
  exact⟨by decide,rfl⟩
 ·
  exact⟨by decide,Rep.len (α:=Int) (OpdR.cells (tp rfl) hl)⟩
 ·
  exact⟨by decide,Rep.len (α:=List Int) (OpdR.cells (tp rfl) hl)⟩) (λ w a hl=>Spec.parts (x:=(⟨(1:Int),v42,([]:List Int)⟩:Spec)) (OpdR.cells cI hl) (OpdR.cells (tp rfl) hl) (OpdR.cells (tp rfl) hl)))<|.nil) [73] [(10,1)] (λ _ _ st48=>?_)
     refine st48.store (sb:=10) 1 FldS.id rfl rfl rfl ju rfl rfl (tp rfl) rfl [] rfl [] rfl rfl (λ M49 _ st49=>?_)
     refine wpList_nil (za ?_)
     refine wp_ret (zd (zr (zd (zd (zr (zd ?_))))))
     have h50:=jo h46 k21
     have h51:=lo h50 hx16
     have h52:=jo h51 k14
     exact st49.ret_box rfl ju rfl h52
    refine wp_skip (za ?_)
    obtain⟨v53,p53,h54⟩:=bs h47
    refine st45.sqB (sc rfl (oM rfl (tp rfl))<|sc rfl (oM rfl (tp rfl))<|sg rfl rfl (λ hg=>ze rfl kT30 (tp rfl))<|sg rfl rfl (λ hg=>oM rfl (tp rfl))<|sg rfl rfl (λ hg=>oM rfl (tp rfl))<|sg rfl rfl (λ hg=>zq (l:=[.tmp 76,.tmp 77,.tmp 78]) rfl kN235 (.cons (zf hg rfl) (.cons (zf hg rfl) (.cons (zf hg rfl) .nil))) (impl_hasDir_w (gh hg p53)))<|sc rfl (zW rfl (tp rfl) (zb rfl))<|.nil) [2,3,4,5,11,14,27,28,29,80] [(10,1),(12,0)] (λ _ _ st55=>?_)
    refine st55.cs rfl h54 (λ _ h56=>?_) (λ _ h57=>?_)
    ·
     refine wp_region_list ?_
     refine st55.segB 3 (sc rfl (oM rfl (tp rfl))<|sc rfl (oM rfl (tp rfl))<|sc rfl (yc (opds:=[.tmp 82]) rfl kS25 kY25 rfl rfl (by decide) (.cons (tp rfl) .nil))<|.nil) [2,3,4,5,11,27,28,29,83] [(10,1),(12,0),(81,0)] (λ _ _ st58=>?_)
     obtain⟨v60,p60,h61⟩:=bs h56
     refine st58.app 0 rfl rfl kE25 rfl rfl rfl wA p60 [2,3,4,5,11,27,28,29] rfl [10] rfl rfl (λ g59 M59 _ _ st59=>?_)
     refine st59.segA 1 [2,3,4,5,11,27,28,29] [(10,1),(12,0)] (λ _ _ st62=>?_)
     refine wpList_nil (zi (za ?_))
     exact⟨_,(Option.some.inj h61).symm,⟨_,_,_,st62.sel [2,3,4,5,11,27,28,29] rfl [(10,1),(12,0)] rfl ⟨iI,iT⟩⟩⟩
    refine wp_skip (zi (za ?_))
    exact⟨_,(Option.some.inj h57).symm,⟨_,_,_,st55.sel [2,3,4,5,11,27,28,29] rfl [(10,1),(12,0)] rfl ⟨iI,iT⟩⟩⟩
   rintro a21 w21 ⟨b21,rfl,⟨M21,q21_0,q21_1,st21⟩⟩
   have h63:=jn k21
   obtain⟨v64,p64,h65⟩:=bs h63
   refine st21.rgA [2,3,4,5,11,27,28,29] [(10,1),(12,0)] (λ _ _ st66=>?_)
   refine za ?_
   exact⟨_,(Option.some.inj h65).symm,⟨_,_,_,st66.sel [2,3,4,5,11,27,28,29] rfl [(10,1),(12,0)] rfl ⟨iI,iT⟩⟩⟩
  refine wp_exit (zn (zn (zG ?_)))
  refine za ?_
  have h67:=lo h20 hx16
  exact⟨_,(Option.some.inj h67).symm,⟨_,_,_,st18.sel [] rfl [(10,1),(12,0)] rfl ⟨iI,iT⟩⟩⟩
 rintro a14 w14 ⟨b14,rfl,⟨M14,q14_0,q14_1,st14⟩⟩
 have h68:=jn k14
 refine wp_seq ?_
 refine st14.sqB (sc rfl (oM rfl (tp rfl))<|sc rfl (op_lenT rfl kL25 (tp rfl))<|sc rfl (oCI rfl (tp rfl) cI)<|.nil) [88] [(10,1),(12,0)] (λ _ _ st69=>?_)
 refine st69.cs rfl h68 (λ _ h70=>?_) (λ _ h71=>?_)
 ·
  have st72:=st69.frz 0 (s:=12) rfl rfl [88] rfl [10] rfl
  refine wp_seq (wp_region_list ?_)
  refine st72.segB 2 (sc rfl (oM rfl (tp rfl))<|sc rfl (zV (parts:=[(0,.const (.int .i64 3)),(1,.const (.int .i64 (-1))),(2,.tmp 89)]) (ns:=[1,1,1]) (zs:=zpSpec) rfl rfl kB119 kC119 (λ w a hl=>by
 intro p hp;simp only[List.mem_cons,List.not_mem_nil,or_false] at hp
 rcases hp with rfl | rfl | rfl
 ·
  exact⟨by decide,rfl⟩
 ·
  exact⟨by decide,rfl⟩
 ·
  exact⟨by decide,Rep.len (α:=List Int) (OpdR.cells (tp rfl) hl)⟩) (λ w a hl=>Spec.parts (x:=(⟨(3:Int),(-1:Int),b14.2⟩:Spec)) (OpdR.cells cI hl) (OpdR.cells cI hl) (OpdR.cells (tp rfl) hl)))<|.nil) [90] [(10,1)] (λ _ _ st73=>?_)
  refine st73.store (sb:=10) 1 FldS.id rfl rfl rfl ju rfl rfl (tp rfl) rfl [] rfl [] rfl rfl (λ M74 _ st74=>?_)
  refine wpList_nil (za ?_)
  refine wp_ret (zd ?_)
  exact st74.ret_box rfl ju rfl h70
 refine wp_skip (za (wp_seq (wp_region_list ?_)))
 obtain⟨v75,p75,h76⟩:=bsW h71 YA
 refine st69.segA 1 [91] [(10,1)] (λ _ _ st77=>?_)
 refine st77.store (sb:=10) 1 FldS.id rfl rfl rfl ju rfl rfl (tp rfl) rfl [] rfl [] rfl rfl (λ M78 _ st78=>?_)
 refine wpList_nil (za (wp_ret ?_))
 exact st78.ret_box rfl ju rfl h76
open Go.RowKit
set_option maxRecDepth 10000
end Go.Proofs.YtiiiokblnnlapaaGreatDoor
