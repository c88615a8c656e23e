import Derived.Test.YtbbfcjifihknnaaGreatDoorTB
import Derived.Test.YtbbfcjifihknnaaGreatDoorTO
import Derived.Test.YtbbfcjifihknnaaGreatDoorTK
import Derived.Test.YtbbfcjifihknnaaGreatDoorTG
import Derived.Test.YtbbfcjifihknnaaGreatDoorTI
import Derived.Test.YtbbfcjifihknnaaGreatDoorTV
import Derived.Test.YtbbfcjifihknnaaGreatDoorTQ
import Derived.Test.YtbbfcjifihknnaaGreatDoorRows
import Derived.LaidMore
import Derived.LaidLaws
import Derived.LaidSub
import Derived.MakeChecks
import Derived.ProofKit
import Derived.Deep.Slices
namespace Go.Proofs.YtbbfcjifihknnaaGreatDoor
open Go.RowKit Go.Proofs.Tryz
attribute [local irreducible] OpRel OpdR
set_option maxRecDepth 10000
set_option maxHeartbeats 1600000
variable{ms:Array (String×TypeId)}{r:Bool}{d:DataW Unit}{l:List (String×DataW Unit)}{x1 y:List Int}{p:List MemPlace}{L x x0 x2:List Str}{fuel g u:Nat}{P:Program}{R:Rec}{s:Str}{name:String}{e t ti:TypeId}{w:World}
theorem kZ3:wk prog 3=some wh:=by kernel_rfl
def jr(x0:List Str)(s11:Int×Int):Option ((Int×Int)⊕(Int⊕Int)):=
if(cmpI .lss s11.2 (x0.length:Int))=true then((atI x0 s11.2).bind λ v16=>
(i64 (s11.1 - (v16.l.length:Int))).bind λ v17=>
if cmpI .lss v17 0 then(some (.inr (.inr (-1:Int))))
else((i64 (s11.2+(1:Int))).bind λ v27=>
some (.inl (v17,v27))))
else(some (.inr (.inl s11.1)))
def Zc(x0:List Str)(x1:Int):Option Int:=
(i64 (x1 - (x0.length:Int))).bind λ v2=>
if cmpI .lss v2 0 then(some (-1:Int))
else(Option.bind (α:=Int⊕Int) (zR (λ s11=>jr x0 s11) (v2,(0:Int))) (Sum.elim (λ b9=>
some b9) some))
theorem zdg{x1:Int}{r:Int}(h:Zc x0 x1=some r):Fn prog 34 [dt x0,dt x1] (dt r):=by
 unfold Zc at h
 refine fnx (fn:=f34) 0 func34 Z Z λ M w0 _ st0=>?_
 refine st0.sq1 [0,1] λ st1=>?_
 have⟨v2,p2,h3⟩:=bs h
 refine st1.sq1 [0,1] (λ st4=>Kc ?_)
 refine st4.sq1 [0,1,11] λ st5=>?_
 refine st5.cs h3 (λ _ h6=>?_) (λ _ h7=>wp_skip ?_)
 ·refine st5.sq1 [4] (λ st8=>wp_ret (zt ?_))
  exact st8.ret Z Z h6
 refine za ?_
 have⟨o9,p9,k9⟩:=bs h7
 refine zV (λ a w=>∃ b9,o9=.inl b9/\Sx (Frm.of w0) 28 M M [] [(1,dt b9)] [] a w) ?_ ?_
 ·refine st5.sq1 [0,1,5] (λ st10=>wp_block ?_)
  refine yV p9 (λ s11 a w=>Sx (Frm.of w0) 28 M M [] [(0,dt x0),(1,dt s11.1),(5,dt s11.2)] [] a w) (st10.sel0 [0,1,5]) ?_
  rintro s11 z11 a11 w11 st11 hs11 hx11
  have h12:jr x0 s11=some z11:=hs11
  unfold jr at h12
  refine Kc ?_
  refine st11.sq1 [0,1,5,15] λ st13=>?_
  refine st13.cs h12 (λ _ h14=>wp_skip ?_) (λ _ h15=>wp_exit (zI (zI (z7 ?_))))
  ·refine za ?_
   refine Kc ?_
   refine wp_block ?_
   obtain⟨v16,p16,v17,p17,h19⟩:=bsB h14
   refine st13.sq1 [0,1,5] λ st20=>?_
   refine st20.sq1 [0,1,5,26] λ st21=>?_
   refine st21.cs h19 (λ _ h22=>?_) (λ _ h23=>wp_skip ?_)
   ·refine st21.sq1 [4] (λ st24=>wp_ret (zS (zt (zt (zS (zt ?_))))))
    have h25:=lo h22 hx11
    have h26:=jo h25 k9
    exact st24.ret Z Z h26
   refine zy ?_
   refine za ?_
   have⟨v27,p27,h28⟩:=bs h23
   refine st21.rg1 [0,1,5] (λ st29=>za ?_)
   exact⟨_,(Option.some.inj h28).symm,st29.sel0 [0,1,5]⟩
  refine za ?_
  have h30:=lo h15 hx11
  exact⟨_,(Option.some.inj h30).symm,st13.sel0 [1]⟩
 rintro a9 w9 ⟨b9,rfl,st9⟩
 have h31:=jn k9
 refine st9.sq1 [4] (λ st32=>wp_ret ?_)
 exact st32.ret Z Z h31
def jH(x0:List Int)(s10:(List Int)×Int):Option (((List Int)×Int)⊕(List Int)):=
if(cmpI .lss s10.2 (x0.length:Int))=true then((atI x0 s10.2).bind λ v15=>
(atI s10.1 s10.2).bind λ _v16=>
(setO s10.1 s10.2 v15).bind λ v22=>
(i64 (s10.2+(1:Int))).bind λ v24=>
some (.inl (v22,v24)))
else(some (.inr s10.1))
def qC(x0:List Int):Option (List Int):=
(makeO 1 8 (x0.length:Int) zInt).bind λ v5=>
Option.bind (α:=(List Int)) (zR (λ s10=>jH x0 s10) (v5,(0:Int))) λ o8=>
some o8
theorem Jw{x0:List Int}{r:List Int}(h:qC x0=some r):FnOwn prog 11 [dt x0] 3 r:=by
 unfold qC at h
 refine fnxO (fn:=f11) 1 func11 Z Z λ M w0 _ st0=>?_
 refine st0.sq2 (sc Z (oA Z (jj (α:=Int) (e:=3)))<|.nil) [0] (λ st1=>Kc ?_)
 refine Ka ?_
 refine st1.segA 2 [0,6] [] λ st2=>?_
 have⟨v5,p5,h6⟩:=bs h
 refine st2.make 0 Z Z kE25 kZ3 wZ Z (by simp) p5 [0] Z [] Z Z λ g4 _ _ _ st4=>?_
 refine st4.segA 1 [0] [(3,0)] (λ st7=>Kb ?_)
 refine za ?_
 have⟨o8,p8,k8⟩:=bs h6
 refine zV (λ a w=>∃ M1 q8_0,Sx (Frm.of w0) 22 M M1 [oneB q8_0] [] [(3,0,dtip q8_0 3 o8)] a w) ?_ ?_
 ·refine st7.sqA [0,4] [(3,0)] (λ st9=>wp_block ?_)
  refine yV p8 (λ s10 a w=>∃ M1 q10_0,Sx (Frm.of w0) 22 M M1 [oneB q10_0] [(0,dt x0),(4,dt s10.2)] [(3,0,dtip q10_0 3 s10.1)] a w) fx ?_
  rintro s10 z10 a10 w10 ⟨M10,q10_0,st10⟩ hs10 hx10
  have h11:jH x0 s10=some z10:=hs10
  unfold jH at h11
  refine Kc ?_
  refine st10.sqA [0,4,11] [(3,0)] λ st12=>?_
  refine st12.cs h11 (λ _ h13=>wp_skip ?_) (λ _ h14=>wp_exit (zI (zI (z7 ?_))))
  ·refine za ?_
   refine Kc ?_
   refine wp_block ?_
   refine Ka ?_
   obtain⟨v15,p15,v16,p16,h18⟩:=bsB h13
   refine st12.segB 7 (sP 6 (r:=by exact sc Z (xIdxT Z kS25 T T p16)<|.nil)) [0,4,19] [(3,0),(20,0)] λ st19=>?_
   have⟨v22,p22,h23⟩:=bs h18
   refine st19.storeT (sb:=3) 0 (tp Z) p22 [0,4] [] (λ _ _ st21=>Kb ?_)
   refine zy ?_
   refine za ?_
   have⟨v24,p24,h25⟩:=bs h23
   refine st21.rgA [0,4] [(3,0)] (λ st26=>za ?_)
   exact fl h25
  refine za ?_
  have h27:=lo h14 hx10
  cases h27
  exact fx
 rintro a8 w8 ⟨M8,q8_0,st8⟩
 have h28:=k8
 refine st8.sqA [] [(2,0)] (λ st29=>wp_ret ?_)
 exact st29.ret_own 0 h28
def wB(x0:List Str)(s10:(List Str)×Int):Option (((List Str)×Int)⊕(List Str)):=
if(cmpI .lss s10.2 (x0.length:Int))=true then((atI x0 s10.2).bind λ v15=>
(atI s10.1 s10.2).bind λ _v16=>
(setO s10.1 s10.2 v15).bind λ v22=>
(i64 (s10.2+(1:Int))).bind λ v24=>
some (.inl (v22,v24)))
else(some (.inr s10.1))
def wT(x0:List Str):Option (List Str):=
(makeO 1 16 (x0.length:Int) zStr).bind λ v5=>
Option.bind (α:=(List Str)) (zR (λ s10=>wB x0 s10) (v5,(0:Int))) λ o8=>
some o8
theorem XH{r:List Str}(h:wT x0=some r):FnOwn prog 36 [dt x0] 9 r:=by
 unfold wT at h
 refine fnxO (fn:=f36) 1 func36 Z Z λ M w0 _ st0=>?_
 refine st0.sq2 (sc Z (oA Z (jj (α:=Str) (e:=9)))<|.nil) [0] (λ st1=>Kc ?_)
 refine Ka ?_
 refine st1.segA 2 [0,6] [] λ st2=>?_
 have⟨v5,p5,h6⟩:=bs h
 refine st2.make 0 Z Z kE64 kZ9 XX Z (by simp) p5 [0] Z [] Z Z λ g4 _ _ _ st4=>?_
 refine st4.segA 1 [0] [(3,0)] (λ st7=>Kb ?_)
 refine za ?_
 have⟨o8,p8,k8⟩:=bs h6
 refine zV (λ a w=>∃ M1 q8_0,Sx (Frm.of w0) 22 M M1 [oneB q8_0] [] [(3,0,dtip q8_0 9 o8)] a w) ?_ ?_
 ·refine st7.sqA [0,4] [(3,0)] (λ st9=>wp_block ?_)
  refine yV p8 (λ s10 a w=>∃ M1 q10_0,Sx (Frm.of w0) 22 M M1 [oneB q10_0] [(0,dt x0),(4,dt s10.2)] [(3,0,dtip q10_0 9 s10.1)] a w) fx ?_
  rintro s10 z10 a10 w10 ⟨M10,q10_0,st10⟩ hs10 hx10
  have h11:wB x0 s10=some z10:=hs10
  unfold wB at h11
  refine Kc ?_
  refine st10.sqA [0,4,11] [(3,0)] λ st12=>?_
  refine st12.cs h11 (λ _ h13=>wp_skip ?_) (λ _ h14=>wp_exit (zI (zI (z7 ?_))))
  ·refine za ?_
   refine Kc ?_
   refine wp_block ?_
   refine Ka ?_
   obtain⟨v15,p15,v16,p16,h18⟩:=bsB h13
   refine st12.segB 7 (sP 6 (r:=by exact sc Z (xIdxT Z kS64 T T p16)<|.nil)) [0,4,19] [(3,0),(20,0)] λ st19=>?_
   have⟨v22,p22,h23⟩:=bs h18
   refine st19.storeT (sb:=3) 0 (tp Z) p22 [0,4] [] (λ _ _ st21=>Kb ?_)
   refine zy ?_
   refine za ?_
   have⟨v24,p24,h25⟩:=bs h23
   refine st21.rgA [0,4] [(3,0)] (λ st26=>za ?_)
   exact fl h25
  refine za ?_
  have h27:=lo h14 hx10
  cases h27
  exact fx
 rintro a8 w8 ⟨M8,q8_0,st8⟩
 have h28:=k8
 refine st8.sqA [] [(2,0)] (λ st29=>wp_ret ?_)
 exact st29.ret_own 0 h28
def Zd(x0:List Int)(x1:List Int)(s8:Int):Option (Int⊕(Unit⊕Bool)):=
if(cmpI .lss s8 (x0.length:Int))=true then((atI x0 s8).bind λ v13=>
(atI x1 s8).bind λ v14=>
if cmpI .neq v13 v14 then(some (.inr (.inr false)))
else((i64 (s8+(1:Int))).bind λ v23=>
some (.inl v23)))
else(some (.inr (.inl ())))
def YL(x0:List Int)(x1:List Int):Option Bool:=
if(cmpI .neq (x0.length:Int) (x1.length:Int))=true then(some false)
else(Option.bind (α:=Unit⊕Bool) (zR (λ s8=>Zd x0 x1 s8) (0:Int)) (Sum.elim (λ _b6=>
some true) some))
theorem laws_eqIntS_w{x0:List Int}(h:YL x0 x1=some r):Fn prog 16 [dt x0,dt x1] (dt r):=by
 unfold YL at h
 refine fnx (fn:=f16) 0 func16 Z Z λ M w0 _ st0=>?_
 refine st0.sq1 [0,1] (λ st1=>Kc ?_)
 refine st1.sq1 [0,1,10] λ st2=>?_
 refine st2.cs h (λ _ h3=>?_) (λ _ h4=>wp_skip ?_)
 ·refine st2.sq1 [4] (λ st5=>wp_ret (zt ?_))
  exact st5.ret Z Z h3
 refine za ?_
 have⟨o6,p6,k6⟩:=bs h4
 refine zV (λ a w=>∃ b6,o6=.inl b6/\Sx (Frm.of w0) 26 M M [] [] [] a w) ?_ ?_
 ·refine st2.sq1 [0,1,5] (λ st7=>wp_block ?_)
  refine yV p6 (λ s8 a w=>Sx (Frm.of w0) 26 M M [] [(0,dt x0),(1,dt x1),(5,dt s8)] [] a w) (st7.sel0 [0,1,5]) ?_
  rintro s8 z8 a8 w8 st8 hs8 hx8
  have h9:Zd x0 x1 s8=some z8:=hs8
  unfold Zd at h9
  refine Kc ?_
  refine st8.sq1 [0,1,5,14] λ st10=>?_
  refine st10.cs h9 (λ _ h11=>wp_skip ?_) (λ _ h12=>wp_exit (zI (zI (z7 ?_))))
  ·refine za ?_
   refine Kc ?_
   refine wp_block ?_
   refine Kc ?_
   obtain⟨v13,p13,v14,p14,h16⟩:=bsB h11
   refine st10.drA (D:=[_,_,_,_,_,_,_,_,_]) zG [[(0,nS)],[(5,nS)],[(17,0),(18,1)],[(19,2)],[(1,nS)],[(5,nS)],[(21,4),(22,5)],[(23,6)],[(20,3),(24,7)]] [0,1,5,25] [] (λ st17=>za ?_)
   refine st17.cs h16 (λ _ h18=>?_) (λ _ h19=>wp_skip ?_)
   ·refine st17.sq1 [4] (λ st20=>wp_ret (zS (zt (zt (zS (zt ?_))))))
    have h21:=lo h18 hx8
    have h22:=jo h21 k6
    exact st20.ret Z Z h22
   refine zy ?_
   refine za ?_
   have⟨v23,p23,h24⟩:=bs h19
   refine st17.rg1 [0,1,5] (λ st25=>za ?_)
   exact⟨_,(Option.some.inj h24).symm,st25.sel0 [0,1,5]⟩
  refine za ?_
  have h26:=lo h12 hx8
  exact⟨_,(Option.some.inj h26).symm,st10.sel0 []⟩
 rintro a6 w6 ⟨b6,rfl,st6⟩
 have h27:=jn k6
 refine st6.sq1 [4] (λ st28=>wp_ret ?_)
 exact st28.ret Z Z h27
def js(x0:List Str)(x1:List Str)(s8:Int):Option (Int⊕(Unit⊕Bool)):=
if(cmpI .lss s8 (x0.length:Int))=true then((atI x0 s8).bind λ v13=>
(atI x1 s8).bind λ v14=>
if(decide (v13≠v14))=true then(some (.inr (.inr false)))
else((i64 (s8+(1:Int))).bind λ v23=>
some (.inl v23)))
else(some (.inr (.inl ())))
def Ze(x0:List Str)(x1:List Str):Option Bool:=
if(cmpI .neq (x0.length:Int) (x1.length:Int))=true then(some false)
else(Option.bind (α:=Unit⊕Bool) (zR (λ s8=>js x0 x1 s8) (0:Int)) (Sum.elim (λ _b6=>
some true) some))
theorem zdh{x1:List Str}(h:Ze x0 x1=some r):Fn prog 38 [dt x0,dt x1] (dt r):=by
 unfold Ze at h
 refine fnx (fn:=f38) 0 func38 Z Z λ M w0 _ st0=>?_
 refine st0.sq1 [0,1] (λ st1=>Kc ?_)
 refine st1.sq1 [0,1,10] λ st2=>?_
 refine st2.cs h (λ _ h3=>?_) (λ _ h4=>wp_skip ?_)
 ·refine st2.sq1 [4] (λ st5=>wp_ret (zt ?_))
  exact st5.ret Z Z h3
 refine za ?_
 have⟨o6,p6,k6⟩:=bs h4
 refine zV (λ a w=>∃ b6,o6=.inl b6/\Sx (Frm.of w0) 26 M M [] [] [] a w) ?_ ?_
 ·refine st2.sq1 [0,1,5] (λ st7=>wp_block ?_)
  refine yV p6 (λ s8 a w=>Sx (Frm.of w0) 26 M M [] [(0,dt x0),(1,dt x1),(5,dt s8)] [] a w) (st7.sel0 [0,1,5]) ?_
  rintro s8 z8 a8 w8 st8 hs8 hx8
  have h9:js x0 x1 s8=some z8:=hs8
  unfold js at h9
  refine Kc ?_
  refine st8.sq1 [0,1,5,14] λ st10=>?_
  refine st10.cs h9 (λ _ h11=>wp_skip ?_) (λ _ h12=>wp_exit (zI (zI (z7 ?_))))
  ·refine za ?_
   refine Kc ?_
   refine wp_block ?_
   refine Kc ?_
   obtain⟨v13,p13,v14,p14,h16⟩:=bsB h11
   refine st10.drA (D:=[_,_,_,_,_,_,_,_,_]) zG [[(0,nS)],[(5,nS)],[(17,0),(18,1)],[(19,2)],[(1,nS)],[(5,nS)],[(21,4),(22,5)],[(23,6)],[(20,3),(24,7)]] [0,1,5,25] [] (λ st17=>za ?_)
   refine st17.cs h16 (λ _ h18=>?_) (λ _ h19=>wp_skip ?_)
   ·refine st17.sq1 [4] (λ st20=>wp_ret (zS (zt (zt (zS (zt ?_))))))
    have h21:=lo h18 hx8
    have h22:=jo h21 k6
    exact st20.ret Z Z h22
   refine zy ?_
   refine za ?_
   have⟨v23,p23,h24⟩:=bs h19
   refine st17.rg1 [0,1,5] (λ st25=>za ?_)
   exact⟨_,(Option.some.inj h24).symm,st25.sel0 [0,1,5]⟩
  refine za ?_
  have h26:=lo h12 hx8
  exact⟨_,(Option.some.inj h26).symm,st10.sel0 []⟩
 rintro a6 w6 ⟨b6,rfl,st6⟩
 have h27:=jn k6
 refine st6.sq1 [4] (λ st28=>wp_ret ?_)
 exact st28.ret Z Z h27
def jX(R:Rec)(x0:Str)(x1:List Int)(x2:List Str):Option Bool:=
if(cmpI .gtr (x0.l.length:Int) 1048576)=true then(some true)
else(if(cmpI .gtr (x1.length:Int) 1048576)=true then(some true)
else((Zc x2 (1048576:Int)).bind λ v12=>
if cmpI .lss v12 0 then(some true)
else((qC x1).bind λ v19=>
(wT x2).bind λ v20=>
(Yc R x0 v19 v20).bind λ v21=>
(qC x1).bind λ v26=>
(wT x2).bind λ v29=>
(Yb R x0 v26 v29).bind λ v32=>
if(decide (v32≠v21))=true then(some false)
else((qC x1).bind λ v39=>
(YL v26 v39).bind λ v40=>
if(!v40)=true then(some false)
else((wT x2).bind λ v47=>
(Ze v29 v47).bind λ v48=>
if(!v48)=true then(some false)
else(some true))))))
theorem QB(hR:R.ok){x0:Str}(h:jX R x0 x1 x2=some r):Fn prog 6 [wg (dt x0),dt x1,dt x2] (dt r):=by
 unfold jX at h
 refine fnx (fn:=f6) 0 func6 Z Z λ M _ _ st0=>?_
 have st1:=st0.glb (s:=0) (g:=51)
 refine st1.sq1 [0,1,2,51] (λ st2=>Kc ?_)
 refine st2.sq1 [0,1,2,14,51] λ st3=>?_
 refine st3.cs h (λ _ h4=>?_) (λ _ h5=>wp_skip ?_)
 ·refine st3.sq1 [6,51] (λ st6=>wp_ret (zt ?_))
  exact st6.ret Z Z h4
 refine za ?_
 refine Kc ?_
 refine st3.sq1 [0,1,2,17,51] λ st7=>?_
 refine st7.cs h5 (λ _ h8=>?_) (λ _ h9=>wp_skip ?_)
 ·refine st7.sq1 [6,51] (λ st10=>wp_ret (zt ?_))
  exact st10.ret Z Z h8
 refine za ?_
 refine st7.sq1 [0,1,2,7,51] λ st11=>?_
 obtain⟨v12,p12,h13⟩:=bsW h9 zdg
 refine st11.sq1 [0,1,2,7,51] (λ st14=>Kc ?_)
 refine st14.sq1 [0,1,2,22,51] λ st15=>?_
 refine st15.cs h13 (λ _ h16=>?_) (λ _ h17=>wp_skip ?_)
 ·refine st15.sq1 [6,51] (λ st18=>wp_ret (zt ?_))
  exact st18.ret Z Z h16
 refine za ?_
 obtain⟨v19,p19,v20,p20,v21,p21,h24⟩:=bsC h17
 refine st15.sq2 (sP 2 (r:=by exact sc Z (zz (l:=[.tmp 24]) Z (.cons T .nil) ((Jw p19)).fn)<|sP 1 (r:=by exact sc Z (zz (l:=[.tmp 26]) Z (.cons T .nil) ((XH p20)).fn)<|sc Z (oK (zec hR p21))<|segC))) [0,1,2,8,51] λ st25=>?_
 have⟨v26,p26,h27⟩:=bs h24
 refine st25.sq2 (sP 1 (r:=by exact sc Z (zz (l:=[.tmp 29]) Z (.cons T .nil) ((Jw p26)).fn)<|segC)) [0,1,2,8,9,51] λ st28=>?_
 have⟨v29,p29,h30⟩:=bs h27
 refine st28.sq2 (sP 1 (r:=by exact sc Z (zz (l:=[.tmp 31]) Z (.cons T .nil) ((XH p29)).fn)<|segC)) [0,1,2,8,9,10,51] λ st31=>?_
 have⟨v32,p32,h33⟩:=bs h30
 refine st31.sq2 (sP 3 (r:=by exact sc Z (zz (l:=[.tmp 33,.tmp 34,.tmp 35]) Z (.cons (zcY (s:=51) Z T) (.cons T (.cons T .nil))) (zeb hR p32))<|segC)) [1,2,8,9,10,11,51] (λ st34=>Kc ?_)
 refine st34.sq1 [1,2,9,10,39,51] λ st35=>?_
 refine st35.cs h33 (λ _ h36=>?_) (λ _ h37=>wp_skip ?_)
 ·refine st35.sq1 [6,51] (λ st38=>wp_ret (zt ?_))
  exact st38.ret Z Z h36
 refine za ?_
 refine Kc ?_
 obtain⟨v39,p39,v40,p40,h42⟩:=bsB h37
 refine st35.sq2 (sP 2 (r:=by exact sc Z (zz (l:=[.tmp 41]) Z (.cons T .nil) ((Jw p39)).fn)<|sc Z (oK (laws_eqIntS_w p40))<|segC)) [2,10,44,51] λ st43=>?_
 refine st43.cs h42 (λ _ h44=>?_) (λ _ h45=>wp_skip ?_)
 ·refine st43.sq1 [6,51] (λ st46=>wp_ret (zt ?_))
  exact st46.ret Z Z h44
 refine za ?_
 refine Kc ?_
 obtain⟨v47,p47,v48,p48,h50⟩:=bsB h45
 refine st43.sq2 (sP 2 (r:=by exact sc Z (zz (l:=[.tmp 46]) Z (.cons T .nil) ((XH p47)).fn)<|sc Z (oK (zdh p48))<|segC)) [49,51] λ st51=>?_
 refine st51.cs h50 (λ _ h52=>?_) (λ _ h53=>wp_skip ?_)
 ·refine st51.sq1 [6,51] (λ st54=>wp_ret (zt ?_))
  exact st54.ret Z Z h52
 refine za ?_
 refine st51.sq1 [6,51] (λ st55=>wp_ret ?_)
 exact st55.ret Z Z h53
def jV(xs:List Str):Nat:=xs.length+sumL (λ s:Str=>s.l.length) xs
theorem lenStringS_le{n:Nat}(h:jV x<=n):x.length<=n:=by unfold jV at h;omega
theorem szStringS_eq{l:Int}(h0:Okd x)(hl:0<=l)(h2:l<=1048576):Zc x l=some (szR (jV x) l):=by
 unfold Zc jV
 refine szS_list h0.len (λ k hk l hn h3 h4=>?_) (λ l=>?_) hl h2
 ·have h5:=(h0.mem (List.getElem_mem hk)).str
  unfold jr
  simp only[lss_at hk,if_true,zbz hk,Kd]
  rw[qz (by omega) (by omega),Kd]
  unfold szR
  by_cases e:((x[k].l.length:Nat):Int)<=l
  ·rw[Ke e,Kf (by simp[cmpI];omega),zT (by omega),Kf (by omega)];rfl
  ·rw[Kf e,Ke (by simp[cmpI];omega),Ke (by omega)]
 ·unfold jr
  rw[zcq];rfl
def totIntS(xs:List Int):Nat:=xs.length
theorem eqIntS_eq{x:List Int}(h:x.length<=288230376151711744):YL x y=some (decide (x=y)):=by
 unfold YL
 refine eqS_list (λ k hk hk2=>?_) ?_ (by omega)
 ·unfold Zd
  simp only[lss_at hk,if_true,zbz hk,zbz hk2,Kd,zT (show k<4611686018427387904 by omega)]
  by_cases e:x[k]=y[k] <;> simp[e,cmpI]
 ·unfold Zd
  rw[zcq];rfl
theorem eqStringS_eq{y:List Str}(h:x.length<=288230376151711744):Ze x y=some (decide (x=y)):=by
 unfold Ze
 refine eqS_list (λ k hk hk2=>?_) ?_ (by omega)
 ·unfold js
  simp only[lss_at hk,if_true,zbz hk,zbz hk2,Kd,zT (show k<4611686018427387904 by omega)]
  by_cases e:x[k]=y[k] <;> simp[e]
 ·unfold js
  rw[zcq];rfl
theorem toIntS_eq{x:List Int}(h:totIntS x<=1048576):qC x=some x:=by
 unfold totIntS at h
 unfold qC
 rw[makeO_of (by omega) (by omega) (by omega),Kd]
 have hl:zR (λ s=>jH x s) (List.replicate x.length zInt,0)=some x:=by
  refine copy_loop x zInt (λ k hk=>?_) (λ ys=>?_) (by omega) Z
  ·unfold jH
   simp only[lss_at hk,if_true,zbz hk,Kd,zO,at_at hk,setO_nat (len_at hk),zT (show k<4611686018427387904 by omega)]
  ·unfold jH
   rw[zcq];rfl
 rw[hl];rfl
theorem toStringS_eq(h:jV x<=1048576):wT x=some x:=by
 unfold jV at h
 unfold wT
 rw[makeO_of (by omega) (by omega) (by omega),Kd]
 have hl:zR (λ s=>wB x s) (List.replicate x.length zStr,0)=some x:=by
  refine copy_loop x zStr (λ k hk=>?_) (λ ys=>?_) (by omega) Z
  ·unfold wB
   simp only[lss_at hk,if_true,zbz hk,Kd,zO,at_at hk,setO_nat (len_at hk),zT (show k<4611686018427387904 by omega)]
  ·unfold wB
   rw[zcq];rfl
 rw[hl];rfl
theorem law_RunDesk{p:List Int}{l:List Str}(hc:Okd l):jX (scc yN) s p l=some true:=by
 unfold jX
 cases hs:cmpI .gtr (s.l.length:Int) 1048576 with
 | true=>rw[Ke Z]
 |false=>
  have hs':s.l.length<=1048576:=by have:=of_decide_eq_false hs;omega
  rw[Kf (by decide)]
  cases hp:cmpI .gtr (p.length:Int) 1048576 with
  | true=>rw[Ke Z]
  |false=>
   have hp':p.length<=1048576:=by have:=of_decide_eq_false hp;omega
   rw[Kf (by decide),szStringS_eq hc (by omega) (by omega),Kd]
   cases h2:cmpI .lss (szR (jV l) 1048576) 0 with
   | true=>rw[Ke Z]
   |false=>
    have h2':¬ szR (jV l) 1048576<0:=of_decide_eq_false h2
    obtain⟨h3,_⟩:=szR_nn (t:=jV l) (left:=1048576) (by omega)
    have h4:jV l<=1048576:=by omega
    have hx:∀ x∈l,x.l.length<=1048576:=λ x hx=>by
     have h5:=sumL_mem (f:=λ s:Str=>s.l.length) hx
     unfold jV at h4
     omega
    have hl:=lenStringS_le h4
    obtain⟨r,e4,e5⟩:=RunDesk_eq hs' hp' hx
    rw[Kf (by decide),toIntS_eq (by unfold totIntS;exact hp'),toStringS_eq h4,Kd,Kd,e5,Kd,Kd,Kd,e4,Kd,Kf (by simp),Kd,eqIntS_eq (by omega),Kd,decide_eq_true Z,Kf (by decide),Kd,eqStringS_eq (by omega),Kd,decide_eq_true Z,Kf (by decide)]
theorem zaN(s:Str)(p:List Int)(l:List Str):Fn prog 6 [wg (dt s),dt p,dt l] (dt true):=.okd (x:=l) (by simp) λ hc=>QB (Jr yN) (law_RunDesk hc)
open Go.RowKit Go.ChangeShapes Go.WideShapes
section
variable{H:Type}{enc:TypeId×Value->H}{sp:Nat->Bool}{held:Bool}
theorem strs_of{cs:List Value}(ht:P.underlying t=some (.slice e))(hs:P.underlying e=some .string)
  (h:DataW.trod enc P w 0 sp held fuel t cs=some (.slice (L.map λ s=>.lit (.string s.l)) [],p))(hL:L≠[]:=by decide)(hc:P.cellsOf e=1:=by kernel_rfl):Rep.rdc noB w cs L:=by
 have hcap:∃ A n c,cs=[.slice A n c]/\n<=c/\c<=maxLen:=by
  rcases Deep.open_slice ht h with⟨rfl,_⟩ | ⟨a,len,cap,m,n,D,Pl,rfl,_,hl,hm,_⟩
  ·exact⟨_,_,_,Z,Nat.le_refl _,Nat.zero_le _⟩
  ·exact⟨_,_,_,Z,hl,hm⟩
 obtain⟨a,cap,rfl,hl,hat⟩:=open_row ht hc h
 obtain⟨A,n,c,he,h1,h2⟩:=hcap
 simp only[List.cons.injEq,Value.slice.injEq,and_true] at he
 obtain⟨rfl,rfl,rfl⟩:=he
 rw[List.length_map] at*
 have one:∀ i x,L[i]?=some x->w.cell? (a.add i)=some (strv x)/\x.l.length<=maxLen:=λ i x hx=>by
  obtain⟨v,k,q,hv,ht⟩:=hat i (.lit (.string x.l)) (by rw[List.getElem?_map,hx];rfl)
  obtain⟨s,hs1,hs2,hs3⟩:=DataW.trod_string hs ht
  injection hs1 with hs1
  simp only[Prod.mk.injEq,DataW.lit.injEq,Lit.string.injEq] at hs2
  have e:v=strv x:=by
   rw[hs1]
   unfold strv
   rw[hs2.1]
  exact⟨e ▸ hv,by rw[hs2.1];simpa using hs3⟩
 have hrow:∀ k,k<=L.length->∃ cells:List Value,cells.length=k/\rowR noB w cells (L.take k)/\∀ j u,cells[j]?=some u->w.cell? (a.add j)=some u:=by
  intro k
  induction k with
  | zero=>intro _;exact⟨[],Z,Z,λ j u hj=>by simp at hj⟩
  |succ k ih=>
   intro hk
   obtain⟨cells,hx,hr,hcl⟩:=ih (by omega)
   obtain⟨x,hxk⟩:∃ x,L[k]?=some x:=⟨_,List.getElem?_eq_getElem (by omega)⟩
   obtain⟨o1,o2⟩:=one k x hxk
   refine⟨cells++[strv x],by simp[hx],?_,λ j u hj=>?_⟩
   ·rw[List.take_add_one,hxk]
    exact ZW hr (zbF ⟨Z,o2⟩)
   ·by_cases hjl:j<cells.length
    ·rw[List.getElem?_append_left hjl] at hj;exact hcl j u hj
    ·rw[List.getElem?_append_right (by omega)] at hj
     have hj2:=(List.getElem?_eq_some_iff.1 hj).1
     simp only[List.length_cons,List.length_nil] at hj2
     have hj3:j=k:=by omega
     subst hj3
     rw[hx,Nat.sub_self] at hj
     simp only[List.getElem?_cons_zero,Option.some.injEq] at hj
     rw[← hj];exact o1
 obtain⟨cells,hx,hr,hcl⟩:=hrow L.length (Nat.le_refl _)
 rw[List.take_length] at hr
 refine⟨some a,cap,Z,hl,h2,.inr ?_⟩
 obtain⟨x,hx0⟩:∃ x,L[0]?=some x:=by
  cases L with
  | nil=>exact absurd Z hL
  | cons x _=>exact⟨x,Z⟩
 have hspot:a.spot=none:=by simpa[Addr.add] using World.cell?_spot (one 0 x hx0).1
 obtain⟨b,o,s⟩:=a
 subst hspot
 exact⟨b,o,cells,Z,λ hf=>hf,λ j u hj=>by rw[← add_plain];exact hcl j u hj,hr⟩
end
theorem glob_rd{α:Type}[Rep α]{x:α}{n:String}{cs:Array Value}(hg:P.globalNamed n=some g)(hv:w.var? P n=some cs)(h:Rep.rdc noB w cs.toList x):(dptr x).rd noB w (ptrB g):=
 ⟨g,0,cs.toList,Z,λ hf=>hf,λ j u hj=>by rw[Nat.zero_add,World.var?_cell hg hv j,← hj];simp,h⟩
theorem err_of{H:Type}{enc:TypeId×Value->H}{sp:Nat->Bool}{cs:List Value}{d:DataW H}(hi:P.underlying ti=some (.interface ms))
  (h:DataW.trod enc P w 0 sp false fuel ti cs=some (.iface name d,p)):Rep.rdc noB w cs (⟨⟩:Err):=by
 obtain⟨_,u,v,rfl,_⟩:=iface_of_trod hi h
 exact⟨_,Z,.inr ⟨_,_,Z⟩⟩
theorem ty_of{t:Nat}(h:(P.globals[g]?).map (·.type)=some t)(k:(P.globals[g]?).map (·.type)=some u):t=u:=Option.some.inj (h.symm.trans k)
theorem zcG{n:String}(hd:(n,d)∈l)(hg:P.globalNamed n=some g)(hu:(P.globals[g]?).map (·.type)=some u:=by kernel_rfl):∀ {ps:List MemPlace},DataW.LaidVars P w l ps->∃ cs fuel p,w.var? P n=some cs/\DataW.trod (λ _=>()) P w 0 (λ _=>true) false fuel u cs.toList=some (d,p):=by
 induction l with
 | nil=>cases hd
 |cons x l ih=>
  intro ps h
  obtain⟨m,e⟩:=x
  obtain⟨g',t,cs,fuel,p,q,h1,h2,h3,h4,h5,_⟩:=h
  rcases List.mem_cons.1 hd with he | hd
  ·injection he with e1 e2
   subst e1;subst e2
   obtain rfl:=Option.some.inj (h1.symm.trans hg)
   obtain rfl:=ty_of h2 hu
   exact⟨cs,fuel,p,h3,h4⟩
  ·exact ih hd h5
theorem gok_of(h:laidMetH prog Rows.fnExactRunDeskRow.laid w):GOk noB w:=by
 rw[MakeChecks.laidMetH_plain _ _ _ (by kernel_rfl)] at h
 obtain⟨ps,hV,_⟩:=h
 have mK : ("loop.example/importhouse/impl.kindNames", Rows.laid_loop_example_importhouse_impl_kindNames) ∈ Rows.fnExactRunDeskRow.laid := by simp [Rows.fnExactRunDeskRow]
 have mE : ("loop.example/importhouse/impl.endNames", Rows.laid_loop_example_importhouse_impl_endNames) ∈ Rows.fnExactRunDeskRow.laid := by simp [Rows.fnExactRunDeskRow]
 have mS : ("strconv.ErrSyntax", Rows.laid_strconv_ErrSyntax) ∈ Rows.fnExactRunDeskRow.laid := by simp [Rows.fnExactRunDeskRow]
 have mR : ("strconv.ErrRange", Rows.laid_strconv_ErrRange) ∈ Rows.fnExactRunDeskRow.laid := by simp [Rows.fnExactRunDeskRow]
 have gK : prog.globalNamed "loop.example/importhouse/impl.kindNames" = some 0 := by kernel_rfl
 have gE : prog.globalNamed "loop.example/importhouse/impl.endNames" = some 1 := by kernel_rfl
 have gS : prog.globalNamed "strconv.ErrSyntax" = some 3 := by kernel_rfl
 have gR : prog.globalNamed "strconv.ErrRange" = some 4 := by kernel_rfl
 have us:prog.underlying 64=some (.slice 9):=by kernel_rfl
 have ut:prog.underlying 9=some .string:=by kernel_rfl
 obtain⟨cK,fK,pK,vK,tK⟩:=zcG (u:=64) mK gK (by kernel_rfl) hV
 obtain⟨cE,fE,pE,vE,tE⟩:=zcG (u:=64) mE gE (by kernel_rfl) hV
 obtain⟨cS,fS,pS,vS,tS⟩:=zcG (u:=243) mS gS (by kernel_rfl) hV
 obtain⟨cR,fR,pR,vR,tR⟩:=zcG (u:=243) mR gR (by kernel_rfl) hV
 exact⟨glob_rd gK vK (strs_of us ut tK),glob_rd gE vE (strs_of us ut tE),glob_rd gS vS (err_of Tryz.underlying243 tS),glob_rd gR vR (err_of Tryz.underlying243 tR)⟩
end Go.Proofs.YtbbfcjifihknnaaGreatDoor
