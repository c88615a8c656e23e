import Derived.Test.YtobplpdjkfbfoaaGreatDoorRKc
import Derived.Test.YtobplpdjkfbfoaaGreatDoorRPb
namespace Go.Proofs.YtobplpdjkfbfoaaGreatDoor
open Go.RowKit Tryz
set_option maxRecDepth 10000
set_option maxHeartbeats 1600000
theorem kN28:fnB prog 28=true:=by kernel_rfl
theorem kN29:fnB prog 29=true:=by kernel_rfl
theorem kN30:fnB prog 30=true:=by kernel_rfl
theorem kN13:fnB prog 13=true:=by kernel_rfl
def yn(v15:(List Str)×Bool)(s31:Int)(o37:(List Str))(s97:Int):Option (Int⊕(Unit⊕(Int⊕(Unit⊕Bool)))):=
if(cmpI .lss s97 (o37.length:Int))=true then((atI o37 s97).bind λ v102=>
(wU v15.1 v102).bind λ v103=>
(gO (cmpI .lss v103 (0:Int) == false) (atI o37 s97)).bind λ v104=>
(gO (cmpI .lss v103 (0:Int) == false) (wU v15.1 v104)).bind λ v105=>
if(cmpI .lss v103 (0:Int)||cmpI .gtr v105 s31)=true then(some (.inr (.inr (.inr (.inr false)))))
else((i64 (s97+(1:Int))).bind λ v118=>
some (.inl v118)))
else(some (.inr (.inl ())))
def yo(v6:Tree×(List Int)×Str)(v15:(List Str)×Bool)(s31:Int):Option (Int⊕(Unit⊕Bool)):=
if(cmpI .lss s31 (v15.1.length:Int))=true then(Option.bind (α:=Unit⊕(Int⊕(Unit⊕Bool))) (Option.bind (α:=(List Str)) ((atI v15.1 s31).bind λ v45=>
(atI v15.1 s31).bind λ v50=>
(xq v6.1 v6.2.1 v45).bind λ v56=>
(xj v50).bind λ v59=>
(appO 16 v56 v59).bind λ v63=>
some v63) λ o37=>
zF (λ s97=>yn v15 s31 o37 s97) (0:Int)) (Sum.elim (λ _b36=>
(i64 (s31+(1:Int))).bind λ v123=>
some (.inl v123)) some))
else(some (.inr (.inl ())))
def wx(x0:List UInt8):Option Bool:=
if(cmpI .gtr (x0.length:Int) (1048576:Int))=true then(some true)
else((wl x0).bind λ v6=>
(jG v6.1 v6.2.1 v6.2.2).bind λ v15=>
(jI v6.1 v6.2.1 v6.2.2).bind λ v18=>
(xl v15.1 v18.1).bind λ v21=>
if(((!v21)||(v15.2 != v18.2))||(!v15.2))=true then((xl v15.1 v18.1).bind λ v26=>
some (v26&&(v15.2 == v18.2)))
else(Option.bind (α:=Unit⊕Bool) (zF (λ s31=>yo v6 v15 s31) (0:Int)) (Sum.elim (λ _b29=>
(i64 ((v15.1.length:Int) - (1:Int))).bind λ v128=>
(atI v15.1 v128).bind λ v129=>
(gO (decide (v129=v6.2.2) == true) (xt v6.1 v6.2.1 v6.2.2)).bind λ v130=>
(gO (decide (v129=v6.2.2) == true) (zW v15.1 v130)).bind λ v131=>
(gO ((decide (v129=v6.2.2)&&v131) == true) (xt v6.1 v6.2.1 v6.2.2)).bind λ v132=>
(gO ((decide (v129=v6.2.2)&&v131) == true) (zW v132 v15.1)).bind λ v133=>
some ((decide (v129=v6.2.2)&&v131)&&v133)) some)))
theorem X1{x0:List UInt8}{r:Bool}(h:wx x0=some r):Fn prog 5 [dt x0] (dt r):=by
 unfold wx at h
 refine fnx (fn:=f5) 2 func5 rfl (oD rfl) rfl (λ M w0 a0 st0=>?_)
 refine st0.sq0 (sc rfl (oA rfl cB)<|.nil) [0] rfl (λ a1 w1 st1=>wp_seq ?_)
 refine st1.sq0 (sc rfl (oM rfl (tp rfl))<|sc rfl (z6 rfl kL22 (tp rfl))<|sc rfl (oCI rfl (tp rfl) cI)<|.nil) [0,15] rfl (λ a2 w2 st2=>?_)
 refine st2.cs (c:=15) rfl h (λ c3 h3=>?_) (λ c4 h4=>?_)
 ·
  refine st2.sq0 (sc rfl (oA rfl cB)<|.nil) [2] rfl (λ a5 w5 st5=>wp_ret (zd ?_))
  exact st5.ret rfl rfl h3
 refine wp_skip (za (wp_seq (wp_region_list ?_)))
 obtain⟨v6,p6,h7⟩:=bs h4
 refine st2.seg 6 (
  sc rfl (oM rfl (tp rfl))<|sc rfl (zn (l:=[.tmp 17]) rfl kN28 (.cons (tp rfl) .nil) (WS p6))<|sc rfl (oM rfl (tp rfl))<|sc rfl (xExt (i:=0) rfl (tp rfl) rfl)<|sc rfl (xExt (i:=1) rfl (tp rfl) rfl)<|sc rfl (xExt (i:=2) rfl (tp rfl) rfl)<|.nil) [19,20,21] rfl [] rfl trivial (λ a8 w8 st8=>?_)
 refine st8.alloc 1 rfl rfl kZ25 zrTree (by simp) [19,20,21] rfl [] rfl rfl (λ b10 M10 a10 w10 st10=>?_)
 refine st10.store (sb:=3) 1 FldS.id rfl rfl rfl kT25 rfl rfl (tp rfl) rfl [20,21] rfl [] rfl rfl (λ M12 w12 st12=>?_)
 have st13:=st12.frzX 1 (s:=3) rfl rfl [20,21] rfl [] rfl
 refine st13.seg 2 (
  sc rfl (oA rfl (tp rfl))<|sc rfl (oA rfl (tp rfl))<|.nil) [3,4,5] rfl [] rfl trivial (λ a14 w14 st14=>?_)
 refine wpList_nil (za ?_)
 obtain⟨v15,p15,h16⟩:=bs h7
 refine st14.sq0 (sc rfl (zk rfl kT25 (tp rfl))<|sc rfl (oM rfl (tp rfl))<|sc rfl (oM rfl (tp rfl))<|sc rfl (zn (l:=[.tmp 23,.tmp 24,.tmp 25]) rfl kN29 (.cons (tp rfl) (.cons (tp rfl) (.cons (tp rfl) .nil))) (FnN.fn2o<|QT p15))<|sc rfl (oM rfl (tp rfl))<|sc rfl (xExt (i:=0) rfl (tp rfl) rfl)<|sc rfl (xExt (i:=1) rfl (tp rfl) rfl)<|sc rfl (oA rfl (tp rfl))<|sc rfl (oA rfl (tp rfl))<|.nil) [3,4,5,6,7] rfl (λ a17 w17 st17=>?_)
 obtain⟨v18,p18,h19⟩:=bs h16
 refine st17.sq0 (sc rfl (zk rfl kT25 (tp rfl))<|sc rfl (oM rfl (tp rfl))<|sc rfl (oM rfl (tp rfl))<|sc rfl (zn (l:=[.tmp 30,.tmp 31,.tmp 32]) rfl kN30 (.cons (tp rfl) (.cons (tp rfl) (.cons (tp rfl) .nil))) (QU p18))<|sc rfl (oM rfl (tp rfl))<|sc rfl (xExt (i:=0) rfl (tp rfl) rfl)<|sc rfl (xExt (i:=1) rfl (tp rfl) rfl)<|sc rfl (oA rfl (tp rfl))<|sc rfl (oA rfl (tp rfl))<|.nil) [3,4,5,6,7,8,9] rfl (λ a20 w20 st20=>wp_seq ?_)
 obtain⟨v21,p21,h22⟩:=bs h19
 refine st20.sq0 (sc rfl (oM rfl (tp rfl))<|sc rfl (oM rfl (tp rfl))<|sc rfl (zn (l:=[.tmp 36,.tmp 37]) rfl kN31 (.cons (tp rfl) (.cons (tp rfl) .nil)) (Z0 p21))<|sc rfl (xo rfl (tp rfl))<|sc rfl (oM rfl (tp rfl))<|sg rfl rfl (λ hg=>oM rfl (tp rfl))<|sg rfl rfl (λ hg=>oM rfl (tp rfl))<|sg rfl rfl (λ hg=>op_neT rfl kV4 (zi hg rfl) (zi hg rfl))<|sc rfl (wj rfl (tp rfl) (zb rfl))<|sc rfl (oM rfl (tp rfl))<|sg rfl rfl (λ hg=>oM rfl (tp rfl))<|sg rfl rfl (λ hg=>xo rfl (zi hg rfl))<|sc rfl (wj rfl (tp rfl) (zb rfl))<|.nil) [3,4,5,6,7,8,9,48] rfl (λ a23 w23 st23=>?_)
 refine st23.cs (c:=48) rfl h22 (λ c24 h24=>?_) (λ c25 h25=>?_)
 ·
  obtain⟨v26,p26,h27⟩:=bs h24
  refine st23.sq0 (sc rfl (oM rfl (tp rfl))<|sc rfl (oM rfl (tp rfl))<|sc rfl (zn (l:=[.tmp 49,.tmp 50]) rfl kN31 (.cons (tp rfl) (.cons (tp rfl) .nil)) (Z0 p26))<|sc rfl (oM rfl (tp rfl))<|sg rfl rfl (λ hg=>oM rfl (tp rfl))<|sg rfl rfl (λ hg=>oM rfl (tp rfl))<|sg rfl rfl (λ hg=>op_eqT rfl kV4 (zi hg rfl) (zi hg rfl))<|sc rfl (ym rfl (tp rfl) (zb rfl))<|sc rfl (oA rfl (tp rfl))<|.nil) [2] rfl (λ a28 w28 st28=>wp_ret (zd ?_))
  exact st28.ret rfl rfl h27
 refine wp_skip (za ?_)
 obtain⟨o29,p29,k29⟩:=bs h25
 refine zj (λ a w=>∃ b29,o29=.inl b29/\(∃ M1 q29_0 q29_1,Sx (Frm.of w0) 123 M M1 [oneB q29_0,oneB q29_1] [(3,dptr v6.1),(4,dt v6.2.1),(5,dt v6.2.2),(6,dt v15.1)] [] a w)) ?_ ?_
 ·
  refine st23.sq0 (sc rfl (oA rfl cI)<|.nil) [3,4,5,6,10] rfl (λ a30 w30 st30=>wp_block ?_)
  refine zB p29 (λ s31 a w=>∃ M1 q31_0 q31_1,Sx (Frm.of w0) 123 M M1 [oneB q31_0,oneB q31_1] [(3,dptr v6.1),(4,dt v6.2.1),(5,dt v6.2.2),(6,dt v15.1),(10,dt s31)] [] a w) ⟨_,_,_,st30.sel [3,4,5,6,10] rfl [] rfl trivial⟩ ?_
  rintro s31 z31 a31 w31 ⟨M31,q31_0,q31_1,st31⟩ hs31 hx31
  have h32:yo v6 v15 s31=some z31:=hs31
  unfold yo at h32
  refine wp_seq ?_
  refine st31.sq0 (sc rfl (oM rfl (tp rfl))<|sc rfl (oM rfl (tp rfl))<|sc rfl (z6 rfl kL32 (tp rfl))<|sc rfl (oCI rfl (tp rfl) (tp rfl))<|.nil) [3,4,5,6,10,60] rfl (λ a33 w33 st33=>?_)
  refine st33.cs (c:=60) rfl h32 (λ c34 h34=>?_) (λ c35 h35=>?_)
  ·
   refine wp_skip (za ?_)
   obtain⟨o36,p36,k36⟩:=bs h34
   refine zj (λ a w=>∃ b36,o36=.inl b36/\(∃ M1 q36_0 q36_1,Sx (Frm.of w0) 123 M M1 [oneB q36_0,oneB q36_1] [(3,dptr v6.1),(4,dt v6.2.1),(5,dt v6.2.2),(6,dt v15.1),(10,dt s31)] [] a w)) ?_ ?_
   ·
    refine wp_block ?_
    obtain⟨o37,p37,k37⟩:=bs p36
    refine zj (λ a w=>∃ M1 q37_0 q37_1,Sx (Frm.of w0) 123 M M1 [oneB q37_0,oneB q37_1] [(3,dptr v6.1),(4,dt v6.2.1),(5,dt v6.2.2),(6,dt v15.1),(10,dt s31)] [(11,0,dtip q37_0 9 o37)] a w) ?_ ?_
    ·
     have st38:=st33.rst 0 (by simp) [3,4,5,6,10,60] rfl [] rfl
     refine st38.opn (s:=3) rfl (λ b39 o39 c39 st39=>?_)
     refine st39.held (λ w=>CellsAt w b39 o39 c39) zO (λ w40 st40=>?_)
     refine st40.tkW (i:=0) (sb:=3) rfl rfl (by decide +kernel) (by decide +kernel) (by decide +kernel) (λ _ _ _ _ h=>h) rfl rfl kT25 rfl (λ a41 st41=>?_)
     refine st41.tkM (i:=1) (sb:=4) rfl rfl (by decide +kernel) (by decide +kernel) (by decide +kernel) (λ _ _ _ _ h=>h) (st41.pkS (s:=3) rfl) rfl rfl rfl rfl (λ a42 st42=>?_)
     refine st42.tkM (i:=2) (sb:=6) rfl rfl (by decide +kernel) (by decide +kernel) (by decide +kernel) (λ _ _ _ _ h=>h) (st42.pkS (s:=3) rfl) rfl rfl rfl rfl (λ a43 st43=>?_)
     refine st43.tkM (i:=3) (sb:=10) rfl rfl (by decide +kernel) (by decide +kernel) (by decide +kernel) (λ _ _ _ _ h=>h) (st43.pkS (s:=3) rfl) rfl rfl rfl rfl (λ a44 st44=>?_)
     obtain⟨v45,p45,h47⟩:=bs p37
     refine st44.tkIF (i:=4) rfl rfl (by decide +kernel) (by decide +kernel) (by decide +kernel) (λ _ _ _ _ h=>h) (st44.pkS (s:=3) rfl) rfl kS32 (tp rfl) (tp rfl) p45 (next:=λ a46 st46=>?_)
     refine st46.tkM (i:=7) (sb:=6) rfl rfl (by decide +kernel) (by decide +kernel) (by decide +kernel) (λ _ _ _ _ h=>h) (st46.pkS (s:=3) rfl) rfl rfl rfl rfl (λ a48 st48=>?_)
     refine st48.tkM (i:=8) (sb:=10) rfl rfl (by decide +kernel) (by decide +kernel) (by decide +kernel) (λ _ _ _ _ h=>h) (st48.pkS (s:=3) rfl) rfl rfl rfl rfl (λ a49 st49=>?_)
     obtain⟨v50,p50,h52⟩:=bs h47
     refine st49.tkIF (i:=9) rfl rfl (by decide +kernel) (by decide +kernel) (by decide +kernel) (λ _ _ _ _ h=>h) (st49.pkS (s:=3) rfl) rfl kS32 (tp rfl) (tp rfl) p50 (next:=λ a51 st51=>?_)
     obtain⟨v56,p56,v59,p59,v63,p63,h68⟩:=bsC h52
     refine aH2 (i:=5) (j:=10) (by decide +kernel) rfl rfl ?_ ?_
     ·
      refine st51.seg 1 (sc rfl (zk rfl kT9 (tp rfl))<|.nil) [3,4,5,6,10,63,64,68,72] rfl [] rfl trivial (λ a69 w69 st69=>?_)
      refine aHN (st69.pkS (s:=3) rfl) ?_
      refine aH2 (i:=6) (j:=10) (by decide +kernel) rfl rfl ?_ ?_
      ·
       refine st69.own (l:=[.tmp 63,.tmp 64,.tmp 68]) 0 rfl rfl kN14 (.cons (tp rfl) (.cons (tp rfl) (.cons (tp rfl) .nil))) (jm p56) (by simp) [3,4,5,6,10,72] rfl [] rfl rfl (λ g71 M71 a71 w71 st71=>?_)
       refine aHN (st71.pkS (s:=3) rfl) ?_
       refine aH1 (i:=10) (by decide +kernel) rfl ?_
       refine st71.seg 1 (sc rfl (zk rfl kT9 (tp rfl))<|.nil) [3,4,5,6,10,73] rfl [(69,0)] rfl iT (λ a72 w72 st72=>?_)
       refine aHN (st72.pkS (s:=3) rfl) ?_
       refine aH1 (i:=11) (by decide +kernel) rfl ?_
       refine st72.seg 1 (sc rfl (zn (l:=[.tmp 73]) rfl kN32 (.cons (tp rfl) .nil) ((jF p59)).fn)<|.nil) [3,4,5,6,10,74] rfl [(69,0)] rfl iT (λ a73 w73 st73=>?_)
       refine aHN (st73.pkS (s:=3) rfl) ?_
       refine aH1 (i:=12) (by decide +kernel) rfl ?_
       refine st73.app 0 rfl rfl kE32 rfl rfl rfl yS p63 [3,4,5,6,10] rfl [] rfl rfl (λ g75 M75 a75 w75 st75=>?_)
       refine aHN (st75.pkS (s:=3) rfl) ?_
       refine aH1 (i:=13) (by decide +kernel) rfl ?_
       refine st75.seg 1 (sc rfl (oA rfl (tp rfl))<|.nil) [3,4,5,6,10] rfl [(11,0)] rfl iT (λ a76 w76 st76=>?_)
       refine aHN (st76.pkS (s:=3) rfl) ?_
       refine aH0 (by decide +kernel) ?_
       have st77:=st76.clo (s:=3) rfl
       refine za ?_
       obtain rfl:=Option.some.inj h68
       exact⟨_,_,_,st77.sel [3,4,5,6,10] rfl [(11,0)] rfl iT⟩
      ·
       refine st69.seg 1 (sc rfl (zk rfl kT9 (tp rfl))<|.nil) [3,4,5,6,10,63,64,68,73] rfl [] rfl trivial (λ a78 w78 st78=>?_)
       refine aHN (st78.pkS (s:=3) rfl) ?_
       refine aH1 (i:=6) (by decide +kernel) rfl ?_
       refine st78.own (l:=[.tmp 63,.tmp 64,.tmp 68]) 0 rfl rfl kN14 (.cons (tp rfl) (.cons (tp rfl) (.cons (tp rfl) .nil))) (jm p56) (by simp) [3,4,5,6,10,73] rfl [] rfl rfl (λ g80 M80 a80 w80 st80=>?_)
       refine aHN (st80.pkS (s:=3) rfl) ?_
       refine aH1 (i:=11) (by decide +kernel) rfl ?_
       refine st80.seg 1 (sc rfl (zn (l:=[.tmp 73]) rfl kN32 (.cons (tp rfl) .nil) ((jF p59)).fn)<|.nil) [3,4,5,6,10,74] rfl [(69,0)] rfl iT (λ a81 w81 st81=>?_)
       refine aHN (st81.pkS (s:=3) rfl) ?_
       refine aH1 (i:=12) (by decide +kernel) rfl ?_
       refine st81.app 0 rfl rfl kE32 rfl rfl rfl yS p63 [3,4,5,6,10] rfl [] rfl rfl (λ g83 M83 a83 w83 st83=>?_)
       refine aHN (st83.pkS (s:=3) rfl) ?_
       refine aH1 (i:=13) (by decide +kernel) rfl ?_
       refine st83.seg 1 (sc rfl (oA rfl (tp rfl))<|.nil) [3,4,5,6,10] rfl [(11,0)] rfl iT (λ a84 w84 st84=>?_)
       refine aHN (st84.pkS (s:=3) rfl) ?_
       refine aH0 (by decide +kernel) ?_
       have st85:=st84.clo (s:=3) rfl
       refine za ?_
       obtain rfl:=Option.some.inj h68
       exact⟨_,_,_,st85.sel [3,4,5,6,10] rfl [(11,0)] rfl iT⟩
     ·
      refine st51.seg 1 (sc rfl (zk rfl kT9 (tp rfl))<|.nil) [3,4,5,6,10,63,64,67,73] rfl [] rfl trivial (λ a86 w86 st86=>?_)
      refine aHN (st86.pkS (s:=3) rfl) ?_
      refine aH1 (i:=5) (by decide +kernel) rfl ?_
      refine st86.seg 1 (sc rfl (zk rfl kT9 (tp rfl))<|.nil) [3,4,5,6,10,63,64,68,73] rfl [] rfl trivial (λ a87 w87 st87=>?_)
      refine aHN (st87.pkS (s:=3) rfl) ?_
      refine aH1 (i:=6) (by decide +kernel) rfl ?_
      refine st87.own (l:=[.tmp 63,.tmp 64,.tmp 68]) 0 rfl rfl kN14 (.cons (tp rfl) (.cons (tp rfl) (.cons (tp rfl) .nil))) (jm p56) (by simp) [3,4,5,6,10,73] rfl [] rfl rfl (λ g89 M89 a89 w89 st89=>?_)
      refine aHN (st89.pkS (s:=3) rfl) ?_
      refine aH1 (i:=11) (by decide +kernel) rfl ?_
      refine st89.seg 1 (sc rfl (zn (l:=[.tmp 73]) rfl kN32 (.cons (tp rfl) .nil) ((jF p59)).fn)<|.nil) [3,4,5,6,10,74] rfl [(69,0)] rfl iT (λ a90 w90 st90=>?_)
      refine aHN (st90.pkS (s:=3) rfl) ?_
      refine aH1 (i:=12) (by decide +kernel) rfl ?_
      refine st90.app 0 rfl rfl kE32 rfl rfl rfl yS p63 [3,4,5,6,10] rfl [] rfl rfl (λ g92 M92 a92 w92 st92=>?_)
      refine aHN (st92.pkS (s:=3) rfl) ?_
      refine aH1 (i:=13) (by decide +kernel) rfl ?_
      refine st92.seg 1 (sc rfl (oA rfl (tp rfl))<|.nil) [3,4,5,6,10] rfl [(11,0)] rfl iT (λ a93 w93 st93=>?_)
      refine aHN (st93.pkS (s:=3) rfl) ?_
      refine aH0 (by decide +kernel) ?_
      have st94:=st93.clo (s:=3) rfl
      refine za ?_
      obtain rfl:=Option.some.inj h68
      exact⟨_,_,_,st94.sel [3,4,5,6,10] rfl [(11,0)] rfl iT⟩
    rintro a37 w37 ⟨M37,q37_0,q37_1,st37⟩
    have h95:=k37
    refine st37.sq (sc rfl (oA rfl cI)<|.nil) [3,4,5,6,10,12] rfl [(11,0)] rfl iT (λ a96 w96 st96=>wp_block ?_)
    refine zB h95 (λ s97 a w=>∃ M1 q97_0 q97_1,Sx (Frm.of w0) 123 M M1 [oneB q97_0,oneB q97_1] [(3,dptr v6.1),(4,dt v6.2.1),(5,dt v6.2.2),(6,dt v15.1),(10,dt s31),(12,dt s97)] [(11,0,dtip q97_0 9 o37)] a w) ⟨_,_,_,st96.sel [3,4,5,6,10,12] rfl [(11,0)] rfl iT⟩ ?_
    rintro s97 z97 a97 w97 ⟨M97,q97_0,q97_1,st97⟩ hs97 hx97
    have h98:yn v15 s31 o37 s97=some z97:=hs97
    unfold yn at h98
    refine wp_seq ?_
    refine st97.sq (sc rfl (oM rfl (tp rfl))<|sc rfl (oM rfl (tp rfl))<|sc rfl (Zt rfl kL32 (tp rfl))<|sc rfl (oCI rfl (tp rfl) (tp rfl))<|.nil) [3,4,5,6,10,12,79] rfl [(11,0)] rfl iT (λ a99 w99 st99=>?_)
    refine st99.cs (c:=79) rfl h98 (λ c100 h100=>?_) (λ c101 h101=>?_)
    ·
     refine wp_skip (za (wp_seq (wp_block ?_)))
     obtain⟨v102,p102,v103,p103,v104,p104,v105,p105,h109⟩:=bsD h100
     refine st99.sq (sc rfl (oM rfl (tp rfl))<|sc rfl (oM rfl (tp rfl))<|sc rfl (oM rfl (tp rfl))<|sc rfl (xIdxT rfl kS32 (tp rfl) (tp rfl) p102)<|sc rfl (zN rfl kT9 (tp rfl))<|sc rfl (zn (l:=[.tmp 82,.tmp 86]) rfl kN33 (.cons (tp rfl) (.cons (tp rfl) .nil)) (XS p103))<|sc rfl (oCI rfl (tp rfl) cI)<|sc rfl (oM rfl (tp rfl))<|sg rfl rfl (λ hg=>oM rfl (tp rfl))<|sg rfl rfl (λ hg=>oM rfl (tp rfl))<|sg rfl rfl (λ hg=>oM rfl (tp rfl))<|sg rfl rfl (λ hg=>xIdxT rfl kS32 (zi hg rfl) (zi hg rfl) (gh hg p104))<|sg rfl rfl (λ hg=>zN rfl kT9 (zi hg rfl))<|sg rfl rfl (λ hg=>zn (l:=[.tmp 90,.tmp 94]) rfl kN33 (.cons (zi hg rfl) (.cons (zi hg rfl) .nil)) (XS (gh hg p105)))<|sg rfl rfl (λ hg=>oM rfl (tp rfl))<|sg rfl rfl (λ hg=>oCI rfl (zi hg rfl) (zi hg rfl))<|sc rfl (wj rfl (tp rfl) (zb rfl))<|.nil) [3,4,5,6,10,12,98] rfl [(11,0)] rfl iT (λ a110 w110 st110=>?_)
     refine st110.cs (c:=98) rfl h109 (λ c111 h111=>?_) (λ c112 h112=>?_)
     ·
      refine st110.sq0 (sc rfl (oA rfl cB)<|.nil) [2] rfl (λ a113 w113 st113=>wp_ret (zt (zd (zd (zt (zt (zd (zd (zt (zd ?_))))))))))
      have h114:=lo h111 hx97
      have h115:=jo h114 k36
      have h116:=lo h115 hx31
      have h117:=jo h116 k29
      exact st113.ret rfl rfl h117
     refine wp_skip (ze (za ?_))
     obtain⟨v118,p118,h119⟩:=bs h112
     refine st110.rg (sc rfl (oM rfl (tp rfl))<|sc rfl (xAr rfl (tp rfl) cI p118)<|sc rfl (oA rfl (tp rfl))<|.nil) [3,4,5,6,10,12] rfl [(11,0)] rfl iT (λ a120 w120 st120=>za ?_)
     exact⟨_,(Option.some.inj h119).symm,⟨_,_,_,st120.sel [3,4,5,6,10,12] rfl [(11,0)] rfl iT⟩⟩
    refine wp_exit (zh (zh (zv ?_)))
    refine ze (za ?_)
    have h121:=lo h101 hx97
    exact⟨_,(Option.some.inj h121).symm,⟨_,_,_,st99.sel [3,4,5,6,10] rfl [] rfl trivial⟩⟩
   rintro a36 w36 ⟨b36,rfl,⟨M36,q36_0,q36_1,st36⟩⟩
   have h122:=jn k36
   obtain⟨v123,p123,h124⟩:=bs h122
   refine st36.rg0 (sc rfl (oM rfl (tp rfl))<|sc rfl (xAr rfl (tp rfl) cI p123)<|sc rfl (oA rfl (tp rfl))<|.nil) [3,4,5,6,10] rfl (λ a125 w125 st125=>za ?_)
   exact⟨_,(Option.some.inj h124).symm,⟨_,_,_,st125.sel [3,4,5,6,10] rfl [] rfl trivial⟩⟩
  refine wp_exit (zh (zh (zv ?_)))
  refine za ?_
  have h126:=lo h35 hx31
  exact⟨_,(Option.some.inj h126).symm,⟨_,_,_,st33.sel [3,4,5,6] rfl [] rfl trivial⟩⟩
 rintro a29 w29 ⟨b29,rfl,⟨M29,q29_0,q29_1,st29⟩⟩
 have h127:=jn k29
 obtain⟨v128,p128,v129,p129,v130,p130,v131,p131,h137⟩:=bsD h127
 obtain⟨v132,p132,v133,p133,h139⟩:=bsB h137
 refine st29.sq0 (sc rfl (oM rfl (tp rfl))<|sc rfl (oM rfl (tp rfl))<|sc rfl (z6 rfl kL32 (tp rfl))<|sc rfl (xAr rfl (tp rfl) cI p128)<|sc rfl (xIdx rfl kS32 (tp rfl) (tp rfl) p129)<|sc rfl (zk rfl kT9 (tp rfl))<|sc rfl (oM rfl (tp rfl))<|sc rfl (jP rfl (tp rfl) (tp rfl))<|sc rfl (oM rfl (tp rfl))<|sg rfl rfl (λ hg=>oM rfl (tp rfl))<|sg rfl rfl (λ hg=>zk rfl kT25 (tp rfl))<|sg rfl rfl (λ hg=>oM rfl (tp rfl))<|sg rfl rfl (λ hg=>oM rfl (tp rfl))<|sg rfl rfl (λ hg=>zn (l:=[.tmp 109,.tmp 110,.tmp 111]) rfl kN16 (.cons (zi hg rfl) (.cons (zi hg rfl) (.cons (zi hg rfl) .nil))) ((qe (gh hg p130))).fn)<|sg rfl rfl (λ hg=>zn (l:=[.tmp 108,.tmp 112]) rfl kN13 (.cons (zi hg rfl) (.cons (zi hg rfl) .nil)) (qq (gh hg p131)))<|sc rfl (ym rfl (tp rfl) (zb rfl))<|sc rfl (oM rfl (tp rfl))<|sg rfl rfl (λ hg=>zk rfl kT25 (tp rfl))<|sg rfl rfl (λ hg=>oM rfl (tp rfl))<|sg rfl rfl (λ hg=>oM rfl (tp rfl))<|sg rfl rfl (λ hg=>zn (l:=[.tmp 116,.tmp 117,.tmp 118]) rfl kN16 (.cons (zi hg rfl) (.cons (zi hg rfl) (.cons (zi hg rfl) .nil))) ((qe (gh hg p132))).fn)<|sg rfl rfl (λ hg=>oM rfl (tp rfl))<|sg rfl rfl (λ hg=>zn (l:=[.tmp 119,.tmp 120]) rfl kN13 (.cons (zi hg rfl) (.cons (zi hg rfl) .nil)) (qq (gh hg p133)))<|sc rfl (ym rfl (tp rfl) (zb rfl))<|sc rfl (oA rfl (tp rfl))<|.nil) [2] rfl (λ a140 w140 st140=>wp_ret ?_)
 exact st140.ret rfl rfl h139
open Go.RowKit Tryz
section
variable{t:Tree}{path:List Int}{s:Str}{o all:List Str}{b:Bool}
theorem needs_inner{i:Nat}(ho:o.length<=1000)(ha:all.length<=1000)(h:∀ y∈all,∃ j:Nat,j<=i/\o[j]?=some y):zF (λ s97=>yn (o,b) (i:Int) all s97) (0:Int)=some (.inl ()):=by
 refine Zd all.length (λ k=>(k:Int)) (λ k hk=>?_) ?_ (by omega) rfl
 ·
  obtain⟨y,hx,hm⟩:=Xt hk
  obtain⟨j,hj,hoj⟩:=h y hm
  obtain⟨q,hq,hqj⟩:=idxOf_upto hoj
  have h1:cmpI .lss (q:Int) (0:Int)=false:=by simp only[cmpI,decide_eq_false_iff_not];omega
  have h2:cmpI .gtr (q:Int) (i:Int)=false:=by simp only[cmpI,decide_eq_false_iff_not];omega
  unfold yn
  rw[zz,if_pos (decide_eq_true hk),zQ,hx,obS,Ju (by simp only;omega),hq,obS,h1,show((false == false):Bool)=true from rfl,wF,obS,Ju (by simp only;omega),hq,wF,obS,h2,zM (by omega)]
  rfl
 ·
  unfold yn
  rw[zz,if_neg (by simp)]
theorem needs_outer(ht:y6 t)(hp:path.length<=1048576)(h:yz t path s=true):zF (λ s31=>yo (t,path,s) (wh t path s,b) s31) (0:Int)=some (.inl ()):=by
 obtain⟨hok,_,_⟩:=jO h
 obtain⟨hv,_,hs⟩:=yA hok
 have ha:=plain_ahd h
 have hlen:=XM t path s
 refine Zd (wh t path s).length (λ k=>(k:Int)) (λ k hk=>?_) ?_ (by omega) rfl
 ·
  obtain⟨n,hx,hm⟩:=Xt hk
  have hnv:=wS hv hs (JE h n hm)
  have he:=ZL (path:=path) hv hnv
  have h3:=ZE hnv
  have hi:=needs_inner (b:=b) (o:=wh t path s) (all:=zZ t.files path n++yT n) (i:=k) hlen (by simp;omega) λ y hy=>(List.mem_append.1 hy).elim (λ hy=>edge_at ha hx hy) λ hy=>above_at ha _ rfl hnv k hx y hy
  unfold yo
  dsimp only
  rw[zz,if_pos (decide_eq_true hk),zQ,hx,obS,obS,Xx ht hp hok hnv,obS,XY hnv,obS,xd (by omega) (by omega),obS,obS,hi,obS,Sum.elim_inl,zM (by omega)]
  rfl
 ·
  unfold yo
  dsimp only
  rw[zz,if_neg (by simp)]
end
theorem X2(c:List UInt8):wx c=some true:=by
 unfold wx
 refine za2 (zab c) λ t path s ht hp3 hn=>?_
 have hp:path.length<=1048576:=by omega
 have hlen:=XM t path s
 have hE:=same_texts (l:=wh t path s) (by omega)
 dsimp only
 rw[PlainOrder_eq ht hp hn,obS,Qt ht hp hn,obS]
 unfold Js
 dsimp only
 rw[hE,obS]
 cases h:yz t path s with
 | false=>rfl
 |
  true=>
  obtain⟨hok,_,_⟩:=jO h
  obtain⟨hv,_,hs⟩:=yA hok
  obtain⟨l,hl⟩:=plain_last h
  have hpos:(wh t path s).length=l.length+1:=by rw[hl];simp
  have hlast:atI (wh t path s) (((wh t path s).length:Int) - 1)=some s:=by
   rw[hpos,show((l.length+1:Nat):Int) - 1=(l.length:Int) by omega,zQ,hl]
   simp
  have hrl:=ZF (t:=t) (path:=path) (s:=s)
  have w1:zW (wh t path s) (yc t path s)=some true:=WJ (by omega) (by omega) λ y hy=>(qZ hok).2 (JE h y hy)
  have w2:zW (yc t path s) (wh t path s)=some true:=WJ (by omega) (by omega) λ y hy=>plain_all h y ((qZ hok).1 hy)
  rw[if_neg (by decide),needs_outer ht hp h,obS,Sum.elim_inl,wL (by omega) (by omega),obS,hlast,obS,decide_eq_true rfl,show((true == true):Bool)=true from rfl,wF,Xy ht hp hn,obS,wF,w1,obS,show((true&&true) == true:Bool)=true from rfl,wF,obS,wF,w2]
  rfl
theorem WK(c:List UInt8):Fn prog 5 [dt c] (dt true):=X1 (X2 c)
end Go.Proofs.YtobplpdjkfbfoaaGreatDoor
