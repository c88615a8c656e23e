import Derived.Test.YtdoidiipacdbpaaGreatDoorRKc
import Derived.Test.YtdoidiipacdbpaaGreatDoorRPb
namespace Go.Proofs.YtdoidiipacdbpaaGreatDoor
open Go.RowKit Tryz
set_option maxRecDepth 10000
set_option maxHeartbeats 1600000
theorem kN25:fnB prog 25=true:=by kernel_rfl
theorem kN14:fnB prog 14=true:=by kernel_rfl
theorem kN10:fnB prog 10=true:=by kernel_rfl
theorem kN26:fnB prog 26=true:=by kernel_rfl
theorem kN27:fnB prog 27=true:=by kernel_rfl
theorem kN35:fnB prog 35=true:=by kernel_rfl
theorem kN36:fnB prog 36=true:=by kernel_rfl
theorem kN33:fnB prog 33=true:=by kernel_rfl
def jl(x0:List UInt8):Option Bool:=
if(cmpI .gtr (x0.length:Int) (1048576:Int))=true then(some true)
else((yH x0).bind λ v6=>
(yO v6.1 v6.2.1 v6.2.2.1 v6.2.2.2).bind λ v24=>
(xw v6.1 v6.2.1 v6.2.2.1 v6.2.2.2).bind λ v37=>
(yo v24.1 v37.1).bind λ v50=>
(gO ((!v50) == false) (ye v24.2 v37.2)).bind λ v51=>
(gO (((!v50)||(!v51)) == false) (ya v6.1)).bind λ v52=>
(gO ((((!v50)||(!v51))||(!v52)) == false) (yD v6.2.1)).bind λ v53=>
(gO (((((!v50)||(!v51))||(!v52))||(!v53)) == false) (y6 v6.2.2.1)).bind λ v54=>
(gO ((((((!v50)||(!v51))||(!v52))||(!v53))||(!v54)) == false) (yc v6.2.2.2)).bind λ v55=>
if((((((!v50)||(!v51))||(!v52))||(!v53))||(!v54))||(!v55))=true then((yo v24.1 v37.1).bind λ v65=>
(gO (v65 == true) (ye v24.2 v37.2)).bind λ v66=>
some (v65&&v66))
else((qD v6.1).bind λ v75=>
(yO v75 v6.2.1 v6.2.2.1 v6.2.2.2).bind λ v77=>
(gO (cmpI .lss v24.2.file (0:Int) == false) (atI v6.2.1.tree.files v24.2.file)).bind λ v244=>
(gO (cmpI .lss v24.2.file (0:Int) == false) (qV v244)).bind λ v245=>
(gO ((cmpI .lss v24.2.file (0:Int)||decide (v245=v6.2.2.2)) == true) (jP v6.2.1.tree v6.2.2.1 v6.2.2.2)).bind λ v246=>
(gO ((cmpI .lss v24.2.file (0:Int)||decide (v245=v6.2.2.2)) == true) (ye v77.2 v246)).bind λ v247=>
some ((cmpI .lss v24.2.file (0:Int)||decide (v245=v6.2.2.2))&&v247)))
theorem WQ{x0:List UInt8}{r:Bool}(h:jl x0=some r):Fn prog 6 [dt x0] (dt r):=by
 unfold jl at h
 refine fnx (fn:=f6) 8 func6 rfl (oD rfl) rfl (λ M w0 a0 st0=>?_)
 refine st0.sq0 (sc rfl (oA rfl cB)<|.nil) [0] rfl (λ a1 w1 st1=>wp_seq ?_)
 refine st1.sq0 (sc rfl (oM rfl (tp rfl))<|sc rfl (jJ rfl kL57 (tp rfl))<|sc rfl (oCI rfl (tp rfl) cI)<|.nil) [0,15] rfl (λ a2 w2 st2=>?_)
 refine st2.cs (c:=15) rfl h (λ c3 h3=>?_) (λ c4 h4=>?_)
 ·
  refine st2.sq0 (sc rfl (oA rfl cB)<|.nil) [2] rfl (λ a5 w5 st5=>wp_ret (zd ?_))
  exact st5.ret rfl rfl h3
 refine wp_skip (za (wp_seq (wp_region_list ?_)))
 obtain⟨v6,p6,h7⟩:=bs h4
 refine st2.seg 7 (
  sc rfl (oM rfl (tp rfl))<|sc rfl (zo (l:=[.tmp 17]) rfl kN25 (.cons (tp rfl) .nil) (Ze p6))<|sc rfl (oM rfl (tp rfl))<|sc rfl (xExt (i:=0) rfl (tp rfl) rfl)<|sc rfl (xExt (i:=1) rfl (tp rfl) rfl)<|sc rfl (xExt (i:=2) rfl (tp rfl) rfl)<|sc rfl (xExt (i:=3) rfl (tp rfl) rfl)<|.nil) [19,20,21,22] rfl [] rfl trivial (λ a8 w8 st8=>?_)
 refine st8.alloc 0 rfl rfl kZ35 yB (by simp) [19,20,21,22] rfl [] rfl rfl (λ b10 M10 a10 w10 st10=>?_)
 have st11:=st10.gs (Gs':=[oneB (some b10),oneB none,oneB none,oneB none,oneB none,oneB none,oneB none,oneB none]) rfl
 refine st11.alloc 1 rfl rfl kZ45 jh (by simp) [19,20,21,22] rfl [3] rfl rfl (λ b13 M13 a13 w13 st13=>?_)
 have st14:=st13.gs (Gs':=[oneB (some b10),oneB (some b13),oneB none,oneB none,oneB none,oneB none,oneB none,oneB none]) rfl
 refine st14.store (sb:=3) 0 FldS.id rfl rfl rfl kT35 rfl rfl (tp rfl) rfl [20,21,22] rfl [4] rfl rfl (λ M16 w16 st16=>?_)
 have st17:=st16.frzX 0 (s:=3) rfl rfl [20,21,22] rfl [4] rfl
 have st18:=st17.gs (Gs':=[oneB none,oneB (some b13),oneB none,oneB none,oneB none,oneB none,oneB none,oneB none]) rfl
 refine st18.store (sb:=4) 1 FldS.id rfl rfl rfl kT45 rfl rfl (tp rfl) rfl [3,21,22] rfl [] rfl rfl (λ M20 w20 st20=>?_)
 have st21:=st20.frzX 1 (s:=4) rfl rfl [3,21,22] rfl [] rfl
 have st22:=st21.gs (Gs':=[oneB none,oneB none,oneB none,oneB none,oneB none,oneB none,oneB none,oneB none]) rfl
 refine st22.seg 2 (
  sc rfl (oA rfl (tp rfl))<|sc rfl (oA rfl (tp rfl))<|.nil) [3,4,5,6] rfl [] rfl trivial (λ a23 w23 st23=>?_)
 refine wpList_nil (za (wp_seq (wp_region_list ?_)))
 obtain⟨v24,p24,h25⟩:=bs h7
 refine st23.seg 8 (
  sc rfl (zp rfl kT35 (tp rfl))<|sc rfl (zp rfl kT45 (tp rfl))<|sc rfl (oM rfl (tp rfl))<|sc rfl (oM rfl (tp rfl))<|sc rfl (zo (l:=[.tmp 24,.tmp 25,.tmp 26,.tmp 27]) rfl kN14 (.cons (tp rfl) (.cons (tp rfl) (.cons (tp rfl) (.cons (tp rfl) .nil)))) (FnN.fnoo<|xv p24))<|sc rfl (oM rfl (tp rfl))<|sc rfl (xExt (i:=0) rfl (tp rfl) rfl)<|sc rfl (xExt (i:=1) rfl (tp rfl) rfl)<|.nil) [3,4,5,6,29,30] rfl [] rfl trivial (λ a26 w26 st26=>?_)
 refine st26.alloc 2 rfl rfl kZ35 yB (by simp) [3,4,5,6,29,30] rfl [] rfl rfl (λ b28 M28 a28 w28 st28=>?_)
 have st29:=st28.gs (Gs':=[oneB none,oneB none,oneB (some b28),oneB none,oneB none,oneB none,oneB none,oneB none]) rfl
 refine st29.alloc 3 rfl rfl kZ37 yz (by simp) [3,4,5,6,29,30] rfl [7] rfl rfl (λ b31 M31 a31 w31 st31=>?_)
 have st32:=st31.gs (Gs':=[oneB none,oneB none,oneB (some b28),oneB (some b31),oneB none,oneB none,oneB none,oneB none]) rfl
 refine st32.store (sb:=7) 2 FldS.id rfl rfl rfl kT35 rfl rfl (tp rfl) rfl [3,4,5,6,30] rfl [8] rfl rfl (λ M34 w34 st34=>?_)
 refine st34.store (sb:=8) 3 FldS.id rfl rfl rfl kT37 rfl rfl (tp rfl) rfl [3,4,5,6] rfl [7] rfl rfl (λ M36 w36 st36=>wpList_nil (za (wp_seq (wp_region_list ?_))))
 obtain⟨v37,p37,h38⟩:=bs h25
 refine st36.seg 8 (
  sc rfl (zp rfl kT35 (tp rfl))<|sc rfl (zp rfl kT45 (tp rfl))<|sc rfl (oM rfl (tp rfl))<|sc rfl (oM rfl (tp rfl))<|sc rfl (zo (l:=[.tmp 32,.tmp 33,.tmp 34,.tmp 35]) rfl kN10 (.cons (tp rfl) (.cons (tp rfl) (.cons (tp rfl) (.cons (tp rfl) .nil)))) (Ym p37))<|sc rfl (oM rfl (tp rfl))<|sc rfl (xExt (i:=0) rfl (tp rfl) rfl)<|sc rfl (xExt (i:=1) rfl (tp rfl) rfl)<|.nil) [3,4,5,6,37,38] rfl [(7,2),(8,3)] rfl ⟨iI,iT⟩ (λ a39 w39 st39=>?_)
 refine st39.alloc 4 rfl rfl kZ35 yB (by simp) [3,4,5,6,37,38] rfl [7,8] rfl rfl (λ b41 M41 a41 w41 st41=>?_)
 have st42:=st41.gs (Gs':=[oneB none,oneB none,oneB (some b28),oneB (some b31),oneB (some b41),oneB none,oneB none,oneB none]) rfl
 refine st42.alloc 5 rfl rfl kZ37 yz (by simp) [3,4,5,6,37,38] rfl [7,8,9] rfl rfl (λ b44 M44 a44 w44 st44=>?_)
 have st45:=st44.gs (Gs':=[oneB none,oneB none,oneB (some b28),oneB (some b31),oneB (some b41),oneB (some b44),oneB none,oneB none]) rfl
 refine st45.store (sb:=9) 4 FldS.id rfl rfl rfl kT35 rfl rfl (tp rfl) rfl [3,4,5,6,38] rfl [7,8,10] rfl rfl (λ M47 w47 st47=>?_)
 refine st47.store (sb:=10) 5 FldS.id rfl rfl rfl kT37 rfl rfl (tp rfl) rfl [3,4,5,6] rfl [7,8,9] rfl rfl (λ M49 w49 st49=>wpList_nil (za (wp_seq ?_)))
 obtain⟨v50,p50,v51,p51,v52,p52,v53,p53,h59⟩:=bsD h38
 obtain⟨v54,p54,v55,p55,h61⟩:=bsB h59
 refine st49.sq (sc rfl (zf rfl kT35 (tp rfl))<|sc rfl (zf rfl kT35 (tp rfl))<|sc rfl (zo (l:=[.tmp 39,.tmp 40]) rfl kN26 (.cons (tp rfl) (.cons (tp rfl) .nil)) (wJ p50))<|sc rfl (yE rfl (tp rfl))<|sc rfl (oM rfl (tp rfl))<|sg rfl rfl (λ hg=>zf rfl kT37 (tp rfl))<|sg rfl rfl (λ hg=>zf rfl kT37 (tp rfl))<|sg rfl rfl (λ hg=>zo (l:=[.tmp 44,.tmp 45]) rfl kN27 (.cons (ze hg rfl) (.cons (ze hg rfl) .nil)) (xo (gh hg p51)))<|sg rfl rfl (λ hg=>yE rfl (ze hg rfl))<|sc rfl (yU rfl (tp rfl) (zb rfl))<|sc rfl (oM rfl (tp rfl))<|sg rfl rfl (λ hg=>zp rfl kT35 (tp rfl))<|sg rfl rfl (λ hg=>zo (l:=[.tmp 50]) rfl kN28 (.cons (ze hg rfl) .nil) (yT (gh hg p52)))<|sg rfl rfl (λ hg=>yE rfl (ze hg rfl))<|sc rfl (yU rfl (tp rfl) (zb rfl))<|sc rfl (oM rfl (tp rfl))<|sg rfl rfl (λ hg=>zp rfl kT45 (tp rfl))<|sg rfl rfl (λ hg=>zo (l:=[.tmp 55]) rfl kN29 (.cons (ze hg rfl) .nil) (wz (gh hg p53)))<|sg rfl rfl (λ hg=>yE rfl (ze hg rfl))<|sc rfl (yU rfl (tp rfl) (zb rfl))<|sc rfl (oM rfl (tp rfl))<|sg rfl rfl (λ hg=>oM rfl (tp rfl))<|sg rfl rfl (λ hg=>zo (l:=[.tmp 60]) rfl kN30 (.cons (ze hg rfl) .nil) (qw (gh hg p54)))<|sg rfl rfl (λ hg=>yE rfl (ze hg rfl))<|sc rfl (yU rfl (tp rfl) (zb rfl))<|sc rfl (oM rfl (tp rfl))<|sg rfl rfl (λ hg=>oM rfl (tp rfl))<|sg rfl rfl (λ hg=>zo (l:=[.tmp 65]) rfl kN31 (.cons (ze hg rfl) .nil) (yM (gh hg p55)))<|sg rfl rfl (λ hg=>yE rfl (ze hg rfl))<|sc rfl (yU rfl (tp rfl) (zb rfl))<|.nil) [3,4,5,6,68] rfl [(7,2),(8,3),(9,4),(10,5)] rfl ⟨iI,⟨iI,⟨iI,iT⟩⟩⟩ (λ a62 w62 st62=>?_)
 refine st62.cs (c:=68) rfl h61 (λ c63 h63=>?_) (λ c64 h64=>?_)
 ·
  obtain⟨v65,p65,v66,p66,h68⟩:=bsB h63
  refine st62.sq0 (sc rfl (zf rfl kT35 (tp rfl))<|sc rfl (zf rfl kT35 (tp rfl))<|sc rfl (zo (l:=[.tmp 69,.tmp 70]) rfl kN26 (.cons (tp rfl) (.cons (tp rfl) .nil)) (wJ p65))<|sc rfl (oM rfl (tp rfl))<|sg rfl rfl (λ hg=>zf rfl kT37 (tp rfl))<|sg rfl rfl (λ hg=>zf rfl kT37 (tp rfl))<|sg rfl rfl (λ hg=>zo (l:=[.tmp 73,.tmp 74]) rfl kN27 (.cons (ze hg rfl) (.cons (ze hg rfl) .nil)) (xo (gh hg p66)))<|sc rfl (yK rfl (tp rfl) (zb rfl))<|sc rfl (oA rfl (tp rfl))<|.nil) [2] rfl (λ a69 w69 st69=>wp_ret (zd ?_))
  exact st69.ret rfl rfl h68
 refine wp_skip (za (wp_seq ?_))
 refine st62.heldF zD (λ c70 w70 hz70 st70=>?_)
 refine st70.tkLp (i:=0) rfl rfl (by decide +kernel) (by decide +kernel) (by decide +kernel) (λ _ _ _ _ h=>h) (st70.fzS (g:=110) rfl) hz70 rfl kT35 (tp rfl) (λ a71 st71=>?_)
 refine st71.tkLp (i:=2) rfl rfl (by decide +kernel) (by decide +kernel) (by decide +kernel) (λ _ _ _ _ h=>h) (st71.fzS (g:=110) rfl) hz70 rfl kT45 (tp rfl) (λ a72 st72=>?_)
 refine st72.tkM (i:=3) (sb:=5) rfl rfl (by decide +kernel) (by decide +kernel) (by decide +kernel) (λ _ _ _ _ h=>h) (st72.fzS (g:=110) rfl) rfl rfl rfl rfl (λ a73 st73=>?_)
 refine st73.tkM (i:=4) (sb:=6) rfl rfl (by decide +kernel) (by decide +kernel) (by decide +kernel) (λ _ _ _ _ h=>h) (st73.fzS (g:=110) rfl) rfl rfl rfl rfl (λ a74 st74=>?_)
 obtain⟨v75,p75,v77,p77,h93⟩:=bsB h64
 refine zq 1 4095 (λ a w=>∃ M1 q238_2 q238_3 q238_4 q238_5 q238_6 q238_7,Sx (Frm.of w0) 110 M M1 [oneB none,oneB none,oneB q238_2,oneB q238_3,oneB q238_4,oneB q238_5,oneB q238_6,oneB q238_7] [(4,dptr v6.2.1),(5,dt v6.2.2.1),(6,dt v6.2.2.2),(85,dt v77.2),(110,dfz c70)] [(8,3,dbox q238_3 0 v24.2),(12,7,dbox q238_7 0 zO)] a w) ?_ (λ n238=>?_)
 ·
  rintro a238 w238 ⟨M238,q238_2,q238_3,q238_4,q238_5,q238_6,q238_7,st238⟩
  refine aH1 (i:=12) (by decide +kernel) rfl ?_
  refine st238.store (sb:=12) 7 FldS.id rfl rfl rfl kT37 rfl rfl (tp rfl) rfl [4,5,6,110] rfl [8] rfl rfl (λ M243 w243 st243=>?_)
  refine aHN (st243.fzS (g:=110) rfl) ?_
  refine aH0 (by decide +kernel) ?_
  refine za (wp_seq ?_)
  obtain⟨v244,p244,v245,p245,v246,p246,v247,p247,h251⟩:=bsD h93
  refine st243.dr (D:=[_,_,_,_,_,_,_,_,_,_,_,_,_,_,_,_,_,_,_,_,_,_,_,_,_]) zD [[(8,nS)],[(86,0)],[(87,1)],[(88,2)],[(4,nS),(89,3)],[(90,4),(89,3)],[(91,5),(89,3)],[(8,nS),(89,3)],[(93,7),(89,3)],[(92,6),(94,8),(89,3)],[(95,9),(89,3)],[(96,10),(89,3)],[(6,nS),(89,3)],[(97,11),(98,12),(89,3)],[(89,3),(99,13)],[(100,14)],[(12,nS),(101,15)],[(4,nS),(101,15)],[(103,17),(101,15)],[(5,nS),(101,15)],[(6,nS),(101,15)],[(104,18),(105,19),(106,20),(101,15)],[(102,16),(107,21),(101,15)],[(101,15),(108,22)],[(109,23)]] (by decide +kernel) (
   rc rfl rfl (zB Spec.fld1 rfl kF37_1 (tp rfl))<|rc rfl rfl (zf rfl kT3 (tp rfl))<|rc rfl rfl (oCI rfl (tp rfl) cI)<|rc rfl rfl (oM rfl (tp rfl))<|rg rfl rfl rfl (λ hg=>zv Disk.fld0 rfl Yl (tp rfl))<|rg rfl rfl rfl (λ hg=>zv Tree.fld0 rfl Yi (ze hg rfl))<|rg rfl rfl rfl (λ hg=>zp rfl kT41 (ze hg rfl))<|rg rfl rfl rfl (λ hg=>zB Spec.fld1 rfl kF37_1 (tp rfl))<|rg rfl rfl rfl (λ hg=>zf rfl kT3 (ze hg rfl))<|rg rfl rfl rfl (λ hg=>xIdx rfl kS41 (ze hg rfl) (ze hg rfl) (gh hg p244))<|rg rfl rfl rfl (λ hg=>zp rfl kT72 (ze hg rfl))<|rg rfl rfl rfl (λ hg=>zo (l:=[.tmp 96]) rfl kN36 (.cons (ze hg rfl) .nil) (zbo (gh hg p245)))<|rg rfl rfl rfl (λ hg=>oM rfl (tp rfl))<|rg rfl rfl rfl (λ hg=>Zd rfl (ze hg rfl) (ze hg rfl))<|rc rfl rfl (yU rfl (tp rfl) (zb rfl))<|rc rfl rfl (oM rfl (tp rfl))<|rg rfl rfl rfl (λ hg=>zf rfl kT37 (tp rfl))<|rg rfl rfl rfl (λ hg=>zv Disk.fld0 rfl Yl (tp rfl))<|rg rfl rfl rfl (λ hg=>zp rfl kT43 (ze hg rfl))<|rg rfl rfl rfl (λ hg=>oM rfl (tp rfl))<|rg rfl rfl rfl (λ hg=>oM rfl (tp rfl))<|rg rfl rfl rfl (λ hg=>zo (l:=[.tmp 104,.tmp 105,.tmp 106]) rfl kN33 (.cons (ze hg rfl) (.cons (ze hg rfl) (.cons (ze hg rfl) .nil))) (WW (gh hg p246)))<|rg rfl rfl rfl (λ hg=>zo (l:=[.tmp 102,.tmp 107]) rfl kN27 (.cons (ze hg rfl) (.cons (ze hg rfl) .nil)) (xo (gh hg p247)))<|rc rfl rfl (yK rfl (tp rfl) (zb rfl))<|rc rfl rfl (oA rfl (tp rfl))<|.nil) [2] rfl [] rfl trivial (λ a252 w252 st252=>?_)
  refine za (wp_ret ?_)
  exact st252.ret rfl rfl h251
 refine zq 2 2047 (λ a w=>∃ M1 q227_2 q227_3 q227_4 q227_5 q227_6 q227_7,Sx (Frm.of w0) 110 M M1 [oneB none,oneB none,oneB q227_2,oneB q227_3,oneB q227_4,oneB q227_5,oneB q227_6,oneB q227_7] [(4,dptr v6.2.1),(5,dt v6.2.2.1),(6,dt v6.2.2.2),(84,dt v77.1),(85,dt v77.2),(110,dfz c70)] [(8,3,dbox q227_3 0 v24.2),(11,6,dbox q227_6 0 zi),(12,7,dbox q227_7 0 zO)] a w) ?_ (λ n227=>?_)
 ·
  rintro a227 w227 ⟨M227,q227_2,q227_3,q227_4,q227_5,q227_6,q227_7,st227⟩
  refine aH1 (i:=11) (by decide +kernel) rfl ?_
  refine st227.store (sb:=11) 6 FldS.id rfl rfl rfl kT35 rfl rfl (tp rfl) rfl [4,5,6,85,110] rfl [8,12] rfl rfl (λ M254 w254 st254=>?_)
  exact aHe n238 (st254.fzS (g:=110) rfl)
 refine zq 2 3839 (λ a w=>∃ M1 q234_2 q234_3 q234_4 q234_5 q234_6 q234_7,Sx (Frm.of w0) 110 M M1 [oneB none,oneB none,oneB q234_2,oneB q234_3,oneB q234_4,oneB q234_5,oneB q234_6,oneB q234_7] [(4,dptr v6.2.1),(5,dt v6.2.2.1),(6,dt v6.2.2.2),(77,dtup [dt v77.1,dt v77.2]),(110,dfz c70)] [(8,3,dbox q234_3 0 v24.2),(12,7,dbox q234_7 0 zO)] a w) ?_ (λ n234=>?_)
 ·
  rintro a234 w234 ⟨M234,q234_2,q234_3,q234_4,q234_5,q234_6,q234_7,st234⟩
  refine aH1 (i:=8) (by decide +kernel) rfl ?_
  refine st234.seg 1 (sc rfl (xExt (i:=1) rfl (tp rfl) rfl)<|.nil) [4,5,6,85,110] rfl [(8,3),(12,7)] rfl ⟨iI,iT⟩ (λ a255 w255 st255=>?_)
  exact aHe n238 (st255.fzS (g:=110) rfl)
 refine zq 3 1023 (λ a w=>∃ M1 q199_2 q199_3 q199_4 q199_5 q199_6,Sx (Frm.of w0) 110 M M1 [oneB none,oneB none,oneB q199_2,oneB q199_3,oneB q199_4,oneB q199_5,oneB q199_6,oneB none] [(4,dptr v6.2.1),(5,dt v6.2.2.1),(6,dt v6.2.2.2),(84,dt v77.1),(85,dt v77.2),(110,dfz c70)] [(8,3,dbox q199_3 0 v24.2),(11,6,dbox q199_6 0 zi)] a w) ?_ (λ n199=>?_)
 ·
  rintro a199 w199 ⟨M199,q199_2,q199_3,q199_4,q199_5,q199_6,st199⟩
  refine aH1 (i:=10) (by decide +kernel) rfl ?_
  refine st199.alloc 7 rfl rfl kZ37 yz (by simp) [4,5,6,84,85,110] rfl [8,11] rfl rfl (λ b257 M257 a257 w257 st257=>?_)
  have st258:=st257.gs (Gs':=[oneB none,oneB none,oneB q199_2,oneB q199_3,oneB q199_4,oneB q199_5,oneB q199_6,oneB (some b257)]) rfl
  exact aHe n227 (st258.fzS (g:=110) rfl)
 refine zq 3 1535 (λ a w=>∃ M1 q203_2 q203_3 q203_4 q203_5 q203_7,Sx (Frm.of w0) 110 M M1 [oneB none,oneB none,oneB q203_2,oneB q203_3,oneB q203_4,oneB q203_5,oneB none,oneB q203_7] [(4,dptr v6.2.1),(5,dt v6.2.2.1),(6,dt v6.2.2.2),(84,dt v77.1),(85,dt v77.2),(110,dfz c70)] [(8,3,dbox q203_3 0 v24.2),(12,7,dbox q203_7 0 zO)] a w) ?_ (λ n203=>?_)
 ·
  rintro a203 w203 ⟨M203,q203_2,q203_3,q203_4,q203_5,q203_7,st203⟩
  refine aH1 (i:=9) (by decide +kernel) rfl ?_
  refine st203.alloc 6 rfl rfl kZ35 yB (by simp) [4,5,6,84,85,110] rfl [8,12] rfl rfl (λ b260 M260 a260 w260 st260=>?_)
  have st261:=st260.gs (Gs':=[oneB none,oneB none,oneB q203_2,oneB q203_3,oneB q203_4,oneB q203_5,oneB (some b260),oneB q203_7]) rfl
  exact aHe n227 (st261.fzS (g:=110) rfl)
 refine zq 3 1791 (λ a w=>∃ M1 q208_2 q208_3 q208_4 q208_5 q208_6 q208_7,Sx (Frm.of w0) 110 M M1 [oneB none,oneB none,oneB q208_2,oneB q208_3,oneB q208_4,oneB q208_5,oneB q208_6,oneB q208_7] [(4,dptr v6.2.1),(5,dt v6.2.2.1),(6,dt v6.2.2.2),(84,dt v77.1),(77,dtup [dt v77.1,dt v77.2]),(110,dfz c70)] [(8,3,dbox q208_3 0 v24.2),(11,6,dbox q208_6 0 zi),(12,7,dbox q208_7 0 zO)] a w) ?_ (λ n208=>?_)
 ·
  rintro a208 w208 ⟨M208,q208_2,q208_3,q208_4,q208_5,q208_6,q208_7,st208⟩
  refine aH2 (i:=8) (j:=11) (by decide +kernel) rfl rfl ?_ ?_
  ·
   refine st208.seg 1 (sc rfl (xExt (i:=1) rfl (tp rfl) rfl)<|.nil) [4,5,6,84,85,110] rfl [(8,3),(11,6),(12,7)] rfl ⟨iI,⟨iI,iT⟩⟩ (λ a262 w262 st262=>?_)
   exact aHe n227 (st262.fzS (g:=110) rfl)
  ·
   refine st208.store (sb:=11) 6 FldS.id rfl rfl rfl kT35 rfl rfl (tp rfl) rfl [4,5,6,77,110] rfl [8,12] rfl rfl (λ M264 w264 st264=>?_)
   exact aHe n234 (st264.fzS (g:=110) rfl)
 refine zq 3 1919 (λ a w=>∃ M1 q217_2 q217_3 q217_4 q217_5 q217_6 q217_7,Sx (Frm.of w0) 110 M M1 [oneB none,oneB none,oneB q217_2,oneB q217_3,oneB q217_4,oneB q217_5,oneB q217_6,oneB q217_7] [(4,dptr v6.2.1),(5,dt v6.2.2.1),(6,dt v6.2.2.2),(85,dt v77.2),(77,dtup [dt v77.1,dt v77.2]),(110,dfz c70)] [(8,3,dbox q217_3 0 v24.2),(11,6,dbox q217_6 0 zi),(12,7,dbox q217_7 0 zO)] a w) ?_ (λ n217=>?_)
 ·
  rintro a217 w217 ⟨M217,q217_2,q217_3,q217_4,q217_5,q217_6,q217_7,st217⟩
  refine aH1 (i:=7) (by decide +kernel) rfl ?_
  refine st217.seg 1 (sc rfl (xExt (i:=0) rfl (tp rfl) rfl)<|.nil) [4,5,6,84,85,110] rfl [(8,3),(11,6),(12,7)] rfl ⟨iI,⟨iI,iT⟩⟩ (λ a265 w265 st265=>?_)
  exact aHe n227 (st265.fzS (g:=110) rfl)
 refine zq 4 511 (λ a w=>∃ M1 q166_2 q166_3 q166_4 q166_5,Sx (Frm.of w0) 110 M M1 [oneB none,oneB none,oneB q166_2,oneB q166_3,oneB q166_4,oneB q166_5,oneB none,oneB none] [(4,dptr v6.2.1),(5,dt v6.2.2.1),(6,dt v6.2.2.2),(84,dt v77.1),(85,dt v77.2),(110,dfz c70)] [(8,3,dbox q166_3 0 v24.2)] a w) ?_ (λ n166=>?_)
 ·
  rintro a166 w166 ⟨M166,q166_2,q166_3,q166_4,q166_5,st166⟩
  refine aH2 (i:=9) (j:=10) (by decide +kernel) rfl rfl ?_ ?_
  ·
   refine st166.alloc 6 rfl rfl kZ35 yB (by simp) [4,5,6,84,85,110] rfl [8] rfl rfl (λ b267 M267 a267 w267 st267=>?_)
   have st268:=st267.gs (Gs':=[oneB none,oneB none,oneB q166_2,oneB q166_3,oneB q166_4,oneB q166_5,oneB (some b267),oneB none]) rfl
   exact aHe n199 (st268.fzS (g:=110) rfl)
  ·
   refine st166.alloc 7 rfl rfl kZ37 yz (by simp) [4,5,6,84,85,110] rfl [8] rfl rfl (λ b270 M270 a270 w270 st270=>?_)
   have st271:=st270.gs (Gs':=[oneB none,oneB none,oneB q166_2,oneB q166_3,oneB q166_4,oneB q166_5,oneB none,oneB (some b270)]) rfl
   exact aHe n203 (st271.fzS (g:=110) rfl)
 refine zq 4 767 (λ a w=>∃ M1 q170_2 q170_3 q170_4 q170_5 q170_6,Sx (Frm.of w0) 110 M M1 [oneB none,oneB none,oneB q170_2,oneB q170_3,oneB q170_4,oneB q170_5,oneB q170_6,oneB none] [(4,dptr v6.2.1),(5,dt v6.2.2.1),(6,dt v6.2.2.2),(84,dt v77.1),(77,dtup [dt v77.1,dt v77.2]),(110,dfz c70)] [(8,3,dbox q170_3 0 v24.2),(11,6,dbox q170_6 0 zi)] a w) ?_ (λ n170=>?_)
 ·
  rintro a170 w170 ⟨M170,q170_2,q170_3,q170_4,q170_5,q170_6,st170⟩
  refine aH2 (i:=8) (j:=10) (by decide +kernel) rfl rfl ?_ ?_
  ·
   refine st170.seg 1 (sc rfl (xExt (i:=1) rfl (tp rfl) rfl)<|.nil) [4,5,6,84,85,110] rfl [(8,3),(11,6)] rfl ⟨iI,iT⟩ (λ a272 w272 st272=>?_)
   exact aHe n199 (st272.fzS (g:=110) rfl)
  ·
   refine st170.alloc 7 rfl rfl kZ37 yz (by simp) [4,5,6,77,84,110] rfl [8,11] rfl rfl (λ b274 M274 a274 w274 st274=>?_)
   have st275:=st274.gs (Gs':=[oneB none,oneB none,oneB q170_2,oneB q170_3,oneB q170_4,oneB q170_5,oneB q170_6,oneB (some b274)]) rfl
   exact aHe n208 (st275.fzS (g:=110) rfl)
 refine zq 4 1279 (λ a w=>∃ M1 q174_2 q174_3 q174_4 q174_5 q174_7,Sx (Frm.of w0) 110 M M1 [oneB none,oneB none,oneB q174_2,oneB q174_3,oneB q174_4,oneB q174_5,oneB none,oneB q174_7] [(4,dptr v6.2.1),(5,dt v6.2.2.1),(6,dt v6.2.2.2),(84,dt v77.1),(77,dtup [dt v77.1,dt v77.2]),(110,dfz c70)] [(8,3,dbox q174_3 0 v24.2),(12,7,dbox q174_7 0 zO)] a w) ?_ (λ n174=>?_)
 ·
  rintro a174 w174 ⟨M174,q174_2,q174_3,q174_4,q174_5,q174_7,st174⟩
  refine aH2 (i:=8) (j:=9) (by decide +kernel) rfl rfl ?_ ?_
  ·
   refine st174.seg 1 (sc rfl (xExt (i:=1) rfl (tp rfl) rfl)<|.nil) [4,5,6,84,85,110] rfl [(8,3),(12,7)] rfl ⟨iI,iT⟩ (λ a276 w276 st276=>?_)
   exact aHe n203 (st276.fzS (g:=110) rfl)
  ·
   refine st174.alloc 6 rfl rfl kZ35 yB (by simp) [4,5,6,77,84,110] rfl [8,12] rfl rfl (λ b278 M278 a278 w278 st278=>?_)
   have st279:=st278.gs (Gs':=[oneB none,oneB none,oneB q174_2,oneB q174_3,oneB q174_4,oneB q174_5,oneB (some b278),oneB q174_7]) rfl
   exact aHe n208 (st279.fzS (g:=110) rfl)
 refine zq 4 895 (λ a w=>∃ M1 q179_2 q179_3 q179_4 q179_5 q179_6,Sx (Frm.of w0) 110 M M1 [oneB none,oneB none,oneB q179_2,oneB q179_3,oneB q179_4,oneB q179_5,oneB q179_6,oneB none] [(4,dptr v6.2.1),(5,dt v6.2.2.1),(6,dt v6.2.2.2),(85,dt v77.2),(77,dtup [dt v77.1,dt v77.2]),(110,dfz c70)] [(8,3,dbox q179_3 0 v24.2),(11,6,dbox q179_6 0 zi)] a w) ?_ (λ n179=>?_)
 ·
  rintro a179 w179 ⟨M179,q179_2,q179_3,q179_4,q179_5,q179_6,st179⟩
  refine aH2 (i:=7) (j:=10) (by decide +kernel) rfl rfl ?_ ?_
  ·
   refine st179.seg 1 (sc rfl (xExt (i:=0) rfl (tp rfl) rfl)<|.nil) [4,5,6,84,85,110] rfl [(8,3),(11,6)] rfl ⟨iI,iT⟩ (λ a280 w280 st280=>?_)
   exact aHe n199 (st280.fzS (g:=110) rfl)
  ·
   refine st179.alloc 7 rfl rfl kZ37 yz (by simp) [4,5,6,77,85,110] rfl [8,11] rfl rfl (λ b282 M282 a282 w282 st282=>?_)
   have st283:=st282.gs (Gs':=[oneB none,oneB none,oneB q179_2,oneB q179_3,oneB q179_4,oneB q179_5,oneB q179_6,oneB (some b282)]) rfl
   exact aHe n217 (st283.fzS (g:=110) rfl)
 refine zq 4 1407 (λ a w=>∃ M1 q183_2 q183_3 q183_4 q183_5 q183_7,Sx (Frm.of w0) 110 M M1 [oneB none,oneB none,oneB q183_2,oneB q183_3,oneB q183_4,oneB q183_5,oneB none,oneB q183_7] [(4,dptr v6.2.1),(5,dt v6.2.2.1),(6,dt v6.2.2.2),(85,dt v77.2),(77,dtup [dt v77.1,dt v77.2]),(110,dfz c70)] [(8,3,dbox q183_3 0 v24.2),(12,7,dbox q183_7 0 zO)] a w) ?_ (λ n183=>?_)
 ·
  rintro a183 w183 ⟨M183,q183_2,q183_3,q183_4,q183_5,q183_7,st183⟩
  refine aH2 (i:=7) (j:=9) (by decide +kernel) rfl rfl ?_ ?_
  ·
   refine st183.seg 1 (sc rfl (xExt (i:=0) rfl (tp rfl) rfl)<|.nil) [4,5,6,84,85,110] rfl [(8,3),(12,7)] rfl ⟨iI,iT⟩ (λ a284 w284 st284=>?_)
   exact aHe n203 (st284.fzS (g:=110) rfl)
  ·
   refine st183.alloc 6 rfl rfl kZ35 yB (by simp) [4,5,6,77,85,110] rfl [8,12] rfl rfl (λ b286 M286 a286 w286 st286=>?_)
   have st287:=st286.gs (Gs':=[oneB none,oneB none,oneB q183_2,oneB q183_3,oneB q183_4,oneB q183_5,oneB (some b286),oneB q183_7]) rfl
   exact aHe n217 (st287.fzS (g:=110) rfl)
 refine zq 4 1663 (λ a w=>∃ M1 q189_2 q189_3 q189_4 q189_5 q189_6 q189_7,Sx (Frm.of w0) 110 M M1 [oneB none,oneB none,oneB q189_2,oneB q189_3,oneB q189_4,oneB q189_5,oneB q189_6,oneB q189_7] [(4,dptr v6.2.1),(5,dt v6.2.2.1),(6,dt v6.2.2.2),(77,dtup [dt v77.1,dt v77.2]),(110,dfz c70)] [(8,3,dbox q189_3 0 v24.2),(11,6,dbox q189_6 0 zi),(12,7,dbox q189_7 0 zO)] a w) ?_ (λ n189=>?_)
 ·
  rintro a189 w189 ⟨M189,q189_2,q189_3,q189_4,q189_5,q189_6,q189_7,st189⟩
  refine aH2 (i:=7) (j:=8) (by decide +kernel) rfl rfl ?_ ?_
  ·
   refine st189.seg 1 (sc rfl (xExt (i:=0) rfl (tp rfl) rfl)<|.nil) [4,5,6,77,84,110] rfl [(8,3),(11,6),(12,7)] rfl ⟨iI,⟨iI,iT⟩⟩ (λ a288 w288 st288=>?_)
   exact aHe n208 (st288.fzS (g:=110) rfl)
  ·
   refine st189.seg 1 (sc rfl (xExt (i:=1) rfl (tp rfl) rfl)<|.nil) [4,5,6,77,85,110] rfl [(8,3),(11,6),(12,7)] rfl ⟨iI,⟨iI,iT⟩⟩ (λ a289 w289 st289=>?_)
   exact aHe n217 (st289.fzS (g:=110) rfl)
 refine zq 5 255 (λ a w=>∃ M1 q144_2 q144_3 q144_4 q144_5,Sx (Frm.of w0) 110 M M1 [oneB none,oneB none,oneB q144_2,oneB q144_3,oneB q144_4,oneB q144_5,oneB none,oneB none] [(4,dptr v6.2.1),(5,dt v6.2.2.1),(6,dt v6.2.2.2),(84,dt v77.1),(77,dtup [dt v77.1,dt v77.2]),(110,dfz c70)] [(8,3,dbox q144_3 0 v24.2)] a w) ?_ (λ n144=>?_)
 ·
  rintro a144 w144 ⟨M144,q144_2,q144_3,q144_4,q144_5,st144⟩
  refine aH3 (i:=8) (j:=9) (k:=10) (by decide +kernel) rfl rfl rfl ?_ ?_ ?_
  ·
   refine st144.seg 1 (sc rfl (xExt (i:=1) rfl (tp rfl) rfl)<|.nil) [4,5,6,84,85,110] rfl [(8,3)] rfl iT (λ a290 w290 st290=>?_)
   exact aHe n166 (st290.fzS (g:=110) rfl)
  ·
   refine st144.alloc 6 rfl rfl kZ35 yB (by simp) [4,5,6,77,84,110] rfl [8] rfl rfl (λ b292 M292 a292 w292 st292=>?_)
   have st293:=st292.gs (Gs':=[oneB none,oneB none,oneB q144_2,oneB q144_3,oneB q144_4,oneB q144_5,oneB (some b292),oneB none]) rfl
   exact aHe n170 (st293.fzS (g:=110) rfl)
  ·
   refine st144.alloc 7 rfl rfl kZ37 yz (by simp) [4,5,6,77,84,110] rfl [8] rfl rfl (λ b295 M295 a295 w295 st295=>?_)
   have st296:=st295.gs (Gs':=[oneB none,oneB none,oneB q144_2,oneB q144_3,oneB q144_4,oneB q144_5,oneB none,oneB (some b295)]) rfl
   exact aHe n174 (st296.fzS (g:=110) rfl)
 refine zq 5 383 (λ a w=>∃ M1 q146_2 q146_3 q146_4 q146_5,Sx (Frm.of w0) 110 M M1 [oneB none,oneB none,oneB q146_2,oneB q146_3,oneB q146_4,oneB q146_5,oneB none,oneB none] [(4,dptr v6.2.1),(5,dt v6.2.2.1),(6,dt v6.2.2.2),(85,dt v77.2),(77,dtup [dt v77.1,dt v77.2]),(110,dfz c70)] [(8,3,dbox q146_3 0 v24.2)] a w) ?_ (λ n146=>?_)
 ·
  rintro a146 w146 ⟨M146,q146_2,q146_3,q146_4,q146_5,st146⟩
  refine aH3 (i:=7) (j:=9) (k:=10) (by decide +kernel) rfl rfl rfl ?_ ?_ ?_
  ·
   refine st146.seg 1 (sc rfl (xExt (i:=0) rfl (tp rfl) rfl)<|.nil) [4,5,6,84,85,110] rfl [(8,3)] rfl iT (λ a297 w297 st297=>?_)
   exact aHe n166 (st297.fzS (g:=110) rfl)
  ·
   refine st146.alloc 6 rfl rfl kZ35 yB (by simp) [4,5,6,77,85,110] rfl [8] rfl rfl (λ b299 M299 a299 w299 st299=>?_)
   have st300:=st299.gs (Gs':=[oneB none,oneB none,oneB q146_2,oneB q146_3,oneB q146_4,oneB q146_5,oneB (some b299),oneB none]) rfl
   exact aHe n179 (st300.fzS (g:=110) rfl)
  ·
   refine st146.alloc 7 rfl rfl kZ37 yz (by simp) [4,5,6,77,85,110] rfl [8] rfl rfl (λ b302 M302 a302 w302 st302=>?_)
   have st303:=st302.gs (Gs':=[oneB none,oneB none,oneB q146_2,oneB q146_3,oneB q146_4,oneB q146_5,oneB none,oneB (some b302)]) rfl
   exact aHe n183 (st303.fzS (g:=110) rfl)
 refine zq 5 639 (λ a w=>∃ M1 q150_2 q150_3 q150_4 q150_5 q150_6,Sx (Frm.of w0) 110 M M1 [oneB none,oneB none,oneB q150_2,oneB q150_3,oneB q150_4,oneB q150_5,oneB q150_6,oneB none] [(4,dptr v6.2.1),(5,dt v6.2.2.1),(6,dt v6.2.2.2),(77,dtup [dt v77.1,dt v77.2]),(110,dfz c70)] [(8,3,dbox q150_3 0 v24.2),(11,6,dbox q150_6 0 zi)] a w) ?_ (λ n150=>?_)
 ·
  rintro a150 w150 ⟨M150,q150_2,q150_3,q150_4,q150_5,q150_6,st150⟩
  refine aH3 (i:=7) (j:=8) (k:=10) (by decide +kernel) rfl rfl rfl ?_ ?_ ?_
  ·
   refine st150.seg 1 (sc rfl (xExt (i:=0) rfl (tp rfl) rfl)<|.nil) [4,5,6,77,84,110] rfl [(8,3),(11,6)] rfl ⟨iI,iT⟩ (λ a304 w304 st304=>?_)
   exact aHe n170 (st304.fzS (g:=110) rfl)
  ·
   refine st150.seg 1 (sc rfl (xExt (i:=1) rfl (tp rfl) rfl)<|.nil) [4,5,6,77,85,110] rfl [(8,3),(11,6)] rfl ⟨iI,iT⟩ (λ a305 w305 st305=>?_)
   exact aHe n179 (st305.fzS (g:=110) rfl)
  ·
   refine st150.alloc 7 rfl rfl kZ37 yz (by simp) [4,5,6,77,110] rfl [8,11] rfl rfl (λ b307 M307 a307 w307 st307=>?_)
   have st308:=st307.gs (Gs':=[oneB none,oneB none,oneB q150_2,oneB q150_3,oneB q150_4,oneB q150_5,oneB q150_6,oneB (some b307)]) rfl
   exact aHe n189 (st308.fzS (g:=110) rfl)
 refine zq 5 1151 (λ a w=>∃ M1 q154_2 q154_3 q154_4 q154_5 q154_7,Sx (Frm.of w0) 110 M M1 [oneB none,oneB none,oneB q154_2,oneB q154_3,oneB q154_4,oneB q154_5,oneB none,oneB q154_7] [(4,dptr v6.2.1),(5,dt v6.2.2.1),(6,dt v6.2.2.2),(77,dtup [dt v77.1,dt v77.2]),(110,dfz c70)] [(8,3,dbox q154_3 0 v24.2),(12,7,dbox q154_7 0 zO)] a w) ?_ (λ n154=>?_)
 ·
  rintro a154 w154 ⟨M154,q154_2,q154_3,q154_4,q154_5,q154_7,st154⟩
  refine aH3 (i:=7) (j:=8) (k:=9) (by decide +kernel) rfl rfl rfl ?_ ?_ ?_
  ·
   refine st154.seg 1 (sc rfl (xExt (i:=0) rfl (tp rfl) rfl)<|.nil) [4,5,6,77,84,110] rfl [(8,3),(12,7)] rfl ⟨iI,iT⟩ (λ a309 w309 st309=>?_)
   exact aHe n174 (st309.fzS (g:=110) rfl)
  ·
   refine st154.seg 1 (sc rfl (xExt (i:=1) rfl (tp rfl) rfl)<|.nil) [4,5,6,77,85,110] rfl [(8,3),(12,7)] rfl ⟨iI,iT⟩ (λ a310 w310 st310=>?_)
   exact aHe n183 (st310.fzS (g:=110) rfl)
  ·
   refine st154.alloc 6 rfl rfl kZ35 yB (by simp) [4,5,6,77,110] rfl [8,12] rfl rfl (λ b312 M312 a312 w312 st312=>?_)
   have st313:=st312.gs (Gs':=[oneB none,oneB none,oneB q154_2,oneB q154_3,oneB q154_4,oneB q154_5,oneB (some b312),oneB q154_7]) rfl
   exact aHe n189 (st313.fzS (g:=110) rfl)
 refine zq 5 1599 (λ a w=>∃ M1 q159_2 q159_3 q159_4 q159_5 q159_6 q159_7,Sx (Frm.of w0) 110 M M1 [oneB none,oneB none,oneB q159_2,oneB q159_3,oneB q159_4,oneB q159_5,oneB q159_6,oneB q159_7] [(4,dptr v6.2.1),(5,dt v6.2.2.1),(6,dt v6.2.2.2),(83,dtup [dt v77.1,dt v77.2]),(110,dfz c70)] [(8,3,dbox q159_3 0 v24.2),(11,6,dbox q159_6 0 zi),(12,7,dbox q159_7 0 zO)] a w) ?_ (λ n159=>?_)
 ·
  rintro a159 w159 ⟨M159,q159_2,q159_3,q159_4,q159_5,q159_6,q159_7,st159⟩
  refine aH1 (i:=6) (by decide +kernel) rfl ?_
  refine st159.seg 1 (sc rfl (oM rfl (tp rfl))<|.nil) [4,5,6,77,110] rfl [(8,3),(11,6),(12,7)] rfl ⟨iI,⟨iI,iT⟩⟩ (λ a314 w314 st314=>?_)
  exact aHe n189 (st314.fzS (g:=110) rfl)
 refine zq 6 127 (λ a w=>∃ M1 q124_2 q124_3 q124_4 q124_5,Sx (Frm.of w0) 110 M M1 [oneB none,oneB none,oneB q124_2,oneB q124_3,oneB q124_4,oneB q124_5,oneB none,oneB none] [(4,dptr v6.2.1),(5,dt v6.2.2.1),(6,dt v6.2.2.2),(77,dtup [dt v77.1,dt v77.2]),(110,dfz c70)] [(8,3,dbox q124_3 0 v24.2)] a w) ?_ (λ n124=>?_)
 ·
  rintro a124 w124 ⟨M124,q124_2,q124_3,q124_4,q124_5,st124⟩
  refine aH4 (i:=7) (j:=8) (k:=9) (l:=10) (by decide +kernel) rfl rfl rfl rfl ?_ ?_ ?_ ?_
  ·
   refine st124.seg 1 (sc rfl (xExt (i:=0) rfl (tp rfl) rfl)<|.nil) [4,5,6,77,84,110] rfl [(8,3)] rfl iT (λ a315 w315 st315=>?_)
   exact aHe n144 (st315.fzS (g:=110) rfl)
  ·
   refine st124.seg 1 (sc rfl (xExt (i:=1) rfl (tp rfl) rfl)<|.nil) [4,5,6,77,85,110] rfl [(8,3)] rfl iT (λ a316 w316 st316=>?_)
   exact aHe n146 (st316.fzS (g:=110) rfl)
  ·
   refine st124.alloc 6 rfl rfl kZ35 yB (by simp) [4,5,6,77,110] rfl [8] rfl rfl (λ b318 M318 a318 w318 st318=>?_)
   have st319:=st318.gs (Gs':=[oneB none,oneB none,oneB q124_2,oneB q124_3,oneB q124_4,oneB q124_5,oneB (some b318),oneB none]) rfl
   exact aHe n150 (st319.fzS (g:=110) rfl)
  ·
   refine st124.alloc 7 rfl rfl kZ37 yz (by simp) [4,5,6,77,110] rfl [8] rfl rfl (λ b321 M321 a321 w321 st321=>?_)
   have st322:=st321.gs (Gs':=[oneB none,oneB none,oneB q124_2,oneB q124_3,oneB q124_4,oneB q124_5,oneB none,oneB (some b321)]) rfl
   exact aHe n154 (st322.fzS (g:=110) rfl)
 refine zq 6 575 (λ a w=>∃ M1 q128_2 q128_3 q128_4 q128_5 q128_6,Sx (Frm.of w0) 110 M M1 [oneB none,oneB none,oneB q128_2,oneB q128_3,oneB q128_4,oneB q128_5,oneB q128_6,oneB none] [(4,dptr v6.2.1),(5,dt v6.2.2.1),(6,dt v6.2.2.2),(83,dtup [dt v77.1,dt v77.2]),(110,dfz c70)] [(8,3,dbox q128_3 0 v24.2),(11,6,dbox q128_6 0 zi)] a w) ?_ (λ n128=>?_)
 ·
  rintro a128 w128 ⟨M128,q128_2,q128_3,q128_4,q128_5,q128_6,st128⟩
  refine aH2 (i:=6) (j:=10) (by decide +kernel) rfl rfl ?_ ?_
  ·
   refine st128.seg 1 (sc rfl (oM rfl (tp rfl))<|.nil) [4,5,6,77,110] rfl [(8,3),(11,6)] rfl ⟨iI,iT⟩ (λ a323 w323 st323=>?_)
   exact aHe n150 (st323.fzS (g:=110) rfl)
  ·
   refine st128.alloc 7 rfl rfl kZ37 yz (by simp) [4,5,6,83,110] rfl [8,11] rfl rfl (λ b325 M325 a325 w325 st325=>?_)
   have st326:=st325.gs (Gs':=[oneB none,oneB none,oneB q128_2,oneB q128_3,oneB q128_4,oneB q128_5,oneB q128_6,oneB (some b325)]) rfl
   exact aHe n159 (st326.fzS (g:=110) rfl)
 refine zq 6 1087 (λ a w=>∃ M1 q132_2 q132_3 q132_4 q132_5 q132_7,Sx (Frm.of w0) 110 M M1 [oneB none,oneB none,oneB q132_2,oneB q132_3,oneB q132_4,oneB q132_5,oneB none,oneB q132_7] [(4,dptr v6.2.1),(5,dt v6.2.2.1),(6,dt v6.2.2.2),(83,dtup [dt v77.1,dt v77.2]),(110,dfz c70)] [(8,3,dbox q132_3 0 v24.2),(12,7,dbox q132_7 0 zO)] a w) ?_ (λ n132=>?_)
 ·
  rintro a132 w132 ⟨M132,q132_2,q132_3,q132_4,q132_5,q132_7,st132⟩
  refine aH2 (i:=6) (j:=9) (by decide +kernel) rfl rfl ?_ ?_
  ·
   refine st132.seg 1 (sc rfl (oM rfl (tp rfl))<|.nil) [4,5,6,77,110] rfl [(8,3),(12,7)] rfl ⟨iI,iT⟩ (λ a327 w327 st327=>?_)
   exact aHe n154 (st327.fzS (g:=110) rfl)
  ·
   refine st132.alloc 6 rfl rfl kZ35 yB (by simp) [4,5,6,83,110] rfl [8,12] rfl rfl (λ b329 M329 a329 w329 st329=>?_)
   have st330:=st329.gs (Gs':=[oneB none,oneB none,oneB q132_2,oneB q132_3,oneB q132_4,oneB q132_5,oneB (some b329),oneB q132_7]) rfl
   exact aHe n159 (st330.fzS (g:=110) rfl)
 refine zq 6 1567 (λ a w=>∃ M1 q137_2 q137_3 q137_4 q137_5 q137_6 q137_7,Sx (Frm.of w0) 110 M M1 [oneB none,oneB none,oneB q137_2,oneB q137_3,oneB q137_4,oneB q137_5,oneB q137_6,oneB q137_7] [(4,dptr v6.2.1),(5,dt v6.2.2.1),(6,dt v6.2.2.2),(79,dt v75),(80,dt v6.2.1),(81,dt v6.2.2.1),(82,dt v6.2.2.2),(110,dfz c70)] [(8,3,dbox q137_3 0 v24.2),(11,6,dbox q137_6 0 zi),(12,7,dbox q137_7 0 zO)] a w) ?_ (λ n137=>?_)
 ·
  rintro a137 w137 ⟨M137,q137_2,q137_3,q137_4,q137_5,q137_6,q137_7,st137⟩
  refine aH1 (i:=5) (by decide +kernel) rfl ?_
  refine st137.seg 1 (sc rfl (zo (l:=[.tmp 79,.tmp 80,.tmp 81,.tmp 82]) rfl kN14 (.cons (tp rfl) (.cons (tp rfl) (.cons (tp rfl) (.cons (tp rfl) .nil)))) (FnN.fnoo<|xv p77))<|.nil) [4,5,6,83,110] rfl [(8,3),(11,6),(12,7)] rfl ⟨iI,⟨iI,iT⟩⟩ (λ a331 w331 st331=>?_)
  exact aHe n159 (st331.fzS (g:=110) rfl)
 refine zq 7 63 (λ a w=>∃ M1 q105_2 q105_3 q105_4 q105_5,Sx (Frm.of w0) 110 M M1 [oneB none,oneB none,oneB q105_2,oneB q105_3,oneB q105_4,oneB q105_5,oneB none,oneB none] [(4,dptr v6.2.1),(5,dt v6.2.2.1),(6,dt v6.2.2.2),(83,dtup [dt v77.1,dt v77.2]),(110,dfz c70)] [(8,3,dbox q105_3 0 v24.2)] a w) ?_ (λ n105=>?_)
 ·
  rintro a105 w105 ⟨M105,q105_2,q105_3,q105_4,q105_5,st105⟩
  refine aH3 (i:=6) (j:=9) (k:=10) (by decide +kernel) rfl rfl rfl ?_ ?_ ?_
  ·
   refine st105.seg 1 (sc rfl (oM rfl (tp rfl))<|.nil) [4,5,6,77,110] rfl [(8,3)] rfl iT (λ a332 w332 st332=>?_)
   exact aHe n124 (st332.fzS (g:=110) rfl)
  ·
   refine st105.alloc 6 rfl rfl kZ35 yB (by simp) [4,5,6,83,110] rfl [8] rfl rfl (λ b334 M334 a334 w334 st334=>?_)
   have st335:=st334.gs (Gs':=[oneB none,oneB none,oneB q105_2,oneB q105_3,oneB q105_4,oneB q105_5,oneB (some b334),oneB none]) rfl
   exact aHe n128 (st335.fzS (g:=110) rfl)
  ·
   refine st105.alloc 7 rfl rfl kZ37 yz (by simp) [4,5,6,83,110] rfl [8] rfl rfl (λ b337 M337 a337 w337 st337=>?_)
   have st338:=st337.gs (Gs':=[oneB none,oneB none,oneB q105_2,oneB q105_3,oneB q105_4,oneB q105_5,oneB none,oneB (some b337)]) rfl
   exact aHe n132 (st338.fzS (g:=110) rfl)
 refine zq 7 543 (λ a w=>∃ M1 q109_2 q109_3 q109_4 q109_5 q109_6,Sx (Frm.of w0) 110 M M1 [oneB none,oneB none,oneB q109_2,oneB q109_3,oneB q109_4,oneB q109_5,oneB q109_6,oneB none] [(4,dptr v6.2.1),(5,dt v6.2.2.1),(6,dt v6.2.2.2),(79,dt v75),(80,dt v6.2.1),(81,dt v6.2.2.1),(82,dt v6.2.2.2),(110,dfz c70)] [(8,3,dbox q109_3 0 v24.2),(11,6,dbox q109_6 0 zi)] a w) ?_ (λ n109=>?_)
 ·
  rintro a109 w109 ⟨M109,q109_2,q109_3,q109_4,q109_5,q109_6,st109⟩
  refine aH2 (i:=5) (j:=10) (by decide +kernel) rfl rfl ?_ ?_
  ·
   refine st109.seg 1 (sc rfl (zo (l:=[.tmp 79,.tmp 80,.tmp 81,.tmp 82]) rfl kN14 (.cons (tp rfl) (.cons (tp rfl) (.cons (tp rfl) (.cons (tp rfl) .nil)))) (FnN.fnoo<|xv p77))<|.nil) [4,5,6,83,110] rfl [(8,3),(11,6)] rfl ⟨iI,iT⟩ (λ a339 w339 st339=>?_)
   exact aHe n128 (st339.fzS (g:=110) rfl)
  ·
   refine st109.alloc 7 rfl rfl kZ37 yz (by simp) [4,5,6,79,80,81,82,110] rfl [8,11] rfl rfl (λ b341 M341 a341 w341 st341=>?_)
   have st342:=st341.gs (Gs':=[oneB none,oneB none,oneB q109_2,oneB q109_3,oneB q109_4,oneB q109_5,oneB q109_6,oneB (some b341)]) rfl
   exact aHe n137 (st342.fzS (g:=110) rfl)
 refine zq 7 1055 (λ a w=>∃ M1 q113_2 q113_3 q113_4 q113_5 q113_7,Sx (Frm.of w0) 110 M M1 [oneB none,oneB none,oneB q113_2,oneB q113_3,oneB q113_4,oneB q113_5,oneB none,oneB q113_7] [(4,dptr v6.2.1),(5,dt v6.2.2.1),(6,dt v6.2.2.2),(79,dt v75),(80,dt v6.2.1),(81,dt v6.2.2.1),(82,dt v6.2.2.2),(110,dfz c70)] [(8,3,dbox q113_3 0 v24.2),(12,7,dbox q113_7 0 zO)] a w) ?_ (λ n113=>?_)
 ·
  rintro a113 w113 ⟨M113,q113_2,q113_3,q113_4,q113_5,q113_7,st113⟩
  refine aH2 (i:=5) (j:=9) (by decide +kernel) rfl rfl ?_ ?_
  ·
   refine st113.seg 1 (sc rfl (zo (l:=[.tmp 79,.tmp 80,.tmp 81,.tmp 82]) rfl kN14 (.cons (tp rfl) (.cons (tp rfl) (.cons (tp rfl) (.cons (tp rfl) .nil)))) (FnN.fnoo<|xv p77))<|.nil) [4,5,6,83,110] rfl [(8,3),(12,7)] rfl ⟨iI,iT⟩ (λ a343 w343 st343=>?_)
   exact aHe n132 (st343.fzS (g:=110) rfl)
  ·
   refine st113.alloc 6 rfl rfl kZ35 yB (by simp) [4,5,6,79,80,81,82,110] rfl [8,12] rfl rfl (λ b345 M345 a345 w345 st345=>?_)
   have st346:=st345.gs (Gs':=[oneB none,oneB none,oneB q113_2,oneB q113_3,oneB q113_4,oneB q113_5,oneB (some b345),oneB q113_7]) rfl
   exact aHe n137 (st346.fzS (g:=110) rfl)
 refine zq 7 1565 (λ a w=>∃ M1 q118_2 q118_3 q118_4 q118_5 q118_6 q118_7,Sx (Frm.of w0) 110 M M1 [oneB none,oneB none,oneB q118_2,oneB q118_3,oneB q118_4,oneB q118_5,oneB q118_6,oneB q118_7] [(4,dptr v6.2.1),(5,dt v6.2.2.1),(6,dt v6.2.2.2),(78,dt v6.1),(80,dt v6.2.1),(81,dt v6.2.2.1),(82,dt v6.2.2.2),(110,dfz c70)] [(8,3,dbox q118_3 0 v24.2),(11,6,dbox q118_6 0 zi),(12,7,dbox q118_7 0 zO)] a w) ?_ (λ n118=>?_)
 ·
  rintro a118 w118 ⟨M118,q118_2,q118_3,q118_4,q118_5,q118_6,q118_7,st118⟩
  refine aH1 (i:=1) (by decide +kernel) rfl ?_
  refine st118.seg 1 (sc rfl (zo (l:=[.tmp 78]) rfl kN35 (.cons (tp rfl) .nil) (ZH p75))<|.nil) [4,5,6,79,80,81,82,110] rfl [(8,3),(11,6),(12,7)] rfl ⟨iI,⟨iI,iT⟩⟩ (λ a347 w347 st347=>?_)
  exact aHe n137 (st347.fzS (g:=110) rfl)
 refine zq 8 31 (λ a w=>∃ M1 q95_2 q95_3 q95_4 q95_5,Sx (Frm.of w0) 110 M M1 [oneB none,oneB none,oneB q95_2,oneB q95_3,oneB q95_4,oneB q95_5,oneB none,oneB none] [(4,dptr v6.2.1),(5,dt v6.2.2.1),(6,dt v6.2.2.2),(79,dt v75),(80,dt v6.2.1),(81,dt v6.2.2.1),(82,dt v6.2.2.2),(110,dfz c70)] [(8,3,dbox q95_3 0 v24.2)] a w) ?_ (λ n95=>?_)
 ·
  rintro a95 w95 ⟨M95,q95_2,q95_3,q95_4,q95_5,st95⟩
  refine aH3 (i:=5) (j:=9) (k:=10) (by decide +kernel) rfl rfl rfl ?_ ?_ ?_
  ·
   refine st95.seg 1 (sc rfl (zo (l:=[.tmp 79,.tmp 80,.tmp 81,.tmp 82]) rfl kN14 (.cons (tp rfl) (.cons (tp rfl) (.cons (tp rfl) (.cons (tp rfl) .nil)))) (FnN.fnoo<|xv p77))<|.nil) [4,5,6,83,110] rfl [(8,3)] rfl iT (λ a348 w348 st348=>?_)
   exact aHe n105 (st348.fzS (g:=110) rfl)
  ·
   refine st95.alloc 6 rfl rfl kZ35 yB (by simp) [4,5,6,79,80,81,82,110] rfl [8] rfl rfl (λ b350 M350 a350 w350 st350=>?_)
   have st351:=st350.gs (Gs':=[oneB none,oneB none,oneB q95_2,oneB q95_3,oneB q95_4,oneB q95_5,oneB (some b350),oneB none]) rfl
   exact aHe n109 (st351.fzS (g:=110) rfl)
  ·
   refine st95.alloc 7 rfl rfl kZ37 yz (by simp) [4,5,6,79,80,81,82,110] rfl [8] rfl rfl (λ b353 M353 a353 w353 st353=>?_)
   have st354:=st353.gs (Gs':=[oneB none,oneB none,oneB q95_2,oneB q95_3,oneB q95_4,oneB q95_5,oneB none,oneB (some b353)]) rfl
   exact aHe n113 (st354.fzS (g:=110) rfl)
 refine zq 8 541 (λ a w=>∃ M1 q99_2 q99_3 q99_4 q99_5 q99_6,Sx (Frm.of w0) 110 M M1 [oneB none,oneB none,oneB q99_2,oneB q99_3,oneB q99_4,oneB q99_5,oneB q99_6,oneB none] [(4,dptr v6.2.1),(5,dt v6.2.2.1),(6,dt v6.2.2.2),(78,dt v6.1),(80,dt v6.2.1),(81,dt v6.2.2.1),(82,dt v6.2.2.2),(110,dfz c70)] [(8,3,dbox q99_3 0 v24.2),(11,6,dbox q99_6 0 zi)] a w) ?_ (λ n99=>?_)
 ·
  rintro a99 w99 ⟨M99,q99_2,q99_3,q99_4,q99_5,q99_6,st99⟩
  refine aH2 (i:=1) (j:=10) (by decide +kernel) rfl rfl ?_ ?_
  ·
   refine st99.seg 1 (sc rfl (zo (l:=[.tmp 78]) rfl kN35 (.cons (tp rfl) .nil) (ZH p75))<|.nil) [4,5,6,79,80,81,82,110] rfl [(8,3),(11,6)] rfl ⟨iI,iT⟩ (λ a355 w355 st355=>?_)
   exact aHe n109 (st355.fzS (g:=110) rfl)
  ·
   refine st99.alloc 7 rfl rfl kZ37 yz (by simp) [4,5,6,78,80,81,82,110] rfl [8,11] rfl rfl (λ b357 M357 a357 w357 st357=>?_)
   have st358:=st357.gs (Gs':=[oneB none,oneB none,oneB q99_2,oneB q99_3,oneB q99_4,oneB q99_5,oneB q99_6,oneB (some b357)]) rfl
   exact aHe n118 (st358.fzS (g:=110) rfl)
 refine zq 8 1053 (λ a w=>∃ M1 q103_2 q103_3 q103_4 q103_5 q103_7,Sx (Frm.of w0) 110 M M1 [oneB none,oneB none,oneB q103_2,oneB q103_3,oneB q103_4,oneB q103_5,oneB none,oneB q103_7] [(4,dptr v6.2.1),(5,dt v6.2.2.1),(6,dt v6.2.2.2),(78,dt v6.1),(80,dt v6.2.1),(81,dt v6.2.2.1),(82,dt v6.2.2.2),(110,dfz c70)] [(8,3,dbox q103_3 0 v24.2),(12,7,dbox q103_7 0 zO)] a w) ?_ (λ n103=>?_)
 ·
  rintro a103 w103 ⟨M103,q103_2,q103_3,q103_4,q103_5,q103_7,st103⟩
  refine aH2 (i:=1) (j:=9) (by decide +kernel) rfl rfl ?_ ?_
  ·
   refine st103.seg 1 (sc rfl (zo (l:=[.tmp 78]) rfl kN35 (.cons (tp rfl) .nil) (ZH p75))<|.nil) [4,5,6,79,80,81,82,110] rfl [(8,3),(12,7)] rfl ⟨iI,iT⟩ (λ a359 w359 st359=>?_)
   exact aHe n113 (st359.fzS (g:=110) rfl)
  ·
   refine st103.alloc 6 rfl rfl kZ35 yB (by simp) [4,5,6,78,80,81,82,110] rfl [8,12] rfl rfl (λ b361 M361 a361 w361 st361=>?_)
   have st362:=st361.gs (Gs':=[oneB none,oneB none,oneB q103_2,oneB q103_3,oneB q103_4,oneB q103_5,oneB (some b361),oneB q103_7]) rfl
   exact aHe n118 (st362.fzS (g:=110) rfl)
 refine aH3 (i:=1) (j:=9) (k:=10) (by decide +kernel) rfl rfl rfl ?_ ?_ ?_
 ·
  refine st74.seg 1 (sc rfl (zo (l:=[.tmp 78]) rfl kN35 (.cons (tp rfl) .nil) (ZH p75))<|.nil) [4,5,6,79,80,81,82,110] rfl [(8,3)] rfl iT (λ a363 w363 st363=>?_)
  exact aHe n95 (st363.fzS (g:=110) rfl)
 ·
  refine st74.alloc 6 rfl rfl kZ35 yB (by simp) [4,5,6,78,80,81,82,110] rfl [8] rfl rfl (λ b365 M365 a365 w365 st365=>?_)
  have st366:=st365.gs (Gs':=[oneB none,oneB none,oneB (some b28),oneB (some b31),oneB (some b41),oneB (some b44),oneB (some b365),oneB none]) rfl
  exact aHe n99 (st366.fzS (g:=110) rfl)
 ·
  refine st74.alloc 7 rfl rfl kZ37 yz (by simp) [4,5,6,78,80,81,82,110] rfl [8] rfl rfl (λ b368 M368 a368 w368 st368=>?_)
  have st369:=st368.gs (Gs':=[oneB none,oneB none,oneB (some b28),oneB (some b31),oneB (some b41),oneB (some b44),oneB none,oneB (some b368)]) rfl
  exact aHe n103 (st369.fzS (g:=110) rfl)
open Go.RowKit Tryz
theorem ForgetAll_eq{f:Finder}(hf:FindOk f):qD f=some ⟨[],f.fills,f.hits⟩:=by
 unfold qD
 rw[qI hf.1.smd,xE.2 hf]
 rfl
theorem WR(c:List UInt8):jl c=some true:=by
 unfold jl
 refine Qv λ f d path s hf hd ht hp hs=>?_
 have hpl:=X2 hp
 have hsh:sho s:=by have:=y8 hs;unfold sho;omega
 have hf0:FindOk ⟨[],f.fills,f.hits⟩:=⟨emptyF_ok.1,hf.2⟩
 have h0:Jx ⟨[],f.fills,f.hits⟩ d:=λ x hx=>by cases hx
 obtain⟨h1,h2⟩:=zb3 (path:=path) hd.tree hs h0
 have he:ql ⟨[],f.fills,f.hits⟩ d path s=qd ⟨[],f.fills,f.hits⟩ d path s:=by
  unfold ql
  rw[xE.2 hf0,hd.fit,hp,hs]
  rfl
 have hr:=Xq ⟨[],f.fills,f.hits⟩ d path s
 have hq:=JL (x:=find d.tree.files path s) (by rw[← h1];omega)
 dsimp only
 rw[ForgetAll_eq hf,obS,X3 hf0.1.smd ht hd.ok.smd (by omega) hsh,obS,he,h1,za7 ht (by omega) hsh,findOf_eq hd hp hs]
 rcases seen_tells (f:=f) (d:=d) (path:=path) hs with ht2 | ⟨k,x,e1,e2,e3⟩
 ·
  have hc:cmpI .lss (qd f d path s).2.file 0=true:=decide_eq_true ht2
  rw[hc]
  simp[gO,hq]
 ·
  have hm:=List.mem_of_getElem? e2
  have hc:cmpI .lss (((k:Nat):Int)) 0=false:=by simp[cmpI]
  rw[e1,hc,yb,e2,zU,obS,if_pos (by rfl),ModuleOf_eq (ht.2 x hm),qH hd.tree hm,if_pos rfl,e3]
  simp[gO,hq]
theorem JE(c:List UInt8):Fn prog 6 [dt c] (dt true):=WQ (WR c)
end Go.Proofs.YtdoidiipacdbpaaGreatDoor
