import Derived.Test.YtdoidiipacdbpaaGreatDoorRKb
import Derived.Test.YtdoidiipacdbpaaGreatDoorRP
namespace Go.Proofs.YtdoidiipacdbpaaGreatDoor
open Go.RowKit Tryz
set_option maxRecDepth 10000
set_option maxHeartbeats 1600000
theorem kT24:tyB prog 24 true 3=true:=by kernel_rfl
theorem kN8:fnB prog 8=true:=by kernel_rfl
theorem kT29:tyB prog 29 true 3=true:=by kernel_rfl
theorem kN9:fnB prog 9=true:=by kernel_rfl
theorem kN11:fnB prog 11=true:=by kernel_rfl
theorem kN12:fnB prog 12=true:=by kernel_rfl
theorem kN13:fnB prog 13=true:=by kernel_rfl
theorem kN10:fnB prog 10=true:=by kernel_rfl
theorem kN14:fnB prog 14=true:=by kernel_rfl
theorem kN15:fnB prog 15=true:=by kernel_rfl
theorem kN16:fnB prog 16=true:=by kernel_rfl
theorem kN17:fnB prog 17=true:=by kernel_rfl
theorem kN19:fnB prog 19=true:=by kernel_rfl
theorem kN20:fnB prog 20=true:=by kernel_rfl
theorem kN22:fnB prog 22=true:=by kernel_rfl
theorem kN23:fnB prog 23=true:=by kernel_rfl
theorem kN24:fnB prog 24=true:=by kernel_rfl
def xS(x0:Finder)(x1:Disk)(x2:List Int)(x3:Str):Option Bool:=
if(cmpI .gtr (x2.length:Int) (1048576:Int))=true then(some true)
else(if(cmpI .gtr (x3.l.length:Int) (1048576:Int))=true then(some true)
else((jS x0 (1048576:Int)).bind λ v11=>
if(cmpI .lss v11 (0:Int))=true then(some true)
else((Zd x1 v11).bind λ v18=>
if(cmpI .lss v18 (0:Int))=true then(some true)
else((xy x0).bind λ v30=>
(wk x1).bind λ v32=>
(xR x2).bind λ v34=>
(x9 v30 v32 v34 x3).bind λ v36=>
(xy x0).bind λ v247=>
(wk x1).bind λ v256=>
(xR x2).bind λ v265=>
(yJ v247 v256 v265 x3).bind λ v274=>
(yh v274.1 v36.1).bind λ v292=>
(gO ((!v292) == false) (y9 v274.2 v36.2)).bind λ v294=>
if((!v292)||(!v294))=true then(some false)
else((xy x0).bind λ v304=>
(yh v247 v304).bind λ v305=>
if(!v305)=true then(some false)
else((wk x1).bind λ v314=>
(j8 v256 v314).bind λ v315=>
if(!v315)=true then(some false)
else((xR x2).bind λ v323=>
(jg v265 v323).bind λ v324=>
if(!v324)=true then(some false)
else((xh v247 (1:Int)).bind λ v335=>
(jU v256 v335.2).bind λ v342=>
(wJ v265 v342.2).bind λ v348=>
(gO (cmpI .lss v348.2 (0:Int) == false) (yh v274.1 v36.1)).bind λ v353=>
(gO ((cmpI .lss v348.2 (0:Int)||(!v353)) == false) (y9 v274.2 v36.2)).bind λ v355=>
if((cmpI .lss v348.2 (0:Int)||(!v353))||(!v355))=true then(some false)
else((xh v274.1 (1:Int)).bind λ v368=>
(wK v274.2 v368.2).bind λ v375=>
(yI v368.1 (1:Int)).bind λ v381=>
if(cmpI .lss v381 (0:Int))=true then(some false)
else((xA v375.1 v381).bind λ v390=>
if(cmpI .lss v390 (0:Int))=true then(some false)
else(if(cmpI .neq v390 v375.2)=true then(some false)
else((xy x0).bind λ v407=>
(wk x1).bind λ v409=>
(xR x2).bind λ v411=>
(yJ v407 v409 v411 x3).bind λ v413=>
(yh v413.1 v36.1).bind λ v628=>
(gO ((!v628) == false) (y9 v413.2 v36.2)).bind λ v629=>
if((!v628)||(!v629))=true then(some false)
else((yI v368.1 (1:Int)).bind λ v639=>
if(cmpI .lss v639 (0:Int))=true then(some false)
else((xA v375.1 v639).bind λ v648=>
if(cmpI .lss v648 (0:Int))=true then(some false)
else(if(cmpI .neq v648 v375.2)=true then(some false)
else(some true))))))))))))))))
theorem Xl{x0:Finder}{x1:Disk}{x2:List Int}{x3:Str}{r:Bool}(h:xS x0 x1 x2 x3=some r):Fn prog 3 [dt x0,dt x1,dt x2,dt x3] (dt r):=by
 unfold xS at h
 refine fnx (fn:=f3) 14 func3 rfl (oD rfl) rfl (λ M w0 a0 st0=>?_)
 refine st0.sq0 (sc rfl (Yn rfl (tp rfl))<|sc rfl (Yn rfl (tp rfl))<|sc rfl (oA rfl cB)<|.nil) [2,3,4,5] rfl (λ a1 w1 st1=>wp_seq ?_)
 refine st1.sq0 (sc rfl (oM rfl (tp rfl))<|sc rfl (Wz rfl kL30 (tp rfl))<|sc rfl (oCI rfl (tp rfl) cI)<|.nil) [2,3,4,5,24] rfl (λ a2 w2 st2=>?_)
 refine st2.cs (c:=24) rfl h (λ c3 h3=>?_) (λ c4 h4=>?_)
 ·
  refine st2.sq0 (sc rfl (oA rfl cB)<|.nil) [8] rfl (λ a5 w5 st5=>wp_ret (zd ?_))
  exact st5.ret rfl rfl h3
 refine wp_skip (za (wp_seq ?_))
 refine st2.sq0 (sc rfl (oM rfl (tp rfl))<|sc rfl (Z5 rfl kX9 (tp rfl))<|sc rfl (oCI rfl (tp rfl) cI)<|.nil) [2,3,4,5,27] rfl (λ a6 w6 st6=>?_)
 refine st6.cs (c:=27) rfl h4 (λ c7 h7=>?_) (λ c8 h8=>?_)
 ·
  refine st6.sq0 (sc rfl (oA rfl cB)<|.nil) [8] rfl (λ a9 w9 st9=>wp_ret (zd ?_))
  exact st9.ret rfl rfl h7
 refine wp_skip (za ?_)
 refine st6.sq0 (sc rfl (oA rfl cI)<|.nil) [2,3,4,5,9] rfl (λ a10 w10 st10=>?_)
 obtain⟨v11,p11,h12⟩:=bs h8
 refine st10.sq0 (sc rfl (zp rfl kT24 (tp rfl))<|sc rfl (oM rfl (tp rfl))<|sc rfl (zq (l:=[.tmp 28,.tmp 29]) rfl kN8 (.cons (tp rfl) (.cons (tp rfl) .nil)) (QZ p11))<|sc rfl (oA rfl (tp rfl))<|.nil) [2,3,4,5,9] rfl (λ a13 w13 st13=>wp_seq ?_)
 refine st13.sq0 (sc rfl (oM rfl (tp rfl))<|sc rfl (oCI rfl (tp rfl) cI)<|.nil) [2,3,4,5,9,32] rfl (λ a14 w14 st14=>?_)
 refine st14.cs (c:=32) rfl h12 (λ c15 h15=>?_) (λ c16 h16=>?_)
 ·
  refine st14.sq0 (sc rfl (oA rfl cB)<|.nil) [8] rfl (λ a17 w17 st17=>wp_ret (zd ?_))
  exact st17.ret rfl rfl h15
 refine wp_skip (za ?_)
 obtain⟨v18,p18,h19⟩:=bs h16
 refine st14.sq0 (sc rfl (zp rfl kT29 (tp rfl))<|sc rfl (oM rfl (tp rfl))<|sc rfl (zq (l:=[.tmp 33,.tmp 34]) rfl kN9 (.cons (tp rfl) (.cons (tp rfl) .nil)) (laws_szDisk_w p18))<|sc rfl (oA rfl (tp rfl))<|.nil) [2,3,4,5,9] rfl (λ a20 w20 st20=>wp_seq ?_)
 refine st20.sq0 (sc rfl (oM rfl (tp rfl))<|sc rfl (oCI rfl (tp rfl) cI)<|.nil) [2,3,4,5,37] rfl (λ a21 w21 st21=>?_)
 refine st21.cs (c:=37) rfl h19 (λ c22 h22=>?_) (λ c23 h23=>?_)
 ·
  refine st21.sq0 (sc rfl (oA rfl cB)<|.nil) [8] rfl (λ a24 w24 st24=>wp_ret (zd ?_))
  exact st24.ret rfl rfl h22
 refine wp_skip (za (wp_seq ?_))
 refine st21.heldF zI (λ c25 w25 hz25 st25=>?_)
 refine st25.tkLp (i:=0) rfl rfl (by decide +kernel) (by decide +kernel) (by decide +kernel) (λ _ _ _ _ h=>h) (st25.fzS (g:=164) rfl) hz25 rfl kT24 (tp rfl) (λ a26 st26=>?_)
 refine st26.tkLp (i:=2) rfl rfl (by decide +kernel) (by decide +kernel) (by decide +kernel) (λ _ _ _ _ h=>h) (st26.fzS (g:=164) rfl) hz25 rfl kT29 (tp rfl) (λ a27 st27=>?_)
 refine st27.tkM (i:=4) (sb:=2) rfl rfl (by decide +kernel) (by decide +kernel) (by decide +kernel) (λ _ _ _ _ h=>h) (st27.fzS (g:=164) rfl) rfl rfl rfl rfl (λ a28 st28=>?_)
 refine st28.tkM (i:=6) (sb:=3) rfl rfl (by decide +kernel) (by decide +kernel) (by decide +kernel) (λ _ _ _ _ h=>h) (st28.fzS (g:=164) rfl) rfl rfl rfl rfl (λ a29 st29=>?_)
 obtain⟨v30,p30,v32,p32,v34,p34,v36,p36,h54⟩:=bsD h23
 refine zm 1 16383 (λ a w=>∃ M1 q239_6 q239_7,Sx (Frm.of w0) 164 M M1 [oneB none,oneB none,oneB none,oneB none,oneB none,oneB none,oneB q239_6,oneB q239_7,oneB none,oneB none,oneB none,oneB none,oneB none,oneB none] [(2,dt x2),(3,dt x3),(4,dptr x0),(5,dptr x1),(48,dt v36.2),(164,dfz c25)] [(10,6,dbox q239_6 0 v36.1),(11,7,dbox q239_7 0 zE)] a w) ?_ (λ n239=>?_)
 ·
  rintro a239 w239 ⟨M239,q239_6,q239_7,st239⟩
  refine aH1 (i:=14) (by decide +kernel) rfl ?_
  refine st239.store (sb:=11) 7 FldS.id rfl rfl rfl kT37 rfl rfl (tp rfl) rfl [2,3,4,5,164] rfl [10] rfl rfl (λ M244 w244 st244=>?_)
  refine aHN (st244.fzS (g:=164) rfl) ?_
  refine aH0 (by decide +kernel) ?_
  refine za (wp_seq (wp_region_list ?_))
  refine st244.seg 1 (
   sc rfl (zp rfl kT24 (tp rfl))<|.nil) [2,3,4,5,49] rfl [(10,6),(11,7)] rfl ⟨iI,iT⟩ (λ a245 w245 st245=>?_)
  obtain⟨v247,p247,h248⟩:=bs h54
  refine st245.cN (l:=[.tmp 49]) 0 rfl rfl kN11 (.cons (tp rfl) .nil) (yy p247) (by simp) [2,3,4,5] rfl [10,11] rfl rfl (λ G246 M246 a246 w246 st246=>?_)
  have st249:=st246.gs (Gs':=[G246,oneB none,oneB none,oneB none,oneB none,oneB none,oneB q239_6,oneB q239_7,oneB none,oneB none,oneB none,oneB none,oneB none,oneB none]) rfl
  refine st249.alcW (ow:=(owFinder (Ow.row 77 (owDir (Ow.row 9 (Ow.frz (α:=Str))))))) 8 rfl rfl kZ35 (owFinder.z Ow.row_z) (by simp) [2,3,4,5] rfl [10,11,50] rfl rfl (λ b250 M250 a250 w250 st250=>?_)
  have st251:=st250.gs (Gs':=[G246,oneB none,oneB none,oneB none,oneB none,oneB none,oneB q239_6,oneB q239_7,(oneB (some b250)),oneB none,oneB none,oneB none,oneB none,oneB none]) rfl
  refine st251.stO (sb:=12) (tv:=50) 8 0 (PV.root.box rfl) rfl rfl rfl kT35 (by simp) (by simp) (by decide) (zz rfl) rfl rfl rfl iI iI [2,3,4,5] rfl [10,11] rfl rfl rfl (λ G252 w252 st252=>?_)
  have st253:=st252.gs (Gs':=[oneB none,oneB none,oneB none,oneB none,oneB none,oneB none,oneB q239_6,oneB q239_7,G252,oneB none,oneB none,oneB none,oneB none,oneB none]) rfl
  refine wpList_nil (za (wp_seq (wp_region_list ?_)))
  refine st253.seg 1 (
   sc rfl (zp rfl kT29 (tp rfl))<|.nil) [2,3,4,5,51] rfl [(10,6),(11,7),(12,8)] rfl ⟨iI,⟨iI,iT⟩⟩ (λ a254 w254 st254=>?_)
  obtain⟨v256,p256,h257⟩:=bs h248
  refine st254.cN (l:=[.tmp 51]) 1 rfl rfl kN12 (.cons (tp rfl) .nil) (y8 p256) (by simp) [2,3,4,5] rfl [10,11,12] rfl rfl (λ G255 M255 a255 w255 st255=>?_)
  have st258:=st255.gs (Gs':=[oneB none,G255,oneB none,oneB none,oneB none,oneB none,oneB q239_6,oneB q239_7,G252,oneB none,oneB none,oneB none,oneB none,oneB none]) rfl
  refine st258.alcW (ow:=(owDisk (owTree (Ow.row 72 (owFile (Ow.row 159 (Ow.frz (α:=Stmt)))))) (Ow.row 77 (owDir (Ow.row 9 (Ow.frz (α:=Str))))))) 9 rfl rfl kZ45 (owDisk.z (owTree.z Ow.row_z) Ow.row_z) (by simp) [2,3,4,5] rfl [10,11,12,52] rfl rfl (λ b259 M259 a259 w259 st259=>?_)
  have st260:=st259.gs (Gs':=[oneB none,G255,oneB none,oneB none,oneB none,oneB none,oneB q239_6,oneB q239_7,G252,(oneB (some b259)),oneB none,oneB none,oneB none,oneB none]) rfl
  refine st260.stO (sb:=13) (tv:=52) 9 1 (PV.root.box rfl) rfl rfl rfl kT45 (by simp) (by simp) (by decide) (zz rfl) rfl rfl rfl iI iI [2,3,4,5] rfl [10,11,12] rfl rfl rfl (λ G261 w261 st261=>?_)
  have st262:=st261.gs (Gs':=[oneB none,oneB none,oneB none,oneB none,oneB none,oneB none,oneB q239_6,oneB q239_7,G252,G261,oneB none,oneB none,oneB none,oneB none]) rfl
  refine wpList_nil (za (wp_seq (wp_region_list ?_)))
  refine st262.seg 1 (
   sc rfl (oM rfl (tp rfl))<|.nil) [2,3,4,5,53] rfl [(10,6),(11,7),(12,8),(13,9)] rfl ⟨iI,⟨iI,⟨iI,iT⟩⟩⟩ (λ a263 w263 st263=>?_)
  obtain⟨v265,p265,h266⟩:=bs h257
  refine st263.cN (l:=[.tmp 53]) 5 rfl rfl kN13 (.cons (tp rfl) .nil) (y7 p265).n (by simp) [2,3,4,5] rfl [10,11,12,13] rfl rfl (λ G264 M264 a264 w264 st264=>?_)
  have st267:=st264.gs (Gs':=[oneB none,oneB none,oneB none,oneB none,oneB none,G264,oneB q239_6,oneB q239_7,G252,G261,oneB none,oneB none,oneB none,oneB none]) rfl
  refine st267.nmR (s:=54) 5 rfl rfl iI [10,11,12,13] rfl (λ g268 A268 c268 hA268 st268=>?_)
  refine st268.seg 1 (
   sc rfl (oA rfl (tp rfl))<|.nil) [2,3,4,5] rfl [(10,6),(11,7),(12,8),(13,9),(14,5)] rfl ⟨iI,⟨iI,⟨iI,⟨iI,iT⟩⟩⟩⟩ (λ a269 w269 st269=>?_)
  refine wpList_nil (za (wp_seq (wp_region_list ?_)))
  refine st269.hdW (s:=12) 8 true (λ _=>(PV.root.box rfl)) rfl rfl iI [10,11,13,14] rfl (λ cs270 hS270 st270=>?_)
  refine st270.hdW (s:=13) 9 true (λ _=>(PV.root.box rfl)) rfl rfl iI [10,11,12,14] rfl (λ cs271 hS271 st271=>?_)
  refine st271.seg 4 (
   sc rfl (xLw (sb:=12) (.head _) rfl (hS270 rfl) rfl kT35 (zz rfl) rfl)<|sc rfl (xLw (sb:=13) (.head _) rfl (hS271 rfl) rfl kT45 (zz rfl) rfl)<|sc rfl (oM rfl (tp rfl))<|sc rfl (oM rfl (tp rfl))<|.nil) [2,3,4,5,56,57,59] rfl [(10,6),(11,7),(12,8),(13,9),(14,5),(58,5)] rfl ⟨iI,⟨iI,⟨iI,⟨iI,⟨iI,iT⟩⟩⟩⟩⟩ (λ a272 w272 st272=>?_)
  obtain⟨v274,p274,h275⟩:=bs h266
  refine st272.cNoo (l:=[.tmp 56,.tmp 57,.tmp 58,.tmp 59]) 2 rfl rfl kN14 st272.ob.sub (.cons (Yk (sb:=12) st272.ob 8 (PV.root.box rfl) (.head _) rfl (xg rfl (hS270 rfl)) (tp rfl) rfl iI) (.cons (Yk (sb:=13) st272.ob 9 (PV.root.box rfl) (.head _) rfl (xg rfl (hS271 rfl)) (tp rfl) rfl iI) (.cons (lendN st272.ob 5 iI (tp rfl)) (.cons (wQ st272.ob.sub (tp rfl)) .nil)))) (jc p274) (owFinder.full (ZO (owDir.full (ZO Wm)))) (owSpec.full (ZO YP)) (by simp) [2,3,4,5] rfl [10,11,12,13,14] rfl rfl (λ G273 M273 a273 w273 st273=>?_)
  have st276:=st273.gs (Gs':=[oneB none,oneB none,G273,oneB none,oneB none,G264,oneB q239_6,oneB q239_7,G252,G261,oneB none,oneB none,oneB none,oneB none]) rfl
  refine st276.mvD (s:=60) 2 rfl rfl rfl rfl iI rfl [10,11,12,13,14] rfl (λ a277 st277=>?_)
  refine st277.ex2a (s:=55) 2 4 rfl rfl rfl rfl iI (by simp) (by simp) (by decide) rfl rfl [10,11,12,13,14] rfl rfl (λ G278 H278 a278 st278=>?_)
  have st279:=st278.gs (Gs':=[oneB none,oneB none,G278,oneB none,H278,G264,oneB q239_6,oneB q239_7,G252,G261,oneB none,oneB none,oneB none,oneB none]) rfl
  refine st279.ex2b (s:=55) 4 rfl rfl rfl rfl iI rfl [10,11,12,13,14,61] rfl (λ a280 st280=>?_)
  refine st280.alcW (ow:=(owFinder (Ow.row 77 (owDir (Ow.row 9 (Ow.frz (α:=Str))))))) 10 rfl rfl kZ35 (owFinder.z Ow.row_z) (by simp) [2,3,4,5] rfl [10,11,12,13,14,61,62] rfl rfl (λ b281 M281 a281 w281 st281=>?_)
  have st282:=st281.gs (Gs':=[oneB none,oneB none,G278,oneB none,H278,G264,oneB q239_6,oneB q239_7,G252,G261,(oneB (some b281)),oneB none,oneB none,oneB none]) rfl
  refine st282.alcW (ow:=(owSpec (Ow.row 3 (Ow.frz (α:=Int))))) 11 rfl rfl kZ37 (owSpec.z Ow.row_z) (by simp) [2,3,4,5] rfl [10,11,12,13,14,15,61,62] rfl rfl (λ b283 M283 a283 w283 st283=>?_)
  have st284:=st283.gs (Gs':=[oneB none,oneB none,G278,oneB none,H278,G264,oneB q239_6,oneB q239_7,G252,G261,(oneB (some b281)),(oneB (some b283)),oneB none,oneB none]) rfl
  refine st284.stO (sb:=15) (tv:=61) 10 2 (PV.root.box rfl) rfl rfl rfl kT35 (by simp) (by simp) (by decide) (zz rfl) rfl rfl rfl iI iI [2,3,4,5] rfl [10,11,12,13,14,16,62] rfl rfl rfl (λ G285 w285 st285=>?_)
  have st286:=st285.gs (Gs':=[oneB none,oneB none,oneB none,oneB none,H278,G264,oneB q239_6,oneB q239_7,G252,G261,G285,(oneB (some b283)),oneB none,oneB none]) rfl
  refine st286.stO (sb:=16) (tv:=62) 11 4 (PV.root.box rfl) rfl rfl rfl kT37 (by simp) (by simp) (by decide) (zz rfl) rfl rfl rfl iI iI [2,3,4,5] rfl [10,11,12,13,14,15] rfl rfl rfl (λ G287 w287 st287=>?_)
  have st288:=st287.gs (Gs':=[oneB none,oneB none,oneB none,oneB none,oneB none,G264,oneB q239_6,oneB q239_7,G252,G261,G285,G287,oneB none,oneB none]) rfl
  refine wpList_nil ?_
  have st289:=st288.ncf (s:=12) 8 rfl rfl iI [10,11,13,14,15,16] rfl
  have st290:=st289.ncf (s:=13) 9 rfl rfl iI [10,11,12,14,15,16] rfl
  refine za (wp_seq ?_)
  obtain⟨v292,p292,v294,p294,h296⟩:=bsB h275
  refine st290.hdW (s:=15) 10 true (λ _=>(PV.root.box rfl)) rfl rfl iI [10,11,12,13,14,16] rfl (λ cs291 hS291 st291=>?_)
  refine st291.hdW (s:=16) 11 ((!v292) == false) (λ hg=>(PV.root.box rfl)) rfl rfl iI [10,11,12,13,14,15] rfl (λ cs293 hS293 st293=>?_)
  refine st293.sq (sc rfl (xLw (sb:=15) (.head _) rfl (hS291 rfl) rfl kT35 (zz rfl) rfl)<|sc rfl (zM rfl kT35 (tp rfl))<|sc rfl (wR (l:=[.tmp 63,.tmp 64]) st293.ob.sub rfl kN15 (.cons (Yk (sb:=15) st293.ob 10 (PV.root.box rfl) (.head _) rfl (xg rfl (hS291 rfl)) (tp rfl) rfl iI) (.cons (wQ st293.ob.sub (tp rfl)) .nil)) (Zv p292) ZH)<|sc rfl (yU rfl (tp rfl))<|sc rfl (oM rfl (tp rfl))<|sg rfl rfl (λ hg=>xLw (sb:=16) (.head _) hg (hS293 hg) rfl kT37 (zz rfl) rfl)<|sg rfl rfl (λ hg=>zM rfl kT37 (tp rfl))<|sg rfl rfl (λ hg=>wR (l:=[.tmp 68,.tmp 69]) st293.ob.sub rfl kN16 (.cons (Yk (sb:=16) st293.ob 11 (PV.root.box rfl) (.head _) hg (xg rfl (hS293 hg)) (zf hg rfl) rfl iI) (.cons (wQ st293.ob.sub (zf hg rfl)) .nil)) (Xg (gh hg p294)) ZH)<|sg rfl rfl (λ hg=>yU rfl (zf hg rfl))<|sc rfl (wP rfl (tp rfl) (zb rfl))<|.nil) [2,3,4,5,72] rfl [(10,6),(11,7),(12,8),(13,9),(14,5),(15,10),(16,11)] rfl ⟨iI,⟨iI,⟨iI,⟨iI,⟨iI,⟨iI,iT⟩⟩⟩⟩⟩⟩ (λ a297 w297 st297=>?_)
  have st298:=st297.ncf (s:=15) 10 rfl rfl iI [10,11,12,13,14,16] rfl
  have st299:=st298.ncf (s:=16) 11 rfl rfl iI [10,11,12,13,14,15] rfl
  refine st299.cs (c:=72) rfl h296 (λ c300 h300=>?_) (λ c301 h301=>?_)
  ·
   refine st299.sq0 (sc rfl (oA rfl cB)<|.nil) [8] rfl (λ a302 w302 st302=>wp_ret (zd ?_))
   exact st302.ret rfl rfl h300
  refine wp_skip (za (wp_seq (wp_seq ?_)))
  obtain⟨v304,p304,v305,p305,h307⟩:=bsB h301
  refine st299.hdW (s:=12) 8 true (λ _=>(PV.root.box rfl)) rfl rfl iI [10,11,13,14,15,16] rfl (λ cs303 hS303 st303=>?_)
  refine st303.dr (D:=[_,_,_,_,_]) zI [[(12,nS)],[(4,nS)],[(74,1)],[(73,0),(75,2),(12,nS)],[(76,3)]] (by decide +kernel) (
   rc rfl rfl (xLw (sb:=12) (.head _) rfl (hS303 rfl) rfl kT35 (zz rfl) rfl)<|rc rfl rfl (zp rfl kT24 (tp rfl))<|rc rfl rfl (zq (l:=[.tmp 74]) rfl kN11 (.cons (tp rfl) .nil) (FnN.fn<|yy p304))<|rc rfl rfl (wR (l:=[.tmp 73,.tmp 75]) st303.ob.sub rfl kN15 (.cons (Yk (sb:=12) st303.ob 8 (PV.root.box rfl) (.head _) rfl (xg rfl (hS303 rfl)) (tp rfl) rfl iI) (.cons (wQ st303.ob.sub (tp rfl)) .nil)) (Zv p305) ZH)<|rc rfl rfl (yU rfl (tp rfl))<|.nil) [2,3,4,5,77] rfl [(10,6),(11,7),(12,8),(13,9),(14,5),(15,10),(16,11)] rfl ⟨iI,⟨iI,⟨iI,⟨iI,⟨iI,⟨iI,iT⟩⟩⟩⟩⟩⟩ (λ a308 w308 st308=>?_)
  have st309:=st308.ncf (s:=12) 8 rfl rfl iI [10,11,13,14,15,16] rfl
  refine za ?_
  refine st309.cs (c:=77) rfl h307 (λ c310 h310=>?_) (λ c311 h311=>?_)
  ·
   refine st309.sq0 (sc rfl (oA rfl cB)<|.nil) [8] rfl (λ a312 w312 st312=>wp_ret (zd ?_))
   exact st312.ret rfl rfl h310
  refine wp_skip (za (wp_seq (wp_seq ?_)))
  obtain⟨v314,p314,v315,p315,h317⟩:=bsB h311
  refine st309.hdW (s:=13) 9 true (λ _=>(PV.root.box rfl)) rfl rfl iI [10,11,12,14,15,16] rfl (λ cs313 hS313 st313=>?_)
  refine st313.dr (D:=[_,_,_,_,_]) zI [[(13,nS)],[(5,nS)],[(79,1)],[(78,0),(80,2),(13,nS)],[(81,3)]] (by decide +kernel) (
   rc rfl rfl (xLw (sb:=13) (.head _) rfl (hS313 rfl) rfl kT45 (zz rfl) rfl)<|rc rfl rfl (zp rfl kT29 (tp rfl))<|rc rfl rfl (zq (l:=[.tmp 79]) rfl kN12 (.cons (tp rfl) .nil) (FnN.fn<|y8 p314))<|rc rfl rfl (wR (l:=[.tmp 78,.tmp 80]) st313.ob.sub rfl kN17 (.cons (Yk (sb:=13) st313.ob 9 (PV.root.box rfl) (.head _) rfl (xg rfl (hS313 rfl)) (tp rfl) rfl iI) (.cons (wQ st313.ob.sub (tp rfl)) .nil)) (laws_eqDisk_w p315) ZH)<|rc rfl rfl (yU rfl (tp rfl))<|.nil) [2,3,4,5,82] rfl [(10,6),(11,7),(12,8),(13,9),(14,5),(15,10),(16,11)] rfl ⟨iI,⟨iI,⟨iI,⟨iI,⟨iI,⟨iI,iT⟩⟩⟩⟩⟩⟩ (λ a318 w318 st318=>?_)
  have st319:=st318.ncf (s:=13) 9 rfl rfl iI [10,11,12,14,15,16] rfl
  refine za ?_
  refine st319.cs (c:=82) rfl h317 (λ c320 h320=>?_) (λ c321 h321=>?_)
  ·
   refine st319.sq0 (sc rfl (oA rfl cB)<|.nil) [8] rfl (λ a322 w322 st322=>wp_ret (zd ?_))
   exact st322.ret rfl rfl h320
  refine wp_skip (za (wp_seq ?_))
  obtain⟨v323,p323,v324,p324,h326⟩:=bsB h321
  refine st319.sq (sc rfl (oM rfl (tp rfl))<|sc rfl (oM rfl (tp rfl))<|sc rfl (zq (l:=[.tmp 84]) rfl kN13 (.cons (tp rfl) .nil) ((y7 p323)).fn)<|sc rfl (wR (l:=[.tmp 83,.tmp 85]) st319.ob.sub rfl kN18 (.cons (lendN st319.ob 5 iI (tp rfl)) (.cons (wQ st319.ob.sub (tp rfl)) .nil)) (W4 p324) ZH)<|sc rfl (yU rfl (tp rfl))<|.nil) [2,3,4,5,87] rfl [(10,6),(11,7),(12,8),(13,9),(14,5),(15,10),(16,11)] rfl ⟨iI,⟨iI,⟨iI,⟨iI,⟨iI,⟨iI,iT⟩⟩⟩⟩⟩⟩ (λ a327 w327 st327=>?_)
  refine st327.cs (c:=87) rfl h326 (λ c328 h328=>?_) (λ c329 h329=>?_)
  ·
   refine st327.sq0 (sc rfl (oA rfl cB)<|.nil) [8] rfl (λ a330 w330 st330=>wp_ret (zd ?_))
   exact st330.ret rfl rfl h328
  refine wp_skip (za ?_)
  refine st327.sq (sc rfl (oA rfl cI)<|.nil) [2,3,4,5,17] rfl [(10,6),(11,7),(12,8),(13,9),(14,5),(15,10),(16,11)] rfl ⟨iI,⟨iI,⟨iI,⟨iI,⟨iI,⟨iI,iT⟩⟩⟩⟩⟩⟩ (λ a331 w331 st331=>wp_seq (wp_region_list ?_))
  refine st331.hdW (s:=12) 8 true (λ _=>(PV.root.box rfl)) rfl rfl iI [10,11,13,14,15,16] rfl (λ cs332 hS332 st332=>?_)
  refine st332.seg 2 (
   sc rfl (xLw (sb:=12) (.head _) rfl (hS332 rfl) rfl kT35 (zz rfl) rfl)<|sc rfl (oM rfl (tp rfl))<|.nil) [2,3,4,5,17,88,89] rfl [(10,6),(11,7),(12,8),(13,9),(14,5),(15,10),(16,11)] rfl ⟨iI,⟨iI,⟨iI,⟨iI,⟨iI,⟨iI,iT⟩⟩⟩⟩⟩⟩ (λ a333 w333 st333=>?_)
  obtain⟨v335,p335,h336⟩:=bs h329
  refine st333.cSF (l:=[.tmp 89]) 8 (st333.bkH (sb:=12) (PV.root.box rfl) (.head _) rfl (xg rfl (hS332 rfl)) rfl iI) rfl rfl kN19 (st333.st.has 88 _ rfl) (by simp) (.cons (tp rfl) .nil) (Y1 p335) [2,3,4,5,17] rfl [10,11,13,14,15,16] rfl rfl (by decide) (λ G334 M334 a334 w334 st334=>?_)
  have st337:=st334.gs (Gs':=[oneB none,oneB none,oneB none,oneB none,oneB none,G264,oneB q239_6,oneB q239_7,G334,G261,G285,G287,oneB none,oneB none]) rfl
  refine st337.seg 1 (
   sc rfl (oA rfl (tp rfl))<|.nil) [2,3,4,5,17] rfl [(10,6),(11,7),(13,9),(14,5),(15,10),(16,11)] rfl ⟨iI,⟨iI,⟨iI,⟨iI,⟨iI,iT⟩⟩⟩⟩⟩ (λ a338 w338 st338=>?_)
  refine wpList_nil (za (wp_seq (wp_region_list ?_)))
  refine st338.hdW (s:=13) 9 true (λ _=>(PV.root.box rfl)) rfl rfl iI [10,11,14,15,16] rfl (λ cs339 hS339 st339=>?_)
  refine st339.seg 2 (
   sc rfl (xLw (sb:=13) (.head _) rfl (hS339 rfl) rfl kT45 (zz rfl) rfl)<|sc rfl (oM rfl (tp rfl))<|.nil) [2,3,4,5,17,91,92] rfl [(10,6),(11,7),(13,9),(14,5),(15,10),(16,11)] rfl ⟨iI,⟨iI,⟨iI,⟨iI,⟨iI,iT⟩⟩⟩⟩⟩ (λ a340 w340 st340=>?_)
  obtain⟨v342,p342,h343⟩:=bs h336
  refine st340.cSF (l:=[.tmp 92]) 9 (st340.bkH (sb:=13) (PV.root.box rfl) (.head _) rfl (xg rfl (hS339 rfl)) rfl iI) rfl rfl kN20 (st340.st.has 91 _ rfl) (by simp) (.cons (tp rfl) .nil) (Q1 p342) [2,3,4,5,17] rfl [10,11,14,15,16] rfl rfl (by decide) (λ G341 M341 a341 w341 st341=>?_)
  have st344:=st341.gs (Gs':=[oneB none,oneB none,oneB none,oneB none,oneB none,G264,oneB q239_6,oneB q239_7,G334,G341,G285,G287,oneB none,oneB none]) rfl
  refine st344.seg 1 (
   sc rfl (oA rfl (tp rfl))<|.nil) [2,3,4,5,17] rfl [(10,6),(11,7),(14,5),(15,10),(16,11)] rfl ⟨iI,⟨iI,⟨iI,⟨iI,iT⟩⟩⟩⟩ (λ a345 w345 st345=>?_)
  refine wpList_nil (za (wp_seq (wp_region_list ?_)))
  refine st345.seg 2 (
   sc rfl (oM rfl (tp rfl))<|sc rfl (oM rfl (tp rfl))<|.nil) [2,3,4,5,17,95] rfl [(10,6),(11,7),(15,10),(16,11),(94,5)] rfl ⟨iI,⟨iI,⟨iI,⟨iI,iT⟩⟩⟩⟩ (λ a346 w346 st346=>?_)
  obtain⟨v348,p348,h349⟩:=bs h343
  refine st346.cSF (l:=[.tmp 95]) 5 (st346.bkN (s:=94) rfl iI) rfl rfl kN21 rfl (by simp) (.cons (tp rfl) .nil) (X2 p348) [2,3,4,5,17] rfl [10,11,15,16] rfl rfl (by decide) (λ G347 M347 a347 w347 st347=>?_)
  have st350:=st347.gs (Gs':=[oneB none,oneB none,oneB none,oneB none,oneB none,G347,oneB q239_6,oneB q239_7,G334,G341,G285,G287,oneB none,oneB none]) rfl
  refine st350.seg 1 (
   sc rfl (oA rfl (tp rfl))<|.nil) [2,3,4,5,17] rfl [(10,6),(11,7),(15,10),(16,11)] rfl ⟨iI,⟨iI,⟨iI,iT⟩⟩⟩ (λ a351 w351 st351=>?_)
  refine wpList_nil (za (wp_seq ?_))
  obtain⟨v353,p353,v355,p355,h357⟩:=bsB h349
  refine st351.hdW (s:=15) 10 (cmpI .lss v348.2 (0:Int) == false) (λ hg=>(PV.root.box rfl)) rfl rfl iI [10,11,16] rfl (λ cs352 hS352 st352=>?_)
  refine st352.hdW (s:=16) 11 ((cmpI .lss v348.2 (0:Int)||(!v353)) == false) (λ hg=>(PV.root.box rfl)) rfl rfl iI [10,11,15] rfl (λ cs354 hS354 st354=>?_)
  refine st354.sq (sc rfl (oM rfl (tp rfl))<|sc rfl (oCI rfl (tp rfl) cI)<|sc rfl (oM rfl (tp rfl))<|sg rfl rfl (λ hg=>xLw (sb:=15) (.head _) hg (hS352 hg) rfl kT35 (zz rfl) rfl)<|sg rfl rfl (λ hg=>zM rfl kT35 (tp rfl))<|sg rfl rfl (λ hg=>wR (l:=[.tmp 100,.tmp 101]) st354.ob.sub rfl kN15 (.cons (Yk (sb:=15) st354.ob 10 (PV.root.box rfl) (.head _) hg (xg rfl (hS352 hg)) (zf hg rfl) rfl iI) (.cons (wQ st354.ob.sub (zf hg rfl)) .nil)) (Zv (gh hg p353)) ZH)<|sg rfl rfl (λ hg=>yU rfl (zf hg rfl))<|sc rfl (wP rfl (tp rfl) (zb rfl))<|sc rfl (oM rfl (tp rfl))<|sg rfl rfl (λ hg=>xLw (sb:=16) (.head _) hg (hS354 hg) rfl kT37 (zz rfl) rfl)<|sg rfl rfl (λ hg=>zM rfl kT37 (tp rfl))<|sg rfl rfl (λ hg=>wR (l:=[.tmp 106,.tmp 107]) st354.ob.sub rfl kN16 (.cons (Yk (sb:=16) st354.ob 11 (PV.root.box rfl) (.head _) hg (xg rfl (hS354 hg)) (zf hg rfl) rfl iI) (.cons (wQ st354.ob.sub (zf hg rfl)) .nil)) (Xg (gh hg p355)) ZH)<|sg rfl rfl (λ hg=>yU rfl (zf hg rfl))<|sc rfl (wP rfl (tp rfl) (zb rfl))<|.nil) [2,3,4,5,110] rfl [(10,6),(11,7),(15,10),(16,11)] rfl ⟨iI,⟨iI,⟨iI,iT⟩⟩⟩ (λ a358 w358 st358=>?_)
  have st359:=st358.ncf (s:=15) 10 rfl rfl iI [10,11,16] rfl
  have st360:=st359.ncf (s:=16) 11 rfl rfl iI [10,11,15] rfl
  refine st360.cs (c:=110) rfl h357 (λ c361 h361=>?_) (λ c362 h362=>?_)
  ·
   refine st360.sq0 (sc rfl (oA rfl cB)<|.nil) [8] rfl (λ a363 w363 st363=>wp_ret (zd ?_))
   exact st363.ret rfl rfl h361
  refine wp_skip (za ?_)
  refine st360.sq (sc rfl (oA rfl cI)<|.nil) [2,3,4,5,18] rfl [(10,6),(11,7),(15,10),(16,11)] rfl ⟨iI,⟨iI,⟨iI,iT⟩⟩⟩ (λ a364 w364 st364=>wp_seq (wp_region_list ?_))
  refine st364.hdW (s:=15) 10 true (λ _=>(PV.root.box rfl)) rfl rfl iI [10,11,16] rfl (λ cs365 hS365 st365=>?_)
  refine st365.seg 2 (
   sc rfl (xLw (sb:=15) (.head _) rfl (hS365 rfl) rfl kT35 (zz rfl) rfl)<|sc rfl (oM rfl (tp rfl))<|.nil) [2,3,4,5,18,111,112] rfl [(10,6),(11,7),(15,10),(16,11)] rfl ⟨iI,⟨iI,⟨iI,iT⟩⟩⟩ (λ a366 w366 st366=>?_)
  obtain⟨v368,p368,h369⟩:=bs h362
  refine st366.cSF (l:=[.tmp 112]) 10 (st366.bkH (sb:=15) (PV.root.box rfl) (.head _) rfl (xg rfl (hS365 rfl)) rfl iI) rfl rfl kN19 (st366.st.has 111 _ rfl) (by simp) (.cons (tp rfl) .nil) (Y1 p368) [2,3,4,5,18] rfl [10,11,16] rfl rfl (by decide) (λ G367 M367 a367 w367 st367=>?_)
  have st370:=st367.gs (Gs':=[oneB none,oneB none,oneB none,oneB none,oneB none,G347,oneB q239_6,oneB q239_7,G334,G341,G367,G287,oneB none,oneB none]) rfl
  refine st370.seg 1 (
   sc rfl (oA rfl (tp rfl))<|.nil) [2,3,4,5,18] rfl [(10,6),(11,7),(15,10),(16,11)] rfl ⟨iI,⟨iI,⟨iI,iT⟩⟩⟩ (λ a371 w371 st371=>?_)
  refine wpList_nil (za (wp_seq (wp_region_list ?_)))
  refine st371.hdW (s:=16) 11 true (λ _=>(PV.root.box rfl)) rfl rfl iI [10,11,15] rfl (λ cs372 hS372 st372=>?_)
  refine st372.seg 2 (
   sc rfl (xLw (sb:=16) (.head _) rfl (hS372 rfl) rfl kT37 (zz rfl) rfl)<|sc rfl (oM rfl (tp rfl))<|.nil) [2,3,4,5,18,114,115] rfl [(10,6),(11,7),(15,10),(16,11)] rfl ⟨iI,⟨iI,⟨iI,iT⟩⟩⟩ (λ a373 w373 st373=>?_)
  obtain⟨v375,p375,h376⟩:=bs h369
  refine st373.cSF (l:=[.tmp 115]) 11 (st373.bkH (sb:=16) (PV.root.box rfl) (.head _) rfl (xg rfl (hS372 rfl)) rfl iI) rfl rfl kN22 (st373.st.has 114 _ rfl) (by simp) (.cons (tp rfl) .nil) (Q2 p375) [2,3,4,5,18] rfl [10,11,15] rfl rfl (by decide) (λ G374 M374 a374 w374 st374=>?_)
  have st377:=st374.gs (Gs':=[oneB none,oneB none,oneB none,oneB none,oneB none,G347,oneB q239_6,oneB q239_7,G334,G341,G367,G374,oneB none,oneB none]) rfl
  refine st377.seg 1 (
   sc rfl (oA rfl (tp rfl))<|.nil) [2,3,4,5,18] rfl [(10,6),(11,7),(15,10),(16,11)] rfl ⟨iI,⟨iI,⟨iI,iT⟩⟩⟩ (λ a378 w378 st378=>?_)
  refine wpList_nil (za ?_)
  refine st378.sq (sc rfl (oA rfl cI)<|.nil) [2,3,4,5,18,19] rfl [(10,6),(11,7),(15,10),(16,11)] rfl ⟨iI,⟨iI,⟨iI,iT⟩⟩⟩ (λ a379 w379 st379=>?_)
  obtain⟨v381,p381,h382⟩:=bs h376
  refine st379.hdW (s:=15) 10 true (λ _=>(PV.root.box rfl)) rfl rfl iI [10,11,16] rfl (λ cs380 hS380 st380=>?_)
  refine st380.sq (sc rfl (xLw (sb:=15) (.head _) rfl (hS380 rfl) rfl kT35 (zz rfl) rfl)<|sc rfl (oM rfl (tp rfl))<|sc rfl (wR (l:=[.tmp 117,.tmp 118]) st380.ob.sub rfl kN23 (.cons (Yk (sb:=15) st380.ob 10 (PV.root.box rfl) (.head _) rfl (xg rfl (hS380 rfl)) (tp rfl) rfl iI) (.cons (wQ st380.ob.sub (tp rfl)) .nil)) (Y2 p381) ww)<|sc rfl (oA rfl (tp rfl))<|.nil) [2,3,4,5,18,19] rfl [(10,6),(11,7),(15,10),(16,11)] rfl ⟨iI,⟨iI,⟨iI,iT⟩⟩⟩ (λ a383 w383 st383=>?_)
  have st384:=st383.ncf (s:=15) 10 rfl rfl iI [10,11,16] rfl
  refine wp_seq ?_
  refine st384.sq (sc rfl (oM rfl (tp rfl))<|sc rfl (oCI rfl (tp rfl) cI)<|.nil) [2,3,4,5,18,19,121] rfl [(10,6),(11,7),(15,10),(16,11)] rfl ⟨iI,⟨iI,⟨iI,iT⟩⟩⟩ (λ a385 w385 st385=>?_)
  refine st385.cs (c:=121) rfl h382 (λ c386 h386=>?_) (λ c387 h387=>?_)
  ·
   refine st385.sq0 (sc rfl (oA rfl cB)<|.nil) [8] rfl (λ a388 w388 st388=>wp_ret (zd ?_))
   exact st388.ret rfl rfl h386
  refine wp_skip (za ?_)
  obtain⟨v390,p390,h391⟩:=bs h387
  refine st385.hdW (s:=16) 11 true (λ _=>(PV.root.box rfl)) rfl rfl iI [10,11,15] rfl (λ cs389 hS389 st389=>?_)
  refine st389.sq (sc rfl (xLw (sb:=16) (.head _) rfl (hS389 rfl) rfl kT37 (zz rfl) rfl)<|sc rfl (oM rfl (tp rfl))<|sc rfl (wR (l:=[.tmp 122,.tmp 123]) st389.ob.sub rfl kN24 (.cons (Yk (sb:=16) st389.ob 11 (PV.root.box rfl) (.head _) rfl (xg rfl (hS389 rfl)) (tp rfl) rfl iI) (.cons (wQ st389.ob.sub (tp rfl)) .nil)) (X3 p390) ww)<|sc rfl (oA rfl (tp rfl))<|.nil) [2,3,4,5,18,19] rfl [(10,6),(11,7),(15,10),(16,11)] rfl ⟨iI,⟨iI,⟨iI,iT⟩⟩⟩ (λ a392 w392 st392=>?_)
  have st393:=st392.ncf (s:=16) 11 rfl rfl iI [10,11,15] rfl
  refine wp_seq ?_
  refine st393.sq (sc rfl (oM rfl (tp rfl))<|sc rfl (oCI rfl (tp rfl) cI)<|.nil) [2,3,4,5,18,19,126] rfl [(10,6),(11,7),(15,10),(16,11)] rfl ⟨iI,⟨iI,⟨iI,iT⟩⟩⟩ (λ a394 w394 st394=>?_)
  refine st394.cs (c:=126) rfl h391 (λ c395 h395=>?_) (λ c396 h396=>?_)
  ·
   refine st394.sq0 (sc rfl (oA rfl cB)<|.nil) [8] rfl (λ a397 w397 st397=>wp_ret (zd ?_))
   exact st397.ret rfl rfl h395
  refine wp_skip (za (wp_seq ?_))
  refine st394.sq (sc rfl (oM rfl (tp rfl))<|sc rfl (oM rfl (tp rfl))<|sc rfl (oCI rfl (tp rfl) (tp rfl))<|.nil) [2,3,4,5,18,129] rfl [(10,6),(11,7),(15,10),(16,11)] rfl ⟨iI,⟨iI,⟨iI,iT⟩⟩⟩ (λ a398 w398 st398=>?_)
  refine st398.cs (c:=129) rfl h396 (λ c399 h399=>?_) (λ c400 h400=>?_)
  ·
   refine st398.sq0 (sc rfl (oA rfl cB)<|.nil) [8] rfl (λ a401 w401 st401=>wp_ret (zd ?_))
   exact st401.ret rfl rfl h399
  refine wp_skip (za (wp_seq ?_))
  refine st398.heldF zI (λ c402 w402 hz402 st402=>?_)
  refine st402.tkLp (i:=0) rfl rfl (by decide +kernel) (by decide +kernel) (by decide +kernel) (λ _ _ _ _ h=>h) (st402.fzS (g:=164) rfl) hz402 rfl kT24 (tp rfl) (λ a403 st403=>?_)
  refine st403.tkLp (i:=2) rfl rfl (by decide +kernel) (by decide +kernel) (by decide +kernel) (λ _ _ _ _ h=>h) (st403.fzS (g:=164) rfl) hz402 rfl kT29 (tp rfl) (λ a404 st404=>?_)
  refine st404.tkM (i:=4) (sb:=2) rfl rfl (by decide +kernel) (by decide +kernel) (by decide +kernel) (λ _ _ _ _ h=>h) (st404.fzS (g:=164) rfl) rfl rfl rfl rfl (λ a405 st405=>?_)
  refine st405.tkM (i:=6) (sb:=3) rfl rfl (by decide +kernel) (by decide +kernel) (by decide +kernel) (λ _ _ _ _ h=>h) (st405.fzS (g:=164) rfl) rfl rfl rfl rfl (λ a406 st406=>?_)
  obtain⟨v407,p407,v409,p409,v411,p411,v413,p413,h431⟩:=bsD h400
  refine zm 1 16383 (λ a w=>∃ M1 q622_5 q622_6 q622_7 q622_8 q622_9 q622_10 q622_11 q622_12 q622_13,Sx (Frm.of w0) 164 M M1 [oneB none,oneB none,oneB none,oneB none,oneB none,q622_5,oneB q622_6,oneB q622_7,q622_8,q622_9,q622_10,q622_11,oneB q622_12,oneB q622_13] [(18,dt v375.2),(140,dt v413.2),(164,dfz c402)] [(10,6,dbox q622_6 0 v36.1),(11,7,dbox q622_7 0 v36.2),(20,12,dbox q622_12 0 v413.1),(21,13,dbox q622_13 0 zE),(15,10,dow (Ow.box (owFinder (Ow.row 77 (owDir (Ow.row 9 (Ow.frz (α:=Str))))))) q622_10 ⟨v368.1⟩),(16,11,dow (Ow.box (owSpec (Ow.row 3 (Ow.frz (α:=Int))))) q622_11 ⟨v375.1⟩)] a w) ?_ (λ n622=>?_)
  ·
   rintro a622 w622 ⟨M622,q622_5,q622_6,q622_7,q622_8,q622_9,q622_10,q622_11,q622_12,q622_13,st622⟩
   refine aH1 (i:=14) (by decide +kernel) rfl ?_
   refine st622.store (sb:=21) 13 FldS.id rfl rfl rfl kT37 rfl rfl (tp rfl) rfl [18,164] rfl [10,11,15,16,20] rfl rfl (λ M627 w627 st627=>?_)
   refine aHN (st627.fzS (g:=164) rfl) ?_
   refine aH0 (by decide +kernel) ?_
   refine za (wp_seq ?_)
   obtain⟨v628,p628,v629,p629,h631⟩:=bsB h431
   refine st627.sq (sc rfl (zM rfl kT35 (tp rfl))<|sc rfl (zM rfl kT35 (tp rfl))<|sc rfl (zq (l:=[.tmp 141,.tmp 142]) rfl kN15 (.cons (tp rfl) (.cons (tp rfl) .nil)) (Zv p628))<|sc rfl (yU rfl (tp rfl))<|sc rfl (oM rfl (tp rfl))<|sg rfl rfl (λ hg=>zM rfl kT37 (tp rfl))<|sg rfl rfl (λ hg=>zM rfl kT37 (tp rfl))<|sg rfl rfl (λ hg=>zq (l:=[.tmp 146,.tmp 147]) rfl kN16 (.cons (zf hg rfl) (.cons (zf hg rfl) .nil)) (Xg (gh hg p629)))<|sg rfl rfl (λ hg=>yU rfl (zf hg rfl))<|sc rfl (wP rfl (tp rfl) (zb rfl))<|.nil) [18,150] rfl [(15,10),(16,11)] rfl ⟨iI,iT⟩ (λ a632 w632 st632=>?_)
   refine st632.cs (c:=150) rfl h631 (λ c633 h633=>?_) (λ c634 h634=>?_)
   ·
    refine st632.sq0 (sc rfl (oA rfl cB)<|.nil) [8] rfl (λ a635 w635 st635=>wp_ret (zd ?_))
    exact st635.ret rfl rfl h633
   refine wp_skip (za ?_)
   refine st632.sq (sc rfl (oA rfl cI)<|.nil) [18,19] rfl [(15,10),(16,11)] rfl ⟨iI,iT⟩ (λ a636 w636 st636=>?_)
   obtain⟨v639,p639,h640⟩:=bs h634
   refine st636.nmB (s:=15) 10 rfl rfl iI [16] rfl (λ b637 st637=>?_)
   refine st637.hdW (s:=15) 10 true (λ _=>(PV.root.box rfl)) rfl rfl iI [16] rfl (λ cs638 hS638 st638=>?_)
   refine st638.sq (sc rfl (xLw (sb:=15) (.head _) rfl (hS638 rfl) rfl kT35 (zz rfl) rfl)<|sc rfl (oM rfl (tp rfl))<|sc rfl (wR (l:=[.tmp 151,.tmp 152]) st638.ob.sub rfl kN23 (.cons (Yk (sb:=15) st638.ob 10 (PV.root.box rfl) (.head _) rfl (xg rfl (hS638 rfl)) (tp rfl) rfl iI) (.cons (wQ st638.ob.sub (tp rfl)) .nil)) (Y2 p639) ww)<|sc rfl (oA rfl (tp rfl))<|.nil) [18,19] rfl [(16,11)] rfl iT (λ a641 w641 st641=>wp_seq ?_)
   refine st641.sq (sc rfl (oM rfl (tp rfl))<|sc rfl (oCI rfl (tp rfl) cI)<|.nil) [18,19,155] rfl [(16,11)] rfl iT (λ a642 w642 st642=>?_)
   refine st642.cs (c:=155) rfl h640 (λ c643 h643=>?_) (λ c644 h644=>?_)
   ·
    refine st642.sq0 (sc rfl (oA rfl cB)<|.nil) [8] rfl (λ a645 w645 st645=>wp_ret (zd ?_))
    exact st645.ret rfl rfl h643
   refine wp_skip (za ?_)
   obtain⟨v648,p648,h649⟩:=bs h644
   refine st642.nmB (s:=16) 11 rfl rfl iI [] rfl (λ b646 st646=>?_)
   refine st646.hdW (s:=16) 11 true (λ _=>(PV.root.box rfl)) rfl rfl iI [] rfl (λ cs647 hS647 st647=>?_)
   refine st647.sq0 (sc rfl (xLw (sb:=16) (.head _) rfl (hS647 rfl) rfl kT37 (zz rfl) rfl)<|sc rfl (oM rfl (tp rfl))<|sc rfl (wR (l:=[.tmp 156,.tmp 157]) st647.ob.sub rfl kN24 (.cons (Yk (sb:=16) st647.ob 11 (PV.root.box rfl) (.head _) rfl (xg rfl (hS647 rfl)) (tp rfl) rfl iI) (.cons (wQ st647.ob.sub (tp rfl)) .nil)) (X3 p648) ww)<|sc rfl (oA rfl (tp rfl))<|.nil) [18,19] rfl (λ a650 w650 st650=>wp_seq ?_)
   refine st650.sq0 (sc rfl (oM rfl (tp rfl))<|sc rfl (oCI rfl (tp rfl) cI)<|.nil) [18,19,160] rfl (λ a651 w651 st651=>?_)
   refine st651.cs (c:=160) rfl h649 (λ c652 h652=>?_) (λ c653 h653=>?_)
   ·
    refine st651.sq0 (sc rfl (oA rfl cB)<|.nil) [8] rfl (λ a654 w654 st654=>wp_ret (zd ?_))
    exact st654.ret rfl rfl h652
   refine wp_skip (za (wp_seq ?_))
   refine st651.sq0 (sc rfl (oM rfl (tp rfl))<|sc rfl (oM rfl (tp rfl))<|sc rfl (oCI rfl (tp rfl) (tp rfl))<|.nil) [163] rfl (λ a655 w655 st655=>?_)
   refine st655.cs (c:=163) rfl h653 (λ c656 h656=>?_) (λ c657 h657=>?_)
   ·
    refine st655.sq0 (sc rfl (oA rfl cB)<|.nil) [8] rfl (λ a658 w658 st658=>wp_ret (zd ?_))
    exact st658.ret rfl rfl h656
   refine wp_skip (za ?_)
   refine st655.sq0 (sc rfl (oA rfl cB)<|.nil) [8] rfl (λ a659 w659 st659=>wp_ret ?_)
   exact st659.ret rfl rfl h657
  refine zm 2 8191 (λ a w=>∃ M1 q611_5 q611_6 q611_7 q611_8 q611_9 q611_10 q611_11 q611_12 q611_13,Sx (Frm.of w0) 164 M M1 [oneB none,oneB none,oneB none,oneB none,oneB none,q611_5,oneB q611_6,oneB q611_7,q611_8,q611_9,q611_10,q611_11,oneB q611_12,oneB q611_13] [(18,dt v375.2),(139,dt v413.1),(140,dt v413.2),(164,dfz c402)] [(10,6,dbox q611_6 0 v36.1),(11,7,dbox q611_7 0 v36.2),(20,12,dbox q611_12 0 zo),(21,13,dbox q611_13 0 zE),(15,10,dow (Ow.box (owFinder (Ow.row 77 (owDir (Ow.row 9 (Ow.frz (α:=Str))))))) q611_10 ⟨v368.1⟩),(16,11,dow (Ow.box (owSpec (Ow.row 3 (Ow.frz (α:=Int))))) q611_11 ⟨v375.1⟩)] a w) ?_ (λ n611=>?_)
  ·
   rintro a611 w611 ⟨M611,q611_5,q611_6,q611_7,q611_8,q611_9,q611_10,q611_11,q611_12,q611_13,st611⟩
   refine aH1 (i:=13) (by decide +kernel) rfl ?_
   refine st611.store (sb:=20) 12 FldS.id rfl rfl rfl kT35 rfl rfl (tp rfl) rfl [18,140,164] rfl [10,11,15,16,21] rfl rfl (λ M661 w661 st661=>?_)
   exact aHe n622 (st661.fzS (g:=164) rfl)
  refine zm 2 15359 (λ a w=>∃ M1 q618_5 q618_6 q618_7 q618_8 q618_9 q618_10 q618_11 q618_12 q618_13,Sx (Frm.of w0) 164 M M1 [oneB none,oneB none,oneB none,oneB none,oneB none,q618_5,oneB q618_6,oneB q618_7,q618_8,q618_9,q618_10,q618_11,oneB q618_12,oneB q618_13] [(18,dt v375.2),(130,dtup [dt v413.1,dt v413.2]),(164,dfz c402)] [(10,6,dbox q618_6 0 v36.1),(11,7,dbox q618_7 0 v36.2),(20,12,dbox q618_12 0 v413.1),(21,13,dbox q618_13 0 zE),(15,10,dow (Ow.box (owFinder (Ow.row 77 (owDir (Ow.row 9 (Ow.frz (α:=Str))))))) q618_10 ⟨v368.1⟩),(16,11,dow (Ow.box (owSpec (Ow.row 3 (Ow.frz (α:=Int))))) q618_11 ⟨v375.1⟩)] a w) ?_ (λ n618=>?_)
  ·
   rintro a618 w618 ⟨M618,q618_5,q618_6,q618_7,q618_8,q618_9,q618_10,q618_11,q618_12,q618_13,st618⟩
   refine aH1 (i:=10) (by decide +kernel) rfl ?_
   refine st618.seg 1 (sc rfl (xExt (i:=1) rfl (tp rfl) rfl)<|.nil) [18,140,164] rfl [(10,6),(11,7),(15,10),(16,11),(20,12),(21,13)] rfl ⟨iI,⟨iI,⟨iI,⟨iI,⟨iI,iT⟩⟩⟩⟩⟩ (λ a662 w662 st662=>?_)
   exact aHe n622 (st662.fzS (g:=164) rfl)
  refine zm 3 4095 (λ a w=>∃ M1 q583_5 q583_6 q583_7 q583_8 q583_9 q583_10 q583_11 q583_12,Sx (Frm.of w0) 164 M M1 [oneB none,oneB none,oneB none,oneB none,oneB none,q583_5,oneB q583_6,oneB q583_7,q583_8,q583_9,q583_10,q583_11,oneB q583_12,oneB none] [(18,dt v375.2),(139,dt v413.1),(140,dt v413.2),(164,dfz c402)] [(10,6,dbox q583_6 0 v36.1),(11,7,dbox q583_7 0 v36.2),(20,12,dbox q583_12 0 zo),(15,10,dow (Ow.box (owFinder (Ow.row 77 (owDir (Ow.row 9 (Ow.frz (α:=Str))))))) q583_10 ⟨v368.1⟩),(16,11,dow (Ow.box (owSpec (Ow.row 3 (Ow.frz (α:=Int))))) q583_11 ⟨v375.1⟩)] a w) ?_ (λ n583=>?_)
  ·
   rintro a583 w583 ⟨M583,q583_5,q583_6,q583_7,q583_8,q583_9,q583_10,q583_11,q583_12,st583⟩
   refine aH1 (i:=12) (by decide +kernel) rfl ?_
   refine st583.alloc 13 rfl rfl kZ37 zS (by simp) [18,139,140,164] rfl [10,11,15,16,20] rfl rfl (λ b664 M664 a664 w664 st664=>?_)
   have st665:=st664.gs (Gs':=[oneB none,oneB none,oneB none,oneB none,oneB none,q583_5,oneB q583_6,oneB q583_7,q583_8,q583_9,q583_10,q583_11,oneB q583_12,oneB (some b664)]) rfl
   exact aHe n611 (st665.fzS (g:=164) rfl)
  refine zm 3 6143 (λ a w=>∃ M1 q587_5 q587_6 q587_7 q587_8 q587_9 q587_10 q587_11 q587_13,Sx (Frm.of w0) 164 M M1 [oneB none,oneB none,oneB none,oneB none,oneB none,q587_5,oneB q587_6,oneB q587_7,q587_8,q587_9,q587_10,q587_11,oneB none,oneB q587_13] [(18,dt v375.2),(139,dt v413.1),(140,dt v413.2),(164,dfz c402)] [(10,6,dbox q587_6 0 v36.1),(11,7,dbox q587_7 0 v36.2),(21,13,dbox q587_13 0 zE),(15,10,dow (Ow.box (owFinder (Ow.row 77 (owDir (Ow.row 9 (Ow.frz (α:=Str))))))) q587_10 ⟨v368.1⟩),(16,11,dow (Ow.box (owSpec (Ow.row 3 (Ow.frz (α:=Int))))) q587_11 ⟨v375.1⟩)] a w) ?_ (λ n587=>?_)
  ·
   rintro a587 w587 ⟨M587,q587_5,q587_6,q587_7,q587_8,q587_9,q587_10,q587_11,q587_13,st587⟩
   refine aH1 (i:=11) (by decide +kernel) rfl ?_
   refine st587.alloc 12 rfl rfl kZ35 zU (by simp) [18,139,140,164] rfl [10,11,15,16,21] rfl rfl (λ b667 M667 a667 w667 st667=>?_)
   have st668:=st667.gs (Gs':=[oneB none,oneB none,oneB none,oneB none,oneB none,q587_5,oneB q587_6,oneB q587_7,q587_8,q587_9,q587_10,q587_11,oneB (some b667),oneB q587_13]) rfl
   exact aHe n611 (st668.fzS (g:=164) rfl)
  refine zm 3 7167 (λ a w=>∃ M1 q592_5 q592_6 q592_7 q592_8 q592_9 q592_10 q592_11 q592_12 q592_13,Sx (Frm.of w0) 164 M M1 [oneB none,oneB none,oneB none,oneB none,oneB none,q592_5,oneB q592_6,oneB q592_7,q592_8,q592_9,q592_10,q592_11,oneB q592_12,oneB q592_13] [(18,dt v375.2),(139,dt v413.1),(130,dtup [dt v413.1,dt v413.2]),(164,dfz c402)] [(10,6,dbox q592_6 0 v36.1),(11,7,dbox q592_7 0 v36.2),(20,12,dbox q592_12 0 zo),(21,13,dbox q592_13 0 zE),(15,10,dow (Ow.box (owFinder (Ow.row 77 (owDir (Ow.row 9 (Ow.frz (α:=Str))))))) q592_10 ⟨v368.1⟩),(16,11,dow (Ow.box (owSpec (Ow.row 3 (Ow.frz (α:=Int))))) q592_11 ⟨v375.1⟩)] a w) ?_ (λ n592=>?_)
  ·
   rintro a592 w592 ⟨M592,q592_5,q592_6,q592_7,q592_8,q592_9,q592_10,q592_11,q592_12,q592_13,st592⟩
   refine aH2 (i:=10) (j:=13) (by decide +kernel) rfl rfl ?_ ?_
   ·
    refine st592.seg 1 (sc rfl (xExt (i:=1) rfl (tp rfl) rfl)<|.nil) [18,139,140,164] rfl [(10,6),(11,7),(15,10),(16,11),(20,12),(21,13)] rfl ⟨iI,⟨iI,⟨iI,⟨iI,⟨iI,iT⟩⟩⟩⟩⟩ (λ a669 w669 st669=>?_)
    exact aHe n611 (st669.fzS (g:=164) rfl)
   ·
    refine st592.store (sb:=20) 12 FldS.id rfl rfl rfl kT35 rfl rfl (tp rfl) rfl [18,130,164] rfl [10,11,15,16,21] rfl rfl (λ M671 w671 st671=>?_)
    exact aHe n618 (st671.fzS (g:=164) rfl)
  refine zm 3 7679 (λ a w=>∃ M1 q601_5 q601_6 q601_7 q601_8 q601_9 q601_10 q601_11 q601_12 q601_13,Sx (Frm.of w0) 164 M M1 [oneB none,oneB none,oneB none,oneB none,oneB none,q601_5,oneB q601_6,oneB q601_7,q601_8,q601_9,q601_10,q601_11,oneB q601_12,oneB q601_13] [(18,dt v375.2),(140,dt v413.2),(130,dtup [dt v413.1,dt v413.2]),(164,dfz c402)] [(10,6,dbox q601_6 0 v36.1),(11,7,dbox q601_7 0 v36.2),(20,12,dbox q601_12 0 zo),(21,13,dbox q601_13 0 zE),(15,10,dow (Ow.box (owFinder (Ow.row 77 (owDir (Ow.row 9 (Ow.frz (α:=Str))))))) q601_10 ⟨v368.1⟩),(16,11,dow (Ow.box (owSpec (Ow.row 3 (Ow.frz (α:=Int))))) q601_11 ⟨v375.1⟩)] a w) ?_ (λ n601=>?_)
  ·
   rintro a601 w601 ⟨M601,q601_5,q601_6,q601_7,q601_8,q601_9,q601_10,q601_11,q601_12,q601_13,st601⟩
   refine aH1 (i:=9) (by decide +kernel) rfl ?_
   refine st601.seg 1 (sc rfl (xExt (i:=0) rfl (tp rfl) rfl)<|.nil) [18,139,140,164] rfl [(10,6),(11,7),(15,10),(16,11),(20,12),(21,13)] rfl ⟨iI,⟨iI,⟨iI,⟨iI,⟨iI,iT⟩⟩⟩⟩⟩ (λ a672 w672 st672=>?_)
   exact aHe n611 (st672.fzS (g:=164) rfl)
  refine zm 4 2047 (λ a w=>∃ M1 q550_5 q550_6 q550_7 q550_8 q550_9 q550_10 q550_11,Sx (Frm.of w0) 164 M M1 [oneB none,oneB none,oneB none,oneB none,oneB none,q550_5,oneB q550_6,oneB q550_7,q550_8,q550_9,q550_10,q550_11,oneB none,oneB none] [(18,dt v375.2),(139,dt v413.1),(140,dt v413.2),(164,dfz c402)] [(10,6,dbox q550_6 0 v36.1),(11,7,dbox q550_7 0 v36.2),(15,10,dow (Ow.box (owFinder (Ow.row 77 (owDir (Ow.row 9 (Ow.frz (α:=Str))))))) q550_10 ⟨v368.1⟩),(16,11,dow (Ow.box (owSpec (Ow.row 3 (Ow.frz (α:=Int))))) q550_11 ⟨v375.1⟩)] a w) ?_ (λ n550=>?_)
  ·
   rintro a550 w550 ⟨M550,q550_5,q550_6,q550_7,q550_8,q550_9,q550_10,q550_11,st550⟩
   refine aH2 (i:=11) (j:=12) (by decide +kernel) rfl rfl ?_ ?_
   ·
    refine st550.alloc 12 rfl rfl kZ35 zU (by simp) [18,139,140,164] rfl [10,11,15,16] rfl rfl (λ b674 M674 a674 w674 st674=>?_)
    have st675:=st674.gs (Gs':=[oneB none,oneB none,oneB none,oneB none,oneB none,q550_5,oneB q550_6,oneB q550_7,q550_8,q550_9,q550_10,q550_11,oneB (some b674),oneB none]) rfl
    exact aHe n583 (st675.fzS (g:=164) rfl)
   ·
    refine st550.alloc 13 rfl rfl kZ37 zS (by simp) [18,139,140,164] rfl [10,11,15,16] rfl rfl (λ b677 M677 a677 w677 st677=>?_)
    have st678:=st677.gs (Gs':=[oneB none,oneB none,oneB none,oneB none,oneB none,q550_5,oneB q550_6,oneB q550_7,q550_8,q550_9,q550_10,q550_11,oneB none,oneB (some b677)]) rfl
    exact aHe n587 (st678.fzS (g:=164) rfl)
  refine zm 4 3071 (λ a w=>∃ M1 q554_5 q554_6 q554_7 q554_8 q554_9 q554_10 q554_11 q554_12,Sx (Frm.of w0) 164 M M1 [oneB none,oneB none,oneB none,oneB none,oneB none,q554_5,oneB q554_6,oneB q554_7,q554_8,q554_9,q554_10,q554_11,oneB q554_12,oneB none] [(18,dt v375.2),(139,dt v413.1),(130,dtup [dt v413.1,dt v413.2]),(164,dfz c402)] [(10,6,dbox q554_6 0 v36.1),(11,7,dbox q554_7 0 v36.2),(20,12,dbox q554_12 0 zo),(15,10,dow (Ow.box (owFinder (Ow.row 77 (owDir (Ow.row 9 (Ow.frz (α:=Str))))))) q554_10 ⟨v368.1⟩),(16,11,dow (Ow.box (owSpec (Ow.row 3 (Ow.frz (α:=Int))))) q554_11 ⟨v375.1⟩)] a w) ?_ (λ n554=>?_)
  ·
   rintro a554 w554 ⟨M554,q554_5,q554_6,q554_7,q554_8,q554_9,q554_10,q554_11,q554_12,st554⟩
   refine aH2 (i:=10) (j:=12) (by decide +kernel) rfl rfl ?_ ?_
   ·
    refine st554.seg 1 (sc rfl (xExt (i:=1) rfl (tp rfl) rfl)<|.nil) [18,139,140,164] rfl [(10,6),(11,7),(15,10),(16,11),(20,12)] rfl ⟨iI,⟨iI,⟨iI,⟨iI,iT⟩⟩⟩⟩ (λ a679 w679 st679=>?_)
    exact aHe n583 (st679.fzS (g:=164) rfl)
   ·
    refine st554.alloc 13 rfl rfl kZ37 zS (by simp) [18,130,139,164] rfl [10,11,15,16,20] rfl rfl (λ b681 M681 a681 w681 st681=>?_)
    have st682:=st681.gs (Gs':=[oneB none,oneB none,oneB none,oneB none,oneB none,q554_5,oneB q554_6,oneB q554_7,q554_8,q554_9,q554_10,q554_11,oneB q554_12,oneB (some b681)]) rfl
    exact aHe n592 (st682.fzS (g:=164) rfl)
  refine zm 4 5119 (λ a w=>∃ M1 q558_5 q558_6 q558_7 q558_8 q558_9 q558_10 q558_11 q558_13,Sx (Frm.of w0) 164 M M1 [oneB none,oneB none,oneB none,oneB none,oneB none,q558_5,oneB q558_6,oneB q558_7,q558_8,q558_9,q558_10,q558_11,oneB none,oneB q558_13] [(18,dt v375.2),(139,dt v413.1),(130,dtup [dt v413.1,dt v413.2]),(164,dfz c402)] [(10,6,dbox q558_6 0 v36.1),(11,7,dbox q558_7 0 v36.2),(21,13,dbox q558_13 0 zE),(15,10,dow (Ow.box (owFinder (Ow.row 77 (owDir (Ow.row 9 (Ow.frz (α:=Str))))))) q558_10 ⟨v368.1⟩),(16,11,dow (Ow.box (owSpec (Ow.row 3 (Ow.frz (α:=Int))))) q558_11 ⟨v375.1⟩)] a w) ?_ (λ n558=>?_)
  ·
   rintro a558 w558 ⟨M558,q558_5,q558_6,q558_7,q558_8,q558_9,q558_10,q558_11,q558_13,st558⟩
   refine aH2 (i:=10) (j:=11) (by decide +kernel) rfl rfl ?_ ?_
   ·
    refine st558.seg 1 (sc rfl (xExt (i:=1) rfl (tp rfl) rfl)<|.nil) [18,139,140,164] rfl [(10,6),(11,7),(15,10),(16,11),(21,13)] rfl ⟨iI,⟨iI,⟨iI,⟨iI,iT⟩⟩⟩⟩ (λ a683 w683 st683=>?_)
    exact aHe n587 (st683.fzS (g:=164) rfl)
   ·
    refine st558.alloc 12 rfl rfl kZ35 zU (by simp) [18,130,139,164] rfl [10,11,15,16,21] rfl rfl (λ b685 M685 a685 w685 st685=>?_)
    have st686:=st685.gs (Gs':=[oneB none,oneB none,oneB none,oneB none,oneB none,q558_5,oneB q558_6,oneB q558_7,q558_8,q558_9,q558_10,q558_11,oneB (some b685),oneB q558_13]) rfl
    exact aHe n592 (st686.fzS (g:=164) rfl)
  refine zm 4 3583 (λ a w=>∃ M1 q563_5 q563_6 q563_7 q563_8 q563_9 q563_10 q563_11 q563_12,Sx (Frm.of w0) 164 M M1 [oneB none,oneB none,oneB none,oneB none,oneB none,q563_5,oneB q563_6,oneB q563_7,q563_8,q563_9,q563_10,q563_11,oneB q563_12,oneB none] [(18,dt v375.2),(140,dt v413.2),(130,dtup [dt v413.1,dt v413.2]),(164,dfz c402)] [(10,6,dbox q563_6 0 v36.1),(11,7,dbox q563_7 0 v36.2),(20,12,dbox q563_12 0 zo),(15,10,dow (Ow.box (owFinder (Ow.row 77 (owDir (Ow.row 9 (Ow.frz (α:=Str))))))) q563_10 ⟨v368.1⟩),(16,11,dow (Ow.box (owSpec (Ow.row 3 (Ow.frz (α:=Int))))) q563_11 ⟨v375.1⟩)] a w) ?_ (λ n563=>?_)
  ·
   rintro a563 w563 ⟨M563,q563_5,q563_6,q563_7,q563_8,q563_9,q563_10,q563_11,q563_12,st563⟩
   refine aH2 (i:=9) (j:=12) (by decide +kernel) rfl rfl ?_ ?_
   ·
    refine st563.seg 1 (sc rfl (xExt (i:=0) rfl (tp rfl) rfl)<|.nil) [18,139,140,164] rfl [(10,6),(11,7),(15,10),(16,11),(20,12)] rfl ⟨iI,⟨iI,⟨iI,⟨iI,iT⟩⟩⟩⟩ (λ a687 w687 st687=>?_)
    exact aHe n583 (st687.fzS (g:=164) rfl)
   ·
    refine st563.alloc 13 rfl rfl kZ37 zS (by simp) [18,130,140,164] rfl [10,11,15,16,20] rfl rfl (λ b689 M689 a689 w689 st689=>?_)
    have st690:=st689.gs (Gs':=[oneB none,oneB none,oneB none,oneB none,oneB none,q563_5,oneB q563_6,oneB q563_7,q563_8,q563_9,q563_10,q563_11,oneB q563_12,oneB (some b689)]) rfl
    exact aHe n601 (st690.fzS (g:=164) rfl)
  refine zm 4 5631 (λ a w=>∃ M1 q567_5 q567_6 q567_7 q567_8 q567_9 q567_10 q567_11 q567_13,Sx (Frm.of w0) 164 M M1 [oneB none,oneB none,oneB none,oneB none,oneB none,q567_5,oneB q567_6,oneB q567_7,q567_8,q567_9,q567_10,q567_11,oneB none,oneB q567_13] [(18,dt v375.2),(140,dt v413.2),(130,dtup [dt v413.1,dt v413.2]),(164,dfz c402)] [(10,6,dbox q567_6 0 v36.1),(11,7,dbox q567_7 0 v36.2),(21,13,dbox q567_13 0 zE),(15,10,dow (Ow.box (owFinder (Ow.row 77 (owDir (Ow.row 9 (Ow.frz (α:=Str))))))) q567_10 ⟨v368.1⟩),(16,11,dow (Ow.box (owSpec (Ow.row 3 (Ow.frz (α:=Int))))) q567_11 ⟨v375.1⟩)] a w) ?_ (λ n567=>?_)
  ·
   rintro a567 w567 ⟨M567,q567_5,q567_6,q567_7,q567_8,q567_9,q567_10,q567_11,q567_13,st567⟩
   refine aH2 (i:=9) (j:=11) (by decide +kernel) rfl rfl ?_ ?_
   ·
    refine st567.seg 1 (sc rfl (xExt (i:=0) rfl (tp rfl) rfl)<|.nil) [18,139,140,164] rfl [(10,6),(11,7),(15,10),(16,11),(21,13)] rfl ⟨iI,⟨iI,⟨iI,⟨iI,iT⟩⟩⟩⟩ (λ a691 w691 st691=>?_)
    exact aHe n587 (st691.fzS (g:=164) rfl)
   ·
    refine st567.alloc 12 rfl rfl kZ35 zU (by simp) [18,130,140,164] rfl [10,11,15,16,21] rfl rfl (λ b693 M693 a693 w693 st693=>?_)
    have st694:=st693.gs (Gs':=[oneB none,oneB none,oneB none,oneB none,oneB none,q567_5,oneB q567_6,oneB q567_7,q567_8,q567_9,q567_10,q567_11,oneB (some b693),oneB q567_13]) rfl
    exact aHe n601 (st694.fzS (g:=164) rfl)
  refine zm 4 6655 (λ a w=>∃ M1 q573_5 q573_6 q573_7 q573_8 q573_9 q573_10 q573_11 q573_12 q573_13,Sx (Frm.of w0) 164 M M1 [oneB none,oneB none,oneB none,oneB none,oneB none,q573_5,oneB q573_6,oneB q573_7,q573_8,q573_9,q573_10,q573_11,oneB q573_12,oneB q573_13] [(18,dt v375.2),(130,dtup [dt v413.1,dt v413.2]),(164,dfz c402)] [(10,6,dbox q573_6 0 v36.1),(11,7,dbox q573_7 0 v36.2),(20,12,dbox q573_12 0 zo),(21,13,dbox q573_13 0 zE),(15,10,dow (Ow.box (owFinder (Ow.row 77 (owDir (Ow.row 9 (Ow.frz (α:=Str))))))) q573_10 ⟨v368.1⟩),(16,11,dow (Ow.box (owSpec (Ow.row 3 (Ow.frz (α:=Int))))) q573_11 ⟨v375.1⟩)] a w) ?_ (λ n573=>?_)
  ·
   rintro a573 w573 ⟨M573,q573_5,q573_6,q573_7,q573_8,q573_9,q573_10,q573_11,q573_12,q573_13,st573⟩
   refine aH2 (i:=9) (j:=10) (by decide +kernel) rfl rfl ?_ ?_
   ·
    refine st573.seg 1 (sc rfl (xExt (i:=0) rfl (tp rfl) rfl)<|.nil) [18,130,139,164] rfl [(10,6),(11,7),(15,10),(16,11),(20,12),(21,13)] rfl ⟨iI,⟨iI,⟨iI,⟨iI,⟨iI,iT⟩⟩⟩⟩⟩ (λ a695 w695 st695=>?_)
    exact aHe n592 (st695.fzS (g:=164) rfl)
   ·
    refine st573.seg 1 (sc rfl (xExt (i:=1) rfl (tp rfl) rfl)<|.nil) [18,130,140,164] rfl [(10,6),(11,7),(15,10),(16,11),(20,12),(21,13)] rfl ⟨iI,⟨iI,⟨iI,⟨iI,⟨iI,iT⟩⟩⟩⟩⟩ (λ a696 w696 st696=>?_)
    exact aHe n601 (st696.fzS (g:=164) rfl)
  refine zm 5 1023 (λ a w=>∃ M1 q528_5 q528_6 q528_7 q528_8 q528_9 q528_10 q528_11,Sx (Frm.of w0) 164 M M1 [oneB none,oneB none,oneB none,oneB none,oneB none,q528_5,oneB q528_6,oneB q528_7,q528_8,q528_9,q528_10,q528_11,oneB none,oneB none] [(18,dt v375.2),(139,dt v413.1),(130,dtup [dt v413.1,dt v413.2]),(164,dfz c402)] [(10,6,dbox q528_6 0 v36.1),(11,7,dbox q528_7 0 v36.2),(15,10,dow (Ow.box (owFinder (Ow.row 77 (owDir (Ow.row 9 (Ow.frz (α:=Str))))))) q528_10 ⟨v368.1⟩),(16,11,dow (Ow.box (owSpec (Ow.row 3 (Ow.frz (α:=Int))))) q528_11 ⟨v375.1⟩)] a w) ?_ (λ n528=>?_)
  ·
   rintro a528 w528 ⟨M528,q528_5,q528_6,q528_7,q528_8,q528_9,q528_10,q528_11,st528⟩
   refine aH3 (i:=10) (j:=11) (k:=12) (by decide +kernel) rfl rfl rfl ?_ ?_ ?_
   ·
    refine st528.seg 1 (sc rfl (xExt (i:=1) rfl (tp rfl) rfl)<|.nil) [18,139,140,164] rfl [(10,6),(11,7),(15,10),(16,11)] rfl ⟨iI,⟨iI,⟨iI,iT⟩⟩⟩ (λ a697 w697 st697=>?_)
    exact aHe n550 (st697.fzS (g:=164) rfl)
   ·
    refine st528.alloc 12 rfl rfl kZ35 zU (by simp) [18,130,139,164] rfl [10,11,15,16] rfl rfl (λ b699 M699 a699 w699 st699=>?_)
    have st700:=st699.gs (Gs':=[oneB none,oneB none,oneB none,oneB none,oneB none,q528_5,oneB q528_6,oneB q528_7,q528_8,q528_9,q528_10,q528_11,oneB (some b699),oneB none]) rfl
    exact aHe n554 (st700.fzS (g:=164) rfl)
   ·
    refine st528.alloc 13 rfl rfl kZ37 zS (by simp) [18,130,139,164] rfl [10,11,15,16] rfl rfl (λ b702 M702 a702 w702 st702=>?_)
    have st703:=st702.gs (Gs':=[oneB none,oneB none,oneB none,oneB none,oneB none,q528_5,oneB q528_6,oneB q528_7,q528_8,q528_9,q528_10,q528_11,oneB none,oneB (some b702)]) rfl
    exact aHe n558 (st703.fzS (g:=164) rfl)
  refine zm 5 1535 (λ a w=>∃ M1 q530_5 q530_6 q530_7 q530_8 q530_9 q530_10 q530_11,Sx (Frm.of w0) 164 M M1 [oneB none,oneB none,oneB none,oneB none,oneB none,q530_5,oneB q530_6,oneB q530_7,q530_8,q530_9,q530_10,q530_11,oneB none,oneB none] [(18,dt v375.2),(140,dt v413.2),(130,dtup [dt v413.1,dt v413.2]),(164,dfz c402)] [(10,6,dbox q530_6 0 v36.1),(11,7,dbox q530_7 0 v36.2),(15,10,dow (Ow.box (owFinder (Ow.row 77 (owDir (Ow.row 9 (Ow.frz (α:=Str))))))) q530_10 ⟨v368.1⟩),(16,11,dow (Ow.box (owSpec (Ow.row 3 (Ow.frz (α:=Int))))) q530_11 ⟨v375.1⟩)] a w) ?_ (λ n530=>?_)
  ·
   rintro a530 w530 ⟨M530,q530_5,q530_6,q530_7,q530_8,q530_9,q530_10,q530_11,st530⟩
   refine aH3 (i:=9) (j:=11) (k:=12) (by decide +kernel) rfl rfl rfl ?_ ?_ ?_
   ·
    refine st530.seg 1 (sc rfl (xExt (i:=0) rfl (tp rfl) rfl)<|.nil) [18,139,140,164] rfl [(10,6),(11,7),(15,10),(16,11)] rfl ⟨iI,⟨iI,⟨iI,iT⟩⟩⟩ (λ a704 w704 st704=>?_)
    exact aHe n550 (st704.fzS (g:=164) rfl)
   ·
    refine st530.alloc 12 rfl rfl kZ35 zU (by simp) [18,130,140,164] rfl [10,11,15,16] rfl rfl (λ b706 M706 a706 w706 st706=>?_)
    have st707:=st706.gs (Gs':=[oneB none,oneB none,oneB none,oneB none,oneB none,q530_5,oneB q530_6,oneB q530_7,q530_8,q530_9,q530_10,q530_11,oneB (some b706),oneB none]) rfl
    exact aHe n563 (st707.fzS (g:=164) rfl)
   ·
    refine st530.alloc 13 rfl rfl kZ37 zS (by simp) [18,130,140,164] rfl [10,11,15,16] rfl rfl (λ b709 M709 a709 w709 st709=>?_)
    have st710:=st709.gs (Gs':=[oneB none,oneB none,oneB none,oneB none,oneB none,q530_5,oneB q530_6,oneB q530_7,q530_8,q530_9,q530_10,q530_11,oneB none,oneB (some b709)]) rfl
    exact aHe n567 (st710.fzS (g:=164) rfl)
  refine zm 5 2559 (λ a w=>∃ M1 q534_5 q534_6 q534_7 q534_8 q534_9 q534_10 q534_11 q534_12,Sx (Frm.of w0) 164 M M1 [oneB none,oneB none,oneB none,oneB none,oneB none,q534_5,oneB q534_6,oneB q534_7,q534_8,q534_9,q534_10,q534_11,oneB q534_12,oneB none] [(18,dt v375.2),(130,dtup [dt v413.1,dt v413.2]),(164,dfz c402)] [(10,6,dbox q534_6 0 v36.1),(11,7,dbox q534_7 0 v36.2),(20,12,dbox q534_12 0 zo),(15,10,dow (Ow.box (owFinder (Ow.row 77 (owDir (Ow.row 9 (Ow.frz (α:=Str))))))) q534_10 ⟨v368.1⟩),(16,11,dow (Ow.box (owSpec (Ow.row 3 (Ow.frz (α:=Int))))) q534_11 ⟨v375.1⟩)] a w) ?_ (λ n534=>?_)
  ·
   rintro a534 w534 ⟨M534,q534_5,q534_6,q534_7,q534_8,q534_9,q534_10,q534_11,q534_12,st534⟩
   refine aH3 (i:=9) (j:=10) (k:=12) (by decide +kernel) rfl rfl rfl ?_ ?_ ?_
   ·
    refine st534.seg 1 (sc rfl (xExt (i:=0) rfl (tp rfl) rfl)<|.nil) [18,130,139,164] rfl [(10,6),(11,7),(15,10),(16,11),(20,12)] rfl ⟨iI,⟨iI,⟨iI,⟨iI,iT⟩⟩⟩⟩ (λ a711 w711 st711=>?_)
    exact aHe n554 (st711.fzS (g:=164) rfl)
   ·
    refine st534.seg 1 (sc rfl (xExt (i:=1) rfl (tp rfl) rfl)<|.nil) [18,130,140,164] rfl [(10,6),(11,7),(15,10),(16,11),(20,12)] rfl ⟨iI,⟨iI,⟨iI,⟨iI,iT⟩⟩⟩⟩ (λ a712 w712 st712=>?_)
    exact aHe n563 (st712.fzS (g:=164) rfl)
   ·
    refine st534.alloc 13 rfl rfl kZ37 zS (by simp) [18,130,164] rfl [10,11,15,16,20] rfl rfl (λ b714 M714 a714 w714 st714=>?_)
    have st715:=st714.gs (Gs':=[oneB none,oneB none,oneB none,oneB none,oneB none,q534_5,oneB q534_6,oneB q534_7,q534_8,q534_9,q534_10,q534_11,oneB q534_12,oneB (some b714)]) rfl
    exact aHe n573 (st715.fzS (g:=164) rfl)
  refine zm 5 4607 (λ a w=>∃ M1 q538_5 q538_6 q538_7 q538_8 q538_9 q538_10 q538_11 q538_13,Sx (Frm.of w0) 164 M M1 [oneB none,oneB none,oneB none,oneB none,oneB none,q538_5,oneB q538_6,oneB q538_7,q538_8,q538_9,q538_10,q538_11,oneB none,oneB q538_13] [(18,dt v375.2),(130,dtup [dt v413.1,dt v413.2]),(164,dfz c402)] [(10,6,dbox q538_6 0 v36.1),(11,7,dbox q538_7 0 v36.2),(21,13,dbox q538_13 0 zE),(15,10,dow (Ow.box (owFinder (Ow.row 77 (owDir (Ow.row 9 (Ow.frz (α:=Str))))))) q538_10 ⟨v368.1⟩),(16,11,dow (Ow.box (owSpec (Ow.row 3 (Ow.frz (α:=Int))))) q538_11 ⟨v375.1⟩)] a w) ?_ (λ n538=>?_)
  ·
   rintro a538 w538 ⟨M538,q538_5,q538_6,q538_7,q538_8,q538_9,q538_10,q538_11,q538_13,st538⟩
   refine aH3 (i:=9) (j:=10) (k:=11) (by decide +kernel) rfl rfl rfl ?_ ?_ ?_
   ·
    refine st538.seg 1 (sc rfl (xExt (i:=0) rfl (tp rfl) rfl)<|.nil) [18,130,139,164] rfl [(10,6),(11,7),(15,10),(16,11),(21,13)] rfl ⟨iI,⟨iI,⟨iI,⟨iI,iT⟩⟩⟩⟩ (λ a716 w716 st716=>?_)
    exact aHe n558 (st716.fzS (g:=164) rfl)
   ·
    refine st538.seg 1 (sc rfl (xExt (i:=1) rfl (tp rfl) rfl)<|.nil) [18,130,140,164] rfl [(10,6),(11,7),(15,10),(16,11),(21,13)] rfl ⟨iI,⟨iI,⟨iI,⟨iI,iT⟩⟩⟩⟩ (λ a717 w717 st717=>?_)
    exact aHe n567 (st717.fzS (g:=164) rfl)
   ·
    refine st538.alloc 12 rfl rfl kZ35 zU (by simp) [18,130,164] rfl [10,11,15,16,21] rfl rfl (λ b719 M719 a719 w719 st719=>?_)
    have st720:=st719.gs (Gs':=[oneB none,oneB none,oneB none,oneB none,oneB none,q538_5,oneB q538_6,oneB q538_7,q538_8,q538_9,q538_10,q538_11,oneB (some b719),oneB q538_13]) rfl
    exact aHe n573 (st720.fzS (g:=164) rfl)
  refine zm 5 6399 (λ a w=>∃ M1 q543_5 q543_6 q543_7 q543_8 q543_9 q543_10 q543_11 q543_12 q543_13,Sx (Frm.of w0) 164 M M1 [oneB none,oneB none,oneB none,oneB none,oneB none,q543_5,oneB q543_6,oneB q543_7,q543_8,q543_9,q543_10,q543_11,oneB q543_12,oneB q543_13] [(18,dt v375.2),(138,dtup [dt v413.1,dt v413.2]),(164,dfz c402)] [(10,6,dbox q543_6 0 v36.1),(11,7,dbox q543_7 0 v36.2),(20,12,dbox q543_12 0 zo),(21,13,dbox q543_13 0 zE),(15,10,dow (Ow.box (owFinder (Ow.row 77 (owDir (Ow.row 9 (Ow.frz (α:=Str))))))) q543_10 ⟨v368.1⟩),(16,11,dow (Ow.box (owSpec (Ow.row 3 (Ow.frz (α:=Int))))) q543_11 ⟨v375.1⟩)] a w) ?_ (λ n543=>?_)
  ·
   rintro a543 w543 ⟨M543,q543_5,q543_6,q543_7,q543_8,q543_9,q543_10,q543_11,q543_12,q543_13,st543⟩
   refine aH1 (i:=8) (by decide +kernel) rfl ?_
   refine st543.seg 1 (sc rfl (oM rfl (tp rfl))<|.nil) [18,130,164] rfl [(10,6),(11,7),(15,10),(16,11),(20,12),(21,13)] rfl ⟨iI,⟨iI,⟨iI,⟨iI,⟨iI,iT⟩⟩⟩⟩⟩ (λ a721 w721 st721=>?_)
   exact aHe n573 (st721.fzS (g:=164) rfl)
  refine zm 6 511 (λ a w=>∃ M1 q508_5 q508_6 q508_7 q508_8 q508_9 q508_10 q508_11,Sx (Frm.of w0) 164 M M1 [oneB none,oneB none,oneB none,oneB none,oneB none,q508_5,oneB q508_6,oneB q508_7,q508_8,q508_9,q508_10,q508_11,oneB none,oneB none] [(18,dt v375.2),(130,dtup [dt v413.1,dt v413.2]),(164,dfz c402)] [(10,6,dbox q508_6 0 v36.1),(11,7,dbox q508_7 0 v36.2),(15,10,dow (Ow.box (owFinder (Ow.row 77 (owDir (Ow.row 9 (Ow.frz (α:=Str))))))) q508_10 ⟨v368.1⟩),(16,11,dow (Ow.box (owSpec (Ow.row 3 (Ow.frz (α:=Int))))) q508_11 ⟨v375.1⟩)] a w) ?_ (λ n508=>?_)
  ·
   rintro a508 w508 ⟨M508,q508_5,q508_6,q508_7,q508_8,q508_9,q508_10,q508_11,st508⟩
   refine aH4 (i:=9) (j:=10) (k:=11) (l:=12) (by decide +kernel) rfl rfl rfl rfl ?_ ?_ ?_ ?_
   ·
    refine st508.seg 1 (sc rfl (xExt (i:=0) rfl (tp rfl) rfl)<|.nil) [18,130,139,164] rfl [(10,6),(11,7),(15,10),(16,11)] rfl ⟨iI,⟨iI,⟨iI,iT⟩⟩⟩ (λ a722 w722 st722=>?_)
    exact aHe n528 (st722.fzS (g:=164) rfl)
   ·
    refine st508.seg 1 (sc rfl (xExt (i:=1) rfl (tp rfl) rfl)<|.nil) [18,130,140,164] rfl [(10,6),(11,7),(15,10),(16,11)] rfl ⟨iI,⟨iI,⟨iI,iT⟩⟩⟩ (λ a723 w723 st723=>?_)
    exact aHe n530 (st723.fzS (g:=164) rfl)
   ·
    refine st508.alloc 12 rfl rfl kZ35 zU (by simp) [18,130,164] rfl [10,11,15,16] rfl rfl (λ b725 M725 a725 w725 st725=>?_)
    have st726:=st725.gs (Gs':=[oneB none,oneB none,oneB none,oneB none,oneB none,q508_5,oneB q508_6,oneB q508_7,q508_8,q508_9,q508_10,q508_11,oneB (some b725),oneB none]) rfl
    exact aHe n534 (st726.fzS (g:=164) rfl)
   ·
    refine st508.alloc 13 rfl rfl kZ37 zS (by simp) [18,130,164] rfl [10,11,15,16] rfl rfl (λ b728 M728 a728 w728 st728=>?_)
    have st729:=st728.gs (Gs':=[oneB none,oneB none,oneB none,oneB none,oneB none,q508_5,oneB q508_6,oneB q508_7,q508_8,q508_9,q508_10,q508_11,oneB none,oneB (some b728)]) rfl
    exact aHe n538 (st729.fzS (g:=164) rfl)
  refine zm 6 2303 (λ a w=>∃ M1 q512_5 q512_6 q512_7 q512_8 q512_9 q512_10 q512_11 q512_12,Sx (Frm.of w0) 164 M M1 [oneB none,oneB none,oneB none,oneB none,oneB none,q512_5,oneB q512_6,oneB q512_7,q512_8,q512_9,q512_10,q512_11,oneB q512_12,oneB none] [(18,dt v375.2),(138,dtup [dt v413.1,dt v413.2]),(164,dfz c402)] [(10,6,dbox q512_6 0 v36.1),(11,7,dbox q512_7 0 v36.2),(20,12,dbox q512_12 0 zo),(15,10,dow (Ow.box (owFinder (Ow.row 77 (owDir (Ow.row 9 (Ow.frz (α:=Str))))))) q512_10 ⟨v368.1⟩),(16,11,dow (Ow.box (owSpec (Ow.row 3 (Ow.frz (α:=Int))))) q512_11 ⟨v375.1⟩)] a w) ?_ (λ n512=>?_)
  ·
   rintro a512 w512 ⟨M512,q512_5,q512_6,q512_7,q512_8,q512_9,q512_10,q512_11,q512_12,st512⟩
   refine aH2 (i:=8) (j:=12) (by decide +kernel) rfl rfl ?_ ?_
   ·
    refine st512.seg 1 (sc rfl (oM rfl (tp rfl))<|.nil) [18,130,164] rfl [(10,6),(11,7),(15,10),(16,11),(20,12)] rfl ⟨iI,⟨iI,⟨iI,⟨iI,iT⟩⟩⟩⟩ (λ a730 w730 st730=>?_)
    exact aHe n534 (st730.fzS (g:=164) rfl)
   ·
    refine st512.alloc 13 rfl rfl kZ37 zS (by simp) [18,138,164] rfl [10,11,15,16,20] rfl rfl (λ b732 M732 a732 w732 st732=>?_)
    have st733:=st732.gs (Gs':=[oneB none,oneB none,oneB none,oneB none,oneB none,q512_5,oneB q512_6,oneB q512_7,q512_8,q512_9,q512_10,q512_11,oneB q512_12,oneB (some b732)]) rfl
    exact aHe n543 (st733.fzS (g:=164) rfl)
  refine zm 6 4351 (λ a w=>∃ M1 q516_5 q516_6 q516_7 q516_8 q516_9 q516_10 q516_11 q516_13,Sx (Frm.of w0) 164 M M1 [oneB none,oneB none,oneB none,oneB none,oneB none,q516_5,oneB q516_6,oneB q516_7,q516_8,q516_9,q516_10,q516_11,oneB none,oneB q516_13] [(18,dt v375.2),(138,dtup [dt v413.1,dt v413.2]),(164,dfz c402)] [(10,6,dbox q516_6 0 v36.1),(11,7,dbox q516_7 0 v36.2),(21,13,dbox q516_13 0 zE),(15,10,dow (Ow.box (owFinder (Ow.row 77 (owDir (Ow.row 9 (Ow.frz (α:=Str))))))) q516_10 ⟨v368.1⟩),(16,11,dow (Ow.box (owSpec (Ow.row 3 (Ow.frz (α:=Int))))) q516_11 ⟨v375.1⟩)] a w) ?_ (λ n516=>?_)
  ·
   rintro a516 w516 ⟨M516,q516_5,q516_6,q516_7,q516_8,q516_9,q516_10,q516_11,q516_13,st516⟩
   refine aH2 (i:=8) (j:=11) (by decide +kernel) rfl rfl ?_ ?_
   ·
    refine st516.seg 1 (sc rfl (oM rfl (tp rfl))<|.nil) [18,130,164] rfl [(10,6),(11,7),(15,10),(16,11),(21,13)] rfl ⟨iI,⟨iI,⟨iI,⟨iI,iT⟩⟩⟩⟩ (λ a734 w734 st734=>?_)
    exact aHe n538 (st734.fzS (g:=164) rfl)
   ·
    refine st516.alloc 12 rfl rfl kZ35 zU (by simp) [18,138,164] rfl [10,11,15,16,21] rfl rfl (λ b736 M736 a736 w736 st736=>?_)
    have st737:=st736.gs (Gs':=[oneB none,oneB none,oneB none,oneB none,oneB none,q516_5,oneB q516_6,oneB q516_7,q516_8,q516_9,q516_10,q516_11,oneB (some b736),oneB q516_13]) rfl
    exact aHe n543 (st737.fzS (g:=164) rfl)
  refine zm 6 6271 (λ a w=>∃ M1 q521_5 q521_6 q521_7 q521_8 q521_9 q521_10 q521_11 q521_12 q521_13,Sx (Frm.of w0) 164 M M1 [oneB none,oneB none,oneB none,oneB none,oneB none,q521_5,oneB q521_6,oneB q521_7,q521_8,q521_9,q521_10,q521_11,oneB q521_12,oneB q521_13] [(18,dt v375.2),(132,dt v407),(134,dt v409),(136,dt v411),(137,dt x3),(164,dfz c402)] [(10,6,dbox q521_6 0 v36.1),(11,7,dbox q521_7 0 v36.2),(20,12,dbox q521_12 0 zo),(21,13,dbox q521_13 0 zE),(15,10,dow (Ow.box (owFinder (Ow.row 77 (owDir (Ow.row 9 (Ow.frz (α:=Str))))))) q521_10 ⟨v368.1⟩),(16,11,dow (Ow.box (owSpec (Ow.row 3 (Ow.frz (α:=Int))))) q521_11 ⟨v375.1⟩)] a w) ?_ (λ n521=>?_)
  ·
   rintro a521 w521 ⟨M521,q521_5,q521_6,q521_7,q521_8,q521_9,q521_10,q521_11,q521_12,q521_13,st521⟩
   refine aH1 (i:=7) (by decide +kernel) rfl ?_
   refine st521.seg 1 (sc rfl (zq (l:=[.tmp 132,.tmp 134,.tmp 136,.tmp 137]) rfl kN14 (.cons (tp rfl) (.cons (tp rfl) (.cons (tp rfl) (.cons (tp rfl) .nil)))) (FnN.fnoo<|jc p413))<|.nil) [18,138,164] rfl [(10,6),(11,7),(15,10),(16,11),(20,12),(21,13)] rfl ⟨iI,⟨iI,⟨iI,⟨iI,⟨iI,iT⟩⟩⟩⟩⟩ (λ a738 w738 st738=>?_)
   exact aHe n543 (st738.fzS (g:=164) rfl)
  refine zm 7 255 (λ a w=>∃ M1 q488_5 q488_6 q488_7 q488_8 q488_9 q488_10 q488_11,Sx (Frm.of w0) 164 M M1 [oneB none,oneB none,oneB none,oneB none,oneB none,q488_5,oneB q488_6,oneB q488_7,q488_8,q488_9,q488_10,q488_11,oneB none,oneB none] [(18,dt v375.2),(138,dtup [dt v413.1,dt v413.2]),(164,dfz c402)] [(10,6,dbox q488_6 0 v36.1),(11,7,dbox q488_7 0 v36.2),(15,10,dow (Ow.box (owFinder (Ow.row 77 (owDir (Ow.row 9 (Ow.frz (α:=Str))))))) q488_10 ⟨v368.1⟩),(16,11,dow (Ow.box (owSpec (Ow.row 3 (Ow.frz (α:=Int))))) q488_11 ⟨v375.1⟩)] a w) ?_ (λ n488=>?_)
  ·
   rintro a488 w488 ⟨M488,q488_5,q488_6,q488_7,q488_8,q488_9,q488_10,q488_11,st488⟩
   refine aH3 (i:=8) (j:=11) (k:=12) (by decide +kernel) rfl rfl rfl ?_ ?_ ?_
   ·
    refine st488.seg 1 (sc rfl (oM rfl (tp rfl))<|.nil) [18,130,164] rfl [(10,6),(11,7),(15,10),(16,11)] rfl ⟨iI,⟨iI,⟨iI,iT⟩⟩⟩ (λ a739 w739 st739=>?_)
    exact aHe n508 (st739.fzS (g:=164) rfl)
   ·
    refine st488.alloc 12 rfl rfl kZ35 zU (by simp) [18,138,164] rfl [10,11,15,16] rfl rfl (λ b741 M741 a741 w741 st741=>?_)
    have st742:=st741.gs (Gs':=[oneB none,oneB none,oneB none,oneB none,oneB none,q488_5,oneB q488_6,oneB q488_7,q488_8,q488_9,q488_10,q488_11,oneB (some b741),oneB none]) rfl
    exact aHe n512 (st742.fzS (g:=164) rfl)
   ·
    refine st488.alloc 13 rfl rfl kZ37 zS (by simp) [18,138,164] rfl [10,11,15,16] rfl rfl (λ b744 M744 a744 w744 st744=>?_)
    have st745:=st744.gs (Gs':=[oneB none,oneB none,oneB none,oneB none,oneB none,q488_5,oneB q488_6,oneB q488_7,q488_8,q488_9,q488_10,q488_11,oneB none,oneB (some b744)]) rfl
    exact aHe n516 (st745.fzS (g:=164) rfl)
  refine zm 7 2175 (λ a w=>∃ M1 q492_5 q492_6 q492_7 q492_8 q492_9 q492_10 q492_11 q492_12,Sx (Frm.of w0) 164 M M1 [oneB none,oneB none,oneB none,oneB none,oneB none,q492_5,oneB q492_6,oneB q492_7,q492_8,q492_9,q492_10,q492_11,oneB q492_12,oneB none] [(18,dt v375.2),(132,dt v407),(134,dt v409),(136,dt v411),(137,dt x3),(164,dfz c402)] [(10,6,dbox q492_6 0 v36.1),(11,7,dbox q492_7 0 v36.2),(20,12,dbox q492_12 0 zo),(15,10,dow (Ow.box (owFinder (Ow.row 77 (owDir (Ow.row 9 (Ow.frz (α:=Str))))))) q492_10 ⟨v368.1⟩),(16,11,dow (Ow.box (owSpec (Ow.row 3 (Ow.frz (α:=Int))))) q492_11 ⟨v375.1⟩)] a w) ?_ (λ n492=>?_)
  ·
   rintro a492 w492 ⟨M492,q492_5,q492_6,q492_7,q492_8,q492_9,q492_10,q492_11,q492_12,st492⟩
   refine aH2 (i:=7) (j:=12) (by decide +kernel) rfl rfl ?_ ?_
   ·
    refine st492.seg 1 (sc rfl (zq (l:=[.tmp 132,.tmp 134,.tmp 136,.tmp 137]) rfl kN14 (.cons (tp rfl) (.cons (tp rfl) (.cons (tp rfl) (.cons (tp rfl) .nil)))) (FnN.fnoo<|jc p413))<|.nil) [18,138,164] rfl [(10,6),(11,7),(15,10),(16,11),(20,12)] rfl ⟨iI,⟨iI,⟨iI,⟨iI,iT⟩⟩⟩⟩ (λ a746 w746 st746=>?_)
    exact aHe n512 (st746.fzS (g:=164) rfl)
   ·
    refine st492.alloc 13 rfl rfl kZ37 zS (by simp) [18,132,134,136,137,164] rfl [10,11,15,16,20] rfl rfl (λ b748 M748 a748 w748 st748=>?_)
    have st749:=st748.gs (Gs':=[oneB none,oneB none,oneB none,oneB none,oneB none,q492_5,oneB q492_6,oneB q492_7,q492_8,q492_9,q492_10,q492_11,oneB q492_12,oneB (some b748)]) rfl
    exact aHe n521 (st749.fzS (g:=164) rfl)
  refine zm 7 4223 (λ a w=>∃ M1 q496_5 q496_6 q496_7 q496_8 q496_9 q496_10 q496_11 q496_13,Sx (Frm.of w0) 164 M M1 [oneB none,oneB none,oneB none,oneB none,oneB none,q496_5,oneB q496_6,oneB q496_7,q496_8,q496_9,q496_10,q496_11,oneB none,oneB q496_13] [(18,dt v375.2),(132,dt v407),(134,dt v409),(136,dt v411),(137,dt x3),(164,dfz c402)] [(10,6,dbox q496_6 0 v36.1),(11,7,dbox q496_7 0 v36.2),(21,13,dbox q496_13 0 zE),(15,10,dow (Ow.box (owFinder (Ow.row 77 (owDir (Ow.row 9 (Ow.frz (α:=Str))))))) q496_10 ⟨v368.1⟩),(16,11,dow (Ow.box (owSpec (Ow.row 3 (Ow.frz (α:=Int))))) q496_11 ⟨v375.1⟩)] a w) ?_ (λ n496=>?_)
  ·
   rintro a496 w496 ⟨M496,q496_5,q496_6,q496_7,q496_8,q496_9,q496_10,q496_11,q496_13,st496⟩
   refine aH2 (i:=7) (j:=11) (by decide +kernel) rfl rfl ?_ ?_
   ·
    refine st496.seg 1 (sc rfl (zq (l:=[.tmp 132,.tmp 134,.tmp 136,.tmp 137]) rfl kN14 (.cons (tp rfl) (.cons (tp rfl) (.cons (tp rfl) (.cons (tp rfl) .nil)))) (FnN.fnoo<|jc p413))<|.nil) [18,138,164] rfl [(10,6),(11,7),(15,10),(16,11),(21,13)] rfl ⟨iI,⟨iI,⟨iI,⟨iI,iT⟩⟩⟩⟩ (λ a750 w750 st750=>?_)
    exact aHe n516 (st750.fzS (g:=164) rfl)
   ·
    refine st496.alloc 12 rfl rfl kZ35 zU (by simp) [18,132,134,136,137,164] rfl [10,11,15,16,21] rfl rfl (λ b752 M752 a752 w752 st752=>?_)
    have st753:=st752.gs (Gs':=[oneB none,oneB none,oneB none,oneB none,oneB none,q496_5,oneB q496_6,oneB q496_7,q496_8,q496_9,q496_10,q496_11,oneB (some b752),oneB q496_13]) rfl
    exact aHe n521 (st753.fzS (g:=164) rfl)
  refine zm 7 6239 (λ a w=>∃ M1 q501_5 q501_6 q501_7 q501_8 q501_9 q501_10 q501_11 q501_12 q501_13,Sx (Frm.of w0) 164 M M1 [oneB none,oneB none,oneB none,oneB none,oneB none,q501_5,oneB q501_6,oneB q501_7,q501_8,q501_9,q501_10,q501_11,oneB q501_12,oneB q501_13] [(18,dt v375.2),(132,dt v407),(134,dt v409),(135,dt x2),(137,dt x3),(164,dfz c402)] [(10,6,dbox q501_6 0 v36.1),(11,7,dbox q501_7 0 v36.2),(20,12,dbox q501_12 0 zo),(21,13,dbox q501_13 0 zE),(15,10,dow (Ow.box (owFinder (Ow.row 77 (owDir (Ow.row 9 (Ow.frz (α:=Str))))))) q501_10 ⟨v368.1⟩),(16,11,dow (Ow.box (owSpec (Ow.row 3 (Ow.frz (α:=Int))))) q501_11 ⟨v375.1⟩)] a w) ?_ (λ n501=>?_)
  ·
   rintro a501 w501 ⟨M501,q501_5,q501_6,q501_7,q501_8,q501_9,q501_10,q501_11,q501_12,q501_13,st501⟩
   refine aH1 (i:=5) (by decide +kernel) rfl ?_
   refine st501.seg 1 (sc rfl (zq (l:=[.tmp 135]) rfl kN13 (.cons (tp rfl) .nil) ((y7 p411)).fn)<|.nil) [18,132,134,136,137,164] rfl [(10,6),(11,7),(15,10),(16,11),(20,12),(21,13)] rfl ⟨iI,⟨iI,⟨iI,⟨iI,⟨iI,iT⟩⟩⟩⟩⟩ (λ a754 w754 st754=>?_)
   exact aHe n521 (st754.fzS (g:=164) rfl)
  refine zm 8 127 (λ a w=>∃ M1 q468_5 q468_6 q468_7 q468_8 q468_9 q468_10 q468_11,Sx (Frm.of w0) 164 M M1 [oneB none,oneB none,oneB none,oneB none,oneB none,q468_5,oneB q468_6,oneB q468_7,q468_8,q468_9,q468_10,q468_11,oneB none,oneB none] [(18,dt v375.2),(132,dt v407),(134,dt v409),(136,dt v411),(137,dt x3),(164,dfz c402)] [(10,6,dbox q468_6 0 v36.1),(11,7,dbox q468_7 0 v36.2),(15,10,dow (Ow.box (owFinder (Ow.row 77 (owDir (Ow.row 9 (Ow.frz (α:=Str))))))) q468_10 ⟨v368.1⟩),(16,11,dow (Ow.box (owSpec (Ow.row 3 (Ow.frz (α:=Int))))) q468_11 ⟨v375.1⟩)] a w) ?_ (λ n468=>?_)
  ·
   rintro a468 w468 ⟨M468,q468_5,q468_6,q468_7,q468_8,q468_9,q468_10,q468_11,st468⟩
   refine aH3 (i:=7) (j:=11) (k:=12) (by decide +kernel) rfl rfl rfl ?_ ?_ ?_
   ·
    refine st468.seg 1 (sc rfl (zq (l:=[.tmp 132,.tmp 134,.tmp 136,.tmp 137]) rfl kN14 (.cons (tp rfl) (.cons (tp rfl) (.cons (tp rfl) (.cons (tp rfl) .nil)))) (FnN.fnoo<|jc p413))<|.nil) [18,138,164] rfl [(10,6),(11,7),(15,10),(16,11)] rfl ⟨iI,⟨iI,⟨iI,iT⟩⟩⟩ (λ a755 w755 st755=>?_)
    exact aHe n488 (st755.fzS (g:=164) rfl)
   ·
    refine st468.alloc 12 rfl rfl kZ35 zU (by simp) [18,132,134,136,137,164] rfl [10,11,15,16] rfl rfl (λ b757 M757 a757 w757 st757=>?_)
    have st758:=st757.gs (Gs':=[oneB none,oneB none,oneB none,oneB none,oneB none,q468_5,oneB q468_6,oneB q468_7,q468_8,q468_9,q468_10,q468_11,oneB (some b757),oneB none]) rfl
    exact aHe n492 (st758.fzS (g:=164) rfl)
   ·
    refine st468.alloc 13 rfl rfl kZ37 zS (by simp) [18,132,134,136,137,164] rfl [10,11,15,16] rfl rfl (λ b760 M760 a760 w760 st760=>?_)
    have st761:=st760.gs (Gs':=[oneB none,oneB none,oneB none,oneB none,oneB none,q468_5,oneB q468_6,oneB q468_7,q468_8,q468_9,q468_10,q468_11,oneB none,oneB (some b760)]) rfl
    exact aHe n496 (st761.fzS (g:=164) rfl)
  refine zm 8 2143 (λ a w=>∃ M1 q472_5 q472_6 q472_7 q472_8 q472_9 q472_10 q472_11 q472_12,Sx (Frm.of w0) 164 M M1 [oneB none,oneB none,oneB none,oneB none,oneB none,q472_5,oneB q472_6,oneB q472_7,q472_8,q472_9,q472_10,q472_11,oneB q472_12,oneB none] [(18,dt v375.2),(132,dt v407),(134,dt v409),(135,dt x2),(137,dt x3),(164,dfz c402)] [(10,6,dbox q472_6 0 v36.1),(11,7,dbox q472_7 0 v36.2),(20,12,dbox q472_12 0 zo),(15,10,dow (Ow.box (owFinder (Ow.row 77 (owDir (Ow.row 9 (Ow.frz (α:=Str))))))) q472_10 ⟨v368.1⟩),(16,11,dow (Ow.box (owSpec (Ow.row 3 (Ow.frz (α:=Int))))) q472_11 ⟨v375.1⟩)] a w) ?_ (λ n472=>?_)
  ·
   rintro a472 w472 ⟨M472,q472_5,q472_6,q472_7,q472_8,q472_9,q472_10,q472_11,q472_12,st472⟩
   refine aH2 (i:=5) (j:=12) (by decide +kernel) rfl rfl ?_ ?_
   ·
    refine st472.seg 1 (sc rfl (zq (l:=[.tmp 135]) rfl kN13 (.cons (tp rfl) .nil) ((y7 p411)).fn)<|.nil) [18,132,134,136,137,164] rfl [(10,6),(11,7),(15,10),(16,11),(20,12)] rfl ⟨iI,⟨iI,⟨iI,⟨iI,iT⟩⟩⟩⟩ (λ a762 w762 st762=>?_)
    exact aHe n492 (st762.fzS (g:=164) rfl)
   ·
    refine st472.alloc 13 rfl rfl kZ37 zS (by simp) [18,132,134,135,137,164] rfl [10,11,15,16,20] rfl rfl (λ b764 M764 a764 w764 st764=>?_)
    have st765:=st764.gs (Gs':=[oneB none,oneB none,oneB none,oneB none,oneB none,q472_5,oneB q472_6,oneB q472_7,q472_8,q472_9,q472_10,q472_11,oneB q472_12,oneB (some b764)]) rfl
    exact aHe n501 (st765.fzS (g:=164) rfl)
  refine zm 8 4191 (λ a w=>∃ M1 q476_5 q476_6 q476_7 q476_8 q476_9 q476_10 q476_11 q476_13,Sx (Frm.of w0) 164 M M1 [oneB none,oneB none,oneB none,oneB none,oneB none,q476_5,oneB q476_6,oneB q476_7,q476_8,q476_9,q476_10,q476_11,oneB none,oneB q476_13] [(18,dt v375.2),(132,dt v407),(134,dt v409),(135,dt x2),(137,dt x3),(164,dfz c402)] [(10,6,dbox q476_6 0 v36.1),(11,7,dbox q476_7 0 v36.2),(21,13,dbox q476_13 0 zE),(15,10,dow (Ow.box (owFinder (Ow.row 77 (owDir (Ow.row 9 (Ow.frz (α:=Str))))))) q476_10 ⟨v368.1⟩),(16,11,dow (Ow.box (owSpec (Ow.row 3 (Ow.frz (α:=Int))))) q476_11 ⟨v375.1⟩)] a w) ?_ (λ n476=>?_)
  ·
   rintro a476 w476 ⟨M476,q476_5,q476_6,q476_7,q476_8,q476_9,q476_10,q476_11,q476_13,st476⟩
   refine aH2 (i:=5) (j:=11) (by decide +kernel) rfl rfl ?_ ?_
   ·
    refine st476.seg 1 (sc rfl (zq (l:=[.tmp 135]) rfl kN13 (.cons (tp rfl) .nil) ((y7 p411)).fn)<|.nil) [18,132,134,136,137,164] rfl [(10,6),(11,7),(15,10),(16,11),(21,13)] rfl ⟨iI,⟨iI,⟨iI,⟨iI,iT⟩⟩⟩⟩ (λ a766 w766 st766=>?_)
    exact aHe n496 (st766.fzS (g:=164) rfl)
   ·
    refine st476.alloc 12 rfl rfl kZ35 zU (by simp) [18,132,134,135,137,164] rfl [10,11,15,16,21] rfl rfl (λ b768 M768 a768 w768 st768=>?_)
    have st769:=st768.gs (Gs':=[oneB none,oneB none,oneB none,oneB none,oneB none,q476_5,oneB q476_6,oneB q476_7,q476_8,q476_9,q476_10,q476_11,oneB (some b768),oneB q476_13]) rfl
    exact aHe n501 (st769.fzS (g:=164) rfl)
  refine zm 8 6231 (λ a w=>∃ M1 q481_5 q481_6 q481_7 q481_8 q481_9 q481_10 q481_11 q481_12 q481_13,Sx (Frm.of w0) 164 M M1 [oneB none,oneB none,oneB none,oneB none,oneB none,q481_5,oneB q481_6,oneB q481_7,q481_8,q481_9,q481_10,q481_11,oneB q481_12,oneB q481_13] [(18,dt v375.2),(132,dt v407),(133,dt x1),(135,dt x2),(137,dt x3),(164,dfz c402)] [(10,6,dbox q481_6 0 v36.1),(11,7,dbox q481_7 0 v36.2),(20,12,dbox q481_12 0 zo),(21,13,dbox q481_13 0 zE),(15,10,dow (Ow.box (owFinder (Ow.row 77 (owDir (Ow.row 9 (Ow.frz (α:=Str))))))) q481_10 ⟨v368.1⟩),(16,11,dow (Ow.box (owSpec (Ow.row 3 (Ow.frz (α:=Int))))) q481_11 ⟨v375.1⟩)] a w) ?_ (λ n481=>?_)
  ·
   rintro a481 w481 ⟨M481,q481_5,q481_6,q481_7,q481_8,q481_9,q481_10,q481_11,q481_12,q481_13,st481⟩
   refine aH1 (i:=3) (by decide +kernel) rfl ?_
   refine st481.seg 1 (sc rfl (zq (l:=[.tmp 133]) rfl kN12 (.cons (tp rfl) .nil) (FnN.fn<|y8 p409))<|.nil) [18,132,134,135,137,164] rfl [(10,6),(11,7),(15,10),(16,11),(20,12),(21,13)] rfl ⟨iI,⟨iI,⟨iI,⟨iI,⟨iI,iT⟩⟩⟩⟩⟩ (λ a770 w770 st770=>?_)
   exact aHe n501 (st770.fzS (g:=164) rfl)
  refine zm 9 95 (λ a w=>∃ M1 q449_5 q449_6 q449_7 q449_8 q449_9 q449_10 q449_11,Sx (Frm.of w0) 164 M M1 [oneB none,oneB none,oneB none,oneB none,oneB none,q449_5,oneB q449_6,oneB q449_7,q449_8,q449_9,q449_10,q449_11,oneB none,oneB none] [(18,dt v375.2),(132,dt v407),(134,dt v409),(135,dt x2),(137,dt x3),(164,dfz c402)] [(10,6,dbox q449_6 0 v36.1),(11,7,dbox q449_7 0 v36.2),(15,10,dow (Ow.box (owFinder (Ow.row 77 (owDir (Ow.row 9 (Ow.frz (α:=Str))))))) q449_10 ⟨v368.1⟩),(16,11,dow (Ow.box (owSpec (Ow.row 3 (Ow.frz (α:=Int))))) q449_11 ⟨v375.1⟩)] a w) ?_ (λ n449=>?_)
  ·
   rintro a449 w449 ⟨M449,q449_5,q449_6,q449_7,q449_8,q449_9,q449_10,q449_11,st449⟩
   refine aH3 (i:=5) (j:=11) (k:=12) (by decide +kernel) rfl rfl rfl ?_ ?_ ?_
   ·
    refine st449.seg 1 (sc rfl (zq (l:=[.tmp 135]) rfl kN13 (.cons (tp rfl) .nil) ((y7 p411)).fn)<|.nil) [18,132,134,136,137,164] rfl [(10,6),(11,7),(15,10),(16,11)] rfl ⟨iI,⟨iI,⟨iI,iT⟩⟩⟩ (λ a771 w771 st771=>?_)
    exact aHe n468 (st771.fzS (g:=164) rfl)
   ·
    refine st449.alloc 12 rfl rfl kZ35 zU (by simp) [18,132,134,135,137,164] rfl [10,11,15,16] rfl rfl (λ b773 M773 a773 w773 st773=>?_)
    have st774:=st773.gs (Gs':=[oneB none,oneB none,oneB none,oneB none,oneB none,q449_5,oneB q449_6,oneB q449_7,q449_8,q449_9,q449_10,q449_11,oneB (some b773),oneB none]) rfl
    exact aHe n472 (st774.fzS (g:=164) rfl)
   ·
    refine st449.alloc 13 rfl rfl kZ37 zS (by simp) [18,132,134,135,137,164] rfl [10,11,15,16] rfl rfl (λ b776 M776 a776 w776 st776=>?_)
    have st777:=st776.gs (Gs':=[oneB none,oneB none,oneB none,oneB none,oneB none,q449_5,oneB q449_6,oneB q449_7,q449_8,q449_9,q449_10,q449_11,oneB none,oneB (some b776)]) rfl
    exact aHe n476 (st777.fzS (g:=164) rfl)
  refine zm 9 2135 (λ a w=>∃ M1 q453_5 q453_6 q453_7 q453_8 q453_9 q453_10 q453_11 q453_12,Sx (Frm.of w0) 164 M M1 [oneB none,oneB none,oneB none,oneB none,oneB none,q453_5,oneB q453_6,oneB q453_7,q453_8,q453_9,q453_10,q453_11,oneB q453_12,oneB none] [(18,dt v375.2),(132,dt v407),(133,dt x1),(135,dt x2),(137,dt x3),(164,dfz c402)] [(10,6,dbox q453_6 0 v36.1),(11,7,dbox q453_7 0 v36.2),(20,12,dbox q453_12 0 zo),(15,10,dow (Ow.box (owFinder (Ow.row 77 (owDir (Ow.row 9 (Ow.frz (α:=Str))))))) q453_10 ⟨v368.1⟩),(16,11,dow (Ow.box (owSpec (Ow.row 3 (Ow.frz (α:=Int))))) q453_11 ⟨v375.1⟩)] a w) ?_ (λ n453=>?_)
  ·
   rintro a453 w453 ⟨M453,q453_5,q453_6,q453_7,q453_8,q453_9,q453_10,q453_11,q453_12,st453⟩
   refine aH2 (i:=3) (j:=12) (by decide +kernel) rfl rfl ?_ ?_
   ·
    refine st453.seg 1 (sc rfl (zq (l:=[.tmp 133]) rfl kN12 (.cons (tp rfl) .nil) (FnN.fn<|y8 p409))<|.nil) [18,132,134,135,137,164] rfl [(10,6),(11,7),(15,10),(16,11),(20,12)] rfl ⟨iI,⟨iI,⟨iI,⟨iI,iT⟩⟩⟩⟩ (λ a778 w778 st778=>?_)
    exact aHe n472 (st778.fzS (g:=164) rfl)
   ·
    refine st453.alloc 13 rfl rfl kZ37 zS (by simp) [18,132,133,135,137,164] rfl [10,11,15,16,20] rfl rfl (λ b780 M780 a780 w780 st780=>?_)
    have st781:=st780.gs (Gs':=[oneB none,oneB none,oneB none,oneB none,oneB none,q453_5,oneB q453_6,oneB q453_7,q453_8,q453_9,q453_10,q453_11,oneB q453_12,oneB (some b780)]) rfl
    exact aHe n481 (st781.fzS (g:=164) rfl)
  refine zm 9 4183 (λ a w=>∃ M1 q457_5 q457_6 q457_7 q457_8 q457_9 q457_10 q457_11 q457_13,Sx (Frm.of w0) 164 M M1 [oneB none,oneB none,oneB none,oneB none,oneB none,q457_5,oneB q457_6,oneB q457_7,q457_8,q457_9,q457_10,q457_11,oneB none,oneB q457_13] [(18,dt v375.2),(132,dt v407),(133,dt x1),(135,dt x2),(137,dt x3),(164,dfz c402)] [(10,6,dbox q457_6 0 v36.1),(11,7,dbox q457_7 0 v36.2),(21,13,dbox q457_13 0 zE),(15,10,dow (Ow.box (owFinder (Ow.row 77 (owDir (Ow.row 9 (Ow.frz (α:=Str))))))) q457_10 ⟨v368.1⟩),(16,11,dow (Ow.box (owSpec (Ow.row 3 (Ow.frz (α:=Int))))) q457_11 ⟨v375.1⟩)] a w) ?_ (λ n457=>?_)
  ·
   rintro a457 w457 ⟨M457,q457_5,q457_6,q457_7,q457_8,q457_9,q457_10,q457_11,q457_13,st457⟩
   refine aH2 (i:=3) (j:=11) (by decide +kernel) rfl rfl ?_ ?_
   ·
    refine st457.seg 1 (sc rfl (zq (l:=[.tmp 133]) rfl kN12 (.cons (tp rfl) .nil) (FnN.fn<|y8 p409))<|.nil) [18,132,134,135,137,164] rfl [(10,6),(11,7),(15,10),(16,11),(21,13)] rfl ⟨iI,⟨iI,⟨iI,⟨iI,iT⟩⟩⟩⟩ (λ a782 w782 st782=>?_)
    exact aHe n476 (st782.fzS (g:=164) rfl)
   ·
    refine st457.alloc 12 rfl rfl kZ35 zU (by simp) [18,132,133,135,137,164] rfl [10,11,15,16,21] rfl rfl (λ b784 M784 a784 w784 st784=>?_)
    have st785:=st784.gs (Gs':=[oneB none,oneB none,oneB none,oneB none,oneB none,q457_5,oneB q457_6,oneB q457_7,q457_8,q457_9,q457_10,q457_11,oneB (some b784),oneB q457_13]) rfl
    exact aHe n481 (st785.fzS (g:=164) rfl)
  refine zm 9 6229 (λ a w=>∃ M1 q462_5 q462_6 q462_7 q462_8 q462_9 q462_10 q462_11 q462_12 q462_13,Sx (Frm.of w0) 164 M M1 [oneB none,oneB none,oneB none,oneB none,oneB none,q462_5,oneB q462_6,oneB q462_7,q462_8,q462_9,q462_10,q462_11,oneB q462_12,oneB q462_13] [(18,dt v375.2),(131,dt x0),(133,dt x1),(135,dt x2),(137,dt x3),(164,dfz c402)] [(10,6,dbox q462_6 0 v36.1),(11,7,dbox q462_7 0 v36.2),(20,12,dbox q462_12 0 zo),(21,13,dbox q462_13 0 zE),(15,10,dow (Ow.box (owFinder (Ow.row 77 (owDir (Ow.row 9 (Ow.frz (α:=Str))))))) q462_10 ⟨v368.1⟩),(16,11,dow (Ow.box (owSpec (Ow.row 3 (Ow.frz (α:=Int))))) q462_11 ⟨v375.1⟩)] a w) ?_ (λ n462=>?_)
  ·
   rintro a462 w462 ⟨M462,q462_5,q462_6,q462_7,q462_8,q462_9,q462_10,q462_11,q462_12,q462_13,st462⟩
   refine aH1 (i:=1) (by decide +kernel) rfl ?_
   refine st462.seg 1 (sc rfl (zq (l:=[.tmp 131]) rfl kN11 (.cons (tp rfl) .nil) (FnN.fn<|yy p407))<|.nil) [18,132,133,135,137,164] rfl [(10,6),(11,7),(15,10),(16,11),(20,12),(21,13)] rfl ⟨iI,⟨iI,⟨iI,⟨iI,⟨iI,iT⟩⟩⟩⟩⟩ (λ a786 w786 st786=>?_)
   exact aHe n481 (st786.fzS (g:=164) rfl)
  refine zm 10 87 (λ a w=>∃ M1 q435_5 q435_6 q435_7 q435_8 q435_9 q435_10 q435_11,Sx (Frm.of w0) 164 M M1 [oneB none,oneB none,oneB none,oneB none,oneB none,q435_5,oneB q435_6,oneB q435_7,q435_8,q435_9,q435_10,q435_11,oneB none,oneB none] [(18,dt v375.2),(132,dt v407),(133,dt x1),(135,dt x2),(137,dt x3),(164,dfz c402)] [(10,6,dbox q435_6 0 v36.1),(11,7,dbox q435_7 0 v36.2),(15,10,dow (Ow.box (owFinder (Ow.row 77 (owDir (Ow.row 9 (Ow.frz (α:=Str))))))) q435_10 ⟨v368.1⟩),(16,11,dow (Ow.box (owSpec (Ow.row 3 (Ow.frz (α:=Int))))) q435_11 ⟨v375.1⟩)] a w) ?_ (λ n435=>?_)
  ·
   rintro a435 w435 ⟨M435,q435_5,q435_6,q435_7,q435_8,q435_9,q435_10,q435_11,st435⟩
   refine aH3 (i:=3) (j:=11) (k:=12) (by decide +kernel) rfl rfl rfl ?_ ?_ ?_
   ·
    refine st435.seg 1 (sc rfl (zq (l:=[.tmp 133]) rfl kN12 (.cons (tp rfl) .nil) (FnN.fn<|y8 p409))<|.nil) [18,132,134,135,137,164] rfl [(10,6),(11,7),(15,10),(16,11)] rfl ⟨iI,⟨iI,⟨iI,iT⟩⟩⟩ (λ a787 w787 st787=>?_)
    exact aHe n449 (st787.fzS (g:=164) rfl)
   ·
    refine st435.alloc 12 rfl rfl kZ35 zU (by simp) [18,132,133,135,137,164] rfl [10,11,15,16] rfl rfl (λ b789 M789 a789 w789 st789=>?_)
    have st790:=st789.gs (Gs':=[oneB none,oneB none,oneB none,oneB none,oneB none,q435_5,oneB q435_6,oneB q435_7,q435_8,q435_9,q435_10,q435_11,oneB (some b789),oneB none]) rfl
    exact aHe n453 (st790.fzS (g:=164) rfl)
   ·
    refine st435.alloc 13 rfl rfl kZ37 zS (by simp) [18,132,133,135,137,164] rfl [10,11,15,16] rfl rfl (λ b792 M792 a792 w792 st792=>?_)
    have st793:=st792.gs (Gs':=[oneB none,oneB none,oneB none,oneB none,oneB none,q435_5,oneB q435_6,oneB q435_7,q435_8,q435_9,q435_10,q435_11,oneB none,oneB (some b792)]) rfl
    exact aHe n457 (st793.fzS (g:=164) rfl)
  refine zm 10 2133 (λ a w=>∃ M1 q441_5 q441_6 q441_7 q441_8 q441_9 q441_10 q441_11 q441_12,Sx (Frm.of w0) 164 M M1 [oneB none,oneB none,oneB none,oneB none,oneB none,q441_5,oneB q441_6,oneB q441_7,q441_8,q441_9,q441_10,q441_11,oneB q441_12,oneB none] [(18,dt v375.2),(131,dt x0),(133,dt x1),(135,dt x2),(137,dt x3),(164,dfz c402)] [(10,6,dbox q441_6 0 v36.1),(11,7,dbox q441_7 0 v36.2),(20,12,dbox q441_12 0 zo),(15,10,dow (Ow.box (owFinder (Ow.row 77 (owDir (Ow.row 9 (Ow.frz (α:=Str))))))) q441_10 ⟨v368.1⟩),(16,11,dow (Ow.box (owSpec (Ow.row 3 (Ow.frz (α:=Int))))) q441_11 ⟨v375.1⟩)] a w) ?_ (λ n441=>?_)
  ·
   rintro a441 w441 ⟨M441,q441_5,q441_6,q441_7,q441_8,q441_9,q441_10,q441_11,q441_12,st441⟩
   refine aH2 (i:=1) (j:=12) (by decide +kernel) rfl rfl ?_ ?_
   ·
    refine st441.seg 1 (sc rfl (zq (l:=[.tmp 131]) rfl kN11 (.cons (tp rfl) .nil) (FnN.fn<|yy p407))<|.nil) [18,132,133,135,137,164] rfl [(10,6),(11,7),(15,10),(16,11),(20,12)] rfl ⟨iI,⟨iI,⟨iI,⟨iI,iT⟩⟩⟩⟩ (λ a794 w794 st794=>?_)
    exact aHe n453 (st794.fzS (g:=164) rfl)
   ·
    refine st441.alloc 13 rfl rfl kZ37 zS (by simp) [18,131,133,135,137,164] rfl [10,11,15,16,20] rfl rfl (λ b796 M796 a796 w796 st796=>?_)
    have st797:=st796.gs (Gs':=[oneB none,oneB none,oneB none,oneB none,oneB none,q441_5,oneB q441_6,oneB q441_7,q441_8,q441_9,q441_10,q441_11,oneB q441_12,oneB (some b796)]) rfl
    exact aHe n462 (st797.fzS (g:=164) rfl)
  refine zm 10 4181 (λ a w=>∃ M1 q447_5 q447_6 q447_7 q447_8 q447_9 q447_10 q447_11 q447_13,Sx (Frm.of w0) 164 M M1 [oneB none,oneB none,oneB none,oneB none,oneB none,q447_5,oneB q447_6,oneB q447_7,q447_8,q447_9,q447_10,q447_11,oneB none,oneB q447_13] [(18,dt v375.2),(131,dt x0),(133,dt x1),(135,dt x2),(137,dt x3),(164,dfz c402)] [(10,6,dbox q447_6 0 v36.1),(11,7,dbox q447_7 0 v36.2),(21,13,dbox q447_13 0 zE),(15,10,dow (Ow.box (owFinder (Ow.row 77 (owDir (Ow.row 9 (Ow.frz (α:=Str))))))) q447_10 ⟨v368.1⟩),(16,11,dow (Ow.box (owSpec (Ow.row 3 (Ow.frz (α:=Int))))) q447_11 ⟨v375.1⟩)] a w) ?_ (λ n447=>?_)
  ·
   rintro a447 w447 ⟨M447,q447_5,q447_6,q447_7,q447_8,q447_9,q447_10,q447_11,q447_13,st447⟩
   refine aH2 (i:=1) (j:=11) (by decide +kernel) rfl rfl ?_ ?_
   ·
    refine st447.seg 1 (sc rfl (zq (l:=[.tmp 131]) rfl kN11 (.cons (tp rfl) .nil) (FnN.fn<|yy p407))<|.nil) [18,132,133,135,137,164] rfl [(10,6),(11,7),(15,10),(16,11),(21,13)] rfl ⟨iI,⟨iI,⟨iI,⟨iI,iT⟩⟩⟩⟩ (λ a798 w798 st798=>?_)
    exact aHe n457 (st798.fzS (g:=164) rfl)
   ·
    refine st447.alloc 12 rfl rfl kZ35 zU (by simp) [18,131,133,135,137,164] rfl [10,11,15,16,21] rfl rfl (λ b800 M800 a800 w800 st800=>?_)
    have st801:=st800.gs (Gs':=[oneB none,oneB none,oneB none,oneB none,oneB none,q447_5,oneB q447_6,oneB q447_7,q447_8,q447_9,q447_10,q447_11,oneB (some b800),oneB q447_13]) rfl
    exact aHe n462 (st801.fzS (g:=164) rfl)
  refine aH3 (i:=1) (j:=11) (k:=12) (by decide +kernel) rfl rfl rfl ?_ ?_ ?_
  ·
   refine st406.seg 1 (sc rfl (zq (l:=[.tmp 131]) rfl kN11 (.cons (tp rfl) .nil) (FnN.fn<|yy p407))<|.nil) [18,132,133,135,137,164] rfl [(10,6),(11,7),(15,10),(16,11)] rfl ⟨iI,⟨iI,⟨iI,iT⟩⟩⟩ (λ a802 w802 st802=>?_)
   have st803:=st802.unm (s:=15) 10 rfl rfl iI [10,11,16] rfl
   have st804:=st803.unm (s:=16) 11 rfl rfl iI [10,11,15] rfl
   exact aHe n435 (st804.fzS (g:=164) rfl)
  ·
   refine st406.alloc 12 rfl rfl kZ35 zU (by simp) [18,131,133,135,137,164] rfl [10,11,15,16] rfl rfl (λ b806 M806 a806 w806 st806=>?_)
   have st807:=st806.gs (Gs':=[oneB none,oneB none,oneB none,oneB none,oneB none,G347,oneB q239_6,oneB q239_7,G334,G341,G367,G374,oneB (some b806),oneB none]) rfl
   have st808:=st807.unm (s:=15) 10 rfl rfl iI [10,11,16,20] rfl
   have st809:=st808.unm (s:=16) 11 rfl rfl iI [10,11,15,20] rfl
   exact aHe n441 (st809.fzS (g:=164) rfl)
  ·
   refine st406.alloc 13 rfl rfl kZ37 zS (by simp) [18,131,133,135,137,164] rfl [10,11,15,16] rfl rfl (λ b811 M811 a811 w811 st811=>?_)
   have st812:=st811.gs (Gs':=[oneB none,oneB none,oneB none,oneB none,oneB none,G347,oneB q239_6,oneB q239_7,G334,G341,G367,G374,oneB none,oneB (some b811)]) rfl
   have st813:=st812.unm (s:=15) 10 rfl rfl iI [10,11,16,21] rfl
   have st814:=st813.unm (s:=16) 11 rfl rfl iI [10,11,15,21] rfl
   exact aHe n447 (st814.fzS (g:=164) rfl)
 refine zm 2 8191 (λ a w=>∃ M1 q228_6 q228_7,Sx (Frm.of w0) 164 M M1 [oneB none,oneB none,oneB none,oneB none,oneB none,oneB none,oneB q228_6,oneB q228_7,oneB none,oneB none,oneB none,oneB none,oneB none,oneB none] [(2,dt x2),(3,dt x3),(4,dptr x0),(5,dptr x1),(47,dt v36.1),(48,dt v36.2),(164,dfz c25)] [(10,6,dbox q228_6 0 zo),(11,7,dbox q228_7 0 zE)] a w) ?_ (λ n228=>?_)
 ·
  rintro a228 w228 ⟨M228,q228_6,q228_7,st228⟩
  refine aH1 (i:=13) (by decide +kernel) rfl ?_
  refine st228.store (sb:=10) 6 FldS.id rfl rfl rfl kT35 rfl rfl (tp rfl) rfl [2,3,4,5,48,164] rfl [11] rfl rfl (λ M816 w816 st816=>?_)
  exact aHe n239 (st816.fzS (g:=164) rfl)
 refine zm 2 15359 (λ a w=>∃ M1 q235_6 q235_7,Sx (Frm.of w0) 164 M M1 [oneB none,oneB none,oneB none,oneB none,oneB none,oneB none,oneB q235_6,oneB q235_7,oneB none,oneB none,oneB none,oneB none,oneB none,oneB none] [(2,dt x2),(3,dt x3),(4,dptr x0),(5,dptr x1),(38,dtup [dt v36.1,dt v36.2]),(164,dfz c25)] [(10,6,dbox q235_6 0 v36.1),(11,7,dbox q235_7 0 zE)] a w) ?_ (λ n235=>?_)
 ·
  rintro a235 w235 ⟨M235,q235_6,q235_7,st235⟩
  refine aH1 (i:=10) (by decide +kernel) rfl ?_
  refine st235.seg 1 (sc rfl (xExt (i:=1) rfl (tp rfl) rfl)<|.nil) [2,3,4,5,48,164] rfl [(10,6),(11,7)] rfl ⟨iI,iT⟩ (λ a817 w817 st817=>?_)
  exact aHe n239 (st817.fzS (g:=164) rfl)
 refine zm 3 4095 (λ a w=>∃ M1 q200_6,Sx (Frm.of w0) 164 M M1 [oneB none,oneB none,oneB none,oneB none,oneB none,oneB none,oneB q200_6,oneB none,oneB none,oneB none,oneB none,oneB none,oneB none,oneB none] [(2,dt x2),(3,dt x3),(4,dptr x0),(5,dptr x1),(47,dt v36.1),(48,dt v36.2),(164,dfz c25)] [(10,6,dbox q200_6 0 zo)] a w) ?_ (λ n200=>?_)
 ·
  rintro a200 w200 ⟨M200,q200_6,st200⟩
  refine aH1 (i:=12) (by decide +kernel) rfl ?_
  refine st200.alloc 7 rfl rfl kZ37 zS (by simp) [2,3,4,5,47,48,164] rfl [10] rfl rfl (λ b819 M819 a819 w819 st819=>?_)
  have st820:=st819.gs (Gs':=[oneB none,oneB none,oneB none,oneB none,oneB none,oneB none,oneB q200_6,oneB (some b819),oneB none,oneB none,oneB none,oneB none,oneB none,oneB none]) rfl
  exact aHe n228 (st820.fzS (g:=164) rfl)
 refine zm 3 6143 (λ a w=>∃ M1 q204_7,Sx (Frm.of w0) 164 M M1 [oneB none,oneB none,oneB none,oneB none,oneB none,oneB none,oneB none,oneB q204_7,oneB none,oneB none,oneB none,oneB none,oneB none,oneB none] [(2,dt x2),(3,dt x3),(4,dptr x0),(5,dptr x1),(47,dt v36.1),(48,dt v36.2),(164,dfz c25)] [(11,7,dbox q204_7 0 zE)] a w) ?_ (λ n204=>?_)
 ·
  rintro a204 w204 ⟨M204,q204_7,st204⟩
  refine aH1 (i:=11) (by decide +kernel) rfl ?_
  refine st204.alloc 6 rfl rfl kZ35 zU (by simp) [2,3,4,5,47,48,164] rfl [11] rfl rfl (λ b822 M822 a822 w822 st822=>?_)
  have st823:=st822.gs (Gs':=[oneB none,oneB none,oneB none,oneB none,oneB none,oneB none,oneB (some b822),oneB q204_7,oneB none,oneB none,oneB none,oneB none,oneB none,oneB none]) rfl
  exact aHe n228 (st823.fzS (g:=164) rfl)
 refine zm 3 7167 (λ a w=>∃ M1 q209_6 q209_7,Sx (Frm.of w0) 164 M M1 [oneB none,oneB none,oneB none,oneB none,oneB none,oneB none,oneB q209_6,oneB q209_7,oneB none,oneB none,oneB none,oneB none,oneB none,oneB none] [(2,dt x2),(3,dt x3),(4,dptr x0),(5,dptr x1),(47,dt v36.1),(38,dtup [dt v36.1,dt v36.2]),(164,dfz c25)] [(10,6,dbox q209_6 0 zo),(11,7,dbox q209_7 0 zE)] a w) ?_ (λ n209=>?_)
 ·
  rintro a209 w209 ⟨M209,q209_6,q209_7,st209⟩
  refine aH2 (i:=10) (j:=13) (by decide +kernel) rfl rfl ?_ ?_
  ·
   refine st209.seg 1 (sc rfl (xExt (i:=1) rfl (tp rfl) rfl)<|.nil) [2,3,4,5,47,48,164] rfl [(10,6),(11,7)] rfl ⟨iI,iT⟩ (λ a824 w824 st824=>?_)
   exact aHe n228 (st824.fzS (g:=164) rfl)
  ·
   refine st209.store (sb:=10) 6 FldS.id rfl rfl rfl kT35 rfl rfl (tp rfl) rfl [2,3,4,5,38,164] rfl [11] rfl rfl (λ M826 w826 st826=>?_)
   exact aHe n235 (st826.fzS (g:=164) rfl)
 refine zm 3 7679 (λ a w=>∃ M1 q218_6 q218_7,Sx (Frm.of w0) 164 M M1 [oneB none,oneB none,oneB none,oneB none,oneB none,oneB none,oneB q218_6,oneB q218_7,oneB none,oneB none,oneB none,oneB none,oneB none,oneB none] [(2,dt x2),(3,dt x3),(4,dptr x0),(5,dptr x1),(48,dt v36.2),(38,dtup [dt v36.1,dt v36.2]),(164,dfz c25)] [(10,6,dbox q218_6 0 zo),(11,7,dbox q218_7 0 zE)] a w) ?_ (λ n218=>?_)
 ·
  rintro a218 w218 ⟨M218,q218_6,q218_7,st218⟩
  refine aH1 (i:=9) (by decide +kernel) rfl ?_
  refine st218.seg 1 (sc rfl (xExt (i:=0) rfl (tp rfl) rfl)<|.nil) [2,3,4,5,47,48,164] rfl [(10,6),(11,7)] rfl ⟨iI,iT⟩ (λ a827 w827 st827=>?_)
  exact aHe n228 (st827.fzS (g:=164) rfl)
 refine zm 4 2047 (λ a w=>∃ M1,Sx (Frm.of w0) 164 M M1 [oneB none,oneB none,oneB none,oneB none,oneB none,oneB none,oneB none,oneB none,oneB none,oneB none,oneB none,oneB none,oneB none,oneB none] [(2,dt x2),(3,dt x3),(4,dptr x0),(5,dptr x1),(47,dt v36.1),(48,dt v36.2),(164,dfz c25)] [] a w) ?_ (λ n167=>?_)
 ·
  rintro a167 w167 ⟨M167,st167⟩
  refine aH2 (i:=11) (j:=12) (by decide +kernel) rfl rfl ?_ ?_
  ·
   refine st167.alloc 6 rfl rfl kZ35 zU (by simp) [2,3,4,5,47,48,164] rfl [] rfl rfl (λ b829 M829 a829 w829 st829=>?_)
   have st830:=st829.gs (Gs':=[oneB none,oneB none,oneB none,oneB none,oneB none,oneB none,oneB (some b829),oneB none,oneB none,oneB none,oneB none,oneB none,oneB none,oneB none]) rfl
   exact aHe n200 (st830.fzS (g:=164) rfl)
  ·
   refine st167.alloc 7 rfl rfl kZ37 zS (by simp) [2,3,4,5,47,48,164] rfl [] rfl rfl (λ b832 M832 a832 w832 st832=>?_)
   have st833:=st832.gs (Gs':=[oneB none,oneB none,oneB none,oneB none,oneB none,oneB none,oneB none,oneB (some b832),oneB none,oneB none,oneB none,oneB none,oneB none,oneB none]) rfl
   exact aHe n204 (st833.fzS (g:=164) rfl)
 refine zm 4 3071 (λ a w=>∃ M1 q171_6,Sx (Frm.of w0) 164 M M1 [oneB none,oneB none,oneB none,oneB none,oneB none,oneB none,oneB q171_6,oneB none,oneB none,oneB none,oneB none,oneB none,oneB none,oneB none] [(2,dt x2),(3,dt x3),(4,dptr x0),(5,dptr x1),(47,dt v36.1),(38,dtup [dt v36.1,dt v36.2]),(164,dfz c25)] [(10,6,dbox q171_6 0 zo)] a w) ?_ (λ n171=>?_)
 ·
  rintro a171 w171 ⟨M171,q171_6,st171⟩
  refine aH2 (i:=10) (j:=12) (by decide +kernel) rfl rfl ?_ ?_
  ·
   refine st171.seg 1 (sc rfl (xExt (i:=1) rfl (tp rfl) rfl)<|.nil) [2,3,4,5,47,48,164] rfl [(10,6)] rfl iT (λ a834 w834 st834=>?_)
   exact aHe n200 (st834.fzS (g:=164) rfl)
  ·
   refine st171.alloc 7 rfl rfl kZ37 zS (by simp) [2,3,4,5,38,47,164] rfl [10] rfl rfl (λ b836 M836 a836 w836 st836=>?_)
   have st837:=st836.gs (Gs':=[oneB none,oneB none,oneB none,oneB none,oneB none,oneB none,oneB q171_6,oneB (some b836),oneB none,oneB none,oneB none,oneB none,oneB none,oneB none]) rfl
   exact aHe n209 (st837.fzS (g:=164) rfl)
 refine zm 4 5119 (λ a w=>∃ M1 q175_7,Sx (Frm.of w0) 164 M M1 [oneB none,oneB none,oneB none,oneB none,oneB none,oneB none,oneB none,oneB q175_7,oneB none,oneB none,oneB none,oneB none,oneB none,oneB none] [(2,dt x2),(3,dt x3),(4,dptr x0),(5,dptr x1),(47,dt v36.1),(38,dtup [dt v36.1,dt v36.2]),(164,dfz c25)] [(11,7,dbox q175_7 0 zE)] a w) ?_ (λ n175=>?_)
 ·
  rintro a175 w175 ⟨M175,q175_7,st175⟩
  refine aH2 (i:=10) (j:=11) (by decide +kernel) rfl rfl ?_ ?_
  ·
   refine st175.seg 1 (sc rfl (xExt (i:=1) rfl (tp rfl) rfl)<|.nil) [2,3,4,5,47,48,164] rfl [(11,7)] rfl iT (λ a838 w838 st838=>?_)
   exact aHe n204 (st838.fzS (g:=164) rfl)
  ·
   refine st175.alloc 6 rfl rfl kZ35 zU (by simp) [2,3,4,5,38,47,164] rfl [11] rfl rfl (λ b840 M840 a840 w840 st840=>?_)
   have st841:=st840.gs (Gs':=[oneB none,oneB none,oneB none,oneB none,oneB none,oneB none,oneB (some b840),oneB q175_7,oneB none,oneB none,oneB none,oneB none,oneB none,oneB none]) rfl
   exact aHe n209 (st841.fzS (g:=164) rfl)
 refine zm 4 3583 (λ a w=>∃ M1 q180_6,Sx (Frm.of w0) 164 M M1 [oneB none,oneB none,oneB none,oneB none,oneB none,oneB none,oneB q180_6,oneB none,oneB none,oneB none,oneB none,oneB none,oneB none,oneB none] [(2,dt x2),(3,dt x3),(4,dptr x0),(5,dptr x1),(48,dt v36.2),(38,dtup [dt v36.1,dt v36.2]),(164,dfz c25)] [(10,6,dbox q180_6 0 zo)] a w) ?_ (λ n180=>?_)
 ·
  rintro a180 w180 ⟨M180,q180_6,st180⟩
  refine aH2 (i:=9) (j:=12) (by decide +kernel) rfl rfl ?_ ?_
  ·
   refine st180.seg 1 (sc rfl (xExt (i:=0) rfl (tp rfl) rfl)<|.nil) [2,3,4,5,47,48,164] rfl [(10,6)] rfl iT (λ a842 w842 st842=>?_)
   exact aHe n200 (st842.fzS (g:=164) rfl)
  ·
   refine st180.alloc 7 rfl rfl kZ37 zS (by simp) [2,3,4,5,38,48,164] rfl [10] rfl rfl (λ b844 M844 a844 w844 st844=>?_)
   have st845:=st844.gs (Gs':=[oneB none,oneB none,oneB none,oneB none,oneB none,oneB none,oneB q180_6,oneB (some b844),oneB none,oneB none,oneB none,oneB none,oneB none,oneB none]) rfl
   exact aHe n218 (st845.fzS (g:=164) rfl)
 refine zm 4 5631 (λ a w=>∃ M1 q184_7,Sx (Frm.of w0) 164 M M1 [oneB none,oneB none,oneB none,oneB none,oneB none,oneB none,oneB none,oneB q184_7,oneB none,oneB none,oneB none,oneB none,oneB none,oneB none] [(2,dt x2),(3,dt x3),(4,dptr x0),(5,dptr x1),(48,dt v36.2),(38,dtup [dt v36.1,dt v36.2]),(164,dfz c25)] [(11,7,dbox q184_7 0 zE)] a w) ?_ (λ n184=>?_)
 ·
  rintro a184 w184 ⟨M184,q184_7,st184⟩
  refine aH2 (i:=9) (j:=11) (by decide +kernel) rfl rfl ?_ ?_
  ·
   refine st184.seg 1 (sc rfl (xExt (i:=0) rfl (tp rfl) rfl)<|.nil) [2,3,4,5,47,48,164] rfl [(11,7)] rfl iT (λ a846 w846 st846=>?_)
   exact aHe n204 (st846.fzS (g:=164) rfl)
  ·
   refine st184.alloc 6 rfl rfl kZ35 zU (by simp) [2,3,4,5,38,48,164] rfl [11] rfl rfl (λ b848 M848 a848 w848 st848=>?_)
   have st849:=st848.gs (Gs':=[oneB none,oneB none,oneB none,oneB none,oneB none,oneB none,oneB (some b848),oneB q184_7,oneB none,oneB none,oneB none,oneB none,oneB none,oneB none]) rfl
   exact aHe n218 (st849.fzS (g:=164) rfl)
 refine zm 4 6655 (λ a w=>∃ M1 q190_6 q190_7,Sx (Frm.of w0) 164 M M1 [oneB none,oneB none,oneB none,oneB none,oneB none,oneB none,oneB q190_6,oneB q190_7,oneB none,oneB none,oneB none,oneB none,oneB none,oneB none] [(2,dt x2),(3,dt x3),(4,dptr x0),(5,dptr x1),(38,dtup [dt v36.1,dt v36.2]),(164,dfz c25)] [(10,6,dbox q190_6 0 zo),(11,7,dbox q190_7 0 zE)] a w) ?_ (λ n190=>?_)
 ·
  rintro a190 w190 ⟨M190,q190_6,q190_7,st190⟩
  refine aH2 (i:=9) (j:=10) (by decide +kernel) rfl rfl ?_ ?_
  ·
   refine st190.seg 1 (sc rfl (xExt (i:=0) rfl (tp rfl) rfl)<|.nil) [2,3,4,5,38,47,164] rfl [(10,6),(11,7)] rfl ⟨iI,iT⟩ (λ a850 w850 st850=>?_)
   exact aHe n209 (st850.fzS (g:=164) rfl)
  ·
   refine st190.seg 1 (sc rfl (xExt (i:=1) rfl (tp rfl) rfl)<|.nil) [2,3,4,5,38,48,164] rfl [(10,6),(11,7)] rfl ⟨iI,iT⟩ (λ a851 w851 st851=>?_)
   exact aHe n218 (st851.fzS (g:=164) rfl)
 refine zm 5 1023 (λ a w=>∃ M1,Sx (Frm.of w0) 164 M M1 [oneB none,oneB none,oneB none,oneB none,oneB none,oneB none,oneB none,oneB none,oneB none,oneB none,oneB none,oneB none,oneB none,oneB none] [(2,dt x2),(3,dt x3),(4,dptr x0),(5,dptr x1),(47,dt v36.1),(38,dtup [dt v36.1,dt v36.2]),(164,dfz c25)] [] a w) ?_ (λ n145=>?_)
 ·
  rintro a145 w145 ⟨M145,st145⟩
  refine aH3 (i:=10) (j:=11) (k:=12) (by decide +kernel) rfl rfl rfl ?_ ?_ ?_
  ·
   refine st145.seg 1 (sc rfl (xExt (i:=1) rfl (tp rfl) rfl)<|.nil) [2,3,4,5,47,48,164] rfl [] rfl trivial (λ a852 w852 st852=>?_)
   exact aHe n167 (st852.fzS (g:=164) rfl)
  ·
   refine st145.alloc 6 rfl rfl kZ35 zU (by simp) [2,3,4,5,38,47,164] rfl [] rfl rfl (λ b854 M854 a854 w854 st854=>?_)
   have st855:=st854.gs (Gs':=[oneB none,oneB none,oneB none,oneB none,oneB none,oneB none,oneB (some b854),oneB none,oneB none,oneB none,oneB none,oneB none,oneB none,oneB none]) rfl
   exact aHe n171 (st855.fzS (g:=164) rfl)
  ·
   refine st145.alloc 7 rfl rfl kZ37 zS (by simp) [2,3,4,5,38,47,164] rfl [] rfl rfl (λ b857 M857 a857 w857 st857=>?_)
   have st858:=st857.gs (Gs':=[oneB none,oneB none,oneB none,oneB none,oneB none,oneB none,oneB none,oneB (some b857),oneB none,oneB none,oneB none,oneB none,oneB none,oneB none]) rfl
   exact aHe n175 (st858.fzS (g:=164) rfl)
 refine zm 5 1535 (λ a w=>∃ M1,Sx (Frm.of w0) 164 M M1 [oneB none,oneB none,oneB none,oneB none,oneB none,oneB none,oneB none,oneB none,oneB none,oneB none,oneB none,oneB none,oneB none,oneB none] [(2,dt x2),(3,dt x3),(4,dptr x0),(5,dptr x1),(48,dt v36.2),(38,dtup [dt v36.1,dt v36.2]),(164,dfz c25)] [] a w) ?_ (λ n147=>?_)
 ·
  rintro a147 w147 ⟨M147,st147⟩
  refine aH3 (i:=9) (j:=11) (k:=12) (by decide +kernel) rfl rfl rfl ?_ ?_ ?_
  ·
   refine st147.seg 1 (sc rfl (xExt (i:=0) rfl (tp rfl) rfl)<|.nil) [2,3,4,5,47,48,164] rfl [] rfl trivial (λ a859 w859 st859=>?_)
   exact aHe n167 (st859.fzS (g:=164) rfl)
  ·
   refine st147.alloc 6 rfl rfl kZ35 zU (by simp) [2,3,4,5,38,48,164] rfl [] rfl rfl (λ b861 M861 a861 w861 st861=>?_)
   have st862:=st861.gs (Gs':=[oneB none,oneB none,oneB none,oneB none,oneB none,oneB none,oneB (some b861),oneB none,oneB none,oneB none,oneB none,oneB none,oneB none,oneB none]) rfl
   exact aHe n180 (st862.fzS (g:=164) rfl)
  ·
   refine st147.alloc 7 rfl rfl kZ37 zS (by simp) [2,3,4,5,38,48,164] rfl [] rfl rfl (λ b864 M864 a864 w864 st864=>?_)
   have st865:=st864.gs (Gs':=[oneB none,oneB none,oneB none,oneB none,oneB none,oneB none,oneB none,oneB (some b864),oneB none,oneB none,oneB none,oneB none,oneB none,oneB none]) rfl
   exact aHe n184 (st865.fzS (g:=164) rfl)
 refine zm 5 2559 (λ a w=>∃ M1 q151_6,Sx (Frm.of w0) 164 M M1 [oneB none,oneB none,oneB none,oneB none,oneB none,oneB none,oneB q151_6,oneB none,oneB none,oneB none,oneB none,oneB none,oneB none,oneB none] [(2,dt x2),(3,dt x3),(4,dptr x0),(5,dptr x1),(38,dtup [dt v36.1,dt v36.2]),(164,dfz c25)] [(10,6,dbox q151_6 0 zo)] a w) ?_ (λ n151=>?_)
 ·
  rintro a151 w151 ⟨M151,q151_6,st151⟩
  refine aH3 (i:=9) (j:=10) (k:=12) (by decide +kernel) rfl rfl rfl ?_ ?_ ?_
  ·
   refine st151.seg 1 (sc rfl (xExt (i:=0) rfl (tp rfl) rfl)<|.nil) [2,3,4,5,38,47,164] rfl [(10,6)] rfl iT (λ a866 w866 st866=>?_)
   exact aHe n171 (st866.fzS (g:=164) rfl)
  ·
   refine st151.seg 1 (sc rfl (xExt (i:=1) rfl (tp rfl) rfl)<|.nil) [2,3,4,5,38,48,164] rfl [(10,6)] rfl iT (λ a867 w867 st867=>?_)
   exact aHe n180 (st867.fzS (g:=164) rfl)
  ·
   refine st151.alloc 7 rfl rfl kZ37 zS (by simp) [2,3,4,5,38,164] rfl [10] rfl rfl (λ b869 M869 a869 w869 st869=>?_)
   have st870:=st869.gs (Gs':=[oneB none,oneB none,oneB none,oneB none,oneB none,oneB none,oneB q151_6,oneB (some b869),oneB none,oneB none,oneB none,oneB none,oneB none,oneB none]) rfl
   exact aHe n190 (st870.fzS (g:=164) rfl)
 refine zm 5 4607 (λ a w=>∃ M1 q155_7,Sx (Frm.of w0) 164 M M1 [oneB none,oneB none,oneB none,oneB none,oneB none,oneB none,oneB none,oneB q155_7,oneB none,oneB none,oneB none,oneB none,oneB none,oneB none] [(2,dt x2),(3,dt x3),(4,dptr x0),(5,dptr x1),(38,dtup [dt v36.1,dt v36.2]),(164,dfz c25)] [(11,7,dbox q155_7 0 zE)] a w) ?_ (λ n155=>?_)
 ·
  rintro a155 w155 ⟨M155,q155_7,st155⟩
  refine aH3 (i:=9) (j:=10) (k:=11) (by decide +kernel) rfl rfl rfl ?_ ?_ ?_
  ·
   refine st155.seg 1 (sc rfl (xExt (i:=0) rfl (tp rfl) rfl)<|.nil) [2,3,4,5,38,47,164] rfl [(11,7)] rfl iT (λ a871 w871 st871=>?_)
   exact aHe n175 (st871.fzS (g:=164) rfl)
  ·
   refine st155.seg 1 (sc rfl (xExt (i:=1) rfl (tp rfl) rfl)<|.nil) [2,3,4,5,38,48,164] rfl [(11,7)] rfl iT (λ a872 w872 st872=>?_)
   exact aHe n184 (st872.fzS (g:=164) rfl)
  ·
   refine st155.alloc 6 rfl rfl kZ35 zU (by simp) [2,3,4,5,38,164] rfl [11] rfl rfl (λ b874 M874 a874 w874 st874=>?_)
   have st875:=st874.gs (Gs':=[oneB none,oneB none,oneB none,oneB none,oneB none,oneB none,oneB (some b874),oneB q155_7,oneB none,oneB none,oneB none,oneB none,oneB none,oneB none]) rfl
   exact aHe n190 (st875.fzS (g:=164) rfl)
 refine zm 5 6399 (λ a w=>∃ M1 q160_6 q160_7,Sx (Frm.of w0) 164 M M1 [oneB none,oneB none,oneB none,oneB none,oneB none,oneB none,oneB q160_6,oneB q160_7,oneB none,oneB none,oneB none,oneB none,oneB none,oneB none] [(2,dt x2),(3,dt x3),(4,dptr x0),(5,dptr x1),(46,dtup [dt v36.1,dt v36.2]),(164,dfz c25)] [(10,6,dbox q160_6 0 zo),(11,7,dbox q160_7 0 zE)] a w) ?_ (λ n160=>?_)
 ·
  rintro a160 w160 ⟨M160,q160_6,q160_7,st160⟩
  refine aH1 (i:=8) (by decide +kernel) rfl ?_
  refine st160.seg 1 (sc rfl (oM rfl (tp rfl))<|.nil) [2,3,4,5,38,164] rfl [(10,6),(11,7)] rfl ⟨iI,iT⟩ (λ a876 w876 st876=>?_)
  exact aHe n190 (st876.fzS (g:=164) rfl)
 refine zm 6 511 (λ a w=>∃ M1,Sx (Frm.of w0) 164 M M1 [oneB none,oneB none,oneB none,oneB none,oneB none,oneB none,oneB none,oneB none,oneB none,oneB none,oneB none,oneB none,oneB none,oneB none] [(2,dt x2),(3,dt x3),(4,dptr x0),(5,dptr x1),(38,dtup [dt v36.1,dt v36.2]),(164,dfz c25)] [] a w) ?_ (λ n125=>?_)
 ·
  rintro a125 w125 ⟨M125,st125⟩
  refine aH4 (i:=9) (j:=10) (k:=11) (l:=12) (by decide +kernel) rfl rfl rfl rfl ?_ ?_ ?_ ?_
  ·
   refine st125.seg 1 (sc rfl (xExt (i:=0) rfl (tp rfl) rfl)<|.nil) [2,3,4,5,38,47,164] rfl [] rfl trivial (λ a877 w877 st877=>?_)
   exact aHe n145 (st877.fzS (g:=164) rfl)
  ·
   refine st125.seg 1 (sc rfl (xExt (i:=1) rfl (tp rfl) rfl)<|.nil) [2,3,4,5,38,48,164] rfl [] rfl trivial (λ a878 w878 st878=>?_)
   exact aHe n147 (st878.fzS (g:=164) rfl)
  ·
   refine st125.alloc 6 rfl rfl kZ35 zU (by simp) [2,3,4,5,38,164] rfl [] rfl rfl (λ b880 M880 a880 w880 st880=>?_)
   have st881:=st880.gs (Gs':=[oneB none,oneB none,oneB none,oneB none,oneB none,oneB none,oneB (some b880),oneB none,oneB none,oneB none,oneB none,oneB none,oneB none,oneB none]) rfl
   exact aHe n151 (st881.fzS (g:=164) rfl)
  ·
   refine st125.alloc 7 rfl rfl kZ37 zS (by simp) [2,3,4,5,38,164] rfl [] rfl rfl (λ b883 M883 a883 w883 st883=>?_)
   have st884:=st883.gs (Gs':=[oneB none,oneB none,oneB none,oneB none,oneB none,oneB none,oneB none,oneB (some b883),oneB none,oneB none,oneB none,oneB none,oneB none,oneB none]) rfl
   exact aHe n155 (st884.fzS (g:=164) rfl)
 refine zm 6 2303 (λ a w=>∃ M1 q129_6,Sx (Frm.of w0) 164 M M1 [oneB none,oneB none,oneB none,oneB none,oneB none,oneB none,oneB q129_6,oneB none,oneB none,oneB none,oneB none,oneB none,oneB none,oneB none] [(2,dt x2),(3,dt x3),(4,dptr x0),(5,dptr x1),(46,dtup [dt v36.1,dt v36.2]),(164,dfz c25)] [(10,6,dbox q129_6 0 zo)] a w) ?_ (λ n129=>?_)
 ·
  rintro a129 w129 ⟨M129,q129_6,st129⟩
  refine aH2 (i:=8) (j:=12) (by decide +kernel) rfl rfl ?_ ?_
  ·
   refine st129.seg 1 (sc rfl (oM rfl (tp rfl))<|.nil) [2,3,4,5,38,164] rfl [(10,6)] rfl iT (λ a885 w885 st885=>?_)
   exact aHe n151 (st885.fzS (g:=164) rfl)
  ·
   refine st129.alloc 7 rfl rfl kZ37 zS (by simp) [2,3,4,5,46,164] rfl [10] rfl rfl (λ b887 M887 a887 w887 st887=>?_)
   have st888:=st887.gs (Gs':=[oneB none,oneB none,oneB none,oneB none,oneB none,oneB none,oneB q129_6,oneB (some b887),oneB none,oneB none,oneB none,oneB none,oneB none,oneB none]) rfl
   exact aHe n160 (st888.fzS (g:=164) rfl)
 refine zm 6 4351 (λ a w=>∃ M1 q133_7,Sx (Frm.of w0) 164 M M1 [oneB none,oneB none,oneB none,oneB none,oneB none,oneB none,oneB none,oneB q133_7,oneB none,oneB none,oneB none,oneB none,oneB none,oneB none] [(2,dt x2),(3,dt x3),(4,dptr x0),(5,dptr x1),(46,dtup [dt v36.1,dt v36.2]),(164,dfz c25)] [(11,7,dbox q133_7 0 zE)] a w) ?_ (λ n133=>?_)
 ·
  rintro a133 w133 ⟨M133,q133_7,st133⟩
  refine aH2 (i:=8) (j:=11) (by decide +kernel) rfl rfl ?_ ?_
  ·
   refine st133.seg 1 (sc rfl (oM rfl (tp rfl))<|.nil) [2,3,4,5,38,164] rfl [(11,7)] rfl iT (λ a889 w889 st889=>?_)
   exact aHe n155 (st889.fzS (g:=164) rfl)
  ·
   refine st133.alloc 6 rfl rfl kZ35 zU (by simp) [2,3,4,5,46,164] rfl [11] rfl rfl (λ b891 M891 a891 w891 st891=>?_)
   have st892:=st891.gs (Gs':=[oneB none,oneB none,oneB none,oneB none,oneB none,oneB none,oneB (some b891),oneB q133_7,oneB none,oneB none,oneB none,oneB none,oneB none,oneB none]) rfl
   exact aHe n160 (st892.fzS (g:=164) rfl)
 refine zm 6 6271 (λ a w=>∃ M1 q138_6 q138_7,Sx (Frm.of w0) 164 M M1 [oneB none,oneB none,oneB none,oneB none,oneB none,oneB none,oneB q138_6,oneB q138_7,oneB none,oneB none,oneB none,oneB none,oneB none,oneB none] [(2,dt x2),(3,dt x3),(4,dptr x0),(5,dptr x1),(40,dt v30),(42,dt v32),(44,dt v34),(45,dt x3),(164,dfz c25)] [(10,6,dbox q138_6 0 zo),(11,7,dbox q138_7 0 zE)] a w) ?_ (λ n138=>?_)
 ·
  rintro a138 w138 ⟨M138,q138_6,q138_7,st138⟩
  refine aH1 (i:=7) (by decide +kernel) rfl ?_
  refine st138.seg 1 (sc rfl (zq (l:=[.tmp 40,.tmp 42,.tmp 44,.tmp 45]) rfl kN10 (.cons (tp rfl) (.cons (tp rfl) (.cons (tp rfl) (.cons (tp rfl) .nil)))) (ql p36))<|.nil) [2,3,4,5,46,164] rfl [(10,6),(11,7)] rfl ⟨iI,iT⟩ (λ a893 w893 st893=>?_)
  exact aHe n160 (st893.fzS (g:=164) rfl)
 refine zm 7 255 (λ a w=>∃ M1,Sx (Frm.of w0) 164 M M1 [oneB none,oneB none,oneB none,oneB none,oneB none,oneB none,oneB none,oneB none,oneB none,oneB none,oneB none,oneB none,oneB none,oneB none] [(2,dt x2),(3,dt x3),(4,dptr x0),(5,dptr x1),(46,dtup [dt v36.1,dt v36.2]),(164,dfz c25)] [] a w) ?_ (λ n105=>?_)
 ·
  rintro a105 w105 ⟨M105,st105⟩
  refine aH3 (i:=8) (j:=11) (k:=12) (by decide +kernel) rfl rfl rfl ?_ ?_ ?_
  ·
   refine st105.seg 1 (sc rfl (oM rfl (tp rfl))<|.nil) [2,3,4,5,38,164] rfl [] rfl trivial (λ a894 w894 st894=>?_)
   exact aHe n125 (st894.fzS (g:=164) rfl)
  ·
   refine st105.alloc 6 rfl rfl kZ35 zU (by simp) [2,3,4,5,46,164] rfl [] rfl rfl (λ b896 M896 a896 w896 st896=>?_)
   have st897:=st896.gs (Gs':=[oneB none,oneB none,oneB none,oneB none,oneB none,oneB none,oneB (some b896),oneB none,oneB none,oneB none,oneB none,oneB none,oneB none,oneB none]) rfl
   exact aHe n129 (st897.fzS (g:=164) rfl)
  ·
   refine st105.alloc 7 rfl rfl kZ37 zS (by simp) [2,3,4,5,46,164] rfl [] rfl rfl (λ b899 M899 a899 w899 st899=>?_)
   have st900:=st899.gs (Gs':=[oneB none,oneB none,oneB none,oneB none,oneB none,oneB none,oneB none,oneB (some b899),oneB none,oneB none,oneB none,oneB none,oneB none,oneB none]) rfl
   exact aHe n133 (st900.fzS (g:=164) rfl)
 refine zm 7 2175 (λ a w=>∃ M1 q109_6,Sx (Frm.of w0) 164 M M1 [oneB none,oneB none,oneB none,oneB none,oneB none,oneB none,oneB q109_6,oneB none,oneB none,oneB none,oneB none,oneB none,oneB none,oneB none] [(2,dt x2),(3,dt x3),(4,dptr x0),(5,dptr x1),(40,dt v30),(42,dt v32),(44,dt v34),(45,dt x3),(164,dfz c25)] [(10,6,dbox q109_6 0 zo)] a w) ?_ (λ n109=>?_)
 ·
  rintro a109 w109 ⟨M109,q109_6,st109⟩
  refine aH2 (i:=7) (j:=12) (by decide +kernel) rfl rfl ?_ ?_
  ·
   refine st109.seg 1 (sc rfl (zq (l:=[.tmp 40,.tmp 42,.tmp 44,.tmp 45]) rfl kN10 (.cons (tp rfl) (.cons (tp rfl) (.cons (tp rfl) (.cons (tp rfl) .nil)))) (ql p36))<|.nil) [2,3,4,5,46,164] rfl [(10,6)] rfl iT (λ a901 w901 st901=>?_)
   exact aHe n129 (st901.fzS (g:=164) rfl)
  ·
   refine st109.alloc 7 rfl rfl kZ37 zS (by simp) [2,3,4,5,40,42,44,45,164] rfl [10] rfl rfl (λ b903 M903 a903 w903 st903=>?_)
   have st904:=st903.gs (Gs':=[oneB none,oneB none,oneB none,oneB none,oneB none,oneB none,oneB q109_6,oneB (some b903),oneB none,oneB none,oneB none,oneB none,oneB none,oneB none]) rfl
   exact aHe n138 (st904.fzS (g:=164) rfl)
 refine zm 7 4223 (λ a w=>∃ M1 q113_7,Sx (Frm.of w0) 164 M M1 [oneB none,oneB none,oneB none,oneB none,oneB none,oneB none,oneB none,oneB q113_7,oneB none,oneB none,oneB none,oneB none,oneB none,oneB none] [(2,dt x2),(3,dt x3),(4,dptr x0),(5,dptr x1),(40,dt v30),(42,dt v32),(44,dt v34),(45,dt x3),(164,dfz c25)] [(11,7,dbox q113_7 0 zE)] a w) ?_ (λ n113=>?_)
 ·
  rintro a113 w113 ⟨M113,q113_7,st113⟩
  refine aH2 (i:=7) (j:=11) (by decide +kernel) rfl rfl ?_ ?_
  ·
   refine st113.seg 1 (sc rfl (zq (l:=[.tmp 40,.tmp 42,.tmp 44,.tmp 45]) rfl kN10 (.cons (tp rfl) (.cons (tp rfl) (.cons (tp rfl) (.cons (tp rfl) .nil)))) (ql p36))<|.nil) [2,3,4,5,46,164] rfl [(11,7)] rfl iT (λ a905 w905 st905=>?_)
   exact aHe n133 (st905.fzS (g:=164) rfl)
  ·
   refine st113.alloc 6 rfl rfl kZ35 zU (by simp) [2,3,4,5,40,42,44,45,164] rfl [11] rfl rfl (λ b907 M907 a907 w907 st907=>?_)
   have st908:=st907.gs (Gs':=[oneB none,oneB none,oneB none,oneB none,oneB none,oneB none,oneB (some b907),oneB q113_7,oneB none,oneB none,oneB none,oneB none,oneB none,oneB none]) rfl
   exact aHe n138 (st908.fzS (g:=164) rfl)
 refine zm 7 6239 (λ a w=>∃ M1 q118_6 q118_7,Sx (Frm.of w0) 164 M M1 [oneB none,oneB none,oneB none,oneB none,oneB none,oneB none,oneB q118_6,oneB q118_7,oneB none,oneB none,oneB none,oneB none,oneB none,oneB none] [(2,dt x2),(3,dt x3),(4,dptr x0),(5,dptr x1),(40,dt v30),(42,dt v32),(43,dt x2),(45,dt x3),(164,dfz c25)] [(10,6,dbox q118_6 0 zo),(11,7,dbox q118_7 0 zE)] a w) ?_ (λ n118=>?_)
 ·
  rintro a118 w118 ⟨M118,q118_6,q118_7,st118⟩
  refine aH1 (i:=5) (by decide +kernel) rfl ?_
  refine st118.seg 1 (sc rfl (zq (l:=[.tmp 43]) rfl kN13 (.cons (tp rfl) .nil) ((y7 p34)).fn)<|.nil) [2,3,4,5,40,42,44,45,164] rfl [(10,6),(11,7)] rfl ⟨iI,iT⟩ (λ a909 w909 st909=>?_)
  exact aHe n138 (st909.fzS (g:=164) rfl)
 refine zm 8 127 (λ a w=>∃ M1,Sx (Frm.of w0) 164 M M1 [oneB none,oneB none,oneB none,oneB none,oneB none,oneB none,oneB none,oneB none,oneB none,oneB none,oneB none,oneB none,oneB none,oneB none] [(2,dt x2),(3,dt x3),(4,dptr x0),(5,dptr x1),(40,dt v30),(42,dt v32),(44,dt v34),(45,dt x3),(164,dfz c25)] [] a w) ?_ (λ n85=>?_)
 ·
  rintro a85 w85 ⟨M85,st85⟩
  refine aH3 (i:=7) (j:=11) (k:=12) (by decide +kernel) rfl rfl rfl ?_ ?_ ?_
  ·
   refine st85.seg 1 (sc rfl (zq (l:=[.tmp 40,.tmp 42,.tmp 44,.tmp 45]) rfl kN10 (.cons (tp rfl) (.cons (tp rfl) (.cons (tp rfl) (.cons (tp rfl) .nil)))) (ql p36))<|.nil) [2,3,4,5,46,164] rfl [] rfl trivial (λ a910 w910 st910=>?_)
   exact aHe n105 (st910.fzS (g:=164) rfl)
  ·
   refine st85.alloc 6 rfl rfl kZ35 zU (by simp) [2,3,4,5,40,42,44,45,164] rfl [] rfl rfl (λ b912 M912 a912 w912 st912=>?_)
   have st913:=st912.gs (Gs':=[oneB none,oneB none,oneB none,oneB none,oneB none,oneB none,oneB (some b912),oneB none,oneB none,oneB none,oneB none,oneB none,oneB none,oneB none]) rfl
   exact aHe n109 (st913.fzS (g:=164) rfl)
  ·
   refine st85.alloc 7 rfl rfl kZ37 zS (by simp) [2,3,4,5,40,42,44,45,164] rfl [] rfl rfl (λ b915 M915 a915 w915 st915=>?_)
   have st916:=st915.gs (Gs':=[oneB none,oneB none,oneB none,oneB none,oneB none,oneB none,oneB none,oneB (some b915),oneB none,oneB none,oneB none,oneB none,oneB none,oneB none]) rfl
   exact aHe n113 (st916.fzS (g:=164) rfl)
 refine zm 8 2143 (λ a w=>∃ M1 q89_6,Sx (Frm.of w0) 164 M M1 [oneB none,oneB none,oneB none,oneB none,oneB none,oneB none,oneB q89_6,oneB none,oneB none,oneB none,oneB none,oneB none,oneB none,oneB none] [(2,dt x2),(3,dt x3),(4,dptr x0),(5,dptr x1),(40,dt v30),(42,dt v32),(43,dt x2),(45,dt x3),(164,dfz c25)] [(10,6,dbox q89_6 0 zo)] a w) ?_ (λ n89=>?_)
 ·
  rintro a89 w89 ⟨M89,q89_6,st89⟩
  refine aH2 (i:=5) (j:=12) (by decide +kernel) rfl rfl ?_ ?_
  ·
   refine st89.seg 1 (sc rfl (zq (l:=[.tmp 43]) rfl kN13 (.cons (tp rfl) .nil) ((y7 p34)).fn)<|.nil) [2,3,4,5,40,42,44,45,164] rfl [(10,6)] rfl iT (λ a917 w917 st917=>?_)
   exact aHe n109 (st917.fzS (g:=164) rfl)
  ·
   refine st89.alloc 7 rfl rfl kZ37 zS (by simp) [2,3,4,5,40,42,43,45,164] rfl [10] rfl rfl (λ b919 M919 a919 w919 st919=>?_)
   have st920:=st919.gs (Gs':=[oneB none,oneB none,oneB none,oneB none,oneB none,oneB none,oneB q89_6,oneB (some b919),oneB none,oneB none,oneB none,oneB none,oneB none,oneB none]) rfl
   exact aHe n118 (st920.fzS (g:=164) rfl)
 refine zm 8 4191 (λ a w=>∃ M1 q93_7,Sx (Frm.of w0) 164 M M1 [oneB none,oneB none,oneB none,oneB none,oneB none,oneB none,oneB none,oneB q93_7,oneB none,oneB none,oneB none,oneB none,oneB none,oneB none] [(2,dt x2),(3,dt x3),(4,dptr x0),(5,dptr x1),(40,dt v30),(42,dt v32),(43,dt x2),(45,dt x3),(164,dfz c25)] [(11,7,dbox q93_7 0 zE)] a w) ?_ (λ n93=>?_)
 ·
  rintro a93 w93 ⟨M93,q93_7,st93⟩
  refine aH2 (i:=5) (j:=11) (by decide +kernel) rfl rfl ?_ ?_
  ·
   refine st93.seg 1 (sc rfl (zq (l:=[.tmp 43]) rfl kN13 (.cons (tp rfl) .nil) ((y7 p34)).fn)<|.nil) [2,3,4,5,40,42,44,45,164] rfl [(11,7)] rfl iT (λ a921 w921 st921=>?_)
   exact aHe n113 (st921.fzS (g:=164) rfl)
  ·
   refine st93.alloc 6 rfl rfl kZ35 zU (by simp) [2,3,4,5,40,42,43,45,164] rfl [11] rfl rfl (λ b923 M923 a923 w923 st923=>?_)
   have st924:=st923.gs (Gs':=[oneB none,oneB none,oneB none,oneB none,oneB none,oneB none,oneB (some b923),oneB q93_7,oneB none,oneB none,oneB none,oneB none,oneB none,oneB none]) rfl
   exact aHe n118 (st924.fzS (g:=164) rfl)
 refine zm 8 6231 (λ a w=>∃ M1 q98_6 q98_7,Sx (Frm.of w0) 164 M M1 [oneB none,oneB none,oneB none,oneB none,oneB none,oneB none,oneB q98_6,oneB q98_7,oneB none,oneB none,oneB none,oneB none,oneB none,oneB none] [(2,dt x2),(3,dt x3),(4,dptr x0),(5,dptr x1),(40,dt v30),(41,dt x1),(43,dt x2),(45,dt x3),(164,dfz c25)] [(10,6,dbox q98_6 0 zo),(11,7,dbox q98_7 0 zE)] a w) ?_ (λ n98=>?_)
 ·
  rintro a98 w98 ⟨M98,q98_6,q98_7,st98⟩
  refine aH1 (i:=3) (by decide +kernel) rfl ?_
  refine st98.seg 1 (sc rfl (zq (l:=[.tmp 41]) rfl kN12 (.cons (tp rfl) .nil) (FnN.fn<|y8 p32))<|.nil) [2,3,4,5,40,42,43,45,164] rfl [(10,6),(11,7)] rfl ⟨iI,iT⟩ (λ a925 w925 st925=>?_)
  exact aHe n118 (st925.fzS (g:=164) rfl)
 refine zm 9 95 (λ a w=>∃ M1,Sx (Frm.of w0) 164 M M1 [oneB none,oneB none,oneB none,oneB none,oneB none,oneB none,oneB none,oneB none,oneB none,oneB none,oneB none,oneB none,oneB none,oneB none] [(2,dt x2),(3,dt x3),(4,dptr x0),(5,dptr x1),(40,dt v30),(42,dt v32),(43,dt x2),(45,dt x3),(164,dfz c25)] [] a w) ?_ (λ n66=>?_)
 ·
  rintro a66 w66 ⟨M66,st66⟩
  refine aH3 (i:=5) (j:=11) (k:=12) (by decide +kernel) rfl rfl rfl ?_ ?_ ?_
  ·
   refine st66.seg 1 (sc rfl (zq (l:=[.tmp 43]) rfl kN13 (.cons (tp rfl) .nil) ((y7 p34)).fn)<|.nil) [2,3,4,5,40,42,44,45,164] rfl [] rfl trivial (λ a926 w926 st926=>?_)
   exact aHe n85 (st926.fzS (g:=164) rfl)
  ·
   refine st66.alloc 6 rfl rfl kZ35 zU (by simp) [2,3,4,5,40,42,43,45,164] rfl [] rfl rfl (λ b928 M928 a928 w928 st928=>?_)
   have st929:=st928.gs (Gs':=[oneB none,oneB none,oneB none,oneB none,oneB none,oneB none,oneB (some b928),oneB none,oneB none,oneB none,oneB none,oneB none,oneB none,oneB none]) rfl
   exact aHe n89 (st929.fzS (g:=164) rfl)
  ·
   refine st66.alloc 7 rfl rfl kZ37 zS (by simp) [2,3,4,5,40,42,43,45,164] rfl [] rfl rfl (λ b931 M931 a931 w931 st931=>?_)
   have st932:=st931.gs (Gs':=[oneB none,oneB none,oneB none,oneB none,oneB none,oneB none,oneB none,oneB (some b931),oneB none,oneB none,oneB none,oneB none,oneB none,oneB none]) rfl
   exact aHe n93 (st932.fzS (g:=164) rfl)
 refine zm 9 2135 (λ a w=>∃ M1 q70_6,Sx (Frm.of w0) 164 M M1 [oneB none,oneB none,oneB none,oneB none,oneB none,oneB none,oneB q70_6,oneB none,oneB none,oneB none,oneB none,oneB none,oneB none,oneB none] [(2,dt x2),(3,dt x3),(4,dptr x0),(5,dptr x1),(40,dt v30),(41,dt x1),(43,dt x2),(45,dt x3),(164,dfz c25)] [(10,6,dbox q70_6 0 zo)] a w) ?_ (λ n70=>?_)
 ·
  rintro a70 w70 ⟨M70,q70_6,st70⟩
  refine aH2 (i:=3) (j:=12) (by decide +kernel) rfl rfl ?_ ?_
  ·
   refine st70.seg 1 (sc rfl (zq (l:=[.tmp 41]) rfl kN12 (.cons (tp rfl) .nil) (FnN.fn<|y8 p32))<|.nil) [2,3,4,5,40,42,43,45,164] rfl [(10,6)] rfl iT (λ a933 w933 st933=>?_)
   exact aHe n89 (st933.fzS (g:=164) rfl)
  ·
   refine st70.alloc 7 rfl rfl kZ37 zS (by simp) [2,3,4,5,40,41,43,45,164] rfl [10] rfl rfl (λ b935 M935 a935 w935 st935=>?_)
   have st936:=st935.gs (Gs':=[oneB none,oneB none,oneB none,oneB none,oneB none,oneB none,oneB q70_6,oneB (some b935),oneB none,oneB none,oneB none,oneB none,oneB none,oneB none]) rfl
   exact aHe n98 (st936.fzS (g:=164) rfl)
 refine zm 9 4183 (λ a w=>∃ M1 q74_7,Sx (Frm.of w0) 164 M M1 [oneB none,oneB none,oneB none,oneB none,oneB none,oneB none,oneB none,oneB q74_7,oneB none,oneB none,oneB none,oneB none,oneB none,oneB none] [(2,dt x2),(3,dt x3),(4,dptr x0),(5,dptr x1),(40,dt v30),(41,dt x1),(43,dt x2),(45,dt x3),(164,dfz c25)] [(11,7,dbox q74_7 0 zE)] a w) ?_ (λ n74=>?_)
 ·
  rintro a74 w74 ⟨M74,q74_7,st74⟩
  refine aH2 (i:=3) (j:=11) (by decide +kernel) rfl rfl ?_ ?_
  ·
   refine st74.seg 1 (sc rfl (zq (l:=[.tmp 41]) rfl kN12 (.cons (tp rfl) .nil) (FnN.fn<|y8 p32))<|.nil) [2,3,4,5,40,42,43,45,164] rfl [(11,7)] rfl iT (λ a937 w937 st937=>?_)
   exact aHe n93 (st937.fzS (g:=164) rfl)
  ·
   refine st74.alloc 6 rfl rfl kZ35 zU (by simp) [2,3,4,5,40,41,43,45,164] rfl [11] rfl rfl (λ b939 M939 a939 w939 st939=>?_)
   have st940:=st939.gs (Gs':=[oneB none,oneB none,oneB none,oneB none,oneB none,oneB none,oneB (some b939),oneB q74_7,oneB none,oneB none,oneB none,oneB none,oneB none,oneB none]) rfl
   exact aHe n98 (st940.fzS (g:=164) rfl)
 refine zm 9 6229 (λ a w=>∃ M1 q79_6 q79_7,Sx (Frm.of w0) 164 M M1 [oneB none,oneB none,oneB none,oneB none,oneB none,oneB none,oneB q79_6,oneB q79_7,oneB none,oneB none,oneB none,oneB none,oneB none,oneB none] [(2,dt x2),(3,dt x3),(4,dptr x0),(5,dptr x1),(39,dt x0),(41,dt x1),(43,dt x2),(45,dt x3),(164,dfz c25)] [(10,6,dbox q79_6 0 zo),(11,7,dbox q79_7 0 zE)] a w) ?_ (λ n79=>?_)
 ·
  rintro a79 w79 ⟨M79,q79_6,q79_7,st79⟩
  refine aH1 (i:=1) (by decide +kernel) rfl ?_
  refine st79.seg 1 (sc rfl (zq (l:=[.tmp 39]) rfl kN11 (.cons (tp rfl) .nil) (FnN.fn<|yy p30))<|.nil) [2,3,4,5,40,41,43,45,164] rfl [(10,6),(11,7)] rfl ⟨iI,iT⟩ (λ a941 w941 st941=>?_)
  exact aHe n98 (st941.fzS (g:=164) rfl)
 refine zm 10 87 (λ a w=>∃ M1,Sx (Frm.of w0) 164 M M1 [oneB none,oneB none,oneB none,oneB none,oneB none,oneB none,oneB none,oneB none,oneB none,oneB none,oneB none,oneB none,oneB none,oneB none] [(2,dt x2),(3,dt x3),(4,dptr x0),(5,dptr x1),(40,dt v30),(41,dt x1),(43,dt x2),(45,dt x3),(164,dfz c25)] [] a w) ?_ (λ n56=>?_)
 ·
  rintro a56 w56 ⟨M56,st56⟩
  refine aH3 (i:=3) (j:=11) (k:=12) (by decide +kernel) rfl rfl rfl ?_ ?_ ?_
  ·
   refine st56.seg 1 (sc rfl (zq (l:=[.tmp 41]) rfl kN12 (.cons (tp rfl) .nil) (FnN.fn<|y8 p32))<|.nil) [2,3,4,5,40,42,43,45,164] rfl [] rfl trivial (λ a942 w942 st942=>?_)
   exact aHe n66 (st942.fzS (g:=164) rfl)
  ·
   refine st56.alloc 6 rfl rfl kZ35 zU (by simp) [2,3,4,5,40,41,43,45,164] rfl [] rfl rfl (λ b944 M944 a944 w944 st944=>?_)
   have st945:=st944.gs (Gs':=[oneB none,oneB none,oneB none,oneB none,oneB none,oneB none,oneB (some b944),oneB none,oneB none,oneB none,oneB none,oneB none,oneB none,oneB none]) rfl
   exact aHe n70 (st945.fzS (g:=164) rfl)
  ·
   refine st56.alloc 7 rfl rfl kZ37 zS (by simp) [2,3,4,5,40,41,43,45,164] rfl [] rfl rfl (λ b947 M947 a947 w947 st947=>?_)
   have st948:=st947.gs (Gs':=[oneB none,oneB none,oneB none,oneB none,oneB none,oneB none,oneB none,oneB (some b947),oneB none,oneB none,oneB none,oneB none,oneB none,oneB none]) rfl
   exact aHe n74 (st948.fzS (g:=164) rfl)
 refine zm 10 2133 (λ a w=>∃ M1 q60_6,Sx (Frm.of w0) 164 M M1 [oneB none,oneB none,oneB none,oneB none,oneB none,oneB none,oneB q60_6,oneB none,oneB none,oneB none,oneB none,oneB none,oneB none,oneB none] [(2,dt x2),(3,dt x3),(4,dptr x0),(5,dptr x1),(39,dt x0),(41,dt x1),(43,dt x2),(45,dt x3),(164,dfz c25)] [(10,6,dbox q60_6 0 zo)] a w) ?_ (λ n60=>?_)
 ·
  rintro a60 w60 ⟨M60,q60_6,st60⟩
  refine aH2 (i:=1) (j:=12) (by decide +kernel) rfl rfl ?_ ?_
  ·
   refine st60.seg 1 (sc rfl (zq (l:=[.tmp 39]) rfl kN11 (.cons (tp rfl) .nil) (FnN.fn<|yy p30))<|.nil) [2,3,4,5,40,41,43,45,164] rfl [(10,6)] rfl iT (λ a949 w949 st949=>?_)
   exact aHe n70 (st949.fzS (g:=164) rfl)
  ·
   refine st60.alloc 7 rfl rfl kZ37 zS (by simp) [2,3,4,5,39,41,43,45,164] rfl [10] rfl rfl (λ b951 M951 a951 w951 st951=>?_)
   have st952:=st951.gs (Gs':=[oneB none,oneB none,oneB none,oneB none,oneB none,oneB none,oneB q60_6,oneB (some b951),oneB none,oneB none,oneB none,oneB none,oneB none,oneB none]) rfl
   exact aHe n79 (st952.fzS (g:=164) rfl)
 refine zm 10 4181 (λ a w=>∃ M1 q64_7,Sx (Frm.of w0) 164 M M1 [oneB none,oneB none,oneB none,oneB none,oneB none,oneB none,oneB none,oneB q64_7,oneB none,oneB none,oneB none,oneB none,oneB none,oneB none] [(2,dt x2),(3,dt x3),(4,dptr x0),(5,dptr x1),(39,dt x0),(41,dt x1),(43,dt x2),(45,dt x3),(164,dfz c25)] [(11,7,dbox q64_7 0 zE)] a w) ?_ (λ n64=>?_)
 ·
  rintro a64 w64 ⟨M64,q64_7,st64⟩
  refine aH2 (i:=1) (j:=11) (by decide +kernel) rfl rfl ?_ ?_
  ·
   refine st64.seg 1 (sc rfl (zq (l:=[.tmp 39]) rfl kN11 (.cons (tp rfl) .nil) (FnN.fn<|yy p30))<|.nil) [2,3,4,5,40,41,43,45,164] rfl [(11,7)] rfl iT (λ a953 w953 st953=>?_)
   exact aHe n74 (st953.fzS (g:=164) rfl)
  ·
   refine st64.alloc 6 rfl rfl kZ35 zU (by simp) [2,3,4,5,39,41,43,45,164] rfl [11] rfl rfl (λ b955 M955 a955 w955 st955=>?_)
   have st956:=st955.gs (Gs':=[oneB none,oneB none,oneB none,oneB none,oneB none,oneB none,oneB (some b955),oneB q64_7,oneB none,oneB none,oneB none,oneB none,oneB none,oneB none]) rfl
   exact aHe n79 (st956.fzS (g:=164) rfl)
 refine aH3 (i:=1) (j:=11) (k:=12) (by decide +kernel) rfl rfl rfl ?_ ?_ ?_
 ·
  refine st29.seg 1 (sc rfl (zq (l:=[.tmp 39]) rfl kN11 (.cons (tp rfl) .nil) (FnN.fn<|yy p30))<|.nil) [2,3,4,5,40,41,43,45,164] rfl [] rfl trivial (λ a957 w957 st957=>?_)
  exact aHe n56 (st957.fzS (g:=164) rfl)
 ·
  refine st29.alloc 6 rfl rfl kZ35 zU (by simp) [2,3,4,5,39,41,43,45,164] rfl [] rfl rfl (λ b959 M959 a959 w959 st959=>?_)
  have st960:=st959.gs (Gs':=[oneB none,oneB none,oneB none,oneB none,oneB none,oneB none,oneB (some b959),oneB none,oneB none,oneB none,oneB none,oneB none,oneB none,oneB none]) rfl
  exact aHe n60 (st960.fzS (g:=164) rfl)
 ·
  refine st29.alloc 7 rfl rfl kZ37 zS (by simp) [2,3,4,5,39,41,43,45,164] rfl [] rfl rfl (λ b962 M962 a962 w962 st962=>?_)
  have st963:=st962.gs (Gs':=[oneB none,oneB none,oneB none,oneB none,oneB none,oneB none,oneB none,oneB (some b962),oneB none,oneB none,oneB none,oneB none,oneB none,oneB none]) rfl
  exact aHe n64 (st963.fzS (g:=164) rfl)
open Go.RowKit Tryz
theorem sumL_app(f:Dir->Nat):∀ (l m:List Dir),sumL f (l++m)=sumL f l+sumL f m
 | [],m=>by simp[sumL]
 |
  x::l,m=>by
  show f x+sumL f (l++m)=(f x+sumL f l)+sumL f m
  rw[sumL_app f l m,Nat.add_assoc]
theorem sumL_set(f:Dir->Nat):∀ (l:List Dir) (k:Nat) (y:Dir),sumL f (l.set k y)<=sumL f l+f y
 | [],k,y=>by simp[sumL]
 | x::l,0,y=>by rw[List.set_cons_zero];unfold sumL;omega
 | x::l,k+1,y=>by rw[List.set_cons_succ];unfold sumL;have:=sumL_set f l k y;omega
theorem sumL_le{α:Type}(f:α->Nat)(n:Nat):∀ (l:List α),(∀ x∈l,f x<=n)->sumL f l<=n*l.length
 | [],_=>by simp[sumL]
 |
  x::l,h=>by
  have h1:=h x (by simp)
  have h2:=sumL_le f n l λ y hy=>h y (by simp[hy])
  unfold sumL
  rw[List.length_cons,Nat.mul_succ]
  omega
theorem items_small{f:File}(hf:yA f=true){r:Int}{p x:Str}(hx:x∈qK r p f):x.l.length<=13:=by
 unfold qK at hx
 split at hx
 ·
  cases hx
 ·
  split at hx
  ·
   rw[List.mem_singleton.1 hx]
   split
   ·
    show 1<=13;omega
   ·
    rename_i hi
    have hi:f.init=false:=by simpa using hi
    unfold yA at hf
    split at hf
    ·
     cases hf
    ·
     rw[Bool.and_eq_true] at hf
     have:=(qa hf.1).2
     omega
  ·
   split at hx
   ·
    rw[List.mem_singleton.1 hx]
    have h1:=(XV f.pkg p).2
    have h2:=yC (Xh hf)
    show((Ys f.pkg p).l++[47]).length<=13
    rw[List.length_append]
    show(Ys f.pkg p).l.length+1<=13
    omega
   ·
    cases hx
theorem fresh_small{d:Disk}(hd:DiskOk d)(r:Int){p:Str}(hp:zr p=true):jQ (Z3 d r p)<=179:=by
 have h1:=yC hp
 have h2:=QI hd.tree r p
 have h3:sumL (λ s:Str=>s.l.length) (listL d.tree r p)<=13*(listL d.tree r p).length:=sumL_le _ 13 _ λ x hx=>by
  unfold listL at hx
  rw[(XQ _).2,List.mem_flatMap] at hx
  obtain⟨f,hf,hx⟩:=hx
  exact items_small (YT hd.tree hf) hx
 show p.l.length+(wc (listL d.tree r p)+0)<=179
 unfold wc
 omega
theorem fill_tot{f:Finder}{d:Disk}(hd:DiskOk d)(r:Int){p:Str}(hp:zr p=true):yK (wl f d r p).1.dirs<=yK f.dirs+180:=by
 have h1:=fresh_small hd r hp
 unfold wl
 cases hk:dirK f.dirs r p with
 |
  some k=>
  simp only
  split
  ·
   exact Nat.le_add_right _ _
  ·
   have:=sumL_set jQ f.dirs k (Z3 d r p)
   show yK (f.dirs.set k (Z3 d r p))<=_
   unfold yK
   rw[List.length_set]
   omega
 |
  none=>
  show yK (if f.dirs.length<20 then f.dirs++[Z3 d r p] else f.dirs)<=_
  split
  ·
   unfold yK
   rw[sumL_app,List.length_append]
   show f.dirs.length+1+(sumL jQ f.dirs+(jQ (Z3 d r p)+0))<=_
   omega
  ·
   omega
theorem runK_tot{d:Disk}(hd:DiskOk d){p s:Str}(hp:zr p=true):∀ (rs acc:List Int) (f:Finder),yK (ym d p s f acc rs).1.dirs<=yK f.dirs+180*rs.length
 | [],acc,f=>by unfold ym;simp
 |
  r::rs,acc,f=>by
  have h1:=fill_tot (f:=f) hd r hp
  unfold ym
  rw[List.length_cons]
  split
  ·
   simp only;omega
  ·
   split
   ·
    simp only;omega
   ·
    have:=runK_tot hd hp rs (if(xB (wl f d r p).2 (mark s)&&Yp d.tree.files r (child p s))=true then acc++[r] else acc) (wl f d r p).1 (s:=s)
    omega
theorem restK_tot{d:Disk}(hd:DiskOk d){list:List Str}(hl:∀ k,zr (join (list.take k))=true):∀ (xs:List Str) (k:Nat) (f:Finder) (out:Spec),out.roots.length<=3->yK (wN d list k f out xs).1.dirs<=yK f.dirs+540*xs.length
 | [],_,f,_,_=>by unfold wN;simp
 |
  x::xs,k,f,out,ho=>by
  unfold wN
  rw[List.length_cons]
  split
  ·
   simp only;omega
  ·
   have h1:=runK_tot hd (hl k) (s:=x) out.roots [] f
   have h2:=XB (d:=d) (p:=join (list.take k)) (s:=x) out.roots [] f
   simp only[List.length_nil] at h2
   have h3:=restK_tot hd hl xs (k+1) (ym d (join (list.take k)) x f [] out.roots).1 (ym d (join (list.take k)) x f [] out.roots).2 (by omega)
   omega
section
variable{f:Finder}{d:Disk}{path:List Int}{n:Str}
theorem cached_tot:yD (jR f d path n).1<=yD f+2000:=by
 show yK _+0<=yK f.dirs+0+2000
 unfold jR
 split
 ·
  rename_i h
  obtain⟨h1,h2,h3,h4⟩:=cached_ok h
  have hp:=validPath_len h3
  have hs:=(jY h4).2
  have:=restK_tot h2 (WH h4) (zD n dot) 0 f ⟨3,-1,path⟩ hp
  unfold seenL
  omega
 ·
  show 0+0+0<=_;omega
theorem cached_rlen:(jR f d path n).2.roots.length<=path.length:=by
 unfold jR
 split
 ·
  exact QJ ..
 ·
  exact Nat.zero_le _
theorem tail_cached{g:Finder}{s:Spec}(hg:yD g<=2097152)(hs:WL s<=2097152){H:Option (Finder×Spec)}(hH:H=some (g,s)):
  ((xh g (1:Int)).bind λ v368=>
  (wK s v368.2).bind λ v375=>
  (yI v368.1 (1:Int)).bind λ v381=>
  if(cmpI .lss v381 (0:Int))=true then(some false)
  else((xA v375.1 v381).bind λ v390=>
  if(cmpI .lss v390 (0:Int))=true then(some false)
  else(if(cmpI .neq v390 v375.2)=true then(some false)
  else(H.bind λ v413=>
  (yh v413.1 g).bind λ v628=>
  (gO ((!v628) == false) (y9 v413.2 s)).bind λ v629=>
  if((!v628)||(!v629))=true then(some false)
  else((yI v368.1 (1:Int)).bind λ v639=>
  if(cmpI .lss v639 (0:Int))=true then(some false)
  else((xA v375.1 v639).bind λ v648=>
  if(cmpI .lss v648 (0:Int))=true then(some false)
  else(if(cmpI .neq v648 v375.2)=true then(some false)
  else(some true))))))))=some true:=by
 obtain⟨y,k',h1,h2,h3,h4⟩:=Jb (x:=g) (k:=1) hg (by omega) (by omega)
 obtain⟨z,k2,j1,j2,j3,j4⟩:=markSpec_ok (x:=s) (k:=k') hs (by omega) (by omega)
 have h5:cmpI .lss k' 0=false:=by simp[cmpI];omega
 have h6:cmpI .lss k2 0=false:=by simp[cmpI];omega
 have e1:yh g g=some true:=by rw[Ww (by omega)];simp
 have e2:y9 s s=some true:=by rw[eqSpec_eq (by omega)];simp
 rw[h1,obS]
 simp only
 rw[j1,obS,h4,obS,h5,if_neg (by decide)]
 simp only
 rw[j4,obS,h6,if_neg (by decide),Wu,if_neg (by decide),hH,obS]
 simp only
 rw[e1,obS,e2,ya,obS,if_neg (by decide),obS,h5,if_neg (by decide),j4,obS,h6,if_neg (by decide),Wu,if_neg (by decide)]
theorem zaJ(hf:Okd f)(hd:Okd d):xS f d path n=some true:=by
 unfold xS
 cases hp:cmpI .gtr (path.length:Int) 1048576 with
 | true=>rw[if_pos rfl]
 | false=>
 have hp':path.length<=1048576:=by have:=of_decide_eq_false hp;omega
 rw[if_neg (by decide)]
 cases hq:cmpI .gtr (n.l.length:Int) 1048576 with
 | true=>rw[if_pos rfl]
 | false=>
 have hq':n.l.length<=1048576:=by have:=of_decide_eq_false hq;omega
 have hsh:sho n:=by unfold sho;omega
 rw[if_neg (by decide),szFinder_eq hf (by omega) (by omega),obS]
 cases hs:cmpI .lss (szR (yD f) 1048576) 0 with
 | true=>rw[if_pos rfl]
 | false=>
 have hs':¬ szR (yD f) 1048576<0:=of_decide_eq_false hs
 obtain⟨h1,_⟩:=szR_nn (t:=yD f) (left:=1048576) (by omega)
 have hF:yD f<=1048576:=by omega
 rw[if_neg (by decide),szDisk_eq hd (by omega) (by omega),obS]
 cases hs2:cmpI .lss (szR (qU d) (szR (yD f) 1048576)) 0 with
 | true=>rw[if_pos rfl]
 | false=>
 have hs2':¬ szR (qU d) (szR (yD f) 1048576)<0:=of_decide_eq_false hs2
 obtain⟨h2,_⟩:=szR_nn (t:=qU d) (left:=szR (yD f) 1048576) (by omega)
 have hD:qU d<=1048576:=by omega
 have a1:yD f=yK f.dirs+(0):=rfl
 have a2:qU d=ZA d.tree+(yK d.dirs+(0)):=rfl
 have b1:qf f.dirs:=sm_dirs (by omega)
 have b2:jf d.tree:=sm_tree (by omega)
 have b3:qf d.dirs:=sm_dirs (by omega)
 have hg:=cached_tot (f:=f) (d:=d) (path:=path) (n:=n)
 have hr:=cached_rlen (f:=f) (d:=d) (path:=path) (n:=n)
 have hgs:WL (jR f d path n).2<=2097152:=by show Y6 _+0<=_;unfold Y6;omega
 have e1:=toFinder_eq hF
 have e2:=toDisk_eq hD
 have e0:xR path=some path:=toIntS_eq (by unfold Y6;exact hp')
 have e3:x9 f d path n=some ((jR f d path n).1,(jR f d path n).2):=JA b1 b2 b3 hp' hsh
 have e4:yJ f d path n=some ((jR f d path n).1,(jR f d path n).2):=FindCached_eq b1 b2 b3 hp' hsh
 generalize (jR f d path n).1=g at hg e3 e4
 generalize (jR f d path n).2=s at hr hgs e3 e4
 have e5:yh g g=some true:=by rw[Ww (by omega)];simp
 have e5':y9 s s=some true:=by rw[eqSpec_eq (by omega)];simp
 have e6:yh f f=some true:=by rw[Ww (by omega)];simp
 have e7:j8 d d=some true:=by rw[eqDisk_eq (by omega)];simp
 have e8:jg path path=some true:=by rw[eqIntS_eq (by omega)];simp
 obtain⟨y1,k1,m1,c1,d1,_⟩:=Jb (x:=f) (k:=1) (by omega) (by omega) (by omega)
 obtain⟨y2,k2,m2,c2,d2⟩:=markDisk_ok (x:=d) (k:=k1) (by omega) (by omega) (by omega)
 obtain⟨y3,k3,m3,c3,d3,_⟩:=QT (x:=path) (k:=k2) (by omega) (by omega) (by omega)
 have hk:cmpI .lss k3 0=false:=by simp[cmpI];omega
 rw[if_neg (by decide),e1,obS,e2,obS,e0,obS,e3,obS,obS,obS,obS,e4,obS]
 simp only
 rw[e5,obS,e5',ya,obS,if_neg (by decide),obS,e6,obS,if_neg (by decide),obS,e7,obS,if_neg (by decide),obS,e8,obS,if_neg (by decide),m1,obS]
 simp only
 rw[m2,obS]
 simp only
 rw[m3,obS]
 simp only
 rw[hk,ya,obS,ya,obS,if_neg (by decide)]
 exact tail_cached (H:=yJ f d path n) (by omega) hgs e4
end
theorem XX(f:Finder)(d:Disk)(p:List Int)(s:Str):Fn prog 3 [dt f,dt d,dt p,dt s] (dt true):=.okd (x:=f) (by simp) λ hf=>.okd (x:=d) (by simp) λ hd=>Xl (zaJ hf hd)
end Go.Proofs.YtdoidiipacdbpaaGreatDoor
