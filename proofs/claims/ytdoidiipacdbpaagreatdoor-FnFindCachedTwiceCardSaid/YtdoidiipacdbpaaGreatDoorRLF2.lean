import Derived.Test.YtdoidiipacdbpaaGreatDoorRKc
import Derived.Test.YtdoidiipacdbpaaGreatDoorRPb
namespace Go.Proofs.YtdoidiipacdbpaaGreatDoor
open Go.RowKit Tryz
set_option maxRecDepth 10000
set_option maxHeartbeats 1600000
theorem kN25:fnB prog 25=true:=by kernel_rfl
theorem kN14:fnB prog 14=true:=by kernel_rfl
theorem kN10:fnB prog 10=true:=by kernel_rfl
theorem kN26:fnB prog 26=true:=by kernel_rfl
theorem kN27:fnB prog 27=true:=by kernel_rfl
def wN(x0:List UInt8):Option Bool:=
if(cmpI .gtr (x0.length:Int) (1048576:Int))=true then(some true)
else((yH x0).bind λ v6=>
(yO v6.1 v6.2.1 v6.2.2.1 v6.2.2.2).bind λ v20=>
(xw v6.1 v6.2.1 v6.2.2.1 v6.2.2.2).bind λ v33=>
(yo v20.1 v33.1).bind λ v46=>
(gO ((!v46) == false) (ye v20.2 v33.2)).bind λ v47=>
(gO (((!v46)||(!v47)) == false) (ya v6.1)).bind λ v48=>
(gO ((((!v46)||(!v47))||(!v48)) == false) (yD v6.2.1)).bind λ v49=>
(gO (((((!v46)||(!v47))||(!v48))||(!v49)) == false) (y6 v6.2.2.1)).bind λ v50=>
(gO ((((((!v46)||(!v47))||(!v48))||(!v49))||(!v50)) == false) (yc v6.2.2.2)).bind λ v51=>
if((((((!v46)||(!v47))||(!v48))||(!v49))||(!v50))||(!v51))=true then((yo v20.1 v33.1).bind λ v61=>
(gO (v61 == true) (ye v20.2 v33.2)).bind λ v62=>
some (v61&&v62))
else(if(cmpI .geq (v20.1.dirs.length:Int) (20:Int)||cmpI .geq v20.1.fills (1000:Int))=true then(some true)
else((yO v20.1 v6.2.1 v6.2.2.1 v6.2.2.2).bind λ v70=>
(ye v70.2 v20.2).bind λ v83=>
(gO ((v83&&cmpI .eql v70.1.fills v20.1.fills) == true) (jz v70.1.dirs v20.1.dirs)).bind λ v84=>
some ((v83&&cmpI .eql v70.1.fills v20.1.fills)&&v84))))
theorem X4{x0:List UInt8}{r:Bool}(h:wN x0=some r):Fn prog 5 [dt x0] (dt r):=by
 unfold wN at h
 refine fnx (fn:=f5) 8 func5 rfl (oD rfl) rfl (λ M w0 a0 st0=>?_)
 refine st0.sq0 (sc rfl (oA rfl cB)<|.nil) [0] rfl (λ a1 w1 st1=>wp_seq ?_)
 refine st1.sq0 (sc rfl (oM rfl (tp rfl))<|sc rfl (jJ rfl kL57 (tp rfl))<|sc rfl (oCI rfl (tp rfl) cI)<|.nil) [0,15] rfl (λ a2 w2 st2=>?_)
 refine st2.cs (c:=15) rfl h (λ c3 h3=>?_) (λ c4 h4=>?_)
 ·
  refine st2.sq0 (sc rfl (oA rfl cB)<|.nil) [2] rfl (λ a5 w5 st5=>wp_ret (zd ?_))
  exact st5.ret rfl rfl h3
 refine wp_skip (za (wp_seq (wp_region_list ?_)))
 obtain⟨v6,p6,h7⟩:=bs h4
 refine st2.seg 7 (
  sc rfl (oM rfl (tp rfl))<|sc rfl (zo (l:=[.tmp 17]) rfl kN25 (.cons (tp rfl) .nil) (Ze p6))<|sc rfl (oM rfl (tp rfl))<|sc rfl (xExt (i:=0) rfl (tp rfl) rfl)<|sc rfl (xExt (i:=1) rfl (tp rfl) rfl)<|sc rfl (xExt (i:=2) rfl (tp rfl) rfl)<|sc rfl (xExt (i:=3) rfl (tp rfl) rfl)<|.nil) [19,20,21,22] rfl [] rfl trivial (λ a8 w8 st8=>?_)
 refine st8.alloc 0 rfl rfl kZ35 yB (by simp) [19,20,21,22] rfl [] rfl rfl (λ b10 M10 a10 w10 st10=>?_)
 have st11:=st10.gs (Gs':=[oneB (some b10),oneB none,oneB none,oneB none,oneB none,oneB none,oneB none,oneB none]) rfl
 refine st11.alloc 1 rfl rfl kZ45 jh (by simp) [19,20,21,22] rfl [3] rfl rfl (λ b13 M13 a13 w13 st13=>?_)
 have st14:=st13.gs (Gs':=[oneB (some b10),oneB (some b13),oneB none,oneB none,oneB none,oneB none,oneB none,oneB none]) rfl
 refine st14.store (sb:=3) 0 FldS.id rfl rfl rfl kT35 rfl rfl (tp rfl) rfl [20,21,22] rfl [4] rfl rfl (λ M16 w16 st16=>?_)
 refine st16.store (sb:=4) 1 FldS.id rfl rfl rfl kT45 rfl rfl (tp rfl) rfl [21,22] rfl [3] rfl rfl (λ M18 w18 st18=>?_)
 refine st18.seg 2 (
  sc rfl (oA rfl (tp rfl))<|sc rfl (oA rfl (tp rfl))<|.nil) [5,6] rfl [(3,0),(4,1)] rfl ⟨iI,iT⟩ (λ a19 w19 st19=>?_)
 refine wpList_nil (za (wp_seq (wp_region_list ?_)))
 obtain⟨v20,p20,h21⟩:=bs h7
 refine st19.seg 8 (
  sc rfl (zf rfl kT35 (tp rfl))<|sc rfl (zf rfl kT45 (tp rfl))<|sc rfl (oM rfl (tp rfl))<|sc rfl (oM rfl (tp rfl))<|sc rfl (zo (l:=[.tmp 24,.tmp 25,.tmp 26,.tmp 27]) rfl kN14 (.cons (tp rfl) (.cons (tp rfl) (.cons (tp rfl) (.cons (tp rfl) .nil)))) (FnN.fnoo<|xv p20))<|sc rfl (oM rfl (tp rfl))<|sc rfl (xExt (i:=0) rfl (tp rfl) rfl)<|sc rfl (xExt (i:=1) rfl (tp rfl) rfl)<|.nil) [5,6,29,30] rfl [(3,0),(4,1)] rfl ⟨iI,iT⟩ (λ a22 w22 st22=>?_)
 refine st22.alloc 2 rfl rfl kZ35 yB (by simp) [5,6,29,30] rfl [3,4] rfl rfl (λ b24 M24 a24 w24 st24=>?_)
 have st25:=st24.gs (Gs':=[oneB (some b10),oneB (some b13),oneB (some b24),oneB none,oneB none,oneB none,oneB none,oneB none]) rfl
 refine st25.alloc 3 rfl rfl kZ37 yz (by simp) [5,6,29,30] rfl [3,4,7] rfl rfl (λ b27 M27 a27 w27 st27=>?_)
 have st28:=st27.gs (Gs':=[oneB (some b10),oneB (some b13),oneB (some b24),oneB (some b27),oneB none,oneB none,oneB none,oneB none]) rfl
 refine st28.store (sb:=7) 2 FldS.id rfl rfl rfl kT35 rfl rfl (tp rfl) rfl [5,6,30] rfl [3,4,8] rfl rfl (λ M30 w30 st30=>?_)
 refine st30.store (sb:=8) 3 FldS.id rfl rfl rfl kT37 rfl rfl (tp rfl) rfl [5,6] rfl [3,4,7] rfl rfl (λ M32 w32 st32=>wpList_nil (za (wp_seq (wp_region_list ?_))))
 obtain⟨v33,p33,h34⟩:=bs h21
 refine st32.seg 8 (
  sc rfl (zf rfl kT35 (tp rfl))<|sc rfl (zf rfl kT45 (tp rfl))<|sc rfl (oM rfl (tp rfl))<|sc rfl (oM rfl (tp rfl))<|sc rfl (zo (l:=[.tmp 32,.tmp 33,.tmp 34,.tmp 35]) rfl kN10 (.cons (tp rfl) (.cons (tp rfl) (.cons (tp rfl) (.cons (tp rfl) .nil)))) (Ym p33))<|sc rfl (oM rfl (tp rfl))<|sc rfl (xExt (i:=0) rfl (tp rfl) rfl)<|sc rfl (xExt (i:=1) rfl (tp rfl) rfl)<|.nil) [5,6,37,38] rfl [(3,0),(4,1),(7,2),(8,3)] rfl ⟨iI,⟨iI,⟨iI,iT⟩⟩⟩ (λ a35 w35 st35=>?_)
 refine st35.alloc 4 rfl rfl kZ35 yB (by simp) [5,6,37,38] rfl [3,4,7,8] rfl rfl (λ b37 M37 a37 w37 st37=>?_)
 have st38:=st37.gs (Gs':=[oneB (some b10),oneB (some b13),oneB (some b24),oneB (some b27),oneB (some b37),oneB none,oneB none,oneB none]) rfl
 refine st38.alloc 5 rfl rfl kZ37 yz (by simp) [5,6,37,38] rfl [3,4,7,8,9] rfl rfl (λ b40 M40 a40 w40 st40=>?_)
 have st41:=st40.gs (Gs':=[oneB (some b10),oneB (some b13),oneB (some b24),oneB (some b27),oneB (some b37),oneB (some b40),oneB none,oneB none]) rfl
 refine st41.store (sb:=9) 4 FldS.id rfl rfl rfl kT35 rfl rfl (tp rfl) rfl [5,6,38] rfl [3,4,7,8,10] rfl rfl (λ M43 w43 st43=>?_)
 refine st43.store (sb:=10) 5 FldS.id rfl rfl rfl kT37 rfl rfl (tp rfl) rfl [5,6] rfl [3,4,7,8,9] rfl rfl (λ M45 w45 st45=>wpList_nil (za (wp_seq ?_)))
 obtain⟨v46,p46,v47,p47,v48,p48,v49,p49,h55⟩:=bsD h34
 obtain⟨v50,p50,v51,p51,h57⟩:=bsB h55
 refine st45.sq (sc rfl (zf rfl kT35 (tp rfl))<|sc rfl (zf rfl kT35 (tp rfl))<|sc rfl (zo (l:=[.tmp 39,.tmp 40]) rfl kN26 (.cons (tp rfl) (.cons (tp rfl) .nil)) (wJ p46))<|sc rfl (yE rfl (tp rfl))<|sc rfl (oM rfl (tp rfl))<|sg rfl rfl (λ hg=>zf rfl kT37 (tp rfl))<|sg rfl rfl (λ hg=>zf rfl kT37 (tp rfl))<|sg rfl rfl (λ hg=>zo (l:=[.tmp 44,.tmp 45]) rfl kN27 (.cons (ze hg rfl) (.cons (ze hg rfl) .nil)) (xo (gh hg p47)))<|sg rfl rfl (λ hg=>yE rfl (ze hg rfl))<|sc rfl (yU rfl (tp rfl) (zb rfl))<|sc rfl (oM rfl (tp rfl))<|sg rfl rfl (λ hg=>zf rfl kT35 (tp rfl))<|sg rfl rfl (λ hg=>zo (l:=[.tmp 50]) rfl kN28 (.cons (ze hg rfl) .nil) (yT (gh hg p48)))<|sg rfl rfl (λ hg=>yE rfl (ze hg rfl))<|sc rfl (yU rfl (tp rfl) (zb rfl))<|sc rfl (oM rfl (tp rfl))<|sg rfl rfl (λ hg=>zf rfl kT45 (tp rfl))<|sg rfl rfl (λ hg=>zo (l:=[.tmp 55]) rfl kN29 (.cons (ze hg rfl) .nil) (wz (gh hg p49)))<|sg rfl rfl (λ hg=>yE rfl (ze hg rfl))<|sc rfl (yU rfl (tp rfl) (zb rfl))<|sc rfl (oM rfl (tp rfl))<|sg rfl rfl (λ hg=>oM rfl (tp rfl))<|sg rfl rfl (λ hg=>zo (l:=[.tmp 60]) rfl kN30 (.cons (ze hg rfl) .nil) (qw (gh hg p50)))<|sg rfl rfl (λ hg=>yE rfl (ze hg rfl))<|sc rfl (yU rfl (tp rfl) (zb rfl))<|sc rfl (oM rfl (tp rfl))<|sg rfl rfl (λ hg=>oM rfl (tp rfl))<|sg rfl rfl (λ hg=>zo (l:=[.tmp 65]) rfl kN31 (.cons (ze hg rfl) .nil) (yM (gh hg p51)))<|sg rfl rfl (λ hg=>yE rfl (ze hg rfl))<|sc rfl (yU rfl (tp rfl) (zb rfl))<|.nil) [5,6,68] rfl [(4,1),(7,2),(8,3),(9,4),(10,5)] rfl ⟨iI,⟨iI,⟨iI,⟨iI,iT⟩⟩⟩⟩ (λ a58 w58 st58=>?_)
 refine st58.cs (c:=68) rfl h57 (λ c59 h59=>?_) (λ c60 h60=>?_)
 ·
  obtain⟨v61,p61,v62,p62,h64⟩:=bsB h59
  refine st58.sq0 (sc rfl (zf rfl kT35 (tp rfl))<|sc rfl (zf rfl kT35 (tp rfl))<|sc rfl (zo (l:=[.tmp 69,.tmp 70]) rfl kN26 (.cons (tp rfl) (.cons (tp rfl) .nil)) (wJ p61))<|sc rfl (oM rfl (tp rfl))<|sg rfl rfl (λ hg=>zf rfl kT37 (tp rfl))<|sg rfl rfl (λ hg=>zf rfl kT37 (tp rfl))<|sg rfl rfl (λ hg=>zo (l:=[.tmp 73,.tmp 74]) rfl kN27 (.cons (ze hg rfl) (.cons (ze hg rfl) .nil)) (xo (gh hg p62)))<|sc rfl (yK rfl (tp rfl) (zb rfl))<|sc rfl (oA rfl (tp rfl))<|.nil) [2] rfl (λ a65 w65 st65=>wp_ret (zd ?_))
  exact st65.ret rfl rfl h64
 refine wp_skip (za (wp_seq ?_))
 refine st58.sq (sc rfl (zB Finder.fld0 rfl jE (tp rfl))<|sc rfl (zf rfl kT33 (tp rfl))<|sc rfl (jJ rfl kL33 (tp rfl))<|sc rfl (oCI rfl (tp rfl) cI)<|sc rfl (oM rfl (tp rfl))<|sg rfl rfl (λ hg=>zB Finder.fld1 rfl WE (tp rfl))<|sg rfl rfl (λ hg=>zf rfl kT3 (ze hg rfl))<|sg rfl rfl (λ hg=>oCI rfl (ze hg rfl) cI)<|sc rfl (yU rfl (tp rfl) (zb rfl))<|.nil) [5,6,85] rfl [(4,1),(7,2),(8,3)] rfl ⟨iI,⟨iI,iT⟩⟩ (λ a66 w66 st66=>?_)
 refine st66.cs (c:=85) rfl h60 (λ c67 h67=>?_) (λ c68 h68=>?_)
 ·
  refine st66.sq0 (sc rfl (oA rfl cB)<|.nil) [2] rfl (λ a69 w69 st69=>wp_ret (zd ?_))
  exact st69.ret rfl rfl h67
 refine wp_skip (za (wp_seq (wp_region_list ?_)))
 obtain⟨v70,p70,h71⟩:=bs h68
 refine st66.seg 8 (
  sc rfl (zf rfl kT35 (tp rfl))<|sc rfl (zf rfl kT45 (tp rfl))<|sc rfl (oM rfl (tp rfl))<|sc rfl (oM rfl (tp rfl))<|sc rfl (zo (l:=[.tmp 87,.tmp 88,.tmp 89,.tmp 90]) rfl kN14 (.cons (tp rfl) (.cons (tp rfl) (.cons (tp rfl) (.cons (tp rfl) .nil)))) (FnN.fnoo<|xv p70))<|sc rfl (oM rfl (tp rfl))<|sc rfl (xExt (i:=0) rfl (tp rfl) rfl)<|sc rfl (xExt (i:=1) rfl (tp rfl) rfl)<|.nil) [92,93] rfl [(7,2),(8,3)] rfl ⟨iI,iT⟩ (λ a72 w72 st72=>?_)
 refine st72.alloc 6 rfl rfl kZ35 yB (by simp) [92,93] rfl [7,8] rfl rfl (λ b74 M74 a74 w74 st74=>?_)
 have st75:=st74.gs (Gs':=[oneB (some b10),oneB (some b13),oneB (some b24),oneB (some b27),oneB (some b37),oneB (some b40),oneB (some b74),oneB none]) rfl
 refine st75.alloc 7 rfl rfl kZ37 yz (by simp) [92,93] rfl [7,8,11] rfl rfl (λ b77 M77 a77 w77 st77=>?_)
 have st78:=st77.gs (Gs':=[oneB (some b10),oneB (some b13),oneB (some b24),oneB (some b27),oneB (some b37),oneB (some b40),oneB (some b74),oneB (some b77)]) rfl
 refine st78.store (sb:=11) 6 FldS.id rfl rfl rfl kT35 rfl rfl (tp rfl) rfl [93] rfl [7,8,12] rfl rfl (λ M80 w80 st80=>?_)
 refine st80.store (sb:=12) 7 FldS.id rfl rfl rfl kT37 rfl rfl (tp rfl) rfl [] rfl [7,8,11] rfl rfl (λ M82 w82 st82=>wpList_nil (za ?_))
 obtain⟨v83,p83,v84,p84,h86⟩:=bsB h71
 refine st82.sq0 (sc rfl (zf rfl kT37 (tp rfl))<|sc rfl (zf rfl kT37 (tp rfl))<|sc rfl (zo (l:=[.tmp 94,.tmp 95]) rfl kN27 (.cons (tp rfl) (.cons (tp rfl) .nil)) (xo p83))<|sc rfl (oM rfl (tp rfl))<|sg rfl rfl (λ hg=>zB Finder.fld1 rfl WE (tp rfl))<|sg rfl rfl (λ hg=>zf rfl kT3 (ze hg rfl))<|sg rfl rfl (λ hg=>zB Finder.fld1 rfl WE (tp rfl))<|sg rfl rfl (λ hg=>zf rfl kT3 (ze hg rfl))<|sg rfl rfl (λ hg=>oCI rfl (ze hg rfl) (ze hg rfl))<|sc rfl (yK rfl (tp rfl) (zb rfl))<|sc rfl (oM rfl (tp rfl))<|sg rfl rfl (λ hg=>zB Finder.fld0 rfl jE (tp rfl))<|sg rfl rfl (λ hg=>zf rfl kT33 (ze hg rfl))<|sg rfl rfl (λ hg=>zB Finder.fld0 rfl jE (tp rfl))<|sg rfl rfl (λ hg=>zf rfl kT33 (ze hg rfl))<|sg rfl rfl (λ hg=>zo (l:=[.tmp 106,.tmp 108]) rfl kN34 (.cons (ze hg rfl) (.cons (ze hg rfl) .nil)) (Wn (gh hg p84)))<|sc rfl (yK rfl (tp rfl) (zb rfl))<|sc rfl (oA rfl (tp rfl))<|.nil) [2] rfl (λ a87 w87 st87=>wp_ret ?_)
 exact st87.ret rfl rfl h86
open Go.RowKit Tryz
theorem X5(c:List UInt8):wN c=some true:=by
 unfold wN
 refine Qv λ f d path s hf hd ht hp hs=>?_
 have hpl:=X2 hp
 have hg:=zak hf hd hp hs
 have hsh:sho s:=by have:=y8 hs;unfold sho;omega
 have he:ql (qd f d path s).1 d path s=qd (qd f d path s).1 d path s:=by
  unfold ql
  rw[xE.2 hg,hd.fit,hp,hs]
  rfl
 have hr:=Xq f d path s
 dsimp only
 cases hl:cmpI .geq ((qd f d path s).1.dirs.length:Int) 20||cmpI .geq (qd f d path s).1.fills 1000 with
 | true=>rfl
 |
  false=>
  rw[Bool.or_eq_false_iff] at hl
  have hl1:(qd f d path s).1.dirs.length<20:=by have:=of_decide_eq_false hl.1;omega
  obtain⟨a1,a2,a3⟩:=seen_again hl1
  rw[if_neg (by decide),X3 hg.1.smd ht hd.ok.smd (by omega) hsh,obS,he,a1,a2,a3,JL (by omega),obS,Qa (by have:=hg.1.sm;omega) (λ x hx=>(hg.1.smd.2 x hx).2)]
  simp[cmpI,gO]
theorem WP(c:List UInt8):Fn prog 5 [dt c] (dt true):=X4 (X5 c)
end Go.Proofs.YtdoidiipacdbpaaGreatDoor
