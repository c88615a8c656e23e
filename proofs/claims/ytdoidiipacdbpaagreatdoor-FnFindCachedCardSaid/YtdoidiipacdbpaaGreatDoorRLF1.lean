import Derived.Test.YtdoidiipacdbpaaGreatDoorRKc
import Derived.Test.YtdoidiipacdbpaaGreatDoorRPb
namespace Go.Proofs.YtdoidiipacdbpaaGreatDoor
open Go.RowKit Tryz
set_option maxRecDepth 10000
set_option maxHeartbeats 1600000
theorem kN25:fnB prog 25=true:=by kernel_rfl
theorem kN14:fnB prog 14=true:=by kernel_rfl
theorem kN10:fnB prog 10=true:=by kernel_rfl
theorem kN26:fnB prog 26=true:=by kernel_rfl
theorem kN27:fnB prog 27=true:=by kernel_rfl
theorem kN32:fnB prog 32=true:=by kernel_rfl
theorem kN33:fnB prog 33=true:=by kernel_rfl
def qm(x0:List UInt8):Option Bool:=
if(cmpI .gtr (x0.length:Int) (1048576:Int))=true then(some true)
else((yH x0).bind λ v6=>
(yO v6.1 v6.2.1 v6.2.2.1 v6.2.2.2).bind λ v20=>
(xw v6.1 v6.2.1 v6.2.2.1 v6.2.2.2).bind λ v33=>
(yo v20.1 v33.1).bind λ v46=>
(gO ((!v46) == false) (ye v20.2 v33.2)).bind λ v47=>
(gO (((!v46)||(!v47)) == false) (ya v6.1)).bind λ v48=>
(gO ((((!v46)||(!v47))||(!v48)) == false) (yD v6.2.1)).bind λ v49=>
(gO (((((!v46)||(!v47))||(!v48))||(!v49)) == false) (y6 v6.2.2.1)).bind λ v50=>
(gO ((((((!v46)||(!v47))||(!v48))||(!v49))||(!v50)) == false) (yc v6.2.2.2)).bind λ v51=>
if((((((!v46)||(!v47))||(!v48))||(!v49))||(!v50))||(!v51))=true then((yo v20.1 v33.1).bind λ v61=>
(gO (v61 == true) (ye v20.2 v33.2)).bind λ v62=>
some (v61&&v62))
else((wC v6.1 v6.2.1).bind λ v66=>
if(cmpI .gtr (v66.length:Int) (0:Int))=true then((ya v20.1).bind λ v71=>
some v71)
else((jP v6.2.1.tree v6.2.2.1 v6.2.2.2).bind λ v74=>
(ye v20.2 v74).bind λ v75=>
(gO (v75 == true) (wC v20.1 v6.2.1)).bind λ v76=>
(gO ((v75&&cmpI .eql (v76.length:Int) (0:Int)) == true) (ya v20.1)).bind λ v77=>
some ((v75&&cmpI .eql (v76.length:Int) (0:Int))&&v77))))
theorem JP{x0:List UInt8}{r:Bool}(h:qm x0=some r):Fn prog 4 [dt x0] (dt r):=by
 unfold qm at h
 refine fnx (fn:=f4) 6 func4 rfl (oD rfl) rfl (λ M w0 a0 st0=>?_)
 refine st0.sq0 (sc rfl (oA rfl cB)<|.nil) [0] rfl (λ a1 w1 st1=>wp_seq ?_)
 refine st1.sq0 (sc rfl (oM rfl (tp rfl))<|sc rfl (jJ rfl kL57 (tp rfl))<|sc rfl (oCI rfl (tp rfl) cI)<|.nil) [0,13] rfl (λ a2 w2 st2=>?_)
 refine st2.cs (c:=13) rfl h (λ c3 h3=>?_) (λ c4 h4=>?_)
 ·
  refine st2.sq0 (sc rfl (oA rfl cB)<|.nil) [2] rfl (λ a5 w5 st5=>wp_ret (zd ?_))
  exact st5.ret rfl rfl h3
 refine wp_skip (za (wp_seq (wp_region_list ?_)))
 obtain⟨v6,p6,h7⟩:=bs h4
 refine st2.seg 7 (
  sc rfl (oM rfl (tp rfl))<|sc rfl (zo (l:=[.tmp 15]) rfl kN25 (.cons (tp rfl) .nil) (Ze p6))<|sc rfl (oM rfl (tp rfl))<|sc rfl (xExt (i:=0) rfl (tp rfl) rfl)<|sc rfl (xExt (i:=1) rfl (tp rfl) rfl)<|sc rfl (xExt (i:=2) rfl (tp rfl) rfl)<|sc rfl (xExt (i:=3) rfl (tp rfl) rfl)<|.nil) [17,18,19,20] rfl [] rfl trivial (λ a8 w8 st8=>?_)
 refine st8.alloc 0 rfl rfl kZ35 yB (by simp) [17,18,19,20] rfl [] rfl rfl (λ b10 M10 a10 w10 st10=>?_)
 have st11:=st10.gs (Gs':=[oneB (some b10),oneB none,oneB none,oneB none,oneB none,oneB none]) rfl
 refine st11.alloc 1 rfl rfl kZ45 jh (by simp) [17,18,19,20] rfl [3] rfl rfl (λ b13 M13 a13 w13 st13=>?_)
 have st14:=st13.gs (Gs':=[oneB (some b10),oneB (some b13),oneB none,oneB none,oneB none,oneB none]) rfl
 refine st14.store (sb:=3) 0 FldS.id rfl rfl rfl kT35 rfl rfl (tp rfl) rfl [18,19,20] rfl [4] rfl rfl (λ M16 w16 st16=>?_)
 refine st16.store (sb:=4) 1 FldS.id rfl rfl rfl kT45 rfl rfl (tp rfl) rfl [19,20] rfl [3] rfl rfl (λ M18 w18 st18=>?_)
 refine st18.seg 2 (
  sc rfl (oA rfl (tp rfl))<|sc rfl (oA rfl (tp rfl))<|.nil) [5,6] rfl [(3,0),(4,1)] rfl ⟨iI,iT⟩ (λ a19 w19 st19=>?_)
 refine wpList_nil (za (wp_seq (wp_region_list ?_)))
 obtain⟨v20,p20,h21⟩:=bs h7
 refine st19.seg 8 (
  sc rfl (zf rfl kT35 (tp rfl))<|sc rfl (zf rfl kT45 (tp rfl))<|sc rfl (oM rfl (tp rfl))<|sc rfl (oM rfl (tp rfl))<|sc rfl (zo (l:=[.tmp 22,.tmp 23,.tmp 24,.tmp 25]) rfl kN14 (.cons (tp rfl) (.cons (tp rfl) (.cons (tp rfl) (.cons (tp rfl) .nil)))) (FnN.fnoo<|xv p20))<|sc rfl (oM rfl (tp rfl))<|sc rfl (xExt (i:=0) rfl (tp rfl) rfl)<|sc rfl (xExt (i:=1) rfl (tp rfl) rfl)<|.nil) [5,6,27,28] rfl [(3,0),(4,1)] rfl ⟨iI,iT⟩ (λ a22 w22 st22=>?_)
 refine st22.alloc 2 rfl rfl kZ35 yB (by simp) [5,6,27,28] rfl [3,4] rfl rfl (λ b24 M24 a24 w24 st24=>?_)
 have st25:=st24.gs (Gs':=[oneB (some b10),oneB (some b13),oneB (some b24),oneB none,oneB none,oneB none]) rfl
 refine st25.alloc 3 rfl rfl kZ37 yz (by simp) [5,6,27,28] rfl [3,4,7] rfl rfl (λ b27 M27 a27 w27 st27=>?_)
 have st28:=st27.gs (Gs':=[oneB (some b10),oneB (some b13),oneB (some b24),oneB (some b27),oneB none,oneB none]) rfl
 refine st28.store (sb:=7) 2 FldS.id rfl rfl rfl kT35 rfl rfl (tp rfl) rfl [5,6,28] rfl [3,4,8] rfl rfl (λ M30 w30 st30=>?_)
 refine st30.store (sb:=8) 3 FldS.id rfl rfl rfl kT37 rfl rfl (tp rfl) rfl [5,6] rfl [3,4,7] rfl rfl (λ M32 w32 st32=>wpList_nil (za (wp_seq (wp_region_list ?_))))
 obtain⟨v33,p33,h34⟩:=bs h21
 refine st32.seg 8 (
  sc rfl (zf rfl kT35 (tp rfl))<|sc rfl (zf rfl kT45 (tp rfl))<|sc rfl (oM rfl (tp rfl))<|sc rfl (oM rfl (tp rfl))<|sc rfl (zo (l:=[.tmp 30,.tmp 31,.tmp 32,.tmp 33]) rfl kN10 (.cons (tp rfl) (.cons (tp rfl) (.cons (tp rfl) (.cons (tp rfl) .nil)))) (Ym p33))<|sc rfl (oM rfl (tp rfl))<|sc rfl (xExt (i:=0) rfl (tp rfl) rfl)<|sc rfl (xExt (i:=1) rfl (tp rfl) rfl)<|.nil) [5,6,35,36] rfl [(3,0),(4,1),(7,2),(8,3)] rfl ⟨iI,⟨iI,⟨iI,iT⟩⟩⟩ (λ a35 w35 st35=>?_)
 refine st35.alloc 4 rfl rfl kZ35 yB (by simp) [5,6,35,36] rfl [3,4,7,8] rfl rfl (λ b37 M37 a37 w37 st37=>?_)
 have st38:=st37.gs (Gs':=[oneB (some b10),oneB (some b13),oneB (some b24),oneB (some b27),oneB (some b37),oneB none]) rfl
 refine st38.alloc 5 rfl rfl kZ37 yz (by simp) [5,6,35,36] rfl [3,4,7,8,9] rfl rfl (λ b40 M40 a40 w40 st40=>?_)
 have st41:=st40.gs (Gs':=[oneB (some b10),oneB (some b13),oneB (some b24),oneB (some b27),oneB (some b37),oneB (some b40)]) rfl
 refine st41.store (sb:=9) 4 FldS.id rfl rfl rfl kT35 rfl rfl (tp rfl) rfl [5,6,36] rfl [3,4,7,8,10] rfl rfl (λ M43 w43 st43=>?_)
 refine st43.store (sb:=10) 5 FldS.id rfl rfl rfl kT37 rfl rfl (tp rfl) rfl [5,6] rfl [3,4,7,8,9] rfl rfl (λ M45 w45 st45=>wpList_nil (za (wp_seq ?_)))
 obtain⟨v46,p46,v47,p47,v48,p48,v49,p49,h55⟩:=bsD h34
 obtain⟨v50,p50,v51,p51,h57⟩:=bsB h55
 refine st45.sq (sc rfl (zf rfl kT35 (tp rfl))<|sc rfl (zf rfl kT35 (tp rfl))<|sc rfl (zo (l:=[.tmp 37,.tmp 38]) rfl kN26 (.cons (tp rfl) (.cons (tp rfl) .nil)) (wJ p46))<|sc rfl (yE rfl (tp rfl))<|sc rfl (oM rfl (tp rfl))<|sg rfl rfl (λ hg=>zf rfl kT37 (tp rfl))<|sg rfl rfl (λ hg=>zf rfl kT37 (tp rfl))<|sg rfl rfl (λ hg=>zo (l:=[.tmp 42,.tmp 43]) rfl kN27 (.cons (ze hg rfl) (.cons (ze hg rfl) .nil)) (xo (gh hg p47)))<|sg rfl rfl (λ hg=>yE rfl (ze hg rfl))<|sc rfl (yU rfl (tp rfl) (zb rfl))<|sc rfl (oM rfl (tp rfl))<|sg rfl rfl (λ hg=>zf rfl kT35 (tp rfl))<|sg rfl rfl (λ hg=>zo (l:=[.tmp 48]) rfl kN28 (.cons (ze hg rfl) .nil) (yT (gh hg p48)))<|sg rfl rfl (λ hg=>yE rfl (ze hg rfl))<|sc rfl (yU rfl (tp rfl) (zb rfl))<|sc rfl (oM rfl (tp rfl))<|sg rfl rfl (λ hg=>zf rfl kT45 (tp rfl))<|sg rfl rfl (λ hg=>zo (l:=[.tmp 53]) rfl kN29 (.cons (ze hg rfl) .nil) (wz (gh hg p49)))<|sg rfl rfl (λ hg=>yE rfl (ze hg rfl))<|sc rfl (yU rfl (tp rfl) (zb rfl))<|sc rfl (oM rfl (tp rfl))<|sg rfl rfl (λ hg=>oM rfl (tp rfl))<|sg rfl rfl (λ hg=>zo (l:=[.tmp 58]) rfl kN30 (.cons (ze hg rfl) .nil) (qw (gh hg p50)))<|sg rfl rfl (λ hg=>yE rfl (ze hg rfl))<|sc rfl (yU rfl (tp rfl) (zb rfl))<|sc rfl (oM rfl (tp rfl))<|sg rfl rfl (λ hg=>oM rfl (tp rfl))<|sg rfl rfl (λ hg=>zo (l:=[.tmp 63]) rfl kN31 (.cons (ze hg rfl) .nil) (yM (gh hg p51)))<|sg rfl rfl (λ hg=>yE rfl (ze hg rfl))<|sc rfl (yU rfl (tp rfl) (zb rfl))<|.nil) [5,6,66] rfl [(3,0),(4,1),(7,2),(8,3),(9,4),(10,5)] rfl ⟨iI,⟨iI,⟨iI,⟨iI,⟨iI,iT⟩⟩⟩⟩⟩ (λ a58 w58 st58=>?_)
 refine st58.cs (c:=66) rfl h57 (λ c59 h59=>?_) (λ c60 h60=>?_)
 ·
  obtain⟨v61,p61,v62,p62,h64⟩:=bsB h59
  refine st58.sq0 (sc rfl (zf rfl kT35 (tp rfl))<|sc rfl (zf rfl kT35 (tp rfl))<|sc rfl (zo (l:=[.tmp 67,.tmp 68]) rfl kN26 (.cons (tp rfl) (.cons (tp rfl) .nil)) (wJ p61))<|sc rfl (oM rfl (tp rfl))<|sg rfl rfl (λ hg=>zf rfl kT37 (tp rfl))<|sg rfl rfl (λ hg=>zf rfl kT37 (tp rfl))<|sg rfl rfl (λ hg=>zo (l:=[.tmp 71,.tmp 72]) rfl kN27 (.cons (ze hg rfl) (.cons (ze hg rfl) .nil)) (xo (gh hg p62)))<|sc rfl (yK rfl (tp rfl) (zb rfl))<|sc rfl (oA rfl (tp rfl))<|.nil) [2] rfl (λ a65 w65 st65=>wp_ret (zd ?_))
  exact st65.ret rfl rfl h64
 refine wp_skip (za (wp_seq ?_))
 obtain⟨v66,p66,h67⟩:=bs h60
 refine st58.sq (sc rfl (zf rfl kT35 (tp rfl))<|sc rfl (zf rfl kT45 (tp rfl))<|sc rfl (zo (l:=[.tmp 75,.tmp 76]) rfl kN32 (.cons (tp rfl) (.cons (tp rfl) .nil)) ((YJ p66)).fn)<|sc rfl (jJ rfl kL30 (tp rfl))<|sc rfl (oCI rfl (tp rfl) cI)<|.nil) [5,6,79] rfl [(4,1),(7,2),(8,3)] rfl ⟨iI,⟨iI,iT⟩⟩ (λ a68 w68 st68=>?_)
 refine st68.cs (c:=79) rfl h67 (λ c69 h69=>?_) (λ c70 h70=>?_)
 ·
  obtain⟨v71,p71,h72⟩:=bs h69
  refine st68.sq0 (sc rfl (zf rfl kT35 (tp rfl))<|sc rfl (zo (l:=[.tmp 80]) rfl kN28 (.cons (tp rfl) .nil) (yT p71))<|sc rfl (oA rfl (tp rfl))<|.nil) [2] rfl (λ a73 w73 st73=>wp_ret (zd ?_))
  exact st73.ret rfl rfl h72
 refine wp_skip (za (wp_seq ?_))
 obtain⟨v74,p74,v75,p75,v76,p76,v77,p77,h81⟩:=bsD h70
 refine st68.dr (D:=[_,_,_,_,_,_,_,_,_,_,_,_,_,_,_,_,_,_,_]) zD [[(8,nS)],[(4,nS)],[(83,1)],[(5,nS)],[(6,nS)],[(84,2),(85,3),(86,4)],[(82,0),(87,5)],[(88,6)],[(7,nS),(89,7)],[(4,nS),(89,7)],[(90,8),(91,9),(89,7)],[(92,10),(89,7)],[(93,11),(89,7)],[(89,7),(94,12)],[(95,13)],[(7,nS),(96,14)],[(97,15),(96,14)],[(96,14),(98,16)],[(99,17)]] (by decide +kernel) (
  rc rfl rfl (zf rfl kT37 (tp rfl))<|rc rfl rfl (zB Disk.fld0 rfl Yl (tp rfl))<|rc rfl rfl (zf rfl kT43 (tp rfl))<|rc rfl rfl (oM rfl (tp rfl))<|rc rfl rfl (oM rfl (tp rfl))<|rc rfl rfl (zo (l:=[.tmp 84,.tmp 85,.tmp 86]) rfl kN33 (.cons (tp rfl) (.cons (tp rfl) (.cons (tp rfl) .nil))) (WW p74))<|rc rfl rfl (zo (l:=[.tmp 82,.tmp 87]) rfl kN27 (.cons (tp rfl) (.cons (tp rfl) .nil)) (xo p75))<|rc rfl rfl (oM rfl (tp rfl))<|rg rfl rfl rfl (λ hg=>zf rfl kT35 (tp rfl))<|rg rfl rfl rfl (λ hg=>zf rfl kT45 (tp rfl))<|rg rfl rfl rfl (λ hg=>zo (l:=[.tmp 90,.tmp 91]) rfl kN32 (.cons (ze hg rfl) (.cons (ze hg rfl) .nil)) ((YJ (gh hg p76))).fn)<|rg rfl rfl rfl (λ hg=>jJ rfl kL30 (ze hg rfl))<|rg rfl rfl rfl (λ hg=>oCI rfl (ze hg rfl) cI)<|rc rfl rfl (yK rfl (tp rfl) (zb rfl))<|rc rfl rfl (oM rfl (tp rfl))<|rg rfl rfl rfl (λ hg=>zf rfl kT35 (tp rfl))<|rg rfl rfl rfl (λ hg=>zo (l:=[.tmp 97]) rfl kN28 (.cons (ze hg rfl) .nil) (yT (gh hg p77)))<|rc rfl rfl (yK rfl (tp rfl) (zb rfl))<|rc rfl rfl (oA rfl (tp rfl))<|.nil) [2] rfl [] rfl trivial (λ a82 w82 st82=>?_)
 refine za (wp_ret ?_)
 exact st82.ret rfl rfl h81
open Go.RowKit Tryz
theorem JQ(c:List UInt8):qm c=some true:=by
 unfold qm
 refine Qv λ f d path s hf hd ht hp hs=>?_
 have hpl:=X2 hp
 have hg:=zak hf hd hp hs
 dsimp only
 rw[WN hf.1.smd ht hd.ok.smd,obS,WO hf hd,qI hg.1.smd,xE.2 hg]
 cases hst:cmpI .gtr ((jk f d f.dirs.length).length:Int) 0 with
 | true=>rfl
 |
  false=>
  have h0:jk f d f.dirs.length=[]:=by
   have:=of_decide_eq_false hst
   exact List.length_eq_zero_iff.1 (by omega)
  obtain⟨h1,h2⟩:=zb3 (f:=f) (path:=path) hd.tree hs ((zcb hd.sm).1 h0)
  have hr:=Xq f d path s
  rw[if_neg (by decide),za7 ht (by omega) (by have:=y8 hs;unfold sho;omega),obS,findOf_eq hd hp hs,← h1,JL (by omega),obS,WN hg.1.smd ht hd.ok.smd,WO hg hd,(zcb hd.sm).2 h2]
  rfl
theorem zaq(c:List UInt8):Fn prog 4 [dt c] (dt true):=JP (JQ c)
end Go.Proofs.YtdoidiipacdbpaaGreatDoor
