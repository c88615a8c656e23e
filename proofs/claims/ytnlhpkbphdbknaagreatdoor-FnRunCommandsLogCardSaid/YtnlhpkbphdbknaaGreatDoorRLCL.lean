import Derived.Test.YtnlhpkbphdbknaaGreatDoorRB
import Derived.Test.YtnlhpkbphdbknaaGreatDoorRO
import Derived.Test.YtnlhpkbphdbknaaGreatDoorRKc
import Derived.Test.YtnlhpkbphdbknaaGreatDoorRK
import Derived.Test.YtnlhpkbphdbknaaGreatDoorRT
namespace Go.Proofs.YtnlhpkbphdbknaaGreatDoor
open Go.RowKit Tryz
attribute [local irreducible] OpRel OpdR
set_option maxRecDepth 10000
set_option maxHeartbeats 1600000
theorem kN11:fnB prog 11=true:=by kernel_rfl
theorem kN13:fnB prog 13=true:=by kernel_rfl
theorem kN12:fnB prog 12=true:=by kernel_rfl
theorem kN20:fnB prog 20=true:=by kernel_rfl
def yw(_R:Rec)(v15:GResult)(s44:(List Str)×Int):Option (((List Str)×Int)⊕((List Str)⊕Bool)):=
if(cmpI .lss s44.2 (v15.log.length:Int))=true then(Option.bind (α:=(List Str)⊕(((List Str)×Int)⊕((List Str)⊕Bool))) ((atI v15.log s44.2).bind λ v50=>
if(cmpI .eql v50.kind (0:Int))=true then((appO 16 s44.1 ([v50.name]:List Str)).bind λ v65=>
some (.inl v65))
else(Option.bind (α:=Bool) (if(cmpI .eql v50.kind (1:Int))=true then(some (cmpI .eql v50.kind (1:Int)))
else(some (cmpI .eql v50.kind (2:Int)))) λ o69=>
if o69=true then((gO (cmpI .eql (s44.1.length:Int) (0:Int) == false) (i64 ((s44.1.length:Int) - (1:Int)))).bind λ v77=>
(gO (cmpI .eql (s44.1.length:Int) (0:Int) == false) (atI s44.1 v77)).bind λ v78=>
if(cmpI .eql (s44.1.length:Int) (0:Int)||decide (v78≠v50.name))=true then(some (.inr (.inr (.inr false))))
else((i64 ((s44.1.length:Int) - (1:Int))).bind λ v88=>
(Ym s44.1 v88).bind λ v89=>
some (.inl v89)))
else(some (.inl s44.1)))) (Sum.elim (λ b49=>
(i64 (s44.2+(1:Int))).bind λ v94=>
some (.inl (b49,v94))) some))
else(some (.inr (.inl s44.1)))
def jf(R:Rec)(x0:List UInt8):Option Bool:=
if(cmpI .gtr (x0.length:Int) (1048576:Int))=true then(some true)
else((yF x0).bind λ v6=>
(yV R v6.1 v6.2.1 v6.2.2.1 v6.2.2.2).bind λ v15=>
(yk R v6.1 v6.2.1 v6.2.2.1 v6.2.2.2).bind λ v23=>
(ya v15 v23).bind λ v24=>
(gO ((!v24) == false) (y7 v6.1)).bind λ v25=>
(gO (((!v24)||(!v25)) == false) (y8 v6.2.1)).bind λ v26=>
(gO ((((!v24)||(!v25))||(!v26)) == false) (yE v6.2.2.1)).bind λ v27=>
if((((((!v24)||(!v25))||(!v26))||(!v27))||cmpI .lss v6.2.2.2 (0:Int))||cmpI .gtr v6.2.2.2 (120:Int))=true then((yk R v6.1 v6.2.1 v6.2.2.1 v6.2.2.2).bind λ v36=>
(ya v15 v36).bind λ v37=>
some v37)
else(Option.bind (α:=(List Str)⊕Bool) (zU (λ s44=>yw R v15 s44) ([],(0:Int))) (Sum.elim (λ b42=>
(gO (cmpI .eql (b42.length:Int) (0:Int) == true) (xR v15.log (0:Int))).bind λ v99=>
(gO (cmpI .eql (b42.length:Int) (0:Int) == true) (xR v15.log (1:Int))).bind λ v100=>
(gO (cmpI .eql (b42.length:Int) (0:Int) == true) (xR v15.log (2:Int))).bind λ v101=>
(gO (cmpI .eql (b42.length:Int) (0:Int) == true) (i64 (v100+v101))).bind λ v102=>
some (cmpI .eql (b42.length:Int) (0:Int)&&cmpI .eql v99 v102)) some)))
theorem Wn{R:Rec}(hR:R.ok){x0:List UInt8}{r:Bool}(h:jf R x0=some r):Fn prog 5 [dt x0] (dt r):=by
 unfold jf at h
 refine fnx (fn:=f5) 4 func5 rfl (oD rfl) rfl (λ M w0 _ st0=>?_)
 refine st0.sq1 [0] (λ _ _ st1=>wp_seq ?_)
 refine st1.sq1 [0,13] (λ _ _ st2=>?_)
 refine st2.cs rfl h (λ _ h3=>?_) (λ _ h4=>wp_skip (za (wp_seq (wp_region_list ?_))))
 ·
  refine st2.sq1 [2] (λ _ _ st5=>wp_ret (zd ?_))
  exact st5.ret rfl rfl h3
 obtain⟨v6,p6,h7⟩:=bsW h4 qF
 refine st2.segA 7 [17,18,19,20] [] (λ _ _ st8=>?_)
 refine st8.alloc 1 rfl rfl kZ25 Xf (by simp) [17,18,19,20] rfl [] rfl rfl (λ b10 _ _ _ st10=>?_)
 have st11:=st10.gn
 refine st11.store (sb:=3) 1 FldS.id rfl rfl rfl kT25 rfl rfl (tp rfl) rfl [18,19,20] rfl [] rfl rfl (λ _ _ st13=>?_)
 refine st13.segA 3 [4,5,6] [(3,1)] (λ _ _ st14=>wpList_nil (za (wp_seq (wp_region_list ?_))))
 obtain⟨v15,p15,h16⟩:=bsW h7 (qE hR)
 refine st14.segC 5 [4,5,6,25] [(3,1)] (λ _ _ st17=>?_)
 refine st17.alloc 2 rfl rfl kZ33 Yw (by simp) [4,5,6,25] rfl [3] rfl rfl (λ b19 _ _ _ st19=>?_)
 have st20:=st19.gn
 refine st20.store (sb:=7) 2 FldS.id rfl rfl rfl kT33 rfl rfl (tp rfl) rfl [4,5,6] rfl [3] rfl rfl (λ _ _ st22=>wpList_nil (za (wp_seq (wp_seq ?_))))
 obtain⟨v23,p23,v24,p24,v25,p25,v26,p26,h31⟩:=bsD h16
 obtain⟨v27,p27,h32⟩:=bs h31
 refine st22.dr (D:=[_,_,_,_,_,_,_,_,_,_,_,_,_,_,_,_,_,_,_,_,_,_,_,_,_,_,_,_,_,_,_]) zv [[],[],[],[],[],[1,2,3,4],[0,1,2,3,4,5],[0,1,2,3,4,5,6],[0,1,2,3,4,5,6,7],[0,1,2,3,4,5,6,7,8],[0,1,2,3,4,5,6,7,8,9],[0,1,2,3,4,5,6,7,8,9,10],[0,1,2,3,4,5,6,7,8,9,10,11],[0,1,2,3,4,5,6,7,8,9,10,11,12],[0,1,2,3,4,5,6,7,8,9,10,11,12,13],[0,1,2,3,4,5,6,7,8,9,10,11,12,13,14],[0,1,2,3,4,5,6,7,8,9,10,11,12,13,14,15],[0,1,2,3,4,5,6,7,8,9,10,11,12,13,14,15,16],[0,1,2,3,4,5,6,7,8,9,10,11,12,13,14,15,16,17],[0,1,2,3,4,5,6,7,8,9,10,11,12,13,14,15,16,17,18],[0,1,2,3,4,5,6,7,8,9,10,11,12,13,14,15,16,17,18,19],[0,1,2,3,4,5,6,7,8,9,10,11,12,13,14,15,16,17,18,19,20],[0,1,2,3,4,5,6,7,8,9,10,11,12,13,14,15,16,17,18,19,20,21],[0,1,2,3,4,5,6,7,8,9,10,11,12,13,14,15,16,17,18,19,20,21,22],[0,1,2,3,4,5,6,7,8,9,10,11,12,13,14,15,16,17,18,19,20,21,22,23],[0,1,2,3,4,5,6,7,8,9,10,11,12,13,14,15,16,17,18,19,20,21,22,23,24],[0,1,2,3,4,5,6,7,8,9,10,11,12,13,14,15,16,17,18,19,20,21,22,23,24,25],[0,1,2,3,4,5,6,7,8,9,10,11,12,13,14,15,16,17,18,19,20,21,22,23,24,25,26],[0,1,2,3,4,5,6,7,8,9,10,11,12,13,14,15,16,17,18,19,20,21,22,23,24,25,26,27],[0,1,2,3,4,5,6,7,8,9,10,11,12,13,14,15,16,17,18,19,20,21,22,23,24,25,26,27,28],[0,1,2,3,4,5,6,7,8,9,10,11,12,13,14,15,16,17,18,19,20,21,22,23,24,25,26,27,28,29]] [[(7,none)],[(3,none)],[(4,none)],[(5,none)],[(6,none)],[(27,some 1),(28,some 2),(29,some 3),(30,some 4)],[(26,some 0),(31,some 5)],[(32,some 6)],[(33,some 7)],[(3,none),(34,some 8)],[(35,some 9),(34,some 8)],[(36,some 10),(34,some 8)],[(34,some 8),(37,some 11)],[(38,some 12)],[(4,none),(39,some 13)],[(40,some 14),(39,some 13)],[(41,some 15),(39,some 13)],[(39,some 13),(42,some 16)],[(43,some 17)],[(5,none),(44,some 18)],[(45,some 19),(44,some 18)],[(46,some 20),(44,some 18)],[(44,some 18),(47,some 21)],[(48,some 22)],[(6,none),(49,some 23)],[(50,some 24),(49,some 23)],[(49,some 23),(51,some 25)],[(52,some 26)],[(6,none),(53,some 27)],[(54,some 28),(53,some 27)],[(53,some 27),(55,some 29)]] (by decide +kernel) (
  rc rfl rfl (zx rfl kT33 (tp rfl))<|rc rfl rfl (zx rfl kT25 (tp rfl))<|rc rfl rfl (oM rfl (tp rfl))<|rc rfl rfl (oM rfl (tp rfl))<|rc rfl rfl (oM rfl (tp rfl))<|rc rfl rfl (zD (l:=[.tmp 27,.tmp 28,.tmp 29,.tmp 30]) rfl kN13 (.cons (tp rfl) (.cons (tp rfl) (.cons (tp rfl) (.cons (tp rfl) .nil)))) (wI hR p23))<|rc rfl rfl (zD (l:=[.tmp 26,.tmp 31]) rfl kN12 (.cons (tp rfl) (.cons (tp rfl) .nil)) (wL p24))<|rc rfl rfl (xZ rfl (tp rfl))<|rc rfl rfl (oM rfl (tp rfl))<|rg rfl rfl rfl (λ hg=>zx rfl kT25 (tp rfl))<|rg rfl rfl rfl (λ hg=>zD (l:=[.tmp 35]) rfl kN14 (.cons (ze hg rfl) .nil) (qk (gh hg p25)))<|rg rfl rfl rfl (λ hg=>xZ rfl (ze hg rfl))<|rc rfl rfl (x8 rfl (tp rfl) (zb rfl))<|rc rfl rfl (oM rfl (tp rfl))<|rg rfl rfl rfl (λ hg=>oM rfl (tp rfl))<|rg rfl rfl rfl (λ hg=>zD (l:=[.tmp 40]) rfl kN15 (.cons (ze hg rfl) .nil) (ql (gh hg p26)))<|rg rfl rfl rfl (λ hg=>xZ rfl (ze hg rfl))<|rc rfl rfl (x8 rfl (tp rfl) (zb rfl))<|rc rfl rfl (oM rfl (tp rfl))<|rg rfl rfl rfl (λ hg=>oM rfl (tp rfl))<|rg rfl rfl rfl (λ hg=>zD (l:=[.tmp 45]) rfl kN16 (.cons (ze hg rfl) .nil) (jT (gh hg p27)))<|rg rfl rfl rfl (λ hg=>xZ rfl (ze hg rfl))<|rc rfl rfl (x8 rfl (tp rfl) (zb rfl))<|rc rfl rfl (oM rfl (tp rfl))<|rg rfl rfl rfl (λ hg=>oM rfl (tp rfl))<|rg rfl rfl rfl (λ hg=>oCI rfl (ze hg rfl) cI)<|rc rfl rfl (x8 rfl (tp rfl) (zb rfl))<|rc rfl rfl (oM rfl (tp rfl))<|rg rfl rfl rfl (λ hg=>oM rfl (tp rfl))<|rg rfl rfl rfl (λ hg=>oCI rfl (ze hg rfl) cI)<|rc rfl rfl (x8 rfl (tp rfl) (zb rfl))<|.nil) [4,5,6,56] rfl [(3,1),(7,2)] rfl ⟨iI,iT⟩ (λ _ _ st33=>?_)
 refine za ?_
 refine st33.cs rfl h32 (λ _ h34=>wp_seq ?_) (λ _ h35=>wp_skip (za ?_))
 ·
  obtain⟨v36,p36,v37,p37,h39⟩:=bsB h34
  refine st33.dr (D:=[_,_,_,_,_,_,_,_]) zv [[],[],[],[],[],[1,2,3,4],[0,1,2,3,4,5],[0,1,2,3,4,5,6]] [[(7,none)],[(3,none)],[(4,none)],[(5,none)],[(6,none)],[(58,some 1),(59,some 2),(60,some 3),(61,some 4)],[(57,some 0),(62,some 5)],[(63,some 6)]] (by decide +kernel) (
   rc rfl rfl (zx rfl kT33 (tp rfl))<|rc rfl rfl (zx rfl kT25 (tp rfl))<|rc rfl rfl (oM rfl (tp rfl))<|rc rfl rfl (oM rfl (tp rfl))<|rc rfl rfl (oM rfl (tp rfl))<|rc rfl rfl (zD (l:=[.tmp 58,.tmp 59,.tmp 60,.tmp 61]) rfl kN13 (.cons (tp rfl) (.cons (tp rfl) (.cons (tp rfl) (.cons (tp rfl) .nil)))) (wI hR p36))<|rc rfl rfl (zD (l:=[.tmp 57,.tmp 62]) rfl kN12 (.cons (tp rfl) (.cons (tp rfl) .nil)) (wL p37))<|rc rfl rfl (oA rfl (tp rfl))<|.nil) [2] rfl [] rfl trivial (λ _ _ st40=>?_)
  refine za ?_
  refine wp_ret (zd ?_)
  exact st40.ret rfl rfl h39
 refine st33.sqB (sc rfl (we (α:=Str) (e:=9) rfl kS45)<|segC) [] [(7,2),(8,0)] (λ _ _ st41=>?_)
 obtain⟨o42,p42,k42⟩:=bs h35
 refine zj (λ a w=>∃ b42,o42=.inl b42/\(∃ M1 q42_0 q42_1 q42_2 q42_3,Sx (Frm.of w0) 124 M M1 [oneB q42_0,oneB q42_1,oneB q42_2,oneB q42_3] [] [(7,2,dbox q42_2 0 v15),(8,0,dtip q42_0 9 b42)] a w)) ?_ ?_
 ·
  refine st41.sqA [9] [(7,2),(8,0)] (λ _ _ st43=>wp_block ?_)
  refine zH p42 (λ s44 a w=>∃ M1 q44_0 q44_1 q44_2 q44_3,Sx (Frm.of w0) 124 M M1 [oneB q44_0,oneB q44_1,oneB q44_2,oneB q44_3] [(9,dt s44.2)] [(7,2,dbox q44_2 0 v15),(8,0,dtip q44_0 9 s44.1)] a w) fx ?_
  rintro s44 z44 a44 w44 ⟨M44,q44_0,q44_1,q44_2,q44_3,st44⟩ hs44 hx44
  have h45:yw R v15 s44=some z44:=hs44
  unfold yw at h45
  refine wp_seq ?_
  refine st44.sqC [9,69] [(7,2),(8,0)] (λ _ _ st46=>?_)
  refine st46.cs rfl h45 (λ _ h47=>wp_skip (za ?_)) (λ _ h48=>wp_exit (zi (zi (zF ?_))))
  ·
   obtain⟨o49,p49,k49⟩:=bs h47
   refine zj (λ a w=>∃ b49,o49=.inl b49/\(∃ M1 q49_0 q49_1 q49_2 q49_3,Sx (Frm.of w0) 124 M M1 [oneB q49_0,oneB q49_1,oneB q49_2,oneB q49_3] [(9,dt s44.2)] [(7,2,dbox q49_2 0 v15),(8,0,dtip q49_0 9 b49)] a w)) ?_ ?_
   ·
    refine wp_block (wp_seq (wp_region_list ?_))
    obtain⟨v50,p50,h51⟩:=bs p49
    refine st46.segC 5 [9,76] [(7,2),(8,0)] (λ _ _ st52=>?_)
    refine st52.alloc 3 rfl rfl kZ44 zrGEvent (by simp) [9,76] rfl [7,8] rfl rfl (λ b54 _ _ _ st54=>?_)
    have st55:=st54.gn
    refine st55.store (sb:=10) 3 FldS.id rfl rfl rfl kT44 rfl rfl (tp rfl) rfl [9] rfl [7,8] rfl rfl (λ _ _ st57=>wpList_nil (za ?_))
    refine st57.sqC [9,78] [(7,2),(8,0),(10,3)] (λ _ _ st58=>wp_block ?_)
    refine st58.sqA [9,78,79] [(7,2),(8,0),(10,3)] (λ _ _ st59=>?_)
    refine st59.cs rfl h51 (λ _ h60=>wp_region_list ?_) (λ _ h61=>?_)
    ·
     refine st59.segC 4 [9,84] [(7,2),(8,0),(81,0)] (λ _ _ st62=>?_)
     obtain⟨v65,p65,h66⟩:=bs h60
     refine st62.app 0 rfl rfl kE45 rfl rfl rfl wE p65 [9] rfl [7] rfl rfl (λ g64 _ _ _ st64=>?_)
     have st67:=st64.gn
     refine st67.segA 1 [9] [(7,2),(8,0)] (λ _ _ st68=>wpList_nil (zf (zf (za ?_))))
     exact fl h66
    obtain⟨o69,p69,k69⟩:=bs h61
    refine zj (λ a w=>∃ M1 q69_0 q69_1 q69_2 q69_3,Sx (Frm.of w0) 124 M M1 [oneB q69_0,oneB q69_1,oneB q69_2,oneB q69_3] [(9,dt s44.2),(86,dt o69)] [(7,2,dbox q69_2 0 v15),(8,0,dtip q69_0 9 s44.1),(10,3,dbox q69_3 0 v50)] a w) ?_ ?_
    ·
     refine st59.sqA [9,78,86] [(7,2),(8,0),(10,3)] (λ _ _ st70=>?_)
     refine st70.cs rfl p69 (λ _ h71=>wp_skip (za ?_)) (λ _ h72=>?_)
     ·
      cases h71
      exact fx
     refine st70.rgA [9,86] [(7,2),(8,0),(10,3)] (λ _ _ st73=>za ?_)
     cases h72
     exact fx
    rintro a69 w69 ⟨M69,q69_0,q69_1,q69_2,q69_3,st69⟩
    have h74:=k69
    refine st69.cs rfl h74 (λ _ h75=>wp_seq (wp_seq ?_)) (λ _ h76=>wp_skip (zf (zf (za ?_))))
    ·
     obtain⟨v77,p77,v78,p78,h80⟩:=bsB h75
     refine st69.dr (D:=[_,_,_,_,_,_,_,_,_,_,_,_,_,_]) zv [[],[0],[0,1],[0,1,2],[0,1,2,3],[0,1,2,3],[0,1,2,3,5],[0,1,2,3,5,6],[0,1,2,3,4,5,6,7],[0,1,2,3,4,5,6,7,8],[0,1,2,3],[0,1,2,3,10],[0,1,2,3,4,5,6,7,8,9,10,11],[0,1,2,3,4,5,6,7,8,9,10,11,12]] [[(8,none)],[(89,some 0)],[(90,some 1)],[(91,some 2)],[(8,none),(92,some 3)],[(8,none),(92,some 3)],[(94,some 5),(92,some 3)],[(95,some 6),(92,some 3)],[(93,some 4),(96,some 7),(92,some 3)],[(97,some 8),(92,some 3)],[(10,none),(92,some 3)],[(99,some 10),(92,some 3)],[(98,some 9),(100,some 11),(92,some 3)],[(92,some 3),(101,some 12)]] (by decide +kernel) (
      rc rfl rfl (oM rfl (tp rfl))<|rc rfl rfl (Wu rfl kL45 (tp rfl))<|rc rfl rfl (oCI rfl (tp rfl) cI)<|rc rfl rfl (oM rfl (tp rfl))<|rg rfl rfl rfl (λ hg=>oM rfl (tp rfl))<|rg rfl rfl rfl (λ hg=>oM rfl (tp rfl))<|rg rfl rfl rfl (λ hg=>Wu rfl kL45 (ze hg rfl))<|rg rfl rfl rfl (λ hg=>xAr rfl (ze hg rfl) cI (gh hg p77))<|rg rfl rfl rfl (λ hg=>xIdxT rfl kS45 (ze hg rfl) (ze hg rfl) (gh hg p78))<|rg rfl rfl rfl (λ hg=>zx rfl kT9 (ze hg rfl))<|rg rfl rfl rfl (λ hg=>zQ GEvent.fld1 rfl kF44_1 (tp rfl))<|rg rfl rfl rfl (λ hg=>zx rfl kT9 (ze hg rfl))<|rg rfl rfl rfl (λ hg=>XL rfl (ze hg rfl) (ze hg rfl))<|rc rfl rfl (x8 rfl (tp rfl) (zb rfl))<|.nil) [9,102] rfl [(7,2),(8,0)] rfl ⟨iI,iT⟩ (λ _ _ st81=>?_)
     refine za ?_
     refine st81.cs rfl h80 (λ _ h82=>?_) (λ _ h83=>wp_skip (za ?_))
     ·
      refine st81.sq1 [2] (λ _ _ st84=>wp_ret (zd (zl (zl (zd (zd (zl (zd ?_))))))))
      have h85:=jo h82 k49
      have h86:=lo h85 hx44
      have h87:=jo h86 k42
      exact st84.ret rfl rfl h87
     obtain⟨v88,p88,v89,p89,h91⟩:=bsB h83
     refine st81.rgB (sP 2 (r:=by exact sc rfl (Wu rfl kL45 (tp rfl))<|sP 1 (r:=by exact sc rfl (xSliHT rfl kS45 (tp rfl) (tp rfl) p89)<|segC))) [9] [(7,2),(8,0)] (λ _ _ st92=>zf (zf (za ?_)))
     exact fl h91
    exact fl h76
   rintro a49 w49 ⟨b49,rfl,⟨M49,q49_0,q49_1,q49_2,q49_3,st49⟩⟩
   have h93:=jn k49
   obtain⟨v94,p94,h95⟩:=bs h93
   refine st49.rgA [9] [(7,2),(8,0)] (λ _ _ st96=>za ?_)
   exact fl h95
  refine za ?_
  have h97:=lo h48 hx44
  exact fl h97
 rintro a42 w42 ⟨b42,rfl,⟨M42,q42_0,q42_1,q42_2,q42_3,st42⟩⟩
 have h98:=jn k42
 refine wp_seq ?_
 obtain⟨v99,p99,v100,p100,v101,p101,v102,p102,h106⟩:=bsD h98
 refine st42.dr (D:=[_,_,_,_,_,_,_,_,_,_,_,_,_,_,_,_,_]) zv [[],[0],[0,1],[0,1,2],[0,1,2,3],[0,1,2,3,4],[0,1,2,3,4,5],[0,1,2,3],[0,1,2,3,7],[0,1,2,3,4,5,6,7,8],[0,1,2,3],[0,1,2,3,10],[0,1,2,3,4,5,6,7,8,9,10,11],[0,1,2,3,4,5,6,7,8,9,10,11,12],[0,1,2,3,4,5,6,7,8,9,10,11,12,13],[0,1,2,3,4,5,6,7,8,9,10,11,12,13,14],[0,1,2,3,4,5,6,7,8,9,10,11,12,13,14,15]] [[(8,none)],[(108,some 0)],[(109,some 1)],[(110,some 2)],[(7,none),(111,some 3)],[(112,some 4),(111,some 3)],[(113,some 5),(111,some 3)],[(7,none),(111,some 3)],[(115,some 7),(111,some 3)],[(116,some 8),(111,some 3)],[(7,none),(111,some 3)],[(118,some 10),(111,some 3)],[(119,some 11),(111,some 3)],[(117,some 9),(120,some 12),(111,some 3)],[(114,some 6),(121,some 13),(111,some 3)],[(111,some 3),(122,some 14)],[(123,some 15)]] (by decide +kernel) (
  rc rfl rfl (oM rfl (tp rfl))<|rc rfl rfl (Wu rfl kL45 (tp rfl))<|rc rfl rfl (oCI rfl (tp rfl) cI)<|rc rfl rfl (oM rfl (tp rfl))<|rg rfl rfl rfl (λ hg=>zQ GResult.fld2 rfl Jp (tp rfl))<|rg rfl rfl rfl (λ hg=>zx rfl kT30 (ze hg rfl))<|rg rfl rfl rfl (λ hg=>zD (l:=[.tmp 113,.const (.int .i64 0)]) rfl kN20 (.cons (ze hg rfl) (.cons cI .nil)) (ZZ (gh hg p99)))<|rg rfl rfl rfl (λ hg=>zQ GResult.fld2 rfl Jp (tp rfl))<|rg rfl rfl rfl (λ hg=>zx rfl kT30 (ze hg rfl))<|rg rfl rfl rfl (λ hg=>zD (l:=[.tmp 116,.const (.int .i64 1)]) rfl kN20 (.cons (ze hg rfl) (.cons cI .nil)) (ZZ (gh hg p100)))<|rg rfl rfl rfl (λ hg=>zQ GResult.fld2 rfl Jp (tp rfl))<|rg rfl rfl rfl (λ hg=>zx rfl kT30 (ze hg rfl))<|rg rfl rfl rfl (λ hg=>zD (l:=[.tmp 119,.const (.int .i64 2)]) rfl kN20 (.cons (ze hg rfl) (.cons cI .nil)) (ZZ (gh hg p101)))<|rg rfl rfl rfl (λ hg=>xAr rfl (ze hg rfl) (ze hg rfl) (gh hg p102))<|rg rfl rfl rfl (λ hg=>oCI rfl (ze hg rfl) (ze hg rfl))<|rc rfl rfl (yN rfl (tp rfl) (zb rfl))<|rc rfl rfl (oA rfl (tp rfl))<|.nil) [2] rfl [] rfl trivial (λ _ _ st107=>?_)
 refine za (wp_ret ?_)
 exact st107.ret rfl rfl h106
open Go.RowKit Tryz
theorem Wo(c:List UInt8):jf (scc xC) c=some true:=by
 unfold jf
 refine cmd_law c λ t path l f ht hp hl hn hok=>?_
 obtain⟨a1,a2,a3,a4,a5⟩:=Q6 hp hok
 obtain⟨_,_,hb⟩:=cmdsR_ck hp hok
 have hlog:(resV (zT t path l f).1 (zT t path l f).2).log=(zT t path l f).1.log:=rfl
 generalize hr:resV (zT t path l f).1 (zT t path l f).2=r at hlog ⊢
 have hll:r.log.length<=12120:=by rw[hlog];exact a2
 have hB:Bal r.log:=by rw[hlog];exact hb
 have hL:zU (λ s44=>yw (scc xC) r s44) ([],(0:Int))=some (.inl []):=by
  show zU (λ s44=>yw (scc xC) r s44) ([],((0:Nat):Int))=some (.inl [])
  refine loop_foldM r.log (λ(o:List Str) (k:Nat)=>(o,(k:Int))) stepO (λ o=>(Sum.inl o:List Str⊕Bool)) (λ k o=>o.length<=k) (λ k o e o' hk hlt ho hg=>?_) (λ o _=>?_) (by omega) (Nat.le_refl _) (hB.open_ [])
  ·
   unfold yw
   dsimp only
   rw[zJ,if_pos (decide_eq_true hlt),zK,hk,obS]
   unfold stepO at hg
   have i1:=z7 (k:=k) (by omega)
   by_cases h0:e.kind=0
   ·
    rw[if_pos h0] at hg
    injection hg with hg
    subst hg
    refine⟨?_,by rw[List.length_append];show o.length+1<=k+1;omega⟩
    rw[if_pos (by simp[cmpI];exact h0),yQ (by simp;omega) (by simp;omega),obS,obS,Sum.elim_inl,i1]
    rfl
   ·
    rw[if_neg h0] at hg
    rw[if_neg (by simp[cmpI];exact h0)]
    have ho69:(if cmpI .eql e.kind 1=true then some (cmpI .eql e.kind 1) else some (cmpI .eql e.kind 2))=some (decide (e.kind=1\/e.kind=2)):=by
     by_cases h1:e.kind=1
     ·
      rw[if_pos (by simp[cmpI];exact h1)];simp[cmpI,h1]
     ·
      rw[if_neg (by simp[cmpI];exact h1)]
      by_cases h2:e.kind=2 <;> simp[cmpI,h1,h2]
    rw[ho69,obS]
    by_cases h12:e.kind=1\/e.kind=2
    ·
     rw[if_pos h12] at hg
     rw[if_pos (decide_eq_true h12)]
     split at hg
     ·
      rename_i hlast
      injection hg with hg
      subst hg
      have hne:o≠[]:=λ h=>by rw[h] at hlast;cases hlast
      have hpos:0<o.length:=List.length_pos_iff.2 hne
      have z:cmpI .eql (o.length:Int) 0=false:=by simp[cmpI];omega
      have i2:i64 ((o.length:Int) - 1)=some ((o.length - 1:Nat):Int):=by rw[wl (by omega) (by omega),show(o.length:Int) - 1=((o.length - 1:Nat):Int) by omega]
      have hat:o[o.length - 1]?=some e.name:=by rw[← List.getLast?_eq_getElem?];exact hlast
      have d0:decide (e.name≠e.name)=false:=by simp
      refine⟨?_,by rw[List.length_dropLast];omega⟩
      rw[z,show((false:Bool) == false)=true from rfl,yX,i2,obS,yX,zK,hat,obS,d0,if_neg (show ¬ ((false||false:Bool)=true) by decide),obS,Yy (by omega),obS,obS,Sum.elim_inl,i1,← List.dropLast_eq_take]
      rfl
     ·
      cases hg
    ·
     rw[if_neg h12] at hg
     injection hg with hg
     subst hg
     refine⟨?_,by omega⟩
     rw[if_neg (by simpa using h12),obS,Sum.elim_inl,i1]
     rfl
  ·
   unfold yw
   dsimp only
   rw[zJ,if_neg (by simp)]
 have hcount:=hB.count
 have c0:=Xt (l:=r.log) 0 (by omega)
 have c1:=Xt (l:=r.log) 1 (by omega)
 have c2:=Xt (l:=r.log) 2 (by omega)
 have l0:(evs 0 r.log).length<=r.log.length:=by unfold evs;rw[List.length_map];exact List.length_filter_le _ _
 rw[hL,obS,Sum.elim_inl,show cmpI .eql ((([]:List Str).length:Nat):Int) 0=true from rfl,show((true:Bool) == true)=true from rfl,yX,c0,obS,yX,c1,obS,yX,c2,obS,yX,wl (by omega) (by omega),obS]
 simp[cmpI]
 omega
theorem WU(c:List UInt8):Fn prog 5 [dt c] (dt true):=Wn (YX xC) (Wo c)
end Go.Proofs.YtnlhpkbphdbknaaGreatDoor
