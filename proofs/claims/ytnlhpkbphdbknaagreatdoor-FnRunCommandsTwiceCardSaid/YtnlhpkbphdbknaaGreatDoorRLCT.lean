import Derived.Test.YtnlhpkbphdbknaaGreatDoorRB
import Derived.Test.YtnlhpkbphdbknaaGreatDoorRO
import Derived.Test.YtnlhpkbphdbknaaGreatDoorRKc
import Derived.Test.YtnlhpkbphdbknaaGreatDoorRK
import Derived.Test.YtnlhpkbphdbknaaGreatDoorRT
namespace Go.Proofs.YtnlhpkbphdbknaaGreatDoor
open Go.RowKit Tryz
attribute [local irreducible] OpRel OpdR
set_option maxRecDepth 10000
set_option maxHeartbeats 1600000
theorem kN13:fnB prog 13=true:=by kernel_rfl
theorem kN12:fnB prog 12=true:=by kernel_rfl
def wx(R:Rec)(x0:List UInt8):Option Bool:=
if(cmpI .gtr (x0.length:Int) (1048576:Int))=true then(some true)
else((yN x0).bind λ v6=>
(yC R v6.1 v6.2.1 v6.2.2.1 v6.2.2.2).bind λ v17=>
(yo R v6.1 v6.2.1 v6.2.2.1 v6.2.2.2).bind λ v25=>
(yb v17 v25).bind λ v26=>
(gO ((!v26) == false) (xu v6.1)).bind λ v27=>
(gO (((!v26)||(!v27)) == false) (xv v6.2.1)).bind λ v28=>
(gO ((((!v26)||(!v27))||(!v28)) == false) (yM v6.2.2.1)).bind λ v29=>
if((((((!v26)||(!v27))||(!v28))||(!v29))||cmpI .lss v6.2.2.2 (0:Int))||cmpI .gtr v6.2.2.2 (120:Int))=true then((yo R v6.1 v6.2.1 v6.2.2.1 v6.2.2.2).bind λ v38=>
(yb v17 v38).bind λ v39=>
some v39)
else((gO ((cmpI .eql (v6.2.2.1.length:Int) (0:Int)||cmpI .geq (v6.2.2.1.length:Int) (10:Int)) == false) (i64 ((v6.2.2.1.length:Int) - (1:Int)))).bind λ v44=>
(gO ((cmpI .eql (v6.2.2.1.length:Int) (0:Int)||cmpI .geq (v6.2.2.1.length:Int) (10:Int)) == false) (atI v6.2.2.1 v44)).bind λ v45=>
(gO (((cmpI .eql (v6.2.2.1.length:Int) (0:Int)||cmpI .geq (v6.2.2.1.length:Int) (10:Int))||cmpI .neq v45.kind (0:Int)) == false) (i64 ((v6.2.2.1.length:Int) - (1:Int)))).bind λ v46=>
(gO (((cmpI .eql (v6.2.2.1.length:Int) (0:Int)||cmpI .geq (v6.2.2.1.length:Int) (10:Int))||cmpI .neq v45.kind (0:Int)) == false) (atI v17.ends v46)).bind λ v47=>
if(((cmpI .eql (v6.2.2.1.length:Int) (0:Int)||cmpI .geq (v6.2.2.1.length:Int) (10:Int))||cmpI .neq v45.kind (0:Int))||cmpI .neq v47 (0:Int))=true then(some true)
else((appO 24 [] v6.2.2.1).bind λ v67=>
(i64 ((v6.2.2.1.length:Int) - (1:Int))).bind λ v70=>
(atI v6.2.2.1 v70).bind λ v72=>
(appO 24 v67 ([v72]:List GCmd)).bind λ v78=>
(yC R v6.1 v6.2.1 v78 v6.2.2.2).bind λ v82=>
(atI v82.ends (v6.2.2.1.length:Int)).bind λ v200=>
(gO (cmpI .eql v200 (0:Int) == true) (xa v82.out v17.out)).bind λ v201=>
(gO ((cmpI .eql v200 (0:Int)&&v201) == true) (i64 ((v17.log.length:Int)+(1:Int)))).bind λ v202=>
(gO (((cmpI .eql v200 (0:Int)&&v201)&&cmpI .eql (v82.log.length:Int) v202) == true) (atI v82.log (v17.log.length:Int))).bind λ v203=>
(gO (((cmpI .eql v200 (0:Int)&&v201)&&cmpI .eql (v82.log.length:Int) v202) == true) (i64 ((v6.2.2.1.length:Int) - (1:Int)))).bind λ v204=>
(gO (((cmpI .eql v200 (0:Int)&&v201)&&cmpI .eql (v82.log.length:Int) v202) == true) (atI v6.2.2.1 v204)).bind λ v205=>
some ((((cmpI .eql v200 (0:Int)&&v201)&&cmpI .eql (v82.log.length:Int) v202)&&decide (v203=(⟨(3:Int),v205.name⟩:GEvent)))&&cmpI .eql v82.left v17.left))))
theorem Xu{R:Rec}(hR:R.ok){x0:List UInt8}{r:Bool}(h:wx R x0=some r):Fn prog 4 [dt x0] (dt r):=by
 unfold wx at h
 refine fnx (fn:=f4) 4 func4 rfl (oD rfl) rfl (λ M w0 _ st0=>?_)
 refine st0.sq1 [0] (λ _ _ st1=>wp_seq ?_)
 refine st1.sq1 [0,12] (λ _ _ st2=>?_)
 refine st2.cs rfl h (λ _ h3=>?_) (λ _ h4=>wp_skip (za (wp_seq (wp_region_list ?_))))
 ·
  refine st2.sq1 [2] (λ _ _ st5=>wp_ret (zd ?_))
  exact st5.ret rfl rfl h3
 obtain⟨v6,p6,h7⟩:=bsW h4 qC
 refine st2.segA 7 [16,17,18,19] [] (λ _ _ st8=>?_)
 refine st8.alA 1 Y9 [16,17,18,19] [] (λ b10 _ _ _ st10=>?_)
 have st11:=st10.gn
 refine st11.stA 3 1 FldS.id (tp rfl) [17,18,19] [] (λ _ _ st13=>?_)
 have st14:=st13.frzX 1 (s:=3) rfl rfl [17,18,19] rfl [] rfl
 have st15:=st14.gn
 refine st15.segA 3 [3,4,5,6] [] (λ _ _ st16=>wpList_nil (za (wp_seq (wp_region_list ?_))))
 obtain⟨v17,p17,h18⟩:=bsW h7 (yX hR)
 refine st16.segA 5 [3,4,5,6,24] [] (λ _ _ st19=>?_)
 refine st19.alA 2 zV [3,4,5,6,24] [] (λ b21 _ _ _ st21=>?_)
 have st22:=st21.gn
 refine st22.stA 7 2 FldS.id (tp rfl) [3,4,5,6] [] (λ _ _ st24=>wpList_nil (za (wp_seq (wp_seq ?_))))
 obtain⟨v25,p25,v26,p26,v27,p27,v28,p28,h33⟩:=bsD h18
 obtain⟨v29,p29,h34⟩:=bs h33
 refine st24.drA (D:=[_,_,_,_,_,_,_,_,_,_,_,_,_,_,_,_,_,_,_,_,_,_,_,_,_,_,_,_,_,_,_]) zw [[(7,nS)],[(3,nS)],[(4,nS)],[(5,nS)],[(6,nS)],[(26,1),(27,2),(28,3),(29,4)],[(25,0),(30,5)],[(31,6)],[(32,7)],[(3,nS),(33,8)],[(34,9),(33,8)],[(35,10),(33,8)],[(33,8),(36,11)],[(37,12)],[(4,nS),(38,13)],[(39,14),(38,13)],[(40,15),(38,13)],[(38,13),(41,16)],[(42,17)],[(5,nS),(43,18)],[(44,19),(43,18)],[(45,20),(43,18)],[(43,18),(46,21)],[(47,22)],[(6,nS),(48,23)],[(49,24),(48,23)],[(48,23),(50,25)],[(51,26)],[(6,nS),(52,27)],[(53,28),(52,27)],[(52,27),(54,29)]] [3,4,5,6,55] [(7,2)] (λ _ _ st35=>?_) (hs:=rc rfl rfl (zP rfl kT33 (tp rfl))<|rc rfl rfl (zl rfl kT25 (tp rfl))<|rc rfl rfl (oM rfl (tp rfl))<|rc rfl rfl (oM rfl (tp rfl))<|rc rfl rfl (oM rfl (tp rfl))<|rc rfl rfl (zH (l:=[.tmp 26,.tmp 27,.tmp 28,.tmp 29]) rfl kN13 (.cons (tp rfl) (.cons (tp rfl) (.cons (tp rfl) (.cons (tp rfl) .nil)))) (wE hR p25))<|rc rfl rfl (zH (l:=[.tmp 25,.tmp 30]) rfl kN12 (.cons (tp rfl) (.cons (tp rfl) .nil)) (wI p26))<|rc rfl rfl (xS rfl (tp rfl))<|rc rfl rfl (oM rfl (tp rfl))<|rg rfl rfl rfl (λ hg=>zl rfl kT25 (tp rfl))<|rg rfl rfl rfl (λ hg=>zH (l:=[.tmp 34]) rfl kN14 (.cons (ze hg rfl) .nil) (Zs (gh hg p27)))<|rg rfl rfl rfl (λ hg=>xS rfl (ze hg rfl))<|rc rfl rfl (wu rfl (tp rfl) (zb rfl))<|rc rfl rfl (oM rfl (tp rfl))<|rg rfl rfl rfl (λ hg=>oM rfl (tp rfl))<|rg rfl rfl rfl (λ hg=>zH (l:=[.tmp 39]) rfl kN15 (.cons (ze hg rfl) .nil) (Zt (gh hg p28)))<|rg rfl rfl rfl (λ hg=>xS rfl (ze hg rfl))<|rc rfl rfl (wu rfl (tp rfl) (zb rfl))<|rc rfl rfl (oM rfl (tp rfl))<|rg rfl rfl rfl (λ hg=>oM rfl (tp rfl))<|rg rfl rfl rfl (λ hg=>zH (l:=[.tmp 44]) rfl kN16 (.cons (ze hg rfl) .nil) (jX (gh hg p29)))<|rg rfl rfl rfl (λ hg=>xS rfl (ze hg rfl))<|rc rfl rfl (wu rfl (tp rfl) (zb rfl))<|rc rfl rfl (oM rfl (tp rfl))<|rg rfl rfl rfl (λ hg=>oM rfl (tp rfl))<|rg rfl rfl rfl (λ hg=>oCI rfl (ze hg rfl) cI)<|rc rfl rfl (wu rfl (tp rfl) (zb rfl))<|rc rfl rfl (oM rfl (tp rfl))<|rg rfl rfl rfl (λ hg=>oM rfl (tp rfl))<|rg rfl rfl rfl (λ hg=>oCI rfl (ze hg rfl) cI)<|rc rfl rfl (wu rfl (tp rfl) (zb rfl))<|.nil)
 refine za ?_
 refine st35.cs rfl h34 (λ _ h36=>wp_seq ?_) (λ _ h37=>wp_skip (za ?_))
 ·
  obtain⟨v38,p38,v39,p39,h41⟩:=bsB h36
  refine st35.drA (D:=[_,_,_,_,_,_,_,_]) zw [[(7,nS)],[(3,nS)],[(4,nS)],[(5,nS)],[(6,nS)],[(57,1),(58,2),(59,3),(60,4)],[(56,0),(61,5)],[(62,6)]] [2] [] (λ _ _ st42=>?_) (hs:=rc rfl rfl (zP rfl kT33 (tp rfl))<|rc rfl rfl (zl rfl kT25 (tp rfl))<|rc rfl rfl (oM rfl (tp rfl))<|rc rfl rfl (oM rfl (tp rfl))<|rc rfl rfl (oM rfl (tp rfl))<|rc rfl rfl (zH (l:=[.tmp 57,.tmp 58,.tmp 59,.tmp 60]) rfl kN13 (.cons (tp rfl) (.cons (tp rfl) (.cons (tp rfl) (.cons (tp rfl) .nil)))) (wE hR p38))<|rc rfl rfl (zH (l:=[.tmp 56,.tmp 61]) rfl kN12 (.cons (tp rfl) (.cons (tp rfl) .nil)) (wI p39))<|rc rfl rfl (oA rfl (tp rfl))<|.nil)
  refine za ?_
  refine wp_ret (zd ?_)
  exact st42.ret rfl rfl h41
 refine st35.sqA [3,4,5,6,8] [(7,2)] (λ _ _ st43=>wp_seq ?_)
 obtain⟨v44,p44,v45,p45,v46,p46,v47,p47,h51⟩:=bsD h37
 refine st43.sqB (sP 9 (r:=by exact sg rfl rfl (λ hg=>xAr rfl (ze hg rfl) cI (gh hg p44))<|sg rfl rfl (λ hg=>xIdx rfl kS27 (ze hg rfl) (ze hg rfl) (gh hg p45))<|sP 8 (r:=by exact sg rfl rfl (λ hg=>xAr rfl (ze hg rfl) cI (gh hg p46))<|sg rfl rfl (λ hg=>xIdx rfl kS26 (ze hg rfl) (ze hg rfl) (gh hg p47))<|segC))) [3,4,5,6,8,88] [(7,2)] (λ _ _ st52=>?_)
 refine st52.cs rfl h51 (λ _ h53=>?_) (λ _ h54=>wp_skip (za (wp_seq ?_)))
 ·
  refine st52.sq1 [2] (λ _ _ st55=>wp_ret (zd ?_))
  exact st55.ret rfl rfl h53
 refine st52.opn (s:=3) rfl (λ b56 o56 c56 st56=>?_)
 refine st56.held (λ w=>CellsAt w b56 o56 c56) zw (λ _ st57=>?_)
 refine st57.tW 0 3 (λ _ st58=>?_)
 refine st58.tM 1 4 (st58.pkZ 3) (λ _ st59=>?_)
 refine st59.tM 3 5 (st59.pkZ 3) (λ _ st60=>?_)
 refine st60.tM 5 5 (st60.pkZ 3) (λ _ st61=>?_)
 refine st61.tM 6 8 (st61.pkZ 3) (λ _ st62=>?_)
 refine st62.tM 12 6 (st62.pkZ 3) (λ _ st63=>?_)
 obtain⟨v67,p67,v70,p70,v72,p72,v78,p78,h92⟩:=bsD h54
 obtain⟨v82,p82,h93⟩:=bs h92
 refine st63.tkAr (i:=7) rfl rfl (by decide +kernel) (by decide +kernel) (by decide +kernel) (λ _ _ _ _ h=>h) (st63.pkZ 3) rfl (tp rfl) cI p70 (next:=λ a94 st94=>?_)
 refine st94.tkIF (i:=8) rfl rfl (by decide +kernel) (by decide +kernel) (by decide +kernel) (λ _ _ _ _ h=>h) (st94.pkZ 3) rfl kS27 (tp rfl) (tp rfl) p72 (next:=λ a95 st95=>?_)
 refine ya 1 32767 (λ a w=>∃ M1 q193_2 q193_3,Sx (Frm.of w0) 150 M M1 [oneB none,oneB none,oneB q193_2,oneB q193_3] [(5,dt v6.2.2.1),(8,dt (v6.2.2.1.length:Int)),(102,dt v82),(3,dpk b56 o56 c56 v6.1)] [(7,2,dbox q193_2 0 v17),(9,3,dbox q193_3 0 zZ)] a w) ?_ (λ n193=>?_)
 ·
  rintro a193 w193 ⟨M193,q193_2,q193_3,st193⟩
  refine aK1 15 ?_
  refine st193.stA 9 3 FldS.id (tp rfl) [3,5,8] [7] (λ _ _ st199=>?_)
  refine aHN (st199.pkZ 3) ?_
  refine aK0 (za (wp_seq ?_))
  obtain⟨v200,p200,v201,p201,v202,p202,v203,p203,h209⟩:=bsD h93
  obtain⟨v204,p204,v205,p205,h211⟩:=bsB h209
  refine st199.drA (D:=[_,_,_,_,_,_,_,_,_,_,_,_,_,_,_,_,_,_,_,_,_,_,_,_,_,_,_,_,_,_,_,_,_,_,_,_,_,_,_,_,_,_,_,_,_,_,_,_]) zw [[(9,nS)],[(103,0)],[(8,nS)],[(104,1),(105,2)],[(106,3)],[(107,4)],[(108,5)],[(9,nS),(109,6)],[(110,7),(109,6)],[(7,nS),(109,6)],[(112,9),(109,6)],[(111,8),(113,10),(109,6)],[(109,6),(114,11)],[(115,12)],[(9,nS),(116,13)],[(117,14),(116,13)],[(118,15),(116,13)],[(7,nS),(116,13)],[(120,17),(116,13)],[(121,18),(116,13)],[(122,19),(116,13)],[(119,16),(123,20),(116,13)],[(116,13),(124,21)],[(125,22)],[(9,nS),(126,23)],[(127,24),(126,23)],[(7,nS),(126,23)],[(129,26),(126,23)],[(130,27),(126,23)],[(128,25),(131,28),(126,23)],[(132,29),(126,23)],[(5,nS),(126,23)],[(8,nS),(126,23)],[(135,32),(126,23)],[(134,31),(136,33),(126,23)],[(137,34),(126,23)],[(138,35),(126,23)],[(139,36),(126,23)],[(133,30),(140,37),(126,23)],[(126,23),(141,38)],[(142,39)],[(9,nS),(143,40)],[(144,41),(143,40)],[(7,nS),(143,40)],[(146,43),(143,40)],[(145,42),(147,44),(143,40)],[(143,40),(148,45)],[(149,46)]] [2] [] (λ _ _ st212=>?_) (hs:=rc rfl rfl (yj GResult.fld0 rfl kF33_0 (tp rfl))<|rc rfl rfl (zP rfl kT26 (tp rfl))<|rc rfl rfl (oM rfl (tp rfl))<|rc rfl rfl (xIdx rfl kS26 (tp rfl) (tp rfl) p200)<|rc rfl rfl (zl rfl kT3 (tp rfl))<|rc rfl rfl (oCI rfl (tp rfl) cI)<|rc rfl rfl (oM rfl (tp rfl))<|rg rfl rfl rfl (λ hg=>yj GResult.fld1 rfl kF33_1 (tp rfl))<|rg rfl rfl rfl (λ hg=>zP rfl kT26 (ze hg rfl))<|rg rfl rfl rfl (λ hg=>yj GResult.fld1 rfl kF33_1 (tp rfl))<|rg rfl rfl rfl (λ hg=>zP rfl kT26 (ze hg rfl))<|rg rfl rfl rfl (λ hg=>zH (l:=[.tmp 111,.tmp 113]) rfl kN19 (.cons (ze hg rfl) (.cons (ze hg rfl) .nil)) (Zz (gh hg p201)))<|rc rfl rfl (yS rfl (tp rfl) (zb rfl))<|rc rfl rfl (oM rfl (tp rfl))<|rg rfl rfl rfl (λ hg=>yj GResult.fld2 rfl W7 (tp rfl))<|rg rfl rfl rfl (λ hg=>zP rfl kT30 (ze hg rfl))<|rg rfl rfl rfl (λ hg=>jQ rfl kL30 (ze hg rfl))<|rg rfl rfl rfl (λ hg=>yj GResult.fld2 rfl W7 (tp rfl))<|rg rfl rfl rfl (λ hg=>zP rfl kT30 (ze hg rfl))<|rg rfl rfl rfl (λ hg=>jQ rfl kL30 (ze hg rfl))<|rg rfl rfl rfl (λ hg=>xAr rfl (ze hg rfl) cI (gh hg p202))<|rg rfl rfl rfl (λ hg=>oCI rfl (ze hg rfl) (ze hg rfl))<|rc rfl rfl (yS rfl (tp rfl) (zb rfl))<|rc rfl rfl (oM rfl (tp rfl))<|rg rfl rfl rfl (λ hg=>yj GResult.fld2 rfl W7 (tp rfl))<|rg rfl rfl rfl (λ hg=>zP rfl kT30 (ze hg rfl))<|rg rfl rfl rfl (λ hg=>yj GResult.fld2 rfl W7 (tp rfl))<|rg rfl rfl rfl (λ hg=>zP rfl kT30 (ze hg rfl))<|rg rfl rfl rfl (λ hg=>jQ rfl kL30 (ze hg rfl))<|rg rfl rfl rfl (λ hg=>xIdx rfl kS30 (ze hg rfl) (ze hg rfl) (gh hg p203))<|rg rfl rfl rfl (λ hg=>zl rfl kT44 (ze hg rfl))<|rg rfl rfl rfl (λ hg=>oM rfl (tp rfl))<|rg rfl rfl rfl (λ hg=>oM rfl (tp rfl))<|rg rfl rfl rfl (λ hg=>xAr rfl (ze hg rfl) cI (gh hg p204))<|rg rfl rfl rfl (λ hg=>xIdx rfl kS27 (ze hg rfl) (ze hg rfl) (gh hg p205))<|rg rfl rfl rfl (λ hg=>zt GCmd.fld1 rfl kF43_1 (ze hg rfl))<|rg rfl rfl rfl (λ hg=>zl rfl kT9 (ze hg rfl))<|rg rfl rfl rfl (λ hg=>QJ rfl cI (ze hg rfl))<|rg rfl rfl rfl (λ hg=>op_eqR rfl kR44 (ze hg rfl) (ze hg rfl))<|rc rfl rfl (yS rfl (tp rfl) (zb rfl))<|rc rfl rfl (oM rfl (tp rfl))<|rg rfl rfl rfl (λ hg=>yj GResult.fld4 rfl kF33_4 (tp rfl))<|rg rfl rfl rfl (λ hg=>zP rfl kT3 (ze hg rfl))<|rg rfl rfl rfl (λ hg=>yj GResult.fld4 rfl kF33_4 (tp rfl))<|rg rfl rfl rfl (λ hg=>zP rfl kT3 (ze hg rfl))<|rg rfl rfl rfl (λ hg=>oCI rfl (ze hg rfl) (ze hg rfl))<|rc rfl rfl (yS rfl (tp rfl) (zb rfl))<|rc rfl rfl (oA rfl (tp rfl))<|.nil)
  refine za (wp_ret ?_)
  exact st212.ret rfl rfl h211
 refine ya 2 16383 (λ a w=>∃ M1 q182_2,Sx (Frm.of w0) 150 M M1 [oneB none,oneB none,oneB q182_2,oneB none] [(5,dt v6.2.2.1),(8,dt (v6.2.2.1.length:Int)),(102,dt v82),(3,dpk b56 o56 c56 v6.1)] [(7,2,dbox q182_2 0 v17)] a w) ?_ (λ n182=>?_)
 ·
  rintro a182 w182 ⟨M182,q182_2,st182⟩
  refine aK1 14 ?_
  refine st182.alA 3 zV [3,5,8,102] [7] (λ b214 _ _ _ st214=>?_)
  have st215:=st214.gn
  exact aHe n193 (st215.pkZ 3)
 refine ya 2 24575 (λ a w=>∃ M1 q186_0 q186_2 q186_3,Sx (Frm.of w0) 150 M M1 [oneB q186_0,oneB none,oneB q186_2,oneB q186_3] [(5,dt v6.2.2.1),(8,dt (v6.2.2.1.length:Int)),(89,dt v6.1),(90,dt v6.2.1),(101,dt v6.2.2.2),(3,dpk b56 o56 c56 v6.1)] [(7,2,dbox q186_2 0 v17),(9,3,dbox q186_3 0 zZ),(100,0,dtip q186_0 43 v78)] a w) ?_ (λ n186=>?_)
 ·
  rintro a186 w186 ⟨M186,q186_0,q186_2,q186_3,st186⟩
  refine aK1 13 ?_
  have st216:=st186.frz 0 (s:=100) rfl rfl [3,5,8,89,90,101] rfl [7,9] rfl
  refine st216.segB 1 (sc rfl (oK (yX hR p82))<|.nil) [3,5,8,102] [(7,2),(9,3)] (λ _ _ st217=>?_)
  exact aHe n193 (st217.pkZ 3)
 refine ya 3 8191 (λ a w=>∃ M1 q171_0 q171_2,Sx (Frm.of w0) 150 M M1 [oneB q171_0,oneB none,oneB q171_2,oneB none] [(5,dt v6.2.2.1),(8,dt (v6.2.2.1.length:Int)),(89,dt v6.1),(90,dt v6.2.1),(101,dt v6.2.2.2),(3,dpk b56 o56 c56 v6.1)] [(7,2,dbox q171_2 0 v17),(100,0,dtip q171_0 43 v78)] a w) ?_ (λ n171=>?_)
 ·
  rintro a171 w171 ⟨M171,q171_0,q171_2,st171⟩
  refine aK2 13 14 ?_ ?_
  ·
   have st218:=st171.frz 0 (s:=100) rfl rfl [3,5,8,89,90,101] rfl [7] rfl
   refine st218.segB 1 (sc rfl (oK (yX hR p82))<|.nil) [3,5,8,102] [(7,2)] (λ _ _ st219=>?_)
   exact aHe n182 (st219.pkZ 3)
  ·
   refine st171.alA 3 zV [3,5,8,89,90,101] [7,100] (λ b221 _ _ _ st221=>?_)
   have st222:=st221.gn
   exact aHe n186 (st222.pkZ 3)
 refine ya 3 22527 (λ a w=>∃ M1 q175_0 q175_2 q175_3,Sx (Frm.of w0) 150 M M1 [oneB q175_0,oneB none,oneB q175_2,oneB q175_3] [(5,dt v6.2.2.1),(8,dt (v6.2.2.1.length:Int)),(89,dt v6.1),(90,dt v6.2.1),(99,dt ([v72]:List GCmd)),(101,dt v6.2.2.2),(3,dpk b56 o56 c56 v6.1)] [(7,2,dbox q175_2 0 v17),(9,3,dbox q175_3 0 zZ),(93,0,dtip q175_0 43 v67)] a w) ?_ (λ n175=>?_)
 ·
  rintro a175 w175 ⟨M175,q175_0,q175_2,q175_3,st175⟩
  refine aK1 11 ?_
  refine st175.apA 0 yt p78 [3,5,8,89,90,101] [7,9] (λ g224 _ _ _ st224=>?_)
  have st225:=st224.gn
  exact aHe n186 (st225.pkZ 3)
 refine ya 4 6143 (λ a w=>∃ M1 q150_0 q150_2,Sx (Frm.of w0) 150 M M1 [oneB q150_0,oneB none,oneB q150_2,oneB none] [(5,dt v6.2.2.1),(8,dt (v6.2.2.1.length:Int)),(89,dt v6.1),(90,dt v6.2.1),(99,dt ([v72]:List GCmd)),(101,dt v6.2.2.2),(3,dpk b56 o56 c56 v6.1)] [(7,2,dbox q150_2 0 v17),(93,0,dtip q150_0 43 v67)] a w) ?_ (λ n150=>?_)
 ·
  rintro a150 w150 ⟨M150,q150_0,q150_2,st150⟩
  refine aK2 11 14 ?_ ?_
  ·
   refine st150.apA 0 yt p78 [3,5,8,89,90,101] [7] (λ g227 _ _ _ st227=>?_)
   have st228:=st227.gn
   exact aHe n171 (st228.pkZ 3)
  ·
   refine st150.alA 3 zV [3,5,8,89,90,99,101] [7,93] (λ b230 _ _ _ st230=>?_)
   have st231:=st230.gn
   exact aHe n175 (st231.pkZ 3)
 refine ya 4 21503 (λ a w=>∃ M1 q154_0 q154_2 q154_3,Sx (Frm.of w0) 150 M M1 [oneB q154_0,oneB none,oneB q154_2,oneB q154_3] [(5,dt v6.2.2.1),(8,dt (v6.2.2.1.length:Int)),(89,dt v6.1),(90,dt v6.2.1),(98,dt v72),(101,dt v6.2.2.2),(3,dpk b56 o56 c56 v6.1)] [(7,2,dbox q154_2 0 v17),(9,3,dbox q154_3 0 zZ),(93,0,dtip q154_0 43 v67)] a w) ?_ (λ n154=>?_)
 ·
  rintro a154 w154 ⟨M154,q154_0,q154_2,q154_3,st154⟩
  refine aK1 10 ?_
  refine st154.segC 1 [3,5,8,89,90,99,101] [(7,2),(9,3),(93,0)] (λ _ _ st232=>?_)
  exact aHe n175 (st232.pkZ 3)
 refine ya 4 22511 (λ a w=>∃ M1 q162_2 q162_3,Sx (Frm.of w0) 150 M M1 [oneB none,oneB none,oneB q162_2,oneB q162_3] [(5,dt v6.2.2.1),(8,dt (v6.2.2.1.length:Int)),(89,dt v6.1),(90,dt v6.2.1),(92,dt v6.2.2.1),(99,dt ([v72]:List GCmd)),(101,dt v6.2.2.2),(3,dpk b56 o56 c56 v6.1)] [(7,2,dbox q162_2 0 v17),(9,3,dbox q162_3 0 zZ),(91,0,dtip none 43 ([]:List GCmd))] a w) ?_ (λ n162=>?_)
 ·
  rintro a162 w162 ⟨M162,q162_2,q162_3,st162⟩
  refine aK1 4 ?_
  refine st162.apA 0 yt p67 [3,5,8,89,90,99,101] [7,9] (λ g234 _ _ _ st234=>?_)
  have st235:=st234.gn
  exact aHe n175 (st235.pkZ 3)
 refine ya 5 5119 (λ a w=>∃ M1 q124_0 q124_2,Sx (Frm.of w0) 150 M M1 [oneB q124_0,oneB none,oneB q124_2,oneB none] [(5,dt v6.2.2.1),(8,dt (v6.2.2.1.length:Int)),(89,dt v6.1),(90,dt v6.2.1),(98,dt v72),(101,dt v6.2.2.2),(3,dpk b56 o56 c56 v6.1)] [(7,2,dbox q124_2 0 v17),(93,0,dtip q124_0 43 v67)] a w) ?_ (λ n124=>?_)
 ·
  rintro a124 w124 ⟨M124,q124_0,q124_2,st124⟩
  refine aK2 10 14 ?_ ?_
  ·
   refine st124.segC 1 [3,5,8,89,90,99,101] [(7,2),(93,0)] (λ _ _ st236=>?_)
   exact aHe n150 (st236.pkZ 3)
  ·
   refine st124.alA 3 zV [3,5,8,89,90,98,101] [7,93] (λ b238 _ _ _ st238=>?_)
   have st239:=st238.gn
   exact aHe n154 (st239.pkZ 3)
 refine ya 5 20991 (λ a w=>∃ M1 q128_0 q128_2 q128_3,Sx (Frm.of w0) 150 M M1 [oneB q128_0,oneB none,oneB q128_2,oneB q128_3] [(5,dt v6.2.2.1),(8,dt (v6.2.2.1.length:Int)),(89,dt v6.1),(90,dt v6.2.1),(97,dptr v72),(101,dt v6.2.2.2),(3,dpk b56 o56 c56 v6.1)] [(7,2,dbox q128_2 0 v17),(9,3,dbox q128_3 0 zZ),(93,0,dtip q128_0 43 v67)] a w) ?_ (λ n128=>?_)
 ·
  rintro a128 w128 ⟨M128,q128_0,q128_2,q128_3,st128⟩
  refine aK1 9 ?_
  refine st128.segA 1 [3,5,8,89,90,98,101] [(7,2),(9,3),(93,0)] (λ _ _ st240=>?_)
  exact aHe n154 (st240.pkZ 3)
 refine ya 5 6127 (λ a w=>∃ M1 q133_2,Sx (Frm.of w0) 150 M M1 [oneB none,oneB none,oneB q133_2,oneB none] [(5,dt v6.2.2.1),(8,dt (v6.2.2.1.length:Int)),(89,dt v6.1),(90,dt v6.2.1),(92,dt v6.2.2.1),(99,dt ([v72]:List GCmd)),(101,dt v6.2.2.2),(3,dpk b56 o56 c56 v6.1)] [(7,2,dbox q133_2 0 v17),(91,0,dtip none 43 ([]:List GCmd))] a w) ?_ (λ n133=>?_)
 ·
  rintro a133 w133 ⟨M133,q133_2,st133⟩
  refine aK2 4 14 ?_ ?_
  ·
   refine st133.apA 0 yt p67 [3,5,8,89,90,99,101] [7] (λ g242 _ _ _ st242=>?_)
   have st243:=st242.gn
   exact aHe n150 (st243.pkZ 3)
  ·
   refine st133.alA 3 zV [3,5,8,89,90,92,99,101] [7,91] (λ b245 _ _ _ st245=>?_)
   have st246:=st245.gn
   exact aHe n162 (st246.pkZ 3)
 refine ya 5 21487 (λ a w=>∃ M1 q137_2 q137_3,Sx (Frm.of w0) 150 M M1 [oneB none,oneB none,oneB q137_2,oneB q137_3] [(5,dt v6.2.2.1),(8,dt (v6.2.2.1.length:Int)),(89,dt v6.1),(90,dt v6.2.1),(92,dt v6.2.2.1),(98,dt v72),(101,dt v6.2.2.2),(3,dpk b56 o56 c56 v6.1)] [(7,2,dbox q137_2 0 v17),(9,3,dbox q137_3 0 zZ),(91,0,dtip none 43 ([]:List GCmd))] a w) ?_ (λ n137=>?_)
 ·
  rintro a137 w137 ⟨M137,q137_2,q137_3,st137⟩
  refine aK2 4 10 ?_ ?_
  ·
   refine st137.apA 0 yt p67 [3,5,8,89,90,98,101] [7,9] (λ g248 _ _ _ st248=>?_)
   have st249:=st248.gn
   exact aHe n154 (st249.pkZ 3)
  ·
   refine st137.segC 1 [3,5,8,89,90,92,99,101] [(7,2),(9,3),(91,0)] (λ _ _ st250=>?_)
   exact aHe n162 (st250.pkZ 3)
 refine ya 5 22507 (λ a w=>∃ M1 q146_2 q146_3,Sx (Frm.of w0) 150 M M1 [oneB none,oneB none,oneB q146_2,oneB q146_3] [(5,dt v6.2.2.1),(8,dt (v6.2.2.1.length:Int)),(89,dt v6.1),(90,dt v6.2.1),(92,dt v6.2.2.1),(99,dt ([v72]:List GCmd)),(101,dt v6.2.2.2),(3,dpk b56 o56 c56 v6.1)] [(7,2,dbox q146_2 0 v17),(9,3,dbox q146_3 0 zZ)] a w) ?_ (λ n146=>?_)
 ·
  rintro a146 w146 ⟨M146,q146_2,q146_3,st146⟩
  refine aK1 2 ?_
  refine st146.segB 1 (sc rfl (yp (α:=GCmd) (e:=43) rfl kS27)<|.nil) [3,5,8,89,90,92,99,101] [(7,2),(9,3),(91,0)] (λ _ _ st251=>?_)
  exact aHe n162 (st251.pkZ 3)
 refine ya 6 4607 (λ a w=>∃ M1 q107_0 q107_2,Sx (Frm.of w0) 150 M M1 [oneB q107_0,oneB none,oneB q107_2,oneB none] [(5,dt v6.2.2.1),(8,dt (v6.2.2.1.length:Int)),(89,dt v6.1),(90,dt v6.2.1),(97,dptr v72),(101,dt v6.2.2.2),(3,dpk b56 o56 c56 v6.1)] [(7,2,dbox q107_2 0 v17),(93,0,dtip q107_0 43 v67)] a w) ?_ (λ n107=>?_)
 ·
  rintro a107 w107 ⟨M107,q107_0,q107_2,st107⟩
  refine aK2 9 14 ?_ ?_
  ·
   refine st107.segA 1 [3,5,8,89,90,98,101] [(7,2),(93,0)] (λ _ _ st252=>?_)
   exact aHe n124 (st252.pkZ 3)
  ·
   refine st107.alA 3 zV [3,5,8,89,90,97,101] [7,93] (λ b254 _ _ _ st254=>?_)
   have st255:=st254.gn
   exact aHe n128 (st255.pkZ 3)
 refine ya 6 5103 (λ a w=>∃ M1 q109_2,Sx (Frm.of w0) 150 M M1 [oneB none,oneB none,oneB q109_2,oneB none] [(5,dt v6.2.2.1),(8,dt (v6.2.2.1.length:Int)),(89,dt v6.1),(90,dt v6.2.1),(92,dt v6.2.2.1),(98,dt v72),(101,dt v6.2.2.2),(3,dpk b56 o56 c56 v6.1)] [(7,2,dbox q109_2 0 v17),(91,0,dtip none 43 ([]:List GCmd))] a w) ?_ (λ n109=>?_)
 ·
  rintro a109 w109 ⟨M109,q109_2,st109⟩
  refine aH3 (i:=4) (j:=10) (k:=14) (by decide +kernel) rfl rfl rfl ?_ ?_ ?_
  ·
   refine st109.apA 0 yt p67 [3,5,8,89,90,98,101] [7] (λ g257 _ _ _ st257=>?_)
   have st258:=st257.gn
   exact aHe n124 (st258.pkZ 3)
  ·
   refine st109.segC 1 [3,5,8,89,90,92,99,101] [(7,2),(91,0)] (λ _ _ st259=>?_)
   exact aHe n133 (st259.pkZ 3)
  ·
   refine st109.alA 3 zV [3,5,8,89,90,92,98,101] [7,91] (λ b261 _ _ _ st261=>?_)
   have st262:=st261.gn
   exact aHe n137 (st262.pkZ 3)
 refine ya 6 20975 (λ a w=>∃ M1 q113_2 q113_3,Sx (Frm.of w0) 150 M M1 [oneB none,oneB none,oneB q113_2,oneB q113_3] [(5,dt v6.2.2.1),(8,dt (v6.2.2.1.length:Int)),(89,dt v6.1),(90,dt v6.2.1),(92,dt v6.2.2.1),(97,dptr v72),(101,dt v6.2.2.2),(3,dpk b56 o56 c56 v6.1)] [(7,2,dbox q113_2 0 v17),(9,3,dbox q113_3 0 zZ),(91,0,dtip none 43 ([]:List GCmd))] a w) ?_ (λ n113=>?_)
 ·
  rintro a113 w113 ⟨M113,q113_2,q113_3,st113⟩
  refine aK2 4 9 ?_ ?_
  ·
   refine st113.apA 0 yt p67 [3,5,8,89,90,97,101] [7,9] (λ g264 _ _ _ st264=>?_)
   have st265:=st264.gn
   exact aHe n128 (st265.pkZ 3)
  ·
   refine st113.segA 1 [3,5,8,89,90,92,98,101] [(7,2),(9,3),(91,0)] (λ _ _ st266=>?_)
   exact aHe n137 (st266.pkZ 3)
 refine ya 6 6123 (λ a w=>∃ M1 q116_2,Sx (Frm.of w0) 150 M M1 [oneB none,oneB none,oneB q116_2,oneB none] [(5,dt v6.2.2.1),(8,dt (v6.2.2.1.length:Int)),(89,dt v6.1),(90,dt v6.2.1),(92,dt v6.2.2.1),(99,dt ([v72]:List GCmd)),(101,dt v6.2.2.2),(3,dpk b56 o56 c56 v6.1)] [(7,2,dbox q116_2 0 v17)] a w) ?_ (λ n116=>?_)
 ·
  rintro a116 w116 ⟨M116,q116_2,st116⟩
  refine aK2 2 14 ?_ ?_
  ·
   refine st116.segB 1 (sc rfl (yp (α:=GCmd) (e:=43) rfl kS27)<|.nil) [3,5,8,89,90,92,99,101] [(7,2),(91,0)] (λ _ _ st267=>?_)
   exact aHe n133 (st267.pkZ 3)
  ·
   refine st116.alA 3 zV [3,5,8,89,90,92,99,101] [7] (λ b269 _ _ _ st269=>?_)
   have st270:=st269.gn
   exact aHe n146 (st270.pkZ 3)
 refine ya 6 21483 (λ a w=>∃ M1 q120_2 q120_3,Sx (Frm.of w0) 150 M M1 [oneB none,oneB none,oneB q120_2,oneB q120_3] [(5,dt v6.2.2.1),(8,dt (v6.2.2.1.length:Int)),(89,dt v6.1),(90,dt v6.2.1),(92,dt v6.2.2.1),(98,dt v72),(101,dt v6.2.2.2),(3,dpk b56 o56 c56 v6.1)] [(7,2,dbox q120_2 0 v17),(9,3,dbox q120_3 0 zZ)] a w) ?_ (λ n120=>?_)
 ·
  rintro a120 w120 ⟨M120,q120_2,q120_3,st120⟩
  refine aK2 2 10 ?_ ?_
  ·
   refine st120.segB 1 (sc rfl (yp (α:=GCmd) (e:=43) rfl kS27)<|.nil) [3,5,8,89,90,92,98,101] [(7,2),(9,3),(91,0)] (λ _ _ st271=>?_)
   exact aHe n137 (st271.pkZ 3)
  ·
   refine st120.segC 1 [3,5,8,89,90,92,99,101] [(7,2),(9,3)] (λ _ _ st272=>?_)
   exact aHe n146 (st272.pkZ 3)
 refine ya 7 4591 (λ a w=>∃ M1 q97_2,Sx (Frm.of w0) 150 M M1 [oneB none,oneB none,oneB q97_2,oneB none] [(5,dt v6.2.2.1),(8,dt (v6.2.2.1.length:Int)),(89,dt v6.1),(90,dt v6.2.1),(92,dt v6.2.2.1),(97,dptr v72),(101,dt v6.2.2.2),(3,dpk b56 o56 c56 v6.1)] [(7,2,dbox q97_2 0 v17),(91,0,dtip none 43 ([]:List GCmd))] a w) ?_ (λ n97=>?_)
 ·
  rintro a97 w97 ⟨M97,q97_2,st97⟩
  refine aH3 (i:=4) (j:=9) (k:=14) (by decide +kernel) rfl rfl rfl ?_ ?_ ?_
  ·
   refine st97.apA 0 yt p67 [3,5,8,89,90,97,101] [7] (λ g274 _ _ _ st274=>?_)
   have st275:=st274.gn
   exact aHe n107 (st275.pkZ 3)
  ·
   refine st97.segA 1 [3,5,8,89,90,92,98,101] [(7,2),(91,0)] (λ _ _ st276=>?_)
   exact aHe n109 (st276.pkZ 3)
  ·
   refine st97.alA 3 zV [3,5,8,89,90,92,97,101] [7,91] (λ b278 _ _ _ st278=>?_)
   have st279:=st278.gn
   exact aHe n113 (st279.pkZ 3)
 refine ya 7 5099 (λ a w=>∃ M1 q99_2,Sx (Frm.of w0) 150 M M1 [oneB none,oneB none,oneB q99_2,oneB none] [(5,dt v6.2.2.1),(8,dt (v6.2.2.1.length:Int)),(89,dt v6.1),(90,dt v6.2.1),(92,dt v6.2.2.1),(98,dt v72),(101,dt v6.2.2.2),(3,dpk b56 o56 c56 v6.1)] [(7,2,dbox q99_2 0 v17)] a w) ?_ (λ n99=>?_)
 ·
  rintro a99 w99 ⟨M99,q99_2,st99⟩
  refine aH3 (i:=2) (j:=10) (k:=14) (by decide +kernel) rfl rfl rfl ?_ ?_ ?_
  ·
   refine st99.segB 1 (sc rfl (yp (α:=GCmd) (e:=43) rfl kS27)<|.nil) [3,5,8,89,90,92,98,101] [(7,2),(91,0)] (λ _ _ st280=>?_)
   exact aHe n109 (st280.pkZ 3)
  ·
   refine st99.segC 1 [3,5,8,89,90,92,99,101] [(7,2)] (λ _ _ st281=>?_)
   exact aHe n116 (st281.pkZ 3)
  ·
   refine st99.alA 3 zV [3,5,8,89,90,92,98,101] [7] (λ b283 _ _ _ st283=>?_)
   have st284:=st283.gn
   exact aHe n120 (st284.pkZ 3)
 refine ya 7 20971 (λ a w=>∃ M1 q103_2 q103_3,Sx (Frm.of w0) 150 M M1 [oneB none,oneB none,oneB q103_2,oneB q103_3] [(5,dt v6.2.2.1),(8,dt (v6.2.2.1.length:Int)),(89,dt v6.1),(90,dt v6.2.1),(92,dt v6.2.2.1),(97,dptr v72),(101,dt v6.2.2.2),(3,dpk b56 o56 c56 v6.1)] [(7,2,dbox q103_2 0 v17),(9,3,dbox q103_3 0 zZ)] a w) ?_ (λ n103=>?_)
 ·
  rintro a103 w103 ⟨M103,q103_2,q103_3,st103⟩
  refine aK2 2 9 ?_ ?_
  ·
   refine st103.segB 1 (sc rfl (yp (α:=GCmd) (e:=43) rfl kS27)<|.nil) [3,5,8,89,90,92,97,101] [(7,2),(9,3),(91,0)] (λ _ _ st285=>?_)
   exact aHe n113 (st285.pkZ 3)
  ·
   refine st103.segA 1 [3,5,8,89,90,92,98,101] [(7,2),(9,3)] (λ _ _ st286=>?_)
   exact aHe n120 (st286.pkZ 3)
 refine aH3 (i:=2) (j:=9) (k:=14) (by decide +kernel) rfl rfl rfl ?_ ?_ ?_
 ·
  refine st95.segB 1 (sc rfl (yp (α:=GCmd) (e:=43) rfl kS27)<|.nil) [3,5,8,89,90,92,97,101] [(7,2),(91,0)] (λ _ _ st287=>?_)
  exact aHe n97 (st287.pkZ 3)
 ·
  refine st95.segA 1 [3,5,8,89,90,92,98,101] [(7,2)] (λ _ _ st288=>?_)
  exact aHe n99 (st288.pkZ 3)
 ·
  refine st95.alA 3 zV [3,5,8,89,90,92,97,101] [7] (λ b290 _ _ _ st290=>?_)
  have st291:=st290.gn
  exact aHe n103 (st291.pkZ 3)
open Go.RowKit Tryz
theorem Xv(c:List UInt8):wx (scc xy) c=some true:=by
 unfold wx
 refine cmd_law c λ t path l f ht hp hl hn hok=>?_
 obtain⟨a1,a2,a3,a4,a5⟩:=Jw hp hok
 refine last_law (l:=l) (cmpI .geq (l.length:Int) 10) a4 (by omega) λ d hpos hb hc h0 he=>?_
 have he:(zz t path l f).2[l.length - 1]?=some 0:=he
 obtain⟨hs,hd,hin⟩:=zaD hp hok hpos hc h0 he
 have hok':okR t path (l++[⟨0,d.name⟩]) f=true:=okR_more hok (λ x hx=>by rw[List.mem_singleton.1 hx];exact Q3 (by decide) (by decide) hs) (by show l.length+1<=10;omega)
 have hrun:=run_twice hp hok hok' hin
 have i1:i64 ((l.length:Int) - 1)=some ((l.length - 1:Nat):Int):=by rw[xU (by omega) (by omega),show(l.length:Int) - 1=((l.length - 1:Nat):Int) by omega]
 have hsho:sho d.name:=hn d (List.mem_of_getElem? hc)
 dsimp only
 rw[yE (by simp;omega) (by simp;omega),obS,i1,obS,zG,hc,obS,List.nil_append,yE (by simp;omega) (by simp;omega),obS,hd,Yg ht hp (by simp;omega) (sho_more hn (s:=d.name) (λ x hx=>by rw[List.mem_singleton.1 hx]) hsho) f,obS,Q2 hok',hrun]
 have hat:atI (resV ((zz t path l f).1.hit (cix (zz t path l f).1 d.name).toNat d.name) ((zz t path l f).2++[0])).ends (l.length:Int)=some 0:=by
  show atI ((zz t path l f).2++[0]) (l.length:Int)=some 0
  rw[zG,List.getElem?_append_right (by omega),a4,Nat.sub_self]
  rfl
 have hout:xa (resV ((zz t path l f).1.hit (cix (zz t path l f).1 d.name).toNat d.name) ((zz t path l f).2++[0])).out (resV (zz t path l f).1 (zz t path l f).2).out=some true:=Jv (x:=(zz t path l f).1.out) (by omega)
 have hlog:(resV ((zz t path l f).1.hit (cix (zz t path l f).1 d.name).toNat d.name) ((zz t path l f).2++[0])).log=(resV (zz t path l f).1 (zz t path l f).2).log++[⟨3,d.name⟩]:=rfl
 have hleft:cmpI .eql (resV ((zz t path l f).1.hit (cix (zz t path l f).1 d.name).toNat d.name) ((zz t path l f).2++[0])).left (resV (zz t path l f).1 (zz t path l f).2).left=true:=by
  show cmpI .eql (zz t path l f).1.left (zz t path l f).1.left=true
  simp[cmpI]
 have hll:(resV (zz t path l f).1 (zz t path l f).2).log.length<=12120:=a2
 rw[hat,obS,hleft,hlog,hout,show cmpI .eql (0:Int) 0=true from rfl]
 generalize (resV (zz t path l f).1 (zz t path l f).2).log=lg at hll ⊢
 rw[show((true:Bool) == true)=true from rfl,yZ,obS,show((true&&true) == true:Bool)=true from rfl,yZ,z7 (by omega),obS,show cmpI .eql ((lg++[(⟨3,d.name⟩:GEvent)]).length:Int) ((lg.length+1:Nat):Int)=true by simp[cmpI],show(((true&&true)&&true) == true:Bool)=true from rfl,yZ,zG,List.getElem?_append_right (Nat.le_refl _),Nat.sub_self]
 show(some _).bind _=_
 rw[obS,yZ,obS,yZ,zG,hc,obS]
 simp
theorem Wk(c:List UInt8):Fn prog 4 [dt c] (dt true):=Xu (YQ xy) (Xv c)
end Go.Proofs.YtnlhpkbphdbknaaGreatDoor
