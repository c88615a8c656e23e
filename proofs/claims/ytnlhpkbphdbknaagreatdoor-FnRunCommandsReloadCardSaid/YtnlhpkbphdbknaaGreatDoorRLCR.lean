import Derived.Test.YtnlhpkbphdbknaaGreatDoorRB
import Derived.Test.YtnlhpkbphdbknaaGreatDoorRO
import Derived.Test.YtnlhpkbphdbknaaGreatDoorRKc
import Derived.Test.YtnlhpkbphdbknaaGreatDoorRK
import Derived.Test.YtnlhpkbphdbknaaGreatDoorRT
namespace Go.Proofs.YtnlhpkbphdbknaaGreatDoor
open Go.RowKit Tryz
attribute [local irreducible] OpRel OpdR
set_option maxRecDepth 10000
set_option maxHeartbeats 1600000
theorem kN13:fnB prog 13=true:=by kernel_rfl
theorem kN12:fnB prog 12=true:=by kernel_rfl
def yF(_R:Rec)(v6:Tree×(List Int)×(List GCmd)×Int)(v17:GResult)(v84:GResult)(s235:Int×Int):Option ((Int×Int)⊕Int):=
if(cmpI .lss s235.2 (v84.modules.length:Int))=true then(Option.bind (α:=Int) ((atI v84.modules s235.2).bind λ v241=>
(i64 ((v6.2.2.1.length:Int) - (1:Int))).bind λ v242=>
(atI v6.2.2.1 v242).bind λ v243=>
if(decide (v241.name=v243.name)&&cmpI .geq s235.2 (v17.modules.length:Int))=true then((i64 (s235.1+(1:Int))).bind λ v250=>
some v250)
else(some s235.1)) λ o240=>
(i64 (s235.2+(1:Int))).bind λ v254=>
some (.inl (o240,v254)))
else(some (.inr s235.1))
def xH(_R:Rec)(v17:GResult)(v261:Str)(s269:Bool×Int):Option ((Bool×Int)⊕Bool):=
if(cmpI .lss s269.2 (v17.modules.length:Int))=true then((gO (s269.1 == false) (atI v17.modules s269.2)).bind λ v274=>
(gO ((s269.1 == false)&&(decide (v274.name=v261) == true)) (atI v17.modules s269.2)).bind λ v275=>
(i64 (s269.2+(1:Int))).bind λ v279=>
some (.inl ((s269.1||(decide (v274.name=v261)&&v275.cached)),v279)))
else(some (.inr s269.1))
def wk(R:Rec)(x0:List UInt8):Option Bool:=
if(cmpI .gtr (x0.length:Int) (1048576:Int))=true then(some true)
else((yN x0).bind λ v6=>
(yC R v6.1 v6.2.1 v6.2.2.1 v6.2.2.2).bind λ v17=>
(yo R v6.1 v6.2.1 v6.2.2.1 v6.2.2.2).bind λ v25=>
(yb v17 v25).bind λ v26=>
(gO ((!v26) == false) (xu v6.1)).bind λ v27=>
(gO (((!v26)||(!v27)) == false) (xv v6.2.1)).bind λ v28=>
(gO ((((!v26)||(!v27))||(!v28)) == false) (yM v6.2.2.1)).bind λ v29=>
if((((((!v26)||(!v27))||(!v28))||(!v29))||cmpI .lss v6.2.2.2 (0:Int))||cmpI .gtr v6.2.2.2 (120:Int))=true then((yo R v6.1 v6.2.1 v6.2.2.1 v6.2.2.2).bind λ v38=>
(yb v17 v38).bind λ v39=>
some v39)
else((gO ((cmpI .eql (v6.2.2.1.length:Int) (0:Int)||cmpI .geq (v6.2.2.1.length:Int) (10:Int)) == false) (i64 ((v6.2.2.1.length:Int) - (1:Int)))).bind λ v44=>
(gO ((cmpI .eql (v6.2.2.1.length:Int) (0:Int)||cmpI .geq (v6.2.2.1.length:Int) (10:Int)) == false) (atI v6.2.2.1 v44)).bind λ v45=>
(gO (((cmpI .eql (v6.2.2.1.length:Int) (0:Int)||cmpI .geq (v6.2.2.1.length:Int) (10:Int))||cmpI .neq v45.kind (0:Int)) == false) (i64 ((v6.2.2.1.length:Int) - (1:Int)))).bind λ v46=>
(gO (((cmpI .eql (v6.2.2.1.length:Int) (0:Int)||cmpI .geq (v6.2.2.1.length:Int) (10:Int))||cmpI .neq v45.kind (0:Int)) == false) (atI v17.ends v46)).bind λ v47=>
if(((cmpI .eql (v6.2.2.1.length:Int) (0:Int)||cmpI .geq (v6.2.2.1.length:Int) (10:Int))||cmpI .neq v45.kind (0:Int))||cmpI .neq v47 (0:Int))=true then(some true)
else((appO 24 [] v6.2.2.1).bind λ v67=>
(i64 ((v6.2.2.1.length:Int) - (1:Int))).bind λ v70=>
(atI v6.2.2.1 v70).bind λ v72=>
(appO 24 v67 ([(⟨(1:Int),v72.name⟩:GCmd)]:List GCmd)).bind λ v80=>
(yC R v6.1 v6.2.1 v80 v6.2.2.2).bind λ v84=>
Option.bind (α:=Int) (zW (λ s235=>yF R v6 v17 v84 s235) ((0:Int),(0:Int))) λ o233=>
(i64 ((v6.2.2.1.length:Int) - (1:Int))).bind λ v259=>
(atI v6.2.2.1 v259).bind λ v260=>
(yJ v260.name).bind λ v261=>
Option.bind (α:=Bool) (zW (λ s269=>xH R v17 v261 s269) (decide (v261=(⟨[]⟩:Str)),(0:Int))) λ o267=>
if(!o267)=true then((atI v84.ends (v6.2.2.1.length:Int)).bind λ v287=>
some (cmpI .eql v287 (1:Int)))
else((gO ((cmpI .eql o233 (0:Int)&&cmpI .gtr (v84.log.length:Int) (v17.log.length:Int)) == true) (atI v84.log (v17.log.length:Int))).bind λ v290=>
(gO ((cmpI .eql o233 (0:Int)&&cmpI .gtr (v84.log.length:Int) (v17.log.length:Int)) == true) (i64 ((v6.2.2.1.length:Int) - (1:Int)))).bind λ v291=>
(gO ((cmpI .eql o233 (0:Int)&&cmpI .gtr (v84.log.length:Int) (v17.log.length:Int)) == true) (atI v6.2.2.1 v291)).bind λ v292=>
some ((cmpI .eql o233 (0:Int)&&cmpI .gtr (v84.log.length:Int) (v17.log.length:Int))&&decide (v290=(⟨(0:Int),v292.name⟩:GEvent)))))))
theorem Xr{R:Rec}(hR:R.ok){x0:List UInt8}{r:Bool}(h:wk R x0=some r):Fn prog 8 [dt x0] (dt r):=by
 unfold wk at h
 refine fnx (fn:=f8) 4 func8 rfl (oD rfl) rfl (λ M w0 _ st0=>?_)
 refine st0.sq1 [0] (λ _ _ st1=>wp_seq ?_)
 refine st1.sq1 [0,17] (λ _ _ st2=>?_)
 refine st2.cs rfl h (λ _ h3=>?_) (λ _ h4=>wp_skip (za (wp_seq (wp_region_list ?_))))
 ·
  refine st2.sq1 [2] (λ _ _ st5=>wp_ret (zd ?_))
  exact st5.ret rfl rfl h3
 obtain⟨v6,p6,h7⟩:=bsW h4 qC
 refine st2.segA 7 [21,22,23,24] [] (λ _ _ st8=>?_)
 refine st8.alA 1 Y9 [21,22,23,24] [] (λ b10 _ _ _ st10=>?_)
 have st11:=st10.gn
 refine st11.stA 3 1 FldS.id (tp rfl) [22,23,24] [] (λ _ _ st13=>?_)
 have st14:=st13.frzX 1 (s:=3) rfl rfl [22,23,24] rfl [] rfl
 have st15:=st14.gn
 refine st15.segA 3 [3,4,5,6] [] (λ _ _ st16=>wpList_nil (za (wp_seq (wp_region_list ?_))))
 obtain⟨v17,p17,h18⟩:=bsW h7 (yX hR)
 refine st16.segA 5 [3,4,5,6,29] [] (λ _ _ st19=>?_)
 refine st19.alA 2 zV [3,4,5,6,29] [] (λ b21 _ _ _ st21=>?_)
 have st22:=st21.gn
 refine st22.stA 7 2 FldS.id (tp rfl) [3,4,5,6] [] (λ _ _ st24=>wpList_nil (za (wp_seq (wp_seq ?_))))
 obtain⟨v25,p25,v26,p26,v27,p27,v28,p28,h33⟩:=bsD h18
 obtain⟨v29,p29,h34⟩:=bs h33
 refine st24.drA (D:=[_,_,_,_,_,_,_,_,_,_,_,_,_,_,_,_,_,_,_,_,_,_,_,_,_,_,_,_,_,_,_]) zw [[(7,nS)],[(3,nS)],[(4,nS)],[(5,nS)],[(6,nS)],[(31,1),(32,2),(33,3),(34,4)],[(30,0),(35,5)],[(36,6)],[(37,7)],[(3,nS),(38,8)],[(39,9),(38,8)],[(40,10),(38,8)],[(38,8),(41,11)],[(42,12)],[(4,nS),(43,13)],[(44,14),(43,13)],[(45,15),(43,13)],[(43,13),(46,16)],[(47,17)],[(5,nS),(48,18)],[(49,19),(48,18)],[(50,20),(48,18)],[(48,18),(51,21)],[(52,22)],[(6,nS),(53,23)],[(54,24),(53,23)],[(53,23),(55,25)],[(56,26)],[(6,nS),(57,27)],[(58,28),(57,27)],[(57,27),(59,29)]] [3,4,5,6,60] [(7,2)] (λ _ _ st35=>?_) (hs:=rc rfl rfl (zP rfl kT33 (tp rfl))<|rc rfl rfl (zl rfl kT25 (tp rfl))<|rc rfl rfl (oM rfl (tp rfl))<|rc rfl rfl (oM rfl (tp rfl))<|rc rfl rfl (oM rfl (tp rfl))<|rc rfl rfl (zH (l:=[.tmp 31,.tmp 32,.tmp 33,.tmp 34]) rfl kN13 (.cons (tp rfl) (.cons (tp rfl) (.cons (tp rfl) (.cons (tp rfl) .nil)))) (wE hR p25))<|rc rfl rfl (zH (l:=[.tmp 30,.tmp 35]) rfl kN12 (.cons (tp rfl) (.cons (tp rfl) .nil)) (wI p26))<|rc rfl rfl (xS rfl (tp rfl))<|rc rfl rfl (oM rfl (tp rfl))<|rg rfl rfl rfl (λ hg=>zl rfl kT25 (tp rfl))<|rg rfl rfl rfl (λ hg=>zH (l:=[.tmp 39]) rfl kN14 (.cons (ze hg rfl) .nil) (Zs (gh hg p27)))<|rg rfl rfl rfl (λ hg=>xS rfl (ze hg rfl))<|rc rfl rfl (wu rfl (tp rfl) (zb rfl))<|rc rfl rfl (oM rfl (tp rfl))<|rg rfl rfl rfl (λ hg=>oM rfl (tp rfl))<|rg rfl rfl rfl (λ hg=>zH (l:=[.tmp 44]) rfl kN15 (.cons (ze hg rfl) .nil) (Zt (gh hg p28)))<|rg rfl rfl rfl (λ hg=>xS rfl (ze hg rfl))<|rc rfl rfl (wu rfl (tp rfl) (zb rfl))<|rc rfl rfl (oM rfl (tp rfl))<|rg rfl rfl rfl (λ hg=>oM rfl (tp rfl))<|rg rfl rfl rfl (λ hg=>zH (l:=[.tmp 49]) rfl kN16 (.cons (ze hg rfl) .nil) (jX (gh hg p29)))<|rg rfl rfl rfl (λ hg=>xS rfl (ze hg rfl))<|rc rfl rfl (wu rfl (tp rfl) (zb rfl))<|rc rfl rfl (oM rfl (tp rfl))<|rg rfl rfl rfl (λ hg=>oM rfl (tp rfl))<|rg rfl rfl rfl (λ hg=>oCI rfl (ze hg rfl) cI)<|rc rfl rfl (wu rfl (tp rfl) (zb rfl))<|rc rfl rfl (oM rfl (tp rfl))<|rg rfl rfl rfl (λ hg=>oM rfl (tp rfl))<|rg rfl rfl rfl (λ hg=>oCI rfl (ze hg rfl) cI)<|rc rfl rfl (wu rfl (tp rfl) (zb rfl))<|.nil)
 refine za ?_
 refine st35.cs rfl h34 (λ _ h36=>wp_seq ?_) (λ _ h37=>wp_skip (za ?_))
 ·
  obtain⟨v38,p38,v39,p39,h41⟩:=bsB h36
  refine st35.drA (D:=[_,_,_,_,_,_,_,_]) zw [[(7,nS)],[(3,nS)],[(4,nS)],[(5,nS)],[(6,nS)],[(62,1),(63,2),(64,3),(65,4)],[(61,0),(66,5)],[(67,6)]] [2] [] (λ _ _ st42=>?_) (hs:=rc rfl rfl (zP rfl kT33 (tp rfl))<|rc rfl rfl (zl rfl kT25 (tp rfl))<|rc rfl rfl (oM rfl (tp rfl))<|rc rfl rfl (oM rfl (tp rfl))<|rc rfl rfl (oM rfl (tp rfl))<|rc rfl rfl (zH (l:=[.tmp 62,.tmp 63,.tmp 64,.tmp 65]) rfl kN13 (.cons (tp rfl) (.cons (tp rfl) (.cons (tp rfl) (.cons (tp rfl) .nil)))) (wE hR p38))<|rc rfl rfl (zH (l:=[.tmp 61,.tmp 66]) rfl kN12 (.cons (tp rfl) (.cons (tp rfl) .nil)) (wI p39))<|rc rfl rfl (oA rfl (tp rfl))<|.nil)
  refine za ?_
  refine wp_ret (zd ?_)
  exact st42.ret rfl rfl h41
 refine st35.sqA [3,4,5,6,8] [(7,2)] (λ _ _ st43=>wp_seq ?_)
 obtain⟨v44,p44,v45,p45,v46,p46,v47,p47,h51⟩:=bsD h37
 refine st43.sqB (sP 9 (r:=by exact sg rfl rfl (λ hg=>xAr rfl (ze hg rfl) cI (gh hg p44))<|sg rfl rfl (λ hg=>xIdx rfl kS27 (ze hg rfl) (ze hg rfl) (gh hg p45))<|sP 8 (r:=by exact sg rfl rfl (λ hg=>xAr rfl (ze hg rfl) cI (gh hg p46))<|sg rfl rfl (λ hg=>xIdx rfl kS26 (ze hg rfl) (ze hg rfl) (gh hg p47))<|segC))) [3,4,5,6,8,93] [(7,2)] (λ _ _ st52=>?_)
 refine st52.cs rfl h51 (λ _ h53=>?_) (λ _ h54=>wp_skip (za (wp_seq ?_)))
 ·
  refine st52.sq1 [2] (λ _ _ st55=>wp_ret (zd ?_))
  exact st55.ret rfl rfl h53
 refine st52.opn (s:=3) rfl (λ b56 o56 c56 st56=>?_)
 refine st56.held (λ w=>CellsAt w b56 o56 c56) zw (λ _ st57=>?_)
 refine st57.tW 0 3 (λ _ st58=>?_)
 refine st58.tM 1 4 (st58.pkZ 3) (λ _ st59=>?_)
 refine st59.tM 3 5 (st59.pkZ 3) (λ _ st60=>?_)
 refine st60.tM 5 5 (st60.pkZ 3) (λ _ st61=>?_)
 refine st61.tM 6 8 (st61.pkZ 3) (λ _ st62=>?_)
 refine st62.tM 14 6 (st62.pkZ 3) (λ _ st63=>?_)
 obtain⟨v67,p67,v70,p70,v72,p72,v80,p80,h94⟩:=bsD h54
 obtain⟨v84,p84,h95⟩:=bs h94
 refine st63.tkAr (i:=7) rfl rfl (by decide +kernel) (by decide +kernel) (by decide +kernel) (λ _ _ _ _ h=>h) (st63.pkZ 3) rfl (tp rfl) cI p70 (next:=λ a96 st96=>?_)
 refine st96.tkIF (i:=8) rfl rfl (by decide +kernel) (by decide +kernel) (by decide +kernel) (λ _ _ _ _ h=>h) (st96.pkZ 3) rfl kS27 (tp rfl) (tp rfl) p72 (next:=λ a97 st97=>?_)
 refine st97.tkFp (i:=9) rfl rfl (by decide +kernel) (by decide +kernel) (by decide +kernel) (λ _ _ _ _ h=>h) (st97.pkZ 3) GCmd.fld1 rfl kF43_1 (tp rfl) (next:=λ a98 st98=>?_)
 refine ya 1 131071 (λ a w=>∃ M1 q225_2 q225_3,Sx (Frm.of w0) 210 M M1 [oneB none,oneB none,oneB q225_2,oneB q225_3] [(5,dt v6.2.2.1),(8,dt (v6.2.2.1.length:Int)),(109,dt v84),(3,dpk b56 o56 c56 v6.1)] [(7,2,dbox q225_2 0 v17),(9,3,dbox q225_3 0 zZ)] a w) ?_ (λ n225=>?_)
 ·
  rintro a225 w225 ⟨M225,q225_2,q225_3,st225⟩
  refine aK1 17 ?_
  refine st225.stA 9 3 FldS.id (tp rfl) [3,5,8] [7] (λ _ _ st231=>?_)
  refine aHN (st231.pkZ 3) ?_
  refine aK0 (za ?_)
  refine st231.sqA [5,8,10] [(7,2),(9,3)] (λ _ _ st232=>?_)
  obtain⟨o233,p233,k233⟩:=bs h95
  refine zk (λ a w=>∃ M1 q233_0 q233_1 q233_2 q233_3,Sx (Frm.of w0) 210 M M1 [oneB q233_0,oneB q233_1,oneB q233_2,oneB q233_3] [(5,dt v6.2.2.1),(8,dt (v6.2.2.1.length:Int)),(10,dt o233)] [(7,2,dbox q233_2 0 v17),(9,3,dbox q233_3 0 v84)] a w) ?_ ?_
  ·
   refine st232.sqA [5,8,10,11] [(7,2),(9,3)] (λ _ _ st234=>wp_block ?_)
   refine zJ p233 (λ s235 a w=>∃ M1 q235_0 q235_1 q235_2 q235_3,Sx (Frm.of w0) 210 M M1 [oneB q235_0,oneB q235_1,oneB q235_2,oneB q235_3] [(5,dt v6.2.2.1),(8,dt (v6.2.2.1.length:Int)),(10,dt s235.1),(11,dt s235.2)] [(7,2,dbox q235_2 0 v17),(9,3,dbox q235_3 0 v84)] a w) fx ?_
   rintro s235 z235 a235 w235 ⟨M235,q235_0,q235_1,q235_2,q235_3,st235⟩ hs235 hx235
   have h236:yF R v6 v17 v84 s235=some z235:=hs235
   unfold yF at h236
   refine wp_seq ?_
   refine st235.sqC [5,8,10,11,114] [(7,2),(9,3)] (λ _ _ st237=>?_)
   refine st237.cs rfl h236 (λ _ h238=>wp_skip (za ?_)) (λ _ h239=>wp_exit (zi (zi (zE ?_))))
   ·
    obtain⟨o240,p240,k240⟩:=bs h238
    refine zk (λ a w=>∃ M1 q240_0 q240_1 q240_2 q240_3,Sx (Frm.of w0) 210 M M1 [oneB q240_0,oneB q240_1,oneB q240_2,oneB q240_3] [(5,dt v6.2.2.1),(8,dt (v6.2.2.1.length:Int)),(10,dt o240),(11,dt s235.2)] [(7,2,dbox q240_2 0 v17),(9,3,dbox q240_3 0 v84)] a w) ?_ ?_
    ·
     refine wp_block (wp_seq ?_)
     obtain⟨v241,p241,v242,p242,v243,p243,h246⟩:=bsC p240
     refine st237.drA (D:=[_,_,_,_,_,_,_,_,_,_,_,_,_,_,_,_,_,_,_,_]) zw [[(9,nS)],[(117,0)],[(11,nS)],[(118,1),(119,2)],[(120,3)],[(121,4)],[(5,nS)],[(8,nS)],[(124,7)],[(123,6),(125,8)],[(126,9)],[(127,10)],[(122,5),(128,11)],[(129,12)],[(11,nS),(130,13)],[(7,nS),(130,13)],[(132,15),(130,13)],[(133,16),(130,13)],[(131,14),(134,17),(130,13)],[(130,13),(135,18)]] [5,8,10,11,136] [(7,2),(9,3)] (λ _ _ st247=>za ?_)
     refine st247.cs rfl h246 (λ _ h248=>?_) (λ _ h249=>wp_skip (zf (za ?_)))
     ·
      obtain⟨v250,p250,h251⟩:=bs h248
      refine st247.rgA [5,8,10,11] [(7,2),(9,3)] (λ _ _ st252=>zf (za ?_))
      cases h251
      exact fx
     cases h249
     exact fx
    rintro a240 w240 ⟨M240,q240_0,q240_1,q240_2,q240_3,st240⟩
    have h253:=k240
    obtain⟨v254,p254,h255⟩:=bs h253
    refine st240.rgA [5,8,10,11] [(7,2),(9,3)] (λ _ _ st256=>za ?_)
    exact fl h255
   refine za ?_
   have h257:=lo h239 hx235
   cases h257
   exact fx
  rintro a233 w233 ⟨M233,q233_0,q233_1,q233_2,q233_3,st233⟩
  have h258:=k233
  obtain⟨v259,p259,v260,p260,h263⟩:=bsB h258
  obtain⟨v261,p261,h264⟩:=bsW h263 je
  refine st233.sqA [5,8,10,12] [(7,2),(9,3)] (λ _ _ st265=>?_)
  refine st265.sqA [5,8,10,12,13] [(7,2),(9,3)] (λ _ _ st266=>?_)
  obtain⟨o267,p267,k267⟩:=bs h264
  refine zk (λ a w=>∃ M1 q267_0 q267_1 q267_2 q267_3,Sx (Frm.of w0) 210 M M1 [oneB q267_0,oneB q267_1,oneB q267_2,oneB q267_3] [(5,dt v6.2.2.1),(8,dt (v6.2.2.1.length:Int)),(10,dt o233),(13,dt o267)] [(7,2,dbox q267_2 0 v17),(9,3,dbox q267_3 0 v84)] a w) ?_ ?_
  ·
   refine st266.sqA [5,8,10,12,13,14] [(7,2),(9,3)] (λ _ _ st268=>wp_block ?_)
   refine zJ p267 (λ s269 a w=>∃ M1 q269_0 q269_1 q269_2 q269_3,Sx (Frm.of w0) 210 M M1 [oneB q269_0,oneB q269_1,oneB q269_2,oneB q269_3] [(5,dt v6.2.2.1),(8,dt (v6.2.2.1.length:Int)),(10,dt o233),(12,dt v261),(13,dt s269.1),(14,dt s269.2)] [(7,2,dbox q269_2 0 v17),(9,3,dbox q269_3 0 v84)] a w) fx ?_
   rintro s269 z269 a269 w269 ⟨M269,q269_0,q269_1,q269_2,q269_3,st269⟩ hs269 hx269
   have h270:xH R v17 v261 s269=some z269:=hs269
   unfold xH at h270
   refine wp_seq ?_
   refine st269.sqC [5,8,10,12,13,14,152] [(7,2),(9,3)] (λ _ _ st271=>?_)
   refine st271.cs rfl h270 (λ _ h272=>wp_skip (za (wp_seq (wp_block ?_)))) (λ _ h273=>wp_exit (zi (zi (zE ?_))))
   ·
    obtain⟨v274,p274,v275,p275,h277⟩:=bsB h272
    refine st271.rgB (sP 5 (r:=by exact sg rfl rfl (λ hg=>xIdx rfl kS31 (ze hg rfl) (ze hg rfl) (gh hg p274))<|sP 4 (r:=by exact sg rfl rfl (λ hg=>oM rfl (ze hg rfl))<|sgg rfl rfl (λ hg=>yj GResult.fld3 rfl kF33_3 (tp rfl))<|sgg rfl rfl (λ hg=>zP rfl kT31 (ze hg rfl))<|sgg rfl rfl (λ hg=>oM rfl (tp rfl))<|sgg rfl rfl (λ hg=>xIdx rfl kS31 (ze hg rfl) (ze hg rfl) (gh hg p275))<|sgg rfl rfl (λ hg=>zt GMod.fld3 rfl W4 (ze hg rfl))<|sgg rfl rfl (λ hg=>zl rfl kT4 (ze hg rfl))<|sg rfl rfl (λ hg=>yS rfl (ze hg rfl) (Y3 hg rfl))<|segC))) [5,8,10,12,13,14] [(7,2),(9,3)] (λ _ _ st278=>zf (za ?_))
    obtain⟨v279,p279,h280⟩:=bs h277
    refine st278.rgA [5,8,10,12,13,14] [(7,2),(9,3)] (λ _ _ st281=>za ?_)
    exact fl h280
   refine za ?_
   have h282:=lo h273 hx269
   cases h282
   exact fx
  rintro a267 w267 ⟨M267,q267_0,q267_1,q267_2,q267_3,st267⟩
  have h283:=k267
  refine wp_seq ?_
  refine st267.sqA [5,8,10,175] [(7,2),(9,3)] (λ _ _ st284=>?_)
  refine st284.cs rfl h283 (λ _ h285=>?_) (λ _ h286=>wp_skip (za (wp_seq ?_)))
  ·
   obtain⟨v287,p287,h288⟩:=bs h285
   refine st284.sq3 [2] (λ _ _ st289=>wp_ret (zd ?_))
   exact st289.ret rfl rfl h288
  obtain⟨v290,p290,v291,p291,v292,p292,h295⟩:=bsC h286
  refine st284.drA (D:=[_,_,_,_,_,_,_,_,_,_,_,_,_,_,_,_,_,_,_,_,_,_,_,_,_,_,_,_,_]) zw [[(10,nS)],[(182,0)],[(183,1)],[(9,nS),(184,2)],[(185,3),(184,2)],[(186,4),(184,2)],[(7,nS),(184,2)],[(188,6),(184,2)],[(189,7),(184,2)],[(187,5),(190,8),(184,2)],[(184,2),(191,9)],[(192,10)],[(9,nS),(193,11)],[(194,12),(193,11)],[(7,nS),(193,11)],[(196,14),(193,11)],[(197,15),(193,11)],[(195,13),(198,16),(193,11)],[(199,17),(193,11)],[(5,nS),(193,11)],[(8,nS),(193,11)],[(202,20),(193,11)],[(201,19),(203,21),(193,11)],[(204,22),(193,11)],[(205,23),(193,11)],[(206,24),(193,11)],[(200,18),(207,25),(193,11)],[(193,11),(208,26)],[(209,27)]] [2] [] (λ _ _ st296=>?_) (hs:=rc rfl rfl (oM rfl (tp rfl))<|rc rfl rfl (oCI rfl (tp rfl) cI)<|rc rfl rfl (oM rfl (tp rfl))<|rg rfl rfl rfl (λ hg=>yj GResult.fld2 rfl W7 (tp rfl))<|rg rfl rfl rfl (λ hg=>zP rfl kT30 (ze hg rfl))<|rg rfl rfl rfl (λ hg=>jQ rfl kL30 (ze hg rfl))<|rg rfl rfl rfl (λ hg=>yj GResult.fld2 rfl W7 (tp rfl))<|rg rfl rfl rfl (λ hg=>zP rfl kT30 (ze hg rfl))<|rg rfl rfl rfl (λ hg=>jQ rfl kL30 (ze hg rfl))<|rg rfl rfl rfl (λ hg=>oCI rfl (ze hg rfl) (ze hg rfl))<|rc rfl rfl (yS rfl (tp rfl) (zb rfl))<|rc rfl rfl (oM rfl (tp rfl))<|rg rfl rfl rfl (λ hg=>yj GResult.fld2 rfl W7 (tp rfl))<|rg rfl rfl rfl (λ hg=>zP rfl kT30 (ze hg rfl))<|rg rfl rfl rfl (λ hg=>yj GResult.fld2 rfl W7 (tp rfl))<|rg rfl rfl rfl (λ hg=>zP rfl kT30 (ze hg rfl))<|rg rfl rfl rfl (λ hg=>jQ rfl kL30 (ze hg rfl))<|rg rfl rfl rfl (λ hg=>xIdx rfl kS30 (ze hg rfl) (ze hg rfl) (gh hg p290))<|rg rfl rfl rfl (λ hg=>zl rfl kT44 (ze hg rfl))<|rg rfl rfl rfl (λ hg=>oM rfl (tp rfl))<|rg rfl rfl rfl (λ hg=>oM rfl (tp rfl))<|rg rfl rfl rfl (λ hg=>xAr rfl (ze hg rfl) cI (gh hg p291))<|rg rfl rfl rfl (λ hg=>xIdx rfl kS27 (ze hg rfl) (ze hg rfl) (gh hg p292))<|rg rfl rfl rfl (λ hg=>zt GCmd.fld1 rfl kF43_1 (ze hg rfl))<|rg rfl rfl rfl (λ hg=>zl rfl kT9 (ze hg rfl))<|rg rfl rfl rfl (λ hg=>QJ rfl cI (ze hg rfl))<|rg rfl rfl rfl (λ hg=>op_eqR rfl kR44 (ze hg rfl) (ze hg rfl))<|rc rfl rfl (yS rfl (tp rfl) (zb rfl))<|rc rfl rfl (oA rfl (tp rfl))<|.nil)
  refine za (wp_ret ?_)
  exact st296.ret rfl rfl h295
 refine ya 2 65535 (λ a w=>∃ M1 q214_2,Sx (Frm.of w0) 210 M M1 [oneB none,oneB none,oneB q214_2,oneB none] [(5,dt v6.2.2.1),(8,dt (v6.2.2.1.length:Int)),(109,dt v84),(3,dpk b56 o56 c56 v6.1)] [(7,2,dbox q214_2 0 v17)] a w) ?_ (λ n214=>?_)
 ·
  rintro a214 w214 ⟨M214,q214_2,st214⟩
  refine aK1 16 ?_
  refine st214.alA 3 zV [3,5,8,109] [7] (λ b298 _ _ _ st298=>?_)
  have st299:=st298.gn
  exact aHe n225 (st299.pkZ 3)
 refine ya 2 98303 (λ a w=>∃ M1 q218_0 q218_2 q218_3,Sx (Frm.of w0) 210 M M1 [oneB q218_0,oneB none,oneB q218_2,oneB q218_3] [(5,dt v6.2.2.1),(8,dt (v6.2.2.1.length:Int)),(94,dt v6.1),(95,dt v6.2.1),(108,dt v6.2.2.2),(3,dpk b56 o56 c56 v6.1)] [(7,2,dbox q218_2 0 v17),(9,3,dbox q218_3 0 zZ),(107,0,dtip q218_0 43 v80)] a w) ?_ (λ n218=>?_)
 ·
  rintro a218 w218 ⟨M218,q218_0,q218_2,q218_3,st218⟩
  refine aK1 15 ?_
  have st300:=st218.frz 0 (s:=107) rfl rfl [3,5,8,94,95,108] rfl [7,9] rfl
  refine st300.segB 1 (sc rfl (oK (yX hR p84))<|.nil) [3,5,8,109] [(7,2),(9,3)] (λ _ _ st301=>?_)
  exact aHe n225 (st301.pkZ 3)
 refine ya 3 32767 (λ a w=>∃ M1 q203_0 q203_2,Sx (Frm.of w0) 210 M M1 [oneB q203_0,oneB none,oneB q203_2,oneB none] [(5,dt v6.2.2.1),(8,dt (v6.2.2.1.length:Int)),(94,dt v6.1),(95,dt v6.2.1),(108,dt v6.2.2.2),(3,dpk b56 o56 c56 v6.1)] [(7,2,dbox q203_2 0 v17),(107,0,dtip q203_0 43 v80)] a w) ?_ (λ n203=>?_)
 ·
  rintro a203 w203 ⟨M203,q203_0,q203_2,st203⟩
  refine aK2 15 16 ?_ ?_
  ·
   have st302:=st203.frz 0 (s:=107) rfl rfl [3,5,8,94,95,108] rfl [7] rfl
   refine st302.segB 1 (sc rfl (oK (yX hR p84))<|.nil) [3,5,8,109] [(7,2)] (λ _ _ st303=>?_)
   exact aHe n214 (st303.pkZ 3)
  ·
   refine st203.alA 3 zV [3,5,8,94,95,108] [7,107] (λ b305 _ _ _ st305=>?_)
   have st306:=st305.gn
   exact aHe n218 (st306.pkZ 3)
 refine ya 3 90111 (λ a w=>∃ M1 q207_0 q207_2 q207_3,Sx (Frm.of w0) 210 M M1 [oneB q207_0,oneB none,oneB q207_2,oneB q207_3] [(5,dt v6.2.2.1),(8,dt (v6.2.2.1.length:Int)),(94,dt v6.1),(95,dt v6.2.1),(106,dt ([(⟨(1:Int),v72.name⟩:GCmd)]:List GCmd)),(108,dt v6.2.2.2),(3,dpk b56 o56 c56 v6.1)] [(7,2,dbox q207_2 0 v17),(9,3,dbox q207_3 0 zZ),(98,0,dtip q207_0 43 v67)] a w) ?_ (λ n207=>?_)
 ·
  rintro a207 w207 ⟨M207,q207_0,q207_2,q207_3,st207⟩
  refine aK1 13 ?_
  refine st207.apA 0 yt p80 [3,5,8,94,95,108] [7,9] (λ g308 _ _ _ st308=>?_)
  have st309:=st308.gn
  exact aHe n218 (st309.pkZ 3)
 refine ya 4 24575 (λ a w=>∃ M1 q182_0 q182_2,Sx (Frm.of w0) 210 M M1 [oneB q182_0,oneB none,oneB q182_2,oneB none] [(5,dt v6.2.2.1),(8,dt (v6.2.2.1.length:Int)),(94,dt v6.1),(95,dt v6.2.1),(106,dt ([(⟨(1:Int),v72.name⟩:GCmd)]:List GCmd)),(108,dt v6.2.2.2),(3,dpk b56 o56 c56 v6.1)] [(7,2,dbox q182_2 0 v17),(98,0,dtip q182_0 43 v67)] a w) ?_ (λ n182=>?_)
 ·
  rintro a182 w182 ⟨M182,q182_0,q182_2,st182⟩
  refine aK2 13 16 ?_ ?_
  ·
   refine st182.apA 0 yt p80 [3,5,8,94,95,108] [7] (λ g311 _ _ _ st311=>?_)
   have st312:=st311.gn
   exact aHe n203 (st312.pkZ 3)
  ·
   refine st182.alA 3 zV [3,5,8,94,95,106,108] [7,98] (λ b314 _ _ _ st314=>?_)
   have st315:=st314.gn
   exact aHe n207 (st315.pkZ 3)
 refine ya 4 86015 (λ a w=>∃ M1 q186_0 q186_2 q186_3,Sx (Frm.of w0) 210 M M1 [oneB q186_0,oneB none,oneB q186_2,oneB q186_3] [(5,dt v6.2.2.1),(8,dt (v6.2.2.1.length:Int)),(94,dt v6.1),(95,dt v6.2.1),(105,dt (⟨(1:Int),v72.name⟩:GCmd)),(108,dt v6.2.2.2),(3,dpk b56 o56 c56 v6.1)] [(7,2,dbox q186_2 0 v17),(9,3,dbox q186_3 0 zZ),(98,0,dtip q186_0 43 v67)] a w) ?_ (λ n186=>?_)
 ·
  rintro a186 w186 ⟨M186,q186_0,q186_2,q186_3,st186⟩
  refine aK1 12 ?_
  refine st186.segC 1 [3,5,8,94,95,106,108] [(7,2),(9,3),(98,0)] (λ _ _ st316=>?_)
  exact aHe n207 (st316.pkZ 3)
 refine ya 4 90095 (λ a w=>∃ M1 q194_2 q194_3,Sx (Frm.of w0) 210 M M1 [oneB none,oneB none,oneB q194_2,oneB q194_3] [(5,dt v6.2.2.1),(8,dt (v6.2.2.1.length:Int)),(94,dt v6.1),(95,dt v6.2.1),(97,dt v6.2.2.1),(106,dt ([(⟨(1:Int),v72.name⟩:GCmd)]:List GCmd)),(108,dt v6.2.2.2),(3,dpk b56 o56 c56 v6.1)] [(7,2,dbox q194_2 0 v17),(9,3,dbox q194_3 0 zZ),(96,0,dtip none 43 ([]:List GCmd))] a w) ?_ (λ n194=>?_)
 ·
  rintro a194 w194 ⟨M194,q194_2,q194_3,st194⟩
  refine aK1 4 ?_
  refine st194.apA 0 yt p67 [3,5,8,94,95,106,108] [7,9] (λ g318 _ _ _ st318=>?_)
  have st319:=st318.gn
  exact aHe n207 (st319.pkZ 3)
 refine ya 5 20479 (λ a w=>∃ M1 q155_0 q155_2,Sx (Frm.of w0) 210 M M1 [oneB q155_0,oneB none,oneB q155_2,oneB none] [(5,dt v6.2.2.1),(8,dt (v6.2.2.1.length:Int)),(94,dt v6.1),(95,dt v6.2.1),(105,dt (⟨(1:Int),v72.name⟩:GCmd)),(108,dt v6.2.2.2),(3,dpk b56 o56 c56 v6.1)] [(7,2,dbox q155_2 0 v17),(98,0,dtip q155_0 43 v67)] a w) ?_ (λ n155=>?_)
 ·
  rintro a155 w155 ⟨M155,q155_0,q155_2,st155⟩
  refine aK2 12 16 ?_ ?_
  ·
   refine st155.segC 1 [3,5,8,94,95,106,108] [(7,2),(98,0)] (λ _ _ st320=>?_)
   exact aHe n182 (st320.pkZ 3)
  ·
   refine st155.alA 3 zV [3,5,8,94,95,105,108] [7,98] (λ b322 _ _ _ st322=>?_)
   have st323:=st322.gn
   exact aHe n186 (st323.pkZ 3)
 refine ya 5 83967 (λ a w=>∃ M1 q159_0 q159_2 q159_3,Sx (Frm.of w0) 210 M M1 [oneB q159_0,oneB none,oneB q159_2,oneB q159_3] [(5,dt v6.2.2.1),(8,dt (v6.2.2.1.length:Int)),(94,dt v6.1),(95,dt v6.2.1),(104,dt v72.name),(108,dt v6.2.2.2),(3,dpk b56 o56 c56 v6.1)] [(7,2,dbox q159_2 0 v17),(9,3,dbox q159_3 0 zZ),(98,0,dtip q159_0 43 v67)] a w) ?_ (λ n159=>?_)
 ·
  rintro a159 w159 ⟨M159,q159_0,q159_2,q159_3,st159⟩
  refine aK1 11 ?_
  refine st159.segB 1 (sc rfl (Xg rfl cI (tp rfl))<|.nil) [3,5,8,94,95,105,108] [(7,2),(9,3),(98,0)] (λ _ _ st324=>?_)
  exact aHe n186 (st324.pkZ 3)
 refine ya 5 24559 (λ a w=>∃ M1 q165_2,Sx (Frm.of w0) 210 M M1 [oneB none,oneB none,oneB q165_2,oneB none] [(5,dt v6.2.2.1),(8,dt (v6.2.2.1.length:Int)),(94,dt v6.1),(95,dt v6.2.1),(97,dt v6.2.2.1),(106,dt ([(⟨(1:Int),v72.name⟩:GCmd)]:List GCmd)),(108,dt v6.2.2.2),(3,dpk b56 o56 c56 v6.1)] [(7,2,dbox q165_2 0 v17),(96,0,dtip none 43 ([]:List GCmd))] a w) ?_ (λ n165=>?_)
 ·
  rintro a165 w165 ⟨M165,q165_2,st165⟩
  refine aK2 4 16 ?_ ?_
  ·
   refine st165.apA 0 yt p67 [3,5,8,94,95,106,108] [7] (λ g326 _ _ _ st326=>?_)
   have st327:=st326.gn
   exact aHe n182 (st327.pkZ 3)
  ·
   refine st165.alA 3 zV [3,5,8,94,95,97,106,108] [7,96] (λ b329 _ _ _ st329=>?_)
   have st330:=st329.gn
   exact aHe n194 (st330.pkZ 3)
 refine ya 5 85999 (λ a w=>∃ M1 q169_2 q169_3,Sx (Frm.of w0) 210 M M1 [oneB none,oneB none,oneB q169_2,oneB q169_3] [(5,dt v6.2.2.1),(8,dt (v6.2.2.1.length:Int)),(94,dt v6.1),(95,dt v6.2.1),(97,dt v6.2.2.1),(105,dt (⟨(1:Int),v72.name⟩:GCmd)),(108,dt v6.2.2.2),(3,dpk b56 o56 c56 v6.1)] [(7,2,dbox q169_2 0 v17),(9,3,dbox q169_3 0 zZ),(96,0,dtip none 43 ([]:List GCmd))] a w) ?_ (λ n169=>?_)
 ·
  rintro a169 w169 ⟨M169,q169_2,q169_3,st169⟩
  refine aK2 4 12 ?_ ?_
  ·
   refine st169.apA 0 yt p67 [3,5,8,94,95,105,108] [7,9] (λ g332 _ _ _ st332=>?_)
   have st333:=st332.gn
   exact aHe n186 (st333.pkZ 3)
  ·
   refine st169.segC 1 [3,5,8,94,95,97,106,108] [(7,2),(9,3),(96,0)] (λ _ _ st334=>?_)
   exact aHe n194 (st334.pkZ 3)
 refine ya 5 90091 (λ a w=>∃ M1 q178_2 q178_3,Sx (Frm.of w0) 210 M M1 [oneB none,oneB none,oneB q178_2,oneB q178_3] [(5,dt v6.2.2.1),(8,dt (v6.2.2.1.length:Int)),(94,dt v6.1),(95,dt v6.2.1),(97,dt v6.2.2.1),(106,dt ([(⟨(1:Int),v72.name⟩:GCmd)]:List GCmd)),(108,dt v6.2.2.2),(3,dpk b56 o56 c56 v6.1)] [(7,2,dbox q178_2 0 v17),(9,3,dbox q178_3 0 zZ)] a w) ?_ (λ n178=>?_)
 ·
  rintro a178 w178 ⟨M178,q178_2,q178_3,st178⟩
  refine aK1 2 ?_
  refine st178.segB 1 (sc rfl (yp (α:=GCmd) (e:=43) rfl kS27)<|.nil) [3,5,8,94,95,97,106,108] [(7,2),(9,3),(96,0)] (λ _ _ st335=>?_)
  exact aHe n194 (st335.pkZ 3)
 refine ya 6 18431 (λ a w=>∃ M1 q127_0 q127_2,Sx (Frm.of w0) 210 M M1 [oneB q127_0,oneB none,oneB q127_2,oneB none] [(5,dt v6.2.2.1),(8,dt (v6.2.2.1.length:Int)),(94,dt v6.1),(95,dt v6.2.1),(104,dt v72.name),(108,dt v6.2.2.2),(3,dpk b56 o56 c56 v6.1)] [(7,2,dbox q127_2 0 v17),(98,0,dtip q127_0 43 v67)] a w) ?_ (λ n127=>?_)
 ·
  rintro a127 w127 ⟨M127,q127_0,q127_2,st127⟩
  refine aK2 11 16 ?_ ?_
  ·
   refine st127.segB 1 (sc rfl (Xg rfl cI (tp rfl))<|.nil) [3,5,8,94,95,105,108] [(7,2),(98,0)] (λ _ _ st336=>?_)
   exact aHe n155 (st336.pkZ 3)
  ·
   refine st127.alA 3 zV [3,5,8,94,95,104,108] [7,98] (λ b338 _ _ _ st338=>?_)
   have st339:=st338.gn
   exact aHe n159 (st339.pkZ 3)
 refine ya 6 82943 (λ a w=>∃ M1 q131_0 q131_2 q131_3,Sx (Frm.of w0) 210 M M1 [oneB q131_0,oneB none,oneB q131_2,oneB q131_3] [(5,dt v6.2.2.1),(8,dt (v6.2.2.1.length:Int)),(94,dt v6.1),(95,dt v6.2.1),(103,dptr v72.name),(108,dt v6.2.2.2),(3,dpk b56 o56 c56 v6.1)] [(7,2,dbox q131_2 0 v17),(9,3,dbox q131_3 0 zZ),(98,0,dtip q131_0 43 v67)] a w) ?_ (λ n131=>?_)
 ·
  rintro a131 w131 ⟨M131,q131_0,q131_2,q131_3,st131⟩
  refine aK1 10 ?_
  refine st131.segA 1 [3,5,8,94,95,104,108] [(7,2),(9,3),(98,0)] (λ _ _ st340=>?_)
  exact aHe n159 (st340.pkZ 3)
 refine ya 6 20463 (λ a w=>∃ M1 q136_2,Sx (Frm.of w0) 210 M M1 [oneB none,oneB none,oneB q136_2,oneB none] [(5,dt v6.2.2.1),(8,dt (v6.2.2.1.length:Int)),(94,dt v6.1),(95,dt v6.2.1),(97,dt v6.2.2.1),(105,dt (⟨(1:Int),v72.name⟩:GCmd)),(108,dt v6.2.2.2),(3,dpk b56 o56 c56 v6.1)] [(7,2,dbox q136_2 0 v17),(96,0,dtip none 43 ([]:List GCmd))] a w) ?_ (λ n136=>?_)
 ·
  rintro a136 w136 ⟨M136,q136_2,st136⟩
  refine aH3 (i:=4) (j:=12) (k:=16) (by decide +kernel) rfl rfl rfl ?_ ?_ ?_
  ·
   refine st136.apA 0 yt p67 [3,5,8,94,95,105,108] [7] (λ g342 _ _ _ st342=>?_)
   have st343:=st342.gn
   exact aHe n155 (st343.pkZ 3)
  ·
   refine st136.segC 1 [3,5,8,94,95,97,106,108] [(7,2),(96,0)] (λ _ _ st344=>?_)
   exact aHe n165 (st344.pkZ 3)
  ·
   refine st136.alA 3 zV [3,5,8,94,95,97,105,108] [7,96] (λ b346 _ _ _ st346=>?_)
   have st347:=st346.gn
   exact aHe n169 (st347.pkZ 3)
 refine ya 6 83951 (λ a w=>∃ M1 q140_2 q140_3,Sx (Frm.of w0) 210 M M1 [oneB none,oneB none,oneB q140_2,oneB q140_3] [(5,dt v6.2.2.1),(8,dt (v6.2.2.1.length:Int)),(94,dt v6.1),(95,dt v6.2.1),(97,dt v6.2.2.1),(104,dt v72.name),(108,dt v6.2.2.2),(3,dpk b56 o56 c56 v6.1)] [(7,2,dbox q140_2 0 v17),(9,3,dbox q140_3 0 zZ),(96,0,dtip none 43 ([]:List GCmd))] a w) ?_ (λ n140=>?_)
 ·
  rintro a140 w140 ⟨M140,q140_2,q140_3,st140⟩
  refine aK2 4 11 ?_ ?_
  ·
   refine st140.apA 0 yt p67 [3,5,8,94,95,104,108] [7,9] (λ g349 _ _ _ st349=>?_)
   have st350:=st349.gn
   exact aHe n159 (st350.pkZ 3)
  ·
   refine st140.segB 1 (sc rfl (Xg rfl cI (tp rfl))<|.nil) [3,5,8,94,95,97,105,108] [(7,2),(9,3),(96,0)] (λ _ _ st351=>?_)
   exact aHe n169 (st351.pkZ 3)
 refine ya 6 24555 (λ a w=>∃ M1 q147_2,Sx (Frm.of w0) 210 M M1 [oneB none,oneB none,oneB q147_2,oneB none] [(5,dt v6.2.2.1),(8,dt (v6.2.2.1.length:Int)),(94,dt v6.1),(95,dt v6.2.1),(97,dt v6.2.2.1),(106,dt ([(⟨(1:Int),v72.name⟩:GCmd)]:List GCmd)),(108,dt v6.2.2.2),(3,dpk b56 o56 c56 v6.1)] [(7,2,dbox q147_2 0 v17)] a w) ?_ (λ n147=>?_)
 ·
  rintro a147 w147 ⟨M147,q147_2,st147⟩
  refine aK2 2 16 ?_ ?_
  ·
   refine st147.segB 1 (sc rfl (yp (α:=GCmd) (e:=43) rfl kS27)<|.nil) [3,5,8,94,95,97,106,108] [(7,2),(96,0)] (λ _ _ st352=>?_)
   exact aHe n165 (st352.pkZ 3)
  ·
   refine st147.alA 3 zV [3,5,8,94,95,97,106,108] [7] (λ b354 _ _ _ st354=>?_)
   have st355:=st354.gn
   exact aHe n178 (st355.pkZ 3)
 refine ya 6 85995 (λ a w=>∃ M1 q151_2 q151_3,Sx (Frm.of w0) 210 M M1 [oneB none,oneB none,oneB q151_2,oneB q151_3] [(5,dt v6.2.2.1),(8,dt (v6.2.2.1.length:Int)),(94,dt v6.1),(95,dt v6.2.1),(97,dt v6.2.2.1),(105,dt (⟨(1:Int),v72.name⟩:GCmd)),(108,dt v6.2.2.2),(3,dpk b56 o56 c56 v6.1)] [(7,2,dbox q151_2 0 v17),(9,3,dbox q151_3 0 zZ)] a w) ?_ (λ n151=>?_)
 ·
  rintro a151 w151 ⟨M151,q151_2,q151_3,st151⟩
  refine aK2 2 12 ?_ ?_
  ·
   refine st151.segB 1 (sc rfl (yp (α:=GCmd) (e:=43) rfl kS27)<|.nil) [3,5,8,94,95,97,105,108] [(7,2),(9,3),(96,0)] (λ _ _ st356=>?_)
   exact aHe n169 (st356.pkZ 3)
  ·
   refine st151.segC 1 [3,5,8,94,95,97,106,108] [(7,2),(9,3)] (λ _ _ st357=>?_)
   exact aHe n178 (st357.pkZ 3)
 refine ya 7 17407 (λ a w=>∃ M1 q110_0 q110_2,Sx (Frm.of w0) 210 M M1 [oneB q110_0,oneB none,oneB q110_2,oneB none] [(5,dt v6.2.2.1),(8,dt (v6.2.2.1.length:Int)),(94,dt v6.1),(95,dt v6.2.1),(103,dptr v72.name),(108,dt v6.2.2.2),(3,dpk b56 o56 c56 v6.1)] [(7,2,dbox q110_2 0 v17),(98,0,dtip q110_0 43 v67)] a w) ?_ (λ n110=>?_)
 ·
  rintro a110 w110 ⟨M110,q110_0,q110_2,st110⟩
  refine aK2 10 16 ?_ ?_
  ·
   refine st110.segA 1 [3,5,8,94,95,104,108] [(7,2),(98,0)] (λ _ _ st358=>?_)
   exact aHe n127 (st358.pkZ 3)
  ·
   refine st110.alA 3 zV [3,5,8,94,95,103,108] [7,98] (λ b360 _ _ _ st360=>?_)
   have st361:=st360.gn
   exact aHe n131 (st361.pkZ 3)
 refine ya 7 18415 (λ a w=>∃ M1 q112_2,Sx (Frm.of w0) 210 M M1 [oneB none,oneB none,oneB q112_2,oneB none] [(5,dt v6.2.2.1),(8,dt (v6.2.2.1.length:Int)),(94,dt v6.1),(95,dt v6.2.1),(97,dt v6.2.2.1),(104,dt v72.name),(108,dt v6.2.2.2),(3,dpk b56 o56 c56 v6.1)] [(7,2,dbox q112_2 0 v17),(96,0,dtip none 43 ([]:List GCmd))] a w) ?_ (λ n112=>?_)
 ·
  rintro a112 w112 ⟨M112,q112_2,st112⟩
  refine aH3 (i:=4) (j:=11) (k:=16) (by decide +kernel) rfl rfl rfl ?_ ?_ ?_
  ·
   refine st112.apA 0 yt p67 [3,5,8,94,95,104,108] [7] (λ g363 _ _ _ st363=>?_)
   have st364:=st363.gn
   exact aHe n127 (st364.pkZ 3)
  ·
   refine st112.segB 1 (sc rfl (Xg rfl cI (tp rfl))<|.nil) [3,5,8,94,95,97,105,108] [(7,2),(96,0)] (λ _ _ st365=>?_)
   exact aHe n136 (st365.pkZ 3)
  ·
   refine st112.alA 3 zV [3,5,8,94,95,97,104,108] [7,96] (λ b367 _ _ _ st367=>?_)
   have st368:=st367.gn
   exact aHe n140 (st368.pkZ 3)
 refine ya 7 82927 (λ a w=>∃ M1 q116_2 q116_3,Sx (Frm.of w0) 210 M M1 [oneB none,oneB none,oneB q116_2,oneB q116_3] [(5,dt v6.2.2.1),(8,dt (v6.2.2.1.length:Int)),(94,dt v6.1),(95,dt v6.2.1),(97,dt v6.2.2.1),(103,dptr v72.name),(108,dt v6.2.2.2),(3,dpk b56 o56 c56 v6.1)] [(7,2,dbox q116_2 0 v17),(9,3,dbox q116_3 0 zZ),(96,0,dtip none 43 ([]:List GCmd))] a w) ?_ (λ n116=>?_)
 ·
  rintro a116 w116 ⟨M116,q116_2,q116_3,st116⟩
  refine aK2 4 10 ?_ ?_
  ·
   refine st116.apA 0 yt p67 [3,5,8,94,95,103,108] [7,9] (λ g370 _ _ _ st370=>?_)
   have st371:=st370.gn
   exact aHe n131 (st371.pkZ 3)
  ·
   refine st116.segA 1 [3,5,8,94,95,97,104,108] [(7,2),(9,3),(96,0)] (λ _ _ st372=>?_)
   exact aHe n140 (st372.pkZ 3)
 refine ya 7 20459 (λ a w=>∃ M1 q119_2,Sx (Frm.of w0) 210 M M1 [oneB none,oneB none,oneB q119_2,oneB none] [(5,dt v6.2.2.1),(8,dt (v6.2.2.1.length:Int)),(94,dt v6.1),(95,dt v6.2.1),(97,dt v6.2.2.1),(105,dt (⟨(1:Int),v72.name⟩:GCmd)),(108,dt v6.2.2.2),(3,dpk b56 o56 c56 v6.1)] [(7,2,dbox q119_2 0 v17)] a w) ?_ (λ n119=>?_)
 ·
  rintro a119 w119 ⟨M119,q119_2,st119⟩
  refine aH3 (i:=2) (j:=12) (k:=16) (by decide +kernel) rfl rfl rfl ?_ ?_ ?_
  ·
   refine st119.segB 1 (sc rfl (yp (α:=GCmd) (e:=43) rfl kS27)<|.nil) [3,5,8,94,95,97,105,108] [(7,2),(96,0)] (λ _ _ st373=>?_)
   exact aHe n136 (st373.pkZ 3)
  ·
   refine st119.segC 1 [3,5,8,94,95,97,106,108] [(7,2)] (λ _ _ st374=>?_)
   exact aHe n147 (st374.pkZ 3)
  ·
   refine st119.alA 3 zV [3,5,8,94,95,97,105,108] [7] (λ b376 _ _ _ st376=>?_)
   have st377:=st376.gn
   exact aHe n151 (st377.pkZ 3)
 refine ya 7 83947 (λ a w=>∃ M1 q123_2 q123_3,Sx (Frm.of w0) 210 M M1 [oneB none,oneB none,oneB q123_2,oneB q123_3] [(5,dt v6.2.2.1),(8,dt (v6.2.2.1.length:Int)),(94,dt v6.1),(95,dt v6.2.1),(97,dt v6.2.2.1),(104,dt v72.name),(108,dt v6.2.2.2),(3,dpk b56 o56 c56 v6.1)] [(7,2,dbox q123_2 0 v17),(9,3,dbox q123_3 0 zZ)] a w) ?_ (λ n123=>?_)
 ·
  rintro a123 w123 ⟨M123,q123_2,q123_3,st123⟩
  refine aK2 2 11 ?_ ?_
  ·
   refine st123.segB 1 (sc rfl (yp (α:=GCmd) (e:=43) rfl kS27)<|.nil) [3,5,8,94,95,97,104,108] [(7,2),(9,3),(96,0)] (λ _ _ st378=>?_)
   exact aHe n140 (st378.pkZ 3)
  ·
   refine st123.segB 1 (sc rfl (Xg rfl cI (tp rfl))<|.nil) [3,5,8,94,95,97,105,108] [(7,2),(9,3)] (λ _ _ st379=>?_)
   exact aHe n151 (st379.pkZ 3)
 refine ya 8 17391 (λ a w=>∃ M1 q100_2,Sx (Frm.of w0) 210 M M1 [oneB none,oneB none,oneB q100_2,oneB none] [(5,dt v6.2.2.1),(8,dt (v6.2.2.1.length:Int)),(94,dt v6.1),(95,dt v6.2.1),(97,dt v6.2.2.1),(103,dptr v72.name),(108,dt v6.2.2.2),(3,dpk b56 o56 c56 v6.1)] [(7,2,dbox q100_2 0 v17),(96,0,dtip none 43 ([]:List GCmd))] a w) ?_ (λ n100=>?_)
 ·
  rintro a100 w100 ⟨M100,q100_2,st100⟩
  refine aH3 (i:=4) (j:=10) (k:=16) (by decide +kernel) rfl rfl rfl ?_ ?_ ?_
  ·
   refine st100.apA 0 yt p67 [3,5,8,94,95,103,108] [7] (λ g381 _ _ _ st381=>?_)
   have st382:=st381.gn
   exact aHe n110 (st382.pkZ 3)
  ·
   refine st100.segA 1 [3,5,8,94,95,97,104,108] [(7,2),(96,0)] (λ _ _ st383=>?_)
   exact aHe n112 (st383.pkZ 3)
  ·
   refine st100.alA 3 zV [3,5,8,94,95,97,103,108] [7,96] (λ b385 _ _ _ st385=>?_)
   have st386:=st385.gn
   exact aHe n116 (st386.pkZ 3)
 refine ya 8 18411 (λ a w=>∃ M1 q102_2,Sx (Frm.of w0) 210 M M1 [oneB none,oneB none,oneB q102_2,oneB none] [(5,dt v6.2.2.1),(8,dt (v6.2.2.1.length:Int)),(94,dt v6.1),(95,dt v6.2.1),(97,dt v6.2.2.1),(104,dt v72.name),(108,dt v6.2.2.2),(3,dpk b56 o56 c56 v6.1)] [(7,2,dbox q102_2 0 v17)] a w) ?_ (λ n102=>?_)
 ·
  rintro a102 w102 ⟨M102,q102_2,st102⟩
  refine aH3 (i:=2) (j:=11) (k:=16) (by decide +kernel) rfl rfl rfl ?_ ?_ ?_
  ·
   refine st102.segB 1 (sc rfl (yp (α:=GCmd) (e:=43) rfl kS27)<|.nil) [3,5,8,94,95,97,104,108] [(7,2),(96,0)] (λ _ _ st387=>?_)
   exact aHe n112 (st387.pkZ 3)
  ·
   refine st102.segB 1 (sc rfl (Xg rfl cI (tp rfl))<|.nil) [3,5,8,94,95,97,105,108] [(7,2)] (λ _ _ st388=>?_)
   exact aHe n119 (st388.pkZ 3)
  ·
   refine st102.alA 3 zV [3,5,8,94,95,97,104,108] [7] (λ b390 _ _ _ st390=>?_)
   have st391:=st390.gn
   exact aHe n123 (st391.pkZ 3)
 refine ya 8 82923 (λ a w=>∃ M1 q106_2 q106_3,Sx (Frm.of w0) 210 M M1 [oneB none,oneB none,oneB q106_2,oneB q106_3] [(5,dt v6.2.2.1),(8,dt (v6.2.2.1.length:Int)),(94,dt v6.1),(95,dt v6.2.1),(97,dt v6.2.2.1),(103,dptr v72.name),(108,dt v6.2.2.2),(3,dpk b56 o56 c56 v6.1)] [(7,2,dbox q106_2 0 v17),(9,3,dbox q106_3 0 zZ)] a w) ?_ (λ n106=>?_)
 ·
  rintro a106 w106 ⟨M106,q106_2,q106_3,st106⟩
  refine aK2 2 10 ?_ ?_
  ·
   refine st106.segB 1 (sc rfl (yp (α:=GCmd) (e:=43) rfl kS27)<|.nil) [3,5,8,94,95,97,103,108] [(7,2),(9,3),(96,0)] (λ _ _ st392=>?_)
   exact aHe n116 (st392.pkZ 3)
  ·
   refine st106.segA 1 [3,5,8,94,95,97,104,108] [(7,2),(9,3)] (λ _ _ st393=>?_)
   exact aHe n123 (st393.pkZ 3)
 refine aH3 (i:=2) (j:=10) (k:=16) (by decide +kernel) rfl rfl rfl ?_ ?_ ?_
 ·
  refine st98.segB 1 (sc rfl (yp (α:=GCmd) (e:=43) rfl kS27)<|.nil) [3,5,8,94,95,97,103,108] [(7,2),(96,0)] (λ _ _ st394=>?_)
  exact aHe n100 (st394.pkZ 3)
 ·
  refine st98.segA 1 [3,5,8,94,95,97,104,108] [(7,2)] (λ _ _ st395=>?_)
  exact aHe n102 (st395.pkZ 3)
 ·
  refine st98.alA 3 zV [3,5,8,94,95,97,103,108] [7] (λ b397 _ _ _ st397=>?_)
  have st398:=st397.gn
  exact aHe n106 (st398.pkZ 3)
open Go.RowKit Tryz
theorem Xs(c:List UInt8):wk (scc xy) c=some true:=by
 unfold wk
 refine cmd_law c λ t path l f ht hp hl hn hok=>?_
 obtain⟨a1,a2,a3,a4,a5⟩:=Jw hp hok
 refine last_law (l:=l) (cmpI .geq (l.length:Int) 10) a4 (by omega) λ d hpos hb hc h0 he=>?_
 have he:(zz t path l f).2[l.length - 1]?=some 0:=he
 obtain⟨hs,hd,hin⟩:=zaD hp hok hpos hc h0 he
 have hok':okR t path (l++[⟨1,d.name⟩]) f=true:=okR_more hok (λ x hx=>by rw[List.mem_singleton.1 hx];exact Q3 (by decide) (by decide) hs) (by show l.length+1<=10;omega)
 have hmore:=reload_more hp hok hok' hin
 obtain⟨b1,b2,_,b4,_⟩:=Jw hp hok'
 have i1:i64 ((l.length:Int) - 1)=some ((l.length - 1:Nat):Int):=by rw[xU (by omega) (by omega),show(l.length:Int) - 1=((l.length - 1:Nat):Int) by omega]
 have hsho:sho d.name:=hn d (List.mem_of_getElem? hc)
 dsimp only
 rw[yE (by simp;omega) (by simp;omega),obS,i1,obS,zG,hc,obS,List.nil_append,yE (by simp;omega) (by simp;omega),obS,Yg ht hp (by simp;omega) (sho_more hn (s:=d.name) (λ x hx=>by rw[List.mem_singleton.1 hx]) hsho) f,obS,Q2 hok']
 have hnew:∀ (i:Nat) (m:GMod),(zz t path l f).1.mods.length<=i->(zz t path (l++[⟨1,d.name⟩]) f).1.mods[i]?=some m->m.name≠d.name:=by
  split at hmore
  ·
   obtain⟨r,e,lg,h1,_,h3⟩:=hmore
   rw[h1]
   exact h3
  ·
   rw[hmore]
   intro i m hi hm
   have:i<(zz t path l f).1.mods.length:=zv hm
   omega
 have hcnt:zW (λ s235=>yF (scc xy) (t,path,l,f) (resV (zz t path l f).1 (zz t path l f).2) (resV (zz t path (l++[⟨1,d.name⟩]) f).1 (zz t path (l++[⟨1,d.name⟩]) f).2) s235) ((0:Int),(0:Int))=some 0:=by
  refine Jn (zz t path (l++[⟨1,d.name⟩]) f).1.mods.length (λ k=>((0:Int),(k:Int))) (λ k hk=>?_) ?_ (by omega) rfl
  ·
   obtain⟨y,hy,_⟩:=Xh hk
   have hcond:(decide (y.name=d.name)&&cmpI .geq (k:Int) ((zz t path l f).1.mods.length:Int))=false:=by
    by_cases hk2:(zz t path l f).1.mods.length<=k
    ·
     rw[decide_eq_false (hnew k y hk2 hy)]
     rfl
    ·
     rw[show cmpI .geq (k:Int) ((zz t path l f).1.mods.length:Int)=false by simp only[cmpI,decide_eq_false_iff_not];omega,Bool.and_false]
   have hy':atI (resV (zz t path (l++[⟨1,d.name⟩]) f).1 (zz t path (l++[⟨1,d.name⟩]) f).2).modules (k:Int)=some y:=by rw[zG];exact hy
   have hc2:(decide (y.name=d.name)&&cmpI .geq (k:Int) ((resV (zz t path l f).1 (zz t path l f).2).modules.length:Int))=false:=hcond
   have hlt:cmpI .lss (k:Int) ((resV (zz t path (l++[⟨1,d.name⟩]) f).1 (zz t path (l++[⟨1,d.name⟩]) f).2).modules.length:Int)=true:=by
    show cmpI .lss (k:Int) ((zz t path (l++[⟨1,d.name⟩]) f).1.mods.length:Int)=true
    rw[zM];exact decide_eq_true hk
   unfold yF
   dsimp only
   rw[hlt,if_pos rfl,hy',obS,i1,obS,zG,hc,obS,hc2,if_neg (by decide),obS,z7 (by omega)]
   rfl
  ·
   unfold yF
   dsimp only
   rw[show cmpI .lss (((zz t path (l++[⟨1,d.name⟩]) f).1.mods.length:Nat):Int) ((resV (zz t path (l++[⟨1,d.name⟩]) f).1 (zz t path (l++[⟨1,d.name⟩]) f).2).modules.length:Int)=false by
    show cmpI .lss (((zz t path (l++[⟨1,d.name⟩]) f).1.mods.length:Nat):Int) ((zz t path (l++[⟨1,d.name⟩]) f).1.mods.length:Int)=false
    rw[zM];simp,if_neg (by decide)]
 have hth:=zbA (mods:=(zz t path l f).1.mods) (p:=zj d.name) (step:=λ s269=>xH (scc xy) (resV (zz t path l f).1 (zz t path l f).2) (zj d.name) s269) (by omega) (λ _ _=>rfl) (decide (zj d.name=(⟨[]⟩:Str)))
 rw[hcnt,obS,obS,zG,hc,obS,Zm hs,obS,hth,obS]
 split at hmore
 ·
  rename_i hup
  rw[zaE.2 hup,if_neg (by decide)]
  obtain⟨r,e,lg,h1,h2,_⟩:=hmore
  rw[h1]
  have hlog:(resV r ((zz t path l f).2++[e])).log=(resV (zz t path l f).1 (zz t path l f).2).log++⟨0,d.name⟩::lg:=h2
  rw[hlog]
  generalize (resV (zz t path l f).1 (zz t path l f).2).log=lg0
  rw[show cmpI .eql (0:Int) 0=true from rfl,show cmpI .gtr ((lg0++(⟨0,d.name⟩:GEvent)::lg).length:Int) (lg0.length:Int)=true by simp only[cmpI,decide_eq_true_eq,List.length_append,List.length_cons];omega,show((true&&true) == true:Bool)=true from rfl,yZ,zG,List.getElem?_append_right (Nat.le_refl _),Nat.sub_self]
  show(some _).bind _=_
  rw[obS,yZ,obS,yZ,zG,hc,obS]
  simp
 ·
  rename_i hup
  rw[show(decide (zj d.name=(⟨[]⟩:Str))||(zz t path l f).1.mods.any (λ y=>decide (y.name=zj d.name)&&y.cached))=false by
   cases h:(decide (zj d.name=(⟨[]⟩:Str))||(zz t path l f).1.mods.any (λ y=>decide (y.name=zj d.name)&&y.cached)) with
   | false=>rfl
   | true=>exact absurd (zaE.1 h) hup,if_pos (by decide),hmore]
  have hat:atI (resV (zz t path l f).1 ((zz t path l f).2++[1])).ends (l.length:Int)=some 1:=by
   show atI ((zz t path l f).2++[1]) (l.length:Int)=some 1
   rw[zG,List.getElem?_append_right (by omega),a4,Nat.sub_self]
   rfl
  rw[hat]
  rfl
theorem XX(c:List UInt8):Fn prog 8 [dt c] (dt true):=Xr (YQ xy) (Xs c)
end Go.Proofs.YtnlhpkbphdbknaaGreatDoor
