import Derived.Test.YtnlhpkbphdbknaaGreatDoorRB
import Derived.Test.YtnlhpkbphdbknaaGreatDoorRO
import Derived.Test.YtnlhpkbphdbknaaGreatDoorRKc
import Derived.Test.YtnlhpkbphdbknaaGreatDoorRK
import Derived.Test.YtnlhpkbphdbknaaGreatDoorRT
namespace Go.Proofs.YtnlhpkbphdbknaaGreatDoor
open Go.RowKit Tryz
attribute [local irreducible] OpRel OpdR
set_option maxRecDepth 10000
set_option maxHeartbeats 1600000
theorem kN11:fnB prog 11=true:=by kernel_rfl
theorem kN13:fnB prog 13=true:=by kernel_rfl
theorem kN12:fnB prog 12=true:=by kernel_rfl
theorem kN17:fnB prog 17=true:=by kernel_rfl
def jZ(R:Rec)(x0:List UInt8):Option Bool:=
if(cmpI .gtr (x0.length:Int) (1048576:Int))=true then(some true)
else((yF x0).bind λ v6=>
(yV R v6.1 v6.2.1 v6.2.2.1 v6.2.2.2).bind λ v14=>
(yk R v6.1 v6.2.1 v6.2.2.1 v6.2.2.2).bind λ v21=>
(ya v14 v21).bind λ v22=>
(gO ((!v22) == false) (y7 v6.1)).bind λ v23=>
(gO (((!v22)||(!v23)) == false) (y8 v6.2.1)).bind λ v24=>
(gO ((((!v22)||(!v23))||(!v24)) == false) (yE v6.2.2.1)).bind λ v25=>
if((((((!v22)||(!v23))||(!v24))||(!v25))||cmpI .lss v6.2.2.2 (0:Int))||cmpI .gtr v6.2.2.2 (120:Int))=true then((yk R v6.1 v6.2.1 v6.2.2.1 v6.2.2.2).bind λ v34=>
(ya v14 v34).bind λ v35=>
some v35)
else((divO (v6.2.2.1.length:Int) (2:Int)).bind λ v39=>
(Ym v6.2.2.1 v39).bind λ v42=>
(yV R v6.1 v6.2.1 v42 v6.2.2.2).bind λ v43=>
(gO (cmpI .eql (v14.ends.length:Int) (v6.2.2.1.length:Int) == true) (x9 v14.ends v43.ends)).bind λ v49=>
(gO ((cmpI .eql (v14.ends.length:Int) (v6.2.2.1.length:Int)&&v49) == true) (x9 v14.out v43.out)).bind λ v50=>
(gO ((((cmpI .eql (v14.ends.length:Int) (v6.2.2.1.length:Int)&&v49)&&v50)&&cmpI .leq (v43.log.length:Int) (v14.log.length:Int)) == true) (Ym v14.log (v43.log.length:Int))).bind λ v51=>
(gO ((((cmpI .eql (v14.ends.length:Int) (v6.2.2.1.length:Int)&&v49)&&v50)&&cmpI .leq (v43.log.length:Int) (v14.log.length:Int)) == true) (xS v51 v43.log)).bind λ v52=>
some (((((cmpI .eql (v14.ends.length:Int) (v6.2.2.1.length:Int)&&v49)&&v50)&&cmpI .leq (v43.log.length:Int) (v14.log.length:Int))&&v52)&&cmpI .geq v43.left v14.left)))
theorem JA{R:Rec}(hR:R.ok){x0:List UInt8}{r:Bool}(h:jZ R x0=some r):Fn prog 3 [dt x0] (dt r):=by
 unfold jZ at h
 refine fnx (fn:=f3) 3 func3 rfl (oD rfl) rfl (λ M _ _ st0=>?_)
 refine st0.sq1 [0] (λ _ _ st1=>wp_seq ?_)
 refine st1.sq1 [0,12] (λ _ _ st2=>?_)
 refine st2.cs rfl h (λ _ h3=>?_) (λ _ h4=>wp_skip (za (wp_seq (wp_region_list ?_))))
 ·
  refine st2.sq1 [2] (λ _ _ st5=>wp_ret (zd ?_))
  exact st5.ret rfl rfl h3
 obtain⟨v6,p6,h7⟩:=bsW h4 qF
 refine st2.segA 7 [16,17,18,19] [] (λ _ _ st8=>?_)
 refine st8.alloc 0 rfl rfl kZ25 Xf (by simp) [16,17,18,19] rfl [] rfl rfl (λ b10 _ _ _ st10=>?_)
 refine st10.store (sb:=3) 0 FldS.id rfl rfl rfl kT25 rfl rfl (tp rfl) rfl [17,18,19] rfl [] rfl rfl (λ _ _ st12=>?_)
 refine st12.segA 3 [4,5,6] [(3,0)] (λ _ _ st13=>wpList_nil (za (wp_seq (wp_region_list ?_))))
 obtain⟨v14,p14,h15⟩:=bsW h7 (qE hR)
 refine st13.segC 5 [4,5,6,24] [(3,0)] (λ _ _ st16=>?_)
 refine st16.alloc 1 rfl rfl kZ33 Yw (by simp) [4,5,6,24] rfl [3] rfl rfl (λ b18 _ _ _ st18=>?_)
 refine st18.store (sb:=7) 1 FldS.id rfl rfl rfl kT33 rfl rfl (tp rfl) rfl [4,5,6] rfl [3] rfl rfl (λ _ _ st20=>wpList_nil (za (wp_seq (wp_seq ?_))))
 obtain⟨v21,p21,v22,p22,v23,p23,v24,p24,h29⟩:=bsD h15
 obtain⟨v25,p25,h30⟩:=bs h29
 refine st20.dr (D:=[_,_,_,_,_,_,_,_,_,_,_,_,_,_,_,_,_,_,_,_,_,_,_,_,_,_,_,_,_,_,_]) zv [[],[],[],[],[],[1,2,3,4],[0,1,2,3,4,5],[0,1,2,3,4,5,6],[0,1,2,3,4,5,6,7],[0,1,2,3,4,5,6,7,8],[0,1,2,3,4,5,6,7,8,9],[0,1,2,3,4,5,6,7,8,9,10],[0,1,2,3,4,5,6,7,8,9,10,11],[0,1,2,3,4,5,6,7,8,9,10,11,12],[0,1,2,3,4,5,6,7,8,9,10,11,12,13],[0,1,2,3,4,5,6,7,8,9,10,11,12,13,14],[0,1,2,3,4,5,6,7,8,9,10,11,12,13,14,15],[0,1,2,3,4,5,6,7,8,9,10,11,12,13,14,15,16],[0,1,2,3,4,5,6,7,8,9,10,11,12,13,14,15,16,17],[0,1,2,3,4,5,6,7,8,9,10,11,12,13,14,15,16,17,18],[0,1,2,3,4,5,6,7,8,9,10,11,12,13,14,15,16,17,18,19],[0,1,2,3,4,5,6,7,8,9,10,11,12,13,14,15,16,17,18,19,20],[0,1,2,3,4,5,6,7,8,9,10,11,12,13,14,15,16,17,18,19,20,21],[0,1,2,3,4,5,6,7,8,9,10,11,12,13,14,15,16,17,18,19,20,21,22],[0,1,2,3,4,5,6,7,8,9,10,11,12,13,14,15,16,17,18,19,20,21,22,23],[0,1,2,3,4,5,6,7,8,9,10,11,12,13,14,15,16,17,18,19,20,21,22,23,24],[0,1,2,3,4,5,6,7,8,9,10,11,12,13,14,15,16,17,18,19,20,21,22,23,24,25],[0,1,2,3,4,5,6,7,8,9,10,11,12,13,14,15,16,17,18,19,20,21,22,23,24,25,26],[0,1,2,3,4,5,6,7,8,9,10,11,12,13,14,15,16,17,18,19,20,21,22,23,24,25,26,27],[0,1,2,3,4,5,6,7,8,9,10,11,12,13,14,15,16,17,18,19,20,21,22,23,24,25,26,27,28],[0,1,2,3,4,5,6,7,8,9,10,11,12,13,14,15,16,17,18,19,20,21,22,23,24,25,26,27,28,29]] [[(7,none)],[(3,none)],[(4,none)],[(5,none)],[(6,none)],[(26,some 1),(27,some 2),(28,some 3),(29,some 4)],[(25,some 0),(30,some 5)],[(31,some 6)],[(32,some 7)],[(3,none),(33,some 8)],[(34,some 9),(33,some 8)],[(35,some 10),(33,some 8)],[(33,some 8),(36,some 11)],[(37,some 12)],[(4,none),(38,some 13)],[(39,some 14),(38,some 13)],[(40,some 15),(38,some 13)],[(38,some 13),(41,some 16)],[(42,some 17)],[(5,none),(43,some 18)],[(44,some 19),(43,some 18)],[(45,some 20),(43,some 18)],[(43,some 18),(46,some 21)],[(47,some 22)],[(6,none),(48,some 23)],[(49,some 24),(48,some 23)],[(48,some 23),(50,some 25)],[(51,some 26)],[(6,none),(52,some 27)],[(53,some 28),(52,some 27)],[(52,some 27),(54,some 29)]] (by decide +kernel) (
  rc rfl rfl (zx rfl kT33 (tp rfl))<|rc rfl rfl (zx rfl kT25 (tp rfl))<|rc rfl rfl (oM rfl (tp rfl))<|rc rfl rfl (oM rfl (tp rfl))<|rc rfl rfl (oM rfl (tp rfl))<|rc rfl rfl (zD (l:=[.tmp 26,.tmp 27,.tmp 28,.tmp 29]) rfl kN13 (.cons (tp rfl) (.cons (tp rfl) (.cons (tp rfl) (.cons (tp rfl) .nil)))) (wI hR p21))<|rc rfl rfl (zD (l:=[.tmp 25,.tmp 30]) rfl kN12 (.cons (tp rfl) (.cons (tp rfl) .nil)) (wL p22))<|rc rfl rfl (xZ rfl (tp rfl))<|rc rfl rfl (oM rfl (tp rfl))<|rg rfl rfl rfl (λ hg=>zx rfl kT25 (tp rfl))<|rg rfl rfl rfl (λ hg=>zD (l:=[.tmp 34]) rfl kN14 (.cons (ze hg rfl) .nil) (qk (gh hg p23)))<|rg rfl rfl rfl (λ hg=>xZ rfl (ze hg rfl))<|rc rfl rfl (x8 rfl (tp rfl) (zb rfl))<|rc rfl rfl (oM rfl (tp rfl))<|rg rfl rfl rfl (λ hg=>oM rfl (tp rfl))<|rg rfl rfl rfl (λ hg=>zD (l:=[.tmp 39]) rfl kN15 (.cons (ze hg rfl) .nil) (ql (gh hg p24)))<|rg rfl rfl rfl (λ hg=>xZ rfl (ze hg rfl))<|rc rfl rfl (x8 rfl (tp rfl) (zb rfl))<|rc rfl rfl (oM rfl (tp rfl))<|rg rfl rfl rfl (λ hg=>oM rfl (tp rfl))<|rg rfl rfl rfl (λ hg=>zD (l:=[.tmp 44]) rfl kN16 (.cons (ze hg rfl) .nil) (jT (gh hg p25)))<|rg rfl rfl rfl (λ hg=>xZ rfl (ze hg rfl))<|rc rfl rfl (x8 rfl (tp rfl) (zb rfl))<|rc rfl rfl (oM rfl (tp rfl))<|rg rfl rfl rfl (λ hg=>oM rfl (tp rfl))<|rg rfl rfl rfl (λ hg=>oCI rfl (ze hg rfl) cI)<|rc rfl rfl (x8 rfl (tp rfl) (zb rfl))<|rc rfl rfl (oM rfl (tp rfl))<|rg rfl rfl rfl (λ hg=>oM rfl (tp rfl))<|rg rfl rfl rfl (λ hg=>oCI rfl (ze hg rfl) cI)<|rc rfl rfl (x8 rfl (tp rfl) (zb rfl))<|.nil) [4,5,6,55] rfl [(3,0),(7,1)] rfl ⟨iI,iT⟩ (λ _ _ st31=>?_)
 refine za ?_
 refine st31.cs rfl h30 (λ _ h32=>wp_seq ?_) (λ _ h33=>wp_skip (za ?_))
 ·
  obtain⟨v34,p34,v35,p35,h37⟩:=bsB h32
  refine st31.dr (D:=[_,_,_,_,_,_,_,_]) zv [[],[],[],[],[],[1,2,3,4],[0,1,2,3,4,5],[0,1,2,3,4,5,6]] [[(7,none)],[(3,none)],[(4,none)],[(5,none)],[(6,none)],[(57,some 1),(58,some 2),(59,some 3),(60,some 4)],[(56,some 0),(61,some 5)],[(62,some 6)]] (by decide +kernel) (
   rc rfl rfl (zx rfl kT33 (tp rfl))<|rc rfl rfl (zx rfl kT25 (tp rfl))<|rc rfl rfl (oM rfl (tp rfl))<|rc rfl rfl (oM rfl (tp rfl))<|rc rfl rfl (oM rfl (tp rfl))<|rc rfl rfl (zD (l:=[.tmp 57,.tmp 58,.tmp 59,.tmp 60]) rfl kN13 (.cons (tp rfl) (.cons (tp rfl) (.cons (tp rfl) (.cons (tp rfl) .nil)))) (wI hR p34))<|rc rfl rfl (zD (l:=[.tmp 56,.tmp 61]) rfl kN12 (.cons (tp rfl) (.cons (tp rfl) .nil)) (wL p35))<|rc rfl rfl (oA rfl (tp rfl))<|.nil) [2] rfl [] rfl trivial (λ _ _ st38=>?_)
  refine za ?_
  refine wp_ret (zd ?_)
  exact st38.ret rfl rfl h37
 obtain⟨v39,p39,h40⟩:=bs h33
 refine st31.sqB (sP 2 (r:=by exact sc rfl (xDiv rfl (tp rfl) cI p39)<|segC)) [4,5,6,8] [(3,0),(7,1)] (λ _ _ st41=>wp_seq ?_)
 obtain⟨v42,p42,v43,p43,h45⟩:=bsB h40
 refine st41.alc (D:=[_,_,_,_,_,_,_,Jb]) [mkBox 7 9 33 X4 2 ZF Yw] zv 8 [[],[],[],[],[2,3],[],[0,1,2,3,4,5],[],[0,1,2,3,4,5,6,7]] [[(3,none)],[(4,none)],[(5,none)],[(8,none)],[(68,some 2),(69,some 3)],[(6,none)],[(66,some 0),(67,some 1),(70,some 4),(71,some 5)],[],[(9,some 7),(72,some 6)]] (by decide +kernel) (by decide) (by decide +kernel) ⟨kZ33,trivial⟩ (by decide) (by decide) (by simp[mkBox]) (λ M46 hM46=>
  ac rfl rfl rfl (zx rfl kT25 (tp rfl))<|ac rfl rfl rfl (oM rfl (tp rfl))<|ac rfl rfl rfl (oM rfl (tp rfl))<|ac rfl rfl rfl (oM rfl (tp rfl))<|ac rfl rfl rfl (xSliH rfl kS27 (tp rfl) (tp rfl) p42)<|ac rfl rfl rfl (oM rfl (tp rfl))<|ac rfl rfl rfl (zD (l:=[.tmp 66,.tmp 67,.tmp 70,.tmp 71]) rfl kN11 (.cons (tp rfl) (.cons (tp rfl) (.cons (tp rfl) (.cons (tp rfl) .nil)))) (qE hR p43))<|al rfl rfl<|.nil) [5,72] rfl [7] rfl rfl rfl rfl (λ β46 M46 _ _ st46=>?_)
 refine st46.store (sb:=9) 2 FldS.id rfl rfl rfl kT33 rfl rfl (tp rfl) rfl [5] rfl [7] rfl rfl (λ _ _ st48=>wpList_nil (za (wp_seq ?_)))
 obtain⟨v49,p49,v50,p50,v51,p51,v52,p52,h56⟩:=bsD h45
 refine st48.dr (D:=[_,_,_,_,_,_,_,_,_,_,_,_,_,_,_,_,_,_,_,_,_,_,_,_,_,_,_,_,_,_,_,_,_,_,_,_,_,_,_,_,_,_,_,_,_,_,_,_]) zv [[],[0],[0,1],[],[3],[0,1,2,3,4],[0,1,2,3,4,5],[0,1,2,3,4,5,6],[0,1,2,3,4,5,6,7],[0,1,2,3,4,5,6],[0,1,2,3,4,5,6,9],[0,1,2,3,4,5,6,7,8,9,10],[0,1,2,3,4,5,6,7,8,9,10,11],[0,1,2,3,4,5,6,7,8,9,10,11,12],[0,1,2,3,4,5,6,7,8,9,10,11,12,13],[0,1,2,3,4,5,6,7,8,9,10,11,12,13,14],[0,1,2,3,4,5,6,7,8,9,10,11,12,13],[0,1,2,3,4,5,6,7,8,9,10,11,12,13,16],[0,1,2,3,4,5,6,7,8,9,10,11,12,13,14,15,16,17],[0,1,2,3,4,5,6,7,8,9,10,11,12,13,14,15,16,17,18],[0,1,2,3,4,5,6,7,8,9,10,11,12,13,14,15,16,17,18,19],[0,1,2,3,4,5,6,7,8,9,10,11,12,13,14,15,16,17,18,19,20],[0,1,2,3,4,5,6,7,8,9,10,11,12,13,14,15,16,17,18,19,20,21],[0,1,2,3,4,5,6,7,8,9,10,11,12,13,14,15,16,17,18,19,20,21,22],[0,1,2,3,4,5,6,7,8,9,10,11,12,13,14,15,16,17,18,19,20],[0,1,2,3,4,5,6,7,8,9,10,11,12,13,14,15,16,17,18,19,20,24],[0,1,2,3,4,5,6,7,8,9,10,11,12,13,14,15,16,17,18,19,20,24,25],[0,1,2,3,4,5,6,7,8,9,10,11,12,13,14,15,16,17,18,19,20,21,22,23,24,25,26],[0,1,2,3,4,5,6,7,8,9,10,11,12,13,14,15,16,17,18,19,20,21,22,23,24,25,26,27],[0,1,2,3,4,5,6,7,8,9,10,11,12,13,14,15,16,17,18,19,20,21,22,23,24,25,26,27,28],[0,1,2,3,4,5,6,7,8,9,10,11,12,13,14,15,16,17,18,19,20,21,22,23,24,25,26,27,28,29],[0,1,2,3,4,5,6,7,8,9,10,11,12,13,14,15,16,17,18,19,20,21,22,23,24,25,26,27,28,29,30],[0,1,2,3,4,5,6,7,8,9,10,11,12,13,14,15,16,17,18,19,20,21,22,23,24,25,26,27,28,29],[0,1,2,3,4,5,6,7,8,9,10,11,12,13,14,15,16,17,18,19,20,21,22,23,24,25,26,27,28,29,32],[0,1,2,3,4,5,6,7,8,9,10,11,12,13,14,15,16,17,18,19,20,21,22,23,24,25,26,27,28,29,32,33],[0,1,2,3,4,5,6,7,8,9,10,11,12,13,14,15,16,17,18,19,20,21,22,23,24,25,26,27,28,29,30,31,32,33,34],[0,1,2,3,4,5,6,7,8,9,10,11,12,13,14,15,16,17,18,19,20,21,22,23,24,25,26,27,28,29],[0,1,2,3,4,5,6,7,8,9,10,11,12,13,14,15,16,17,18,19,20,21,22,23,24,25,26,27,28,29,36],[0,1,2,3,4,5,6,7,8,9,10,11,12,13,14,15,16,17,18,19,20,21,22,23,24,25,26,27,28,29,30,31,32,33,34,35,36,37],[0,1,2,3,4,5,6,7,8,9,10,11,12,13,14,15,16,17,18,19,20,21,22,23,24,25,26,27,28,29,30,31,32,33,34,35,36,37,38],[0,1,2,3,4,5,6,7,8,9,10,11,12,13,14,15,16,17,18,19,20,21,22,23,24,25,26,27,28,29,30,31,32,33,34,35,36,37,38,39],[0,1,2,3,4,5,6,7,8,9,10,11,12,13,14,15,16,17,18,19,20,21,22,23,24,25,26,27,28,29,30,31,32,33,34,35,36,37,38,39,40],[0,1,2,3,4,5,6,7,8,9,10,11,12,13,14,15,16,17,18,19,20,21,22,23,24,25,26,27,28,29,30,31,32,33,34,35,36,37,38,39,40,41],[0,1,2,3,4,5,6,7,8,9,10,11,12,13,14,15,16,17,18,19,20,21,22,23,24,25,26,27,28,29,30,31,32,33,34,35,36,37,38,39,40],[0,1,2,3,4,5,6,7,8,9,10,11,12,13,14,15,16,17,18,19,20,21,22,23,24,25,26,27,28,29,30,31,32,33,34,35,36,37,38,39,40,43],[0,1,2,3,4,5,6,7,8,9,10,11,12,13,14,15,16,17,18,19,20,21,22,23,24,25,26,27,28,29,30,31,32,33,34,35,36,37,38,39,40,41,42,43,44],[0,1,2,3,4,5,6,7,8,9,10,11,12,13,14,15,16,17,18,19,20,21,22,23,24,25,26,27,28,29,30,31,32,33,34,35,36,37,38,39,40,41,42,43,44,45],[0,1,2,3,4,5,6,7,8,9,10,11,12,13,14,15,16,17,18,19,20,21,22,23,24,25,26,27,28,29,30,31,32,33,34,35,36,37,38,39,40,41,42,43,44,45,46]] [[(7,none)],[(73,some 0)],[(74,some 1)],[(5,none)],[(76,some 3)],[(75,some 2),(77,some 4)],[(78,some 5)],[(7,none),(79,some 6)],[(80,some 7),(79,some 6)],[(9,none),(79,some 6)],[(82,some 9),(79,some 6)],[(81,some 8),(83,some 10),(79,some 6)],[(79,some 6),(84,some 11)],[(85,some 12)],[(7,none),(86,some 13)],[(87,some 14),(86,some 13)],[(9,none),(86,some 13)],[(89,some 16),(86,some 13)],[(88,some 15),(90,some 17),(86,some 13)],[(86,some 13),(91,some 18)],[(92,some 19)],[(9,none),(93,some 20)],[(94,some 21),(93,some 20)],[(95,some 22),(93,some 20)],[(7,none),(93,some 20)],[(97,some 24),(93,some 20)],[(98,some 25),(93,some 20)],[(96,some 23),(99,some 26),(93,some 20)],[(93,some 20),(100,some 27)],[(101,some 28)],[(7,none),(102,some 29)],[(103,some 30),(102,some 29)],[(9,none),(102,some 29)],[(105,some 32),(102,some 29)],[(106,some 33),(102,some 29)],[(104,some 31),(107,some 34),(102,some 29)],[(9,none),(102,some 29)],[(109,some 36),(102,some 29)],[(108,some 35),(110,some 37),(102,some 29)],[(102,some 29),(111,some 38)],[(112,some 39)],[(9,none),(113,some 40)],[(114,some 41),(113,some 40)],[(7,none),(113,some 40)],[(116,some 43),(113,some 40)],[(115,some 42),(117,some 44),(113,some 40)],[(113,some 40),(118,some 45)],[(119,some 46)]] (by decide +kernel) (
  rc rfl rfl (zQ GResult.fld0 rfl kF33_0 (tp rfl))<|rc rfl rfl (zx rfl kT26 (tp rfl))<|rc rfl rfl (qA rfl kL26 (tp rfl))<|rc rfl rfl (oM rfl (tp rfl))<|rc rfl rfl (qA rfl kL27 (tp rfl))<|rc rfl rfl (oCI rfl (tp rfl) (tp rfl))<|rc rfl rfl (oM rfl (tp rfl))<|rg rfl rfl rfl (λ hg=>zQ GResult.fld0 rfl kF33_0 (tp rfl))<|rg rfl rfl rfl (λ hg=>zx rfl kT26 (ze hg rfl))<|rg rfl rfl rfl (λ hg=>zQ GResult.fld0 rfl kF33_0 (tp rfl))<|rg rfl rfl rfl (λ hg=>zx rfl kT26 (ze hg rfl))<|rg rfl rfl rfl (λ hg=>zD (l:=[.tmp 81,.tmp 83]) rfl kN17 (.cons (ze hg rfl) (.cons (ze hg rfl) .nil)) (J5 (gh hg p49)))<|rc rfl rfl (yN rfl (tp rfl) (zb rfl))<|rc rfl rfl (oM rfl (tp rfl))<|rg rfl rfl rfl (λ hg=>zQ GResult.fld1 rfl kF33_1 (tp rfl))<|rg rfl rfl rfl (λ hg=>zx rfl kT26 (ze hg rfl))<|rg rfl rfl rfl (λ hg=>zQ GResult.fld1 rfl kF33_1 (tp rfl))<|rg rfl rfl rfl (λ hg=>zx rfl kT26 (ze hg rfl))<|rg rfl rfl rfl (λ hg=>zD (l:=[.tmp 88,.tmp 90]) rfl kN17 (.cons (ze hg rfl) (.cons (ze hg rfl) .nil)) (J5 (gh hg p50)))<|rc rfl rfl (yN rfl (tp rfl) (zb rfl))<|rc rfl rfl (oM rfl (tp rfl))<|rg rfl rfl rfl (λ hg=>zQ GResult.fld2 rfl Jp (tp rfl))<|rg rfl rfl rfl (λ hg=>zx rfl kT30 (ze hg rfl))<|rg rfl rfl rfl (λ hg=>qA rfl kL30 (ze hg rfl))<|rg rfl rfl rfl (λ hg=>zQ GResult.fld2 rfl Jp (tp rfl))<|rg rfl rfl rfl (λ hg=>zx rfl kT30 (ze hg rfl))<|rg rfl rfl rfl (λ hg=>qA rfl kL30 (ze hg rfl))<|rg rfl rfl rfl (λ hg=>oCI rfl (ze hg rfl) (ze hg rfl))<|rc rfl rfl (yN rfl (tp rfl) (zb rfl))<|rc rfl rfl (oM rfl (tp rfl))<|rg rfl rfl rfl (λ hg=>zQ GResult.fld2 rfl Jp (tp rfl))<|rg rfl rfl rfl (λ hg=>zx rfl kT30 (ze hg rfl))<|rg rfl rfl rfl (λ hg=>zQ GResult.fld2 rfl Jp (tp rfl))<|rg rfl rfl rfl (λ hg=>zx rfl kT30 (ze hg rfl))<|rg rfl rfl rfl (λ hg=>qA rfl kL30 (ze hg rfl))<|rg rfl rfl rfl (λ hg=>xSliH rfl kS30 (ze hg rfl) (ze hg rfl) (gh hg p51))<|rg rfl rfl rfl (λ hg=>zQ GResult.fld2 rfl Jp (tp rfl))<|rg rfl rfl rfl (λ hg=>zx rfl kT30 (ze hg rfl))<|rg rfl rfl rfl (λ hg=>zD (l:=[.tmp 108,.tmp 110]) rfl kN18 (.cons (ze hg rfl) (.cons (ze hg rfl) .nil)) (Xm (gh hg p52)))<|rc rfl rfl (yN rfl (tp rfl) (zb rfl))<|rc rfl rfl (oM rfl (tp rfl))<|rg rfl rfl rfl (λ hg=>zQ GResult.fld4 rfl kF33_4 (tp rfl))<|rg rfl rfl rfl (λ hg=>zx rfl kT3 (ze hg rfl))<|rg rfl rfl rfl (λ hg=>zQ GResult.fld4 rfl kF33_4 (tp rfl))<|rg rfl rfl rfl (λ hg=>zx rfl kT3 (ze hg rfl))<|rg rfl rfl rfl (λ hg=>oCI rfl (ze hg rfl) (ze hg rfl))<|rc rfl rfl (yN rfl (tp rfl) (zb rfl))<|rc rfl rfl (oA rfl (tp rfl))<|.nil) [2] rfl [] rfl trivial (λ _ _ st57=>?_)
 refine za (wp_ret ?_)
 exact st57.ret rfl rfl h56
open Go.RowKit Tryz
theorem JB(c:List UInt8):jZ (scc xC) c=some true:=by
 unfold jZ
 refine cmd_law c λ t path l f ht hp hl hn hok=>?_
 obtain⟨a1,a2,a3,a4,a5⟩:=Q6 hp hok
 obtain⟨hok',⟨es,h1⟩,⟨lg,h2⟩,⟨o,h3⟩,h4⟩:=cmdsR_pre hp hok (l.length / 2)
 obtain⟨b1,b2,b3,b4,b5⟩:=Q6 hp hok'
 have e0:((l.length:Int)).tdiv 2=((l.length / 2:Nat):Int):=rfl
 dsimp only
 rw[divO_of (by decide) (by rw[e0];omega) (by rw[e0];omega),e0,obS,Yy (by omega),obS,Jz ht hp (by rw[List.length_take];omega) (λ x hx=>hn x (List.mem_of_mem_take hx)) f,obS,runV_ok hok']
 have n1:cmpI .eql ((resV (zT t path l f).1 (zT t path l f).2).ends.length:Int) (l.length:Int)=true:=by
  show cmpI .eql ((zT t path l f).2.length:Int) (l.length:Int)=true
  rw[a4];simp[cmpI]
 have g1:x9 (resV (zT t path l f).1 (zT t path l f).2).ends (resV (zT t path (l.take (l.length / 2)) f).1 (zT t path (l.take (l.length / 2)) f).2).ends=some true:=by
  show x9 (zT t path l f).2 (zT t path (l.take (l.length / 2)) f).2=_
  rw[h1];exact zbI (by rw[← h1];omega)
 have g2:x9 (resV (zT t path l f).1 (zT t path l f).2).out (resV (zT t path (l.take (l.length / 2)) f).1 (zT t path (l.take (l.length / 2)) f).2).out=some true:=by
  show x9 (zT t path l f).1.out (zT t path (l.take (l.length / 2)) f).1.out=_
  rw[h3];exact zbI (by rw[← h3];omega)
 have hlen:(zT t path (l.take (l.length / 2)) f).1.log.length<=(zT t path l f).1.log.length:=by rw[h2,List.length_append];omega
 have n2:cmpI .leq ((resV (zT t path (l.take (l.length / 2)) f).1 (zT t path (l.take (l.length / 2)) f).2).log.length:Int) ((resV (zT t path l f).1 (zT t path l f).2).log.length:Int)=true:=by
  show cmpI .leq ((zT t path (l.take (l.length / 2)) f).1.log.length:Int) ((zT t path l f).1.log.length:Int)=true
  simp[cmpI];exact hlen
 have g3:Ym (resV (zT t path l f).1 (zT t path l f).2).log ((resV (zT t path (l.take (l.length / 2)) f).1 (zT t path (l.take (l.length / 2)) f).2).log.length:Int)=some (resV (zT t path (l.take (l.length / 2)) f).1 (zT t path (l.take (l.length / 2)) f).2).log:=by
  show Ym (zT t path l f).1.log ((zT t path (l.take (l.length / 2)) f).1.log.length:Int)=some (zT t path (l.take (l.length / 2)) f).1.log
  rw[Yy hlen,h2,List.take_left]
 have n3:cmpI .geq (resV (zT t path (l.take (l.length / 2)) f).1 (zT t path (l.take (l.length / 2)) f).2).left (resV (zT t path l f).1 (zT t path l f).2).left=true:=by
  show cmpI .geq (zT t path (l.take (l.length / 2)) f).1.left (zT t path l f).1.left=true
  simp[cmpI];exact h4
 rw[n1,n2,n3,show((true:Bool) == true)=true from rfl,yX,g1,obS,show((true&&true) == true:Bool)=true from rfl,yX,g2,obS,show((((true&&true)&&true)&&true) == true:Bool)=true from rfl,yX,g3,obS,yX,zaU (by show(zT t path (l.take (l.length / 2)) f).1.log.length<=_;omega)]
 rfl
theorem Qu(c:List UInt8):Fn prog 3 [dt c] (dt true):=JA (YX xC) (JB c)
end Go.Proofs.YtnlhpkbphdbknaaGreatDoor
