import Derived.Test.YtnlhpkbphdbknaaGreatDoorRB
import Derived.Test.YtnlhpkbphdbknaaGreatDoorRO
import Derived.Test.YtnlhpkbphdbknaaGreatDoorRKc
import Derived.Test.YtnlhpkbphdbknaaGreatDoorRK
import Derived.Test.YtnlhpkbphdbknaaGreatDoorRT
namespace Go.Proofs.YtnlhpkbphdbknaaGreatDoor
open Go.RowKit Tryz
attribute [local irreducible] OpRel OpdR
set_option maxRecDepth 10000
set_option maxHeartbeats 1600000
theorem kN11:fnB prog 11=true:=by kernel_rfl
theorem kN13:fnB prog 13=true:=by kernel_rfl
theorem kN12:fnB prog 12=true:=by kernel_rfl
def yB(_R:Rec)(v15:GResult)(s43:Int)(v49:GMod)(s62:Bool×Int):Option ((Bool×Int)⊕(Bool⊕(Unit⊕(Int⊕(Unit⊕Bool))))):=
if(cmpI .lss s62.2 s43)=true then((gO (s62.1 == false) (atI v15.modules s62.2)).bind λ v67=>
(gO (s62.1 == false) (yA v49.name)).bind λ v68=>
(gO (v49.cached == true) (atI v15.modules s62.2)).bind λ v72=>
(gO ((v49.cached&&v72.cached) == true) (atI v15.modules s62.2)).bind λ v73=>
if((v49.cached&&v72.cached)&&decide (v73.name=v49.name))=true then(some (.inr (.inr (.inr (.inr (.inr false))))))
else((i64 (s62.2+(1:Int))).bind λ v85=>
some (.inl ((s62.1||decide (v67.name=v68)),v85))))
else(some (.inr (.inl s62.1)))
def yC(R:Rec)(v6:Tree×(List Int)×(List GCmd)×Int)(v15:GResult)(s43:Int):Option (Int⊕(Unit⊕Bool)):=
if(cmpI .lss s43 (v15.modules.length:Int))=true then(Option.bind (α:=Unit⊕(Int⊕(Unit⊕Bool))) ((atI v15.modules s43).bind λ v49=>
(yA v49.name).bind λ v57=>
Option.bind (α:=Bool⊕(Unit⊕(Int⊕(Unit⊕Bool)))) (zU (λ s62=>yB R v15 s43 v49 s62) (decide (v57=(⟨[]⟩:Str)),(0:Int))) (Sum.elim (λ b60=>
(qM v6.1 v6.2.1 v49.name).bind λ v90=>
(gO (((!b60)||cmpI .neq v90.kind v49.kind) == false) (xa v90.roots v49.roots)).bind λ v98=>
if(((!b60)||cmpI .neq v90.kind v49.kind)||(!v98))=true then(some (.inr (.inr (.inr false))))
else(some (.inl ()))) some)) (Sum.elim (λ _b48=>
(i64 (s43+(1:Int))).bind λ v108=>
some (.inl v108)) some))
else(some (.inr (.inl ())))
def wz(R:Rec)(x0:List UInt8):Option Bool:=
if(cmpI .gtr (x0.length:Int) (1048576:Int))=true then(some true)
else((yF x0).bind λ v6=>
(yV R v6.1 v6.2.1 v6.2.2.1 v6.2.2.2).bind λ v15=>
(yk R v6.1 v6.2.1 v6.2.2.1 v6.2.2.2).bind λ v23=>
(ya v15 v23).bind λ v24=>
(gO ((!v24) == false) (y7 v6.1)).bind λ v25=>
(gO (((!v24)||(!v25)) == false) (y8 v6.2.1)).bind λ v26=>
(gO ((((!v24)||(!v25))||(!v26)) == false) (yE v6.2.2.1)).bind λ v27=>
if((((((!v24)||(!v25))||(!v26))||(!v27))||cmpI .lss v6.2.2.2 (0:Int))||cmpI .gtr v6.2.2.2 (120:Int))=true then((yk R v6.1 v6.2.1 v6.2.2.1 v6.2.2.2).bind λ v36=>
(ya v15 v36).bind λ v37=>
some v37)
else(Option.bind (α:=Unit⊕Bool) (zU (λ s43=>yC R v6 v15 s43) (0:Int)) (Sum.elim (λ _b41=>
some true) some)))
theorem Xy{R:Rec}(hR:R.ok){x0:List UInt8}{r:Bool}(h:wz R x0=some r):Fn prog 6 [dt x0] (dt r):=by
 unfold wz at h
 refine fnx (fn:=f6) 4 func6 rfl (oD rfl) rfl (λ M w0 _ st0=>?_)
 refine st0.sq1 [0] (λ _ _ st1=>wp_seq ?_)
 refine st1.sq1 [0,15] (λ _ _ st2=>?_)
 refine st2.cs rfl h (λ _ h3=>?_) (λ _ h4=>wp_skip (za (wp_seq (wp_region_list ?_))))
 ·
  refine st2.sq1 [2] (λ _ _ st5=>wp_ret (zd ?_))
  exact st5.ret rfl rfl h3
 obtain⟨v6,p6,h7⟩:=bsW h4 qF
 refine st2.segA 7 [19,20,21,22] [] (λ _ _ st8=>?_)
 refine st8.alloc 0 rfl rfl kZ25 Xf (by simp) [19,20,21,22] rfl [] rfl rfl (λ b10 _ _ _ st10=>?_)
 have st11:=st10.gn
 refine st11.store (sb:=3) 0 FldS.id rfl rfl rfl kT25 rfl rfl (tp rfl) rfl [20,21,22] rfl [] rfl rfl (λ _ _ st13=>?_)
 refine st13.segA 3 [4,5,6] [(3,0)] (λ _ _ st14=>wpList_nil (za (wp_seq (wp_region_list ?_))))
 obtain⟨v15,p15,h16⟩:=bsW h7 (qE hR)
 refine st14.segC 5 [4,5,6,27] [(3,0)] (λ _ _ st17=>?_)
 refine st17.alloc 1 rfl rfl kZ33 Yw (by simp) [4,5,6,27] rfl [3] rfl rfl (λ b19 _ _ _ st19=>?_)
 have st20:=st19.gn
 refine st20.store (sb:=7) 1 FldS.id rfl rfl rfl kT33 rfl rfl (tp rfl) rfl [4,5,6] rfl [3] rfl rfl (λ _ _ st22=>wpList_nil (za (wp_seq (wp_seq ?_))))
 obtain⟨v23,p23,v24,p24,v25,p25,v26,p26,h31⟩:=bsD h16
 obtain⟨v27,p27,h32⟩:=bs h31
 refine st22.dr (D:=[_,_,_,_,_,_,_,_,_,_,_,_,_,_,_,_,_,_,_,_,_,_,_,_,_,_,_,_,_,_,_]) zv [[],[],[],[],[],[1,2,3,4],[0,1,2,3,4,5],[0,1,2,3,4,5,6],[0,1,2,3,4,5,6,7],[0,1,2,3,4,5,6,7,8],[0,1,2,3,4,5,6,7,8,9],[0,1,2,3,4,5,6,7,8,9,10],[0,1,2,3,4,5,6,7,8,9,10,11],[0,1,2,3,4,5,6,7,8,9,10,11,12],[0,1,2,3,4,5,6,7,8,9,10,11,12,13],[0,1,2,3,4,5,6,7,8,9,10,11,12,13,14],[0,1,2,3,4,5,6,7,8,9,10,11,12,13,14,15],[0,1,2,3,4,5,6,7,8,9,10,11,12,13,14,15,16],[0,1,2,3,4,5,6,7,8,9,10,11,12,13,14,15,16,17],[0,1,2,3,4,5,6,7,8,9,10,11,12,13,14,15,16,17,18],[0,1,2,3,4,5,6,7,8,9,10,11,12,13,14,15,16,17,18,19],[0,1,2,3,4,5,6,7,8,9,10,11,12,13,14,15,16,17,18,19,20],[0,1,2,3,4,5,6,7,8,9,10,11,12,13,14,15,16,17,18,19,20,21],[0,1,2,3,4,5,6,7,8,9,10,11,12,13,14,15,16,17,18,19,20,21,22],[0,1,2,3,4,5,6,7,8,9,10,11,12,13,14,15,16,17,18,19,20,21,22,23],[0,1,2,3,4,5,6,7,8,9,10,11,12,13,14,15,16,17,18,19,20,21,22,23,24],[0,1,2,3,4,5,6,7,8,9,10,11,12,13,14,15,16,17,18,19,20,21,22,23,24,25],[0,1,2,3,4,5,6,7,8,9,10,11,12,13,14,15,16,17,18,19,20,21,22,23,24,25,26],[0,1,2,3,4,5,6,7,8,9,10,11,12,13,14,15,16,17,18,19,20,21,22,23,24,25,26,27],[0,1,2,3,4,5,6,7,8,9,10,11,12,13,14,15,16,17,18,19,20,21,22,23,24,25,26,27,28],[0,1,2,3,4,5,6,7,8,9,10,11,12,13,14,15,16,17,18,19,20,21,22,23,24,25,26,27,28,29]] [[(7,none)],[(3,none)],[(4,none)],[(5,none)],[(6,none)],[(29,some 1),(30,some 2),(31,some 3),(32,some 4)],[(28,some 0),(33,some 5)],[(34,some 6)],[(35,some 7)],[(3,none),(36,some 8)],[(37,some 9),(36,some 8)],[(38,some 10),(36,some 8)],[(36,some 8),(39,some 11)],[(40,some 12)],[(4,none),(41,some 13)],[(42,some 14),(41,some 13)],[(43,some 15),(41,some 13)],[(41,some 13),(44,some 16)],[(45,some 17)],[(5,none),(46,some 18)],[(47,some 19),(46,some 18)],[(48,some 20),(46,some 18)],[(46,some 18),(49,some 21)],[(50,some 22)],[(6,none),(51,some 23)],[(52,some 24),(51,some 23)],[(51,some 23),(53,some 25)],[(54,some 26)],[(6,none),(55,some 27)],[(56,some 28),(55,some 27)],[(55,some 27),(57,some 29)]] (by decide +kernel) (
  rc rfl rfl (zx rfl kT33 (tp rfl))<|rc rfl rfl (zx rfl kT25 (tp rfl))<|rc rfl rfl (oM rfl (tp rfl))<|rc rfl rfl (oM rfl (tp rfl))<|rc rfl rfl (oM rfl (tp rfl))<|rc rfl rfl (zD (l:=[.tmp 29,.tmp 30,.tmp 31,.tmp 32]) rfl kN13 (.cons (tp rfl) (.cons (tp rfl) (.cons (tp rfl) (.cons (tp rfl) .nil)))) (wI hR p23))<|rc rfl rfl (zD (l:=[.tmp 28,.tmp 33]) rfl kN12 (.cons (tp rfl) (.cons (tp rfl) .nil)) (wL p24))<|rc rfl rfl (xZ rfl (tp rfl))<|rc rfl rfl (oM rfl (tp rfl))<|rg rfl rfl rfl (λ hg=>zx rfl kT25 (tp rfl))<|rg rfl rfl rfl (λ hg=>zD (l:=[.tmp 37]) rfl kN14 (.cons (ze hg rfl) .nil) (qk (gh hg p25)))<|rg rfl rfl rfl (λ hg=>xZ rfl (ze hg rfl))<|rc rfl rfl (x8 rfl (tp rfl) (zb rfl))<|rc rfl rfl (oM rfl (tp rfl))<|rg rfl rfl rfl (λ hg=>oM rfl (tp rfl))<|rg rfl rfl rfl (λ hg=>zD (l:=[.tmp 42]) rfl kN15 (.cons (ze hg rfl) .nil) (ql (gh hg p26)))<|rg rfl rfl rfl (λ hg=>xZ rfl (ze hg rfl))<|rc rfl rfl (x8 rfl (tp rfl) (zb rfl))<|rc rfl rfl (oM rfl (tp rfl))<|rg rfl rfl rfl (λ hg=>oM rfl (tp rfl))<|rg rfl rfl rfl (λ hg=>zD (l:=[.tmp 47]) rfl kN16 (.cons (ze hg rfl) .nil) (jT (gh hg p27)))<|rg rfl rfl rfl (λ hg=>xZ rfl (ze hg rfl))<|rc rfl rfl (x8 rfl (tp rfl) (zb rfl))<|rc rfl rfl (oM rfl (tp rfl))<|rg rfl rfl rfl (λ hg=>oM rfl (tp rfl))<|rg rfl rfl rfl (λ hg=>oCI rfl (ze hg rfl) cI)<|rc rfl rfl (x8 rfl (tp rfl) (zb rfl))<|rc rfl rfl (oM rfl (tp rfl))<|rg rfl rfl rfl (λ hg=>oM rfl (tp rfl))<|rg rfl rfl rfl (λ hg=>oCI rfl (ze hg rfl) cI)<|rc rfl rfl (x8 rfl (tp rfl) (zb rfl))<|.nil) [4,5,6,58] rfl [(3,0),(7,1)] rfl ⟨iI,iT⟩ (λ _ _ st33=>?_)
 refine za ?_
 refine st33.cs rfl h32 (λ _ h34=>wp_seq ?_) (λ _ h35=>wp_skip (za ?_))
 ·
  obtain⟨v36,p36,v37,p37,h39⟩:=bsB h34
  refine st33.dr (D:=[_,_,_,_,_,_,_,_]) zv [[],[],[],[],[],[1,2,3,4],[0,1,2,3,4,5],[0,1,2,3,4,5,6]] [[(7,none)],[(3,none)],[(4,none)],[(5,none)],[(6,none)],[(60,some 1),(61,some 2),(62,some 3),(63,some 4)],[(59,some 0),(64,some 5)],[(65,some 6)]] (by decide +kernel) (
   rc rfl rfl (zx rfl kT33 (tp rfl))<|rc rfl rfl (zx rfl kT25 (tp rfl))<|rc rfl rfl (oM rfl (tp rfl))<|rc rfl rfl (oM rfl (tp rfl))<|rc rfl rfl (oM rfl (tp rfl))<|rc rfl rfl (zD (l:=[.tmp 60,.tmp 61,.tmp 62,.tmp 63]) rfl kN13 (.cons (tp rfl) (.cons (tp rfl) (.cons (tp rfl) (.cons (tp rfl) .nil)))) (wI hR p36))<|rc rfl rfl (zD (l:=[.tmp 59,.tmp 64]) rfl kN12 (.cons (tp rfl) (.cons (tp rfl) .nil)) (wL p37))<|rc rfl rfl (oA rfl (tp rfl))<|.nil) [2] rfl [] rfl trivial (λ _ _ st40=>?_)
  refine za ?_
  refine wp_ret (zd ?_)
  exact st40.ret rfl rfl h39
 obtain⟨o41,p41,k41⟩:=bs h35
 refine zj (λ a w=>∃ b41,o41=.inl b41/\(∃ M1 q41_0 q41_1 q41_2 q41_3,Sx (Frm.of w0) 143 M M1 [oneB q41_0,oneB q41_1,oneB q41_2,oneB q41_3] [] [] a w)) ?_ ?_
 ·
  refine st33.sqA [4,8] [(3,0),(7,1)] (λ _ _ st42=>wp_block ?_)
  refine zH p41 (λ s43 a w=>∃ M1 q43_0 q43_1 q43_2 q43_3,Sx (Frm.of w0) 143 M M1 [oneB q43_0,oneB q43_1,oneB q43_2,oneB q43_3] [(4,dt v6.2.1),(8,dt s43)] [(3,0,dbox q43_0 0 v6.1),(7,1,dbox q43_1 0 v15)] a w) fx ?_
  rintro s43 z43 a43 w43 ⟨M43,q43_0,q43_1,q43_2,q43_3,st43⟩ hs43 hx43
  have h44:yC R v6 v15 s43=some z43:=hs43
  unfold yC at h44
  refine wp_seq ?_
  refine st43.sqC [4,8,70] [(3,0),(7,1)] (λ _ _ st45=>?_)
  refine st45.cs rfl h44 (λ _ h46=>wp_skip (za ?_)) (λ _ h47=>wp_exit (zi (zi (zF ?_))))
  ·
   obtain⟨o48,p48,k48⟩:=bs h46
   refine zj (λ a w=>∃ b48,o48=.inl b48/\(∃ M1 q48_0 q48_1 q48_2 q48_3,Sx (Frm.of w0) 143 M M1 [oneB q48_0,oneB q48_1,oneB q48_2,oneB q48_3] [(4,dt v6.2.1),(8,dt s43)] [(3,0,dbox q48_0 0 v6.1),(7,1,dbox q48_1 0 v15)] a w)) ?_ ?_
   ·
    refine wp_block (wp_seq (wp_region_list ?_))
    obtain⟨v49,p49,h50⟩:=bs p48
    refine st45.segC 5 [4,8,77] [(3,0),(7,1)] (λ _ _ st51=>?_)
    refine st51.alloc 2 rfl rfl kZ49 zrGMod (by simp) [4,8,77] rfl [3,7] rfl rfl (λ b53 _ _ _ st53=>?_)
    have st54:=st53.gn
    refine st54.store (sb:=9) 2 FldS.id rfl rfl rfl kT49 rfl rfl (tp rfl) rfl [4,8] rfl [3,7] rfl rfl (λ _ _ st56=>wpList_nil (za ?_))
    obtain⟨v57,p57,h58⟩:=bsW h50 jh
    refine st56.sqC [4,8,10] [(3,0),(7,1),(9,2)] (λ _ _ st59=>?_)
    obtain⟨o60,p60,k60⟩:=bs h58
    refine zj (λ a w=>∃ b60,o60=.inl b60/\(∃ M1 q60_0 q60_1 q60_2 q60_3,Sx (Frm.of w0) 143 M M1 [oneB q60_0,oneB q60_1,oneB q60_2,oneB q60_3] [(4,dt v6.2.1),(8,dt s43),(10,dt b60)] [(3,0,dbox q60_0 0 v6.1),(7,1,dbox q60_1 0 v15),(9,2,dbox q60_2 0 v49)] a w)) ?_ ?_
    ·
     refine st59.sqA [4,8,10,11] [(3,0),(7,1),(9,2)] (λ _ _ st61=>wp_block ?_)
     refine zH p60 (λ s62 a w=>∃ M1 q62_0 q62_1 q62_2 q62_3,Sx (Frm.of w0) 143 M M1 [oneB q62_0,oneB q62_1,oneB q62_2,oneB q62_3] [(4,dt v6.2.1),(8,dt s43),(10,dt s62.1),(11,dt s62.2)] [(3,0,dbox q62_0 0 v6.1),(7,1,dbox q62_1 0 v15),(9,2,dbox q62_2 0 v49)] a w) fx ?_
     rintro s62 z62 a62 w62 ⟨M62,q62_0,q62_1,q62_2,q62_3,st62⟩ hs62 hx62
     have h63:yB R v15 s43 v49 s62=some z62:=hs62
     unfold yB at h63
     refine wp_seq ?_
     refine st62.sqA [4,8,10,11,84] [(3,0),(7,1),(9,2)] (λ _ _ st64=>?_)
     refine st64.cs rfl h63 (λ _ h65=>wp_skip (za (wp_seq (wp_block (wp_seq ?_))))) (λ _ h66=>wp_exit (zi (zi (zF ?_))))
     ·
      obtain⟨v67,p67,v68,p68,h70⟩:=bsB h65
      refine st64.dr (D:=[_,_,_,_,_,_,_,_,_,_,_,_,_,_]) zv [[],[0],[0,1],[0,1,2],[0,1],[0,1,2,3,4],[0,1,2,3,4,5],[0,1,2,3,4,5,6],[0,1],[0,1,8],[0,1,8,9],[0,1,2,3,4,5,6,7,8,9,10],[0,1,2,3,4,5,6,7,8,9,10,11],[0,1,2,3,4,5,6,7,8,9,10,11,12]] [[(10,none)],[(87,some 0)],[(7,none),(88,some 1)],[(89,some 2),(88,some 1)],[(11,none),(88,some 1)],[(90,some 3),(91,some 4),(88,some 1)],[(92,some 5),(88,some 1)],[(93,some 6),(88,some 1)],[(9,none),(88,some 1)],[(95,some 8),(88,some 1)],[(96,some 9),(88,some 1)],[(94,some 7),(97,some 10),(88,some 1)],[(88,some 1),(98,some 11)],[(99,some 12)]] (by decide +kernel) (
       rc rfl rfl (oM rfl (tp rfl))<|rc rfl rfl (oM rfl (tp rfl))<|rg rfl rfl rfl (λ hg=>zQ GResult.fld3 rfl zaq (tp rfl))<|rg rfl rfl rfl (λ hg=>zx rfl kT31 (ze hg rfl))<|rg rfl rfl rfl (λ hg=>oM rfl (tp rfl))<|rg rfl rfl rfl (λ hg=>xIdx rfl kS31 (ze hg rfl) (ze hg rfl) (gh hg p67))<|rg rfl rfl rfl (λ hg=>zu GMod.fld0 rfl Xj (ze hg rfl))<|rg rfl rfl rfl (λ hg=>zn rfl kT9 (ze hg rfl))<|rg rfl rfl rfl (λ hg=>zQ GMod.fld0 rfl Xj (tp rfl))<|rg rfl rfl rfl (λ hg=>zx rfl kT9 (ze hg rfl))<|rg rfl rfl rfl (λ hg=>zD (l:=[.tmp 96]) rfl kN21 (.cons (ze hg rfl) .nil) (jh (gh hg p68)))<|rg rfl rfl rfl (λ hg=>j6 rfl (ze hg rfl) (ze hg rfl))<|rc rfl rfl (x8 rfl (tp rfl) (zb rfl))<|rc rfl rfl (oA rfl (tp rfl))<|.nil) [4,8,10,11] rfl [(3,0),(7,1),(9,2)] rfl ⟨iI,⟨iI,iT⟩⟩ (λ _ _ st71=>?_)
      refine za (wp_seq ?_)
      obtain⟨v72,p72,v73,p73,h75⟩:=bsB h70
      refine st71.dr (D:=[_,_,_,_,_,_,_,_,_,_,_,_,_,_,_,_,_,_,_,_,_]) zv [[],[0],[0,1],[0,1,2],[0,1,2,3],[0,1,2],[0,1,2,3,4,5],[0,1,2,3,4,5,6],[0,1,2,3,4,5,6,7],[0,1,2,3,4,5,6,7,8],[0,1,2,3,4,5,6,7,8,9],[0,1,2,3,4,5,6,7,8,9,10],[0,1,2,3,4,5,6,7,8,9,10,11],[0,1,2,3,4,5,6,7,8,9,10],[0,1,2,3,4,5,6,7,8,9,10,11,12,13],[0,1,2,3,4,5,6,7,8,9,10,11,12,13,14],[0,1,2,3,4,5,6,7,8,9,10,11,12,13,14,15],[0,1,2,3,4,5,6,7,8,9,10],[0,1,2,3,4,5,6,7,8,9,10,17],[0,1,2,3,4,5,6,7,8,9,10,11,12,13,14,15,16,17,18],[0,1,2,3,4,5,6,7,8,9,10,11,12,13,14,15,16,17,18,19]] [[(9,none)],[(100,some 0)],[(101,some 1)],[(7,none),(102,some 2)],[(103,some 3),(102,some 2)],[(11,none),(102,some 2)],[(104,some 4),(105,some 5),(102,some 2)],[(106,some 6),(102,some 2)],[(107,some 7),(102,some 2)],[(102,some 2),(108,some 8)],[(109,some 9)],[(7,none),(110,some 10)],[(111,some 11),(110,some 10)],[(11,none),(110,some 10)],[(112,some 12),(113,some 13),(110,some 10)],[(114,some 14),(110,some 10)],[(115,some 15),(110,some 10)],[(9,none),(110,some 10)],[(117,some 17),(110,some 10)],[(116,some 16),(118,some 18),(110,some 10)],[(110,some 10),(119,some 19)]] (by decide +kernel) (
       rc rfl rfl (zQ GMod.fld3 rfl Jk (tp rfl))<|rc rfl rfl (zx rfl kT4 (tp rfl))<|rc rfl rfl (oM rfl (tp rfl))<|rg rfl rfl rfl (λ hg=>zQ GResult.fld3 rfl zaq (tp rfl))<|rg rfl rfl rfl (λ hg=>zx rfl kT31 (ze hg rfl))<|rg rfl rfl rfl (λ hg=>oM rfl (tp rfl))<|rg rfl rfl rfl (λ hg=>xIdx rfl kS31 (ze hg rfl) (ze hg rfl) (gh hg p72))<|rg rfl rfl rfl (λ hg=>zu GMod.fld3 rfl Jk (ze hg rfl))<|rg rfl rfl rfl (λ hg=>zn rfl kT4 (ze hg rfl))<|rc rfl rfl (yN rfl (tp rfl) (zb rfl))<|rc rfl rfl (oM rfl (tp rfl))<|rg rfl rfl rfl (λ hg=>zQ GResult.fld3 rfl zaq (tp rfl))<|rg rfl rfl rfl (λ hg=>zx rfl kT31 (ze hg rfl))<|rg rfl rfl rfl (λ hg=>oM rfl (tp rfl))<|rg rfl rfl rfl (λ hg=>xIdx rfl kS31 (ze hg rfl) (ze hg rfl) (gh hg p73))<|rg rfl rfl rfl (λ hg=>zu GMod.fld0 rfl Xj (ze hg rfl))<|rg rfl rfl rfl (λ hg=>zn rfl kT9 (ze hg rfl))<|rg rfl rfl rfl (λ hg=>zQ GMod.fld0 rfl Xj (tp rfl))<|rg rfl rfl rfl (λ hg=>zx rfl kT9 (ze hg rfl))<|rg rfl rfl rfl (λ hg=>j6 rfl (ze hg rfl) (ze hg rfl))<|rc rfl rfl (yN rfl (tp rfl) (zb rfl))<|.nil) [4,8,10,11,120] rfl [(3,0),(7,1),(9,2)] rfl ⟨iI,⟨iI,iT⟩⟩ (λ _ _ st76=>?_)
      refine za ?_
      refine st76.cs rfl h75 (λ _ h77=>?_) (λ _ h78=>wp_skip (zf (za ?_)))
      ·
       refine st76.sq1 [2] (λ _ _ st79=>wp_ret (zl (zd (zd (zl (zd (zl (zd (zd (zl (zd ?_)))))))))))
       have h80:=lo h77 hx62
       have h81:=jo h80 k60
       have h82:=jo h81 k48
       have h83:=lo h82 hx43
       have h84:=jo h83 k41
       exact st79.ret rfl rfl h84
      obtain⟨v85,p85,h86⟩:=bs h78
      refine st76.rgA [4,8,10,11] [(3,0),(7,1),(9,2)] (λ _ _ st87=>za ?_)
      exact fl h86
     refine za ?_
     have h88:=lo h66 hx62
     exact fl h88
    rintro a60 w60 ⟨b60,rfl,⟨M60,q60_0,q60_1,q60_2,q60_3,st60⟩⟩
    have h89:=jn k60
    refine wp_seq (wp_region_list ?_)
    obtain⟨v90,p90,h91⟩:=bsW h89 zaZ
    refine st60.segC 5 [4,8,10,125] [(3,0),(7,1),(9,2)] (λ _ _ st92=>?_)
    refine st92.alloc 3 rfl rfl kZ52 Yv (by simp) [4,8,10,125] rfl [3,7,9] rfl rfl (λ b94 _ _ _ st94=>?_)
    have st95:=st94.gn
    refine st95.store (sb:=12) 3 FldS.id rfl rfl rfl kT52 rfl rfl (tp rfl) rfl [4,8,10] rfl [3,7,9] rfl rfl (λ _ _ st97=>wpList_nil (za ?_))
    obtain⟨v98,p98,h99⟩:=bs h91
    refine st97.sqB (sP 14 (r:=by exact sg rfl rfl (λ hg=>oK (qr (gh hg p98)))<|segC)) [4,8,142] [(3,0),(7,1)] (λ _ _ st100=>?_)
    refine st100.cs rfl h99 (λ _ h101=>?_) (λ _ h102=>wp_skip (zf (za ?_)))
    ·
     refine st100.sq1 [2] (λ _ _ st103=>wp_ret (zl (zd (zd (zl (zd ?_))))))
     have h104:=jo h101 k48
     have h105:=lo h104 hx43
     have h106:=jo h105 k41
     exact st103.ret rfl rfl h106
    exact fl h102
   rintro a48 w48 ⟨b48,rfl,⟨M48,q48_0,q48_1,q48_2,q48_3,st48⟩⟩
   have h107:=jn k48
   obtain⟨v108,p108,h109⟩:=bs h107
   refine st48.rgA [4,8] [(3,0),(7,1)] (λ _ _ st110=>za ?_)
   exact fl h109
  refine za ?_
  have h111:=lo h47 hx43
  exact fl h111
 rintro a41 w41 ⟨b41,rfl,⟨M41,q41_0,q41_1,q41_2,q41_3,st41⟩⟩
 have h112:=jn k41
 refine st41.sq1 [2] (λ _ _ st113=>wp_ret ?_)
 exact st113.ret rfl rfl h112
open Go.RowKit Tryz
theorem cache_inner{r:GResult}{i:Nat}{m:GMod}(hl:r.modules.length<=1048576)(hm:r.modules[i]?=some m)(hv:zg m.name=true)
  (hd:∀ (k:Nat) (y:GMod),k<i->r.modules[k]?=some y->m.cached=true->y.cached=true->y.name≠m.name):
  zU (λ s62=>yB (scc xC) r (i:Int) m s62) (decide (zp m.name=(⟨[]⟩:Str)),(0:Int))=some (.inl (decide (zp m.name=(⟨[]⟩:Str))||(r.modules.take i).any (λ y=>decide (y.name=zp m.name)))):=by
 have hlt:=zw hm
 refine JK i (λ k=>((decide (zp m.name=(⟨[]⟩:Str))||(r.modules.take k).any (λ y=>decide (y.name=zp m.name))),(k:Int))) (λ k hk=>?_) ?_ (by omega) (by simp)
 ·
  obtain⟨y,hy,_⟩:=Ju (l:=r.modules) (k:=k) (by omega)
  unfold yB
  dsimp only
  rw[zJ,if_pos (decide_eq_true hk),zK,hy,Zs hv,any_nextC hy,← Bool.or_assoc]
  have i1:=z7 (k:=k) (by omega)
  have hn:=hd k y hk hy
  generalize (decide (zp m.name=(⟨[]⟩:Str))||(r.modules.take k).any (λ y=>decide (y.name=zp m.name)))=b at*
  rw[yL,yL,yL,obS,obS,obS,yL,obS]
  have hcond:((m.cached&&(if(m.cached == true)=true then y else default).cached)&&decide ((if((m.cached&&(if(m.cached == true)=true then y else default).cached) == true)=true then y else default).name=m.name))=false:=by
   cases hc:m.cached with
   | false=>rfl
   |
    true=>
    show(y.cached&&decide ((if(y.cached == true)=true then y else default).name=m.name))=false
    cases hc2:y.cached with
    | false=>rfl
    |
     true=>
     show decide (y.name=m.name)=false
     exact decide_eq_false (hn hc hc2)
  rw[hcond,if_neg (by decide),i1,obS]
  cases b <;> rfl
 ·
  unfold yB
  dsimp only
  rw[zJ,if_neg (by simp)]
theorem Xz(c:List UInt8):wz (scc xC) c=some true:=by
 unfold wz
 refine cmd_law c λ t path l f ht hp hl hn hok=>?_
 obtain⟨a1,a2,a3,a4,a5⟩:=Q6 hp hok
 obtain⟨wd,fnd,_⟩:=cmdsR_ck hp hok
 obtain⟨hv,hvp,_⟩:=Xu hok
 have hmods:(resV (zT t path l f).1 (zT t path l f).2).modules=(zT t path l f).1.mods:=rfl
 generalize hr:resV (zT t path l f).1 (zT t path l f).2=r at hmods ⊢
 generalize zT t path l f=q at*
 have hlen:r.modules.length<=12120:=by rw[hmods];exact a1
 have hL:zU (λ s43=>yC (scc xC) (t,path,l,f) r s43) (0:Int)=some (.inl ()):=by
  refine JK r.modules.length (λ k=>(k:Int)) (λ i hi=>?_) ?_ (by omega) rfl
  ·
   obtain⟨m,hm,hmem⟩:=Ju hi
   have hm':q.1.mods[i]?=some m:=by rw[← hmods];exact hm
   obtain⟨f1,f2,f3,_⟩:=fnd i m hm'
   have hname:sho m.name:=by have:=yR f1;unfold sho;omega
   have hin:=cache_inner (r:=r) (by omega) hm f1 (λ k y hk hy c1 c2 e=>by
    have hy':q.1.mods[k]?=some y:=by rw[← hmods];exact hy
    have:=wd.dist k i y m hy' hm' c2 c1 e
    omega)
   have hmet:(decide (zp m.name=(⟨[]⟩:Str))||(r.modules.take i).any (λ y=>decide (y.name=zp m.name)))=true:=by
    by_cases hpar:zp m.name=emptyS
    ·
     rw[show decide (zp m.name=(⟨[]⟩:Str))=true from decide_eq_true hpar];rfl
    ·
     obtain⟨j,y,hj,hy,he⟩:=wd.order i m hm' hpar
     rw[Bool.or_eq_true]
     refine .inr (List.any_eq_true.2 ⟨y,?_,decide_eq_true he⟩)
     have hy':r.modules[j]?=some y:=by rw[hmods];exact hy
     exact List.mem_of_getElem? (i:=j) (by rw[List.getElem?_take,if_pos hj];exact hy')
   rw[hmet] at hin
   have hfind:=findOf_ok (okG_true hv hvp f1)
   have n1:cmpI .neq (find t.files path m.name).kind m.kind=false:=by rw[← f2];simp[cmpI]
   unfold yC
   dsimp only
   rw[zJ,if_pos (decide_eq_true hi),zK,hm,obS,Zs f1,obS,hin,obS,Sum.elim_inl,FindSpec_eq ht hp hname,hfind,obS,n1,← f3,show(((!true)||false) == false:Bool)=true from rfl,yX,Wm (Nat.le_trans (a5 m (List.mem_of_getElem? hm')).1 (by decide)),obS,if_neg (by decide),obS,Sum.elim_inl,z7 (by omega)]
   rfl
  ·
   unfold yC
   rw[zJ,if_neg (by simp)]
 rw[hL]
 rfl
theorem Wp(c:List UInt8):Fn prog 6 [dt c] (dt true):=Xy (YX xC) (Xz c)
end Go.Proofs.YtnlhpkbphdbknaaGreatDoor
