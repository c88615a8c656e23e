import Derived.Test.YtnlhpkbphdbknaaGreatDoorRB
import Derived.Test.YtnlhpkbphdbknaaGreatDoorRO
import Derived.Test.YtnlhpkbphdbknaaGreatDoorRKc
import Derived.Test.YtnlhpkbphdbknaaGreatDoorRK
import Derived.Test.YtnlhpkbphdbknaaGreatDoorRT
namespace Go.Proofs.YtnlhpkbphdbknaaGreatDoor
open Go.RowKit Tryz
attribute [local irreducible] OpRel OpdR
set_option maxRecDepth 10000
set_option maxHeartbeats 1600000
theorem kN13:fnB prog 13=true:=by kernel_rfl
theorem kN12:fnB prog 12=true:=by kernel_rfl
def xG(_R:Rec)(v17:GResult)(v173:Str)(s179:Bool×Int):Option ((Bool×Int)⊕Bool):=
if(cmpI .lss s179.2 (v17.modules.length:Int))=true then((gO (s179.1 == false) (atI v17.modules s179.2)).bind λ v184=>
(gO ((s179.1 == false)&&(decide (v184.name=v173) == true)) (atI v17.modules s179.2)).bind λ v185=>
(i64 (s179.2+(1:Int))).bind λ v189=>
some (.inl ((s179.1||(decide (v184.name=v173)&&v185.cached)),v189)))
else(some (.inr s179.1))
def yk(_R:Rec)(v59:GCmd)(v86:GResult)(s197:Int×Int):Option ((Int×Int)⊕Int):=
if(cmpI .lss s197.2 (v86.modules.length:Int))=true then(Option.bind (α:=Int) ((atI v86.modules s197.2).bind λ v203=>
if(decide (v203.name=v59.name))=true then((i64 (s197.1+(1:Int))).bind λ v208=>
some v208)
else(some s197.1)) λ o202=>
(i64 (s197.2+(1:Int))).bind λ v212=>
some (.inl (o202,v212)))
else(some (.inr s197.1))
def wj(R:Rec)(x0:List UInt8):Option Bool:=
if(cmpI .gtr (x0.length:Int) (1048576:Int))=true then(some true)
else((yN x0).bind λ v6=>
(yC R v6.1 v6.2.1 v6.2.2.1 v6.2.2.2).bind λ v17=>
(yo R v6.1 v6.2.1 v6.2.2.1 v6.2.2.2).bind λ v25=>
(yb v17 v25).bind λ v26=>
(gO ((!v26) == false) (xu v6.1)).bind λ v27=>
(gO (((!v26)||(!v27)) == false) (xv v6.2.1)).bind λ v28=>
(gO ((((!v26)||(!v27))||(!v28)) == false) (yM v6.2.2.1)).bind λ v29=>
if((((((!v26)||(!v27))||(!v28))||(!v29))||cmpI .lss v6.2.2.2 (0:Int))||cmpI .gtr v6.2.2.2 (120:Int))=true then((yo R v6.1 v6.2.1 v6.2.2.1 v6.2.2.2).bind λ v38=>
(yb v17 v38).bind λ v39=>
some v39)
else((gO (cmpI .eql (v6.2.2.1.length:Int) (0:Int) == false) (i64 ((v6.2.2.1.length:Int)+(1:Int)))).bind λ v44=>
(gO ((cmpI .eql (v6.2.2.1.length:Int) (0:Int)||cmpI .geq v44 (10:Int)) == false) (i64 ((v6.2.2.1.length:Int) - (1:Int)))).bind λ v45=>
(gO ((cmpI .eql (v6.2.2.1.length:Int) (0:Int)||cmpI .geq v44 (10:Int)) == false) (atI v6.2.2.1 v45)).bind λ v46=>
(gO (((cmpI .eql (v6.2.2.1.length:Int) (0:Int)||cmpI .geq v44 (10:Int))||cmpI .neq v46.kind (0:Int)) == false) (i64 ((v6.2.2.1.length:Int) - (1:Int)))).bind λ v47=>
(gO (((cmpI .eql (v6.2.2.1.length:Int) (0:Int)||cmpI .geq v44 (10:Int))||cmpI .neq v46.kind (0:Int)) == false) (atI v17.ends v47)).bind λ v48=>
if(((cmpI .eql (v6.2.2.1.length:Int) (0:Int)||cmpI .geq v44 (10:Int))||cmpI .neq v46.kind (0:Int))||cmpI .neq v48 (0:Int))=true then(some true)
else((i64 ((v6.2.2.1.length:Int) - (1:Int))).bind λ v58=>
(atI v6.2.2.1 v58).bind λ v59=>
(appO 24 [] v6.2.2.1).bind λ v74=>
(appO 24 v74 ([(⟨(2:Int),v59.name⟩:GCmd),(⟨(0:Int),v59.name⟩:GCmd)]:List GCmd)).bind λ v82=>
(yC R v6.1 v6.2.1 v82 v6.2.2.2).bind λ v86=>
(yJ v59.name).bind λ v173=>
Option.bind (α:=Bool) (zW (λ s179=>xG R v17 v173 s179) (decide (v173=(⟨[]⟩:Str)),(0:Int))) λ o177=>
Option.bind (α:=Int) (zW (λ s197=>yk R v59 v86 s197) ((0:Int),(v17.modules.length:Int))) λ o195=>
(atI v86.ends (v6.2.2.1.length:Int)).bind λ v217=>
some (cmpI .eql v217 (0:Int)&&(cmpI .geq o195 (1:Int)||(!o177))))))
theorem Xp{R:Rec}(hR:R.ok){x0:List UInt8}{r:Bool}(h:wj R x0=some r):Fn prog 7 [dt x0] (dt r):=by
 unfold wj at h
 refine fnx (fn:=f7) 4 func7 rfl (oD rfl) rfl (λ M w0 _ st0=>?_)
 refine st0.sq1 [0] (λ _ _ st1=>wp_seq ?_)
 refine st1.sq1 [0,18] (λ _ _ st2=>?_)
 refine st2.cs rfl h (λ _ h3=>?_) (λ _ h4=>wp_skip (za (wp_seq (wp_region_list ?_))))
 ·
  refine st2.sq1 [2] (λ _ _ st5=>wp_ret (zd ?_))
  exact st5.ret rfl rfl h3
 obtain⟨v6,p6,h7⟩:=bsW h4 qC
 refine st2.segA 7 [22,23,24,25] [] (λ _ _ st8=>?_)
 refine st8.alA 1 Y9 [22,23,24,25] [] (λ b10 _ _ _ st10=>?_)
 have st11:=st10.gn
 refine st11.stA 3 1 FldS.id (tp rfl) [23,24,25] [] (λ _ _ st13=>?_)
 have st14:=st13.frzX 1 (s:=3) rfl rfl [23,24,25] rfl [] rfl
 have st15:=st14.gn
 refine st15.segA 3 [3,4,5,6] [] (λ _ _ st16=>wpList_nil (za (wp_seq (wp_region_list ?_))))
 obtain⟨v17,p17,h18⟩:=bsW h7 (yX hR)
 refine st16.segA 5 [3,4,5,6,30] [] (λ _ _ st19=>?_)
 refine st19.alA 2 zV [3,4,5,6,30] [] (λ b21 _ _ _ st21=>?_)
 have st22:=st21.gn
 refine st22.stA 7 2 FldS.id (tp rfl) [3,4,5,6] [] (λ _ _ st24=>wpList_nil (za (wp_seq (wp_seq ?_))))
 obtain⟨v25,p25,v26,p26,v27,p27,v28,p28,h33⟩:=bsD h18
 obtain⟨v29,p29,h34⟩:=bs h33
 refine st24.drA (D:=[_,_,_,_,_,_,_,_,_,_,_,_,_,_,_,_,_,_,_,_,_,_,_,_,_,_,_,_,_,_,_]) zw [[(7,nS)],[(3,nS)],[(4,nS)],[(5,nS)],[(6,nS)],[(32,1),(33,2),(34,3),(35,4)],[(31,0),(36,5)],[(37,6)],[(38,7)],[(3,nS),(39,8)],[(40,9),(39,8)],[(41,10),(39,8)],[(39,8),(42,11)],[(43,12)],[(4,nS),(44,13)],[(45,14),(44,13)],[(46,15),(44,13)],[(44,13),(47,16)],[(48,17)],[(5,nS),(49,18)],[(50,19),(49,18)],[(51,20),(49,18)],[(49,18),(52,21)],[(53,22)],[(6,nS),(54,23)],[(55,24),(54,23)],[(54,23),(56,25)],[(57,26)],[(6,nS),(58,27)],[(59,28),(58,27)],[(58,27),(60,29)]] [3,4,5,6,61] [(7,2)] (λ _ _ st35=>?_) (hs:=rc rfl rfl (zP rfl kT33 (tp rfl))<|rc rfl rfl (zl rfl kT25 (tp rfl))<|rc rfl rfl (oM rfl (tp rfl))<|rc rfl rfl (oM rfl (tp rfl))<|rc rfl rfl (oM rfl (tp rfl))<|rc rfl rfl (zH (l:=[.tmp 32,.tmp 33,.tmp 34,.tmp 35]) rfl kN13 (.cons (tp rfl) (.cons (tp rfl) (.cons (tp rfl) (.cons (tp rfl) .nil)))) (wE hR p25))<|rc rfl rfl (zH (l:=[.tmp 31,.tmp 36]) rfl kN12 (.cons (tp rfl) (.cons (tp rfl) .nil)) (wI p26))<|rc rfl rfl (xS rfl (tp rfl))<|rc rfl rfl (oM rfl (tp rfl))<|rg rfl rfl rfl (λ hg=>zl rfl kT25 (tp rfl))<|rg rfl rfl rfl (λ hg=>zH (l:=[.tmp 40]) rfl kN14 (.cons (ze hg rfl) .nil) (Zs (gh hg p27)))<|rg rfl rfl rfl (λ hg=>xS rfl (ze hg rfl))<|rc rfl rfl (wu rfl (tp rfl) (zb rfl))<|rc rfl rfl (oM rfl (tp rfl))<|rg rfl rfl rfl (λ hg=>oM rfl (tp rfl))<|rg rfl rfl rfl (λ hg=>zH (l:=[.tmp 45]) rfl kN15 (.cons (ze hg rfl) .nil) (Zt (gh hg p28)))<|rg rfl rfl rfl (λ hg=>xS rfl (ze hg rfl))<|rc rfl rfl (wu rfl (tp rfl) (zb rfl))<|rc rfl rfl (oM rfl (tp rfl))<|rg rfl rfl rfl (λ hg=>oM rfl (tp rfl))<|rg rfl rfl rfl (λ hg=>zH (l:=[.tmp 50]) rfl kN16 (.cons (ze hg rfl) .nil) (jX (gh hg p29)))<|rg rfl rfl rfl (λ hg=>xS rfl (ze hg rfl))<|rc rfl rfl (wu rfl (tp rfl) (zb rfl))<|rc rfl rfl (oM rfl (tp rfl))<|rg rfl rfl rfl (λ hg=>oM rfl (tp rfl))<|rg rfl rfl rfl (λ hg=>oCI rfl (ze hg rfl) cI)<|rc rfl rfl (wu rfl (tp rfl) (zb rfl))<|rc rfl rfl (oM rfl (tp rfl))<|rg rfl rfl rfl (λ hg=>oM rfl (tp rfl))<|rg rfl rfl rfl (λ hg=>oCI rfl (ze hg rfl) cI)<|rc rfl rfl (wu rfl (tp rfl) (zb rfl))<|.nil)
 refine za ?_
 refine st35.cs rfl h34 (λ _ h36=>wp_seq ?_) (λ _ h37=>wp_skip (za ?_))
 ·
  obtain⟨v38,p38,v39,p39,h41⟩:=bsB h36
  refine st35.drA (D:=[_,_,_,_,_,_,_,_]) zw [[(7,nS)],[(3,nS)],[(4,nS)],[(5,nS)],[(6,nS)],[(63,1),(64,2),(65,3),(66,4)],[(62,0),(67,5)],[(68,6)]] [2] [] (λ _ _ st42=>?_) (hs:=rc rfl rfl (zP rfl kT33 (tp rfl))<|rc rfl rfl (zl rfl kT25 (tp rfl))<|rc rfl rfl (oM rfl (tp rfl))<|rc rfl rfl (oM rfl (tp rfl))<|rc rfl rfl (oM rfl (tp rfl))<|rc rfl rfl (zH (l:=[.tmp 63,.tmp 64,.tmp 65,.tmp 66]) rfl kN13 (.cons (tp rfl) (.cons (tp rfl) (.cons (tp rfl) (.cons (tp rfl) .nil)))) (wE hR p38))<|rc rfl rfl (zH (l:=[.tmp 62,.tmp 67]) rfl kN12 (.cons (tp rfl) (.cons (tp rfl) .nil)) (wI p39))<|rc rfl rfl (oA rfl (tp rfl))<|.nil)
  refine za ?_
  refine wp_ret (zd ?_)
  exact st42.ret rfl rfl h41
 refine st35.sqA [3,4,5,6,8] [(7,2)] (λ _ _ st43=>wp_seq ?_)
 obtain⟨v44,p44,v45,p45,v46,p46,v47,p47,h52⟩:=bsD h37
 obtain⟨v48,p48,h53⟩:=bs h52
 refine st43.sqB (sP 4 (r:=by exact sg rfl rfl (λ hg=>xAr rfl (ze hg rfl) cI (gh hg p44))<|sP 5 (r:=by exact sg rfl rfl (λ hg=>xAr rfl (ze hg rfl) cI (gh hg p45))<|sg rfl rfl (λ hg=>xIdx rfl kS27 (ze hg rfl) (ze hg rfl) (gh hg p46))<|sP 8 (r:=by exact sg rfl rfl (λ hg=>xAr rfl (ze hg rfl) cI (gh hg p47))<|sg rfl rfl (λ hg=>xIdx rfl kS26 (ze hg rfl) (ze hg rfl) (gh hg p48))<|segC)))) [3,4,5,6,8,95] [(7,2)] (λ _ _ st54=>?_)
 refine st54.cs rfl h53 (λ _ h55=>?_) (λ _ h56=>wp_skip (za ?_))
 ·
  refine st54.sq1 [2] (λ _ _ st57=>wp_ret (zd ?_))
  exact st57.ret rfl rfl h55
 obtain⟨v58,p58,v59,p59,h61⟩:=bsB h56
 refine st54.sqA [3,4,5,6,8,9] [(7,2)] (λ _ _ st62=>wp_seq ?_)
 refine st62.opn (s:=3) rfl (λ b63 o63 c63 st63=>?_)
 refine st63.held (λ w=>CellsAt w b63 o63 c63) zw (λ _ st64=>?_)
 refine st64.tW 0 3 (λ _ st65=>?_)
 refine st65.tM 1 4 (st65.pkZ 3) (λ _ st66=>?_)
 refine st66.tM 3 5 (st66.pkZ 3) (λ _ st67=>?_)
 refine st67.tM 5 9 (st67.pkZ 3) (λ _ st68=>?_)
 refine st68.tM 7 9 (st68.pkZ 3) (λ _ st69=>?_)
 refine st69.tM 11 6 (st69.pkZ 3) (λ _ st70=>?_)
 obtain⟨v74,p74,v82,p82,v86,p86,h95⟩:=bsC h61
 refine st70.tkB (i:=6) (parts:=[(0,.const (.int .i64 2)),(1,.tmp 107)]) (ns:=[1,1]) (zs:=zpGCmd) rfl rfl (by decide +kernel) (by decide +kernel) (by decide +kernel) (λ _ _ _ _ h=>h) (st70.pkZ 3) rfl rfl kB43 kC43 (λ w a hl=>by
 intro p hp;simp only[List.mem_cons,List.not_mem_nil,or_false] at hp
 rcases hp with rfl | rfl
 ·
  exact⟨by decide,rfl⟩
 ·
  exact⟨by decide,Rep.len (α:=Str) (OpdR.cells (tp rfl) hl)⟩) (λ w a hl=>GCmd.parts (x:=(⟨(2:Int),v59.name⟩:GCmd)) (OpdR.cells cI hl) (OpdR.cells (tp rfl) hl)) (λ _ st96=>?_)
 refine st96.tkB (i:=8) (parts:=[(0,.const (.int .i64 0)),(1,.tmp 109)]) (ns:=[1,1]) (zs:=zpGCmd) rfl rfl (by decide +kernel) (by decide +kernel) (by decide +kernel) (λ _ _ _ _ h=>h) (st96.pkZ 3) rfl rfl kB43 kC43 (λ w a hl=>by
 intro p hp;simp only[List.mem_cons,List.not_mem_nil,or_false] at hp
 rcases hp with rfl | rfl
 ·
  exact⟨by decide,rfl⟩
 ·
  exact⟨by decide,Rep.len (α:=Str) (OpdR.cells (tp rfl) hl)⟩) (λ w a hl=>GCmd.parts (x:=(⟨(0:Int),v59.name⟩:GCmd)) (OpdR.cells cI hl) (OpdR.cells (tp rfl) hl)) (λ _ st97=>?_)
 refine ya 1 16383 (λ a w=>∃ M1 q166_2 q166_3,Sx (Frm.of w0) 179 M M1 [oneB none,oneB none,oneB q166_2,oneB q166_3] [(8,dt (v6.2.2.1.length:Int)),(9,dt v59.name),(114,dt v86),(3,dpk b63 o63 c63 v6.1)] [(7,2,dbox q166_2 0 v17),(10,3,dbox q166_3 0 zZ)] a w) ?_ (λ n166=>?_)
 ·
  rintro a166 w166 ⟨M166,q166_2,q166_3,st166⟩
  refine aK1 14 ?_
  refine st166.stA 10 3 FldS.id (tp rfl) [3,8,9] [7] (λ _ _ st172=>?_)
  refine aHN (st172.pkZ 3) ?_
  refine aK0 (za ?_)
  obtain⟨v173,p173,h174⟩:=bsW h95 je
  refine st172.sqA [8,9,11] [(7,2),(10,3)] (λ _ _ st175=>?_)
  refine st175.sqA [8,9,11,12] [(7,2),(10,3)] (λ _ _ st176=>?_)
  obtain⟨o177,p177,k177⟩:=bs h174
  refine zk (λ a w=>∃ M1 q177_0 q177_1 q177_2 q177_3,Sx (Frm.of w0) 179 M M1 [oneB q177_0,oneB q177_1,oneB q177_2,oneB q177_3] [(8,dt (v6.2.2.1.length:Int)),(9,dt v59.name),(12,dt o177)] [(7,2,dbox q177_2 0 v17),(10,3,dbox q177_3 0 v86)] a w) ?_ ?_
  ·
   refine st176.sqA [8,9,11,12,13] [(7,2),(10,3)] (λ _ _ st178=>wp_block ?_)
   refine zJ p177 (λ s179 a w=>∃ M1 q179_0 q179_1 q179_2 q179_3,Sx (Frm.of w0) 179 M M1 [oneB q179_0,oneB q179_1,oneB q179_2,oneB q179_3] [(8,dt (v6.2.2.1.length:Int)),(9,dt v59.name),(11,dt v173),(12,dt s179.1),(13,dt s179.2)] [(7,2,dbox q179_2 0 v17),(10,3,dbox q179_3 0 v86)] a w) fx ?_
   rintro s179 z179 a179 w179 ⟨M179,q179_0,q179_1,q179_2,q179_3,st179⟩ hs179 hx179
   have h180:xG R v17 v173 s179=some z179:=hs179
   unfold xG at h180
   refine wp_seq ?_
   refine st179.sqC [8,9,11,12,13,123] [(7,2),(10,3)] (λ _ _ st181=>?_)
   refine st181.cs rfl h180 (λ _ h182=>wp_skip (za (wp_seq (wp_block ?_)))) (λ _ h183=>wp_exit (zi (zi (zE ?_))))
   ·
    obtain⟨v184,p184,v185,p185,h187⟩:=bsB h182
    refine st181.rgB (sP 5 (r:=by exact sg rfl rfl (λ hg=>xIdx rfl kS31 (ze hg rfl) (ze hg rfl) (gh hg p184))<|sP 4 (r:=by exact sg rfl rfl (λ hg=>oM rfl (ze hg rfl))<|sgg rfl rfl (λ hg=>yj GResult.fld3 rfl kF33_3 (tp rfl))<|sgg rfl rfl (λ hg=>zP rfl kT31 (ze hg rfl))<|sgg rfl rfl (λ hg=>oM rfl (tp rfl))<|sgg rfl rfl (λ hg=>xIdx rfl kS31 (ze hg rfl) (ze hg rfl) (gh hg p185))<|sgg rfl rfl (λ hg=>zt GMod.fld3 rfl W4 (ze hg rfl))<|sgg rfl rfl (λ hg=>zl rfl kT4 (ze hg rfl))<|sg rfl rfl (λ hg=>yS rfl (ze hg rfl) (Y3 hg rfl))<|segC))) [8,9,11,12,13] [(7,2),(10,3)] (λ _ _ st188=>zf (za ?_))
    obtain⟨v189,p189,h190⟩:=bs h187
    refine st188.rgA [8,9,11,12,13] [(7,2),(10,3)] (λ _ _ st191=>za ?_)
    exact fl h190
   refine za ?_
   have h192:=lo h183 hx179
   cases h192
   exact fx
  rintro a177 w177 ⟨M177,q177_0,q177_1,q177_2,q177_3,st177⟩
  have h193:=k177
  refine st177.sqA [8,9,12,14] [(7,2),(10,3)] (λ _ _ st194=>?_)
  obtain⟨o195,p195,k195⟩:=bs h193
  refine zk (λ a w=>∃ M1 q195_0 q195_1 q195_2 q195_3,Sx (Frm.of w0) 179 M M1 [oneB q195_0,oneB q195_1,oneB q195_2,oneB q195_3] [(8,dt (v6.2.2.1.length:Int)),(12,dt o177),(14,dt o195)] [(10,3,dbox q195_3 0 v86)] a w) ?_ ?_
  ·
   refine st194.sqC [8,9,12,14,15] [(10,3)] (λ _ _ st196=>wp_block ?_)
   refine zJ p195 (λ s197 a w=>∃ M1 q197_0 q197_1 q197_2 q197_3,Sx (Frm.of w0) 179 M M1 [oneB q197_0,oneB q197_1,oneB q197_2,oneB q197_3] [(8,dt (v6.2.2.1.length:Int)),(9,dt v59.name),(12,dt o177),(14,dt s197.1),(15,dt s197.2)] [(10,3,dbox q197_3 0 v86)] a w) fx ?_
   rintro s197 z197 a197 w197 ⟨M197,q197_0,q197_1,q197_2,q197_3,st197⟩ hs197 hx197
   have h198:yk R v59 v86 s197=some z197:=hs197
   unfold yk at h198
   refine wp_seq ?_
   refine st197.sqC [8,9,12,14,15,152] [(10,3)] (λ _ _ st199=>?_)
   refine st199.cs rfl h198 (λ _ h200=>wp_skip (za ?_)) (λ _ h201=>wp_exit (zi (zi (zE ?_))))
   ·
    obtain⟨o202,p202,k202⟩:=bs h200
    refine zk (λ a w=>∃ M1 q202_0 q202_1 q202_2 q202_3,Sx (Frm.of w0) 179 M M1 [oneB q202_0,oneB q202_1,oneB q202_2,oneB q202_3] [(8,dt (v6.2.2.1.length:Int)),(9,dt v59.name),(12,dt o177),(14,dt o202),(15,dt s197.2)] [(10,3,dbox q202_3 0 v86)] a w) ?_ ?_
    ·
     refine wp_block ?_
     obtain⟨v203,p203,h204⟩:=bs p202
     refine st199.sqC [8,9,12,14,15,162] [(10,3)] (λ _ _ st205=>?_)
     refine st205.cs rfl h204 (λ _ h206=>?_) (λ _ h207=>wp_skip (zf (za ?_)))
     ·
      obtain⟨v208,p208,h209⟩:=bs h206
      refine st205.rgA [8,9,12,14,15] [(10,3)] (λ _ _ st210=>zf (za ?_))
      cases h209
      exact fx
     cases h207
     exact fx
    rintro a202 w202 ⟨M202,q202_0,q202_1,q202_2,q202_3,st202⟩
    have h211:=k202
    obtain⟨v212,p212,h213⟩:=bs h211
    refine st202.rgA [8,9,12,14,15] [(10,3)] (λ _ _ st214=>za ?_)
    exact fl h213
   refine za ?_
   have h215:=lo h201 hx197
   cases h215
   exact fx
  rintro a195 w195 ⟨M195,q195_0,q195_1,q195_2,q195_3,st195⟩
  have h216:=k195
  obtain⟨v217,p217,h218⟩:=bs h216
  refine st195.sq2 (sP 9 (r:=by exact sg rfl rfl (λ hg=>oM rfl (ze hg rfl))<|sgg rfl rfl (λ hg=>oM rfl (tp rfl))<|sgg rfl rfl (λ hg=>xS rfl (ze hg rfl))<|sg rfl rfl (λ hg=>wu rfl (ze hg rfl) (Y3 hg rfl))<|segC)) [2] (λ _ _ st219=>wp_ret ?_)
  exact st219.ret rfl rfl h218
 refine ya 2 8191 (λ a w=>∃ M1 q155_2,Sx (Frm.of w0) 179 M M1 [oneB none,oneB none,oneB q155_2,oneB none] [(8,dt (v6.2.2.1.length:Int)),(9,dt v59.name),(114,dt v86),(3,dpk b63 o63 c63 v6.1)] [(7,2,dbox q155_2 0 v17)] a w) ?_ (λ n155=>?_)
 ·
  rintro a155 w155 ⟨M155,q155_2,st155⟩
  refine aK1 13 ?_
  refine st155.alA 3 zV [3,8,9,114] [7] (λ b221 _ _ _ st221=>?_)
  have st222:=st221.gn
  exact aHe n166 (st222.pkZ 3)
 refine ya 2 12287 (λ a w=>∃ M1 q159_0 q159_2 q159_3,Sx (Frm.of w0) 179 M M1 [oneB q159_0,oneB none,oneB q159_2,oneB q159_3] [(8,dt (v6.2.2.1.length:Int)),(9,dt v59.name),(102,dt v6.1),(103,dt v6.2.1),(113,dt v6.2.2.2),(3,dpk b63 o63 c63 v6.1)] [(7,2,dbox q159_2 0 v17),(10,3,dbox q159_3 0 zZ),(112,0,dtip q159_0 43 v82)] a w) ?_ (λ n159=>?_)
 ·
  rintro a159 w159 ⟨M159,q159_0,q159_2,q159_3,st159⟩
  refine aK1 12 ?_
  have st223:=st159.frz 0 (s:=112) rfl rfl [3,8,9,102,103,113] rfl [7,10] rfl
  refine st223.segB 1 (sc rfl (oK (yX hR p86))<|.nil) [3,8,9,114] [(7,2),(10,3)] (λ _ _ st224=>?_)
  exact aHe n166 (st224.pkZ 3)
 refine ya 3 4095 (λ a w=>∃ M1 q144_0 q144_2,Sx (Frm.of w0) 179 M M1 [oneB q144_0,oneB none,oneB q144_2,oneB none] [(8,dt (v6.2.2.1.length:Int)),(9,dt v59.name),(102,dt v6.1),(103,dt v6.2.1),(113,dt v6.2.2.2),(3,dpk b63 o63 c63 v6.1)] [(7,2,dbox q144_2 0 v17),(112,0,dtip q144_0 43 v82)] a w) ?_ (λ n144=>?_)
 ·
  rintro a144 w144 ⟨M144,q144_0,q144_2,st144⟩
  refine aK2 12 13 ?_ ?_
  ·
   have st225:=st144.frz 0 (s:=112) rfl rfl [3,8,9,102,103,113] rfl [7] rfl
   refine st225.segB 1 (sc rfl (oK (yX hR p86))<|.nil) [3,8,9,114] [(7,2)] (λ _ _ st226=>?_)
   exact aHe n155 (st226.pkZ 3)
  ·
   refine st144.alA 3 zV [3,8,9,102,103,113] [7,112] (λ b228 _ _ _ st228=>?_)
   have st229:=st228.gn
   exact aHe n159 (st229.pkZ 3)
 refine ya 3 11263 (λ a w=>∃ M1 q148_0 q148_2 q148_3,Sx (Frm.of w0) 179 M M1 [oneB q148_0,oneB none,oneB q148_2,oneB q148_3] [(8,dt (v6.2.2.1.length:Int)),(9,dt v59.name),(102,dt v6.1),(103,dt v6.2.1),(111,dt ([(⟨(2:Int),v59.name⟩:GCmd),(⟨(0:Int),v59.name⟩:GCmd)]:List GCmd)),(113,dt v6.2.2.2),(3,dpk b63 o63 c63 v6.1)] [(7,2,dbox q148_2 0 v17),(10,3,dbox q148_3 0 zZ),(106,0,dtip q148_0 43 v74)] a w) ?_ (λ n148=>?_)
 ·
  rintro a148 w148 ⟨M148,q148_0,q148_2,q148_3,st148⟩
  refine aK1 10 ?_
  refine st148.apA 0 yt p82 [3,8,9,102,103,113] [7,10] (λ g231 _ _ _ st231=>?_)
  have st232:=st231.gn
  exact aHe n159 (st232.pkZ 3)
 refine ya 4 3071 (λ a w=>∃ M1 q124_0 q124_2,Sx (Frm.of w0) 179 M M1 [oneB q124_0,oneB none,oneB q124_2,oneB none] [(8,dt (v6.2.2.1.length:Int)),(9,dt v59.name),(102,dt v6.1),(103,dt v6.2.1),(111,dt ([(⟨(2:Int),v59.name⟩:GCmd),(⟨(0:Int),v59.name⟩:GCmd)]:List GCmd)),(113,dt v6.2.2.2),(3,dpk b63 o63 c63 v6.1)] [(7,2,dbox q124_2 0 v17),(106,0,dtip q124_0 43 v74)] a w) ?_ (λ n124=>?_)
 ·
  rintro a124 w124 ⟨M124,q124_0,q124_2,st124⟩
  refine aK2 10 13 ?_ ?_
  ·
   refine st124.apA 0 yt p82 [3,8,9,102,103,113] [7] (λ g234 _ _ _ st234=>?_)
   have st235:=st234.gn
   exact aHe n144 (st235.pkZ 3)
  ·
   refine st124.alA 3 zV [3,8,9,102,103,111,113] [7,106] (λ b237 _ _ _ st237=>?_)
   have st238:=st237.gn
   exact aHe n148 (st238.pkZ 3)
 refine ya 4 10751 (λ a w=>∃ M1 q128_0 q128_2 q128_3,Sx (Frm.of w0) 179 M M1 [oneB q128_0,oneB none,oneB q128_2,oneB q128_3] [(8,dt (v6.2.2.1.length:Int)),(9,dt v59.name),(102,dt v6.1),(103,dt v6.2.1),(108,dt (⟨(2:Int),v59.name⟩:GCmd)),(110,dt (⟨(0:Int),v59.name⟩:GCmd)),(113,dt v6.2.2.2),(3,dpk b63 o63 c63 v6.1)] [(7,2,dbox q128_2 0 v17),(10,3,dbox q128_3 0 zZ),(106,0,dtip q128_0 43 v74)] a w) ?_ (λ n128=>?_)
 ·
  rintro a128 w128 ⟨M128,q128_0,q128_2,q128_3,st128⟩
  refine aK1 9 ?_
  refine st128.segB 1 (sc rfl (ym (opds:=[.tmp 108,.tmp 110]) rfl kS27 kY27 rfl rfl (by decide) (.cons (tp rfl) (.cons (tp rfl) .nil)))<|.nil) [3,8,9,102,103,111,113] [(7,2),(10,3),(106,0)] (λ _ _ st239=>?_)
  exact aHe n148 (st239.pkZ 3)
 refine ya 4 11247 (λ a w=>∃ M1 q135_2 q135_3,Sx (Frm.of w0) 179 M M1 [oneB none,oneB none,oneB q135_2,oneB q135_3] [(8,dt (v6.2.2.1.length:Int)),(9,dt v59.name),(102,dt v6.1),(103,dt v6.2.1),(105,dt v6.2.2.1),(111,dt ([(⟨(2:Int),v59.name⟩:GCmd),(⟨(0:Int),v59.name⟩:GCmd)]:List GCmd)),(113,dt v6.2.2.2),(3,dpk b63 o63 c63 v6.1)] [(7,2,dbox q135_2 0 v17),(10,3,dbox q135_3 0 zZ),(104,0,dtip none 43 ([]:List GCmd))] a w) ?_ (λ n135=>?_)
 ·
  rintro a135 w135 ⟨M135,q135_2,q135_3,st135⟩
  refine aK1 4 ?_
  refine st135.apA 0 yt p74 [3,8,9,102,103,111,113] [7,10] (λ g241 _ _ _ st241=>?_)
  have st242:=st241.gn
  exact aHe n148 (st242.pkZ 3)
 refine ya 5 2559 (λ a w=>∃ M1 q109_0 q109_2,Sx (Frm.of w0) 179 M M1 [oneB q109_0,oneB none,oneB q109_2,oneB none] [(8,dt (v6.2.2.1.length:Int)),(9,dt v59.name),(102,dt v6.1),(103,dt v6.2.1),(108,dt (⟨(2:Int),v59.name⟩:GCmd)),(110,dt (⟨(0:Int),v59.name⟩:GCmd)),(113,dt v6.2.2.2),(3,dpk b63 o63 c63 v6.1)] [(7,2,dbox q109_2 0 v17),(106,0,dtip q109_0 43 v74)] a w) ?_ (λ n109=>?_)
 ·
  rintro a109 w109 ⟨M109,q109_0,q109_2,st109⟩
  refine aK2 9 13 ?_ ?_
  ·
   refine st109.segB 1 (sc rfl (ym (opds:=[.tmp 108,.tmp 110]) rfl kS27 kY27 rfl rfl (by decide) (.cons (tp rfl) (.cons (tp rfl) .nil)))<|.nil) [3,8,9,102,103,111,113] [(7,2),(106,0)] (λ _ _ st243=>?_)
   exact aHe n124 (st243.pkZ 3)
  ·
   refine st109.alA 3 zV [3,8,9,102,103,108,110,113] [7,106] (λ b245 _ _ _ st245=>?_)
   have st246:=st245.gn
   exact aHe n128 (st246.pkZ 3)
 refine ya 5 3055 (λ a w=>∃ M1 q111_2,Sx (Frm.of w0) 179 M M1 [oneB none,oneB none,oneB q111_2,oneB none] [(8,dt (v6.2.2.1.length:Int)),(9,dt v59.name),(102,dt v6.1),(103,dt v6.2.1),(105,dt v6.2.2.1),(111,dt ([(⟨(2:Int),v59.name⟩:GCmd),(⟨(0:Int),v59.name⟩:GCmd)]:List GCmd)),(113,dt v6.2.2.2),(3,dpk b63 o63 c63 v6.1)] [(7,2,dbox q111_2 0 v17),(104,0,dtip none 43 ([]:List GCmd))] a w) ?_ (λ n111=>?_)
 ·
  rintro a111 w111 ⟨M111,q111_2,st111⟩
  refine aK2 4 13 ?_ ?_
  ·
   refine st111.apA 0 yt p74 [3,8,9,102,103,111,113] [7] (λ g248 _ _ _ st248=>?_)
   have st249:=st248.gn
   exact aHe n124 (st249.pkZ 3)
  ·
   refine st111.alA 3 zV [3,8,9,102,103,105,111,113] [7,104] (λ b251 _ _ _ st251=>?_)
   have st252:=st251.gn
   exact aHe n135 (st252.pkZ 3)
 refine ya 5 10735 (λ a w=>∃ M1 q115_2 q115_3,Sx (Frm.of w0) 179 M M1 [oneB none,oneB none,oneB q115_2,oneB q115_3] [(8,dt (v6.2.2.1.length:Int)),(9,dt v59.name),(102,dt v6.1),(103,dt v6.2.1),(105,dt v6.2.2.1),(108,dt (⟨(2:Int),v59.name⟩:GCmd)),(110,dt (⟨(0:Int),v59.name⟩:GCmd)),(113,dt v6.2.2.2),(3,dpk b63 o63 c63 v6.1)] [(7,2,dbox q115_2 0 v17),(10,3,dbox q115_3 0 zZ),(104,0,dtip none 43 ([]:List GCmd))] a w) ?_ (λ n115=>?_)
 ·
  rintro a115 w115 ⟨M115,q115_2,q115_3,st115⟩
  refine aK2 4 9 ?_ ?_
  ·
   refine st115.apA 0 yt p74 [3,8,9,102,103,108,110,113] [7,10] (λ g254 _ _ _ st254=>?_)
   have st255:=st254.gn
   exact aHe n128 (st255.pkZ 3)
  ·
   refine st115.segB 1 (sc rfl (ym (opds:=[.tmp 108,.tmp 110]) rfl kS27 kY27 rfl rfl (by decide) (.cons (tp rfl) (.cons (tp rfl) .nil)))<|.nil) [3,8,9,102,103,105,111,113] [(7,2),(10,3),(104,0)] (λ _ _ st256=>?_)
   exact aHe n135 (st256.pkZ 3)
 refine ya 5 11243 (λ a w=>∃ M1 q120_2 q120_3,Sx (Frm.of w0) 179 M M1 [oneB none,oneB none,oneB q120_2,oneB q120_3] [(8,dt (v6.2.2.1.length:Int)),(9,dt v59.name),(102,dt v6.1),(103,dt v6.2.1),(105,dt v6.2.2.1),(111,dt ([(⟨(2:Int),v59.name⟩:GCmd),(⟨(0:Int),v59.name⟩:GCmd)]:List GCmd)),(113,dt v6.2.2.2),(3,dpk b63 o63 c63 v6.1)] [(7,2,dbox q120_2 0 v17),(10,3,dbox q120_3 0 zZ)] a w) ?_ (λ n120=>?_)
 ·
  rintro a120 w120 ⟨M120,q120_2,q120_3,st120⟩
  refine aK1 2 ?_
  refine st120.segB 1 (sc rfl (yp (α:=GCmd) (e:=43) rfl kS27)<|.nil) [3,8,9,102,103,105,111,113] [(7,2),(10,3),(104,0)] (λ _ _ st257=>?_)
  exact aHe n135 (st257.pkZ 3)
 refine ya 6 2543 (λ a w=>∃ M1 q99_2,Sx (Frm.of w0) 179 M M1 [oneB none,oneB none,oneB q99_2,oneB none] [(8,dt (v6.2.2.1.length:Int)),(9,dt v59.name),(102,dt v6.1),(103,dt v6.2.1),(105,dt v6.2.2.1),(108,dt (⟨(2:Int),v59.name⟩:GCmd)),(110,dt (⟨(0:Int),v59.name⟩:GCmd)),(113,dt v6.2.2.2),(3,dpk b63 o63 c63 v6.1)] [(7,2,dbox q99_2 0 v17),(104,0,dtip none 43 ([]:List GCmd))] a w) ?_ (λ n99=>?_)
 ·
  rintro a99 w99 ⟨M99,q99_2,st99⟩
  refine aH3 (i:=4) (j:=9) (k:=13) (by decide +kernel) rfl rfl rfl ?_ ?_ ?_
  ·
   refine st99.apA 0 yt p74 [3,8,9,102,103,108,110,113] [7] (λ g259 _ _ _ st259=>?_)
   have st260:=st259.gn
   exact aHe n109 (st260.pkZ 3)
  ·
   refine st99.segB 1 (sc rfl (ym (opds:=[.tmp 108,.tmp 110]) rfl kS27 kY27 rfl rfl (by decide) (.cons (tp rfl) (.cons (tp rfl) .nil)))<|.nil) [3,8,9,102,103,105,111,113] [(7,2),(104,0)] (λ _ _ st261=>?_)
   exact aHe n111 (st261.pkZ 3)
  ·
   refine st99.alA 3 zV [3,8,9,102,103,105,108,110,113] [7,104] (λ b263 _ _ _ st263=>?_)
   have st264:=st263.gn
   exact aHe n115 (st264.pkZ 3)
 refine ya 6 3051 (λ a w=>∃ M1 q101_2,Sx (Frm.of w0) 179 M M1 [oneB none,oneB none,oneB q101_2,oneB none] [(8,dt (v6.2.2.1.length:Int)),(9,dt v59.name),(102,dt v6.1),(103,dt v6.2.1),(105,dt v6.2.2.1),(111,dt ([(⟨(2:Int),v59.name⟩:GCmd),(⟨(0:Int),v59.name⟩:GCmd)]:List GCmd)),(113,dt v6.2.2.2),(3,dpk b63 o63 c63 v6.1)] [(7,2,dbox q101_2 0 v17)] a w) ?_ (λ n101=>?_)
 ·
  rintro a101 w101 ⟨M101,q101_2,st101⟩
  refine aK2 2 13 ?_ ?_
  ·
   refine st101.segB 1 (sc rfl (yp (α:=GCmd) (e:=43) rfl kS27)<|.nil) [3,8,9,102,103,105,111,113] [(7,2),(104,0)] (λ _ _ st265=>?_)
   exact aHe n111 (st265.pkZ 3)
  ·
   refine st101.alA 3 zV [3,8,9,102,103,105,111,113] [7] (λ b267 _ _ _ st267=>?_)
   have st268:=st267.gn
   exact aHe n120 (st268.pkZ 3)
 refine ya 6 10731 (λ a w=>∃ M1 q105_2 q105_3,Sx (Frm.of w0) 179 M M1 [oneB none,oneB none,oneB q105_2,oneB q105_3] [(8,dt (v6.2.2.1.length:Int)),(9,dt v59.name),(102,dt v6.1),(103,dt v6.2.1),(105,dt v6.2.2.1),(108,dt (⟨(2:Int),v59.name⟩:GCmd)),(110,dt (⟨(0:Int),v59.name⟩:GCmd)),(113,dt v6.2.2.2),(3,dpk b63 o63 c63 v6.1)] [(7,2,dbox q105_2 0 v17),(10,3,dbox q105_3 0 zZ)] a w) ?_ (λ n105=>?_)
 ·
  rintro a105 w105 ⟨M105,q105_2,q105_3,st105⟩
  refine aK2 2 9 ?_ ?_
  ·
   refine st105.segB 1 (sc rfl (yp (α:=GCmd) (e:=43) rfl kS27)<|.nil) [3,8,9,102,103,105,108,110,113] [(7,2),(10,3),(104,0)] (λ _ _ st269=>?_)
   exact aHe n115 (st269.pkZ 3)
  ·
   refine st105.segB 1 (sc rfl (ym (opds:=[.tmp 108,.tmp 110]) rfl kS27 kY27 rfl rfl (by decide) (.cons (tp rfl) (.cons (tp rfl) .nil)))<|.nil) [3,8,9,102,103,105,111,113] [(7,2),(10,3)] (λ _ _ st270=>?_)
   exact aHe n120 (st270.pkZ 3)
 refine aH3 (i:=2) (j:=9) (k:=13) (by decide +kernel) rfl rfl rfl ?_ ?_ ?_
 ·
  refine st97.segB 1 (sc rfl (yp (α:=GCmd) (e:=43) rfl kS27)<|.nil) [3,8,9,102,103,105,108,110,113] [(7,2),(104,0)] (λ _ _ st271=>?_)
  exact aHe n99 (st271.pkZ 3)
 ·
  refine st97.segB 1 (sc rfl (ym (opds:=[.tmp 108,.tmp 110]) rfl kS27 kY27 rfl rfl (by decide) (.cons (tp rfl) (.cons (tp rfl) .nil)))<|.nil) [3,8,9,102,103,105,111,113] [(7,2)] (λ _ _ st272=>?_)
  exact aHe n101 (st272.pkZ 3)
 ·
  refine st97.alA 3 zV [3,8,9,102,103,105,108,110,113] [7] (λ b274 _ _ _ st274=>?_)
  have st275:=st274.gn
  exact aHe n105 (st275.pkZ 3)
open Go.RowKit Tryz
theorem forget_count{R:Rec}{d:GCmd}{r:GResult}(i0:Nat)(hl:r.modules.length<=1048576)(h0:i0<=1048576):zW (λ s197=>yk R d r s197) ((0:Int),(i0:Int))=some ((((r.modules.drop i0).filter (λ y=>decide (y.name=d.name))).length:Nat):Int):=by
 refine Jn (r.modules.length - i0) (λ k=>(((((r.modules.drop i0).take k).filter (λ y=>decide (y.name=d.name))).length:Int),((i0+k:Nat):Int))) (λ k hk=>?_) ?_ (by omega) (by simp)
 ·
  obtain⟨y,hy,_⟩:=Xh (l:=r.modules.drop i0) (k:=k) (by rw[List.length_drop];omega)
  have hy2:r.modules[i0+k]?=some y:=by rw[← hy,List.getElem?_drop]
  have hlen:=List.length_filter_le (λ y:GMod=>decide (y.name=d.name)) ((r.modules.drop i0).take k)
  rw[List.length_take] at hlen
  unfold yk
  dsimp only
  rw[zM,if_pos (decide_eq_true (by omega)),zG,hy2,obS,filter_next hy]
  generalize ((r.modules.drop i0).take k).filter (λ y=>decide (y.name=d.name))=out at hlen ⊢
  cases decide (y.name=d.name) with
  |
   true=>
   rw[if_pos rfl,z7 (k:=out.length) (by omega),obS,obS,z7 (k:=i0+k) (by omega),obS]
   simp[Nat.add_assoc]
  |
   false=>
   rw[if_neg (by decide),obS,z7 (k:=i0+k) (by omega),obS]
   simp[Nat.add_assoc]
 ·
  unfold yk
  dsimp only
  rw[zM,if_neg (by simp;omega),List.take_of_length_le (by rw[List.length_drop];omega)]
theorem Xq(c:List UInt8):wj (scc xy) c=some true:=by
 unfold wj
 refine cmd_law c λ t path l f ht hp hl hn hok=>?_
 obtain⟨a1,a2,a3,a4,a5⟩:=Jw hp hok
 dsimp only
 rw[z7 (by omega),xe,obS]
 refine last_law (l:=l) (cmpI .geq (if(cmpI .eql (l.length:Int) 0 == false)=true then((l.length+1:Nat):Int) else default) 10) a4 (by omega) λ d hpos hb hc h0 he=>?_
 rw[show cmpI .eql (l.length:Int) 0=false by simp only[cmpI,beq_eq_false_iff_ne,ne_eq];omega] at hb
 have hb:cmpI .geq ((l.length+1:Nat):Int) 10=false:=hb
 have hb:l.length+1<10:=by
  simp only[cmpI,decide_eq_false_iff_not] at hb
  omega
 have he:(zz t path l f).2[l.length - 1]?=some 0:=he
 obtain⟨hs,hd,hin⟩:=zaD hp hok hpos hc h0 he
 have hok':okR t path (l++[⟨2,d.name⟩,⟨0,d.name⟩]) f=true:=okR_more hok (λ x hx=>by
  simp only[List.mem_cons,List.not_mem_nil,or_false] at hx
  rcases hx with rfl | rfl
  ·
   exact Q3 (by decide) (by decide) hs
  ·
   exact Q3 (by decide) (by decide) hs) (by show l.length+2<=10;omega)
 obtain⟨r,e,hrun,hnew⟩:=forget_more hp hok hok' hin
 obtain⟨b1,_,_,b4,_⟩:=Jw hp hok'
 have i1:i64 ((l.length:Int) - 1)=some ((l.length - 1:Nat):Int):=by rw[xU (by omega) (by omega),show(l.length:Int) - 1=((l.length - 1:Nat):Int) by omega]
 have hsho:sho d.name:=hn d (List.mem_of_getElem? hc)
 rw[hrun] at b1 b4
 have b1:r.mods.length<=12120:=b1
 have hcnt:=forget_count (R:=scc xy) (d:=d) (r:=resV r ((zz t path l f).2++[0,e])) (zz t path l f).1.mods.length (by show r.mods.length<=_;omega) (by omega)
 have hth:=zbA (mods:=(zz t path l f).1.mods) (p:=zj d.name) (step:=λ s179=>xG (scc xy) (resV (zz t path l f).1 (zz t path l f).2) (zj d.name) s179) (by omega) (λ _ _=>rfl) (decide (zj d.name=(⟨[]⟩:Str)))
 rw[i1,obS,zG,hc,obS,yE (by simp;omega) (by simp;omega),obS,List.nil_append,yE (by simp;omega) (by simp;omega),obS,Yg ht hp (by simp;omega) (sho_more hn (s:=d.name) (λ x hx=>by
  simp only[List.mem_cons,List.not_mem_nil,or_false] at hx
  rcases hx with rfl | rfl <;> rfl) hsho) f,obS,Q2 hok',hrun,Zm hs,obS,hth,obS]
 show(Option.bind (zW (λ s197=>yk (scc xy) d (resV r ((zz t path l f).2++[0,e])) s197) ((0:Int),((zz t path l f).1.mods.length:Int))) _)=_
 rw[hcnt,obS]
 have hat:atI (resV r ((zz t path l f).2++[0,e])).ends (l.length:Int)=some 0:=by
  show atI ((zz t path l f).2++[0,e]) (l.length:Int)=some 0
  rw[zG,List.getElem?_append_right (by omega),a4,Nat.sub_self]
  rfl
 rw[hat,obS]
 cases hup:(decide (zj d.name=(⟨[]⟩:Str))||(zz t path l f).1.mods.any (λ y=>decide (y.name=zj d.name)&&y.cached)) with
 | false=>simp[cmpI]
 |
  true=>
  obtain⟨m,m1,m2⟩:=hnew (zaE.1 hup)
  have hlt:=zv m1
  have hge:1<=(((resV r ((zz t path l f).2++[0,e])).modules.drop (zz t path l f).1.mods.length).filter (λ y=>decide (y.name=d.name))).length:=by
   refine List.length_pos_iff.2 (List.ne_nil_of_mem (a:=m) (List.mem_filter.2 ⟨?_,decide_eq_true m2⟩))
   exact List.mem_of_getElem? (i:=0) (by rw[List.getElem?_drop];exact m1)
  rw[show cmpI .geq ((((resV r ((zz t path l f).2++[0,e])).modules.drop (zz t path l f).1.mods.length).filter (λ y=>decide (y.name=d.name))).length:Int) 1=true by simp only[cmpI,decide_eq_true_eq];omega]
  rfl
theorem XW(c:List UInt8):Fn prog 7 [dt c] (dt true):=Xp (YQ xy) (Xq c)
end Go.Proofs.YtnlhpkbphdbknaaGreatDoor
