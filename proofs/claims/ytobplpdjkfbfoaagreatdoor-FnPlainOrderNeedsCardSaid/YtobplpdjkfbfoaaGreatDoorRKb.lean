import Derived.Test.YtobplpdjkfbfoaaGreatDoorRK
import Derived.Test.YtobplpdjkfbfoaaGreatDoorRO
namespace Go.Proofs.YtobplpdjkfbfoaaGreatDoor
open Go.RowKit Tryz
set_option maxRecDepth 10000
set_option maxHeartbeats 1600000
theorem kN46:fnB prog 46=true:=by kernel_rfl
theorem kY29:zlB prog 29=true:=by kernel_rfl
theorem kE29:elB prog 29 32 1 24=true:=by kernel_rfl
theorem kN17:fnB prog 17=true:=by kernel_rfl
theorem kM59:mapB prog 59 9 4=true:=by kernel_rfl
theorem kO4:zeroV prog 4=some (.bool false):=by kernel_rfl
theorem kI29:sliB prog 29 32 1=true:=by kernel_rfl
def yK(x3:List Str)(v2:List Str)(s7:Int):Option (Int⊕(Unit⊕Bool)):=
if(cmpI .lss s7 (v2.length:Int))=true then((atI v2 s7).bind λ v12=>
(yk x3 v12).bind λ v13=>
if(!v13)=true then(some (.inr (.inr false)))
else((i64 (s7+(1:Int))).bind λ v22=>
some (.inl v22)))
else(some (.inr (.inl ())))
def wn(x0:Tree)(x1:List Int)(x2:Str)(x3:List Str):Option Bool:=
(qo x0 x1 x2).bind λ v2=>
Option.bind (α:=Unit⊕Bool) (zF (λ s7=>yK x3 v2 s7) (0:Int)) (Sum.elim (λ _b5=>
(yb x2).bind λ v27=>
(gO (decide (v27=(⟨[]⟩:Str)) == false) (yb x2)).bind λ v28=>
(gO (decide (v27=(⟨[]⟩:Str)) == false) (yk x3 v28)).bind λ v29=>
some (decide (v27=(⟨[]⟩:Str))||v29)) some)
theorem Qf{x0:Tree}{x1:List Int}{x2:Str}{x3:List Str}{r:Bool}(h:wn x0 x1 x2 x3=some r):Fn prog 46 [dt x0,dt x1,dt x2,dt x3] (dt r):=by
 unfold wn at h
 refine fnx (fn:=f46) 0 func46 rfl (oD rfl) rfl (λ M w0 a0 st0=>?_)
 refine st0.sq0 (sc rfl (jV rfl (tp rfl))<|sc rfl (oA rfl cB)<|.nil) [1,2,3,4] rfl (λ a1 w1 st1=>?_)
 obtain⟨v2,p2,h3⟩:=bs h
 refine st1.sq0 (sc rfl (zk rfl kT25 (tp rfl))<|sc rfl (oM rfl (tp rfl))<|sc rfl (oM rfl (tp rfl))<|sc rfl (zn (l:=[.tmp 11,.tmp 12,.tmp 13]) rfl kN82 (.cons (tp rfl) (.cons (tp rfl) (.cons (tp rfl) .nil))) (Wx p2))<|sc rfl (oA rfl (tp rfl))<|.nil) [2,3,9] rfl (λ a4 w4 st4=>?_)
 obtain⟨o5,p5,k5⟩:=bs h3
 refine zj (λ a w=>∃ b5,o5=.inl b5/\Sx (Frm.of w0) 37 M M [] [(2,dt x2),(3,dt x3)] [] a w) ?_ ?_
 ·
  refine st4.sq0 (sc rfl (oA rfl cI)<|.nil) [2,3,9,10] rfl (λ a6 w6 st6=>wp_block ?_)
  refine zB p5 (λ s7 a w=>Sx (Frm.of w0) 37 M M [] [(2,dt x2),(3,dt x3),(9,dt v2),(10,dt s7)] [] a w) (st6.sel0 [2,3,9,10] rfl) ?_
  rintro s7 z7 a7 w7 st7 hs7 hx7
  have h8:yK x3 v2 s7=some z7:=hs7
  unfold yK at h8
  refine wp_seq ?_
  refine st7.sq0 (sc rfl (oM rfl (tp rfl))<|sc rfl (oM rfl (tp rfl))<|sc rfl (z6 rfl kL32 (tp rfl))<|sc rfl (oCI rfl (tp rfl) (tp rfl))<|.nil) [2,3,9,10,18] rfl (λ a9 w9 st9=>?_)
  refine st9.cs (c:=18) rfl h8 (λ c10 h10=>?_) (λ c11 h11=>?_)
  ·
   refine wp_skip (za (wp_seq (wp_block ?_)))
   obtain⟨v12,p12,v13,p13,h15⟩:=bsB h10
   refine st9.sq0 (sc rfl (oM rfl (tp rfl))<|sc rfl (oM rfl (tp rfl))<|sc rfl (oM rfl (tp rfl))<|sc rfl (xIdx rfl kS32 (tp rfl) (tp rfl) p12)<|sc rfl (zk rfl kT9 (tp rfl))<|sc rfl (zn (l:=[.tmp 21,.tmp 25]) rfl kN45 (.cons (tp rfl) (.cons (tp rfl) .nil)) (xP p13))<|sc rfl (xo rfl (tp rfl))<|.nil) [2,3,9,10,27] rfl (λ a16 w16 st16=>?_)
   refine st16.cs (c:=27) rfl h15 (λ c17 h17=>?_) (λ c18 h18=>?_)
   ·
    refine st16.sq0 (sc rfl (oA rfl cB)<|.nil) [8] rfl (λ a19 w19 st19=>wp_ret (zt (zd (zd (zt (zd ?_))))))
    have h20:=lo h17 hx7
    have h21:=jo h20 k5
    exact st19.ret rfl rfl h21
   refine wp_skip (ze (za ?_))
   obtain⟨v22,p22,h23⟩:=bs h18
   refine st16.rg0 (sc rfl (oM rfl (tp rfl))<|sc rfl (xAr rfl (tp rfl) cI p22)<|sc rfl (oA rfl (tp rfl))<|.nil) [2,3,9,10] rfl (λ a24 w24 st24=>za ?_)
   exact⟨_,(Option.some.inj h23).symm,st24.sel0 [2,3,9,10] rfl⟩
  refine wp_exit (zh (zh (zv ?_)))
  refine za ?_
  have h25:=lo h11 hx7
  exact⟨_,(Option.some.inj h25).symm,st9.sel0 [2,3] rfl⟩
 rintro a5 w5 ⟨b5,rfl,st5⟩
 have h26:=jn k5
 obtain⟨v27,p27,v28,p28,v29,p29,h32⟩:=bsC h26
 refine st5.sq0 (sc rfl (oM rfl (tp rfl))<|sc rfl (zn (l:=[.tmp 28]) rfl kN72 (.cons (tp rfl) .nil) (jR p27))<|sc rfl (jP rfl (tp rfl) (zH (by decide)))<|sc rfl (oM rfl (tp rfl))<|sg rfl rfl (λ hg=>oM rfl (tp rfl))<|sg rfl rfl (λ hg=>oM rfl (tp rfl))<|sg rfl rfl (λ hg=>zn (l:=[.tmp 33]) rfl kN72 (.cons (zi hg rfl) .nil) (jR (gh hg p28)))<|sg rfl rfl (λ hg=>zn (l:=[.tmp 32,.tmp 34]) rfl kN45 (.cons (zi hg rfl) (.cons (zi hg rfl) .nil)) (xP (gh hg p29)))<|sc rfl (wj rfl (tp rfl) (zb rfl))<|sc rfl (oA rfl (tp rfl))<|.nil) [8] rfl (λ a33 w33 st33=>wp_ret ?_)
 exact st33.ret rfl rfl h32
def wo(x0:Tree)(x1:List Int)(v13:List Str)(s20:(List Str)×(List (List Str)))(s29:(List Str)×Int):Option (((List Str)×Int)⊕(List Str)):=
if(cmpI .lss s29.2 (v13.length:Int))=true then(Option.bind (α:=(List Str)) ((atI v13 s29.2).bind λ v35=>
(yk s20.1 v35).bind λ v36=>
(gO ((!v36) == true) (atI v13 s29.2)).bind λ v37=>
(gO ((!v36) == true) (wn x0 x1 v37 s20.1)).bind λ v38=>
if((!v36)&&v38)=true then((atI v13 s29.2).bind λ v46=>
(xR s29.1 v46).bind λ v51=>
some v51)
else(some s29.1)) λ o34=>
(i64 (s29.2+(1:Int))).bind λ v55=>
some (.inl (o34,v55)))
else(some (.inr s29.1))
def wq(x0:Tree)(x1:List Int)(v13:List Str)(s20:(List Str)×(List (List Str))):Option (((List Str)×(List (List Str)))⊕((List (List Str))⊕(List (List Str)))):=
if(cmpI .lss (s20.1.length:Int) (v13.length:Int))=true then(Option.bind (α:=(List Str)) (zF (λ s29=>wo x0 x1 v13 s20 s29) ([],(0:Int))) λ o27=>
if(cmpI .eql (o27.length:Int) (0:Int))=true then(some (.inr (.inr [])))
else((appO 16 s20.1 o27).bind λ v70=>
(appO 24 s20.2 ([o27]:List (List Str))).bind λ v77=>
some (.inl (v70,v77))))
else(some (.inr (.inl s20.2)))
def jy(x0:Tree)(x1:List Int)(x2:Str):Option (List (List Str)):=
(y9 x0).bind λ v2=>
(gO ((!v2) == false) (xa x1)).bind λ v3=>
(gO (((!v2)||(!v3)) == false) (yj x2)).bind λ v4=>
if(((!v2)||(!v3))||(!v4))=true then(some [])
else((qn x2).bind λ v12=>
(wR x0 x1 v12).bind λ v13=>
Option.bind (α:=(List (List Str))⊕(List (List Str))) (zF (λ s20=>wq x0 x1 v13 s20) ([],[])) (Sum.elim (λ b19=>
some b19) some))
theorem WP{x0:Tree}{x1:List Int}{x2:Str}{r:List (List Str)}(h:jy x0 x1 x2=some r):FnOwn prog 10 [dt x0,dt x1,dt x2] 32 r:=by
 unfold jy at h
 refine fnxO (fn:=f10) 3 func10 rfl (oD rfl) rfl (λ M w0 a0 st0=>?_)
 refine st0.sq0 (sc rfl (jV rfl (tp rfl))<|sc rfl (oA rfl (yq (α:=List Str) (e:=32)))<|.nil) [1,2,3] rfl (λ a1 w1 st1=>wp_seq ?_)
 obtain⟨v2,p2,v3,p3,v4,p4,h7⟩:=bsC h
 refine st1.sq0 (sc rfl (zk rfl kT25 (tp rfl))<|sc rfl (zn (l:=[.tmp 12]) rfl kN40 (.cons (tp rfl) .nil) (q9 p2))<|sc rfl (xo rfl (tp rfl))<|sc rfl (oM rfl (tp rfl))<|sg rfl rfl (λ hg=>oM rfl (tp rfl))<|sg rfl rfl (λ hg=>zn (l:=[.tmp 16]) rfl kN41 (.cons (zi hg rfl) .nil) (Za (gh hg p3)))<|sg rfl rfl (λ hg=>xo rfl (zi hg rfl))<|sc rfl (wj rfl (tp rfl) (zb rfl))<|sc rfl (oM rfl (tp rfl))<|sg rfl rfl (λ hg=>oM rfl (tp rfl))<|sg rfl rfl (λ hg=>zn (l:=[.tmp 21]) rfl kN42 (.cons (zi hg rfl) .nil) (jb (gh hg p4)))<|sg rfl rfl (λ hg=>xo rfl (zi hg rfl))<|sc rfl (wj rfl (tp rfl) (zb rfl))<|.nil) [1,2,3,24] rfl (λ a8 w8 st8=>?_)
 refine st8.cs (c:=24) rfl h7 (λ c9 h9=>?_) (λ c10 h10=>?_)
 ·
  refine st8.sq (sc rfl (oA rfl (yq (α:=List Str) (e:=32)))<|.nil) [] rfl [(6,0)] rfl ⟨iE,trivial⟩ (λ a11 w11 st11=>wp_ret (zd ?_))
  exact st11.ret_own 0 rfl rfl iE h9
 refine wp_skip (za (wp_seq ?_))
 obtain⟨v12,p12,v13,p13,h15⟩:=bsB h10
 refine st8.dr (D:=[_,_,_,_,_,_]) zO [[(3,nS)],[(1,nS)],[(2,nS)],[(27,2)],[(25,0),(26,1),(28,3)],[(29,4)]] (by decide +kernel) (
  rc rfl rfl (zk rfl kT25 (tp rfl))<|rc rfl rfl (oM rfl (tp rfl))<|rc rfl rfl (oM rfl (tp rfl))<|rc rfl rfl (zn (l:=[.tmp 27]) rfl kN44 (.cons (tp rfl) .nil) (YT p12))<|rc rfl rfl (zn (l:=[.tmp 25,.tmp 26,.tmp 28]) rfl kN43 (.cons (tp rfl) (.cons (tp rfl) (.cons (tp rfl) .nil))) ((YW p13)).fn)<|rc rfl rfl (oA rfl (tp rfl))<|.nil) [1,3,7] rfl [] rfl trivial (λ a16 w16 st16=>?_)
 refine za ?_
 refine st16.sq (sc rfl (yL (α:=Str) (e:=9) rfl kS32)<|sc rfl (oA rfl (tp rfl))<|.nil) [1,3,7] rfl [(8,1)] rfl ⟨iE,trivial⟩ (λ a17 w17 st17=>?_)
 refine st17.sq (sc rfl (yL (α:=List Str) (e:=32) rfl kS29)<|sc rfl (oA rfl (tp rfl))<|.nil) [1,3,7] rfl [(8,1),(9,0)] rfl ⟨iE,⟨iE,trivial⟩⟩ (λ a18 w18 st18=>?_)
 obtain⟨o19,p19,k19⟩:=bs h15
 refine zj (λ a w=>∃ b19,o19=.inl b19/\(∃ M1 q19_0 q19_1 q19_2,Sx (Frm.of w0) 79 M M1 [oneB q19_0,oneB q19_1,oneB q19_2] [] [(9,0,dtip q19_0 32 b19)] a w)) ?_ ?_
 ·
  refine wp_block ?_
  refine zB p19 (λ s20 a w=>∃ M1 q20_0 q20_1 q20_2,Sx (Frm.of w0) 79 M M1 [oneB q20_0,oneB q20_1,oneB q20_2] [(1,dt x1),(3,dptr x0),(7,dt v13)] [(8,1,dtip q20_1 9 s20.1),(9,0,dtip q20_0 32 s20.2)] a w) ⟨_,_,_,_,st18.sel [1,3,7] rfl [(8,1),(9,0)] rfl ⟨iE,⟨iE,trivial⟩⟩⟩ ?_
  rintro s20 z20 a20 w20 ⟨M20,q20_0,q20_1,q20_2,st20⟩ hs20 hx20
  have h21:wq x0 x1 v13 s20=some z20:=hs20
  unfold wq at h21
  refine wp_seq ?_
  refine st20.sq (sc rfl (oM rfl (tp rfl))<|sc rfl (Zt rfl kL32 (tp rfl))<|sc rfl (oM rfl (tp rfl))<|sc rfl (z6 rfl kL32 (tp rfl))<|sc rfl (oCI rfl (tp rfl) (tp rfl))<|.nil) [1,3,7,36] rfl [(8,1),(9,0)] rfl ⟨iI,iT⟩ (λ a22 w22 st22=>?_)
  refine st22.cs (c:=36) rfl h21 (λ c23 h23=>?_) (λ c24 h24=>?_)
  ·
   refine wp_skip (za (wp_block ?_))
   have st25:=st22.rst 2 (by simp) [1,3,7,36] rfl [8,9] rfl
   refine st25.sq (sc rfl (yL (α:=Str) (e:=9) rfl kS32)<|sc rfl (oA rfl (tp rfl))<|.nil) [1,3,7] rfl [(8,1),(9,0),(10,2)] rfl ⟨iI,⟨iI,⟨iE,trivial⟩⟩⟩ (λ a26 w26 st26=>?_)
   obtain⟨o27,p27,k27⟩:=bs h23
   refine zj (λ a w=>∃ M1 q27_0 q27_1 q27_2,Sx (Frm.of w0) 79 M M1 [oneB q27_0,oneB q27_1,oneB q27_2] [(1,dt x1),(3,dptr x0),(7,dt v13)] [(8,1,dtip q27_1 9 s20.1),(9,0,dtip q27_0 32 s20.2),(10,2,dtip q27_2 9 o27)] a w) ?_ ?_
   ·
    refine st26.sq (sc rfl (oA rfl cI)<|.nil) [1,3,7,11] rfl [(8,1),(9,0),(10,2)] rfl ⟨iI,⟨iI,⟨iE,trivial⟩⟩⟩ (λ a28 w28 st28=>wp_block ?_)
    refine zB p27 (λ s29 a w=>∃ M1 q29_0 q29_1 q29_2,Sx (Frm.of w0) 79 M M1 [oneB q29_0,oneB q29_1,oneB q29_2] [(1,dt x1),(3,dptr x0),(7,dt v13),(11,dt s29.2)] [(8,1,dtip q29_1 9 s20.1),(9,0,dtip q29_0 32 s20.2),(10,2,dtip q29_2 9 s29.1)] a w) ⟨_,_,_,_,st28.sel [1,3,7,11] rfl [(8,1),(9,0),(10,2)] rfl ⟨iI,⟨iI,⟨iE,trivial⟩⟩⟩⟩ ?_
    rintro s29 z29 a29 w29 ⟨M29,q29_0,q29_1,q29_2,st29⟩ hs29 hx29
    have h30:wo x0 x1 v13 s20 s29=some z29:=hs29
    unfold wo at h30
    refine wp_seq ?_
    refine st29.sq (sc rfl (oM rfl (tp rfl))<|sc rfl (oM rfl (tp rfl))<|sc rfl (z6 rfl kL32 (tp rfl))<|sc rfl (oCI rfl (tp rfl) (tp rfl))<|.nil) [1,3,7,11,41] rfl [(8,1),(9,0),(10,2)] rfl ⟨iI,⟨iI,iT⟩⟩ (λ a31 w31 st31=>?_)
    refine st31.cs (c:=41) rfl h30 (λ c32 h32=>?_) (λ c33 h33=>?_)
    ·
     refine wp_skip (za ?_)
     obtain⟨o34,p34,k34⟩:=bs h32
     refine zj (λ a w=>∃ M1 q34_0 q34_1 q34_2,Sx (Frm.of w0) 79 M M1 [oneB q34_0,oneB q34_1,oneB q34_2] [(1,dt x1),(3,dptr x0),(7,dt v13),(11,dt s29.2)] [(8,1,dtip q34_1 9 s20.1),(9,0,dtip q34_0 32 s20.2),(10,2,dtip q34_2 9 o34)] a w) ?_ ?_
     ·
      refine wp_block (wp_seq ?_)
      obtain⟨v35,p35,v36,p36,v37,p37,v38,p38,h42⟩:=bsD p34
      refine st31.dr (D:=[_,_,_,_,_,_,_,_,_,_,_,_,_,_,_,_,_]) zO [[(8,nS)],[(7,nS)],[(11,nS)],[(45,1),(46,2)],[(47,3)],[(44,0),(48,4)],[(49,5)],[(50,6)],[(3,nS),(51,7)],[(1,nS),(51,7)],[(7,nS),(51,7)],[(11,nS),(51,7)],[(54,10),(55,11),(51,7)],[(56,12),(51,7)],[(8,nS),(51,7)],[(52,8),(53,9),(57,13),(58,14),(51,7)],[(51,7),(59,15)]] (by decide +kernel) (
       rc rfl rfl (oM rfl (tp rfl))<|rc rfl rfl (oM rfl (tp rfl))<|rc rfl rfl (oM rfl (tp rfl))<|rc rfl rfl (xIdx rfl kS32 (tp rfl) (tp rfl) p35)<|rc rfl rfl (zk rfl kT9 (tp rfl))<|rc rfl rfl (qN (l:=[.tmp 44,.tmp 48]) st31.ob.sub rfl kN45 (.cons (Wt st31.ob 1 rfl (tp rfl)) (.cons (Zu st31.ob.sub (tp rfl)) .nil)) (xP p36) qF)<|rc rfl rfl (xo rfl (tp rfl))<|rc rfl rfl (oM rfl (tp rfl))<|rg rfl rfl rfl (λ hg=>zk rfl kT25 (tp rfl))<|rg rfl rfl rfl (λ hg=>oM rfl (tp rfl))<|rg rfl rfl rfl (λ hg=>oM rfl (tp rfl))<|rg rfl rfl rfl (λ hg=>oM rfl (tp rfl))<|rg rfl rfl rfl (λ hg=>xIdx rfl kS32 (zi hg rfl) (zi hg rfl) (gh hg p37))<|rg rfl rfl rfl (λ hg=>zk rfl kT9 (zi hg rfl))<|rg rfl rfl rfl (λ hg=>oM rfl (tp rfl))<|rg rfl rfl rfl (λ hg=>qN (l:=[.tmp 52,.tmp 53,.tmp 57,.tmp 58]) st31.ob.sub rfl kN46 (.cons (Zu st31.ob.sub (zi hg rfl)) (.cons (Zu st31.ob.sub (zi hg rfl)) (.cons (Zu st31.ob.sub (zi hg rfl)) (.cons (Wt st31.ob 1 rfl (zi hg rfl)) .nil)))) (Qf (gh hg p38)) qF)<|rc rfl rfl (ym rfl (tp rfl) (zb rfl))<|.nil) [1,3,7,11,60] rfl [(8,1),(9,0),(10,2)] rfl ⟨iI,⟨iI,iT⟩⟩ (λ a43 w43 st43=>?_)
      refine za ?_
      refine st43.cs (c:=60) rfl h42 (λ c44 h44=>?_) (λ c45 h45=>?_)
      ·
       refine wp_region_list ?_
       obtain⟨v46,p46,h47⟩:=bs h44
       refine st43.seg 5 (
          sc rfl (oM rfl (tp rfl))<|sc rfl (oM rfl (tp rfl))<|sc rfl (oM rfl (tp rfl))<|sc rfl (xIdx rfl kS32 (tp rfl) (tp rfl) p46)<|sc rfl (zk rfl kT9 (tp rfl))<|.nil) [1,3,7,11,65] rfl [(8,1),(9,0),(10,2),(61,2)] rfl ⟨iI,⟨iI,⟨iI,iT⟩⟩⟩ (λ a48 w48 st48=>?_)
       obtain⟨v51,p51,h52⟩:=bs h47
       refine st48.take (l:=[.tmp 65]) 2 rfl rfl kN47 rfl rfl (.cons (tp rfl) .nil) (ZX p51) [1,3,7,11] rfl [8,9] rfl rfl (λ g50 M50 a50 w50 st50=>?_)
       refine st50.seg 1 (
          sc rfl (oA rfl (tp rfl))<|.nil) [1,3,7,11] rfl [(8,1),(9,0),(10,2)] rfl ⟨iI,⟨iI,iT⟩⟩ (λ a53 w53 st53=>?_)
       refine wpList_nil (ze (za ?_))
       obtain rfl:=Option.some.inj h52
       exact⟨_,_,_,_,st53.sel [1,3,7,11] rfl [(8,1),(9,0),(10,2)] rfl ⟨iI,⟨iI,iT⟩⟩⟩
      refine wp_skip (ze (za ?_))
      obtain rfl:=Option.some.inj h45
      exact⟨_,_,_,_,st43.sel [1,3,7,11] rfl [(8,1),(9,0),(10,2)] rfl ⟨iI,⟨iI,iT⟩⟩⟩
     rintro a34 w34 ⟨M34,q34_0,q34_1,q34_2,st34⟩
     have h54:=k34
     obtain⟨v55,p55,h56⟩:=bs h54
     refine st34.rg (sc rfl (oM rfl (tp rfl))<|sc rfl (xAr rfl (tp rfl) cI p55)<|sc rfl (oA rfl (tp rfl))<|.nil) [1,3,7,11] rfl [(8,1),(9,0),(10,2)] rfl ⟨iI,⟨iI,iT⟩⟩ (λ a57 w57 st57=>za ?_)
     exact⟨_,(Option.some.inj h56).symm,⟨_,_,_,_,st57.sel [1,3,7,11] rfl [(8,1),(9,0),(10,2)] rfl ⟨iI,⟨iI,iT⟩⟩⟩⟩
    refine wp_exit (zh (zh (zv ?_)))
    refine za ?_
    have h58:=lo h33 hx29
    obtain rfl:=Option.some.inj h58
    exact⟨_,_,_,_,st31.sel [1,3,7] rfl [(8,1),(9,0),(10,2)] rfl ⟨iI,⟨iI,iT⟩⟩⟩
   rintro a27 w27 ⟨M27,q27_0,q27_1,q27_2,st27⟩
   have h59:=k27
   refine wp_seq ?_
   refine st27.sq (sc rfl (oM rfl (tp rfl))<|sc rfl (Zt rfl kL32 (tp rfl))<|sc rfl (oCI rfl (tp rfl) cI)<|.nil) [1,3,7,69] rfl [(8,1),(9,0),(10,2)] rfl ⟨iI,⟨iI,iT⟩⟩ (λ a60 w60 st60=>?_)
   refine st60.cs (c:=69) rfl h59 (λ c61 h61=>?_) (λ c62 h62=>?_)
   ·
    have st63:=st60.rst 0 (by simp) [1,3,7,69] rfl [8,10] rfl
    refine st63.sq (sc rfl (yL (α:=List Str) (e:=32) rfl kS29)<|sc rfl (oA rfl (tp rfl))<|.nil) [] rfl [(6,0)] rfl ⟨iE,trivial⟩ (λ a64 w64 st64=>wp_ret (zd (zt (zd (zt (zd ?_))))))
    have h65:=lo h61 hx20
    have h66:=jo h65 k19
    exact st64.ret_own 0 rfl rfl iE h66
   refine wp_skip (za (wp_seq (wp_region_list ?_)))
   refine st60.seg 2 (
     sc rfl (oM rfl (tp rfl))<|sc rfl (oM rfl (tp rfl))<|.nil) [1,3,7] rfl [(8,1),(9,0),(10,2),(71,1),(72,2)] rfl ⟨iI,⟨iI,⟨iI,⟨iI,iT⟩⟩⟩⟩ (λ a67 w67 st67=>?_)
   obtain⟨v70,p70,h71⟩:=bs h62
   refine st67.app 1 rfl rfl kE32 rfl rfl rfl row_tip p70 [1,3,7] rfl [9,10] rfl rfl (λ g69 M69 a69 w69 st69=>?_)
   refine st69.seg 1 (
     sc rfl (oA rfl (tp rfl))<|.nil) [1,3,7] rfl [(8,1),(9,0),(10,2)] rfl ⟨iI,⟨iI,iT⟩⟩ (λ a72 w72 st72=>?_)
   refine wpList_nil (za ?_)
   have st73:=st72.frz 2 (s:=10) rfl rfl [1,3,7] rfl [8,9] rfl
   refine wp_region_list ?_
   refine st73.seg 3 (
     sc rfl (oM rfl (tp rfl))<|sc rfl (oM rfl (tp rfl))<|sc rfl (yf (opds:=[.tmp 75]) rfl kS29 kY29 rfl rfl (by decide) (.cons (tp rfl) .nil))<|.nil) [1,3,7,76] rfl [(8,1),(9,0),(74,0)] rfl ⟨iI,⟨iI,iT⟩⟩ (λ a74 w74 st74=>?_)
   obtain⟨v77,p77,h78⟩:=bs h71
   refine st74.app 0 rfl rfl kE29 rfl rfl rfl yS p77 [1,3,7] rfl [8] rfl rfl (λ g76 M76 a76 w76 st76=>?_)
   refine st76.seg 1 (
     sc rfl (oA rfl (tp rfl))<|.nil) [1,3,7] rfl [(8,1),(9,0)] rfl ⟨iI,iT⟩ (λ a79 w79 st79=>?_)
   refine wpList_nil (ze (za ?_))
   exact⟨_,(Option.some.inj h78).symm,⟨_,_,_,_,st79.sel [1,3,7] rfl [(8,1),(9,0)] rfl ⟨iI,iT⟩⟩⟩
  refine wp_exit (zh (zh (zv ?_)))
  refine za ?_
  have h80:=lo h24 hx20
  exact⟨_,(Option.some.inj h80).symm,⟨_,_,_,_,st22.sel [] rfl [(9,0)] rfl iT⟩⟩
 rintro a19 w19 ⟨b19,rfl,⟨M19,q19_0,q19_1,q19_2,st19⟩⟩
 have h81:=jn k19
 refine st19.sq (sc rfl (oM rfl (tp rfl))<|sc rfl (oA rfl (tp rfl))<|.nil) [] rfl [(6,0)] rfl iT (λ a82 w82 st82=>wp_ret ?_)
 exact st82.ret_own 0 rfl rfl iI h81
def yV(s19:(List (List Str))×(List Str))(o46:(List Str))(s63:Bool×Int):Option ((Bool×Int)⊕Bool):=
if(cmpI .lss s63.2 (o46.length:Int))=true then((atI o46 s63.2).bind λ v68=>
(i64 (s63.2+(1:Int))).bind λ v72=>
some (.inl ((s63.1&&decide (v68∈s19.2)),v72)))
else(some (.inr s63.1))
def wr(x0:Tree)(x1:List Int)(v4:List Str)(s19:(List (List Str))×(List Str))(s28:(List Str)×Int):Option (((List Str)×Int)⊕(List Str)):=
if(cmpI .lss s28.2 (v4.length:Int))=true then(Option.bind (α:=(List Str)) ((atI v4 s28.2).bind λ v34=>
(xq x0 x1 v34).bind λ v42=>
Option.bind (α:=(List Str)) ((yW v34).bind λ v47=>
if(decide (v47≠(⟨[]⟩:Str)))=true then((appO 16 v42 ([v47]:List Str)).bind λ v56=>
some v56)
else(some v42)) λ o46=>
Option.bind (α:=Bool) (zF (λ s63=>yV s19 o46 s63) ((!decide (v34∈s19.2)),(0:Int))) λ o61=>
if o61=true then((appO 16 s28.1 ([v34]:List Str)).bind λ v83=>
some v83)
else(some s28.1)) λ o33=>
(i64 (s28.2+(1:Int))).bind λ v88=>
some (.inl (o33,v88)))
else(some (.inr s28.1))
def ws(o26:(List Str))(s103:(List Str)×Int):Option (((List Str)×Int)⊕(List Str)):=
if(cmpI .lss s103.2 (o26.length:Int))=true then((atI o26 s103.2).bind λ v108=>
(Yo s103.1 v108).bind λ v113=>
(i64 (s103.2+(1:Int))).bind λ v115=>
some (.inl (v113,v115)))
else(some (.inr s103.1))
def xz(x0:Tree)(x1:List Int)(v4:List Str)(s19:(List (List Str))×(List Str)):Option (((List (List Str))×(List Str))⊕((List (List Str))⊕(List (List Str)))):=
if(cmpI .lss (s19.2.length:Int) (v4.length:Int))=true then(Option.bind (α:=(List Str)) (zF (λ s28=>wr x0 x1 v4 s19 s28) ([],(0:Int))) λ o26=>
if(cmpI .eql (o26.length:Int) (0:Int))=true then(some (.inr (.inr [])))
else(Option.bind (α:=(List Str)) (zF (λ s103=>ws o26 s103) (s19.2,(0:Int))) λ o101=>
(appO 24 s19.1 [o26]).bind λ v127=>
some (.inl (v127,o101))))
else(some (.inr (.inl s19.1)))
def qx(x0:Tree)(x1:List Int)(x2:Str):Option (List (List Str)):=
(xt x0 x1 x2).bind λ v4=>
(jp x0 x1 x2).bind λ v7=>
if(cmpI .gtr (v7.length:Int) (0:Int))=true then(some [])
else(Option.bind (α:=(List (List Str))⊕(List (List Str))) (zF (λ s19=>xz x0 x1 v4 s19) ([],([]:List Str))) (Sum.elim (λ b18=>
some b18) some))
theorem za7{x0:Tree}{x1:List Int}{x2:Str}{r:List (List Str)}(h:qx x0 x1 x2=some r):FnN prog 8 [dt x0,dt x1,dt x2] (.ow (Ow.row 32 (Ow.row 9 (Ow.frz (α:=Str)))) r):=by
 unfold qx at h
 refine fnN (fn:=f8) 5 func8 rfl (oD rfl) rfl (λ M w0 a0 st0=>?_)
 refine st0.sq0 (sc rfl (jV rfl (tp rfl))<|sc rfl (oA rfl (yq (α:=List Str) (e:=32)))<|.nil) [1,2,3] rfl (λ a1 w1 st1=>?_)
 refine st1.sq (sc rfl (yL (α:=List Str) (e:=32) rfl kS29)<|sc rfl (oA rfl (tp rfl))<|.nil) [1,2,3] rfl [(7,4)] rfl ⟨iE,trivial⟩ (λ a2 w2 st2=>?_)
 have st3:=st2.tip0 (s:=7) (e':=32) (oy:=(Ow.row 9 (Ow.frz (α:=Str)))) 4 rfl rfl [] rfl
 obtain⟨v4,p4,h5⟩:=bs h
 refine st3.sq (sc rfl (zk rfl kT25 (tp rfl))<|sc rfl (oM rfl (tp rfl))<|sc rfl (oM rfl (tp rfl))<|sc rfl (zn (l:=[.tmp 21,.tmp 22,.tmp 23]) rfl kN16 (.cons (tp rfl) (.cons (tp rfl) (.cons (tp rfl) .nil))) ((qe p4)).fn)<|sc rfl (oA rfl (tp rfl))<|.nil) [1,2,3,8] rfl [(7,4)] rfl iT (λ a6 w6 st6=>wp_seq ?_)
 obtain⟨v7,p7,h8⟩:=bs h5
 refine st6.sq (sc rfl (zk rfl kT25 (tp rfl))<|sc rfl (oM rfl (tp rfl))<|sc rfl (oM rfl (tp rfl))<|sc rfl (zn (l:=[.tmp 25,.tmp 26,.tmp 27]) rfl kN17 (.cons (tp rfl) (.cons (tp rfl) (.cons (tp rfl) .nil))) ((Xp p7)).fn)<|sc rfl (z6 rfl kL32 (tp rfl))<|sc rfl (oCI rfl (tp rfl) cI)<|.nil) [1,3,8,30] rfl [(7,4)] rfl iT (λ a9 w9 st9=>?_)
 refine st9.cs (c:=30) rfl h8 (λ c10 h10=>?_) (λ c11 h11=>?_)
 ·
  refine st9.nmR (s:=7) 4 rfl rfl iI [] rfl (λ g12 A12 c12 hA12 st12=>?_)
  refine st12.sq (sc rfl (oM rfl (tp rfl))<|sc rfl (oA rfl (tp rfl))<|.nil) [] rfl [(6,4)] rfl iT (λ a13 w13 st13=>wp_ret (zd ?_))
  have st14:=st13.unm (s:=6) 4 rfl rfl iI [] rfl
  exact st14.rnO 4 rfl rfl iI h10
 refine wp_skip (za (wp_seq (wp_region_list ?_)))
 refine st9.mapNew (k:=9) (e:=4) 1 rfl rfl (by simp) [1,3,8] rfl [7] rfl rfl (λ b15 M15 a15 w15 st15=>?_)
 have st16:=st15.gs (Gs':=[oneB none,oneB (some b15),oneB none,oneB none,oneB none]) rfl
 refine st16.seg 1 (
  sc rfl (oA rfl (tp rfl))<|.nil) [1,3,8] rfl [(7,4),(9,1)] rfl ⟨iI,iT⟩ (λ a17 w17 st17=>?_)
 refine wpList_nil (za ?_)
 obtain⟨o18,p18,k18⟩:=bs h11
 refine zj (λ a w=>∃ b18,o18=.inl b18/\(∃ M1 q18_0 q18_1 q18_2 q18_3 q18_4,Sx (Frm.of w0) 98 M M1 [oneB q18_0,oneB q18_1,q18_2,q18_3,q18_4] [] [(7,4,dow (Ow.row 32 (Ow.row 9 (Ow.frz (α:=Str)))) q18_4 b18)] a w)) ?_ ?_
 ·
  refine wp_block ?_
  refine zB p18 (λ s19 a w=>∃ M1 q19_0 q19_1 q19_2 q19_3 q19_4,Sx (Frm.of w0) 98 M M1 [oneB q19_0,oneB q19_1,q19_2,q19_3,q19_4] [(1,dt x1),(3,dptr x0),(8,dt v4)] [(9,1,dmap prog 9 4 q19_1 s19.2),(7,4,dow (Ow.row 32 (Ow.row 9 (Ow.frz (α:=Str)))) q19_4 s19.1)] a w) ⟨_,_,_,_,_,_,st17.sel [1,3,8] rfl [(9,1),(7,4)] rfl ⟨iI,iT⟩⟩ ?_
  rintro s19 z19 a19 w19 ⟨M19,q19_0,q19_1,q19_2,q19_3,q19_4,st19⟩ hs19 hx19
  have h20:xz x0 x1 v4 s19=some z19:=hs19
  unfold xz at h20
  refine wp_seq ?_
  refine st19.sq (sc rfl (oM rfl (tp rfl))<|sc rfl (xMapLen rfl kM59 (tp rfl))<|sc rfl (oM rfl (tp rfl))<|sc rfl (z6 rfl kL32 (tp rfl))<|sc rfl (oCI rfl (tp rfl) (tp rfl))<|.nil) [1,3,8,37] rfl [(7,4),(9,1)] rfl ⟨iI,iT⟩ (λ a21 w21 st21=>?_)
  refine st21.cs (c:=37) rfl h20 (λ c22 h22=>?_) (λ c23 h23=>?_)
  ·
   refine wp_skip (za (wp_block ?_))
   have st24:=st21.rst 2 (by simp) [1,3,8,37] rfl [7,9] rfl
   refine st24.sq (sc rfl (yL (α:=Str) (e:=9) rfl kS32)<|sc rfl (oA rfl (tp rfl))<|.nil) [1,3,8] rfl [(7,4),(9,1),(10,2)] rfl ⟨iI,⟨iI,⟨iE,trivial⟩⟩⟩ (λ a25 w25 st25=>?_)
   obtain⟨o26,p26,k26⟩:=bs h22
   refine zj (λ a w=>∃ M1 q26_0 q26_1 g102602 q26_3 q26_4,Sx (Frm.of w0) 98 M M1 [oneB q26_0,oneB q26_1,oneB g102602,q26_3,q26_4] [(1,dt x1),(3,dptr x0),(8,dt v4)] [(9,1,dmap prog 9 4 q26_1 s19.2),(10,2,dtip g102602 9 o26),(7,4,dow (Ow.row 32 (Ow.row 9 (Ow.frz (α:=Str)))) q26_4 s19.1)] a w) ?_ ?_
   ·
    refine st25.sq (sc rfl (oM rfl (tp rfl))<|sc rfl (z6 rfl kL32 (tp rfl))<|sc rfl (oM rfl cI)<|.nil) [1,3,8,39,40,41] rfl [(7,4),(9,1),(10,2)] rfl ⟨iI,⟨iI,⟨iE,trivial⟩⟩⟩ (λ a27 w27 st27=>wp_block ?_)
    refine zB p26 (λ s28 a w=>∃ M1 q28_0 q28_1 g102802 q28_3 q28_4,Sx (Frm.of w0) 98 M M1 [oneB q28_0,oneB q28_1,oneB g102802,q28_3,q28_4] [(1,dt x1),(3,dptr x0),(8,dt v4),(39,dt v4),(40,dt (v4.length:Int)),(41,dt s28.2)] [(9,1,dmap prog 9 4 q28_1 s19.2),(10,2,dtip g102802 9 s28.1),(7,4,dow (Ow.row 32 (Ow.row 9 (Ow.frz (α:=Str)))) q28_4 s19.1)] a w) ⟨_,_,_,_,_,_,st27.sel [1,3,8,39,40,41] rfl [(9,1),(10,2),(7,4)] rfl ⟨iI,⟨iE,iT⟩⟩⟩ ?_
    rintro s28 z28 a28 w28 ⟨M28,q28_0,q28_1,g102802,q28_3,q28_4,st28⟩ hs28 hx28
    have h29:wr x0 x1 v4 s19 s28=some z28:=hs28
    unfold wr at h29
    refine st28.sq (sc rfl (oCI rfl (tp rfl) (tp rfl))<|.nil) [1,3,8,39,40,41,42] rfl [(7,4),(9,1),(10,2)] rfl ⟨iI,⟨iI,iT⟩⟩ (λ a30 w30 st30=>wp_seq ?_)
    refine st30.cs (c:=42) rfl h29 (λ c31 h31=>?_) (λ c32 h32=>?_)
    ·
     refine wp_skip (za ?_)
     obtain⟨o33,p33,k33⟩:=bs h31
     refine zj (λ a w=>∃ M1 q33_0 q33_1 g103302 q33_3 q33_4,Sx (Frm.of w0) 98 M M1 [oneB q33_0,oneB q33_1,oneB g103302,q33_3,q33_4] [(1,dt x1),(3,dptr x0),(8,dt v4),(39,dt v4),(40,dt (v4.length:Int)),(41,dt s28.2)] [(9,1,dmap prog 9 4 q33_1 s19.2),(10,2,dtip g103302 9 o33),(7,4,dow (Ow.row 32 (Ow.row 9 (Ow.frz (α:=Str)))) q33_4 s19.1)] a w) ?_ ?_
     ·
      refine wp_block ?_
      obtain⟨v34,p34,h35⟩:=bs p33
      refine st30.sq (sc rfl (xIdx rfl kS32 (tp rfl) (tp rfl) p34)<|sc rfl (zk rfl kT9 (tp rfl))<|sc rfl (oA rfl (tp rfl))<|.nil) [1,3,8,12,39,40,41] rfl [(7,4),(9,1),(10,2)] rfl ⟨iI,⟨iI,iT⟩⟩ (λ a36 w36 st36=>?_)
      refine st36.sq (sc rfl (oM rfl (tp rfl))<|sc rfl (oM rfl (tp rfl))<|sc rfl (xMapGet rfl kM59 kO4 (tp rfl) (tp rfl))<|sc rfl (xo rfl (tp rfl))<|sc rfl (oA rfl (tp rfl))<|.nil) [1,3,8,12,13,39,40,41] rfl [(7,4),(9,1),(10,2)] rfl ⟨iI,⟨iI,iT⟩⟩ (λ a37 w37 st37=>?_)
      have st38:=st37.rst 0 (by simp) [1,3,8,12,13,39,40,41] rfl [7,9,10] rfl
      refine wp_seq (wp_region_list ?_)
      refine st38.seg 3 (
         sc rfl (zk rfl kT25 (tp rfl))<|sc rfl (oM rfl (tp rfl))<|sc rfl (oM rfl (tp rfl))<|.nil) [1,3,8,12,13,39,40,41,49,50,51] rfl [(7,4),(9,1),(10,2)] rfl ⟨iI,⟨iI,iT⟩⟩ (λ a39 w39 st39=>?_)
      obtain⟨v42,p42,h43⟩:=bs h35
      refine st39.own (l:=[.tmp 49,.tmp 50,.tmp 51]) 0 rfl rfl kN14 (.cons (tp rfl) (.cons (tp rfl) (.cons (tp rfl) .nil))) (jm p42) (by simp) [1,3,8,12,13,39,40,41] rfl [7,9,10] rfl rfl (λ g41 M41 a41 w41 st41=>?_)
      have st44:=st41.gs (Gs':=[oneB g41,oneB q28_1,oneB g102802,q28_3,q28_4]) rfl
      refine st44.seg 1 (
         sc rfl (oA rfl (tp rfl))<|.nil) [1,3,8,12,13,39,40,41] rfl [(7,4),(9,1),(10,2),(14,0)] rfl ⟨iI,⟨iI,⟨iI,iT⟩⟩⟩ (λ a45 w45 st45=>?_)
      refine wpList_nil (za ?_)
      obtain⟨o46,p46,k46⟩:=bs h43
      refine zj (λ a w=>∃ M1 q46_0 q46_1 g104602 q46_3 q46_4,Sx (Frm.of w0) 98 M M1 [oneB q46_0,oneB q46_1,oneB g104602,q46_3,q46_4] [(1,dt x1),(3,dptr x0),(8,dt v4),(12,dt v34),(13,dt (!decide (v34∈s19.2))),(39,dt v4),(40,dt (v4.length:Int)),(41,dt s28.2)] [(9,1,dmap prog 9 4 q46_1 s19.2),(10,2,dtip g104602 9 s28.1),(14,0,dtip q46_0 9 o46),(7,4,dow (Ow.row 32 (Ow.row 9 (Ow.frz (α:=Str)))) q46_4 s19.1)] a w) ?_ ?_
      ·
       obtain⟨v47,p47,h48⟩:=bs p46
       refine st45.sq (sc rfl (oM rfl (tp rfl))<|sc rfl (zn (l:=[.tmp 53]) rfl kN39 (.cons (tp rfl) .nil) (Zx p47))<|sc rfl (oA rfl (tp rfl))<|.nil) [1,3,8,12,13,15,39,40,41] rfl [(7,4),(9,1),(10,2),(14,0)] rfl ⟨iI,⟨iI,⟨iI,iT⟩⟩⟩ (λ a49 w49 st49=>?_)
       refine st49.sq (sc rfl (oM rfl (tp rfl))<|sc rfl (Xa rfl (tp rfl) (zH (by decide)))<|.nil) [1,3,8,12,13,15,39,40,41,56] rfl [(7,4),(9,1),(10,2),(14,0)] rfl ⟨iI,⟨iI,⟨iI,iT⟩⟩⟩ (λ a50 w50 st50=>?_)
       refine st50.cs (c:=56) rfl h48 (λ c51 h51=>?_) (λ c52 h52=>?_)
       ·
        refine wp_region_list ?_
        refine st50.seg 3 (
           sc rfl (oM rfl (tp rfl))<|sc rfl (oM rfl (tp rfl))<|sc rfl (yf (opds:=[.tmp 58]) rfl kS32 kY32 rfl rfl (by decide) (.cons (tp rfl) .nil))<|.nil) [1,3,8,12,13,39,40,41,59] rfl [(7,4),(9,1),(10,2),(14,0),(57,0)] rfl ⟨iI,⟨iI,⟨iI,⟨iI,iT⟩⟩⟩⟩ (λ a53 w53 st53=>?_)
        obtain⟨v56,p56,h57⟩:=bs h51
        refine st53.app 0 rfl rfl kE32 rfl rfl rfl yS p56 [1,3,8,12,13,39,40,41] rfl [7,9,10] rfl rfl (λ g55 M55 a55 w55 st55=>?_)
        have st58:=st55.gs (Gs':=[oneB g55,oneB q28_1,oneB g102802,q28_3,q28_4]) rfl
        refine st58.seg 1 (
           sc rfl (oA rfl (tp rfl))<|.nil) [1,3,8,12,13,39,40,41] rfl [(7,4),(9,1),(10,2),(14,0)] rfl ⟨iI,⟨iI,⟨iI,iT⟩⟩⟩ (λ a59 w59 st59=>?_)
        refine wpList_nil (za ?_)
        obtain rfl:=Option.some.inj h57
        exact⟨_,_,_,_,_,_,st59.sel [1,3,8,12,13,39,40,41] rfl [(9,1),(10,2),(14,0),(7,4)] rfl ⟨iI,⟨iI,⟨iI,iT⟩⟩⟩⟩
       refine wp_skip (za ?_)
       obtain rfl:=Option.some.inj h52
       exact⟨_,_,_,_,_,_,st50.sel [1,3,8,12,13,39,40,41] rfl [(9,1),(10,2),(14,0),(7,4)] rfl ⟨iI,⟨iI,⟨iI,iT⟩⟩⟩⟩
      rintro a46 w46 ⟨M46,q46_0,q46_1,g104602,q46_3,q46_4,st46⟩
      have h60:=k46
      obtain⟨o61,p61,k61⟩:=bs h60
      refine zj (λ a w=>∃ M1 q61_0 q61_1 g106102 q61_3 q61_4,Sx (Frm.of w0) 98 M M1 [oneB q61_0,oneB q61_1,oneB g106102,q61_3,q61_4] [(1,dt x1),(3,dptr x0),(8,dt v4),(12,dt v34),(13,dt o61),(39,dt v4),(40,dt (v4.length:Int)),(41,dt s28.2)] [(9,1,dmap prog 9 4 q61_1 s19.2),(10,2,dtip g106102 9 s28.1),(7,4,dow (Ow.row 32 (Ow.row 9 (Ow.frz (α:=Str)))) q61_4 s19.1)] a w) ?_ ?_
      ·
       refine st46.sq (sc rfl (oM rfl (tp rfl))<|sc rfl (Zt rfl kL32 (tp rfl))<|sc rfl (oM rfl cI)<|.nil) [1,3,8,12,13,39,40,41,62,63] rfl [(7,4),(9,1),(10,2),(61,0)] rfl ⟨iI,⟨iI,⟨iI,iT⟩⟩⟩ (λ a62 w62 st62=>wp_block ?_)
       refine zB p61 (λ s63 a w=>∃ M1 q63_0 q63_1 g106302 q63_3 q63_4,Sx (Frm.of w0) 98 M M1 [oneB q63_0,oneB q63_1,oneB g106302,q63_3,q63_4] [(1,dt x1),(3,dptr x0),(8,dt v4),(12,dt v34),(13,dt s63.1),(39,dt v4),(40,dt (v4.length:Int)),(41,dt s28.2),(62,dt (o46.length:Int)),(63,dt s63.2)] [(9,1,dmap prog 9 4 q63_1 s19.2),(10,2,dtip g106302 9 s28.1),(61,0,dtip q63_0 9 o46),(7,4,dow (Ow.row 32 (Ow.row 9 (Ow.frz (α:=Str)))) q63_4 s19.1)] a w) ⟨_,_,_,_,_,_,st62.sel [1,3,8,12,13,39,40,41,62,63] rfl [(9,1),(10,2),(61,0),(7,4)] rfl ⟨iI,⟨iI,⟨iI,iT⟩⟩⟩⟩ ?_
       rintro s63 z63 a63 w63 ⟨M63,q63_0,q63_1,g106302,q63_3,q63_4,st63⟩ hs63 hx63
       have h64:yV s19 o46 s63=some z63:=hs63
       unfold yV at h64
       refine st63.sq (sc rfl (oCI rfl (tp rfl) (tp rfl))<|.nil) [1,3,8,12,13,39,40,41,62,63,64] rfl [(7,4),(9,1),(10,2),(61,0)] rfl ⟨iI,⟨iI,⟨iI,iT⟩⟩⟩ (λ a65 w65 st65=>wp_seq ?_)
       refine st65.cs (c:=64) rfl h64 (λ c66 h66=>?_) (λ c67 h67=>?_)
       ·
        refine wp_skip (za (wp_seq (wp_block ?_)))
        obtain⟨v68,p68,h69⟩:=bs h66
        refine st65.sq (sc rfl (xIdxT rfl kS32 (tp rfl) (tp rfl) p68)<|sc rfl (zN rfl kT9 (tp rfl))<|sc rfl (oA rfl (tp rfl))<|.nil) [1,3,8,12,13,17,39,40,41,62,63] rfl [(7,4),(9,1),(10,2),(61,0)] rfl ⟨iI,⟨iI,⟨iI,iT⟩⟩⟩ (λ a70 w70 st70=>?_)
        refine st70.rg (sc rfl (oM rfl (tp rfl))<|sc rfl (oM rfl (tp rfl))<|sg rfl rfl (λ hg=>oM rfl (tp rfl))<|sg rfl rfl (λ hg=>oM rfl (tp rfl))<|sg rfl rfl (λ hg=>xMapGet rfl kM59 kO4 (zi hg rfl) (zi hg rfl))<|sc rfl (ym rfl (tp rfl) (zb rfl))<|sc rfl (oA rfl (tp rfl))<|.nil) [1,3,8,12,13,39,40,41,62,63] rfl [(7,4),(9,1),(10,2),(61,0)] rfl ⟨iI,⟨iI,⟨iI,iT⟩⟩⟩ (λ a71 w71 st71=>ze (za ?_))
        obtain⟨v72,p72,h73⟩:=bs h69
        refine st71.rg (sc rfl (xAr rfl (tp rfl) cI p72)<|sc rfl (oM rfl (tp rfl))<|.nil) [1,3,8,12,13,39,40,41,62,63] rfl [(7,4),(9,1),(10,2),(61,0)] rfl ⟨iI,⟨iI,⟨iI,iT⟩⟩⟩ (λ a74 w74 st74=>za ?_)
        exact⟨_,(Option.some.inj h73).symm,⟨_,_,_,_,_,_,st74.sel [1,3,8,12,13,39,40,41,62,63] rfl [(9,1),(10,2),(61,0),(7,4)] rfl ⟨iI,⟨iI,⟨iI,iT⟩⟩⟩⟩⟩
       refine wp_exit (zh (zh (zv ?_)))
       refine za ?_
       have h75:=lo h67 hx63
       obtain rfl:=Option.some.inj h75
       exact⟨_,_,_,_,_,_,st65.sel [1,3,8,12,13,39,40,41] rfl [(9,1),(10,2),(7,4)] rfl ⟨iI,⟨iI,iT⟩⟩⟩
      rintro a61 w61 ⟨M61,q61_0,q61_1,g106102,q61_3,q61_4,st61⟩
      have h76:=k61
      refine st61.sq (sc rfl (oM rfl (tp rfl))<|.nil) [1,3,8,12,39,40,41,74] rfl [(7,4),(9,1),(10,2)] rfl ⟨iI,⟨iI,iT⟩⟩ (λ a77 w77 st77=>?_)
      refine st77.cs (c:=74) rfl h76 (λ c78 h78=>?_) (λ c79 h79=>?_)
      ·
       refine wp_region_list ?_
       refine st77.seg 3 (
          sc rfl (oM rfl (tp rfl))<|sc rfl (oM rfl (tp rfl))<|sc rfl (yf (opds:=[.tmp 76]) rfl kS32 kY32 rfl rfl (by decide) (.cons (tp rfl) .nil))<|.nil) [1,3,8,39,40,41,77] rfl [(7,4),(9,1),(10,2),(75,2)] rfl ⟨iI,⟨iI,⟨iI,iT⟩⟩⟩ (λ a80 w80 st80=>?_)
       obtain⟨v83,p83,h84⟩:=bs h78
       refine st80.app 2 rfl rfl kE32 rfl rfl rfl yS p83 [1,3,8,39,40,41] rfl [7,9] rfl rfl (λ g82 M82 a82 w82 st82=>?_)
       have st85:=st82.gs (Gs':=[oneB q61_0,oneB q61_1,oneB g82,q61_3,q61_4]) rfl
       refine st85.seg 1 (
          sc rfl (oA rfl (tp rfl))<|.nil) [1,3,8,39,40,41] rfl [(7,4),(9,1),(10,2)] rfl ⟨iI,⟨iI,iT⟩⟩ (λ a86 w86 st86=>?_)
       refine wpList_nil (ze (za ?_))
       obtain rfl:=Option.some.inj h84
       exact⟨_,_,_,_,_,_,st86.sel [1,3,8,39,40,41] rfl [(9,1),(10,2),(7,4)] rfl ⟨iI,⟨iI,iT⟩⟩⟩
      refine wp_skip (ze (za ?_))
      obtain rfl:=Option.some.inj h79
      exact⟨_,_,_,_,_,_,st77.sel [1,3,8,39,40,41] rfl [(9,1),(10,2),(7,4)] rfl ⟨iI,⟨iI,iT⟩⟩⟩
     rintro a33 w33 ⟨M33,q33_0,q33_1,g103302,q33_3,q33_4,st33⟩
     have h87:=k33
     obtain⟨v88,p88,h89⟩:=bs h87
     refine st33.rg (sc rfl (xAr rfl (tp rfl) cI p88)<|sc rfl (oM rfl (tp rfl))<|.nil) [1,3,8,39,40,41] rfl [(7,4),(9,1),(10,2)] rfl ⟨iI,⟨iI,iT⟩⟩ (λ a90 w90 st90=>za ?_)
     exact⟨_,(Option.some.inj h89).symm,⟨_,_,_,_,_,_,st90.sel [1,3,8,39,40,41] rfl [(9,1),(10,2),(7,4)] rfl ⟨iI,⟨iI,iT⟩⟩⟩⟩
    refine wp_exit (zh (zh (zv ?_)))
    refine za ?_
    have h91:=lo h32 hx28
    obtain rfl:=Option.some.inj h91
    exact⟨_,_,_,_,_,_,st30.sel [1,3,8] rfl [(9,1),(10,2),(7,4)] rfl ⟨iI,⟨iI,iT⟩⟩⟩
   rintro a26 w26 ⟨M26,q26_0,q26_1,g102602,q26_3,q26_4,st26⟩
   have h92:=k26
   refine wp_seq ?_
   refine st26.sq (sc rfl (oM rfl (tp rfl))<|sc rfl (Zt rfl kL32 (tp rfl))<|sc rfl (oCI rfl (tp rfl) cI)<|.nil) [1,3,8,82] rfl [(7,4),(9,1),(10,2)] rfl ⟨iI,⟨iI,iT⟩⟩ (λ a93 w93 st93=>?_)
   refine st93.cs (c:=82) rfl h92 (λ c94 h94=>?_) (λ c95 h95=>?_)
   ·
    have st96:=st93.rst 4 (by simp) [1,3,8,82] rfl [9,10] rfl
    refine st96.sq (sc rfl (yL (α:=List Str) (e:=32) rfl kS29)<|sc rfl (oA rfl (tp rfl))<|.nil) [] rfl [(6,4)] rfl ⟨iE,trivial⟩ (λ a97 w97 st97=>wp_ret (zd (zt (zd (zt (zd ?_))))))
    have st98:=st97.tip0 (s:=6) (e':=32) (oy:=(Ow.row 9 (Ow.frz (α:=Str)))) 4 rfl rfl [] rfl
    have h99:=lo h94 hx19
    have h100:=jo h99 k18
    exact st98.rnO 4 rfl rfl iI h100
   refine wp_skip (za ?_)
   obtain⟨o101,p101,k101⟩:=bs h95
   refine zj (λ a w=>∃ M1 q101_0 q101_1 g110102 q101_3 q101_4,Sx (Frm.of w0) 98 M M1 [oneB q101_0,oneB q101_1,oneB g110102,q101_3,q101_4] [(1,dt x1),(3,dptr x0),(8,dt v4)] [(9,1,dmap prog 9 4 q101_1 o101),(10,2,dtip g110102 9 o26),(7,4,dow (Ow.row 32 (Ow.row 9 (Ow.frz (α:=Str)))) q101_4 s19.1)] a w) ?_ ?_
   ·
    refine st93.sq (sc rfl (oM rfl (tp rfl))<|sc rfl (Zt rfl kL32 (tp rfl))<|sc rfl (oM rfl cI)<|.nil) [1,3,8,85,86] rfl [(7,4),(9,1),(10,2),(84,2)] rfl ⟨iI,⟨iI,⟨iI,iT⟩⟩⟩ (λ a102 w102 st102=>wp_block ?_)
    refine zB p101 (λ s103 a w=>∃ M1 q103_0 q103_1 g110302 q103_3 q103_4,Sx (Frm.of w0) 98 M M1 [oneB q103_0,oneB q103_1,oneB g110302,q103_3,q103_4] [(1,dt x1),(3,dptr x0),(8,dt v4),(85,dt (o26.length:Int)),(86,dt s103.2)] [(9,1,dmap prog 9 4 q103_1 s103.1),(10,2,dtip g110302 9 o26),(84,2,dtip g110302 9 o26),(7,4,dow (Ow.row 32 (Ow.row 9 (Ow.frz (α:=Str)))) q103_4 s19.1)] a w) ⟨_,_,_,_,_,_,st102.sel [1,3,8,85,86] rfl [(9,1),(10,2),(84,2),(7,4)] rfl ⟨iI,⟨iI,⟨iI,iT⟩⟩⟩⟩ ?_
    rintro s103 z103 a103 w103 ⟨M103,q103_0,q103_1,g110302,q103_3,q103_4,st103⟩ hs103 hx103
    have h104:ws o26 s103=some z103:=hs103
    unfold ws at h104
    refine st103.sq (sc rfl (oCI rfl (tp rfl) (tp rfl))<|.nil) [1,3,8,85,86,87] rfl [(7,4),(9,1),(10,2),(84,2)] rfl ⟨iI,⟨iI,⟨iI,iT⟩⟩⟩ (λ a105 w105 st105=>wp_seq ?_)
    refine st105.cs (c:=87) rfl h104 (λ c106 h106=>?_) (λ c107 h107=>?_)
    ·
     refine wp_skip (za (wp_seq (wp_block ?_)))
     obtain⟨v108,p108,h109⟩:=bs h106
     refine st105.sq (sc rfl (xIdxT rfl kS32 (tp rfl) (tp rfl) p108)<|sc rfl (zN rfl kT9 (tp rfl))<|sc rfl (oA rfl (tp rfl))<|.nil) [1,3,8,19,85,86] rfl [(7,4),(9,1),(10,2),(84,2)] rfl ⟨iI,⟨iI,⟨iI,iT⟩⟩⟩ (λ a110 w110 st110=>wp_region_list ?_)
     refine st110.seg 2 (
        sc rfl (oM rfl (tp rfl))<|sc rfl (oM rfl (tp rfl))<|.nil) [1,3,8,85,86,91] rfl [(7,4),(9,1),(10,2),(84,2),(90,1)] rfl ⟨iI,⟨iI,⟨iI,⟨iI,iT⟩⟩⟩⟩ (λ a111 w111 st111=>?_)
     obtain⟨v113,p113,h114⟩:=bs h109
     refine st111.mapPutB (s:=90) (sb:=9) 1 rfl rfl rfl kM59 rfl rfl rfl (tp rfl) cB iI (by simp) p113 [1,3,8,85,86] rfl [7,10,84] rfl rfl (λ w112 st112=>wpList_nil (ze (za ?_)))
     obtain⟨v115,p115,h116⟩:=bs h114
     refine st112.rg (sc rfl (xAr rfl (tp rfl) cI p115)<|sc rfl (oM rfl (tp rfl))<|.nil) [1,3,8,85,86] rfl [(7,4),(9,1),(10,2),(84,2)] rfl ⟨iI,⟨iI,⟨iI,iT⟩⟩⟩ (λ a117 w117 st117=>za ?_)
     exact⟨_,(Option.some.inj h116).symm,⟨_,_,_,_,_,_,st117.sel [1,3,8,85,86] rfl [(9,1),(10,2),(84,2),(7,4)] rfl ⟨iI,⟨iI,⟨iI,iT⟩⟩⟩⟩⟩
    refine wp_exit (zh (zh (zv ?_)))
    refine za ?_
    have h118:=lo h107 hx103
    obtain rfl:=Option.some.inj h118
    exact⟨_,_,_,_,_,_,st105.sel [1,3,8] rfl [(9,1),(10,2),(7,4)] rfl ⟨iI,⟨iI,iT⟩⟩⟩
   rintro a101 w101 ⟨M101,q101_0,q101_1,g110102,q101_3,q101_4,st101⟩
   have h119:=k101
   refine wp_region_list ?_
   refine st101.nmR (s:=7) 4 rfl rfl iI [9,10] rfl (λ g120 A120 c120 hA120 st120=>?_)
   refine st120.seg 2 (
     sc rfl (oM rfl (tp rfl))<|sc rfl (oM rfl (tp rfl))<|.nil) [1,3,8] rfl [(7,4),(9,1),(93,4),(94,2)] rfl ⟨iI,⟨iI,⟨iI,iT⟩⟩⟩ (λ a121 w121 st121=>?_)
   have st123:=st121.tipW (s:=94) 2 rfl rfl iI [7,9,93] rfl
   refine st123.litW (oe:=(Ow.row 9 (Ow.frz (α:=Str)))) (opds:=[.tmp 94]) (xs:=[o26]) 3 [2] rfl rfl kI29 kY29 rfl rfl (by decide) rfl (by decide) (rowW_lit (Y2 (st123.st.has 94 _ rfl)) (λ b hb=>⟨2,by simp,hb⟩)) (λ q hq=>by
 simp only[List.mem_cons,List.not_mem_nil,or_false] at hq
 subst hq
 exact Ow.len _ (Y2 (st123.st.has 94 _ rfl))) (by simp) [1,3,8] rfl [7,9,93] rfl rfl rfl (by decide) (λ G122 M122 a122 w122 st122=>?_)
   have st124:=st122.gs (Gs':=[oneB q101_0,oneB q101_1,oneB none,G122,q101_4]) rfl
   have st126:=st124.unm (s:=93) 4 rfl rfl iI [9,95] rfl
   obtain⟨v127,p127,h128⟩:=bs h119
   refine st126.appW 4 3 rfl rfl kE29 rfl rfl (by simp) (by simp) (by decide) iI iI p127 [1,3,8] rfl [9] rfl rfl rfl (λ G125 M125 a125 w125 st125=>?_)
   have st129:=st125.gs (Gs':=[oneB q101_0,oneB q101_1,oneB none,oneB none,G125]) rfl
   refine st129.nmR (s:=96) 4 rfl rfl iI [9] rfl (λ g130 A130 c130 hA130 st130=>?_)
   refine st130.seg 1 (
     sc rfl (oA rfl (tp rfl))<|.nil) [1,3,8] rfl [(7,4),(9,1)] rfl ⟨iI,iT⟩ (λ a131 w131 st131=>?_)
   refine wpList_nil (ze ?_)
   have st132:=st131.unm (s:=7) 4 rfl rfl iI [9] rfl
   refine za ?_
   exact⟨_,(Option.some.inj h128).symm,⟨_,_,_,_,_,_,st132.sel [1,3,8] rfl [(9,1),(7,4)] rfl ⟨iI,iT⟩⟩⟩
  refine wp_exit (zh (zh (zv ?_)))
  refine za ?_
  have h133:=lo h23 hx19
  exact⟨_,(Option.some.inj h133).symm,⟨_,_,_,_,_,_,st21.sel [] rfl [(7,4)] rfl iT⟩⟩
 rintro a18 w18 ⟨b18,rfl,⟨M18,q18_0,q18_1,q18_2,q18_3,q18_4,st18⟩⟩
 have h134:=jn k18
 refine st18.nmR (s:=7) 4 rfl rfl iI [] rfl (λ g135 A135 c135 hA135 st135=>?_)
 refine st135.sq (sc rfl (oM rfl (tp rfl))<|sc rfl (oA rfl (tp rfl))<|.nil) [] rfl [(6,4)] rfl iT (λ a136 w136 st136=>wp_ret ?_)
 have st137:=st136.unm (s:=6) 4 rfl rfl iI [] rfl
 exact st137.rnO 4 rfl rfl iI h134
open Go.RowKit Tryz
set_option maxRecDepth 10000
set_option maxHeartbeats 1600000
theorem kT59:tyB prog 59 false 1=true:=by kernel_rfl
theorem kT76:tyB prog 76 false 1=true:=by kernel_rfl
theorem kN62:fnB prog 62=true:=by kernel_rfl
theorem kZ32:xB prog 32=some YO:=by kernel_rfl
theorem kN61:fnB prog 61=true:=by kernel_rfl
theorem kV59:xB prog 59=some [Value.map none]:=by kernel_rfl
theorem kV76:xB prog 76=some [Value.nilFunc]:=by kernel_rfl
theorem kN65:fnB prog 65=true:=by kernel_rfl
theorem kN63:fnB prog 63=true:=by kernel_rfl
theorem kN64:fnB prog 64=true:=by kernel_rfl
def xc(R:Str->List Str×List Str->Option (List Str×List Str))(v15:List Str)(s18:(List Str)×Int×(List Str)):Option (((List Str)×Int×(List Str))⊕((List Str)×(List Str))):=
if(cmpI .lss s18.2.1 (v15.length:Int))=true then((atI v15 s18.2.1).bind λ v23=>
(R v23 (s18.2.2,s18.1)).bind λ v27=>
(i64 (s18.2.1+(1:Int))).bind λ v30=>
some (.inl (v27.2,v30,v27.1)))
else(some (.inr (s18.1,s18.2.2)))
def wO(R:Str->List Str×List Str->Option (List Str×List Str))(x0:Str)(x1:List Str)(x3:Tree)(x4:List Int)(x5:List Str):Option (List Str×List Str):=
if(decide (x0=(⟨[]⟩:Str))||decide (x0∈x1))=true then(some (x1,x5))
else((Yo x1 x0).bind λ v6=>
(yW x0).bind λ v8=>
(R v8 (v6,x5)).bind λ v11=>
Option.bind (α:=(List Str)×(List Str)) ((qc x3 x4 x0).bind λ v15=>
zF (λ s18=>xc R v15 s18) (v11.2,(0:Int),v11.1)) λ o14=>
(appO 16 o14.1 ([x0]:List Str)).bind λ v41=>
some (o14.2,v41))
theorem JH{R:Str->List Str×List Str->Option (List Str×List Str)}{x0:Str}{x1:List Str}{x3:Tree}{x4:List Int}{x5:List Str}{r:List Str×List Str}(hR:∀ {s x r},R s x=some r->FnVis prog 9 4 9 62 x3 x4 s x r)(h:wO R x0 x1 x3 x4 x5=some r):FnVis prog 9 4 9 62 x3 x4 x0 (x1,x5) r:=by
 unfold wO at h
 refine fnVis (fn:=f62) 2 0 3 func62 rfl (oD rfl) (λ c0 M G w0 a0 hc1 hc2 hc3 st0=>?_) (by decide) (by decide) (by decide)
 refine wp_seq ?_
 refine st0.sq (sc rfl (oM rfl (tp rfl))<|sc rfl (jP rfl (tp rfl) (zH (by decide)))<|sc rfl (oM rfl (tp rfl))<|sg rfl rfl (λ hg=>xLdC' rfl kT59 (tp rfl))<|sg rfl rfl (λ hg=>oM rfl (tp rfl))<|sg rfl rfl (λ hg=>xMapGetG (g:=39) rfl kM59 kO4 (zi hg rfl) rfl (zi hg rfl))<|sc rfl (wj rfl (tp rfl) (zb rfl))<|.nil) [0,1,2,3,4,15] rfl [(5,0),(39,2)] rfl ⟨iI,iT⟩ (λ a1 w1 st1=>?_)
 refine st1.cs (c:=15) rfl h (λ c2 h2=>?_) (λ c3 h3=>?_)
 ·
  refine wp_ret (zd ?_)
  exact(st1.rsV (p:=2) (p2:=0) (s0:=39) (s1:=5) rfl rfl rfl iI iI (by decide) h2).1
 refine wp_skip (za (wp_seq (wp_region_list ?_)))
 refine st1.seg 2 (
  sc rfl (xLdC' rfl kT59 (tp rfl))<|sc rfl (oM rfl (tp rfl))<|.nil) [0,2,3,4,16,17] rfl [(5,0),(39,2)] rfl ⟨iI,iT⟩ (λ a4 w4 st4=>?_)
 obtain⟨v6,p6,h7⟩:=bs h3
 refine st4.mapPutG (g:=39) 2 rfl rfl rfl kM59 (tp rfl) rfl (tp rfl) cB iI (by simp) p6 [0,2,3,4] rfl [5] rfl rfl (λ w5 st5=>wpList_nil (za (wp_seq ?_)))
 obtain⟨v8,p8,h9⟩:=bs h7
 refine st5.drn (D:=[_,_,_]) zO 3 [[(2,nS)],[(0,nS)],[(19,1)],[(18,0),(20,2)]] (by decide +kernel) (by decide) (
  rc rfl rfl (xLdV (c:=c0) rfl kT76 (tp rfl))<|rc rfl rfl (oM rfl (tp rfl))<|rc rfl rfl (zn (l:=[.tmp 19]) rfl kN39 (.cons (tp rfl) .nil) (Zx p8))<|.nil) [0,2,3,4,18,20] rfl [(5,0),(39,2)] rfl ⟨iI,iT⟩ (λ a10 w10 st10=>?_)
 obtain⟨v11,p11,h12⟩:=bs h9
 refine st10.cV (c:=c0) (sf:=18) (sm:=39) (so:=5) 2 0 rfl rfl (fnB_as hc1 kN62) rfl (tp rfl) rfl rfl (λ _=>Iff.rfl) (λ _=>Iff.rfl) (by simp) (by simp) (by decide) ((hR p11).cast hc1 hc2 hc3) [0,2,3,4] rfl [] rfl rfl rfl rfl rfl (λ G13 M13 a13 w13 st13=>wpList_nil (za ?_))
 obtain⟨o14,p14,k14⟩:=bs h12
 refine zj (λ a w=>∃ M1 q14_0 q14_1,Sx (Frm.chg w0 (λ b=>oneB (some c0.bs) b\/G b)) 39 M M1 [q14_0,q14_1,oneB (some c0.bs)] [(0,dt x0)] [(39,2,dmg prog 9 4 c0.bs o14.2),(5,0,dnm (Ow.box (Ow.row 9 (Ow.frz (α:=Str)))) q14_0 ⟨o14.1⟩ (.pointer (some ⟨c0.bo,0,none⟩)) [])] a w) ?_ ?_
 ·
  obtain⟨v15,p15,h16⟩:=bs p14
  refine st13.sq (sc rfl (zk rfl kT25 (tp rfl))<|sc rfl (zk rfl kT26 (tp rfl))<|sc rfl (oM rfl (tp rfl))<|sc rfl (zn (l:=[.tmp 22,.tmp 23,.tmp 24]) rfl kN49 (.cons (tp rfl) (.cons (tp rfl) (.cons (tp rfl) .nil))) ((Je p15)).fn)<|sc rfl (z6 rfl kL32 (tp rfl))<|sc rfl (oM rfl cI)<|.nil) [0,2,25,26,27] rfl [(5,0),(39,2)] rfl ⟨iI,iT⟩ (λ a17 w17 st17=>wp_block ?_)
  refine zB h16 (λ s18 a w=>∃ M1 q18_0 q18_1,Sx (Frm.chg w0 (λ b=>oneB (some c0.bs) b\/G b)) 39 M M1 [q18_0,q18_1,oneB (some c0.bs)] [(0,dt x0),(2,(Vc.cv c0)),(25,dt v15),(26,dt (v15.length:Int)),(27,dt s18.2.1)] [(39,2,dmg prog 9 4 c0.bs s18.2.2),(5,0,dnm (Ow.box (Ow.row 9 (Ow.frz (α:=Str)))) q18_0 ⟨s18.1⟩ (.pointer (some ⟨c0.bo,0,none⟩)) [])] a w) ⟨_,_,_,st17.sel [0,2,25,26,27] rfl [(39,2),(5,0)] rfl ⟨iI,iT⟩⟩ ?_
  rintro s18 z18 a18 w18 ⟨M18,q18_0,q18_1,st18⟩ hs18 hx18
  have h19:xc R v15 s18=some z18:=hs18
  unfold xc at h19
  refine st18.sq (sc rfl (oCI rfl (tp rfl) (tp rfl))<|.nil) [0,2,25,26,27,28] rfl [(5,0),(39,2)] rfl ⟨iI,iT⟩ (λ a20 w20 st20=>wp_seq ?_)
  refine st20.cs (c:=28) rfl h19 (λ c21 h21=>?_) (λ c22 h22=>?_)
  ·
   refine wp_skip (za (wp_seq (wp_block ?_)))
   obtain⟨v23,p23,h24⟩:=bs h21
   refine st20.sq (sc rfl (xIdx rfl kS32 (tp rfl) (tp rfl) p23)<|sc rfl (zk rfl kT9 (tp rfl))<|sc rfl (oA rfl (tp rfl))<|.nil) [0,2,8,25,26,27] rfl [(5,0),(39,2)] rfl ⟨iI,iT⟩ (λ a25 w25 st25=>wp_region_list ?_)
   refine st25.seg 2 (
     sc rfl (xLdV (c:=c0) rfl kT76 (tp rfl))<|sc rfl (oM rfl (tp rfl))<|.nil) [0,2,25,26,27,31,32] rfl [(5,0),(39,2)] rfl ⟨iI,iT⟩ (λ a26 w26 st26=>?_)
   obtain⟨v27,p27,h28⟩:=bs h24
   refine st26.cV (c:=c0) (sf:=31) (sm:=39) (so:=5) 2 0 rfl rfl (fnB_as hc1 kN62) rfl (tp rfl) rfl rfl (λ _=>Iff.rfl) (λ _=>Iff.rfl) (by simp) (by simp) (by decide) ((hR p27).cast hc1 hc2 hc3) [0,2,25,26,27] rfl [] rfl rfl rfl rfl rfl (λ G29 M29 a29 w29 st29=>wpList_nil (ze (za ?_)))
   obtain⟨v30,p30,h31⟩:=bs h28
   refine st29.rg (sc rfl (xAr rfl (tp rfl) cI p30)<|sc rfl (oM rfl (tp rfl))<|.nil) [0,2,25,26,27] rfl [(5,0),(39,2)] rfl ⟨iI,iT⟩ (λ a32 w32 st32=>za ?_)
   exact⟨_,(Option.some.inj h31).symm,⟨_,_,_,st32.sel [0,2,25,26,27] rfl [(39,2),(5,0)] rfl ⟨iI,iT⟩⟩⟩
  refine wp_exit (zh (zh (zv ?_)))
  refine za ?_
  have h33:=lo h22 hx18
  obtain rfl:=Option.some.inj h33
  exact⟨_,_,_,st20.sel [0] rfl [(39,2),(5,0)] rfl ⟨iI,iT⟩⟩
 rintro a14 w14 ⟨M14,q14_0,q14_1,st14⟩
 have h34:=k14
 refine wp_region_list ?_
 refine st14.hdR (s:=5) 0 true (λ _=>(PV.root.box rfl)) rfl rfl iI [39] rfl (λ g35 A35 c35 hA35 st35=>?_)
 refine st35.seg 3 (
  sc rfl (xLc (sb:=5) (.head _) rfl rfl rfl kT32 (zD rfl) rfl)<|sc rfl (oM rfl (tp rfl))<|sc rfl (yf (opds:=[.tmp 36]) rfl kS32 kY32 rfl rfl (by decide) (.cons (tp rfl) .nil))<|.nil) [35,37] rfl [(5,0),(39,2)] rfl ⟨iI,iT⟩ (λ a36 w36 st36=>?_)
 refine st36.mvG (s:=35) (sb:=5) 0 1 (PV.root.box rfl) (.head _) rfl (qT rfl rfl) rfl (by simp) (by simp) (by decide) rfl iI [37] rfl [39] rfl rfl rfl rfl (λ G38 H38 st38=>?_)
 refine st38.tipR (s:=35) 1 rfl rfl (by simp) iI [5,39] rfl rfl (λ g39 st39=>?_)
 obtain⟨v41,p41,h42⟩:=bs h34
 refine st39.app 1 rfl rfl kE32 rfl rfl rfl yS p41 [] rfl [5,39] rfl rfl (λ g40 M40 a40 w40 st40=>?_)
 have st44:=st40.tipW (s:=38) 1 rfl rfl iI [5,39] rfl
 refine st44.stH (sb:=5) (tv:=38) 0 1 rfl rfl rfl kT32 (by simp) (by simp) (by decide) (opd_hl rfl) rfl rfl iI iI [] rfl [39] rfl rfl rfl (λ G43 w43 st43=>wpList_nil ?_)
 exact(st43.rsV (p:=2) (p2:=0) (s0:=39) (s1:=5) rfl rfl rfl iI iI (by decide) h42).2
def Wy(x3:Tree)(x4:List Int):Nat->Str->List Str×List Str->Option (List Str×List Str)
 | 0=>λ _ _=>none
 | n+1=>λ s x=>wO (Wy x3 x4 n) s x.1 x3 x4 x.2
theorem zbw{x3:Tree}{x4:List Int}:∀ (n:Nat) {s:Str} {x r:List Str×List Str},Wy x3 x4 n s x=some r->FnVis prog 9 4 9 62 x3 x4 s x r
 | 0,_,_,_,h=>nomatch h
 | n+1,_,_,_,h=>JH (zbw n) h
def jG(x0:Tree)(x1:List Int)(x2:Str):Option ((List Str)×Bool):=
(qb x0 x1 x2).bind λ v8=>
(gO ((!v8) == false) (jp x0 x1 x2)).bind λ v9=>
(gO (((!v8)||cmpI .gtr (v9.length:Int) (0:Int)) == false) (qf x0 x1 x2)).bind λ v10=>
if(((!v8)||cmpI .gtr (v9.length:Int) (0:Int))||cmpI .gtr (v10.length:Int) (0:Int))=true then(some ([],false))
else((Wy x0 x1 302 x2 (([]:List Str),[])).bind λ v36=>
some (v36.2,true))
theorem QT{x0:Tree}{x1:List Int}{x2:Str}{r:(List Str)×Bool}(h:jG x0 x1 x2=some r):FnN prog 29 [dt x0,dt x1,dt x2] (.t2o (Ow.row 9 (Ow.frz (α:=Str))) r.1 (dt r.2)):=by
 unfold jG at h
 refine fnN (fn:=f29) 6 func29 rfl (oD rfl) rfl (λ M w0 a0 st0=>?_)
 refine st0.sq0 (sc rfl (jV rfl (tp rfl))<|sc rfl (jV rfl (tp rfl))<|sc rfl (oA rfl (xN (α:=Str)))<|sc rfl (oA rfl cB)<|.nil) [2,3,4] rfl (λ a1 w1 st1=>wp_seq (wp_region_list ?_))
 refine st1.seg 1 (
  sc rfl (yL (α:=Str) (e:=9) rfl kS32)<|.nil) [2,3,4] rfl [(11,1)] rfl ⟨iE,trivial⟩ (λ a2 w2 st2=>?_)
 refine st2.alcW (ow:=(Ow.row 9 (Ow.frz (α:=Str)))) 3 rfl rfl kZ32 Ow.row_z (by simp) [2,3,4] rfl [11] rfl rfl (λ b3 M3 a3 w3 st3=>?_)
 have st4:=st3.gs (Gs':=[oneB none,oneB none,oneB none,(oneB (some b3)),oneB none,oneB none]) rfl
 have st6:=st4.tipW (s:=11) 1 rfl rfl iI [8] rfl
 refine st6.stO (sb:=8) (tv:=11) 3 1 (PV.root.box rfl) rfl rfl rfl kT32 (by simp) (by simp) (by decide) (zD rfl) rfl rfl rfl iI iI [2,3,4] rfl [] rfl rfl rfl (λ G5 w5 st5=>?_)
 have st7:=st5.gs (Gs':=[oneB none,oneB none,oneB none,G5,oneB none,oneB none]) rfl
 refine wpList_nil (za (wp_seq ?_))
 obtain⟨v8,p8,v9,p9,v10,p10,h13⟩:=bsC h
 refine st7.sq (sc rfl (zk rfl kT25 (tp rfl))<|sc rfl (zk rfl kT26 (tp rfl))<|sc rfl (oM rfl (tp rfl))<|sc rfl (zn (l:=[.tmp 12,.tmp 13,.tmp 14]) rfl kN51 (.cons (tp rfl) (.cons (tp rfl) (.cons (tp rfl) .nil))) (Jd p8))<|sc rfl (xo rfl (tp rfl))<|sc rfl (oM rfl (tp rfl))<|sg rfl rfl (λ hg=>zk rfl kT25 (tp rfl))<|sg rfl rfl (λ hg=>zk rfl kT26 (tp rfl))<|sg rfl rfl (λ hg=>oM rfl (tp rfl))<|sg rfl rfl (λ hg=>zn (l:=[.tmp 18,.tmp 19,.tmp 20]) rfl kN17 (.cons (zi hg rfl) (.cons (zi hg rfl) (.cons (zi hg rfl) .nil))) ((Xp (gh hg p9))).fn)<|sg rfl rfl (λ hg=>z6 rfl kL32 (zi hg rfl))<|sg rfl rfl (λ hg=>oCI rfl (zi hg rfl) cI)<|sc rfl (wj rfl (tp rfl) (zb rfl))<|sc rfl (oM rfl (tp rfl))<|sg rfl rfl (λ hg=>zk rfl kT25 (tp rfl))<|sg rfl rfl (λ hg=>zk rfl kT26 (tp rfl))<|sg rfl rfl (λ hg=>oM rfl (tp rfl))<|sg rfl rfl (λ hg=>zn (l:=[.tmp 26,.tmp 27,.tmp 28]) rfl kN61 (.cons (zi hg rfl) (.cons (zi hg rfl) (.cons (zi hg rfl) .nil))) ((zau (gh hg p10))).fn)<|sg rfl rfl (λ hg=>z6 rfl kL32 (zi hg rfl))<|sg rfl rfl (λ hg=>oCI rfl (zi hg rfl) cI)<|sc rfl (wj rfl (tp rfl) (zb rfl))<|.nil) [2,3,4,32] rfl [(8,3)] rfl iT (λ a14 w14 st14=>?_)
 refine st14.cs (c:=32) rfl h13 (λ c15 h15=>?_) (λ c16 h16=>?_)
 ·
  refine wp_seq (wp_region_list ?_)
  refine st14.ldW (sb:=8) 3 rfl rfl kT32 rfl (by simp) iI [] rfl [] rfl rfl (λ a17 w17 st17=>?_)
  refine st17.nmR (s:=33) 3 rfl rfl iI [] rfl (λ g18 A18 c18 hA18 st18=>?_)
  refine st18.seg 2 (
   sc rfl (oA rfl (tp rfl))<|sc rfl (oA rfl cB)<|.nil) [7] rfl [(6,3)] rfl iT (λ a19 w19 st19=>?_)
  refine wpList_nil (za ?_)
  refine wp_ret (zd ?_)
  have st20:=st19.unm (s:=6) 3 rfl rfl iI [] rfl
  exact st20.rn2o 3 rfl rfl rfl iI h15
 refine wp_skip (za (wp_seq (wp_region_list ?_)))
 refine st14.mapNew (k:=9) (e:=4) 2 rfl rfl (by simp) [2,3,4] rfl [8] rfl rfl (λ b21 M21 a21 w21 st21=>?_)
 have st22:=st21.gs (Gs':=[oneB none,oneB none,oneB (some b21),G5,oneB none,oneB none]) rfl
 refine st22.alcC 4 rfl rfl kV59 (by simp) [2,3,4] rfl [8,34] rfl rfl (λ b23 M23 a23 w23 st23=>?_)
 have st24:=st23.gs (Gs':=[oneB none,oneB none,oneB (some b21),G5,oneB (some b23),oneB none]) rfl
 refine st24.stC 4 rfl rfl rfl kT59 rfl (opd_mapv rfl) rfl one_map iI (by simp) [2,3,4] rfl [8,34] rfl rfl (λ w25 st25=>?_)
 have st26:=st25.frzC (sc:=9) 4 rfl rfl [2,3,4] rfl [8,34] rfl
 have st27:=st26.toG (s:=34) 2 rfl rfl iI [8] rfl
 have st28:=st27.gs (Gs':=[oneB none,oneB none,oneB (some b21),G5,oneB none,oneB none]) rfl
 refine wpList_nil (za (wp_seq (wp_region_list ?_)))
 refine st28.alcC 5 rfl rfl kV76 (by simp) [2,3,4,9] rfl [8,34] rfl rfl (λ b29 M29 a29 w29 st29=>?_)
 have st30:=st29.gs (Gs':=[oneB none,oneB none,oneB (some b21),G5,oneB none,oneB (some b29)]) rfl
 refine wpList_nil (za (wp_seq (wp_region_list ?_)))
 refine st30.seg 1 (
  sc rfl (xMkV (c:=(⟨62,b23,b21,b29,x0,x1,b3⟩:Vc)) rfl rfl rfl rfl rfl rfl rfl)<|.nil) [2,35] rfl [(8,3),(10,5),(34,2)] rfl ⟨iI,⟨iI,iT⟩⟩ (λ a31 w31 st31=>?_)
 refine st31.stC 5 rfl rfl rfl kT76 rfl (tp rfl) rfl one_vm iI (by simp) [2] rfl [8,34] rfl rfl (λ w32 st32=>?_)
 have st33:=st32.frzC (sc:=10) 5 rfl rfl [2] rfl [8,34] rfl
 have st34:=st33.gs (Gs':=[oneB none,oneB none,oneB (some b21),G5,oneB none,oneB none]) rfl
 refine wpList_nil (za (wp_seq (wp_region_list ?_)))
 refine st34.seg 2 (
  sc rfl (xLdV (c:=(⟨62,b23,b21,b29,x0,x1,b3⟩:Vc)) rfl kT76 (tp rfl))<|sc rfl (oM rfl (tp rfl))<|.nil) [36,37] rfl [(8,3),(34,2)] rfl ⟨iI,iT⟩ (λ a35 w35 st35=>?_)
 obtain⟨v36,p36,h37⟩:=bs h16
 refine st35.cV (c:=(⟨62,b23,b21,b29,x0,x1,b3⟩:Vc)) (sf:=36) (sm:=34) (so:=8) 2 3 rfl rfl kN62 rfl (tp rfl) rfl rfl (λ _=>Iff.rfl) (λ _=>Iff.rfl) (by simp) (by simp) (by decide) (zbw _ p36) [] rfl [] rfl rfl rfl rfl rfl (λ G38 M38 a38 w38 st38=>?_)
 have st39:=st38.gs (Gs':=[oneB none,oneB none,oneB (some b21),G38,oneB none,oneB none]) rfl
 refine wpList_nil (za (wp_seq (wp_region_list ?_)))
 refine st39.ldW (sb:=8) 3 rfl rfl kT32 rfl (by simp) iI [] rfl [34] rfl rfl (λ a40 w40 st40=>?_)
 refine st40.nmR (s:=39) 3 rfl rfl iI [34] rfl (λ g41 A41 c41 hA41 st41=>?_)
 refine st41.seg 2 (
  sc rfl (oA rfl (tp rfl))<|sc rfl (oA rfl cB)<|.nil) [7] rfl [(6,3),(34,2)] rfl ⟨iI,iT⟩ (λ a42 w42 st42=>?_)
 refine wpList_nil (za (wp_ret ?_))
 have st43:=st42.unm (s:=6) 3 rfl rfl iI [34] rfl
 exact st43.rn2o 3 rfl rfl rfl iI h37
def jz(R:Tree->(List Int)->Str->(List Str)->Option (List Str))(x0:Tree)(x1:List Int)(v26:List Str)(s31:(List Str)×Int):Option (((List Str)×Int)⊕(List Str)):=
if(cmpI .lss s31.2 (v26.length:Int))=true then((atI v26 s31.2).bind λ v36=>
(R x0 x1 v36 s31.1).bind λ v37=>
(i64 (s31.2+(1:Int))).bind λ v41=>
some (.inl (v37,v41)))
else(some (.inr s31.1))
def ZZ(R:Tree->(List Int)->Str->(List Str)->Option (List Str))(x0:Tree)(x1:List Int)(x2:Str)(x3:List Str):Option (List Str):=
(yk x3 x2).bind λ v2=>
if v2=true then(some x3)
else(Option.bind (α:=(List Str)) ((yb x2).bind λ v9=>
if(decide (v9≠(⟨[]⟩:Str)))=true then((yb x2).bind λ v14=>
(R x0 x1 v14 x3).bind λ v15=>
some v15)
else(some x3)) λ o8=>
(yk o8 x2).bind λ v20=>
if v20=true then(some o8)
else((qa x0 x1 x2).bind λ v26=>
Option.bind (α:=(List Str)) (zF (λ s31=>jz R x0 x1 v26 s31) (o8,(0:Int))) λ o29=>
(appO 16 [] o29).bind λ v50=>
(appO 16 v50 ([x2]:List Str)).bind λ v55=>
some v55))
theorem spec_visit_w{R:Tree->(List Int)->Str->(List Str)->Option (List Str)}(hR:∀ {x0:Tree} {x1:List Int} {x2:Str} {x3:List Str} {r:List Str},R x0 x1 x2 x3=some r->Fn prog 65 [dt x0,dt x1,dt x2,dt x3] (dt r)){x0:Tree}{x1:List Int}{x2:Str}{x3:List Str}{r:List Str}(h:ZZ R x0 x1 x2 x3=some r):Fn prog 65 [dt x0,dt x1,dt x2,dt x3] (dt r):=by
 unfold ZZ at h
 refine fnx (fn:=f65) 1 func65 rfl (oD rfl) rfl (λ M w0 a0 st0=>?_)
 refine st0.sq0 (sc rfl (jV rfl (tp rfl))<|sc rfl (oA rfl (xN (α:=Str)))<|.nil) [1,2,3,4] rfl (λ a1 w1 st1=>wp_seq ?_)
 obtain⟨v2,p2,h3⟩:=bs h
 refine st1.sq0 (sc rfl (oM rfl (tp rfl))<|sc rfl (oM rfl (tp rfl))<|sc rfl (zn (l:=[.tmp 11,.tmp 12]) rfl kN45 (.cons (tp rfl) (.cons (tp rfl) .nil)) (xP p2))<|.nil) [1,2,3,4,13] rfl (λ a4 w4 st4=>?_)
 refine st4.cs (c:=13) rfl h3 (λ c5 h5=>?_) (λ c6 h6=>?_)
 ·
  refine st4.sq0 (sc rfl (oM rfl (tp rfl))<|sc rfl (oA rfl (tp rfl))<|.nil) [8] rfl (λ a7 w7 st7=>wp_ret (zd ?_))
  exact st7.ret rfl rfl h5
 refine wp_skip (za ?_)
 obtain⟨o8,p8,k8⟩:=bs h6
 refine zj (λ a w=>∃ M1 q8_0,Sx (Frm.of w0) 52 M M1 [oneB q8_0] [(1,dt x1),(2,dt x2),(3,dt o8),(4,dptr x0)] [] a w) ?_ ?_
 ·
  obtain⟨v9,p9,h10⟩:=bs p8
  refine st4.sq0 (sc rfl (oM rfl (tp rfl))<|sc rfl (zn (l:=[.tmp 15]) rfl kN72 (.cons (tp rfl) .nil) (jR p9))<|sc rfl (Xa rfl (tp rfl) (zH (by decide)))<|.nil) [1,2,3,4,17] rfl (λ a11 w11 st11=>?_)
  refine st11.cs (c:=17) rfl h10 (λ c12 h12=>?_) (λ c13 h13=>?_)
  ·
   obtain⟨v14,p14,v15,p15,h17⟩:=bsB h12
   refine st11.dr (D:=[_,_,_,_,_,_,_]) zO [[(4,nS)],[(1,nS)],[(2,nS)],[(20,2)],[(3,nS)],[(18,0),(19,1),(21,3),(22,4)],[(23,5)]] (by decide +kernel) (
    rc rfl rfl (zk rfl kT25 (tp rfl))<|rc rfl rfl (oM rfl (tp rfl))<|rc rfl rfl (oM rfl (tp rfl))<|rc rfl rfl (zn (l:=[.tmp 20]) rfl kN72 (.cons (tp rfl) .nil) (jR p14))<|rc rfl rfl (oM rfl (tp rfl))<|rc rfl rfl (zn (l:=[.tmp 18,.tmp 19,.tmp 21,.tmp 22]) rfl kN65 (.cons (tp rfl) (.cons (tp rfl) (.cons (tp rfl) (.cons (tp rfl) .nil)))) (hR p15))<|rc rfl rfl (oA rfl (tp rfl))<|.nil) [1,2,3,4] rfl [] rfl trivial (λ a18 w18 st18=>?_)
   refine za ?_
   obtain rfl:=Option.some.inj h17
   exact⟨_,_,st18.sel [1,2,3,4] rfl [] rfl trivial⟩
  refine wp_skip (za ?_)
  obtain rfl:=Option.some.inj h13
  exact⟨_,_,st11.sel [1,2,3,4] rfl [] rfl trivial⟩
 rintro a8 w8 ⟨M8,q8_0,st8⟩
 have h19:=k8
 refine wp_seq ?_
 obtain⟨v20,p20,h21⟩:=bs h19
 refine st8.sq0 (sc rfl (oM rfl (tp rfl))<|sc rfl (oM rfl (tp rfl))<|sc rfl (zn (l:=[.tmp 24,.tmp 25]) rfl kN45 (.cons (tp rfl) (.cons (tp rfl) .nil)) (xP p20))<|.nil) [1,2,3,4,26] rfl (λ a22 w22 st22=>?_)
 refine st22.cs (c:=26) rfl h21 (λ c23 h23=>?_) (λ c24 h24=>?_)
 ·
  refine st22.sq0 (sc rfl (oM rfl (tp rfl))<|sc rfl (oA rfl (tp rfl))<|.nil) [8] rfl (λ a25 w25 st25=>wp_ret (zd ?_))
  exact st25.ret rfl rfl h23
 refine wp_skip (za ?_)
 obtain⟨v26,p26,h27⟩:=bs h24
 refine st22.sq0 (sc rfl (zk rfl kT25 (tp rfl))<|sc rfl (oM rfl (tp rfl))<|sc rfl (oM rfl (tp rfl))<|sc rfl (zn (l:=[.tmp 28,.tmp 29,.tmp 30]) rfl kN100 (.cons (tp rfl) (.cons (tp rfl) (.cons (tp rfl) .nil))) (Jc p26))<|sc rfl (oA rfl (tp rfl))<|.nil) [1,2,3,4,9] rfl (λ a28 w28 st28=>?_)
 obtain⟨o29,p29,k29⟩:=bs h27
 refine zj (λ a w=>∃ M1 q29_0,Sx (Frm.of w0) 52 M M1 [oneB q29_0] [(2,dt x2),(3,dt o29)] [] a w) ?_ ?_
 ·
  refine st28.sq0 (sc rfl (oA rfl cI)<|.nil) [1,2,3,4,9,10] rfl (λ a30 w30 st30=>wp_block ?_)
  refine zB p29 (λ s31 a w=>∃ M1 q31_0,Sx (Frm.of w0) 52 M M1 [oneB q31_0] [(1,dt x1),(2,dt x2),(3,dt s31.1),(4,dptr x0),(9,dt v26),(10,dt s31.2)] [] a w) ⟨_,_,st30.sel [1,2,3,4,9,10] rfl [] rfl trivial⟩ ?_
  rintro s31 z31 a31 w31 ⟨M31,q31_0,st31⟩ hs31 hx31
  have h32:jz R x0 x1 v26 s31=some z31:=hs31
  unfold jz at h32
  refine wp_seq ?_
  refine st31.sq0 (sc rfl (oM rfl (tp rfl))<|sc rfl (oM rfl (tp rfl))<|sc rfl (z6 rfl kL32 (tp rfl))<|sc rfl (oCI rfl (tp rfl) (tp rfl))<|.nil) [1,2,3,4,9,10,35] rfl (λ a33 w33 st33=>?_)
  refine st33.cs (c:=35) rfl h32 (λ c34 h34=>?_) (λ c35 h35=>?_)
  ·
   refine wp_skip (za (wp_seq (wp_block ?_)))
   obtain⟨v36,p36,v37,p37,h39⟩:=bsB h34
   refine st33.dr (D:=[_,_,_,_,_,_,_,_,_]) zO [[(4,nS)],[(1,nS)],[(9,nS)],[(10,nS)],[(40,2),(41,3)],[(42,4)],[(3,nS)],[(38,0),(39,1),(43,5),(44,6)],[(45,7)]] (by decide +kernel) (
    rc rfl rfl (zk rfl kT25 (tp rfl))<|rc rfl rfl (oM rfl (tp rfl))<|rc rfl rfl (oM rfl (tp rfl))<|rc rfl rfl (oM rfl (tp rfl))<|rc rfl rfl (xIdx rfl kS32 (tp rfl) (tp rfl) p36)<|rc rfl rfl (zk rfl kT9 (tp rfl))<|rc rfl rfl (oM rfl (tp rfl))<|rc rfl rfl (zn (l:=[.tmp 38,.tmp 39,.tmp 43,.tmp 44]) rfl kN65 (.cons (tp rfl) (.cons (tp rfl) (.cons (tp rfl) (.cons (tp rfl) .nil)))) (hR p37))<|rc rfl rfl (oA rfl (tp rfl))<|.nil) [1,2,3,4,9,10] rfl [] rfl trivial (λ a40 w40 st40=>?_)
   refine ze (za ?_)
   obtain⟨v41,p41,h42⟩:=bs h39
   refine st40.rg0 (sc rfl (oM rfl (tp rfl))<|sc rfl (xAr rfl (tp rfl) cI p41)<|sc rfl (oA rfl (tp rfl))<|.nil) [1,2,3,4,9,10] rfl (λ a43 w43 st43=>za ?_)
   exact⟨_,(Option.some.inj h42).symm,⟨_,_,st43.sel [1,2,3,4,9,10] rfl [] rfl trivial⟩⟩
  refine wp_exit (zh (zh (zv ?_)))
  refine za ?_
  have h44:=lo h35 hx31
  obtain rfl:=Option.some.inj h44
  exact⟨_,_,st33.sel [2,3] rfl [] rfl trivial⟩
 rintro a29 w29 ⟨M29,q29_0,st29⟩
 have h45:=k29
 have st46:=st29.rst 0 (by simp) [2,3] rfl [] rfl
 refine wp_seq (wp_region_list ?_)
 refine st46.seg 2 (
  sc rfl (yL (α:=Str) (e:=9) rfl kS32)<|sc rfl (oM rfl (tp rfl))<|.nil) [2,47] rfl [(46,0)] rfl ⟨iE,trivial⟩ (λ a47 w47 st47=>?_)
 obtain⟨v50,p50,h51⟩:=bs h45
 refine st47.app 0 rfl rfl kE32 rfl rfl rfl yS p50 [2] rfl [] rfl rfl (λ g49 M49 a49 w49 st49=>?_)
 refine st49.seg 2 (
  sc rfl (oM rfl (tp rfl))<|sc rfl (yf (opds:=[.tmp 49]) rfl kS32 kY32 rfl rfl (by decide) (.cons (tp rfl) .nil))<|.nil) [50] rfl [(48,0)] rfl iT (λ a52 w52 st52=>?_)
 obtain⟨v55,p55,h56⟩:=bs h51
 refine st52.app 0 rfl rfl kE32 rfl rfl rfl yS p55 [] rfl [] rfl rfl (λ g54 M54 a54 w54 st54=>?_)
 have st57:=st54.frz 0 (s:=51) rfl rfl [] rfl [] rfl
 refine st57.seg 1 (
  sc rfl (oA rfl (tp rfl))<|.nil) [8] rfl [] rfl trivial (λ a58 w58 st58=>?_)
 refine wpList_nil (za (wp_ret ?_))
 exact st58.ret rfl rfl h56
def jH:Nat->Tree->(List Int)->Str->(List Str)->Option (List Str)
 | 0=>λ _ _ _ _=>none
 | n+1=>ZZ (jH n)
theorem WQ:∀ (n:Nat) {x0:Tree} {x1:List Int} {x2:Str} {x3:List Str} {r:List Str},jH n x0 x1 x2 x3=some r->Fn prog 65 [dt x0,dt x1,dt x2,dt x3] (dt r)
 | 0,_,_,_,_,_,h=>nomatch h
 | n+1,_,_,_,_,_,h=>spec_visit_w (WQ n) h
def jI(x0:Tree)(x1:List Int)(x2:Str):Option ((List Str)×Bool):=
(y9 x0).bind λ v2=>
(gO ((!v2) == false) (xa x1)).bind λ v3=>
(gO (((!v2)||(!v3)) == false) (yj x2)).bind λ v4=>
(gO ((((!v2)||(!v3))||(!v4)) == false) (qU x0 x1 x2)).bind λ v5=>
(gO (((((!v2)||(!v3))||(!v4))||cmpI .gtr (v5.length:Int) (0:Int)) == false) (qg x0 x1 x2)).bind λ v6=>
if(((((!v2)||(!v3))||(!v4))||cmpI .gtr (v5.length:Int) (0:Int))||cmpI .gtr (v6.length:Int) (0:Int))=true then(some (([]:List Str),false))
else((jH 301 x0 x1 x2 ([]:List Str)).bind λ v16=>
some (v16,true))
theorem QU{x0:Tree}{x1:List Int}{x2:Str}{r:(List Str)×Bool}(h:jI x0 x1 x2=some r):Fn prog 30 [dt x0,dt x1,dt x2] (dtup [dt r.1,dt r.2]):=by
 unfold jI at h
 refine fnx (fn:=f30) 0 func30 rfl (oD rfl) rfl (λ M w0 a0 st0=>?_)
 refine st0.sq0 (sc rfl (jV rfl (tp rfl))<|sc rfl (oA rfl (xN (α:=Str)))<|sc rfl (oA rfl cB)<|.nil) [1,2,3] rfl (λ a1 w1 st1=>wp_seq ?_)
 obtain⟨v2,p2,v3,p3,v4,p4,v5,p5,h10⟩:=bsD h
 obtain⟨v6,p6,h11⟩:=bs h10
 refine st1.sq0 (sc rfl (zk rfl kT25 (tp rfl))<|sc rfl (zn (l:=[.tmp 8]) rfl kN40 (.cons (tp rfl) .nil) (q9 p2))<|sc rfl (xo rfl (tp rfl))<|sc rfl (oM rfl (tp rfl))<|sg rfl rfl (λ hg=>oM rfl (tp rfl))<|sg rfl rfl (λ hg=>zn (l:=[.tmp 12]) rfl kN41 (.cons (zi hg rfl) .nil) (Za (gh hg p3)))<|sg rfl rfl (λ hg=>xo rfl (zi hg rfl))<|sc rfl (wj rfl (tp rfl) (zb rfl))<|sc rfl (oM rfl (tp rfl))<|sg rfl rfl (λ hg=>oM rfl (tp rfl))<|sg rfl rfl (λ hg=>zn (l:=[.tmp 17]) rfl kN42 (.cons (zi hg rfl) .nil) (jb (gh hg p4)))<|sg rfl rfl (λ hg=>xo rfl (zi hg rfl))<|sc rfl (wj rfl (tp rfl) (zb rfl))<|sc rfl (oM rfl (tp rfl))<|sg rfl rfl (λ hg=>zk rfl kT25 (tp rfl))<|sg rfl rfl (λ hg=>oM rfl (tp rfl))<|sg rfl rfl (λ hg=>oM rfl (tp rfl))<|sg rfl rfl (λ hg=>zn (l:=[.tmp 22,.tmp 23,.tmp 24]) rfl kN63 (.cons (zi hg rfl) (.cons (zi hg rfl) (.cons (zi hg rfl) .nil))) ((zbv (gh hg p5))).fn)<|sg rfl rfl (λ hg=>z6 rfl kL32 (zi hg rfl))<|sg rfl rfl (λ hg=>oCI rfl (zi hg rfl) cI)<|sc rfl (wj rfl (tp rfl) (zb rfl))<|sc rfl (oM rfl (tp rfl))<|sg rfl rfl (λ hg=>zk rfl kT25 (tp rfl))<|sg rfl rfl (λ hg=>oM rfl (tp rfl))<|sg rfl rfl (λ hg=>oM rfl (tp rfl))<|sg rfl rfl (λ hg=>zn (l:=[.tmp 30,.tmp 31,.tmp 32]) rfl kN64 (.cons (zi hg rfl) (.cons (zi hg rfl) (.cons (zi hg rfl) .nil))) ((zav (gh hg p6))).fn)<|sg rfl rfl (λ hg=>z6 rfl kL32 (zi hg rfl))<|sg rfl rfl (λ hg=>oCI rfl (zi hg rfl) cI)<|sc rfl (wj rfl (tp rfl) (zb rfl))<|.nil) [1,2,3,36] rfl (λ a12 w12 st12=>?_)
 refine st12.cs (c:=36) rfl h11 (λ c13 h13=>?_) (λ c14 h14=>?_)
 ·
  refine st12.sq0 (sc rfl (oA rfl (xN (α:=Str)))<|sc rfl (oA rfl cB)<|.nil) [6,7] rfl (λ a15 w15 st15=>wp_ret (zd ?_))
  obtain rfl:=Option.some.inj h13
  exact st15.ret2 rfl (st15.frozen (t:=6) rfl) (st15.frozen (t:=7) rfl) ⟨rfl,rfl⟩ rfl
 refine wp_skip (za ?_)
 obtain⟨v16,p16,h17⟩:=bs h14
 refine st12.sq0 (sc rfl (zk rfl kT25 (tp rfl))<|sc rfl (oM rfl (tp rfl))<|sc rfl (oM rfl (tp rfl))<|sc rfl (yf (opds:=[]) (α:=Str) rfl kS32 kY32 rfl rfl (by decide) .nil)<|sc rfl (zn (l:=[.tmp 37,.tmp 38,.tmp 39,.tmp 40]) rfl kN65 (.cons (tp rfl) (.cons (tp rfl) (.cons (tp rfl) (.cons (tp rfl) .nil)))) (WQ _ p16))<|sc rfl (oA rfl (tp rfl))<|sc rfl (oA rfl cB)<|.nil) [6,7] rfl (λ a18 w18 st18=>wp_ret ?_)
 obtain rfl:=Option.some.inj h17
 exact st18.ret2 rfl (st18.frozen (t:=6) rfl) (st18.frozen (t:=7) rfl) ⟨rfl,rfl⟩ rfl
end Go.Proofs.YtobplpdjkfbfoaaGreatDoor
