import Derived.Test.YtobplpdjkfbfoaaGreatDoorRKc
import Derived.Test.YtobplpdjkfbfoaaGreatDoorRP
import Derived.Test.YtobplpdjkfbfoaaGreatDoorRPb
namespace Go.Proofs.YtobplpdjkfbfoaaGreatDoor
open Go.RowKit Tryz
set_option maxRecDepth 10000
set_option maxHeartbeats 1600000
theorem kN7:fnB prog 7=true:=by kernel_rfl
theorem kN8:fnB prog 8=true:=by kernel_rfl
theorem kN10:fnB prog 10=true:=by kernel_rfl
theorem kN9:fnB prog 9=true:=by kernel_rfl
theorem kN13:fnB prog 13=true:=by kernel_rfl
theorem kN15:fnB prog 15=true:=by kernel_rfl
def xH(v6:Tree×(List Int)×Str)(v14:List (List Str))(s32:(List Str)×Int)(s40:Int):Option (Int⊕(Unit⊕((List Str)⊕(((List Str)×Int)⊕((List Str)⊕Bool))))):=
(atI v14 s32.2).bind λ v42=>
if(cmpI .lss s40 (v42.length:Int))=true then((atI v14 s32.2).bind λ v47=>
(atI v47 s40).bind λ v48=>
(jq s32.1 v48).bind λ v49=>
(gO (v49 == false) (atI v14 s32.2)).bind λ v50=>
(gO (v49 == false) (atI v50 s40)).bind λ v51=>
(gO (v49 == false) (j6 v6.1 v6.2.1 v51)).bind λ v52=>
(gO ((v49 == false)&&(v52 == true)) (atI v14 s32.2)).bind λ v53=>
(gO ((v49 == false)&&(v52 == true)) (atI v53 s40)).bind λ v54=>
(gO ((v49 == false)&&(v52 == true)) (xq v6.1 v6.2.1 v54)).bind λ v55=>
(gO ((v49 == false)&&(v52 == true)) (zW v55 s32.1)).bind λ v56=>
if(v49||(v52&&(!v56)))=true then(some (.inr (.inr (.inr (.inr (.inr false))))))
else((i64 (s40+(1:Int))).bind λ v76=>
some (.inl v76)))
else(some (.inr (.inl ())))
def xI(v6:Tree×(List Int)×Str)(v14:List (List Str))(s32:(List Str)×Int):Option (((List Str)×Int)⊕((List Str)⊕Bool)):=
if(cmpI .lss s32.2 (v14.length:Int))=true then(Option.bind (α:=(List Str)⊕(((List Str)×Int)⊕((List Str)⊕Bool))) (Option.bind (α:=Unit⊕((List Str)⊕(((List Str)×Int)⊕((List Str)⊕Bool)))) (zF (λ s40=>xH v6 v14 s32 s40) (0:Int)) (Sum.elim (λ _b38=>
(atI v14 s32.2).bind λ v81=>
(Z1 v81).bind λ v82=>
(gO ((!v82) == false) (atI v14 s32.2)).bind λ v83=>
if((!v82)||cmpI .eql (v83.length:Int) (0:Int))=true then(some (.inr (.inr (.inr false))))
else((atI v14 s32.2).bind λ v94=>
(appO 16 s32.1 v94).bind λ v99=>
some (.inl v99))) some)) (Sum.elim (λ b37=>
(i64 (s32.2+(1:Int))).bind λ v103=>
some (.inl (b37,v103))) some))
else(some (.inr (.inl s32.1)))
def qK(x0:List UInt8):Option Bool:=
if(cmpI .gtr (x0.length:Int) (1048576:Int))=true then(some true)
else((wP x0).bind λ v6=>
(qx v6.1 v6.2.1 v6.2.2).bind λ v14=>
(jy v6.1 v6.2.1 v6.2.2).bind λ v17=>
(xA v14 v17).bind λ v18=>
if((!v18)||cmpI .eql (v14.length:Int) (0:Int))=true then((jy v6.1 v6.2.1 v6.2.2).bind λ v24=>
(xA v14 v24).bind λ v25=>
some v25)
else(Option.bind (α:=(List Str)⊕Bool) (zF (λ s32=>xI v6 v14 s32) ([],(0:Int))) (Sum.elim (λ b30=>
(xt v6.1 v6.2.1 v6.2.2).bind λ v108=>
(gO (cmpI .eql (b30.length:Int) (v108.length:Int) == true) (zW v108 b30)).bind λ v111=>
(gO ((cmpI .eql (b30.length:Int) (v108.length:Int)&&v111) == true) (jp v6.1 v6.2.1 v6.2.2)).bind λ v112=>
some ((cmpI .eql (b30.length:Int) (v108.length:Int)&&v111)&&cmpI .eql (v112.length:Int) (0:Int))) some)))
theorem zac{x0:List UInt8}{r:Bool}(h:qK x0=some r):Fn prog 3 [dt x0] (dt r):=by
 unfold qK at h
 refine fnx (fn:=f3) 2 func3 rfl (oD rfl) rfl (λ M w0 a0 st0=>?_)
 refine st0.sq0 (sc rfl (oA rfl cB)<|.nil) [0] rfl (λ a1 w1 st1=>wp_seq ?_)
 refine st1.sq0 (sc rfl (oM rfl (tp rfl))<|sc rfl (z6 rfl kL22 (tp rfl))<|sc rfl (oCI rfl (tp rfl) cI)<|.nil) [0,13] rfl (λ a2 w2 st2=>?_)
 refine st2.cs (c:=13) rfl h (λ c3 h3=>?_) (λ c4 h4=>?_)
 ·
  refine st2.sq0 (sc rfl (oA rfl cB)<|.nil) [2] rfl (λ a5 w5 st5=>wp_ret (zd ?_))
  exact st5.ret rfl rfl h3
 refine wp_skip (za (wp_seq (wp_region_list ?_)))
 obtain⟨v6,p6,h7⟩:=bs h4
 refine st2.seg 6 (
  sc rfl (oM rfl (tp rfl))<|sc rfl (zn (l:=[.tmp 15]) rfl kN7 (.cons (tp rfl) .nil) (JI p6))<|sc rfl (oM rfl (tp rfl))<|sc rfl (xExt (i:=0) rfl (tp rfl) rfl)<|sc rfl (xExt (i:=1) rfl (tp rfl) rfl)<|sc rfl (xExt (i:=2) rfl (tp rfl) rfl)<|.nil) [17,18,19] rfl [] rfl trivial (λ a8 w8 st8=>?_)
 refine st8.alloc 1 rfl rfl kZ25 zrTree (by simp) [17,18,19] rfl [] rfl rfl (λ b10 M10 a10 w10 st10=>?_)
 refine st10.store (sb:=3) 1 FldS.id rfl rfl rfl kT25 rfl rfl (tp rfl) rfl [18,19] rfl [] rfl rfl (λ M12 w12 st12=>?_)
 refine st12.seg 2 (
  sc rfl (oA rfl (tp rfl))<|sc rfl (oA rfl (tp rfl))<|.nil) [4,5] rfl [(3,1)] rfl iT (λ a13 w13 st13=>?_)
 refine wpList_nil (za ?_)
 obtain⟨v14,p14,h15⟩:=bs h7
 refine st13.sq (sc rfl (zN rfl kT25 (tp rfl))<|sc rfl (oM rfl (tp rfl))<|sc rfl (oM rfl (tp rfl))<|sc rfl (zn (l:=[.tmp 20,.tmp 21,.tmp 22]) rfl kN8 (.cons (tp rfl) (.cons (tp rfl) (.cons (tp rfl) .nil))) (FnN.fn<|za7 p14))<|sc rfl (oA rfl (tp rfl))<|.nil) [4,5,6] rfl [(3,1)] rfl iT (λ a16 w16 st16=>wp_seq ?_)
 obtain⟨v17,p17,v18,p18,h20⟩:=bsB h15
 refine st16.sq (sc rfl (oM rfl (tp rfl))<|sc rfl (zN rfl kT25 (tp rfl))<|sc rfl (oM rfl (tp rfl))<|sc rfl (oM rfl (tp rfl))<|sc rfl (zn (l:=[.tmp 25,.tmp 26,.tmp 27]) rfl kN10 (.cons (tp rfl) (.cons (tp rfl) (.cons (tp rfl) .nil))) ((WP p17)).fn)<|sc rfl (zn (l:=[.tmp 24,.tmp 28]) rfl kN9 (.cons (tp rfl) (.cons (tp rfl) .nil)) (Xq p18))<|sc rfl (xo rfl (tp rfl))<|sc rfl (oM rfl (tp rfl))<|sg rfl rfl (λ hg=>oM rfl (tp rfl))<|sg rfl rfl (λ hg=>z6 rfl kL29 (zi hg rfl))<|sg rfl rfl (λ hg=>oCI rfl (zi hg rfl) cI)<|sc rfl (wj rfl (tp rfl) (zb rfl))<|.nil) [4,5,6,35] rfl [(3,1)] rfl iT (λ a21 w21 st21=>?_)
 refine st21.cs (c:=35) rfl h20 (λ c22 h22=>?_) (λ c23 h23=>?_)
 ·
  obtain⟨v24,p24,v25,p25,h27⟩:=bsB h22
  refine st21.sq0 (sc rfl (oM rfl (tp rfl))<|sc rfl (zN rfl kT25 (tp rfl))<|sc rfl (oM rfl (tp rfl))<|sc rfl (oM rfl (tp rfl))<|sc rfl (zn (l:=[.tmp 37,.tmp 38,.tmp 39]) rfl kN10 (.cons (tp rfl) (.cons (tp rfl) (.cons (tp rfl) .nil))) ((WP p24)).fn)<|sc rfl (zn (l:=[.tmp 36,.tmp 40]) rfl kN9 (.cons (tp rfl) (.cons (tp rfl) .nil)) (Xq p25))<|sc rfl (oA rfl (tp rfl))<|.nil) [2] rfl (λ a28 w28 st28=>wp_ret (zd ?_))
  exact st28.ret rfl rfl h27
 refine wp_skip (za ?_)
 refine st21.sq (sc rfl (yL (α:=Str) (e:=9) rfl kS32)<|sc rfl (oA rfl (tp rfl))<|.nil) [4,5,6] rfl [(3,1),(7,0)] rfl ⟨iI,⟨iE,trivial⟩⟩ (λ a29 w29 st29=>?_)
 obtain⟨o30,p30,k30⟩:=bs h23
 refine zj (λ a w=>∃ b30,o30=.inl b30/\(∃ M1 q30_0 q30_1,Sx (Frm.of w0) 136 M M1 [oneB q30_0,oneB q30_1] [(4,dt v6.2.1),(5,dt v6.2.2)] [(3,1,dbox q30_1 0 v6.1),(7,0,dtip q30_0 9 b30)] a w)) ?_ ?_
 ·
  refine st29.sq (sc rfl (oA rfl cI)<|.nil) [4,5,6,8] rfl [(3,1),(7,0)] rfl ⟨iI,⟨iE,trivial⟩⟩ (λ a31 w31 st31=>wp_block ?_)
  refine zB p30 (λ s32 a w=>∃ M1 q32_0 q32_1,Sx (Frm.of w0) 136 M M1 [oneB q32_0,oneB q32_1] [(4,dt v6.2.1),(5,dt v6.2.2),(6,dt v14),(8,dt s32.2)] [(3,1,dbox q32_1 0 v6.1),(7,0,dtip q32_0 9 s32.1)] a w) ⟨_,_,_,st31.sel [4,5,6,8] rfl [(3,1),(7,0)] rfl ⟨iI,⟨iE,trivial⟩⟩⟩ ?_
  rintro s32 z32 a32 w32 ⟨M32,q32_0,q32_1,st32⟩ hs32 hx32
  have h33:xI v6 v14 s32=some z32:=hs32
  unfold xI at h33
  refine wp_seq ?_
  refine st32.sq (sc rfl (oM rfl (tp rfl))<|sc rfl (oM rfl (tp rfl))<|sc rfl (z6 rfl kL29 (tp rfl))<|sc rfl (oCI rfl (tp rfl) (tp rfl))<|.nil) [4,5,6,8,46] rfl [(3,1),(7,0)] rfl ⟨iI,iT⟩ (λ a34 w34 st34=>?_)
  refine st34.cs (c:=46) rfl h33 (λ c35 h35=>?_) (λ c36 h36=>?_)
  ·
   refine wp_skip (za ?_)
   obtain⟨o37,p37,k37⟩:=bs h35
   refine zj (λ a w=>∃ b37,o37=.inl b37/\(∃ M1 q37_0 q37_1,Sx (Frm.of w0) 136 M M1 [oneB q37_0,oneB q37_1] [(4,dt v6.2.1),(5,dt v6.2.2),(6,dt v14),(8,dt s32.2)] [(3,1,dbox q37_1 0 v6.1),(7,0,dtip q37_0 9 b37)] a w)) ?_ ?_
   ·
    refine wp_block ?_
    obtain⟨o38,p38,k38⟩:=bs p37
    refine zj (λ a w=>∃ b38,o38=.inl b38/\(∃ M1 q38_0 q38_1,Sx (Frm.of w0) 136 M M1 [oneB q38_0,oneB q38_1] [(4,dt v6.2.1),(5,dt v6.2.2),(6,dt v14),(8,dt s32.2)] [(3,1,dbox q38_1 0 v6.1),(7,0,dtip q38_0 9 s32.1)] a w)) ?_ ?_
    ·
     refine st34.sq (sc rfl (oA rfl cI)<|.nil) [4,5,6,8,9] rfl [(3,1),(7,0)] rfl ⟨iI,iT⟩ (λ a39 w39 st39=>wp_block ?_)
     refine zB p38 (λ s40 a w=>∃ M1 q40_0 q40_1,Sx (Frm.of w0) 136 M M1 [oneB q40_0,oneB q40_1] [(4,dt v6.2.1),(5,dt v6.2.2),(6,dt v14),(8,dt s32.2),(9,dt s40)] [(3,1,dbox q40_1 0 v6.1),(7,0,dtip q40_0 9 s32.1)] a w) ⟨_,_,_,st39.sel [4,5,6,8,9] rfl [(3,1),(7,0)] rfl ⟨iI,iT⟩⟩ ?_
     rintro s40 z40 a40 w40 ⟨M40,q40_0,q40_1,st40⟩ hs40 hx40
     have h41:xH v6 v14 s32 s40=some z40:=hs40
     unfold xH at h41
     refine wp_seq ?_
     obtain⟨v42,p42,h43⟩:=bs h41
     refine st40.sq (sc rfl (oM rfl (tp rfl))<|sc rfl (oM rfl (tp rfl))<|sc rfl (oM rfl (tp rfl))<|sc rfl (xIdx rfl kS29 (tp rfl) (tp rfl) p42)<|sc rfl (zk rfl kT32 (tp rfl))<|sc rfl (z6 rfl kL32 (tp rfl))<|sc rfl (oCI rfl (tp rfl) (tp rfl))<|.nil) [4,5,6,8,9,55] rfl [(3,1),(7,0)] rfl ⟨iI,iT⟩ (λ a44 w44 st44=>?_)
     refine st44.cs (c:=55) rfl h43 (λ c45 h45=>?_) (λ c46 h46=>?_)
     ·
      refine wp_skip (za (wp_seq (wp_block (wp_seq ?_))))
      obtain⟨v47,p47,v48,p48,v49,p49,v50,p50,h60⟩:=bsD h45
      obtain⟨v51,p51,v52,p52,v53,p53,v54,p54,h64⟩:=bsD h60
      obtain⟨v55,p55,v56,p56,h66⟩:=bsB h64
      refine st44.dr (D:=[_,_,_,_,_,_,_,_,_,_,_,_,_,_,_,_,_,_,_,_,_,_,_,_,_,_,_,_,_,_,_,_,_,_,_,_]) zO [[(7,nS)],[(6,nS)],[(8,nS)],[(59,1),(60,2)],[(61,3)],[(9,nS)],[(62,4),(63,5)],[(64,6)],[(58,0),(65,7)],[(66,8)],[(3,nS),(67,9)],[(4,nS),(67,9)],[(6,nS),(67,9)],[(8,nS),(67,9)],[(70,12),(71,13),(67,9)],[(72,14),(67,9)],[(9,nS),(67,9)],[(73,15),(74,16),(67,9)],[(75,17),(67,9)],[(68,10),(69,11),(76,18),(67,9)],[(77,19),(67,9)],[(3,nS),(78,20)],[(4,nS),(78,20)],[(6,nS),(78,20)],[(8,nS),(78,20)],[(81,23),(82,24),(78,20)],[(83,25),(78,20)],[(9,nS),(78,20)],[(84,26),(85,27),(78,20)],[(86,28),(78,20)],[(79,21),(80,22),(87,29),(78,20)],[(7,nS),(78,20)],[(88,30),(89,31),(78,20)],[(90,32),(78,20)],[(78,20),(91,33),(67,9)],[(67,9),(92,34)]] (by decide +kernel) (
       rc rfl rfl (oM rfl (tp rfl))<|rc rfl rfl (oM rfl (tp rfl))<|rc rfl rfl (oM rfl (tp rfl))<|rc rfl rfl (xIdx rfl kS29 (tp rfl) (tp rfl) p47)<|rc rfl rfl (zk rfl kT32 (tp rfl))<|rc rfl rfl (oM rfl (tp rfl))<|rc rfl rfl (xIdx rfl kS32 (tp rfl) (tp rfl) p48)<|rc rfl rfl (zk rfl kT9 (tp rfl))<|rc rfl rfl (qN (l:=[.tmp 58,.tmp 65]) st44.ob.sub rfl kN11 (.cons (Wt st44.ob 0 rfl (tp rfl)) (.cons (Zu st44.ob.sub (tp rfl)) .nil)) (Jg p49) qF)<|rc rfl rfl (oM rfl (tp rfl))<|rg rfl rfl rfl (λ hg=>zN rfl kT25 (tp rfl))<|rg rfl rfl rfl (λ hg=>oM rfl (tp rfl))<|rg rfl rfl rfl (λ hg=>oM rfl (tp rfl))<|rg rfl rfl rfl (λ hg=>oM rfl (tp rfl))<|rg rfl rfl rfl (λ hg=>xIdx rfl kS29 (zi hg rfl) (zi hg rfl) (gh hg p50))<|rg rfl rfl rfl (λ hg=>zk rfl kT32 (zi hg rfl))<|rg rfl rfl rfl (λ hg=>oM rfl (tp rfl))<|rg rfl rfl rfl (λ hg=>xIdx rfl kS32 (zi hg rfl) (zi hg rfl) (gh hg p51))<|rg rfl rfl rfl (λ hg=>zk rfl kT9 (zi hg rfl))<|rg rfl rfl rfl (λ hg=>zn (l:=[.tmp 68,.tmp 69,.tmp 76]) rfl kN12 (.cons (zi hg rfl) (.cons (zi hg rfl) (.cons (zi hg rfl) .nil))) (Jb (gh hg p52)))<|rg rfl rfl rfl (λ hg=>oM rfl (zi hg rfl))<|rgg rfl rfl rfl (λ hg=>zN rfl kT25 (tp rfl))<|rgg rfl rfl rfl (λ hg=>oM rfl (tp rfl))<|rgg rfl rfl rfl (λ hg=>oM rfl (tp rfl))<|rgg rfl rfl rfl (λ hg=>oM rfl (tp rfl))<|rgg rfl rfl rfl (λ hg=>xIdx rfl kS29 (zi hg rfl) (zi hg rfl) (gh hg p53))<|rgg rfl rfl rfl (λ hg=>zk rfl kT32 (zi hg rfl))<|rgg rfl rfl rfl (λ hg=>oM rfl (tp rfl))<|rgg rfl rfl rfl (λ hg=>xIdx rfl kS32 (zi hg rfl) (zi hg rfl) (gh hg p54))<|rgg rfl rfl rfl (λ hg=>zk rfl kT9 (zi hg rfl))<|rgg rfl rfl rfl (λ hg=>zn (l:=[.tmp 79,.tmp 80,.tmp 87]) rfl kN14 (.cons (zi hg rfl) (.cons (zi hg rfl) (.cons (zi hg rfl) .nil))) ((jm (gh hg p55))).fn)<|rgg rfl rfl rfl (λ hg=>oM rfl (tp rfl))<|rgg rfl rfl rfl (λ hg=>qN (l:=[.tmp 88,.tmp 89]) st44.ob.sub rfl kN13 (.cons (Zu st44.ob.sub (zi hg rfl)) (.cons (Wt st44.ob 0 rfl (zi hg rfl)) .nil)) (qq (gh hg p56)) qF)<|rgg rfl rfl rfl (λ hg=>xo rfl (zi hg rfl))<|rg rfl rfl rfl (λ hg=>ym rfl (zi hg rfl) (WU hg rfl))<|rc rfl rfl (wj rfl (tp rfl) (zb rfl))<|.nil) [4,5,6,8,9,93] rfl [(3,1),(7,0)] rfl ⟨iI,iT⟩ (λ a67 w67 st67=>?_)
      refine za ?_
      refine st67.cs (c:=93) rfl h66 (λ c68 h68=>?_) (λ c69 h69=>?_)
      ·
       refine st67.sq0 (sc rfl (oA rfl cB)<|.nil) [2] rfl (λ a70 w70 st70=>wp_ret (zt (zd (zd (zt (zd (zt (zd (zd (zt (zd ?_)))))))))))
       have h71:=lo h68 hx40
       have h72:=jo h71 k38
       have h73:=jo h72 k37
       have h74:=lo h73 hx32
       have h75:=jo h74 k30
       exact st70.ret rfl rfl h75
      refine wp_skip (ze (za ?_))
      obtain⟨v76,p76,h77⟩:=bs h69
      refine st67.rg (sc rfl (oM rfl (tp rfl))<|sc rfl (xAr rfl (tp rfl) cI p76)<|sc rfl (oA rfl (tp rfl))<|.nil) [4,5,6,8,9] rfl [(3,1),(7,0)] rfl ⟨iI,iT⟩ (λ a78 w78 st78=>za ?_)
      exact⟨_,(Option.some.inj h77).symm,⟨_,_,_,st78.sel [4,5,6,8,9] rfl [(3,1),(7,0)] rfl ⟨iI,iT⟩⟩⟩
     refine wp_exit (zh (zh (zv ?_)))
     refine za ?_
     have h79:=lo h46 hx40
     exact⟨_,(Option.some.inj h79).symm,⟨_,_,_,st44.sel [4,5,6,8] rfl [(3,1),(7,0)] rfl ⟨iI,iT⟩⟩⟩
    rintro a38 w38 ⟨b38,rfl,⟨M38,q38_0,q38_1,st38⟩⟩
    have h80:=jn k38
    refine wp_seq ?_
    obtain⟨v81,p81,v82,p82,v83,p83,h86⟩:=bsC h80
    refine st38.sq (sc rfl (oM rfl (tp rfl))<|sc rfl (oM rfl (tp rfl))<|sc rfl (xIdx rfl kS29 (tp rfl) (tp rfl) p81)<|sc rfl (zk rfl kT32 (tp rfl))<|sc rfl (zn (l:=[.tmp 97]) rfl kN15 (.cons (tp rfl) .nil) (laws_rises_w p82))<|sc rfl (xo rfl (tp rfl))<|sc rfl (oM rfl (tp rfl))<|sg rfl rfl (λ hg=>oM rfl (tp rfl))<|sg rfl rfl (λ hg=>oM rfl (tp rfl))<|sg rfl rfl (λ hg=>xIdx rfl kS29 (zi hg rfl) (zi hg rfl) (gh hg p83))<|sg rfl rfl (λ hg=>zk rfl kT32 (zi hg rfl))<|sg rfl rfl (λ hg=>z6 rfl kL32 (zi hg rfl))<|sg rfl rfl (λ hg=>oCI rfl (zi hg rfl) cI)<|sc rfl (wj rfl (tp rfl) (zb rfl))<|.nil) [4,5,6,8,107] rfl [(3,1),(7,0)] rfl ⟨iI,iT⟩ (λ a87 w87 st87=>?_)
    refine st87.cs (c:=107) rfl h86 (λ c88 h88=>?_) (λ c89 h89=>?_)
    ·
     refine st87.sq0 (sc rfl (oA rfl cB)<|.nil) [2] rfl (λ a90 w90 st90=>wp_ret (zd (zt (zd (zd (zt (zd ?_)))))))
     have h91:=jo h88 k37
     have h92:=lo h91 hx32
     have h93:=jo h92 k30
     exact st90.ret rfl rfl h93
    refine wp_skip (za (wp_region_list ?_))
    obtain⟨v94,p94,h95⟩:=bs h89
    refine st87.seg 5 (
      sc rfl (oM rfl (tp rfl))<|sc rfl (oM rfl (tp rfl))<|sc rfl (oM rfl (tp rfl))<|sc rfl (xIdx rfl kS29 (tp rfl) (tp rfl) p94)<|sc rfl (zk rfl kT32 (tp rfl))<|.nil) [4,5,6,8,112] rfl [(3,1),(7,0),(108,0)] rfl ⟨iI,⟨iI,iT⟩⟩ (λ a96 w96 st96=>?_)
    obtain⟨v99,p99,h100⟩:=bs h95
    refine st96.app 0 rfl rfl kE32 rfl rfl rfl yS p99 [4,5,6,8] rfl [3] rfl rfl (λ g98 M98 a98 w98 st98=>?_)
    refine st98.seg 1 (
      sc rfl (oA rfl (tp rfl))<|.nil) [4,5,6,8] rfl [(3,1),(7,0)] rfl ⟨iI,iT⟩ (λ a101 w101 st101=>?_)
    refine wpList_nil (ze (za ?_))
    exact⟨_,(Option.some.inj h100).symm,⟨_,_,_,st101.sel [4,5,6,8] rfl [(3,1),(7,0)] rfl ⟨iI,iT⟩⟩⟩
   rintro a37 w37 ⟨b37,rfl,⟨M37,q37_0,q37_1,st37⟩⟩
   have h102:=jn k37
   obtain⟨v103,p103,h104⟩:=bs h102
   refine st37.rg (sc rfl (oM rfl (tp rfl))<|sc rfl (xAr rfl (tp rfl) cI p103)<|sc rfl (oA rfl (tp rfl))<|.nil) [4,5,6,8] rfl [(3,1),(7,0)] rfl ⟨iI,iT⟩ (λ a105 w105 st105=>za ?_)
   exact⟨_,(Option.some.inj h104).symm,⟨_,_,_,st105.sel [4,5,6,8] rfl [(3,1),(7,0)] rfl ⟨iI,iT⟩⟩⟩
  refine wp_exit (zh (zh (zv ?_)))
  refine za ?_
  have h106:=lo h36 hx32
  exact⟨_,(Option.some.inj h106).symm,⟨_,_,_,st34.sel [4,5] rfl [(3,1),(7,0)] rfl ⟨iI,iT⟩⟩⟩
 rintro a30 w30 ⟨b30,rfl,⟨M30,q30_0,q30_1,st30⟩⟩
 have h107:=jn k30
 obtain⟨v108,p108,h109⟩:=bs h107
 refine st30.sq (sc rfl (zN rfl kT25 (tp rfl))<|sc rfl (oM rfl (tp rfl))<|sc rfl (oM rfl (tp rfl))<|sc rfl (zn (l:=[.tmp 114,.tmp 115,.tmp 116]) rfl kN16 (.cons (tp rfl) (.cons (tp rfl) (.cons (tp rfl) .nil))) ((qe p108)).fn)<|sc rfl (oA rfl (tp rfl))<|.nil) [4,5,10] rfl [(3,1),(7,0)] rfl ⟨iI,iT⟩ (λ a110 w110 st110=>?_)
 obtain⟨v111,p111,v112,p112,h114⟩:=bsB h109
 refine st110.sq0 (sc rfl (oM rfl (tp rfl))<|sc rfl (Zt rfl kL32 (tp rfl))<|sc rfl (oM rfl (tp rfl))<|sc rfl (z6 rfl kL32 (tp rfl))<|sc rfl (oCI rfl (tp rfl) (tp rfl))<|sc rfl (oM rfl (tp rfl))<|sg rfl rfl (λ hg=>oM rfl (tp rfl))<|sg rfl rfl (λ hg=>oM rfl (tp rfl))<|sg rfl rfl (λ hg=>qN (l:=[.tmp 124,.tmp 125]) st110.ob.sub rfl kN13 (.cons (Zu st110.ob.sub (zi hg rfl)) (.cons (Wt st110.ob 0 rfl (zi hg rfl)) .nil)) (qq (gh hg p111)) qF)<|sc rfl (ym rfl (tp rfl) (zb rfl))<|sc rfl (oM rfl (tp rfl))<|sg rfl rfl (λ hg=>zN rfl kT25 (tp rfl))<|sg rfl rfl (λ hg=>oM rfl (tp rfl))<|sg rfl rfl (λ hg=>oM rfl (tp rfl))<|sg rfl rfl (λ hg=>zn (l:=[.tmp 129,.tmp 130,.tmp 131]) rfl kN17 (.cons (zi hg rfl) (.cons (zi hg rfl) (.cons (zi hg rfl) .nil))) ((Xp (gh hg p112))).fn)<|sg rfl rfl (λ hg=>z6 rfl kL32 (zi hg rfl))<|sg rfl rfl (λ hg=>oCI rfl (zi hg rfl) cI)<|sc rfl (ym rfl (tp rfl) (zb rfl))<|sc rfl (oA rfl (tp rfl))<|.nil) [2] rfl (λ a115 w115 st115=>wp_ret ?_)
 exact st115.ret rfl rfl h114
open Go.RowKit Tryz
theorem zbW{x y:List (List Str)}(h:x.length<=1048576)(he:∀ l∈x,l.length<=1048576):xA x y=some (decide (x=y)):=by
 unfold xA
 refine eqS_list (λ k hk hk2=>?_) ?_ (by omega)
 ·
  unfold wk
  have h1:=he x[k] (List.getElem_mem hk)
  simp only[lss_at hk,if_true,atI_at hk,atI_at hk2,obS,J0 (x:=x[k]) (y:=y[k]) (by omega),zM (show k<4611686018427387904 by omega)]
  by_cases e:x[k]=y[k] <;> simp[e]
 ·
  unfold wk
  rw[lss_end];rfl
section
variable{t:Tree}{path:List Int}{s:Str}{P:List Str}{g:List (List Str)}
theorem zaI{i:Nat}{l:List Str}(hi:g[i]?=some l):(g.take (i+1)).flatten=(g.take i).flatten++l:=by
 rw[List.take_add_one,hi]
 simp
theorem X0(i:Nat):(g.take i).flatten.length<=g.flatten.length:=by
 have h:g.flatten=(g.take i).flatten++(g.drop i).flatten:=by rw[← List.flatten_append,List.take_append_drop]
 rw[h,List.length_append]
 omega
theorem Lay.mem_reach(h:Lay t path s P g){i:Nat}{l:List Str}(hi:g[i]?=some l){n:Str}(hn:n∈l):n∈yc t path s:=h.sub n (by
 rw[h.flat]
 exact List.mem_flatten.2 ⟨l,List.mem_of_getElem? hi,hn⟩)
theorem lay_inner(ht:y6 t)(hp:path.length<=1048576)(h:Lay t path s P g){i:Nat}{l:List Str}(hi:g[i]?=some l):zF (λ s40=>xH (t,path,s) g ((g.take i).flatten,(i:Int)) s40) (0:Int)=some (.inl ()):=by
 obtain⟨hne,hasc,hl⟩:=h.lay i l hi
 have hP:=h.small
 have hb:(g.take i).flatten.length<=300:=by
  have:=X0 (g:=g) i
  rw[← h.flat] at this
  omega
 have hll:l.length<=300:=by
  have h1:=X0 (g:=g) (i+1)
  rw[zaI hi,List.length_append,← h.flat] at h1
  omega
 refine Zd l.length (λ k=>(k:Int)) (λ k hk=>?_) ?_ (by omega) rfl
 ·
  obtain⟨n,hx,hm⟩:=Xt hk
  obtain⟨hn1,hn2⟩:=hl n hm
  obtain⟨hnv,hok⟩:=YZ (h.mem_reach hi hm)
  obtain⟨hv,_,_⟩:=yA hok
  have he:=ZL (path:=path) hv hnv
  have hw:zW (zZ t.files path n) (g.take i).flatten=some true:=WJ (by omega) (by omega) λ y hy=>Q7 hn2 hy
  unfold xH
  dsimp only
  rw[zQ,hi,obS,zz,if_pos (decide_eq_true hk),obS,zQ,hx,obS,Wo (by omega),decide_eq_false hn1,obS,show((false == false):Bool)=true from rfl,wF,obS,zQ,hx,wF,obS,zbD ht hp (yH hnv),wF,obS,zM (by omega)]
  cases cmpI .neq (Jj t path n).kind 0 with
  | false=>rfl
  |
   true=>
   rw[show((true&&(true == true)):Bool)=true from rfl,wF,obS,zQ,hx,wF,obS,Xx ht hp hok hnv,wF,obS,hw,wF]
   rfl
 ·
  unfold xH
  dsimp only
  rw[zQ,hi,obS,zz,if_neg (by simp)]
theorem lay_outer(ht:y6 t)(hp:path.length<=1048576)(h:Lay t path s P g):zF (λ s32=>xI (t,path,s) g s32) (([]:List Str),(0:Int))=some (.inl P):=by
 have hP:=h.small
 have hA:=h.accLen
 have e0:P=(g.take g.length).flatten:=by rw[List.take_length];exact h.flat
 refine Zd g.length (λ k=>((g.take k).flatten,(k:Int))) (λ k hk=>?_) ?_ (by omega) rfl
 ·
  obtain⟨l,hi,hm⟩:=Xt hk
  obtain⟨hne,hasc,hl⟩:=h.lay k l hi
  have h1:=X0 (g:=g) (k+1)
  rw[zaI hi,List.length_append,← h.flat] at h1
  have hlen:cmpI .eql (l.length:Int) (0:Int)=false:=by
   have:=List.length_pos_iff.2 hne
   simp only[cmpI,beq_eq_false_iff_ne,ne_eq]
   omega
  unfold xI
  dsimp only
  rw[zz,if_pos (decide_eq_true hk),lay_inner ht hp h hi,obS,Sum.elim_inl,zQ,hi,obS,rises_eq hasc (by omega),obS,show((!true) == false:Bool)=true from rfl,wF,obS,hlen,if_neg (by decide),obS,xd (by omega) (by omega),obS,obS,Sum.elim_inl,zM (by omega),obS,zaI hi]
 ·
  unfold xI
  dsimp only
  rw[zz,if_neg (by simp),← e0]
end
theorem zad(c:List UInt8):qK c=some true:=by
 unfold qK
 refine za2 (zbg c) λ t path s ht hp3 hn=>?_
 have hp:path.length<=1048576:=by omega
 obtain⟨z1,z2⟩:=layersL_size t path s
 have hE:xA (wG t path s) (wG t path s)=some true:=by rw[zbW (by omega) λ l h=>by have:=z2 l h;omega];simp
 dsimp only
 rw[LayersOf_eq ht hp hn,obS,zaE ht hp hn,obS,hE,obS]
 by_cases hg:wG t path s=[]
 ·
  rw[if_pos (by rw[hg];rfl),obS,hE,obS]
 ·
  have hz:cmpI .eql ((wG t path s).length:Int) (0:Int)=false:=by
   have:=List.length_pos_iff.2 hg
   simp only[cmpI,beq_eq_false_iff_ne,ne_eq]
   omega
  have hok:okG t path s=true:=by
   cases h:okG t path s with
   | true=>rfl
   | false=>exact absurd (by unfold wG;rw[if_neg (by simp[h])]) hg
  have hQ:∃ Q,Lay t path s Q (wG t path s)/\(yc t path s).length<=Q.length:=by
   have e:wG t path s=layF t path s 301 [] []:=by unfold wG;rw[if_pos hok]
   rw[e] at hg ⊢
   exact(Qs 301 [] [] lay_nil).resolve_left hg
  obtain⟨Q,hL,hl⟩:=hQ
  have hlen:Q.length=(yc t path s).length:=Nat.le_antisymm hL.length hl
  have hsm:=hL.small
  have hw:zW (yc t path s) Q=some true:=WJ (by omega) (by omega) λ y hy=>hL.all hl y hy
  have hr:=hL.noRing hok hl
  rw[hz,if_neg (by decide),lay_outer ht hp hL,obS,Sum.elim_inl,Xy ht hp hn,obS,show cmpI .eql (Q.length:Int) ((yc t path s).length:Int)=true by rw[hlen];simp[cmpI],show((true == true):Bool)=true from rfl,wF,hw,obS,Qr ht hp hn,hr]
  rfl
theorem zbi(c:List UInt8):Fn prog 3 [dt c] (dt true):=zac (zad c)
end Go.Proofs.YtobplpdjkfbfoaaGreatDoor
