import Derived.Test.YtpmkkijamfgaeaaGreatDoorRB
import Derived.Test.YtpmkkijamfgaeaaGreatDoorRO
import Derived.Test.YtpmkkijamfgaeaaGreatDoorRKc
import Derived.Test.YtpmkkijamfgaeaaGreatDoorRK
import Derived.Test.YtpmkkijamfgaeaaGreatDoorRQ
namespace Go.Proofs.YtpmkkijamfgaeaaGreatDoor
open Go.RowKit Tryz
attribute [local irreducible] OpRel OpdR
set_option maxRecDepth 10000
set_option maxHeartbeats 1600000
theorem kM82:mapB prog 82 9 4=true:=by kernel_rfl
theorem kT82:tyB prog 82 false 1=true:=by kernel_rfl
theorem kO4:zeroV prog 4=some (.bool false):=by kernel_rfl
theorem kT83:tyB prog 83 false 1=true:=by kernel_rfl
theorem kN53:fnB prog 53=true:=by kernel_rfl
theorem kZ29:xU prog 29=some ZP:=by kernel_rfl
theorem kN52:fnB prog 52=true:=by kernel_rfl
theorem kN17:fnB prog 17=true:=by kernel_rfl
theorem kV82:xU prog 82=some [Value.map none]:=by kernel_rfl
theorem kV83:xU prog 83=some [Value.nilFunc]:=by kernel_rfl
theorem kN58:fnB prog 58=true:=by kernel_rfl
theorem kN56:fnB prog 56=true:=by kernel_rfl
theorem kN57:fnB prog 57=true:=by kernel_rfl
def xm(R:Str->List Str×List Str->Option (List Str×List Str))(v15:List Str)(s18:(List Str)×Int×(List Str)):Option (((List Str)×Int×(List Str))⊕((List Str)×(List Str))):=
if(cmpI .lss s18.2.1 (v15.length:Int))=true then((atI v15 s18.2.1).bind λ v23=>
(R v23 (s18.2.2,s18.1)).bind λ v27=>
(i64 (s18.2.1+(1:Int))).bind λ v30=>
some (.inl (v27.2,v30,v27.1)))
else(some (.inr (s18.1,s18.2.2)))
def jp(R:Str->List Str×List Str->Option (List Str×List Str))(x0:Str)(x1:List Str)(x3:Tree)(x4:List Int)(x5:List Str):Option (List Str×List Str):=
if(decide (x0=(⟨[]⟩:Str))||decide (x0∈x1))=true then(some (x1,x5))
else((Qu x1 x0).bind λ v6=>
(yK x0).bind λ v8=>
(R v8 (v6,x5)).bind λ v11=>
Option.bind (α:=(List Str)×(List Str)) ((qG x3 x4 x0).bind λ v15=>
zK (λ s18=>xm R v15 s18) (v11.2,(0:Int),v11.1)) λ o14=>
(appO 16 o14.1 ([x0]:List Str)).bind λ v41=>
some (o14.2,v41))
theorem QN{R:Str->List Str×List Str->Option (List Str×List Str)}{x0:Str}{x1:List Str}{x3:Tree}{x4:List Int}{x5:List Str}{r:List Str×List Str}(hR:∀ {s x r},R s x=some r->FnVis prog 9 4 9 53 x3 x4 s x r)(h:jp R x0 x1 x3 x4 x5=some r):FnVis prog 9 4 9 53 x3 x4 x0 (x1,x5) r:=by
 unfold jp at h
 refine fnVis (fn:=f53) 2 0 3 func53 rfl (oD rfl) (λ c0 M G w0 _ hc1 hc2 hc3 st0=>?_) (by decide) (by decide) (by decide)
 refine wp_seq ?_
 refine st0.sqB (sP 3 (r:=by exact sg rfl rfl (λ hg=>xLdC' rfl kT82 (tp rfl))<|sP 1 (r:=by exact sg rfl rfl (λ hg=>xMapGetG (g:=39) rfl kM82 kO4 (zn hg rfl) rfl (zn hg rfl))<|segC))) [0,1,2,3,4,15] [(5,0),(39,2)] (λ _ _ st1=>?_)
 refine st1.cs rfl h (λ _ h2=>wp_ret (ze ?_)) (λ _ h3=>wp_skip (za (wp_seq (wp_region_list ?_))))
 ·
  exact(st1.rsV (p:=2) (p2:=0) (s0:=39) (s1:=5) rfl rfl rfl iI iI (by decide) h2).1
 refine st1.segB 2 (sc rfl (xLdC' rfl kT82 (tp rfl))<|segC) [0,2,3,4,16,17] [(5,0),(39,2)] (λ _ _ st4=>?_)
 obtain⟨v6,p6,h7⟩:=bs h3
 refine st4.mapPutG (g:=39) 2 rfl rfl rfl kM82 (tp rfl) rfl (tp rfl) cB iI (by simp) p6 [0,2,3,4] rfl [5] rfl rfl (λ _ st5=>wpList_nil (za (wp_seq ?_)))
 obtain⟨v8,p8,h9⟩:=bs h7
 refine st5.drnA (D:=[_,_,_]) zJ 3 [[(2,nS)],[(0,nS)],[(19,1)],[(18,0),(20,2)]] [0,2,3,4,18,20] [(5,0),(39,2)] (λ _ _ st10=>?_) (hs:=rc rfl rfl (xLdV (c:=c0) rfl kT83 (tp rfl))<|rc rfl rfl (oM rfl (tp rfl))<|rc rfl rfl (zB (l:=[.tmp 19]) rfl kN54 (.cons (tp rfl) .nil) (qY p8))<|.nil)
 obtain⟨v11,p11,h12⟩:=bs h9
 refine st10.cV (c:=c0) (sf:=18) (sm:=39) (so:=5) 2 0 rfl rfl (fnB_as hc1 kN53) rfl (tp rfl) rfl rfl (λ _=>Iff.rfl) (λ _=>Iff.rfl) (by simp) (by simp) (by decide) ((hR p11).cast hc1 hc2 hc3) [0,2,3,4] rfl [] rfl rfl rfl rfl rfl (λ _ _ _ _ st13=>wpList_nil (za ?_))
 obtain⟨o14,p14,k14⟩:=bs h12
 refine zi (λ a w=>∃ M1 q14_0 q14_1,Sx (Frm.chg w0 (λ b=>oneB (some c0.bs) b\/G b)) 39 M M1 [q14_0,q14_1,oneB (some c0.bs)] [(0,dt x0)] [(39,2,dmg prog 9 4 c0.bs o14.2),(5,0,dnm (Ow.box (Ow.row 9 (Ow.frz (α:=Str)))) q14_0 ⟨o14.1⟩ (.pointer (some ⟨c0.bo,0,none⟩)) [])] a w) ?_ ?_
 ·
  obtain⟨v15,p15,h16⟩:=bs p14
  refine st13.sqB (sP 3 (r:=by exact sc rfl (zB (l:=[.tmp 22,.tmp 23,.tmp 24]) rfl kN55 (.cons (tp rfl) (.cons (tp rfl) (.cons (tp rfl) .nil))) ((J5 p15)).fn)<|segC)) [0,2,25,26,27] [(5,0),(39,2)] (λ _ _ st17=>wp_block ?_)
  refine zG h16 (λ s18 a w=>∃ M1 q18_0 q18_1,Sx (Frm.chg w0 (λ b=>oneB (some c0.bs) b\/G b)) 39 M M1 [q18_0,q18_1,oneB (some c0.bs)] [(0,dt x0),(2,(Vc.cv c0)),(25,dt v15),(26,dt (v15.length:Int)),(27,dt s18.2.1)] [(39,2,dmg prog 9 4 c0.bs s18.2.2),(5,0,dnm (Ow.box (Ow.row 9 (Ow.frz (α:=Str)))) q18_0 ⟨s18.1⟩ (.pointer (some ⟨c0.bo,0,none⟩)) [])] a w) fx ?_
  rintro s18 z18 a18 w18 ⟨M18,q18_0,q18_1,st18⟩ hs18 hx18
  have h19:xm R v15 s18=some z18:=hs18
  unfold xm at h19
  refine st18.sqA [0,2,25,26,27,28] [(5,0),(39,2)] (λ _ _ st20=>wp_seq ?_)
  refine st20.cs rfl h19 (λ _ h21=>wp_skip (za (wp_seq (wp_block ?_)))) (λ _ h22=>wp_exit (zh (zh (zy ?_))))
  ·
   obtain⟨v23,p23,h24⟩:=bs h21
   refine st20.sqA [0,2,8,25,26,27] [(5,0),(39,2)] (λ _ _ st25=>wp_region_list ?_)
   refine st25.segB 2 (sc rfl (xLdV (c:=c0) rfl kT83 (tp rfl))<|segC) [0,2,25,26,27,31,32] [(5,0),(39,2)] (λ _ _ st26=>?_)
   obtain⟨v27,p27,h28⟩:=bs h24
   refine st26.cV (c:=c0) (sf:=31) (sm:=39) (so:=5) 2 0 rfl rfl (fnB_as hc1 kN53) rfl (tp rfl) rfl rfl (λ _=>Iff.rfl) (λ _=>Iff.rfl) (by simp) (by simp) (by decide) ((hR p27).cast hc1 hc2 hc3) [0,2,25,26,27] rfl [] rfl rfl rfl rfl rfl (λ _ _ _ _ st29=>wpList_nil (zf (za ?_)))
   obtain⟨v30,p30,h31⟩:=bs h28
   refine st29.rgA [0,2,25,26,27] [(5,0),(39,2)] (λ _ _ st32=>za ?_)
   exact fl h31
  refine za ?_
  have h33:=lo h22 hx18
  cases h33
  exact fx
 rintro a14 w14 ⟨M14,q14_0,q14_1,st14⟩
 have h34:=k14
 refine wp_region_list ?_
 refine st14.hdA 5 0 (PV.root.box rfl) [39] (λ g35 A35 _ hA35 st35=>?_)
 refine st35.segB 3 (sc rfl (xLc (sb:=5) (.head _) rfl rfl rfl kT29 (zR rfl) rfl)<|segC) [35,37] [(5,0),(39,2)] (λ _ _ st36=>?_)
 refine st36.mvG (s:=35) (sb:=5) 0 1 (PV.root.box rfl) (.head _) rfl (wi rfl rfl) rfl (by simp) (by simp) (by decide) rfl iI [37] rfl [39] rfl rfl rfl rfl (λ _ H38 st38=>?_)
 refine st38.tipR (s:=35) 1 rfl rfl (by simp) iI [5,39] rfl rfl (λ g39 st39=>?_)
 obtain⟨v41,p41,h42⟩:=bs h34
 refine st39.apA 1 yS p41 [] [5,39] (λ g40 _ _ _ st40=>?_)
 have st44:=st40.tipW (s:=38) 1 rfl rfl iI [5,39] rfl
 refine st44.shA 5 38 0 1 (opd_hl rfl) [] [39] (λ _ _ st43=>wpList_nil ?_)
 exact(st43.rsV (p:=2) (p2:=0) (s0:=39) (s1:=5) rfl rfl rfl iI iI (by decide) h42).2
def JE(x3:Tree)(x4:List Int):Nat->Str->List Str×List Str->Option (List Str×List Str)
 | 0=>λ _ _=>none
 | n+1=>λ s x=>jp (JE x3 x4 n) s x.1 x3 x4 x.2
theorem zds{x3:Tree}{x4:List Int}:∀ (n:Nat) {s:Str} {x r:List Str×List Str},JE x3 x4 n s x=some r->FnVis prog 9 4 9 53 x3 x4 s x r
 | 0,_,_,_,h=>nomatch h
 | n+1,_,_,_,h=>QN (zds n) h
def qb(x0:Tree)(x1:List Int)(x2:Str):Option ((List Str)×Bool):=
(jG x0 x1 x2).bind λ v8=>
(gO ((!v8) == false) (Zy x0 x1 x2)).bind λ v9=>
(gO (((!v8)||cmpI .gtr (v9.length:Int) (0:Int)) == false) (qI x0 x1 x2)).bind λ v10=>
if(((!v8)||cmpI .gtr (v9.length:Int) (0:Int))||cmpI .gtr (v10.length:Int) (0:Int))=true then(some ([],false))
else((JE x0 x1 302 x2 (([]:List Str),[])).bind λ v36=>
some (v36.2,true))
theorem zbC{x0:Tree}{x1:List Int}{x2:Str}{r:(List Str)×Bool}(h:qb x0 x1 x2=some r):FnN prog 19 [dt x0,dt x1,dt x2] (.t2o (Ow.row 9 (Ow.frz (α:=Str))) r.1 (dt r.2)):=by
 unfold qb at h
 refine fnN (fn:=f19) 6 func19 rfl (oD rfl) rfl (λ M _ _ st0=>?_)
 refine st0.sq2 (sP 2 (r:=by exact sc rfl (oA rfl (x8 (α:=Str)))<|segC)) [2,3,4] (λ _ _ st1=>wp_seq (wp_region_list ?_))
 refine st1.segB 1 (sc rfl (yZ (α:=Str) (e:=9) rfl kS29)<|.nil) [2,3,4] [(11,1)] (λ _ _ st2=>?_)
 refine st2.alcW (ow:=(Ow.row 9 (Ow.frz (α:=Str)))) 3 rfl rfl kZ29 Ow.row_z (by simp) [2,3,4] rfl [11] rfl rfl (λ b3 _ _ _ st3=>?_)
 have st4:=st3.gn
 have st6:=st4.tipW (s:=11) 1 rfl rfl iI [8] rfl
 refine st6.stO (sb:=8) (tv:=11) 3 1 (PV.root.box rfl) rfl rfl rfl kT29 (by simp) (by simp) (by decide) (zR rfl) rfl rfl rfl iI iI [2,3,4] rfl [] rfl rfl rfl (λ _ _ st5=>?_)
 have st7:=st5.gn
 refine wpList_nil (za (wp_seq ?_))
 obtain⟨v8,p8,v9,p9,v10,p10,h13⟩:=bsC h
 refine st7.sqB (sP 3 (r:=by exact sc rfl (oK (Wo p8))<|sP 5 (r:=by exact sg rfl rfl (λ hg=>zB (l:=[.tmp 18,.tmp 19,.tmp 20]) rfl kN52 (.cons (zn hg rfl) (.cons (zn hg rfl) (.cons (zn hg rfl) .nil))) ((zc2 (gh hg p9))).fn)<|sP 7 (r:=by exact sg rfl rfl (λ hg=>zB (l:=[.tmp 26,.tmp 27,.tmp 28]) rfl kN17 (.cons (zn hg rfl) (.cons (zn hg rfl) (.cons (zn hg rfl) .nil))) ((zbZ (gh hg p10))).fn)<|segC)))) [2,3,4,32] [(8,3)] (λ _ _ st14=>?_)
 refine st14.cs rfl h13 (λ _ h15=>wp_seq (wp_region_list ?_)) (λ _ h16=>wp_skip (za (wp_seq (wp_region_list ?_))))
 ·
  refine st14.ldW (sb:=8) 3 rfl rfl kT29 rfl (by simp) iI [] rfl [] rfl rfl (λ _ _ st17=>?_)
  refine st17.nmR (s:=33) 3 rfl rfl iI [] rfl (λ g18 A18 _ hA18 st18=>?_)
  refine st18.segA 2 [7] [(6,3)] (λ _ _ st19=>wpList_nil (za ?_))
  refine wp_ret (ze ?_)
  have st20:=st19.unm (s:=6) 3 rfl rfl iI [] rfl
  exact st20.rn2o 3 rfl rfl rfl iI h15
 refine st14.mapNew (k:=9) (e:=4) 2 rfl rfl (by simp) [2,3,4] rfl [8] rfl rfl (λ b21 _ _ _ st21=>?_)
 have st22:=st21.gn
 refine st22.alcC 4 rfl rfl kV82 (by simp) [2,3,4] rfl [8,34] rfl rfl (λ b23 _ _ _ st23=>?_)
 have st24:=st23.gn
 refine st24.stC 4 rfl rfl rfl kT82 rfl (opd_mapv rfl) rfl one_map iI (by simp) [2,3,4] rfl [8,34] rfl rfl (λ _ st25=>?_)
 have st26:=st25.frzC (sc:=9) 4 rfl rfl [2,3,4] rfl [8,34] rfl
 have st27:=st26.toG (s:=34) 2 rfl rfl iI [8] rfl
 have st28:=st27.gn
 refine wpList_nil (za (wp_seq (wp_region_list ?_)))
 refine st28.alcC 5 rfl rfl kV83 (by simp) [2,3,4,9] rfl [8,34] rfl rfl (λ b29 _ _ _ st29=>?_)
 have st30:=st29.gn
 refine wpList_nil (za (wp_seq (wp_region_list ?_)))
 refine st30.segB 1 (sc rfl (xMkV (c:=(⟨53,b23,b21,b29,x0,x1,b3⟩:Vc)) rfl rfl rfl rfl rfl rfl rfl)<|.nil) [2,35] [(8,3),(10,5),(34,2)] (λ _ _ st31=>?_)
 refine st31.stC 5 rfl rfl rfl kT83 rfl (tp rfl) rfl one_vm iI (by simp) [2] rfl [8,34] rfl rfl (λ _ st32=>?_)
 have st33:=st32.frzC (sc:=10) 5 rfl rfl [2] rfl [8,34] rfl
 have st34:=st33.gn
 refine wpList_nil (za (wp_seq (wp_region_list ?_)))
 refine st34.segB 2 (sc rfl (xLdV (c:=(⟨53,b23,b21,b29,x0,x1,b3⟩:Vc)) rfl kT83 (tp rfl))<|segC) [36,37] [(8,3),(34,2)] (λ _ _ st35=>?_)
 obtain⟨v36,p36,h37⟩:=bs h16
 refine st35.cV (c:=(⟨53,b23,b21,b29,x0,x1,b3⟩:Vc)) (sf:=36) (sm:=34) (so:=8) 2 3 rfl rfl kN53 rfl (tp rfl) rfl rfl (λ _=>Iff.rfl) (λ _=>Iff.rfl) (by simp) (by simp) (by decide) (zds _ p36) [] rfl [] rfl rfl rfl rfl rfl (λ _ _ _ _ st38=>?_)
 have st39:=st38.gn
 refine wpList_nil (za (wp_seq (wp_region_list ?_)))
 refine st39.ldW (sb:=8) 3 rfl rfl kT29 rfl (by simp) iI [] rfl [34] rfl rfl (λ _ _ st40=>?_)
 refine st40.nmR (s:=39) 3 rfl rfl iI [34] rfl (λ g41 A41 _ hA41 st41=>?_)
 refine st41.segA 2 [7] [(6,3),(34,2)] (λ _ _ st42=>wpList_nil (za (wp_ret ?_)))
 have st43:=st42.unm (s:=6) 3 rfl rfl iI [34] rfl
 exact st43.rn2o 3 rfl rfl rfl iI h37
def jR(R:Tree->(List Int)->Str->(List Str)->Option (List Str))(x0:Tree)(x1:List Int)(v26:List Str)(s31:(List Str)×Int):Option (((List Str)×Int)⊕(List Str)):=
if(cmpI .lss s31.2 (v26.length:Int))=true then((atI v26 s31.2).bind λ v36=>
(R x0 x1 v36 s31.1).bind λ v37=>
(i64 (s31.2+(1:Int))).bind λ v41=>
some (.inl (v37,v41)))
else(some (.inr s31.1))
def YX(R:Tree->(List Int)->Str->(List Str)->Option (List Str))(x0:Tree)(x1:List Int)(x2:Str)(x3:List Str):Option (List Str):=
(xG x3 x2).bind λ v2=>
if v2=true then(some x3)
else(Option.bind (α:=(List Str)) ((yz x2).bind λ v9=>
if(decide (v9≠(⟨[]⟩:Str)))=true then((yz x2).bind λ v14=>
(R x0 x1 v14 x3).bind λ v15=>
some v15)
else(some x3)) λ o8=>
(xG o8 x2).bind λ v20=>
if v20=true then(some o8)
else((qF x0 x1 x2).bind λ v26=>
Option.bind (α:=(List Str)) (zK (λ s31=>jR R x0 x1 v26 s31) (o8,(0:Int))) λ o29=>
(appO 16 [] o29).bind λ v50=>
(appO 16 v50 ([x2]:List Str)).bind λ v55=>
some v55))
theorem spec_visit_w{R:Tree->(List Int)->Str->(List Str)->Option (List Str)}(hR:∀ {x0:Tree} {x1:List Int} {x2:Str} {x3:List Str} {r:List Str},R x0 x1 x2 x3=some r->Fn prog 58 [dt x0,dt x1,dt x2,dt x3] (dt r)){x0:Tree}{x1:List Int}{x2:Str}{x3:List Str}{r:List Str}(h:YX R x0 x1 x2 x3=some r):Fn prog 58 [dt x0,dt x1,dt x2,dt x3] (dt r):=by
 unfold YX at h
 refine fnx (fn:=f58) 1 func58 rfl (oD rfl) rfl (λ M w0 _ st0=>?_)
 refine st0.sq2 (sP 1 (r:=by exact sc rfl (oA rfl (x8 (α:=Str)))<|.nil)) [1,2,3,4] (λ _ _ st1=>wp_seq ?_)
 obtain⟨v2,p2,h3⟩:=bsW h qv
 refine st1.sq1 [1,2,3,4,13] (λ _ _ st4=>?_)
 refine st4.cs rfl h3 (λ _ h5=>?_) (λ _ h6=>wp_skip (za ?_))
 ·
  refine st4.sq1 [8] (λ _ _ st7=>wp_ret (ze ?_))
  exact st7.ret rfl rfl h5
 obtain⟨o8,p8,k8⟩:=bs h6
 refine zi (λ a w=>∃ M1 q8_0,Sx (Frm.of w0) 52 M M1 [oneB q8_0] [(1,dt x1),(2,dt x2),(3,dt o8),(4,dptr x0)] [] a w) ?_ ?_
 ·
  obtain⟨v9,p9,h10⟩:=bsW p8 ZZ
  refine st4.sq1 [1,2,3,4,17] (λ _ _ st11=>?_)
  refine st11.cs rfl h10 (λ _ h12=>?_) (λ _ h13=>wp_skip (za ?_))
  ·
   obtain⟨v14,p14,v15,p15,h17⟩:=bsB h12
   refine st11.drA (D:=[_,_,_,_,_,_,_]) zJ [[(4,nS)],[(1,nS)],[(2,nS)],[(20,2)],[(3,nS)],[(18,0),(19,1),(21,3),(22,4)],[(23,5)]] [1,2,3,4] [] (λ _ _ st18=>?_) (hs:=rc rfl rfl (zr rfl kT25 (tp rfl))<|rc rfl rfl (oM rfl (tp rfl))<|rc rfl rfl (oM rfl (tp rfl))<|rc rfl rfl (zB (l:=[.tmp 20]) rfl kN96 (.cons (tp rfl) .nil) (ZZ p14))<|rc rfl rfl (oM rfl (tp rfl))<|rc rfl rfl (zB (l:=[.tmp 18,.tmp 19,.tmp 21,.tmp 22]) rfl kN58 (.cons (tp rfl) (.cons (tp rfl) (.cons (tp rfl) (.cons (tp rfl) .nil)))) (hR p15))<|rc rfl rfl (oA rfl (tp rfl))<|.nil)
   refine za ?_
   cases h17
   exact fx
  cases h13
  exact fx
 rintro a8 w8 ⟨M8,q8_0,st8⟩
 have h19:=k8
 refine wp_seq ?_
 obtain⟨v20,p20,h21⟩:=bsW h19 qv
 refine st8.sq1 [1,2,3,4,26] (λ _ _ st22=>?_)
 refine st22.cs rfl h21 (λ _ h23=>?_) (λ _ h24=>wp_skip (za ?_))
 ·
  refine st22.sq1 [8] (λ _ _ st25=>wp_ret (ze ?_))
  exact st25.ret rfl rfl h23
 obtain⟨v26,p26,h27⟩:=bsW h24 J4
 refine st22.sq1 [1,2,3,4,9] (λ _ _ st28=>?_)
 obtain⟨o29,p29,k29⟩:=bs h27
 refine zi (λ a w=>∃ M1 q29_0,Sx (Frm.of w0) 52 M M1 [oneB q29_0] [(2,dt x2),(3,dt o29)] [] a w) ?_ ?_
 ·
  refine st28.sq1 [1,2,3,4,9,10] (λ _ _ st30=>wp_block ?_)
  refine zG p29 (λ s31 a w=>∃ M1 q31_0,Sx (Frm.of w0) 52 M M1 [oneB q31_0] [(1,dt x1),(2,dt x2),(3,dt s31.1),(4,dptr x0),(9,dt v26),(10,dt s31.2)] [] a w) fx ?_
  rintro s31 z31 a31 w31 ⟨M31,q31_0,st31⟩ hs31 hx31
  have h32:jR R x0 x1 v26 s31=some z31:=hs31
  unfold jR at h32
  refine wp_seq ?_
  refine st31.sq1 [1,2,3,4,9,10,35] (λ _ _ st33=>?_)
  refine st33.cs rfl h32 (λ _ h34=>wp_skip (za (wp_seq (wp_block ?_)))) (λ _ h35=>wp_exit (zh (zh (zy ?_))))
  ·
   obtain⟨v36,p36,v37,p37,h39⟩:=bsB h34
   refine st33.drA (D:=[_,_,_,_,_,_,_,_,_]) zJ [[(4,nS)],[(1,nS)],[(9,nS)],[(10,nS)],[(40,2),(41,3)],[(42,4)],[(3,nS)],[(38,0),(39,1),(43,5),(44,6)],[(45,7)]] [1,2,3,4,9,10] [] (λ _ _ st40=>?_) (hs:=rc rfl rfl (zr rfl kT25 (tp rfl))<|rc rfl rfl (oM rfl (tp rfl))<|rc rfl rfl (oM rfl (tp rfl))<|rc rfl rfl (oM rfl (tp rfl))<|rc rfl rfl (xIdx rfl kS29 (tp rfl) (tp rfl) p36)<|rc rfl rfl (zr rfl kT9 (tp rfl))<|rc rfl rfl (oM rfl (tp rfl))<|rc rfl rfl (zB (l:=[.tmp 38,.tmp 39,.tmp 43,.tmp 44]) rfl kN58 (.cons (tp rfl) (.cons (tp rfl) (.cons (tp rfl) (.cons (tp rfl) .nil)))) (hR p37))<|rc rfl rfl (oA rfl (tp rfl))<|.nil)
   refine zf (za ?_)
   obtain⟨v41,p41,h42⟩:=bs h39
   refine st40.rg1 [1,2,3,4,9,10] (λ _ _ st43=>za ?_)
   exact fl h42
  refine za ?_
  have h44:=lo h35 hx31
  cases h44
  exact fx
 rintro a29 w29 ⟨M29,q29_0,st29⟩
 have h45:=k29
 have st46:=st29.rst 0 (by simp) [2,3] rfl [] rfl
 refine wp_seq (wp_region_list ?_)
 refine st46.segB 2 (sc rfl (yZ (α:=Str) (e:=9) rfl kS29)<|segC) [2,47] [(46,0)] (λ _ _ st47=>?_)
 obtain⟨v50,p50,h51⟩:=bs h45
 refine st47.apA 0 yS p50 [2] [] (λ g49 _ _ _ st49=>?_)
 refine st49.segC 2 [50] [(48,0)] (λ _ _ st52=>?_)
 obtain⟨v55,p55,h56⟩:=bs h51
 refine st52.apA 0 yS p55 [] [] (λ g54 _ _ _ st54=>?_)
 have st57:=st54.frz 0 (s:=51) rfl rfl [] rfl [] rfl
 refine st57.segA 1 [8] [] (λ _ _ st58=>wpList_nil (za (wp_ret ?_)))
 exact st58.ret rfl rfl h56
def qc:Nat->Tree->(List Int)->Str->(List Str)->Option (List Str)
 | 0=>λ _ _ _ _=>none
 | n+1=>YX (qc n)
theorem JL:∀ (n:Nat) {x0:Tree} {x1:List Int} {x2:Str} {x3:List Str} {r:List Str},qc n x0 x1 x2 x3=some r->Fn prog 58 [dt x0,dt x1,dt x2,dt x3] (dt r)
 | 0,_,_,_,_,_,h=>nomatch h
 | n+1,_,_,_,_,_,h=>spec_visit_w (JL n) h
def qd(x0:Tree)(x1:List Int)(x2:Str):Option ((List Str)×Bool):=
(xW x0).bind λ v2=>
(gO ((!v2) == false) (xX x1)).bind λ v3=>
(gO (((!v2)||(!v3)) == false) (yx x2)).bind λ v4=>
(gO ((((!v2)||(!v3))||(!v4)) == false) (Zz x0 x1 x2)).bind λ v5=>
(gO (((((!v2)||(!v3))||(!v4))||cmpI .gtr (v5.length:Int) (0:Int)) == false) (qJ x0 x1 x2)).bind λ v6=>
if(((((!v2)||(!v3))||(!v4))||cmpI .gtr (v5.length:Int) (0:Int))||cmpI .gtr (v6.length:Int) (0:Int))=true then(some (([]:List Str),false))
else((qc 301 x0 x1 x2 ([]:List Str)).bind λ v16=>
some (v16,true))
theorem zbD{x0:Tree}{x1:List Int}{x2:Str}{r:(List Str)×Bool}(h:qd x0 x1 x2=some r):Fn prog 20 [dt x0,dt x1,dt x2] (dtup [dt r.1,dt r.2]):=by
 unfold qd at h
 refine fnx (fn:=f20) 0 func20 rfl (oD rfl) rfl (λ M _ _ st0=>?_)
 refine st0.sq2 (sP 1 (r:=by exact sc rfl (oA rfl (x8 (α:=Str)))<|segC)) [1,2,3] (λ _ _ st1=>wp_seq ?_)
 obtain⟨v2,p2,v3,p3,v4,p4,v5,p5,h10⟩:=bsD h
 obtain⟨v6,p6,h11⟩:=bs h10
 refine st1.sq2 (sP 1 (r:=by exact sc rfl (oK (Xb p2))<|sP 3 (r:=by exact sg rfl rfl (λ hg=>oK (Xc (gh hg p3)))<|sP 4 (r:=by exact sg rfl rfl (λ hg=>oK (qz (gh hg p4)))<|sP 6 (r:=by exact sg rfl rfl (λ hg=>zB (l:=[.tmp 22,.tmp 23,.tmp 24]) rfl kN56 (.cons (zn hg rfl) (.cons (zn hg rfl) (.cons (zn hg rfl) .nil))) ((zc3 (gh hg p5))).fn)<|sP 7 (r:=by exact sg rfl rfl (λ hg=>zB (l:=[.tmp 30,.tmp 31,.tmp 32]) rfl kN57 (.cons (zn hg rfl) (.cons (zn hg rfl) (.cons (zn hg rfl) .nil))) ((zb0 (gh hg p6))).fn)<|segC)))))) [1,2,3,36] (λ _ _ st12=>?_)
 refine st12.cs rfl h11 (λ _ h13=>?_) (λ _ h14=>wp_skip (za ?_))
 ·
  refine st12.sq2 (sc rfl (oA rfl (x8 (α:=Str)))<|segC) [6,7] (λ _ _ st15=>wp_ret (ze ?_))
  obtain rfl:=Option.some.inj h13
  exact st15.ret2 rfl (st15.frozen (t:=6) rfl) (st15.frozen (t:=7) rfl) ⟨rfl,rfl⟩ rfl
 obtain⟨v16,p16,h17⟩:=bs h14
 refine st12.sq2 (sP 3 (r:=by exact sc rfl (yq (opds:=[]) (α:=Str) rfl kS29 kY29 rfl rfl (by decide) .nil)<|sc rfl (oK (JL _ p16))<|segC)) [6,7] (λ _ _ st18=>wp_ret ?_)
 obtain rfl:=Option.some.inj h17
 exact st18.ret2 rfl (st18.frozen (t:=6) rfl) (st18.frozen (t:=7) rfl) ⟨rfl,rfl⟩ rfl
open Go.RowKit Tryz
variable{t:Tree}{path:List Int}{a b st:RSt}{e:Int}{s:Str}{U:Str->Prop}{R:Nat}{I:RImp}
theorem Ja:∀ (k:Nat) {n:Str},(zj n dot).length=k->zd n=true->(∀ x∈yJ n,zk x≠emptyS->zk x∈yJ n)/\Zm n∈yJ n:=by
 intro k
 induction k with
 | zero=>intro n hk;have:=qN n;omega
 |
  succ k ih=>
  intro n hk hn
  by_cases h:zk n=emptyS
  ·
   refine⟨λ x hx hp=>?_,?_⟩
   ·
    rw[above_one hn h] at hx
    simp only[List.mem_singleton] at hx
    rw[hx] at hp
    exact absurd h hp
   ·
    unfold Zm
    rw[Ww hn h,above_one hn h]
    exact List.mem_singleton.2 rfl
  ·
   obtain⟨e1,e2⟩:=wP hn h
   obtain⟨h1,h2⟩:=ih (by omega) e2
   refine⟨λ x hx hp=>?_,?_⟩
   ·
    rw[above_up hn h] at hx ⊢
    rcases List.mem_append.1 hx with hx | hx
    ·
     exact List.mem_append_left _ (h1 x hx hp)
    ·
     simp only[List.mem_singleton] at hx
     rw[hx]
     exact List.mem_append_left _ (Jw _)
   ·
    rw[above_up hn h]
    refine List.mem_append_left _ ?_
    have h3:=qN (zk n)
    unfold Zm at h2 ⊢
    rw[zbB hn h]
    cases hl:zj (zk n) dot with
    | nil=>rw[hl] at h3;simp at h3
    | cons x l=>rw[hl] at h2;exact h2
structure Ur(t:Tree)(path:List Int)(U:Str->Prop):Prop where
 valid:∀ x,U x->zd x=true
 up:∀ x,U x->zk x≠emptyS->U (zk x)
 edge:∀ x,U x->∀ y∈yl t.files path x,U y
 simple:∀ x,U x->XF t path x=true
theorem zbE{x y:Str}(h:y∈yl t.files path x)(hp:zk y≠emptyS):zk y∈yl t.files path x:=by
 unfold yl at h ⊢
 obtain⟨z,hz,hy⟩:=List.mem_flatMap.1 (YN.1 h)
 exact YN.2 (List.mem_flatMap.2 ⟨z,hz,(Ja _ rfl (Z5 hz)).1 y hy hp⟩)
theorem ur_reach(hv:zw t=true)(hs:zd s=true)(h:∀ x∈yI t path s,XF t path x=true):Ur t path (·∈yI t path s) where
 valid x hx:=qW hv hs hx
 up x hx hp:=by
  have hi:∀ {y:Str},y∈yI t path s ↔ Way (yl t.files path) (yJ s) y:=Ys hv hs (qO hs) λ _ h=>jt h
  rw[hi] at hx ⊢
  cases hx with
  | here hx=>exact .here ((Ja _ rfl hs).1 x hx hp)
  | step hy hx=>exact .step hy (zbE hx hp)
 edge x hx y hy:=zdi hv hs (qO hs) (λ _ h=>jt h) hx hy
 simple:=h
theorem mod_edge{n:Str}{x:Stmt}(hf:cmpI .lss (find t.files path n).file 0=false)(hx:x∈(Zj t.files (find t.files path n).file).body)(hk:x.kind=0\/x.kind=2)(hm:zd x.module=true):x.module∈yl t.files path n:=by
 unfold yl
 refine YN.2 (List.mem_flatMap.2 ⟨x.module,?_,Jw _⟩)
 unfold zT WS
 rw[hf,if_neg (by decide)]
 refine YN.2 (List.mem_filter.2 ⟨List.mem_map.2 ⟨x,hx,?_⟩,hm⟩)
 unfold qV
 rw[if_pos (by rcases hk with h | h <;> rw[h] <;> rfl)]
def bl(t:Tree)(path:List Int)(x:Str):Nat:=if cmpI .geq (find t.files path x).file 0=true then(Zj t.files (find t.files path x).file).body.length else 0
def blS(t:Tree)(path:List Int)(l:List Str):Nat:=(l.map (bl t path)).sum
theorem bl_le(hv:zw t=true){x:Str}(hx:zd x=true):bl t path x<=8:=by
 unfold bl
 cases h:cmpI .lss (find t.files path x).file 0 with
 | true=>rw[YP,h,if_neg (by decide)];omega
 |
  false=>
  rw[YP,h,if_pos (by decide)]
  obtain⟨f,h1,h2,_⟩:=Yg hv hx h
  rw[Yr h1]
  exact Zh (wW hv h2)
theorem blS_le(hv:zw t=true):∀ l:List Str,(∀ x∈l,zd x=true)->blS t path l<=8*(l.filter λ x=>cmpI .geq (find t.files path x).file 0).length
 | [],_=>Nat.le_refl _
 |
  x::l,h=>by
  have ih:=blS_le hv l λ y hy=>h y (List.mem_cons_of_mem _ hy)
  have hx:=bl_le (path:=path) hv (h x (List.mem_cons_self ..))
  unfold blS at ih ⊢
  rw[List.map_cons,List.sum_cons]
  cases hc:cmpI .geq (find t.files path x).file 0 with
  | true=>rw[List.filter_cons_of_pos (by simpa using hc),List.length_cons];omega
  |
   false=>
   rw[List.filter_cons_of_neg (by simp[hc])]
   have:bl t path x=0:=by unfold bl;rw[hc,if_neg (by decide)]
   omega
theorem blS_96(hv:zw t=true){l:List Str}(hn:l.Nodup)(h:∀ x∈l,zd x=true):blS t path l<=96:=by
 have h1:=blS_le (path:=path) hv l h
 have h2:(l.filter λ x=>cmpI .geq (find t.files path x).file 0).length<=(t.files.map xt).length:=jJ (hn.filter _) λ x hx=>by
  obtain⟨h3,h4⟩:=List.mem_filter.1 hx
  rw[YP] at h4
  obtain⟨f,_,k2,k3,_⟩:=Yg hv (h x h3) (by simpa using h4)
  exact List.mem_map.2 ⟨f,k2,k3⟩
 have h3:=Q4 hv
 rw[List.length_map] at h2
 omega
structure J(t:Tree)(path:List Int)(U:Str->Prop)(R:Nat)(st:RSt):Prop where
 wf:Wf st
 up:Upw st
 told:Told st
 fnd:Fnd t path st
 all:∀ m∈st.mods,m.cached=true
 in_:∀ m∈st.mods,U m.name
 pot:(120:Int)+R<=st.left+blS t path (st.mods.map (·.name))
theorem J.apart(j:J t path U R st):(st.mods.map (·.name)).Nodup:=by
 rw[List.Nodup,List.pairwise_iff_getElem]
 intro i k hi hk hik e
 rw[List.length_map] at hi hk
 rw[List.getElem_map,List.getElem_map] at e
 have:=j.wf.dist i k _ _ (List.getElem?_eq_getElem hi) (List.getElem?_eq_getElem hk) (j.all _ (List.getElem_mem hi)) (j.all _ (List.getElem_mem hk)) e
 omega
theorem J.left(hv:zw t=true)(j:J t path U R st):(R:Int)+24<=st.left:=by
 have h:=j.pot
 have h2:=blS_96 (path:=path) hv j.apart λ x hx=>by
  obtain⟨m,h3,rfl⟩:=List.mem_map.1 hx
  obtain⟨i,hi⟩:=List.getElem?_of_mem h3
  exact(j.fnd i m hi).1
 omega
theorem Sm.names(h:Sm a b):b.mods.map (·.name)=a.mods.map (·.name):=by
 refine List.ext_getElem? λ i=>?_
 rw[List.getElem?_map,List.getElem?_map]
 cases hb:b.mods[i]? with
 |
  none=>
  rw[show a.mods[i]?=none from List.getElem?_eq_none (by have:=List.getElem?_eq_none_iff.1 hb;rw[← h.1];exact this)]
 |
  some m'=>
  obtain⟨m,h1,h2⟩:=h.back hb
  rw[h1]
  show some m'.name=some m.name
  rw[h2.name]
theorem zcc{U:Str->Prop}{l m:List GMod}(h:m.map (·.name)=l.map (·.name))(hl:∀ x∈l,U x.name):∀ x∈m,U x.name:=λ x hx=>by
 have h1:x.name∈l.map (·.name):=by rw[← h];exact List.mem_map.2 ⟨x,hx,rfl⟩
 obtain⟨y,hy,e⟩:=List.mem_map.1 h1
 rw[← e]
 exact hl y hy
theorem J.tr(h:Tr t path a b 0)(k:Sm a b){Q:Nat}(hl:(Q:Int)+a.left<=R+b.left)(j:J t path U R a):J t path U Q b where
 wf:=h.wf j.wf
 up:=(h.told j.wf j.up j.told).2 rfl
 told:=(h.told j.wf j.up j.told).1
 fnd:=h.fnd j.fnd
 all m hm:=by
  obtain⟨i,hi⟩:=List.getElem?_of_mem hm
  obtain⟨y,h1,h2⟩:=k.back hi
  rw[h2.cached]
  exact j.all y (List.mem_of_getElem? h1)
 in_:=zcc k.names j.in_
 pot:=by
  have:=j.pot
  rw[k.names]
  omega
theorem J.give(j:J t path U R st)(k:Nat)(s:Str)(v:GVal):J t path U R (st.give k s v):=J.tr (.give st k s v) (give_sm ..) (Int.le_refl _) j
structure Rs(t:Tree)(path:List Int)(U:Str->Prop)(R:Nat)(st:RSt)(e:Int)(b:RSt):Prop where
 out:b.out=st.out
 in_:∀ m∈b.mods,U m.name
 fin:(e=0/\J t path U R b)\/(e=1/\∃ x,U x/\(find t.files path x).kind=0)
theorem J.rs(j:J t path U R b)(h:b.out=st.out):Rs t path U R st 0 b:=⟨h,j.in_,.inl ⟨rfl,j⟩⟩
theorem Rs.ok(h:Rs t path U R st e b)(he:e=0):J t path U R b:=by
 rcases h.fin with⟨_,j⟩ | ⟨h1,_⟩
 ·
  exact j
 ·
  omega
theorem Rs.bad{Q:Nat}(h:Rs t path U R a e b)(he:e≠0)(ho:a.out=st.out):Rs t path U Q st e b:=⟨h.out.trans ho,h.in_,h.fin.elim (λ h=>absurd h.1 he) .inr⟩
def SI(t:Tree)(path:List Int)(U:Str->Prop)(I:RImp):Prop:=∀ (st:RSt) (s:Str) (r:RSt×Int×Int) (R:Nat),J t path U R st->U s->I st s=some r->Rs t path U R st r.2.2 r.1
theorem star_j{k:Nat}:∀ (l:List GAttr) (st:RSt),J t path U R st->J t path U R (XS k l st)/\(XS k l st).out=st.out
 | [],_,j=>⟨j,rfl⟩
 |
  x::l,st,j=>by
  unfold XS
  rw[List.foldl_cons]
  split
  ·
   exact star_j l st j
  ·
   exact star_j l _ (j.give ..)
theorem lss_of_has{s:Str}(h:∃ (i:Nat) (m:GMod),a.mods[i]?=some m/\hits s m=true):cmpI .lss (cix a s) 0=false:=by
 obtain⟨i,m,h1,h2⟩:=h
 rcases Zi a s with⟨_,k2⟩ | ⟨k,m',k1,_⟩
 ·
  rw[k2 m (List.mem_of_getElem? h1)] at h2;cases h2
 ·
  rw[k1];exact lss_nat0 k
theorem zcB(hU:Ur t path U)(hI:SI t path U I)(hT:Qj t path I){at_:Nat}{x:Stmt}(hx:xu x=true)(hm:x.kind=0\/x.kind=2->U x.module)(j:J t path U R st){r:RSt×Int}(hr:Yt t path I st at_ x=some r):Rs t path U R st r.2 r.1:=by
 unfold Yt at hr
 by_cases h0:x.kind=0
 ·
  rw[if_pos h0] at hr
  have hmod:=hm (.inl h0)
  obtain⟨q,hq,hr⟩:=bs hr
  have hs:=hI st x.module q R j hmod hq
  by_cases he:q.2.2=0
  ·
   rw[if_neg (by simp[he])] at hr
   have j1:=hs.ok he
   obtain⟨m,m1,m2⟩:=(hT _ _ _ (hU.valid _ hmod) hq).2 he
   have hf:=up_above j1.up _ rfl (hU.valid _ hmod) ⟨_,m,m1,m2⟩ _ (Ja _ rfl (hU.valid _ hmod)).2
   rw[if_neg (by rw[lss_of_has hf];decide)] at hr
   injection hr with hr;subst hr
   exact(j1.give ..).rs hs.out
  ·
   rw[if_pos he] at hr
   injection hr with hr;subst hr
   exact hs.bad he rfl
 ·
  rw[if_neg h0] at hr
  by_cases h2:x.kind=2
  ·
   rw[if_neg (by omega),if_pos h2] at hr
   obtain⟨q,hq,hr⟩:=bs hr
   have hs:=hI st x.module q R j (hm (.inr h2)) hq
   by_cases he:q.2.2=0
   ·
    rw[if_neg (by simp[he])] at hr
    injection hr with hr;subst hr
    obtain⟨k1,k2⟩:=star_j (k:=at_) (q.1.attrsAt q.2.1.toNat) q.1 (hs.ok he)
    exact k1.rs (k2.trans hs.out)
   ·
    rw[if_pos he] at hr
    injection hr with hr;subst hr
    exact hs.bad he rfl
  ·
   have h3:x.kind=3:=by
    unfold xu at hx
    simp only[Bool.or_eq_true,cmpI,beq_iff_eq] at hx
    omega
   rw[if_neg (by omega),if_neg h2,if_pos h3] at hr
   injection hr with hr;subst hr
   exact(j.give ..).rs rfl
theorem zcC(hv:zw t=true)(hU:Ur t path U)(hI:SI t path U I)(hT:Qj t path I)(at_:Nat):∀ (l:List Stmt) (st:RSt) (r:RSt×Int),(∀ x∈l,xu x=true/\(x.kind=0\/x.kind=2->U x.module))->J t path U (R+l.length) st->W5 t path I at_ l st=some r->Rs t path U R st r.2 r.1
 |
  [],st,r,_,j,hr=>by
  injection hr with hr;subst hr
  exact J.rs j rfl
 |
  x::l,st,r,hl,j,hr=>by
  unfold W5 at hr
  have hlf:=j.left hv
  rw[if_neg (by omega)] at hr
  obtain⟨q,hq,hr⟩:=bs hr
  have j1:J t path U (R+l.length) { st with left:=st.left - 1 }:=J.tr (.tick st) ⟨rfl,λ _ m h=>⟨m,h,Kept.refl m⟩⟩ (by rw[List.length_cons];show((R+l.length:Nat):Int)+st.left<=((R+(l.length+1):Nat):Int)+(st.left - 1);omega) j
  have hx:=hl x (List.mem_cons_self ..)
  have hs:=zcB hU hI hT hx.1 hx.2 j1 hq
  by_cases he:q.2=0
  ·
   rw[if_neg (by simp[he])] at hr
   have h2:=zcC hv hU hI hT at_ l q.1 r (λ y hy=>hl y (List.mem_cons_of_mem _ hy)) (hs.ok he) hr
   exact⟨h2.out.trans hs.out,h2.in_,h2.fin⟩
  ·
   rw[if_pos he] at hr
   injection hr with hr;subst hr
   exact hs.bad he rfl
theorem tell_left(a:RSt)(k:Nat)(s:Str):(a.tell k s).left=a.left:=by unfold RSt.tell;split <;> rfl
theorem tell_out'(a:RSt)(k:Nat)(s:Str):(a.tell k s).out=a.out:=by unfold RSt.tell;split <;> rfl
theorem zdt(hv:zw t=true)(hU:Ur t path U)(hI:SI t path U I)(hT:Qj t path I)(n:New t path st s)(hs:U s)(j:J t path U R st){r:RSt×Int×Int}(hr:newF t path I st s (qj t path st s)=some r):Rs t path U R st r.2.2 r.1:=by
 have hlk:=zcb j.fnd n
 unfold newF at hr
 rw[if_neg n.kind] at hr
 obtain⟨q,hq,hr⟩:=bs hr
 have hrt:=run_tr hv hT hq
 have jb:J t path U (R+bl t path s) (st.begin s (qj t path st s)):=⟨j.wf.begin _ n.gone n.up,j.up.bgU n _,j.told.bgT j.up n _,j.fnd.bgF n,
  λ m hm=>(List.mem_append.1 hm).elim (j.all m) λ h=>by rw[List.mem_singleton.1 h],
  λ m hm=>(List.mem_append.1 hm).elim (j.in_ m) λ h=>by rw[List.mem_singleton.1 h];exact hs,by
  have hp:=j.pot
  show(120:Int)+((R+bl t path s:Nat):Int)<=st.left+(blS t path ((st.mods++[_]).map (λ m:GMod=>m.name)):Nat)
  unfold blS at hp ⊢
  rw[List.map_append,List.map_append,List.sum_append]
  show(120:Int)+((R+bl t path s:Nat):Int)<=st.left+(((st.mods.map (·.name)).map (bl t path)).sum+(bl t path s+0):Nat)
  omega⟩
 have hq2:Rs t path U R st q.2 q.1:=by
  unfold runF at hq
  rw[hlk] at hq
  cases hc:cmpI .geq (find t.files path s).file 0 with
  |
   true=>
   rw[hc,if_pos rfl] at hq
   have hsim:=hU.simple s hs
   unfold XF at hsim
   rw[YP] at hc
   have hc':cmpI .lss (find t.files path s).file 0=false:=by simpa using hc
   rw[hc',Bool.false_or,List.all_eq_true] at hsim
   have hbl:bl t path s=(Zj t.files (find t.files path s).file).body.length:=by unfold bl;rw[YP,hc',if_pos (by decide)]
   rw[hbl,hlk] at jb
   have:=zcC hv hU hI hT st.mods.length _ _ q (λ x hx=>⟨hsim x hx,λ hk=>hU.edge s hs _ (mod_edge hc' hx hk (qP (YV hv _ x hx) hk))⟩) jb hq
   exact⟨this.out,this.in_,this.fin⟩
  |
   false=>
   rw[hc,if_neg (by decide)] at hq
   injection hq with hq;subst hq
   rw[hlk] at jb
   have hbl:bl t path s=0:=by unfold bl;rw[hc,if_neg (by decide)]
   rw[hbl] at jb
   exact J.rs jb rfl
 by_cases he:q.2=0
 ·
  rw[if_neg (by simp[he])] at hr
  injection hr with hr;subst hr
  have j1:=hq2.ok he
  have sm:Sm q.1 ((q.1.done st.mods.length s).tell st.mods.length s):=by
   have s1:=done_sm q.1 st.mods.length s
   have s2:=tell_sm (q.1.done st.mods.length s) st.mods.length s
   refine⟨s2.1.trans s1.1,λ i m hm=>?_⟩
   obtain⟨m1,k1,k2⟩:=s1.2 i m hm
   obtain⟨m2,k3,k4⟩:=s2.2 i m1 k1
   exact⟨m2,k3,k2.trans k4⟩
  have hg:Tr t path st ((q.1.done st.mods.length s).tell st.mods.length s) 0:=.good n (hrt.to0 he)
  refine⟨(tell_out' ..).trans hq2.out,zcc sm.names j1.in_,.inl ⟨rfl,hg.wf j.wf,(hg.told j.wf j.up j.told).2 rfl,(hg.told j.wf j.up j.told).1,hg.fnd j.fnd,λ m hm=>?_,zcc sm.names j1.in_,?_⟩⟩
  ·
   obtain⟨i,hi⟩:=List.getElem?_of_mem hm
   obtain⟨y,h1,h2⟩:=sm.back hi
   rw[h2.cached]
   exact j1.all y (List.mem_of_getElem? h1)
  ·
   rw[sm.names,tell_left]
   exact j1.pot
 ·
  rw[if_pos he] at hr
  injection hr with hr;subst hr
  refine⟨hq2.out,λ m hm=>?_,hq2.fin.elim (λ h=>absurd h.1 he) .inr⟩
  obtain⟨i,hi⟩:=List.getElem?_of_mem hm
  obtain⟨y,h1,h2⟩:=W9 hi
  have h3:=hq2.in_ y (List.mem_of_getElem? h1)
  rcases h2 with⟨rfl,_⟩ | ⟨_,rfl⟩
  ·
   exact h3
  ·
   exact h3
theorem zaN(hv:zw t=true)(hU:Ur t path U):∀ n,SI t path U (imp t path n)
 | 0=>λ _ _ _ _ _ _ h=>by cases h
 |
  n+1=>by
  intro st s r R j hs h
  unfold imp impF at h
  have hhit:∀ {b:RSt},J t path U R b->b.out=st.out->cmpI .geq (cix b s) 0=true->∀ {r:RSt×Int×Int},some (b.hit (cix b s).toNat s,cix b s,(0:Int))=some r->Rs t path U R st r.2.2 r.1:=λ{b} jb ho hc r hr=>by
   injection hr with hr;subst hr
   obtain⟨m,h1,h2⟩:=hit_of _ _ hc
   exact(J.tr (.hit b _ _ h1 h2) ⟨rfl,λ _ m h=>⟨m,h,Kept.refl m⟩⟩ (Int.le_refl _) jb).rs ho
  split at h
  ·
   rename_i hc
   exact hhit j rfl hc h
  ·
   obtain⟨q,hq,hr⟩:=bs h
   have hT:=imp_tr (path:=path) hv n
   have hI:=zaN hv hU n
   have hpar:Rs t path U R st q.2.2 q.1/\(q.2.2=0->zk s=emptyS\/∃ m∈q.1.mods,hits (zk s) m=true):=by
    split at hq
    ·
     rename_i he
     injection hq with hq;subst hq
     exact⟨j.rs rfl,λ _=>.inl he⟩
    ·
     rename_i he
     have hp:=hU.up s hs he
     exact⟨hI _ _ _ _ j hp hq,λ e=>.inr (let⟨m,k1,k2⟩:=(hT _ _ _ (hU.valid _ hp) hq).2 e;⟨m,List.mem_of_getElem? k1,k2⟩)⟩
   obtain⟨h1,h2⟩:=hpar
   by_cases he:q.2.2=0
   ·
    rw[if_neg (by simp[he])] at hr
    have j1:=h1.ok he
    split at hr
    ·
     rename_i hc
     exact hhit j1 h1.out hc hr
    ·
     rename_i hc
     have hup:=h2 he
     by_cases hk:(qj t path q.1 s).kind=0
     ·
      unfold newF at hr
      rw[if_pos hk] at hr
      injection hr with hr;subst hr
      exact⟨h1.out,h1.in_,.inr ⟨rfl,s,hs,by rw[← zaM j1.fnd (hU.valid _ hs) hup];exact hk⟩⟩
     ·
      have hn:New t path q.1 s:=⟨hU.valid _ hs,Xg (by simpa[cix] using hc),hup,hk⟩
      have:=zdt hv hU hI hT hn hs j1 hr
      exact⟨this.out.trans h1.out,this.in_,this.fin⟩
   ·
    rw[if_pos he] at hr
    injection hr with hr;subst hr
    exact h1.bad he rfl
open Go.RowKit Tryz
def wz(need:Str->List Str):Nat->List Str->Str->Option (List Str)
 | 0,_,_=>none
 | n+1,out,s=>if s∈out then some out else(if zk s=emptyS then some out else wz need n out (zk s)).bind λ o=>if s∈o then some o else((need s).foldlM (wz need n) o).bind λ o=>some (o++[s])
def Yj(need:Str->List Str):Nat->List Str×List Str->Str->Option (List Str×List Str)
 | 0,_,_=>none
 | n+1,p,s=>if s=emptyS\/s∈p.1 then some p else(Yj need n (s::p.1,p.2) (zk s)).bind λ p=>((need s).foldlM (Yj need n) p).bind λ q=>some (q.1,q.2++[s])
theorem XG{α σ:Type}{f g:σ->α->Option σ}(h:∀ s x o,f s x=some o->g s x=some o):∀ (l:List α) (s o:σ),l.foldlM f s=some o->l.foldlM g s=some o
 | [],_,_,e=>e
 |
  x::l,s,o,e=>by
  rw[List.foldlM_cons] at e ⊢
  obtain⟨a,h1,h2⟩:=bs e
  show(g s x).bind _=_
  rw[h s x a h1,obS]
  exact XG h l a o h2
section
variable{need:Str->List Str}{U:Str->Prop}{rk:Str->Nat}
theorem ZH(n:Nat)(out:List Str)(s:Str):wz need (n+1) out s=if s∈out then some out else(if zk s=emptyS then some out else wz need n out (zk s)).bind λ o=>if s∈o then some o else((need s).foldlM (wz need n) o).bind λ o=>some (o++[s]):=rfl
theorem Jb(n:Nat)(p:List Str×List Str)(s:Str):Yj need (n+1) p s=if s=emptyS\/s∈p.1 then some p else(Yj need n (s::p.1,p.2) (zk s)).bind λ p=>((need s).foldlM (Yj need n) p).bind λ q=>some (q.1,q.2++[s]):=rfl
theorem WM:∀ (n:Nat) (out:List Str) (s:Str) (o:List Str),wz need n out s=some o->wz need (n+1) out s=some o
 | 0,_,_,_,h=>by cases h
 |
  n+1,out,s,o,h=>by
  rw[ZH] at h ⊢
  by_cases hs:s∈out
  ·
   rw[if_pos hs] at h ⊢;exact h
  ·
   rw[if_neg hs] at h ⊢
   obtain⟨o1,h1,h⟩:=bs h
   have e:(if zk s=emptyS then some out else wz need (n+1) out (zk s))=some o1:=by
    by_cases hp:zk s=emptyS
    ·
     rw[if_pos hp] at h1 ⊢;exact h1
    ·
     rw[if_neg hp] at h1 ⊢;exact WM n _ _ _ h1
   rw[e,obS]
   by_cases hs1:s∈o1
   ·
    rw[if_pos hs1] at h ⊢;exact h
   ·
    rw[if_neg hs1] at h ⊢
    obtain⟨o2,h2,h⟩:=bs h
    rw[XG (WM n) _ _ _ h2,obS]
    exact h
theorem Yu{n m:Nat}(hm:n<=m){out:List Str}{s:Str}{o:List Str}(h:wz need n out s=some o):wz need m out s=some o:=by
 induction hm with
 | refl=>exact h
 | step _ ih=>exact WM _ _ _ _ ih
structure Rk(need:Str->List Str)(U:Str->Prop)(rk:Str->Nat):Prop where
 ne:∀ x,U x->x≠emptyS
 up:∀ x,U x->zk x≠emptyS->U (zk x)/\rk (zk x)<rk x
 need:∀ x,U x->∀ y∈need x,U y/\rk y<rk x
structure Ahd(need:Str->List Str)(o:List Str):Prop where
 nodup:o.Nodup
 up:∀ (i:Nat) (x:Str),o[i]?=some x->zk x≠emptyS->∃ j:Nat,j<i/\o[j]?=some (zk x)
 need:∀ (i:Nat) (x:Str),o[i]?=some x->∀ y∈need x,∃ j:Nat,j<i/\o[j]?=some y
theorem ahd_nil:Ahd need []:=⟨List.Pairwise.nil,(λ _ _ h=>by cases h),(λ _ _ h=>by cases h)⟩
theorem Ahd.snoc{o:List Str}{s:Str}(h:Ahd need o)(hs:s ∉ o)(hp:zk s≠emptyS->zk s∈o)(hn:∀ y∈need s,y∈o):Ahd need (o++[s]):=by
 have old:∀ {j i:Nat} {y:Str},j<i->o[j]?=some y->(o++[s])[j]?=some y:=λ _ h=>by rw[List.getElem?_append_left (zA h)];exact h
 have at_:∀ {y:Str},y∈o->∃ j:Nat,j<o.length/\(o++[s])[j]?=some y:=λ hy=>by
  obtain⟨j,hj⟩:=List.getElem?_of_mem hy
  exact⟨j,zA hj,old (zA hj) hj⟩
 refine⟨List.nodup_append.2 ⟨h.nodup,by simp,λ a ha b hb e=>?_⟩,λ i x hx hpx=>?_,λ i x hx y hy=>?_⟩
 ·
  rw[List.mem_singleton.1 hb] at e
  exact hs (e ▸ ha)
 ·
  rcases ZF hx with hx | ⟨hi,hx⟩
  ·
   obtain⟨j,h1,h2⟩:=h.up i x hx hpx
   exact⟨j,h1,old h1 h2⟩
  ·
   subst hx
   obtain⟨j,h1,h2⟩:=at_ (hp hpx)
   exact⟨j,by omega,h2⟩
 ·
  rcases ZF hx with hx | ⟨hi,hx⟩
  ·
   obtain⟨j,h1,h2⟩:=h.need i x hx y hy
   exact⟨j,h1,old h1 h2⟩
  ·
   subst hx
   obtain⟨j,h1,h2⟩:=at_ (hn y hy)
   exact⟨j,by omega,h2⟩
structure Vis(need:Str->List Str)(U:Str->Prop)(rk:Str->Nat)(out:List Str)(m:Nat)(o:List Str):Prop where
 ahd:Ahd need o
 new:∃ l,o=out++l/\∀ x∈l,U x/\rk x<m
theorem Vis.old{out o:List Str}{m:Nat}(h:Vis need U rk out m o){x:Str}(hx:x∈out):x∈o:=let⟨_l,e,_⟩:=h.new;e ▸ List.mem_append_left _ hx
theorem Vis.not{out o:List Str}{m:Nat}(h:Vis need U rk out m o){x:Str}(hx:x ∉ out)(hm:m<=rk x):x ∉ o:=λ hy=>by
 obtain⟨l,rfl,h2⟩:=h.new
 rcases List.mem_append.1 hy with hy | hy
 ·
  exact hx hy
 ·
  have:=(h2 x hy).2;omega
theorem Vis.trans{out o o':List Str}{m m':Nat}(h:Vis need U rk out m o)(k:Vis need U rk o m' o')(hm:m<=m'):Vis need U rk out m' o':=by
 obtain⟨l,rfl,h2⟩:=h.new
 obtain⟨l',rfl,k2⟩:=k.new
 refine⟨k.ahd,l++l',by rw[List.append_assoc],λ x hx=>?_⟩
 rcases List.mem_append.1 hx with hx | hx
 ·
  exact⟨(h2 x hx).1,by have:=(h2 x hx).2;omega⟩
 ·
  exact k2 x hx
theorem Wx{out:List Str}{m:Nat}(h:Ahd need out):Vis need U rk out m out:=⟨h,[],by rw[List.append_nil],λ _ h=>by cases h⟩
def Sn(sn out opn:List Str):Prop:=∀ x,x∈sn ↔ x∈out\/x∈opn
def VisOk(need:Str->List Str)(U:Str->Prop)(rk:Str->Nat)(n:Nat):Prop:=∀ (s:Str) (out:List Str),U s->rk s<n->Ahd need out->∃ o,wz need n out s=some o/\Vis need U rk out (rk s+1) o/\s∈o/\∀ sn opn,Sn sn out opn->(∀ x∈opn,rk s<rk x)->∃ sn',Yj need (n+1) (sn,out) s=some (sn',o)/\Sn sn' o opn
theorem zdu{n:Nat}(h:VisOk need U rk n){m:Nat}(hm:m<=n):∀ (l out:List Str),(∀ y∈l,U y/\rk y<m)->Ahd need out->∃ o,l.foldlM (wz need n) out=some o/\Vis need U rk out m o/\(∀ y∈l,y∈o)/\∀ sn opn,Sn sn out opn->(∀ x∈opn,m<=rk x)->∃ sn',l.foldlM (Yj need (n+1)) (sn,out)=some (sn',o)/\Sn sn' o opn
 | [],out,_,ho=>⟨out,rfl,Wx ho,(λ _ h=>by cases h),λ sn _ hs _=>⟨sn,rfl,hs⟩⟩
 |
  y::l,out,hl,ho=>by
  obtain⟨hy,hyl⟩:=hl y (List.mem_cons_self ..)
  obtain⟨o1,h1,v1,m1,p1⟩:=h y out hy (by omega) ho
  obtain⟨o2,h2,v2,m2,p2⟩:=zdu h hm l o1 (λ z hz=>hl z (List.mem_cons_of_mem _ hz)) v1.ahd
  have v1':Vis need U rk out m o1:=v1.trans (Wx v1.ahd) (by omega)
  refine⟨o2,?_,v1'.trans v2 (Nat.le_refl _),λ z hz=>?_,λ sn opn hs hop=>?_⟩
  ·
   rw[List.foldlM_cons]
   show(wz need n out y).bind _=_
   rw[h1,obS]
   exact h2
  ·
   rcases List.mem_cons.1 hz with rfl | hz
   ·
    exact v2.old m1
   ·
    exact m2 z hz
  ·
   obtain⟨sn1,e1,k1⟩:=p1 sn opn hs λ x hx=>by have:=hop x hx;omega
   obtain⟨sn2,e2,k2⟩:=p2 sn1 opn k1 hop
   refine⟨sn2,?_,k2⟩
   rw[List.foldlM_cons]
   show(Yj need (n+1) (sn,out) y).bind _=_
   rw[e1,obS]
   exact e2
theorem visit_ok(k:Rk need U rk):∀ n,VisOk need U rk n
 | 0=>λ _ _ _ h=>by omega
 |
  n+1=>by
  intro s out hs hn ho
  have ih:=visit_ok k n
  by_cases hin:s∈out
  ·
   refine⟨out,by rw[ZH,if_pos hin],Wx ho,hin,λ sn opn h _=>⟨sn,?_,h⟩⟩
   rw[Jb,if_pos (.inr ((h s).2 (.inl hin)))]
  ·
   have hup:∃ o1,(if zk s=emptyS then some out else wz need n out (zk s))=some o1/\Vis need U rk out (rk s) o1/\(zk s≠emptyS->zk s∈o1)/\∀ sn opn,Sn sn out opn->(∀ x∈opn,rk s<=rk x)->∃ sn',Yj need (n+1) (sn,out) (zk s)=some (sn',o1)/\Sn sn' o1 opn:=by
    by_cases hp:zk s=emptyS
    ·
     refine⟨out,if_pos hp,Wx ho,λ h=>absurd hp h,λ sn opn h _=>⟨sn,?_,h⟩⟩
     rw[Jb,if_pos (.inl hp)]
    ·
     obtain⟨u1,u2⟩:=k.up s hs hp
     obtain⟨o1,h1,v1,m1,p1⟩:=ih (zk s) out u1 (by omega) ho
     refine⟨o1,by rw[if_neg hp];exact h1,v1.trans (Wx v1.ahd) (by omega),λ _=>m1,λ sn opn h hop=>p1 sn opn h λ x hx=>by have:=hop x hx;omega⟩
   obtain⟨o1,e1,v1,m1,p1⟩:=hup
   have n1:s ∉ o1:=v1.not hin (Nat.le_refl _)
   obtain⟨o2,e2,v2,m2,p2⟩:=zdu ih (m:=rk s) (by omega) (need s) o1 (λ y hy=>k.need s hs y hy) v1.ahd
   have n2:s ∉ o2:=v2.not n1 (Nat.le_refl _)
   have v12:=v1.trans v2 (Nat.le_refl _)
   refine⟨o2++[s],?_,⟨v2.ahd.snoc n2 (λ hp=>v2.old (m1 hp)) m2,?_⟩,by simp,λ sn opn h hop=>?_⟩
   ·
    rw[ZH,if_neg hin,e1,obS,if_neg n1,e2,obS]
   ·
    obtain⟨l,rfl,hl⟩:=v12.new
    refine⟨l++[s],by rw[List.append_assoc],λ x hx=>?_⟩
    rcases List.mem_append.1 hx with hx | hx
    ·
     exact⟨(hl x hx).1,by have:=(hl x hx).2;omega⟩
    ·
     rw[List.mem_singleton.1 hx]
     exact⟨hs,by omega⟩
   ·
    have hns:¬ (s=emptyS\/s∈sn):=by
     rintro (h1 | h1)
     ·
      exact k.ne s hs h1
     ·
      rcases(h s).1 h1 with h1 | h1
      ·
       exact hin h1
      ·
       have:=hop s h1;omega
    have hs1:Sn (s::sn) out (s::opn):=λ x=>by
     rw[List.mem_cons,List.mem_cons,h x]
     constructor
     ·
      rintro (h | h | h)
      ·
       exact .inr (.inl h)
      ·
       exact .inl h
      ·
       exact .inr (.inr h)
     ·
      rintro (h | h | h)
      ·
       exact .inr (.inl h)
      ·
       exact .inl h
      ·
       exact .inr (.inr h)
    have hop1:∀ x∈s::opn,rk s<=rk x:=λ x hx=>by
     rcases List.mem_cons.1 hx with rfl | hx
     ·
      exact Nat.le_refl _
     ·
      have:=hop x hx;omega
    obtain⟨sn1,f1,k1⟩:=p1 (s::sn) (s::opn) hs1 hop1
    obtain⟨sn2,f2,k2⟩:=p2 sn1 (s::opn) k1 hop1
    refine⟨sn2,?_,λ x=>?_⟩
    ·
     rw[Jb,if_neg hns,f1,obS,f2,obS]
    ·
     rw[k2 x,List.mem_append,List.mem_cons,List.mem_singleton]
     constructor
     ·
      rintro (h | h | h)
      ·
       exact .inl (.inl h)
      ·
       exact .inl (.inr h)
      ·
       exact .inr h
     ·
      rintro ((h | h) | h)
      ·
       exact .inl h
      ·
       exact .inr (.inl h)
      ·
       exact .inr (.inr h)
end
section
variable{t:Tree}{path:List Int}{s:Str}
def wc(t:Tree)(path:List Int)(x:Str):List Str:=(if zk x=emptyS then[] else[zk x])++zT t.files path x
theorem Jc{x y:Str}:y∈wc t path x ↔ (zk x≠emptyS/\y=zk x)\/y∈zT t.files path x:=by
 unfold wc
 rw[List.mem_append]
 by_cases h:zk x=emptyS
 ·
  rw[if_pos h];simp[h]
 ·
  rw[if_neg h];simp[h]
theorem Jd{x y:Str}(h:y∈zT t.files path x):y∈yl t.files path x:=YN.2 (List.mem_flatMap.2 ⟨y,h,Jw _⟩)
theorem zbF{l:List Str}(hl:∀ y∈l,zk y≠emptyS->zk y∈l){y:Str}(h:Way (yl t.files path) l y)(hp:zk y≠emptyS):Way (yl t.files path) l (zk y):=by
 cases h with
 | here h=>exact .here (hl y h hp)
 | step hy h=>exact .step hy (zbE h hp)
inductive Anc:Str->Str->Prop
 | one {x:Str} (h:zk x≠emptyS):Anc x (zk x)
 | more {x y:Str} (h:Anc x y) (hp:zk y≠emptyS):Anc x (zk y)
theorem Anc.less{x y:Str}(h:Anc x y)(hx:zd x=true):(zj y dot).length<(zj x dot).length/\zd y=true:=by
 induction h with
 | one hp=>obtain⟨e1,e2⟩:=wP hx hp;exact⟨by omega,e2⟩
 | more h hp ih=>obtain⟨e1,e2⟩:=wP ih.2 hp;exact⟨by have:=ih.1;omega,e2⟩
theorem Anc.way{l:List Str}(hl:∀ y∈l,zk y≠emptyS->zk y∈l){x y:Str}(h:Anc x y)(hw:Way (yl t.files path) l x):Way (yl t.files path) l y:=by
 induction h with
 | one hp=>exact zbF hl hw hp
 | more h hp ih=>exact zbF hl ih hp
theorem lead_way{x y:Str}(h:Way (wc t path) (wc t path x) y):Anc x y\/∃ u,(u=x\/Anc x u)/\Way (yl t.files path) (yl t.files path u) y:=by
 induction h with
 |
  here h=>
  rcases Jc.1 h with⟨h1,rfl⟩ | h
  ·
   exact .inl (.one h1)
  ·
   exact .inr ⟨x,.inl rfl,.here (Jd h)⟩
 |
  step hy h ih=>
  rcases ih with ih | ⟨u,hu,ih⟩
  ·
   rcases Jc.1 h with⟨h1,rfl⟩ | h
   ·
    exact .inl (.more ih h1)
   ·
    exact .inr ⟨_,.inr ih,.here (Jd h)⟩
  ·
   rcases Jc.1 h with⟨h1,rfl⟩ | h
   ·
    exact .inr ⟨u,hu,zbF (λ y h hp=>zbE h hp) ih h1⟩
   ·
    exact .inr ⟨u,hu,.step ih (Jd h)⟩
theorem no_ring{U:Str->Prop}(hU:∀ x,U x->zd x=true/\(zk x≠emptyS->U (zk x)))(hr:∀ u,U u->¬ Way (yl t.files path) (yl t.files path u) u){x:Str}(hx:U x):¬ Way (wc t path) (wc t path x) x:=λ h=>by
 rcases lead_way h with h | ⟨u,hu,h⟩
 ·
  have:=(h.less (hU x hx).1).1;omega
 ·
  rcases hu with rfl | hu
  ·
   exact hr u hx h
  ·
   have hUu:U u:=by
    clear h
    induction hu with
    | one hp=>exact(hU _ hx).2 hp
    | more _ hp ih=>exact(hU _ ih).2 hp
   exact hr u hUu (hu.way (λ y h hp=>zbE h hp) h)
open Classical in
noncomputable def rankOf (t:Tree) (path:List Int) (W:List Str) (x:Str):Nat:=(W.filter λ y=>decide (Way (wc t path) (wc t path x) y)).length
theorem rank_lt{W:List Str}{x y:Str}(hy:y∈wc t path x)(hW:y∈W)(hn:¬ Way (wc t path) (wc t path y) y):rankOf t path W y<rankOf t path W x:=by
 classical
 unfold rankOf
 have sub:∀ z,Way (wc t path) (wc t path y) z->Way (wc t path) (wc t path x) z:=λ z h=>h.mono λ w hw=>.step (.here hy) hw
 have h1:∀ l:List Str,(l.filter λ z=>decide (Way (wc t path) (wc t path y) z)).length<=(l.filter λ z=>decide (Way (wc t path) (wc t path x) z)).length:=λ l=>by
  induction l with
  | nil=>exact Nat.le_refl _
  |
   cons a l ih=>
   rw[List.filter_cons,List.filter_cons]
   by_cases h:Way (wc t path) (wc t path y) a
   ·
    rw[if_pos (by simpa using h),if_pos (by simpa using sub a h)]
    simpa using ih
   ·
    rw[if_neg (by simpa using h)]
    split
    ·
     rw[List.length_cons];omega
    ·
     exact ih
 obtain⟨a,b,rfl⟩:=List.append_of_mem hW
 rw[List.filter_append,List.filter_append,List.filter_cons,List.filter_cons,if_neg (by simpa using hn),if_pos (by simpa using(Way.here hy:Way (wc t path) _ y)),List.length_append,List.length_append,List.length_cons]
 have:=h1 a
 have:=h1 b
 omega
theorem rank_le(W:List Str)(x:Str):rankOf t path W x<=W.length:=by
 classical
 exact List.length_filter_le ..
theorem rk_reach(hv:zw t=true)(hs:zd s=true)(hr:∀ u∈yI t path s,XO t path s u=false):Rk (zT t.files path) (·∈yI t path s) (rankOf t path (yI t path s)):=by
 have hi:∀ {y:Str},y∈yI t path s ↔ Way (yl t.files path) (yJ s) y:=Ys hv hs (qO hs) λ _ h=>jt h
 have par:∀ x,x∈yI t path s->zk x≠emptyS->zk x∈yI t path s:=λ x hx hp=>hi.2 (zbF (λ y h hp=>(Ja _ rfl hs).1 y h hp) (hi.1 hx) hp)
 have nd:∀ x,x∈yI t path s->∀ y∈zT t.files path x,y∈yI t path s:=λ x hx y hy=>hi.2 (.step (hi.1 hx) (Jd hy))
 have hring:∀ u,u∈yI t path s->¬ Way (yl t.files path) (yl t.files path u) u:=λ u hu h=>by
  have h1:=hr u hu
  unfold XO at h1
  rw[decide_eq_false_iff_not] at h1
  exact h1 ((Ys hv hs (zdf _) λ y hy=>YQ hv hs u (Q7 hv hs (λ _ h=>jt h) hu) y hy).2 h)
 have hno:∀ u,u∈yI t path s->¬ Way (wc t path) (wc t path u) u:=λ u hu=>no_ring (U:=(·∈yI t path s)) (λ x hx=>⟨qW hv hs hx,par x hx⟩) hring hu
 exact⟨λ x hx=>valid_ne (qW hv hs hx),λ x hx hp=>⟨par x hx hp,rank_lt (Jc.2 (.inl ⟨hp,rfl⟩)) (par x hx hp) (hno _ (par x hx hp))⟩,
  λ x hx y hy=>⟨nd x hx y hy,rank_lt (Jc.2 (.inr hy)) (nd x hx y hy) (hno _ (nd x hx y hy))⟩⟩
def y7(t:Tree)(path:List Int)(s:Str):Bool:=okG t path s&&decide (YS t path s=[])&&decide (j9 t path s=[])
def wX(t:Tree)(path:List Int)(s:Str):List Str:=if y7 t path s=true then(wz (zT t.files path) 301 [] s).getD [] else[]
theorem ZN(h:y7 t path s=true):okG t path s=true/\(∀ u∈yI t path s,XO t path s u=false)/\∀ u∈yI t path s,YR t path u=false:=by
 unfold y7 at h
 simp only[Bool.and_eq_true,decide_eq_true_eq] at h
 obtain⟨⟨h1,h2⟩,h3⟩:=h
 refine⟨h1,λ u hu=>?_,λ u hu=>?_⟩
 ·
  cases hc:XO t path s u with
  | false=>rfl
  |
   true=>
   have:u∈YS t path s:=List.mem_filter.2 ⟨(Jz h1).2 hu,hc⟩
   rw[h2] at this;cases this
 ·
  cases hc:YR t path u with
  | false=>rfl
  |
   true=>
   have:u∈j9 t path s:=List.mem_filter.2 ⟨(Jz h1).2 hu,hc⟩
   rw[h3] at this;cases this
theorem WN(hv:zw t=true)(hs:zd s=true):s∈yI t path s:=(Ys hv hs (qO hs) λ _ h=>jt h).2 (.here (Jw _))
theorem Yv(h:y7 t path s=true):wz (zT t.files path) 301 [] s=some (wX t path s)/\Vis (zT t.files path) (·∈yI t path s) (rankOf t path (yI t path s)) [] (rankOf t path (yI t path s) s+1) (wX t path s)/\s∈wX t path s/\∃ sn,Yj (zT t.files path) 302 ([],[]) s=some (sn,wX t path s)/\∀ x∈sn,x∈wX t path s:=by
 obtain⟨hok,hr,_⟩:=ZN h
 obtain⟨hv,_,hs⟩:=xI hok
 have hlen:=Yh (path:=path) hv hs
 obtain⟨o,h1,h2,h3,h4⟩:=visit_ok (rk_reach hv hs hr) 301 s [] (WN hv hs) (by have:=rank_le (t:=t) (path:=path) (yI t path s) s;omega) ahd_nil
 have e:wX t path s=o:=by unfold wX;rw[if_pos h,h1];rfl
 rw[e]
 obtain⟨sn,h5,h6⟩:=h4 [] [] (λ x=>by simp) (λ _ h=>by cases h)
 exact⟨h1,h2,h3,sn,h5,λ x hx=>((h6 x).1 hx).elim id λ h=>by cases h⟩
end
open Go.RowKit Tryz
theorem Xh{α σ:Type}{f:σ->α->Option σ}{m:σ->Nat}(hm:∀ s x o,f s x=some o->m s<=m o):∀ (l:List α) (s o:σ),l.foldlM f s=some o->m s<=m o
 | [],s,o,h=>by injection h with h;rw[h];exact Nat.le_refl _
 |
  x::l,s,o,h=>by
  rw[List.foldlM_cons] at h
  obtain⟨s1,h1,h2⟩:=bs h
  exact Nat.le_trans (hm _ _ _ h1) (Xh hm l s1 o h2)
theorem zdv{S σ α β:Type}{step:S->Option (S⊕β)}(l:List α)(f:σ->α->Option σ)(mk:σ->Nat->S)(fin:σ->β)(m:σ->Nat)(B:Nat)(hm:∀ s x o,f s x=some o->m s<=m o)
  (h:∀ k s x o,l[k]?=some x->k<l.length->f s x=some o->m o<=B->step (mk s k)=some (.inl (mk o (k+1)))) (hend:∀ s,step (mk s l.length)=some (.inr (fin s))) (hl:l.length<576460752303423488) {s o:σ} (he:l.foldlM f s=some o) (hB:m o<=B):zK step (mk s 0)=some (fin o):=by
 have key:∀ j k s,k+j=l.length->(l.drop k).foldlM f s=some o->jM step (j+1) (mk s k)=some (fin o):=by
  intro j
  induction j with
  |
   zero=>
   intro k s hk he
   have:k=l.length:=by omega
   subst this
   rw[List.drop_length] at he
   injection he with he
   rw[← he]
   exact yX (hend s)
  |
   succ j ih=>
   intro k s hk he
   have hlt:k<l.length:=by omega
   rw[List.drop_eq_getElem_cons hlt,List.foldlM_cons] at he
   obtain⟨s1,h1,h2⟩:=bs he
   have hg:=Xh hm _ _ _ h2
   rw[qL (h k s l[k] s1 (List.getElem?_eq_getElem hlt) hlt h1 (by omega))]
   exact ih (k+1) s1 (by omega) h2
 exact qM (key l.length 0 s (by omega) (by rw[List.drop_zero];exact he)) (by omega)
section
variable{need:Str->List Str}
theorem XH:∀ (n:Nat) (out:List Str) (s:Str) (o:List Str),wz need n out s=some o->out.length<=o.length
 | 0,_,_,_,h=>by cases h
 |
  n+1,out,s,o,h=>by
  rw[ZH] at h
  by_cases hs:s∈out
  ·
   rw[if_pos hs] at h;injection h with h;rw[h];exact Nat.le_refl _
  ·
   rw[if_neg hs] at h
   obtain⟨o1,h1,h⟩:=bs h
   have g1:out.length<=o1.length:=by
    by_cases hp:zk s=emptyS
    ·
     rw[if_pos hp] at h1;injection h1 with h1;rw[h1];exact Nat.le_refl _
    ·
     rw[if_neg hp] at h1;exact XH n _ _ _ h1
   by_cases hs1:s∈o1
   ·
    rw[if_pos hs1] at h;injection h with h;rw[← h];exact g1
   ·
    rw[if_neg hs1] at h
    obtain⟨o2,h2,h⟩:=bs h
    have g2:=Xh (m:=List.length) (XH n) _ _ _ h2
    injection h with h
    rw[← h,List.length_append]
    omega
def psz(p:List Str×List Str):Nat:=p.1.length+p.2.length
theorem Yw:∀ (n:Nat) (p:List Str×List Str) (s:Str) (o:List Str×List Str),Yj need n p s=some o->psz p<=psz o
 | 0,_,_,_,h=>by cases h
 |
  n+1,p,s,o,h=>by
  rw[Jb] at h
  by_cases hs:s=emptyS\/s∈p.1
  ·
   rw[if_pos hs] at h;injection h with h;rw[h];exact Nat.le_refl _
  ·
   rw[if_neg hs] at h
   obtain⟨o1,h1,h⟩:=bs h
   obtain⟨o2,h2,h⟩:=bs h
   have g1:=Yw n _ _ _ h1
   have g2:=Xh (m:=psz) (Yw n) _ _ _ h2
   injection h with h
   rw[← h]
   unfold psz at*
   simp only[List.length_cons,List.length_append] at*
   omega
theorem JF:∀ (n:Nat) (p:List Str×List Str) (s:Str) (o:List Str×List Str),p.1.Nodup->Yj need n p s=some o->o.1.Nodup
 | 0,_,_,_,_,h=>by cases h
 |
  n+1,p,s,o,hn,h=>by
  rw[Jb] at h
  by_cases hs:s=emptyS\/s∈p.1
  ·
   rw[if_pos hs] at h;injection h with h;rw[← h];exact hn
  ·
   rw[if_neg hs] at h
   obtain⟨o1,h1,h⟩:=bs h
   obtain⟨o2,h2,h⟩:=bs h
   have n1:=JF n (s::p.1,p.2) _ _ (List.nodup_cons.2 ⟨λ h=>hs (.inr h),hn⟩) h1
   have key:∀ (l:List Str) (q r:List Str×List Str),q.1.Nodup->l.foldlM (Yj need n) q=some r->r.1.Nodup:=λ l=>by
    induction l with
    | nil=>intro q r hq hr;injection hr with hr;rw[← hr];exact hq
    |
     cons x l ih=>
     intro q r hq hr
     rw[List.foldlM_cons] at hr
     obtain⟨q1,k1,k2⟩:=bs hr
     exact ih q1 r (JF n _ _ _ hq k1) k2
   injection h with h
   rw[← h]
   show o2.1.Nodup
   exact key _ _ _ n1 h2
end
structure Cl(t:Tree)(path:List Int)(U:Str->Prop):Prop where
 valid:∀ x,U x->zd x=true
 up:∀ x,U x->zk x≠emptyS->U (zk x)
 need:∀ x,U x->∀ y∈zT t.files path x,U y
section
variable{t:Tree}{path:List Int}{s:Str}{U:Str->Prop}
theorem JG(hv:zw t=true)(hp:path.length<=1048576)(hU:Cl t path U):∀ (n:Nat) (s:Str) (out o:List Str),U s->wz (zT t.files path) n out s=some o->o.length<=1000->qc n t path s out=some o
 | 0,_,_,_,_,h,_=>by cases h
 |
  n+1,s,out,o,hs,h,ho=>by
  have g0:=XH _ _ _ _ h
  have hpar:yz s=some (zk s):=if_pos (yP (hU.valid s hs)).mid
  rw[ZH] at h
  show YX (qc n) t path s out=some o
  unfold YX
  rw[Zd (by omega),obS]
  by_cases h1:s∈out
  ·
   rw[if_pos h1] at h
   rw[decide_eq_true h1,if_pos rfl,h]
  ·
   rw[if_neg h1] at h
   obtain⟨o1,e1,h⟩:=bs h
   rw[decide_eq_false h1,if_neg (by decide)]
   have g1:o1.length<=o.length:=by
    by_cases h2:s∈o1
    ·
     rw[if_pos h2] at h;injection h with h;rw[h];exact Nat.le_refl _
    ·
     rw[if_neg h2] at h
     obtain⟨o2,e2,h⟩:=bs h
     have:=Xh (m:=List.length) (XH n) _ _ _ e2
     injection h with h
     rw[← h,List.length_append]
     omega
   have e1':((yz s).bind λ v9=>if(decide (v9≠(⟨[]⟩:Str)))=true then((yz s).bind λ v14=>(qc n t path v14 out).bind λ v15=>some v15) else(some out))=some o1:=by
    rw[hpar,obS,obS]
    by_cases he:zk s=emptyS
    ·
     rw[if_pos he] at e1
     rw[if_neg (by simp[show zk s=(⟨[]⟩:Str) from he])]
     exact e1
    ·
     rw[if_neg he] at e1
     rw[if_pos (decide_eq_true (show zk s≠(⟨[]⟩:Str) from he)),JG hv hp hU n _ _ _ (hU.up s hs he) e1 (by omega),obS]
   rw[e1',obS,Zd (by omega),obS]
   by_cases h2:s∈o1
   ·
    rw[if_pos h2] at h
    rw[decide_eq_true h2,if_pos rfl,h]
   ·
    rw[if_neg h2] at h
    obtain⟨o2,e2,h⟩:=bs h
    injection h with h
    subst h
    rw[List.length_append] at ho
    rw[decide_eq_false h2,if_neg (by decide),JK hv hp (hU.valid s hs),obS]
    have hn8:=XE (path:=path) hv (hU.valid s hs)
    have hl:zK (λ s31=>jR (qc n) t path (zT t.files path s) s31) (o1,(0:Int))=some o2:=by
     refine zdv (zT t.files path s) (wz (zT t.files path) n) (λ o k=>(o,(k:Int))) (λ o=>o) List.length 1000 (XH n) (λ k s' x o' hx hk hf hB=>?_) (λ s'=>?_) (by omega) e2 (by omega)
     ·
      unfold jR
      simp only
      rw[zE,if_pos (decide_eq_true hk),zQ,hx,obS,JG hv hp hU n x s' o' (hU.need s hs x (List.mem_of_getElem? hx)) hf hB,obS,zS (by omega)]
      rfl
     ·
      unfold jR
      simp only
      rw[zE,if_neg (by simp)]
    rw[hl,obS,yH (by simp;omega) (by simp;omega),obS,List.nil_append,yH (by simp;omega) (by simp;omega),obS]
theorem visit_eq(ht:xg t)(hok:okG t path s=true)(hp:path.length<=1048576)(hU:Cl t path U):∀ (n:Nat) (s:Str) (p o:List Str×List Str),(s=emptyS\/U s)->Yj (zT t.files path) n p s=some o->psz o<=2000->JE t path n s p=some o
 | 0,_,_,_,_,h,_=>by cases h
 |
  n+1,s,p,o,hs,h,ho=>by
  have g0:=Yw _ _ _ _ h
  rw[Jb] at h
  show jp (JE t path n) s p.1 t path p.2=some o
  unfold jp
  have hc:(decide (s=(⟨[]⟩:Str))||decide (s∈p.1))=decide (s=emptyS\/s∈p.1):=by
   by_cases h1:s=emptyS <;> by_cases h2:s∈p.1 <;> simp[h1,h2,show((⟨[]⟩:Str))=emptyS from rfl]
  rw[hc]
  by_cases h1:s=emptyS\/s∈p.1
  ·
   rw[if_pos h1] at h
   rw[decide_eq_true h1,if_pos rfl]
   exact h
  ·
   rw[if_neg h1] at h
   obtain⟨o1,e1,h⟩:=bs h
   obtain⟨o2,e2,h⟩:=bs h
   injection h with h
   subst h
   have hs':U s:=hs.elim (λ e=>absurd (.inl e) h1) id
   have hsv:=hU.valid s hs'
   obtain⟨hv,_,_⟩:=xI hok
   have g2:=Xh (m:=psz) (Yw n) _ _ _ e2
   have g1:=Yw n _ _ _ e1
   unfold psz at ho g0 g1 g2
   simp only[List.length_append,List.length_cons,List.length_nil] at ho g0 g1 g2
   have hput:Qu p.1 s=some (s::p.1):=by
    unfold Qu
    rw[if_neg (λ h=>h1 (.inr h)),if_pos (by omega)]
   have hn8:=XE (path:=path) hv hsv
   have hpar:zk s=emptyS\/U (zk s):=by
    by_cases he:zk s=emptyS
    ·
     exact .inl he
    ·
     exact .inr (hU.up s hs' he)
   rw[decide_eq_false h1,if_neg (by decide),hput,obS,Yq hsv,obS,visit_eq ht hok hp hU n _ _ _ hpar e1 (by unfold psz;omega),obS,zdl ht hp (yP hsv),if_pos (zbv hok hsv),obS]
   have hl:zK (λ s18=>xm (JE t path n) (zT t.files path s) s18) (o1.2,(0:Int),o1.1)=some (o2.2,o2.1):=by
    refine zdv (zT t.files path s) (Yj (zT t.files path) n) (λ q k=>(q.2,(k:Int),q.1)) (λ q=>(q.2,q.1)) psz 2000 (Yw n) (λ k s' x o' hx hk hf hB=>?_) (λ s'=>?_) (by omega) e2 (by unfold psz;omega)
    ·
     unfold xm
     simp only
     rw[zE,if_pos (decide_eq_true hk),zQ,hx,obS,visit_eq ht hok hp hU n x s' o' (.inr (hU.need s hs' x (List.mem_of_getElem? hx))) hf hB,obS,zS (by omega)]
     rfl
    ·
     unfold xm
     simp only
     rw[zE,if_neg (by simp)]
   rw[hl,obS,yH (by simp;omega) (by simp;omega),obS]
theorem cl_reach(hv:zw t=true)(hs:zd s=true):Cl t path (·∈yI t path s):=by
 have hi:∀ {y:Str},y∈yI t path s ↔ Way (yl t.files path) (yJ s) y:=Ys hv hs (qO hs) λ _ h=>jt h
 exact⟨λ x hx=>qW hv hs hx,λ x hx hp=>hi.2 (zbF (λ y h hp=>(Ja _ rfl hs).1 y h hp) (hi.1 hx) hp),λ x hx y hy=>hi.2 (.step (hi.1 hx) (Jd hy))⟩
theorem plain_sub(h:y7 t path s=true):∀ x∈wX t path s,x∈yI t path s:=λ x hx=>by
 obtain⟨_,⟨_,l,e,hl⟩,_⟩:=Yv h
 rw[e] at hx
 rw[List.nil_append] at hx
 exact(hl x hx).1
theorem plain_nodup(h:y7 t path s=true):(wX t path s).Nodup:=(Yv h).2.1.ahd.nodup
theorem Qk(t:Tree)(path:List Int)(s:Str):(wX t path s).length<=1000:=by
 cases h:y7 t path s with
 | false=>unfold wX;rw[if_neg (by simp[h])];simp
 |
  true=>
  obtain⟨hok,_,_⟩:=ZN h
  obtain⟨hv,_,hs⟩:=xI hok
  have h1:=jJ (plain_nodup h) (plain_sub h)
  have h2:=Yh hv (path:=path) hs
  omega
def Ql(t:Tree)(path:List Int)(s:Str):List Str×Bool:=(wX t path s,y7 t path s)
theorem Je(h:y7 t path s=false):Ql t path s=([],false):=by
 unfold Ql wX
 rw[h]
 rfl
theorem gt_nil(l:List Str):cmpI .gtr (l.length:Int) (0:Int)=!decide (l=[]):=by
 cases l with
 | nil=>rfl
 |
  cons x l=>
  have:cmpI .gtr ((x::l).length:Int) (0:Int)=true:=by simp only[cmpI,decide_eq_true_eq,List.length_cons];omega
  rw[this]
  rfl
theorem zcd(hp:path.length<=1048576)(h:y7 t path s=true):qc 301 t path s []=some (wX t path s):=by
 obtain⟨hok,_,_⟩:=ZN h
 obtain⟨hv,_,hs⟩:=xI hok
 exact JG hv hp (cl_reach hv hs) 301 s [] _ (WN hv hs) (Yv h).1 (Qk ..)
theorem zce(ht:xg t)(hp:path.length<=1048576)(h:y7 t path s=true):∃ sn,JE t path 302 s ([],[])=some (sn,wX t path s):=by
 obtain⟨hok,_,_⟩:=ZN h
 obtain⟨hv,_,hs⟩:=xI hok
 obtain⟨h1,h2,h3,sn,h4,h5⟩:=Yv h
 have hn:sn.Nodup:=JF 302 ([],[]) s (sn,wX t path s) List.Pairwise.nil h4
 have hlen:=Yh hv (path:=path) hs
 have hsub:∀ x∈sn,x∈yI t path s:=λ x hx=>plain_sub h x (h5 x hx)
 have hl:sn.length<=(yI t path s).length:=jJ hn hsub
 have hl2:=Qk t path s
 exact⟨sn,visit_eq ht hok hp (cl_reach hv hs) 302 s _ _ (.inr (WN hv hs)) h4 (by unfold psz;simp only;omega)⟩
theorem PlainOrder_eq(ht:xg t)(hp:path.length<=1048576)(hn:sho s):qb t path s=some (Ql t path s):=by
 unfold qb
 rw[zaG ht hp hn,obS,RingsOf_eq ht hp hn,MissingOf_eq ht hp hn,xk,obS,xk,obS]
 cases hok:okG t path s with
 |
  false=>
  have e:y7 t path s=false:=by unfold y7;rw[hok];rfl
  rw[Je e]
  rfl
 |
  true=>
  show(if((false||cmpI .gtr ((YS t path s).length:Int) 0)||cmpI .gtr (((if((false||cmpI .gtr ((YS t path s).length:Int) 0) == false)=true then j9 t path s else default):List Str).length:Int) 0)=true then _ else _)=_
  rw[gt_nil]
  by_cases hr:YS t path s=[]
  ·
   rw[decide_eq_true hr]
   show(if((false||!true)||cmpI .gtr ((j9 t path s).length:Int) 0)=true then _ else _)=_
   rw[gt_nil]
   by_cases hm:j9 t path s=[]
   ·
    have e:y7 t path s=true:=by unfold y7;rw[hok,decide_eq_true hr,decide_eq_true hm];rfl
    obtain⟨sn,h1⟩:=zce ht hp e
    rw[decide_eq_true hm,if_neg (by decide),h1,obS]
    unfold Ql
    rw[e]
   ·
    have e:y7 t path s=false:=by unfold y7;rw[decide_eq_false hm,Bool.and_false]
    rw[decide_eq_false hm,Je e]
    rfl
  ·
   have e:y7 t path s=false:=by unfold y7;rw[decide_eq_false hr,Bool.and_false,Bool.false_and]
   rw[decide_eq_false hr,Je e]
   rfl
theorem zaO(ht:xg t)(hp:path.length<=1048576)(hn:sho s):qd t path s=some (Ql t path s):=by
 unfold qd
 rw[show xW t=some (zw t) from if_pos ht,obS,show xX path=some (xA path) from if_pos trivial,xk,obS,show yx s=some (zd s) from if_pos hn.mid,xk,obS,zcP ht hp hn,xk,obS,zbu ht hp hn,xk,obS]
 have no:okG t path s=false->Ql t path s=([],false):=λ h=>Je (by unfold y7;rw[h];rfl)
 cases hv:zw t with
 | false=>rw[no (by unfold okG;rw[hv];rfl)];rfl
 |
  true=>
  cases hpp:xA path with
  | false=>rw[no (by unfold okG;rw[hv,hpp];rfl)];rfl
  |
   true=>
   cases hs:zd s with
   | false=>rw[no (by unfold okG;rw[hv,hpp,hs];rfl)];rfl
   |
    true=>
    have hok:okG t path s=true:=by unfold okG;rw[hv,hpp,hs];rfl
    show(if((false||cmpI .gtr ((YS t path s).length:Int) 0)||cmpI .gtr (((if((false||cmpI .gtr ((YS t path s).length:Int) 0) == false)=true then j9 t path s else default):List Str).length:Int) 0)=true then _ else _)=_
    rw[gt_nil]
    by_cases hr:YS t path s=[]
    ·
     rw[decide_eq_true hr]
     show(if((false||!true)||cmpI .gtr ((j9 t path s).length:Int) 0)=true then _ else _)=_
     rw[gt_nil]
     by_cases hm:j9 t path s=[]
     ·
      have e:y7 t path s=true:=by unfold y7;rw[hok,decide_eq_true hr,decide_eq_true hm];rfl
      rw[decide_eq_true hm,if_neg (by decide),zcd hp e,obS]
      unfold Ql
      rw[e]
     ·
      have e:y7 t path s=false:=by unfold y7;rw[decide_eq_false hm,Bool.and_false]
      rw[decide_eq_false hm,Je e]
      rfl
    ·
     have e:y7 t path s=false:=by unfold y7;rw[decide_eq_false hr,Bool.and_false,Bool.false_and]
     rw[decide_eq_false hr,Je e]
     rfl
end
open Go.RowKit Tryz
variable{t:Tree}{path:List Int}{a b st:RSt}{e:Int}{s:Str}{U:Str->Prop}{R:Nat}{I:RImp}{need:Str->List Str}{rk:Str->Nat}{opn:List Str}
def V(need:Str->List Str)(out:List Str)(s:Str)(o:List Str):Prop:=∃ N,wz need N out s=some o
def VL(need:Str->List Str)(out:List Str)(l:List Str)(o:List Str):Prop:=∃ N,l.foldlM (wz need N) out=some o
theorem VL.nil(out:List Str):VL need out [] out:=⟨0,rfl⟩
theorem VL.cons{out o1 o:List Str}{l:List Str}(h:V need out s o1)(k:VL need o1 l o):VL need out (s::l) o:=by
 obtain⟨n,h⟩:=h
 obtain⟨m,k⟩:=k
 refine⟨max n m,?_⟩
 rw[List.foldlM_cons]
 show(wz need (max n m) out s).bind _=_
 rw[Yu (Nat.le_max_left ..) h,obS]
 exact XG (λ _ _ _ h=>Yu (Nat.le_max_right ..) h) _ _ _ k
theorem VL.one{out o:List Str}(h:V need out s o):VL need out [s] o:=VL.cons h (VL.nil o)
theorem VL.app{out o1 o:List Str}:∀ {l m:List Str},VL need out l o1->VL need o1 m o->VL need out (l++m) o:=by
 intro l
 induction l generalizing out with
 | nil=>intro m h k;obtain⟨n,h⟩:=h;injection h with h;subst h;exact k
 |
  cons x l ih=>
  intro m h k
  obtain⟨n,h⟩:=h
  rw[List.foldlM_cons] at h
  obtain⟨o2,h1,h2⟩:=bs h
  exact VL.cons ⟨n,h1⟩ (ih ⟨n,h2⟩ k)
theorem zaP:∀ (n:Nat) (out:List Str) (s:Str) (o:List Str),wz need n out s=some o->(∀ y∈out,y∈o)/\s∈o
 | 0,_,_,_,h=>by cases h
 |
  n+1,out,s,o,h=>by
  have hl:∀ (l out o:List Str),l.foldlM (wz need n) out=some o->∀ y∈out,y∈o:=by
   intro l
   induction l with
   | nil=>intro out o h y hy;injection h with h;subst h;exact hy
   |
    cons x l ih=>
    intro out o h y hy
    rw[List.foldlM_cons] at h
    obtain⟨o1,h1,h2⟩:=bs h
    exact ih o1 o h2 y ((zaP n _ _ _ h1).1 y hy)
  rw[ZH] at h
  by_cases hs:s∈out
  ·
   rw[if_pos hs] at h;injection h with h;subst h;exact⟨λ x q=>q,hs⟩
  ·
   rw[if_neg hs] at h
   obtain⟨o1,h1,h⟩:=bs h
   have s1:∀ y∈out,y∈o1:=by
    split at h1
    ·
     injection h1 with h1;subst h1;exact λ _ h=>h
    ·
     exact(zaP n _ _ _ h1).1
   by_cases hs1:s∈o1
   ·
    rw[if_pos hs1] at h;injection h with h;subst h;exact⟨s1,hs1⟩
   ·
    rw[if_neg hs1] at h
    obtain⟨o2,h2,h⟩:=bs h
    injection h with h;subst h
    exact⟨λ y hy=>List.mem_append_left _ (hl _ _ _ h2 y (s1 y hy)),by simp⟩
theorem vl_uniqA{n:Nat}:∀ (l acc out o:List Str),(∀ x∈acc,x∈out)->l.foldlM (wz need (n+1)) out=some o->∃ l',xH acc l=acc++l'/\l'.foldlM (wz need (n+1)) out=some o
 | [],acc,out,o,_,h=>⟨[],by rw[List.append_nil];rfl,h⟩
 |
  x::l,acc,out,o,ha,h=>by
  rw[List.foldlM_cons] at h
  obtain⟨o1,h1,h2⟩:=bs h
  show ∃ l',xH (addU acc x) l=acc++l'/\_
  unfold addU
  by_cases hx:x∈acc
  ·
   rw[if_pos hx]
   rw[ZH,if_pos (ha x hx)] at h1
   injection h1 with h1;subst h1
   exact vl_uniqA l acc out o ha h2
  ·
   rw[if_neg hx]
   obtain⟨s1,s2⟩:=zaP _ _ _ _ h1
   obtain⟨l',e1,e2⟩:=vl_uniqA l (acc++[x]) o1 o (λ y hy=>by
    rcases List.mem_append.1 hy with hy | hy
    ·
     exact s1 y (ha y hy)
    ·
     rw[List.mem_singleton.1 hy];exact s2) h2
   refine⟨x::l',by rw[e1,List.append_assoc];rfl,?_⟩
   rw[List.foldlM_cons]
   show(wz need (n+1) out x).bind _=_
   rw[h1,obS]
   exact e2
theorem VL.uniq{out o l:List Str}(h:VL need out l o):VL need out (uniq l) o:=by
 obtain⟨n,h⟩:=h
 have h1:=XG (λ _ _ _ h=>WM n _ _ _ h) _ _ _ h
 obtain⟨l',e1,e2⟩:=vl_uniqA l [] out o (λ _ h=>by cases h) h1
 refine⟨n+1,?_⟩
 unfold Go.Proofs.YtpmkkijamfgaeaaGreatDoor.uniq
 rw[e1]
 exact e2
theorem V.vis(k:Rk need U rk){out o:List Str}(hs:U s)(ho:Ahd need out)(h:V need out s o):Vis need U rk out (rk s+1) o/\s∈o:=by
 obtain⟨n,h⟩:=h
 obtain⟨o',h1,h2,h3,_⟩:=visit_ok k (rk s+1) s out hs (by omega) ho
 have e1:=Yu (Nat.le_max_left n (rk s+1)) h
 rw[Yu (Nat.le_max_right n (rk s+1)) h1] at e1
 injection e1 with e1
 subst e1
 exact⟨h2,h3⟩
theorem VL.vis(k:Rk need U rk){m:Nat}:∀ {l out o:List Str},(∀ y∈l,U y/\rk y<m)->Ahd need out->VL need out l o->Vis need U rk out m o
 | [],out,o,_,ho,h=>by obtain⟨n,h⟩:=h;injection h with h;subst h;exact Wx ho
 |
  x::l,out,o,hl,ho,h=>by
  obtain⟨n,h⟩:=h
  rw[List.foldlM_cons] at h
  obtain⟨o1,h1,h2⟩:=bs h
  obtain⟨hx,hr⟩:=hl x (List.mem_cons_self ..)
  have v1:=(V.vis k hx ho ⟨n,h1⟩).1
  exact(v1.trans (Wx v1.ahd) (by omega)).trans (VL.vis k (λ y hy=>hl y (List.mem_cons_of_mem _ hy)) v1.ahd ⟨n,h2⟩) (Nat.le_refl _)
theorem V.new{out o1 o2:List Str}(hs:s ∉ out)(hp:(zk s=emptyS/\o1=out)\/(zk s≠emptyS/\V need out (zk s) o1))(h1:s ∉ o1)(h:VL need o1 (need s) o2):V need out s (o2++[s]):=by
 obtain⟨m,h⟩:=h
 rcases hp with⟨hp,rfl⟩ | ⟨hp,n,hp2⟩
 ·
  exact⟨m+1,by rw[ZH,if_neg hs,if_pos hp,obS,if_neg h1,h,obS]⟩
 ·
  refine⟨max n m+1,?_⟩
  rw[ZH,if_neg hs,if_neg hp,Yu (Nat.le_max_left ..) hp2,obS,if_neg h1,XG (λ _ _ _ h=>Yu (Nat.le_max_right n m) h) _ _ _ h,obS]
theorem V.up{out o1:List Str}(hs:s ∉ out)(hp:(zk s=emptyS/\o1=out)\/(zk s≠emptyS/\V need out (zk s) o1))(h1:s∈o1):V need out s o1:=by
 rcases hp with⟨hp,rfl⟩ | ⟨hp,n,hp2⟩
 ·
  exact absurd h1 hs
 ·
  exact⟨n+1,by rw[ZH,if_neg hs,if_neg hp,hp2,obS,if_pos h1]⟩
structure Kd(st:RSt)(opn:List Str):Prop where
 inn:∀ m∈st.mods,m.name∈evs 1 st.log\/m.name∈opn
 has:∀ x∈evs 1 st.log,∃ m∈st.mods,hits x m=true
 dn:∀ m∈st.mods,m.name∈evs 1 st.log->m.done=true
theorem Kd.of(h:Kd a opn)(hl:evs 1 b.log=evs 1 a.log)(hm:∀ (i:Nat) (m:GMod),a.mods[i]?=some m->∃ m',b.mods[i]?=some m'/\m'.name=m.name/\m'.cached=m.cached/\m'.done=m.done)(hn:b.mods.length=a.mods.length):Kd b opn:=by
 have back:∀ m'∈b.mods,∃ m∈a.mods,m'.name=m.name/\m'.cached=m.cached/\m'.done=m.done:=λ m' h'=>by
  obtain⟨i,hi⟩:=List.getElem?_of_mem h'
  have hlt:i<a.mods.length:=by rw[← hn];exact zA hi
  obtain⟨m2,h1,h2⟩:=hm i _ (List.getElem?_eq_getElem hlt)
  rw[hi] at h1
  injection h1 with h1
  subst h1
  exact⟨_,List.getElem_mem hlt,h2⟩
 refine⟨λ m' h'=>?_,λ x hx=>?_,λ m' h' hx=>?_⟩
 ·
  obtain⟨m,h1,h2,_⟩:=back m' h'
  rw[hl,h2]
  exact h.inn m h1
 ·
  rw[hl] at hx
  obtain⟨m,h1,h2⟩:=h.has x hx
  obtain⟨i,hi⟩:=List.getElem?_of_mem h1
  obtain⟨m',k1,k2,k3,_⟩:=hm i m hi
  exact⟨m',List.mem_of_getElem? k1,ZG.2 ⟨k2.trans (ZG.1 h2).1,k3.trans (ZG.1 h2).2⟩⟩
 ·
  obtain⟨m,h1,h2,_,h4⟩:=back m' h'
  rw[hl,h2] at hx
  rw[h4]
  exact h.dn m h1 hx
theorem Kd.give(h:Kd a opn)(k:Nat)(s:Str)(v:GVal):Kd (a.give k s v) opn:=h.of rfl (λ i m hm=>by
 rw[giv_at]
 split
 ·
  rename_i e
  subst e
  rw[hm]
  exact⟨_,rfl,rfl,rfl,rfl⟩
 ·
  exact⟨m,hm,rfl,rfl,rfl⟩) (YT ..)
theorem Kd.tell(h:Kd a opn)(k:Nat)(s:Str):Kd (a.tell k s) opn:=by
 unfold RSt.tell
 split
 ·
  exact h.give ..
 ·
  exact h
theorem Kd.star{k:Nat}:∀ (l:List GAttr) (st:RSt),Kd st opn->Kd (XS k l st) opn/\(XS k l st).log=st.log/\(XS k l st).part=st.part
 | [],_,h=>⟨h,rfl,rfl⟩
 |
  x::l,st,h=>by
  unfold XS
  rw[List.foldl_cons]
  split
  ·
   exact Kd.star l st h
  ·
   exact Kd.star l _ (h.give ..)
theorem Kd.hit(h:Kd a opn)(hs:s ∉ opn)(hc:cmpI .geq (cix a s) 0=true):Kd (a.hit (cix a s).toNat s) opn/\(a.hit (cix a s).toNat s).part=a.part/\evs 1 (a.hit (cix a s).toNat s).log=evs 1 a.log/\s∈evs 1 a.log:=by
 obtain⟨m,h1,h2⟩:=hit_of _ _ hc
 obtain⟨h3,h4⟩:=ZG.1 h2
 have hin:s∈evs 1 a.log:=by
  rcases h.inn m (List.mem_of_getElem? h1) with h5 | h5
  ·
   rw[← h3];exact h5
  ·
   rw[h3] at h5;exact absurd h5 hs
 have hd:=h.dn m (List.mem_of_getElem? h1) (by rw[h3];exact hin)
 have hl:evs 1 (a.hit (cix a s).toNat s).log=evs 1 a.log:=by
  show evs 1 (a.log++[⟨3,s⟩])=_
  rw[wm,jK (by decide),List.append_nil]
 refine⟨h.of hl (λ i m hm=>⟨m,hm,rfl,rfl,rfl⟩) rfl,?_,hl,hin⟩
 show(if a.doneAt (cix a s).toNat=false/\s ∉ a.part then a.part++[s] else a.part)=a.part
 rw[if_neg]
 rintro ⟨h5,_⟩
 unfold RSt.doneAt at h5
 rw[h1] at h5
 have h6:m.done=false:=h5
 rw[hd] at h6
 cases h6
theorem has_geq(h:∃ m∈a.mods,hits s m=true):cmpI .geq (cix a s) 0=true:=by
 obtain⟨m,h1,h2⟩:=h
 rcases Zi a s with⟨_,k2⟩ | ⟨k,m',k1,_⟩
 ·
  rw[k2 m h1] at h2;cases h2
 ·
  rw[k1];exact X0 k
structure PR(t:Tree)(path:List Int)(U:Str->Prop)(R:Nat)(opn:List Str)(st:RSt)(l:List Str)(e:Int)(b:RSt):Prop where
 fin:e=0
 j:J t path U R b
 k:Kd b opn
 part:b.part=st.part
 vl:VL (zT t.files path) (evs 1 st.log) l (evs 1 b.log)
theorem Rs.fine(hM:∀ x,U x->(find t.files path x).kind≠0)(h:Rs t path U R st e b):e=0/\J t path U R b:=by
 rcases h.fin with h | ⟨_,x,h2,h3⟩
 ·
  exact h
 ·
  exact absurd h3 (hM x h2)
def PIm(t:Tree)(path:List Int)(U:Str->Prop)(rk:Str->Nat)(I:RImp):Prop:=∀ (st:RSt) (s:Str) (r:RSt×Int×Int) (R:Nat) (opn:List Str),J t path U R st->Kd st opn->Ahd (zT t.files path) (evs 1 st.log)->U s->(∀ x∈opn,rk s<rk x)->I st s=some r->PR t path U R opn st [s] r.2.2 r.1
theorem mod_need{n:Str}{x:Stmt}(hf:cmpI .lss (find t.files path n).file 0=false)(hx:x∈(Zj t.files (find t.files path n).file).body)(hk:x.kind=0\/x.kind=2)(hm:zd x.module=true):x.module∈zT t.files path n:=by
 unfold zT WS
 rw[hf,if_neg (by decide)]
 refine YN.2 (List.mem_filter.2 ⟨List.mem_map.2 ⟨x,hx,?_⟩,hm⟩)
 unfold qV
 rw[if_pos (by rcases hk with h | h <;> rw[h] <;> rfl)]
def stL(x:Stmt):List Str:=if x.kind=0\/x.kind=2 then[x.module] else[]
theorem plain_stmt(hM:∀ x,U x->(find t.files path x).kind≠0)(hU:Ur t path U)(hI:SI t path U I)(hT:Qj t path I)(hP:PIm t path U rk I){at_:Nat}{x:Stmt}(hx:xu x=true)(hm:x.kind=0\/x.kind=2->U x.module/\∀ y∈opn,rk x.module<rk y)(j:J t path U R st)(k:Kd st opn)(ha:Ahd (zT t.files path) (evs 1 st.log)){r:RSt×Int}(hr:Yt t path I st at_ x=some r):PR t path U R opn st (stL x) r.2 r.1:=by
 obtain⟨f1,f2⟩:=(zcB hU hI hT hx (λ h=>(hm h).1) j hr).fine hM
 unfold Yt at hr
 by_cases h0:x.kind=0
 ·
  rw[if_pos h0] at hr
  obtain⟨q,hq,hr⟩:=bs hr
  have hp:=hP st x.module q R opn j k ha (hm (.inl h0)).1 (hm (.inl h0)).2 hq
  rw[if_neg (by simp[hp.fin])] at hr
  split at hr
  ·
   injection hr with hr;subst hr;cases f1
  ·
   injection hr with hr;subst hr
   exact⟨f1,f2,hp.k.give ..,hp.part,by unfold stL;rw[if_pos (.inl h0)];exact hp.vl⟩
 ·
  rw[if_neg h0] at hr
  by_cases h2:x.kind=2
  ·
   rw[if_neg (by omega),if_pos h2] at hr
   obtain⟨q,hq,hr⟩:=bs hr
   have hp:=hP st x.module q R opn j k ha (hm (.inr h2)).1 (hm (.inr h2)).2 hq
   rw[if_neg (by simp[hp.fin])] at hr
   injection hr with hr;subst hr
   obtain⟨k1,k2,k3⟩:=Kd.star (k:=at_) (q.1.attrsAt q.2.1.toNat) q.1 hp.k
   exact⟨f1,f2,k1,k3.trans hp.part,by unfold stL;rw[if_pos (.inr h2)];show VL _ _ _ (evs 1 (XS at_ _ q.1).log);rw[k2];exact hp.vl⟩
  ·
   have h3:x.kind=3:=by
    unfold xu at hx
    simp only[Bool.or_eq_true,cmpI,beq_iff_eq] at hx
    omega
   rw[if_neg (by omega),if_neg h2,if_pos h3] at hr
   injection hr with hr;subst hr
   exact⟨f1,f2,k.give ..,rfl,by unfold stL;rw[if_neg (by omega)];exact VL.nil _⟩
theorem zdw(hv:zw t=true)(hM:∀ x,U x->(find t.files path x).kind≠0)(hU:Ur t path U)(K:Rk (zT t.files path) U rk)(hI:SI t path U I)(hT:Qj t path I)(hP:PIm t path U rk I)(at_:Nat){m:Nat}(hopn:∀ y∈opn,m<=rk y):∀ (l:List Stmt) (st:RSt) (r:RSt×Int),(∀ x∈l,xu x=true/\(x.kind=0\/x.kind=2->U x.module/\rk x.module<m))->J t path U (R+l.length) st->Kd st opn->Ahd (zT t.files path) (evs 1 st.log)->W5 t path I at_ l st=some r->PR t path U R opn st (l.flatMap stL) r.2 r.1
 |
  [],st,r,_,j,k,_,hr=>by
  injection hr with hr;subst hr
  exact⟨rfl,j,k,rfl,VL.nil _⟩
 |
  x::l,st,r,hl,j,k,ha,hr=>by
  unfold W5 at hr
  have hlf:=j.left hv
  rw[if_neg (by omega)] at hr
  obtain⟨q,hq,hr⟩:=bs hr
  have j1:J t path U (R+l.length) { st with left:=st.left - 1 }:=J.tr (.tick st) ⟨rfl,λ _ m h=>⟨m,h,Kept.refl m⟩⟩ (by rw[List.length_cons];show((R+l.length:Nat):Int)+st.left<=((R+(l.length+1):Nat):Int)+(st.left - 1);omega) j
  have hx:=hl x (List.mem_cons_self ..)
  have hs:=plain_stmt hM hU hI hT hP hx.1 (λ h=>⟨(hx.2 h).1,λ y hy=>by have:=hopn y hy;have:=(hx.2 h).2;omega⟩) j1 (k.of rfl (λ i m hm=>⟨m,hm,rfl,rfl,rfl⟩) rfl) ha hq
  rw[if_neg (by simp[hs.fin])] at hr
  have hv1:Vis (zT t.files path) U rk (evs 1 st.log) m (evs 1 q.1.log):=VL.vis K (λ y hy=>by
   unfold stL at hy
   split at hy
   ·
    rename_i h;rw[List.mem_singleton.1 hy];exact hx.2 h
   ·
    cases hy) ha hs.vl
  have h2:=zdw hv hM hU K hI hT hP at_ hopn l q.1 r (λ y hy=>hl y (List.mem_cons_of_mem _ hy)) hs.j hs.k hv1.ahd hr
  exact⟨h2.fin,h2.j,h2.k,h2.part.trans hs.part,by rw[List.flatMap_cons];exact hs.vl.app h2.vl⟩
theorem zdx{p:Str}:∀ {l:List Stmt},(∀ x∈l,xu x=true/\(x.kind=0\/x.kind=2->zd x.module=true))->l.flatMap stL=yY p l
 | [],_=>rfl
 |
  x::l,h=>by
  have ih:=zdx (p:=p) λ y hy=>h y (List.mem_cons_of_mem _ hy)
  obtain⟨h1,h2⟩:=h x (List.mem_cons_self ..)
  rw[List.flatMap_cons,ih]
  unfold yY
  rw[List.map_cons]
  unfold stL qV
  by_cases hk:x.kind=0\/x.kind=2
  ·
   rw[if_pos hk,if_pos (by rcases hk with h | h <;> rw[h] <;> rfl),List.filter_cons_of_pos (h2 hk)];rfl
  ·
   have h3:x.kind=3:=by
    unfold xu at h1
    simp only[Bool.or_eq_true,cmpI,beq_iff_eq] at h1
    omega
   rw[if_neg hk,if_neg (by rw[h3];decide),if_neg (by rw[h3];decide),List.filter_cons_of_neg (by decide)];rfl
theorem plain_new(hv:zw t=true)(hM:∀ x,U x->(find t.files path x).kind≠0)(hU:Ur t path U)(K:Rk (zT t.files path) U rk)(hI:SI t path U I)(hT:Qj t path I)(hP:PIm t path U rk I)(n:New t path st s)(hs:U s)(hopn:∀ y∈opn,rk s<rk y)(j:J t path U R st)(k:Kd st opn)(ha:Ahd (zT t.files path) (evs 1 st.log)){r:RSt×Int×Int}(hr:newF t path I st s (qj t path st s)=some r):
  r.2.2=0/\J t path U R r.1/\Kd r.1 opn/\r.1.part=st.part/\s ∉ evs 1 st.log/\∃ o2,VL (zT t.files path) (evs 1 st.log) (zT t.files path s) o2/\evs 1 r.1.log=o2++[s]:=by
 obtain⟨f1,f2⟩:=(zdt hv hU hI hT n hs j hr).fine hM
 have hlk:=zcb j.fnd n
 have hns:s ∉ evs 1 st.log:=λ h=>by
  obtain⟨m,h1,h2⟩:=k.has s h
  rw[n.gone m h1] at h2
  cases h2
 unfold newF at hr
 rw[if_neg n.kind] at hr
 obtain⟨q,hq,hr⟩:=bs hr
 have hrt:=run_tr hv hT hq
 have lb:evs 1 (st.begin s (qj t path st s)).log=evs 1 st.log:=by
  show evs 1 (st.log++[⟨0,s⟩])=_
  rw[wm,jK (by decide),List.append_nil]
 have jb:J t path U (R+bl t path s) (st.begin s (qj t path st s)):=⟨j.wf.begin _ n.gone n.up,j.up.bgU n _,j.told.bgT j.up n _,j.fnd.bgF n,
  λ m hm=>(List.mem_append.1 hm).elim (j.all m) λ h=>by rw[List.mem_singleton.1 h],
  λ m hm=>(List.mem_append.1 hm).elim (j.in_ m) λ h=>by rw[List.mem_singleton.1 h];exact hs,by
  have hp:=j.pot
  show(120:Int)+((R+bl t path s:Nat):Int)<=st.left+(blS t path ((st.mods++[_]).map (λ m:GMod=>m.name)):Nat)
  unfold blS at hp ⊢
  rw[List.map_append,List.map_append,List.sum_append]
  show(120:Int)+((R+bl t path s:Nat):Int)<=st.left+(((st.mods.map (·.name)).map (bl t path)).sum+(bl t path s+0):Nat)
  omega⟩
 have kb:Kd (st.begin s (qj t path st s)) (s::opn):=by
  refine⟨λ m hm=>?_,λ x hx=>?_,λ m hm hx=>?_⟩
  ·
   rw[lb]
   rcases List.mem_append.1 hm with hm | hm
   ·
    exact(k.inn m hm).imp id (List.mem_cons_of_mem _)
   ·
    rw[List.mem_singleton.1 hm];exact .inr (List.mem_cons_self ..)
  ·
   rw[lb] at hx
   obtain⟨m,h1,h2⟩:=k.has x hx
   exact⟨m,List.mem_append_left _ h1,h2⟩
  ·
   rw[lb] at hx
   rcases List.mem_append.1 hm with hm | hm
   ·
    exact k.dn m hm hx
   ·
    rw[List.mem_singleton.1 hm] at hx;exact absurd hx hns
 have hq2:PR t path U R (s::opn) st (zT t.files path s) q.2 q.1:=by
  unfold runF at hq
  rw[hlk] at hq
  cases hc:cmpI .geq (find t.files path s).file 0 with
  |
   true=>
   rw[hc,if_pos rfl] at hq
   have hsim:=hU.simple s hs
   unfold XF at hsim
   rw[YP] at hc
   have hc':cmpI .lss (find t.files path s).file 0=false:=by simpa using hc
   rw[hc',Bool.false_or,List.all_eq_true] at hsim
   have hbl:bl t path s=(Zj t.files (find t.files path s).file).body.length:=by unfold bl;rw[YP,hc',if_pos (by decide)]
   rw[hbl,hlk] at jb
   rw[hlk] at kb lb
   have hst:∀ x∈(Zj t.files (find t.files path s).file).body,xu x=true/\(x.kind=0\/x.kind=2->zd x.module=true):=λ x hx=>⟨hsim x hx,λ hk=>qP (YV hv _ x hx) hk⟩
   have:=zdw hv hM hU K hI hT hP st.mods.length (m:=rk s) (opn:=s::opn) (λ y hy=>by
    rcases List.mem_cons.1 hy with rfl | hy
    ·
     exact Nat.le_refl _
    ·
     have:=hopn y hy;omega) _ _ q (λ x hx=>⟨hsim x hx,λ hk=>K.need s hs _ (mod_need hc' hx hk ((hst x hx).2 hk))⟩) jb kb (by rw[lb];exact ha) hq
   refine⟨this.fin,this.j,this.k,this.part,?_⟩
   have h1:=this.vl
   rw[lb,zdx (p:=YO s (find t.files path s)) hst] at h1
   have e:zT t.files path s=uniq (yY (YO s (find t.files path s)) (Zj t.files (find t.files path s).file).body):=by
    unfold zT WS
    rw[hc',if_neg (by decide)]
   rw[e]
   exact h1.uniq
  |
   false=>
   rw[hc,if_neg (by decide)] at hq
   injection hq with hq;subst hq
   rw[hlk] at jb kb lb
   have hbl:bl t path s=0:=by unfold bl;rw[hc,if_neg (by decide)]
   rw[hbl] at jb
   have e:zT t.files path s=[]:=by
    unfold zT WS
    rw[YP] at hc
    have hc':cmpI .lss (find t.files path s).file 0=true:=by simpa using hc
    rw[hc',if_pos rfl]
   rw[e]
   exact⟨rfl,jb,kb,rfl,by rw[lb];exact VL.nil _⟩
 rw[if_neg (by simp[hq2.fin])] at hr
 injection hr with hr;subst hr
 obtain⟨y,y1,y2,y3⟩:=hrt.own
 have ld:evs 1 (q.1.done st.mods.length s).log=evs 1 q.1.log++[s]:=by
  show evs 1 (q.1.log++[⟨1,s⟩])=_
  rw[wm,JD rfl]
 have lt_:((q.1.done st.mods.length s).tell st.mods.length s).log=(q.1.done st.mods.length s).log:=tell_log ..
 have kd:Kd (q.1.done st.mods.length s) opn:=by
  have back:∀ m∈(q.1.done st.mods.length s).mods,∃ (i:Nat) (m0:GMod),q.1.mods[i]?=some m0/\m.name=m0.name/\((i=st.mods.length/\m.done=true)\/(i≠st.mods.length/\m=m0)):=λ m hm=>by
   obtain⟨i,hi⟩:=List.getElem?_of_mem hm
   rw[done_at] at hi
   split at hi
   ·
    rename_i e
    rw[y1] at hi
    injection hi with hi
    exact⟨_,y,y1,by rw[← hi],.inl ⟨rfl,by rw[← hi]⟩⟩
   ·
    rename_i e
    exact⟨i,m,hi,rfl,.inr ⟨e,rfl⟩⟩
  refine⟨λ m hm=>?_,λ x hx=>?_,λ m hm hx=>?_⟩
  ·
   obtain⟨i,m0,h1,h2,_⟩:=back m hm
   rw[ld,h2]
   rcases hq2.k.inn m0 (List.mem_of_getElem? h1) with h3 | h3
   ·
    exact .inl (List.mem_append_left _ h3)
   ·
    rcases List.mem_cons.1 h3 with h3 | h3
    ·
     rw[h3];exact .inl (by simp)
    ·
     exact .inr h3
  ·
   rw[ld] at hx
   have:∃ m∈q.1.mods,hits x m=true:=by
    rcases List.mem_append.1 hx with hx | hx
    ·
     exact hq2.k.has x hx
    ·
     rw[List.mem_singleton.1 hx]
     exact⟨y,List.mem_of_getElem? y1,ZG.2 ⟨y2,y3⟩⟩
   obtain⟨m,h1,h2⟩:=this
   obtain⟨i,hi⟩:=List.getElem?_of_mem h1
   obtain⟨m',k1,k2⟩:=(done_sm q.1 st.mods.length s).2 i m hi
   exact⟨m',List.mem_of_getElem? k1,by rw[k2.hits];exact h2⟩
  ·
   obtain⟨i,m0,h1,h2,h3⟩:=back m hm
   rcases h3 with⟨_,h3⟩ | ⟨h3,h4⟩
   ·
    exact h3
   ·
    subst h4
    rw[ld] at hx
    rcases List.mem_append.1 hx with hx | hx
    ·
     exact hq2.k.dn m (List.mem_of_getElem? h1) hx
    ·
     have:=hq2.j.wf.dist i st.mods.length m y h1 y1 (hq2.j.all m (List.mem_of_getElem? h1)) y3 ((List.mem_singleton.1 hx).trans y2.symm)
     exact absurd this h3
 refine⟨f1,f2,kd.tell ..,?_,hns,evs 1 q.1.log,hq2.vl,?_⟩
 ·
  have:((q.1.done st.mods.length s).tell st.mods.length s).part=q.1.part:=by
   unfold RSt.tell
   split <;> rfl
  exact this.trans hq2.part
 ·
  show evs 1 ((q.1.done st.mods.length s).tell st.mods.length s).log=_
  rw[lt_,ld]
theorem plain_imp(hv:zw t=true)(hM:∀ x,U x->(find t.files path x).kind≠0)(hU:Ur t path U)(K:Rk (zT t.files path) U rk):∀ n,PIm t path U rk (imp t path n)
 | 0=>λ _ _ _ _ _ _ _ _ _ _ h=>by cases h
 |
  n+1=>by
  intro st s r R opn j k ha hs hopn h
  obtain⟨f1,f2⟩:=(zaN hv hU (n+1) st s r R j hs h).fine hM
  have hso:s ∉ opn:=λ h=>by have:=hopn s h;omega
  unfold imp impF at h
  have hT:=imp_tr (path:=path) hv n
  have hI:=zaN (path:=path) hv hU n
  have hP:=plain_imp hv hM hU K n
  split at h
  ·
   rename_i hc
   injection h with h;subst h
   obtain⟨k1,k2,k3,k4⟩:=k.hit hso hc
   refine⟨f1,f2,k1,k2,?_⟩
   show VL _ _ _ (evs 1 (st.hit _ s).log)
   rw[k3]
   exact VL.one ⟨1,by rw[ZH,if_pos k4]⟩
  ·
   rename_i hc
   have hgone:∀ {b:RSt},¬ cmpI .geq (cix b s) 0=true->Kd b opn->s ∉ evs 1 b.log:=λ{b} hc kb h=>by
    obtain⟨m,h1,h2⟩:=kb.has s h
    exact hc (has_geq ⟨m,h1,h2⟩)
   have hout:=hgone hc k
   obtain⟨q,hq,hr⟩:=bs h
   have hpar:q.2.2=0/\J t path U R q.1/\Kd q.1 opn/\q.1.part=st.part/\Ahd (zT t.files path) (evs 1 q.1.log)/\((zk s=emptyS/\evs 1 q.1.log=evs 1 st.log)\/(zk s≠emptyS/\V (zT t.files path) (evs 1 st.log) (zk s) (evs 1 q.1.log)))/\(zk s=emptyS\/∃ m∈q.1.mods,hits (zk s) m=true):=by
    split at hq
    ·
     rename_i he
     injection hq with hq;subst hq
     exact⟨rfl,j,k,rfl,ha,.inl ⟨he,rfl⟩,.inl he⟩
    ·
     rename_i he
     obtain⟨u1,u2⟩:=K.up s hs he
     have hp:=hP st (zk s) q R opn j k ha u1 (λ x hx=>by have:=hopn x hx;omega) hq
     obtain⟨N,hN⟩:=hp.vl
     rw[List.foldlM_cons] at hN
     obtain⟨o1,h1,h2⟩:=bs hN
     injection h2 with h2
     have hV:V (zT t.files path) (evs 1 st.log) (zk s) (evs 1 q.1.log):=⟨N,by rw[h1];exact congrArg some h2⟩
     exact⟨hp.fin,hp.j,hp.k,hp.part,(V.vis K u1 ha hV).1.ahd,.inr ⟨he,hV⟩,.inr (let⟨m,k1,k2⟩:=(hT _ _ _ (hU.valid _ u1) hq).2 hp.fin;⟨m,List.mem_of_getElem? k1,k2⟩)⟩
   obtain⟨p1,p2,p3,p4,p5,p6,p7⟩:=hpar
   rw[if_neg (by simp[p1])] at hr
   split at hr
   ·
    rename_i hc1
    injection hr with hr;subst hr
    obtain⟨k1,k2,k3,k4⟩:=p3.hit hso hc1
    refine⟨f1,f2,k1,k2.trans p4,?_⟩
    show VL _ _ _ (evs 1 (q.1.hit _ s).log)
    rw[k3]
    exact VL.one (V.up hout p6 k4)
   ·
    rename_i hc1
    have hk:(qj t path q.1 s).kind≠0:=by rw[zaM p2.fnd (hU.valid _ hs) p7];exact hM s hs
    have hn:New t path q.1 s:=⟨hU.valid _ hs,Xg (by simpa[cix] using hc1),p7,hk⟩
    obtain⟨n1,n2,n3,n4,n5,o2,n6,n7⟩:=plain_new hv hM hU K hI hT hP hn hs hopn p2 p3 p5 hr
    refine⟨f1,f2,n3,n4.trans p4,?_⟩
    rw[n7]
    exact VL.one (V.new hout p6 n5 n6)
theorem plain_ran(hp:path.length<=1048576)(h:y7 t path s=true)(hsim:zbr t path s=true):(ranR t path s).2.2=0/\evs 1 (logV t path s)=wX t path s/\(ranR t path s).1.part=[]/\(zad (ranR t path s).1.mods).length=(wX t path s).length:=by
 obtain⟨hok,hring,hmiss⟩:=ZN h
 unfold zbr at hsim
 rw[Bool.and_eq_true,List.all_eq_true] at hsim
 obtain⟨hv,_,hs⟩:=xI hok
 have hU:=ur_reach (path:=path) hv hs λ x hx=>hsim.2 x ((Jz hok).2 hx)
 have hM:∀ x,x∈yI t path s->(find t.files path x).kind≠0:=λ x hx e=>by
  have:=hmiss x hx
  unfold YR at this
  rw[e] at this
  cases this
 have hsU:=WN (path:=path) hv hs
 have j0:J t path (·∈yI t path s) 0 st0:=⟨wf0,up0,told0,fnd0,(λ _ h=>by cases h),(λ _ h=>by cases h),Int.le_refl _⟩
 have k0:Kd st0 []:=⟨(λ _ h=>by cases h),(λ _ h=>by cases h),λ _ h=>by cases h⟩
 have hr:=plain_imp hv hM hU (rk_reach hv hs hring) 483 st0 s _ 0 [] j0 k0 ahd_nil hsU (λ _ h=>by cases h) (ran_ok hv hp hs).1
 obtain⟨N,hN⟩:=hr.vl
 rw[List.foldlM_cons] at hN
 obtain⟨o1,h1,h2⟩:=bs hN
 injection h2 with h2
 obtain⟨hv1,_,_,_⟩:=Yv h
 have e1:=Yu (Nat.le_max_left N 301) h1
 have hv1':wz (zT t.files path) (max N 301) (evs 1 st0.log) s=some (wX t path s):=Yu (Nat.le_max_right N 301) hv1
 rw[hv1'] at e1
 injection e1 with e1
 have e2:evs 1 (ranR t path s).1.log=wX t path s:=h2.symm.trans e1.symm
 refine⟨hr.fin,e2,hr.part,?_⟩
 have hall:∀ m∈(ranR t path s).1.mods,m.cached=true:=hr.j.all
 have hcn:zad (ranR t path s).1.mods=(ranR t path s).1.mods.map (·.name):=by
  unfold zad
  rw[List.filter_eq_self.2 hall]
 rw[hcn]
 have n1:=hr.j.apart
 have n2:(wX t path s).Nodup:=(Yv h).2.1.ahd.nodup
 refine Nat.le_antisymm (jJ n1 λ x hx=>?_) (jJ n2 λ x hx=>?_)
 ·
  obtain⟨m,k1,rfl⟩:=List.mem_map.1 hx
  rcases hr.k.inn m k1 with k2 | k2
  ·
   rw[← e2];exact k2
  ·
   cases k2
 ·
  rw[← e2] at hx
  obtain⟨m,k1,k2⟩:=hr.k.has x hx
  exact List.mem_map.2 ⟨m,k1,(ZG.1 k2).1⟩
open Go.RowKit Tryz
set_option maxRecDepth 10000
set_option maxHeartbeats 1600000
theorem kN23:fnB prog 23=true:=by kernel_rfl
def ql(R:Rec)(x0:List UInt8):Option Bool:=
if(cmpI .gtr (x0.length:Int) (1048576:Int))=true then(some true)
else((wC x0).bind λ v6=>
(qb v6.1 v6.2.1 v6.2.2).bind λ v14=>
(qd v6.1 v6.2.1 v6.2.2).bind λ v17=>
(xx v14.1 v17.1).bind λ v20=>
if(((!v20)||(v14.2 != v17.2))||(!v14.2))=true then((xx v14.1 v17.1).bind λ v25=>
some (v25&&(v14.2 == v17.2)))
else((q6 v6.1 v6.2.1 v6.2.2).bind λ v28=>
if(!v28)=true then(some true)
else((qB R v6.1 v6.2.1 v6.2.2).bind λ v34=>
(gO (cmpI .eql v34.1 (0:Int) == true) (qA R v6.1 v6.2.1 v6.2.2)).bind λ v37=>
(gO (cmpI .eql v34.1 (0:Int) == true) (xx v37 v14.1)).bind λ v38=>
(gO (((cmpI .eql v34.1 (0:Int)&&v38)&&cmpI .eql (v34.2.length:Int) (v14.1.length:Int)) == true) (jF R v6.1 v6.2.1 v6.2.2)).bind λ v39=>
some (((cmpI .eql v34.1 (0:Int)&&v38)&&cmpI .eql (v34.2.length:Int) (v14.1.length:Int))&&cmpI .eql (v39.length:Int) (0:Int)))))
theorem QO{R:Rec}(hR:R.ok){x0:List UInt8}{r:Bool}(h:ql R x0=some r):Fn prog 5 [dt x0] (dt r):=by
 unfold ql at h
 refine fnx (fn:=f5) 1 func5 rfl (oD rfl) rfl (λ M _ _ st0=>?_)
 refine st0.sq1 [0] (λ _ _ st1=>wp_seq ?_)
 refine st1.sq1 [0,14] (λ _ _ st2=>?_)
 refine st2.cs rfl h (λ _ h3=>?_) (λ _ h4=>wp_skip (za (wp_seq (wp_region_list ?_))))
 ·
  refine st2.sq1 [2] (λ _ _ st5=>wp_ret (ze ?_))
  exact st5.ret rfl rfl h3
 obtain⟨v6,p6,h7⟩:=bsW h4 JM
 refine st2.segA 6 [18,19,20] [] (λ _ _ st8=>?_)
 refine st8.alA 0 zrTree [18,19,20] [] (λ b10 _ _ _ st10=>?_)
 refine st10.stA 3 0 FldS.id (tp rfl) [19,20] [] (λ _ _ st12=>?_)
 refine st12.segA 2 [4,5] [(3,0)] (λ _ _ st13=>wpList_nil (za ?_))
 obtain⟨v14,p14,h15⟩:=bs h7
 refine st13.sqB (sP 3 (r:=by exact sc rfl (oK (FnN.fn2o<|zbC p14))<|segC)) [4,5,6,7] [(3,0)] (λ _ _ st16=>?_)
 obtain⟨v17,p17,h18⟩:=bsW h15 zbD
 refine st16.sqC [4,5,6,7,8,9] [(3,0)] (λ _ _ st19=>wp_seq ?_)
 obtain⟨v20,p20,h21⟩:=bs h18
 refine st19.sqB (sP 2 (r:=by exact sc rfl (oK (YI p20))<|sP 4 (r:=by exact sg rfl rfl (λ hg=>op_neT rfl kV4 (zn hg rfl) (zn hg rfl))<|segC))) [4,5,6,7,8,9,47] [(3,0)] (λ _ _ st22=>?_)
 refine st22.cs rfl h21 (λ _ h23=>?_) (λ _ h24=>wp_skip (za (wp_seq ?_)))
 ·
  obtain⟨v25,p25,h26⟩:=bs h23
  refine st22.sq2 (sP 2 (r:=by exact sc rfl (oK (YI p25))<|sP 3 (r:=by exact sg rfl rfl (λ hg=>op_eqT rfl kV4 (zn hg rfl) (zn hg rfl))<|segC))) [2] (λ _ _ st27=>wp_ret (ze ?_))
  exact st27.ret rfl rfl h26
 obtain⟨v28,p28,h29⟩:=bsW h24 zcH
 refine st22.sqC [4,5,6,60] [(3,0)] (λ _ _ st30=>?_)
 refine st30.cs rfl h29 (λ _ h31=>?_) (λ _ h32=>wp_skip (za ?_))
 ·
  refine st30.sq1 [2] (λ _ _ st33=>wp_ret (ze ?_))
  exact st33.ret rfl rfl h31
 obtain⟨v34,p34,h35⟩:=bs h32
 refine st30.sqB (sP 3 (r:=by exact sc rfl (oK (FnN.fn2<|zbX hR p34))<|segC)) [4,5,6,10,11] [(3,0)] (λ _ _ st36=>?_)
 obtain⟨v37,p37,v38,p38,v39,p39,h42⟩:=bsC h35
 refine st36.sq2 (sP 6 (r:=by exact sg rfl rfl (λ hg=>oK (FnN.fn<|zbW hR (gh hg p37)))<|sP 1 (r:=by exact sg rfl rfl (λ hg=>oK (YI (gh hg p38)))<|sP 12 (r:=by exact sg rfl rfl (λ hg=>zB (l:=[.tmp 86,.tmp 87,.tmp 88]) rfl kN23 (.cons (zn hg rfl) (.cons (zn hg rfl) (.cons (zn hg rfl) .nil))) ((zav hR (gh hg p39))).fn)<|segC)))) [2] (λ _ _ st43=>wp_ret ?_)
 exact st43.ret rfl rfl h42
open Go.RowKit Tryz
theorem QP(c:List UInt8):ql (scc YW) c=some true:=by
 unfold ql
 refine law_of_draw (zbo c) λ t path s ht hp3 hn=>?_
 have hp:path.length<=1048576:=by omega
 have hlen:=Qk t path s
 have hE:=same_texts (l:=wX t path s) (by omega)
 dsimp only
 rw[PlainOrder_eq ht hp hn,obS,zaO ht hp hn,obS]
 unfold Ql
 dsimp only
 rw[hE,obS]
 cases h:y7 t path s with
 | false=>rfl
 |
  true=>
  rw[if_neg (by decide),IsSimple_eq ht hp hn,obS]
  cases hsi:zbr t path s with
  | false=>rfl
  |
   true=>
   obtain⟨hok,_,_⟩:=ZN h
   obtain⟨h1,h2,h3,h4⟩:=plain_ran hp h hsi
   have e1:endV t path s=0:=by rw[endV_ok hok,h1]
   have e2:evV 1 t path s=wX t path s:=by rw[evV_ok hok,h2]
   have e3:partV t path s=[]:=by unfold partV;rw[if_pos hok,h3]
   have e4:(cachV t path s).length=(wX t path s).length:=by rw[cachV_ok hok,h4]
   rw[if_neg (by decide),ImportOne_eq ht hp hn,obS,DoneOrder_eq ht hp hn,zdq ht hp hn,e1,e2,e3]
   dsimp only
   rw[show((cmpI .eql (0:Int) (0:Int)) == true:Bool)=true from rfl,YJ,obS,hE,YJ,obS,e4,show cmpI .eql ((wX t path s).length:Int) ((wX t path s).length:Int)=true by simp[cmpI]]
   rfl
theorem zbG(c:List UInt8):Fn prog 5 [dt c] (dt true):=QO (scc_ok YW) (QP c)
end Go.Proofs.YtpmkkijamfgaeaaGreatDoor
