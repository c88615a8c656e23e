import Derived.Test.YtpmkkijamfgaeaaGreatDoorRB
import Derived.Test.YtpmkkijamfgaeaaGreatDoorRO
import Derived.Test.YtpmkkijamfgaeaaGreatDoorRM
import Derived.Test.YtpmkkijamfgaeaaGreatDoorRH
namespace Go.Proofs.YtpmkkijamfgaeaaGreatDoor
open Go.RowKit Tryz
attribute [local irreducible] OpRel OpdR
set_option maxRecDepth 10000
set_option maxHeartbeats 1600000
theorem Zh:fldB prog 158 2 2=true:=by kernel_rfl
theorem kL35:isSl prog 35=true:=by kernel_rfl
theorem kF158_3:fldB prog 158 3 3=true:=by kernel_rfl
theorem kF158_7:fldB prog 158 7 7=true:=by kernel_rfl
theorem kT114:tyB prog 114 false 1=true:=by kernel_rfl
theorem kF119_0:fldB prog 119 0 0=true:=by kernel_rfl
theorem kF158_0:fldB prog 158 0 0=true:=by kernel_rfl
theorem kN212:fnB prog 212=true:=by kernel_rfl
instance iF158_0MbA:FldO prog 158 0 0:=⟨kF158_0⟩
instance iF158_2MbA:FldO prog 158 2 2:=⟨Zh⟩
instance iF158_3MbA:FldO prog 158 3 3:=⟨kF158_3⟩
instance iF25_0MbA:FldO prog 25 0 0:=⟨qR⟩
instance iF98_5MbA:FldO prog 98 5 5:=⟨Wi⟩
def Y5(x0:Runner)(x1:Str)(s4:Int):Option (Int⊕(Unit⊕(Runner×Int))):=
if(cmpI .lss s4 (x0.mods.length:Int))=true then((atI x0.mods s4).bind λ v12=>
(gO (decide (v12.name=x1) == true) (atI x0.mods s4)).bind λ v14=>
if(decide (v12.name=x1)&&v14.cached)=true then(some (.inr (.inr (x0,s4))))
else((i64 (s4+(1:Int))).bind λ v24=>
some (.inl v24)))
else(some (.inr (.inl ())))
def wO(x0:Runner)(x1:Str):Option (Runner×Int):=
Option.bind (α:=Unit⊕(Runner×Int)) (zL (λ s4=>Y5 x0 x1 s4) (0:Int)) (Sum.elim (λ _b2=>
some (x0,(-1:Int))) some)
theorem qk{x0:Runner}{x1:Str}{r:Runner×Int}(h:wO x0 x1=some r):FnS prog 170 oRun ⟨x0⟩ [dt x1] ⟨r.1⟩ (.frz (dt r.2)):=by
 unfold wO at h
 refine fnSB (fn:=f170) 0 1 func170 rfl (oD rfl) rfl (λ M G w0 b0 _ st0=>?_)
 refine st0.sqA [1] [(0,0)] (λ _ _ st1=>?_)
 obtain⟨o2,p2,k2⟩:=bs h
 refine zj (λ a w=>∃ b2,o2=.inl b2/\(∃ M1 q2_0,Sx (Frm.chg w0 G) 36 M M1 [q2_0] [] [(0,0,dnm oRun q2_0 ⟨x0⟩ (.pointer (some ⟨b0,0,none⟩)) [])] a w)) ?_ ?_
 ·
  refine st1.sqA [1,5] [(0,0)] (λ _ _ st3=>wp_block ?_)
  refine zF p2 (λ s4 a w=>∃ M1 q4_0,Sx (Frm.chg w0 G) 36 M M1 [q4_0] [(1,dt x1),(5,dt s4)] [(0,0,dnm oRun q4_0 ⟨x0⟩ (.pointer (some ⟨b0,0,none⟩)) [])] a w) fx ?_
  rintro s4 z4 a4 w4 ⟨M4,q4_0,st4⟩ hs4 hx4
  have h5:Y5 x0 x1 s4=some z4:=hs4
  unfold Y5 at h5
  refine wp_seq ?_
  refine st4.hdA 0 0 ((PV.root.box rfl).fld owRunner.f2) [] (λ g6 A6 _ hA6 st6=>?_)
  refine st6.sqB (sP 5 (r:=by exact sc rfl (xLe rfl kL35 (tp rfl))<|segC)) [1,5,12] [(0,0)] (λ _ _ st7=>?_)
  have st8:=st7.ncf (s:=0) 0 rfl rfl iI [] rfl
  refine st8.cs rfl h5 (λ _ h9=>wp_skip (za (wp_seq (wp_block ?_)))) (λ _ h10=>wp_exit (zi (zi (zx ?_))))
  ·
   obtain⟨v12,p12,v14,p14,h16⟩:=bsB h9
   refine st8.hdA 0 0 ((PV.root.box rfl).fld owRunner.f2) [] (λ g11 A11 _ hA11 st11=>?_)
   refine st11.hdR (s:=0) 0 (decide (v12.name=x1) == true) (λ hg=>((PV.root.box rfl).fld owRunner.f2)) rfl rfl iI [] rfl (λ g13 A13 _ hA13 st13=>?_)
   refine st13.sqB (sc rfl (oM rfl (zQ rfl))<|sc rfl (xNc rfl (tp rfl))<|sc rfl (xFa rfl Zh (tp rfl))<|sc rfl (xLc (sb:=0) (.tail _ (.head _)) rfl rfl rfl kT35 (tp rfl) rfl)<|sc rfl (oM rfl (tp rfl))<|sc rfl (xIa (g:=g11) rfl kS35 (tp rfl) (tp rfl) rfl (λ h=>hA11 h rfl) p12)<|sc rfl (xFa rfl QE (tp rfl))<|sc rfl (xLf (sb:=0) ((((PV.root.box rfl).fld owRunner.f2).row (.tail _ (.head _)) rfl (λ h=>hA11 h rfl) p12).fld owGModR.f0) rfl kT9 (tp rfl) rfl)<|sc rfl (oM rfl (tp rfl))<|sc rfl (jP rfl (tp rfl) (tp rfl))<|sc rfl (oM rfl (tp rfl))<|sg rfl rfl (λ hg=>oM rfl (zQ rfl))<|sg rfl rfl (λ hg=>xNc rfl (zl hg rfl))<|sg rfl rfl (λ hg=>xFa rfl Zh (zl hg rfl))<|sg rfl rfl (λ hg=>xLc (sb:=0) (.head _) hg rfl rfl kT35 (zl hg rfl) rfl)<|sg rfl rfl (λ hg=>oM rfl (tp rfl))<|sg rfl rfl (λ hg=>xIa (g:=g13) rfl kS35 (zl hg rfl) (zl hg rfl) rfl (λ h=>hA13 h hg) (gh hg p14))<|sg rfl rfl (λ hg=>xFa rfl kF98_3 (zl hg rfl))<|sg rfl rfl (λ hg=>xLf (sb:=0) ((((PV.root.box rfl).fld owRunner.f2).row (.head _) hg (λ h=>hA13 h hg) (gh hg p14)).fld owGModR.f3) rfl kT4 (zl hg rfl) rfl)<|sc rfl (yU rfl (tp rfl) (zb rfl))<|.nil) [1,5,34] [(0,0)] (λ _ _ st17=>?_)
   have st18:=st17.ncf (s:=0) 0 rfl rfl iI [] rfl
   refine st18.cs rfl h16 (λ _ h19=>?_) (λ _ h20=>wp_skip (zf (za ?_)))
   ·
    refine st18.sqA [4] [(0,0)] (λ _ _ st21=>wp_ret (zn (zd (zd (zn (zd ?_))))))
    have h22:=lo h19 hx4
    have h23:=jo h22 k2
    exact st21.rsF (s:=0) 0 rfl rfl rfl iI (bxr h23) zZ
   obtain⟨v24,p24,h25⟩:=bs h20
   refine st18.rgA [1,5] [(0,0)] (λ _ _ st26=>za ?_)
   exact fl h25
  refine za ?_
  have h27:=lo h10 hx4
  exact fl h27
 rintro a2 w2 ⟨b2,rfl,⟨M2,q2_0,st2⟩⟩
 have h28:=jn k2
 refine st2.sqA [4] [(0,0)] (λ _ _ st29=>wp_ret ?_)
 exact st29.rsF (s:=0) 0 rfl rfl rfl iI (bxr h28) zZ
def qU(x0:Runner)(x1:Int)(x2:Str):Option Runner:=
(appO 24 x0.log ([(⟨x1,x2⟩:GEvent)]:List GEvent)).bind λ v7=>
some ({ x0 with log:=v7 })
theorem YT{x0:Runner}{x1:Int}{x2:Str}{r:Runner}(h:qU x0 x1 x2=some r):FnS prog 171 oRun ⟨x0⟩ [dt x1,dt x2] ⟨r⟩ .gone:=by
 unfold qU at h
 refine fnSB (fn:=f171) 0 2 func171 rfl (oD rfl) rfl (λ M G _ b0 _ st0=>wp_region_list ?_)
 refine st0.hdA 0 0 ((PV.root.box rfl).fld owRunner.f3) [] (λ g1 A1 _ hA1 st1=>?_)
 refine st1.segB 9 (sP 7 (r:=by exact sc rfl (kD136_0_1 rfl (tp rfl) (tp rfl))<|segC)) [6,10,14] [(0,0)] (λ _ _ st2=>?_)
 refine st2.mvG (s:=10) (sb:=0) 0 1 ((PV.root.box rfl).fld owRunner.f3) (.head _) rfl (ym rfl rfl) rfl (by simp) (by simp) (by decide) rfl iI [6,14] rfl [] rfl rfl rfl rfl (λ _ H4 st4=>?_)
 refine st4.tipR (s:=10) 1 rfl rfl (by simp) iI [0] rfl rfl (λ g5 st5=>?_)
 obtain⟨v7,p7,h8⟩:=bs h
 refine st5.apA 1 yW p7 [6] [0] (λ g6 _ _ _ st6=>?_)
 refine st6.segC 2 [17] [(0,0),(15,1)] (λ _ _ st9=>?_)
 have st11:=st9.tipW (s:=15) 1 rfl rfl iI [0] rfl
 refine st11.shA 0 15 0 1 (tp rfl) [] [] (λ _ _ st10=>wpList_nil ?_)
 exact(st10.rs0 (s:=0) 0 rfl rfl iI (bx1 h8)).2
def ZK(x0:Runner)(x1:List Int)(x2:Str)(x3:Str):Option (Runner×Spec):=
if(!x0.warm.x.on)=true then((Wh x0.t x1 x2 x3).bind λ v7=>
some (x0,v7))
else none
theorem W4{x0:Runner}{x1:List Int}{x2:Str}{x3:Str}{r:Runner×Spec}(h:ZK x0 x1 x2 x3=some r):FnS prog 209 oRun ⟨x0⟩ [dt x1,dt x2,dt x3] ⟨r.1⟩ (.frz (dt r.2)):=by
 unfold ZK at h
 refine fnSB (fn:=f209) 1 5 func209 rfl (oD rfl) rfl (λ M G _ b0 _ st0=>wp_seq (wp_region_list ?_))
 refine st0.alA 2 Xx [1,2,3] [0] (λ b2 _ _ _ st2=>?_)
 have st3:=st2.gn
 refine wpList_nil (za (wp_seq ?_))
 refine st3.sqB (sc rfl (oM rfl (zQ rfl))<|sc rfl (xNc rfl (tp rfl))<|sc rfl (xFa rfl kF158_7 (tp rfl))<|sc rfl (OpRel.bx (xLf (sb:=0) ((PV.root.box rfl).fld owRunner.f7) rfl kT114 (tp rfl) rfl))<|sc rfl (xNcP rfl (tp rfl))<|sc rfl (zz Warmth.fld0 rfl kF119_0 (tp rfl))<|sc rfl (zp rfl kT4 (tp rfl))<|sc rfl (qE rfl (tp rfl))<|.nil) [1,2,3,18] [(0,1),(8,2)] (λ _ _ st4=>?_)
 refine st4.cs rfl h (λ _ h5=>wp_seq (wp_region_list ?_)) (λ _ h6=>?_)
 ·
  obtain⟨v7,p7,h8⟩:=bs h5
  refine st4.segB 8 (sP 3 (r:=by exact sc rfl (xLf (sb:=0) ((PV.root.box rfl).fld owRunner.f0) rfl kT25 (tp rfl) rfl)<|sP 3 (r:=by exact sc rfl (oK (spec_findIn_w p7))<|.nil))) [26] [(0,1),(8,2)] (λ _ _ st9=>?_)
  refine st9.stA 8 2 FldS.id (tp rfl) [] [0] (λ _ _ st11=>wpList_nil (za ?_))
  refine wp_ret (zd ?_)
  exact st11.rsC (s:=0) 1 rfl kT71 rfl rfl iI (bxr h8)
 cases h6
def Wj(x0:Runner)(x1:Int):Option (Runner×(List Stmt)):=
if(!x0.warm.x.on)=true then((atI x0.t.files x1).bind λ v5=>
some (x0,v5.body))
else none
theorem spec_bodyOf_w{x0:Runner}{x1:Int}{r:Runner×(List Stmt)}(h:Wj x0 x1=some r):FnS prog 174 oRun ⟨x0⟩ [dt x1] ⟨r.1⟩ (.frz (dt r.2)):=by
 unfold Wj at h
 refine fnSB (fn:=f174) 0 2 func174 rfl (oD rfl) rfl (λ M G _ b0 _ st0=>?_)
 refine st0.sqB (sc rfl (oA rfl (wK (α:=Stmt)))<|.nil) [1] [(0,0)] (λ _ _ st1=>wp_seq ?_)
 refine st1.sqB (sc rfl (oM rfl (zQ rfl))<|sc rfl (xNc rfl (tp rfl))<|sc rfl (xFa rfl kF158_7 (tp rfl))<|sc rfl (OpRel.bx (xLf (sb:=0) ((PV.root.box rfl).fld owRunner.f7) rfl kT114 (tp rfl) rfl))<|sc rfl (xNcP rfl (tp rfl))<|sc rfl (zz Warmth.fld0 rfl kF119_0 (tp rfl))<|sc rfl (zp rfl kT4 (tp rfl))<|sc rfl (qE rfl (tp rfl))<|.nil) [1,15] [(0,0)] (λ _ _ st2=>?_)
 refine st2.cs rfl h (λ _ h3=>?_) (λ _ h4=>?_)
 ·
  obtain⟨v5,p5,h6⟩:=bs h3
  refine st2.sqB (sP 4 (r:=by exact sc rfl (xLf (sb:=0) (((PV.root.box rfl).fld owRunner.f0).fld Tree.z0) rfl kT23 (tp rfl) rfl)<|segC)) [4] [(0,0)] (λ _ _ st7=>wp_ret (zd ?_))
  exact st7.rsD (s:=0) 0 rfl rfl rfl iI (bxr h6)
 cases h4
def Yt(x0:List GAttr)(x1:Str)(s4:Int):Option (Int⊕(Unit⊕Int)):=
if(cmpI .lss s4 (x0.length:Int))=true then((atI x0 s4).bind λ v9=>
if(decide (v9.name=x1))=true then(some (.inr (.inr s4)))
else((i64 (s4+(1:Int))).bind λ v17=>
some (.inl v17)))
else(some (.inr (.inl ())))
def ZA(x0:List GAttr)(x1:Str):Option Int:=
Option.bind (α:=Unit⊕Int) (zL (λ s4=>Yt x0 x1 s4) (0:Int)) (Sum.elim (λ _b2=>
some (-1:Int)) some)
theorem Wk{x0:List GAttr}{x1:Str}{r:Int}(h:ZA x0 x1=some r):Fn prog 212 [dt x0,dt x1] (dt r):=by
 unfold ZA at h
 refine fnx (fn:=f212) 0 func212 rfl (oD rfl) rfl (λ M w0 _ st0=>?_)
 refine st0.sq1 [0,1] (λ _ _ st1=>?_)
 obtain⟨o2,p2,k2⟩:=bs h
 refine zj (λ a w=>∃ b2,o2=.inl b2/\Sx (Frm.of w0) 20 M M [] [] [] a w) ?_ ?_
 ·
  refine st1.sq1 [0,1,5] (λ _ _ st3=>wp_block ?_)
  refine zF p2 (λ s4 a w=>Sx (Frm.of w0) 20 M M [] [(0,dt x0),(1,dt x1),(5,dt s4)] [] a w) (st3.sel0 [0,1,5] rfl) ?_
  rintro s4 z4 a4 w4 st4 hs4 hx4
  have h5:Yt x0 x1 s4=some z4:=hs4
  unfold Yt at h5
  refine wp_seq ?_
  refine st4.sq1 [0,1,5,9] (λ _ _ st6=>?_)
  refine st6.cs rfl h5 (λ _ h7=>wp_skip (za (wp_seq (wp_block ?_)))) (λ _ h8=>wp_exit (zi (zi (zx ?_))))
  ·
   obtain⟨v9,p9,h10⟩:=bs h7
   refine st6.sq1 [0,1,5,18] (λ _ _ st11=>?_)
   refine st11.cs rfl h10 (λ _ h12=>?_) (λ _ h13=>wp_skip (zf (za ?_)))
   ·
    refine st11.sq1 [4] (λ _ _ st14=>wp_ret (zn (zd (zd (zn (zd ?_))))))
    have h15:=lo h12 hx4
    have h16:=jo h15 k2
    exact st14.ret rfl rfl h16
   obtain⟨v17,p17,h18⟩:=bs h13
   refine st11.rg1 [0,1,5] (λ _ _ st19=>za ?_)
   exact⟨_,(Option.some.inj h18).symm,st19.sel0 [0,1,5] rfl⟩
  refine za ?_
  have h20:=lo h8 hx4
  exact⟨_,(Option.some.inj h20).symm,st6.sel0 [] rfl⟩
 rintro a2 w2 ⟨b2,rfl,st2⟩
 have h21:=jn k2
 refine st2.sq1 [4] (λ _ _ st22=>wp_ret ?_)
 exact st22.ret rfl rfl h21
def jg(x0:Runner)(x1:Int)(x2:Str)(x3:GVal):Option Runner:=
(atI x0.mods x1).bind λ v3=>
(ZA v3.attrs x2).bind λ v5=>
if(cmpI .geq v5 (0:Int))=true then((atI x0.mods x1).bind λ v14=>
(atI v14.attrs v5).bind λ v16=>
some ({ x0 with mods:=(x0.mods.set x1.toNat ({ v14 with attrs:=(v14.attrs.set v5.toNat ({ v16 with value:=x3 })) })) }))
else((atI x0.mods x1).bind λ v35=>
(appO 32 v35.attrs ([(⟨x2,x3⟩:GAttr)]:List GAttr)).bind λ v47=>
(atI x0.mods x1).bind λ _v49=>
some ({ x0 with mods:=(x0.mods.set x1.toNat ({ v35 with attrs:=v47 })) }))
theorem qV{x0:Runner}{x1:Int}{x2:Str}{x3:GVal}{r:Runner}(h:jg x0 x1 x2 x3=some r):FnS prog 175 oRun ⟨x0⟩ [dt x1,dt x2,dt x3] ⟨r⟩ .gone:=by
 unfold jg at h
 refine fnSB (fn:=f175) 0 3 func175 rfl (oD rfl) rfl (λ M G _ b0 _ st0=>?_)
 refine st0.sqA [1,2,7] [(0,0)] (λ _ _ st1=>?_)
 obtain⟨v3,p3,v5,p5,h7⟩:=bsB h
 refine st1.hdA 0 0 ((PV.root.box rfl).fld owRunner.f2) [] (λ g2 A2 _ hA2 st2=>?_)
 refine st2.hdA 0 0 ((((PV.root.box rfl).fld owRunner.f2).row (.head _) rfl (λ h=>hA2 h rfl) p3).fld owGModR.f5) [] (λ g4 A4 _ hA4 st4=>?_)
 refine st4.sqB (sP 5 (r:=by exact sc rfl (xIa (g:=g2) rfl kS35 (tp rfl) (tp rfl) rfl (λ h=>hA2 h rfl) p3)<|sP 3 (r:=by exact sc rfl (yP (l:=[.tmp 16,.tmp 17]) st4.ob.sub rfl kN212 (.cons (lendP (sb:=0) st4.ob 0 ((((PV.root.box rfl).fld owRunner.f2).row (.tail _ (.head _)) rfl (λ h=>hA2 h rfl) p3).fld owGModR.f5) (.head _) rfl (ym rfl rfl) (tp rfl) rfl iI) (.cons (ww st4.ob.sub (tp rfl)) .nil)) (Wk p5) zZ)<|segC))) [1,2,7,8] [(0,0)] (λ _ _ st8=>?_)
 have st9:=st8.ncf (s:=0) 0 rfl rfl iI [] rfl
 refine wp_seq ?_
 refine st9.sqA [1,2,7,8,20] [(0,0)] (λ _ _ st10=>?_)
 refine st10.cs rfl h7 (λ _ h11=>wp_seq ?_) (λ _ h12=>wp_skip (za ?_))
 ·
  obtain⟨v14,p14,v16,p16,h18⟩:=bsB h11
  refine st10.hdA 0 0 ((PV.root.box rfl).fld owRunner.f2) [] (λ g13 A13 _ hA13 st13=>?_)
  refine st13.hdA 0 0 ((((PV.root.box rfl).fld owRunner.f2).row (.head _) rfl (λ h=>hA13 h rfl) p14).fld owGModR.f5) [] (λ g15 A15 _ hA15 st15=>?_)
  refine st15.drnA (D:=[_,_,_,_,_,_,_,_,_,_,_,_]) zH 12 [[(0,nS)],[(21,0)],[(22,1)],[(23,2),(0,nS)],[(1,nS)],[(24,3),(25,4)],[(26,5)],[(27,6),(0,nS)],[(8,nS)],[(7,nS)],[(28,7),(29,8)],[(31,10)],[(32,11),(30,9)]] [30,32] [(0,0)] (λ _ _ st19=>?_) (hs:=rc rfl rfl (oM rfl (zQ rfl))<|rc rfl rfl (xNc rfl (tp rfl))<|rc rfl rfl (xFa rfl Zh (tp rfl))<|rc rfl rfl (xLc (sb:=0) (.tail _ (.head _)) rfl rfl rfl kT35 (tp rfl) rfl)<|rc rfl rfl (oM rfl (tp rfl))<|rc rfl rfl (xIa (g:=g13) rfl kS35 (tp rfl) (tp rfl) rfl (λ h=>hA13 h rfl) p14)<|rc rfl rfl (xFa rfl Wi (tp rfl))<|rc rfl rfl (xLc (sb:=0) (.head _) rfl rfl rfl kT96 (tp rfl) rfl)<|rc rfl rfl (oM rfl (tp rfl))<|rc rfl rfl (zp rfl W3 (tp rfl))<|rc rfl rfl (xIa (g:=g15) rfl kS96 (tp rfl) (tp rfl) rfl (λ h=>hA15 h rfl) p16)<|rc rfl rfl (xFa rfl zat (tp rfl))<|.nil)
  refine st19.sfA 0 0 ((((((PV.root.box rfl).fld owRunner.f2).row (.tail _ (.head _)) rfl (λ h=>hA13 h rfl) p14).fld owGModR.f5).row (.head _) rfl (λ h=>hA15 h rfl) p16).fld GAttr.z1) (tp rfl) (tp rfl) [] [] (λ _ st20=>wpList_nil (za ?_))
  refine wp_ret (zd ?_)
  exact(st20.rs0 (s:=0) 0 rfl rfl iI (bx1 h18)).1
 refine st10.hdA 0 0 ((PV.root.box rfl).fld owRunner.f2) [] (λ g21 A21 c21 hA21 st21=>?_)
 refine st21.held (λ w=>w.cell? ⟨b0,2,none⟩=some (.slice A21 (x0.mods.length) c21)) zH (λ _ st22=>?_)
 refine st22.tN 0 0 (st22.cellS (sb:=0) rfl (.head _) rfl rfl) (λ _ st23=>?_)
 refine st23.tk (i:=1) rfl rfl (by decide +kernel) (by decide +kernel) (by decide +kernel) (λ _ _ _ h=>h) (st23.cellS (sb:=0) rfl (.head _) rfl rfl) (yNc rfl (st23.st.has 33 _ rfl)) (λ _ st24=>?_)
 refine st24.tk (i:=2) rfl rfl (by decide +kernel) (by decide +kernel) (by decide +kernel) (λ _ _ _ h=>h) (st24.cellS (sb:=0) rfl (.head _) rfl rfl) (yFa rfl Zh (st24.st.has 34 _ rfl)) (λ _ st25=>?_)
 refine st25.tk (i:=3) rfl rfl (by decide +kernel) (by decide +kernel) (by decide +kernel) (λ _ _ _ h=>h) (st25.cellS (sb:=0) rfl (.head _) rfl rfl) (yLd rfl kT35 (st25.st.has 35 _ rfl) (λ _ h=>h)) (λ _ st26=>?_)
 refine st26.tkN (i:=5) (sb:=0) rfl rfl (by decide +kernel) (by decide +kernel) (by decide +kernel) (λ _ _ _ _ h=>h) (st26.cellS (sb:=0) rfl (.head _) rfl rfl) rfl rfl rfl (λ _ st27=>?_)
 refine st27.tk (i:=6) rfl rfl (by decide +kernel) (by decide +kernel) (by decide +kernel) (λ _ _ _ h=>h) (st27.cellS (sb:=0) rfl (.head _) rfl rfl) (yNc rfl (st27.st.has 38 _ rfl)) (λ _ st28=>?_)
 refine st28.tk (i:=7) rfl rfl (by decide +kernel) (by decide +kernel) (by decide +kernel) (λ _ _ _ h=>h) (st28.cellS (sb:=0) rfl (.head _) rfl rfl) (yFa rfl Zh (st28.st.has 39 _ rfl)) (λ _ st29=>?_)
 refine st29.tk (i:=8) rfl rfl (by decide +kernel) (by decide +kernel) (by decide +kernel) (λ _ _ _ h=>h) (st29.cellS (sb:=0) rfl (.head _) rfl rfl) (yLd rfl kT35 (st29.st.has 40 _ rfl) (λ _ h=>h)) (λ _ st30=>?_)
 refine st30.tkM (i:=4) (sb:=1) rfl rfl (by decide +kernel) (by decide +kernel) (by decide +kernel) (λ _ _ _ _ h=>h) (st30.cellS (sb:=0) rfl (.head _) rfl rfl) rfl rfl rfl rfl (λ _ st31=>?_)
 refine st31.tM 9 1 (st31.cellS (sb:=0) rfl (.head _) rfl rfl) (λ _ st32=>?_)
 refine st32.tM 13 2 (st32.cellS (sb:=0) rfl (.head _) rfl rfl) (λ _ st33=>?_)
 refine st33.mvN (s:=41) (sb:=0) 0 1 ((PV.root.box rfl).fld owRunner.f2) (.head _) rfl (ym rfl rfl) rfl rfl (by simp) (by simp) (by decide) rfl iI [1,2,7,8,20,33,34,35,36,37,38,39,40,42,46] rfl [] rfl rfl rfl rfl (by decide) (λ _ H34 st34=>?_)
 obtain⟨v35,p35,v47,p47,v49,p49,h56⟩:=bsC h12
 refine st34.tkIN (i:=10) (s2:=41) rfl rfl (by decide +kernel) (by decide +kernel) (by decide +kernel) (λ _ _ _ _ h=>h) (st34.hkS (sb:=0) rfl) rfl kS35 rfl rfl (tp rfl) (λ h=>hA21 h rfl) p35 (λ _ st57=>?_)
 refine st57.tk (i:=11) rfl rfl (by decide +kernel) (by decide +kernel) (by decide +kernel) (λ _ _ _ h=>h) (st57.hkS (sb:=0) rfl) (yFa rfl Wi (st57.st.has 43 _ rfl)) (λ _ st58=>?_)
 refine aH2 (i:=12) (j:=14) (by decide +kernel) rfl rfl ?_ ?_
 ·
  refine st58.hdA 41 1 ((PV.root.row rfl (λ h=>hA21 h rfl) p35).fld owGModR.f5) [0] (λ g59 A59 _ hA59 st59=>?_)
  refine st59.segB 1 (sc rfl (xLc (sb:=41) (.head _) rfl rfl rfl kT96 (tp rfl) rfl)<|.nil) [7,36,37,45,46] [(0,0),(41,1)] (λ _ _ st60=>?_)
  refine aHN (st60.hkS (sb:=0) rfl) ?_
  refine aK1 14 ?_
  refine st60.segA 1 [36,37,45,46,47] [(0,0),(41,1)] (λ _ _ st61=>?_)
  refine aHN (st61.hkS (sb:=0) rfl) ?_
  refine st61.tkB (i:=15) (parts:=[(0,.tmp 46),(1,.tmp 47)]) (ns:=[1,2]) (zs:=zpGAttr) rfl rfl (by decide +kernel) (by decide +kernel) (by decide +kernel) (λ _ _ _ _ h=>h) (st61.hkS (sb:=0) rfl) rfl rfl kB189 kC189 (λ w a hl=>by
 intro p hp;simp only[List.mem_cons,List.not_mem_nil,or_false] at hp
 rcases hp with rfl | rfl
 ·
  exact⟨by decide,Rep.len (α:=Str) (OpdR.cells (tp rfl) hl)⟩
 ·
  exact⟨by decide,Rep.len (α:=GVal) (OpdR.cells (tp rfl) hl)⟩) (λ w a hl=>GAttr.parts (x:=(⟨x2,x3⟩:GAttr)) (OpdR.cells (tp rfl) hl) (OpdR.cells (tp rfl) hl)) (λ _ st62=>?_)
  refine aK1 16 ?_
  refine st62.segC 1 [36,37,45,49] [(0,0),(41,1)] (λ _ _ st63=>?_)
  refine aHN (st63.hkS (sb:=0) rfl) ?_
  refine aK1 17 ?_
  refine st63.mvG (s:=45) (sb:=41) 1 2 ((PV.root.row rfl (λ h=>hA21 h rfl) p35).fld owGModR.f5) (.head _) rfl (ym rfl rfl) rfl (by simp) (by simp) (by decide) rfl iI [36,37,49] rfl [0] rfl rfl rfl rfl (λ _ H65 st65=>?_)
  refine st65.tipR (s:=45) 2 rfl rfl (by simp) iI [0,41] rfl rfl (λ g66 st66=>?_)
  refine st66.apA 2 yW p47 [36,37] [0,41] (λ g67 _ _ _ st67=>?_)
  refine aHN (st67.hkS (sb:=0) rfl) ?_
  refine aK1 18 ?_
  refine st67.segB 1 (sc rfl (xIa (g:=g21) rfl kS35 (tp rfl) (tp rfl) rfl (λ h=>hA21 h rfl) p49)<|.nil) [51] [(0,0),(41,1),(50,2)] (λ _ _ st68=>?_)
  refine aHN (st68.hkS (sb:=0) rfl) ?_
  refine aK1 19 ?_
  refine st68.segC 1 [52] [(0,0),(41,1),(50,2)] (λ _ _ st69=>?_)
  refine aHN (st69.hkS (sb:=0) rfl) ?_
  refine aK1 20 ?_
  have st71:=st69.tipW (s:=50) 2 rfl rfl iI [0,41] rfl
  refine st71.shA 41 50 1 2 (tp rfl) [] [0] (λ _ _ st70=>?_)
  refine aHN (st70.hkS (sb:=0) rfl) ?_
  refine aK0 ?_
  refine st70.stG (s:=41) (sb:=0) 0 1 rfl (by simp) (by simp) (by decide) rfl rfl iI iI [] rfl [] rfl rfl rfl (λ _ st72=>?_)
  exact(st72.rs0 (s:=0) 0 rfl rfl iI (bx1 h56)).2
 ·
  refine st58.segA 1 [36,37,44,46,47] [(0,0),(41,1)] (λ _ _ st73=>?_)
  refine aHN (st73.hkS (sb:=0) rfl) ?_
  refine st73.tkB (i:=15) (parts:=[(0,.tmp 46),(1,.tmp 47)]) (ns:=[1,2]) (zs:=zpGAttr) rfl rfl (by decide +kernel) (by decide +kernel) (by decide +kernel) (λ _ _ _ _ h=>h) (st73.hkS (sb:=0) rfl) rfl rfl kB189 kC189 (λ w a hl=>by
 intro p hp;simp only[List.mem_cons,List.not_mem_nil,or_false] at hp
 rcases hp with rfl | rfl
 ·
  exact⟨by decide,Rep.len (α:=Str) (OpdR.cells (tp rfl) hl)⟩
 ·
  exact⟨by decide,Rep.len (α:=GVal) (OpdR.cells (tp rfl) hl)⟩) (λ w a hl=>GAttr.parts (x:=(⟨x2,x3⟩:GAttr)) (OpdR.cells (tp rfl) hl) (OpdR.cells (tp rfl) hl)) (λ _ st74=>?_)
  refine aK2 12 16 ?_ ?_
  ·
   refine st74.hdA 41 1 ((PV.root.row rfl (λ h=>hA21 h rfl) p35).fld owGModR.f5) [0] (λ g75 A75 _ hA75 st75=>?_)
   refine st75.segB 1 (sc rfl (xLc (sb:=41) (.head _) rfl rfl rfl kT96 (tp rfl) rfl)<|.nil) [36,37,45,48] [(0,0),(41,1)] (λ _ _ st76=>?_)
   refine aHN (st76.hkS (sb:=0) rfl) ?_
   refine aK1 16 ?_
   refine st76.segC 1 [36,37,45,49] [(0,0),(41,1)] (λ _ _ st77=>?_)
   refine aHN (st77.hkS (sb:=0) rfl) ?_
   refine aK1 17 ?_
   refine st77.mvG (s:=45) (sb:=41) 1 2 ((PV.root.row rfl (λ h=>hA21 h rfl) p35).fld owGModR.f5) (.head _) rfl (ym rfl rfl) rfl (by simp) (by simp) (by decide) rfl iI [36,37,49] rfl [0] rfl rfl rfl rfl (λ _ H79 st79=>?_)
   refine st79.tipR (s:=45) 2 rfl rfl (by simp) iI [0,41] rfl rfl (λ g80 st80=>?_)
   refine st80.apA 2 yW p47 [36,37] [0,41] (λ g81 _ _ _ st81=>?_)
   refine aHN (st81.hkS (sb:=0) rfl) ?_
   refine aK1 18 ?_
   refine st81.segB 1 (sc rfl (xIa (g:=g21) rfl kS35 (tp rfl) (tp rfl) rfl (λ h=>hA21 h rfl) p49)<|.nil) [51] [(0,0),(41,1),(50,2)] (λ _ _ st82=>?_)
   refine aHN (st82.hkS (sb:=0) rfl) ?_
   refine aK1 19 ?_
   refine st82.segC 1 [52] [(0,0),(41,1),(50,2)] (λ _ _ st83=>?_)
   refine aHN (st83.hkS (sb:=0) rfl) ?_
   refine aK1 20 ?_
   have st85:=st83.tipW (s:=50) 2 rfl rfl iI [0,41] rfl
   refine st85.shA 41 50 1 2 (tp rfl) [] [0] (λ _ _ st84=>?_)
   refine aHN (st84.hkS (sb:=0) rfl) ?_
   refine aK0 ?_
   refine st84.stG (s:=41) (sb:=0) 0 1 rfl (by simp) (by simp) (by decide) rfl rfl iI iI [] rfl [] rfl rfl rfl (λ _ st86=>?_)
   exact(st86.rs0 (s:=0) 0 rfl rfl iI (bx1 h56)).2
  ·
   refine st74.segC 1 [36,37,44,49] [(0,0),(41,1)] (λ _ _ st87=>?_)
   refine aHN (st87.hkS (sb:=0) rfl) ?_
   refine aK1 12 ?_
   refine st87.hdA 41 1 ((PV.root.row rfl (λ h=>hA21 h rfl) p35).fld owGModR.f5) [0] (λ g88 A88 _ hA88 st88=>?_)
   refine st88.segB 1 (sc rfl (xLc (sb:=41) (.head _) rfl rfl rfl kT96 (tp rfl) rfl)<|.nil) [36,37,45,49] [(0,0),(41,1)] (λ _ _ st89=>?_)
   refine aHN (st89.hkS (sb:=0) rfl) ?_
   refine aK1 17 ?_
   refine st89.mvG (s:=45) (sb:=41) 1 2 ((PV.root.row rfl (λ h=>hA21 h rfl) p35).fld owGModR.f5) (.head _) rfl (ym rfl rfl) rfl (by simp) (by simp) (by decide) rfl iI [36,37,49] rfl [0] rfl rfl rfl rfl (λ _ H91 st91=>?_)
   refine st91.tipR (s:=45) 2 rfl rfl (by simp) iI [0,41] rfl rfl (λ g92 st92=>?_)
   refine st92.apA 2 yW p47 [36,37] [0,41] (λ g93 _ _ _ st93=>?_)
   refine aHN (st93.hkS (sb:=0) rfl) ?_
   refine aK1 18 ?_
   refine st93.segB 1 (sc rfl (xIa (g:=g21) rfl kS35 (tp rfl) (tp rfl) rfl (λ h=>hA21 h rfl) p49)<|.nil) [51] [(0,0),(41,1),(50,2)] (λ _ _ st94=>?_)
   refine aHN (st94.hkS (sb:=0) rfl) ?_
   refine aK1 19 ?_
   refine st94.segC 1 [52] [(0,0),(41,1),(50,2)] (λ _ _ st95=>?_)
   refine aHN (st95.hkS (sb:=0) rfl) ?_
   refine aK1 20 ?_
   have st97:=st95.tipW (s:=50) 2 rfl rfl iI [0,41] rfl
   refine st97.shA 41 50 1 2 (tp rfl) [] [0] (λ _ _ st96=>?_)
   refine aHN (st96.hkS (sb:=0) rfl) ?_
   refine aK0 ?_
   refine st96.stG (s:=41) (sb:=0) 0 1 rfl (by simp) (by simp) (by decide) rfl rfl iI iI [] rfl [] rfl rfl rfl (λ _ st98=>?_)
   exact(st98.rs0 (s:=0) 0 rfl rfl iI (bx1 h56)).2
def Yu(x0:GMod):Option Str:=
if(cmpI .eql x0.kind (1:Int))=true then((xj x0.name).bind λ v5=>
some v5)
else(some x0.name)
theorem za4{x0:GMod}{r:Str}(h:Yu x0=some r):Fn prog 249 [dt x0] (dt r):=by
 unfold Yu at h
 refine fnx (fn:=f249) 0 func249 rfl (oD rfl) rfl (λ M _ _ st0=>?_)
 refine st0.sq1 [1] (λ _ _ st1=>wp_seq ?_)
 refine st1.sq1 [1,5] (λ _ _ st2=>?_)
 refine st2.cs rfl h (λ _ h3=>?_) (λ _ h4=>wp_skip (za ?_))
 ·
  obtain⟨v5,p5,h6⟩:=bsW h3 Zy
  refine st2.sq1 [2] (λ _ _ st7=>wp_ret (zd ?_))
  exact st7.ret rfl rfl h6
 refine st2.sq1 [2] (λ _ _ st8=>wp_ret ?_)
 exact st8.ret rfl rfl h4
def WP(x0:GVal):Option Int:=
if(cmpI .eql x0.kind (1:Int))=true then(some (-1:Int))
else(some x0.num)
theorem spec_shown_w{x0:GVal}{r:Int}(h:WP x0=some r):Fn prog 235 [dt x0] (dt r):=by
 unfold WP at h
 refine fnx (fn:=f235) 0 func235 rfl (oD rfl) rfl (λ M _ _ st0=>?_)
 refine st0.sq1 [1] (λ _ _ st1=>wp_seq ?_)
 refine st1.sq1 [1,5] (λ _ _ st2=>?_)
 refine st2.cs rfl h (λ _ h3=>?_) (λ _ h4=>wp_skip (za ?_))
 ·
  refine st2.sq1 [2] (λ _ _ st5=>wp_ret (zd ?_))
  exact st5.ret rfl rfl h3
 refine st2.sq1 [2] (λ _ _ st6=>wp_ret ?_)
 exact st6.ret rfl rfl h4
open Go.RowKit Tryz
set_option maxRecDepth 10000
set_option maxHeartbeats 1600000
theorem kF158_1:fldB prog 158 1 1=true:=by kernel_rfl
theorem kN176:fnB prog 176=true:=by kernel_rfl
instance iF158_1MbB:FldO prog 158 1 1:=⟨kF158_1⟩
def YD(x0:Runner)(x1:Str):Option (Runner×Spec):=
(xj x1).bind λ v3=>
if(decide (v3=(⟨[]⟩:Str)))=true then((ZK x0 x0.path (⟨[]⟩:Str) x1).bind λ v11=>
some (v11.1,v11.2))
else((wO x0 v3).bind λ v17=>
(gO (cmpI .lss v17.2 (0:Int) == false) (atI v17.1.mods v17.2)).bind λ v21=>
if(cmpI .lss v17.2 (0:Int)||cmpI .eql v21.kind (1:Int))=true then((Wg).bind λ v27=>
some (v17.1,v27))
else((atI v17.1.mods v17.2).bind λ v33=>
(X4 x1).bind λ v34=>
(ZK v17.1 v33.roots v3 v34).bind λ v39=>
some (v39.1,v39.2)))
theorem Qc{x0:Runner}{x1:Str}{r:Runner×Spec}(h:YD x0 x1=some r):FnS prog 172 oRun ⟨x0⟩ [dt x1] ⟨r.1⟩ (.frz (dt r.2)):=by
 unfold YD at h
 refine fnSB (fn:=f172) 0 2 func172 rfl (oD rfl) rfl (λ M G _ b0 _ st0=>wp_seq (wp_region_list ?_))
 refine st0.alA 1 Xx [1] [0] (λ b2 _ _ _ st2=>wpList_nil (za ?_))
 obtain⟨v3,p3,h4⟩:=bsW h Zy
 refine st2.sqA [1,5] [(0,0),(4,1)] (λ _ _ st5=>wp_seq ?_)
 refine st5.sqA [1,5,10] [(0,0),(4,1)] (λ _ _ st6=>?_)
 refine st6.cs rfl h4 (λ _ h7=>wp_seq (wp_region_list ?_)) (λ _ h8=>wp_skip (za (wp_seq (wp_region_list ?_))))
 ·
  refine st6.segB 6 (sP 4 (r:=by exact sc rfl (xLf (sb:=0) ((PV.root.box rfl).fld owRunner.f1) rfl kT26 (tp rfl) rfl)<|segC)) [11,15,16] [(0,0),(4,1)] (λ _ _ st9=>?_)
  obtain⟨v11,p11,h12⟩:=bs h7
  refine st9.cNA 0 0 (W4 p11) [] [4] (λ _ _ _ _ st10=>?_)
  refine st10.stA 4 1 FldS.id (tp rfl) [] [0] (λ _ _ st14=>wpList_nil (za ?_))
  refine wp_ret (zd ?_)
  exact st14.rsC (s:=0) 0 rfl kT71 rfl rfl iI (bxr h12)
 refine st6.segC 2 [1,5,18,19] [(0,0),(4,1)] (λ _ _ st15=>?_)
 obtain⟨v17,p17,h18⟩:=bs h8
 refine st15.cNA 0 0 (qk p17) [1,5] [4] (λ _ _ _ _ st16=>?_)
 refine st16.segA 1 [1,5,6] [(0,0),(4,1)] (λ _ _ st19=>wpList_nil (za (wp_seq ?_)))
 obtain⟨v21,p21,h22⟩:=bs h18
 refine st19.hdR (s:=0) 0 (cmpI .lss v17.2 (0:Int) == false) (λ hg=>((PV.root.box rfl).fld owRunner.f2)) rfl rfl iI [4] rfl (λ g20 A20 _ hA20 st20=>?_)
 refine st20.sqB (sc rfl (oM rfl (tp rfl))<|sc rfl (oCI rfl (tp rfl) cI)<|sc rfl (oM rfl (tp rfl))<|sg rfl rfl (λ hg=>oM rfl (zQ rfl))<|sg rfl rfl (λ hg=>xNc rfl (zl hg rfl))<|sg rfl rfl (λ hg=>xFa rfl Zh (zl hg rfl))<|sg rfl rfl (λ hg=>xLc (sb:=0) (.head _) hg rfl rfl kT35 (zl hg rfl) rfl)<|sg rfl rfl (λ hg=>oM rfl (tp rfl))<|sg rfl rfl (λ hg=>xIa (g:=g20) rfl kS35 (zl hg rfl) (zl hg rfl) rfl (λ h=>hA20 h hg) (gh hg p21))<|sg rfl rfl (λ hg=>xFa rfl kF98_1 (zl hg rfl))<|sg rfl rfl (λ hg=>xLf (sb:=0) ((((PV.root.box rfl).fld owRunner.f2).row (.head _) hg (λ h=>hA20 h hg) (gh hg p21)).fld owGModR.f1) rfl kT3 (zl hg rfl) rfl)<|sg rfl rfl (λ hg=>oCI rfl (zl hg rfl) cI)<|sc rfl (qI rfl (tp rfl) (zb rfl))<|.nil) [1,5,6,33] [(0,0),(4,1)] (λ _ _ st23=>?_)
 have st24:=st23.ncf (s:=0) 0 rfl rfl iI [4] rfl
 refine st24.cs rfl h22 (λ _ h25=>wp_seq (wp_region_list ?_)) (λ _ h26=>wp_skip (za (wp_seq ?_)))
 ·
  obtain⟨v27,p27,h28⟩:=bsW h25 spec_noSpec_w
  refine st24.segA 1 [34] [(0,0),(4,1)] (λ _ _ st29=>?_)
  refine st29.stA 4 1 FldS.id (tp rfl) [] [0] (λ _ _ st31=>wpList_nil (za ?_))
  refine wp_ret (zd ?_)
  exact st31.rsC (s:=0) 0 rfl kT71 rfl rfl iI (bxr h28)
 obtain⟨v33,p33,v34,p34,h36⟩:=bsB h26
 refine st24.hdA 0 0 ((PV.root.box rfl).fld owRunner.f2) [4] (λ g32 A32 _ hA32 st32=>?_)
 refine st32.drnA (D:=[_,_,_,_,_,_,_,_,_,_,_,_]) zH 12 [[(0,nS)],[(0,nS)],[(36,1)],[(37,2)],[(38,3),(0,nS)],[(6,nS)],[(39,4),(40,5)],[(41,6)],[(42,7),(0,nS)],[(5,nS)],[(1,nS)],[(45,10)],[(35,0),(43,8),(44,9),(46,11)],[(4,nS),(47,12)]] [35,43,44,46] [(0,0),(4,1)] (λ _ _ st37=>?_) (hs:=rc rfl rfl (oM rfl (zQ rfl))<|rc rfl rfl (oM rfl (zQ rfl))<|rc rfl rfl (xNc rfl (tp rfl))<|rc rfl rfl (xFa rfl Zh (tp rfl))<|rc rfl rfl (xLc (sb:=0) (.head _) rfl rfl rfl kT35 (tp rfl) rfl)<|rc rfl rfl (oM rfl (tp rfl))<|rc rfl rfl (xIa (g:=g32) rfl kS35 (tp rfl) (tp rfl) rfl (λ h=>hA32 h rfl) p33)<|rc rfl rfl (xFa rfl kF98_2 (tp rfl))<|rc rfl rfl (xLf (sb:=0) ((((PV.root.box rfl).fld owRunner.f2).row (.head _) rfl (λ h=>hA32 h rfl) p33).fld owGModR.f2) rfl kT26 (tp rfl) rfl)<|rc rfl rfl (oM rfl (tp rfl))<|rc rfl rfl (oM rfl (tp rfl))<|rc rfl rfl (zE (l:=[.tmp 45]) rfl kN176 (.cons (tp rfl) .nil) (zbu p34))<|.nil)
 obtain⟨v39,p39,h40⟩:=bs h36
 refine st37.cNA 0 0 (W4 p39) [] [4] (λ _ _ _ _ st38=>?_)
 refine st38.stA 4 1 FldS.id (tp rfl) [] [0] (λ _ _ st42=>wpList_nil (za (wp_ret ?_)))
 exact st42.rsC (s:=0) 0 rfl kT71 rfl rfl iI (bxr h40)
def ws(x1:Int)(s4:Str×Int):Option ((Str×Int)⊕(Str⊕(Str×Bool))):=
if(cmpI .lss s4.2 x1)=true then(if(decide (s4.1=(⟨[]⟩:Str)))=true then(some (.inr (.inr ((⟨[]⟩:Str),false))))
else((xj s4.1).bind λ v15=>
(i64 (s4.2+(1:Int))).bind λ v18=>
some (.inl (v15,v18))))
else(some (.inr (.inl s4.1)))
def YU(x0:Str)(x1:Int):Option (Str×Bool):=
Option.bind (α:=Str⊕(Str×Bool)) (zL (λ s4=>ws x1 s4) (x0,(1:Int))) (Sum.elim (λ b2=>
some (b2,decide (b2≠(⟨[]⟩:Str)))) some)
theorem spec_base_w{x0:Str}{x1:Int}{r:Str×Bool}(h:YU x0 x1=some r):Fn prog 225 [dt x0,dt x1] (dtup [dt r.1,dt r.2]):=by
 unfold YU at h
 refine fnx (fn:=f225) 0 func225 rfl (oD rfl) rfl (λ M w0 _ st0=>?_)
 refine st0.sq1 [0,1] (λ _ _ st1=>?_)
 obtain⟨o2,p2,k2⟩:=bs h
 refine zj (λ a w=>∃ b2,o2=.inl b2/\Sx (Frm.of w0) 19 M M [] [(0,dt b2)] [] a w) ?_ ?_
 ·
  refine st1.sq1 [0,1,6] (λ _ _ st3=>wp_block ?_)
  refine zF p2 (λ s4 a w=>Sx (Frm.of w0) 19 M M [] [(0,dt s4.1),(1,dt x1),(6,dt s4.2)] [] a w) (st3.sel0 [0,1,6] rfl) ?_
  rintro s4 z4 a4 w4 st4 hs4 hx4
  have h5:ws x1 s4=some z4:=hs4
  unfold ws at h5
  refine wp_seq ?_
  refine st4.sq1 [0,1,6,9] (λ _ _ st6=>?_)
  refine st6.cs rfl h5 (λ _ h7=>wp_skip (za (wp_seq (wp_block (wp_seq ?_))))) (λ _ h8=>wp_exit (zi (zi (zx ?_))))
  ·
   refine st6.sq1 [0,1,6,13] (λ _ _ st9=>?_)
   refine st9.cs rfl h7 (λ _ h10=>?_) (λ _ h11=>wp_skip (za ?_))
   ·
    refine st9.sq1 [4,5] (λ _ _ st12=>wp_ret (zd (zn (zd (zd (zn (zd ?_)))))))
    have h13:=lo h10 hx4
    have h14:=jo h13 k2
    obtain rfl:=Option.some.inj h14
    exact st12.ret2 rfl (st12.frozen (t:=4) rfl) (st12.frozen (t:=5) rfl) ⟨rfl,rfl⟩ rfl
   obtain⟨v15,p15,h16⟩:=bsW h11 Zy
   refine st9.rg1 [0,1,6] (λ _ _ st17=>zf (za ?_))
   obtain⟨v18,p18,h19⟩:=bs h16
   refine st17.rg1 [0,1,6] (λ _ _ st20=>za ?_)
   exact⟨_,(Option.some.inj h19).symm,st20.sel0 [0,1,6] rfl⟩
  refine za ?_
  have h21:=lo h8 hx4
  exact⟨_,(Option.some.inj h21).symm,st6.sel0 [0] rfl⟩
 rintro a2 w2 ⟨b2,rfl,st2⟩
 have h22:=jn k2
 refine st2.sq1 [4,5] (λ _ _ st23=>wp_ret ?_)
 obtain rfl:=Option.some.inj h22
 exact st23.ret2 rfl (st23.frozen (t:=4) rfl) (st23.frozen (t:=5) rfl) ⟨rfl,rfl⟩ rfl
def jh(x0:Str)(x1:Int)(x2:Str):Option Str:=
if(cmpI .eql x1 (0:Int))=true then(some x2)
else((YU x0 x1).bind λ v6=>
if(!v6.2)=true then(some (⟨[]⟩:Str))
else(if(decide (x2=(⟨[]⟩:Str)))=true then(some v6.1)
else((Z7 v6.1 x2).bind λ v17=>
some v17)))
theorem Jn{x0:Str}{x1:Int}{x2:Str}{r:Str}(h:jh x0 x1 x2=some r):Fn prog 194 [dt x0,dt x1,dt x2] (dt r):=by
 unfold jh at h
 refine fnx (fn:=f194) 0 func194 rfl (oD rfl) rfl (λ M _ _ st0=>?_)
 refine st0.sq1 [0,1,2] (λ _ _ st1=>wp_seq ?_)
 refine st1.sq1 [0,1,2,10] (λ _ _ st2=>?_)
 refine st2.cs rfl h (λ _ h3=>?_) (λ _ h4=>wp_skip (za ?_))
 ·
  refine st2.sq1 [6] (λ _ _ st5=>wp_ret (zd ?_))
  exact st5.ret rfl rfl h3
 obtain⟨v6,p6,h7⟩:=bsW h4 spec_base_w
 refine st2.sq1 [2,7,8] (λ _ _ st8=>wp_seq ?_)
 refine st8.sq1 [2,7,19] (λ _ _ st9=>?_)
 refine st9.cs rfl h7 (λ _ h10=>?_) (λ _ h11=>wp_skip (za (wp_seq ?_)))
 ·
  refine st9.sq1 [6] (λ _ _ st12=>wp_ret (zd ?_))
  exact st12.ret rfl rfl h10
 refine st9.sq1 [2,7,21] (λ _ _ st13=>?_)
 refine st13.cs rfl h11 (λ _ h14=>?_) (λ _ h15=>wp_skip (za ?_))
 ·
  refine st13.sq1 [6] (λ _ _ st16=>wp_ret (zd ?_))
  exact st16.ret rfl rfl h14
 obtain⟨v17,p17,h18⟩:=bsW h15 zas
 refine st13.sq1 [6] (λ _ _ st19=>wp_ret ?_)
 exact st19.ret rfl rfl h18
end Go.Proofs.YtpmkkijamfgaeaaGreatDoor
