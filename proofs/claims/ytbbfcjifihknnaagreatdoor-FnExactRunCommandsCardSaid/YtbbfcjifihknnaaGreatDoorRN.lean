import Derived.Test.YtbbfcjifihknnaaGreatDoorRO
import Derived.Test.YtbbfcjifihknnaaGreatDoorRH
import Derived.Test.YtbbfcjifihknnaaGreatDoorRB
import Derived.Test.YtbbfcjifihknnaaGreatDoorRJ
namespace Go.Proofs.YtbbfcjifihknnaaGreatDoor
open Go.RowKit Tryz
attribute [local irreducible] OpRel OpdR
set_option maxRecDepth 10000
set_option maxHeartbeats 1600000
variable{x1 x3:Int}{R:Rec}{r x0:Runner}{x2:Stmt}
theorem kF81_6:fldB prog 81 6 6=true:=by kernel_rfl
theorem kF81_5:fldB prog 81 5 5=true:=by kernel_rfl
theorem kN84:fnB prog 84=true:=by kernel_rfl
theorem kN144:fnB prog 144=true:=by kernel_rfl
theorem kF81_4:fldB prog 81 4 4=true:=by kernel_rfl
theorem kN141:fnB prog 141=true:=by kernel_rfl
theorem kI30:sliB prog 30 139 6=true:=by kernel_rfl
instance iF139_0MbC:FldO prog 139 0 0:=⟨JP⟩
instance iF139_1MbC:FldO prog 139 1 1:=⟨JQ⟩
instance iF139_3MbC:FldO prog 139 3 3:=⟨Q0⟩
instance iF139_4MbC:FldO prog 139 4 4:=⟨kF139_4⟩
instance iF139_5MbC:FldO prog 139 5 5:=⟨Yx⟩
instance iF216_1MbC:FldO prog 216 1 1:=⟨JR⟩
instance iF81_2MbC:FldO prog 81 2 2:=⟨ZN⟩
instance iF81_4MbC:FldO prog 81 4 4:=⟨kF81_4⟩
instance iF81_5MbC:FldO prog 81 5 5:=⟨kF81_5⟩
instance iF81_6MbC:FldO prog 81 6 6:=⟨kF81_6⟩
def xt(R:Rec)(x1:Int)(x2:List Stmt)(s2:Runner×Int):Option ((Runner×Int)⊕Runner):=
if(cmpI .lss s2.2 (x2.length:Int))=true then(if cmpI .eql s2.1.left 0 then(some (.inr ({ s2.1 with fin:=(6:Int) })))
else((i64 (s2.1.left - (1:Int))).bind λ v13=>
(atI x2 s2.2).bind λ v17=>
(R.spec_runStmt ({ s2.1 with left:=v13 }) x1 v17).bind λ v21=>
if cmpI .neq v21.fin 0 then(some (.inr v21))
else((i64 (s2.2+(1:Int))).bind λ v27=>
some (.inl (v21,v27)))))
else(some (.inr s2.1))
def Wy(R:Rec)(x0:Runner)(x1:Int)(x2:List Stmt):Option Runner:=
zH (λ s2=>xt R x1 x2 s2) (x0,(0:Int))
theorem zc5(hR:R.ok){x2:List Stmt}(h:Wy R x0 x1 x2=some r):FnS prog 142 oRun ⟨x0⟩ [dt x1,dt x2] ⟨r⟩ .gone:=by
 refine fnSB (fn:=f142) 0 1 func142 Z Z (λ M G w0 b0 _ j=>wqw ?_)
 refine j.zo [(0,0)] λ _ _ j=>?_
 refine wql h (λ s2 a w=>∃ M1 Q,Sx (Frm.chg w0 G) 41 M M1 [Q] [(1,dt x1),(2,dt x2),(6,dt s2.2)] [(0,0,dnm oRun Q ⟨s2.1⟩ (.pointer (some ⟨b0,0,none⟩)) [])] a w) fx ?_
 rintro s2 z2 _ _ ⟨_,Q,j⟩ hs2 hx2
 have h:xt R x1 x2 s2=some z2:=hs2
 unfold xt at h
 refine j.zd [(0,0)] h (λ _ _ j h=>?_) λ _ _ j h=>?_
 ·refine j.zd [(0,0)] h (λ _ _ j h=>?_) (λ _ _ j h=>?_) (hs:=sZ 3 (r:=by exact sc Z (xLf (sb:=0) ((PV.root.box Z).fld owRunner.f6) Z (tp Z) Z)<|segZ))
  ·refine Ka ?_
   refine j.zh 3 [(0,0)] λ _ _ j=>?_
   refine j.sfA 0 0 ((PV.root.box Z).fld owRunner.f5) (tp Z) cI [] [] (λ _ j=>Kb ?_)
   have h:=lo h hx2
   exact(j.rs0 (s:=0) 0 (bx1 h)).1
  refine Ka ?_
  have⟨v13,p13,h⟩:=bs h
  refine j.zh 8 [(0,0)] (λ _ _ j=>?_) (hs:=sZ 4 (r:=by exact sc Z (xLf (sb:=0) ((PV.root.box Z).fld owRunner.f6) Z (tp Z) Z)<|segZ))
  refine j.sfA 0 0 ((PV.root.box Z).fld owRunner.f6) (tp Z) (tp Z) [1,2,6] [] (λ _ j=>Kb (Ka ?_))
  have⟨v17,p17,h⟩:=bs h
  refine j.zh 6 [(0,0)] λ _ _ j=>?_
  have⟨v21,p21,h⟩:=bs h
  refine j.cNA 0 0 (FnS.any (hR.spec_runStmt p21)) [1,2,6] [] (λ _ _ _ _ j=>Kb ?_)
  refine j.zd [(0,0)] h (λ _ _ j h=>?_) (λ _ _ j h=>?_) (hs:=sZ 3 (r:=by exact sc Z (xLf (sb:=0) ((PV.root.box Z).fld owRunner.f5) Z (tp Z) Z)<|segZ))
  ·have h:=lo h hx2
   exact(j.rs0 (s:=0) 0 (bx1 h)).1
  have⟨v27,p27,h⟩:=bs h
  exact j.zn [(0,0)] h
 have h:=lo h hx2
 exact(j.rs0 (s:=0) 0 (bx1 h)).2
def Y9(R:Rec)(x0:Runner)(x1:Int)(x2:Stmt):Option Runner:=
if cmpI .eql x2.kind 0 then((R.spec_importName x0 x2.module).bind λ v8=>
(ZM x2.module (UInt8.ofNat 46)).bind λ v10=>
(atI v10 0).bind λ v11=>
if cmpI .neq v8.1.fin 0 then(some v8.1)
else((yY v8.1 v11).bind λ v20=>
if cmpI .lss v20.2 0 then(some ({ v20.1 with fin:=(1:Int) }))
else((yY v20.1 v11).bind λ v29=>
(wd v29.1 x1 v11 (⟨(1:Int),v29.2⟩:GVal)).bind λ v33=>
some v33)))
else(if cmpI .eql x2.kind 1 then((R.spec_runFrom x0 x1 x2).bind λ v40=>
some v40)
else(if cmpI .eql x2.kind 2 then((R.spec_runStar x0 x1 x2).bind λ v47=>
some v47)
else(if cmpI .eql x2.kind 3 then((wd x0 x1 x2.name (⟨(0:Int),x2.value⟩:GVal)).bind λ v54=>
some v54)
else(if cmpI .eql x2.kind 4 then((atI x0.mods x1).bind λ v60=>
(qg v60.attrs x2.name).bind λ v62=>
if cmpI .lss v62 0 then(some ({ x0 with fin:=(3:Int) }))
else((atI x0.mods x1).bind λ v76=>
(atI v76.attrs v62).bind λ v78=>
(Y8 v78.value).bind λ v79=>
(appO 8 x0.out ([v79]:List Int)).bind λ v89=>
some ({ x0 with out:=v89 })))
else(if cmpI .eql x2.kind 5 then(some ({ x0 with fin:=(4:Int) }))
else(some x0))))))
theorem zc6(hR:R.ok)(h:Y9 R x0 x1 x2=some r):FnS prog 212 oRun ⟨x0⟩ [dt x1,dt x2] ⟨r⟩ .gone:=by
 refine fnSB (fn:=f212) 1 2 func212 Z Z (λ M G _ b0 _ j=>wqw ?_)
 refine j.zo [(0,1)] λ _ _ j=>?_
 refine j.zo [(0,1)] λ _ _ j=>?_
 refine j.zd [(0,1)] h (λ _ _ j h=>?_) λ _ _ j h=>?_
 ·refine Ka ?_
  refine j.zh 3 [(0,1)] λ _ _ j=>?_
  have⟨v8,p8,h⟩:=bs h
  refine j.cNA 1 0 (hR.spec_importName p8) [1,5] [] (λ _ _ _ _ j=>Kb ?_)
  have⟨v10,p10,v11,p11,h⟩:=Kg h
  refine j.zo [(0,1)] λ _ _ j=>?_
  refine j.zd [(0,1)] h (λ _ _ j h=>?_) (λ _ _ j h=>?_) (hs:=sZ 3 (r:=by exact sc Z (xLf (sb:=0) ((PV.root.box Z).fld owRunner.f5) Z (tp Z) Z)<|segZ))
  ·exact(j.rs0 (s:=0) 1 (bx1 h)).1
  refine Ka ?_
  refine j.zh 2 [(0,1)] λ _ _ j=>?_
  have⟨v20,p20,h⟩:=bs h
  refine j.cNA 1 0 (wI p20) [1,6] [] λ _ _ _ _ j=>?_
  refine j.zh 1 [(0,1)] (λ _ _ j=>Kb ?_)
  refine j.cq h (λ h=>?_) λ h=>?_
  ·refine Ka ?_
   refine j.zh 3 [(0,1)] λ _ _ j=>?_
   refine j.sfA 0 1 ((PV.root.box Z).fld owRunner.f5) (tp Z) cI [] [] (λ _ j=>Kb ?_)
   exact(j.rs0 (s:=0) 1 (bx1 h)).1
  refine Ka ?_
  refine j.zh 5 [(0,1)] λ _ _ j=>?_
  have⟨v29,p29,h⟩:=bs h
  refine j.cNA 1 0 (wI p29) [33,34,35] [] λ _ _ _ _ j=>?_
  refine j.zh 1 [(0,1)] (λ _ _ j=>?_) (hs:=sc Z (YT Z cI (tp Z))<|.nil)
  have⟨v33,p33,h⟩:=bs h
  refine j.cNA 1 0 (FnS.any (ZO p33)) [] [] (λ _ _ _ _ j=>Kb ?_)
  exact(j.rs0 (s:=0) 1 (bx1 h)).2
 refine j.zd [(0,1)] h (λ _ _ j h=>?_) λ _ _ j h=>?_
 ·refine Ka ?_
  refine j.zh 3 [(0,1)] λ _ _ j=>?_
  have⟨v40,p40,h⟩:=bs h
  refine j.cNA 1 0 (FnS.any (hR.spec_runFrom p40)) [] [] (λ _ _ _ _ j=>Kb ?_)
  exact(j.rs0 (s:=0) 1 (bx1 h)).2
 refine j.zd [(0,1)] h (λ _ _ j h=>?_) λ _ _ j h=>?_
 ·refine Ka ?_
  refine j.zh 3 [(0,1)] λ _ _ j=>?_
  have⟨v47,p47,h⟩:=bs h
  refine j.cNA 1 0 (FnS.any (hR.spec_runStar p47)) [] [] (λ _ _ _ _ j=>Kb ?_)
  exact(j.rs0 (s:=0) 1 (bx1 h)).2
 refine j.zd [(0,1)] h (λ _ _ j h=>?_) λ _ _ j h=>?_
 ·refine Ka ?_
  refine j.zh 7 [(0,1)] (λ _ _ j=>?_) (hs:=sZ 6 (r:=by exact sc Z (YT Z cI (tp Z))<|.nil))
  have⟨v54,p54,h⟩:=bs h
  refine j.cNA 1 0 (FnS.any (ZO p54)) [] [] (λ _ _ _ _ j=>Kb ?_)
  exact(j.rs0 (s:=0) 1 (bx1 h)).2
 refine j.zd [(0,1)] h (λ _ _ j h=>?_) λ _ _ j h=>?_
 ·have⟨v60,p60,h⟩:=bs h
  have⟨v62,p62,h⟩:=bs h
  refine j.hdA 0 1 ((PV.root.box Z).fld owRunner.f2) [] λ g59 A59 _ hA59 j=>?_
  refine j.hdA 0 1 ((((PV.root.box Z).fld owRunner.f2).row (.head _) Z (λ h=>hA59 h Z) p60).fld owGModR.f5) [] λ g61 A61 _ hA61 j=>?_
  refine j.drA (D:=[_,_,_,_,_,_,_,_,_,_,_,_]) zP [[(0,nS)],[(65,0)],[(66,1)],[(67,2),(0,nS)],[(1,nS)],[(68,3),(69,4)],[(70,5)],[(71,6),(0,nS)],[(5,nS)],[(73,8)],[(72,7),(74,9),(0,nS)],[(75,10)]] [1,7] [(0,1)] (λ _ _ j=>?_) (hs:=rc Z Z (oM Z (zN Z))<|rc Z Z (xNc Z (tp Z))<|rc Z Z (xFa Z ZN (tp Z))<|rc Z Z (xLc (sb:=0) (.tail _ (.head _)) Z Z Z (tp Z) Z)<|rc Z Z (oM Z (tp Z))<|rc Z Z (xIa (g:=g59) Z kS30 (tp Z) (tp Z) Z (λ h=>hA59 h Z) p60)<|rc Z Z (xFa Z Yx (tp Z))<|rc Z Z (xLc (sb:=0) (.head _) Z Z Z (ht:=zaw) (tp Z) Z)<|rc Z Z (zA Stmt.fld3 Z (tp Z))<|rc Z Z (zr Z (tp Z))<|rc Z Z (yE (l:=[.tmp 72,.tmp 74]) j.ob.sub Z (.cons (Qx (sb:=0) j.ob 1 ((((PV.root.box Z).fld owRunner.f2).row (.tail _ (.head _)) Z (λ h=>hA59 h Z) p60).fld owGModR.f5) (.head _) Z (yJ Z Z) (tp Z) Z iI) (.cons (xq j.ob.sub (tp Z)) .nil)) (Xx p62) xa)<|rc Z Z (oA Z (tp Z))<|.nil)
  have j:=j.ncf (s:=0) 1 []
  refine j.zd [(0,1)] h (λ _ _ j h=>?_) λ _ _ j h=>?_
  ·refine Ka ?_
   refine j.zh 3 [(0,1)] λ _ _ j=>?_
   refine j.sfA 0 1 ((PV.root.box Z).fld owRunner.f5) (tp Z) cI [] [] (λ _ j=>Kb ?_)
   exact(j.rs0 (s:=0) 1 (bx1 h)).1
  refine j.held (λ _=>True) zP λ _ j=>?_
  refine j.tN 0 0 trivial λ _ j=>?_
  have⟨v76,p76,v78,p78,h⟩:=Kg h
  have⟨v79,p79,h⟩:=bs h
  refine j.hdA 0 1 ((PV.root.box Z).fld owRunner.f4) [] λ g74 A74 _ hA74 j=>?_
  refine j.hdA 0 1 ((PV.root.box Z).fld owRunner.f2) [] λ g75 A75 _ hA75 j=>?_
  refine j.hdA 0 1 ((((PV.root.box Z).fld owRunner.f2).row (.head _) Z (λ h=>hA75 h Z) p76).fld owGModR.f5) [] λ g77 A77 _ hA77 j=>?_
  refine j.drnE (D:=[_,_,_,_,_,_,_,_,_,_,_,_,_,_,_,_,_,_,_]) 19 [0] [[(0,nS)],[(0,nS)],[(82,1)],[(83,2)],[(84,3),(0,nS)],[(0,nS)],[(86,5)],[(87,6)],[(88,7),(0,nS)],[(1,nS)],[(89,8),(90,9)],[(91,10)],[(92,11),(0,nS)],[(7,nS)],[(93,12),(94,13)],[(95,14)],[(96,15),(0,nS)],[(97,16)],[(98,17)],[(85,4),(99,18)],[(81,0)],[(101,20)],[(102,21),(100,19)]] (
   rc Z Z (oM Z (zN Z))<|rc Z Z (oM Z (zN Z))<|rc Z Z (xNc Z (tp Z))<|rc Z Z (xFa Z kF81_4 (tp Z))<|rc Z Z (xLc (sb:=0) (.tail _ (.tail _ (.head _))) Z Z Z (tp Z) Z)<|rc Z Z (oM Z (zN Z))<|rc Z Z (xNc Z (tp Z))<|rc Z Z (xFa Z ZN (tp Z))<|rc Z Z (xLc (sb:=0) (.tail _ (.head _)) Z Z Z (tp Z) Z)<|rc Z Z (oM Z (tp Z))<|rc Z Z (xIa (g:=g75) Z kS30 (tp Z) (tp Z) Z (λ h=>hA75 h Z) p76)<|rc Z Z (xFa Z Yx (tp Z))<|rc Z Z (xLc (sb:=0) (.head _) Z Z Z (ht:=zaw) (tp Z) Z)<|rc Z Z (oM Z (tp Z))<|rc Z Z (xIa (g:=g77) Z Xh (tp Z) (tp Z) Z (λ h=>hA77 h Z) p78)<|rc Z Z (xFa Z JR (tp Z))<|rc Z Z (xLf (sb:=0) ((((((PV.root.box Z).fld owRunner.f2).row (.tail _ (.head _)) Z (λ h=>hA75 h Z) p76).fld owGModR.f5).row (.head _) Z (λ h=>hA77 h Z) p78).fld GAttr.z1) Z (tp Z) Z)<|rc Z Z (zC (l:=[.tmp 97]) Z (.cons (tp Z) .nil) (zbB p79))<|rc Z Z (qf (opds:=[.tmp 98]) Z Z Z (.cons (tp Z) .nil))<|.nil) (by
 intro i hi x d hx
 simp only[List.mem_cons,List.not_mem_nil,or_false] at hi
 rcases hi with rfl
 all_goals (injection hx with hx;injection hx with h1 h2;subst h1;subst h2;rfl)) [81,85,99] [(0,1)] Z iT (λ _ _ j=>?_)
  refine j.mvG (s:=85) (sb:=0) 1 0 ((PV.root.box Z).fld owRunner.f4) (.tail _ (.tail _ (.head _))) (yJ Z Z) [81,99] [] λ _ H85 j=>?_
  refine j.tipR (s:=85) 0 (by first | (simp;done) | exact oD rfl) [0] λ g86 j=>?_
  have⟨v89,p89,h⟩:=bs h
  refine j.apA 0 y7 p89 [81] [0] λ g88 _ _ _ j=>?_
  refine j.zh 2 [(0,1),(100,0)] λ _ _ j=>?_
  have j:=j.tipW (s:=100) 0 [0]
  refine j.shA 0 100 1 0 (tp Z) [] [] (λ _ _ j=>Kb ?_)
  exact(j.rs0 (s:=0) 1 (bx1 h)).2
 refine j.zd [(0,1)] h (λ _ _ j h=>?_) λ _ _ j h=>?_
 ·refine Ka ?_
  refine j.zh 3 [(0,1)] λ _ _ j=>?_
  refine j.sfA 0 1 ((PV.root.box Z).fld owRunner.f5) (tp Z) cI [] [] (λ _ j=>Kb ?_)
  exact(j.rs0 (s:=0) 1 (bx1 h)).2
 exact(j.rs0 (s:=0) 1 (bx1 h)).2
def xu(_R:Rec)(x1:Int)(v13:List GAttr)(s19:Runner×Int):Option ((Runner×Int)⊕Runner):=
if(cmpI .lss s19.2 (v13.length:Int))=true then(Option.bind (α:=Runner) ((atI v13 s19.2).bind λ v25=>
(atI v25.name.l 0).bind λ v26=>
if(cmpB .neq v26 (UInt8.ofNat 122))=true then((atI v13 s19.2).bind λ v32=>
(atI v13 s19.2).bind λ v33=>
(wd s19.1 x1 v32.name v33.value).bind λ v38=>
some v38)
else(some s19.1)) λ o24=>
(i64 (s19.2+(1:Int))).bind λ v41=>
some (.inl (o24,v41)))
else(some (.inr s19.1))
def ZQ(R:Rec)(x0:Runner)(x1:Int)(x2:Stmt):Option Runner:=
(R.spec_importName x0 x2.module).bind λ v4=>
if cmpI .neq v4.1.fin 0 then(some v4.1)
else((atI v4.1.mods v4.2).bind λ v11=>
(appO 32 [] v11.attrs).bind λ v13=>
zH (λ s19=>xu R x1 v13 s19) (v4.1,(0:Int)))
theorem zc7(hR:R.ok)(h:ZQ R x0 x1 x2=some r):FnS prog 263 oRun ⟨x0⟩ [dt x1,dt x2] ⟨r⟩ .gone:=by
 unfold ZQ at h
 refine fnSB (fn:=f263) 0 1 func263 Z Z λ M G w0 b0 _ j=>?_
 refine j.sqA [1,5] [(0,0)] (λ _ _ j=>Kc (Ka ?_))
 refine j.segC 3 [1,9,11] [(0,0)] λ _ _ j=>?_
 have⟨v4,p4,h⟩:=bs h
 refine j.cNA 0 0 (hR.spec_importName p4) [1] [] λ _ _ _ _ j=>?_
 refine j.segA 1 [1,6] [(0,0)] (λ _ _ j=>Kb (za (Kc ?_)))
 refine j.sqB (sP 3 (r:=by exact sc Z (xLf (sb:=0) ((PV.root.box Z).fld owRunner.f5) Z (tp Z) Z)<|segC)) [1,6,17] [(0,0)] λ _ _ j=>?_
 refine j.cs h (λ _ h=>?_) λ _ h=>?_
 ·refine wp_ret (zE ?_)
  exact(j.rs0 (s:=0) 0 (bx1 h)).1
 refine wp_skip (za ?_)
 have⟨v11,p11,v13,p13,h⟩:=Kg h
 refine j.hdA 0 0 ((PV.root.box Z).fld owRunner.f2) [] λ g10 A10 _ hA10 j=>?_
 refine j.hdA 0 0 ((((PV.root.box Z).fld owRunner.f2).row (.head _) Z (λ h=>hA10 h Z) p11).fld owGModR.f5) [] λ g12 A12 _ hA12 j=>?_
 refine j.sqB (sc Z (zO (α:=GAttr) (e:=216) Z (ht':=Xh))<|sP 5 (r:=by exact sc Z (xIa (g:=g10) Z kS30 (tp Z) (tp Z) Z (λ h=>hA10 h Z) p11)<|sP 2 (r:=by exact sc Z (op_app1 Z kE137 (tp Z) (row_hd (sb:=0) ((((PV.root.box Z).fld owRunner.f2).row (.tail _ (.head _)) Z (λ h=>hA10 h Z) p11).fld owGModR.f5) (.head _) Z (yJ Z Z) Z (tp Z)) p13)<|segC))) [1,7] [(0,0)] λ _ _ j=>?_
 have j:=j.ncf (s:=0) 0 []
 refine j.sqA [1,7,8] [(0,0)] (λ _ _ j=>wp_block ?_)
 refine Wj h (λ s19 a w=>∃ M1 Q,Sx (Frm.chg w0 G) 54 M M1 [Q] [(1,dt x1),(7,dt v13),(8,dt s19.2)] [(0,0,dnm oRun Q ⟨s19.1⟩ (.pointer (some ⟨b0,0,none⟩)) [])] a w) fx ?_
 rintro s19 z19 _ _ ⟨_,Q,j⟩ hs19 hx19
 have h:xu R x1 v13 s19=some z19:=hs19
 unfold xu at h
 refine Kc ?_
 refine j.sqA [1,7,8,31] [(0,0)] λ _ _ j=>?_
 refine j.cs h (λ _ h=>?_) λ _ h=>?_
 ·refine wp_skip (za ?_)
  have⟨o24,p24,k24⟩:=bs h
  refine YP (λ a w=>∃ M1 Q,Sx (Frm.chg w0 G) 54 M M1 [Q] [(1,dt x1),(7,dt v13),(8,dt s19.2)] [(0,0,dnm oRun Q ⟨o24⟩ (.pointer (some ⟨b0,0,none⟩)) [])] a w) ?_ ?_
  ·refine wp_block ?_
   have⟨v25,p25,h⟩:=bs p24
   have⟨v26,p26,h⟩:=bs h
   refine j.sqB (sP 5 (r:=by exact sc Z (xByte Z (tp Z) cI p26)<|sc Z (oCB Z (tp Z) (Wb))<|.nil)) [1,7,8,40] [(0,0)] λ _ _ j=>?_
   refine j.cs h (λ _ h=>?_) λ _ h=>?_
   ·have⟨v32,p32,h⟩:=bs h
    have⟨v33,p33,h⟩:=bs h
    refine j.drnA (D:=[_,_,_,_,_,_,_,_,_,_,_,_]) zP 12 [[(0,nS)],[(1,nS)],[(7,nS)],[(8,nS)],[(43,2),(44,3)],[(45,4)],[(46,5)],[(7,nS)],[(8,nS)],[(48,7),(49,8)],[(50,9)],[(51,10)],[(41,0),(42,1),(47,6),(52,11)]] [1,7,8,41,42,47,52] [(0,0)] (λ _ _ j=>?_) (hs:=rc Z Z (oM Z (zN Z))<|rc Z Z (oM Z (tp Z))<|rc Z Z (oM Z (tp Z))<|rc Z Z (oM Z (tp Z))<|rc Z Z (xIdx Z (ht':=Xh) (tp Z) (tp Z) p32)<|rc Z Z (zA GAttr.fld0 Z (tp Z))<|rc Z Z (zr Z (tp Z))<|rc Z Z (oM Z (tp Z))<|rc Z Z (oM Z (tp Z))<|rc Z Z (xIdx Z (ht':=Xh) (tp Z) (tp Z) p33)<|rc Z Z (zA GAttr.fld1 Z (ht:=JR) (tp Z))<|rc Z Z (zr Z (tp Z))<|.nil)
    have⟨v38,p38,h⟩:=bs h
    refine j.cSF (l:=[.tmp 42,.tmp 47,.tmp 52]) 0 (j.bkN (s:=0) Z iI) Z Z kN144 (Eq.trans (j.st.has 41 _ Z) (j.st.has 0 _ Z).1.symm) (by simp) (.cons (tp Z) (.cons (tp Z) (.cons (tp Z) .nil))) (FnS.any (ZO p38)) [1,7,8] Z [] Z Z (by decide) (λ _ _ _ _ j=>Kb (zY (za ?_)))
    cases h
    exact fx
   refine wp_skip (zY (za ?_))
   cases h
   exact fx
  rintro _ _ ⟨_,Q,j⟩
  have h:=k24
  have⟨v41,p41,h⟩:=bs h
  refine j.rgA [1,7,8] [(0,0)] (λ _ _ j=>za ?_)
  exact fl h
 refine wp_exit (zV (zV (yM ?_)))
 have h:=lo h hx19
 exact(j.rs0 (s:=0) 0 (bx1 h)).2
def Xa(R:Rec)(x0:Runner)(x1:Int)(x2:Stmt):Option Runner:=
(atI x0.mods x1).bind λ v3=>
(qH v3).bind λ v5=>
(ZP v5 x2.level x2.module).bind λ v6=>
(xk v6).bind λ v12=>
if(!v12)=true then(some ({ x0 with fin:=(5:Int) }))
else((R.spec_importName x0 v6).bind λ v21=>
if cmpI .neq v21.1.fin 0 then(some v21.1)
else((R.spec_fromName v21.1 v21.2 x2.name).bind λ v29=>
if cmpI .eql v29.1.fin 0 then((wd v29.1 x1 x2.name v29.2).bind λ v40=>
some v40)
else(some v29.1)))
theorem zc8(hR:R.ok)(h:Xa R x0 x1 x2=some r):FnS prog 262 oRun ⟨x0⟩ [dt x1,dt x2] ⟨r⟩ .gone:=by
 refine fnSB (fn:=f262) 0 2 func262 Z Z (λ M G _ b0 _ j=>wqw ?_)
 refine j.zo [(0,0)] λ _ _ j=>?_
 have⟨v3,p3,v5,p5,h⟩:=Kg h
 have⟨v6,p6,h⟩:=bs h
 refine j.hdA 0 0 ((PV.root.box Z).fld owRunner.f2) [] λ g2 A2 _ hA2 j=>?_
 refine j.hdW (s:=0) 0 true (λ _=>(((PV.root.box Z).fld owRunner.f2).row (.head _) Z (λ h=>hA2 h Z) p3)) [] λ cs4 hS4 j=>?_
 refine j.drA (D:=[_,_,_,_,_,_,_,_,_,_,_,_,_,_]) zP [[(0,nS)],[(9,0)],[(10,1)],[(11,2),(0,nS)],[(1,nS)],[(12,3),(13,4)],[(14,5),(0,nS)],[(15,6),(0,nS)],[(5,nS)],[(17,8)],[(5,nS)],[(19,10)],[(16,7),(18,9),(20,11)],[(21,12)]] [1,5,6] [(0,0)] (λ _ _ j=>?_) (hs:=rc Z Z (oM Z (zN Z))<|rc Z Z (xNc Z (tp Z))<|rc Z Z (xFa Z ZN (tp Z))<|rc Z Z (xLc (sb:=0) (.tail _ (.head _)) Z Z Z (tp Z) Z)<|rc Z Z (oM Z (tp Z))<|rc Z Z (xIa (g:=g2) Z kS30 (tp Z) (tp Z) Z (λ h=>hA2 h Z) p3)<|rc Z Z (xLw (sb:=0) (.head _) Z (hS4 Z) Z (tp Z) Z)<|rc Z Z (yE (l:=[.tmp 15]) j.ob.sub Z (.cons (Qx (sb:=0) j.ob 0 (((PV.root.box Z).fld owRunner.f2).row (.tail _ (.head _)) Z (λ h=>hA2 h Z) p3) (.head _) Z (Y4 Z (hS4 Z)) (tp Z) Z iI) .nil) (Jr p5) flat_str)<|rc Z Z (zA Stmt.fld2 Z (tp Z))<|rc Z Z (zr Z (tp Z))<|rc Z Z (zA Stmt.fld1 Z (tp Z))<|rc Z Z (zr Z (tp Z))<|rc Z Z (zC (l:=[.tmp 16,.tmp 18,.tmp 20]) Z (.cons (tp Z) (.cons (tp Z) (.cons (tp Z) .nil))) (QI p6))<|rc Z Z (oA Z (tp Z))<|.nil)
 have j:=j.ncf (s:=0) 0 []
 have⟨v12,p12,h⟩:=bs h
 refine j.zd [(0,0)] h (λ _ _ j h=>?_) λ _ _ j h=>?_
 ·refine Ka ?_
  refine j.zh 3 [(0,0)] λ _ _ j=>?_
  refine j.sfA 0 0 ((PV.root.box Z).fld owRunner.f5) (tp Z) cI [] [] (λ _ j=>Kb ?_)
  exact(j.rs0 (s:=0) 0 (bx1 h)).1
 refine Ka ?_
 refine j.zh 2 [(0,0)] λ _ _ j=>?_
 have⟨v21,p21,h⟩:=bs h
 refine j.cNA 0 0 (hR.spec_importName p21) [1,5] [] λ _ _ _ _ j=>?_
 refine j.zh 1 [(0,0)] (λ _ _ j=>Kb ?_)
 refine j.zd [(0,0)] h (λ _ _ j h=>?_) (λ _ _ j h=>?_) (hs:=sZ 3 (r:=by exact sc Z (xLf (sb:=0) ((PV.root.box Z).fld owRunner.f5) Z (tp Z) Z)<|segZ))
 ·exact(j.rs0 (s:=0) 0 (bx1 h)).1
 refine Ka ?_
 refine j.zh 4 [(0,0)] λ _ _ j=>?_
 have⟨v29,p29,h⟩:=bs h
 refine j.cNA 0 0 (hR.spec_fromName p29) [1,5] [] λ _ _ _ _ j=>?_
 refine j.alA 1 JI [1,5,40] [0] λ b32 _ _ _ j=>?_
 refine j.stA 8 1 FldS.id (tp Z) [1,5] [0] (λ _ _ j=>Kb ?_)
 refine j.zd [(0,0),(8,1)] h (λ _ _ j h=>?_) (λ _ _ j h=>?_) (hs:=sZ 3 (r:=by exact sc Z (xLf (sb:=0) ((PV.root.box Z).fld owRunner.f5) Z (tp Z) Z)<|segZ))
 ·refine Ka ?_
  refine j.zh 5 [(0,0)] λ _ _ j=>?_
  have⟨v40,p40,h⟩:=bs h
  refine j.cNA 0 0 (FnS.any (ZO p40)) [] [] (λ _ _ _ _ j=>Kb ?_)
  exact(j.rs0 (s:=0) 0 (bx1 h)).2
 exact(j.rs0 (s:=0) 0 (bx1 h)).2
def Yy(R:Rec)(x0:Runner)(x1:Int)(x2:Str):Option (Runner×GVal):=
(atI x0.mods x1).bind λ v4=>
(qg v4.attrs x2).bind λ v6=>
if cmpI .geq v6 0 then((atI x0.mods x1).bind λ v15=>
(atI v15.attrs v6).bind λ v17=>
some (x0,v17.value))
else((atI x0.mods x1).bind λ v25=>
(qW v25.name x2).bind λ v26=>
(atI x0.mods x1).bind λ v32=>
(gO (cmpI .eql v32.kind 1 == false) (xk v26)).bind λ v33=>
if(cmpI .eql v32.kind 1||(!v33))=true then(some ({ x0 with fin:=(2:Int) },(⟨0,0⟩:GVal)))
else((yY x0 v26).bind λ v47=>
(gO (cmpI .lss v47.2 0 == true) (wJ v47.1 v26)).bind λ v51=>
if(cmpI .lss v47.2 0&&cmpI .eql v51.2.kind 0)=true then(some ({ (if(cmpI .lss v47.2 0 == true)=true then v51.1 else v47.1) with fin:=(2:Int) },(⟨0,0⟩:GVal)))
else((R.spec_importName (if(cmpI .lss v47.2 0 == true)=true then v51.1 else v47.1) v26).bind λ v63=>
some (v63.1,(⟨(1:Int),v63.2⟩:GVal)))))
theorem zcM(hR:R.ok){x2:Str}{r:Runner×GVal}(h:Yy R x0 x1 x2=some r):FnS prog 306 oRun ⟨x0⟩ [dt x1,dt x2] ⟨r.1⟩ (.frz (dt r.2)):=by
 refine fnSB (fn:=f306) 0 2 func306 Z Z (λ M G _ b0 _ j=>wqw (Ka ?_))
 refine j.alA 1 JI [1,2] [0] (λ b2 _ _ _ j=>Kb ?_)
 have⟨v4,p4,v6,p6,h⟩:=Kg h
 refine j.hdA 0 0 ((PV.root.box Z).fld owRunner.f2) [6] λ g3 A3 _ hA3 j=>?_
 refine j.hdA 0 0 ((((PV.root.box Z).fld owRunner.f2).row (.head _) Z (λ h=>hA3 h Z) p4).fld owGModR.f5) [6] λ g5 A5 _ hA5 j=>?_
 refine j.rgB (sZ 5 (r:=by exact sc Z (xIa (g:=g3) Z kS30 (tp Z) (tp Z) Z (λ h=>hA3 h Z) p4)<|sZ 3 (r:=by exact sc Z (yE (l:=[.tmp 16,.tmp 17]) j.ob.sub Z (.cons (Qx (sb:=0) j.ob 0 ((((PV.root.box Z).fld owRunner.f2).row (.tail _ (.head _)) Z (λ h=>hA3 h Z) p4).fld owGModR.f5) (.head _) Z (yJ Z Z) (tp Z) Z iI) (.cons (xq j.ob.sub (tp Z)) .nil)) (Xx p6) xa)<|segZ))) [1,2,7] [(0,0),(6,1)] λ _ _ j=>?_
 have j:=j.ncf (s:=0) 0 [6]
 refine j.rgA [1,2,7,20] [(0,0),(6,1)] λ _ _ j=>?_
 refine j.cq h (λ h=>?_) λ h=>?_
 ·refine Ka ?_
  have⟨v15,p15,v17,p17,h⟩:=Kg h
  refine j.hdA 0 0 ((PV.root.box Z).fld owRunner.f2) [6] λ g14 A14 _ hA14 j=>?_
  refine j.hdA 0 0 ((((PV.root.box Z).fld owRunner.f2).row (.head _) Z (λ h=>hA14 h Z) p15).fld owGModR.f5) [6] λ g16 A16 _ hA16 j=>?_
  refine j.segB 12 (sZ 5 (r:=by exact sc Z (xIa (g:=g14) Z kS30 (tp Z) (tp Z) Z (λ h=>hA14 h Z) p15)<|sZ 3 (r:=by exact sc Z (xIa (g:=g16) Z Xh (tp Z) (tp Z) Z (λ h=>hA16 h Z) p17)<|sZ 1 (r:=by exact sc Z (xLf (sb:=0) ((((((PV.root.box Z).fld owRunner.f2).row (.tail _ (.head _)) Z (λ h=>hA14 h Z) p15).fld owGModR.f5).row (.head _) Z (λ h=>hA16 h Z) p17).fld GAttr.z1) Z (tp Z) Z)<|.nil)))) [32] [(0,0),(6,1)] λ _ _ j=>?_
  refine j.stA 6 1 FldS.id (tp Z) [] [0] (λ _ _ j=>Kb ?_)
  have j:=j.ncf (s:=0) 0 [6]
  exact j.xC 0 0 h
 have⟨v25,p25,v26,p26,h⟩:=Kg h
 refine j.hdA 0 0 ((PV.root.box Z).fld owRunner.f2) [6] λ g24 A24 _ hA24 j=>?_
 refine j.rgB (sZ 5 (r:=by exact sc Z (xIa (g:=g24) Z kS30 (tp Z) (tp Z) Z (λ h=>hA24 h Z) p25)<|sZ 1 (r:=by exact sc Z (xLf (sb:=0) ((((PV.root.box Z).fld owRunner.f2).row (.head _) Z (λ h=>hA24 h Z) p25).fld owGModR.f0) Z (tp Z) Z)<|sZ 1 (r:=by exact sc Z (oK (zbx p26))<|segZ)))) [1,8] [(0,0),(6,1)] λ _ _ j=>?_
 have j:=j.ncf (s:=0) 0 [6]
 have⟨v32,p32,v33,p33,h⟩:=Kg h
 refine j.hdA 0 0 ((PV.root.box Z).fld owRunner.f2) [6] λ g31 A31 _ hA31 j=>?_
 refine j.rgB (sZ 5 (r:=by exact sc Z (xIa (g:=g31) Z kS30 (tp Z) (tp Z) Z (λ h=>hA31 h Z) p32)<|sZ 1 (r:=by exact sc Z (xLf (sb:=0) ((((PV.root.box Z).fld owRunner.f2).row (.head _) Z (λ h=>hA31 h Z) p32).fld owGModR.f1) Z (tp Z) Z)<|sZ 3 (r:=by exact sg Z Z (λ hg=>oK (Xn (gh hg p33)))<|segZ)))) [8,56] [(0,0),(6,1)] λ _ _ j=>?_
 have j:=j.ncf (s:=0) 0 [6]
 refine j.cq h (λ h=>?_) λ h=>?_
 ·refine Ka ?_
  refine j.segC 3 [59] [(0,0),(6,1)] λ _ _ j=>?_
  refine j.sfA 0 0 ((PV.root.box Z).fld owRunner.f5) (tp Z) cI [] [6] (λ _ j=>Kb (Ka ?_))
  refine j.segB 1 (sc Z (yO (parts:=[]) (ns:=[1,1]) (zs:=zpGVal) Z Z (λ w a hl=>by simp) (λ w a hl=>GVal.parts (x:=(⟨0,0⟩:GVal)) ⟨Z,trivial⟩ ⟨Z,trivial⟩))<|.nil) [60] [(0,0),(6,1)] λ _ _ j=>?_
  refine j.stA 6 1 FldS.id (tp Z) [] [0] (λ _ _ j=>Kb ?_)
  exact j.xC 0 0 h
 refine Ka ?_
 refine j.segC 2 [8,61,62] [(0,0),(6,1)] λ _ _ j=>?_
 have⟨v47,p47,h⟩:=bs h
 refine j.cNA 0 0 (wI p47) [8] [6] λ _ _ _ _ j=>?_
 refine j.segB 4 (sc Z (oCI Z (tp Z) cI)<|sc Z (oM Z (tp Z))<|sg Z Z (λ hg=>oM Z (zN Z))<|sg Z Z (λ hg=>oM Z (tp Z))<|.nil) [8,65,66,67] [(0,0),(6,1)] λ _ _ j=>?_
 have⟨v51,p51,h⟩:=bs h
 refine j.cSFgB (sb:=0) (l:=[.tmp 67]) 0 Z iI Z Z Z kN141 (λ hg=>(j.st.has 66 _ Z).1 hg) (by simp) (λ hg=>(.cons (zp hg Z) .nil)) (λ hg=>W5 (gh hg p51)) [8,65] Z [6] Z Z (by decide) λ _ _ _ _ j=>?_
 refine j.segB 3 (sg Z Z (λ hg=>QW Spec.fld0 Z Z (zp hg Z))<|segZ) [8,71] [(0,0),(6,1)] (λ _ _ j=>Kb ?_)
 refine j.cq h (λ h=>?_) λ h=>?_
 ·refine Ka ?_
  refine j.segC 3 [74] [(0,0),(6,1)] λ _ _ j=>?_
  refine j.sfA 0 0 ((PV.root.box Z).fld owRunner.f5) (tp Z) cI [] [6] (λ _ j=>Kb (Ka ?_))
  refine j.segB 1 (sc Z (yO (parts:=[]) (ns:=[1,1]) (zs:=zpGVal) Z Z (λ w a hl=>by simp) (λ w a hl=>GVal.parts (x:=(⟨0,0⟩:GVal)) ⟨Z,trivial⟩ ⟨Z,trivial⟩))<|.nil) [75] [(0,0),(6,1)] λ _ _ j=>?_
  refine j.stA 6 1 FldS.id (tp Z) [] [0] (λ _ _ j=>Kb ?_)
  exact j.xC 0 0 h
 refine Ka ?_
 refine j.segC 2 [76,77] [(0,0),(6,1)] λ _ _ j=>?_
 have⟨v63,p63,h⟩:=bs h
 refine j.cNA 0 0 (hR.spec_importName p63) [] [6] λ _ _ _ _ j=>?_
 refine j.segB 1 (sc Z (YT Z cI (tp Z))<|.nil) [79] [(0,0),(6,1)] λ _ _ j=>?_
 refine j.stA 6 1 FldS.id (tp Z) [] [0] (λ _ _ j=>Kb ?_)
 exact j.xC 0 0 h
def Zx(R:Rec)(x0:Runner)(x1:Str):Option (Runner×Int):=
(yY x0 x1).bind λ v4=>
if cmpI .geq v4.2 0 then((yL v4.1 (3:Int) x1).bind λ v13=>
some (v13,v4.2))
else((yI x1).bind λ v17=>
(gO (decide (v17≠(⟨[]⟩:Str)) == true) (R.spec_importName v4.1 v17)).bind λ v22=>
if(decide (v17≠(⟨[]⟩:Str))&&cmpI .lss v22.2 0)=true then(some ((if(decide (v17≠(⟨[]⟩:Str)) == true)=true then v22.1 else v4.1),(-1:Int)))
else((yY (if(decide (v17≠(⟨[]⟩:Str)) == true)=true then v22.1 else v4.1) x1).bind λ v31=>
if cmpI .geq v31.2 0 then((yL v31.1 (3:Int) x1).bind λ v40=>
some (v40,v31.2))
else((wJ v31.1 x1).bind λ v46=>
if cmpI .eql v46.2.kind 0 then(some ({ v46.1 with fin:=(1:Int) },(-1:Int)))
else(Option.bind (α:=Runner) ((appO 80 v46.1.mods [(⟨x1,v46.2.kind,v46.2.roots,true,false,[]⟩:GMod)]).bind λ v87=>
some ({ v46.1 with mods:=v87 })) λ o65=>
(yL o65 (0:Int) x1).bind λ v143=>
Option.bind (α:=Runner) (if cmpI .geq v46.2.file 0 then((js v143 v46.2.file).bind λ v152=>
(R.spec_runBody v152.1 (v46.1.mods.length:Int) v152.2).bind λ v156=>
some v156)
else(some v143)) λ o146=>
if cmpI .neq o146.fin 0 then((atI o146.mods (v46.1.mods.length:Int)).bind λ v164=>
(yL ({ o146 with mods:=(o146.mods.set (v46.1.mods.length:Int).toNat ({ v164 with cached:=false })) }) (2:Int) x1).bind λ v170=>
some (v170,(-1:Int)))
else((atI o146.mods (v46.1.mods.length:Int)).bind λ v175=>
(yL ({ o146 with mods:=(o146.mods.set (v46.1.mods.length:Int).toNat ({ v175 with done:=true })) }) (1:Int) x1).bind λ v181=>
Option.bind (α:=Runner) ((yY v181 v17).bind λ v187=>
if cmpI .geq v187.2 0 then((qR x1).bind λ v194=>
(wd v187.1 v187.2 v194 (⟨(1:Int),(v46.1.mods.length:Int)⟩:GVal)).bind λ v198=>
some v198)
else(some v187.1)) λ o184=>
some (o184,(v46.1.mods.length:Int)))))))
theorem zbC(hR:R.ok){x1:Str}{r:Runner×Int}(h:Zx R x0 x1=some r):FnS prog 84 oRun ⟨x0⟩ [dt x1] ⟨r.1⟩ (.frz (dt r.2)):=by
 refine fnSB (fn:=f84) 4 6 func84 Z Z (λ M G w0 b0 _ j=>wqw ?_)
 refine j.rgB segZ [1] [(0,4)] (λ _ _ j=>Ka ?_)
 refine j.segB 2 segZ [1,11,12] [(0,4)] λ _ _ j=>?_
 have⟨v4,p4,h⟩:=bs h
 refine j.cNA 4 0 (wI p4) [1] [] λ G3 _ _ _ j=>?_
 refine j.segB 1 segZ [1,5] [(0,4)] (λ _ _ j=>Kb ?_)
 refine j.rgB segZ [1,5,15] [(0,4)] λ _ _ j=>?_
 refine j.cq h (λ h=>?_) λ h=>?_
 ·refine Ka ?_
  refine j.segB 2 segZ [5,16,17] [(0,4)] λ _ _ j=>?_
  have⟨v13,p13,h⟩:=bs h
  refine j.cNA 4 0 (FnS.any (qS p13)) [5] [] (λ G12 _ _ _ j=>Kb ?_)
  refine j.rgB segZ [4] [(0,4)] λ _ _ j=>?_
  exact j.xF 0 4 h
 have⟨v17,p17,h⟩:=bs h
 refine j.rgB segZ [1,6] [(0,4)] (λ _ _ j=>Ka ?_)
 refine j.segB 5 (sc Z (oM Z (tp Z))<|sc Z (zaH Z (tp Z) (yH))<|sc Z (oM Z (tp Z))<|sg Z Z (λ hg=>oM Z (zN Z))<|sg Z Z (λ hg=>oM Z (tp Z))<|.nil) [1,6,24,25,26] [(0,4)] λ _ _ j=>?_
 have⟨v22,p22,h⟩:=bs h
 refine j.cSFgB (sb:=0) (l:=[.tmp 26]) 4 Z iI Z Z Z kN84 (λ hg=>(j.st.has 25 _ Z).1 hg) (by simp) (λ hg=>(.cons (zp hg Z) .nil)) (λ hg=>hR.spec_importName (gh hg p22)) [1,6,24] Z [] Z Z (by decide) λ _ _ _ _ j=>?_
 have j:=j.gn
 refine j.segB 2 segZ [1,6,29] [(0,4)] (λ _ _ j=>Kb ?_)
 refine j.cq h (λ h=>?_) λ h=>?_
 ·refine j.rgB segZ [4] [(0,4)] λ _ _ j=>?_
  exact j.xF 0 4 h
 refine Ka ?_
 refine j.segB 2 segZ [1,6,30,31] [(0,4)] λ _ _ j=>?_
 have⟨v31,p31,h⟩:=bs h
 refine j.cNA 4 0 (wI p31) [1,6] [] λ G30 _ _ _ j=>?_
 refine j.segB 1 segZ [1,6,7] [(0,4)] (λ _ _ j=>Kb ?_)
 refine j.rgB segZ [1,6,7,34] [(0,4)] λ _ _ j=>?_
 refine j.cq h (λ h=>?_) λ h=>?_
 ·refine Ka ?_
  refine j.segB 2 segZ [7,35,36] [(0,4)] λ _ _ j=>?_
  have⟨v40,p40,h⟩:=bs h
  refine j.cNA 4 0 (FnS.any (qS p40)) [7] [] (λ G39 _ _ _ j=>Kb ?_)
  refine j.rgB segZ [4] [(0,4)] λ _ _ j=>?_
  exact j.xF 0 4 h
 refine Ka ?_
 refine j.segB 2 segZ [1,6,39,40] [(0,4)] λ _ _ j=>?_
 have⟨v46,p46,h⟩:=bs h
 refine j.cNA 4 0 (W5 p46) [1,6] [] λ G45 _ _ _ j=>?_
 refine j.alA 5 XQ [1,6,41] [0] λ b50 _ _ _ j=>?_
 have j:=j.gn
 refine j.stA 8 5 FldS.id (tp Z) [1,6] [0] λ _ _ j=>?_
 have j:=j.frzX 5 (s:=8) [1,6] [0]
 have j:=j.gn
 refine Kb ?_
 refine j.rgB segZ [1,6,8,44] [(0,4)] λ _ _ j=>?_
 refine j.cq h (λ h=>?_) λ h=>?_
 ·refine Ka ?_
  refine j.segB 3 segZ [47] [(0,4)] λ _ _ j=>?_
  refine j.sfA 0 4 ((PV.root.box Z).fld owRunner.f5) (tp Z) cI [] [] (λ _ j=>Kb ?_)
  refine j.rgB segZ [4] [(0,4)] λ _ _ j=>?_
  exact j.xF 0 4 h
 refine j.hdA 0 4 ((PV.root.box Z).fld owRunner.f2) [] λ g62 A62 _ hA62 j=>?_
 refine j.rgB (sZ 4 (r:=by exact sc Z (xLe Z (tp Z))<|segZ)) [1,6,8,9] [(0,4)] (λ _ _ j=>za ?_)
 have j:=j.ncf (s:=0) 4 []
 have⟨o65,p65,k65⟩:=bs h
 refine wqj (λ a w=>∃ M1 Q W X Y A B,Sx (Frm.chg w0 G) 119 M M1 [Q,W,X,Y,A,oneB B] [(1,dt x1),(6,dt v17),(8,dptr v46.2),(9,dt (v46.1.mods.length:Int))] [(0,4,dnm oRun A ⟨o65⟩ (.pointer (some ⟨b0,0,none⟩)) [])] a w) ?_ ?_
 ·refine j.opn (s:=8) λ b66 o66 c66 j=>?_
  refine j.held (λ w=>CellsAt w b66 o66 c66) zP λ _ j=>?_
  refine j.tN 0 0 (j.pkZ 8) λ _ j=>?_
  refine j.tN 1 0 (j.pkZ 8) λ _ j=>?_
  refine j.tk (i:=2) Z Z (by decide +kernel) (by decide +kernel) (by decide +kernel) (λ _ _ _ h=>h) (j.pkS (s:=8)) (yNc Z (j.st.has 54 _ Z)) λ _ j=>?_
  refine j.tk (i:=3) Z Z (by decide +kernel) (by decide +kernel) (by decide +kernel) (λ _ _ _ h=>h) (j.pkS (s:=8)) (yFa Z ZN (j.st.has 55 _ Z)) λ _ j=>?_
  refine j.tM 5 1 (j.pkZ 8) λ _ j=>?_
  refine j.tA 6 8 (λ _ j=>?_) (ht:=zbv)
  refine j.tF 7 8 59 Spec.fld0 λ _ j=>?_
  refine j.tA 8 8 (λ _ j=>?_) (ht:=kF156_2)
  refine j.tF 9 8 61 Spec.fld2 λ _ j=>?_
  have⟨v87,p87,h⟩:=bs p65
  refine aK2 4 10 ?_ ?_
  ·refine j.hdA 0 4 ((PV.root.box Z).fld owRunner.f2) [] λ g95 A95 _ hA95 j=>?_
   refine j.segB 1 segZ [1,6,8,9,53,57,58,60,62] [(0,4)] λ _ _ j=>?_
   refine aHN (j.pkZ 8) ?_
   refine aK1 10 ?_
   refine j.bldW (ow:=(owGModR oAtt)) (parts:=[(0,.tmp 58),(1,.tmp 60),(2,.tmp 62),(3,.const (.bool true))]) (ns:=[1,1,1,1,1,1]) (zs:=zpGMod) (x:=(⟨x1,v46.2.kind,v46.2.roots,true,false,[]⟩:GMod)) 1 [] (FA ⟨by decide,Rep.len (α:=Str) (OpdR.cells (tp Z) (λ s y hs=>j.st.has s y hs))⟩ (FA ⟨by decide,Rep.len (α:=Int) (OpdR.cells (tp Z) (λ s y hs=>j.st.has s y hs))⟩ (FA ⟨by decide,Rep.len (α:=List Int) (OpdR.cells (tp Z) (λ s y hs=>j.st.has s y hs))⟩ (FA ⟨by decide,Z⟩ FN)))) (((owGModR oAtt)).more (owGModR.mk (x:=(⟨x1,v46.2.kind,v46.2.roots,true,false,[]⟩:GMod)) (OpdR.cells (tp Z) (λ s y hs=>j.st.has s y hs)) (OpdR.cells (tp Z) (λ s y hs=>j.st.has s y hs)) (OpdR.cells (tp Z) (λ s y hs=>j.st.has s y hs)) (OpdR.cells cB (λ s y hs=>j.st.has s y hs)) ⟨Z,trivial⟩ (Ow.row_z _ _)) (λ b=>(λ hb=>hb.elim))) [1,6,8,9,53,57] [0] (λ G97 _ _ j=>?_)
   have j:=j.gs (Gs':=[oneB none,G97,oneB none,oneB none,G45,oneB none])
   have j:=j.gs (Gs':=[oneB none,G97,oneB none,oneB none,G45,oneB none])
   refine aHN (j.pkZ 8) ?_
   refine aK1 11 ?_
   refine j.litW (oe:=(owGModR oAtt)) (opds:=[.tmp 63]) (xs:=[(⟨x1,v46.2.kind,v46.2.roots,true,false,[]⟩:GMod)]) 2 [1] kI30 kY30 (Qz (yo (j.st.has 63 _ Z)) (λ b hb=>⟨1,by simp,hb⟩)) (λ q hq=>by
 simp only[List.mem_cons,List.not_mem_nil,or_false] at hq
 subst hq
 exact Ow.len _ (yo (j.st.has 63 _ Z))) [1,6,8,9,53,57] [0] (λ G100 _ _ _ j=>?_)
   have j:=j.gs (Gs':=[oneB none,oneB none,G100,oneB none,G45,oneB none])
   refine aHN (j.pkZ 8) ?_
   refine aH1 (i:=12) Z ?_
   refine j.mvG (s:=57) (sb:=0) 4 3 ((PV.root.box Z).fld owRunner.f2) (.head _) (yJ Z Z) [1,6,8,9,53] [64] λ _ H103 j=>?_
   have j:=j.gn
   refine j.appW 3 2 iI iI p87 [1,6,8,9,53] [0] λ _ _ _ _ j=>?_
   have j:=j.gn
   refine aHN (j.pkZ 8) ?_
   refine aK1 13 ?_
   refine j.segB 1 segZ [1,6,8,9,66] [(0,4),(65,3)] λ _ _ j=>?_
   refine aHN (j.pkZ 8) ?_
   refine aK1 14 ?_
   refine j.segB 1 segZ [1,6,8,9,67] [(0,4),(65,3)] λ _ _ j=>?_
   refine aHN (j.pkZ 8) ?_
   refine aK1 15 ?_
   refine j.shA 0 65 4 3 (tp Z) [1,6,8,9] [] λ _ _ j=>?_
   have j:=j.gn
   refine aHN (j.pkZ 8) ?_
   refine aK0 ?_
   have j:=j.clo (s:=8)
   cases h
   exact fz
  ·refine j.bldW (ow:=(owGModR oAtt)) (parts:=[(0,.tmp 58),(1,.tmp 60),(2,.tmp 62),(3,.const (.bool true))]) (ns:=[1,1,1,1,1,1]) (zs:=zpGMod) (x:=(⟨x1,v46.2.kind,v46.2.roots,true,false,[]⟩:GMod)) 1 [] (FA ⟨by decide,Rep.len (α:=Str) (OpdR.cells (tp Z) (λ s y hs=>j.st.has s y hs))⟩ (FA ⟨by decide,Rep.len (α:=Int) (OpdR.cells (tp Z) (λ s y hs=>j.st.has s y hs))⟩ (FA ⟨by decide,Rep.len (α:=List Int) (OpdR.cells (tp Z) (λ s y hs=>j.st.has s y hs))⟩ (FA ⟨by decide,Z⟩ FN)))) (((owGModR oAtt)).more (owGModR.mk (x:=(⟨x1,v46.2.kind,v46.2.roots,true,false,[]⟩:GMod)) (OpdR.cells (tp Z) (λ s y hs=>j.st.has s y hs)) (OpdR.cells (tp Z) (λ s y hs=>j.st.has s y hs)) (OpdR.cells (tp Z) (λ s y hs=>j.st.has s y hs)) (OpdR.cells cB (λ s y hs=>j.st.has s y hs)) ⟨Z,trivial⟩ (Ow.row_z _ _)) (λ b=>(λ hb=>hb.elim))) [1,6,8,9,53,56] [0] (λ G111 _ _ j=>?_)
   have j:=j.gs (Gs':=[oneB none,G111,oneB none,oneB none,G45,oneB none])
   have j:=j.gn
   refine aHN (j.pkZ 8) ?_
   refine aK2 4 11 ?_ ?_
   ·refine j.hdA 0 4 ((PV.root.box Z).fld owRunner.f2) [63] λ g114 A114 _ hA114 j=>?_
    refine j.segB 1 segZ [1,6,8,9,53,57] [(0,4),(63,1)] λ _ _ j=>?_
    refine aHN (j.pkZ 8) ?_
    refine aH1 (i:=11) Z ?_
    refine j.litW (oe:=(owGModR oAtt)) (opds:=[.tmp 63]) (xs:=[(⟨x1,v46.2.kind,v46.2.roots,true,false,[]⟩:GMod)]) 2 [1] kI30 kY30 (Qz (yo (j.st.has 63 _ Z)) (λ b hb=>⟨1,by simp,hb⟩)) (λ q hq=>by
 simp only[List.mem_cons,List.not_mem_nil,or_false] at hq
 subst hq
 exact Ow.len _ (yo (j.st.has 63 _ Z))) [1,6,8,9,53,57] [0] (λ G116 _ _ _ j=>?_)
    have j:=j.gs (Gs':=[oneB none,oneB none,G116,oneB none,G45,oneB none])
    refine aHN (j.pkS (s:=8)) ?_
    refine aH1 (i:=12) Z ?_
    refine j.mvG (s:=57) (sb:=0) 4 3 ((PV.root.box Z).fld owRunner.f2) (.head _) (yJ Z Z) [1,6,8,9,53] [64] λ G119 H119 j=>?_
    have j:=j.gs (Gs':=[oneB none,oneB none,G116,H119,G119,oneB none])
    refine j.appW 3 2 iI iI p87 [1,6,8,9,53] [0] λ _ _ _ _ j=>?_
    have j:=j.gn
    refine aHN (j.pkZ 8) ?_
    refine aK1 13 ?_
    refine j.segB 1 segZ [1,6,8,9,66] [(0,4),(65,3)] λ _ _ j=>?_
    refine aHN (j.pkZ 8) ?_
    refine aK1 14 ?_
    refine j.segB 1 segZ [1,6,8,9,67] [(0,4),(65,3)] λ _ _ j=>?_
    refine aHN (j.pkZ 8) ?_
    refine aK1 15 ?_
    refine j.shA 0 65 4 3 (tp Z) [1,6,8,9] [] λ _ _ j=>?_
    have j:=j.gn
    refine aHN (j.pkZ 8) ?_
    refine aK0 ?_
    have j:=j.clo (s:=8)
    cases h
    exact fz
   ·refine j.litW (oe:=(owGModR oAtt)) (opds:=[.tmp 63]) (xs:=[(⟨x1,v46.2.kind,v46.2.roots,true,false,[]⟩:GMod)]) 2 [1] kI30 kY30 (Qz (yo (j.st.has 63 _ Z)) (λ b hb=>⟨1,by simp,hb⟩)) (λ q hq=>by
 simp only[List.mem_cons,List.not_mem_nil,or_false] at hq
 subst hq
 exact Ow.len _ (yo (j.st.has 63 _ Z))) [1,6,8,9,53,56] [0] (λ G127 _ _ _ j=>?_)
    have j:=j.gs (Gs':=[oneB none,oneB none,G127,oneB none,G45,oneB none])
    refine aHN (j.pkS (s:=8)) ?_
    refine aK1 4 ?_
    refine j.hdA 0 4 ((PV.root.box Z).fld owRunner.f2) [64] λ g129 A129 _ hA129 j=>?_
    refine j.segB 1 segZ [1,6,8,9,53,57] [(0,4),(64,2)] λ _ _ j=>?_
    refine aHN (j.pkS (s:=8)) ?_
    refine aH1 (i:=12) Z ?_
    refine j.mvG (s:=57) (sb:=0) 4 3 ((PV.root.box Z).fld owRunner.f2) (.head _) (yJ Z Z) [1,6,8,9,53] [64] λ G132 H132 j=>?_
    have j:=j.gs (Gs':=[oneB none,oneB none,G127,H132,G132,oneB none])
    refine j.appW 3 2 iI iI p87 [1,6,8,9,53] [0] λ _ _ _ _ j=>?_
    have j:=j.gn
    refine aHN (j.pkZ 8) ?_
    refine aK1 13 ?_
    refine j.segB 1 segZ [1,6,8,9,66] [(0,4),(65,3)] λ _ _ j=>?_
    refine aHN (j.pkZ 8) ?_
    refine aK1 14 ?_
    refine j.segB 1 segZ [1,6,8,9,67] [(0,4),(65,3)] λ _ _ j=>?_
    refine aHN (j.pkZ 8) ?_
    refine aK1 15 ?_
    refine j.shA 0 65 4 3 (tp Z) [1,6,8,9] [] λ _ _ j=>?_
    have j:=j.gn
    refine aHN (j.pkZ 8) ?_
    refine aK0 ?_
    have j:=j.clo (s:=8)
    cases h
    exact fz
 rintro _ _ ⟨_,Q,W,X,Y,A,B,j⟩
 have h:=k65
 refine Ka ?_
 refine j.segB 2 segZ [1,6,8,9,68,69] [(0,4)] λ _ _ j=>?_
 have⟨v143,p143,h⟩:=bs h
 refine j.cNA 4 0 (FnS.any (qS p143)) [1,6,8,9] [] (λ G142 _ _ _ j=>Kb (za ?_))
 have⟨o146,p146,k146⟩:=bs h
 refine wqj (λ a w=>∃ M1 Q W X Y A B,Sx (Frm.chg w0 G) 119 M M1 [Q,W,X,Y,A,oneB B] [(1,dt x1),(6,dt v17),(9,dt (v46.1.mods.length:Int))] [(0,4,dnm oRun A ⟨o146⟩ (.pointer (some ⟨b0,0,none⟩)) [])] a w) ?_ ?_
 ·refine j.rgB segZ [1,6,8,9,73] [(0,4)] λ _ _ j=>?_
  refine j.cq p146 (λ h=>?_) λ h=>?_
  ·refine Ka ?_
   refine j.segB 5 segZ [1,6,9,74,75,76,78] [(0,4)] λ _ _ j=>?_
   have⟨v152,p152,h⟩:=bs h
   refine j.cNA 4 0 (zax p152) [1,6,9,74,75] [] λ G151 _ _ _ j=>?_
   have⟨v156,p156,h⟩:=bs h
   refine j.cNA 4 0 (FnS.any (hR.spec_runBody p156)) [1,6,9] [] (λ G155 _ _ _ j=>Kb ?_)
   cases h
   exact fz
  cases h
  exact fz
 rintro _ _ ⟨_,Q,W,X,Y,A,B,j⟩
 have h:=k146
 refine j.rgB (sZ 3 (r:=by exact sc Z (xLf (sb:=0) ((PV.root.box Z).fld owRunner.f5) Z (tp Z) Z)<|segZ)) [1,6,9,85] [(0,4)] λ _ _ j=>?_
 refine j.cq h (λ h=>?_) λ h=>?_
 ·refine Ka ?_
  have⟨v164,p164,h⟩:=bs h
  refine j.hdA 0 4 ((PV.root.box Z).fld owRunner.f2) [] λ g163 A163 _ hA163 j=>?_
  refine j.segB 7 (sZ 5 (r:=by exact sc Z (xIa (g:=g163) Z kS30 (tp Z) (tp Z) Z (λ h=>hA163 h Z) p164)<|segZ)) [1,92] [(0,4)] λ _ _ j=>?_
  refine j.sfA 0 4 ((((PV.root.box Z).fld owRunner.f2).row (.head _) Z (λ h=>hA163 h Z) p164).fld owGModR.f3) (tp Z) cB [1] [] (λ _ j=>Kb (Ka ?_))
  refine j.segB 2 segZ [93,94] [(0,4)] λ _ _ j=>?_
  have⟨v170,p170,h⟩:=bs h
  refine j.cNA 4 0 (FnS.any (qS p170)) [] [] (λ G169 _ _ _ j=>Kb ?_)
  refine j.rgB segZ [4] [(0,4)] λ _ _ j=>?_
  exact j.xF 0 4 h
 refine Ka ?_
 have⟨v175,p175,h⟩:=bs h
 refine j.hdA 0 4 ((PV.root.box Z).fld owRunner.f2) [] λ g174 A174 _ hA174 j=>?_
 refine j.segB 7 (sZ 5 (r:=by exact sc Z (xIa (g:=g174) Z kS30 (tp Z) (tp Z) Z (λ h=>hA174 h Z) p175)<|segZ)) [1,6,9,102] [(0,4)] λ _ _ j=>?_
 refine j.sfA 0 4 ((((PV.root.box Z).fld owRunner.f2).row (.head _) Z (λ h=>hA174 h Z) p175).fld owGModR.f4) (tp Z) cB [1,6,9] [] (λ _ j=>Kb (Ka ?_))
 refine j.segB 2 segZ [1,6,9,103,104] [(0,4)] λ _ _ j=>?_
 have⟨v181,p181,h⟩:=bs h
 refine j.cNA 4 0 (FnS.any (qS p181)) [1,6,9] [] (λ G180 _ _ _ j=>Kb (za ?_))
 have⟨o184,p184,k184⟩:=bs h
 refine wqj (λ a w=>∃ M1 Q W X Y A B,Sx (Frm.chg w0 G) 119 M M1 [Q,W,X,Y,A,oneB B] [(9,dt (v46.1.mods.length:Int))] [(0,4,dnm oRun A ⟨o184⟩ (.pointer (some ⟨b0,0,none⟩)) [])] a w) ?_ ?_
 ·refine Ka ?_
  refine j.segB 2 segZ [1,9,106,107] [(0,4)] λ _ _ j=>?_
  have⟨v187,p187,h⟩:=bs p184
  refine j.cNA 4 0 (wI p187) [1,9] [] λ G186 _ _ _ j=>?_
  refine j.segB 1 segZ [1,9,10] [(0,4)] (λ _ _ j=>Kb ?_)
  refine j.rgB segZ [1,9,10,110] [(0,4)] λ _ _ j=>?_
  refine j.cq h (λ h=>?_) λ h=>?_
  ·refine Ka ?_
   have⟨v194,p194,h⟩:=bs h
   refine j.segB 6 (sZ 3 (r:=by exact sc Z (oK (QE p194))<|sZ 1 (r:=by exact sc Z (YT Z cI (tp Z))<|.nil))) [9,111,112,114,116] [(0,4)] λ _ _ j=>?_
   have⟨v198,p198,h⟩:=bs h
   refine j.cNA 4 0 (FnS.any (ZO p198)) [9] [] (λ G197 _ _ _ j=>Kb ?_)
   cases h
   exact fz
  cases h
  exact fz
 rintro _ _ ⟨_,Q,W,X,Y,A,B,j⟩
 have h:=k184
 refine j.rgB segZ [4] [(0,4)] λ _ _ j=>?_
 exact j.xF 0 4 h
theorem kN43:fnB prog 43=true:=by kernel_rfl
theorem zc9:∀ {M:Nat->Prop} {look:Nat->Option Dt} {o:Oper} {q0 q1 q2 q3 q4:Operand} {y0:List Int} {y1:List Int} {y2:List GEvent} {y3:List GMod} {y4:Int},o.op=.build 32 #[(0,q0),(1,q1),(2,q2),(3,q3),(4,q4)]->OpdR M look q0 (dt y0)->OpdR M look q1 (dt y1)->OpdR M look q2 (dt y2)->OpdR M look q3 (dt y3)->OpdR M look q4 (dt y4)->OpRel prog M look o (dt (⟨y0,y1,y2,y3,y4⟩:GResult)):=@λ _ _ _ q0 q1 q2 q3 q4 y0 y1 y2 y3 y4 ho h0 h1 h2 h3 h4=>yO (parts:=[(0,q0),(1,q1),(2,q2),(3,q3),(4,q4)]) (ns:=[1,1,1,1,1]) (zs:=Xk) Z ho (λ w a hl=>FA ⟨(by decide:0<5),Rep.len (α:=List Int) (OpdR.cells h0 hl)⟩ (FA ⟨(by decide:1<5),Rep.len (α:=List Int) (OpdR.cells h1 hl)⟩ (FA ⟨(by decide:2<5),Rep.len (α:=List GEvent) (OpdR.cells h2 hl)⟩ (FA ⟨(by decide:3<5),Rep.len (α:=List GMod) (OpdR.cells h3 hl)⟩ (FA ⟨(by decide:4<5),Rep.len (α:=Int) (OpdR.cells h4 hl)⟩ FN))))) (λ w a hl=>GResult.parts (x:=(⟨y0,y1,y2,y3,y4⟩:GResult)) (OpdR.cells h0 hl) (OpdR.cells h1 hl) (OpdR.cells h2 hl) (OpdR.cells h3 hl) (OpdR.cells h4 hl))
instance iF139_3MbD:FldO prog 139 3 3:=⟨Q0⟩
instance iF81_2MbD:FldO prog 81 2 2:=⟨ZN⟩
instance iF81_5MbD:FldO prog 81 5 5:=⟨kF81_5⟩
def scc:Nat->Rec
 | 0=>Rec.no
 | n+1=>⟨Zx (scc n),Yy (scc n),Xa (scc n),ZQ (scc n),Y9 (scc n),Wy (scc n),j1 (scc n),qu (scc n),yt (scc n)⟩
theorem W6:∀ n,(scc n).ok
 | 0=>Rec.no_ok
 | n+1=>⟨(λ h=>zbC (W6 n) h),(λ h=>zcM (W6 n) h),(λ h=>zc8 (W6 n) h),(λ h=>zc7 (W6 n) h),(λ h=>zc6 (W6 n) h),(λ h=>zc5 (W6 n) h),(λ h=>QG (W6 n) h),(λ h=>zag (W6 n) h),(λ h=>zbA (W6 n) h)⟩
def XU(R:Rec)(x0:Runner)(x1:Str):Option Runner:=
(yY x0 x1).bind λ v3=>
if cmpI .lss v3.2 0 then(some ({ v3.1 with fin:=(1:Int) }))
else((yI x1).bind λ v11=>
(gO (decide (v11≠(⟨[]⟩:Str)) == true) (yI x1)).bind λ v12=>
(gO (decide (v11≠(⟨[]⟩:Str)) == true) (yY v3.1 v12)).bind λ v17=>
if(decide (v11≠(⟨[]⟩:Str))&&cmpI .lss v17.2 0)=true then(some ({ (if(decide (v11≠(⟨[]⟩:Str)) == true)=true then v17.1 else v3.1) with fin:=(1:Int) }))
else((wJ (if(decide (v11≠(⟨[]⟩:Str)) == true)=true then v17.1 else v3.1) x1).bind λ v26=>
if cmpI .eql v26.2.kind 0 then(some ({ v26.1 with fin:=(1:Int) }))
else((yL v26.1 (0:Int) x1).bind λ v39=>
(atI v39.mods v3.2).bind λ v42=>
Option.bind (α:=Runner) (if cmpI .geq v26.2.file 0 then((js ({ v39 with mods:=(v39.mods.set v3.2.toNat ({ v42 with kind:=v26.2.kind,roots:=v26.2.roots })) }) v26.2.file).bind λ v55=>
(R.spec_runBody v55.1 v3.2 v55.2).bind λ v58=>
some v58)
else(some ({ v39 with mods:=(v39.mods.set v3.2.toNat ({ v42 with kind:=v26.2.kind,roots:=v26.2.roots })) }))) λ o49=>
if cmpI .neq o49.fin 0 then((yL o49 (2:Int) x1).bind λ v66=>
some v66)
else((yL o49 (1:Int) x1).bind λ v70=>
some v70))))
theorem zcN(hR:R.ok){x1:Str}(h:XU R x0 x1=some r):FnS prog 85 oRun ⟨x0⟩ [dt x1] ⟨r⟩ .gone:=by
 refine fnSB (fn:=f85) 0 2 func85 Z Z (λ M G w0 b0 _ j=>wqw (Ka ?_))
 refine j.zh 2 [(0,0)] λ _ _ j=>?_
 have⟨v3,p3,h⟩:=bs h
 refine j.cNA 0 0 (wI p3) [1] [] λ _ _ _ _ j=>?_
 refine j.zh 1 [(0,0)] (λ _ _ j=>Kb ?_)
 refine j.zd [(0,0)] h (λ _ _ j h=>?_) λ _ _ j h=>?_
 ·refine Ka ?_
  refine j.zh 3 [(0,0)] λ _ _ j=>?_
  refine j.sfA 0 0 ((PV.root.box Z).fld owRunner.f5) (tp Z) cI [] [] (λ _ j=>Kb ?_)
  exact(j.rs0 (s:=0) 0 (bx1 h)).1
 refine Ka ?_
 have⟨v11,p11,v12,p12,h⟩:=Kg h
 refine j.zh 7 [(0,0)] (λ _ _ j=>?_) (hs:=sc Z (oM Z (tp Z))<|sc Z (zC (l:=[.tmp 14]) Z (.cons (tp Z) .nil) (Xw p11))<|sc Z (zaH Z (tp Z) (yH))<|sc Z (oM Z (tp Z))<|sg Z Z (λ hg=>oM Z (zN Z))<|sg Z Z (λ hg=>oM Z (tp Z))<|sg Z Z (λ hg=>zC (l:=[.tmp 19]) Z (.cons (zp hg Z) .nil) (Xw (gh hg p12)))<|.nil)
 have⟨v17,p17,h⟩:=bs h
 refine j.cSFgB (sb:=0) (l:=[.tmp 20]) 0 Z iI Z Z Z kN86 (λ hg=>(j.st.has 18 _ Z).1 hg) (by simp) (λ hg=>(.cons (zp hg Z) .nil)) (λ hg=>wI (gh hg p17)) [1,4,17] Z [] Z Z (by decide) λ _ _ _ _ j=>?_
 refine j.zh 2 [(0,0)] (λ _ _ j=>Kb ?_)
 refine j.cq h (λ h=>?_) λ h=>?_
 ·refine Ka ?_
  refine j.zh 3 [(0,0)] λ _ _ j=>?_
  refine j.sfA 0 0 ((PV.root.box Z).fld owRunner.f5) (tp Z) cI [] [] (λ _ j=>Kb ?_)
  exact(j.rs0 (s:=0) 0 (bx1 h)).1
 refine Ka ?_
 refine j.zh 2 [(0,0)] λ _ _ j=>?_
 have⟨v26,p26,h⟩:=bs h
 refine j.cNA 0 0 (W5 p26) [1,4] [] λ _ _ _ _ j=>?_
 refine j.alA 1 XQ [1,4,29] [0] λ b29 _ _ _ j=>?_
 refine j.stA 5 1 FldS.id (tp Z) [1,4] [0] (λ _ _ j=>Kb ?_)
 refine j.zd [(0,0),(5,1)] h (λ _ _ j h=>?_) λ _ _ j h=>?_
 ·refine Ka ?_
  refine j.zh 3 [(0,0)] λ _ _ j=>?_
  refine j.sfA 0 0 ((PV.root.box Z).fld owRunner.f5) (tp Z) cI [] [] (λ _ j=>Kb ?_)
  exact(j.rs0 (s:=0) 0 (bx1 h)).1
 refine Ka ?_
 refine j.zh 2 [(0,0),(5,1)] λ _ _ j=>?_
 have⟨v39,p39,h⟩:=bs h
 refine j.cNA 0 0 (FnS.any (qS p39)) [1,4] [5] (λ _ _ _ _ j=>Kb ?_)
 have⟨v42,p42,h⟩:=bs h
 refine j.hdA 0 0 ((PV.root.box Z).fld owRunner.f2) [5] λ g41 A41 _ hA41 j=>?_
 refine j.drnA (D:=[_,_,_,_,_,_,_,_,_]) zP 9 [[(0,nS)],[(39,0)],[(40,1)],[(41,2),(0,nS)],[(4,nS)],[(5,nS)],[(44,5)],[(42,3),(43,4)],[(46,7)],[(47,8),(45,6)]] [1,4,45,47] [(0,0),(5,1)] (λ _ _ j=>?_) (hs:=rc Z Z (oM Z (zN Z))<|rc Z Z (xNc Z (tp Z))<|rc Z Z (xFa Z ZN (tp Z))<|rc Z Z (xLc (sb:=0) (.head _) Z Z Z (tp Z) Z)<|rc Z Z (oM Z (tp Z))<|rc Z Z (wm Spec.fld0 Z (ht:=zbv) (tp Z))<|rc Z Z (yV Z (tp Z))<|rc Z Z (xIa (g:=g41) Z kS30 (tp Z) (tp Z) Z (λ h=>hA41 h Z) p42)<|rc Z Z (xFa Z JQ (tp Z))<|.nil)
 refine j.sfA 0 0 ((((PV.root.box Z).fld owRunner.f2).row (.head _) Z (λ h=>hA41 h Z) p42).fld owGModR.f1) (tp Z) (tp Z) [1,4] [5] (λ _ j=>Kb ?_)
 refine j.hdA 0 0 ((PV.root.box Z).fld owRunner.f2) [5] λ g46 A46 _ hA46 j=>?_
 refine j.drnA (D:=[_,_,_,_,_,_,_,_,_]) zP 9 [[(0,nS)],[(48,0)],[(49,1)],[(50,2),(0,nS)],[(4,nS)],[(5,nS)],[(53,5)],[(51,3),(52,4)],[(55,7)],[(56,8),(54,6)]] [1,4,54,56] [(0,0),(5,1)] (λ _ _ j=>?_) (hs:=rc Z Z (oM Z (zN Z))<|rc Z Z (xNc Z (tp Z))<|rc Z Z (xFa Z ZN (tp Z))<|rc Z Z (xLc (sb:=0) (.head _) Z Z Z (tp Z) Z)<|rc Z Z (oM Z (tp Z))<|rc Z Z (wm Spec.fld2 Z (tp Z))<|rc Z Z (yV Z (tp Z))<|rc Z Z (xIa (g:=g46) Z kS30 (tp Z) (tp Z) Z (λ h=>hA46 h Z) (yf p42))<|rc Z Z (xFa Z Q1 (tp Z))<|.nil)
 refine j.stF (sb:=0) 0 ((((((PV.root (x:=(⟨{ v39 with mods:=(v39.mods.set v3.2.toNat ({ v42 with kind:=v26.2.kind })) }⟩:Bx Runner))).box Z).fld owRunner.f2).row (.head _) Z (λ h=>hA46 h Z) (yf p42)).conv (upd':=λ z=>⟨{ v39 with mods:=(v39.mods.set v3.2.toNat z) }⟩) (λ _=>by simp only[List.set_set])).fld owGModR.f2) (tp Z) (tp Z) [1,4] [5] (λ _ j=>Kb (za ?_))
 have⟨o49,p49,k49⟩:=bs h
 refine wqj (λ a w=>∃ M1 Q W,Sx (Frm.chg w0 G) 78 M M1 [Q,oneB W] [(1,dt x1)] [(0,0,dnm oRun Q ⟨o49⟩ (.pointer (some ⟨b0,0,none⟩)) [])] a w) ?_ ?_
 ·refine j.zd [(0,0),(5,1)] p49 (λ _ _ j h=>?_) λ _ _ j h=>?_
  ·refine Ka ?_
   refine j.zh 5 [(0,0)] λ _ _ j=>?_
   have⟨v55,p55,h⟩:=bs h
   refine j.cNA 0 0 (zax p55) [1,60,61] [] λ _ _ _ _ j=>?_
   have⟨v58,p58,h⟩:=bs h
   refine j.cNA 0 0 (FnS.any (hR.spec_runBody p58)) [1] [] (λ _ _ _ _ j=>Kb ?_)
   cases h
   exact fz
  cases h
  exact fz
 rintro _ _ ⟨_,Q,W,j⟩
 have h:=k49
 refine j.zd [(0,0)] h (λ _ _ j h=>?_) (λ _ _ j h=>?_) (hs:=sZ 3 (r:=by exact sc Z (xLf (sb:=0) ((PV.root.box Z).fld owRunner.f5) Z (tp Z) Z)<|segZ))
 ·refine Ka ?_
  refine j.zh 2 [(0,0)] λ _ _ j=>?_
  have⟨v66,p66,h⟩:=bs h
  refine j.cNA 0 0 (FnS.any (qS p66)) [] [] (λ _ _ _ _ j=>Kb ?_)
  exact(j.rs0 (s:=0) 0 (bx1 h)).1
 refine Ka ?_
 refine j.zh 2 [(0,0)] λ _ _ j=>?_
 have⟨v70,p70,h⟩:=bs h
 refine j.cNA 0 0 (FnS.any (qS p70)) [] [] (λ _ _ _ _ j=>Kb ?_)
 exact(j.rs0 (s:=0) 0 (bx1 h)).2
def ZR(R:Rec)(x0:Runner)(x1:GCmd):Option (Runner×Int):=
Option.bind (α:=Runner⊕(Runner×Int)) (if cmpI .eql x1.kind 0 then((R.spec_importName ({ x0 with fin:=(0:Int) }) x1.name).bind λ v11=>
some (.inl v11.1))
else(if cmpI .eql x1.kind 1 then((XU R ({ x0 with fin:=(0:Int) }) x1.name).bind λ v18=>
some (.inl v18))
else(if cmpI .eql x1.kind 2 then((yY ({ x0 with fin:=(0:Int) }) x1.name).bind λ v25=>
if cmpI .lss v25.2 0 then(some (.inr (v25.1,(1:Int))))
else((atI v25.1.mods v25.2).bind λ v34=>
some (.inl ({ v25.1 with mods:=(v25.1.mods.set v25.2.toNat ({ v34 with cached:=false })) }))))
else(some (.inl ({ x0 with fin:=(0:Int) })))))) (Sum.elim (λ b4=>
some (b4,b4.fin)) some)
theorem zda(hR:R.ok){x1:GCmd}{r:Runner×Int}(h:ZR R x0 x1=some r):FnS prog 43 oRun ⟨x0⟩ [dt x1] ⟨r.1⟩ (.frz (dt r.2)):=by
 refine fnSB (fn:=f43) 0 1 func43 Z Z (λ M G w0 b0 _ j=>wqw ?_)
 refine j.zo [(0,0)] (λ _ _ j=>Ka ?_)
 refine j.zh 3 [(0,0)] λ _ _ j=>?_
 refine j.sfA 0 0 ((PV.root.box Z).fld owRunner.f5) (tp Z) cI [3] [] (λ _ j=>Kb (za ?_))
 have⟨o4,p4,k4⟩:=bs h
 refine wqj (λ a w=>∃ b4,o4=.inl b4/\(∃ M1 Q,Sx (Frm.chg w0 G) 42 M M1 [Q] [] [(0,0,dnm oRun Q ⟨b4⟩ (.pointer (some ⟨b0,0,none⟩)) [])] a w)) ?_ ?_
 ·refine j.zo [(0,0)] λ _ _ j=>?_
  refine j.zd [(0,0)] p4 (λ _ _ j h=>?_) λ _ _ j h=>?_
  ·refine Ka ?_
   refine j.zh 3 [(0,0)] λ _ _ j=>?_
   have⟨v11,p11,h⟩:=bs h
   refine j.cNA 0 0 (hR.spec_importName p11) [] [] (λ _ _ _ _ j=>Kb ?_)
   exact flz h
  refine j.zd [(0,0)] h (λ _ _ j h=>?_) λ _ _ j h=>?_
  ·refine Ka ?_
   refine j.zh 3 [(0,0)] λ _ _ j=>?_
   have⟨v18,p18,h⟩:=bs h
   refine j.cNA 0 0 (FnS.any (zcN hR p18)) [] [] (λ _ _ _ _ j=>Kb ?_)
   exact flz h
  refine j.zd [(0,0)] h (λ _ _ j h=>?_) λ _ _ j h=>?_
  ·refine Ka ?_
   refine j.zh 3 [(0,0)] λ _ _ j=>?_
   have⟨v25,p25,h⟩:=bs h
   refine j.cNA 0 0 (wI p25) [] [] λ _ _ _ _ j=>?_
   refine j.zh 1 [(0,0)] (λ _ _ j=>Kb ?_)
   refine j.zd [(0,0)] h (λ _ _ j h=>?_) λ _ _ j h=>?_
   ·refine j.zo [(0,0)] λ _ _ j=>?_
    have h:=jo h k4
    exact j.xF 0 0 h
   refine Ka ?_
   have⟨v34,p34,h⟩:=bs h
   refine j.hdA 0 0 ((PV.root.box Z).fld owRunner.f2) [] λ g33 A33 _ hA33 j=>?_
   refine j.zh 7 [(0,0)] (λ _ _ j=>?_) (hs:=sZ 5 (r:=by exact sc Z (xIa (g:=g33) Z kS30 (tp Z) (tp Z) Z (λ h=>hA33 h Z) p34)<|segZ))
   refine j.sfA 0 0 ((((PV.root.box Z).fld owRunner.f2).row (.head _) Z (λ h=>hA33 h Z) p34).fld owGModR.f3) (tp Z) cB [] [] (λ _ j=>Kb ?_)
   exact flz h
  exact flz h
 rintro _ _ ⟨b4,rfl,⟨_,Q,j⟩⟩
 have h:=jn k4
 refine j.zo [(0,0)] (λ _ _ j=>?_) (hs:=sZ 3 (r:=by exact sc Z (xLf (sb:=0) ((PV.root.box Z).fld owRunner.f5) Z (tp Z) Z)<|segZ))
 exact j.xF 0 0 h
def xA(x0:List GMod)(s5:(List GMod)×Int):Option (((List GMod)×Int)⊕(List GMod)):=
if(cmpI .lss s5.2 (x0.length:Int))=true then((atI x0 s5.2).bind λ v10=>
(appO 8 [] v10.roots).bind λ v17=>
(appO 32 [] (({ v10 with roots:=v17 }).attrs)).bind λ v22=>
(appO 80 s5.1 ([{ { v10 with roots:=v17 } with attrs:=v22 }]:List GMod)).bind λ v30=>
(i64 (s5.2+(1:Int))).bind λ v33=>
some (.inl (v30,v33)))
else(some (.inr s5.1))
def qY(x0:List GMod):Option (List GMod):=
Option.bind (α:=(List GMod)) (zH (λ s5=>xA x0 s5) ([],(0:Int))) λ o3=>
some o3
theorem zaW{x0:List GMod}{r:List GMod}(h:qY x0=some r):FnOwn prog 44 [dt x0] 139 r:=by
 refine fqO 2 func44 λ M w0 _ j=>?_
 refine j.z1 (λ _ _ j=>?_) (hs:=sc Z (oA Z (JD (α:=GMod) (e:=139)))<|.nil)
 refine j.zo [(3,0)] (λ _ _ j=>?_) (hs:=sc Z (zO (α:=GMod) (e:=139) Z)<|segZ)
 refine za ?_
 refine j.jmq 2 [] (λ _=>[]) (λ o3 q=>[(3,0,dtip (q 0) 139 o3)]) h (λ o3 p3=>?_) λ o3 q3 _ _ _ j h=>?_
 ·refine j.zo [(3,0)] λ _ _ j=>?_
  refine wql p3 (λ s5 a w=>∃ M1 Q R,Sx (Frm.of w0) 32 M M1 [oneB Q,oneB R] [(0,dt x0),(4,dt s5.2)] [(3,0,dtip Q 139 s5.1)] a w) fx ?_
  rintro s5 z5 _ _ ⟨_,Q,R,j⟩ hs5 hx5
  have h:xA x0 s5=some z5:=hs5
  unfold xA at h
  refine j.zd [(3,0)] h (λ _ _ j h=>?_) λ _ _ j h=>?_
  ·refine Ka ?_
   have⟨v10,p10,h⟩:=bs h
   refine j.zh 4 [(3,0)] λ _ _ j=>?_
   refine j.alA 1 zrGMod [0,4,16] [3] λ b14 _ _ _ j=>?_
   refine j.stA 5 1 FldS.id (tp Z) [0,4] [3] (λ _ _ j=>Kb (Ka ?_))
   have⟨v17,p17,h⟩:=bs h
   refine j.zh 5 [(3,0),(5,1),(21,1)] (λ _ _ j=>?_) (hs:=sc Z (zO (α:=Int) (e:=3) Z)<|sZ 2 (r:=by exact sc Z (Xv Z (tp Z) (tp Z) p17)<|segZ))
   refine j.stA 5 1 GMod.set2 (tp Z) [0,4] [3] (λ _ _ j=>Kb (Ka ?_))
   have⟨v22,p22,h⟩:=bs h
   refine j.zh 5 [(3,0),(5,1),(26,1)] (λ _ _ j=>?_) (hs:=sc Z (zO (α:=GAttr) (e:=216) Z (ht':=Xh))<|sZ 2 (r:=by exact sc Z (Xv Z (tp Z) (tp Z) p22)<|segZ))
   refine j.stA 5 1 GMod.set5 (tp Z) [0,4] [3] (λ _ _ j=>Kb (Ka ?_))
   refine j.zh 3 [(3,0),(27,0)] λ _ _ j=>?_
   have⟨v30,p30,h⟩:=bs h
   refine j.apA 0 y7 p30 [0,4] [] λ g29 _ _ _ j=>?_
   refine j.zh 1 [(3,0)] (λ _ _ j=>Kb ?_)
   have⟨v33,p33,h⟩:=bs h
   exact j.zn [(3,0)] h
  have h:=lo h hx5
  cases h
  exact fz
 exact j.zl 0 h
def jP(R:Rec)(x2:List GCmd)(s22:Runner×(List Int)×Int):Option ((Runner×(List Int)×Int)⊕(Runner×(List Int))):=
if(cmpI .lss s22.2.2 (x2.length:Int))=true then((atI x2 s22.2.2).bind λ v28=>
(ZR R s22.1 v28).bind λ v32=>
(appO 8 s22.2.1 ([v32.2]:List Int)).bind λ v37=>
(i64 (s22.2.2+(1:Int))).bind λ v40=>
some (.inl (v32.1,v37,v40)))
else(some (.inr (s22.1,s22.2.1)))
def wB(R:Rec)(x0:Tree)(x1:List Int)(x2:List GCmd)(x3:Int):Option GResult:=
(Zi x0 x1 x2 x3).bind λ v4=>
if(!v4)=true then(some (⟨[],[],[],[],0⟩:GResult))
else((Xo x0 x1 x3).bind λ v14=>
Option.bind (α:=Runner×(List Int)) (zH (λ s22=>jP R x2 s22) (v14,[],(0:Int))) λ o19=>
(appO 8 [] o19.1.out).bind λ v48=>
(appO 24 [] o19.1.log).bind λ v49=>
(qY o19.1.mods).bind λ v50=>
some (⟨o19.2,v48,v49,v50,o19.1.left⟩:GResult))
theorem zaX(hR:R.ok){x0:Tree}{x1:List Int}{x2:List GCmd}{r:GResult}(h:wB R x0 x1 x2 x3=some r):Fn prog 9 [dt x0,dt x1,dt x2,dt x3] (dt r):=by
 unfold wB at h
 refine fnx (fn:=f9) 3 func9 Z Z (λ M w0 _ j=>Kc (Ka ?_))
 refine j.segA 1 [1,2,3,4] [] λ _ _ j=>?_
 refine j.alA 2 QY [1,2,3,4] [] (λ b3 _ _ _ j=>Kb (za (Kc ?_)))
 obtain⟨v4,p4,h⟩:=bsW h J5
 refine j.sqA [1,2,3,4,17] [(8,2)] λ _ _ j=>?_
 refine j.cs h (λ _ h=>?_) λ _ h=>?_
 ·refine Kc (Ka ?_)
  refine j.segB 1 (sc Z (yO (parts:=[]) (ns:=[1,1,1,1,1]) (zs:=Xk) Z Z (λ w a hl=>by simp) (λ w a hl=>GResult.parts (x:=(⟨[],[],[],[],0⟩:GResult)) Zp Zp Zp Zp ⟨Z,trivial⟩))<|.nil) [18] [(8,2)] λ _ _ j=>?_
  refine j.stA 8 2 FldS.id (tp Z) [] [] (λ _ _ j=>Kb (za ?_))
  refine wp_ret (zE ?_)
  exact j.yB h
 refine wp_skip (za (Kc (Ka ?_)))
 refine j.segA 3 [2,19,20,21] [(8,2)] λ _ _ j=>?_
 have⟨v14,p14,h⟩:=bs h
 refine j.cN (l:=[.tmp 19,.tmp 20,.tmp 21]) 1 (.cons (tp Z) (.cons (tp Z) (.cons (tp Z) .nil))) (zb9 p14) [2] [8] λ _ _ _ _ j=>?_
 refine j.nmB (s:=22) 1 [8] λ b16 j=>?_
 refine j.segA 1 [2] [(8,2),(9,1)] (λ _ _ j=>Kb (za ?_))
 refine j.sqB (sc Z (zO (α:=Int) (e:=3) Z)<|segC) [2] [(8,2),(9,1),(10,0)] λ _ _ j=>?_
 have⟨o19,p19,k19⟩:=bs h
 refine YP (λ a w=>∃ M1 Q W X,Sx (Frm.of w0) 62 M M1 [oneB Q,W,oneB X] [] [(8,2,dbox X 0 zI),(10,0,dtip Q 3 o19.2),(9,1,dow oRun W ⟨o19.1⟩)] a w) ?_ ?_
 ·refine j.sqA [2,11] [(8,2),(9,1),(10,0)] (λ _ _ j=>wp_block ?_)
  have j:=j.unm (s:=9) 1 [8,10]
  refine Wj p19 (λ s22 a w=>∃ M1 Q W X,Sx (Frm.of w0) 62 M M1 [oneB Q,W,oneB X] [(2,dt x2),(11,dt s22.2.2)] [(8,2,dbox X 0 zI),(10,0,dtip Q 3 s22.2.1),(9,1,dow oRun W ⟨s22.1⟩)] a w) fx ?_
  rintro s22 z22 _ _ ⟨_,Q,W,X,j⟩ hs22 hx22
  have h:jP R x2 s22=some z22:=hs22
  unfold jP at h
  refine Kc ?_
  refine j.sqA [2,11,27] [(8,2),(9,1),(10,0)] λ _ _ j=>?_
  refine j.cs h (λ _ h=>?_) λ _ h=>?_
  ·refine wp_skip (za (Kc (wp_block (Ka ?_))))
   have⟨v28,p28,h⟩:=bs h
   refine j.nmB (s:=9) 1 [8,10] λ b27 j=>?_
   refine j.segA 6 [2,11,35] [(8,2),(9,1),(10,0),(30,0),(31,1)] λ _ _ j=>?_
   have⟨v32,p32,h⟩:=bs h
   refine j.cSF (l:=[.tmp 35]) 1 (j.bkN (s:=9) Z iI) Z Z kN43 ((j.st.has 31 _ Z).1.trans (j.st.has 9 _ Z).1.symm) (by simp) (.cons (tp Z) .nil) (zda hR p32) [2,11] Z [8,10,30] Z Z (by decide) λ _ _ _ _ j=>?_
   refine j.segC 1 [2,11,37] [(8,2),(9,1),(10,0),(30,0)] λ _ _ j=>?_
   have⟨v37,p37,h⟩:=bs h
   refine j.apA 0 y7 p37 [2,11] [8,9] λ g36 _ _ _ j=>?_
   refine j.segA 1 [2,11] [(8,2),(9,1),(10,0)] (λ _ _ j=>Kb (zY (za ?_)))
   have⟨v40,p40,h⟩:=bs h
   refine j.rgA [2,11] [(8,2),(9,1),(10,0)] λ _ _ j=>?_
   have j:=j.unm (s:=9) 1 [8,10]
   refine za ?_
   exact fl h
  refine wp_exit (zV (zV (yM ?_)))
  refine za ?_
  have h:=lo h hx22
  cases h
  exact fx
 rintro _ _ ⟨_,Q,W,X,j⟩
 have h:=k19
 refine Kc ?_
 have j:=j.frz 0 (s:=10) Z Z [] Z [8,9] Z
 have j:=j.frzB (s:=9) 1 Z iI [10] Z [8] Z Z
 have⟨v48,p48,v49,p49,h⟩:=Kg h
 have⟨v50,p50,h⟩:=bs h
 refine j.drnA (D:=[_,_,_,_,_,_,_,_,_,_,_,_,_,_,_,_,_,_,_,_,_,_,_]) zP 23 [[(10,nS)],[],[(9,nS)],[(41,2)],[(42,3)],[(43,4)],[(40,1),(44,5)],[],[(9,nS)],[(47,8)],[(48,9)],[(49,10)],[(46,7),(50,11)],[(9,nS)],[(52,13)],[(53,14)],[(54,15)],[(55,16)],[(9,nS)],[(57,18)],[(58,19)],[(59,20)],[(39,0),(45,6),(51,12),(56,17),(60,21)],[(8,nS),(61,22)]] [61] [(8,2)] (λ _ _ j=>?_) (hs:=rc Z Z (oM Z (tp Z))<|rc Z Z (zO (α:=Int) (e:=3) Z)<|rc Z Z (oM Z (tp Z))<|rc Z Z (xNcP Z (tp Z))<|rc Z Z (zA Runner.fld4 Z (tp Z))<|rc Z Z (zr Z (tp Z))<|rc Z Z (Xv Z (tp Z) (tp Z) p48)<|rc Z Z (zO (α:=GEvent) (e:=160) Z)<|rc Z Z (oM Z (tp Z))<|rc Z Z (xNcP Z (tp Z))<|rc Z Z (zA Runner.fld3 Z (tp Z))<|rc Z Z (zr Z (tp Z))<|rc Z Z (Xv Z (tp Z) (tp Z) p49)<|rc Z Z (oM Z (tp Z))<|rc Z Z (xNcP Z (tp Z))<|rc Z Z (zA Runner.fld2 Z (ht:=ZN) (tp Z))<|rc Z Z (zr Z (tp Z))<|rc Z Z (zC (l:=[.tmp 55]) Z (.cons (tp Z) .nil) ((zaW p50)).fn)<|rc Z Z (oM Z (tp Z))<|rc Z Z (xNcP Z (tp Z))<|rc Z Z (zA Runner.fld6 Z (tp Z))<|rc Z Z (zr Z (tp Z))<|rc Z Z (zc9 Z (tp Z) (tp Z) (tp Z) (tp Z) (tp Z))<|.nil)
 refine j.stA 8 2 FldS.id (tp Z) [] [] (λ _ _ j=>Kb (za (wp_ret ?_)))
 exact j.yB h
end Go.Proofs.YtbbfcjifihknnaaGreatDoor
