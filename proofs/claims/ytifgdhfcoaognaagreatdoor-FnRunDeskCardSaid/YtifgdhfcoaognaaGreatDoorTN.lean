import Derived.Test.YtifgdhfcoaognaaGreatDoorTO
import Derived.Test.YtifgdhfcoaognaaGreatDoorTH
import Derived.Test.YtifgdhfcoaognaaGreatDoorTB
import Derived.Test.YtifgdhfcoaognaaGreatDoorTJ
namespace Go.Proofs.YtifgdhfcoaognaaGreatDoor
open Go.RowKit Tryz
attribute [local irreducible] OpRel OpdR
set_option maxRecDepth 10000
set_option maxHeartbeats 1600000
variable{x1:Int}{R:Rec}{r x0:Runner}{x2:Stmt}
theorem kF81_6:fldB prog 81 6 6=true:=by kernel_rfl
theorem kF81_5:fldB prog 81 5 5=true:=by kernel_rfl
theorem kN119:fnB prog 119=true:=by kernel_rfl
theorem kN165:fnB prog 165=true:=by kernel_rfl
theorem kF81_4:fldB prog 81 4 4=true:=by kernel_rfl
theorem kN162:fnB prog 162=true:=by kernel_rfl
theorem kI77:sliB prog 77 119 6=true:=by kernel_rfl
theorem kY77:zlB prog 77=true:=by kernel_rfl
instance iF119_0MbC:FldO prog 119 0 0:=⟨zaJ⟩
instance iF119_1MbC:FldO prog 119 1 1:=⟨kF119_1⟩
instance iF119_3MbC:FldO prog 119 3 3:=⟨kF119_3⟩
instance iF119_4MbC:FldO prog 119 4 4:=⟨kF119_4⟩
instance iF119_5MbC:FldO prog 119 5 5:=⟨Ww⟩
instance iF206_1MbC:FldO prog 206 1 1:=⟨zcj⟩
instance iF81_2MbC:FldO prog 81 2 2:=⟨XN⟩
instance iF81_4MbC:FldO prog 81 4 4:=⟨kF81_4⟩
instance iF81_5MbC:FldO prog 81 5 5:=⟨kF81_5⟩
instance iF81_6MbC:FldO prog 81 6 6:=⟨kF81_6⟩
def wa(R:Rec)(x1:Int)(x2:List Stmt)(s2:Runner×Int):Option ((Runner×Int)⊕Runner):=
if(cmpI .lss s2.2 (x2.length:Int))=true then(if cmpI .eql s2.1.left 0 then(some (.inr ({ s2.1 with fin:=(6:Int) })))
else((i64 (s2.1.left - (1:Int))).bind λ v13=>
(atI x2 s2.2).bind λ v17=>
(R.spec_runStmt ({ s2.1 with left:=v13 }) x1 v17).bind λ v21=>
if cmpI .neq v21.fin 0 then(some (.inr v21))
else((i64 (s2.2+(1:Int))).bind λ v27=>
some (.inl (v21,v27)))))
else(some (.inr s2.1))
def W2(R:Rec)(x0:Runner)(x1:Int)(x2:List Stmt):Option Runner:=
zP (λ s2=>wa R x1 x2 s2) (x0,(0:Int))
theorem zeo(hR:R.ok){x2:List Stmt}(h:W2 R x0 x1 x2=some r):FnS prog 163 oRun ⟨x0⟩ [dt x1,dt x2] ⟨r⟩ .gone:=by
 refine fnSB (fn:=f163) 0 1 func163 Z Z (λ M G w0 b0 _ j=>wqw ?_)
 refine j.zo [(0,0)] λ j=>?_
 refine wql h (λ s2 a w=>∃ M1 Q,Sx (Frm.chg w0 G) 41 M M1 [Q] [(1,dt x1),(2,dt x2),(6,dt s2.2)] [(0,0,dnm oRun Q ⟨s2.1⟩ (.pointer (some ⟨b0,0,none⟩)) [])] a w) fx ?_
 rintro s2 z2 _ _ ⟨_,Q,j⟩ hs2 hx2
 have h:wa R x1 x2 s2=some z2:=hs2
 unfold wa at h
 refine j.zd [(0,0)] h (λ j h=>?_) λ j h=>?_
 ·refine j.zd [(0,0)] h (λ j h=>?_) (λ j h=>?_) (hs:=sZ 3 (r:=by exact sc Z (xLf (sb:=0) (Pb.fld owRunner.f6) Z T Z)<|segZ))
  ·refine Ka ?_
   refine j.zh 3 [(0,0)] λ j=>?_
   refine j.sfA 0 0 (Pb.fld owRunner.f5) (tp Z) cI [] [] (λ j=>Kb ?_)
   have h:=lo h hx2
   exact(j.rs0 (s:=0) 0 (bx1 h)).1
  refine Ka ?_
  have⟨v13,p13,h⟩:=bs h
  refine j.zh 8 [(0,0)] (λ j=>?_) (hs:=sZ 4 (r:=by exact sc Z (xLf (sb:=0) (Pb.fld owRunner.f6) Z T Z)<|segZ))
  refine j.sfA 0 0 (Pb.fld owRunner.f6) (tp Z) (tp Z) [1,2,6] [] (λ j=>Kb ?_)
  refine Ka ?_
  have⟨v17,p17,h⟩:=bs h
  refine j.zh 6 [(0,0)] λ j=>?_
  have⟨v21,p21,h⟩:=bs h
  refine j.cNA 0 0 (FnS.any (hR.spec_runStmt p21)) [1,2,6] [] (λ j=>Kb ?_)
  refine j.zd [(0,0)] h (λ j h=>?_) (λ j h=>?_) (hs:=sZ 3 (r:=by exact sc Z (xLf (sb:=0) (Pb.fld owRunner.f5) Z T Z)<|segZ))
  ·have h:=lo h hx2
   exact(j.rs0 (s:=0) 0 (bx1 h)).1
  have⟨v27,p27,h⟩:=bs h
  exact j.zn [(0,0)] h
 have h:=lo h hx2
 exact(j.rs0 (s:=0) 0 (bx1 h)).2
def Xx(R:Rec)(x0:Runner)(x1:Int)(x2:Stmt):Option Runner:=
if cmpI .eql x2.kind 0 then((R.spec_importName x0 x2.module).bind λ v8=>
(xG x2.module (UInt8.ofNat 46)).bind λ v10=>
(atI v10 0).bind λ v11=>
if cmpI .neq v8.1.fin 0 then(some v8.1)
else((xo v8.1 v11).bind λ v20=>
if cmpI .lss v20.2 0 then(some ({ v20.1 with fin:=(1:Int) }))
else((xo v20.1 v11).bind λ v29=>
(wF v29.1 x1 v11 (⟨(1:Int),v29.2⟩:GVal)).bind λ v33=>
some v33)))
else(if cmpI .eql x2.kind 1 then((R.spec_runFrom x0 x1 x2).bind λ v40=>
some v40)
else(if cmpI .eql x2.kind 2 then((R.spec_runStar x0 x1 x2).bind λ v47=>
some v47)
else(if cmpI .eql x2.kind 3 then((wF x0 x1 x2.name (⟨(0:Int),x2.value⟩:GVal)).bind λ v54=>
some v54)
else(if cmpI .eql x2.kind 4 then((atI x0.mods x1).bind λ v60=>
(qM v60.attrs x2.name).bind λ v62=>
if cmpI .lss v62 0 then(some ({ x0 with fin:=(3:Int) }))
else((atI x0.mods x1).bind λ v76=>
(atI v76.attrs v62).bind λ v78=>
(Xw v78.value).bind λ v79=>
(appO 8 x0.out ([v79]:List Int)).bind λ v89=>
some ({ x0 with out:=v89 })))
else(if cmpI .eql x2.kind 5 then(some ({ x0 with fin:=(4:Int) }))
else(some x0))))))
theorem zep(hR:R.ok)(h:Xx R x0 x1 x2=some r):FnS prog 190 oRun ⟨x0⟩ [dt x1,dt x2] ⟨r⟩ .gone:=by
 refine fnSB (fn:=f190) 1 2 func190 Z Z (λ M G _ b0 _ j=>wqw ?_)
 refine j.zo [(0,1)] λ j=>?_
 refine j.zo [(0,1)] λ j=>?_
 refine j.zd [(0,1)] h (λ j h=>?_) λ j h=>?_
 ·refine Ka ?_
  refine j.zh 3 [(0,1)] λ j=>?_
  have⟨v8,p8,h⟩:=bs h
  refine j.cNA 1 0 (hR.spec_importName p8) [1,5] [] (λ j=>Kb ?_)
  have⟨v10,p10,v11,p11,h⟩:=Kg h
  refine j.zo [(0,1)] λ j=>?_
  refine j.zd [(0,1)] h (λ j h=>?_) (λ j h=>?_) (hs:=sZ 3 (r:=by exact sc Z (xLf (sb:=0) (Pb.fld owRunner.f5) Z T Z)<|segZ))
  ·exact(j.rs0 (s:=0) 1 (bx1 h)).1
  refine Ka ?_
  refine j.zh 2 [(0,1)] λ j=>?_
  have⟨v20,p20,h⟩:=bs h
  refine j.cNA 1 0 (jd p20) [1,6] [] λ j=>?_
  refine j.zh 1 [(0,1)] (λ j=>Kb ?_)
  refine j.cq h (λ h=>?_) λ h=>?_
  ·refine Ka ?_
   refine j.zh 3 [(0,1)] λ j=>?_
   refine j.sfA 0 1 (Pb.fld owRunner.f5) (tp Z) cI [] [] (λ j=>Kb ?_)
   exact(j.rs0 (s:=0) 1 (bx1 h)).1
  refine Ka ?_
  refine j.zh 5 [(0,1)] λ j=>?_
  have⟨v29,p29,h⟩:=bs h
  refine j.cNA 1 0 (jd p29) [33,34,35] [] λ j=>?_
  refine j.zh 1 [(0,1)] (λ j=>?_) (hs:=sc Z (Xc Z cI T)<|.nil)
  have⟨v33,p33,h⟩:=bs h
  refine j.cNA 1 0 (FnS.any (Yd p33)) [] [] (λ j=>Kb ?_)
  exact(j.rs0 (s:=0) 1 (bx1 h)).2
 refine j.zd [(0,1)] h (λ j h=>?_) λ j h=>?_
 ·refine Ka ?_
  refine j.zh 3 [(0,1)] λ j=>?_
  have⟨v40,p40,h⟩:=bs h
  refine j.cNA 1 0 (FnS.any (hR.spec_runFrom p40)) [] [] (λ j=>Kb ?_)
  exact(j.rs0 (s:=0) 1 (bx1 h)).2
 refine j.zd [(0,1)] h (λ j h=>?_) λ j h=>?_
 ·refine Ka ?_
  refine j.zh 3 [(0,1)] λ j=>?_
  have⟨v47,p47,h⟩:=bs h
  refine j.cNA 1 0 (FnS.any (hR.spec_runStar p47)) [] [] (λ j=>Kb ?_)
  exact(j.rs0 (s:=0) 1 (bx1 h)).2
 refine j.zd [(0,1)] h (λ j h=>?_) λ j h=>?_
 ·refine Ka ?_
  refine j.zh 7 [(0,1)] (λ j=>?_) (hs:=sZ 6 (r:=by exact sc Z (Xc Z cI T)<|.nil))
  have⟨v54,p54,h⟩:=bs h
  refine j.cNA 1 0 (FnS.any (Yd p54)) [] [] (λ j=>Kb ?_)
  exact(j.rs0 (s:=0) 1 (bx1 h)).2
 refine j.zd [(0,1)] h (λ j h=>?_) λ j h=>?_
 ·have⟨v60,p60,h⟩:=bs h
  have⟨v62,p62,h⟩:=bs h
  refine j.hdA 0 1 (Pb.fld owRunner.f2) [] λ g59 A59 _ hA59 j=>?_
  refine j.hdA 0 1 (((Pb.fld owRunner.f2).row (.head _) Z (λ h=>hA59 h Z) p60).fld owGModR.f5) [] λ g61 A61 _ hA61 j=>?_
  refine j.zv [(0,1)] (λ _ _ j=>?_) (hs:=sV 5 (r:=by exact sw Z (xIa (g:=g59) Z kS77 T T Z (λ h=>hA59 h Z) p60)<|sV 4 (r:=by exact sw Z (wB (l:=[.tmp 72,.tmp 74]) j.ob.sub Z (.cons (lendP (sb:=0) j.ob 1 (((Pb.fld owRunner.f2).row (.tail _ (.head _)) Z (λ h=>hA59 h Z) p60).fld owGModR.f5) (.head _) Z (yA Z Z) T Z) (.cons (qR j.ob.sub T) .nil)) (XW p62) Z5)<|sw Z (oA Z T)<|.nil)))
  have j:=j.ncf (s:=0) 1 []
  refine j.zd [(0,1)] h (λ j h=>?_) λ j h=>?_
  ·refine Ka ?_
   refine j.zh 3 [(0,1)] λ j=>?_
   refine j.sfA 0 1 (Pb.fld owRunner.f5) (tp Z) cI [] [] (λ j=>Kb ?_)
   exact(j.rs0 (s:=0) 1 (bx1 h)).1
  refine j.held (λ _=>True) yc λ _ j=>?_
  refine j.tN 0 0 trivial λ _ j=>?_
  have⟨v76,p76,v78,p78,h⟩:=Kg h
  have⟨v79,p79,h⟩:=bs h
  refine j.hdA 0 1 (Pb.fld owRunner.f4) [] λ g74 A74 _ hA74 j=>?_
  refine j.hdA 0 1 (Pb.fld owRunner.f2) [] λ g75 A75 _ hA75 j=>?_
  refine j.hdA 0 1 (((Pb.fld owRunner.f2).row (.head _) Z (λ h=>hA75 h Z) p76).fld owGModR.f5) [] λ g77 A77 _ hA77 j=>?_
  refine j.drnE (D:=[_,_,_,_,_,_,_,_,_,_,_,_,_,_,_,_,_,_,_]) 19 [0] [[(0,nS)],[(0,nS)],[(82,1)],[(83,2)],[(84,3),(0,nS)],[(0,nS)],[(86,5)],[(87,6)],[(88,7),(0,nS)],[(1,nS)],[(89,8),(90,9)],[(91,10)],[(92,11),(0,nS)],[(7,nS)],[(93,12),(94,13)],[(95,14)],[(96,15),(0,nS)],[(97,16)],[(98,17)],[(85,4),(99,18)],[(81,0)],[(101,20)],[(102,21),(100,19)]] (
   rc Z Z (oM Z U)<|
   rc Z Z (oM Z U)<|
   rc Z Z (xNc Z T)<|
   rc Z Z (xFa Z kF81_4 T)<|
   rc Z Z (xLc (sb:=0) (.tail _ (.tail _ (.head _))) Z Z Z T Z)<|
   rc Z Z (oM Z U)<|
   rc Z Z (xNc Z T)<|
   rc Z Z (xFa Z XN T)<|
   rc Z Z (xLc (sb:=0) (.tail _ (.head _)) Z Z Z T Z)<|
   rc Z Z (oM Z T)<|
   rc Z Z (xIa (g:=g75) Z kS77 T T Z (λ h=>hA75 h Z) p76)<|
   rc Z Z (xFa Z Ww T)<|
   rc Z Z (xLc (sb:=0) (.head _) Z Z Z T Z)<|
   rc Z Z (oM Z T)<|
   rc Z Z (xIa (g:=g77) Z QC T T Z (λ h=>hA77 h Z) p78)<|
   rc Z Z (xFa Z zcj T)<|
   rc Z Z (xLf (sb:=0) (((((Pb.fld owRunner.f2).row (.tail _ (.head _)) Z (λ h=>hA75 h Z) p76).fld owGModR.f5).row (.head _) Z (λ h=>hA77 h Z) p78).fld GAttr.z1) Z T Z)<|
   rc Z Z (zA (l:=[.tmp 97]) Z (.cons T .nil) (zcn p79))<|
   rc Z Z (yf (opds:=[.tmp 98]) Z Z Z (.cons T .nil))<|.nil) (by
 intro i hi x d hx
 simp only[List.mem_cons,List.not_mem_nil,or_false] at hi
 rcases hi with rfl
 all_goals (injection hx with hx;injection hx with h1 h2;subst h1;subst h2;rfl)) [81,85,99] [(0,1)] Z ⟨λ _ h=>h,trivial⟩ (λ _ _ j=>?_)
  refine j.mvG (s:=85) (sb:=0) 1 0 (Pb.fld owRunner.f4) (.tail _ (.tail _ (.head _))) (yA Z Z) [81,99] [] λ j=>?_
  refine j.tipR (s:=85) 0 (by first | (simp;done) | exact oD rfl) [0] λ g86 j=>?_
  have⟨v89,p89,h⟩:=bs h
  refine j.apA 0 xv p89 [81] [0] λ g88 j=>?_
  refine j.zh 2 [(0,1),(100,0)] λ j=>?_
  have j:=j.tipW (s:=100) 0 [0]
  refine j.shA 0 100 1 0 (tp Z) [] [] (λ j=>Kb ?_)
  exact(j.rs0 (s:=0) 1 (bx1 h)).2
 refine j.zd [(0,1)] h (λ j h=>?_) λ j h=>?_
 ·refine Ka ?_
  refine j.zh 3 [(0,1)] λ j=>?_
  refine j.sfA 0 1 (Pb.fld owRunner.f5) (tp Z) cI [] [] (λ j=>Kb ?_)
  exact(j.rs0 (s:=0) 1 (bx1 h)).2
 exact(j.rs0 (s:=0) 1 (bx1 h)).2
def wc(_R:Rec)(x1:Int)(v13:List GAttr)(s19:Runner×Int):Option ((Runner×Int)⊕Runner):=
if(cmpI .lss s19.2 (v13.length:Int))=true then(Option.bind (α:=Runner) ((atI v13 s19.2).bind λ v25=>
(atI v25.name.l 0).bind λ v26=>
if(cmpB .neq v26 (UInt8.ofNat 122))=true then((atI v13 s19.2).bind λ v32=>
(atI v13 s19.2).bind λ v33=>
(wF s19.1 x1 v32.name v33.value).bind λ v38=>
some v38)
else(some s19.1)) λ o24=>
(i64 (s19.2+(1:Int))).bind λ v41=>
some (.inl (o24,v41)))
else(some (.inr s19.1))
def Yf(R:Rec)(x0:Runner)(x1:Int)(x2:Stmt):Option Runner:=
(R.spec_importName x0 x2.module).bind λ v4=>
if cmpI .neq v4.1.fin 0 then(some v4.1)
else((atI v4.1.mods v4.2).bind λ v11=>
(appO 32 [] v11.attrs).bind λ v13=>
zP (λ s19=>wc R x1 v13 s19) (v4.1,(0:Int)))
theorem zeq(hR:R.ok)(h:Yf R x0 x1 x2=some r):FnS prog 214 oRun ⟨x0⟩ [dt x1,dt x2] ⟨r⟩ .gone:=by
 unfold Yf at h
 refine fnSB (fn:=f214) 0 1 func214 Z Z λ M G w0 b0 _ j=>?_
 refine j.sqA [1,5] [(0,0)] (λ j=>Kc ?_)
 refine Ka ?_
 refine j.segC 3 [1,9,11] [(0,0)] λ j=>?_
 have⟨v4,p4,h⟩:=bs h
 refine j.cNA 0 0 (hR.spec_importName p4) [1] [] λ j=>?_
 refine j.segA 1 [1,6] [(0,0)] (λ j=>Kb ?_)
 refine za ?_
 refine Kc ?_
 refine j.sqB (sP 3 (r:=by exact sc Z (xLf (sb:=0) (Pb.fld owRunner.f5) Z T Z)<|segC)) [1,6,17] [(0,0)] λ j=>?_
 refine j.cs h (λ _ h=>?_) λ _ h=>?_
 ·refine wp_ret (zK ?_)
  exact(j.rs0 (s:=0) 0 (bx1 h)).1
 refine wp_skip ?_
 refine za ?_
 have⟨v11,p11,v13,p13,h⟩:=Kg h
 refine j.hdA 0 0 (Pb.fld owRunner.f2) [] λ g10 A10 _ hA10 j=>?_
 refine j.hdA 0 0 (((Pb.fld owRunner.f2).row (.head _) Z (λ h=>hA10 h Z) p11).fld owGModR.f5) [] λ g12 A12 _ hA12 j=>?_
 refine j.sqB (sc Z (wA (α:=GAttr) (e:=206) Z (ht':=QC))<|sP 5 (r:=by exact sc Z (xIa (g:=g10) Z kS77 T T Z (λ h=>hA10 h Z) p11)<|sP 2 (r:=by exact sc Z (op_app1 Z kE117 T (row_hd (sb:=0) (((Pb.fld owRunner.f2).row (.tail _ (.head _)) Z (λ h=>hA10 h Z) p11).fld owGModR.f5) (.head _) Z (yA Z Z) Z T) p13)<|segC))) [1,7] [(0,0)] λ j=>?_
 have j:=j.ncf (s:=0) 0 []
 refine j.sqA [1,7,8] [(0,0)] (λ j=>wp_block ?_)
 refine XI h (λ s19 a w=>∃ M1 Q,Sx (Frm.chg w0 G) 54 M M1 [Q] [(1,dt x1),(7,dt v13),(8,dt s19.2)] [(0,0,dnm oRun Q ⟨s19.1⟩ (.pointer (some ⟨b0,0,none⟩)) [])] a w) fx ?_
 rintro s19 z19 _ _ ⟨_,Q,j⟩ hs19 hx19
 have h:wc R x1 v13 s19=some z19:=hs19
 unfold wc at h
 refine Kc ?_
 refine j.sqA [1,7,8,31] [(0,0)] λ j=>?_
 refine j.cs h (λ _ h=>?_) λ _ h=>?_
 ·refine wp_skip ?_
  refine za ?_
  have⟨o24,p24,k24⟩:=bs h
  refine jg (λ a w=>∃ M1 Q,Sx (Frm.chg w0 G) 54 M M1 [Q] [(1,dt x1),(7,dt v13),(8,dt s19.2)] [(0,0,dnm oRun Q ⟨o24⟩ (.pointer (some ⟨b0,0,none⟩)) [])] a w) ?_ ?_
  ·refine wp_block ?_
   have⟨v25,p25,h⟩:=bs p24
   have⟨v26,p26,h⟩:=bs h
   refine j.sqB (sP 5 (r:=by exact sc Z (xByte Z T cI p26)<|sc Z (oCB Z T (We))<|.nil)) [1,7,8,40] [(0,0)] λ j=>?_
   refine j.cs h (λ _ h=>?_) λ _ h=>?_
   ·have⟨v32,p32,h⟩:=bs h
    have⟨v33,p33,h⟩:=bs h
    refine j.drnA (D:=[_,_,_,_,_,_,_,_,_,_,_,_]) yc 12 [[(0,nS)],[(1,nS)],[(7,nS)],[(8,nS)],[(43,2),(44,3)],[(45,4)],[(46,5)],[(7,nS)],[(8,nS)],[(48,7),(49,8)],[(50,9)],[(51,10)],[(41,0),(42,1),(47,6),(52,11)]] [1,7,8,41,42,47,52] [(0,0)] (λ _ _ j=>?_) (hs:=rc Z Z (oM Z U)<|
      rc Z Z (oM Z T)<|
      rc Z Z (oM Z T)<|
      rc Z Z (oM Z T)<|
      rc Z Z (xIdx Z (ht':=QC) T T p32)<|
      rc Z Z (zQ GAttr.fld0 Z T)<|
      rc Z Z (zz Z T)<|
      rc Z Z (oM Z T)<|
      rc Z Z (oM Z T)<|
      rc Z Z (xIdx Z (ht':=QC) T T p33)<|
      rc Z Z (zQ GAttr.fld1 Z (ht:=zcj) T)<|
      rc Z Z (zz Z T)<|.nil)
    have⟨v38,p38,h⟩:=bs h
    refine j.cSF (l:=[.tmp 42,.tmp 47,.tmp 52]) 0 (j.bkN (s:=0)) Z Z kN165 (Eq.trans (j.st.has 41 _ Z) (j.st.has 0 _ Z).1.symm) (by simp) (.cons T (.cons T (.cons T .nil))) (FnS.any (Yd p38)) [1,7,8] Z [] Z Z (by decide) (λ j=>Kb ?_)
    refine z3 ?_
    refine za ?_
    cases h
    exact fx
   refine wp_skip ?_
   refine z3 ?_
   refine za ?_
   cases h
   exact fx
  rintro _ _ ⟨_,Q,j⟩
  have h:=k24
  have⟨v41,p41,h⟩:=bs h
  refine j.rgA [1,7,8] [(0,0)] (λ j=>za ?_)
  exact fl h
 refine wp_exit (zZ (zZ (y6 ?_)))
 have h:=lo h hx19
 exact(j.rs0 (s:=0) 0 (bx1 h)).2
def Xy(R:Rec)(x0:Runner)(x1:Int)(x2:Stmt):Option Runner:=
(atI x0.mods x1).bind λ v3=>
(Zj v3).bind λ v5=>
(Ye v5 x2.level x2.module).bind λ v6=>
(yL v6).bind λ v12=>
if(!v12)=true then(some ({ x0 with fin:=(5:Int) }))
else((R.spec_importName x0 v6).bind λ v21=>
if cmpI .neq v21.1.fin 0 then(some v21.1)
else((R.spec_fromName v21.1 v21.2 x2.name).bind λ v29=>
if cmpI .eql v29.1.fin 0 then((wF v29.1 x1 x2.name v29.2).bind λ v40=>
some v40)
else(some v29.1)))
theorem zer(hR:R.ok)(h:Xy R x0 x1 x2=some r):FnS prog 213 oRun ⟨x0⟩ [dt x1,dt x2] ⟨r⟩ .gone:=by
 refine fnSB (fn:=f213) 0 2 func213 Z Z (λ M G _ b0 _ j=>wqw ?_)
 refine j.zo [(0,0)] λ j=>?_
 have⟨v3,p3,v5,p5,h⟩:=Kg h
 have⟨v6,p6,h⟩:=bs h
 refine j.hdA 0 0 (Pb.fld owRunner.f2) [] λ g2 A2 _ hA2 j=>?_
 refine j.hdW (s:=0) 0 true (λ _=>((Pb.fld owRunner.f2).row (.head _) Z (λ h=>hA2 h Z) p3)) [] λ cs4 hS4 j=>?_
 refine j.zv [(0,0)] (λ _ _ j=>?_) (hs:=sV 5 (r:=by exact sw Z (xIa (g:=g2) Z kS77 T T Z (λ h=>hA2 h Z) p3)<|sw Z (xLw (sb:=0) (.head _) Z (hS4 Z) Z T Z)<|sw Z (wB (l:=[.tmp 15]) j.ob.sub Z (.cons (lendP (sb:=0) j.ob 0 ((Pb.fld owRunner.f2).row (.tail _ (.head _)) Z (λ h=>hA2 h Z) p3) (.head _) Z (fits_all Z (hS4 Z)) T Z) .nil) (JX p5) flat_str)<|sV 4 (r:=by exact sw Z (zA (l:=[.tmp 16,.tmp 18,.tmp 20]) Z (.cons T (.cons T (.cons T .nil))) (zag p6))<|sw Z (oA Z T)<|.nil)))
 have j:=j.ncf (s:=0) 0 []
 have⟨v12,p12,h⟩:=bs h
 refine j.zd [(0,0)] h (λ j h=>?_) λ j h=>?_
 ·refine Ka ?_
  refine j.zh 3 [(0,0)] λ j=>?_
  refine j.sfA 0 0 (Pb.fld owRunner.f5) (tp Z) cI [] [] (λ j=>Kb ?_)
  exact(j.rs0 (s:=0) 0 (bx1 h)).1
 refine Ka ?_
 refine j.zh 2 [(0,0)] λ j=>?_
 have⟨v21,p21,h⟩:=bs h
 refine j.cNA 0 0 (hR.spec_importName p21) [1,5] [] λ j=>?_
 refine j.zh 1 [(0,0)] (λ j=>Kb ?_)
 refine j.zd [(0,0)] h (λ j h=>?_) (λ j h=>?_) (hs:=sZ 3 (r:=by exact sc Z (xLf (sb:=0) (Pb.fld owRunner.f5) Z T Z)<|segZ))
 ·exact(j.rs0 (s:=0) 0 (bx1 h)).1
 refine Ka ?_
 refine j.zh 4 [(0,0)] λ j=>?_
 have⟨v29,p29,h⟩:=bs h
 refine j.cNA 0 0 (hR.spec_fromName p29) [1,5] [] λ j=>?_
 refine j.alA 1 Qb [1,5,40] [0] λ b32 j=>?_
 refine j.stA 8 1 FldS.id (tp Z) [1,5] [0] (λ j=>Kb ?_)
 refine j.zd [(0,0),(8,1)] h (λ j h=>?_) (λ j h=>?_) (hs:=sZ 3 (r:=by exact sc Z (xLf (sb:=0) (Pb.fld owRunner.f5) Z T Z)<|segZ))
 ·refine Ka ?_
  refine j.zh 5 [(0,0)] λ j=>?_
  have⟨v40,p40,h⟩:=bs h
  refine j.cNA 0 0 (FnS.any (Yd p40)) [] [] (λ j=>Kb ?_)
  exact(j.rs0 (s:=0) 0 (bx1 h)).2
 exact(j.rs0 (s:=0) 0 (bx1 h)).2
def YP(R:Rec)(x0:Runner)(x1:Int)(x2:Str):Option (Runner×GVal):=
(atI x0.mods x1).bind λ v4=>
(qM v4.attrs x2).bind λ v6=>
if cmpI .geq v6 0 then((atI x0.mods x1).bind λ v15=>
(atI v15.attrs v6).bind λ v17=>
some (x0,v17.value))
else((atI x0.mods x1).bind λ v25=>
(Zs v25.name x2).bind λ v26=>
(atI x0.mods x1).bind λ v32=>
(gO (cmpI .eql v32.kind 1 == false) (yL v26)).bind λ v33=>
if(cmpI .eql v32.kind 1||(!v33))=true then(some ({ x0 with fin:=(2:Int) },(⟨0,0⟩:GVal)))
else((xo x0 v26).bind λ v47=>
(gO (cmpI .lss v47.2 0 == true) (jI v47.1 v26)).bind λ v51=>
if(cmpI .lss v47.2 0&&cmpI .eql v51.2.kind 0)=true then(some ({ (if(cmpI .lss v47.2 0 == true)=true then v51.1 else v47.1) with fin:=(2:Int) },(⟨0,0⟩:GVal)))
else((R.spec_importName (if(cmpI .lss v47.2 0 == true)=true then v51.1 else v47.1) v26).bind λ v63=>
some (v63.1,(⟨(1:Int),v63.2⟩:GVal)))))
theorem zdX(hR:R.ok){x2:Str}{r:Runner×GVal}(h:YP R x0 x1 x2=some r):FnS prog 229 oRun ⟨x0⟩ [dt x1,dt x2] ⟨r.1⟩ (.frz (dt r.2)):=by
 refine fnSB (fn:=f229) 0 2 func229 Z Z (λ M G _ b0 _ j=>wqw ?_)
 refine Ka ?_
 refine j.alA 1 Qb [1,2] [0] (λ b2 j=>Kb ?_)
 have⟨v4,p4,v6,p6,h⟩:=Kg h
 refine j.hdA 0 0 (Pb.fld owRunner.f2) [6] λ g3 A3 _ hA3 j=>?_
 refine j.hdA 0 0 (((Pb.fld owRunner.f2).row (.head _) Z (λ h=>hA3 h Z) p4).fld owGModR.f5) [6] λ g5 A5 _ hA5 j=>?_
 refine j.rgB (sZ 5 (r:=by exact sc Z (xIa (g:=g3) Z kS77 T T Z (λ h=>hA3 h Z) p4)<|sZ 3 (r:=by exact sc Z (wB (l:=[.tmp 16,.tmp 17]) j.ob.sub Z (.cons (lendP (sb:=0) j.ob 0 (((Pb.fld owRunner.f2).row (.tail _ (.head _)) Z (λ h=>hA3 h Z) p4).fld owGModR.f5) (.head _) Z (yA Z Z) T Z) (.cons (qR j.ob.sub T) .nil)) (XW p6) Z5)<|segZ))) [1,2,7] [(0,0),(6,1)] λ j=>?_
 have j:=j.ncf (s:=0) 0 [6]
 refine j.rgA [1,2,7,20] [(0,0),(6,1)] λ j=>?_
 refine j.cq h (λ h=>?_) λ h=>?_
 ·refine Ka ?_
  have⟨v15,p15,v17,p17,h⟩:=Kg h
  refine j.hdA 0 0 (Pb.fld owRunner.f2) [6] λ g14 A14 _ hA14 j=>?_
  refine j.hdA 0 0 (((Pb.fld owRunner.f2).row (.head _) Z (λ h=>hA14 h Z) p15).fld owGModR.f5) [6] λ g16 A16 _ hA16 j=>?_
  refine j.segB 12 (sZ 5 (r:=by exact sc Z (xIa (g:=g14) Z kS77 T T Z (λ h=>hA14 h Z) p15)<|sZ 3 (r:=by exact sc Z (xIa (g:=g16) Z QC T T Z (λ h=>hA16 h Z) p17)<|sZ 1 (r:=by exact sc Z (xLf (sb:=0) (((((Pb.fld owRunner.f2).row (.tail _ (.head _)) Z (λ h=>hA14 h Z) p15).fld owGModR.f5).row (.head _) Z (λ h=>hA16 h Z) p17).fld GAttr.z1) Z T Z)<|.nil)))) [32] [(0,0),(6,1)] λ j=>?_
  refine j.stA 6 1 FldS.id (tp Z) [] [0] (λ j=>Kb ?_)
  have j:=j.ncf (s:=0) 0 [6]
  exact j.xC 0 0 h
 have⟨v25,p25,v26,p26,h⟩:=Kg h
 refine j.hdA 0 0 (Pb.fld owRunner.f2) [6] λ g24 A24 _ hA24 j=>?_
 refine j.rgB (sZ 5 (r:=by exact sc Z (xIa (g:=g24) Z kS77 T T Z (λ h=>hA24 h Z) p25)<|sZ 1 (r:=by exact sc Z (xLf (sb:=0) (((Pb.fld owRunner.f2).row (.head _) Z (λ h=>hA24 h Z) p25).fld owGModR.f0) Z T Z)<|sZ 1 (r:=by exact sc Z (oK (zch p26))<|segZ)))) [1,8] [(0,0),(6,1)] λ j=>?_
 have j:=j.ncf (s:=0) 0 [6]
 have⟨v32,p32,v33,p33,h⟩:=Kg h
 refine j.hdA 0 0 (Pb.fld owRunner.f2) [6] λ g31 A31 _ hA31 j=>?_
 refine j.rgB (sZ 5 (r:=by exact sc Z (xIa (g:=g31) Z kS77 T T Z (λ h=>hA31 h Z) p32)<|sZ 1 (r:=by exact sc Z (xLf (sb:=0) (((Pb.fld owRunner.f2).row (.head _) Z (λ h=>hA31 h Z) p32).fld owGModR.f1) Z T Z)<|sZ 3 (r:=by exact sg Z Z (λ hg=>oK (Yo (gh hg p33)))<|segZ)))) [8,56] [(0,0),(6,1)] λ j=>?_
 have j:=j.ncf (s:=0) 0 [6]
 refine j.cq h (λ h=>?_) λ h=>?_
 ·refine Ka ?_
  refine j.segC 3 [59] [(0,0),(6,1)] λ j=>?_
  refine j.sfA 0 0 (Pb.fld owRunner.f5) (tp Z) cI [] [6] (λ j=>Kb ?_)
  refine Ka ?_
  refine j.segB 1 (sc Z (yp (parts:=[]) (ns:=[1,1]) (zs:=zpGVal) Z Z (λ w a hl=>by simp) (λ w a hl=>GVal.parts (x:=(⟨0,0⟩:GVal)) ⟨Z,trivial⟩ ⟨Z,trivial⟩))<|.nil) [60] [(0,0),(6,1)] λ j=>?_
  refine j.stA 6 1 FldS.id (tp Z) [] [0] (λ j=>Kb ?_)
  exact j.xC 0 0 h
 refine Ka ?_
 refine j.segC 2 [8,61,62] [(0,0),(6,1)] λ j=>?_
 have⟨v47,p47,h⟩:=bs h
 refine j.cNA 0 0 (jd p47) [8] [6] λ j=>?_
 refine j.segB 4 (sc Z (oCI Z T cI)<|
  sc Z (oM Z T)<|
  sg Z Z (λ hg=>oM Z U)<|
  sg Z Z (λ hg=>oM Z T)<|.nil) [8,65,66,67] [(0,0),(6,1)] (λ j=>?_)
 have⟨v51,p51,h⟩:=bs h
 refine j.cSFgB (sb:=0) (l:=[.tmp 67]) 0 Z (λ _ h=>h) Z Z Z kN162 (λ hg=>(j.st.has 66 _ Z).1 hg) (by simp) (λ hg=>(.cons V .nil)) (λ hg=>Jz (gh hg p51)) [8,65] Z [6] Z Z (by decide) λ _ _ _ _ j=>?_
 refine j.segB 3 (sg Z Z (λ hg=>WA Spec.fld0 Z Z V)<|segZ) [8,71] [(0,0),(6,1)] (λ j=>Kb ?_)
 refine j.cq h (λ h=>?_) λ h=>?_
 ·refine Ka ?_
  refine j.segC 3 [74] [(0,0),(6,1)] λ j=>?_
  refine j.sfA 0 0 (Pb.fld owRunner.f5) (tp Z) cI [] [6] (λ j=>Kb ?_)
  refine Ka ?_
  refine j.segB 1 (sc Z (yp (parts:=[]) (ns:=[1,1]) (zs:=zpGVal) Z Z (λ w a hl=>by simp) (λ w a hl=>GVal.parts (x:=(⟨0,0⟩:GVal)) ⟨Z,trivial⟩ ⟨Z,trivial⟩))<|.nil) [75] [(0,0),(6,1)] λ j=>?_
  refine j.stA 6 1 FldS.id (tp Z) [] [0] (λ j=>Kb ?_)
  exact j.xC 0 0 h
 refine Ka ?_
 refine j.segC 2 [76,77] [(0,0),(6,1)] λ j=>?_
 have⟨v63,p63,h⟩:=bs h
 refine j.cNA 0 0 (hR.spec_importName p63) [] [6] λ j=>?_
 refine j.segB 1 (sc Z (Xc Z cI T)<|.nil) [79] [(0,0),(6,1)] λ j=>?_
 refine j.stA 6 1 FldS.id (tp Z) [] [0] (λ j=>Kb ?_)
 exact j.xC 0 0 h
def Z0(R:Rec)(x0:Runner)(x1:Str):Option (Runner×Int):=
(xo x0 x1).bind λ v4=>
if cmpI .geq v4.2 0 then((x9 v4.1 (3:Int) x1).bind λ v13=>
some (v13,v4.2))
else((xi x1).bind λ v17=>
(gO (decide (v17≠(⟨[]⟩:Str)) == true) (R.spec_importName v4.1 v17)).bind λ v22=>
if(decide (v17≠(⟨[]⟩:Str))&&cmpI .lss v22.2 0)=true then(some ((if(decide (v17≠(⟨[]⟩:Str)) == true)=true then v22.1 else v4.1),(-1:Int)))
else((xo (if(decide (v17≠(⟨[]⟩:Str)) == true)=true then v22.1 else v4.1) x1).bind λ v31=>
if cmpI .geq v31.2 0 then((x9 v31.1 (3:Int) x1).bind λ v40=>
some (v40,v31.2))
else((jI v31.1 x1).bind λ v46=>
if cmpI .eql v46.2.kind 0 then(some ({ v46.1 with fin:=(1:Int) },(-1:Int)))
else(Option.bind (α:=Runner) ((appO 80 v46.1.mods [(⟨x1,v46.2.kind,v46.2.roots,true,false,[]⟩:GMod)]).bind λ v87=>
some ({ v46.1 with mods:=v87 })) λ o65=>
(x9 o65 (0:Int) x1).bind λ v143=>
Option.bind (α:=Runner) (if cmpI .geq v46.2.file 0 then((qL v143 v46.2.file).bind λ v152=>
(R.spec_runBody v152.1 (v46.1.mods.length:Int) v152.2).bind λ v156=>
some v156)
else(some v143)) λ o146=>
if cmpI .neq o146.fin 0 then((atI o146.mods (v46.1.mods.length:Int)).bind λ v164=>
(x9 ({ o146 with mods:=(o146.mods.set (v46.1.mods.length:Int).toNat ({ v164 with cached:=false })) }) (2:Int) x1).bind λ v170=>
some (v170,(-1:Int)))
else((atI o146.mods (v46.1.mods.length:Int)).bind λ v175=>
(x9 ({ o146 with mods:=(o146.mods.set (v46.1.mods.length:Int).toNat ({ v175 with done:=true })) }) (1:Int) x1).bind λ v181=>
Option.bind (α:=Runner) ((xo v181 v17).bind λ v187=>
if cmpI .geq v187.2 0 then((Zn x1).bind λ v194=>
(wF v187.1 v187.2 v194 (⟨(1:Int),(v46.1.mods.length:Int)⟩:GVal)).bind λ v198=>
some v198)
else(some v187.1)) λ o184=>
some (o184,(v46.1.mods.length:Int)))))))
theorem zco(hR:R.ok){x1:Str}{r:Runner×Int}(h:Z0 R x0 x1=some r):FnS prog 119 oRun ⟨x0⟩ [dt x1] ⟨r.1⟩ (.frz (dt r.2)):=by
 refine fnSB (fn:=f119) 4 6 func119 Z Z (λ M G w0 b0 _ j=>wqw ?_)
 refine j.rgB segZ [1] [(0,4)] (λ j=>Ka ?_)
 refine j.segB 2 segZ [1,11,12] [(0,4)] λ j=>?_
 have⟨v4,p4,h⟩:=bs h
 refine j.cNA 4 0 (jd p4) [1] [] λ j=>?_
 refine j.segB 1 segZ [1,5] [(0,4)] (λ j=>Kb ?_)
 refine j.rgB segZ [1,5,15] [(0,4)] λ j=>?_
 refine j.cq h (λ h=>?_) λ h=>?_
 ·refine Ka ?_
  refine j.segB 2 segZ [5,16,17] [(0,4)] λ j=>?_
  have⟨v13,p13,h⟩:=bs h
  refine j.cNA 4 0 (FnS.any (Zo p13)) [5] [] (λ j=>Kb ?_)
  refine j.rgB segZ [4] [(0,4)] λ j=>?_
  exact j.xF 0 4 h
 have⟨v17,p17,h⟩:=bs h
 refine j.rgB segZ [1,6] [(0,4)] (λ j=>Ka ?_)
 refine j.segB 5 (sc Z (oM Z T)<|
  sc Z (QO Z T (zt))<|
  sc Z (oM Z T)<|
  sg Z Z (λ hg=>oM Z U)<|
  sg Z Z (λ hg=>oM Z T)<|.nil) [1,6,24,25,26] [(0,4)] (λ j=>?_)
 have⟨v22,p22,h⟩:=bs h
 refine j.cSFgB (sb:=0) (l:=[.tmp 26]) 4 Z (λ _ h=>h) Z Z Z kN119 (λ hg=>(j.st.has 25 _ Z).1 hg) (by simp) (λ hg=>(.cons V .nil)) (λ hg=>hR.spec_importName (gh hg p22)) [1,6,24] Z [] Z Z (by decide) λ _ _ _ _ j=>?_
 have j:=j.gn
 refine j.segB 2 segZ [1,6,29] [(0,4)] (λ j=>Kb ?_)
 refine j.cq h (λ h=>?_) λ h=>?_
 ·refine j.rgB segZ [4] [(0,4)] λ j=>?_
  exact j.xF 0 4 h
 refine Ka ?_
 refine j.segB 2 segZ [1,6,30,31] [(0,4)] λ j=>?_
 have⟨v31,p31,h⟩:=bs h
 refine j.cNA 4 0 (jd p31) [1,6] [] λ j=>?_
 refine j.segB 1 segZ [1,6,7] [(0,4)] (λ j=>Kb ?_)
 refine j.rgB segZ [1,6,7,34] [(0,4)] λ j=>?_
 refine j.cq h (λ h=>?_) λ h=>?_
 ·refine Ka ?_
  refine j.segB 2 segZ [7,35,36] [(0,4)] λ j=>?_
  have⟨v40,p40,h⟩:=bs h
  refine j.cNA 4 0 (FnS.any (Zo p40)) [7] [] (λ j=>Kb ?_)
  refine j.rgB segZ [4] [(0,4)] λ j=>?_
  exact j.xF 0 4 h
 refine Ka ?_
 refine j.segB 2 segZ [1,6,39,40] [(0,4)] λ j=>?_
 have⟨v46,p46,h⟩:=bs h
 refine j.cNA 4 0 (Jz p46) [1,6] [] @λ G45 _ _ _ j=>?_
 refine j.alA 5 WP [1,6,41] [0] λ b50 j=>?_
 have j:=j.gn
 refine j.stA 8 5 FldS.id (tp Z) [1,6] [0] λ j=>?_
 have j:=j.frzX 5 (s:=8) [1,6] [0]
 have j:=j.gn
 refine Kb ?_
 refine j.rgB segZ [1,6,8,44] [(0,4)] λ j=>?_
 refine j.cq h (λ h=>?_) λ h=>?_
 ·refine Ka ?_
  refine j.segB 3 segZ [47] [(0,4)] λ j=>?_
  refine j.sfA 0 4 (Pb.fld owRunner.f5) (tp Z) cI [] [] (λ j=>Kb ?_)
  refine j.rgB segZ [4] [(0,4)] λ j=>?_
  exact j.xF 0 4 h
 refine j.hdA 0 4 (Pb.fld owRunner.f2) [] λ g62 A62 _ hA62 j=>?_
 refine j.rgB (sZ 4 (r:=by exact sc Z (xLe Z T)<|segZ)) [1,6,8,9] [(0,4)] (λ j=>za ?_)
 have j:=j.ncf (s:=0) 4 []
 have⟨o65,p65,k65⟩:=bs h
 refine wqj (λ a w=>∃ M1 Q W X Y A B,Sx (Frm.chg w0 G) 119 M M1 [Q,W,X,Y,A,oneB B] [(1,dt x1),(6,dt v17),(8,dptr v46.2),(9,dt (v46.1.mods.length:Int))] [(0,4,dnm oRun A ⟨o65⟩ (.pointer (some ⟨b0,0,none⟩)) [])] a w) ?_ ?_
 ·refine j.opn (s:=8) λ b66 o66 c66 j=>?_
  refine j.held (λ w=>CellsAt w b66 o66 c66) yc λ _ j=>?_
  refine j.tN 0 0 (j.pkZ 8) λ _ j=>?_
  refine j.tN 1 0 (j.pkZ 8) λ _ j=>?_
  refine j.tk (i:=2) Z Z (by decide +kernel) (by decide +kernel) (by decide +kernel) (λ _ _ _ h=>h) (j.pkS (s:=8)) (yNc Z (j.st.has 54 _ Z)) λ _ j=>?_
  refine j.tk (i:=3) Z Z (by decide +kernel) (by decide +kernel) (by decide +kernel) (λ _ _ _ h=>h) (j.pkS (s:=8)) (yFa Z XN (j.st.has 55 _ Z)) λ _ j=>?_
  refine j.tM 5 1 (j.pkZ 8) λ _ j=>?_
  refine j.tA 6 8 (λ _ j=>?_) (ht:=kF62_0)
  refine j.tF 7 8 59 Spec.fld0 λ _ j=>?_
  refine j.tA 8 8 (λ _ j=>?_) (ht:=kF62_2)
  refine j.tF 9 8 61 Spec.fld2 λ _ j=>?_
  have⟨v87,p87,h⟩:=bs p65
  refine aK2 4 10 ?_ ?_
  ·refine j.hdA 0 4 (Pb.fld owRunner.f2) [] λ g95 A95 _ hA95 j=>?_
   refine j.segB 1 segZ [1,6,8,9,53,57,58,60,62] [(0,4)] λ j=>?_
   refine aHN (j.pkZ 8) ?_
   refine aK1 10 ?_
   refine j.bldW (ow:=(owGModR oAtt)) (parts:=[(0,.tmp 58),(1,.tmp 60),(2,.tmp 62),(3,.const (.bool true))]) (ns:=[1,1,1,1,1,1]) (zs:=zpGMod) (x:=(⟨x1,v46.2.kind,v46.2.roots,true,false,[]⟩:GMod)) 1 [] (FA ⟨by decide,Rep.len (α:=Str) (j.oc T)⟩ (FA ⟨by decide,Rep.len (α:=Int) (j.oc T)⟩ (FA ⟨by decide,Rep.len (α:=List Int) (j.oc T)⟩ (FA ⟨by decide,Z⟩ FN)))) (((owGModR oAtt)).more (owGModR.mk (x:=(⟨x1,v46.2.kind,v46.2.roots,true,false,[]⟩:GMod)) (j.oc T) (j.oc T) (j.oc T) (OpdR.cells cB (λ s y hs=>j.st.has s y hs)) ⟨Z,trivial⟩ (Ow.row_z _ _)) (λ b=>(λ hb=>hb.elim))) [1,6,8,9,53,57] [0] (@λ G97 _ _ j=>?_)
   have j:=j.gs (Gs':=[oneB none,G97,oneB none,oneB none,G45,oneB none])
   have j:=j.gs (Gs':=[oneB none,G97,oneB none,oneB none,G45,oneB none])
   refine aHN (j.pkZ 8) ?_
   refine aK1 11 ?_
   refine j.litW (oe:=(owGModR oAtt)) (opds:=[.tmp 63]) (xs:=[(⟨x1,v46.2.kind,v46.2.roots,true,false,[]⟩:GMod)]) 2 [1] kI77 kY77 (Q9 (js (j.st.has 63 _ Z)) (λ b hb=>⟨1,by simp,hb⟩)) (λ q hq=>by
 simp only[List.mem_cons,List.not_mem_nil,or_false] at hq
 subst hq
 exact Ow.len _ (js (j.st.has 63 _ Z))) [1,6,8,9,53,57] [0] (λ G100 _ _ _ j=>?_)
   have j:=j.gs (Gs':=[oneB none,oneB none,G100,oneB none,G45,oneB none])
   refine aHN (j.pkZ 8) ?_
   refine aH1 (i:=12) Z ?_
   refine j.mvG (s:=57) (sb:=0) 4 3 (Pb.fld owRunner.f2) (.head _) (yA Z Z) [1,6,8,9,53] [64] λ j=>?_
   have j:=j.gn
   refine j.appW 3 2 p87 [1,6,8,9,53] [0] λ _ _ _ _ j=>?_
   have j:=j.gn
   refine aHN (j.pkZ 8) ?_
   refine aK1 13 ?_
   refine j.segB 1 segZ [1,6,8,9,66] [(0,4),(65,3)] λ j=>?_
   refine aHN (j.pkZ 8) ?_
   refine aK1 14 ?_
   refine j.segB 1 segZ [1,6,8,9,67] [(0,4),(65,3)] λ j=>?_
   refine aHN (j.pkZ 8) ?_
   refine aK1 15 ?_
   refine j.shA 0 65 4 3 (tp Z) [1,6,8,9] [] λ j=>?_
   have j:=j.gn
   refine aHN (j.pkZ 8) ?_
   refine aK0 ?_
   have j:=j.clo (s:=8)
   cases h
   exact fz
  ·refine j.bldW (ow:=(owGModR oAtt)) (parts:=[(0,.tmp 58),(1,.tmp 60),(2,.tmp 62),(3,.const (.bool true))]) (ns:=[1,1,1,1,1,1]) (zs:=zpGMod) (x:=(⟨x1,v46.2.kind,v46.2.roots,true,false,[]⟩:GMod)) 1 [] (FA ⟨by decide,Rep.len (α:=Str) (j.oc T)⟩ (FA ⟨by decide,Rep.len (α:=Int) (j.oc T)⟩ (FA ⟨by decide,Rep.len (α:=List Int) (j.oc T)⟩ (FA ⟨by decide,Z⟩ FN)))) (((owGModR oAtt)).more (owGModR.mk (x:=(⟨x1,v46.2.kind,v46.2.roots,true,false,[]⟩:GMod)) (j.oc T) (j.oc T) (j.oc T) (OpdR.cells cB (λ s y hs=>j.st.has s y hs)) ⟨Z,trivial⟩ (Ow.row_z _ _)) (λ b=>(λ hb=>hb.elim))) [1,6,8,9,53,56] [0] (@λ G111 _ _ j=>?_)
   have j:=j.gs (Gs':=[oneB none,G111,oneB none,oneB none,G45,oneB none])
   have j:=j.gn
   refine aHN (j.pkZ 8) ?_
   refine aK2 4 11 ?_ ?_
   ·refine j.hdA 0 4 (Pb.fld owRunner.f2) [63] λ g114 A114 _ hA114 j=>?_
    refine j.segB 1 segZ [1,6,8,9,53,57] [(0,4),(63,1)] λ j=>?_
    refine aHN (j.pkZ 8) ?_
    refine aH1 (i:=11) Z ?_
    refine j.litW (oe:=(owGModR oAtt)) (opds:=[.tmp 63]) (xs:=[(⟨x1,v46.2.kind,v46.2.roots,true,false,[]⟩:GMod)]) 2 [1] kI77 kY77 (Q9 (js (j.st.has 63 _ Z)) (λ b hb=>⟨1,by simp,hb⟩)) (λ q hq=>by
 simp only[List.mem_cons,List.not_mem_nil,or_false] at hq
 subst hq
 exact Ow.len _ (js (j.st.has 63 _ Z))) [1,6,8,9,53,57] [0] (λ G116 _ _ _ j=>?_)
    have j:=j.gs (Gs':=[oneB none,oneB none,G116,oneB none,G45,oneB none])
    refine aHN (j.pkS (s:=8)) ?_
    refine aH1 (i:=12) Z ?_
    refine j.mvG (s:=57) (sb:=0) 4 3 (Pb.fld owRunner.f2) (.head _) (yA Z Z) [1,6,8,9,53] [64] @λ G119 H119 j=>?_
    have j:=j.gs (Gs':=[oneB none,oneB none,G116,H119,G119,oneB none])
    refine j.appW 3 2 p87 [1,6,8,9,53] [0] λ _ _ _ _ j=>?_
    have j:=j.gn
    refine aHN (j.pkZ 8) ?_
    refine aK1 13 ?_
    refine j.segB 1 segZ [1,6,8,9,66] [(0,4),(65,3)] λ j=>?_
    refine aHN (j.pkZ 8) ?_
    refine aK1 14 ?_
    refine j.segB 1 segZ [1,6,8,9,67] [(0,4),(65,3)] λ j=>?_
    refine aHN (j.pkZ 8) ?_
    refine aK1 15 ?_
    refine j.shA 0 65 4 3 (tp Z) [1,6,8,9] [] λ j=>?_
    have j:=j.gn
    refine aHN (j.pkZ 8) ?_
    refine aK0 ?_
    have j:=j.clo (s:=8)
    cases h
    exact fz
   ·refine j.litW (oe:=(owGModR oAtt)) (opds:=[.tmp 63]) (xs:=[(⟨x1,v46.2.kind,v46.2.roots,true,false,[]⟩:GMod)]) 2 [1] kI77 kY77 (Q9 (js (j.st.has 63 _ Z)) (λ b hb=>⟨1,by simp,hb⟩)) (λ q hq=>by
 simp only[List.mem_cons,List.not_mem_nil,or_false] at hq
 subst hq
 exact Ow.len _ (js (j.st.has 63 _ Z))) [1,6,8,9,53,56] [0] (λ G127 _ _ _ j=>?_)
    have j:=j.gs (Gs':=[oneB none,oneB none,G127,oneB none,G45,oneB none])
    refine aHN (j.pkS (s:=8)) ?_
    refine aK1 4 ?_
    refine j.hdA 0 4 (Pb.fld owRunner.f2) [64] λ g129 A129 _ hA129 j=>?_
    refine j.segB 1 segZ [1,6,8,9,53,57] [(0,4),(64,2)] λ j=>?_
    refine aHN (j.pkS (s:=8)) ?_
    refine aH1 (i:=12) Z ?_
    refine j.mvG (s:=57) (sb:=0) 4 3 (Pb.fld owRunner.f2) (.head _) (yA Z Z) [1,6,8,9,53] [64] @λ G132 H132 j=>?_
    have j:=j.gs (Gs':=[oneB none,oneB none,G127,H132,G132,oneB none])
    refine j.appW 3 2 p87 [1,6,8,9,53] [0] λ _ _ _ _ j=>?_
    have j:=j.gn
    refine aHN (j.pkZ 8) ?_
    refine aK1 13 ?_
    refine j.segB 1 segZ [1,6,8,9,66] [(0,4),(65,3)] λ j=>?_
    refine aHN (j.pkZ 8) ?_
    refine aK1 14 ?_
    refine j.segB 1 segZ [1,6,8,9,67] [(0,4),(65,3)] λ j=>?_
    refine aHN (j.pkZ 8) ?_
    refine aK1 15 ?_
    refine j.shA 0 65 4 3 (tp Z) [1,6,8,9] [] λ j=>?_
    have j:=j.gn
    refine aHN (j.pkZ 8) ?_
    refine aK0 ?_
    have j:=j.clo (s:=8)
    cases h
    exact fz
 rintro _ _ ⟨_,Q,W,X,Y,A,B,j⟩
 have h:=k65
 refine Ka ?_
 refine j.segB 2 segZ [1,6,8,9,68,69] [(0,4)] λ j=>?_
 have⟨v143,p143,h⟩:=bs h
 refine j.cNA 4 0 (FnS.any (Zo p143)) [1,6,8,9] [] (λ j=>Kb ?_)
 refine za ?_
 have⟨o146,p146,k146⟩:=bs h
 refine wqj (λ a w=>∃ M1 Q W X Y A B,Sx (Frm.chg w0 G) 119 M M1 [Q,W,X,Y,A,oneB B] [(1,dt x1),(6,dt v17),(9,dt (v46.1.mods.length:Int))] [(0,4,dnm oRun A ⟨o146⟩ (.pointer (some ⟨b0,0,none⟩)) [])] a w) ?_ ?_
 ·refine j.rgB segZ [1,6,8,9,73] [(0,4)] λ j=>?_
  refine j.cq p146 (λ h=>?_) λ h=>?_
  ·refine Ka ?_
   refine j.segB 5 segZ [1,6,9,74,75,76,78] [(0,4)] λ j=>?_
   have⟨v152,p152,h⟩:=bs h
   refine j.cNA 4 0 (zbe p152) [1,6,9,74,75] [] λ j=>?_
   have⟨v156,p156,h⟩:=bs h
   refine j.cNA 4 0 (FnS.any (hR.spec_runBody p156)) [1,6,9] [] (λ j=>Kb ?_)
   cases h
   exact fz
  cases h
  exact fz
 rintro _ _ ⟨_,Q,W,X,Y,A,B,j⟩
 have h:=k146
 refine j.rgB (sZ 3 (r:=by exact sc Z (xLf (sb:=0) (Pb.fld owRunner.f5) Z T Z)<|segZ)) [1,6,9,85] [(0,4)] λ j=>?_
 refine j.cq h (λ h=>?_) λ h=>?_
 ·refine Ka ?_
  have⟨v164,p164,h⟩:=bs h
  refine j.hdA 0 4 (Pb.fld owRunner.f2) [] λ g163 A163 _ hA163 j=>?_
  refine j.segB 7 (sZ 5 (r:=by exact sc Z (xIa (g:=g163) Z kS77 T T Z (λ h=>hA163 h Z) p164)<|segZ)) [1,92] [(0,4)] λ j=>?_
  refine j.sfA 0 4 (((Pb.fld owRunner.f2).row (.head _) Z (λ h=>hA163 h Z) p164).fld owGModR.f3) (tp Z) cB [1] [] (λ j=>Kb ?_)
  refine Ka ?_
  refine j.segB 2 segZ [93,94] [(0,4)] λ j=>?_
  have⟨v170,p170,h⟩:=bs h
  refine j.cNA 4 0 (FnS.any (Zo p170)) [] [] (λ j=>Kb ?_)
  refine j.rgB segZ [4] [(0,4)] λ j=>?_
  exact j.xF 0 4 h
 refine Ka ?_
 have⟨v175,p175,h⟩:=bs h
 refine j.hdA 0 4 (Pb.fld owRunner.f2) [] λ g174 A174 _ hA174 j=>?_
 refine j.segB 7 (sZ 5 (r:=by exact sc Z (xIa (g:=g174) Z kS77 T T Z (λ h=>hA174 h Z) p175)<|segZ)) [1,6,9,102] [(0,4)] λ j=>?_
 refine j.sfA 0 4 (((Pb.fld owRunner.f2).row (.head _) Z (λ h=>hA174 h Z) p175).fld owGModR.f4) (tp Z) cB [1,6,9] [] (λ j=>Kb ?_)
 refine Ka ?_
 refine j.segB 2 segZ [1,6,9,103,104] [(0,4)] λ j=>?_
 have⟨v181,p181,h⟩:=bs h
 refine j.cNA 4 0 (FnS.any (Zo p181)) [1,6,9] [] (λ j=>Kb ?_)
 refine za ?_
 have⟨o184,p184,k184⟩:=bs h
 refine wqj (λ a w=>∃ M1 Q W X Y A B,Sx (Frm.chg w0 G) 119 M M1 [Q,W,X,Y,A,oneB B] [(9,dt (v46.1.mods.length:Int))] [(0,4,dnm oRun A ⟨o184⟩ (.pointer (some ⟨b0,0,none⟩)) [])] a w) ?_ ?_
 ·refine Ka ?_
  refine j.segB 2 segZ [1,9,106,107] [(0,4)] λ j=>?_
  have⟨v187,p187,h⟩:=bs p184
  refine j.cNA 4 0 (jd p187) [1,9] [] λ j=>?_
  refine j.segB 1 segZ [1,9,10] [(0,4)] (λ j=>Kb ?_)
  refine j.rgB segZ [1,9,10,110] [(0,4)] λ j=>?_
  refine j.cq h (λ h=>?_) λ h=>?_
  ·refine Ka ?_
   have⟨v194,p194,h⟩:=bs h
   refine j.segB 6 (sZ 3 (r:=by exact sc Z (oK (zad p194))<|sZ 1 (r:=by exact sc Z (Xc Z cI T)<|.nil))) [9,111,112,114,116] [(0,4)] λ j=>?_
   have⟨v198,p198,h⟩:=bs h
   refine j.cNA 4 0 (FnS.any (Yd p198)) [9] [] (λ j=>Kb ?_)
   cases h
   exact fz
  cases h
  exact fz
 rintro _ _ ⟨_,Q,W,X,Y,A,B,j⟩
 have h:=k184
 refine j.rgB segZ [4] [(0,4)] λ j=>?_
 exact j.xF 0 4 h
theorem kD125_0_1:∀ {M:Nat->Prop} {look:Nat->Option Dt} {o:Oper} {q0 q1:Operand} {y0:Int} {y1:Str},o.op=.build 125 #[(0,q0),(1,q1)]->OpdR M look q0 (dt y0)->OpdR M look q1 (dt y1)->OpRel prog M look o (dt (⟨y0,y1⟩:GCmd)):=@λ _ _ _ q0 q1 y0 y1 ho h0 h1=>yp (parts:=[(0,q0),(1,q1)]) (ns:=[1,1]) (zs:=zpGCmd) Z ho (λ w a hl=>FA ⟨(by decide:0<2),Rep.len (α:=Int) (OpdR.cells h0 hl)⟩ (FA ⟨(by decide:1<2),Rep.len (α:=Str) (OpdR.cells h1 hl)⟩ FN)) (λ w a hl=>GCmd.parts (x:=(⟨y0,y1⟩:GCmd)) (OpdR.cells h0 hl) (OpdR.cells h1 hl))
theorem kN88:fnB prog 88=true:=by kernel_rfl
instance iF119_3MbD:FldO prog 119 3 3:=⟨kF119_3⟩
instance iF81_2MbD:FldO prog 81 2 2:=⟨XN⟩
instance iF81_5MbD:FldO prog 81 5 5:=⟨kF81_5⟩
def scc:Nat->Rec
 | 0=>Rec.no
 | n+1=>⟨Z0 (scc n),YP (scc n),Xy (scc n),Yf (scc n),Xx (scc n),W2 (scc n),qC (scc n),qZ (scc n),yP (scc n)⟩
theorem JA:∀ n,(scc n).ok
 | 0=>Rec.no_ok
 | n+1=>⟨(λ h=>zco (JA n) h),(λ h=>zdX (JA n) h),(λ h=>zer (JA n) h),(λ h=>zeq (JA n) h),(λ h=>zep (JA n) h),(λ h=>zeo (JA n) h),(λ h=>zaf (JA n) h),(λ h=>zaU (JA n) h),(λ h=>zcl (JA n) h)⟩
def QE(R:Rec)(x0:Runner)(x1:Str):Option Runner:=
(xo x0 x1).bind λ v3=>
if cmpI .lss v3.2 0 then(some ({ v3.1 with fin:=(1:Int) }))
else((xi x1).bind λ v11=>
(gO (decide (v11≠(⟨[]⟩:Str)) == true) (xi x1)).bind λ v12=>
(gO (decide (v11≠(⟨[]⟩:Str)) == true) (xo v3.1 v12)).bind λ v17=>
if(decide (v11≠(⟨[]⟩:Str))&&cmpI .lss v17.2 0)=true then(some ({ (if(decide (v11≠(⟨[]⟩:Str)) == true)=true then v17.1 else v3.1) with fin:=(1:Int) }))
else((jI (if(decide (v11≠(⟨[]⟩:Str)) == true)=true then v17.1 else v3.1) x1).bind λ v26=>
if cmpI .eql v26.2.kind 0 then(some ({ v26.1 with fin:=(1:Int) }))
else((x9 v26.1 (0:Int) x1).bind λ v39=>
(atI v39.mods v3.2).bind λ v42=>
Option.bind (α:=Runner) (if cmpI .geq v26.2.file 0 then((qL ({ v39 with mods:=(v39.mods.set v3.2.toNat ({ v42 with kind:=v26.2.kind,roots:=v26.2.roots })) }) v26.2.file).bind λ v55=>
(R.spec_runBody v55.1 v3.2 v55.2).bind λ v58=>
some v58)
else(some ({ v39 with mods:=(v39.mods.set v3.2.toNat ({ v42 with kind:=v26.2.kind,roots:=v26.2.roots })) }))) λ o49=>
if cmpI .neq o49.fin 0 then((x9 o49 (2:Int) x1).bind λ v66=>
some v66)
else((x9 o49 (1:Int) x1).bind λ v70=>
some v70))))
theorem zdY(hR:R.ok){x1:Str}(h:QE R x0 x1=some r):FnS prog 120 oRun ⟨x0⟩ [dt x1] ⟨r⟩ .gone:=by
 refine fnSB (fn:=f120) 0 2 func120 Z Z (λ M G w0 b0 _ j=>wqw ?_)
 refine Ka ?_
 refine j.zh 2 [(0,0)] λ j=>?_
 have⟨v3,p3,h⟩:=bs h
 refine j.cNA 0 0 (jd p3) [1] [] λ j=>?_
 refine j.zh 1 [(0,0)] (λ j=>Kb ?_)
 refine j.zd [(0,0)] h (λ j h=>?_) λ j h=>?_
 ·refine Ka ?_
  refine j.zh 3 [(0,0)] λ j=>?_
  refine j.sfA 0 0 (Pb.fld owRunner.f5) (tp Z) cI [] [] (λ j=>Kb ?_)
  exact(j.rs0 (s:=0) 0 (bx1 h)).1
 refine Ka ?_
 have⟨v11,p11,v12,p12,h⟩:=Kg h
 refine j.zh 7 [(0,0)] (λ j=>?_) (hs:=sc Z (oM Z T)<|
  sc Z (zA (l:=[.tmp 14]) Z (.cons T .nil) (XU p11))<|
  sc Z (QO Z T (zt))<|
  sc Z (oM Z T)<|
  sg Z Z (λ hg=>oM Z U)<|
  sg Z Z (λ hg=>oM Z T)<|
  sg Z Z (λ hg=>zA (l:=[.tmp 19]) Z (.cons V .nil) (XU (gh hg p12)))<|.nil)
 have⟨v17,p17,h⟩:=bs h
 refine j.cSFgB (sb:=0) (l:=[.tmp 20]) 0 Z (λ _ h=>h) Z Z Z kN121 (λ hg=>(j.st.has 18 _ Z).1 hg) (by simp) (λ hg=>(.cons V .nil)) (λ hg=>jd (gh hg p17)) [1,4,17] Z [] Z Z (by decide) λ _ _ _ _ j=>?_
 refine j.zh 2 [(0,0)] (λ j=>Kb ?_)
 refine j.cq h (λ h=>?_) λ h=>?_
 ·refine Ka ?_
  refine j.zh 3 [(0,0)] λ j=>?_
  refine j.sfA 0 0 (Pb.fld owRunner.f5) (tp Z) cI [] [] (λ j=>Kb ?_)
  exact(j.rs0 (s:=0) 0 (bx1 h)).1
 refine Ka ?_
 refine j.zh 2 [(0,0)] λ j=>?_
 have⟨v26,p26,h⟩:=bs h
 refine j.cNA 0 0 (Jz p26) [1,4] [] λ j=>?_
 refine j.alA 1 WP [1,4,29] [0] λ b29 j=>?_
 refine j.stA 5 1 FldS.id (tp Z) [1,4] [0] (λ j=>Kb ?_)
 refine j.zd [(0,0),(5,1)] h (λ j h=>?_) λ j h=>?_
 ·refine Ka ?_
  refine j.zh 3 [(0,0)] λ j=>?_
  refine j.sfA 0 0 (Pb.fld owRunner.f5) (tp Z) cI [] [] (λ j=>Kb ?_)
  exact(j.rs0 (s:=0) 0 (bx1 h)).1
 refine Ka ?_
 refine j.zh 2 [(0,0),(5,1)] λ j=>?_
 have⟨v39,p39,h⟩:=bs h
 refine j.cNA 0 0 (FnS.any (Zo p39)) [1,4] [5] (λ j=>Kb ?_)
 have⟨v42,p42,h⟩:=bs h
 refine j.hdA 0 0 (Pb.fld owRunner.f2) [5] λ g41 A41 _ hA41 j=>?_
 refine j.zu 9 [(0,0),(5,1)] (λ j=>?_) (hs:=sV 7 (r:=by exact sw Z (xIa (g:=g41) Z kS77 T T Z (λ h=>hA41 h Z) p42)<|segV))
 refine j.sfA 0 0 (((Pb.fld owRunner.f2).row (.head _) Z (λ h=>hA41 h Z) p42).fld owGModR.f1) (tp Z) (tp Z) [1,4] [5] (λ j=>Kb ?_)
 refine j.hdA 0 0 (Pb.fld owRunner.f2) [5] λ g46 A46 _ hA46 j=>?_
 refine j.zu 9 [(0,0),(5,1)] (λ j=>?_) (hs:=sw Z (oM Z U)<|sw Z (xNc Z T)<|sw Z (xFa Z XN T)<|sw Z (xLc (sb:=0) (.head _) Z Z Z T Z)<|sw Z (oM Z T)<|sw Z (yM Spec.fld2 Z T)<|sw Z (yx Z T)<|sw Z (xIa (g:=g46) Z kS77 T T Z (λ h=>hA46 h Z) (atI_set p42))<|sw Z (xFa Z kF119_2 T)<|.nil)
 refine j.stF (sb:=0) 0 ((((((PV.root (x:=(⟨{ v39 with mods:=(v39.mods.set v3.2.toNat ({ v42 with kind:=v26.2.kind })) }⟩:Bx Runner))).box Z).fld owRunner.f2).row (.head _) Z (λ h=>hA46 h Z) (atI_set p42)).conv (upd':=λ z=>⟨{ v39 with mods:=(v39.mods.set v3.2.toNat z) }⟩) (λ _=>by simp only[List.set_set])).fld owGModR.f2) kT23 (tp Z) (tp Z) [1,4] [5] (λ _ j=>Kb ?_)
 refine za ?_
 have⟨o49,p49,k49⟩:=bs h
 refine wqj (λ a w=>∃ M1 Q W,Sx (Frm.chg w0 G) 78 M M1 [Q,oneB W] [(1,dt x1)] [(0,0,dnm oRun Q ⟨o49⟩ (.pointer (some ⟨b0,0,none⟩)) [])] a w) ?_ ?_
 ·refine j.zd [(0,0),(5,1)] p49 (λ j h=>?_) λ j h=>?_
  ·refine Ka ?_
   refine j.zh 5 [(0,0)] λ j=>?_
   have⟨v55,p55,h⟩:=bs h
   refine j.cNA 0 0 (zbe p55) [1,60,61] [] λ j=>?_
   have⟨v58,p58,h⟩:=bs h
   refine j.cNA 0 0 (FnS.any (hR.spec_runBody p58)) [1] [] (λ j=>Kb ?_)
   cases h
   exact fz
  cases h
  exact fz
 rintro _ _ ⟨_,Q,W,j⟩
 have h:=k49
 refine j.zd [(0,0)] h (λ j h=>?_) (λ j h=>?_) (hs:=sZ 3 (r:=by exact sc Z (xLf (sb:=0) (Pb.fld owRunner.f5) Z T Z)<|segZ))
 ·refine Ka ?_
  refine j.zh 2 [(0,0)] λ j=>?_
  have⟨v66,p66,h⟩:=bs h
  refine j.cNA 0 0 (FnS.any (Zo p66)) [] [] (λ j=>Kb ?_)
  exact(j.rs0 (s:=0) 0 (bx1 h)).1
 refine Ka ?_
 refine j.zh 2 [(0,0)] λ j=>?_
 have⟨v70,p70,h⟩:=bs h
 refine j.cNA 0 0 (FnS.any (Zo p70)) [] [] (λ j=>Kb ?_)
 exact(j.rs0 (s:=0) 0 (bx1 h)).2
def Xz(R:Rec)(x0:Runner)(x1:GCmd):Option (Runner×Int):=
Option.bind (α:=Runner⊕(Runner×Int)) (if cmpI .eql x1.kind 0 then((R.spec_importName ({ x0 with fin:=(0:Int) }) x1.name).bind λ v11=>
some (.inl v11.1))
else(if cmpI .eql x1.kind 1 then((QE R ({ x0 with fin:=(0:Int) }) x1.name).bind λ v18=>
some (.inl v18))
else(if cmpI .eql x1.kind 2 then((xo ({ x0 with fin:=(0:Int) }) x1.name).bind λ v25=>
if cmpI .lss v25.2 0 then(some (.inr (v25.1,(1:Int))))
else((atI v25.1.mods v25.2).bind λ v34=>
some (.inl ({ v25.1 with mods:=(v25.1.mods.set v25.2.toNat ({ v34 with cached:=false })) }))))
else(some (.inl ({ x0 with fin:=(0:Int) })))))) (Sum.elim (λ b4=>
some (b4,b4.fin)) some)
theorem zes(hR:R.ok){x1:GCmd}{r:Runner×Int}(h:Xz R x0 x1=some r):FnS prog 88 oRun ⟨x0⟩ [dt x1] ⟨r.1⟩ (.frz (dt r.2)):=by
 refine fnSB (fn:=f88) 0 1 func88 Z Z (λ M G w0 b0 _ j=>wqw ?_)
 refine j.zo [(0,0)] (λ j=>Ka ?_)
 refine j.zh 3 [(0,0)] λ j=>?_
 refine j.sfA 0 0 (Pb.fld owRunner.f5) (tp Z) cI [3] [] (λ j=>Kb ?_)
 refine za ?_
 have⟨o4,p4,k4⟩:=bs h
 refine wqj (λ a w=>∃ b4,o4=.inl b4/\(∃ M1 Q,Sx (Frm.chg w0 G) 42 M M1 [Q] [] [(0,0,dnm oRun Q ⟨b4⟩ (.pointer (some ⟨b0,0,none⟩)) [])] a w)) ?_ ?_
 ·refine j.zo [(0,0)] λ j=>?_
  refine j.zd [(0,0)] p4 (λ j h=>?_) λ j h=>?_
  ·refine Ka ?_
   refine j.zh 3 [(0,0)] λ j=>?_
   have⟨v11,p11,h⟩:=bs h
   refine j.cNA 0 0 (hR.spec_importName p11) [] [] (λ j=>Kb ?_)
   exact flz h
  refine j.zd [(0,0)] h (λ j h=>?_) λ j h=>?_
  ·refine Ka ?_
   refine j.zh 3 [(0,0)] λ j=>?_
   have⟨v18,p18,h⟩:=bs h
   refine j.cNA 0 0 (FnS.any (zdY hR p18)) [] [] (λ j=>Kb ?_)
   exact flz h
  refine j.zd [(0,0)] h (λ j h=>?_) λ j h=>?_
  ·refine Ka ?_
   refine j.zh 3 [(0,0)] λ j=>?_
   have⟨v25,p25,h⟩:=bs h
   refine j.cNA 0 0 (jd p25) [] [] λ j=>?_
   refine j.zh 1 [(0,0)] (λ j=>Kb ?_)
   refine j.zd [(0,0)] h (λ j h=>?_) λ j h=>?_
   ·refine j.zo [(0,0)] λ j=>?_
    have h:=jo h k4
    exact j.xF 0 0 h
   refine Ka ?_
   have⟨v34,p34,h⟩:=bs h
   refine j.hdA 0 0 (Pb.fld owRunner.f2) [] λ g33 A33 _ hA33 j=>?_
   refine j.zh 7 [(0,0)] (λ j=>?_) (hs:=sZ 5 (r:=by exact sc Z (xIa (g:=g33) Z kS77 T T Z (λ h=>hA33 h Z) p34)<|segZ))
   refine j.sfA 0 0 (((Pb.fld owRunner.f2).row (.head _) Z (λ h=>hA33 h Z) p34).fld owGModR.f3) (tp Z) cB [] [] (λ j=>Kb ?_)
   exact flz h
  exact flz h
 rintro _ _ ⟨b4,rfl,⟨_,Q,j⟩⟩
 have h:=jn k4
 refine j.zo [(0,0)] (λ j=>?_) (hs:=sZ 3 (r:=by exact sc Z (xLf (sb:=0) (Pb.fld owRunner.f5) Z T Z)<|segZ))
 exact j.xF 0 0 h
def YH(R:Rec)(x2:List Str)(s11:Runner×Int):Option ((Runner×Int)⊕Runner):=
if(cmpI .lss s11.2 (x2.length:Int))=true then((atI x2 s11.2).bind λ v17=>
(Xz R s11.1 (⟨(0:Int),v17⟩:GCmd)).bind λ v21=>
(i64 (s11.2+(1:Int))).bind λ v23=>
some (.inl (v21.1,v23)))
else(some (.inr s11.1))
def XP(R:Rec)(x0:Tree)(x1:List Int)(x2:List Str):Option Runner:=
(XO x0 x1 (120:Int)).bind λ v4=>
Option.bind (α:=Runner) (zP (λ s11=>YH R x2 s11) (v4,(0:Int))) λ o8=>
some o8
theorem zet(hR:R.ok){x0:Tree}{x1:List Int}{x2:List Str}(h:XP R x0 x1 x2=some r):FnN prog 51 [dt x0,dt x1,dt x2] (.ow oRun ⟨r⟩):=by
 refine fnN (fn:=f51) 1 func51 Z Z (λ M w0 _ j=>wqw ?_)
 refine j.rg2 (sZ 1 (r:=by exact sc Z (oA Z JR)<|.nil)) [1,2,3] (λ _ _ j=>Ka ?_)
 refine j.segA 2 [2,9,10] [] λ j=>?_
 have⟨v4,p4,h⟩:=bs h
 refine j.cN (l:=[.tmp 9,.tmp 10,.const (.int .i64 120)]) 0 (.cons T (.cons T (.cons cI .nil))) (zda p4) [2] [] λ _ _ _ _ j=>?_
 refine j.nmB (s:=11) 0 [] λ b6 j=>?_
 refine j.segA 1 [2] [(7,0)] (λ j=>Kb ?_)
 refine za ?_
 have⟨o8,p8,k8⟩:=bs h
 refine wqj (λ a w=>∃ M1 Q,Sx (Frm.of w0) 26 M M1 [Q] [] [(7,0,dow oRun Q ⟨o8⟩)] a w) ?_ ?_
 ·refine j.rgA [2,8] [(7,0)] λ j=>?_
  have j:=j.unm (s:=7) 0 []
  refine wql p8 (λ s11 a w=>∃ M1 Q,Sx (Frm.of w0) 26 M M1 [Q] [(2,dt x2),(8,dt s11.2)] [(7,0,dow oRun Q ⟨s11.1⟩)] a w) fx ?_
  rintro s11 z11 _ _ ⟨_,Q,j⟩ hs11 hx11
  have h:YH R x2 s11=some z11:=hs11
  unfold YH at h
  refine j.rgA [2,8,15] [(7,0)] λ j=>?_
  refine j.cq h (λ h=>?_) λ h=>?_
  ·refine Ka ?_
   have⟨v17,p17,h⟩:=bs h
   refine j.nmB (s:=7) 0 [] λ b16 j=>?_
   refine j.segB 6 (sc Z (oM Z T)<|
     sc Z (oM Z T)<|
     sc Z (oM Z T)<|
     sc Z (xIdx Z T T p17)<|
     sc Z (zz Z T)<|
     sc Z (kD125_0_1 Z cI T)<|.nil) [2,8,23] [(7,0),(18,0)] (λ j=>?_)
   have⟨v21,p21,h⟩:=bs h
   refine j.cSF (l:=[.tmp 23]) 0 (j.bkN (s:=7)) Z Z kN88 ((j.st.has 18 _ Z).1.trans (j.st.has 7 _ Z).1.symm) (by simp) (.cons T .nil) (zes hR p21) [2,8] Z [] Z Z (by decide) (λ j=>Kb ?_)
   have⟨v23,p23,h⟩:=bs h
   refine j.rgA [2,8] [(7,0)] λ j=>?_
   have j:=j.unm (s:=7) 0 []
   exact flz h
  have h:=lo h hx11
  cases h
  exact fz
 rintro _ _ ⟨_,Q,j⟩
 have h:=k8
 refine j.nmB (s:=7) 0 [] λ b29 j=>?_
 refine j.rgA [] [(6,0)] λ j=>?_
 have j:=j.unm (s:=6) 0 []
 exact j.rnO 0 (bx1 h)
def wH(_R:Rec)(v13:Runner)(s18:(List Str)×Int):Option (((List Str)×Int)⊕(List Str)):=
if(cmpI .lss s18.2 (v13.log.length:Int))=true then(Option.bind (α:=(List Str)) ((atI v13.log s18.2).bind λ v24=>
if cmpI .eql v24.kind 1 then((atI v13.log s18.2).bind λ v29=>
(appO 16 s18.1 ([v29.name]:List Str)).bind λ v34=>
some v34)
else(some s18.1)) λ o23=>
(i64 (s18.2+(1:Int))).bind λ v38=>
some (.inl (o23,v38)))
else(some (.inr s18.1))
def Zk(R:Rec)(x0:Tree)(x1:List Int)(x2:Str):Option (List Str):=
(xP x0).bind λ v2=>
(gO ((!v2) == false) (xh x1)).bind λ v3=>
(gO (((!v2)||(!v3)) == false) (yL x2)).bind λ v4=>
if(((!v2)||(!v3))||(!v4))=true then(some [])
else((XP R x0 x1 ([x2]:List Str)).bind λ v13=>
Option.bind (α:=(List Str)) (zP (λ s18=>wH R v13 s18) ([],(0:Int))) λ o16=>
some o16)
theorem zdb(hR:R.ok){x0:Tree}{x1:List Int}{x2:Str}{r:List Str}(h:Zk R x0 x1 x2=some r):FnOwn prog 52 [dt x0,dt x1,dt x2] 9 r:=by
 refine fqO 1 func52 λ M w0 _ j=>?_
 refine j.z1 (λ j=>?_) (hs:=sZ 1 (r:=by exact sc Z (oA Z (jy (α:=Str) (e:=9)))<|.nil))
 have⟨v2,p2,v3,p3,h⟩:=Kg h
 have⟨v4,p4,h⟩:=bs h
 refine j.zc h (λ j h=>?_) (λ j h=>?_) (hs:=sZ 1 (r:=by exact sc Z (oK (XL p2))<|sZ 3 (r:=by exact sg Z Z (λ hg=>oK (XM (gh hg p3)))<|sZ 4 (r:=by exact sg Z Z (λ hg=>oK (Yo (gh hg p4)))<|segZ))))
 ·exact j.zl 0 h (hs:=sc Z (oA Z (jy (α:=Str) (e:=9)))<|.nil)
 refine j.zo [(7,0)] (λ j=>?_) (hs:=sc Z (wA (α:=Str) (e:=9) Z)<|segZ)
 have⟨v13,p13,h⟩:=bs h
 refine j.zo [(7,0)] (λ j=>?_) (hs:=sZ 4 (r:=by exact sc Z (OpRel.bx (zA (l:=[.tmp 24,.tmp 25,.tmp 27]) Z (.cons T (.cons T (.cons T .nil))) (FnN.fn<|zet hR p13)))<|segZ))
 refine za ?_
 refine j.jmq 1 [] (λ _=>[]) (λ o16 q=>[(7,0,dtip (q 0) 9 o16)]) h (λ o16 p16=>?_) λ o16 q16 _ _ _ j h=>?_
 ·refine j.zo [(7,0)] λ j=>?_
  refine wql p16 (λ s18 a w=>∃ M1 Q,Sx (Frm.of w0) 59 M M1 [oneB Q] [(8,dptr v13),(9,dt s18.2)] [(7,0,dtip Q 9 s18.1)] a w) fx ?_
  rintro s18 z18 _ _ ⟨_,Q,j⟩ hs18 hx18
  have h:wH R v13 s18=some z18:=hs18
  unfold wH at h
  refine j.zd [(7,0)] h (λ j h=>?_) λ j h=>?_
  ·refine wqk ?_
   refine za ?_
   refine j.jmq 1 [8,9] (λ _=>[]) (λ o23 q=>[(7,0,dtip (q 0) 9 o23)]) h (λ o23 p23=>?_) λ o23 q23 _ _ _ j h=>?_
   ·have⟨v24,p24,h⟩:=bs p23
    refine j.zd [(7,0)] h (λ j h=>?_) λ j h=>?_
    ·refine Ka ?_
     have⟨v29,p29,h⟩:=bs h
     refine j.zh 10 [(7,0),(47,0)] λ j=>?_
     have⟨v34,p34,h⟩:=bs h
     refine j.apA 0 xv p34 [8,9] [] λ g33 j=>?_
     refine j.zh 1 [(7,0)] (λ j=>Kb ?_)
     cases h
     exact fz
    cases h
    exact fz
   have⟨v38,p38,h⟩:=bs h
   exact j.zn [(7,0)] h
  have h:=lo h hx18
  cases h
  exact fz
 exact j.zl 0 h
end Go.Proofs.YtifgdhfcoaognaaGreatDoor
