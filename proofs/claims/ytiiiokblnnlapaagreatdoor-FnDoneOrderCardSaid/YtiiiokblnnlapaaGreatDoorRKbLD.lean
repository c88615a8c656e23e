/-
  Models of functions, and their walks: printed by a program of our own (wip/mxo.py).
  Models of functions, and their walks: printed by a program of our own (wip/mxo.py).
-/
import Derived.Test.YtiiiokblnnlapaaGreatDoorRBLD
import Derived.Test.YtiiiokblnnlapaaGreatDoorRNLD
import Derived.Test.YtiiiokblnnlapaaGreatDoorRCLD
import Derived.Test.YtiiiokblnnlapaaGreatDoorRGLD
import Derived.Test.YtiiiokblnnlapaaGreatDoorROLD
namespace Go.Proofs.YtiiiokblnnlapaaGreatDoor
open Go.RowKit
attribute [local irreducible] OpRel OpdR
set_option maxRecDepth 10000
set_option maxHeartbeats 1600000
theorem kL36:isSl Tryz.prog 36=true:=by kernel_rfl
theorem kS36:slB Tryz.prog 36 1=true:=by kernel_rfl
theorem kB166:bldB Tryz.prog 166 [1,1]=true:=by kernel_rfl
theorem kC166:jU Tryz.prog 166 [1,1]=some zpReader:=by kernel_rfl
theorem kF166_1:fldB Tryz.prog 166 1 1=true:=by kernel_rfl
theorem YW:fldB Tryz.prog 166 0 0=true:=by kernel_rfl
theorem kT36:tyB Tryz.prog 36 false 1=true:=by kernel_rfl
theorem kT5:tyB Tryz.prog 5 false 1=true:=by kernel_rfl
theorem kCv5_3:cvI Tryz.prog 5 3=true:=by kernel_rfl
theorem Zo:fnB Tryz.prog 148=true:=by kernel_rfl
theorem kN195:fnB Tryz.prog 195=true:=by kernel_rfl
theorem WQ:fnB Tryz.prog 227=true:=by kernel_rfl
theorem kN158:fnB Tryz.prog 158=true:=by kernel_rfl
theorem kN194:fnB Tryz.prog 194=true:=by kernel_rfl
def jQ(x0:List UInt8):Option Reader:=
Option.bind (α:=(List UInt8)) (if(cmpI .gtr (x0.length:Int) (2000:Int))=true then((WH x0 (2000:Int)).bind λ v6=>
some v6)
else(some x0)) λ o2=>
some (⟨o2,0⟩:Reader)
theorem Qh{x0:List UInt8}{r:Reader}(h:jQ x0=some r):FnN Tryz.prog 81 [dt x0] (.ow (Ow.box (Ow.frz (α:=Reader))) ⟨r⟩):=by
 unfold jQ at h
 refine fnN (fn:=Tryz.f81) 2 Tryz.func81 rfl (of_decide_eq_true rfl) rfl (λ M w0 _ st0=>?_)
 refine st0.sq2 (sc rfl (oA rfl Xl)<|.nil) [0] (λ _ _ st1=>?_)
 obtain⟨o2,p2,k2⟩:=bs h
 refine zo (λ a w=>∃ M1 q2_0 q2_1,Sx (Frm.of w0) 11 M M1 [q2_0,q2_1] [(0,dt o2)] [] a w) ?_ ?_
 ·
  refine st1.sq1 [0,5] (λ _ _ st3=>?_)
  refine st3.cs rfl p2 (λ _ h4=>?_) (λ _ h5=>?_)
  ·
   obtain⟨v6,p6,h7⟩:=bs h4
   refine st3.rg2 (sc rfl (oM rfl (tp rfl))<|sc rfl (xSliH rfl kS36 (tp rfl) cI p6)<|sc rfl (oA rfl (tp rfl))<|.nil) [0] (λ _ _ st8=>?_)
   refine za ?_
   obtain rfl:=Option.some.inj h7
   exact⟨_,_,_,st8.sel [0] rfl [] rfl trivial⟩
  refine wp_skip (za ?_)
  obtain rfl:=Option.some.inj h5
  exact⟨_,_,_,st3.sel [0] rfl [] rfl trivial⟩
 rintro a2 w2 ⟨M2,q2_0,q2_1,st2⟩
 have h9:=k2
 refine wp_seq (wp_region_list ?_)
 refine st2.segB 2 (sc rfl (oM rfl (tp rfl))<|sc rfl (zV (parts:=[(0,.tmp 8)]) (ns:=[1,1]) (zs:=zpReader) rfl rfl kB166 kC166 (λ w a hl=>by
 intro p hp;simp only[List.mem_cons,List.not_mem_nil,or_false] at hp
 rcases hp with rfl
 ·
  exact⟨by decide,Rep.len (α:=List UInt8) (OpdR.cells (tp rfl) hl)⟩) (λ w a hl=>Reader.parts (x:=(⟨o2,0⟩:Reader)) (OpdR.cells (tp rfl) hl) ⟨rfl,trivial⟩))<|.nil) [9] [] (λ _ _ st10=>?_)
 refine st10.boxZ 0 rfl rfl (tp rfl) (by simp) [] rfl [] rfl rfl (λ b11 M11 _ _ st11=>?_)
 refine st11.segA 1 [] [(2,0)] (λ _ _ st12=>?_)
 refine wpList_nil (za (wp_ret ?_))
 have st13:=st12.unm (s:=2) 0 rfl rfl iI [] rfl
 exact st13.rnO 0 rfl rfl iI (bx1 h9)
def zD(x0:Reader)(x1:Int):Option (Reader×Int):=
(i64 (x0.p+(1:Int))).bind λ v2=>
if(cmpI .lss x1 (1:Int)||cmpI .eql (x0.b.length:Int) (0:Int))=true then(some ({ x0 with p:=v2 },(0:Int)))
else((i64 (v2 - (1:Int))).bind λ v10=>
if(cmpI .lss v10 (x0.b.length:Int))=true then((atI x0.b v10).bind λ v16=>
(modO (v16.toNat:Int) x1).bind λ v17=>
some ({ x0 with p:=v2 },v17))
else((modO v10 (x0.b.length:Int)).bind λ v21=>
(atI x0.b v21).bind λ v22=>
(i64 ((v22.toNat:Int)*(131:Int))).bind λ v23=>
(i64 (v10*(7:Int))).bind λ v24=>
(i64 (v24+(3:Int))).bind λ v25=>
(modO v25 (x0.b.length:Int)).bind λ v26=>
(atI x0.b v26).bind λ v27=>
(i64 ((v27.toNat:Int)*(1117:Int))).bind λ v28=>
(i64 (v23+v28)).bind λ v29=>
(i64 (v10*(29:Int))).bind λ v30=>
(i64 (v29+v30)).bind λ v31=>
(divO v10 (x0.b.length:Int)).bind λ v32=>
(i64 (v32*(53:Int))).bind λ v33=>
(i64 (v31+v33)).bind λ v34=>
(divO v34 (64:Int)).bind λ v50=>
(modO (xorI v34 v50) x1).bind λ v53=>
some ({ x0 with p:=v2 },v53)))
theorem zH{x0:Reader}{x1:Int}{r:Reader×Int}(h:zD x0 x1=some r):FnS Tryz.prog 148 (Ow.box (Ow.frz (α:=Reader))) ⟨x0⟩ [dt x1] ⟨r.1⟩ (.frz (dt r.2)):=by
 unfold zD at h
 refine fnSB (fn:=Tryz.f148) 0 1 Tryz.func148 rfl (of_decide_eq_true rfl) rfl (λ M G _ b0 _ st0=>?_)
 refine st0.sqA [1] [(0,0)] (λ _ _ st1=>?_)
 refine wp_seq (wp_region_list ?_)
 obtain⟨v2,p2,h3⟩:=bs h
 refine st1.segB 8 (sc rfl (oM rfl (zg rfl))<|sc rfl (oM rfl (zg rfl))<|sc rfl (xNc rfl (tp rfl))<|sc rfl (xFa rfl kF166_1 (tp rfl))<|sc rfl (xLf (sb:=0) ((PV.root.box rfl).fld Reader.z1) rfl kT3 (tp rfl) rfl)<|sc rfl (xAr rfl (tp rfl) cI p2)<|sc rfl (xNc rfl (tp rfl))<|sc rfl (xFa rfl kF166_1 (tp rfl))<|.nil) [1,12,14] [(0,0)] (λ _ _ st4=>?_)
 refine st4.stF (sb:=0) 0 ((PV.root.box rfl).fld Reader.z1) rfl rfl rfl kT3 (by simp) (tp rfl) (tp rfl) rfl rfl iI [1] rfl [] rfl rfl (λ _ st5=>?_)
 refine wpList_nil (za (wp_seq ?_))
 refine st5.sqB (sc rfl (oM rfl (tp rfl))<|sc rfl (oCI rfl (tp rfl) cI)<|sc rfl (oM rfl (tp rfl))<|sg rfl rfl (λ hg=>oM rfl (zg rfl))<|sg rfl rfl (λ hg=>xNc rfl (zf hg rfl))<|sg rfl rfl (λ hg=>xFa rfl YW (zf hg rfl))<|sg rfl rfl (λ hg=>xLf (sb:=0) ((PV.root.box rfl).fld Reader.z0) rfl kT36 (zf hg rfl) rfl)<|sg rfl rfl (λ hg=>wz rfl kL36 (zf hg rfl))<|sg rfl rfl (λ hg=>oCI rfl (zf hg rfl) cI)<|sc rfl (xv rfl (tp rfl) (zb rfl))<|.nil) [1,24] [(0,0)] (λ _ _ st6=>?_)
 refine st6.cs rfl h3 (λ _ h7=>?_) (λ _ h8=>?_)
 ·
  refine st6.sqA [4] [(0,0)] (λ _ _ st9=>?_)
  refine wp_ret (zd ?_)
  exact st9.rsF (s:=0) 0 rfl rfl rfl iI (bxr h7) yb
 refine wp_skip (za ?_)
 obtain⟨v10,p10,h11⟩:=bs h8
 refine st6.sqB (sc rfl (oM rfl (zg rfl))<|sc rfl (xNc rfl (tp rfl))<|sc rfl (xFa rfl kF166_1 (tp rfl))<|sc rfl (xLf (sb:=0) ((PV.root.box rfl).fld Reader.z1) rfl kT3 (tp rfl) rfl)<|sc rfl (xAr rfl (tp rfl) cI p10)<|sc rfl (oA rfl (tp rfl))<|.nil) [1,5] [(0,0)] (λ _ _ st12=>?_)
 refine wp_seq ?_
 refine st12.sqB (sc rfl (oM rfl (tp rfl))<|sc rfl (oM rfl (zg rfl))<|sc rfl (xNc rfl (tp rfl))<|sc rfl (xFa rfl YW (tp rfl))<|sc rfl (xLf (sb:=0) ((PV.root.box rfl).fld Reader.z0) rfl kT36 (tp rfl) rfl)<|sc rfl (wz rfl kL36 (tp rfl))<|sc rfl (oCI rfl (tp rfl) (tp rfl))<|.nil) [1,5,36] [(0,0)] (λ _ _ st13=>?_)
 refine st13.cs rfl h11 (λ _ h14=>?_) (λ _ h15=>?_)
 ·
  obtain⟨v16,p16,h18⟩:=bs h14
  obtain⟨v17,p17,h19⟩:=bs h18
  refine st13.sqB (sc rfl (oM rfl (zg rfl))<|sc rfl (xNc rfl (tp rfl))<|sc rfl (xFa rfl YW (tp rfl))<|sc rfl (xLf (sb:=0) ((PV.root.box rfl).fld Reader.z0) rfl kT36 (tp rfl) rfl)<|sc rfl (oM rfl (tp rfl))<|sc rfl (xIdx rfl kS36 (tp rfl) (tp rfl) p16)<|sc rfl (ze rfl kT5 (tp rfl))<|sc rfl (xCvI rfl kCv5_3 (tp rfl))<|sc rfl (oM rfl (tp rfl))<|sc rfl (xMod rfl (tp rfl) (tp rfl) p17)<|sc rfl (oA rfl (tp rfl))<|.nil) [4] [(0,0)] (λ _ _ st20=>?_)
  refine wp_ret (zd ?_)
  exact st20.rsF (s:=0) 0 rfl rfl rfl iI (bxr h19) yb
 refine wp_skip (za (wp_seq ?_))
 obtain⟨v21,p21,h35⟩:=bs h15
 obtain⟨v22,p22,h36⟩:=bs h35
 obtain⟨v23,p23,h37⟩:=bs h36
 obtain⟨v24,p24,h38⟩:=bs h37
 obtain⟨v25,p25,h39⟩:=bs h38
 obtain⟨v26,p26,h40⟩:=bs h39
 obtain⟨v27,p27,h41⟩:=bs h40
 obtain⟨v28,p28,h42⟩:=bs h41
 obtain⟨v29,p29,h43⟩:=bs h42
 obtain⟨v30,p30,h44⟩:=bs h43
 obtain⟨v31,p31,h45⟩:=bs h44
 obtain⟨v32,p32,h46⟩:=bs h45
 obtain⟨v33,p33,h47⟩:=bs h46
 obtain⟨v34,p34,h48⟩:=bs h47
 refine st13.dr (D:=[_,_,_,_,_,_,_,_,_,_,_,_,_,_,_,_,_,_,_,_,_,_,_,_,_,_,_,_,_,_,_,_,_,_,_,_,_,_,_,_,_,_,_,_,_,_]) zK [[],[0],[0,1],[0,1,2],[],[],[5],[5,6],[5,6,7],[5,6,7,8],[4,5,6,7,8,9],[0,1,2,3,4,5,6,7,8,9,10],[0,1,2,3,4,5,6,7,8,9,10,11],[0,1,2,3,4,5,6,7,8,9,10,11,12],[0,1,2,3,4,5,6,7,8,9,10,11,12,13],[],[15],[15,16],[15,16,17],[],[19],[19,20],[],[22],[22,23],[22,23,24],[22,23,24,25],[19,20,21,22,23,24,25,26],[15,16,17,18,19,20,21,22,23,24,25,26,27],[15,16,17,18,19,20,21,22,23,24,25,26,27,28],[15,16,17,18,19,20,21,22,23,24,25,26,27,28,29],[15,16,17,18,19,20,21,22,23,24,25,26,27,28,29,30],[0,1,2,3,4,5,6,7,8,9,10,11,12,13,14,15,16,17,18,19,20,21,22,23,24,25,26,27,28,29,30,31],[],[33],[0,1,2,3,4,5,6,7,8,9,10,11,12,13,14,15,16,17,18,19,20,21,22,23,24,25,26,27,28,29,30,31,32,33,34],[],[],[37],[37,38],[37,38,39],[37,38,39,40],[36,37,38,39,40,41],[36,37,38,39,40,41,42],[0,1,2,3,4,5,6,7,8,9,10,11,12,13,14,15,16,17,18,19,20,21,22,23,24,25,26,27,28,29,30,31,32,33,34,35,36,37,38,39,40,41,42,43],[0,1,2,3,4,5,6,7,8,9,10,11,12,13,14,15,16,17,18,19,20,21,22,23,24,25,26,27,28,29,30,31,32,33,34,35,36,37,38,39,40,41,42,43,44]] [[(0,none)],[(47,some 0)],[(48,some 1)],[(49,some 2),(0,none)],[(5,none)],[(0,none)],[(52,some 5)],[(53,some 6)],[(54,some 7),(0,none)],[(55,some 8)],[(51,some 4),(56,some 9)],[(50,some 3),(57,some 10)],[(58,some 11)],[(59,some 12)],[(60,some 13)],[(0,none)],[(62,some 15)],[(63,some 16)],[(64,some 17),(0,none)],[(5,none)],[(66,some 19)],[(67,some 20)],[(0,none)],[(69,some 22)],[(70,some 23)],[(71,some 24),(0,none)],[(72,some 25)],[(68,some 21),(73,some 26)],[(65,some 18),(74,some 27)],[(75,some 28)],[(76,some 29)],[(77,some 30)],[(61,some 14),(78,some 31)],[(5,none)],[(80,some 33)],[(79,some 32),(81,some 34)],[(5,none)],[(0,none)],[(84,some 37)],[(85,some 38)],[(86,some 39),(0,none)],[(87,some 40)],[(83,some 36),(88,some 41)],[(89,some 42)],[(82,some 35),(90,some 43)],[(91,some 44)]] (by decide +kernel) (
  rc rfl rfl (oM rfl (zg rfl))<|rc rfl rfl (xNc rfl (tp rfl))<|rc rfl rfl (xFa rfl YW (tp rfl))<|rc rfl rfl (xLf (sb:=0) ((PV.root.box rfl).fld Reader.z0) rfl kT36 (tp rfl) rfl)<|rc rfl rfl (oM rfl (tp rfl))<|rc rfl rfl (oM rfl (zg rfl))<|rc rfl rfl (xNc rfl (tp rfl))<|rc rfl rfl (xFa rfl YW (tp rfl))<|rc rfl rfl (xLf (sb:=0) ((PV.root.box rfl).fld Reader.z0) rfl kT36 (tp rfl) rfl)<|rc rfl rfl (wz rfl kL36 (tp rfl))<|rc rfl rfl (xMod rfl (tp rfl) (tp rfl) p21)<|rc rfl rfl (xIdx rfl kS36 (tp rfl) (tp rfl) p22)<|rc rfl rfl (ze rfl kT5 (tp rfl))<|rc rfl rfl (xCvI rfl kCv5_3 (tp rfl))<|rc rfl rfl (xAr rfl (tp rfl) cI p23)<|rc rfl rfl (oM rfl (zg rfl))<|rc rfl rfl (xNc rfl (tp rfl))<|rc rfl rfl (xFa rfl YW (tp rfl))<|rc rfl rfl (xLf (sb:=0) ((PV.root.box rfl).fld Reader.z0) rfl kT36 (tp rfl) rfl)<|rc rfl rfl (oM rfl (tp rfl))<|rc rfl rfl (xAr rfl (tp rfl) cI p24)<|rc rfl rfl (xAr rfl (tp rfl) cI p25)<|rc rfl rfl (oM rfl (zg rfl))<|rc rfl rfl (xNc rfl (tp rfl))<|rc rfl rfl (xFa rfl YW (tp rfl))<|rc rfl rfl (xLf (sb:=0) ((PV.root.box rfl).fld Reader.z0) rfl kT36 (tp rfl) rfl)<|rc rfl rfl (wz rfl kL36 (tp rfl))<|rc rfl rfl (xMod rfl (tp rfl) (tp rfl) p26)<|rc rfl rfl (xIdx rfl kS36 (tp rfl) (tp rfl) p27)<|rc rfl rfl (ze rfl kT5 (tp rfl))<|rc rfl rfl (xCvI rfl kCv5_3 (tp rfl))<|rc rfl rfl (xAr rfl (tp rfl) cI p28)<|rc rfl rfl (xAr rfl (tp rfl) (tp rfl) p29)<|rc rfl rfl (oM rfl (tp rfl))<|rc rfl rfl (xAr rfl (tp rfl) cI p30)<|rc rfl rfl (xAr rfl (tp rfl) (tp rfl) p31)<|rc rfl rfl (oM rfl (tp rfl))<|rc rfl rfl (oM rfl (zg rfl))<|rc rfl rfl (xNc rfl (tp rfl))<|rc rfl rfl (xFa rfl YW (tp rfl))<|rc rfl rfl (xLf (sb:=0) ((PV.root.box rfl).fld Reader.z0) rfl kT36 (tp rfl) rfl)<|rc rfl rfl (wz rfl kL36 (tp rfl))<|rc rfl rfl (xDiv rfl (tp rfl) (tp rfl) p32)<|rc rfl rfl (xAr rfl (tp rfl) cI p33)<|rc rfl rfl (xAr rfl (tp rfl) (tp rfl) p34)<|rc rfl rfl (oA rfl (tp rfl))<|.nil) [1,6] rfl [(0,0)] rfl iT (λ _ _ st49=>?_)
 refine za ?_
 obtain⟨v50,p50,h51⟩:=bs h48
 refine st49.sqB (sc rfl (oM rfl (tp rfl))<|sc rfl (oM rfl (tp rfl))<|sc rfl (xDiv rfl (tp rfl) cI p50)<|sc rfl (xXor rfl (tp rfl) (tp rfl))<|sc rfl (oA rfl (tp rfl))<|.nil) [1,6] [(0,0)] (λ _ _ st52=>?_)
 obtain⟨v53,p53,h54⟩:=bs h51
 refine st52.sqB (sc rfl (oM rfl (tp rfl))<|sc rfl (oM rfl (tp rfl))<|sc rfl (xMod rfl (tp rfl) (tp rfl) p53)<|sc rfl (oA rfl (tp rfl))<|.nil) [4] [(0,0)] (λ _ _ st55=>?_)
 refine wp_ret ?_
 exact st55.rsF (s:=0) 0 rfl rfl rfl iI (bxr h54) yb
def yq(x0:Reader)(x1:List Int):Option (Reader×Int):=
(zD x0 (x1.length:Int)).bind λ v4=>
(atI x1 v4.2).bind λ v6=>
some (v4.1,v6)
theorem xC{x0:Reader}{x1:List Int}{r:Reader×Int}(h:yq x0 x1=some r):FnS Tryz.prog 158 (Ow.box (Ow.frz (α:=Reader))) ⟨x0⟩ [dt x1] ⟨r.1⟩ (.frz (dt r.2)):=by
 unfold yq at h
 refine fnSB (fn:=Tryz.f158) 0 1 Tryz.func158 rfl (of_decide_eq_true rfl) rfl (λ M G _ b0 _ st0=>?_)
 refine st0.sqA [1] [(0,0)] (λ _ _ st1=>?_)
 refine wp_seq (wp_region_list ?_)
 refine st1.segB 4 (sc rfl (oM rfl (tp rfl))<|sc rfl (oM rfl (zg rfl))<|sc rfl (oM rfl (tp rfl))<|sc rfl (wz rfl kL25 (tp rfl))<|.nil) [5,6,8] [(0,0)] (λ _ _ st2=>?_)
 obtain⟨v4,p4,h5⟩:=bs h
 refine st2.cSF (l:=[.tmp 8]) 0 (st2.bkN (s:=0) rfl iI) rfl rfl Zo (Eq.trans (st2.st.has 6 _ rfl) (st2.st.has 0 _ rfl).1.symm) (by simp) (.cons (tp rfl) .nil) (zH p4) [5] rfl [] rfl rfl (by decide) (λ G3 M3 _ _ st3=>?_)
 obtain⟨v6,p6,h7⟩:=bs h5
 refine st3.segA 3 [4] [(0,0)] (λ _ _ st8=>?_)
 refine wpList_nil (za (wp_ret ?_))
 exact st8.rsF (s:=0) 0 rfl rfl rfl iI (bxr h7) yb
def xq(x0:Reader)(x1:List Str):Option (Reader×Str):=
(zD x0 (x1.length:Int)).bind λ v4=>
(atI x1 v4.2).bind λ v6=>
some (v4.1,v6)
theorem qL{x0:Reader}{x1:List Str}{r:Reader×Str}(h:xq x0 x1=some r):FnS Tryz.prog 195 (Ow.box (Ow.frz (α:=Reader))) ⟨x0⟩ [dt x1] ⟨r.1⟩ (.frz (dt r.2)):=by
 unfold xq at h
 refine fnSB (fn:=Tryz.f195) 0 1 Tryz.func195 rfl (of_decide_eq_true rfl) rfl (λ M G _ b0 _ st0=>?_)
 refine st0.sqA [1] [(0,0)] (λ _ _ st1=>?_)
 refine wp_seq (wp_region_list ?_)
 refine st1.segB 4 (sc rfl (oM rfl (tp rfl))<|sc rfl (oM rfl (zg rfl))<|sc rfl (oM rfl (tp rfl))<|sc rfl (wz rfl kL39 (tp rfl))<|.nil) [5,6,8] [(0,0)] (λ _ _ st2=>?_)
 obtain⟨v4,p4,h5⟩:=bs h
 refine st2.cSF (l:=[.tmp 8]) 0 (st2.bkN (s:=0) rfl iI) rfl rfl Zo (Eq.trans (st2.st.has 6 _ rfl) (st2.st.has 0 _ rfl).1.symm) (by simp) (.cons (tp rfl) .nil) (zH p4) [5] rfl [] rfl rfl (by decide) (λ G3 M3 _ _ st3=>?_)
 obtain⟨v6,p6,h7⟩:=bs h5
 refine st3.segA 3 [4] [(0,0)] (λ _ _ st8=>?_)
 refine wpList_nil (za (wp_ret ?_))
 exact st8.rsF (s:=0) 0 rfl rfl rfl iI (bxr h7) ZZ
def yJ(x0:Reader):Option (Reader×Str):=
(xq x0 ([(⟨[97]⟩:Str),(⟨[98]⟩:Str),(⟨[99]⟩:Str),(⟨[97]⟩:Str),(⟨[98]⟩:Str)]:List Str)).bind λ v4=>
some (v4.1,v4.2)
theorem xY{x0:Reader}{r:Reader×Str}(h:yJ x0=some r):FnS Tryz.prog 227 (Ow.box (Ow.frz (α:=Reader))) ⟨x0⟩ [] ⟨r.1⟩ (.frz (dt r.2)):=by
 unfold yJ at h
 refine fnSB (fn:=Tryz.f227) 0 1 Tryz.func227 rfl (of_decide_eq_true rfl) rfl (λ M G _ b0 _ st0=>?_)
 refine st0.sqA [] [(0,0)] (λ _ _ st1=>?_)
 refine wp_seq (wp_region_list ?_)
 refine st1.segB 2 (sc rfl (oM rfl (zg rfl))<|sc rfl (yc (opds:=[_,_,_,_,_]) rfl kS39 kY39 rfl rfl (by decide) (.cons (zI (by decide)) (.cons (zI (by decide)) (.cons (zI (by decide)) (.cons (zI (by decide)) (.cons (zI (by decide)) .nil))))))<|.nil) [3,4] [(0,0)] (λ _ _ st2=>?_)
 obtain⟨v4,p4,h5⟩:=bs h
 refine st2.cSF (l:=[.tmp 4]) 0 (st2.bkN (s:=0) rfl iI) rfl rfl kN195 (Eq.trans (st2.st.has 3 _ rfl) (st2.st.has 0 _ rfl).1.symm) (by simp) (.cons (tp rfl) .nil) (qL p4) [] rfl [] rfl rfl (by decide) (λ G3 M3 _ _ st3=>?_)
 refine st3.segA 1 [2] [(0,0)] (λ _ _ st6=>?_)
 refine wpList_nil (za (wp_ret ?_))
 exact st6.rsF (s:=0) 0 rfl rfl rfl iI (bxr h5) ZZ
def j8(s13:Reader×Str×Int):Option ((Reader×Str×Int)⊕(Reader×Str)):=
if(cmpI .gtr s13.2.2 (0:Int))=true then((catO s13.2.1 (⟨[46]⟩:Str)).bind λ v18=>
(yJ s13.1).bind λ v22=>
(catO v18 v22.2).bind λ v24=>
(i64 (s13.2.2 - (1:Int))).bind λ v27=>
some (.inl (v22.1,v24,v27)))
else(some (.inr (s13.1,s13.2.1)))
def jy(x0:Reader):Option (Reader×Str):=
(yJ x0).bind λ v4=>
Option.bind (α:=Reader×Str) ((yq v4.1 ([(0:Int),(1:Int),(0:Int),(1:Int),(2:Int)]:List Int)).bind λ v10=>
zX (λ s13=>j8 s13) (v10.1,v4.2,v10.2)) λ o7=>
some (o7.1,o7.2)
theorem Yh{x0:Reader}{r:Reader×Str}(h:jy x0=some r):FnS Tryz.prog 194 (Ow.box (Ow.frz (α:=Reader))) ⟨x0⟩ [] ⟨r.1⟩ (.frz (dt r.2)):=by
 unfold jy at h
 refine fnSB (fn:=Tryz.f194) 0 1 Tryz.func194 rfl (of_decide_eq_true rfl) rfl (λ M G w0 b0 _ st0=>?_)
 refine st0.sqA [] [(0,0)] (λ _ _ st1=>?_)
 refine wp_seq (wp_region_list ?_)
 refine st1.segB 1 (sc rfl (oM rfl (zg rfl))<|.nil) [5] [(0,0)] (λ _ _ st2=>?_)
 obtain⟨v4,p4,h5⟩:=bs h
 refine st2.cSF (l:=[]) 0 (st2.bkN (s:=0) rfl iI) rfl rfl WQ (Eq.trans (st2.st.has 5 _ rfl) (st2.st.has 0 _ rfl).1.symm) (by simp) .nil (xY p4) [] rfl [] rfl rfl (by decide) (λ G3 M3 _ _ st3=>?_)
 refine st3.segA 1 [3] [(0,0)] (λ _ _ st6=>?_)
 refine wpList_nil (za ?_)
 obtain⟨o7,p7,k7⟩:=bs h5
 refine zo (λ a w=>∃ M1 q7_0,Sx (Frm.chg w0 G) 20 M M1 [q7_0] [(3,dt o7.2)] [(0,0,dnm (Ow.box (Ow.frz (α:=Reader))) q7_0 ⟨o7.1⟩ (.pointer (some ⟨b0,0,none⟩)) [])] a w) ?_ ?_
 ·
  refine wp_seq (wp_region_list ?_)
  refine st6.segB 2 (sc rfl (oM rfl (zg rfl))<|sc rfl (yc (opds:=[.const (.int .i64 0),.const (.int .i64 1),.const (.int .i64 0),.const (.int .i64 1),.const (.int .i64 2)]) rfl kS25 kY25 rfl rfl (by decide) (.cons cI (.cons cI (.cons cI (.cons cI (.cons cI .nil))))))<|.nil) [3,7,8] [(0,0)] (λ _ _ st8=>?_)
  obtain⟨v10,p10,h11⟩:=bs p7
  refine st8.cSF (l:=[.tmp 8]) 0 (st8.bkN (s:=0) rfl iI) rfl rfl kN158 (Eq.trans (st8.st.has 7 _ rfl) (st8.st.has 0 _ rfl).1.symm) (by simp) (.cons (tp rfl) .nil) (xC p10) [3] rfl [] rfl rfl (by decide) (λ G9 M9 _ _ st9=>?_)
  refine st9.segA 1 [3,4] [(0,0)] (λ _ _ st12=>?_)
  refine wpList_nil (za (wp_block ?_))
  refine zO h11 (λ s13 a w=>∃ M1 q13_0,Sx (Frm.chg w0 G) 20 M M1 [q13_0] [(3,dt s13.2.1),(4,dt s13.2.2)] [(0,0,dnm (Ow.box (Ow.frz (α:=Reader))) q13_0 ⟨s13.1⟩ (.pointer (some ⟨b0,0,none⟩)) [])] a w) ⟨_,_,st12.sel [3,4] rfl [(0,0)] rfl iT⟩ ?_
  rintro s13 z13 a13 w13 ⟨M13,q13_0,st13⟩ hs13 hx13
  have h14:j8 s13=some z13:=hs13
  unfold j8 at h14
  refine wp_seq ?_
  refine st13.sqA [3,4,11] [(0,0)] (λ _ _ st15=>?_)
  refine st15.cs rfl h14 (λ _ h16=>?_) (λ _ h17=>?_)
  ·
   refine wp_skip (za (wp_seq (wp_block (wp_region_list ?_))))
   obtain⟨v18,p18,h19⟩:=bs h16
   refine st15.segB 3 (sc rfl (oM rfl (tp rfl))<|sc rfl (xCat rfl (tp rfl) (zI (by decide)) p18)<|sc rfl (oM rfl (zg rfl))<|.nil) [3,4,15,16] [(0,0)] (λ _ _ st20=>?_)
   obtain⟨v22,p22,h23⟩:=bs h19
   refine st20.cSF (l:=[]) 0 (st20.bkN (s:=0) rfl iI) rfl rfl WQ (Eq.trans (st20.st.has 16 _ rfl) (st20.st.has 0 _ rfl).1.symm) (by simp) .nil (xY p22) [3,4,15] rfl [] rfl rfl (by decide) (λ G21 M21 _ _ st21=>?_)
   obtain⟨v24,p24,h25⟩:=bs h23
   refine st21.segA 2 [3,4] [(0,0)] (λ _ _ st26=>?_)
   refine wpList_nil (zi (za ?_))
   obtain⟨v27,p27,h28⟩:=bs h25
   refine st26.rgA [3,4] [(0,0)] (λ _ _ st29=>?_)
   refine za ?_
   exact⟨_,(Option.some.inj h28).symm,⟨_,_,st29.sel [3,4] rfl [(0,0)] rfl iT⟩⟩
  refine wp_exit (zn (zn (zG ?_)))
  refine za ?_
  have h30:=lo h17 hx13
  obtain rfl:=Option.some.inj h30
  exact⟨_,_,st15.sel [3] rfl [(0,0)] rfl iT⟩
 rintro a7 w7 ⟨M7,q7_0,st7⟩
 have h31:=k7
 refine st7.sqA [2] [(0,0)] (λ _ _ st32=>?_)
 refine wp_ret ?_
 exact st32.rsF (s:=0) 0 rfl rfl rfl iI (bxr h31) ZZ
def qB(x0:Reader):Option (Reader×Str):=
(jy x0).bind λ v4=>
(zD v4.1 (20:Int)).bind λ v9=>
if(cmpI .eql v9.2 (0:Int))=true then((catO v4.2 (⟨[46]⟩:Str)).bind λ v14=>
some (v9.1,v14))
else(if(cmpI .eql v9.2 (1:Int))=true then((xq v9.1 ([(⟨[]⟩:Str),(⟨[97,46,46,98]⟩:Str),(⟨[97,46,98,46,99,46,100]⟩:Str),(⟨[65]⟩:Str),(⟨[97,98,99,100]⟩:Str)]:List Str)).bind λ v22=>
some (v22.1,v22.2))
else(some (v9.1,v4.2)))
theorem Q7{x0:Reader}{r:Reader×Str}(h:qB x0=some r):FnS Tryz.prog 150 (Ow.box (Ow.frz (α:=Reader))) ⟨x0⟩ [] ⟨r.1⟩ (.frz (dt r.2)):=by
 unfold qB at h
 refine fnSB (fn:=Tryz.f150) 0 1 Tryz.func150 rfl (of_decide_eq_true rfl) rfl (λ M G _ b0 _ st0=>?_)
 refine st0.sqA [] [(0,0)] (λ _ _ st1=>?_)
 refine wp_seq (wp_region_list ?_)
 refine st1.segB 1 (sc rfl (oM rfl (zg rfl))<|.nil) [4] [(0,0)] (λ _ _ st2=>?_)
 obtain⟨v4,p4,h5⟩:=bs h
 refine st2.cSF (l:=[]) 0 (st2.bkN (s:=0) rfl iI) rfl rfl kN194 (Eq.trans (st2.st.has 4 _ rfl) (st2.st.has 0 _ rfl).1.symm) (by simp) .nil (Yh p4) [] rfl [] rfl rfl (by decide) (λ G3 M3 _ _ st3=>?_)
 refine st3.segA 1 [3] [(0,0)] (λ _ _ st6=>?_)
 refine wpList_nil (za (wp_seq (wp_seq (wp_region_list ?_))))
 refine st6.segB 1 (sc rfl (oM rfl (zg rfl))<|.nil) [3,6] [(0,0)] (λ _ _ st7=>?_)
 obtain⟨v9,p9,h10⟩:=bs h5
 refine st7.cSF (l:=[.const (.int .i64 20)]) 0 (st7.bkN (s:=0) rfl iI) rfl rfl Zo (Eq.trans (st7.st.has 6 _ rfl) (st7.st.has 0 _ rfl).1.symm) (by simp) (.cons cI .nil) (zH p9) [3] rfl [] rfl rfl (by decide) (λ G8 M8 _ _ st8=>?_)
 refine wpList_nil (za (wp_block ?_))
 refine st8.sqA [3,7,8] [(0,0)] (λ _ _ st11=>?_)
 refine st11.cs rfl h10 (λ _ h12=>?_) (λ _ h13=>?_)
 ·
  obtain⟨v14,p14,h15⟩:=bs h12
  refine st11.sqB (sc rfl (oM rfl (tp rfl))<|sc rfl (xCat rfl (tp rfl) (zI (by decide)) p14)<|sc rfl (oA rfl (tp rfl))<|.nil) [2] [(0,0)] (λ _ _ st16=>?_)
  refine wp_ret (zr (zd ?_))
  exact st16.rsF (s:=0) 0 rfl rfl rfl iI (bxr h15) ZZ
 refine st11.sqA [3,12] [(0,0)] (λ _ _ st17=>?_)
 refine st17.cs rfl h13 (λ _ h18=>?_) (λ _ h19=>?_)
 ·
  refine wp_seq (wp_region_list ?_)
  refine st17.segB 2 (sc rfl (oM rfl (zg rfl))<|sc rfl (yc (opds:=[_,_,_,_,_]) rfl kS39 kY39 rfl rfl (by decide) (.cons (zI (by decide)) (.cons (zI (by decide)) (.cons (zI (by decide)) (.cons (zI (by decide)) (.cons (zI (by decide)) .nil))))))<|.nil) [14,15] [(0,0)] (λ _ _ st20=>?_)
  obtain⟨v22,p22,h23⟩:=bs h18
  refine st20.cSF (l:=[.tmp 15]) 0 (st20.bkN (s:=0) rfl iI) rfl rfl kN195 (Eq.trans (st20.st.has 14 _ rfl) (st20.st.has 0 _ rfl).1.symm) (by simp) (.cons (tp rfl) .nil) (qL p22) [] rfl [] rfl rfl (by decide) (λ G21 M21 _ _ st21=>?_)
  refine st21.segA 1 [2] [(0,0)] (λ _ _ st24=>?_)
  refine wpList_nil (za ?_)
  refine wp_ret (zr (zd ?_))
  exact st24.rsF (s:=0) 0 rfl rfl rfl iI (bxr h23) ZZ
 refine wp_skip (zi (za ?_))
 refine st17.sqA [2] [(0,0)] (λ _ _ st25=>?_)
 refine wp_ret ?_
 exact st25.rsF (s:=0) 0 rfl rfl rfl iI (bxr h19) ZZ
def j9(x0:Reader):Option (Reader×Stmt):=
(zD x0 (9:Int)).bind λ v5=>
Option.bind (α:=Bool) (if(cmpI .eql v5.2 (0:Int))=true then(some (cmpI .eql v5.2 (0:Int)))
else(some (cmpI .eql v5.2 (1:Int)))) λ o7=>
if o7=true then((jy v5.1).bind λ v17=>
some (v17.1,(⟨(0:Int),v17.2,0,⟨[]⟩,0⟩:Stmt)))
else(if(cmpI .eql v5.2 (2:Int))=true then((yq v5.1 ([(0:Int),(1:Int),(2:Int),(1:Int)]:List Int)).bind λ v27=>
(jy v27.1).bind λ v32=>
Option.bind (α:=Reader×Str) ((gO (cmpI .gtr v27.2 (0:Int) == true) (zD v32.1 (2:Int))).bind λ v38=>
if(cmpI .gtr v27.2 (0:Int)&&cmpI .eql v38.2 (0:Int))=true then(some ((if(cmpI .gtr v27.2 (0:Int) == true)=true then v38.1 else v32.1),(⟨[]⟩:Str)))
else(some ((if(cmpI .gtr v27.2 (0:Int) == true)=true then v38.1 else v32.1),v32.2))) λ o35=>
(yJ o35.1).bind λ v47=>
some (v47.1,(⟨(1:Int),o35.2,v27.2,v47.2,0⟩:Stmt)))
else(if(cmpI .eql v5.2 (3:Int))=true then((jy v5.1).bind λ v57=>
some (v57.1,(⟨(2:Int),v57.2,0,⟨[]⟩,0⟩:Stmt)))
else(Option.bind (α:=Bool) (if(cmpI .eql v5.2 (4:Int))=true then(some (cmpI .eql v5.2 (4:Int)))
else(if(cmpI .eql v5.2 (5:Int))=true then(some (cmpI .eql v5.2 (5:Int)))
else(some (cmpI .eql v5.2 (6:Int))))) λ o62=>
if o62=true then((xq v5.1 ([(⟨[120]⟩:Str),(⟨[121]⟩:Str),(⟨[122]⟩:Str),(⟨[97]⟩:Str)]:List Str)).bind λ v75=>
(zD v75.1 (100:Int)).bind λ v79=>
some (v79.1,(⟨(3:Int),⟨[]⟩,0,v75.2,v79.2⟩:Stmt)))
else(if(cmpI .eql v5.2 (7:Int))=true then((xq v5.1 ([(⟨[120]⟩:Str),(⟨[121]⟩:Str),(⟨[97]⟩:Str),(⟨[98]⟩:Str),(⟨[120]⟩:Str)]:List Str)).bind λ v89=>
some (v89.1,(⟨(4:Int),⟨[]⟩,0,v89.2,0⟩:Stmt)))
else((zD v5.1 (3:Int)).bind λ v96=>
if(cmpI .eql v96.2 (0:Int))=true then(some (v96.1,(⟨(5:Int),⟨[]⟩,0,⟨[]⟩,0⟩:Stmt)))
else((zD v96.1 (100:Int)).bind λ v106=>
some (v106.1,(⟨(3:Int),⟨[]⟩,0,(⟨[120]⟩:Str),v106.2⟩:Stmt))))))))
theorem QM{x0:Reader}{r:Reader×Stmt}(h:j9 x0=some r):FnS Tryz.prog 280 (Ow.box (Ow.frz (α:=Reader))) ⟨x0⟩ [] ⟨r.1⟩ (.frz (dt r.2)):=by
 unfold j9 at h
 refine fnSB (fn:=Tryz.f280) 0 2 Tryz.func280 rfl (of_decide_eq_true rfl) rfl (λ M G w0 b0 _ st0=>?_)
 refine wp_seq (wp_region_list ?_)
 refine st0.alloc 1 rfl rfl kZ173 zrStmt (by simp) [] rfl [0] rfl rfl (λ b2 M2 _ _ st2=>?_)
 refine wpList_nil (za (wp_seq (wp_seq (wp_region_list ?_))))
 refine st2.segB 1 (sc rfl (oM rfl (zg rfl))<|.nil) [5] [(0,0),(2,1)] (λ _ _ st3=>?_)
 obtain⟨v5,p5,h6⟩:=bs h
 refine st3.cSF (l:=[.const (.int .i64 9)]) 0 (st3.bkN (s:=0) rfl iI) rfl rfl Zo (Eq.trans (st3.st.has 5 _ rfl) (st3.st.has 0 _ rfl).1.symm) (by simp) (.cons cI .nil) (zH p5) [] rfl [2] rfl rfl (by decide) (λ G4 M4 _ _ st4=>?_)
 refine wpList_nil (za (wp_block ?_))
 obtain⟨o7,p7,k7⟩:=bs h6
 refine zo (λ a w=>∃ M1 q7_0 q7_1,Sx (Frm.chg w0 G) 60 M M1 [q7_0,oneB q7_1] [(6,dt v5.2),(7,dt o7)] [(2,1,dbox q7_1 0 zStmt),(0,0,dnm (Ow.box (Ow.frz (α:=Reader))) q7_0 ⟨v5.1⟩ (.pointer (some ⟨b0,0,none⟩)) [])] a w) ?_ ?_
 ·
  refine st4.sqA [6,7] [(0,0),(2,1)] (λ _ _ st8=>?_)
  refine st8.cs rfl p7 (λ _ h9=>?_) (λ _ h10=>?_)
  ·
   refine wp_skip (za ?_)
   obtain rfl:=Option.some.inj h9
   exact⟨_,_,_,st8.sel [6,7] rfl [(2,1),(0,0)] rfl ⟨iI,iT⟩⟩
  refine st8.rgA [6,7] [(0,0),(2,1)] (λ _ _ st11=>?_)
  refine za ?_
  obtain rfl:=Option.some.inj h10
  exact⟨_,_,_,st11.sel [6,7] rfl [(2,1),(0,0)] rfl ⟨iI,iT⟩⟩
 rintro a7 w7 ⟨M7,q7_0,q7_1,st7⟩
 have h12:=k7
 refine st7.cs rfl h12 (λ _ h13=>?_) (λ _ h14=>?_)
 ·
  refine wp_seq (wp_region_list ?_)
  refine st7.segB 1 (sc rfl (oM rfl (zg rfl))<|.nil) [10] [(0,0),(2,1)] (λ _ _ st15=>?_)
  obtain⟨v17,p17,h18⟩:=bs h13
  refine st15.cSF (l:=[]) 0 (st15.bkN (s:=0) rfl iI) rfl rfl kN194 (Eq.trans (st15.st.has 10 _ rfl) (st15.st.has 0 _ rfl).1.symm) (by simp) .nil (Yh p17) [] rfl [2] rfl rfl (by decide) (λ G16 M16 _ _ st16=>?_)
  refine st16.segB 1 (sc rfl (zV (parts:=[(0,.const (.int .i64 0)),(1,.tmp 11)]) (ns:=[1,1,1,1,1]) (zs:=Yy) rfl rfl WJ WK (λ w a hl=>by
 intro p hp;simp only[List.mem_cons,List.not_mem_nil,or_false] at hp
 rcases hp with rfl | rfl
 ·
  exact⟨by decide,rfl⟩
 ·
  exact⟨by decide,Rep.len (α:=Str) (OpdR.cells (tp rfl) hl)⟩) (λ w a hl=>Stmt.parts (x:=(⟨(0:Int),v17.2,0,⟨[]⟩,0⟩:Stmt)) (OpdR.cells cI hl) (OpdR.cells (tp rfl) hl) ⟨rfl,trivial⟩ xx ⟨rfl,trivial⟩))<|.nil) [12] [(0,0),(2,1)] (λ _ _ st19=>?_)
  refine st19.store (sb:=2) 1 FldS.id rfl rfl rfl wx rfl rfl (tp rfl) rfl [] rfl [0] rfl rfl (λ M21 _ st21=>?_)
  refine wpList_nil (za ?_)
  refine wp_ret (zr (zd ?_))
  exact st21.rsC (s:=0) 0 rfl wx rfl rfl iI (bxr h18)
 refine st7.sqA [6,13] [(0,0),(2,1)] (λ _ _ st22=>?_)
 refine st22.cs rfl h14 (λ _ h23=>?_) (λ _ h24=>?_)
 ·
  refine wp_seq (wp_region_list ?_)
  refine st22.segB 2 (sc rfl (oM rfl (zg rfl))<|sc rfl (yc (opds:=[.const (.int .i64 0),.const (.int .i64 1),.const (.int .i64 2),.const (.int .i64 1)]) rfl kS25 kY25 rfl rfl (by decide) (.cons cI (.cons cI (.cons cI (.cons cI .nil)))))<|.nil) [15,16] [(0,0),(2,1)] (λ _ _ st25=>?_)
  obtain⟨v27,p27,h28⟩:=bs h23
  refine st25.cSF (l:=[.tmp 16]) 0 (st25.bkN (s:=0) rfl iI) rfl rfl kN158 (Eq.trans (st25.st.has 15 _ rfl) (st25.st.has 0 _ rfl).1.symm) (by simp) (.cons (tp rfl) .nil) (xC p27) [] rfl [2] rfl rfl (by decide) (λ G26 M26 _ _ st26=>?_)
  refine st26.segA 1 [3] [(0,0),(2,1)] (λ _ _ st29=>?_)
  refine wpList_nil (za (wp_seq (wp_region_list ?_)))
  refine st29.segB 1 (sc rfl (oM rfl (zg rfl))<|.nil) [3,18] [(0,0),(2,1)] (λ _ _ st30=>?_)
  obtain⟨v32,p32,h33⟩:=bs h28
  refine st30.cSF (l:=[]) 0 (st30.bkN (s:=0) rfl iI) rfl rfl kN194 (Eq.trans (st30.st.has 18 _ rfl) (st30.st.has 0 _ rfl).1.symm) (by simp) .nil (Yh p32) [3] rfl [2] rfl rfl (by decide) (λ G31 M31 _ _ st31=>?_)
  refine st31.segA 1 [3,4] [(0,0),(2,1)] (λ _ _ st34=>?_)
  refine wpList_nil (za ?_)
  obtain⟨o35,p35,k35⟩:=bs h33
  refine zo (λ a w=>∃ M1 q35_0 q35_1,Sx (Frm.chg w0 G) 60 M M1 [q35_0,oneB q35_1] [(3,dt v27.2),(4,dt o35.2)] [(2,1,dbox q35_1 0 zStmt),(0,0,dnm (Ow.box (Ow.frz (α:=Reader))) q35_0 ⟨o35.1⟩ (.pointer (some ⟨b0,0,none⟩)) [])] a w) ?_ ?_
  ·
   refine wp_seq (wp_region_list ?_)
   refine st34.segB 4 (sc rfl (oM rfl (tp rfl))<|sc rfl (oCI rfl (tp rfl) cI)<|sc rfl (oM rfl (tp rfl))<|sg rfl rfl (λ hg=>oM rfl (zg rfl))<|.nil) [3,4,22,23] [(0,0),(2,1)] (λ _ _ st36=>?_)
   obtain⟨v38,p38,h39⟩:=bs p35
   refine st36.cSFgB (sb:=0) (l:=[.const (.int .i64 2)]) 0 rfl iI rfl rfl rfl Zo (λ hg=>(st36.st.has 23 _ rfl).1 hg) (by simp) (λ hg=>(.cons cI .nil)) (λ hg=>zH (gh hg p38)) [3,4,22] rfl [2] rfl rfl (by decide) (λ G37 M37 _ _ st37=>?_)
   refine st37.segB 2 (sg rfl rfl (λ hg=>oCI rfl (zf hg rfl) cI)<|sc rfl (zW rfl (tp rfl) (zb rfl))<|.nil) [3,4,26] [(0,0),(2,1)] (λ _ _ st40=>?_)
   refine wpList_nil (za ?_)
   refine st40.cs rfl h39 (λ _ h41=>?_) (λ _ h42=>?_)
   ·
    refine st40.rgA [3,4] [(0,0),(2,1)] (λ _ _ st43=>?_)
    refine za ?_
    obtain rfl:=Option.some.inj h41
    exact⟨_,_,_,st43.sel [3,4] rfl [(2,1),(0,0)] rfl ⟨iI,iT⟩⟩
   refine wp_skip (za ?_)
   obtain rfl:=Option.some.inj h42
   exact⟨_,_,_,st40.sel [3,4] rfl [(2,1),(0,0)] rfl ⟨iI,iT⟩⟩
  rintro a35 w35 ⟨M35,q35_0,q35_1,st35⟩
  have h44:=k35
  refine wp_seq (wp_region_list ?_)
  refine st35.segB 3 (sc rfl (oM rfl (tp rfl))<|sc rfl (oM rfl (tp rfl))<|sc rfl (oM rfl (zg rfl))<|.nil) [27,28,29] [(0,0),(2,1)] (λ _ _ st45=>?_)
  obtain⟨v47,p47,h48⟩:=bs h44
  refine st45.cSF (l:=[]) 0 (st45.bkN (s:=0) rfl iI) rfl rfl WQ (Eq.trans (st45.st.has 29 _ rfl) (st45.st.has 0 _ rfl).1.symm) (by simp) .nil (xY p47) [27,28] rfl [2] rfl rfl (by decide) (λ G46 M46 _ _ st46=>?_)
  refine st46.segB 1 (sc rfl (zV (parts:=[(0,.const (.int .i64 1)),(1,.tmp 27),(2,.tmp 28),(3,.tmp 30)]) (ns:=[1,1,1,1,1]) (zs:=Yy) rfl rfl WJ WK (λ w a hl=>by
 intro p hp;simp only[List.mem_cons,List.not_mem_nil,or_false] at hp
 rcases hp with rfl | rfl | rfl | rfl
 ·
  exact⟨by decide,rfl⟩
 ·
  exact⟨by decide,Rep.len (α:=Str) (OpdR.cells (tp rfl) hl)⟩
 ·
  exact⟨by decide,Rep.len (α:=Int) (OpdR.cells (tp rfl) hl)⟩
 ·
  exact⟨by decide,Rep.len (α:=Str) (OpdR.cells (tp rfl) hl)⟩) (λ w a hl=>Stmt.parts (x:=(⟨(1:Int),o35.2,v27.2,v47.2,0⟩:Stmt)) (OpdR.cells cI hl) (OpdR.cells (tp rfl) hl) (OpdR.cells (tp rfl) hl) (OpdR.cells (tp rfl) hl) ⟨rfl,trivial⟩))<|.nil) [31] [(0,0),(2,1)] (λ _ _ st49=>?_)
  refine st49.store (sb:=2) 1 FldS.id rfl rfl rfl wx rfl rfl (tp rfl) rfl [] rfl [0] rfl rfl (λ M51 _ st51=>?_)
  refine wpList_nil (za ?_)
  refine wp_ret (zr (zd ?_))
  exact st51.rsC (s:=0) 0 rfl wx rfl rfl iI (bxr h48)
 refine st22.sqA [6,32] [(0,0),(2,1)] (λ _ _ st52=>?_)
 refine st52.cs rfl h24 (λ _ h53=>?_) (λ _ h54=>?_)
 ·
  refine wp_seq (wp_region_list ?_)
  refine st52.segB 1 (sc rfl (oM rfl (zg rfl))<|.nil) [34] [(0,0),(2,1)] (λ _ _ st55=>?_)
  obtain⟨v57,p57,h58⟩:=bs h53
  refine st55.cSF (l:=[]) 0 (st55.bkN (s:=0) rfl iI) rfl rfl kN194 (Eq.trans (st55.st.has 34 _ rfl) (st55.st.has 0 _ rfl).1.symm) (by simp) .nil (Yh p57) [] rfl [2] rfl rfl (by decide) (λ G56 M56 _ _ st56=>?_)
  refine st56.segB 1 (sc rfl (zV (parts:=[(0,.const (.int .i64 2)),(1,.tmp 35)]) (ns:=[1,1,1,1,1]) (zs:=Yy) rfl rfl WJ WK (λ w a hl=>by
 intro p hp;simp only[List.mem_cons,List.not_mem_nil,or_false] at hp
 rcases hp with rfl | rfl
 ·
  exact⟨by decide,rfl⟩
 ·
  exact⟨by decide,Rep.len (α:=Str) (OpdR.cells (tp rfl) hl)⟩) (λ w a hl=>Stmt.parts (x:=(⟨(2:Int),v57.2,0,⟨[]⟩,0⟩:Stmt)) (OpdR.cells cI hl) (OpdR.cells (tp rfl) hl) ⟨rfl,trivial⟩ xx ⟨rfl,trivial⟩))<|.nil) [36] [(0,0),(2,1)] (λ _ _ st59=>?_)
  refine st59.store (sb:=2) 1 FldS.id rfl rfl rfl wx rfl rfl (tp rfl) rfl [] rfl [0] rfl rfl (λ M61 _ st61=>?_)
  refine wpList_nil (za ?_)
  refine wp_ret (zr (zd ?_))
  exact st61.rsC (s:=0) 0 rfl wx rfl rfl iI (bxr h58)
 obtain⟨o62,p62,k62⟩:=bs h54
 refine zo (λ a w=>∃ M1 q62_0 q62_1,Sx (Frm.chg w0 G) 60 M M1 [q62_0,oneB q62_1] [(6,dt v5.2),(37,dt o62)] [(2,1,dbox q62_1 0 zStmt),(0,0,dnm (Ow.box (Ow.frz (α:=Reader))) q62_0 ⟨v5.1⟩ (.pointer (some ⟨b0,0,none⟩)) [])] a w) ?_ ?_
 ·
  refine st52.sqA [6,37] [(0,0),(2,1)] (λ _ _ st63=>?_)
  refine st63.cs rfl p62 (λ _ h64=>?_) (λ _ h65=>?_)
  ·
   refine wp_skip (za ?_)
   obtain rfl:=Option.some.inj h64
   exact⟨_,_,_,st63.sel [6,37] rfl [(2,1),(0,0)] rfl ⟨iI,iT⟩⟩
  refine st63.sqA [6,37] [(0,0),(2,1)] (λ _ _ st66=>?_)
  refine st66.cs rfl h65 (λ _ h67=>?_) (λ _ h68=>?_)
  ·
   refine wp_skip (za ?_)
   obtain rfl:=Option.some.inj h67
   exact⟨_,_,_,st66.sel [6,37] rfl [(2,1),(0,0)] rfl ⟨iI,iT⟩⟩
  refine st66.rgA [6,37] [(0,0),(2,1)] (λ _ _ st69=>?_)
  refine za ?_
  obtain rfl:=Option.some.inj h68
  exact⟨_,_,_,st69.sel [6,37] rfl [(2,1),(0,0)] rfl ⟨iI,iT⟩⟩
 rintro a62 w62 ⟨M62,q62_0,q62_1,st62⟩
 have h70:=k62
 refine st62.cs rfl h70 (λ _ h71=>?_) (λ _ h72=>?_)
 ·
  refine wp_seq (wp_region_list ?_)
  refine st62.segB 2 (sc rfl (oM rfl (zg rfl))<|sc rfl (yc (opds:=[_,_,_,_]) rfl kS39 kY39 rfl rfl (by decide) (.cons (zI (by decide)) (.cons (zI (by decide)) (.cons (zI (by decide)) (.cons (zI (by decide)) .nil)))))<|.nil) [41,42] [(0,0),(2,1)] (λ _ _ st73=>?_)
  obtain⟨v75,p75,h76⟩:=bs h71
  refine st73.cSF (l:=[.tmp 42]) 0 (st73.bkN (s:=0) rfl iI) rfl rfl kN195 (Eq.trans (st73.st.has 41 _ rfl) (st73.st.has 0 _ rfl).1.symm) (by simp) (.cons (tp rfl) .nil) (qL p75) [] rfl [2] rfl rfl (by decide) (λ G74 M74 _ _ st74=>?_)
  refine st74.segB 1 (sc rfl (oM rfl (zg rfl))<|.nil) [43,44] [(0,0),(2,1)] (λ _ _ st77=>?_)
  obtain⟨v79,p79,h80⟩:=bs h76
  refine st77.cSF (l:=[.const (.int .i64 100)]) 0 (st77.bkN (s:=0) rfl iI) rfl rfl Zo (Eq.trans (st77.st.has 44 _ rfl) (st77.st.has 0 _ rfl).1.symm) (by simp) (.cons cI .nil) (zH p79) [43] rfl [2] rfl rfl (by decide) (λ G78 M78 _ _ st78=>?_)
  refine st78.segB 1 (sc rfl (zV (parts:=[(0,.const (.int .i64 3)),(3,.tmp 43),(4,.tmp 45)]) (ns:=[1,1,1,1,1]) (zs:=Yy) rfl rfl WJ WK (λ w a hl=>by
 intro p hp;simp only[List.mem_cons,List.not_mem_nil,or_false] at hp
 rcases hp with rfl | rfl | rfl
 ·
  exact⟨by decide,rfl⟩
 ·
  exact⟨by decide,Rep.len (α:=Str) (OpdR.cells (tp rfl) hl)⟩
 ·
  exact⟨by decide,Rep.len (α:=Int) (OpdR.cells (tp rfl) hl)⟩) (λ w a hl=>Stmt.parts (x:=(⟨(3:Int),⟨[]⟩,0,v75.2,v79.2⟩:Stmt)) (OpdR.cells cI hl) xx ⟨rfl,trivial⟩ (OpdR.cells (tp rfl) hl) (OpdR.cells (tp rfl) hl)))<|.nil) [46] [(0,0),(2,1)] (λ _ _ st81=>?_)
  refine st81.store (sb:=2) 1 FldS.id rfl rfl rfl wx rfl rfl (tp rfl) rfl [] rfl [0] rfl rfl (λ M83 _ st83=>?_)
  refine wpList_nil (za ?_)
  refine wp_ret (zr (zd ?_))
  exact st83.rsC (s:=0) 0 rfl wx rfl rfl iI (bxr h80)
 refine st62.sqA [47] [(0,0),(2,1)] (λ _ _ st84=>?_)
 refine st84.cs rfl h72 (λ _ h85=>?_) (λ _ h86=>?_)
 ·
  refine wp_seq (wp_region_list ?_)
  refine st84.segB 2 (sc rfl (oM rfl (zg rfl))<|sc rfl (yc (opds:=[_,_,_,_,_]) rfl kS39 kY39 rfl rfl (by decide) (.cons (zI (by decide)) (.cons (zI (by decide)) (.cons (zI (by decide)) (.cons (zI (by decide)) (.cons (zI (by decide)) .nil))))))<|.nil) [49,50] [(0,0),(2,1)] (λ _ _ st87=>?_)
  obtain⟨v89,p89,h90⟩:=bs h85
  refine st87.cSF (l:=[.tmp 50]) 0 (st87.bkN (s:=0) rfl iI) rfl rfl kN195 (Eq.trans (st87.st.has 49 _ rfl) (st87.st.has 0 _ rfl).1.symm) (by simp) (.cons (tp rfl) .nil) (qL p89) [] rfl [2] rfl rfl (by decide) (λ G88 M88 _ _ st88=>?_)
  refine st88.segB 1 (sc rfl (zV (parts:=[(0,.const (.int .i64 4)),(3,.tmp 51)]) (ns:=[1,1,1,1,1]) (zs:=Yy) rfl rfl WJ WK (λ w a hl=>by
 intro p hp;simp only[List.mem_cons,List.not_mem_nil,or_false] at hp
 rcases hp with rfl | rfl
 ·
  exact⟨by decide,rfl⟩
 ·
  exact⟨by decide,Rep.len (α:=Str) (OpdR.cells (tp rfl) hl)⟩) (λ w a hl=>Stmt.parts (x:=(⟨(4:Int),⟨[]⟩,0,v89.2,0⟩:Stmt)) (OpdR.cells cI hl) xx ⟨rfl,trivial⟩ (OpdR.cells (tp rfl) hl) ⟨rfl,trivial⟩))<|.nil) [52] [(0,0),(2,1)] (λ _ _ st91=>?_)
  refine st91.store (sb:=2) 1 FldS.id rfl rfl rfl wx rfl rfl (tp rfl) rfl [] rfl [0] rfl rfl (λ M93 _ st93=>?_)
  refine wpList_nil (za ?_)
  refine wp_ret (zr (zd ?_))
  exact st93.rsC (s:=0) 0 rfl wx rfl rfl iI (bxr h90)
 refine wp_skip (zi (za (wp_seq (wp_seq (wp_region_list ?_)))))
 refine st84.segB 1 (sc rfl (oM rfl (zg rfl))<|.nil) [53] [(0,0),(2,1)] (λ _ _ st94=>?_)
 obtain⟨v96,p96,h97⟩:=bs h86
 refine st94.cSF (l:=[.const (.int .i64 3)]) 0 (st94.bkN (s:=0) rfl iI) rfl rfl Zo (Eq.trans (st94.st.has 53 _ rfl) (st94.st.has 0 _ rfl).1.symm) (by simp) (.cons cI .nil) (zH p96) [] rfl [2] rfl rfl (by decide) (λ G95 M95 _ _ st95=>?_)
 refine st95.segA 1 [55] [(0,0),(2,1)] (λ _ _ st98=>?_)
 refine wpList_nil (za ?_)
 refine st98.cs rfl h97 (λ _ h99=>?_) (λ _ h100=>?_)
 ·
  refine wp_seq (wp_region_list ?_)
  refine st98.segB 1 (sc rfl (zV (parts:=[(0,.const (.int .i64 5))]) (ns:=[1,1,1,1,1]) (zs:=Yy) rfl rfl WJ WK (λ w a hl=>by
 intro p hp;simp only[List.mem_cons,List.not_mem_nil,or_false] at hp
 rcases hp with rfl
 ·
  exact⟨by decide,rfl⟩) (λ w a hl=>Stmt.parts (x:=(⟨(5:Int),⟨[]⟩,0,⟨[]⟩,0⟩:Stmt)) (OpdR.cells cI hl) xx ⟨rfl,trivial⟩ xx ⟨rfl,trivial⟩))<|.nil) [56] [(0,0),(2,1)] (λ _ _ st101=>?_)
  refine st101.store (sb:=2) 1 FldS.id rfl rfl rfl wx rfl rfl (tp rfl) rfl [] rfl [0] rfl rfl (λ M103 _ st103=>?_)
  refine wpList_nil (za ?_)
  refine wp_ret (zd ?_)
  exact st103.rsC (s:=0) 0 rfl wx rfl rfl iI (bxr h99)
 refine wp_skip (za (wp_seq (wp_region_list ?_)))
 refine st98.segB 1 (sc rfl (oM rfl (zg rfl))<|.nil) [57] [(0,0),(2,1)] (λ _ _ st104=>?_)
 obtain⟨v106,p106,h107⟩:=bs h100
 refine st104.cSF (l:=[.const (.int .i64 100)]) 0 (st104.bkN (s:=0) rfl iI) rfl rfl Zo (Eq.trans (st104.st.has 57 _ rfl) (st104.st.has 0 _ rfl).1.symm) (by simp) (.cons cI .nil) (zH p106) [] rfl [2] rfl rfl (by decide) (λ G105 M105 _ _ st105=>?_)
 refine st105.segB 1 (sc rfl (zV (parts:=[(0,.const (.int .i64 3)),(3,_),(4,.tmp 58)]) (ns:=[1,1,1,1,1]) (zs:=Yy) rfl rfl WJ WK (λ w a hl=>by
 intro p hp;simp only[List.mem_cons,List.not_mem_nil,or_false] at hp
 rcases hp with rfl | rfl | rfl
 ·
  exact⟨by decide,rfl⟩
 ·
  exact⟨by decide,rfl⟩
 ·
  exact⟨by decide,Rep.len (α:=Int) (OpdR.cells (tp rfl) hl)⟩) (λ w a hl=>Stmt.parts (x:=(⟨(3:Int),⟨[]⟩,0,(⟨[120]⟩:Str),v106.2⟩:Stmt)) (OpdR.cells cI hl) xx ⟨rfl,trivial⟩ (OpdR.cells (zI (by decide)) hl) (OpdR.cells (tp rfl) hl)))<|.nil) [59] [(0,0),(2,1)] (λ _ _ st108=>?_)
 refine st108.store (sb:=2) 1 FldS.id rfl rfl rfl wx rfl rfl (tp rfl) rfl [] rfl [0] rfl rfl (λ M110 _ st110=>?_)
 refine wpList_nil (za (wp_ret ?_))
 exact st110.rsC (s:=0) 0 rfl wx rfl rfl iI (bxr h107)
open Go.RowKit
set_option maxRecDepth 10000
set_option maxHeartbeats 1600000
theorem kN280:fnB Tryz.prog 280=true:=by kernel_rfl
theorem kY92:zlB Tryz.prog 92=true:=by kernel_rfl
theorem kE92:elB Tryz.prog 92 173 5 56=true:=by kernel_rfl
theorem kN255:fnB Tryz.prog 255=true:=by kernel_rfl
theorem kZ30:y9 Tryz.prog 30=some X4:=by kernel_rfl
theorem kB30:bldB Tryz.prog 30 [1]=true:=by kernel_rfl
theorem kC30:jU Tryz.prog 30 [1]=some zpTree:=by kernel_rfl
theorem kN226:fnB Tryz.prog 226=true:=by kernel_rfl
theorem kN139:fnB Tryz.prog 139=true:=by kernel_rfl
theorem kI28:sliB Tryz.prog 28 94 6=true:=by kernel_rfl
theorem kY28:zlB Tryz.prog 28=true:=by kernel_rfl
theorem kE28:elB Tryz.prog 28 94 6 80=true:=by kernel_rfl
def xU(v5:Reader×Int)(s14:Reader×(List Stmt)×Int):Option ((Reader×(List Stmt)×Int)⊕(Reader×(List Stmt))):=
if(cmpI .gtr s14.2.2 (0:Int))=true then((j9 s14.1).bind λ v21=>
Option.bind (α:=Reader×Stmt) (if(cmpI .eql v5.2 (0:Int)&&((cmpI .eql v21.2.kind (1:Int)||cmpI .eql v21.2.kind (4:Int))||cmpI .eql v21.2.kind (5:Int)))=true then((zD v21.1 (100:Int)).bind λ v33=>
some (v33.1,(⟨(3:Int),⟨[]⟩,0,(⟨[121]⟩:Str),v33.2⟩:Stmt)))
else(some (v21.1,v21.2))) λ o27=>
(appO 56 s14.2.1 ([o27.2]:List Stmt)).bind λ v42=>
(i64 (s14.2.2 - (1:Int))).bind λ v45=>
some (.inl (o27.1,v42,v45)))
else(some (.inr (s14.1,s14.2.1)))
def qa(x0:Reader):Option (Reader×(List Stmt)):=
(zD x0 (2:Int)).bind λ v5=>
Option.bind (α:=Reader×(List Stmt)) ((yq v5.1 ([(2:Int),(1:Int),(3:Int),(0:Int),(4:Int)]:List Int)).bind λ v11=>
zX (λ s14=>xU v5 s14) (v11.1,[],v11.2)) λ o8=>
some (o8.1,o8.2)
theorem QN{x0:Reader}{r:Reader×(List Stmt)}(h:qa x0=some r):FnS Tryz.prog 255 (Ow.box (Ow.frz (α:=Reader))) ⟨x0⟩ [] ⟨r.1⟩ (.ow (Ow.row 173 (Ow.frz (α:=Stmt))) r.2):=by
 unfold qa at h
 refine fnSB (fn:=Tryz.f255) 1 3 Tryz.func255 rfl (of_decide_eq_true rfl) rfl (λ M G w0 b0 _ st0=>?_)
 refine st0.sqB (sc rfl (oA rfl (Yv (α:=Stmt) (e:=173)))<|.nil) [] [(0,1)] (λ _ _ st1=>?_)
 refine st1.sqB (sc rfl (Zu (α:=Stmt) (e:=173) rfl kS92)<|sc rfl (oA rfl (tp rfl))<|.nil) [] [(0,1),(3,0)] (λ _ _ st2=>?_)
 refine wp_seq (wp_region_list ?_)
 refine st2.segB 1 (sc rfl (oM rfl (zg rfl))<|.nil) [8] [(0,1),(3,0)] (λ _ _ st3=>?_)
 obtain⟨v5,p5,h6⟩:=bs h
 refine st3.cSF (l:=[.const (.int .i64 2)]) 1 (st3.bkN (s:=0) rfl iI) rfl rfl Zo (Eq.trans (st3.st.has 8 _ rfl) (st3.st.has 0 _ rfl).1.symm) (by simp) (.cons cI .nil) (zH p5) [] rfl [3] rfl rfl (by decide) (λ G4 M4 _ _ st4=>?_)
 refine st4.segA 2 [4] [(0,1),(3,0)] (λ _ _ st7=>?_)
 refine wpList_nil (za ?_)
 obtain⟨o8,p8,k8⟩:=bs h6
 refine zo (λ a w=>∃ M1 q8_0 q8_1 q8_2,Sx (Frm.chg w0 G) 44 M M1 [oneB q8_0,q8_1,oneB q8_2] [] [(3,0,dtip q8_0 173 o8.2),(0,1,dnm (Ow.box (Ow.frz (α:=Reader))) q8_1 ⟨o8.1⟩ (.pointer (some ⟨b0,0,none⟩)) [])] a w) ?_ ?_
 ·
  refine wp_seq (wp_region_list ?_)
  refine st7.segB 2 (sc rfl (oM rfl (zg rfl))<|sc rfl (yc (opds:=[.const (.int .i64 2),.const (.int .i64 1),.const (.int .i64 3),.const (.int .i64 0),.const (.int .i64 4)]) rfl kS25 kY25 rfl rfl (by decide) (.cons cI (.cons cI (.cons cI (.cons cI (.cons cI .nil))))))<|.nil) [4,11,12] [(0,1),(3,0)] (λ _ _ st9=>?_)
  obtain⟨v11,p11,h12⟩:=bs p8
  refine st9.cSF (l:=[.tmp 12]) 1 (st9.bkN (s:=0) rfl iI) rfl rfl kN158 (Eq.trans (st9.st.has 11 _ rfl) (st9.st.has 0 _ rfl).1.symm) (by simp) (.cons (tp rfl) .nil) (xC p11) [4] rfl [3] rfl rfl (by decide) (λ G10 M10 _ _ st10=>?_)
  refine st10.segA 1 [4,5] [(0,1),(3,0)] (λ _ _ st13=>?_)
  refine wpList_nil (za (wp_block ?_))
  refine zO h12 (λ s14 a w=>∃ M1 q14_0 q14_1 q14_2,Sx (Frm.chg w0 G) 44 M M1 [oneB q14_0,q14_1,oneB q14_2] [(4,dt (cmpI .eql v5.2 (0:Int))),(5,dt s14.2.2)] [(3,0,dtip q14_0 173 s14.2.1),(0,1,dnm (Ow.box (Ow.frz (α:=Reader))) q14_1 ⟨s14.1⟩ (.pointer (some ⟨b0,0,none⟩)) [])] a w) ⟨_,_,_,_,st13.sel [4,5] rfl [(3,0),(0,1)] rfl ⟨iE,iT⟩⟩ ?_
  rintro s14 z14 a14 w14 ⟨M14,q14_0,q14_1,q14_2,st14⟩ hs14 hx14
  have h15:xU v5 s14=some z14:=hs14
  unfold xU at h15
  refine wp_seq ?_
  refine st14.sqA [4,5,15] [(0,1),(3,0)] (λ _ _ st16=>?_)
  refine st16.cs rfl h15 (λ _ h17=>?_) (λ _ h18=>?_)
  ·
   refine wp_skip (za (wp_seq (wp_block (wp_seq (wp_region_list ?_)))))
   refine st16.segB 1 (sc rfl (oM rfl (zg rfl))<|.nil) [4,5,18] [(0,1),(3,0)] (λ _ _ st19=>?_)
   obtain⟨v21,p21,h22⟩:=bs h17
   refine st19.cSF (l:=[]) 1 (st19.bkN (s:=0) rfl iI) rfl rfl kN280 (Eq.trans (st19.st.has 18 _ rfl) (st19.st.has 0 _ rfl).1.symm) (by simp) .nil (QM p21) [4,5] rfl [3] rfl rfl (by decide) (λ G20 M20 _ _ st20=>?_)
   refine st20.alloc 2 rfl rfl kZ173 zrStmt (by simp) [4,5,19] rfl [0,3] rfl rfl (λ b24 M24 _ _ st24=>?_)
   refine st24.store (sb:=6) 2 FldS.id rfl rfl rfl wx rfl rfl (tp rfl) rfl [4,5] rfl [0,3] rfl rfl (λ M26 _ st26=>?_)
   refine wpList_nil (za ?_)
   obtain⟨o27,p27,k27⟩:=bs h22
   refine zo (λ a w=>∃ M1 q27_0 q27_1 q27_2,Sx (Frm.chg w0 G) 44 M M1 [oneB q27_0,q27_1,oneB q27_2] [(4,dt (cmpI .eql v5.2 (0:Int))),(5,dt s14.2.2)] [(3,0,dtip q27_0 173 s14.2.1),(6,2,dbox q27_2 0 o27.2),(0,1,dnm (Ow.box (Ow.frz (α:=Reader))) q27_1 ⟨o27.1⟩ (.pointer (some ⟨b0,0,none⟩)) [])] a w) ?_ ?_
   ·
    refine st26.sqB (sc rfl (oM rfl (tp rfl))<|sc rfl (oM rfl (tp rfl))<|sg rfl rfl (λ hg=>yu Stmt.fld0 rfl kF173_0 (tp rfl))<|sg rfl rfl (λ hg=>zN rfl kT3 (zf hg rfl))<|sg rfl rfl (λ hg=>oCI rfl (zf hg rfl) cI)<|sg rfl rfl (λ hg=>oM rfl (zf hg rfl))<|sgg rfl rfl (λ hg=>yu Stmt.fld0 rfl kF173_0 (tp rfl))<|sgg rfl rfl (λ hg=>zN rfl kT3 (zf hg rfl))<|sgg rfl rfl (λ hg=>oCI rfl (zf hg rfl) cI)<|sg rfl rfl (λ hg=>xv rfl (zf hg rfl) (XX hg rfl))<|sg rfl rfl (λ hg=>oM rfl (zf hg rfl))<|sgg rfl rfl (λ hg=>yu Stmt.fld0 rfl kF173_0 (tp rfl))<|sgg rfl rfl (λ hg=>zN rfl kT3 (zf hg rfl))<|sgg rfl rfl (λ hg=>oCI rfl (zf hg rfl) cI)<|sg rfl rfl (λ hg=>xv rfl (zf hg rfl) (XX hg rfl))<|sc rfl (zW rfl (tp rfl) (zb rfl))<|.nil) [4,5,35] [(0,1),(3,0),(6,2)] (λ _ _ st28=>?_)
    refine st28.cs rfl p27 (λ _ h29=>?_) (λ _ h30=>?_)
    ·
     refine wp_region_list ?_
     refine st28.segB 1 (sc rfl (oM rfl (zg rfl))<|.nil) [4,5,36] [(0,1),(3,0),(6,2)] (λ _ _ st31=>?_)
     obtain⟨v33,p33,h34⟩:=bs h29
     refine st31.cSF (l:=[.const (.int .i64 100)]) 1 (st31.bkN (s:=0) rfl iI) rfl rfl Zo (Eq.trans (st31.st.has 36 _ rfl) (st31.st.has 0 _ rfl).1.symm) (by simp) (.cons cI .nil) (zH p33) [4,5] rfl [3,6] rfl rfl (by decide) (λ G32 M32 _ _ st32=>?_)
     refine st32.segB 1 (sc rfl (zV (parts:=[(0,.const (.int .i64 3)),(3,_),(4,.tmp 37)]) (ns:=[1,1,1,1,1]) (zs:=Yy) rfl rfl WJ WK (λ w a hl=>by
 intro p hp;simp only[List.mem_cons,List.not_mem_nil,or_false] at hp
 rcases hp with rfl | rfl | rfl
 ·
  exact⟨by decide,rfl⟩
 ·
  exact⟨by decide,rfl⟩
 ·
  exact⟨by decide,Rep.len (α:=Int) (OpdR.cells (tp rfl) hl)⟩) (λ w a hl=>Stmt.parts (x:=(⟨(3:Int),⟨[]⟩,0,(⟨[121]⟩:Str),v33.2⟩:Stmt)) (OpdR.cells cI hl) xx ⟨rfl,trivial⟩ (OpdR.cells (zI (by decide)) hl) (OpdR.cells (tp rfl) hl)))<|.nil) [4,5,38] [(0,1),(3,0),(6,2)] (λ _ _ st35=>?_)
     refine st35.store (sb:=6) 2 FldS.id rfl rfl rfl wx rfl rfl (tp rfl) rfl [4,5] rfl [0,3] rfl rfl (λ M37 _ st37=>?_)
     refine wpList_nil (za ?_)
     obtain rfl:=Option.some.inj h34
     exact⟨_,_,_,_,st37.sel [4,5] rfl [(3,0),(6,2),(0,1)] rfl ⟨iI,⟨iI,iT⟩⟩⟩
    refine wp_skip (za ?_)
    obtain rfl:=Option.some.inj h30
    exact⟨_,_,_,_,st28.sel [4,5] rfl [(3,0),(6,2),(0,1)] rfl ⟨iI,⟨iI,iT⟩⟩⟩
   rintro a27 w27 ⟨M27,q27_0,q27_1,q27_2,st27⟩
   have h38:=k27
   refine wp_region_list ?_
   refine st27.segB 3 (sc rfl (oM rfl (tp rfl))<|sc rfl (zN rfl wx (tp rfl))<|sc rfl (yc (opds:=[.tmp 40]) rfl kS92 kY92 rfl rfl (by decide) (.cons (tp rfl) .nil))<|.nil) [4,5,41] [(0,1),(3,0),(39,0)] (λ _ _ st39=>?_)
   obtain⟨v42,p42,h43⟩:=bs h38
   refine st39.app 0 rfl rfl kE92 rfl rfl rfl wA p42 [4,5] rfl [0] rfl rfl (λ g41 M41 _ _ st41=>?_)
   refine st41.segA 1 [4,5] [(0,1),(3,0)] (λ _ _ st44=>?_)
   refine wpList_nil (zi (za ?_))
   obtain⟨v45,p45,h46⟩:=bs h43
   refine st44.rgA [4,5] [(0,1),(3,0)] (λ _ _ st47=>?_)
   refine za ?_
   exact⟨_,(Option.some.inj h46).symm,⟨_,_,_,_,st47.sel [4,5] rfl [(3,0),(0,1)] rfl ⟨iI,iT⟩⟩⟩
  refine wp_exit (zn (zn (zG ?_)))
  refine za ?_
  have h48:=lo h18 hx14
  obtain rfl:=Option.some.inj h48
  exact⟨_,_,_,_,st16.sel [] rfl [(3,0),(0,1)] rfl ⟨iI,iT⟩⟩
 rintro a8 w8 ⟨M8,q8_0,q8_1,q8_2,st8⟩
 have h49:=k8
 refine st8.sqA [] [(0,1),(2,0)] (λ _ _ st50=>?_)
 refine wp_ret ?_
 have st51:=st50.tipW (s:=2) 0 rfl rfl iI [0] rfl
 exact st51.rsO (s:=0) 1 0 rfl rfl rfl iI iI (by decide) (bxr h49)
def qb(x0:Reader):Option (Reader×(List Int)):=
(zD x0 (8:Int)).bind λ v4=>
if(cmpI .eql v4.2 (0:Int))=true then(some (v4.1,([(1:Int),(0:Int)]:List Int)))
else(if(cmpI .eql v4.2 (1:Int))=true then(some (v4.1,([(2:Int),(1:Int),(0:Int)]:List Int)))
else(if(cmpI .eql v4.2 (2:Int))=true then(some (v4.1,([(0:Int)]:List Int)))
else(if(cmpI .eql v4.2 (3:Int))=true then(some (v4.1,([(1:Int)]:List Int)))
else(if(cmpI .eql v4.2 (4:Int))=true then(some (v4.1,([(0:Int),(1:Int)]:List Int)))
else(some (v4.1,([(0:Int),(1:Int),(2:Int)]:List Int)))))))
theorem QO{x0:Reader}{r:Reader×(List Int)}(h:qb x0=some r):FnS Tryz.prog 193 (Ow.box (Ow.frz (α:=Reader))) ⟨x0⟩ [] ⟨r.1⟩ (.frz (dt r.2)):=by
 unfold qb at h
 refine fnSB (fn:=Tryz.f193) 0 1 Tryz.func193 rfl (of_decide_eq_true rfl) rfl (λ M G _ b0 _ st0=>?_)
 refine st0.sqB (sc rfl (oA rfl (qG (α:=Int)))<|.nil) [] [(0,0)] (λ _ _ st1=>?_)
 refine wp_seq (wp_seq (wp_region_list ?_))
 refine st1.segB 1 (sc rfl (oM rfl (zg rfl))<|.nil) [3] [(0,0)] (λ _ _ st2=>?_)
 obtain⟨v4,p4,h5⟩:=bs h
 refine st2.cSF (l:=[.const (.int .i64 8)]) 0 (st2.bkN (s:=0) rfl iI) rfl rfl Zo (Eq.trans (st2.st.has 3 _ rfl) (st2.st.has 0 _ rfl).1.symm) (by simp) (.cons cI .nil) (zH p4) [] rfl [] rfl rfl (by decide) (λ G3 M3 _ _ st3=>?_)
 refine wpList_nil (za (wp_block ?_))
 refine st3.sqA [4,5] [(0,0)] (λ _ _ st6=>?_)
 refine st6.cs rfl h5 (λ _ h7=>?_) (λ _ h8=>?_)
 ·
  refine st6.sqB (sc rfl (yc (opds:=[.const (.int .i64 1),.const (.int .i64 0)]) rfl kS25 kY25 rfl rfl (by decide) (.cons cI (.cons cI .nil)))<|sc rfl (oA rfl (tp rfl))<|.nil) [2] [(0,0)] (λ _ _ st9=>?_)
  refine wp_ret (zr (zd ?_))
  exact st9.rsD (s:=0) 0 rfl rfl rfl iI (bxr h7)
 refine st6.sqA [4,8] [(0,0)] (λ _ _ st10=>?_)
 refine st10.cs rfl h8 (λ _ h11=>?_) (λ _ h12=>?_)
 ·
  refine st10.sqB (sc rfl (yc (opds:=[.const (.int .i64 2),.const (.int .i64 1),.const (.int .i64 0)]) rfl kS25 kY25 rfl rfl (by decide) (.cons cI (.cons cI (.cons cI .nil))))<|sc rfl (oA rfl (tp rfl))<|.nil) [2] [(0,0)] (λ _ _ st13=>?_)
  refine wp_ret (zr (zd ?_))
  exact st13.rsD (s:=0) 0 rfl rfl rfl iI (bxr h11)
 refine st10.sqA [4,11] [(0,0)] (λ _ _ st14=>?_)
 refine st14.cs rfl h12 (λ _ h15=>?_) (λ _ h16=>?_)
 ·
  refine st14.sqB (sc rfl (yc (opds:=[.const (.int .i64 0)]) rfl kS25 kY25 rfl rfl (by decide) (.cons cI .nil))<|sc rfl (oA rfl (tp rfl))<|.nil) [2] [(0,0)] (λ _ _ st17=>?_)
  refine wp_ret (zr (zd ?_))
  exact st17.rsD (s:=0) 0 rfl rfl rfl iI (bxr h15)
 refine st14.sqA [4,14] [(0,0)] (λ _ _ st18=>?_)
 refine st18.cs rfl h16 (λ _ h19=>?_) (λ _ h20=>?_)
 ·
  refine st18.sqB (sc rfl (yc (opds:=[.const (.int .i64 1)]) rfl kS25 kY25 rfl rfl (by decide) (.cons cI .nil))<|sc rfl (oA rfl (tp rfl))<|.nil) [2] [(0,0)] (λ _ _ st21=>?_)
  refine wp_ret (zr (zd ?_))
  exact st21.rsD (s:=0) 0 rfl rfl rfl iI (bxr h19)
 refine st18.sqA [17] [(0,0)] (λ _ _ st22=>?_)
 refine st22.cs rfl h20 (λ _ h23=>?_) (λ _ h24=>?_)
 ·
  refine st22.sqB (sc rfl (yc (opds:=[.const (.int .i64 0),.const (.int .i64 1)]) rfl kS25 kY25 rfl rfl (by decide) (.cons cI (.cons cI .nil)))<|sc rfl (oA rfl (tp rfl))<|.nil) [2] [(0,0)] (λ _ _ st25=>?_)
  refine wp_ret (zr (zd ?_))
  exact st25.rsD (s:=0) 0 rfl rfl rfl iI (bxr h23)
 refine wp_skip (zi (za ?_))
 refine st22.sqB (sc rfl (yc (opds:=[.const (.int .i64 0),.const (.int .i64 1),.const (.int .i64 2)]) rfl kS25 kY25 rfl rfl (by decide) (.cons cI (.cons cI (.cons cI .nil))))<|sc rfl (oA rfl (tp rfl))<|.nil) [2] [(0,0)] (λ _ _ st26=>?_)
 refine wp_ret ?_
 exact st26.rsD (s:=0) 0 rfl rfl rfl iI (bxr h24)
def qc(x0:Reader):Option (Reader×File):=
(yq x0 ([(0:Int),(0:Int),(1:Int),(2:Int),(1:Int)]:List Int)).bind λ v5=>
(zD v5.1 (100:Int)).bind λ v10=>
(qa v10.1).bind λ v15=>
Option.bind (α:=Reader×File) ((zD v15.1 (6:Int)).bind λ v27=>
Option.bind (α:=Bool) (if(cmpI .eql v27.2 (0:Int))=true then(some (cmpI .eql v27.2 (0:Int)))
else(some (cmpI .eql v27.2 (1:Int)))) λ o30=>
if o30=true then((yJ v27.1).bind λ v44=>
some (v44.1,{ (⟨v5.2,⟨[]⟩,⟨[]⟩,false,v10.2,v15.2⟩:File) with name:=v44.2 }))
else(Option.bind (α:=Bool) (if(cmpI .eql v27.2 (2:Int))=true then(some (cmpI .eql v27.2 (2:Int)))
else(some (cmpI .eql v27.2 (3:Int)))) λ o51=>
if o51=true then((yJ v27.1).bind λ v61=>
(yJ v61.1).bind λ v69=>
some (v69.1,{ (⟨v5.2,⟨[]⟩,⟨[]⟩,false,v10.2,v15.2⟩:File) with pkg:=v61.2,name:=v69.2 }))
else(if(cmpI .eql v27.2 (4:Int))=true then((yJ v27.1).bind λ v80=>
some (v80.1,{ (⟨v5.2,⟨[]⟩,⟨[]⟩,false,v10.2,v15.2⟩:File) with pkg:=v80.2,init:=true }))
else((yJ v27.1).bind λ v91=>
(catO v91.2 (⟨[46]⟩:Str)).bind λ v94=>
(yJ v91.1).bind λ v98=>
(catO v94 v98.2).bind λ v101=>
(zD v98.1 (2:Int)).bind λ v108=>
if(cmpI .eql v108.2 (0:Int))=true then(some (v108.1,{ (⟨v5.2,⟨[]⟩,⟨[]⟩,false,v10.2,v15.2⟩:File) with pkg:=v101,init:=true }))
else((yJ v108.1).bind λ v119=>
some (v119.1,{ (⟨v5.2,⟨[]⟩,⟨[]⟩,false,v10.2,v15.2⟩:File) with pkg:=v101,name:=v119.2 })))))) λ o24=>
some (o24.1,o24.2)
theorem QP{x0:Reader}{r:Reader×File}(h:qc x0=some r):FnS Tryz.prog 226 (Ow.box (Ow.frz (α:=Reader))) ⟨x0⟩ [] ⟨r.1⟩ (.ow (owFile (Ow.row 173 (Ow.frz (α:=Stmt)))) r.2):=by
 unfold qc at h
 refine fnSB (fn:=Tryz.f226) 2 5 Tryz.func226 rfl (of_decide_eq_true rfl) rfl (λ M G w0 b0 _ st0=>?_)
 refine wp_seq (wp_region_list ?_)
 refine st0.alcW (ow:=(owFile (Ow.row 173 (Ow.frz (α:=Stmt))))) 3 rfl rfl kZ94 (owFile.z Ow.row_z) (by simp) [] rfl [0] rfl rfl (λ b1 M1 _ _ st1=>?_)
 have st2:=st1.gs (Gs':=[oneB none,oneB none,G,(oneB (some b1)),oneB none]) rfl
 refine wpList_nil (za (wp_seq (wp_region_list ?_)))
 refine st2.segB 2 (sc rfl (oM rfl (zg rfl))<|sc rfl (yc (opds:=[.const (.int .i64 0),.const (.int .i64 0),.const (.int .i64 1),.const (.int .i64 2),.const (.int .i64 1)]) rfl kS25 kY25 rfl rfl (by decide) (.cons cI (.cons cI (.cons cI (.cons cI (.cons cI .nil))))))<|.nil) [4,5] [(0,2),(2,3)] (λ _ _ st3=>?_)
 obtain⟨v5,p5,h6⟩:=bs h
 refine st3.cSF (l:=[.tmp 5]) 2 (st3.bkN (s:=0) rfl iI) rfl rfl kN158 (Eq.trans (st3.st.has 4 _ rfl) (st3.st.has 0 _ rfl).1.symm) (by simp) (.cons (tp rfl) .nil) (xC p5) [] rfl [2] rfl rfl (by decide) (λ G4 M4 _ _ st4=>?_)
 have st7:=st4.gs (Gs':=[oneB none,oneB none,G4,(oneB (some b1)),oneB none]) rfl
 refine st7.segB 1 (sc rfl (oM rfl (zg rfl))<|.nil) [6,7] [(0,2),(2,3)] (λ _ _ st8=>?_)
 obtain⟨v10,p10,h11⟩:=bs h6
 refine st8.cSF (l:=[.const (.int .i64 100)]) 2 (st8.bkN (s:=0) rfl iI) rfl rfl Zo (Eq.trans (st8.st.has 7 _ rfl) (st8.st.has 0 _ rfl).1.symm) (by simp) (.cons cI .nil) (zH p10) [6] rfl [2] rfl rfl (by decide) (λ G9 M9 _ _ st9=>?_)
 have st12:=st9.gs (Gs':=[oneB none,oneB none,G9,(oneB (some b1)),oneB none]) rfl
 refine st12.segB 1 (sc rfl (oM rfl (zg rfl))<|.nil) [6,8,9] [(0,2),(2,3)] (λ _ _ st13=>?_)
 obtain⟨v15,p15,h16⟩:=bs h11
 refine st13.cSO (l:=[]) 2 0 (st13.bkN (s:=0) rfl iI) rfl rfl kN255 (Eq.trans (st13.st.has 9 _ rfl) (st13.st.has 0 _ rfl).1.symm) (by simp) (by simp) (by decide) .nil (QN p15) [6,8] rfl [2] rfl rfl rfl rfl (by decide) (λ G14 H14 M14 _ _ st14=>?_)
 have st17:=st14.gs (Gs':=[H14,oneB none,G14,(oneB (some b1)),oneB none]) rfl
 refine st17.bldW (ow:=(owFile (Ow.row 173 (Ow.frz (α:=Stmt))))) (parts:=[(0,.tmp 6),(4,.tmp 8),(5,.tmp 10)]) (ns:=[1,1,1,1,1,1]) (zs:=zpFile) (x:=(⟨v5.2,⟨[]⟩,⟨[]⟩,false,v10.2,v15.2⟩:File)) 1 [0] rfl rfl rfl kB94 kC94 (by
 intro p hp;simp only[List.mem_cons,List.not_mem_nil,or_false] at hp
 rcases hp with rfl | rfl | rfl
 ·
  exact⟨by decide,Rep.len (α:=Int) (OpdR.cells (tp rfl) (λ s y hs=>st17.st.has s y hs))⟩
 ·
  exact⟨by decide,Rep.len (α:=Int) (OpdR.cells (tp rfl) (λ s y hs=>st17.st.has s y hs))⟩
 ·
  exact⟨by decide,Ow.len _ (jl (st17.st.has 10 _ rfl))⟩) (((owFile (Ow.row 173 (Ow.frz (α:=Stmt))))).more (owFile.mk (x:=(⟨v5.2,⟨[]⟩,⟨[]⟩,false,v10.2,v15.2⟩:File)) (OpdR.cells (tp rfl) (λ s y hs=>st17.st.has s y hs)) xx xx ⟨rfl,trivial⟩ (OpdR.cells (tp rfl) (λ s y hs=>st17.st.has s y hs)) (jl (st17.st.has 10 _ rfl))) (λ b=>(λ hb=>⟨0,by simp,hb⟩))) (by simp) [] rfl [0,2] rfl rfl rfl (λ G18 _ _ st18=>?_)
 have st19:=st18.gs (Gs':=[oneB none,G18,G14,(oneB (some b1)),oneB none]) rfl
 refine st19.alcW (ow:=(owFile (Ow.row 173 (Ow.frz (α:=Stmt))))) 4 rfl rfl kZ94 (owFile.z Ow.row_z) (by simp) [] rfl [0,2,11] rfl rfl (λ b20 M20 _ _ st20=>?_)
 have st21:=st20.gs (Gs':=[oneB none,G18,G14,(oneB (some b1)),(oneB (some b20))]) rfl
 refine st21.stO (sb:=3) (tv:=11) 4 1 (PV.root.box rfl) rfl rfl rfl kT94 (by simp) (by simp) (by decide) (zg rfl) rfl rfl rfl iI iI [] rfl [0,2] rfl rfl rfl (λ G22 _ st22=>?_)
 have st23:=st22.gs (Gs':=[oneB none,oneB none,G14,(oneB (some b1)),G22]) rfl
 refine wpList_nil (za ?_)
 obtain⟨o24,p24,k24⟩:=bs h16
 refine zo (λ a w=>∃ M1 q24_0 q24_1 q24_2 q24_3 q24_4,Sx (Frm.chg w0 G) 50 M M1 [q24_0,q24_1,q24_2,q24_3,q24_4] [] [(0,2,dnm (Ow.box (Ow.frz (α:=Reader))) q24_2 ⟨o24.1⟩ (.pointer (some ⟨b0,0,none⟩)) []),(2,3,dow (Ow.box (owFile (Ow.row 173 (Ow.frz (α:=Stmt))))) q24_3 ⟨zFile⟩),(3,4,dow (Ow.box (owFile (Ow.row 173 (Ow.frz (α:=Stmt))))) q24_4 ⟨o24.2⟩)] a w) ?_ ?_
 ·
  refine wp_seq (wp_region_list ?_)
  refine st23.segB 1 (sc rfl (oM rfl (zg rfl))<|.nil) [12] [(0,2),(2,3),(3,4)] (λ _ _ st25=>?_)
  obtain⟨v27,p27,h28⟩:=bs p24
  refine st25.cSF (l:=[.const (.int .i64 6)]) 2 (st25.bkN (s:=0) rfl iI) rfl rfl Zo (Eq.trans (st25.st.has 12 _ rfl) (st25.st.has 0 _ rfl).1.symm) (by simp) (.cons cI .nil) (zH p27) [] rfl [2,3] rfl rfl (by decide) (λ G26 M26 _ _ st26=>?_)
  have st29:=st26.gs (Gs':=[oneB none,oneB none,G26,(oneB (some b1)),G22]) rfl
  refine wpList_nil (za (wp_block ?_))
  obtain⟨o30,p30,k30⟩:=bs h28
  refine zo (λ a w=>∃ M1 q30_0 q30_1 q30_2 q30_3 q30_4,Sx (Frm.chg w0 G) 50 M M1 [q30_0,q30_1,q30_2,q30_3,q30_4] [(13,dt v27.2),(28,dt o30)] [(0,2,dnm (Ow.box (Ow.frz (α:=Reader))) q30_2 ⟨v27.1⟩ (.pointer (some ⟨b0,0,none⟩)) []),(2,3,dow (Ow.box (owFile (Ow.row 173 (Ow.frz (α:=Stmt))))) q30_3 ⟨zFile⟩),(3,4,dow (Ow.box (owFile (Ow.row 173 (Ow.frz (α:=Stmt))))) q30_4 ⟨(⟨v5.2,⟨[]⟩,⟨[]⟩,false,v10.2,v15.2⟩:File)⟩)] a w) ?_ ?_
  ·
   refine st29.sqA [13,28] [(0,2),(2,3),(3,4)] (λ _ _ st31=>?_)
   refine st31.cs rfl p30 (λ _ h32=>?_) (λ _ h33=>?_)
   ·
    refine wp_skip ?_
    have st34:=st31.unm (s:=2) 3 rfl rfl iI [0,3] rfl
    have st35:=st34.unm (s:=3) 4 rfl rfl iI [0,2] rfl
    refine za ?_
    obtain rfl:=Option.some.inj h32
    exact⟨_,_,_,_,_,_,st35.sel [13,28] rfl [(0,2),(2,3),(3,4)] rfl ⟨iI,⟨iI,iT⟩⟩⟩
   refine st31.rgA [13,28] [(0,2),(2,3),(3,4)] (λ _ _ st36=>?_)
   have st37:=st36.unm (s:=2) 3 rfl rfl iI [0,3] rfl
   have st38:=st37.unm (s:=3) 4 rfl rfl iI [0,2] rfl
   refine za ?_
   obtain rfl:=Option.some.inj h33
   exact⟨_,_,_,_,_,_,st38.sel [13,28] rfl [(0,2),(2,3),(3,4)] rfl ⟨iI,⟨iI,iT⟩⟩⟩
  rintro a30 w30 ⟨M30,q30_0,q30_1,q30_2,q30_3,q30_4,st30⟩
  have h39:=k30
  refine st30.cs rfl h39 (λ _ h40=>?_) (λ _ h41=>?_)
  ·
   refine wp_region_list ?_
   refine st30.segB 1 (sc rfl (oM rfl (zg rfl))<|.nil) [31] [(0,2),(2,3),(3,4)] (λ _ _ st42=>?_)
   obtain⟨v44,p44,h45⟩:=bs h40
   refine st42.cSF (l:=[]) 2 (st42.bkN (s:=0) rfl iI) rfl rfl WQ (Eq.trans (st42.st.has 31 _ rfl) (st42.st.has 0 _ rfl).1.symm) (by simp) .nil (xY p44) [] rfl [2,3] rfl rfl (by decide) (λ G43 M43 _ _ st43=>?_)
   have st46:=st43.gs (Gs':=[q30_0,q30_1,G43,q30_3,q30_4]) rfl
   refine st46.nmB (s:=3) 4 rfl rfl iI [0,2] rfl (λ b47 st47=>?_)
   refine st47.segB 1 (sc rfl (xFa rfl X8 (zg rfl))<|.nil) [32,33] [(0,2),(2,3),(3,4)] (λ _ _ st48=>?_)
   refine st48.stF (sb:=3) 4 ((PV.root.box rfl).fld owFile.f2) rfl rfl rfl kT9 (by simp) (tp rfl) (tp rfl) rfl rfl iI [] rfl [0,2] rfl rfl (λ _ st49=>?_)
   refine wpList_nil (zi ?_)
   have st50:=st49.unm (s:=3) 4 rfl rfl iI [0,2] rfl
   refine za ?_
   obtain rfl:=Option.some.inj h45
   exact⟨_,_,_,_,_,_,st50.sel [] rfl [(0,2),(2,3),(3,4)] rfl ⟨iI,⟨iI,iT⟩⟩⟩
  obtain⟨o51,p51,k51⟩:=bs h41
  refine zo (λ a w=>∃ M1 q51_0 q51_1 q51_2 q51_3 q51_4,Sx (Frm.chg w0 G) 50 M M1 [q51_0,q51_1,q51_2,q51_3,q51_4] [(13,dt v27.2),(34,dt o51)] [(0,2,dnm (Ow.box (Ow.frz (α:=Reader))) q51_2 ⟨v27.1⟩ (.pointer (some ⟨b0,0,none⟩)) []),(2,3,dow (Ow.box (owFile (Ow.row 173 (Ow.frz (α:=Stmt))))) q51_3 ⟨zFile⟩),(3,4,dow (Ow.box (owFile (Ow.row 173 (Ow.frz (α:=Stmt))))) q51_4 ⟨(⟨v5.2,⟨[]⟩,⟨[]⟩,false,v10.2,v15.2⟩:File)⟩)] a w) ?_ ?_
  ·
   refine st30.sqA [13,34] [(0,2),(2,3),(3,4)] (λ _ _ st52=>?_)
   refine st52.cs rfl p51 (λ _ h53=>?_) (λ _ h54=>?_)
   ·
    refine wp_skip (za ?_)
    obtain rfl:=Option.some.inj h53
    exact⟨_,_,_,_,_,_,st52.sel [13,34] rfl [(0,2),(2,3),(3,4)] rfl ⟨iI,⟨iI,iT⟩⟩⟩
   refine st52.rgA [13,34] [(0,2),(2,3),(3,4)] (λ _ _ st55=>?_)
   refine za ?_
   obtain rfl:=Option.some.inj h54
   exact⟨_,_,_,_,_,_,st55.sel [13,34] rfl [(0,2),(2,3),(3,4)] rfl ⟨iI,⟨iI,iT⟩⟩⟩
  rintro a51 w51 ⟨M51,q51_0,q51_1,q51_2,q51_3,q51_4,st51⟩
  have h56:=k51
  refine st51.cs rfl h56 (λ _ h57=>?_) (λ _ h58=>?_)
  ·
   refine wp_seq (wp_region_list ?_)
   refine st51.segB 1 (sc rfl (oM rfl (zg rfl))<|.nil) [37] [(0,2),(2,3),(3,4)] (λ _ _ st59=>?_)
   obtain⟨v61,p61,h62⟩:=bs h57
   refine st59.cSF (l:=[]) 2 (st59.bkN (s:=0) rfl iI) rfl rfl WQ (Eq.trans (st59.st.has 37 _ rfl) (st59.st.has 0 _ rfl).1.symm) (by simp) .nil (xY p61) [] rfl [2,3] rfl rfl (by decide) (λ G60 M60 _ _ st60=>?_)
   have st63:=st60.gs (Gs':=[q51_0,q51_1,G60,q51_3,q51_4]) rfl
   refine st63.nmB (s:=3) 4 rfl rfl iI [0,2] rfl (λ b64 st64=>?_)
   refine st64.segB 1 (sc rfl (xFa rfl XD (zg rfl))<|.nil) [38,39] [(0,2),(2,3),(3,4)] (λ _ _ st65=>?_)
   refine st65.stF (sb:=3) 4 ((PV.root.box rfl).fld owFile.f1) rfl rfl rfl kT9 (by simp) (tp rfl) (tp rfl) rfl rfl iI [] rfl [0,2] rfl rfl (λ _ st66=>?_)
   refine wpList_nil (za (wp_region_list ?_))
   refine st66.segB 1 (sc rfl (oM rfl (zg rfl))<|.nil) [40] [(0,2),(2,3),(3,4)] (λ _ _ st67=>?_)
   obtain⟨v69,p69,h70⟩:=bs h62
   refine st67.cSF (l:=[]) 2 (st67.bkN (s:=0) rfl iI) rfl rfl WQ (Eq.trans (st67.st.has 40 _ rfl) (st67.st.has 0 _ rfl).1.symm) (by simp) .nil (xY p69) [] rfl [2,3] rfl rfl (by decide) (λ G68 M68 _ _ st68=>?_)
   have st71:=st68.gs (Gs':=[q51_0,q51_1,G68,q51_3,q51_4]) rfl
   refine st71.segB 1 (sc rfl (xFa rfl X8 (zg rfl))<|.nil) [41,42] [(0,2),(2,3),(3,4)] (λ _ _ st72=>?_)
   refine st72.stF (sb:=3) 4 ((PV.root.box rfl).fld owFile.f2) rfl rfl rfl kT9 (by simp) (tp rfl) (tp rfl) rfl rfl iI [] rfl [0,2] rfl rfl (λ _ st73=>?_)
   refine wpList_nil (zi ?_)
   have st74:=st73.unm (s:=3) 4 rfl rfl iI [0,2] rfl
   refine za ?_
   obtain rfl:=Option.some.inj h70
   exact⟨_,_,_,_,_,_,st74.sel [] rfl [(0,2),(2,3),(3,4)] rfl ⟨iI,⟨iI,iT⟩⟩⟩
  refine st51.sqA [43] [(0,2),(2,3),(3,4)] (λ _ _ st75=>?_)
  refine st75.cs rfl h58 (λ _ h76=>?_) (λ _ h77=>?_)
  ·
   refine wp_seq (wp_region_list ?_)
   refine st75.segB 1 (sc rfl (oM rfl (zg rfl))<|.nil) [45] [(0,2),(2,3),(3,4)] (λ _ _ st78=>?_)
   obtain⟨v80,p80,h81⟩:=bs h76
   refine st78.cSF (l:=[]) 2 (st78.bkN (s:=0) rfl iI) rfl rfl WQ (Eq.trans (st78.st.has 45 _ rfl) (st78.st.has 0 _ rfl).1.symm) (by simp) .nil (xY p80) [] rfl [2,3] rfl rfl (by decide) (λ G79 M79 _ _ st79=>?_)
   have st82:=st79.gs (Gs':=[q51_0,q51_1,G79,q51_3,q51_4]) rfl
   refine st82.nmB (s:=3) 4 rfl rfl iI [0,2] rfl (λ b83 st83=>?_)
   refine st83.segB 1 (sc rfl (xFa rfl XD (zg rfl))<|.nil) [46,47] [(0,2),(2,3),(3,4)] (λ _ _ st84=>?_)
   refine st84.stF (sb:=3) 4 ((PV.root.box rfl).fld owFile.f1) rfl rfl rfl kT9 (by simp) (tp rfl) (tp rfl) rfl rfl iI [] rfl [0,2] rfl rfl (λ _ st85=>?_)
   refine wpList_nil (za (wp_region_list ?_))
   refine st85.segB 1 (sc rfl (xFa rfl kF94_3 (zg rfl))<|.nil) [48] [(0,2),(2,3),(3,4)] (λ _ _ st86=>?_)
   refine st86.stF (sb:=3) 4 ((PV.root.box rfl).fld owFile.f3) rfl rfl rfl kT4 (by simp) (tp rfl) cB rfl rfl iI [] rfl [0,2] rfl rfl (λ _ st87=>?_)
   refine wpList_nil (zi ?_)
   have st88:=st87.unm (s:=3) 4 rfl rfl iI [0,2] rfl
   refine za ?_
   obtain rfl:=Option.some.inj h81
   exact⟨_,_,_,_,_,_,st88.sel [] rfl [(0,2),(2,3),(3,4)] rfl ⟨iI,⟨iI,iT⟩⟩⟩
  refine wp_seq (wp_region_list ?_)
  refine st75.segB 1 (sc rfl (oM rfl (zg rfl))<|.nil) [14] [(0,2),(2,3),(3,4)] (λ _ _ st89=>?_)
  obtain⟨v91,p91,h92⟩:=bs h77
  refine st89.cSF (l:=[]) 2 (st89.bkN (s:=0) rfl iI) rfl rfl WQ (Eq.trans (st89.st.has 14 _ rfl) (st89.st.has 0 _ rfl).1.symm) (by simp) .nil (xY p91) [] rfl [2,3] rfl rfl (by decide) (λ G90 M90 _ _ st90=>?_)
  have st93:=st90.gs (Gs':=[q51_0,q51_1,G90,q51_3,q51_4]) rfl
  obtain⟨v94,p94,h95⟩:=bs h92
  refine st93.segB 2 (sc rfl (xCat rfl (tp rfl) (zI (by decide)) p94)<|sc rfl (oM rfl (zg rfl))<|.nil) [16,17] [(0,2),(2,3),(3,4)] (λ _ _ st96=>?_)
  obtain⟨v98,p98,h99⟩:=bs h95
  refine st96.cSF (l:=[]) 2 (st96.bkN (s:=0) rfl iI) rfl rfl WQ (Eq.trans (st96.st.has 17 _ rfl) (st96.st.has 0 _ rfl).1.symm) (by simp) .nil (xY p98) [16] rfl [2,3] rfl rfl (by decide) (λ G97 M97 _ _ st97=>?_)
  have st100:=st97.gs (Gs':=[q51_0,q51_1,G97,q51_3,q51_4]) rfl
  obtain⟨v101,p101,h103⟩:=bs h99
  refine st100.nmB (s:=3) 4 rfl rfl iI [0,2] rfl (λ b102 st102=>?_)
  refine st102.segB 2 (sc rfl (xCat rfl (tp rfl) (tp rfl) p101)<|sc rfl (xFa rfl XD (zg rfl))<|.nil) [19,20] [(0,2),(2,3),(3,4)] (λ _ _ st104=>?_)
  refine st104.stF (sb:=3) 4 ((PV.root.box rfl).fld owFile.f1) rfl rfl rfl kT9 (by simp) (tp rfl) (tp rfl) rfl rfl iI [] rfl [0,2] rfl rfl (λ _ st105=>?_)
  refine wpList_nil (za (wp_seq (wp_region_list ?_)))
  refine st105.segB 1 (sc rfl (oM rfl (zg rfl))<|.nil) [21] [(0,2),(2,3),(3,4)] (λ _ _ st106=>?_)
  obtain⟨v108,p108,h109⟩:=bs h103
  refine st106.cSF (l:=[.const (.int .i64 2)]) 2 (st106.bkN (s:=0) rfl iI) rfl rfl Zo (Eq.trans (st106.st.has 21 _ rfl) (st106.st.has 0 _ rfl).1.symm) (by simp) (.cons cI .nil) (zH p108) [] rfl [2,3] rfl rfl (by decide) (λ G107 M107 _ _ st107=>?_)
  have st110:=st107.gs (Gs':=[q51_0,q51_1,G107,q51_3,q51_4]) rfl
  refine st110.segA 1 [23] [(0,2),(2,3),(3,4)] (λ _ _ st111=>?_)
  refine wpList_nil (za ?_)
  refine st111.cs rfl h109 (λ _ h112=>?_) (λ _ h113=>?_)
  ·
   refine wp_region_list ?_
   refine st111.segB 1 (sc rfl (xFa rfl kF94_3 (zg rfl))<|.nil) [24] [(0,2),(2,3),(3,4)] (λ _ _ st114=>?_)
   refine st114.stF (sb:=3) 4 ((PV.root.box rfl).fld owFile.f3) rfl rfl rfl kT4 (by simp) (tp rfl) cB rfl rfl iI [] rfl [0,2] rfl rfl (λ _ st115=>?_)
   refine wpList_nil (zi ?_)
   have st116:=st115.unm (s:=3) 4 rfl rfl iI [0,2] rfl
   refine za ?_
   obtain rfl:=Option.some.inj h112
   exact⟨_,_,_,_,_,_,st116.sel [] rfl [(0,2),(2,3),(3,4)] rfl ⟨iI,⟨iI,iT⟩⟩⟩
  refine wp_region_list ?_
  refine st111.segB 1 (sc rfl (oM rfl (zg rfl))<|.nil) [25] [(0,2),(2,3),(3,4)] (λ _ _ st117=>?_)
  obtain⟨v119,p119,h120⟩:=bs h113
  refine st117.cSF (l:=[]) 2 (st117.bkN (s:=0) rfl iI) rfl rfl WQ (Eq.trans (st117.st.has 25 _ rfl) (st117.st.has 0 _ rfl).1.symm) (by simp) .nil (xY p119) [] rfl [2,3] rfl rfl (by decide) (λ G118 M118 _ _ st118=>?_)
  have st121:=st118.gs (Gs':=[q51_0,q51_1,G118,q51_3,q51_4]) rfl
  refine st121.segB 1 (sc rfl (xFa rfl X8 (zg rfl))<|.nil) [26,27] [(0,2),(2,3),(3,4)] (λ _ _ st122=>?_)
  refine st122.stF (sb:=3) 4 ((PV.root.box rfl).fld owFile.f2) rfl rfl rfl kT9 (by simp) (tp rfl) (tp rfl) rfl rfl iI [] rfl [0,2] rfl rfl (λ _ st123=>?_)
  refine wpList_nil (zi ?_)
  have st124:=st123.unm (s:=3) 4 rfl rfl iI [0,2] rfl
  refine za ?_
  obtain rfl:=Option.some.inj h120
  exact⟨_,_,_,_,_,_,st124.sel [] rfl [(0,2),(2,3),(3,4)] rfl ⟨iI,⟨iI,iT⟩⟩⟩
 rintro a24 w24 ⟨M24,q24_0,q24_1,q24_2,q24_3,q24_4,st24⟩
 have h125:=k24
 refine wp_seq (wp_region_list ?_)
 refine st24.nmB (s:=3) 4 rfl rfl iI [0,2] rfl (λ b127 st127=>?_)
 refine st127.ldW (sb:=3) 4 rfl rfl kT94 rfl (by simp) iI [] rfl [0,2] rfl rfl (λ _ _ st126=>?_)
 refine st126.nmB (s:=2) 3 rfl rfl iI [0,49] rfl (λ b129 st129=>?_)
 refine st129.stO (sb:=2) (tv:=49) 3 4 (PV.root.box rfl) rfl rfl rfl kT94 (by simp) (by simp) (by decide) (zg rfl) rfl rfl rfl iI iI [] rfl [0] rfl rfl rfl (λ G128 _ st128=>?_)
 have st130:=st128.gs (Gs':=[q24_0,q24_1,q24_2,G128,oneB none]) rfl
 refine wpList_nil (za (wp_ret ?_))
 exact st130.rsCO (s:=0) 2 3 rfl kT94 rfl rfl iI iI (by decide) (bxr h125)
def xV(s18:Reader×Tree×Int):Option ((Reader×Tree×Int)⊕(Reader×Tree)):=
if(cmpI .gtr s18.2.2 (0:Int))=true then(Option.bind (α:=Reader×Tree) ((qc s18.1).bind λ v26=>
(Y6 s18.2.1 v26.2).bind λ v36=>
if(cmpI .lss v36 (0:Int))=true then((appO 80 s18.2.1.files [v26.2]).bind λ v51=>
some (v26.1,(⟨v51⟩:Tree)))
else(some (v26.1,s18.2.1))) λ o23=>
(i64 (s18.2.2 - (1:Int))).bind λ v60=>
some (.inl (o23.1,o23.2,v60)))
else(some (.inr (s18.1,s18.2.1)))
def qd(x0:Reader):Option (Reader×Tree):=
Option.bind (α:=Reader×Tree) ((yq x0 ([(5:Int),(4:Int),(6:Int),(3:Int),(8:Int),(1:Int),(0:Int),(10:Int)]:List Int)).bind λ v12=>
zX (λ s18=>xV s18) (v12.1,(⟨[]⟩:Tree),v12.2)) λ o9=>
some (o9.1,o9.2)
theorem QQ{x0:Reader}{r:Reader×Tree}(h:qd x0=some r):FnS Tryz.prog 192 (Ow.box (Ow.frz (α:=Reader))) ⟨x0⟩ [] ⟨r.1⟩ (.ow (owTree (Ow.row 94 (owFile (Ow.row 173 (Ow.frz (α:=Stmt)))))) r.2):=by
 unfold qd at h
 refine fnSB (fn:=Tryz.f192) 1 9 Tryz.func192 rfl (of_decide_eq_true rfl) rfl (λ M G w0 b0 _ st0=>?_)
 refine wp_seq (wp_region_list ?_)
 refine st0.alcW (ow:=(owTree (Ow.row 94 (owFile (Ow.row 173 (Ow.frz (α:=Stmt))))))) 6 rfl rfl kZ30 (owTree.z Ow.row_z) (by simp) [] rfl [0] rfl rfl (λ b1 M1 _ _ st1=>?_)
 have st2:=st1.gs (Gs':=[oneB none,G,oneB none,oneB none,oneB none,oneB none,(oneB (some b1)),oneB none,oneB none]) rfl
 refine wpList_nil (za (wp_seq (wp_region_list ?_)))
 refine st2.bldW (ow:=(owTree (Ow.row 94 (owFile (Ow.row 173 (Ow.frz (α:=Stmt))))))) (parts:=[]) (ns:=[1]) (zs:=zpTree) (x:=(⟨[]⟩:Tree)) 0 [] rfl rfl rfl kB30 kC30 (by simp) (((owTree (Ow.row 94 (owFile (Ow.row 173 (Ow.frz (α:=Stmt))))))).more (owTree.mk (x:=(⟨[]⟩:Tree)) (Ow.row_z _ _)) (λ b=>(λ hb=>hb.elim))) (by simp) [] rfl [0,2] rfl rfl rfl (λ G3 _ _ st3=>?_)
 have st4:=st3.gs (Gs':=[G3,G,oneB none,oneB none,oneB none,oneB none,(oneB (some b1)),oneB none,oneB none]) rfl
 refine st4.alcW (ow:=(owTree (Ow.row 94 (owFile (Ow.row 173 (Ow.frz (α:=Stmt))))))) 7 rfl rfl kZ30 (owTree.z Ow.row_z) (by simp) [] rfl [0,2,6] rfl rfl (λ b5 M5 _ _ st5=>?_)
 have st6:=st5.gs (Gs':=[G3,G,oneB none,oneB none,oneB none,oneB none,(oneB (some b1)),(oneB (some b5)),oneB none]) rfl
 refine st6.stO (sb:=3) (tv:=6) 7 0 (PV.root.box rfl) rfl rfl rfl kT30 (by simp) (by simp) (by decide) (zg rfl) rfl rfl rfl iI iI [] rfl [0,2] rfl rfl rfl (λ G7 _ st7=>?_)
 have st8:=st7.gs (Gs':=[oneB none,G,oneB none,oneB none,oneB none,oneB none,(oneB (some b1)),G7,oneB none]) rfl
 refine wpList_nil (za ?_)
 obtain⟨o9,p9,k9⟩:=bs h
 refine zo (λ a w=>∃ M1 q9_0 q9_1 q9_2 q9_3 q9_4 q9_5 q9_6 q9_7 q9_8,Sx (Frm.chg w0 G) 27 M M1 [q9_0,q9_1,q9_2,q9_3,q9_4,q9_5,q9_6,q9_7,q9_8] [] [(0,1,dnm (Ow.box (Ow.frz (α:=Reader))) q9_1 ⟨o9.1⟩ (.pointer (some ⟨b0,0,none⟩)) []),(2,6,dow (Ow.box (owTree (Ow.row 94 (owFile (Ow.row 173 (Ow.frz (α:=Stmt))))))) q9_6 ⟨zTree⟩),(3,7,dow (Ow.box (owTree (Ow.row 94 (owFile (Ow.row 173 (Ow.frz (α:=Stmt))))))) q9_7 ⟨o9.2⟩)] a w) ?_ ?_
 ·
  refine wp_seq (wp_region_list ?_)
  refine st8.segB 2 (sc rfl (oM rfl (zg rfl))<|sc rfl (yc (opds:=[.const (.int .i64 5),.const (.int .i64 4),.const (.int .i64 6),.const (.int .i64 3),.const (.int .i64 8),.const (.int .i64 1),.const (.int .i64 0),.const (.int .i64 10)]) rfl kS25 kY25 rfl rfl (by decide) (.cons cI (.cons cI (.cons cI (.cons cI (.cons cI (.cons cI (.cons cI (.cons cI .nil)))))))))<|.nil) [7,8] [(0,1),(2,6),(3,7)] (λ _ _ st10=>?_)
  obtain⟨v12,p12,h13⟩:=bs p9
  refine st10.cSF (l:=[.tmp 8]) 1 (st10.bkN (s:=0) rfl iI) rfl rfl kN158 (Eq.trans (st10.st.has 7 _ rfl) (st10.st.has 0 _ rfl).1.symm) (by simp) (.cons (tp rfl) .nil) (xC p12) [] rfl [2,3] rfl rfl (by decide) (λ G11 M11 _ _ st11=>?_)
  have st14:=st11.gs (Gs':=[oneB none,G11,oneB none,oneB none,oneB none,oneB none,(oneB (some b1)),G7,oneB none]) rfl
  refine st14.segA 1 [4] [(0,1),(2,6),(3,7)] (λ _ _ st15=>?_)
  refine wpList_nil (za (wp_block ?_))
  have st16:=st15.unm (s:=2) 6 rfl rfl iI [0,3] rfl
  have st17:=st16.unm (s:=3) 7 rfl rfl iI [0,2] rfl
  refine zO h13 (λ s18 a w=>∃ M1 q18_0 q18_1 q18_2 q18_3 q18_4 q18_5 q18_6 q18_7 q18_8,Sx (Frm.chg w0 G) 27 M M1 [q18_0,q18_1,q18_2,q18_3,q18_4,q18_5,q18_6,q18_7,q18_8] [(4,dt s18.2.2)] [(0,1,dnm (Ow.box (Ow.frz (α:=Reader))) q18_1 ⟨s18.1⟩ (.pointer (some ⟨b0,0,none⟩)) []),(2,6,dow (Ow.box (owTree (Ow.row 94 (owFile (Ow.row 173 (Ow.frz (α:=Stmt))))))) q18_6 ⟨zTree⟩),(3,7,dow (Ow.box (owTree (Ow.row 94 (owFile (Ow.row 173 (Ow.frz (α:=Stmt))))))) q18_7 ⟨s18.2.1⟩)] a w) ⟨_,_,_,_,_,_,_,_,_,_,st17.sel [4] rfl [(0,1),(2,6),(3,7)] rfl ⟨iI,⟨iI,iT⟩⟩⟩ ?_
  rintro s18 z18 a18 w18 ⟨M18,q18_0,q18_1,q18_2,q18_3,q18_4,q18_5,q18_6,q18_7,q18_8,st18⟩ hs18 hx18
  have h19:xV s18=some z18:=hs18
  unfold xV at h19
  refine wp_seq ?_
  refine st18.sqA [4,11] [(0,1),(2,6),(3,7)] (λ _ _ st20=>?_)
  refine st20.cs rfl h19 (λ _ h21=>?_) (λ _ h22=>?_)
  ·
   refine wp_skip (za ?_)
   obtain⟨o23,p23,k23⟩:=bs h21
   refine zo (λ a w=>∃ M1 q23_0 q23_1 q23_2 q23_3 q23_4 q23_5 q23_6 q23_7 q23_8,Sx (Frm.chg w0 G) 27 M M1 [q23_0,q23_1,q23_2,q23_3,q23_4,q23_5,q23_6,q23_7,q23_8] [(4,dt s18.2.2)] [(0,1,dnm (Ow.box (Ow.frz (α:=Reader))) q23_1 ⟨o23.1⟩ (.pointer (some ⟨b0,0,none⟩)) []),(2,6,dow (Ow.box (owTree (Ow.row 94 (owFile (Ow.row 173 (Ow.frz (α:=Stmt))))))) q23_6 ⟨zTree⟩),(3,7,dow (Ow.box (owTree (Ow.row 94 (owFile (Ow.row 173 (Ow.frz (α:=Stmt))))))) q23_7 ⟨o23.2⟩)] a w) ?_ ?_
   ·
    refine wp_block (wp_seq (wp_region_list ?_))
    refine st20.segB 1 (sc rfl (oM rfl (zg rfl))<|.nil) [4,14] [(0,1),(2,6),(3,7)] (λ _ _ st24=>?_)
    obtain⟨v26,p26,h27⟩:=bs p23
    refine st24.cSO (l:=[]) 1 2 (st24.bkN (s:=0) rfl iI) rfl rfl kN226 (Eq.trans (st24.st.has 14 _ rfl) (st24.st.has 0 _ rfl).1.symm) (by simp) (by simp) (by decide) .nil (QP p26) [4] rfl [2,3] rfl rfl rfl rfl (by decide) (λ G25 H25 M25 _ _ st25=>?_)
    have st28:=st25.gs (Gs':=[q18_0,G25,H25,q18_3,q18_4,q18_5,q18_6,q18_7,q18_8]) rfl
    refine st28.alcW (ow:=(owFile (Ow.row 173 (Ow.frz (α:=Stmt))))) 8 rfl rfl kZ94 (owFile.z Ow.row_z) (by simp) [4] rfl [0,2,3,15] rfl rfl (λ b29 M29 _ _ st29=>?_)
    have st30:=st29.gs (Gs':=[q18_0,G25,H25,q18_3,q18_4,q18_5,q18_6,q18_7,(oneB (some b29))]) rfl
    refine st30.stO (sb:=5) (tv:=15) 8 2 (PV.root.box rfl) rfl rfl rfl kT94 (by simp) (by simp) (by decide) (zg rfl) rfl rfl rfl iI iI [4] rfl [0,2,3] rfl rfl rfl (λ G31 _ st31=>?_)
    have st32:=st31.gs (Gs':=[q18_0,G25,oneB none,q18_3,q18_4,q18_5,q18_6,q18_7,G31]) rfl
    refine wpList_nil (za ?_)
    obtain⟨v36,p36,h37⟩:=bs h27
    refine st32.nmB (s:=3) 7 rfl rfl iI [0,2,5] rfl (λ b33 st33=>?_)
    refine st33.hdW (s:=3) 7 true (λ _=>(PV.root.box rfl)) rfl rfl iI [0,2,5] rfl (λ cs34 hS34 st34=>?_)
    refine st34.hdW (s:=5) 8 true (λ _=>(PV.root.box rfl)) rfl rfl iI [0,2,3] rfl (λ cs35 hS35 st35=>?_)
    refine st35.sqB (sc rfl (xLw (sb:=3) (.head _) rfl (hS34 rfl) rfl kT30 (zg rfl) rfl)<|sc rfl (xLw (sb:=5) (.head _) rfl (hS35 rfl) rfl kT94 (zg rfl) rfl)<|sc rfl (xQ (l:=[.tmp 16,.tmp 17]) st35.ob.sub rfl kN139 (.cons (lendP (sb:=3) st35.ob 7 (PV.root.box rfl) (.head _) rfl (fits_all rfl (hS34 rfl)) (tp rfl) rfl iI) (.cons (lendP (sb:=5) st35.ob 8 (PV.root.box rfl) (.head _) rfl (fits_all rfl (hS35 rfl)) (tp rfl) rfl iI) .nil)) (spec_fileAt_w p36) yb)<|sc rfl (oCI rfl (tp rfl) cI)<|.nil) [4,19] [(0,1),(2,6),(3,7),(5,8)] (λ _ _ st38=>?_)
    have st39:=st38.ncf (s:=3) 7 rfl rfl iI [0,2,5] rfl
    have st40:=st39.ncf (s:=5) 8 rfl rfl iI [0,2,3] rfl
    refine st40.cs rfl h37 (λ _ h41=>?_) (λ _ h42=>?_)
    ·
     refine wp_region_list ?_
     refine st40.hdR (s:=3) 7 true (λ _=>((PV.root.box rfl).fld owTree.f0)) rfl rfl iI [0,2,5] rfl (λ g43 A43 _ hA43 st43=>?_)
     refine st43.segB 2 (sc rfl (xFa rfl qP (zg rfl))<|sc rfl (xLc (sb:=3) (.head _) rfl rfl rfl kT28 (tp rfl) rfl)<|.nil) [4,21] [(0,1),(2,6),(3,7),(5,8)] (λ _ _ st44=>?_)
     refine st44.ldW (sb:=5) 8 rfl rfl kT94 rfl (by simp) iI [4,21] rfl [0,2,3] rfl rfl (λ _ _ st45=>?_)
     refine st45.litW (oe:=(owFile (Ow.row 173 (Ow.frz (α:=Stmt))))) (opds:=[.tmp 22]) (xs:=[v26.2]) 4 [8] rfl rfl kI28 kY28 rfl rfl (by decide) rfl (by decide) (Wb (jl (st45.st.has 22 _ rfl)) (λ b hb=>⟨8,by simp,hb⟩)) (λ q hq=>by
 simp only[List.mem_cons,List.not_mem_nil,or_false] at hq
 subst hq
 exact Ow.len _ (jl (st45.st.has 22 _ rfl))) (by simp) [4,21] rfl [0,2,3] rfl rfl rfl (by decide) (λ G46 M46 _ _ st46=>?_)
     have st47:=st46.gs (Gs':=[q18_0,G25,oneB none,q18_3,G46,q18_5,q18_6,q18_7,oneB none]) rfl
     refine st47.mvG (s:=21) (sb:=3) 7 5 ((PV.root.box rfl).fld owTree.f0) (.head _) rfl (yo rfl rfl) rfl (by simp) (by simp) (by decide) rfl iI [4] rfl [0,2,23] rfl rfl rfl rfl (λ G49 H49 st49=>?_)
     have st50:=st49.gs (Gs':=[q18_0,G25,oneB none,q18_3,G46,H49,q18_6,G49,oneB none]) rfl
     obtain⟨v51,p51,h52⟩:=bs h41
     refine st50.appW 5 4 rfl rfl kE28 rfl rfl (by simp) (by simp) (by decide) iI iI p51 [4] rfl [0,2,3] rfl rfl rfl (λ G48 M48 _ _ st48=>?_)
     have st53:=st48.gs (Gs':=[q18_0,G25,oneB none,q18_3,oneB none,G48,q18_6,G49,oneB none]) rfl
     refine st53.segB 1 (sc rfl (xFa rfl qP (opd_hl rfl))<|.nil) [4,25] [(0,1),(2,6),(3,7),(24,5)] (λ _ _ st54=>?_)
     refine st54.stH (sb:=3) (tv:=24) 7 5 rfl rfl rfl kT28 (by simp) (by simp) (by decide) (tp rfl) rfl rfl iI iI [4] rfl [0,2] rfl rfl rfl (λ G55 _ st55=>?_)
     have st56:=st55.gs (Gs':=[q18_0,G25,oneB none,q18_3,oneB none,oneB none,q18_6,G55,oneB none]) rfl
     refine wpList_nil (zi ?_)
     have st57:=st56.unm (s:=3) 7 rfl rfl iI [0,2] rfl
     refine za ?_
     obtain rfl:=Option.some.inj h52
     exact⟨_,_,_,_,_,_,_,_,_,_,st57.sel [4] rfl [(0,1),(2,6),(3,7)] rfl ⟨iI,⟨iI,iT⟩⟩⟩
    refine wp_skip (zi ?_)
    have st58:=st40.unm (s:=3) 7 rfl rfl iI [0,2,5] rfl
    refine za ?_
    obtain rfl:=Option.some.inj h42
    exact⟨_,_,_,_,_,_,_,_,_,_,st58.sel [4] rfl [(0,1),(2,6),(3,7)] rfl ⟨iI,⟨iI,iT⟩⟩⟩
   rintro a23 w23 ⟨M23,q23_0,q23_1,q23_2,q23_3,q23_4,q23_5,q23_6,q23_7,q23_8,st23⟩
   have h59:=k23
   obtain⟨v60,p60,h61⟩:=bs h59
   refine st23.rgA [4] [(0,1),(2,6),(3,7)] (λ _ _ st62=>?_)
   refine za ?_
   exact⟨_,(Option.some.inj h61).symm,⟨_,_,_,_,_,_,_,_,_,_,st62.sel [4] rfl [(0,1),(2,6),(3,7)] rfl ⟨iI,⟨iI,iT⟩⟩⟩⟩
  refine wp_exit (zn (zn (zG ?_)))
  refine za ?_
  have h63:=lo h22 hx18
  obtain rfl:=Option.some.inj h63
  exact⟨_,_,_,_,_,_,_,_,_,_,st20.sel [] rfl [(0,1),(2,6),(3,7)] rfl ⟨iI,⟨iI,iT⟩⟩⟩
 rintro a9 w9 ⟨M9,q9_0,q9_1,q9_2,q9_3,q9_4,q9_5,q9_6,q9_7,q9_8,st9⟩
 have h64:=k9
 refine wp_seq (wp_region_list ?_)
 refine st9.nmB (s:=3) 7 rfl rfl iI [0,2] rfl (λ b66 st66=>?_)
 refine st66.ldW (sb:=3) 7 rfl rfl kT30 rfl (by simp) iI [] rfl [0,2] rfl rfl (λ _ _ st65=>?_)
 refine st65.nmB (s:=2) 6 rfl rfl iI [0,26] rfl (λ b68 st68=>?_)
 refine st68.stO (sb:=2) (tv:=26) 6 7 (PV.root.box rfl) rfl rfl rfl kT30 (by simp) (by simp) (by decide) (zg rfl) rfl rfl rfl iI iI [] rfl [0] rfl rfl rfl (λ G67 _ st67=>?_)
 have st69:=st67.gs (Gs':=[q9_0,q9_1,q9_2,q9_3,q9_4,q9_5,G67,oneB none,q9_8]) rfl
 refine wpList_nil (za (wp_ret ?_))
 exact st69.rsCO (s:=0) 1 6 rfl kT30 rfl rfl iI iI (by decide) (bxr h64)
open Go.RowKit
set_option maxRecDepth 10000
set_option maxHeartbeats 1600000
theorem kS203:slB Tryz.prog 203 1=true:=by kernel_rfl
theorem kY203:zlB Tryz.prog 203=true:=by kernel_rfl
theorem kN193:fnB Tryz.prog 193=true:=by kernel_rfl
theorem kN32:fnB Tryz.prog 32=true:=by kernel_rfl
def qC(x0:Reader):Option (Reader×(List Int)):=
(zD x0 (20:Int)).bind λ v4=>
if(cmpI .eql v4.2 (0:Int))=true then((zD v4.1 (3:Int)).bind λ v11=>
(atI ([([]:List Int),([(0:Int),(0:Int)]:List Int),([(3:Int)]:List Int)]:List (List Int)) v11.2).bind λ v13=>
some (v11.1,v13))
else((qb v4.1).bind λ v18=>
some (v18.1,v18.2))
theorem Q8{x0:Reader}{r:Reader×(List Int)}(h:qC x0=some r):FnS Tryz.prog 147 (Ow.box (Ow.frz (α:=Reader))) ⟨x0⟩ [] ⟨r.1⟩ (.frz (dt r.2)):=by
 unfold qC at h
 refine fnSB (fn:=Tryz.f147) 0 1 Tryz.func147 rfl (of_decide_eq_true rfl) rfl (λ M G _ b0 _ st0=>?_)
 refine st0.sqB (sc rfl (oA rfl (qG (α:=Int)))<|.nil) [] [(0,0)] (λ _ _ st1=>?_)
 refine wp_seq (wp_seq (wp_region_list ?_))
 refine st1.segB 1 (sc rfl (oM rfl (zg rfl))<|.nil) [3] [(0,0)] (λ _ _ st2=>?_)
 obtain⟨v4,p4,h5⟩:=bs h
 refine st2.cSF (l:=[.const (.int .i64 20)]) 0 (st2.bkN (s:=0) rfl iI) rfl rfl Zo (Eq.trans (st2.st.has 3 _ rfl) (st2.st.has 0 _ rfl).1.symm) (by simp) (.cons cI .nil) (zH p4) [] rfl [] rfl rfl (by decide) (λ G3 M3 _ _ st3=>?_)
 refine st3.segA 1 [5] [(0,0)] (λ _ _ st6=>?_)
 refine wpList_nil (za ?_)
 refine st6.cs rfl h5 (λ _ h7=>?_) (λ _ h8=>?_)
 ·
  refine wp_seq (wp_region_list ?_)
  refine st6.segB 5 (sc rfl (yc (opds:=[]) (α:=Int) rfl kS25 kY25 rfl rfl (by decide) .nil)<|sc rfl (yc (opds:=[.const (.int .i64 0),.const (.int .i64 0)]) rfl kS25 kY25 rfl rfl (by decide) (.cons cI (.cons cI .nil)))<|sc rfl (yc (opds:=[.const (.int .i64 3)]) rfl kS25 kY25 rfl rfl (by decide) (.cons cI .nil))<|sc rfl (yc (opds:=[.tmp 6,.tmp 7,.tmp 8]) rfl kS203 kY203 rfl rfl (by decide) (.cons (tp rfl) (.cons (tp rfl) (.cons (tp rfl) .nil))))<|sc rfl (oM rfl (zg rfl))<|.nil) [9,10] [(0,0)] (λ _ _ st9=>?_)
  obtain⟨v11,p11,h12⟩:=bs h7
  refine st9.cSF (l:=[.const (.int .i64 3)]) 0 (st9.bkN (s:=0) rfl iI) rfl rfl Zo (Eq.trans (st9.st.has 10 _ rfl) (st9.st.has 0 _ rfl).1.symm) (by simp) (.cons cI .nil) (zH p11) [9] rfl [] rfl rfl (by decide) (λ G10 M10 _ _ st10=>?_)
  obtain⟨v13,p13,h14⟩:=bs h12
  refine st10.segA 3 [2] [(0,0)] (λ _ _ st15=>?_)
  refine wpList_nil (za ?_)
  refine wp_ret (zd ?_)
  exact st15.rsD (s:=0) 0 rfl rfl rfl iI (bxr h14)
 refine wp_skip (za (wp_seq (wp_region_list ?_)))
 refine st6.segB 1 (sc rfl (oM rfl (zg rfl))<|.nil) [14] [(0,0)] (λ _ _ st16=>?_)
 obtain⟨v18,p18,h19⟩:=bs h8
 refine st16.cSF (l:=[]) 0 (st16.bkN (s:=0) rfl iI) rfl rfl kN193 (Eq.trans (st16.st.has 14 _ rfl) (st16.st.has 0 _ rfl).1.symm) (by simp) .nil (QO p18) [] rfl [] rfl rfl (by decide) (λ G17 M17 _ _ st17=>?_)
 refine st17.segA 1 [2] [(0,0)] (λ _ _ st20=>?_)
 refine wpList_nil (za (wp_ret ?_))
 exact st20.rsD (s:=0) 0 rfl rfl rfl iI (bxr h19)
def wg(x0:List Str)(x1:List Str)(s8:Int):Option (Int⊕(Unit⊕Bool)):=
if(cmpI .lss s8 (x0.length:Int))=true then((atI x0 s8).bind λ v13=>
(atI x1 s8).bind λ v14=>
if(decide (v13≠v14))=true then(some (.inr (.inr false)))
else((i64 (s8+(1:Int))).bind λ v23=>
some (.inl v23)))
else(some (.inr (.inl ())))
def y8(x0:List Str)(x1:List Str):Option Bool:=
if(cmpI .neq (x0.length:Int) (x1.length:Int))=true then(some false)
else(Option.bind (α:=Unit⊕Bool) (zX (λ s8=>wg x0 x1 s8) (0:Int)) (Sum.elim (λ _b6=>
some true) some))
theorem YX{x0:List Str}{x1:List Str}{r:Bool}(h:y8 x0 x1=some r):Fn Tryz.prog 24 [dt x0,dt x1] (dt r):=by
 unfold y8 at h
 refine fnx (fn:=Tryz.f24) 0 Tryz.func24 rfl (of_decide_eq_true rfl) rfl (λ M w0 _ st0=>?_)
 refine st0.sq1 [0,1] (λ _ _ st1=>?_)
 refine wp_seq ?_
 refine st1.sq1 [0,1,10] (λ _ _ st2=>?_)
 refine st2.cs rfl h (λ _ h3=>?_) (λ _ h4=>?_)
 ·
  refine st2.sq1 [4] (λ _ _ st5=>?_)
  refine wp_ret (zd ?_)
  exact st5.ret rfl rfl h3
 refine wp_skip (za ?_)
 obtain⟨o6,p6,k6⟩:=bs h4
 refine zo (λ a w=>∃ b6,o6=.inl b6/\Sx (Frm.of w0) 26 M M [] [] [] a w) ?_ ?_
 ·
  refine st2.sq1 [0,1,5] (λ _ _ st7=>?_)
  refine wp_block ?_
  refine zO p6 (λ s8 a w=>Sx (Frm.of w0) 26 M M [] [(0,dt x0),(1,dt x1),(5,dt s8)] [] a w) (st7.sel0 [0,1,5] rfl) ?_
  rintro s8 z8 a8 w8 st8 hs8 hx8
  have h9:wg x0 x1 s8=some z8:=hs8
  unfold wg at h9
  refine wp_seq ?_
  refine st8.sq1 [0,1,5,14] (λ _ _ st10=>?_)
  refine st10.cs rfl h9 (λ _ h11=>?_) (λ _ h12=>?_)
  ·
   refine wp_skip (za (wp_seq (wp_block (wp_seq ?_))))
   obtain⟨v13,p13,h15⟩:=bs h11
   obtain⟨v14,p14,h16⟩:=bs h15
   refine st10.dr (D:=[_,_,_,_,_,_,_,_,_]) zK [[],[],[0,1],[0,1,2],[],[],[4,5],[4,5,6],[0,1,2,3,4,5,6,7]] [[(0,none)],[(5,none)],[(17,some 0),(18,some 1)],[(19,some 2)],[(1,none)],[(5,none)],[(21,some 4),(22,some 5)],[(23,some 6)],[(20,some 3),(24,some 7)]] (by decide +kernel) (
    rc rfl rfl (oM rfl (tp rfl))<|rc rfl rfl (oM rfl (tp rfl))<|rc rfl rfl (xIdx rfl kS39 (tp rfl) (tp rfl) p13)<|rc rfl rfl (ze rfl kT9 (tp rfl))<|rc rfl rfl (oM rfl (tp rfl))<|rc rfl rfl (oM rfl (tp rfl))<|rc rfl rfl (xIdx rfl kS39 (tp rfl) (tp rfl) p14)<|rc rfl rfl (ze rfl kT9 (tp rfl))<|rc rfl rfl (Yb rfl (tp rfl) (tp rfl))<|.nil) [0,1,5,25] rfl [] rfl trivial (λ _ _ st17=>?_)
   refine za ?_
   refine st17.cs rfl h16 (λ _ h18=>?_) (λ _ h19=>?_)
   ·
    refine st17.sq1 [4] (λ _ _ st20=>?_)
    refine wp_ret (zr (zd (zd (zr (zd ?_)))))
    have h21:=lo h18 hx8
    have h22:=jo h21 k6
    exact st20.ret rfl rfl h22
   refine wp_skip (zi (za ?_))
   obtain⟨v23,p23,h24⟩:=bs h19
   refine st17.rg1 [0,1,5] (λ _ _ st25=>?_)
   refine za ?_
   exact⟨_,(Option.some.inj h24).symm,st25.sel0 [0,1,5] rfl⟩
  refine wp_exit (zn (zn (zG ?_)))
  refine za ?_
  have h26:=lo h12 hx8
  exact⟨_,(Option.some.inj h26).symm,st10.sel0 [] rfl⟩
 rintro a6 w6 ⟨b6,rfl,st6⟩
 have h27:=jn k6
 refine st6.sq1 [4] (λ _ _ st28=>?_)
 refine wp_ret ?_
 exact st28.ret rfl rfl h27
def xW(x0:List Str)(x1:Str)(s4:Int):Option (Int⊕(Unit⊕Int)):=
if(cmpI .lss s4 (x0.length:Int))=true then((atI x0 s4).bind λ v9=>
if(decide (v9=x1))=true then(some (.inr (.inr s4)))
else((i64 (s4+(1:Int))).bind λ v17=>
some (.inl v17)))
else(some (.inr (.inl ())))
def ZS(x0:List Str)(x1:Str):Option Int:=
Option.bind (α:=Unit⊕Int) (zX (λ s4=>xW x0 x1 s4) (0:Int)) (Sum.elim (λ _b2=>
some (-1:Int)) some)
theorem laws_textAt_w{x0:List Str}{x1:Str}{r:Int}(h:ZS x0 x1=some r):Fn Tryz.prog 89 [dt x0,dt x1] (dt r):=by
 unfold ZS at h
 refine fnx (fn:=Tryz.f89) 0 Tryz.func89 rfl (of_decide_eq_true rfl) rfl (λ M w0 _ st0=>?_)
 refine st0.sq1 [0,1] (λ _ _ st1=>?_)
 obtain⟨o2,p2,k2⟩:=bs h
 refine zo (λ a w=>∃ b2,o2=.inl b2/\Sx (Frm.of w0) 19 M M [] [] [] a w) ?_ ?_
 ·
  refine st1.sq1 [0,1,5] (λ _ _ st3=>?_)
  refine wp_block ?_
  refine zO p2 (λ s4 a w=>Sx (Frm.of w0) 19 M M [] [(0,dt x0),(1,dt x1),(5,dt s4)] [] a w) (st3.sel0 [0,1,5] rfl) ?_
  rintro s4 z4 a4 w4 st4 hs4 hx4
  have h5:xW x0 x1 s4=some z4:=hs4
  unfold xW at h5
  refine wp_seq ?_
  refine st4.sq1 [0,1,5,9] (λ _ _ st6=>?_)
  refine st6.cs rfl h5 (λ _ h7=>?_) (λ _ h8=>?_)
  ·
   refine wp_skip (za (wp_seq (wp_block ?_)))
   obtain⟨v9,p9,h10⟩:=bs h7
   refine st6.sq1 [0,1,5,17] (λ _ _ st11=>?_)
   refine st11.cs rfl h10 (λ _ h12=>?_) (λ _ h13=>?_)
   ·
    refine st11.sq1 [4] (λ _ _ st14=>?_)
    refine wp_ret (zr (zd (zd (zr (zd ?_)))))
    have h15:=lo h12 hx4
    have h16:=jo h15 k2
    exact st14.ret rfl rfl h16
   refine wp_skip (zi (za ?_))
   obtain⟨v17,p17,h18⟩:=bs h13
   refine st11.rg1 [0,1,5] (λ _ _ st19=>?_)
   refine za ?_
   exact⟨_,(Option.some.inj h18).symm,st19.sel0 [0,1,5] rfl⟩
  refine wp_exit (zn (zn (zG ?_)))
  refine za ?_
  have h20:=lo h8 hx4
  exact⟨_,(Option.some.inj h20).symm,st6.sel0 [] rfl⟩
 rintro a2 w2 ⟨b2,rfl,st2⟩
 have h21:=jn k2
 refine st2.sq1 [4] (λ _ _ st22=>?_)
 refine wp_ret ?_
 exact st22.ret rfl rfl h21
def xD(x0:List Str)(x1:Str):Option Bool:=
(ZS x0 x1).bind λ v2=>
some (cmpI .geq v2 (0:Int))
theorem Wh{x0:List Str}{x1:Str}{r:Bool}(h:xD x0 x1=some r):Fn Tryz.prog 32 [dt x0,dt x1] (dt r):=by
 unfold xD at h
 refine fnx (fn:=Tryz.f32) 0 Tryz.func32 rfl (of_decide_eq_true rfl) rfl (λ M _ _ st0=>?_)
 refine st0.sq1 [0,1] (λ _ _ st1=>?_)
 obtain⟨v2,p2,h3⟩:=bsW h laws_textAt_w
 refine st1.sq1 [4] (λ _ _ st4=>?_)
 refine wp_ret ?_
 exact st4.ret rfl rfl h3
def xd(x0:List Str)(x1:List Str)(s4:Int):Option (Int⊕(Unit⊕Bool)):=
if(cmpI .lss s4 (x0.length:Int))=true then((atI x0 s4).bind λ v9=>
(xD x1 v9).bind λ v10=>
if(!v10)=true then(some (.inr (.inr false)))
else((i64 (s4+(1:Int))).bind λ v19=>
some (.inl v19)))
else(some (.inr (.inl ())))
def yS(x0:List Str)(x1:List Str):Option Bool:=
Option.bind (α:=Unit⊕Bool) (zX (λ s4=>xd x0 x1 s4) (0:Int)) (Sum.elim (λ _b2=>
some true) some)
theorem Ja{x0:List Str}{x1:List Str}{r:Bool}(h:yS x0 x1=some r):Fn Tryz.prog 31 [dt x0,dt x1] (dt r):=by
 unfold yS at h
 refine fnx (fn:=Tryz.f31) 0 Tryz.func31 rfl (of_decide_eq_true rfl) rfl (λ M w0 _ st0=>?_)
 refine st0.sq1 [0,1] (λ _ _ st1=>?_)
 obtain⟨o2,p2,k2⟩:=bs h
 refine zo (λ a w=>∃ b2,o2=.inl b2/\Sx (Frm.of w0) 19 M M [] [] [] a w) ?_ ?_
 ·
  refine st1.sq1 [0,1,5] (λ _ _ st3=>?_)
  refine wp_block ?_
  refine zO p2 (λ s4 a w=>Sx (Frm.of w0) 19 M M [] [(0,dt x0),(1,dt x1),(5,dt s4)] [] a w) (st3.sel0 [0,1,5] rfl) ?_
  rintro s4 z4 a4 w4 st4 hs4 hx4
  have h5:xd x0 x1 s4=some z4:=hs4
  unfold xd at h5
  refine wp_seq ?_
  refine st4.sq1 [0,1,5,9] (λ _ _ st6=>?_)
  refine st6.cs rfl h5 (λ _ h7=>?_) (λ _ h8=>?_)
  ·
   refine wp_skip (za (wp_seq (wp_block ?_)))
   obtain⟨v9,p9,h11⟩:=bs h7
   obtain⟨v10,p10,h12⟩:=bsW h11 Wh
   refine st6.sq1 [0,1,5,18] (λ _ _ st13=>?_)
   refine st13.cs rfl h12 (λ _ h14=>?_) (λ _ h15=>?_)
   ·
    refine st13.sq1 [4] (λ _ _ st16=>?_)
    refine wp_ret (zr (zd (zd (zr (zd ?_)))))
    have h17:=lo h14 hx4
    have h18:=jo h17 k2
    exact st16.ret rfl rfl h18
   refine wp_skip (zi (za ?_))
   obtain⟨v19,p19,h20⟩:=bs h15
   refine st13.rg1 [0,1,5] (λ _ _ st21=>?_)
   refine za ?_
   exact⟨_,(Option.some.inj h20).symm,st21.sel0 [0,1,5] rfl⟩
  refine wp_exit (zn (zn (zG ?_)))
  refine za ?_
  have h22:=lo h8 hx4
  exact⟨_,(Option.some.inj h22).symm,st6.sel0 [] rfl⟩
 rintro a2 w2 ⟨b2,rfl,st2⟩
 have h23:=jn k2
 refine st2.sq1 [4] (λ _ _ st24=>?_)
 refine wp_ret ?_
 exact st24.ret rfl rfl h23
end Go.Proofs.YtiiiokblnnlapaaGreatDoor
